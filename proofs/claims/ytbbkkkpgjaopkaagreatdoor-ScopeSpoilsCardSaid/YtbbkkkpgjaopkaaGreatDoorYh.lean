/- Part of the proof of the last text; no conditions -/
import Derived.Test.YtbbkkkpgjaopkaaGreatDoorYg
import Derived.ChangeReads
import GoSem.ClaimJoined
set_option maxHeartbeats 8000000
set_option linter.all false
namespace Go.bs
open Go.RowKit (Below)
section
variable{C:aT}{J c0 dB:cU}{aa dn dR:Nat->Prop}{h R:M ak}{j au bj:Nat}{w w':World}{n ao:Nat}{ar:Array Oper}
variable{aZ:World}{bA:Nat}{bM:List Frame}{v:y}{aj:hl}
variable{fn:Nat}{bb:List hy}{aR:Bool}{ro:Option Nat}{cs:List gB}{I:M y}{tmps:Array Value}{bq:List Item}{an:List Frame}{bR aF:Nat}
def ak0{q:List dG}(id:Nat)(a:lK C J aa ao q bq)(bt:exitTo id q=none):Go.exitTo id bq=none:=by
 induction a with
 |nil=>rfl
 |cons H K aj=>
  cases H<;>simp only[exitTo]at bt
  case inBlock tx=>
   rw[hn]at bt
   split at bt
   ·simp at bt
   ·rename_i D
    have:(tx==id)=false:=by simpa using D
    simp[Go.exitTo,this,aj bt]
  all_goals simp[Go.exitTo,aj bt]
def Sx(aD:i1 C aZ bA bM fn ao bb aR ro cs h j J aa w bR an){b:Nat}{st ha:LoopState}{qH BC:Option Code}{gF aS kT:Nat}{cP:M y}{params:List Nat}{assign body:Code}{f7:Nat}
 (aI:C.aY<=b)(aH:aa b)(hC:Z C h b=some (.loop st qH gF aS kT cP params assign body f7))(ay:∀c,BC=some c->F2 c):
 ∃hw,w.heap[(J b).cA]? =some (.loop ⟨st,qH,gF,hw,params.toArray,assign,body,(J f7).cA⟩)/\Ox C gF kT/\(∀c,qH=some c->F2 c)/\
  i1 C aZ bA bM fn ao bb aR ro cs (bl C h b (some (.loop ha BC gF aS kT cP params assign body f7))) j J aa (w.putObj (J b).cA (.loop ⟨ha,BC,gF,hw,params.toArray,assign,body,(J f7).cA⟩)) bR an:=by
 obtain⟨hw,gO,kf,sz,Gk,Bs,sA,Bt⟩:=aD.V.obj b _ hC aH
 obtain⟨w',bS,ck,cM⟩:=putObj aD.V (c5:=bR) (o':= .loop ⟨ha,BC,gF,hw,params.toArray,assign,body,(J f7).cA⟩) (oj:= .loop ha BC gF aS kT cP params assign body f7) aI aH hC ⟨Zs,Zs⟩ gO Zs
  (λw' ss=>⟨hw,ss,kf,sz,Gk,Bs,ay,Bt⟩) ⟨λ_ _ _ a=>(by cases a),λ_ _ _ a=>(by cases a)⟩
 rw[run_setObj_loop _ gO]at bS
 simp only[Result.ok.injEq]at bS
 obtain⟨_,rfl⟩:=bS
 exact⟨hw,gO,Bt,sA,aD.ext ck cM (Zj _)⟩
def Wm(f9:nt C aZ bA bM aj){ab:y}{d5:Machine}(aD:i1 C aZ bA bM fn ao bb false ro cs h j J aa w bR an)(cE:cs≠[])(vM:b7 aa ab)
 (rh:∀g dH,an=g::dH->step C.P d5= .next (lone (g.finish (aO J ab)) dH w))(a:s2 aj false cs ab h j=some v):Ends C aZ bA bM v d5:=by
 cases cs with
 |nil=>exact absurd rfl cE
 |cons c rest=>
  obtain⟨gF,aS,kT,cP,vd,f7,mO,jm,lm⟩:=c
  obtain⟨rl,hw,hR,dH,rfl,bS,ck,cM,eL,eM,dS⟩:=aD.cs.inv
  refine .head (rh _ _ rfl) ?_
  cases mO with
  |run=>
   have co:S7 aj vd ⟨gF,aS,kT,f7,jm,lm,rest⟩ ab cP h j=some v:=a
   cases vd with
   |nil=>simp[S7]at co
   |cons ew q=>exact E9 f9 ⟨aD.V,aD.kL,aD.hM,ZB eM aD.jX,cM,eL,dS⟩ bS aD.jX vM co
  |returning=>simp[s2]at a
  |panicking fQ=>simp[s2]at a
def St(f9:nt C aZ bA bM aj){todo:List dG}{iF:Option Code}(bD:(iF=none/\bq=[])\/(iF=some .ret/\∃q,bq= .code .ret::q)\/(∃id q,iF=some (.exit id)/\bq= .code (.exit id)::q/\Go.exitTo id q=none))
 (aD:i1 C aZ bA bM fn ao bb aR ro cs h j J aa w bR an)(a8:jl J aa n ao I tmps)
 (a:oh iF aj C todo ⟨fn,n,ao,bb,aR,ro,cs⟩ I h j=some v):Ends C aZ bA bM v (lone (cj J fn bb aR ro tmps bq .run) an w):=by
 unfold oh at a
 cases ro with
 |some k=>
  simp only at a
  split at a
  ·rename_i st qH gF aS kT cP params assign body f7 hC
   simp only[eF,Zq,g5]at a
   obtain⟨⟨⟨C3,axV⟩,QV⟩,a⟩:=a
   have QV:aR=false:=by simpa using QV
   subst QV
   have aH:=aD.hL.ro k rfl
   have ao4:∀c,iF=some c->F2 c:=by
    intro c aA
    subst aA
    rcases bD with ⟨D,_⟩|⟨D,_⟩|⟨id,q,D,_⟩
    ·cases D
    ·cases D;exact .inl rfl
    ·cases D;exact .inr ⟨id,rfl⟩
   obtain⟨hw,gO,Bt,_,xA⟩:=Sx aD (ha:=bH iF.isNone .ready .done) (BC:=iF) (h4 C3) aH hC ao4
   have cE:cs≠[]:=λD=>by have:=(aD.bot D).2.2;cases this
   refine Wm (ab:= .bool iF.isNone) f9 xA cE trivial (λg dH D=> ?_) a
   subst D
   refine avm bD ?_
   have:=run_endRound (P:=C.P) iF gO
   rw[this]
   cases iF<;>rfl
  ·simp at a
 |none=>
  simp only[eF]at a
  have cI:Cm C aZ bA bM .returning todo fn n ao bb aR none cs I h j J aa w bR tmps bq an:=⟨aD.V,aD.kL,aD.hM,aD.jX,aD.hL,trivial,aD.bot,aD.cs,a8⟩
  have bP:=f9 _ _ _ _ _ _ _ _ _ _ _ _ v a.2 J aa w bR tmps bq an cI
  rcases bD with ⟨rfl,rfl⟩|⟨rfl,q,rfl⟩|⟨id,q,rfl,rfl,_⟩
  ·exact .head au8 bP
  ·exact .head avk bP
  ·simp[Sa]at a
def atP(cz:Env C aZ dB dR)(f9:nt C aZ bA bM aj){f:Operand}{params:Array Nat}{assign body:Code}{q:List dG}(aD:i1 C aZ bA bM fn ao bb aR ro cs h j J aa w bR an)(a8:jl J aa n ao I tmps)
 (dE:lO C ao (.rangeFunc f params assign body)=true)(aG:lK C J aa ao q bq)(a:JH f params assign body aj C q ⟨fn,n,ao,bb,aR,ro,cs⟩ I h j=some v):
 Ends C aZ bA bM v (lone (cj J fn bb aR ro tmps (.code (.rangeFunc f params assign body)::bq) .run) an w):=by
 simp only[lO,Zq]at dE
 obtain⟨bW,aaW,hC⟩:=dE
 unfold JH at a
 split at a
 ·rename_i g first fy PX aM Gb aj6 Hz Ta qY bt dJ
  cases dJ
  obtain⟨bB,cp⟩:=Xe aD.hM a8 bW bt
  have na:∀(b:Nat) (e4:World),(resolve (k1 tmps) {callee:= .value f,args:= #[.const (.func (.yield b) #[] #[])],argTypes:= #[]} 0).run C.P e4=
   .ok ⟨.fn (.func g) (bO J fy).toArray,(bO J first).toArray++ #[.func (.yield b) #[] #[]]⟩ e4:=by
   intro b e4
   have EZ:k1 tmps (.const (.func (.yield b) #[] #[]))= .func (.yield b) #[] #[]:=rfl
   simp[resolve,bB,aO,m4,Deferred.ofValue,EZ]
  have aaf:∀(b:Nat) (wM:cU) (my:Nat->Prop) (aX:M ak) (DY:Nat) (e4:World) (s8:List gB) (vL:List Frame) (c5:Nat) (cb:Nat),(∀x,aa x->wM x=J x)->(∀x,aa x->my x)->my cb->(wM cb).cA=b->
   c9 C wM my aX DY aZ.heap.size e4->Below aZ.heap.size aZ e4->rN C wM my->c5<=DY->oA C wM my aX bA bM c5 s8 vL->s8≠[]->n4 aj C g (first++[.func (.yield cb) [] []]++fy) false s8 aX DY=some v->
   ∃args,(invoke (.fn (.func g) (bO J fy).toArray) ((bO J first).toArray++ #[.func (.yield b) #[] #[]])).run C.P e4= .ok (.enter g args) e4/\Ends C aZ bA bM v (lone (Frame.enter C.P g args .normal) vL e4):=by
   intro b wM my aX DY e4 s8 vL c5 cb dz gf hg al sq n8 L0 ka hZ cE a
   have an8:ea my (first++[.func (.yield cb) [] []]++fy):=Ao (Ao (q2 gf _ cp.2.1) ⟨⟨hg,trivial,trivial⟩,trivial⟩) (q2 gf _ cp.2.2)
   refine⟨(bO wM (first++[.func (.yield cb) [] []]++fy)).toArray, ?_,Le f9 sq n8 L0 ka hZ (λD=>absurd D cE) an8 a⟩
   have Io:∃func c,C.P.funcs[g]? =some func/\func.body=some c:=by
    unfold n4 at a
    split at a
    ·rename_i func qt
     split at a
     ·rename_i c aA;exact⟨func,c,qt,aA⟩
     ·simp at a
    ·simp at a
   obtain⟨func,c,qt,aA⟩:=Io
   have aI:func.name≠ "runtime.NumGoroutine":=by simpa using cz.kg.num g func qt (by simp[aA])
   have vS:(bO wM (first++[.func (.yield cb) [] []]++fy)).toArray=((bO J first).toArray++ #[.func (.yield b) #[] #[]])++(bO J fy).toArray:=by
    rw[CB,CB,xd dz cp.2.1,xd dz cp.2.2]
    simp[bO,aO,m4,al]
   rw[vS]
   simp[invoke,callFunc,qt,aI,aA]
  cases ro with
  |none=>
   simp only[lT]at a
   have oa:=rq aD.V
   have sq:=aD.V.alloc (b:=j) (au:=j+1) (pl:=⟨w.heap.size,0,0⟩) (cK:= .deferred (some [])) (W:= .deferred (some [])) (R:=bl C h j (some (.deferred (some [])))) aD.V.aY (YL _) (Ya _) oa aD.eS rfl
    (by rw[fF _ aD.V.aY,Zu rfl]) (λx af=> .inl (by rw[fF _ aD.V.aY,Zg af])) ⟨by rw[World.alloc_heap_new];rfl,λk aB=>by cases aB;simp⟩ ⟨λ_ _ _ a=>(by cases a),λ_ _ _ a=>(by cases a)⟩
   have xX:is C j J aa h aZ.heap.size w (gb J j ⟨w.heap.size,0,0⟩) (add aa j) (bl C h j (some (.deferred (some [])))) (w.alloc (.deferred (some []))):=
    ⟨qK oa,λ_ a=> .inl a,λe a=>a.elim .inl (λa=> .inr Zo),λx _ cJ=>by rw[fF _ aD.V.aY,Zg Zo],Below.alloc (Below.refl _ _) aD.eS _⟩
   have lY:C.aY<=j+1:=Nat.le_succ_of_le aD.V.aY
   have aaR:=rq sq
   have XW:aZ.heap.size<=(w.alloc (.deferred (some []))).heap.size:=by rw[World.size_alloc];have:=aD.eS;omega
   have abz:(gb J j ⟨w.heap.size,0,0⟩ j)=⟨w.heap.size,0,0⟩:=lp ..
   have MA:=qK (J:=gb J j ⟨w.heap.size,0,0⟩) (pl:=⟨w.heap.size+1,0,0⟩) aaR
   have gn:=sq.alloc (b:=j+1) (au:=j+2) (pl:=⟨w.heap.size+1,0,0⟩) (cK:= .loop .ready none fn n ao I params.toList assign body j) (W:= .loop {state:= .ready,pending:=none,fn,tmps,params,assign,body,defers:=w.heap.size})
    (R:=bl C (bl C h j (some (.deferred (some [])))) (j+1) (some (.loop .ready none fn n ao I params.toList assign body j))) lY (YL _) (Ya _) aaR XW (by rw[World.size_alloc])
    (by rw[fF _ lY,Zu rfl]) (λx af=> .inl (by rw[fF _ lY,Zg af]))
    ⟨tmps,by
     rw[show(⟨w.heap.size+1,0,0⟩:mz).cA=(w.alloc (.deferred (some []))).heap.size by rw[World.size_alloc],World.alloc_heap_new,MA j (.inr rfl),abz],
     (a8.ad xX.iJ xX.jw).ad MA (λ_ a=> .inl a), .inl (.inr rfl),aaW,hC,λc aA=>(by cases aA),aD.hL.fn⟩
    ⟨λ_ _ _ a=>(by cases a),λ_ _ _ a=>(by cases a)⟩
   have RY:is C (j+1) (gb J j ⟨w.heap.size,0,0⟩) (add aa j) (bl C h j (some (.deferred (some [])))) aZ.heap.size (w.alloc (.deferred (some []))) (gb (gb J j ⟨w.heap.size,0,0⟩) (j+1) ⟨w.heap.size+1,0,0⟩) (add (add aa j) (j+1))
    (bl C (bl C h j (some (.deferred (some [])))) (j+1) (some (.loop .ready none fn n ao I params.toList assign body j))) ((w.alloc (.deferred (some []))).alloc (.loop {state:= .ready,pending:=none,fn,tmps,params,assign,body,defers:=w.heap.size})):=
    ⟨MA,λ_ a=> .inl a,λe a=>a.elim .inl (λa=> .inr Zo),λx _ cJ=>by rw[fF _ lY,Zg Zo],Below.alloc (Below.refl _ _) XW _⟩
   have af:=xX.trans (Ya j) RY
   have nD:=aD.ext gn (af.mono aD.jX) (ZB (Ya _) (Ya _))
   have an4:vm C (add (add aa j) (j+1)) fn ao (⟨.collected j,[]⟩::bb) none:=⟨λd aH=>by
    rcases Zr.1 aH with rfl|aH
    ·exact⟨.inl (.inr rfl),trivial⟩
    ·exact nD.hL.bb d aH,nD.hL.ro,nD.hL.fn⟩
   have IS:mA C (gb (gb J j ⟨w.heap.size,0,0⟩) (j+1) ⟨w.heap.size+1,0,0⟩) (add (add aa j) (j+1)) (bl C (bl C h j (some (.deferred (some [])))) (j+1) (some (.loop .ready none fn n ao I params.toList assign body j))) bR (j+2) n ao I tmps
    (.inRangeFunc (j+1)::q) (.inRangeFunc (w.heap.size+1)::bq):=by
    have:=mA.ei (bR:=bR) (aF:=j+2) (h:=bl C (bl C h j (some (.deferred (some [])))) (j+1) (some (.loop .ready none fn n ao I params.toList assign body j))) (aG.ad af.iJ af.jw) (a8.ad af.iJ af.jw) (k:=j+1) (.inr rfl)
    rw[lp]at this
    exact this
   have ka:bR<=j+2:=zE aD.jX
   obtain⟨args,g1,b5⟩:=aaf (w.heap.size+1) _ _ _ _ _ _ _ (j+2) (j+1) af.iJ af.jw (.inr rfl) (by rw[lp]) gn nD.kL nD.hM (Zj _)
    (.cons (bK:= .run) IS trivial an4 aD.bot ka nD.cs) Zs a
   refine .head (aea (run_enterLoop_outer fn tmps params assign body) (na _ _) g1) ?_
   have qu:({cj J fn bb aR none tmps (.inRangeFunc (w.heap.size+1)::bq) .run with defers:=[{target:= .collected w.heap.size,args:= #[]}]++bb.map (lM J)}:Frame)=
    cj (gb (gb J j ⟨w.heap.size,0,0⟩) (j+1) ⟨w.heap.size+1,0,0⟩) fn (⟨.collected j,[]⟩::bb) aR none tmps (.inRangeFunc (w.heap.size+1)::bq) .run:=by
    have D:bb.map (lM (gb (gb J j ⟨w.heap.size,0,0⟩) (j+1) ⟨w.heap.size+1,0,0⟩))=bb.map (lM J):=YH λd aH=>Pg af.iJ (aD.hL.bb d aH)
    have fj:lM (gb (gb J j ⟨w.heap.size,0,0⟩) (j+1) ⟨w.heap.size+1,0,0⟩) ⟨.collected j,[]⟩={target:= .collected w.heap.size,args:= #[]}:=by
     simp only[lM,Cw,bO]
     rw[MA j (.inr rfl),abz]
    simp only[cj,ZJ,D,fj,List.cons_append,YS,zc]
   rw[qu]
   exact b5
  |some k=>
   simp only[lT]at a
   split at a
   ·rename_i st qH gF aS kT cP ayI awI awK f7 aB
    have aH:=aD.hL.ro k rfl
    obtain⟨hw,gO,kf,sz,Gk,Bs,sA,Bt⟩:=aD.V.obj k _ aB aH
    have oa:=rq aD.V
    have R3:=qK (J:=J) (pl:=⟨w.heap.size,0,0⟩) oa
    have gn:=aD.V.alloc (b:=j) (au:=j+1) (pl:=⟨w.heap.size,0,0⟩) (cK:= .loop .ready none fn n ao I params.toList assign body f7) (W:= .loop {state:= .ready,pending:=none,fn,tmps,params,assign,body,defers:=(J f7).cA})
     (R:=bl C h j (some (.loop .ready none fn n ao I params.toList assign body f7))) aD.V.aY (YL _) (Ya _) oa aD.eS rfl
     (by rw[fF _ aD.V.aY,Zu rfl]) (λx af=> .inl (by rw[fF _ aD.V.aY,Zg af]))
     ⟨tmps,by rw[World.alloc_heap_new,R3 f7 sz],a8.ad R3 (λ_ a=> .inl a), .inl sz,aaW,hC,λc aA=>(by cases aA),aD.hL.fn⟩
     ⟨λ_ _ _ a=>(by cases a),λ_ _ _ a=>(by cases a)⟩
    have af:is C j J aa h aZ.heap.size w (gb J j ⟨w.heap.size,0,0⟩) (add aa j) (bl C h j (some (.loop .ready none fn n ao I params.toList assign body f7))) (w.alloc (.loop {state:= .ready,pending:=none,fn,tmps,params,assign,body,defers:=(J f7).cA})):=
     ⟨R3,λ_ a=> .inl a,λe a=>a.elim .inl (λa=> .inr Zo),λx _ cJ=>by rw[fF _ aD.V.aY,Zg Zo],Below.alloc (Below.refl _ _) aD.eS _⟩
    have nD:=aD.ext gn (af.mono aD.jX) (Ya _)
    have IS:mA C (gb J j ⟨w.heap.size,0,0⟩) (add aa j) (bl C h j (some (.loop .ready none fn n ao I params.toList assign body f7))) bR (j+1) n ao I tmps (.inRangeFunc j::q) (.inRangeFunc w.heap.size::bq):=by
     have:=mA.ei (bR:=bR) (aF:=j+1) (h:=bl C h j (some (.loop .ready none fn n ao I params.toList assign body f7))) (aG.ad af.iJ af.jw) (a8.ad af.iJ af.jw) (k:=j) (.inr rfl)
     rw[lp]at this
     exact this
    have ka:bR<=j+1:=zE aD.jX
    obtain⟨args,g1,b5⟩:=aaf w.heap.size _ _ _ _ _ _ _ (j+1) j af.iJ af.jw (.inr rfl) (by rw[lp]) gn nD.kL nD.hM (Zj _)
     (.cons (bK:= .run) IS trivial nD.hL aD.bot ka nD.cs) Zs a
    have anU:(Instr.enterLoop fn tmps params assign body ((some k).map λk=>(J k).cA)).run C.P w= .ok (w.heap.size,[]) (w.alloc (.loop {state:= .ready,pending:=none,fn,tmps,params,assign,body,defers:=(J f7).cA})):=by
     unfold Instr.enterLoop
     simp only[ZU,Sem.run_bind,run_getLoop gO,run_newObj_alloc,Result.andThen,Sem.run_pure]
    refine .head (aea anU (na _ _) g1) ?_
    have qu:({cj J fn bb aR (some k) tmps (.inRangeFunc w.heap.size::bq) .run with defers:=[]++bb.map (lM J)}:Frame)=cj J fn bb aR (some k) tmps (.inRangeFunc w.heap.size::bq) (gE J .run):=rfl
    rw[qu, <-Gf af.iJ aD.hL]
    exact b5
   ·simp at a
 ·simp at a
def WD(cz:Env C aZ dB dR)(f9:nt C aZ bA bM aj)(aD:i1 C aZ bA bM fn ao bb aR ro cs h j J aa w bR an)(a8:jl J aa n ao I tmps):∀(c:Code) (q:List dG) (bq:List Item),lO C ao c=true->lK C J aa ao q bq->
 ul c aj C q ⟨fn,n,ao,bb,aR,ro,cs⟩ I h j=some v->Ends C aZ bA bM v (lone (cj J fn bb aR ro tmps (.code c::bq) .run) an w):=by
 intro c
 have go:∀q bq,lK C J aa ao q bq->aj .run q ⟨fn,n,ao,bb,aR,ro,cs⟩ I h j=some v->Ends C aZ bA bM v (lone (cj J fn bb aR ro tmps bq .run) an w):=
  λq bq aG a=>f9 _ _ _ _ _ _ _ _ _ _ _ _ v a J aa w bR tmps bq an (aD.state (.plain aG a8))
 induction c with
 |skip=>intro q bq _ aG a;exact .head avp (go q bq aG a)
 |region id ar Ab=>intro q bq _ aG a;exact atX cz f9 aD aG a8 a
 |seq E b mL hs=>
  intro q bq dE aG a
  simp only[lO,Zq]at dE
  exact .head avo (mL (.code b::q) (.code b::bq) dE.1 (.cons (.code dE.2) aG) a)
 |cond c E b mL hs=>
  intro q bq dE aG a
  simp only[lO,Zq]at dE
  have co:Hx c I (ul E aj C q ⟨fn,n,ao,bb,aR,ro,cs⟩ I h j) (ul b aj C q ⟨fn,n,ao,bb,aR,ro,cs⟩ I h j)=some v:=a
  simp only[Hx,om]at co
  split at co
  ·rename_i ab a6
   obtain⟨bB,_⟩:=Xe aD.hM a8 dE.1 a6
   cases ab with
   |bool t=>
    refine .head (au6 (t:=t) (by rw[bB];rfl)) ?_
    cases t with
    |true=>exact mL q bq dE.2.1 aG co
    |false=>exact hs q bq dE.2.2 aG co
   |_=>simp at co
  ·simp at co
 |block id b hs=>intro q bq dE aG a;exact .head au5 (hs (.inBlock id::q) (.inBlock id::bq) dE (.cons .inBlock aG) a)
 |loop b hs=>intro q bq dE aG a;exact .head avf (hs (.inLoop b::q) (.inLoop b::bq) dE (.cons (.inLoop dE) aG) a)
 |rangeFunc f params assign body _ _=>intro q bq dE aG a;exact atP cz f9 aD a8 dE aG a
 |exit id=>
  intro q bq _ aG a
  have co:Af id aj C q ⟨fn,n,ao,bb,aR,ro,cs⟩ I h j=some v:=a
  unfold Af at co
  split at co
  ·rename_i ey bt
   obtain⟨hR,g1,b5⟩:=ak1 id aG bt
   exact .head (ava g1) (go ey hR b5 co)
  ·rename_i bt
   exact St f9 (.inr (.inr ⟨id,bq,rfl,rfl,ak0 id aG bt⟩)) aD a8 co
 |scope b hs=>intro q bq dE aG a;exact .head avn (hs (.inScope b::q) (.inScope b::bq) dE (.cons (.inScope dE) aG) a)
 |label k=>intro q bq _ aG a;exact .head ave (go q bq aG a)
 |goto k=>intro q bq _ _ a;exact absurd a (by simp[ul,DX])
 |ret=>intro q bq _ aG a;exact St f9 (.inr (.inl ⟨rfl,bq,rfl⟩)) aD a8 a
 |refuse s=>intro q bq _ _ a;exact absurd a (by simp[ul,DX])
def at5(aD:c9 C J aa h j bj w)(a8:jl J aa n ao I tmps){bX:ResultVar->Sem Value}(h5:∀t,bX (.tmp t)=pure (tmps.getD t Go.undef))(dt:∀E t,bX (.cell E t)=do loadVar t (<-asAddr (tmps.getD E Go.undef))):
 ∀(k:List ResultVar) (bx:List y),yk ao k=true->ww C h I k=some bx->(k.mapM bX).run C.P w= .ok (bO J bx) w/\ea aa bx:=by
 intro k
 induction k with
 |nil=>intro bx _ a;simp[ww]at a;subst a;exact⟨by simp[bO],trivial⟩
 |cons x k aj=>
  intro bx dE a
  cases x with
  |tmp t=>
   simp only[yk,Zq]at dE
   simp only[ww]at a
   split at a
   ·rename_i ab r a6 V
    simp at a;subst a
    obtain⟨H,K⟩:=a8.val t ab dE.1 a6
    obtain⟨am,aC⟩:=aj r dE.2 V
    refine⟨?_,K,aC⟩
    simp[zh,h5,H,am,bO]
   ·simp at a
  |cell E t=>
   simp only[yk,Zq]at dE
   simp only[ww]at a
   split at a
   ·rename_i p ay
    split at a
    ·rename_i ab r a6 V
     simp at a;subst a
     obtain⟨H,K⟩:=a8.val E p dE.1 ay
     obtain⟨am,aC⟩:=aj r dE.2 V
     obtain⟨bm,b1⟩:=V3 aD K a6
     refine⟨?_,b1,aC⟩
     cases p with
     |ptr b W=>
      simp only[Instr.loadAt,Instr.sureAddr,aO,Sem.run_bind,Sem.run_pure,Result.andThen_ok]at bm
      simp[zh,dt,H,aO,asAddr,bm,am,bO]
     |_=>simp[pB,dT,aV]at a6;split at a6<;>simp at a6
    ·simp at a
   ·simp at a
def asX(bx:List y):(if a:(bO J bx).toArray.size=1 then(bO J bx).toArray[0]else Value.tuple (bO J bx).toArray)=aO J (one bx):=by
 match bx with
 |[]=>simp[one,bO,aO]
 |[E]=>simp[one,bO]
 |E::b::r=>simp[one,bO,aO]
def asW{bx:List y}(a:ea aa bx):b7 aa (one bx):=by
 match bx,a with
 |[],a=>exact a
 |[E],a=>exact a.1
 |E::b::r,a=>exact a
def i1.defs(aD:i1 C aZ bA bM fn ao bb aR ro cs h j J aa w bR an){f7:List hy}(a:∀d∈f7,vK aa d):i1 C aZ bA bM fn ao f7 aR ro cs h j J aa w bR an:=
 ⟨aD.V,aD.kL,aD.hM,aD.jX,⟨a,aD.hL.ro,aD.hL.fn⟩,aD.bot,aD.cs⟩
def i1.TL{todo:List dG}{bK:k4}(IC:bK≠ .run)(bw:qk aa bK)(aD:i1 C aZ bA bM fn ao bb aR ro cs h j J aa w bR an)(a8:jl J aa n ao I tmps):
 Cm C aZ bA bM bK todo fn n ao bb aR ro cs I h j J aa w bR tmps bq an:=by
 cases bK with
 |run=>exact absurd rfl IC
 |returning=>exact⟨aD.V,aD.kL,aD.hM,aD.jX,aD.hL,bw,aD.bot,aD.cs,a8⟩
 |panicking fQ=>exact⟨aD.V,aD.kL,aD.hM,aD.jX,aD.hL,bw,aD.bot,aD.cs,a8⟩
def WR(cz:Env C aZ dB dR)(f9:nt C aZ bA bM aj){d:hy}{ds:List hy}{bK:k4}{todo:List dG}(IC:bK≠ .run)(bw:qk aa bK)(aD:i1 C aZ bA bM fn ao (d::ds) aR ro cs h j J aa w bR an)(a8:jl J aa n ao I tmps)
 (a:wB d ds bK todo aj C ⟨fn,n,ao,[],aR,ro,cs⟩ I h j=some v):Ends C aZ bA bM v (lone (cj J fn (d::ds) aR ro tmps bq (gE J bK)) an w):=by
 have L2:vK aa d:=aD.hL.bb d (Zt ..)
 have aas:∀d∈ds,vK aa d:=λlx aH=>aD.hL.bb lx (Zn _ aH)
 have QU:gE J bK≠ .run:=by cases bK<;>simp[gE]at IC ⊢
 unfold wB at a
 split at a
 rename_i PX aM Gb aj6 Hz Ta qY dJ
 cases dJ
 split at a
 ·rename_i r ca
  split at a
  ·rename_i pC hC
   simp only[eF,g5]at a
   obtain⟨C3,a⟩:=a
   have aH:aa r:=L2.1
   obtain⟨gO,kf⟩:=aD.V.obj r _ hC aH
   simp only[ZU]at gO
   obtain⟨w',bS,ck,cM⟩:=putObj aD.V (c5:=bR) (o':= .deferred none) (oj:= .deferred none) (h4 C3) aH hC ⟨Zs,Zs⟩ gO Zs
    (λw' ss=>⟨by simpa using ss,λk aB=>by cases aB⟩) ⟨λ_ _ _ a=>(by cases a),λ_ _ _ a=>(by cases a)⟩
   have Mu:(Instr.takeDeferred (J r).cA).run C.P w= .ok (pC.map (lM J)) w':=by
    have D:w'=w.putObj (J r).cA (.deferred none):=by
     have:(Go.setObj (J r).cA (.deferred none)).run C.P w= .ok () (w.putObj (J r).cA (.deferred none)):=by simp[Go.setObj,Sem.run,gO,World.putObj]
     rw[this]at bS
     simp only[Result.ok.injEq]at bS
     exact bS.2.symm
    rw[D]
    exact run_takeDeferred gO
   refine .head (avq (dn:=pC++ds) QU Mu (by rw[Yu])) ?_
   have anF:∀d∈pC++ds,vK aa d:=λlx sg=>by
    rcases Zw.1 sg with ai|ai
    ·exact kf pC rfl lx ai
    ·exact aas lx ai
   have xA:=(aD.defs anF).ext ck cM (Zj _)
   exact f9 _ _ _ _ _ _ _ _ _ _ _ _ v a J aa w' bR tmps bq an (xA.TL IC bw a8)
  ·simp at a
 ·rename_i f fy args
  split at a
  ·rename_i g ca Re
   have ld:=abK (J:=J) (h:=h) (j:=j) (bj:=aZ.heap.size) (w:=w) cz.kg L2.1.1 L2.1.2 L2.2 Re
   obtain⟨H,K⟩:=ld
   have rh:=step_defer (P:=C.P) (fr:=cj J fn (⟨.fn f fy,args⟩::ds) aR ro tmps bq (gE J bK)) (cs:=an) (w:=w) (d:=lM J ⟨.fn f fy,args⟩) (ds:=ds.map (lM J)) QU rfl rfl H
   refine .head rh ?_
   have aE:yR C J aa h bR j n ao I tmps bK todo bq:=by
    cases bK with
    |run=>exact absurd rfl IC
    |_=>exact a8
   exact W7 (CC:=true) f9 aD.V aD.kL aD.hM (Zj _) (.cons (bK:=bK) aE bw ((aD.defs aas).hL) aD.bot aD.jX aD.cs) (λD=>by cases D) K a
  ·simp at a
def akf(J:cU):∀(k:List rG),(k.map (s7 J)).dropWhile (!·.goexit)=[]:=by
 intro k
 induction k with
 |nil=>rfl
 |cons E k aj=>simp[s7,aj]
def auG(J:cU)(fQ:List rG):settle (gE J (.panicking fQ))=gE J (wG fQ):=by
 cases fQ with
 |nil=>rfl
 |cons p k=>
  obtain⟨v,r⟩:=p
  cases r with
  |false=>simp[gE,settle,wG,s7]
  |true=>simp[gE,settle,wG,s7,akf]
def avX{fQ:List rG}(a:qk aa (.panicking fQ)):qk aa (wG fQ):=by
 unfold wG
 split
 ·trivial
 ·exact a
def avY(fQ:List rG):wG fQ≠ .run:=by
 unfold wG
 split<;>simp
def at8(cz:Env C aZ dB dR)(f9:nt C aZ bA bM aj){todo:List dG}(aD:i1 C aZ bA bM fn ao bb aR ro cs h j J aa w bR an)(a8:jl J aa n ao I tmps)
 (a:JV todo aj C ⟨fn,n,ao,bb,aR,ro,cs⟩ I h j=some v):Ends C aZ bA bM v (lone (cj J fn bb aR ro tmps bq .returning) an w):=by
 unfold JV at a
 cases bb with
 |cons d ds=>exact WR (bK:= .returning) cz f9 Zs trivial aD a8 a
 |nil=>
  simp only at a
  split at a
  ·rename_i f bW
   obtain⟨Xg,qt,na⟩:=aD.hL.fn
   rw[bW]at qt;cases qt
   split at a
   ·rename_i bx I0
    have mJ:(results f tmps).run C.P w= .ok (aO J (one bx)) w/\ea aa bx:=by
     unfold results
     rw[Sem.run_bind,Array.mapM_eq_mapM_toList,Sem.run_map]
     obtain⟨eA,eU⟩:=at5 aD.V a8 (bX:=λx=>match x with| .tmp t=>pure (tmps.getD t Go.undef)| .cell E t=>do loadVar t (<-asAddr (tmps.getD E Go.undef))) (λ_=>rfl) (λ_ _=>rfl) _ _ na I0
     refine⟨?_,eU⟩
     refine(congrArg (λr=>Result.andThen (Result.andThen r _) _) eA).trans ?_
     simp only[Result.andThen_ok,Sem.run_pure]
     rw[<-asX]
    obtain⟨mJ,amv⟩:=mJ
    cases aR with
    |false=>
     have L8:(cj J fn [] false ro tmps bq .returning).leaving C.P w (.returned (aO J (one bx))):=⟨rfl,rfl,rfl,f,bW,mJ⟩
     cases cs with
     |nil=>
      simp only[s2,kp,Zc]at a
      subst a
      obtain⟨b4,cr,cS⟩:=aD.bot rfl
      have hZ:=aD.cs
      cases hZ with
      |nil=>exact⟨J,w,_, .refl _ _,L8,b4,aD.kL⟩
     |cons c rest=>
      refine Wm f9 aD Zs (asW amv) (λg dH D=> ?_) a
      subst D
      exact step_leave_returned L8
    |true=>
     cases cs with
     |nil=>have:=(aD.bot rfl).2.1;cases this
     |cons c rest=>
      obtain⟨gF,aS,kT,cP,vd,f7,mO,jm,lm⟩:=c
      obtain⟨rl,hw,hR,dH,rfl,bS,ck,cM,eL,eM,dS⟩:=aD.cs.inv
      have rh:=step_going_returned (P:=C.P) (fr:=cj J fn [] true ro tmps bq .returning) (c:=cj J gF f7 jm lm hw hR (gE J mO)) (cs:=dH) (w:=w) (v:=aO J (one bx)) rfl ⟨rfl,rfl,f,bW,mJ⟩
      refine .head rh ?_
      cases mO with
      |run=>simp[s2]at a
      |returning=>
       have co:aj .returning vd ⟨gF,aS,kT,f7,jm,lm,rest⟩ cP h j=some v:=a
       exact f9 _ _ _ _ _ _ _ _ _ _ _ _ v co J aa w rl hw hR dH ⟨aD.V,aD.kL,aD.hM,ZB eM aD.jX,cM,trivial,eL,dS,bS⟩
      |panicking fQ=>
       have co:aj (wG fQ) vd ⟨gF,aS,kT,f7,jm,lm,rest⟩ cP h j=some v:=a
       have D:({cj J gF f7 jm lm hw hR (gE J (.panicking fQ))with mode:=settle (cj J gF f7 jm lm hw hR (gE J (.panicking fQ))).mode}:Frame)=cj J gF f7 jm lm hw hR (gE J (wG fQ)):=by
        rw[show(cj J gF f7 jm lm hw hR (gE J (.panicking fQ))).mode=gE J (.panicking fQ) from rfl,auG]
        rfl
       rw[D]
       have al:i1 C aZ bA bM gF kT f7 jm lm rest h j J aa w rl dH:=⟨aD.V,aD.kL,aD.hM,ZB eM aD.jX,cM,eL,dS⟩
       exact f9 _ _ _ _ _ _ _ _ _ _ _ _ v co J aa w rl hw hR dH (al.TL (avY fQ) (avX ck) bS)
   ·simp at a
  ·simp at a
def atM(J:cU)(fQ:List rG)(bK:k4):raised (gE J bK) (fQ.map (s7 J))=gE J (D7 fQ bK):=by
 cases bK<;>simp[gE,raised,D7]
def atE{fQ:List rG}{bK:k4}(a:qk aa (.panicking fQ))(co:qk aa bK):qk aa (D7 fQ bK):=by
 cases bK with
 |panicking pX=>
  intro p ay
  rcases Zw.1 ay with ai|ai
  ·exact a p ai
  ·exact co p ai
 |_=>exact a
def atc(cz:Env C aZ dB dR)(f9:nt C aZ bA bM aj){todo:List dG}{fQ:List rG}(bw:qk aa (.panicking fQ))(aD:i1 C aZ bA bM fn ao bb aR ro cs h j J aa w bR an)(a8:jl J aa n ao I tmps)
 (a:JU fQ todo aj C ⟨fn,n,ao,bb,aR,ro,cs⟩ I h j=some v):Ends C aZ bA bM v (lone (cj J fn bb aR ro tmps bq (gE J (.panicking fQ))) an w):=by
 unfold JU at a
 cases bb with
 |cons d ds=>exact WR (bK:= .panicking fQ) cz f9 Zs bw aD a8 a
 |nil=>
  simp only at a
  cases cs with
  |nil=>simp at a
  |cons c rest=>
   obtain⟨gF,aS,kT,cP,vd,f7,mO,jm,lm⟩:=c
   obtain⟨rl,hw,hR,dH,rfl,bS,ck,cM,eL,eM,dS⟩:=aD.cs.inv
   obtain⟨f,bW,_⟩:=aD.hL.fn
   have rh:=step_going_panicked (P:=C.P) (fr:=cj J fn [] aR ro tmps bq (gE J (.panicking fQ))) (c:=cj J gF f7 jm lm hw hR (gE J mO)) (cs:=dH) (w:=w) (chain:=fQ.map (s7 J)) ⟨rfl,rfl,f,bW⟩
   refine .head rh ?_
   have D:({cj J gF f7 jm lm hw hR (gE J mO)with mode:=raised (cj J gF f7 jm lm hw hR (gE J mO)).mode (fQ.map (s7 J))}:Frame)=cj J gF f7 jm lm hw hR (gE J (D7 fQ mO)):=by
    rw[show(cj J gF f7 jm lm hw hR (gE J mO)).mode=gE J mO from rfl,atM]
    rfl
   rw[D]
   have co:aj (D7 fQ mO) vd ⟨gF,aS,kT,f7,jm,lm,rest⟩ (un vd cP) h j=some v:=a
   have al:i1 C aZ bA bM gF kT f7 jm lm rest h j J aa w rl dH:=⟨aD.V,aD.kL,aD.hM,ZB eM aD.jX,cM,eL,dS⟩
   exact f9 _ _ _ _ _ _ _ _ _ _ _ _ v co J aa w rl hw hR dH (al.TL (by cases mO<;>simp[D7]) (atE bw ck) bS.drop)
def aed(cz:Env C aZ dB dR)(pU:nt C aZ bA bM aj):nt C aZ bA bM λbK todo bX I h j=>Tw aj C bK todo bX I h j:=by
 intro bK todo fn n ao bb aR ro cs I h j v co J aa w c5 tmps bq an cI
 cases bK with
 |run=>
  obtain⟨aD,a8⟩:=cI.ai0
  have K:aee todo aj C ⟨fn,n,ao,bb,aR,ro,cs⟩ I h j=some v:=co
  cases a8 with
  |plain aG FR=>
   cases aG with
   |nil=>
    have am:oh none aj C [] ⟨fn,n,ao,bb,aR,ro,cs⟩ I h j=some v:=K
    exact St pU (.inl ⟨rfl,rfl⟩) aD FR am
   |cons aF aG=>
    rename_i E x q bq
    have am:abM E aj C q ⟨fn,n,ao,bb,aR,ro,cs⟩ I h j=some v:=K
    have go:∀q bq,lK C J aa ao q bq->aj .run q ⟨fn,n,ao,bb,aR,ro,cs⟩ I h j=some v->Ends C aZ bA bM v (lone (cj J fn bb aR ro tmps bq .run) an w):=
     λq bq aG a=>pU _ _ _ _ _ _ _ _ _ _ _ _ v a J aa w c5 tmps bq an (aD.state (.plain aG FR))
    cases aF with
    |code dE=>exact WD cz pU aD FR _ q bq dE aG am
    |inBlock=>exact .head avb (go q bq aG am)
    |inLoop dE=>exact .head avc (WD cz pU aD FR _ _ _ dE (.cons (.inLoop dE) aG) am)
    |inScope dE=>exact .head avd (go q bq aG am)
    |CI aH=>
     rename_i k
     have aC:E0 k aj C q ⟨fn,n,ao,bb,aR,ro,cs⟩ I h j=some v:=am
     unfold E0 at aC
     split at aC
     ·rename_i st qH gF aS kT cP params assign body f7 hC
      have Qh:st≠ .busy->bH (j5 C k) (jo (bl C h k (some (.loop .exhausted qH gF aS kT cP params assign body f7))) λh=>aj .run ((qH.map dG.code).toList++q) ⟨fn,n,ao,bb,aR,ro,cs⟩ I h j) none=some v->
       Ends C aZ bA bM v (lone (cj J fn bb aR ro tmps (.endRangeFunc (J k).cA::bq) .run) an w):=by
       intro apJ bm
       simp only[eF,g5]at bm
       obtain⟨C3,bm⟩:=bm
       have RD:∀c,qH=some c->F2 c:=by
        obtain⟨_,_,_,_,_,_,sA,_⟩:=aD.V.obj k _ hC aH
        exact sA
       obtain⟨hw,gO,Bt,sA,xA⟩:=Sx aD (ha:= .exhausted) (BC:=qH) (h4 C3) aH hC RD
       refine .head (au9 (run_endLoop gO apJ)) ?_
       refine pU _ _ _ _ _ _ _ _ _ _ _ _ v bm J aa _ c5 tmps _ an (xA.state (.plain ?_ FR))
       cases qH with
       |none=>exact aG
       |some c=>
        have aA:lO C ao c=true:=by
         rcases sA c rfl with rfl|⟨id,rfl⟩<;>rfl
        exact .cons (.code aA) aG
      cases st with
      |busy=>simp at aC
      |ready=>exact Qh Zs aC
      |done=>exact Qh Zs aC
      |exhausted=>exact Qh Zs aC
     ·simp at aC
    |begin=>
     have aC:Ho aj C q ⟨fn,n,ao,bb,aR,ro,cs⟩ I h j=some v:=am
     unfold Ho at aC
     cases ro with
     |none=>simp at aC
     |some k=>
      simp only at aC
      split at aC
      ·rename_i qH gF aS kT cP params assign body f7 hC
       simp only[eF,g5]at aC
       obtain⟨C3,aC⟩:=aC
       have aH:=aD.hL.ro k rfl
       have RD:∀c,qH=some c->F2 c:=by
        obtain⟨_,_,_,_,_,_,sA,_⟩:=aD.V.obj k _ hC aH
        exact sA
       obtain⟨hw,gO,Bt,sA,xA⟩:=Sx aD (ha:= .busy) (BC:=qH) (h4 C3) aH hC RD
       refine .head (au4 (run_beginRound gO rfl)) ?_
       exact pU _ _ _ _ _ _ _ _ _ _ _ _ v aC J aa _ c5 tmps bq an (xA.state (.plain aG FR))
      ·simp at aC
  |seq aG aE=>exact ad1 cz pU _ _ _ _ _ _ _ _ _ _ aD aG aE K
  |drawn aG bm b1 df ev=>exact WX cz pU aD aG bm b1 df.dh df ev K
 |returning=>
  have aD:i1 C aZ bA bM fn ao bb aR ro cs h j J aa w c5 an:=⟨cI.V,cI.kL,cI.hM,cI.jX,cI.hL,cI.bot,cI.cs⟩
  exact at8 (todo:=todo) cz pU aD cI.todo co
 |panicking fQ=>
  have aD:i1 C aZ bA bM fn ao bb aR ro cs h j J aa w c5 an:=⟨cI.V,cI.kL,cI.hM,cI.jX,cI.hL,cI.bot,cI.cs⟩
  exact atc (todo:=todo) cz pU cI.mode aD cI.todo co
def auq(cz:Env C aZ dB dR):∀n,nt C aZ bA bM (run C n):=by
 intro n
 induction n with
 |zero=>intro bK todo fn n ao bb aR ro cs I h j v a;simp[run]at a
 |succ m pU=>exact aed cz pU
def aun(cz:Env C aZ dB dR){m f:Nat}{args:List y}(iQ:ea dR args)(a:ym C m f args=some v):
 Calls C.P f (bO dB args).toArray aZ λD w'=>(∃J,D= .returned (aO J v))/\Below aZ.heap.size aZ w':=by
 intro qY
 have bP:Ends C aZ f qY v (lone (Frame.enter C.P f (bO dB args).toArray .normal) qY aZ):=
  Le (auq cz m) cz.base (Below.refl _ _) cz.hM (Zj _) .nil (λ_=>rfl) iQ a
 obtain⟨J,w',fr,H,K,am,aC⟩:=bP
 exact⟨.returned (aO J v),w',fr,⟨⟨J,rfl⟩,aC⟩,H,am,K⟩
end
noncomputable section
open Go.RowKit (Below)
abbrev vn:=Option (List y×Nat×List (Nat×ak))
def DI(P:Program)(next:Nat->DataW Unit->Nat->vn):List Field->List (DataW Unit)->Nat->Nat->vn
 |[],[],_,n=>some ([],n,[])
 |f::j6,d::ds,off,n=>bH (Nat.beq f.offset off) (match next f.type d n with
  |some (k,aM,os)=>bH (Nat.beq k.length (P.cellsOf f.type)) (match DI P next j6 ds (off+k.length) aM with
   |some (cD,be,sF)=>some (k++cD,be,os++sF)
   |none=>none) none
  |none=>none) none
 |_,_,_,_=>none
def F5(P:Program)(next:Nat->DataW Unit->Nat->vn)(D:Nat):List (DataW Unit)->Nat->vn
 |[],n=>some ([],n,[])
 |d::ds,n=>match next D d n with
  |some (k,aM,os)=>bH (Nat.beq k.length (P.cellsOf D)) (match F5 P next D ds aM with
   |some (cD,be,sF)=>some (k++cD,be,os++sF)
   |none=>none) none
  |none=>none
def Jc:Lit->Option y
 | .bool b=>some (.bool b)
 | .int q n=>some (.int q n)
 | .string s=>some (.str (s.map (·.toNat)))
 |_=>none
def Sq(P:Program)(D:Nat)(k:List y):Option y:=match P.underlying D with
 |some (.struct _)=>some (.agg k)
 |some (.array _ _)=>some (.agg k)
 |some _=>(match k with|[v]=>some v|_=>none)
 |none=>none
def Nu(P:Program)(q:Nat):Bool:=match P.underlying q with|some .bool=>true|some (.int _)=>true|some .string=>true|_=>false
def Jh(P:Program)(next:Nat->DataW Unit->Nat->vn)(D:Nat):List (Lit×DataW Unit)->Nat->Option (List (y×y)×Nat×List (Nat×ak))
 |[],n=>some ([],n,[])
 |(key,d)::ci,n=>match Jc key,next D d n with
  |some rj,some (k,aM,os)=>(match Sq P D k,Jh P next D ci aM with
   |some v,some (r,be,sF)=>some ((rj,v)::r,be,os++sF)
   |_,_=>none)
  |_,_=>none
def Gv(k:List y):ak:= .cells (M.ofList k 0 .nil) k.length .own
def we(P:Program):Nat->Nat->DataW Unit->Nat->vn
 |0,_,_,_=>none
 |m+1,t,d,n=>match P.underlying t,d with
  |some .bool, .lit (.bool b)=>some ([.bool b],n,[])
  |some (.int _), .lit (.int q i)=>some ([.int q i],n,[])
  |some .string, .lit (.string s)=>some ([.str (s.map (·.toNat))],n,[])
  |some (.pointer _), .nil=>some ([.cN],n,[])
  |some (.pointer D), .ptr d=>(match we P m D d (n+1)with
   |some (k,aM,os)=>bH (Nat.beq k.length (P.cellsOf D)&&Nat.blt 0 k.length) (some ([.ptr n 0],aM,(n,Gv k)::os)) none
   |none=>none)
  |some (.slice _), .nil=>some ([.aW],n,[])
  |some (.slice D), .slice ci ad6=>(match ad6 with
   |[]=>(match F5 P (we P m) D ci (n+1)with
    |some (k,aM,os)=>bH (Nat.blt 0 k.length) (some ([.slice n 0 ci.length ci.length],aM,(n,Gv k)::os)) none
    |none=>none)
   |_::_=>none)
  |some (.struct j6), .agg ds=>(match DI P (we P m) j6.toList ds 0 n with
   |some (k,aM,os)=>bH (Nat.beq k.length (P.cellsOf t)) (some (k,aM,os)) none
   |none=>none)
  |some (.array _ D), .agg ds=>(match F5 P (we P m) D ds n with
   |some (k,aM,os)=>bH (Nat.beq k.length (P.cellsOf t)) (some (k,aM,os)) none
   |none=>none)
  |some (.interface _), .nil=>some ([.nilIface],n,[])
  |some (.map _ _), .nil=>some ([.ms],n,[])
  |some (.map q D), .map ci=>bH (Nu P q) (match Jh P (we P m) D ci (n+1)with
   |some (r,aM,os)=>some ([.map n],aM,(n, .look r)::os)
   |none=>none) none
  |_,_=>none
section
variable{C:aT}{P:Program}{w:World}
def rM(w:World)(da:List MemPlace):Prop:=∀b off,MemPlace.cell b off∈da->∃c t,w.heap[b]? =some (.cells c t (0,0))
def Ev(W:ak):Prop:=∀C aa,vo C aa W
def Lays(C:aT)(w:World)(n:Nat)(cs:List Value)(r:List y×Nat×List (Nat×ak)):Prop:=
 n<=r.2.1/\(∀x∈r.2.2,n<=x.1/\x.1<r.2.1/\Ev x.2)/\∃f:Nat->mz,∀J aa,(∀b,n<=b->b<r.2.1->J b=f b/\aa b)->cs=bO J r.1/\ea aa r.1/\∀x∈r.2.2,j3 C J aa x.2 (J x.1) w
def Lays.plain{n:Nat}{cs:List Value}{k:List y}(a:∀J aa,cs=bO J k/\ea aa k):Lays C w n cs (k,n,[]):=
 ⟨Zj _,Zs,λ_=>default,λJ aa _=>⟨(a J aa).1,(a J aa).2,Zs⟩⟩
def Lays.app{n aM be:Nat}{qY Pt:List Value}{dv cD:List y}{adb sF:List (Nat×ak)}(H:Lays C w n qY (dv,aM,adb))(K:Lays C w aM Pt (cD,be,sF)):Lays C w n (qY++Pt) (dv++cD,be,adb++sF):=by
 obtain⟨a7,b2,ef,a3⟩:=H
 obtain⟨b4,cr,eX,cS⟩:=K
 refine⟨ZB a7 b4, ?_,λb=>if b<aM then ef b else eX b, ?_⟩
 ·intro x af
  rcases Zw.1 af with a|a
  ·obtain⟨cF,cH,d7⟩:=b2 x a
   exact⟨cF,ZT cH b4,d7⟩
  ·obtain⟨cF,cH,d7⟩:=cr x a
   exact⟨ZB a7 cF,cH,d7⟩
 ·intro J aa dz
  obtain⟨dl,dx,gD⟩:=a3 J aa (λb H K=>by
   have Fc:b<aM:=K
   have:=dz b H (ZT K b4)
   simp only[Zu Fc]at this
   exact this)
  obtain⟨cB,cC,dI⟩:=cS J aa (λb H K=>by
   have q5:¬b<aM:=zz.2 H
   have:=dz b (ZB a7 H) K
   simp only[Zg q5]at this
   exact this)
  refine⟨by rw[CB, <-dl, <-cB],Ao dx cC, ?_⟩
  intro x af
  rcases Zw.1 af with a|a
  ·exact gD x a
  ·exact dI x a
def DN{α eH:Type}{f:α->Option eH}:∀{k:List α}{r:List eH},k.mapM f=some r->r.length=k.length/\∀(i:Nat) (E:α) (b:eH),k[i]? =some E->r[i]? =some b->f E=some b:=by
 intro k
 induction k with
 |nil=>intro r a;simp at a;subst a;simp
 |cons E k aj=>
  intro r a
  simp only[zh,Option.bind_eq_bind,Z2]at a
  obtain⟨b,al,hH,V,a⟩:=a
  simp at a;subst a
  obtain⟨H,K⟩:=aj V
  refine⟨by simp[H],λi gd cQ aD jp=> ?_⟩
  cases i with
  |zero=>simp at aD jp;subst aD;subst jp;exact al
  |succ i=>exact K i gd cQ (by simpa using aD) (by simpa using jp)
def acA{α eH:Type}{f:α->Option eH}{E:α}{k:List α}{r:List eH}(a:(E::k).mapM f=some r):∃b hH,r=b::hH/\f E=some b/\k.mapM f=some hH:=by
 simp only[zh,Option.bind_eq_bind,Z2]at a
 obtain⟨b,al,hH,V,a⟩:=a
 simp at a;subst a
 exact⟨b,hH,rfl,al,V⟩
def rM.of{da b8:List MemPlace}(a:rM w da)(aE:∀x∈b8,x∈da):rM w b8:=λb off al=>a b off (aE _ al)
def Kx(C:aT)(w:World)(next:Nat->DataW Unit->Nat->vn)(eE:TypeId->List Value->Option (DataW Unit×List MemPlace)):Prop:=
 ∀t d n r,next t d n=some r->∀cs da,eE t cs=some (d,da)->rM w da->Lays C w n cs r
variable{next:Nat->DataW Unit->Nat->vn}{eE:TypeId->List Value->Option (DataW Unit×List MemPlace)}
def arh(ku:Kx C w next eE){cs:List Value}:∀(j6:List Field) (ds:List (DataW Unit)) (off n:Nat) (r:List y×Nat×List (Nat×ak)),DI P next j6 ds off n=some r->
 ∀xs:List (DataW Unit×List MemPlace),(j6.mapM λf=>eE f.type ((cs.drop f.offset).take (P.cellsOf f.type)))=some xs->xs.map (·.1)=ds->rM w (xs.flatMap (·.2))->Lays C w n ((cs.drop off).take r.1.length) r:=by
 intro j6
 induction j6 with
 |nil=>
  intro ds off n r a xs _ _ _
  cases ds with
  |nil=>simp[DI]at a;subst a;exact .plain λJ aa=>⟨by simp[bO],trivial⟩
  |cons d ds=>simp[DI]at a
 |cons f j6 aj=>
  intro ds off n r a xs af aH cf
  cases ds with
  |nil=>simp[DI]at a
  |cons d ds=>
   simp only[DI,eF]at a
   obtain⟨Rx,a⟩:=a
   have Rx:=Zl Rx
   split at a
   ·rename_i k aM os V
    simp only[eF]at a
    obtain⟨aB,a⟩:=a
    have aB:=Zl aB
    split at a
    ·rename_i cD be sF gn
     simp at a;subst a
     obtain⟨e,fJ,rfl,B,R2⟩:=acA af
     simp at aH
     obtain⟨rfl,aH⟩:=aH
     have H:=ku _ _ _ _ V _ e.2 (by rw[B]) (cf.of (by intro x af;simp;exact .inl af))
     have K:=aj ds (off+k.length) aM _ gn fJ R2 aH (cf.of (by intro x af;simp only[Yf,Zw];exact .inr af))
     rw[Rx, <-aB]at H
     have:=H.app K
     simp only[ZG]
     rw[List.take_add,zw]
     exact this
    ·simp at a
   ·simp at a
def Xs(cs:List Value)(q:Nat):∀(m i0:Nat),(List.range' i0 m).flatMap (λi=>(cs.drop (i*q)).take q)=(cs.drop (i0*q)).take (m*q):=by
 intro m
 induction m with
 |zero=>intro i0;simp
 |succ m aj=>
  intro i0
  rw[List.range'_succ,Yf,aj,ZV m 1 q,Nat.one_mul,zn (m*q) q,List.take_add,zw,ZV i0 1 q,Nat.one_mul]
def aca(ku:Kx C w next eE){D:Nat}{g:Nat->List Value}:∀(ds:List (DataW Unit)) (i0 n:Nat) (r:List y×Nat×List (Nat×ak)),F5 P next D ds n=some r->
 ∀xs:List (DataW Unit×List MemPlace),((List.range' i0 ds.length).mapM λi=>eE D (g i))=some xs->xs.map (·.1)=ds->rM w (xs.flatMap (·.2))->Lays C w n ((List.range' i0 ds.length).flatMap g) r/\r.1.length=ds.length*P.cellsOf D:=by
 intro ds
 induction ds with
 |nil=>
  intro i0 n r a xs _ _ _
  simp[F5]at a;subst a
  exact⟨.plain λJ aa=>⟨by simp[bO],trivial⟩,Zs⟩
 |cons d ds aj=>
  intro i0 n r a xs af aH cf
  simp only[F5]at a
  split at a
  ·rename_i k aM os V
   simp only[eF]at a
   obtain⟨aB,a⟩:=a
   have aB:=Zl aB
   split at a
   ·rename_i cD be sF gn
    simp at a;subst a
    simp only[Zz,List.range'_succ]at af
    obtain⟨e,fJ,rfl,B,R2⟩:=acA af
    simp at aH
    obtain⟨rfl,aH⟩:=aH
    have H:=ku _ _ _ _ V _ e.2 (by rw[B]) (cf.of (by intro x af;simp;exact .inl af))
    obtain⟨K,am⟩:=aj (i0+1) aM _ gn fJ R2 aH (cf.of (by intro x af;simp only[Yf,Zw];exact .inr af))
    refine⟨?_, ?_⟩
    ·simp only[Zz,List.range'_succ,Yf]
     exact H.app K
    ·simp only[ZG,Zz,am,aB,Nat.succ_mul]
     omega
   ·simp at a
  ·simp at a
end
end
noncomputable section
open Go.RowKit (Below)
section
variable{C:aT}{P:Program}{w:World}
def Pk{E:Addr}{v:Value}(a:w.cell? E=some v):E.spot=none/\∃cd ty tT,w.heap[E.block]? =some (.cells cd ty tT)/\cd[E.off]? =some v:=by
 unfold World.cell? at a
 split at a
 ·rename_i c ty tT al
  split at a
  ·cases a
  ·rename_i aE
   refine⟨?_,c,ty,tT,al,a⟩
   cases bG:E.spot with
   |none=>rfl
   |some x=>rw[bG]at aE;exact absurd rfl aE
 ·cases a
def OY(E:Addr)(Y:Nat):(E.add Y).block=E.block:=by unfold Addr.add;split<;>rfl
def V4(E:Addr)(Y:Nat):(E.add Y).off=E.off+Y:=by unfold Addr.add;split<;>simp_all
def Pn{E:Addr}{q:Nat}{g:List Value}{cd:Array Value}{ty:TypeId}{tT:Nat×Nat}(al:w.heap[E.block]? =some (.cells cd ty tT))(a:w.cells? 0 E q=some g):g=(cd.toList.drop E.off).take q/\g.length=q:=by
 unfold World.cells? at a
 rw[Zu (zi _)]at a
 obtain⟨H,K⟩:=DN a
 rw[List.length_range]at H
 have key:∀Y,Y<q->cd[E.off+Y]? =g[Y]? :=by
  intro Y bD
  have bw:g[Y]? =some g[Y]:=Zf Zo
  have:=K Y Y g[Y] (by simp[bD]) bw
  obtain⟨_,EJ,avR,ayN,cF,cH⟩:=Pk this
  rw[OY,al]at cF
  cases cF
  rw[V4]at cH
  rw[cH,bw]
 refine⟨YW λY=> ?_,H⟩
 by_cases bD:Y<q
 ·rw[Y3 bD,YC, <-key Y bD];simp
 ·rw[ZW Zo,ZW Zx]
def SM(k:List y):Ev (Gv k):=λ_ _=>⟨λ_ _ _ a=>(by cases a),λ_ _ _ a=>(by cases a;exact Gl)⟩
def asV(k:List (y×y)):Ev (.look k):=λ_ _=>⟨λ_ _ _ a=>(by cases a),λ_ _ _ a=>(by cases a)⟩
def Tb{J:cU}{aa:Nat->Prop}{k:List y}{pl:mz}{cd:Array Value}{ty:TypeId}(al:w.heap[pl.cA]? =some (.cells cd ty (0,0)))(aB:(cd.toList.drop pl.dQ).take k.length=bO J k)(g:ea aa k)(cf:0<k.length):j3 C J aa (Gv k) pl w:=by
 have eO:k.length<=cd.size-pl.dQ:=by
  have:=congrArg List.length aB
  rw[jR]at this
  simp at this
  omega
 refine⟨cd,ty,0,0,al,rfl,Zo,λi v bu=> ?_⟩
 rw[lE]at bu
 have aF:i<k.length:=(Zb.1 bu).1
 refine⟨?_,Ap g bu⟩
 have:=congrArg (λx:List Value=>x[i]?) aB
 simp only[Y3 aF,YC,ZO,y5,bu,ZU]at this
 exact this
def Lays.block{n aM:Nat}{os:List (Nat×ak)}{cs:List Value}{k:List y}{ab:y}{x:Value}{cK:ak}(pl:mz)(a:Lays C w (n+1) cs (k,aM,os))(bd:Ev cK)
 (hC:∀J aa,J n=pl->aa n->cs=bO J k->ea aa k->j3 C J aa cK pl w/\x=aO J ab/\b7 aa ab):Lays C w n [x] ([ab],aM,(n,cK)::os):=by
 obtain⟨a7,b2,f,a3⟩:=a
 have a7:n+1<=aM:=a7
 refine⟨by simp only;omega, ?_,λb=>if b=n then pl else f b, ?_⟩
 ·intro e B
  rcases Zr.1 B with rfl|B
  ·exact⟨Zj _,by simp only;omega,bd⟩
  ·obtain⟨cF,cH,d7⟩:=b2 e B
   exact⟨Zo,cH,d7⟩
 ·intro J aa dz
  have aI:=dz n (Zj _) (by simp only;omega)
  simp only[ZE]at aI
  obtain⟨dl,dx,gD⟩:=a3 J aa (λb H K=>by
   have:=dz b Zo K
   have cE:b≠n:=Zo
   simp only[Zg cE]at this
   exact this)
  obtain⟨eA,eU,gr⟩:=hC J aa aI.1 aI.2 dl dx
  refine⟨by simp[bO,eU],⟨gr,trivial⟩, ?_⟩
  intro e B
  rcases Zr.1 B with rfl|B
  ·simp only[aI.1];exact eA
  ·exact gD e B
def ado{α eH:Type}{f:α->eH}{E m:List eH}(a:E.Perm m):∀k:List α,k.map f=E->∃cb:List α,cb.Perm k/\cb.map f=m:=by
 induction a with
 |nil=>intro k a;simp at a;subst a;exact⟨[], .refl _,rfl⟩
 |cons x _ aj=>
  intro k a
  cases k with
  |nil=>simp at a
  |cons e k=>
   simp at a
   obtain⟨cb,H,K⟩:=aj k a.2
   exact⟨e::cb,H.cons e,by simp[a.1,K]⟩
 |swap x e fb=>
  intro k a
  cases k with
  |nil=>simp at a
  |cons p k=>
   cases k with
   |nil=>simp at a
   |cons ai k=>
    simp at a
    obtain⟨rfl,rfl,rfl⟩:=a
    exact⟨ai::p::k, .swap _ _ _,Zs⟩
 |trans _ _ R5 I5=>
  intro k a
  obtain⟨dv,H,K⟩:=R5 k a
  obtain⟨cD,am,aC⟩:=I5 dv K
  exact⟨cD,am.trans H,aC⟩
def insert_perm{mc:Type}(x:Lit×DataW mc):∀k,(DataW.insert x k).Perm (x::k):=by
 intro k
 induction k with
 |nil=>exact .refl _
 |cons e k aj=>
  simp only[DataW.insert]
  split
  ·exact .refl _
  ·exact(aj.cons e).trans (.swap _ _ _)
def sorted_perm{mc:Type}:∀k:List (Lit×DataW mc),(k.foldr DataW.insert []).Perm k:=by
 intro k
 induction k with
 |nil=>exact .refl _
 |cons x k aj=>exact(insert_perm x _).trans (aj.cons x)
def aqQ{q:Nat}{v:Value}{key:Lit}{rj:y}(ay:Nu P q=true)(a:keyOf P q v=some key)(aG:Jc key=some rj)(J:cU)(aa:Nat->Prop):v=aO J rj/\b7 aa rj:=by
 unfold Nu at ay
 unfold keyOf at a
 have D:mapKey P q v=some key:=by
  cases a6:P.underlying q with
  |none=>rw[a6]at ay;cases ay
  |some ab=>rw[a6]at a ay;cases ab<;>first|exact a|cases ay
 unfold mapKey at D
 split at D
 ·simp at D;subst D;simp[Jc]at aG;subst aG;exact⟨rfl,trivial⟩
 ·split at D
  ·rename_i ai p2 n _ bG
   simp at D;subst D;simp[Jc]at aG;subst aG
   exact⟨by rw[bG.1];rfl,trivial⟩
  ·cases D
 ·split at D
  ·rename_i s _ _
   simp at D;subst D;simp[Jc]at aG;subst aG
   refine⟨by simp only[aO];rw[Pb], ?_⟩
   intro x af
   simp at af
   obtain⟨b,_,rfl⟩:=af
   exact b.toNat_lt
  ·cases D
 ·cases D
def awa{D:Nat}{v:Value}{k:List y}{ab:y}{J:cU}{aa:Nat->Prop}(bW:v.formed P D=true)(a6:Sq P D k=some ab)(aA:v.cells.toList=bO J k)(g:ea aa k):v=aO J ab/\b7 aa ab:=by
 unfold Sq at a6
 unfold Value.formed at bW
 cases aH:P.underlying D with
 |none=>rw[aH]at a6;cases a6
 |some avB=>
  rw[aH]at a6 bW
  have agg:(∃cs,v= .agg cs)->ab= .agg k->v=aO J ab/\b7 aa ab:=by
   rintro⟨cs,rfl⟩ rfl
   refine⟨?_,g⟩
   simp only[Value.cells]at aA
   simp only[aO, <-aA]
  have auM:v.cells= #[v]->(∃x,k=[x]/\ab=x)->v=aO J ab/\b7 aa ab:=by
   rintro H ⟨x,rfl,rfl⟩
   rw[H]at aA
   simp[bO]at aA
   exact⟨aA,g.1⟩
  cases v<;>cases avB<;>simp only at bW a6<;>first
   |(cases bW;done)
   |(simp at a6;exact agg ⟨_,rfl⟩ a6.symm)
   |(
     split at a6
     ·simp at a6;exact auM rfl ⟨_,rfl,a6.symm⟩
     ·cases a6)
end
end
noncomputable section
open Go.RowKit (Below)
section
variable{C:aT}{P:Program}{w:World}
variable{next:Nat->DataW Unit->Nat->vn}{eE:TypeId->List Value->Option (DataW Unit×List MemPlace)}
def arf(ku:Kx C w next eE){q D:Nat}(ay:Nu P q=true):∀(ci:List (Lit×DataW Unit)) (n:Nat) (r:List (y×y)×Nat×List (Nat×ak)),Jh P next D ci n=some r->
 ∀ek:List (MapEntry×((Lit×DataW Unit)×List MemPlace)),ek.map (·.2.1)=ci->(∀bo∈ek,keyOf P q bo.1.key=some bo.2.1.1/\bo.1.val.formed P D=true/\eE D bo.1.val.cells.toList=some (bo.2.1.2,bo.2.2)/\rM w bo.2.2)->
 n<=r.2.1/\(∀x∈r.2.2,n<=x.1/\x.1<r.2.1/\Ev x.2)/\r.1.length=ek.length/\∃f:Nat->mz,∀J aa,(∀b,n<=b->b<r.2.1->J b=f b/\aa b)->
  ek.map (·.1)=(List.zipWith (λ(p:y×y) (bo:MapEntry×((Lit×DataW Unit)×List MemPlace))=>(p.1,p.2,bo.1.born)) r.1 ek).map (lQ J)/\(∀p∈r.1,b7 aa p.1/\b7 aa p.2)/\∀x∈r.2.2,j3 C J aa x.2 (J x.1) w:=by
 intro ci
 induction ci with
 |nil=>
  intro n r a ek Fo _
  simp[Jh]at a;subst a
  simp at Fo;subst Fo
  exact⟨Zj _,Zs,rfl,λ_=>default,λJ aa _=>⟨rfl,Zs,Zs⟩⟩
 |cons E ci aj=>
  obtain⟨key,d⟩:=E
  intro n r a ek Fo hA
  simp only[Jh]at a
  split at a
  ·rename_i rj k aM os aoo aI
   split at a
   ·rename_i v gq be sF bu V
    simp at a;subst a
    cases ek with
    |nil=>simp at Fo
    |cons bo ek=>
     simp at Fo
     obtain⟨FT,FU⟩:=Fo
     obtain⟨g1,b5,cR,ep⟩:=hA bo (Zt ..)
     rw[FT]at g1 cR
     obtain⟨a7,b2,ef,a3⟩:=ku _ _ _ _ aI _ _ cR ep
     obtain⟨b4,cr,ch,eX,cS⟩:=aj aM _ V ek FU (λbo cf=>hA bo (Zn _ cf))
     have a7:n<=aM:=a7
     have b4:aM<=be:=b4
     refine⟨ZB a7 b4, ?_,by simpa using ch,λb=>if b<aM then ef b else eX b, ?_⟩
     ·intro x af
      rcases Zw.1 af with ai|ai
      ·obtain⟨cF,cH,d7⟩:=b2 x ai
       exact⟨cF,ZT cH b4,d7⟩
      ·obtain⟨cF,cH,d7⟩:=cr x ai
       exact⟨ZB a7 cF,cH,d7⟩
     ·intro J aa dz
      obtain⟨dl,dx,gD⟩:=a3 J aa (λb H K=>by
       have Fc:b<aM:=K
       have:=dz b H (ZT K b4)
       simp only[Zu Fc]at this
       exact this)
      obtain⟨cB,cC,dI⟩:=cS J aa (λb H K=>by
       have q5:¬b<aM:=zz.2 H
       have:=dz b (ZB a7 H) K
       simp only[Zg q5]at this
       exact this)
      obtain⟨bS,ck⟩:=aqQ ay g1 aoo J aa
      obtain⟨J4,NX⟩:=awa b5 bu dl dx
      refine⟨?_, ?_, ?_⟩
      ·simp only[ZJ,List.zipWith_cons_cons,cB]
       congr 1
       obtain⟨⟨azc,azd,azb⟩,_⟩:=bo
       simp only[lQ]at bS J4 ⊢
       rw[<-bS, <-J4]
      ·intro p ay
       rcases Zr.1 ay with rfl|ay
       ·exact⟨ck,NX⟩
       ·exact cC p ay
      ·intro x af
       rcases Zw.1 af with ai|ai
       ·exact gD x ai
       ·exact dI x ai
   ·simp at a
  ·simp at a
def aeV{ek:List (MapEntry×((Lit×DataW Unit)×List MemPlace))}:∀(r:List (y×y)) (ek:List (MapEntry×((Lit×DataW Unit)×List MemPlace))),r.length=ek.length->
 (List.zipWith (λ(p:y×y) (bo:MapEntry×((Lit×DataW Unit)×List MemPlace))=>(p.1,p.2,bo.1.born)) r ek).map (λD=>(D.1,D.2.1))=r:=by
 intro r
 induction r with
 |nil=>intro ek _;simp
 |cons p r aj=>
  intro ek a
  cases ek with
  |nil=>simp at a
  |cons bo ek=>simp[aj ek (by simpa using a)]
def ar1{α eH:Type}{f g:α->Option eH}:∀{k:List α},(∀x∈k,f x=g x)->k.mapM f=k.mapM g:=by
 intro k
 induction k with
 |nil=>intro _;rfl
 |cons E k aj=>intro a;simp[zh,a E Zs,aj λx af=>a x (by simp[af])]
def alg{α eH:Type}{f g:α->List eH}:∀{k:List α},(∀x∈k,f x=g x)->k.flatMap f=k.flatMap g:=by
 intro k
 induction k with
 |nil=>intro _;rfl
 |cons E k aj=>intro a;simp[Yf,a E Zs,aj λx af=>a x (by simp[af])]
end
end
end Go.bs

