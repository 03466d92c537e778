/- Part of the proof of the last text; no conditions -/
import Derived.Test.YtbbkkkpgjaopkaaGreatDoorYe
import Derived.Defers
import Derived.RangeFuncRecord
set_option maxHeartbeats 8000000
set_option linter.all false
namespace Go.bs
open Go.RowKit (Below)
def s7(J:cU)(p:rG):PanicEntry:={v:=aO J p.v,recovered:=p.recovered}
def gE(J:cU):k4->FrameMode
 | .run=> .run
 | .returning=> .returning
 | .panicking fQ=> .panicking (fQ.map (s7 J))
def qk(aa:Nat->Prop):k4->Prop
 | .panicking fQ=>∀p∈fQ,b7 aa p.v
 |_=>True
inductive Cj(C:aT)(J:cU)(aa:Nat->Prop)(ao:Nat):dG->Item->Prop
 |code {c:Code}:lO C ao c=true->Cj C J aa ao (.code c) (.code c)
 |inBlock {id:Nat}:Cj C J aa ao (.inBlock id) (.inBlock id)
 |inLoop {b:Code}:lO C ao b=true->Cj C J aa ao (.inLoop b) (.inLoop b)
 |inScope {b:Code}:lO C ao b=true->Cj C J aa ao (.inScope b) (.inScope b)
 |CI {k:Nat}:aa k->Cj C J aa ao (.endRangeFunc k) (.endRangeFunc (J k).cA)
 |begin:Cj C J aa ao .beginRound .beginRound
inductive lK(C:aT)(J:cU)(aa:Nat->Prop)(ao:Nat):List dG->List Item->Prop
 |nil:lK C J aa ao [] []
 |cons {E x q bq}:Cj C J aa ao E x->lK C J aa ao q bq->lK C J aa ao (E::q) (x::bq)
def OO(C:aT)(J:cU)(aa:Nat->Prop)(n ao:Nat)(ar:Array Oper)(aq:List (Nat×y))(rest:List fd)(fin:List (Nat×Nat))(I:M y)(tmps:Array Value)(k:List Nat):Prop:=
 ∃i,i<=ar.size/\k=List.range' i (ar.size-i)/\r3 C n ao (ar.toList.drop i) i (h9 ar i)=some rest/\fin=lb ao ar.toList 0/\oF J aa ao (λ_=>True) (h9 ar i) aq I tmps/\tmps.size=n
def aid(C:aT)(J:cU)(aa:Nat->Prop)(n ao:Nat)(ar:Array Oper)(aq:List (Nat×y))(a:Nat)(rest:List fd)(fin:List (Nat×Nat))(I:M y)(tmps:Array Value)(k:List Nat):Prop:=
 ∃W,ar[a]? =some W/\(∀d,W.dst=some d->d<n)/\k=List.range' (a+1) (ar.size-(a+1))/\r3 C n ao (ar.toList.drop (a+1)) (a+1) (h9 ar (a+1))=some rest/\fin=lb ao ar.toList 0/\
  oF J aa ao (λ_=>True) (h9 ar a) aq I tmps/\tmps.size=n
inductive Cn(C:aT)(J:cU)(aa:Nat->Prop)(h:M ak)(c5 j n ao:Nat)(I:M y)(tmps:Array Value):List dG->List Item->Prop
 |plain {q bq}:lK C J aa ao q bq->jl J aa n ao I tmps->Cn C J aa h c5 j n ao I tmps q bq
 |seq {ar aq rest fin k q bq}:lK C J aa ao q bq->OO C J aa n ao ar aq rest fin I tmps k->Cn C J aa h c5 j n ao I tmps (.Gx ar aq rest fin::q) (.inRegion ar k::bq)
 |drawn {ar base aq k q bq db de}:lK C J aa ao q bq->c5<=base->base+ar.size<=j->qO C J aa h base n ao ar aq de de I tmps db->vp ar db k->
   Cn C J aa h c5 j n ao I tmps (.drawn ar base aq (yb (lP C n ao ar) de ((gw C n ao ar).drop de)) (lb ao ar.toList 0)::q) (.inRegion ar k::bq)
inductive mA(C:aT)(J:cU)(aa:Nat->Prop)(h:M ak)(bR aF n ao:Nat)(I:M y)(tmps:Array Value):List dG->List Item->Prop
 |seq {ar aq a rest fin k q bq}:lK C J aa ao q bq->aid C J aa n ao ar aq a rest fin I tmps k->mA C J aa h bR aF n ao I tmps (.sQ ar aq a rest fin::q) (.inRegion ar (a::k)::bq)
 |drawn {ar base aq k q bq db de e W}:lK C J aa ao q bq->bR<=base->base+ar.size<=aF->qO C J aa h base n ao ar aq de (de+1) I tmps db->(gw C n ao ar)[de]? =some e->
   ar[e.1.i]? =some W->¬db e.1.i->(∀D∈W.after.toList,Region.binds .any D=true->db D.on)->vp ar (add db e.1.i) k->
   mA C J aa h bR aF n ao I tmps (.yu ar base aq e.1.i (yb (lP C n ao ar) (de+1) ((gw C n ao ar).drop (de+1))) (lb ao ar.toList 0)::q) (.inRegion ar (e.1.i::k)::bq)
 |ei {k q bq}:lK C J aa ao q bq->jl J aa n ao I tmps->aa k->mA C J aa h bR aF n ao I tmps (.inRangeFunc k::q) (.inRangeFunc (J k).cA::bq)
def yR(C:aT)(J:cU)(aa:Nat->Prop)(h:M ak)(bR aF n ao:Nat)(I:M y)(tmps:Array Value)(bK:k4)(todo:List dG)(bq:List Item):Prop:=match bK with
 | .run=>mA C J aa h bR aF n ao I tmps todo bq
 |_=>jl J aa n ao I tmps
def cj(J:cU)(fn:Nat)(bb:List hy)(aR:Bool)(ro:Option Nat)(tmps:Array Value)(bq:List Item)(mode:FrameMode):Frame:=
 {fn,tmps,todo:=bq,defers:=bb.map (lM J),mode,kind:=if aR then .deferred else .normal,roundOf:=ro.map λk=>(J k).cA}
structure vm(C:aT)(aa:Nat->Prop)(fn ao:Nat)(bb:List hy)(ro:Option Nat):Prop where
 bb:∀d∈bb,vK aa d
 ro:∀k,ro=some k->aa k
 fn:Ox C fn ao
inductive oA(C:aT)(J:cU)(aa:Nat->Prop)(h:M ak)(bA:Nat)(bM:List Frame):Nat->List gB->List Frame->Prop
 |nil {c5}:oA C J aa h bA bM c5 [] bM
 |cons {bR c5 fn n ao I todo bb bK aR ro cs tmps bq an}:yR C J aa h bR c5 n ao I tmps bK todo bq->qk aa bK->vm C aa fn ao bb ro->(cs=[]->fn=bA/\aR=false/\ro=none)->bR<=c5->oA C J aa h bA bM bR cs an->
   oA C J aa h bA bM c5 (⟨fn,n,ao,I,todo,bb,bK,aR,ro⟩::cs) (cj J fn bb aR ro tmps bq (gE J bK)::an)
section
variable{C:aT}{J c0:cU}{aa dn:Nat->Prop}{h R:M ak}{j au bj:Nat}{w w':World}{n ao:Nat}{ar:Array Oper}
def lK.ad{q:List dG}{bq:List Item}(dz:∀b,aa b->c0 b=J b)(gf:∀b,aa b->dn b)(a:lK C J aa ao q bq):lK C c0 dn ao q bq:=by
 induction a with
 |nil=>exact .nil
 |cons H _ aj=>
  refine .cons ?_ aj
  cases H with
  |code a=>exact .code a
  |inBlock=>exact .inBlock
  |inLoop a=>exact .inLoop a
  |inScope a=>exact .inScope a
  |CI a=>rw[<-dz _ a];exact .CI (gf _ a)
  |begin=>exact .begin
def mA.ad{bR c5:Nat}{I:M y}{tmps:Array Value}{q:List dG}{bq:List Item}(af:is C c5 J aa h bj w c0 dn R w')(a:mA C J aa h bR c5 n ao I tmps q bq):mA C c0 dn R bR c5 n ao I tmps q bq:=by
 cases a with
 |seq H K=>
  obtain⟨W,a7,b2,a3,a4,a5,ic,iw⟩:=K
  exact .seq (H.ad af.iJ af.jw) ⟨W,a7,b2,a3,a4,a5,ic.ad af.iJ af.jw,iw⟩
 |drawn H K am aC bm b1 df ev hN=>exact .drawn (H.ad af.iJ af.jw) K am (aC.ad af am) bm b1 df ev hN
 |ei H K am=>rw[<-af.iJ _ am];exact .ei (H.ad af.iJ af.jw) (K.ad af.iJ af.jw) (af.jw _ am)
def yR.ad{bR c5:Nat}{I:M y}{tmps:Array Value}{bK:k4}{q:List dG}{bq:List Item}(af:is C c5 J aa h bj w c0 dn R w')(a:yR C J aa h bR c5 n ao I tmps bK q bq):yR C c0 dn R bR c5 n ao I tmps bK q bq:=by
 cases bK with
 |run=>exact mA.ad af a
 |returning=>exact jl.ad af.iJ af.jw a
 |panicking fQ=>exact jl.ad af.iJ af.jw a
def vm.ad{fn:Nat}{bb:List hy}{ro:Option Nat}(gf:∀b,aa b->dn b)(a:vm C aa fn ao bb ro):vm C dn fn ao bb ro:=
 ⟨λd aH=>XG gf (a.bb d aH),λk aB=>gf k (a.ro k aB),a.fn⟩
def Gf{fn:Nat}{bb:List hy}{aR:Bool}{ro:Option Nat}{tmps:Array Value}{bq:List Item}{mode:FrameMode}(dz:∀b,aa b->c0 b=J b)(a:vm C aa fn ao bb ro):cj c0 fn bb aR ro tmps bq mode=cj J fn bb aR ro tmps bq mode:=by
 unfold cj
 congr 1
 ·exact YH λd aH=>Pg dz (a.bb d aH)
 ·cases ro with
  |none=>rfl
  |some k=>simp only[ZU,dz k (a.ro k rfl)]
def ajw{bK:k4}(dz:∀b,aa b->c0 b=J b)(a:qk aa bK):gE c0 bK=gE J bK:=by
 cases bK with
 |panicking fQ=>
  simp only[gE]
  congr 1
  exact YH λp ay=>by simp only[s7,qe dz (a p ay)]
 |_=>rfl
def ame{bK:k4}(gf:∀b,aa b->dn b)(a:qk aa bK):qk dn bK:=by
 cases bK with
 |panicking fQ=>exact λp ay=>oP gf _ (a p ay)
 |_=>trivial
def is.mono{c5 Jj:Nat}(a:is C c5 J aa h bj w c0 dn R w')(aB:Jj<=c5):is C Jj J aa h bj w c0 dn R w':=
 ⟨a.iJ,a.jw,λb al=>(a.new b al).imp id (λai=>Zo),λb al cJ=>a.ad b al Zo,a.below⟩
def oA.ad{bA:Nat}{bM:List Frame}{c5:Nat}{cs:List gB}{an:List Frame}(a:oA C J aa h bA bM c5 cs an)(af:is C c5 J aa h bj w c0 dn R w'):oA C c0 dn R bA bM c5 cs an:=by
 induction a with
 |nil=>exact .nil
 |cons H bc K aC bm b1 aj=>
  rw[<-Gf (J:=J) (c0:=c0) af.iJ K, <-ajw af.iJ bc]
  exact .cons (H.ad af) (ame af.jw bc) (K.ad af.jw) aC bm (aj (af.mono bm))
def K5(t:Nat):∀(k:List Nat) (I:M y),(vz k I).get t=if t∈k then none else I.get t:=by
 intro k
 induction k with
 |nil=>intro I;simp[vz]
 |cons d k aj=>
  intro I
  simp only[vz,aj,M.j7,Zr]
  by_cases a:t∈k
  ·simp[a]
  ·by_cases D:d=t
   ·subst D;simp
   ·have:¬t=d:=λai=>D ai.symm
    simp[a,D,this]
def jl.drop{I:M y}{tmps:Array Value}(a:jl J aa n ao I tmps)(k:List Nat):jl J aa n ao (vz k I) tmps:=by
 refine⟨a.size,λt v al bu=> ?_⟩
 rw[K5]at bu
 split at bu
 ·cases bu
 ·exact a.val t v al bu
def W1{k:List Oper}{W:Oper}{d:Nat}(bd:W∈k)(aH:W.dst=some d):d∈dstsOf k:=by
 induction k with
 |nil=>cases bd
 |cons E k aj=>
  simp only[dstsOf]
  rcases Zr.1 bd with rfl|bd
  ·rw[aH];exact Zt ..
  ·split
   ·exact Zn _ (aj bd)
   ·exact aj bd
def mA.drop{bR c5:Nat}{I:M y}{tmps:Array Value}{q:List dG}{bq:List Item}(a:mA C J aa h bR c5 n ao I tmps q bq):jl J aa n ao (un q I) tmps:=by
 cases a with
 |seq H K=>
  rename_i ar aq a rest fin k q bq
  obtain⟨W,a7,b2,a3,a4,a5,ic,iw⟩:=K
  refine⟨iw,λt v al bu=> ?_⟩
  simp only[un]at bu
  rw[K5]at bu
  split at bu
  ·cases bu
  ·rename_i aI
   have aF:a<ar.size:=(ZS.1 a7).1
   obtain⟨_,eX,_⟩:=Ka ar a (Y0 aF)
   apply ic t v trivial
   cases bD:ed (h9 ar a) t with
   |some Y=>
    exfalso
    obtain⟨g1,b5,_⟩:=eX t Y bD
    unfold r4 at b5
    cases bd:ar[Y]? with
    |none=>rw[bd]at b5;cases b5
    |some o'=>
     rw[bd]at b5
     exact aI (W1 (by rw[Array.mem_toList_iff];exact zg bd) b5)
   |none=>exact⟨al,bu⟩
 |drawn H K am aC bm b1 df ev hN=>
  rename_i ar base aq k q bq db de e W
  refine⟨aC.size,λt v al bu=> ?_⟩
  simp only[un]at bu
  rw[K5]at bu
  split at bu
  ·cases bu
  ·rename_i aI
   apply aC.CE t v
   right
   refine⟨λY bP aH=> ?_,al,bu⟩
   unfold r4 at aH
   cases bd:ar[Y]? with
   |none=>rw[bd]at aH;cases aH
   |some o'=>
    rw[bd]at aH
    exact aI (W1 (by rw[Array.mem_toList_iff];exact zg bd) aH)
 |ei H K am=>exact K
def yR.drop{bR c5:Nat}{I:M y}{tmps:Array Value}{bK:k4}{q:List dG}{bq:List Item}(a:yR C J aa h bR c5 n ao I tmps bK q bq):jl J aa n ao (un q I) tmps:=by
 cases bK with
 |run=>exact mA.drop a
 |_=>
  have co:jl J aa n ao I tmps:=a
  unfold un
  split<;>first|exact co.drop _|exact co
def oF.put{I:M y}{aq:List (Nat×y)}{tmps:Array Value}{i:Nat}{W:Oper}{v:y}(bd:ar[i]? =some W)(bu:oF J aa ao (λ_=>True) (h9 ar i) aq I tmps)(aH:∀d,W.dst=some d->d<tmps.size)(fk:b7 aa v):
 oF J aa ao (λ_=>True) (h9 ar (i+1)) ((i,v)::aq) I (p1 tmps W.dst (aO J v)):=by
 have aF:i<ar.size:=(ZS.1 bd).1
 obtain⟨_,eX,_⟩:=Ka ar i (Y0 aF)
 intro t ab _ a
 rw[adB _ _ _ _ aH]
 rw[J8 bd,EH]at a
 split at a
 ·rename_i Y bD
  split at bD
  ·rename_i D
   cases bD
   rw[qW,Zu rfl]at a
   cases a
   rw[Zu D]
   exact⟨rfl,fk⟩
  ·rename_i D
   rw[Zg D]
   have:=(eX t Y bD).1
   rw[qW,Zg Zo]at a
   exact bu t ab trivial (by rw[bD];exact a)
 ·rename_i bD
  split at bD
  ·cases bD
  ·rename_i D
   rw[Zg D]
   exact bu t ab trivial (by rw[bD];exact a)
def Lo{g:Frame}{a:Nat}{k:List Nat}{bq:List Item}{W:Oper}(bw:g.todo= .inRegion ar (a::k)::bq)(bd:ar[a]? =some W)(v:Value):
 g.finish v={g with tmps:=p1 g.tmps W.dst v,todo:= .inRegion ar k::bq}:=by
 unfold Frame.finish
 rw[bw]
 simp only[bd,ZM]
 cases W.dst<;>rfl
def ak5{bR c5 j n ao fn:Nat}{I:M y}{tmps:Array Value}{todo:List dG}{bq:List Item}{bb:List hy}{aR:Bool}{ro:Option Nat}{mode:FrameMode}{v:y}(a:mA C J aa h bR c5 n ao I tmps todo bq)(aB:c5<=j)(fk:b7 aa v):
 ∃ew q ht hw hR,todo=ew::q/\oN ew v=some ht/\(cj J fn bb aR ro tmps bq mode).finish (aO J v)=cj J fn bb aR ro hw hR mode/\Cn C J aa h bR j n ao I hw (ht::q) hR:=by
 cases a with
 |seq H K=>
  rename_i ar aq a rest fin k q bq
  obtain⟨W,a7,b2,a3,a4,a5,ic,iw⟩:=K
  have cJ:a<ar.size:=(ZS.1 a7).1
  refine⟨_,q, .Gx ar ((a,v)::aq) rest fin,p1 tmps W.dst (aO J v), .inRegion ar k::bq,rfl,rfl, ?_, .seq H ⟨a+1,Zo,a3,a4,a5,ic.put a7 (by rw[iw];exact b2) fk,by rw[Ny];exact iw⟩⟩
  rw[Lo (g:=cj J fn bb aR ro tmps _ mode) rfl a7];rfl
 |drawn H K am aC bm b1 df ev hN=>
  rename_i ar base aq k q bq db de e W
  have B:=Zh bm
  have qs:∀d,W.dst=some d->d<n:=by
   obtain⟨o',g1,b5,cR,ep,fw,dU⟩:=xi aC.st (K1 B).1
   have:o'=W:=by
    have:=dU.oper
    rw[b1]at this
    exact(Ym this).symm
   subst this
   exact fw.dst
  refine⟨_,q, .drawn ar base ((e.1.i,v)::aq) _ _,p1 tmps W.dst (aO J v), .inRegion ar k::bq,rfl,rfl, ?_, .drawn H K (ZB am aB) (aC.e9 bm b1 df ev fk qs) hN⟩
  rw[Lo (g:=cj J fn bb aR ro tmps _ mode) rfl b1];rfl
 |ei H K am=>
  rename_i k q bq
  exact⟨_,q, .endRangeFunc k,tmps, .endRangeFunc (J k).cA::bq,rfl,rfl,rfl, .plain (.cons (.CI am) H) K⟩
def N4{I:M y}{aq kn:List (Nat×y)}{tmps:Array Value}{X:Nat->Prop}{i:Nat}{W:Oper}{g:Option (Nat×Bool)}{b:Bool}(aF:i<=ar.size)(bw:Hs (h9 ar i) W.guard=some g)(bu:oF J aa ao X (h9 ar i) aq I tmps)
 (bN:∀Y b t,W.guard=some (Y,b)->vB Y (h9 ar i)=some t->X t)(aE:Sub kn aq)(a:oy g kn=some b):Region.wanted W (yielded ar tmps)=b:=by
 obtain⟨ef,_,_⟩:=Ka ar i aF
 unfold Hs at bw
 unfold Region.wanted
 split at bw
 ·rename_i aob
  simp at bw;subst bw
  simp[oy]at a
  rw[aob, <-a]
 ·rename_i Y lH uD
  rw[uD]
  split at bw
  ·rename_i t a8
   split at bw
   ·rename_i lB bD
    rw[hn]at bw
    split at bw
    ·rename_i D
     subst D
     simp at bw;subst bw
     simp only[oy]at a
     split at a
     ·rename_i ab a6
      have:=bu t ab (bN Y lH t uD a8) (by rw[bD];exact aE _ _ a6)
      have B:yielded ar tmps Y=(match aO J ab with| .bool b=>some b|_=>none):=by
       unfold yielded
       have aH:=ef Y t a8
       unfold r4 at aH
       rw[aH]
       simp only[ZM,this.1]
       cases aO J ab<;>rfl
      simp only[B]
      cases ab<;>simp[aO]at a ⊢ <;>first|(rw[<-a])|exact a|(subst a;rfl)|skip
      all_goals simp_all
     ·simp at a
    ·simp at bw
   ·simp at bw
  ·simp at bw
end
structure OB(C:aT)(aZ:World):Prop where
 val:∀f args v,C.g4 f args=some v->((∀J ir,aO J v=aO ir v)/\∀aa,b7 aa v)/\(∀J ir,bO J args=bO ir args)/\∀aa,ea aa args
 ok:∀f args v,C.g4 f args=some v->∀J w,Below aZ.heap.size aZ w->
  (callFunc f (bO J args).toArray).run C.P w= .ok (.value (aO J v)) w\/
  ((callFunc f (bO J args).toArray).run C.P w= .ok (.enter f (bO J args).toArray) w/\Calls C.P f (bO J args).toArray w λD w'=>D= .returned (aO J v)/\Below w.heap.size w w')
def G2(P:Program)(aZ:World):Prop:=∀(f:Nat) (fn:Func),P.funcs[f]? =some fn->fn.name= "bytes.Contains"->∀(w:World) (a7 b2:Addr) (dl dx:Nat) (xs fJ:List Nat),Below aZ.heap.size aZ w->
 (∀x∈xs,x<256)->(∀e∈fJ,e<256)->(∀i x,xs[i]? =some x->w.cell? (a7.add i)=some (.int .u8 (Int.ofNat x)))->(∀i e,fJ[i]? =some e->w.cell? (b2.add i)=some (.int .u8 (Int.ofNat e)))->
 xs.length<=dl->xs.length<=1048576->fJ.length<=1048576->0<fJ.length->
 (callFunc f #[.slice (some a7) xs.length dl, .slice (some b2) fJ.length dx]).run P w= .ok (.enter f #[.slice (some a7) xs.length dl, .slice (some b2) fJ.length dx]) w/\
 Calls P f #[.slice (some a7) xs.length dl, .slice (some b2) fJ.length dx] w λD w'=>D= .returned (.bool (oT fJ xs))/\Below w.heap.size w w'
structure Env(C:aT)(aZ:World)(dB:cU)(dR:Nat->Prop):Prop where
 kg:wV C.P
 g4:OB C aZ
 base:c9 C dB dR .nil C.aY aZ.heap.size aZ
 hM:rN C dB dR
 mem:G2 C.P aZ
def Ends(C:aT)(aZ:World)(bA:Nat)(bM:List Frame)(v:y)(d5:Machine):Prop:=
 ∃J w' fr,Steps C.P d5 (lone fr bM w')/\fr.leaving C.P w' (.returned (aO J v))/\fr.fn=bA/\Below aZ.heap.size aZ w'
structure Cm(C:aT)(aZ:World)(bA:Nat)(bM:List Frame)(bK:k4)(todo:List dG)(fn n ao:Nat)(bb:List hy)(aR:Bool)(ro:Option Nat)(cs:List gB)(I:M y)(h:M ak)(j:Nat)
 (J:cU)(aa:Nat->Prop)(w:World)(c5:Nat)(tmps:Array Value)(bq:List Item)(an:List Frame):Prop where
 V:c9 C J aa h j aZ.heap.size w
 kL:Below aZ.heap.size aZ w
 hM:rN C J aa
 jX:c5<=j
 hL:vm C aa fn ao bb ro
 mode:qk aa bK
 bot:cs=[]->fn=bA/\aR=false/\ro=none
 cs:oA C J aa h bA bM c5 cs an
 todo:match bK with
  | .run=>Cn C J aa h c5 j n ao I tmps todo bq
  |_=>jl J aa n ao I tmps
def nt(C:aT)(aZ:World)(bA:Nat)(bM:List Frame)(aj:hl):Prop:=
 ∀bK todo fn n ao bb aR ro cs I h j v,aj bK todo ⟨fn,n,ao,bb,aR,ro,cs⟩ I h j=some v->
  ∀J aa w c5 tmps bq an,Cm C aZ bA bM bK todo fn n ao bb aR ro cs I h j J aa w c5 tmps bq an->Ends C aZ bA bM v (lone (cj J fn bb aR ro tmps bq (gE J bK)) an w)
section
variable{C:aT}{J c0:cU}{aa dn:Nat->Prop}{h R:M ak}{j au bj:Nat}{w w':World}{n ao:Nat}{ar:Array Oper}
variable{aZ:World}{bA:Nat}{bM:List Frame}{v:y}
def Ends.head{d5 G1:Machine}(a:step C.P d5= .next G1)(co:Ends C aZ bA bM v G1):Ends C aZ bA bM v d5:=by
 obtain⟨J,w',fr,H,K⟩:=co
 exact⟨J,w',fr, .head a H,K⟩
def Ends.steps{d5 G1:Machine}(a:Steps C.P d5 G1)(co:Ends C aZ bA bM v G1):Ends C aZ bA bM v d5:=by
 obtain⟨J,w',fr,H,K⟩:=co
 exact⟨J,w',fr,a.trans H,K⟩
def c9.later(V:c9 C J aa h j bj w)(al:Below w.heap.size w w'):c9 C J aa h j bj w':=
 ⟨V.aY,V.lt,V.u4,λb W a d=>(V.obj b W a d).ad (λ_ _=>rfl) (λ_ a=>a) (al.block _ (V.obj b W a d).lt),V.sep,V.base,V.ez⟩
def Env.now{dB:cU}{dR:Nat->Prop}(bt:Env C aZ dB dR)(al:Below aZ.heap.size aZ w):c9 C dB dR .nil C.aY w.heap.size w:=by
 have V:=bt.base.later al
 refine⟨V.aY,V.lt,V.u4,V.obj,V.sep, ?_,V.ez⟩
 intro b W aI bd _
 exfalso
 unfold Z at bd
 rw[eQ,Zg (by simp[Nat.blt];omega)]at bd
 simp at bd
def Env.later{dB:cU}{dR:Nat->Prop}(bt:Env C aZ dB dR)(al:Below aZ.heap.size aZ w):Env C w dB dR:=
 ⟨bt.kg,⟨bt.g4.val,λf args v a J ox mC=>bt.g4.ok f args v a J ox (al.trans (mC.mono al.size))⟩,bt.now al,bt.hM,λf fn H K ox a7 b2 dl dx xs fJ mC=>bt.mem f fn H K ox a7 b2 dl dx xs fJ (al.trans (mC.mono al.size))⟩
variable{fn:Nat}{bb:List hy}{aR:Bool}{ro:Option Nat}{tmps:Array Value}{bq:List Item}{an:List Frame}
def mx(tmps:Array Value)(bq:List Item):stepG C.P true {frame:=cj J fn bb aR ro tmps bq .run,callers:=an,status:= .running,dying:=none} w=stepG.exec C.P true true (cj J fn bb aR ro tmps bq .run) an none w:=by
 simp[stepG,cj]
def avo{E b:Code}:step C.P (lone (cj J fn bb aR ro tmps (.code (.seq E b)::bq) .run) an w)= .next (lone (cj J fn bb aR ro tmps (.code E:: .code b::bq) .run) an w):=
 step_lone_go (by rw[mx];simp[stepG.exec,cj])
def avp:step C.P (lone (cj J fn bb aR ro tmps (.code .skip::bq) .run) an w)= .next (lone (cj J fn bb aR ro tmps bq .run) an w):=
 step_lone_go (by rw[mx];simp[stepG.exec,cj])
def ave{k:Nat}:step C.P (lone (cj J fn bb aR ro tmps (.code (.label k)::bq) .run) an w)= .next (lone (cj J fn bb aR ro tmps bq .run) an w):=
 step_lone_go (by rw[mx];simp[stepG.exec,cj])
def avb{k:Nat}:step C.P (lone (cj J fn bb aR ro tmps (.inBlock k::bq) .run) an w)= .next (lone (cj J fn bb aR ro tmps bq .run) an w):=
 step_lone_go (by rw[mx];simp[stepG.exec,cj])
def avd{b:Code}:step C.P (lone (cj J fn bb aR ro tmps (.inScope b::bq) .run) an w)= .next (lone (cj J fn bb aR ro tmps bq .run) an w):=
 step_lone_go (by rw[mx];simp[stepG.exec,cj])
def au5{id:Nat}{b:Code}:step C.P (lone (cj J fn bb aR ro tmps (.code (.block id b)::bq) .run) an w)= .next (lone (cj J fn bb aR ro tmps (.code b:: .inBlock id::bq) .run) an w):=
 step_lone_go (by rw[mx];simp[stepG.exec,cj])
def avf{b:Code}:step C.P (lone (cj J fn bb aR ro tmps (.code (.loop b)::bq) .run) an w)= .next (lone (cj J fn bb aR ro tmps (.code b:: .inLoop b::bq) .run) an w):=
 step_lone_go (by rw[mx];simp[stepG.exec,cj])
def avc{b:Code}:step C.P (lone (cj J fn bb aR ro tmps (.inLoop b::bq) .run) an w)= .next (lone (cj J fn bb aR ro tmps (.code b:: .inLoop b::bq) .run) an w):=
 step_lone_go (by rw[mx];simp[stepG.exec,cj])
def avn{b:Code}:step C.P (lone (cj J fn bb aR ro tmps (.code (.scope b)::bq) .run) an w)= .next (lone (cj J fn bb aR ro tmps (.code b:: .inScope b::bq) .run) an w):=
 step_lone_go (by rw[mx];simp[stepG.exec,cj])
def au6{c:Operand}{E b:Code}{t:Bool}(a:k1 tmps c= .bool t):step C.P (lone (cj J fn bb aR ro tmps (.code (.cond c E b)::bq) .run) an w)= .next (lone (cj J fn bb aR ro tmps (.code (if t then E else b)::bq) .run) an w):=
 step_lone_go (by
  have co:(cj J fn bb aR ro tmps (.code (.cond c E b)::bq) .run).eval c= .bool t:=by rw[HL];exact a
  rw[mx]
  simp only[cj]at co
  simp[stepG.exec,cj,co])
def ava{id:Nat}{hR:List Item}(a:Go.exitTo id bq=some hR):step C.P (lone (cj J fn bb aR ro tmps (.code (.exit id)::bq) .run) an w)= .next (lone (cj J fn bb aR ro tmps hR .run) an w):=
 step_lone_go (by rw[mx];simp[stepG.exec,cj,a])
def avk:step C.P (lone (cj J fn bb aR none tmps (.code .ret::bq) .run) an w)= .next (lone (cj J fn bb aR none tmps (.code .ret::bq) .returning) an w):=
 step_lone_go (by rw[mx];simp[stepG.exec,cj])
def au8:step C.P (lone (cj J fn bb aR none tmps [] .run) an w)= .next (lone (cj J fn bb aR none tmps [] .returning) an w):=
 step_lone_go (by rw[mx];simp[stepG.exec,cj])
def avi{id:Nat}:step C.P (lone (cj J fn bb aR ro tmps (.code (.region id ar false)::bq) .run) an w)= .next (lone (cj J fn bb aR ro tmps (.inRegion ar (List.range ar.size)::bq) .run) an w):=
 step_lone_go (by rw[mx];simp[stepG.exec,cj])
def avj{id:Nat}:step C.P (lone (cj J fn bb aR ro tmps (.code (.region id ar true)::bq) .run) an w)=
 .next (lone (cj J fn bb aR ro tmps (.inRegion ar (Region.schedule (C.P.follows .mixedOrders) ar (w.tape w.drawn (.order fn id)))::bq) .run) an w.drew):=
 step_lone_go (by rw[mx];simp[stepG.exec,cj,Question.forced,Question.cut])
def aeb:step C.P (lone (cj J fn bb aR ro tmps (.inRegion ar []::bq) .run) an w)= .next (lone (cj J fn bb aR ro tmps bq .run) an w):=
 step_lone_go (by rw[mx];simp[stepG.exec,cj])
def Tu{i:Nat}{k:List Nat}{W:Oper}(bd:ar[i]? =some W)(br:Region.wanted W (yielded ar tmps)=false):
 step C.P (lone (cj J fn bb aR ro tmps (.inRegion ar (i::k)::bq) .run) an w)= .next (lone ((cj J fn bb aR ro tmps (.inRegion ar (i::k)::bq) .run).finish Go.undef) an w):=
 step_lone_go (by rw[mx];simp[stepG.exec,cj,bd,br])
def SK{ax:Operand->Value}{W:Oper}{tL:Next}(V:(execOp ax W).run C.P w= .ok tL w')(a:∀d,tL≠ .defer d):∀c,W.op≠ .defer c:=by
 intro c aA
 have af:execOp ax W=(do pure (.defer (<-resolve ax c W.type))):=by unfold execOp;rw[aA]
 rw[af]at V
 simp only[Sem.run_bind]at V
 cases bG:(resolve ax c W.type).run C.P w with
 |ok d ox=>
  rw[bG]at V
  simp only[Result.andThen_ok,Sem.run_pure,Result.ok.injEq]at V
  exact a d V.1.symm
 |halt D ox=>
  rw[bG]at V
  simp at V
def GB{i:Nat}{k:List Nat}{W:Oper}(bd:ar[i]? =some W)(br:Region.wanted W (yielded ar tmps)=true)(li:ro=none\/∀c,W.op≠ .defer c):
 stepG C.P true {frame:=cj J fn bb aR ro tmps (.inRegion ar (i::k)::bq) .run,callers:=an,status:= .running,dying:=none} w=
  stepG.apply C.P true (cj J fn bb aR ro tmps (.inRegion ar (i::k)::bq) .run) an none (execOp (k1 tmps) W) w:=by
 rw[mx]
 rcases li with rfl|li
 ·simp[stepG.exec,stepG.oper,cj,Frame.oper?,bd,br,HL]
 ·cases ro with
  |none=>simp[stepG.exec,stepG.oper,cj,Frame.oper?,bd,br,HL]
  |some r=>
   have:∀(c:Call),W.op≠ .defer c:=li
   simp[stepG.exec,stepG.oper,cj,Frame.oper?,bd,br,HL]
   split
   ·rename_i K;exact absurd K (this _)
   ·rfl
def Eg{i:Nat}{k:List Nat}{W:Oper}{ab:Value}{tL:Next}(bd:ar[i]? =some W)(br:Region.wanted W (yielded ar tmps)=true)
 (V:(execOp (k1 tmps) W).run C.P w= .ok tL w')(aI:tL= .value ab\/(tL= .skip/\ab=Go.undef)):
 step C.P (lone (cj J fn bb aR ro tmps (.inRegion ar (i::k)::bq) .run) an w)= .next (lone ((cj J fn bb aR ro tmps (.inRegion ar (i::k)::bq) .run).finish ab) an w'):=
 step_lone_go (by
  rw[GB bd br (.inr (SK V (by rcases aI with rfl|⟨rfl,rfl⟩<;>simp)))]
  rcases aI with rfl|⟨rfl,rfl⟩
  ·simp[stepG.apply,V]
  ·simp[stepG.apply,V])
def ad9{i:Nat}{k:List Nat}{W:Oper}{f:Nat}{args:Array Value}(bd:ar[i]? =some W)(br:Region.wanted W (yielded ar tmps)=true)
 (V:(execOp (k1 tmps) W).run C.P w= .ok (.enter f args) w'):
 step C.P (lone (cj J fn bb aR ro tmps (.inRegion ar (i::k)::bq) .run) an w)= .next (lone (Frame.enter C.P f args .normal) (cj J fn bb aR ro tmps (.inRegion ar (i::k)::bq) .run::an) w'):=
 step_lone_go (by rw[GB bd br (.inr (SK V Zs))];simp[stepG.apply,V,cj])
def avl{i:Nat}{k:List Nat}{W:Oper}{b f:Nat}{aU:Array Value}{assign body:Code}(bd:ar[i]? =some W)(br:Region.wanted W (yielded ar tmps)=true)
 (V:(execOp (k1 tmps) W).run C.P w= .ok (.round b f aU assign body) w'):
 step C.P (lone (cj J fn bb aR ro tmps (.inRegion ar (i::k)::bq) .run) an w)= .next (lone (Frame.round b f aU assign body .normal) (cj J fn bb aR ro tmps (.inRegion ar (i::k)::bq) .run::an) w'):=
 step_lone_go (by rw[GB bd br (.inr (SK V Zs))];simp[stepG.apply,V,cj])
def au7{i:Nat}{k:List Nat}{W:Oper}{d:hy}(bd:ar[i]? =some W)(br:Region.wanted W (yielded ar tmps)=true)
 (V:(execOp (k1 tmps) W).run C.P w= .ok (.defer (lM J d)) w'):
 step C.P (lone (cj J fn bb aR none tmps (.inRegion ar (i::k)::bq) .run) an w)= .next (lone ((cj J fn (d::bb) aR none tmps (.inRegion ar (i::k)::bq) .run).finish Go.undef) an w'):=
 step_lone_go (by rw[GB bd br (.inl rfl)];simp[stepG.apply,V,cj])
def avg{i:Nat}{k:List Nat}{W:Oper}{ab:y}(bd:ar[i]? =some W)(br:Region.wanted W (yielded ar tmps)=true)
 (V:(execOp (k1 tmps) W).run C.P w= .halt (.panic (aO J ab)) w'):
 step C.P (lone (cj J fn bb aR none tmps (.inRegion ar (i::k)::bq) .run) an w)= .next (lone (cj J fn bb aR none tmps (.inRegion ar (i::k)::bq) (gE J (.panicking [⟨ab,false⟩]))) an w'):=
 step_lone_go (by rw[GB bd br (.inl rfl)];simp[stepG.apply,V,cj,Frame.raise,gE,s7])
def avh{i:Nat}{k:List Nat}{W:Oper}{ab:Value}{dH:List Frame}(bd:ar[i]? =some W)(br:Region.wanted W (yielded ar tmps)=true)
 (V:(execOp (k1 tmps) W).run C.P w= .ok .recover w')
 (a8:Go.tryRecover (cj J fn bb aR none tmps (.inRegion ar (i::k)::bq) .run) an=some (ab,dH)\/(Go.tryRecover (cj J fn bb aR none tmps (.inRegion ar (i::k)::bq) .run) an=none/\ab= .nilIface/\dH=an)):
 step C.P (lone (cj J fn bb aR none tmps (.inRegion ar (i::k)::bq) .run) an w)= .next (lone ((cj J fn bb aR none tmps (.inRegion ar (i::k)::bq) .run).finish ab) dH w'):=
 step_lone_go (by
  rw[GB bd br (.inl rfl)]
  have D:(cj J fn bb aR none tmps (.inRegion ar (i::k)::bq) .run).roundOf=none:=rfl
  rcases a8 with a8|⟨a8,rfl,rfl⟩
  ·simp[stepG.apply,V,D,a8]
  ·simp[stepG.apply,V,D,a8])
def au4{b:Nat}(V:(Instr.beginRound (J b).cA).run C.P w= .ok () w'):
 step C.P (lone (cj J fn bb aR (some b) tmps (.beginRound::bq) .run) an w)= .next (lone (cj J fn bb aR (some b) tmps bq .run) an w'):=
 step_lone_go (by rw[mx];simp[stepG.exec,stepG.apply,cj,V,Frame.finish])
def au9{b:Nat}{iF:Option Code}(V:(Instr.endLoop b).run C.P w= .ok iF w'):
 step C.P (lone (cj J fn bb aR ro tmps (.endRangeFunc b::bq) .run) an w)= .next (lone (cj J fn bb aR ro tmps ((iF.map Item.code).toList++bq) .run) an w'):=
 step_lone_go (by rw[mx];simp[stepG.exec,cj,V])
def aea{f:Operand}{params:Array Tmp}{assign body:Code}{b:Nat}{mark:List Deferred}{g:Nat}{args:Array Value}{e4:World}{d:Deferred}
 (bt:(Instr.enterLoop fn tmps params assign body (ro.map λk=>(J k).cA)).run C.P w= .ok (b,mark) e4)
 (na:(resolve (k1 tmps) {callee:= .value f,args:= #[.const (.func (.yield b) #[] #[])],argTypes:= #[]} 0).run C.P e4= .ok d e4)(Re:(invoke d.target d.args).run C.P e4= .ok (.enter g args) w'):
 step C.P (lone (cj J fn bb aR ro tmps (.code (.rangeFunc f params assign body)::bq) .run) an w)=
  .next (lone (Frame.enter C.P g args .normal) ({cj J fn bb aR ro tmps (.inRangeFunc b::bq) .run with defers:=mark++bb.map (lM J)}::an) w'):=
 step_lone_go (by
  rw[mx]
  have cp:({cj J fn bb aR ro tmps (.inRangeFunc b::bq) .run with defers:=mark++bb.map (lM J)}:Frame).eval=k1 tmps:=by rw[HL];rfl
  simp only[cj]at cp
  simp[stepG.exec,cj,Sem.runT_eq,bt,GStep.bare_after,stepG.apply,cp,Sem.run_bind,na,Re,Result.andThen])
def avm{iF:Option Code}{b:Nat}{ab:Value}{g:Frame}(aG:(iF=none/\bq=[])\/(iF=some .ret/\∃q,bq= .code .ret::q)\/(∃id q,iF=some (.exit id)/\bq= .code (.exit id)::q/\Go.exitTo id q=none))
 (bt:(Instr.endRound (J b).cA iF).run C.P w= .ok ab w'):
 step C.P (lone (cj J fn bb false (some b) tmps bq .run) (g::an) w)= .next (lone (g.finish ab) an w'):=
 step_lone_go (by
  rw[mx]
  rcases aG with ⟨rfl,rfl⟩|⟨rfl,q,rfl⟩|⟨id,q,rfl,rfl,af⟩
  ·simp[stepG.exec,cj,Sem.runT_eq,bt,GStep.bare_after,doReturn]
  ·simp[stepG.exec,cj,Sem.runT_eq,bt,GStep.bare_after,doReturn]
  ·simp[stepG.exec,cj,Sem.runT_eq,bt,GStep.bare_after,doReturn,af])
def avq{r:Nat}{ca:List y}{ds:List hy}{pC:List Deferred}{mode:FrameMode}{dn:List hy}(bc:mode≠ .run)(bt:(Instr.takeDeferred (J r).cA).run C.P w= .ok pC w')(aH:pC++ds.map (lM J)=dn.map (lM J)):
 step C.P (lone (cj J fn (⟨.collected r,ca⟩::ds) aR ro tmps bq mode) an w)= .next (lone (cj J fn dn aR ro tmps bq mode) an w'):=
 step_lone_go (by
  cases mode with
  |run=>exact absurd rfl bc
  |returning=>simp[stepG,unwind,cj,lM,Cw,Sem.runT_eq,bt,GStep.bare_after,aH]
  |panicking fQ=>simp[stepG,unwind,cj,lM,Cw,Sem.runT_eq,bt,GStep.bare_after,aH])
end
section
variable{C:aT}{J c0 dB:cU}{aa dn dR:Nat->Prop}{h R:M ak}{j au bj:Nat}{w w':World}{n ao:Nat}{ar:Array Oper}
variable{aZ:World}{bA:Nat}{bM:List Frame}{v:y}{aj:hl}
variable{fn:Nat}{bb:List hy}{aR:Bool}{ro:Option Nat}{cs:List gB}{I:M y}{tmps:Array Value}{bq:List Item}{an:List Frame}{bR aF:Nat}
structure i1(C:aT)(aZ:World)(bA:Nat)(bM:List Frame)(fn ao:Nat)(bb:List hy)(aR:Bool)(ro:Option Nat)(cs:List gB)(h:M ak)(j:Nat)(J:cU)(aa:Nat->Prop)(w:World)(c5:Nat)(an:List Frame):Prop where
 V:c9 C J aa h j aZ.heap.size w
 kL:Below aZ.heap.size aZ w
 hM:rN C J aa
 jX:c5<=j
 hL:vm C aa fn ao bb ro
 bot:cs=[]->fn=bA/\aR=false/\ro=none
 cs:oA C J aa h bA bM c5 cs an
def i1.eS{c5:Nat}(a:i1 C aZ bA bM fn ao bb aR ro cs h j J aa w c5 an):aZ.heap.size<=w.heap.size:=a.kL.size
def i1.ext{c5:Nat}(a:i1 C aZ bA bM fn ao bb aR ro cs h j J aa w c5 an)(V:c9 C c0 dn R au aZ.heap.size w')(af:is C c5 J aa h aZ.heap.size w c0 dn R w')(aI:j<=au):
 i1 C aZ bA bM fn ao bb aR ro cs R au c0 dn w' c5 an:=
 ⟨V,a.kL.trans af.below,a.hM.ad af.iJ af.jw,ZB a.jX aI,a.hL.ad af.jw,a.bot,a.cs.ad af⟩
def i1.state{c5:Nat}{todo:List dG}(a:i1 C aZ bA bM fn ao bb aR ro cs h j J aa w c5 an)(a8:Cn C J aa h c5 j n ao I tmps todo bq):
 Cm C aZ bA bM .run todo fn n ao bb aR ro cs I h j J aa w c5 tmps bq an:=⟨a.V,a.kL,a.hM,a.jX,a.hL,trivial,a.bot,a.cs,a8⟩
def Cm.ai0{todo:List dG}{c5:Nat}(a:Cm C aZ bA bM .run todo fn n ao bb aR ro cs I h j J aa w c5 tmps bq an):i1 C aZ bA bM fn ao bb aR ro cs h j J aa w c5 an/\Cn C J aa h c5 j n ao I tmps todo bq:=
 ⟨⟨a.V,a.kL,a.hM,a.jX,a.hL,a.bot,a.cs⟩,a.todo⟩
def oA.inv{c5 aS:Nat}{todo:List dG}{bK:k4}(a:oA C J aa h bA bM c5 (⟨fn,aS,ao,I,todo,bb,bK,aR,ro⟩::cs) an):
 ∃bR tmps bq dH,an=cj J fn bb aR ro tmps bq (gE J bK)::dH/\yR C J aa h bR c5 aS ao I tmps bK todo bq/\qk aa bK/\vm C aa fn ao bb ro/\(cs=[]->fn=bA/\aR=false/\ro=none)/\bR<=c5/\oA C J aa h bA bM bR cs dH:=by
 cases a with
 |cons H bc K aC bm b1=>exact⟨_,_,_,_,rfl,H,bc,K,aC,bm,b1⟩
def W7(f9:nt C aZ bA bM aj){f:Nat}{args:List y}{c5:Nat}{CC:Bool}{s8:List gB}{vL:List Frame}(V:c9 C J aa h j aZ.heap.size w)(al:Below aZ.heap.size aZ w)(hM:rN C J aa)(aB:c5<=j)
 (hZ:oA C J aa h bA bM c5 s8 vL)(LR:s8=[]->f=bA/\CC=false)(iQ:ea aa args)(a:n4 aj C f args CC s8 h j=some v):Ends C aZ bA bM v (lone (Frame.enter C.P f (bO J args).toArray (if CC then .deferred else .normal)) vL w):=by
 unfold n4 at a
 split at a
 ·rename_i func bW
  split at a
  ·rename_i c aA
   simp only[lT,eF,Zq]at a
   obtain⟨⟨⟨H,K⟩,am⟩,a⟩:=a
   have H:=h4 H
   have qu:Frame.enter C.P f (bO J args).toArray (if CC then .deferred else .normal)=cj J f [] CC none ((bO J args).toArray++Array.replicate (func.ntmps-args.length) Go.undef) [.code c] (gE J .run):=by
    simp[Frame.enter,cj,gE,bW,aA,jR]
   rw[qu]
   refine f9 _ _ _ _ _ _ _ _ _ _ _ _ v a J aa w c5 _ _ vL ?_
   refine⟨V,al,hM,aB,⟨Zs,Zs,func,bW,am⟩,trivial,λD=>⟨(LR D).1,(LR D).2,rfl⟩,hZ, .plain (.cons (.code K) .nil) ⟨?_, ?_⟩⟩
   ·simp[jR];omega
   ·intro t ab _ a6
    rw[lE]at a6
    have cJ:t<args.length:=(Zb.1 a6).1
    refine⟨?_,Ap iQ a6⟩
    rw[YG (by simpa[jR]using cJ)]
    simp[y5,a6]
  ·simp at a
 ·simp at a
def Le(f9:nt C aZ bA bM aj){f:Nat}{args:List y}{c5:Nat}{s8:List gB}{vL:List Frame}(V:c9 C J aa h j aZ.heap.size w)(al:Below aZ.heap.size aZ w)(hM:rN C J aa)(aB:c5<=j)
 (hZ:oA C J aa h bA bM c5 s8 vL)(LR:s8=[]->f=bA)(iQ:ea aa args)(a:n4 aj C f args false s8 h j=some v):Ends C aZ bA bM v (lone (Frame.enter C.P f (bO J args).toArray .normal) vL w):=
 W7 (CC:=false) f9 V al hM aB hZ (λD=>⟨LR D,rfl⟩) iQ a
def E9(f9:nt C aZ bA bM aj){ew:dG}{q:List dG}{ab:y}(aD:i1 C aZ bA bM fn ao bb aR ro cs h j J aa w bR an)(aE:mA C J aa h bR aF n ao I tmps (ew::q) bq)(sk:aF<=j)(vM:b7 aa ab)
 (a:(match oN ew ab with|some ht=>aj .run (ht::q) ⟨fn,n,ao,bb,aR,ro,cs⟩ I h j|none=>none)=some v):
 Ends C aZ bA bM v (lone ((cj J fn bb aR ro tmps bq .run).finish (aO J ab)) an w):=by
 obtain⟨ayk,ky,ht,hw,hR,bB,cp,fj,jn⟩:=ak5 (fn:=fn) (bb:=bb) (aR:=aR) (ro:=ro) (mode:= .run) aE sk vM
 cases bB
 rw[cp]at a
 rw[fj]
 exact f9 _ _ _ _ _ _ _ _ _ _ _ _ v a J aa w bR hw hR an (aD.state jn)
def aqW{f:Nat}{args:List y}{ab:y}(cz:Env C aZ dB dR)(al:Below aZ.heap.size aZ w)(bd:C.g4 f args=some ab):
 (
  (∀ir,(callFunc f (bO ir args).toArray).run C.P w= .ok (.value (aO ir ab)) w)\/
  ((∀ir,(callFunc f (bO ir args).toArray).run C.P w= .ok (.enter f (bO ir args).toArray) w)/\∀ir,Calls C.P f (bO ir args).toArray w λD w'=>D= .returned (aO ir ab)/\Below w.heap.size w w'))/\∀db,b7 db ab:=by
 obtain⟨⟨g1,b5⟩,cR,ep⟩:=cz.g4.val f args ab bd
 refine⟨?_,b5⟩
 rcases cz.g4.ok f args ab bd dB w al with a|⟨H,K⟩
 ·left;intro ir;rw[cR ir dB,g1 ir dB];exact a
 ·right;exact⟨λir=>by rw[cR ir dB];exact H,λir=>by rw[cR ir dB,g1 ir dB];exact K⟩
def ajt:∀{k:List y}{x:List Nat},xa k=some x->k=x.map (λn=>y.int .u8 (Int.ofNat n))/\∀c∈x,c<256:=by
 intro k
 induction k with
 |nil=>intro x a;simp[xa]at a;subst a;simp
 |cons E k aj=>
  intro x a
  unfold xa at a
  split at a
  ·rename_i f8;cases f8
  ·rename_i n cb dJ
   cases dJ
   simp only[eF]at a
   obtain⟨aI,a⟩:=a
   split at a
   ·rename_i r V
    cases a
    obtain⟨H,K⟩:=aj V
    refine⟨by rw[ZJ, <-H],λc aA=> ?_⟩
    rcases Zr.1 aA with rfl|aA
    ·exact j4 aI
    ·exact K c aA
   ·cases a
  ·cases a
def Pc(V:c9 C J aa h j bj w){b W len:Nat}{x:List Nat}(qj:aa b)(a:∃k,ix C h b W len=some k/\xa k=some x):
 len=x.length/\(∀c∈x,c<256)/\∀i c,x[i]? =some c->w.cell? ⟨(J b).cA,(J b).dQ+W+i,none⟩=some (.int .u8 (Int.ofNat c)):=by
 obtain⟨k,aB,aE⟩:=a
 obtain⟨rfl,K⟩:=ajt aE
 unfold ix at aB
 split at aB
 ·rename_i c aA
  obtain⟨dv,cD⟩:=M.Lt _ _ _ _ aB
  rw[Zp]at dv
  refine⟨dv.symm,K,λi d aH=> ?_⟩
  have aF:i<len:=zE (Zb.1 aH).1
  have bw:=cD i aF
  rw[Zy,aH]at bw
  have:=(Pl V qj aA bw).1
  rw[<-ZX]at this
  exact this
 ·simp only[eF,Zc]at aB
  have bi:len=0:=Zl aB.1
  have af:x=[]:=List.map_eq_nil_iff.1 aB.2.symm
  subst af
  exact⟨bi,Zs,λi c aA=>by simp at aA⟩
def ar8{f:Nat}{args:List y}{ab:y}(cz:Env C aZ dB dR)(V:c9 C J aa h j aZ.heap.size w)(al:Below aZ.heap.size aZ w)(bc:FZ C f=true)(iQ:ea aa args)(bd:Cp C h args=some ab):
 (callFunc f (bO J args).toArray).run C.P w= .ok (.enter f (bO J args).toArray) w/\(Calls C.P f (bO J args).toArray w λD w'=>D= .returned (aO J ab)/\Below w.heap.size w w')/\b7 aa ab:=by
 unfold FZ at bc
 split at bc
 ·rename_i fn bW
  rw[eQ]at bc
  split at bc
  ·have gy:fn.name= "bytes.Contains":=by simpa using bc
   unfold Cp at bd
   split at bd
   ·rename_i b W len cap e
    have qj:aa b:=iQ.1
    have q4:b7 aa e:=iQ.2.1
    split at bd
    ·rename_i x t af a8
     simp only[eF,Zq]at bd
     obtain⟨⟨⟨⟨⟨H,K⟩,am⟩,aC⟩,bm⟩,bd⟩:=bd
     have H:=h4 H
     have K:=j4 K
     have am:=h4 am
     have aC:=j4 aC
     have bm:=h4 bm
     obtain⟨fX,hx,jK⟩:=Pc V (b:=b) (W:=W) (len:=len) (x:=x) qj (by
      unfold sZ at af
      simp only at af
      split at af
      ·rename_i k aB;exact⟨k,aB,af⟩
      ·cases af)
     obtain⟨cr,kf,dx,cp,vh,Cf⟩:∃cr kf dx,aO J e= .slice (some ⟨cr,kf,none⟩) t.length dx/\(∀c∈t,c<256)/\∀i c,t[i]? =some c->w.cell? ⟨cr,kf+i,none⟩=some (.int .u8 (Int.ofNat c)):=by
      unfold sZ at a8
      split at a8
      ·rename_i cQ o' MQ Cy
       split at a8
       ·rename_i k aB
        obtain⟨cF,cH,d7⟩:=Pc V (b:=cQ) (W:=o') (len:=MQ) (x:=t) q4 ⟨k,aB,a8⟩
        exact⟨_,_,Cy,by simp only[aO];rw[cF],cH,d7⟩
       ·cases a8
      ·rename_i cQ o' MQ Cy
       split at a8
       ·rename_i k aB
        obtain⟨cF,cH,d7⟩:=Pc V (b:=cQ) (W:=o') (len:=MQ) (x:=t) q4 ⟨k,aB,a8⟩
        exact⟨_,_,_,by simp only[aO];rw[cF],cH,d7⟩
       ·cases a8
      ·cases a8
     have na:=cz.mem f fn bW gy w ⟨(J b).cA,(J b).dQ+W,none⟩ ⟨cr,kf,none⟩ cap dx x t al hx vh (λi c aA=>by rw[oH];exact jK i c aA) (λi c aA=>by rw[oH];exact Cf i c aA) Zo Zo bm aC
     have akt:(bO J [.slice b W len cap,e]).toArray= #[.slice (some ⟨(J b).cA,(J b).dQ+W,none⟩) x.length cap, .slice (some ⟨cr,kf,none⟩) t.length dx]:=by
      simp only[bO,aO,cp];rw[fX]
     rw[akt]
     have a6:ab= .bool (oT t x):=by
      unfold m3 at bd
      rw[eQ]at bd
      split at bd<;>simp_all
     subst a6
     exact⟨na.1,na.2,trivial⟩
    ·cases bd
   ·cases bd
  ·cases bc
 ·cases bc
mutual
def NJ:∀(d:Nat) (x e:y),y.same d x e=true->x=e
 |0,_,_,a=>by simp[y.same]at a
 |d+1,x,e,a=>by
  unfold y.same at a
  split at a<;>(try(cases a;done))
  ·simp at a;rw[a]
  ·simp at a;rw[a.1,a.2]
  ·rw[(Jw _ _).1 a]
  ·simp only[Zq]at a;rw[Zl a.1,Zl a.2]
  ·rfl
  ·simp only[Zq]at a;rw[Zl a.1.1.1,Zl a.1.1.2,Zl a.1.2,Zl a.2]
  ·simp only[Zq]at a;rw[Zl a.1.1.1,Zl a.1.1.2,Zl a.1.2,Zl a.2]
  ·rfl
  ·rw[Zl a]
  ·rfl
  ·simp only[Zq,Zi]at a
   rw[a.1.1,JP d _ _ a.1.2,JP d _ _ a.2]
  ·rfl
  ·simp only[Zq]at a;rw[Zl a.1,NJ d _ _ a.2]
  ·rfl
  ·rw[JP d _ _ a]
  ·rw[JP d _ _ a]
def JP:∀(d:Nat) (x e:List y),qE (y.same d) x e=true->x=e
 |_,[],[],_=>rfl
 |_,[],_::_,a=>by simp[qE]at a
 |_,_::_,[],a=>by simp[qE]at a
 |d,E::x,b::e,a=>by
  simp only[qE,Zq]at a
  rw[NJ d _ _ a.1,JP d _ _ a.2]
end
def Ends.same{d5:Machine}{gj:y}(bt:∀J,aO J gj=aO J v)(a:Ends C aZ bA bM gj d5):Ends C aZ bA bM v d5:=by
 obtain⟨J,w',fr,H,K,am⟩:=a
 exact⟨J,w',fr,H,by rw[<-bt];exact K,am⟩
def alv{ew:dG}{q:List dG}{bX:ia}:∀(k:List (y×M ak)) (v:y),xp aj ew q bX I j k=some v->∀ab R,(ab,R)∈k->
 ∃gj,(match oN ew ab with|some ht=>aj .run (ht::q) bX I R j|none=>none)=some gj/\∀J,aO J gj=aO J v:=by
 intro k
 induction k with
 |nil=>intro v a;simp[xp]at a
 |cons p k nb=>
  intro v a ab R bc
  obtain⟨E,iv⟩:=p
  cases k with
  |nil=>
   simp only[xp]at a
   simp at bc
   obtain⟨rfl,rfl⟩:=bc
   exact⟨v,a,λ_=>rfl⟩
  |cons ai k=>
   simp only[xp]at a
   split at a
   ·rename_i ht aoh
    split at a
    ·rename_i x e af B
     simp only[eF,Zc]at a
     obtain⟨ay,rfl⟩:=a
     rcases Zr.1 bc with D|bc
     ·cases D
      exact⟨x,by rw[aoh];exact af,λ_=>rfl⟩
     ·obtain⟨gj,g1,b5⟩:=nb e B ab R bc
      exact⟨gj,g1,λJ=>by rw[b5 J,NJ _ _ _ ay]⟩
    ·simp at a
   ·simp at a
def avN{ab:y}{cZ:List gB}{c5:Nat}{bq:List Item}(hZ:oA C J aa h bA bM c5 cs an)(a:BW aR cs=some (ab,cZ)):
 ∃dH,oA C J aa h bA bM c5 cZ dH/\b7 aa ab/\(cZ=[]->cs=[])/\
  (Go.tryRecover (cj J fn bb aR none tmps bq .run) an=some (aO J ab,dH)\/(Go.tryRecover (cj J fn bb aR none tmps bq .run) an=none/\aO J ab= .nilIface/\dH=an)):=by
 unfold BW at a
 rw[eQ]at a
 cases aR with
 |false=>
  simp at a
  obtain⟨rfl,rfl⟩:=a
  exact⟨an,hZ,trivial,id, .inr ⟨by simp[Go.tryRecover,cj],rfl,rfl⟩⟩
 |true=>
  simp only[ZE]at a
  cases cs with
  |nil=>simp at a
  |cons c rest=>
   obtain⟨gF,aS,kT,cP,vd,f7,mO,jm,lm⟩:=c
   obtain⟨rl,hw,hR,dH,rfl,bS,ck,cM,eL,eM,dS⟩:=hZ.inv
   have same:(ab,cZ)=(y.nilIface,(⟨gF,aS,kT,cP,vd,f7,mO,jm,lm⟩:gB)::rest)->(∀v Bx,gE J mO≠ .panicking (⟨v,false,false⟩::Bx))->
    ∃Ql,oA C J aa h bA bM c5 cZ Ql/\b7 aa ab/\(cZ=[]->(⟨gF,aS,kT,cP,vd,f7,mO,jm,lm⟩:gB)::rest=[])/\
     (Go.tryRecover (cj J fn bb true none tmps bq .run) (cj J gF f7 jm lm hw hR (gE J mO)::dH)=some (aO J ab,Ql)\/
      (Go.tryRecover (cj J fn bb true none tmps bq .run) (cj J gF f7 jm lm hw hR (gE J mO)::dH)=none/\aO J ab= .nilIface/\Ql=cj J gF f7 jm lm hw hR (gE J mO)::dH)):=by
    intro D cE
    simp only[YO]at D
    obtain⟨rfl,rfl⟩:=D
    refine⟨_,hZ,trivial,λD=>(by cases D), .inr ⟨?_,rfl,rfl⟩⟩
    simp only[Go.tryRecover,cj,ZE]
   simp only at a
   split at a
   ·rename_i v Bx
    simp only[Zc,YO]at a
    obtain⟨rfl,rfl⟩:=a
    have bw:qk aa (.panicking (⟨v,true⟩::Bx)):=by
     intro p ay
     rcases Zr.1 ay with rfl|ay
     ·exact ck ⟨v,false⟩ (Zt ..)
     ·exact ck p (Zn _ ay)
    refine⟨cj J gF f7 jm lm hw hR (gE J (.panicking (⟨v,true⟩::Bx)))::dH, .cons (bK:= .panicking (⟨v,true⟩::Bx)) bS bw cM eL eM dS,ck ⟨v,false⟩ (Zt ..),λD=>(by cases D), .inl ?_⟩
    simp[Go.tryRecover,cj,gE,s7]
   ·rename_i jV
    simp only[Zc]at a
    refine same a.symm λv Bx D=> ?_
    cases mO with
    |run=>cases D
    |returning=>cases D
    |panicking fQ=>
     cases fQ with
     |nil=>cases D
     |cons p da=>
      obtain⟨atG,tP⟩:=p
      cases tP with
      |true=>simp[gE,s7]at D
      |false=>exact jV atG da rfl
def auE{aS:Nat}:∀(da:List Nat) (ca:List y) (I cP:M y) (tmps:Array Value),jl J aa aS ao I tmps->ea aa ca->wz aS da ca I=some cP->
 da.length=ca.length/\jl J aa aS ao cP ((da.zip (bO J ca)).foldl (λtmps p=>tmps.setIfInBounds p.1 p.2) tmps):=by
 intro da
 induction da with
 |nil=>
  intro ca I cP tmps a8 _ a
  cases ca with
  |nil=>simp[wz]at a;subst a;exact⟨rfl,by simpa[bO]using a8⟩
  |cons E ca=>simp[wz]at a
 |cons p da aqk=>
  intro ca I cP tmps a8 bw a
  cases ca with
  |nil=>simp[wz]at a
  |cons E ca=>
   simp only[wz,eF]at a
   obtain⟨ay,a⟩:=a
   have ay:=j4 ay
   have RS:jl J aa aS ao (I.set p (some E)) (tmps.setIfInBounds p (aO J E)):=by
    refine⟨by simp[a8.size],λt ab aB a6=> ?_⟩
    rw[M.j7]at a6
    by_cases D:p=t
    ·subst D
     simp at a6;subst a6
     exact⟨by simp[a8.size,ay],bw.1⟩
    ·simp[D]at a6
     obtain⟨H,K⟩:=a8.val t ab aB a6
     exact⟨by rw[Array.getElem?_setIfInBounds_ne D];exact H,K⟩
   obtain⟨H,K⟩:=aqk ca _ cP _ RS bw.2 a
   exact⟨by simp[H],by simpa[bO]using K⟩
def V6(cz:Env C aZ dB dR)(f9:nt C aZ bA bM aj){ew:dG}{q:List dG}{i:Nat}{k:List Nat}{W:Oper}{r:dZ}(aD:i1 C aZ bA bM fn ao bb aR ro cs h j J aa w bR an)
 (aE:mA C J aa h bR aF n ao I tmps (ew::q) (.inRegion ar (i::k)::bq))(Ma:bR<=aF)(sk:aF<=j)(bd:ar[i]? =some W)(br:Region.wanted W (yielded ar tmps)=true)
 (ld:it C J aa h j aZ.heap.size w (execOp (k1 tmps) W) r)(a:n0 r aj C ew q ⟨fn,n,ao,bb,aR,ro,cs⟩ I h j=some v):
 Ends C aZ bA bM v (lone (cj J fn bb aR ro tmps (.inRegion ar (i::k)::bq) .run) an w):=by
 have mG:bR<=j:=ZB Ma sk
 have done:∀v ab R au,yE C J aa h j aZ.heap.size w (execOp (k1 tmps) W) ab R au->(match oN ew ab with|some ht=>aj .run (ht::q) ⟨fn,n,ao,bb,aR,ro,cs⟩ I R au|none=>none)=some v->
  Ends C aZ bA bM v (lone (cj J fn bb aR ro tmps (.inRegion ar (i::k)::bq) .run) an w):=by
  intro v ab R au aH a
  obtain⟨c0,dn,w',tL,cB,cC,dI,iy,fR,i7⟩:=aH
  have xV:tL= .value (aO c0 ab)\/(tL= .skip/\aO c0 ab=Go.undef):=cC.imp id λ⟨E,b⟩=>⟨E,by rw[b];rfl⟩
  refine .head (Eg bd br cB xV) ?_
  rw[<-Gf fR.iJ aD.hL]
  exact E9 f9 (aD.ext iy (fR.mono mG) i7) (aE.ad (fR.mono sk)) (ZB sk i7) dI a
 cases r with
 |val ab=>exact done v ab h j ld a
 |fq ab R au=>exact done v ab R au ld a
 |enter f args=>
  obtain⟨H,K⟩:=ld
  refine .head (ad9 bd br H) ?_
  simp only[n0]at a
  refine Le f9 aD.V aD.kL aD.hM sk ?_ (λD=>by simp[Eh]at D) K a
  exact .cons (bK:= .run) aE trivial aD.hL aD.bot Ma aD.cs
 |known f args ab=>
  obtain⟨H,K,am⟩:=ld
  have aon:((callFunc f (bO J args).toArray).run C.P w= .ok (.value (aO J ab)) w\/
   ((callFunc f (bO J args).toArray).run C.P w= .ok (.enter f (bO J args).toArray) w/\Calls C.P f (bO J args).toArray w λD w'=>D= .returned (aO J ab)/\Below w.heap.size w w'))/\b7 aa ab:=by
   rcases H with H|⟨H,q5⟩
   ·obtain⟨aG,vM⟩:=aqW cz aD.kL H
    exact⟨aG.imp (λa=>a J) (λa=>⟨a.1 J,a.2 J⟩),vM aa⟩
   ·obtain⟨g1,b5,cR⟩:=ar8 cz aD.V aD.kL H am q5
    exact⟨.inr ⟨g1,b5⟩,cR⟩
  obtain⟨aG,vM⟩:=aon
  simp only[n0]at a
  rcases aG with aG|⟨mE,gH⟩
  ·rw[aG]at K
   refine .head (Eg bd br K (.inl rfl)) ?_
   exact E9 f9 aD aE sk vM a
  ·rw[mE]at K
   refine .head (ad9 bd br K) ?_
   obtain⟨D,w',fr,⟨rfl,Ij⟩,apN,_,L8⟩:=gH (cj J fn bb aR ro tmps (.inRegion ar (i::k)::bq) .run::an)
   refine .steps apN (.head (step_leave_returned L8) ?_)
   have af:is C aF J aa h aZ.heap.size w J aa h w':=⟨λ_ _=>rfl,λ_ a=>a,λ_ a=> .inl a,λ_ _ _=>rfl,Ij.mono aD.eS⟩
   exact E9 f9 (aD.ext (aD.V.later Ij) (af.mono Ma) (Zj _)) (aE.ad af) sk vM a
 |round b args=>
  obtain⟨H,K,am⟩:=ld
  simp only[n0]at a
  split at a
  ·rename_i st qH gF aS kT cP params assign body f7 hC
   split at a
   ·rename_i aig nC
    obtain⟨hw,gO,kf,sz,Gk,Bs,sA,Bt⟩:=aD.V.obj b _ hC am
    obtain⟨cF,cH⟩:=auE params args cP aig hw kf K nC
    rw[run_yield gO (by simp[jR,cF])]at H
    refine .head (avl bd br H) ?_
    have qu:Frame.round (J b).cA gF (((params.toArray).zip (bO J args).toArray).foldl (λtmps (t,E)=>tmps.setIfInBounds t E) hw) assign body .normal=
     cj J gF [] false (some b) ((params.zip (bO J args)).foldl (λtmps p=>tmps.setIfInBounds p.1 p.2) hw) [.code assign, .beginRound, .code body] (gE J .run):=by
     simp[Frame.round,cj,gE]
    simp only at qu ⊢
    rw[qu]
    refine f9 _ _ _ _ _ _ _ _ _ _ _ _ v a J aa w aF _ _ _ ?_
    refine⟨aD.V,aD.kL,aD.hM,sk,⟨Zs,λk aB=>(by cases aB;exact am),Bt⟩,trivial,λD=>by simp[Eh]at D, .cons (bK:= .run) aE trivial aD.hL aD.bot Ma aD.cs, ?_⟩
    exact .plain (.cons (.code Gk) (.cons .begin (.cons (.code Bs) .nil))) cH
   ·simp at a
  ·simp at a
 |defer d=>
  obtain⟨H,K⟩:=ld
  simp only[n0]at a
  cases ro with
  |some b=>simp at a
  |none=>
   simp only at a
   refine .head (au7 bd br H) ?_
   have an3:vm C aa fn ao (d::bb) none:=⟨λlx aH=>by
    rcases Zr.1 aH with rfl|aH
    ·exact K
    ·exact aD.hL.bb lx aH,aD.hL.ro,aD.hL.fn⟩
   exact E9 (ab:=undef) f9 ⟨aD.V,aD.kL,aD.hM,aD.jX,an3,aD.bot,aD.cs⟩ aE sk trivial a
 |recover=>
  simp only[n0]at a
  cases ro with
  |some b=>simp at a
  |none=>
   simp only at a
   split at a
   ·rename_i ab cZ apl
    obtain⟨dH,g1,b5,cR,ep⟩:=avN (fn:=fn) (bb:=bb) (tmps:=tmps) (bq:= .inRegion ar (i::k)::bq) aD.cs apl
    refine .head (avh bd br ld ep) ?_
    exact E9 (ab:=ab) f9 ⟨aD.V,aD.kL,aD.hM,aD.jX,aD.hL,λD=>aD.bot (cR D),g1⟩ aE sk b5 a
   ·simp at a
 |panic ab=>
  obtain⟨H,K⟩:=ld
  simp only[n0]at a
  cases ro with
  |some b=>simp at a
  |none=>
   simp only at a
   refine .head (avg bd br H) ?_
   refine f9 _ _ _ _ _ _ _ _ _ _ _ _ v a J aa w bR tmps _ an ?_
   exact⟨aD.V,aD.kL,aD.hM,aD.jX,aD.hL,λp ay=>by simp at ay;subst ay;exact K,aD.bot,aD.cs,aE.drop⟩
 |fork cb=>
  obtain⟨ab,R,bc,aH⟩:=ld
  simp only[n0]at a
  obtain⟨gj,g1,b5⟩:=alv cb v a ab R bc
  exact .same b5 (done gj ab R j aH g1)
def acz{W:Op}{eg:Operand->Option y}{b:Nat}{ab:y}{cK:ak}{db:Nat->Prop}(a:qc W C eg b=some (ab,cK)):vo C db cK:=by
 have key:∀k:List y,vo C db (.cells (M.ofList k 0 .nil) k.length .own):=λk=>⟨λ_ _ _ a=>(by cases a),λ_ _ _ a=>(by cases a;exact Gl)⟩
 have aqU:vo C db (.map [] 0):=⟨λ_ _ _ a=>(by cases a),λ_ _ _ a=>(by cases a)⟩
 cases W<;>simp only[qc]at a<;>(try(cases a;done))
 case alloc t=>unfold DM at a;split at a<;>simp at a;rw[<-a.2];exact key _
 case box t x=>unfold Jn at a;split at a<;>simp at a;rw[<-a.2];exact key _
 case buildSlice t len parts=>
  unfold Jo at a
  split at a
  ·split at a
   ·simp only[eF]at a
    obtain⟨_,a⟩:=a
    split at a<;>simp at a
    rw[<-a.2];exact key _
   ·simp at a
  ·simp at a
 case makeMap t r=>cases r<;>simp at a;rw[<-a.2];exact aqU
def akg{i:Nat}(aF:ar.toList.drop i=[]):ar.size<=i:=by simpa using aF
def ak7{ao:Nat}{aq:List (Nat×y)}:∀(k:List Oper) (i:Nat) (wr:List (Nat×Nat)) (nX I cP:M y),(∀t,fi ao t=true->I.get t=match ed wr t with|some Y=>ed aq Y|none=>nX.get t)->
 xn aq (lb ao k i) I=some cP->∀t,fi ao t=true->cP.get t=match ed (vf k i wr) t with|some Y=>ed aq Y|none=>nX.get t:=by
 intro k
 induction k with
 |nil=>intro i wr nX I cP nC a;simp[lb,xn]at a;subst a;exact nC
 |cons W k aj=>
  intro i wr nX I cP nC a
  simp only[lb]at a
  simp only[vf]
  split at a
  ·rename_i d aH
   rw[eQ]at a
   split at a
   ·rename_i al
    simp only[xn]at a
    split at a
    ·rename_i ab a6
     simp only[g5]at a
     refine aj (i+1) _ nX _ cP (λt a8=> ?_) a
     rw[M.j7,EH,aH]
     by_cases D:d=t
     ·subst D;simp[a6]
     ·simp[D];exact nC t a8
    ·simp at a
   ·rename_i al
    refine aj (i+1) _ nX _ cP (λt a8=> ?_) a
    rw[EH,aH]
    have D:d≠t:=λD=>al (by rw[D];exact a8)
    simp[D];exact nC t a8
  ·rename_i aH
   refine aj (i+1) _ nX _ cP (λt a8=> ?_) a
   rw[EH,aH]
   simp;exact nC t a8
def Xn{aq:List (Nat×y)}{I cP:M y}(bu:oF J aa ao (λ_=>True) (h9 ar ar.size) aq I tmps)(eh:tmps.size=n)(a:xn aq (lb ao ar.toList 0) I=some cP):jl J aa n ao cP tmps:=by
 refine⟨eh,λt ab aB a6=> ?_⟩
 have:=ak7 (ao:=ao) (aq:=aq) ar.toList 0 [] I I cP (λ_ _=>rfl) a t aB
 rw[a6]at this
 apply bu t ab trivial
 have D:h9 ar ar.size=vf ar.toList 0 []:=by unfold h9;rw[ZQ Zs]
 rw[D]
 cases bD:ed (vf ar.toList 0 []) t with
 |some Y=>rw[bD]at this;exact this.symm
 |none=>rw[bD]at this;exact⟨aB,this.symm⟩
def ad1(cz:Env C aZ dB dR)(f9:nt C aZ bA bM aj){q:List dG}{fin:List (Nat×Nat)}:∀(rest:List fd) (aq:List (Nat×y)) (h:M ak) (j:Nat) (J:cU) (aa:Nat->Prop) (w:World) (tmps:Array Value) (k:List Nat) (an:List Frame),
 i1 C aZ bA bM fn ao bb aR ro cs h j J aa w bR an->lK C J aa ao q bq->OO C J aa n ao ar aq rest fin I tmps k->
 yn rest ⟨aj,ar,fin,q,⟨fn,n,ao,bb,aR,ro,cs⟩⟩ C I aq h j=some v->Ends C aZ bA bM v (lone (cj J fn bb aR ro tmps (.inRegion ar k::bq) .run) an w):=by
 intro rest
 induction rest with
 |nil=>
  intro aq h j J aa w tmps k an aD aG aE a
  obtain⟨i,aF,rfl,aA,rfl,bu,eh⟩:=aE
  have LY:ar.size<=i:=by
   cases aH:ar.toList.drop i with
   |nil=>exact akg aH
   |cons W cb=>
    rw[aH]at aA
    obtain⟨_,_,r,_,_,_,_,_,D⟩:=Ph aA
    cases D
  have:i=ar.size:=Zo
  subst this
  simp only[zl,List.range'_zero]
  have co:HJ ⟨aj,ar,lb ao ar.toList 0,q,⟨fn,n,ao,bb,aR,ro,cs⟩⟩ C I aq h j=some v:=a
  simp only[HJ,Ln,om]at co
  split at co
  ·rename_i cP nC
   refine .head aeb ?_
   exact f9 _ _ _ _ _ _ _ _ _ _ _ _ v co J aa w bR tmps bq an (aD.state (.plain aG (Xn bu eh nC)))
  ·simp at co
 |cons x rest FW=>
  intro aq h j J aa w tmps k an aD aG aE a
  obtain⟨i,aF,rfl,aA,rfl,bu,eh⟩:=aE
  cases aH:ar.toList.drop i with
  |nil=>rw[aH]at aA;simp[r3]at aA
  |cons W cb=>
   rw[aH]at aA
   obtain⟨g,op,r,dl,dx,gD,r2,ie,D⟩:=Ph aA
   cases D
   obtain⟨cB,cC,dI⟩:=PG aH
   rw[<-J8 cB, <-cC]at ie
   have FL:List.range' i (ar.size-i)=i::List.range' (i+1) (ar.size-(i+1)):=by
    rw[show ar.size-i=(ar.size-(i+1))+1 by omega,List.range'_succ]
   rw[FL]
   have qs:=W0 gD
   have FH:∀(c0:cU) (dn:Nat->Prop) (ab:y),oF c0 dn ao (λ_=>True) (h9 ar i) aq I tmps->b7 dn ab->OO C c0 dn n ao ar ((i,ab)::aq) rest (lb ao ar.toList 0) I (p1 tmps W.dst (aO c0 ab)) (List.range' (i+1) (ar.size-(i+1))):=by
    intro c0 dn ab xU vM
    exact⟨i+1,Zo,rfl,ie,rfl,xU.put cB (by rw[eh];exact qs) vM,by rw[Ny];exact eh⟩
   have kO:∀(c0:cU) (ab:Value),(cj c0 fn bb aR ro tmps (.inRegion ar (i::List.range' (i+1) (ar.size-(i+1)))::bq) .run).finish ab=cj c0 fn bb aR ro (p1 tmps W.dst ab) (.inRegion ar (List.range' (i+1) (ar.size-(i+1)))::bq) .run:=by
    intro c0 ab
    rw[Lo (g:=cj c0 fn bb aR ro tmps _ .run) rfl cB];rfl
   have co:D2 i g op rest (yn rest) ⟨aj,ar,lb ao ar.toList 0,q,⟨fn,n,ao,bb,aR,ro,cs⟩⟩ C I aq h j=some v:=a
   simp only[D2,N0,om]at co
   split at co
   ·rename_i TQ gp
    have su:=N4 aF dl bu (λ_ _ _ _ _=>trivial) (Sub.refl aq) gp
    cases TQ with
    |false=>
     simp only[Zv,ZD]at co
     refine .head (Tu cB su) ?_
     rw[kO]
     exact FW _ _ _ _ _ _ _ _ _ aD aG (FH J aa undef bu trivial) co
    |true=>
     simp only[ZE]at co
     have xH:jk J aa (k1 tmps) (jb (h9 ar i) aq I) W.op.operands.toList:=Xc bu (λ_ _=>trivial) r2 aD.hM
     rw[Nn]at co
     cases qw:mN op with
     |h2=>
      simp only[qw,om]at co
      split at co
      ·rename_i ab a6
       obtain⟨a7,b2⟩:=acj aD.V xH dx a6
       refine .head (Eg cB su a7 (.inl rfl)) ?_
       rw[kO]
       exact FW _ _ _ _ _ _ _ _ _ aD aG (FH J aa ab bu b2) co
      ·simp at co
     |make=>
      simp only[qw,om]at co
      split at co
      ·rename_i res na
       simp only[MV,lT]at na
       split at na
       ·rename_i ab cK bc
        simp only[g5,Zc]at na
        subst na
        have oa:=rq aD.V
        obtain⟨oj,m1,fp,il⟩:=acy (w:=w) (J:=J) oa xH (MW dx bc)
        have af:is C bR J aa h aZ.heap.size w (gb J j ⟨w.heap.size,0,0⟩) (add aa j) (bl C h j (some cK)) (w.alloc oj):=
         ⟨qK oa,λ_ a=> .inl a,λx a=>a.elim .inl (λa=> .inr (zE aD.jX)),λx af cJ=>by rw[fF _ aD.V.aY,Zg (zE aD.jX)],Below.alloc (Below.refl _ _) aD.eS _⟩
        have C0:=aD.V.alloc aD.V.aY (YL _) (Ya _) oa aD.eS rfl (R:=bl C h j (some cK)) (by rw[fF _ aD.V.aY,Zu rfl]) (λx af=> .inl (by rw[fF _ aD.V.aY,Zg af])) il (acz (MW dx bc))
        refine .head (Eg cB su m1 (.inl rfl)) ?_
        rw[kO, <-Gf af.iJ aD.hL]
        exact FW _ _ _ _ _ _ _ _ _ (aD.ext C0 af (Ya _)) (aG.ad af.iJ af.jw) (FH _ _ ab (bu.ad af.iJ af.jw) fp) co
       ·simp at na
      ·simp at co
     |e9=>
      simp only[qw,om]at co
      split at co
      ·rename_i res na
       have ld:=aae aD.V aD.eS cz.kg xH dx na
       have ap0:mA C J aa h bR j n ao I tmps (.sQ ar aq i rest (lb ao ar.toList 0)::q) (.inRegion ar (i::List.range' (i+1) (ar.size-(i+1)))::bq):=
        .seq aG ⟨W,cB,qs,rfl,ie,rfl,bu,eh⟩
       have now:∀ab R au,yE C J aa h j aZ.heap.size w (execOp (k1 tmps) W) ab R au->yn rest ⟨aj,ar,lb ao ar.toList 0,q,⟨fn,n,ao,bb,aR,ro,cs⟩⟩ C I ((i,ab)::aq) R au=some v->
        Ends C aZ bA bM v (lone (cj J fn bb aR ro tmps (.inRegion ar (i::List.range' (i+1) (ar.size-(i+1)))::bq) .run) an w):=by
        intro ab R au aH a
        obtain⟨c0,dn,w',tL,bB,cp,fj,jn,oM,Ac⟩:=aH
        have xV:tL= .value (aO c0 ab)\/(tL= .skip/\aO c0 ab=Go.undef):=cp.imp id λ⟨E,b⟩=>⟨E,by rw[b];rfl⟩
        refine .head (Eg cB su bB xV) ?_
        rw[kO, <-Gf oM.iJ aD.hL]
        exact FW _ _ _ _ _ _ _ _ _ (aD.ext jn (oM.mono aD.jX) Ac) (aG.ad oM.iJ oM.jw) (FH _ _ ab (bu.ad oM.iJ oM.jw) fj) a
       have qg:n0 res aj C (.sQ ar aq i rest (lb ao ar.toList 0)) q ⟨fn,n,ao,bb,aR,ro,cs⟩ I h j=some v->Ends C aZ bA bM v (lone (cj J fn bb aR ro tmps (.inRegion ar (i::List.range' (i+1) (ar.size-(i+1)))::bq) .run) an w):=
        λa=>V6 cz f9 aD ap0 aD.jX (Zj _) cB su ld a
       cases res with
       |val ab=>exact now ab h j ld co
       |fq ab R au=>exact now ab R au ld co
       |_=>exact qg co
      ·simp at co
   ·simp at co
end
end Go.bs

