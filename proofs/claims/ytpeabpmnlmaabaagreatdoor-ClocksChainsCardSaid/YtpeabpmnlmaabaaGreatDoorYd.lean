/- Part of the proof of the last text; no conditions -/
import Derived.Test.YtpeabpmnlmaabaaGreatDoorYc
import Derived.Defers
import Derived.RangeFuncRecord
import Derived.Orders
set_option maxHeartbeats 8000000
set_option linter.all false
namespace Go.ba
open Go.RowKit (Below)
structure RG(C:aL)(bj:World):Prop where
 val:∀f args v,C.hu f args=some v->((∀S iX,aO S v=aO iX v)/\∀ad,cj ad v)/\(∀S iX,b2 S args=b2 iX args)/\∀ad,eu ad args
 ok:∀f args v,C.hu f args=some v->∀S w,Below bj.heap.size bj w->
  (callFunc f (b2 S args).toArray).run C.P w= .ok (.value (aO S v)) w\/
  ((callFunc f (b2 S args).toArray).run C.P w= .ok (.enter f (b2 S args).toArray) w/\Calls C.P f (b2 S args).toArray w λE b0=>E= .returned (aO S v)/\Below w.heap.size w b0)
structure Env(C:aL)(bj:World)(dU:c6)(d5:Nat->Prop):Prop where
 kE:yr C.P
 hu:RG C bj
 base:dn C dU d5 .nil C.a6 bj.heap.size bj
 ij:sZ C dU d5
def Ends(C:aL)(bj:World)(bE:Nat)(bS:List Frame)(v:D)(dr:Machine):Prop:=
 ∃S b0 fr,Steps C.P dr (lone fr bS b0)/\fr.leaving C.P b0 (.returned (aO S v))/\fr.fn=bE/\Below bj.heap.size bj b0
structure Du(C:aL)(bj:World)(bE:Nat)(bS:List Frame)(bR:ll)(todo:List dV)(fn n ao:Nat)(bd:List h0)(aB:Bool)(ro:Option Nat)(cs:List gY)(H:R D)(h:R af)(j:Nat)
 (S:c6)(ad:Nat->Prop)(w:World)(df:Nat)(tmps:Array Value)(bx:List Item)(an:List Frame):Prop where
 Y:dn C S ad h j bj.heap.size w
 lq:Below bj.heap.size bj w
 ij:sZ C S ad
 kn:df<=j
 ig:wJ C ad fn ao bd ro
 mode:rh ad bR
 bot:cs=[]->fn=bE/\aB=false/\ro=none
 cs:pt C S ad h bE bS df cs an
 todo:match bR with
  | .run=>Dw C S ad h df j n ao H tmps todo bx
  |_=>jO S ad n ao H tmps
def n7(C:aL)(bj:World)(bE:Nat)(bS:List Frame)(ai:hP):Prop:=
 ∀bR todo fn n ao bd aB ro cs H h j v,ai bR todo ⟨fn,n,ao,bd,aB,ro,cs⟩ H h j=some v->
  ∀S ad w df tmps bx an,Du C bj bE bS bR todo fn n ao bd aB ro cs H h j S ad w df tmps bx an->Ends C bj bE bS v (lone (ct S fn bd aB ro tmps bx (g0 S bR)) an w)
section
variable{C:aL}{S da:c6}{ad dE:Nat->Prop}{h S':R af}{j am bm:Nat}{w b0:World}{n ao:Nat}{aq:Array Oper}
variable{bj:World}{bE:Nat}{bS:List Frame}{v:D}
def Ends.head{dr Jl:Machine}(a:step C.P dr= .next Jl)(cy:Ends C bj bE bS v Jl):Ends C bj bE bS v dr:=by
 obtain⟨S,b0,fr,J,Q⟩:=cy
 exact⟨S,b0,fr, .head a J,Q⟩
def Ends.steps{dr Jl:Machine}(a:Steps C.P dr Jl)(cy:Ends C bj bE bS v Jl):Ends C bj bE bS v dr:=by
 obtain⟨S,b0,fr,J,Q⟩:=cy
 exact⟨S,b0,fr,a.trans J,Q⟩
def dn.later(Y:dn C S ad h j bm w)(ag:Below w.heap.size w b0):dn C S ad h j bm b0:=
 ⟨Y.a6,Y.lt,Y.wq,λb V a d=>(Y.obj b V a d).aa (λ_ _=>rfl) (λ_ a=>a) (ag.block _ (Y.obj b V a d).lt),Y.sep,Y.base,Y.fz⟩
def Env.now{dU:c6}{d5:Nat->Prop}(bz:Env C bj dU d5)(ag:Below bj.heap.size bj w):dn C dU d5 .nil C.a6 w.heap.size w:=by
 have Y:=bz.base.later ag
 refine⟨Y.a6,Y.lt,Y.wq,Y.obj,Y.sep, ?_,Y.fz⟩
 intro b V aF bh _
 exfalso
 unfold U at bh
 rw[fF,Zh (by simp[Nat.blt];omega)]at bh
 simp at bh
def Env.later{dU:c6}{d5:Nat->Prop}(bz:Env C bj dU d5)(ag:Below bj.heap.size bj w):Env C w dU d5:=
 ⟨bz.kE,⟨bz.hu.val,λf args v a S qZ lX=>bz.hu.ok f args v a S qZ (ag.trans (lX.mono ag.size))⟩,bz.now ag,bz.ij⟩
variable{fn:Nat}{bd:List h0}{aB:Bool}{ro:Option Nat}{tmps:Array Value}{bx:List Item}{an:List Frame}
def mX(tmps:Array Value)(bx:List Item):stepG C.P true {frame:=ct S fn bd aB ro tmps bx .run,callers:=an,status:= .running,dying:=none} w=stepG.exec C.P true true (ct S fn bd aB ro tmps bx .run) an none w:=by
 simp[stepG,ct]
def aB5{F b:Code}:step C.P (lone (ct S fn bd aB ro tmps (.code (.seq F b)::bx) .run) an w)= .next (lone (ct S fn bd aB ro tmps (.code F:: .code b::bx) .run) an w):=
 step_lone_go (by rw[mX];simp[stepG.exec,ct])
def aB6:step C.P (lone (ct S fn bd aB ro tmps (.code .skip::bx) .run) an w)= .next (lone (ct S fn bd aB ro tmps bx .run) an w):=
 step_lone_go (by rw[mX];simp[stepG.exec,ct])
def aBV{k:Nat}:step C.P (lone (ct S fn bd aB ro tmps (.code (.label k)::bx) .run) an w)= .next (lone (ct S fn bd aB ro tmps bx .run) an w):=
 step_lone_go (by rw[mX];simp[stepG.exec,ct])
def aBS{k:Nat}:step C.P (lone (ct S fn bd aB ro tmps (.inBlock k::bx) .run) an w)= .next (lone (ct S fn bd aB ro tmps bx .run) an w):=
 step_lone_go (by rw[mX];simp[stepG.exec,ct])
def aBU{b:Code}:step C.P (lone (ct S fn bd aB ro tmps (.inScope b::bx) .run) an w)= .next (lone (ct S fn bd aB ro tmps bx .run) an w):=
 step_lone_go (by rw[mX];simp[stepG.exec,ct])
def aBM{id:Nat}{b:Code}:step C.P (lone (ct S fn bd aB ro tmps (.code (.block id b)::bx) .run) an w)= .next (lone (ct S fn bd aB ro tmps (.code b:: .inBlock id::bx) .run) an w):=
 step_lone_go (by rw[mX];simp[stepG.exec,ct])
def aBW{b:Code}:step C.P (lone (ct S fn bd aB ro tmps (.code (.loop b)::bx) .run) an w)= .next (lone (ct S fn bd aB ro tmps (.code b:: .inLoop b::bx) .run) an w):=
 step_lone_go (by rw[mX];simp[stepG.exec,ct])
def aBT{b:Code}:step C.P (lone (ct S fn bd aB ro tmps (.inLoop b::bx) .run) an w)= .next (lone (ct S fn bd aB ro tmps (.code b:: .inLoop b::bx) .run) an w):=
 step_lone_go (by rw[mX];simp[stepG.exec,ct])
def aB4{b:Code}:step C.P (lone (ct S fn bd aB ro tmps (.code (.scope b)::bx) .run) an w)= .next (lone (ct S fn bd aB ro tmps (.code b:: .inScope b::bx) .run) an w):=
 step_lone_go (by rw[mX];simp[stepG.exec,ct])
def aBN{c:Operand}{F b:Code}{t:Bool}(a:lk tmps c= .bool t):step C.P (lone (ct S fn bd aB ro tmps (.code (.cond c F b)::bx) .run) an w)= .next (lone (ct S fn bd aB ro tmps (.code (if t then F else b)::bx) .run) an w):=
 step_lone_go (by
  have cy:(ct S fn bd aB ro tmps (.code (.cond c F b)::bx) .run).eval c= .bool t:=by rw[J5];exact a
  rw[mX]
  simp only[ct]at cy
  simp[stepG.exec,ct,cy])
def aBR{id:Nat}{iq:List Item}(a:Go.exitTo id bx=some iq):step C.P (lone (ct S fn bd aB ro tmps (.code (.exit id)::bx) .run) an w)= .next (lone (ct S fn bd aB ro tmps iq .run) an w):=
 step_lone_go (by rw[mX];simp[stepG.exec,ct,a])
def aB1:step C.P (lone (ct S fn bd aB none tmps (.code .ret::bx) .run) an w)= .next (lone (ct S fn bd aB none tmps (.code .ret::bx) .returning) an w):=
 step_lone_go (by rw[mX];simp[stepG.exec,ct])
def aBP:step C.P (lone (ct S fn bd aB none tmps [] .run) an w)= .next (lone (ct S fn bd aB none tmps [] .returning) an w):=
 step_lone_go (by rw[mX];simp[stepG.exec,ct])
def aBZ{id:Nat}:step C.P (lone (ct S fn bd aB ro tmps (.code (.region id aq false)::bx) .run) an w)= .next (lone (ct S fn bd aB ro tmps (.inRegion aq (List.range aq.size)::bx) .run) an w):=
 step_lone_go (by rw[mX];simp[stepG.exec,ct])
def aB0{id:Nat}:step C.P (lone (ct S fn bd aB ro tmps (.code (.region id aq true)::bx) .run) an w)=
 .next (lone (ct S fn bd aB ro tmps (.inRegion aq (Region.schedule (C.P.follows .mixedOrders) aq (w.tape w.drawn (.order fn id)))::bx) .run) an w.drew):=
 step_lone_go (by rw[mX];simp[stepG.exec,ct,Question.forced,Question.cut])
def aiG:step C.P (lone (ct S fn bd aB ro tmps (.inRegion aq []::bx) .run) an w)= .next (lone (ct S fn bd aB ro tmps bx .run) an w):=
 step_lone_go (by rw[mX];simp[stepG.exec,ct])
def W8{i:Nat}{k:List Nat}{V:Oper}(bh:aq[i]? =some V)(bw:Region.wanted V (yielded aq tmps)=false):
 step C.P (lone (ct S fn bd aB ro tmps (.inRegion aq (i::k)::bx) .run) an w)= .next (lone ((ct S fn bd aB ro tmps (.inRegion aq (i::k)::bx) .run).finish Go.undef) an w):=
 step_lone_go (by rw[mX];simp[stepG.exec,ct,bh,bw])
def Wq{av:Operand->Value}{V:Oper}{oz:Next}(Y:(execOp av V).run C.P w= .ok oz b0)(a:∀d,oz≠ .defer d):∀c,V.op≠ .defer c:=by
 intro c ax
 have ae:execOp av V=(do pure (.defer (<-resolve av c V.type))):=by unfold execOp;rw[ax]
 rw[ae]at Y
 simp only[Sem.run_bind]at Y
 cases b3:(resolve av c V.type).run C.P w with
 |ok d qZ=>
  rw[b3]at Y
  simp only[Result.andThen_ok,Sem.run_pure,Result.ok.injEq]at Y
  exact a d Y.1.symm
 |halt E qZ=>
  rw[b3]at Y
  simp at Y
def IR{i:Nat}{k:List Nat}{V:Oper}(bh:aq[i]? =some V)(bw:Region.wanted V (yielded aq tmps)=true)(jI:ro=none\/∀c,V.op≠ .defer c):
 stepG C.P true {frame:=ct S fn bd aB ro tmps (.inRegion aq (i::k)::bx) .run,callers:=an,status:= .running,dying:=none} w=
  stepG.apply C.P true (ct S fn bd aB ro tmps (.inRegion aq (i::k)::bx) .run) an none (execOp (lk tmps) V) w:=by
 rw[mX]
 rcases jI with rfl|jI
 ·simp[stepG.exec,stepG.oper,ct,Frame.oper?,bh,bw,J5]
 ·cases ro with
  |none=>simp[stepG.exec,stepG.oper,ct,Frame.oper?,bh,bw,J5]
  |some r=>
   have:∀(c:Call),V.op≠ .defer c:=jI
   simp[stepG.exec,stepG.oper,ct,Frame.oper?,bh,bw,J5]
   split
   ·rename_i Q;exact absurd Q (this _)
   ·rfl
def FH{i:Nat}{k:List Nat}{V:Oper}{ac:Value}{oz:Next}(bh:aq[i]? =some V)(bw:Region.wanted V (yielded aq tmps)=true)
 (Y:(execOp (lk tmps) V).run C.P w= .ok oz b0)(aF:oz= .value ac\/(oz= .skip/\ac=Go.undef)):
 step C.P (lone (ct S fn bd aB ro tmps (.inRegion aq (i::k)::bx) .run) an w)= .next (lone ((ct S fn bd aB ro tmps (.inRegion aq (i::k)::bx) .run).finish ac) an b0):=
 step_lone_go (by
  rw[IR bh bw (.inr (Wq Y (by rcases aF with rfl|⟨rfl,rfl⟩<;>simp)))]
  rcases aF with rfl|⟨rfl,rfl⟩
  ·simp[stepG.apply,Y]
  ·simp[stepG.apply,Y])
def aiE{i:Nat}{k:List Nat}{V:Oper}{f:Nat}{args:Array Value}(bh:aq[i]? =some V)(bw:Region.wanted V (yielded aq tmps)=true)
 (Y:(execOp (lk tmps) V).run C.P w= .ok (.enter f args) b0):
 step C.P (lone (ct S fn bd aB ro tmps (.inRegion aq (i::k)::bx) .run) an w)= .next (lone (Frame.enter C.P f args .normal) (ct S fn bd aB ro tmps (.inRegion aq (i::k)::bx) .run::an) b0):=
 step_lone_go (by rw[IR bh bw (.inr (Wq Y Zs))];simp[stepG.apply,Y,ct])
def aB2{i:Nat}{k:List Nat}{V:Oper}{b f:Nat}{aU:Array Value}{assign body:Code}(bh:aq[i]? =some V)(bw:Region.wanted V (yielded aq tmps)=true)
 (Y:(execOp (lk tmps) V).run C.P w= .ok (.round b f aU assign body) b0):
 step C.P (lone (ct S fn bd aB ro tmps (.inRegion aq (i::k)::bx) .run) an w)= .next (lone (Frame.round b f aU assign body .normal) (ct S fn bd aB ro tmps (.inRegion aq (i::k)::bx) .run::an) b0):=
 step_lone_go (by rw[IR bh bw (.inr (Wq Y Zs))];simp[stepG.apply,Y,ct])
def aBO{i:Nat}{k:List Nat}{V:Oper}{d:h0}(bh:aq[i]? =some V)(bw:Region.wanted V (yielded aq tmps)=true)
 (Y:(execOp (lk tmps) V).run C.P w= .ok (.defer (ma S d)) b0):
 step C.P (lone (ct S fn bd aB none tmps (.inRegion aq (i::k)::bx) .run) an w)= .next (lone ((ct S fn (d::bd) aB none tmps (.inRegion aq (i::k)::bx) .run).finish Go.undef) an b0):=
 step_lone_go (by rw[IR bh bw (.inl rfl)];simp[stepG.apply,Y,ct])
def aBX{i:Nat}{k:List Nat}{V:Oper}{ac:D}(bh:aq[i]? =some V)(bw:Region.wanted V (yielded aq tmps)=true)
 (Y:(execOp (lk tmps) V).run C.P w= .halt (.panic (aO S ac)) b0):
 step C.P (lone (ct S fn bd aB none tmps (.inRegion aq (i::k)::bx) .run) an w)= .next (lone (ct S fn bd aB none tmps (.inRegion aq (i::k)::bx) (g0 S (.panicking [⟨ac,false⟩]))) an b0):=
 step_lone_go (by rw[IR bh bw (.inl rfl)];simp[stepG.apply,Y,ct,Frame.raise,g0,ur])
def aBY{i:Nat}{k:List Nat}{V:Oper}{ac:Value}{jo:List Frame}(bh:aq[i]? =some V)(bw:Region.wanted V (yielded aq tmps)=true)
 (Y:(execOp (lk tmps) V).run C.P w= .ok .recover b0)
 (a8:Go.tryRecover (ct S fn bd aB none tmps (.inRegion aq (i::k)::bx) .run) an=some (ac,jo)\/(Go.tryRecover (ct S fn bd aB none tmps (.inRegion aq (i::k)::bx) .run) an=none/\ac= .nilIface/\jo=an)):
 step C.P (lone (ct S fn bd aB none tmps (.inRegion aq (i::k)::bx) .run) an w)= .next (lone ((ct S fn bd aB none tmps (.inRegion aq (i::k)::bx) .run).finish ac) jo b0):=
 step_lone_go (by
  rw[IR bh bw (.inl rfl)]
  have E:(ct S fn bd aB none tmps (.inRegion aq (i::k)::bx) .run).roundOf=none:=rfl
  rcases a8 with a8|⟨a8,rfl,rfl⟩
  ·simp[stepG.apply,Y,E,a8]
  ·simp[stepG.apply,Y,E,a8])
def aBL{b:Nat}(Y:(Instr.beginRound (S b).cJ).run C.P w= .ok () b0):
 step C.P (lone (ct S fn bd aB (some b) tmps (.beginRound::bx) .run) an w)= .next (lone (ct S fn bd aB (some b) tmps bx .run) an b0):=
 step_lone_go (by rw[mX];simp[stepG.exec,stepG.apply,ct,Y,Frame.finish])
def aBQ{b:Nat}{jj:Option Code}(Y:(Instr.endLoop b).run C.P w= .ok jj b0):
 step C.P (lone (ct S fn bd aB ro tmps (.endRangeFunc b::bx) .run) an w)= .next (lone (ct S fn bd aB ro tmps ((jj.map Item.code).toList++bx) .run) an b0):=
 step_lone_go (by rw[mX];simp[stepG.exec,ct,Y])
def aiF{f:Operand}{params:Array Tmp}{assign body:Code}{b:Nat}{mark:List Deferred}{g:Nat}{args:Array Value}{n2:World}{d:Deferred}
 (bz:(Instr.enterLoop fn tmps params assign body (ro.map λk=>(S k).cJ)).run C.P w= .ok (b,mark) n2)
 (kP:(resolve (lk tmps) {callee:= .value f,args:= #[.const (.func (.yield b) #[] #[])],argTypes:= #[]} 0).run C.P n2= .ok d n2)(Uv:(invoke d.target d.args).run C.P n2= .ok (.enter g args) b0):
 step C.P (lone (ct S fn bd aB ro tmps (.code (.rangeFunc f params assign body)::bx) .run) an w)=
  .next (lone (Frame.enter C.P g args .normal) ({ct S fn bd aB ro tmps (.inRangeFunc b::bx) .run with defers:=mark++bd.map (ma S)}::an) b0):=
 step_lone_go (by
  rw[mX]
  have cG:({ct S fn bd aB ro tmps (.inRangeFunc b::bx) .run with defers:=mark++bd.map (ma S)}:Frame).eval=lk tmps:=by rw[J5];rfl
  simp only[ct]at cG
  simp[stepG.exec,ct,Sem.runT_eq,bz,GStep.bare_after,stepG.apply,cG,Sem.run_bind,kP,Uv,Result.andThen])
def aB3{jj:Option Code}{b:Nat}{ac:Value}{g:Frame}(aH:(jj=none/\bx=[])\/(jj=some .ret/\∃y,bx= .code .ret::y)\/(∃id y,jj=some (.exit id)/\bx= .code (.exit id)::y/\Go.exitTo id y=none))
 (bz:(Instr.endRound (S b).cJ jj).run C.P w= .ok ac b0):
 step C.P (lone (ct S fn bd false (some b) tmps bx .run) (g::an) w)= .next (lone (g.finish ac) an b0):=
 step_lone_go (by
  rw[mX]
  rcases aH with ⟨rfl,rfl⟩|⟨rfl,y,rfl⟩|⟨id,y,rfl,rfl,ae⟩
  ·simp[stepG.exec,ct,Sem.runT_eq,bz,GStep.bare_after,doReturn]
  ·simp[stepG.exec,ct,Sem.runT_eq,bz,GStep.bare_after,doReturn]
  ·simp[stepG.exec,ct,Sem.runT_eq,bz,GStep.bare_after,doReturn,ae])
def aB7{r:Nat}{cp:List D}{ds:List h0}{ql:List Deferred}{mode:FrameMode}{dE:List h0}(bo:mode≠ .run)(bz:(Instr.takeDeferred (S r).cJ).run C.P w= .ok ql b0)(aE:ql++ds.map (ma S)=dE.map (ma S)):
 step C.P (lone (ct S fn (⟨.collected r,cp⟩::ds) aB ro tmps bx mode) an w)= .next (lone (ct S fn dE aB ro tmps bx mode) an b0):=
 step_lone_go (by
  cases mode with
  |run=>exact absurd rfl bo
  |returning=>simp[stepG,unwind,ct,ma,DG,Sem.runT_eq,bz,GStep.bare_after,aE]
  |panicking fw=>simp[stepG,unwind,ct,ma,DG,Sem.runT_eq,bz,GStep.bare_after,aE])
end
section
variable{C:aL}{S da dU:c6}{ad dE d5:Nat->Prop}{h S':R af}{j am bm:Nat}{w b0:World}{n ao:Nat}{aq:Array Oper}
variable{bj:World}{bE:Nat}{bS:List Frame}{v:D}{ai:hP}
variable{fn:Nat}{bd:List h0}{aB:Bool}{ro:Option Nat}{cs:List gY}{H:R D}{tmps:Array Value}{bx:List Item}{an:List Frame}{bG aN:Nat}
structure jz(C:aL)(bj:World)(bE:Nat)(bS:List Frame)(fn ao:Nat)(bd:List h0)(aB:Bool)(ro:Option Nat)(cs:List gY)(h:R af)(j:Nat)(S:c6)(ad:Nat->Prop)(w:World)(df:Nat)(an:List Frame):Prop where
 Y:dn C S ad h j bj.heap.size w
 lq:Below bj.heap.size bj w
 ij:sZ C S ad
 kn:df<=j
 ig:wJ C ad fn ao bd ro
 bot:cs=[]->fn=bE/\aB=false/\ro=none
 cs:pt C S ad h bE bS df cs an
def jz.ez{df:Nat}(a:jz C bj bE bS fn ao bd aB ro cs h j S ad w df an):bj.heap.size<=w.heap.size:=a.lq.size
def jz.ext{df:Nat}(a:jz C bj bE bS fn ao bd aB ro cs h j S ad w df an)(Y:dn C da dE S' am bj.heap.size b0)(ae:iZ C df S ad h bj.heap.size w da dE S' b0)(aF:j<=am):
 jz C bj bE bS fn ao bd aB ro cs S' am da dE b0 df an:=
 ⟨Y,a.lq.trans ae.below,a.ij.aa ae.jk ae.j0,ZA a.kn aF,a.ig.aa ae.j0,a.bot,a.cs.aa ae⟩
def jz.state{df:Nat}{todo:List dV}(a:jz C bj bE bS fn ao bd aB ro cs h j S ad w df an)(a8:Dw C S ad h df j n ao H tmps todo bx):
 Du C bj bE bS .run todo fn n ao bd aB ro cs H h j S ad w df tmps bx an:=⟨a.Y,a.lq,a.ij,a.kn,a.ig,trivial,a.bot,a.cs,a8⟩
def Du.aoI{todo:List dV}{df:Nat}(a:Du C bj bE bS .run todo fn n ao bd aB ro cs H h j S ad w df tmps bx an):jz C bj bE bS fn ao bd aB ro cs h j S ad w df an/\Dw C S ad h df j n ao H tmps todo bx:=
 ⟨⟨a.Y,a.lq,a.ij,a.kn,a.ig,a.bot,a.cs⟩,a.todo⟩
def pt.inv{df aP:Nat}{todo:List dV}{bR:ll}(a:pt C S ad h bE bS df (⟨fn,aP,ao,H,todo,bd,bR,aB,ro⟩::cs) an):
 ∃bG tmps bx jo,an=ct S fn bd aB ro tmps bx (g0 S bR)::jo/\Bm C S ad h bG df aP ao H tmps bR todo bx/\rh ad bR/\wJ C ad fn ao bd ro/\(cs=[]->fn=bE/\aB=false/\ro=none)/\bG<=df/\pt C S ad h bE bS bG cs jo:=by
 cases a with
 |cons J bo Q ay bt b4=>exact⟨_,_,_,_,rfl,J,bo,Q,ay,bt,b4⟩
def acO(gG:n7 C bj bE bS ai){f:Nat}{args:List D}{df:Nat}{DM:Bool}{uu:List gY}{xh:List Frame}(Y:dn C S ad h j bj.heap.size w)(ag:Below bj.heap.size bj w)(ij:sZ C S ad)(az:df<=j)
 (is:pt C S ad h bE bS df uu xh)(OQ:uu=[]->f=bE/\DM=false)(gc:eu ad args)(a:oY ai C f args DM uu h j=some v):Ends C bj bE bS v (lone (Frame.enter C.P f (b2 S args).toArray (if DM then .deferred else .normal)) xh w):=by
 unfold oY at a
 split at a
 ·rename_i func cb
  split at a
  ·rename_i c ax
   simp only[mE,e5,Zq]at a
   obtain⟨⟨⟨J,Q⟩,ak⟩,a⟩:=a
   have J:=jQ J
   have qA:Frame.enter C.P f (b2 S args).toArray (if DM then .deferred else .normal)=ct S f [] DM none ((b2 S args).toArray++Array.replicate (func.ntmps-args.length) Go.undef) [.code c] (g0 S .run):=by
    simp[Frame.enter,ct,g0,cb,ax,kd]
   rw[qA]
   refine gG _ _ _ _ _ _ _ _ _ _ _ _ v a S ad w df _ _ xh ?_
   refine⟨Y,ag,ij,az,⟨Zs,Zs,func,cb,ak⟩,trivial,λE=>⟨(OQ E).1,(OQ E).2,rfl⟩,is, .plain (.cons (.code Q) .nil) ⟨?_, ?_⟩⟩
   ·simp[kd];omega
   ·intro t ac _ bc
    rw[mR]at bc
    have c2:t<args.length:=(Zb.1 bc).1
    refine⟨?_,BN gc bc⟩
    rw[Yy (by simpa[kd]using c2)]
    simp[Bx,bc]
  ·simp at a
 ·simp at a
def NY(gG:n7 C bj bE bS ai){f:Nat}{args:List D}{df:Nat}{uu:List gY}{xh:List Frame}(Y:dn C S ad h j bj.heap.size w)(ag:Below bj.heap.size bj w)(ij:sZ C S ad)(az:df<=j)
 (is:pt C S ad h bE bS df uu xh)(OQ:uu=[]->f=bE)(gc:eu ad args)(a:oY ai C f args false uu h j=some v):Ends C bj bE bS v (lone (Frame.enter C.P f (b2 S args).toArray .normal) xh w):=
 acO (DM:=false) gG Y ag ij az is (λE=>⟨OQ E,rfl⟩) gc a
def G6(gG:n7 C bj bE bS ai){eO:dV}{y:List dV}{ac:D}(aA:jz C bj bE bS fn ao bd aB ro cs h j S ad w bG an)(aD:m6 C S ad h bG aN n ao H tmps (eO::y) bx)(tv:aN<=j)(BP:cj ad ac)
 (a:(match pH eO ac with|some hW=>ai .run (hW::y) ⟨fn,n,ao,bd,aB,ro,cs⟩ H h j|none=>none)=some v):
 Ends C bj bE bS v (lone ((ct S fn bd aB ro tmps bx .run).finish (aO S ac)) an w):=by
 obtain⟨aFb,wd,hW,hZ,iq,bD,cG,fV,ke⟩:=aq6 (fn:=fn) (bd:=bd) (aB:=aB) (ro:=ro) (mode:= .run) aD tv BP
 cases bD
 rw[cG]at a
 rw[fV]
 exact gG _ _ _ _ _ _ _ _ _ _ _ _ v a S ad w bG hZ iq an (aA.state ke)
def axb{f:Nat}{args:List D}{ac:D}(cK:Env C bj dU d5)(ag:Below bj.heap.size bj w)(bh:C.hu f args=some ac):
 (
  (∀iX,(callFunc f (b2 iX args).toArray).run C.P w= .ok (.value (aO iX ac)) w)\/
  ((∀iX,(callFunc f (b2 iX args).toArray).run C.P w= .ok (.enter f (b2 iX args).toArray) w)/\∀iX,Calls C.P f (b2 iX args).toArray w λE b0=>E= .returned (aO iX ac)/\Below w.heap.size w b0))/\∀dm,cj dm ac:=by
 obtain⟨⟨bK,b1⟩,cM,dF⟩:=cK.hu.val f args ac bh
 refine⟨?_,b1⟩
 rcases cK.hu.ok f args ac bh dU w ag with a|⟨J,Q⟩
 ·left;intro iX;rw[cM iX dU,bK iX dU];exact a
 ·right;exact⟨λiX=>by rw[cM iX dU];exact J,λiX=>by rw[cM iX dU,bK iX dU];exact Q⟩
mutual
def QO:∀(d:Nat) (x e:D),D.same d x e=true->x=e
 |0,_,_,a=>by simp[D.same]at a
 |d+1,x,e,a=>by
  unfold D.same at a
  split at a<;>(try(cases a;done))
  ·simp at a;rw[a]
  ·simp at a;rw[a.1,a.2]
  ·rw[(Ma _ _).1 a]
  ·simp only[Zq]at a;rw[Zl a.1,Zl a.2]
  ·rfl
  ·simp only[Zq]at a;rw[Zl a.1.1.1,Zl a.1.1.2,Zl a.1.2,Zl a.2]
  ·simp only[Zq]at a;rw[Zl a.1.1.1,Zl a.1.1.2,Zl a.1.2,Zl a.2]
  ·rfl
  ·rw[Zl a]
  ·rfl
  ·simp only[Zq,Zg]at a
   rw[a.1.1,Mx d _ _ a.1.2,Mx d _ _ a.2]
  ·rfl
  ·simp only[Zq]at a;rw[Zl a.1,QO d _ _ a.2]
  ·rfl
  ·rw[Mx d _ _ a]
  ·rw[Mx d _ _ a]
def Mx:∀(d:Nat) (x e:List D),nO (D.same d) x e=true->x=e
 |_,[],[],_=>rfl
 |_,[],_::_,a=>by simp[nO]at a
 |_,_::_,[],a=>by simp[nO]at a
 |d,F::x,b::e,a=>by
  simp only[nO,Zq]at a
  rw[QO d _ _ a.1,Mx d _ _ a.2]
end
def Ends.same{dr:Machine}{hj:D}(bz:∀S,aO S hj=aO S v)(a:Ends C bj bE bS hj dr):Ends C bj bE bS v dr:=by
 obtain⟨S,b0,fr,J,Q,ak⟩:=a
 exact⟨S,b0,fr,J,by rw[<-bz];exact Q,ak⟩
def ars{eO:dV}{y:List dV}{b9:iL}:∀(k:List (D×R af)) (v:D),yR ai eO y b9 H j k=some v->∀ac S',(ac,S')∈k->
 ∃hj,(match pH eO ac with|some hW=>ai .run (hW::y) b9 H S' j|none=>none)=some hj/\∀S,aO S hj=aO S v:=by
 intro k
 induction k with
 |nil=>intro v a;simp[yR]at a
 |cons p k nL=>
  intro v a ac S' bo
  obtain⟨F,f2⟩:=p
  cases k with
  |nil=>
   simp only[yR]at a
   simp at bo
   obtain⟨rfl,rfl⟩:=bo
   exact⟨v,a,λ_=>rfl⟩
  |cons aj k=>
   simp only[yR]at a
   split at a
   ·rename_i hW aum
    split at a
    ·rename_i x e ae B
     simp only[e5,Zf]at a
     obtain⟨aw,rfl⟩:=a
     rcases Zt.1 bo with E|bo
     ·cases E
      exact⟨x,by rw[aum];exact ae,λ_=>rfl⟩
     ·obtain⟨hj,bK,b1⟩:=nL e B ac S' bo
      exact⟨hj,bK,λS=>by rw[b1 S,QO _ _ _ aw]⟩
    ·simp at a
   ·simp at a
def aCz{ac:D}{c9:List gY}{df:Nat}{bx:List Item}(is:pt C S ad h bE bS df cs an)(a:C4 aB cs=some (ac,c9)):
 ∃jo,pt C S ad h bE bS df c9 jo/\cj ad ac/\(c9=[]->cs=[])/\
  (Go.tryRecover (ct S fn bd aB none tmps bx .run) an=some (aO S ac,jo)\/(Go.tryRecover (ct S fn bd aB none tmps bx .run) an=none/\aO S ac= .nilIface/\jo=an)):=by
 unfold C4 at a
 rw[fF]at a
 cases aB with
 |false=>
  simp at a
  obtain⟨rfl,rfl⟩:=a
  exact⟨an,is,trivial,id, .inr ⟨by simp[Go.tryRecover,ct],rfl,rfl⟩⟩
 |true=>
  simp only[ZE]at a
  cases cs with
  |nil=>simp at a
  |cons c rest=>
   obtain⟨g5,aP,la,c3,wC,gE,nq,jR,lD⟩:=c
   obtain⟨sw,hZ,iq,jo,rfl,bW,cq,cS,d1,dY,dk⟩:=is.inv
   have same:(ac,c9)=(D.nilIface,(⟨g5,aP,la,c3,wC,gE,nq,jR,lD⟩:gY)::rest)->(∀v CQ,g0 S nq≠ .panicking (⟨v,false,false⟩::CQ))->
    ∃Tw,pt C S ad h bE bS df c9 Tw/\cj ad ac/\(c9=[]->(⟨g5,aP,la,c3,wC,gE,nq,jR,lD⟩:gY)::rest=[])/\
     (Go.tryRecover (ct S fn bd true none tmps bx .run) (ct S g5 gE jR lD hZ iq (g0 S nq)::jo)=some (aO S ac,Tw)\/
      (Go.tryRecover (ct S fn bd true none tmps bx .run) (ct S g5 gE jR lD hZ iq (g0 S nq)::jo)=none/\aO S ac= .nilIface/\Tw=ct S g5 gE jR lD hZ iq (g0 S nq)::jo)):=by
    intro E dS
    simp only[YT]at E
    obtain⟨rfl,rfl⟩:=E
    refine⟨_,is,trivial,λE=>(by cases E), .inr ⟨?_,rfl,rfl⟩⟩
    simp only[Go.tryRecover,ct,ZE]
   simp only at a
   split at a
   ·rename_i v CQ
    simp only[Zf,YT]at a
    obtain⟨rfl,rfl⟩:=a
    have bP:rh ad (.panicking (⟨v,true⟩::CQ)):=by
     intro p aw
     rcases Zt.1 aw with rfl|aw
     ·exact cq ⟨v,false⟩ (Zv ..)
     ·exact cq p (Zu _ aw)
    refine⟨ct S g5 gE jR lD hZ iq (g0 S (.panicking (⟨v,true⟩::CQ)))::jo, .cons (bR:= .panicking (⟨v,true⟩::CQ)) bW bP cS d1 dY dk,cq ⟨v,false⟩ (Zv ..),λE=>(by cases E), .inl ?_⟩
    simp[Go.tryRecover,ct,g0,ur]
   ·rename_i k7
    simp only[Zf]at a
    refine same a.symm λv CQ E=> ?_
    cases nq with
    |run=>cases E
    |returning=>cases E
    |panicking fw=>
     cases fw with
     |nil=>cases E
     |cons p dp=>
      obtain⟨aAd,az1⟩:=p
      cases az1 with
      |true=>simp[g0,ur]at E
      |false=>exact k7 aAd dp rfl
def aBj{aP:Nat}:∀(dp:List Nat) (cp:List D) (H c3:R D) (tmps:Array Value),jO S ad aP ao H tmps->eu ad cp->x0 aP dp cp H=some c3->
 dp.length=cp.length/\jO S ad aP ao c3 ((dp.zip (b2 S cp)).foldl (λtmps p=>tmps.setIfInBounds p.1 p.2) tmps):=by
 intro dp
 induction dp with
 |nil=>
  intro cp H c3 tmps a8 _ a
  cases cp with
  |nil=>simp[x0]at a;subst a;exact⟨rfl,by simpa[b2]using a8⟩
  |cons F cp=>simp[x0]at a
 |cons p dp awr=>
  intro cp H c3 tmps a8 bP a
  cases cp with
  |nil=>simp[x0]at a
  |cons F cp=>
   simp only[x0,e5]at a
   obtain⟨aw,a⟩:=a
   have aw:=lS aw
   have Vf:jO S ad aP ao (H.set p (some F)) (tmps.setIfInBounds p (aO S F)):=by
    refine⟨by simp[a8.size],λt ac az bc=> ?_⟩
    rw[R.kN]at bc
    by_cases E:p=t
    ·subst E
     simp at bc;subst bc
     exact⟨by simp[a8.size,aw],bP.1⟩
    ·simp[E]at bc
     obtain⟨J,Q⟩:=a8.val t ac az bc
     exact⟨by rw[Array.getElem?_setIfInBounds_ne E];exact J,Q⟩
   obtain⟨J,Q⟩:=awr cp _ c3 _ Vf bP.2 a
   exact⟨by simp[J],by simpa[b2]using Q⟩
def abM(cK:Env C bj dU d5)(gG:n7 C bj bE bS ai){eO:dV}{y:List dV}{i:Nat}{k:List Nat}{V:Oper}{r:eb}(aA:jz C bj bE bS fn ao bd aB ro cs h j S ad w bG an)
 (aD:m6 C S ad h bG aN n ao H tmps (eO::y) (.inRegion aq (i::k)::bx))(Pf:bG<=aN)(tv:aN<=j)(bh:aq[i]? =some V)(bw:Region.wanted V (yielded aq tmps)=true)
 (mF:i1 C S ad h j bj.heap.size w (execOp (lk tmps) V) r)(a:oT r ai C eO y ⟨fn,n,ao,bd,aB,ro,cs⟩ H h j=some v):
 Ends C bj bE bS v (lone (ct S fn bd aB ro tmps (.inRegion aq (i::k)::bx) .run) an w):=by
 have oo:bG<=j:=ZA Pf tv
 have done:∀v ac S' am,Bc C S ad h j bj.heap.size w (execOp (lk tmps) V) ac S' am->(match pH eO ac with|some hW=>ai .run (hW::y) ⟨fn,n,ao,bd,aB,ro,cs⟩ H S' am|none=>none)=some v->
  Ends C bj bE bS v (lone (ct S fn bd aB ro tmps (.inRegion aq (i::k)::bx) .run) an w):=by
  intro v ac S' am aE a
  obtain⟨da,dE,b0,oz,c1,cH,eY,ja,gs,hF⟩:=aE
  have HW:oz= .value (aO da ac)\/(oz= .skip/\aO da ac=Go.undef):=cH.imp id λ⟨F,b⟩=>⟨F,by rw[b];rfl⟩
  refine .head (FH bh bw c1 HW) ?_
  rw[<-Ik gs.jk aA.ig]
  exact G6 gG (aA.ext ja (gs.mono oo) hF) (aD.aa (gs.mono tv)) (ZA tv hF) eY a
 cases r with
 |val ac=>exact done v ac h j mF a
 |fq ac S' am=>exact done v ac S' am mF a
 |enter f args=>
  obtain⟨J,Q⟩:=mF
  refine .head (aiE bh bw J) ?_
  simp only[oT]at a
  refine NY gG aA.Y aA.lq aA.ij tv ?_ (λE=>by simp[FK]at E) Q a
  exact .cons (bR:= .run) aD trivial aA.ig aA.bot Pf aA.cs
 |known f args ac=>
  obtain⟨J,Q,ak⟩:=mF
  obtain⟨aH,BP⟩:=axb cK aA.lq J
  simp only[oT]at a
  rcases aH with aH|⟨lA,iR⟩
  ·rw[aH S]at Q
   refine .head (FH bh bw Q (.inl rfl)) ?_
   exact G6 gG aA aD tv (BP ad) a
  ·rw[lA S]at Q
   refine .head (aiE bh bw Q) ?_
   obtain⟨E,b0,fr,⟨rfl,KJ⟩,avN,_,Pd⟩:=iR S (ct S fn bd aB ro tmps (.inRegion aq (i::k)::bx) .run::an)
   refine .steps avN (.head (step_leave_returned Pd) ?_)
   have ae:iZ C aN S ad h bj.heap.size w S ad h b0:=⟨λ_ _=>rfl,λ_ a=>a,λ_ a=> .inl a,λ_ _ _=>rfl,KJ.mono aA.ez⟩
   exact G6 gG (aA.ext (aA.Y.later KJ) (ae.mono Pf) (Zj _)) (aD.aa ae) tv (BP ad) a
 |round b args=>
  obtain⟨J,Q,ak⟩:=mF
  simp only[oT]at a
  split at a
  ·rename_i st rF g5 aP la c3 params assign body gE h4
   split at a
   ·rename_i anZ gd
    obtain⟨hZ,g2,nr,sF,Ir,CL,tP,CM⟩:=aA.Y.obj b _ h4 ak
    obtain⟨cN,cB⟩:=aBj params args c3 anZ hZ nr Q gd
    rw[run_yield g2 (by simp[kd,cN])]at J
    refine .head (aB2 bh bw J) ?_
    have qA:Frame.round (S b).cJ g5 (((params.toArray).zip (b2 S args).toArray).foldl (λtmps (t,F)=>tmps.setIfInBounds t F) hZ) assign body .normal=
     ct S g5 [] false (some b) ((params.zip (b2 S args)).foldl (λtmps p=>tmps.setIfInBounds p.1 p.2) hZ) [.code assign, .beginRound, .code body] (g0 S .run):=by
     simp[Frame.round,ct,g0]
    simp only at qA ⊢
    rw[qA]
    refine gG _ _ _ _ _ _ _ _ _ _ _ _ v a S ad w aN _ _ _ ?_
    refine⟨aA.Y,aA.lq,aA.ij,tv,⟨Zs,λk az=>(by cases az;exact ak),CM⟩,trivial,λE=>by simp[FK]at E, .cons (bR:= .run) aD trivial aA.ig aA.bot Pf aA.cs, ?_⟩
    exact .plain (.cons (.code Ir) (.cons .begin (.cons (.code CL) .nil))) cB
   ·simp at a
  ·simp at a
 |defer d=>
  obtain⟨J,Q⟩:=mF
  simp only[oT]at a
  cases ro with
  |some b=>simp at a
  |none=>
   simp only at a
   refine .head (aBO bh bw J) ?_
   have at9:wJ C ad fn ao (d::bd) none:=⟨λlU aE=>by
    rcases Zt.1 aE with rfl|aE
    ·exact Q
    ·exact aA.ig.bd lU aE,aA.ig.ro,aA.ig.fn⟩
   exact G6 (ac:=undef) gG ⟨aA.Y,aA.lq,aA.ij,aA.kn,at9,aA.bot,aA.cs⟩ aD tv trivial a
 |recover=>
  simp only[oT]at a
  cases ro with
  |some b=>simp at a
  |none=>
   simp only at a
   split at a
   ·rename_i ac c9 avp
    obtain⟨jo,bK,b1,cM,dF⟩:=aCz (fn:=fn) (bd:=bd) (tmps:=tmps) (bx:= .inRegion aq (i::k)::bx) aA.cs avp
    refine .head (aBY bh bw mF dF) ?_
    exact G6 (ac:=ac) gG ⟨aA.Y,aA.lq,aA.ij,aA.kn,aA.ig,λE=>aA.bot (cM E),bK⟩ aD tv b1 a
   ·simp at a
 |panic ac=>
  obtain⟨J,Q⟩:=mF
  simp only[oT]at a
  cases ro with
  |some b=>simp at a
  |none=>
   simp only at a
   refine .head (aBX bh bw J) ?_
   refine gG _ _ _ _ _ _ _ _ _ _ _ _ v a S ad w bG tmps _ an ?_
   exact⟨aA.Y,aA.lq,aA.ij,aA.kn,aA.ig,λp aw=>by simp at aw;subst aw;exact Q,aA.bot,aA.cs,aD.drop⟩
 |fork bM=>
  obtain⟨ac,S',bo,aE⟩:=mF
  simp only[oT]at a
  obtain⟨hj,bK,b1⟩:=ars bM v a ac S' bo
  exact .same b1 (done hj ac S' j aE bK)
def ag9{V:Op}{eE:Operand->Option D}{b:Nat}{ac:D}{cV:af}{dm:Nat->Prop}(a:q4 V C eE b=some (ac,cV)):wO C dm cV:=by
 have key:∀k:List D,wO C dm (.cells (R.ofList k 0 .nil) k.length .own):=λk=>⟨λ_ _ _ a=>(by cases a),λ_ _ _ a=>(by cases a;exact It)⟩
 have axa:wO C dm (.map [] 0):=⟨λ_ _ _ a=>(by cases a),λ_ _ _ a=>(by cases a)⟩
 cases V<;>simp only[q4]at a<;>(try(cases a;done))
 case alloc t=>unfold E5 at a;split at a<;>simp at a;rw[<-a.2];exact key _
 case box t x=>unfold L2 at a;split at a<;>simp at a;rw[<-a.2];exact key _
 case buildSlice t len kp=>
  unfold L3 at a
  split at a
  ·split at a
   ·simp only[e5]at a
    obtain⟨_,a⟩:=a
    split at a<;>simp at a
    rw[<-a.2];exact key _
   ·simp at a
  ·simp at a
 case makeMap t r=>cases r<;>simp at a;rw[<-a.2];exact axa
def aqc{i:Nat}(aN:aq.toList.drop i=[]):aq.size<=i:=by simpa using aN
def aq8{ao:Nat}{ap:List (Nat×D)}:∀(k:List Oper) (i:Nat) (el:List (Nat×Nat)) (oQ H c3:R D),(∀t,fB ao t=true->H.get t=match es el t with|some T=>es ap T|none=>oQ.get t)->
 yO ap (lx ao k i) H=some c3->∀t,fB ao t=true->c3.get t=match es (wF k i el) t with|some T=>es ap T|none=>oQ.get t:=by
 intro k
 induction k with
 |nil=>intro i el oQ H c3 gd a;simp[lx,yO]at a;subst a;exact gd
 |cons V k ai=>
  intro i el oQ H c3 gd a
  simp only[lx]at a
  simp only[wF]
  split at a
  ·rename_i d aE
   rw[fF]at a
   split at a
   ·rename_i ag
    simp only[yO]at a
    split at a
    ·rename_i ac bc
     simp only[hv]at a
     refine ai (i+1) _ oQ _ c3 (λt a8=> ?_) a
     rw[R.kN,Gw,aE]
     by_cases E:d=t
     ·subst E;simp[bc]
     ·simp[E];exact gd t a8
    ·simp at a
   ·rename_i ag
    refine ai (i+1) _ oQ _ c3 (λt a8=> ?_) a
    rw[Gw,aE]
    have E:d≠t:=λE=>ag (by rw[E];exact a8)
    simp[E];exact gd t a8
  ·rename_i aE
   refine ai (i+1) _ oQ _ c3 (λt a8=> ?_) a
   rw[Gw,aE]
   simp;exact gd t a8
def ac9{ap:List (Nat×D)}{H c3:R D}(bv:pz S ad ao (λ_=>True) (iK aq aq.size) ap H tmps)(eN:tmps.size=n)(a:yO ap (lx ao aq.toList 0) H=some c3):jO S ad n ao c3 tmps:=by
 refine⟨eN,λt ac az bc=> ?_⟩
 have:=aq8 (ao:=ao) (ap:=ap) aq.toList 0 [] H H c3 (λ_ _=>rfl) a t az
 rw[bc]at this
 apply bv t ac trivial
 have E:iK aq aq.size=wF aq.toList 0 []:=by unfold iK;rw[ZB Zs]
 rw[E]
 cases bJ:es (wF aq.toList 0 []) t with
 |some T=>rw[bJ]at this;exact this.symm
 |none=>rw[bJ]at this;exact⟨az,this.symm⟩
def aiv(cK:Env C bj dU d5)(gG:n7 C bj bE bS ai){y:List dV}{fin:List (Nat×Nat)}:∀(rest:List fs) (ap:List (Nat×D)) (h:R af) (j:Nat) (S:c6) (ad:Nat->Prop) (w:World) (tmps:Array Value) (k:List Nat) (an:List Frame),
 jz C bj bE bS fn ao bd aB ro cs h j S ad w bG an->l7 C S ad ao y bx->RQ C S ad n ao aq ap rest fin H tmps k->
 AS rest ⟨ai,aq,fin,y,⟨fn,n,ao,bd,aB,ro,cs⟩⟩ C H ap h j=some v->Ends C bj bE bS v (lone (ct S fn bd aB ro tmps (.inRegion aq k::bx) .run) an w):=by
 intro rest
 induction rest with
 |nil=>
  intro ap h j S ad w tmps k an aA aH aD a
  obtain⟨i,aN,rfl,ax,rfl,bv,eN⟩:=aD
  have OX:aq.size<=i:=by
   cases aE:aq.toList.drop i with
   |nil=>exact aqc aE
   |cons V bM=>
    rw[aE]at ax
    obtain⟨_,_,r,_,_,_,_,_,E⟩:=Sm ax
    cases E
  have:i=aq.size:=Zo
  subst this
  simp only[Nat.sub_self,List.range'_zero]
  have cy:J2 ⟨ai,aq,lx ao aq.toList 0,y,⟨fn,n,ao,bd,aB,ro,cs⟩⟩ C H ap h j=some v:=a
  simp only[J2,N3,ph]at cy
  split at cy
  ·rename_i c3 gd
   refine .head aiG ?_
   exact gG _ _ _ _ _ _ _ _ _ _ _ _ v cy S ad w bG tmps bx an (aA.state (.plain aH (ac9 bv eN gd)))
  ·simp at cy
 |cons x rest H1=>
  intro ap h j S ad w tmps k an aA aH aD a
  obtain⟨i,aN,rfl,ax,rfl,bv,eN⟩:=aD
  cases aE:aq.toList.drop i with
  |nil=>rw[aE]at ax;simp[tc]at ax
  |cons V bM=>
   rw[aE]at ax
   obtain⟨g,op,r,cX,dI,gZ,oa,ku,E⟩:=Sm ax
   cases E
   obtain⟨c1,cH,eY⟩:=SL aE
   rw[<-MU c1, <-cH]at ku
   have HP:List.range' i (aq.size-i)=i::List.range' (i+1) (aq.size-(i+1)):=by
    rw[show aq.size-i=(aq.size-(i+1))+1 by omega,List.range'_succ]
   rw[HP]
   have pO:=acI gZ
   have HO:∀(da:c6) (dE:Nat->Prop) (ac:D),pz da dE ao (λ_=>True) (iK aq i) ap H tmps->cj dE ac->RQ C da dE n ao aq ((i,ac)::ap) rest (lx ao aq.toList 0) H (qP tmps V.dst (aO da ac)) (List.range' (i+1) (aq.size-(i+1))):=by
    intro da dE ac Ar BP
    exact⟨i+1,Zo,rfl,ku,rfl,Ar.put c1 (by rw[eN];exact pO) BP,by rw[QE];exact eN⟩
   have ki:∀(da:c6) (ac:Value),(ct da fn bd aB ro tmps (.inRegion aq (i::List.range' (i+1) (aq.size-(i+1)))::bx) .run).finish ac=ct da fn bd aB ro (qP tmps V.dst ac) (.inRegion aq (List.range' (i+1) (aq.size-(i+1)))::bx) .run:=by
    intro da ac
    rw[N5 (g:=ct da fn bd aB ro tmps _ .run) rfl c1];rfl
   have cy:Fo i g op rest (AS rest) ⟨ai,aq,lx ao aq.toList 0,y,⟨fn,n,ao,bd,aB,ro,cs⟩⟩ C H ap h j=some v:=a
   simp only[Fo,Q6,ph]at cy
   split at cy
   ·rename_i Xt j4
    have tJ:=Ra aN cX bv (λ_ _ _ _ _=>trivial) (Sub.refl ap) j4
    cases Xt with
    |false=>
     simp only[Zy,ZC]at cy
     refine .head (W8 c1 tJ) ?_
     rw[ki]
     exact H1 _ _ _ _ _ _ _ _ _ aA aH (HO S ad undef bv trivial) cy
    |true=>
     simp only[ZE]at cy
     have Ab:jN S ad (lk tmps) (jD (iK aq i) ap H) V.op.operands.toList:=acX bv (λ_ _=>trivial) oa aA.ij
     rw[Qu]at cy
     cases pP:nn op with
     |iu=>
      simp only[pP,ph]at cy
      split at cy
      ·rename_i ac bc
       obtain⟨a7,b6⟩:=agW aA.Y Ab dI bc
       refine .head (FH c1 tJ a7 (.inl rfl)) ?_
       rw[ki]
       exact H1 _ _ _ _ _ _ _ _ _ aA aH (HO S ad ac bv b6) cy
      ·simp at cy
     |make=>
      simp only[pP,ph]at cy
      split at cy
      ·rename_i res kP
       simp only[Qa,mE]at kP
       split at kP
       ·rename_i ac cV bo
        simp only[hv,Zf]at kP
        subst kP
        have o8:=sD aA.Y
        obtain⟨pg,fk,gl,mO⟩:=ag8 (w:=w) (S:=S) o8 Ab (Qb dI bo)
        have ae:iZ C bG S ad h bj.heap.size w (gI S j ⟨w.heap.size,0,0⟩) (add ad j) (bi C h j (some cV)) (w.alloc pg):=
         ⟨rO o8,λ_ a=> .inl a,λx a=>a.elim .inl (λa=> .inr (zq aA.kn)),λx ae c2=>by rw[ge _ aA.Y.a6,Zh (zq aA.kn)],Below.alloc (Below.refl _ _) aA.ez _⟩
        have nb:=aA.Y.alloc aA.Y.a6 (Yh _) (Z8 _) o8 aA.ez rfl (S':=bi C h j (some cV)) (by rw[ge _ aA.Y.a6,Zp rfl]) (λx ae=> .inl (by rw[ge _ aA.Y.a6,Zh ae])) mO (ag9 (Qb dI bo))
        refine .head (FH c1 tJ fk (.inl rfl)) ?_
        rw[ki, <-Ik ae.jk aA.ig]
        exact H1 _ _ _ _ _ _ _ _ _ (aA.ext nb ae (Z8 _)) (aH.aa ae.jk ae.j0) (HO _ _ ac (bv.aa ae.jk ae.j0) gl) cy
       ·simp at kP
      ·simp at cy
     |fo=>
      simp only[pP,ph]at cy
      split at cy
      ·rename_i res kP
       have mF:=aeG aA.Y aA.ez cK.kE Ab dI kP
       have av6:m6 C S ad h bG j n ao H tmps (.uf aq ap i rest (lx ao aq.toList 0)::y) (.inRegion aq (i::List.range' (i+1) (aq.size-(i+1)))::bx):=
        .seq aH ⟨V,c1,pO,rfl,ku,rfl,bv,eN⟩
       have now:∀ac S' am,Bc C S ad h j bj.heap.size w (execOp (lk tmps) V) ac S' am->AS rest ⟨ai,aq,lx ao aq.toList 0,y,⟨fn,n,ao,bd,aB,ro,cs⟩⟩ C H ((i,ac)::ap) S' am=some v->
        Ends C bj bE bS v (lone (ct S fn bd aB ro tmps (.inRegion aq (i::List.range' (i+1) (aq.size-(i+1)))::bx) .run) an w):=by
        intro ac S' am aE a
        obtain⟨da,dE,b0,oz,bD,cG,fV,ke,qp,J0⟩:=aE
        have HW:oz= .value (aO da ac)\/(oz= .skip/\aO da ac=Go.undef):=cG.imp id λ⟨F,b⟩=>⟨F,by rw[b];rfl⟩
        refine .head (FH c1 tJ bD HW) ?_
        rw[ki, <-Ik qp.jk aA.ig]
        exact H1 _ _ _ _ _ _ _ _ _ (aA.ext ke (qp.mono aA.kn) J0) (aH.aa qp.jk qp.j0) (HO _ _ ac (bv.aa qp.jk qp.j0) fV) a
       have rb:oT res ai C (.uf aq ap i rest (lx ao aq.toList 0)) y ⟨fn,n,ao,bd,aB,ro,cs⟩ H h j=some v->Ends C bj bE bS v (lone (ct S fn bd aB ro tmps (.inRegion aq (i::List.range' (i+1) (aq.size-(i+1)))::bx) .run) an w):=
        λa=>abM cK gG aA av6 aA.kn (Zj _) c1 tJ mF a
       cases res with
       |val ac=>exact now ac h j mF cy
       |fq ac S' am=>exact now ac S' am mF cy
       |_=>exact rb cy
      ·simp at cy
   ·simp at cy
end
def apO{k:List Bool}(a:k.count false=0):∀b∈k,b=true:=by
 intro b ag
 cases b with
 |true=>rfl
 |false=>exact absurd ag (List.count_eq_zero.1 a)
def aA9{aq:Array Oper}(mi:Fl aq.toList 0=true):∀(fuel t:Nat) (iU:Array Bool),iU.size=aq.size->iU.toList.count false=fuel->
 wP aq (λi=>iU.getD i false=true) (Region.linearise.go .any aq fuel t iU []):=by
 intro fuel
 induction fuel with
 |zero=>
  intro t iU aD ax
  simp only[Region.linearise.go,List.reverse_nil]
  refine .nil λi aN=> ?_
  have c2:i<iU.size:=Zo
  have:=apO ax iU[i] Zs
  simp[c2,this]
 |succ fuel ai=>
  intro t iU aD ax
  simp only[Region.linearise.go]
  have rn:∃i,i<aq.size/\iU.getD i true=false:=by
   have UH:false∈iU.toList:=by
    rw[<-List.count_pos_iff];omega
   obtain⟨i,aN⟩:=ZY.1 UH
   have c2:i<iU.size:=by have:=(Zb.1 aN).1;simpa using this
   refine⟨i,Zo, ?_⟩
   rw[ZO]at aN
   simp[aN]
  have K9:∃i,i<aq.size/\iU.getD i true=false/\∀T,T<i->iU.getD T false=true:=by
   have key:∀m,(∃i,i<m/\i<aq.size/\iU.getD i true=false)->∃i,i<aq.size/\iU.getD i true=false/\∀T,T<i->iU.getD T false=true:=by
    intro m
    induction m with
    |zero=>rintro⟨i,a,_⟩;omega
    |succ m qG=>
     rintro⟨i,J,Q,ak⟩
     by_cases aj:∃i,i<m/\i<aq.size/\iU.getD i true=false
     ·exact qG aj
     ·have:i=m:=by
       rcases zc i m with a|a
       ·exact absurd ⟨i,a,Q,ak⟩ aj
       ·omega
      subst this
      refine⟨i,Q,ak,λT bJ=> ?_⟩
      have c2:T<iU.size:=Zo
      cases ag:iU[T]with
      |true=>simp[c2,ag]
      |false=>exact absurd ⟨T,bJ,Zo,by simp[c2,ag]⟩ aj
   obtain⟨i,J,Q⟩:=rn
   exact key (i+1) ⟨i,Zo,J,Q⟩
  obtain⟨i0,tw,avX,ir⟩:=K9
  have avo:i0∈Region.ready .any aq iU:=by
   rw[mem_ready]
   refine⟨avX,aq[i0],Array.getElem?_eq_getElem tw,λE bz ag=> ?_⟩
   have:=ay5 mi i0 aq[i0] (by rw[ZO];exact Array.getElem?_eq_getElem tw) E (by simpa using bz) ag
   exact ir _ Zo
  change wP aq _ (match (Region.ready .any aq iU)[t%(Region.ready .any aq iU).length]? with
   |some i=>Region.linearise.go .any aq fuel (t/(Region.ready .any aq iU).length) (iU.setIfInBounds i true) [i]
   |none=>[].reverse)
  have eT:0<(Region.ready .any aq iU).length:=List.length_pos_of_mem avo
  have c2:t%(Region.ready .any aq iU).length<(Region.ready .any aq iU).length:=Nat.mod_lt _ eT
  rw[Ze c2]
  simp only[]
  generalize aN:(Region.ready .any aq iU)[t%(Region.ready .any aq iU).length]=i
  have UH:i∈Region.ready .any aq iU:=by rw[<-aN];exact List.getElem_mem c2
  obtain⟨J,V,Q,ak⟩:=mem_ready.1 UH
  have aD4:i<aq.size:=(ZM.1 Q).1
  have k6:i<iU.size:=Zo
  have aeL:iU[i]=false:=by simpa[k6]using J
  rw[linearise_go_acc,List.reverse_singleton,List.singleton_append]
  refine .cons Q (by simp[k6,aeL]) (λE bz ag=>ak E (by simpa using bz) ag) ?_
  have bT:add (λi=>iU.getD i false=true) i=λT=>(iU.setIfInBounds i true).getD T false=true:=by
   funext T
   apply propext
   unfold add
   by_cases E:T=i
   ·subst E;simp[k6]
   ·rw[getD_set_ne false (λaj=>E aj.symm)]
    simp[E]
  rw[bT]
  refine ai _ _ (by simpa using aD) ?_
  rw[Array.toList_setIfInBounds,List.count_set (by simpa using k6)]
  have:(iU.toList[i]'(by simpa using k6))=false:=by simpa using aeL
  simp[this,ax]
def aBa{aq:Array Oper}(mi:Fl aq.toList 0=true)(t:Nat):wP aq (λ_=>False) (Region.schedule true aq t):=by
 simp only[Region.schedule,Bool.true_or,ZE,Region.linearise]
 have:=aA9 mi aq.size t (Array.replicate aq.size false) Zs Zs
 have E:(λi=>(Array.replicate aq.size false).getD i false=true)=λ_=>False:=by
  funext i
  apply propext
  by_cases a:i<aq.size<;>simp[a]
 rw[E]at this
 exact this
section
variable{C:aL}{S da dU:c6}{ad dE d5:Nat->Prop}{h S':R af}{j am bm:Nat}{w b0:World}{n ao:Nat}{aq:Array Oper}
variable{bj:World}{bE:Nat}{bS:List Frame}{v:D}{ai:hP}
variable{fn:Nat}{bd:List h0}{aB:Bool}{ro:Option Nat}{cs:List gY}{H:R D}{tmps:Array Value}{bx:List Item}{an:List Frame}{bG aN:Nat}
def awv{op:j9}(aH:nn op= .iu)(aD:CY op=false)(h S':R af)(ap:List (Nat×D))(H:R D):g4 op C h ap H=g4 op C S' ap H:=by
 cases op<;>simp only[g4]<;>(try rfl)<;>simp[CY]at aD
 case iu b5 V=>cases V<;>simp[CY]at aD<;>rfl
def qg.refl(h:R af):qg C h h:=λ_=> .inl rfl
def qg.trans{aK aJ a1:R af}(a:qg C aK aJ)(y:qg C aJ a1):qg C aK a1:=λx=>by
 rcases a x with a|a
 ·rcases y x with y|y
  ·exact .inl (a.trans y)
  ·exact .inr (a.trans y)
 ·exact .inr a
def agS(h:R af):qg C .nil h:=by
 intro b
 unfold U
 rw[fF,fF]
 split
 ·exact .inl rfl
 ·exact .inr rfl
def ap3{base:Nat}(aF:C.a6<=base):∀(k:List fs) (ap:List (Nat×D)) (h:R af) (hQ:List (Nat×D)) (S':R af),(k.Pairwise λF b=>F.i≠b.i)->(∀x∈k,es ap x.i=none/\U C h (base+x.i)=none/\ou x.op=false)->
 w6 C base H k ap h=some (hQ,S')->Sub ap hQ/\qg C h S'/\(∀i,es hQ i≠none->es ap i≠none\/∃x∈k,x.i=i)/\(∀b,U C S' b≠U C h b->∃x∈k,b=base+x.i)/\
 ∀x∈k,∃ac,(∀ad,M3 C ad S' base hQ H x ac)/\Jm C S' hQ H x ac:=by
 intro k
 induction k with
 |nil=>
  intro ap h hQ S' _ _ a
  simp[w6]at a
  obtain⟨rfl,rfl⟩:=a
  exact⟨Sub.refl _,qg.refl _,λi a=> .inl a,λb a=>absurd rfl a,Zs⟩
 |cons x k ai=>
  intro ap h hQ S' aw cb a
  rw[List.pairwise_cons]at aw
  obtain⟨eo,dD⟩:=aw
  obtain⟨Oa,Tb,Tc⟩:=cb x (Zv ..)
  have step:∀(ac:D) (aK:R af),qg C h aK->(∀b,U C aK b≠U C h b->b=base+x.i)->w6 C base H k ((x.i,ac)::ap) aK=some (hQ,S')->
   (∀hQ S',Sub ((x.i,ac)::ap) hQ->qg C aK S'->(U C aK (base+x.i)≠none->U C S' (base+x.i)=U C aK (base+x.i))->(∀ad,M3 C ad S' base hQ H x ac)/\Jm C S' hQ H x ac)->
   Sub ap hQ/\qg C h S'/\(∀i,es hQ i≠none->es ap i≠none\/∃jl∈x::k,jl.i=i)/\(∀b,U C S' b≠U C h b->∃jl∈x::k,b=base+jl.i)/\∀jl∈x::k,∃ac,(∀ad,M3 C ad S' base hQ H jl ac)/\Jm C S' hQ H jl ac:=by
   intro ac aK qB tq aE ae
   have Ao:Sub ap ((x.i,ac)::ap):=Sub.cons Oa
   have rp:∀jl∈k,es ((x.i,ac)::ap) jl.i=none/\U C aK (base+jl.i)=none/\ou jl.op=false:=by
    intro jl rv
    obtain⟨bK,b1,cM⟩:=cb jl (Zu _ rv)
    have dS:=eo jl rv
    refine⟨by rw[r4,Zh dS];exact bK, ?_,cM⟩
    by_cases aj:U C aK (base+jl.i)=U C h (base+jl.i)
    ·rw[aj];exact b1
    ·have:=tq _ aj;omega
   obtain⟨bW,cq,cS,d1,dY⟩:=ai _ _ _ _ dD rp aE
   have Es:U C S' (base+x.i)=U C aK (base+x.i):=by
    by_cases aj:U C S' (base+x.i)=U C aK (base+x.i)
    ·exact aj
    ·obtain⟨jl,rv,E⟩:=d1 _ aj
     exact absurd Zo (eo jl rv)
   refine⟨Ao.trans bW,qB.trans cq,λi aN=> ?_,λb ag=> ?_,λjl rv=> ?_⟩
   ·rcases cS i aN with J|⟨jl,J,Q⟩
    ·rw[r4]at J
     split at J
     ·rename_i E;exact .inr ⟨x,Zv ..,E⟩
     ·exact .inl J
    ·exact .inr ⟨jl,Zu _ J,Q⟩
   ·by_cases aj:U C S' b=U C aK b
    ·rw[aj]at ag
     exact⟨x,Zv ..,tq b ag⟩
    ·obtain⟨jl,J,Q⟩:=d1 b aj
     exact⟨jl,Zu _ J,Q⟩
   ·rcases Zt.1 rv with rfl|rv
    ·exact⟨ac,ae hQ S' bW cq (λ_=>Es)⟩
    ·exact dY jl rv
  have Es:∀(ac:D) (hQ:List (Nat×D)),Sub ((x.i,ac)::ap) hQ->es hQ x.i=some ac:=λac hQ aD=>aD _ _ (by rw[r4,Zp rfl])
  simp only[w6]at a
  split at a
  ·simp at a
  ·rename_i bw
   refine step undef h (qg.refl _) (λb ag=>absurd rfl ag) a λhQ S' aD az _=> ?_
   have Cf:Sub ap hQ:=(Sub.cons Oa).trans aD
   exact⟨λad=>⟨Es _ _ aD,ap,false,Cf,bw,λ_=>rfl,Zs⟩,ap, .nil,false,Cf,agS _,bw,Zs⟩
  ·rename_i bw
   cases aH:nn x.op with
   |make=>
    rw[aH]at a
    simp only at a
    split at a
    ·rename_i ac cV bo
     simp only[hv]at a
     have ag:C.a6<=base+x.i:=Zo
     refine step ac _ (λb=> ?_) (λb kg=> ?_) a λhQ S' aD az Pa=> ?_
     ·rw[ge _ ag]
      by_cases E:b=base+x.i
      ·subst E;exact .inr Tb
      ·rw[Zh E];exact .inl rfl
     ·rw[ge _ ag]at kg
      by_cases E:b=base+x.i
      ·exact E
      ·rw[Zh E]at kg;exact absurd rfl kg
     ·have Cf:Sub ap hQ:=(Sub.cons Oa).trans aD
      have h4:U C S' (base+x.i)=some cV:=by
       rw[Pa (by rw[ge _ ag,Zp rfl];simp),ge _ ag,Zp rfl]
      exact⟨λad=>⟨Es _ _ aD,ap,true,Cf,bw,Zs,λ_=>⟨Tc,λ_=>⟨cV,bo,h4⟩,λaj=>by rw[aH]at aj;cases aj⟩⟩,ap,h,true,Cf,
       (by
        intro b
        rcases az b with aj|aj
        ·rw[ge _ ag]at aj
         by_cases E:b=base+x.i
         ·subst E;exact .inr Tb
         ·rw[Zh E]at aj;exact .inl aj
        ·rw[ge _ ag]at aj
         by_cases E:b=base+x.i
         ·subst E;exact .inr Tb
         ·rw[Zh E]at aj;exact .inr aj),bw,λ_ aj=>by rw[aH]at aj;cases aj⟩
    ·simp at a
   |iu=>
    rw[aH]at a
    simp only at a
    split at a
    ·rename_i ac bc
     refine step ac h (qg.refl _) (λb ag=>absurd rfl ag) a λhQ S' aD az _=> ?_
     have Cf:Sub ap hQ:=(Sub.cons Oa).trans aD
     exact⟨λad=>⟨Es _ _ aD,ap,true,Cf,bw,Zs,λ_=>⟨Tc,λaj=>(by rw[aH]at aj;cases aj),λ_ HS k1=>by rw[awv aH HS k1 h];exact bc⟩⟩,ap,h,true,Cf,az,bw,λ_ _=>bc⟩
    ·simp at a
   |fo=>simp[ou,aH]at Tc
end
section
variable{C:aL}{S da dU:c6}{ad dE d5:Nat->Prop}{h S':R af}{j am bm:Nat}{w b0:World}{n ao:Nat}{aq:Array Oper}
variable{bj:World}{bE:Nat}{bS:List Frame}{v:D}{ai:hP}
variable{fn:Nat}{bd:List h0}{aB:Bool}{ro:Option Nat}{cs:List gY}{H:R D}{tmps:Array Value}{bx:List Item}{an:List Frame}{bG aN:Nat}
def ap4{ap:List (Nat×D)}:∀(k:List fs),DP C H ap h k=true->∀x∈k,∃b,pp x.g ap=some b/\(b=true->∃ac,g4 x.op C h ap H=some ac/\es ap x.i=some ac):=by
 intro k
 induction k with
 |nil=>intro _ x a;simp at a
 |cons F k ai=>
  intro a x ae
  simp only[DP]at a
  split at a
  ·simp at a
  ·rename_i bw
   rcases Zt.1 ae with rfl|ae
   ·exact⟨false,bw,Zs⟩
   ·exact ai a x ae
  ·rename_i bw
   split at a
   ·rename_i ac sL J Q
    simp only[Zq]at a
    have:=QO _ _ _ a.1
    subst this
    rcases Zt.1 ae with rfl|ae
    ·exact⟨true,bw,λ_=>⟨ac,J,Q⟩⟩
    ·exact ai a.2 x ae
   ·simp at a
def aB9{fy:List qh}{y:Nat}{az:List (gD×fs)}:∃s rest,AG fy y az=s::rest/\s.uZ=uo y fy/\s.WG=Fx y fy/\
 (match az with|[]=>s.fo=none/\rest=[]|e::hI=>s.fo=some e.2/\rest=AG fy (y+1) hI):=by
 cases az with
 |nil=>exact⟨_,_,rfl,rfl,rfl,rfl,rfl⟩
 |cons e az=>exact⟨_,_,rfl,rfl,rfl,rfl,rfl⟩
def Br{y:Nat}:∀{fy:List qh}{x:fs},x∈uo y fy↔∃k∈fy,k.bG=y/\k.x=x:=by
 intro fy
 induction fy with
 |nil=>intro x;simp[uo]
 |cons F fy ai=>
  intro x
  simp only[uo,h1]
  by_cases a:F.bG=y
  ·simp only[a,ZE,Zt,ai]
   constructor
   ·rintro(rfl|⟨k,J,Q,ak⟩)
    ·exact⟨F, .inl rfl,a,rfl⟩
    ·exact⟨k, .inr J,Q,ak⟩
   ·rintro⟨k,rfl|J,Q,ak⟩
    ·exact .inl ak.symm
    ·exact .inr ⟨k,J,Q,ak⟩
  ·simp only[a,ZC,ai]
   constructor
   ·rintro⟨k,J,Q,ak⟩;exact⟨k, .tail _ J,Q,ak⟩
   ·rintro⟨k,J,Q,ak⟩
    rcases Zt.1 J with rfl|J
    ·exact absurd Q a
    ·exact⟨k,J,Q,ak⟩
def aAp{y:Nat}:∀{fy:List qh}{k:qh},k∈fy->k.bG<y->y<=k.aN->CY k.x.op=true->k.x∈Fx y fy:=by
 intro fy
 induction fy with
 |nil=>intro k a;simp at a
 |cons F fy ai=>
  intro k az J Q ak
  simp only[Fx,fF]
  rcases Zt.1 az with rfl|az
  ·rw[Zp]
   ·exact Zv ..
   ·have bD:Nat.blt k.bG y=true:=by simp[Nat.blt];omega
    have cG:Nat.ble y k.aN=true:=by simpa using Q
    simp[bD,cG,ak]
  ·split
   ·exact Zu _ (ai az J Q ak)
   ·exact ai az J Q ak
def aoN{y:Nat}:∀{fy:List qh},(fy.Pairwise λF b=>F.x.i<b.x.i)->(uo y fy).Pairwise λF b=>F.i≠b.i:=by
 intro fy
 induction fy with
 |nil=>intro _;simp[uo]
 |cons F fy ai=>
  intro a
  rw[List.pairwise_cons]at a
  simp only[uo,h1]
  split
  ·rw[List.pairwise_cons]
   refine⟨λx ae=> ?_,ai a.2⟩
   obtain⟨k,J,_,rfl⟩:=Br.1 ae
   have:=a.1 k J;omega
  ·exact ai a.2
def aw7(op:j9):ou op=true/\nn op= .fo\/ou op=false/\(nn op= .iu\/nn op= .make):=by
 unfold ou
 cases nn op<;>simp
def ayk(cK:Env C bj dU d5)(gG:n7 C bj bE bS ai){y:List dV}{base ev:Nat}{ap:List (Nat×D)}(vX:bG<=base)(fY:base+aq.size<=j)(g6:C.a6<=base){s:wR}{rest:List wR}
 (dj:match (gR C n ao aq).drop ev with|[]=>s.fo=none|e::hI=>s.fo=some e.2/\rest=AG (md C n ao aq) (ev+1) hI)
 (a:(match s.fo with
    |none=>J9 (lx ao aq.toList 0) ap H λH=>ai .run y ⟨fn,n,ao,bd,aB,ro,cs⟩ H h j
    |some a=>(match pp a.g ap with
     |none=>none
     |some w=>bV (w) ((match ie a.op C h j ap H with
       |some r=>oT r ai C (.AY aq base ap a.i rest (lx ao aq.toList 0)) y ⟨fn,n,ao,bd,aB,ro,cs⟩ H h j
       |none=>none))<|ai .run (.drawn aq base ((a.i,undef)::ap) rest (lx ao aq.toList 0)::y) ⟨fn,n,ao,bd,aB,ro,cs⟩ H h j))=some v):
 ∀(k:List Nat) (S:c6) (ad:Nat->Prop) (w:World) (tmps:Array Value) (dm:Nat->Prop),jz C bj bE bS fn ao bd aB ro cs h j S ad w bG an->l7 C S ad ao y bx->rV C S ad h base n ao aq ap ev (ev+1) H tmps dm->wP aq dm k->
  (∀k∈md C n ao aq,k.bG<ev+1->¬dm k.x.i->∃ac,es ap k.x.i=some ac/\Jm C h ap H k.x ac)->Ends C bj bE bS v (lone (ct S fn bd aB ro tmps (.inRegion aq k::bx) .run) an w):=by
 intro k
 induction k with
 |nil=>
  intro S ad w tmps dm aA aH aE aD UO
  cases aD with
  |nil ly=>
   have OX:(gR C n ao aq).drop ev=[]:=by
    cases b3:(gR C n ao aq).drop ev with
    |nil=>rfl
    |cons e hI=>
     exfalso
     have B:(gR C n ao aq)[ev]? =some e:=by
      have:((gR C n ao aq).drop ev)[0]? =some e:=by rw[b3];rfl
      rwa[YE]at this
     have bT:=ly e.1.i (ap6 aE.st (Zn B)).1
     have:=(aE.done ev e B).1 bT
     omega
   rw[OX]at dj
   simp only at dj
   rw[dj]at a
   simp only[N3,ph]at a
   split at a
   ·rename_i c3 gd
    refine .head aiG ?_
    have bv:pz S ad ao (λ_=>True) (iK aq aq.size) ap H tmps:=by
     obtain⟨_,fd,kw⟩:=MW aq aq.size (Zj _)
     intro t ac _ bc
     apply aE.DN t ac
     split at bc
     ·rename_i T bJ
      obtain⟨bK,b1,cM⟩:=fd t T bJ
      left
      refine⟨T,ly T bK,b1,λpW K0 tr=> ?_,bc⟩
      rcases zc T pW with c2|B4
      ·exact absurd tr (cM pW c2 (aE.xH pW K0))
      ·exact B4
     ·rename_i bJ
      exact .inr ⟨λT K0=>kw t bJ T (aE.xH T K0),bc⟩
    exact gG _ _ _ _ _ _ _ _ _ _ _ _ v a S ad w bG tmps bx an (aA.state (.plain aH (ac9 bv aE.size gd)))
   ·simp at a
 |cons i k nL=>
  intro S ad w tmps dm aA aH aE aD UO
  cases aD with
  |cons bh rr mi tF=>
   rename_i V
   have aN:i<aq.size:=(ZM.1 bh).1
   obtain⟨p,x,o',f1,fD,z3,z4,z5,sP⟩:=yI aE.st i aN
   have au2:o'=V:=by
    have:=z5.oper
    rw[z4,bh]at this
    exact(Yu this).symm
   subst au2
   have PL:=ap7 aE.st aE.closed aE.xH aE.DN fD bh rr mi
   have Ph:=JU aE.closed (Qd fD) (by rw[z3];exact bh) mi
   have ax:=z5
   have bP:=ax.g
   have Er:=ax.op
   have cC:=ax.reads
   rw[z4]at bP Er cC
   have Ab:∀kK,Sub kK ap->jN S ad (lk tmps) (jD (iK aq i) kK H) o'.op.operands.toList:=by
    intro kK Ao
    refine acX (X:=λt=>fB p.r t=true) (λt ac bU bc=>PL t ac bU ?_) (λt a8=>az3 sP a8) cC aA.ij
    split at bc
    ·exact Ao _ _ bc
    ·exact bc
   have Uq:∀T b t,o'.guard=some (T,b)->w9 T (iK aq i)=some t->fB p.r t=true:=by
    intro T b t J Q
    rw[sP.r,GC,z3]
    have:fB (Om (iK aq i) o'.guard) t=true:=by
     rw[J]
     simp only[Om,Q]
     rw[Nu];simp
    rw[this];simp
   have ki:∀(da:c6) (ac:Value),(ct da fn bd aB ro tmps (.inRegion aq (i::k)::bx) .run).finish ac=ct da fn bd aB ro (qP tmps o'.dst ac) (.inRegion aq k::bx) .run:=by
    intro da ac
    rw[N5 (g:=ct da fn bd aB ro tmps _ .run) rfl bh];rfl
   rcases aw7 x.op with ⟨gU,pP⟩|⟨gU,pP⟩
   ·
    have ol:(p,x)∈gR C n ao aq:=by rw[NK];exact YJ.2 ⟨Zn f1,gU⟩
    obtain⟨aj,b3⟩:=ZY.1 ol
    have avh:aj=ev:=by
     rcases YQ aj ev with c2|E|hd
     ·exact absurd ((aE.done aj _ b3).2 c2) (by simpa only[z3]using rr)
     ·exact E
     ·exfalso
      have eT:aj-1<(gR C n ao aq).length:=zq (Zb.1 b3).1
      have afH:(gR C n ao aq)[aj-1]? =some ((gR C n ao aq)[aj-1]):=Ze eT
      have KN:=aE.st.chain
      rw[N9]at KN
      have ag:=atW KN (aj-1) ((gR C n ao aq)[aj-1]).1 p (by rw[Zw,afH];rfl) (by rw[show aj-1+1=aj by omega,Zw,b3];rfl)
      have bT:=Ph _ ag
      have:=(aE.done (aj-1) _ afH).1 bT
      omega
    subst avh
    have OX:(gR C n ao aq).drop aj=(p,x)::(gR C n ao aq).drop (aj+1):=by
     have c2:=(Zb.1 b3).1
     rw[Zr c2,(Zb.1 b3).2]
    rw[OX]at dj
    simp only at dj
    obtain⟨k8,pS⟩:=dj
    rw[k8]at a
    simp only at a
    have B:aq[((p,x):gD×fs).1.i]? =some o':=by simp only[z3];exact bh
    split at a
    ·simp at a
    ·rename_i Xt j4
     have tJ:=Ra (zk aN) bP PL Uq (Sub.refl ap) j4
     have afm:¬dm ((p,x):gD×fs).1.i:=by simpa only[z3]using rr
     have awc:x.i=((p,x):gD×fs).1.i:=by simp only[z3,z4]
     cases Xt with
     |false=>
      simp only[ls]at a
      refine .head (W8 bh tJ) ?_
      rw[ki]
      rw[awc,pS]at a
      have:=aE.fo b3 B afm mi (v:=undef) trivial ax.dst
      exact gG _ _ _ _ _ _ _ _ _ _ _ _ v a S ad w bG _ _ an (aA.state (.drawn aH vX fY this (by simp only[z3];exact tF)))
     |true=>
      simp only[ff]at a
      split at a
      ·rename_i r Y
       have mF:=aeG aA.Y aA.ez cK.kE (Ab ap (Sub.refl ap)) Er Y
       have Lq:m6 C S ad h bG j n ao H tmps (.AY aq base ap x.i rest (lx ao aq.toList 0)::y) (.inRegion aq (i::k)::bx):=by
        have afY:=m6.drawn (bG:=bG) (aN:=j) (k:=k) aH vX fY aE b3 B afm mi (by simp only[z3];exact tF)
        simp only[z3]at afY
        rw[pS,z4]
        exact afY
       exact abM cK gG aA Lq aA.kn (Zj _) bh tJ mF a
      ·simp at a
   ·
    have auL:=Zn f1
    have gT:(⟨x,vw p.m (rg (gR C n ao aq)),B5 p.i (rg (gR C n ao aq))⟩:qh)∈md C n ao aq:=by
     rw[NM];exact ZG.2 ⟨(p,x),YJ.2 ⟨auL,by simp[gU]⟩,rfl⟩
    have oo:vw p.m (rg (gR C n ao aq))<ev+1:=by
     have:=apN p.m (rg (gR C n ao aq)) ev (λaj e b3 f4=>by
      rw[N9,Zw]at b3
      cases cm:(gR C n ao aq)[aj]? with
      |none=>rw[cm]at b3;cases b3
      |some bu=>
       rw[cm]at b3;cases b3
       cases ag:fB p.m bu.1.i with
       |false=>rfl
       |true=>have:=(aE.done aj bu cm).1 (Ph _ ag);omega)
     omega
    have HD:¬dm x.i:=by rw[z4];exact rr
    obtain⟨ac,HV,Vi⟩:=aE.ahead _ gT oo
    obtain⟨vW,kK,b,ael,At,ir,o4⟩:=Vi HD
    have tJ:=Ra (zk aN) bP PL Uq ael At
    have UX:aq[x.i]? =some o':=by rw[z4];exact bh
    have UP:∀RA:Nat->Prop,(∀T,dm T->RA T)->∀k∈md C n ao aq,k.bG<ev+1->¬RA k.x.i->∃ac,es ap k.x.i=some ac/\Jm C h ap H k.x ac:=λRA D5 bM J Q ak=>UO bM J Q (λaj=>ak (D5 _ aj))
    have KF:add dm x.i=add dm i:=by rw[z4]
    cases b with
    |false=>
     have:ac=undef:=ir rfl
     subst this
     refine .head (W8 bh tJ) ?_
     rw[ki]
     have kh:=aE.iu (da:=S) (dE:=ad) gT oo UX HD mi HV (λ_ _=>rfl) (λ_ a=>a) (λ_ a=> .inl a) (by trivial) ax.dst
     simp only[KF]at kh
     exact nL S ad w _ _ aA aH kh tF (UP _ λ_ a=> .inl a)
    |true=>
     obtain⟨_,La,_⟩:=o4 rfl
     rcases pP with pP|pP
     ·obtain⟨sL,sp,an1,un,uq,aM,aR,bn,cv⟩:=UO _ gT oo HD
      simp only at sp bn cv
      rw[HV]at sp;cases sp
      have Vl:=Ra (zk aN) bP PL Uq aM bn
      have fY:uq=true:=by rw[<-Vl,tJ]
      have rn:=cv fY pP
      have Cd:dn C S ad un j bj.heap.size w:=aA.Y.ac4 aR
      obtain⟨a7,b6⟩:=agW Cd (Ab an1 aM) Er rn
      refine .head (FH bh tJ a7 (.inl rfl)) ?_
      rw[ki]
      have kh:=aE.iu (da:=S) (dE:=ad) gT oo UX HD mi HV (λ_ _=>rfl) (λ_ a=>a) (λ_ a=> .inl a) b6 ax.dst
      simp only[KF]at kh
      exact nL S ad w _ _ aA aH kh tF (UP _ λ_ a=> .inl a)
     ·obtain⟨cV,bo,h4⟩:=La pP
      simp only at bo h4
      have o8:¬ad (base+x.i):=λaj=>HD (aE.ids x.i (by rw[z4];exact aN) aj)
      obtain⟨pg,fk,gl,mO⟩:=ag8 (w:=w) (S:=S) o8 (Ab kK ael) (Qb Er bo)
      have c2:base+x.i<j:=by rw[z4];omega
      have nb:=aA.Y.alloc (am:=j) (S':=h) (b:=base+x.i) Zo c2 (Zj _) o8 aA.ez rfl h4 (λ_ _=> .inl rfl) mO (ag9 (Qb Er bo))
      have ae:iZ C bG S ad h bj.heap.size w (gI S (base+x.i) ⟨w.heap.size,0,0⟩) (add ad (base+x.i)) h (w.alloc pg):=
       ⟨rO o8,λ_ a=> .inl a,λe a=>a.elim .inl (λa=> .inr Zo),λ_ _ _=>rfl,Below.alloc (Below.refl _ _) aA.ez _⟩
      refine .head (FH bh tJ fk (.inl rfl)) ?_
      rw[ki, <-Ik ae.jk aA.ig]
      have kh:=aE.iu (da:=gI S (base+x.i) ⟨w.heap.size,0,0⟩) (dE:=add ad (base+x.i)) gT oo UX HD mi HV ae.jk ae.j0 (λ_ a=>a) gl ax.dst
      simp only[KF]at kh
      exact nL _ _ _ _ _ (aA.ext nb ae (Zj _)) (aH.aa ae.jk ae.j0) kh tF (UP _ λ_ a=> .inl a)
end
section
variable{C:aL}{S da dU:c6}{ad dE d5:Nat->Prop}{h S':R af}{j am bm:Nat}{w b0:World}{n ao:Nat}{aq:Array Oper}
variable{bj:World}{bE:Nat}{bS:List Frame}{v:D}{ai:hP}
variable{fn:Nat}{bd:List h0}{aB:Bool}{ro:Option Nat}{cs:List gY}{H:R D}{tmps:Array Value}{bx:List Item}{an:List Frame}{bG aN:Nat}
def dn.more(Y:dn C S ad h j bm w)(aF:j<=am)(iP:∀b,ad b->U C S' b=U C h b)(c2:∀b V,U C S' b=some V->b<am):dn C S ad S' am bm w:=by
 refine⟨ZA Y.a6 aF,λb a=>ZN (Y.lt b a) aF,c2,λb V a d=>Y.obj b V (by rw[<-iP b d];exact a) d,λb dK V o' a cy d lU=>Y.sep b dK V o' (by rw[<-iP b d];exact a) (by rw[<-iP dK lU];exact cy) d lU,λb V ag a d=>Y.base b V ag (by rw[<-iP b d];exact a) d,λb V a d=>Y.fz b V (by rw[<-iP b d];exact a) d⟩
def agX(dj:qf C n ao aq){k bM:qh}(az:k∈md C n ao aq)(hI:bM∈md C n ao aq)(a:k.x.i=bM.x.i):k=bM:=by
 obtain⟨F,aA⟩:=ZY.1 az
 obtain⟨b,ag⟩:=ZY.1 hI
 obtain⟨KD,og⟩:=Zb.1 aA
 obtain⟨o4,lX⟩:=Zb.1 ag
 have aw:=SJ dj
 rw[YM]at aw
 rcases YQ F b with c2|E|hd
 ·have:=aw F b KD o4 c2
  rw[og,lX]at this;omega
 ·subst E;rw[<-og,lX]
 ·have:=aw b F o4 KD hd
  rw[og,lX]at this;omega
def acG(cK:Env C bj dU d5)(gG:n7 C bj bE bS ai){y:List dV}{base ev:Nat}{ap:List (Nat×D)}{dm:Nat->Prop}{k:List Nat}(aA:jz C bj bE bS fn ao bd aB ro cs h j S ad w bG an)
 (aH:l7 C S ad ao y bx)(vX:bG<=base)(fY:base+aq.size<=j)(g6:C.a6<=base)(aE:rV C S ad h base n ao aq ap ev ev H tmps dm)(aD:wP aq dm k)
 (a:yK ai C aq base ap (AG (md C n ao aq) ev ((gR C n ao aq).drop ev)) (lx ao aq.toList 0) y ⟨fn,n,ao,bd,aB,ro,cs⟩ H h j=some v):Ends C bj bE bS v (lone (ct S fn bd aB ro tmps (.inRegion aq k::bx) .run) an w):=by
 obtain⟨s,rest,bD,cG,fV,ke⟩:=aB9 (fy:=md C n ao aq) (y:=ev) (az:=(gR C n ao aq).drop ev)
 rw[bD]at a
 simp only[yK]at a
 split at a
 ·simp at a
 ·rename_i hQ S' gT
  simp only[e5]at a
  obtain⟨Py,a⟩:=a
  rw[cG]at gT
  rw[fV]at Py
  have Uo:∀x∈uo ev (md C n ao aq),es ap x.i=none/\U C h (base+x.i)=none/\ou x.op=false:=by
   intro x ae
   obtain⟨c7,J,Q,rfl⟩:=Br.1 ae
   have bv:es ap c7.x.i=none:=by
    cases bv:es ap c7.x.i with
    |none=>rfl
    |some ac=>
     exfalso
     rcases aE.keys _ ac bv with ⟨cr,bK,b1,cM⟩|⟨p,e,bK,b1,_⟩
     ·have:=agX aE.st bK J b1
      subst this;omega
     ·exact P7 aE.st J bK b1.symm
   obtain⟨_,_,cM,_⟩:=NO J
   exact⟨bv,aE.free _ (NN aE.st J) bv,cM⟩
  obtain⟨bW,cq,cS,d1,dY⟩:=ap3 g6 _ _ _ _ _ (aoN (SJ aE.st)) Uo gT
  have Vb:∀b,ad b->U C S' b=U C h b:=by
   intro b ag
   by_cases aj:U C S' b=U C h b
   ·exact aj
   ·obtain⟨x,ae,E⟩:=d1 b aj
    obtain⟨c7,J,Q,rfl⟩:=Br.1 ae
    have bT:=aE.ids _ (NN aE.st J) (E▸ag)
    have:=aE.uZ c7 J bT
    omega
  have mL:dn C S ad S' j bj.heap.size w:=aA.Y.more (Zj _) Vb (λb V ag=>by
   by_cases aj:U C S' b=U C h b
   ·exact aA.Y.wq b V (by rw[<-aj];exact ag)
   ·obtain⟨x,ae,E⟩:=d1 b aj
    obtain⟨c7,J,Q,rfl⟩:=Br.1 ae
    have:=NN aE.st J
    omega)
  have ae:iZ C bG S ad h bj.heap.size w S ad S' w:=⟨λ_ _=>rfl,λ_ a=>a,λ_ a=> .inl a,λb _ c2=>by
   by_cases aj:U C S' b=U C h b
   ·exact aj
   ·obtain⟨x,ae,E⟩:=d1 b aj
    omega,Below.refl _ _⟩
  have y3:=aA.ext mL ae (Zj _)
  have tr:rV C S ad S' base n ao aq hQ ev (ev+1) H tmps dm:=by
   refine⟨aE.st,aE.size,aE.P1,aE.dX,aE.closed,aE.xH,aE.done,λc7 J Q=>Nat.lt_succ_of_lt (aE.uZ c7 J Q), ?_, ?_, ?_, ?_,aE.ids, ?_⟩
   ·intro i ac bc
    rcases cS i (by rw[bc];simp)with J|⟨x,J,Q⟩
    ·cases bv:es ap i with
     |none=>exact absurd bv J
     |some sL=>
      rcases aE.keys i sL bv with ⟨c7,bK,b1,cM⟩|g
      ·exact .inl ⟨c7,bK,b1,Zo⟩
      ·exact .inr g
    ·obtain⟨c7,bK,b1,rfl⟩:=Br.1 J
     exact .inl ⟨c7,bK,Q,Zo⟩
   ·intro p e B aw
    obtain⟨ac,bc⟩:=aE.vW p e B aw
    exact⟨ac,bW _ _ bc⟩
   ·intro c7 J Q
    by_cases aj:c7.bG=ev
    ·obtain⟨ac,bK,b1⟩:=dY c7.x (Br.2 ⟨c7,J,aj,rfl⟩)
     exact⟨ac,(bK ad).key,λ_=>bK ad⟩
    ·obtain⟨ac,bK,b1⟩:=aE.ahead c7 J Zo
     refine⟨ac,bW _ _ bK,λbT=> ?_⟩
     obtain⟨_,kK,b,dF,fj,d0,ek⟩:=b1 bT
     refine⟨bW _ _ bK,kK,b,dF.trans bW,fj,d0,λag=> ?_⟩
     obtain⟨fN,na,arB⟩:=ek ag
     refine⟨fN,λbo=> ?_,arB⟩
     obtain⟨cV,Tf,Tg⟩:=na bo
     refine⟨cV,Tf, ?_⟩
     by_cases cB:U C S' (base+c7.x.i)=U C h (base+c7.x.i)
     ·rw[cB];exact Tg
     ·obtain⟨x,ae,E⟩:=d1 _ cB
      obtain⟨cr,fk,gl,rfl⟩:=Br.1 ae
      have:=agX aE.st J fk Zo
      subst this;omega
   ·intro t ac bc
    apply aE.DN t ac
    rcases bc with ⟨T,bT,vP,xz,bc⟩|bc
    ·left
     refine⟨T,bT,vP,xz, ?_⟩
     have vW:∃sL,es ap T=some sL:=by
      rcases acF aE.st T (aE.xH T bT)with ⟨c7,bK,b1⟩|⟨p,e,bK,b1⟩
      ·obtain⟨sL,cM,_⟩:=aE.ahead c7 bK (aE.uZ c7 bK (by rw[b1];exact bT))
       exact⟨sL,by rw[<-b1];exact cM⟩
      ·obtain⟨sL,cM⟩:=aE.vW p e bK ((aE.done p e bK).1 (by rw[b1];exact bT))
       exact⟨sL,by rw[<-b1];exact cM⟩
     obtain⟨sL,sp⟩:=vW
     have:=bW _ _ sp
     rw[bc]at this
     cases this
     exact sp
    ·exact .inr bc
   ·intro i aN bv
    have avZ:es ap i=none:=by
     cases b3:es ap i with
     |none=>rfl
     |some ac=>rw[bW _ _ b3]at bv;cases bv
    by_cases aj:U C S' (base+i)=U C h (base+i)
    ·rw[aj];exact aE.free i aN avZ
    ·obtain⟨x,ae,E⟩:=d1 _ aj
     obtain⟨ac,bK,_⟩:=dY x ae
     have:x.i=i:=Zo
     rw[<-this,(bK ad).key]at bv
     cases bv
  refine ayk cK gG vX fY g6 (s:=s) (rest:=rest) ?_ a k S ad w tmps dm y3 aH tr aD ?_
  ·cases b3:(gR C n ao aq).drop ev with
   |nil=>rw[b3]at ke;exact ke.1
   |cons e hI=>rw[b3]at ke;exact ke
  ·intro c7 J Q bT
   by_cases aj:c7.bG=ev
   ·obtain⟨ac,bK,b1⟩:=dY c7.x (Br.2 ⟨c7,J,aj,rfl⟩)
    exact⟨ac,(bK ad).key,b1⟩
   ·obtain⟨ac,bK,b1⟩:=aE.ahead c7 J Zo
    refine⟨ac,bW _ _ bK, ?_⟩
    obtain⟨_,kK,b,dF,fj,d0,ek⟩:=b1 bT
    by_cases HS:CY c7.x.op=true
    ·have tv:ev<=c7.aN:=by
      obtain⟨p,fk,gl,mO,Wc⟩:=NO J
      obtain⟨_,f1,fD,z3,z4,z5⟩:=yJ aE.st fk
      rw[Wc]
      refine auk _ _ _ (by rw[N9,Zi];exact aE.P1) λaj e B c2=> ?_
      rw[N9,Zw]at B
      cases cm:(gR C n ao aq)[aj]? with
      |none=>rw[cm]at B;cases B
      |some bu=>
       rw[cm]at B;cases B
       cases ag:fB bu.1.m p.i with
       |false=>rfl
       |true=>
        exfalso
        have asT:=(aE.done aj bu cm).2 c2
        obtain⟨aFv,Rf,Rg,aF7,aDl,aF8,Xw⟩:=yJ aE.st (NL (Zn cm)).1
        have:=JU aE.closed (Zn aDl) Xw.oper (aE.closed _ _ Xw.oper asT) _ ag
        simp only at fD
        rw[<-fD]at this
        exact bT this
     obtain⟨dK,e8,fR⟩:=ap4 _ Py c7.x (aAp J Zo tv HS)
     refine⟨hQ,S',dK,Sub.refl _,qg.refl _,e8,λag _=> ?_⟩
     obtain⟨sL,hY,pj⟩:=fR ag
     rw[bW _ _ bK]at pj
     cases pj
     exact hY
    ·have HS:CY c7.x.op=false:=by simpa using HS
     refine⟨kK, .nil,b,dF.trans bW,agS _,fj,λag pP=> ?_⟩
     exact(ek ag).2.2 pP HS .nil
def aq1{y:List dV}(id:Nat)(a:l7 C S ad ao y bx){e2:List dV}(bz:exitTo id y=some e2):∃iq,Go.exitTo id bx=some iq/\l7 C S ad ao e2 iq:=by
 induction a with
 |nil=>simp[exitTo]at bz
 |cons J Q ai=>
  cases J<;>simp only[exitTo]at bz
  case inBlock uW=>
   rw[h1]at bz
   split at bz
   ·rename_i E
    simp at bz;subst bz
    exact⟨_,by simp[Go.exitTo,E],Q⟩
   ·rename_i E
    obtain⟨iq,bK,b1⟩:=ai bz
    have:(uW==id)=false:=by simpa using E
    exact⟨iq,by simp[Go.exitTo,this,bK],b1⟩
  all_goals
   obtain⟨iq,bK,b1⟩:=ai bz
   exact⟨iq,by simp[Go.exitTo,bK],b1⟩
def acZ(ij:sZ C S ad){n:Nat}(a8:jO S ad n ao H tmps){x:Operand}{ac:D}(gf:AK C ao [] x=true)(a:xc H x=some ac):lk tmps x=aO S ac/\cj ad ac:=by
 cases x with
 |tmp t=>
  simp only[AK,aoL]at gf
  obtain⟨J,Q⟩:=a8.val t ac gf a
  exact⟨by simp[lk,J],Q⟩
 |const c=>exact Qn a
 |global g=>
  simp[xc]at a;subst a
  simp only[AK]at gf
  obtain⟨bK,b1,cM⟩:=ij g (lS gf)
  exact⟨by simp[lk,aO,b1,cM],bK⟩
 |func f=>
  simp[xc]at a;subst a
  exact⟨by simp[lk,aO,nF,b2],trivial,trivial,trivial⟩
def pz.start{n:Nat}(a8:jO S ad n ao H tmps):pz S ad ao (λ_=>True) (iK aq 0) [] H tmps:=by
 intro t ac _ a
 rw[MV]at a
 exact a8.val t ac a.1 a.2
def aAw(cK:Env C bj dU d5)(gG:n7 C bj bE bS ai){y:List dV}{id:Nat}{BC:Bool}(aA:jz C bj bE bS fn ao bd aB ro cs h j S ad w bG an)(aH:l7 C S ad ao y bx)(a8:jO S ad n ao H tmps)
 (a:aik aq BC ai C y ⟨fn,n,ao,bd,aB,ro,cs⟩ H h j=some v):Ends C bj bE bS v (lone (ct S fn bd aB ro tmps (.code (.region id aq BC)::bx) .run) an w):=by
 cases BC with
 |false=>
  have cy:WJ n ao aq ai C y ⟨fn,n,ao,bd,aB,ro,cs⟩ H h j=some v:=a
  simp only[WJ,ph]at cy
  split at cy
  ·rename_i r Y
   obtain⟨rest,fin⟩:=r
   have Oo:AS rest ⟨ai,aq,fin,y,⟨fn,n,ao,bd,aB,ro,cs⟩⟩ C H [] h j=some v:=cy
   unfold L7 at Y
   split at Y
   ·rename_i c9 is
    simp at Y
    obtain⟨rfl,rfl⟩:=Y
    refine .head aBZ ?_
    refine aiv cK gG c9 [] h j S ad w tmps _ an aA aH ⟨0,YN _, ?_,is,rfl,pz.start a8,a8.size⟩ Oo
    rw[List.range_eq_range'];rfl
   ·simp at Y
  ·simp at cy
 |true=>
  have cy:WI n ao aq ai C y ⟨fn,n,ao,bd,aB,ro,cs⟩ H h j=some v:=a
  simp only[WI,ph]at cy
  split at cy
  ·rename_i r Y
   obtain⟨lH,fin⟩:=r
   have Oo:rf j (λj=>yK ai C aq j [] lH fin y ⟨fn,n,ao,bd,aB,ro,cs⟩ H h (j+aq.size))=some v:=cy
   rw[mE]at Oo
   unfold L6 at Y
   split at Y
   ·simp at Y
   ·rename_i c9 is
    simp only[e5,Zq,Zf]at Y
    obtain⟨⟨⟨bK,b1⟩,cM⟩,dF⟩:=Y
    have je:w7 C n ao aq=c9:=by unfold w7;rw[is];rfl
    have dj:qf C n ao aq:=⟨by rw[je];exact is,bK,b1,by unfold gR;rw[je];exact cM⟩
    have avM:lH=AG (md C n ao aq) 0 ((gR C n ao aq).drop 0)/\fin=lx ao aq.toList 0:=by
     have E:=dF
     cases E
     refine⟨?_,rfl⟩
     rw[Yb]
     unfold md gR
     rw[je];rfl
    obtain⟨rfl,rfl⟩:=avM
    refine .head aB0 ?_
    rw[cK.kE.mixed]
    have ae:iZ C bG S ad h bj.heap.size w S ad h w.drew:=⟨λ_ _=>rfl,λ_ a=>a,λ_ a=> .inl a,λ_ _ _=>rfl,Below.drew (Below.refl _ _)⟩
    have mL:dn C S ad h (j+aq.size) bj.heap.size w.drew:=aA.Y.drew.more (zd _ _) (λ_ _=>rfl) (λb V ag=>ZN (aA.Y.wq b V ag) (zd _ _))
    refine acG cK gG (dm:=λ_=>False) (aA.ext mL ae (zd _ _)) aH aA.kn (Zj _) aA.Y.a6 ?_ (aBa bK _) Oo
    refine⟨dj,a8.size,YN _,aA.Y.a6,λ_ _ _ a=>a.elim,λ_ a=>a.elim,λp e _=>⟨λa=>a.elim,λa=>Zo⟩,λ_ _ a=>a.elim,λi ac bc=>by simp at bc,λp e _ a=>Zo,λc7 _ a=>Zo, ?_, ?_, ?_⟩
    ·intro t ac bc
     rcases bc with ⟨T,a,_⟩|⟨_,J,Q⟩
     ·exact a.elim
     ·exact a8.val t ac J Q
    ·intro i _ aE
     have:=aA.Y.lt _ aE;omega
    ·intro i _ _
     cases b3:U C h (j+i)with
     |none=>rfl
     |some V=>have:=aA.Y.wq _ V b3;omega
  ·simp at cy
end
section
variable{C:aL}{S da dU:c6}{ad dE d5:Nat->Prop}{h S':R af}{j am bm:Nat}{w b0:World}{n ao:Nat}{aq:Array Oper}
variable{bj:World}{bE:Nat}{bS:List Frame}{v:D}{ai:hP}
variable{fn:Nat}{bd:List h0}{aB:Bool}{ro:Option Nat}{cs:List gY}{H:R D}{tmps:Array Value}{bx:List Item}{an:List Frame}{bG aN:Nat}
def aq0{y:List dV}(id:Nat)(a:l7 C S ad ao y bx)(bz:exitTo id y=none):Go.exitTo id bx=none:=by
 induction a with
 |nil=>rfl
 |cons J Q ai=>
  cases J<;>simp only[exitTo]at bz
  case inBlock uW=>
   rw[h1]at bz
   split at bz
   ·simp at bz
   ·rename_i E
    have:(uW==id)=false:=by simpa using E
    simp[Go.exitTo,this,ai bz]
  all_goals simp[Go.exitTo,ai bz]
def V8(aA:jz C bj bE bS fn ao bd aB ro cs h j S ad w bG an){b:Nat}{st jx:LoopState}{rF CU:Option Code}{g5 aP la:Nat}{c3:R D}{params:List Nat}{assign body:Code}{gE:Nat}
 (aF:C.a6<=b)(aE:ad b)(h4:U C h b=some (.loop st rF g5 aP la c3 params assign body gE))(aw:∀c,CU=some c->H7 c):
 ∃hZ,w.heap[(S b).cJ]? =some (.loop ⟨st,rF,g5,hZ,params.toArray,assign,body,(S gE).cJ⟩)/\RB C g5 la/\(∀c,rF=some c->H7 c)/\
  jz C bj bE bS fn ao bd aB ro cs (bi C h b (some (.loop jx CU g5 aP la c3 params assign body gE))) j S ad (w.putObj (S b).cJ (.loop ⟨jx,CU,g5,hZ,params.toArray,assign,body,(S gE).cJ⟩)) bG an:=by
 obtain⟨hZ,g2,nr,sF,Ir,CL,tP,CM⟩:=aA.Y.obj b _ h4 aE
 obtain⟨b0,bW,cq,cS⟩:=putObj aA.Y (df:=bG) (o':= .loop ⟨jx,CU,g5,hZ,params.toArray,assign,body,(S gE).cJ⟩) (pg:= .loop jx CU g5 aP la c3 params assign body gE) aF aE h4 ⟨Zs,Zs⟩ g2 Zs
  (λb0 tI=>⟨hZ,tI,nr,sF,Ir,CL,aw,CM⟩) ⟨λ_ _ _ a=>(by cases a),λ_ _ _ a=>(by cases a)⟩
 rw[run_setObj_loop _ g2]at bW
 simp only[Result.ok.injEq]at bW
 obtain⟨_,rfl⟩:=bW
 exact⟨hZ,g2,CM,tP,aA.ext cq cS (Zj _)⟩
def abZ(gG:n7 C bj bE bS ai){ac:D}{dr:Machine}(aA:jz C bj bE bS fn ao bd false ro cs h j S ad w bG an)(dS:cs≠[])(BP:cj ad ac)
 (qF:∀g jo,an=g::jo->step C.P dr= .next (lone (g.finish (aO S ac)) jo w))(a:up ai false cs ac h j=some v):Ends C bj bE bS v dr:=by
 cases cs with
 |nil=>exact absurd rfl dS
 |cons c rest=>
  obtain⟨g5,aP,la,c3,wC,gE,nq,jR,lD⟩:=c
  obtain⟨sw,hZ,iq,jo,rfl,bW,cq,cS,d1,dY,dk⟩:=aA.cs.inv
  refine .head (qF _ _ rfl) ?_
  cases nq with
  |run=>
   have cy:WN ai wC ⟨g5,aP,la,gE,jR,lD,rest⟩ ac c3 h j=some v:=a
   cases wC with
   |nil=>simp[WN]at cy
   |cons eO y=>exact G6 gG ⟨aA.Y,aA.lq,aA.ij,ZA dY aA.kn,cS,d1,dk⟩ bW aA.kn BP cy
  |returning=>simp[up]at a
  |panicking fw=>simp[up]at a
def VX(gG:n7 C bj bE bS ai){todo:List dV}{jj:Option Code}(bJ:(jj=none/\bx=[])\/(jj=some .ret/\∃y,bx= .code .ret::y)\/(∃id y,jj=some (.exit id)/\bx= .code (.exit id)::y/\Go.exitTo id y=none))
 (aA:jz C bj bE bS fn ao bd aB ro cs h j S ad w bG an)(a8:jO S ad n ao H tmps)
 (a:pe jj ai C todo ⟨fn,n,ao,bd,aB,ro,cs⟩ H h j=some v):Ends C bj bE bS v (lone (ct S fn bd aB ro tmps bx .run) an w):=by
 unfold pe at a
 cases ro with
 |some k=>
  simp only at a
  split at a
  ·rename_i st rF g5 aP la c3 params assign body gE h4
   simp only[e5,Zq,hv]at a
   obtain⟨⟨⟨Eg,aEL⟩,vO⟩,a⟩:=a
   have vO:aB=false:=by simpa using vO
   subst vO
   have aE:=aA.ig.ro k rfl
   have au7:∀c,jj=some c->H7 c:=by
    intro c ax
    subst ax
    rcases bJ with ⟨E,_⟩|⟨E,_⟩|⟨id,y,E,_⟩
    ·cases E
    ·cases E;exact .inl rfl
    ·cases E;exact .inr ⟨id,rfl⟩
   obtain⟨hZ,g2,CM,_,y3⟩:=V8 aA (jx:=bV jj.isNone .ready .done) (CU:=jj) (jQ Eg) aE h4 au7
   have dS:cs≠[]:=λE=>by have:=(aA.bot E).2.2;cases this
   refine abZ (ac:= .bool jj.isNone) gG y3 dS trivial (λg jo E=> ?_) a
   subst E
   refine aB3 bJ ?_
   have:=run_endRound (P:=C.P) jj g2
   rw[this]
   cases jj<;>rfl
  ·simp at a
 |none=>
  simp only[e5]at a
  have dj:Du C bj bE bS .returning todo fn n ao bd aB none cs H h j S ad w bG tmps bx an:=⟨aA.Y,aA.lq,aA.ij,aA.kn,aA.ig,trivial,aA.bot,aA.cs,a8⟩
  have bT:=gG _ _ _ _ _ _ _ _ _ _ _ _ v a.2 S ad w bG tmps bx an dj
  rcases bJ with ⟨rfl,rfl⟩|⟨rfl,y,rfl⟩|⟨id,y,rfl,rfl,_⟩
  ·exact .head aBP bT
  ·exact .head aB1 bT
  ·simp[VB]at a
def aAn(cK:Env C bj dU d5)(gG:n7 C bj bE bS ai){f:Operand}{params:Array Nat}{assign body:Code}{y:List dV}(aA:jz C bj bE bS fn ao bd aB ro cs h j S ad w bG an)(a8:jO S ad n ao H tmps)
 (gf:mc C ao (.rangeFunc f params assign body)=true)(aH:l7 C S ad ao y bx)(a:Mp f params assign body ai C y ⟨fn,n,ao,bd,aB,ro,cs⟩ H h j=some v):
 Ends C bj bE bS v (lone (ct S fn bd aB ro tmps (.code (.rangeFunc f params assign body)::bx) .run) an w):=by
 simp only[mc,Zq]at gf
 obtain⟨cb,afs,h4⟩:=gf
 unfold Mp at a
 split at a
 ·rename_i g first fT S8 aM Ih ap1 JR WQ r7 bz e6
  cases e6
  obtain⟨bD,cG⟩:=acZ aA.ij a8 cb bz
  have kP:∀(b:Nat) (n2:World),(resolve (lk tmps) {callee:= .value f,args:= #[.const (.func (.yield b) #[] #[])],argTypes:= #[]} 0).run C.P n2=
   .ok ⟨.fn (.func g) (b2 S fT).toArray,(b2 S first).toArray++ #[.func (.yield b) #[] #[]]⟩ n2:=by
   intro b n2
   have SO:lk tmps (.const (.func (.yield b) #[] #[]))= .func (.yield b) #[] #[]:=rfl
   simp[resolve,bD,aO,nF,Deferred.ofValue,SO]
  have aeH:∀(b:Nat) (yf:c6) (m3:Nat->Prop) (aK:R af) (Fj:Nat) (n2:World) (uu:List gY) (xh:List Frame) (df:Nat) (bM:Nat),(∀x,ad x->yf x=S x)->(∀x,ad x->m3 x)->m3 bM->(yf bM).cJ=b->
   dn C yf m3 aK Fj bj.heap.size n2->Below bj.heap.size bj n2->sZ C yf m3->df<=Fj->pt C yf m3 aK bE bS df uu xh->uu≠[]->oY ai C g (first++[.func (.yield bM) [] []]++fT) false uu aK Fj=some v->
   ∃args,(invoke (.fn (.func g) (b2 S fT).toArray) ((b2 S first).toArray++ #[.func (.yield b) #[] #[]])).run C.P n2= .ok (.enter g args) n2/\Ends C bj bE bS v (lone (Frame.enter C.P g args .normal) xh n2):=by
   intro b yf m3 aK Fj n2 uu xh df bM dP fX hI ag nJ o4 OZ qC is dS a
   have auc:eu m3 (first++[.func (.yield bM) [] []]++fT):=BM (BM (sc fX _ cG.2.1) ⟨⟨hI,trivial,trivial⟩,trivial⟩) (sc fX _ cG.2.2)
   refine⟨(b2 yf (first++[.func (.yield bM) [] []]++fT)).toArray, ?_,NY gG nJ o4 OZ qC is (λE=>absurd E dS) auc a⟩
   have KM:∃func c,C.P.funcs[g]? =some func/\func.body=some c:=by
    unfold oY at a
    split at a
    ·rename_i func rp
     split at a
     ·rename_i c ax;exact⟨func,c,rp,ax⟩
     ·simp at a
    ·simp at a
   obtain⟨func,c,rp,ax⟩:=KM
   have aF:func.name≠ "runtime.NumGoroutine":=by simpa using cK.kE.num g func rp (by simp[ax])
   have xo:(b2 yf (first++[.func (.yield bM) [] []]++fT)).toArray=((b2 S first).toArray++ #[.func (.yield b) #[] #[]])++(b2 S fT).toArray:=by
    rw[DI,DI,yF dP cG.2.1,yF dP cG.2.2]
    simp[b2,aO,nF,ag]
   rw[xo]
   simp[invoke,callFunc,rp,aF,ax]
  cases ro with
  |none=>
   simp only[mE]at a
   have o8:=sD aA.Y
   have nJ:=aA.Y.alloc (b:=j) (am:=j+1) (pl:=⟨w.heap.size,0,0⟩) (cV:= .deferred (some [])) (V:= .deferred (some [])) (S':=bi C h j (some (.deferred (some [])))) aA.Y.a6 (Yh _) (Z8 _) o8 aA.ez rfl
    (by rw[ge _ aA.Y.a6,Zp rfl]) (λx ae=> .inl (by rw[ge _ aA.Y.a6,Zh ae])) ⟨by rw[World.alloc_heap_new];rfl,λk az=>by cases az;simp⟩ ⟨λ_ _ _ a=>(by cases a),λ_ _ _ a=>(by cases a)⟩
   have Ck:iZ C j S ad h bj.heap.size w (gI S j ⟨w.heap.size,0,0⟩) (add ad j) (bi C h j (some (.deferred (some [])))) (w.alloc (.deferred (some []))):=
    ⟨rO o8,λ_ a=> .inl a,λe a=>a.elim .inl (λa=> .inr Zo),λx _ c2=>by rw[ge _ aA.Y.a6,Zh Zo],Below.alloc (Below.refl _ _) aA.ez _⟩
   have tA:C.a6<=j+1:=Nat.le_succ_of_le aA.Y.a6
   have afl:=sD nJ
   have adU:bj.heap.size<=(w.alloc (.deferred (some []))).heap.size:=by rw[World.size_alloc];have:=aA.ez;omega
   have agb:(gI S j ⟨w.heap.size,0,0⟩ j)=⟨w.heap.size,0,0⟩:=lK ..
   have PQ:=rO (S:=gI S j ⟨w.heap.size,0,0⟩) (pl:=⟨w.heap.size+1,0,0⟩) afl
   have hr:=nJ.alloc (b:=j+1) (am:=j+2) (pl:=⟨w.heap.size+1,0,0⟩) (cV:= .loop .ready none fn n ao H params.toList assign body j) (V:= .loop {state:= .ready,pending:=none,fn,tmps,params,assign,body,defers:=w.heap.size})
    (S':=bi C (bi C h j (some (.deferred (some [])))) (j+1) (some (.loop .ready none fn n ao H params.toList assign body j))) tA (Yh _) (Z8 _) afl adU (by rw[World.size_alloc])
    (by rw[ge _ tA,Zp rfl]) (λx ae=> .inl (by rw[ge _ tA,Zh ae]))
    ⟨tmps,by
     rw[show(⟨w.heap.size+1,0,0⟩:m4).cJ=(w.alloc (.deferred (some []))).heap.size by rw[World.size_alloc],World.alloc_heap_new,PQ j (.inr rfl),agb],
     (a8.aa Ck.jk Ck.j0).aa PQ (λ_ a=> .inl a), .inl (.inr rfl),afs,h4,λc ax=>(by cases ax),aA.ig.fn⟩
    ⟨λ_ _ _ a=>(by cases a),λ_ _ _ a=>(by cases a)⟩
   have EE:iZ C (j+1) (gI S j ⟨w.heap.size,0,0⟩) (add ad j) (bi C h j (some (.deferred (some [])))) bj.heap.size (w.alloc (.deferred (some []))) (gI (gI S j ⟨w.heap.size,0,0⟩) (j+1) ⟨w.heap.size+1,0,0⟩) (add (add ad j) (j+1))
    (bi C (bi C h j (some (.deferred (some [])))) (j+1) (some (.loop .ready none fn n ao H params.toList assign body j))) ((w.alloc (.deferred (some []))).alloc (.loop {state:= .ready,pending:=none,fn,tmps,params,assign,body,defers:=w.heap.size})):=
    ⟨PQ,λ_ a=> .inl a,λe a=>a.elim .inl (λa=> .inr Zo),λx _ c2=>by rw[ge _ tA,Zh Zo],Below.alloc (Below.refl _ _) adU _⟩
   have ae:=Ck.trans (Z8 j) EE
   have og:=aA.ext hr (ae.mono aA.kn) (ZA (Z8 _) (Z8 _))
   have aua:wJ C (add (add ad j) (j+1)) fn ao (⟨.collected j,[]⟩::bd) none:=⟨λd aE=>by
    rcases Zt.1 aE with rfl|aE
    ·exact⟨.inl (.inr rfl),trivial⟩
    ·exact og.ig.bd d aE,og.ig.ro,og.ig.fn⟩
   have Lq:m6 C (gI (gI S j ⟨w.heap.size,0,0⟩) (j+1) ⟨w.heap.size+1,0,0⟩) (add (add ad j) (j+1)) (bi C (bi C h j (some (.deferred (some [])))) (j+1) (some (.loop .ready none fn n ao H params.toList assign body j))) bG (j+2) n ao H tmps
    (.inRangeFunc (j+1)::y) (.inRangeFunc (w.heap.size+1)::bx):=by
    have:=m6.dx (bG:=bG) (aN:=j+2) (h:=bi C (bi C h j (some (.deferred (some [])))) (j+1) (some (.loop .ready none fn n ao H params.toList assign body j))) (aH.aa ae.jk ae.j0) (a8.aa ae.jk ae.j0) (k:=j+1) (.inr rfl)
    rw[lK]at this
    exact this
   have qC:bG<=j+2:=zq aA.kn
   obtain⟨args,bK,b1⟩:=aeH (w.heap.size+1) _ _ _ _ _ _ _ (j+2) (j+1) ae.jk ae.j0 (.inr rfl) (by rw[lK]) hr og.lq og.ij (Zj _)
    (.cons (bR:= .run) Lq trivial aua aA.bot qC og.cs) Zs a
   refine .head (aiF (run_enterLoop_outer fn tmps params assign body) (kP _ _) bK) ?_
   have qA:({ct S fn bd aB none tmps (.inRangeFunc (w.heap.size+1)::bx) .run with defers:=[{target:= .collected w.heap.size,args:= #[]}]++bd.map (ma S)}:Frame)=
    ct (gI (gI S j ⟨w.heap.size,0,0⟩) (j+1) ⟨w.heap.size+1,0,0⟩) fn (⟨.collected j,[]⟩::bd) aB none tmps (.inRangeFunc (w.heap.size+1)::bx) .run:=by
    have E:bd.map (ma (gI (gI S j ⟨w.heap.size,0,0⟩) (j+1) ⟨w.heap.size+1,0,0⟩))=bd.map (ma S):=Yz λd aE=>Sl ae.jk (aA.ig.bd d aE)
    have fV:ma (gI (gI S j ⟨w.heap.size,0,0⟩) (j+1) ⟨w.heap.size+1,0,0⟩) ⟨.collected j,[]⟩={target:= .collected w.heap.size,args:= #[]}:=by
     simp only[ma,DG,b2]
     rw[PQ j (.inr rfl),agb]
    simp only[ct,ZP,E,fV,YF,Yn,Y1]
   rw[qA]
   exact b1
  |some k=>
   simp only[mE]at a
   split at a
   ·rename_i st rF g5 aP la c3 aFy aDu aDx gE az
    have aE:=aA.ig.ro k rfl
    obtain⟨hZ,g2,nr,sF,Ir,CL,tP,CM⟩:=aA.Y.obj k _ az aE
    have o8:=sD aA.Y
    have Vr:=rO (S:=S) (pl:=⟨w.heap.size,0,0⟩) o8
    have hr:=aA.Y.alloc (b:=j) (am:=j+1) (pl:=⟨w.heap.size,0,0⟩) (cV:= .loop .ready none fn n ao H params.toList assign body gE) (V:= .loop {state:= .ready,pending:=none,fn,tmps,params,assign,body,defers:=(S gE).cJ})
     (S':=bi C h j (some (.loop .ready none fn n ao H params.toList assign body gE))) aA.Y.a6 (Yh _) (Z8 _) o8 aA.ez rfl
     (by rw[ge _ aA.Y.a6,Zp rfl]) (λx ae=> .inl (by rw[ge _ aA.Y.a6,Zh ae]))
     ⟨tmps,by rw[World.alloc_heap_new,Vr gE sF],a8.aa Vr (λ_ a=> .inl a), .inl sF,afs,h4,λc ax=>(by cases ax),aA.ig.fn⟩
     ⟨λ_ _ _ a=>(by cases a),λ_ _ _ a=>(by cases a)⟩
    have ae:iZ C j S ad h bj.heap.size w (gI S j ⟨w.heap.size,0,0⟩) (add ad j) (bi C h j (some (.loop .ready none fn n ao H params.toList assign body gE))) (w.alloc (.loop {state:= .ready,pending:=none,fn,tmps,params,assign,body,defers:=(S gE).cJ})):=
     ⟨Vr,λ_ a=> .inl a,λe a=>a.elim .inl (λa=> .inr Zo),λx _ c2=>by rw[ge _ aA.Y.a6,Zh Zo],Below.alloc (Below.refl _ _) aA.ez _⟩
    have og:=aA.ext hr (ae.mono aA.kn) (Z8 _)
    have Lq:m6 C (gI S j ⟨w.heap.size,0,0⟩) (add ad j) (bi C h j (some (.loop .ready none fn n ao H params.toList assign body gE))) bG (j+1) n ao H tmps (.inRangeFunc j::y) (.inRangeFunc w.heap.size::bx):=by
     have:=m6.dx (bG:=bG) (aN:=j+1) (h:=bi C h j (some (.loop .ready none fn n ao H params.toList assign body gE))) (aH.aa ae.jk ae.j0) (a8.aa ae.jk ae.j0) (k:=j) (.inr rfl)
     rw[lK]at this
     exact this
    have qC:bG<=j+1:=zq aA.kn
    obtain⟨args,bK,b1⟩:=aeH w.heap.size _ _ _ _ _ _ _ (j+1) j ae.jk ae.j0 (.inr rfl) (by rw[lK]) hr og.lq og.ij (Zj _)
     (.cons (bR:= .run) Lq trivial og.ig aA.bot qC og.cs) Zs a
    have at0:(Instr.enterLoop fn tmps params assign body ((some k).map λk=>(S k).cJ)).run C.P w= .ok (w.heap.size,[]) (w.alloc (.loop {state:= .ready,pending:=none,fn,tmps,params,assign,body,defers:=(S gE).cJ})):=by
     unfold Instr.enterLoop
     simp only[ZR,Sem.run_bind,run_getLoop g2,run_newObj_alloc,Result.andThen,Sem.run_pure]
    refine .head (aiF at0 (kP _ _) bK) ?_
    have qA:({ct S fn bd aB (some k) tmps (.inRangeFunc w.heap.size::bx) .run with defers:=[]++bd.map (ma S)}:Frame)=ct S fn bd aB (some k) tmps (.inRangeFunc w.heap.size::bx) (g0 S .run):=rfl
    rw[qA, <-Ik ae.jk aA.ig]
    exact b1
   ·simp at a
 ·simp at a
def acl(cK:Env C bj dU d5)(gG:n7 C bj bE bS ai)(aA:jz C bj bE bS fn ao bd aB ro cs h j S ad w bG an)(a8:jO S ad n ao H tmps):∀(c:Code) (y:List dV) (bx:List Item),mc C ao c=true->l7 C S ad ao y bx->
 vv c ai C y ⟨fn,n,ao,bd,aB,ro,cs⟩ H h j=some v->Ends C bj bE bS v (lone (ct S fn bd aB ro tmps (.code c::bx) .run) an w):=by
 intro c
 have go:∀y bx,l7 C S ad ao y bx->ai .run y ⟨fn,n,ao,bd,aB,ro,cs⟩ H h j=some v->Ends C bj bE bS v (lone (ct S fn bd aB ro tmps bx .run) an w):=
  λy bx aH a=>gG _ _ _ _ _ _ _ _ _ _ _ _ v a S ad w bG tmps bx an (aA.state (.plain aH a8))
 induction c with
 |skip=>intro y bx _ aH a;exact .head aB6 (go y bx aH a)
 |region id aq BC=>intro y bx _ aH a;exact aAw cK gG aA aH a8 a
 |seq F b nj hV=>
  intro y bx gf aH a
  simp only[mc,Zq]at gf
  exact .head aB5 (nj (.code b::y) (.code b::bx) gf.1 (.cons (.code gf.2) aH) a)
 |cond c F b nj hV=>
  intro y bx gf aH a
  simp only[mc,Zq]at gf
  have cy:JO c H (vv F ai C y ⟨fn,n,ao,bd,aB,ro,cs⟩ H h j) (vv b ai C y ⟨fn,n,ao,bd,aB,ro,cs⟩ H h j)=some v:=a
  simp only[JO,ph]at cy
  split at cy
  ·rename_i ac bc
   obtain⟨bD,_⟩:=acZ aA.ij a8 gf.1 bc
   cases ac with
   |bool t=>
    refine .head (aBN (t:=t) (by rw[bD];rfl)) ?_
    cases t with
    |true=>exact nj y bx gf.2.1 aH cy
    |false=>exact hV y bx gf.2.2 aH cy
   |_=>simp at cy
  ·simp at cy
 |block id b hV=>intro y bx gf aH a;exact .head aBM (hV (.inBlock id::y) (.inBlock id::bx) gf (.cons .inBlock aH) a)
 |loop b hV=>intro y bx gf aH a;exact .head aBW (hV (.inLoop b::y) (.inLoop b::bx) gf (.cons (.inLoop gf) aH) a)
 |rangeFunc f params assign body _ _=>intro y bx gf aH a;exact aAn cK gG aA a8 gf aH a
 |exit id=>
  intro y bx _ aH a
  have cy:BF id ai C y ⟨fn,n,ao,bd,aB,ro,cs⟩ H h j=some v:=a
  unfold BF at cy
  split at cy
  ·rename_i e2 bz
   obtain⟨iq,bK,b1⟩:=aq1 id aH bz
   exact .head (aBR bK) (go e2 iq b1 cy)
  ·rename_i bz
   exact VX gG (.inr (.inr ⟨id,bx,rfl,rfl,aq0 id aH bz⟩)) aA a8 cy
 |scope b hV=>intro y bx gf aH a;exact .head aB4 (hV (.inScope b::y) (.inScope b::bx) gf (.cons (.inScope gf) aH) a)
 |label k=>intro y bx _ aH a;exact .head aBV (go y bx aH a)
 |goto k=>intro y bx _ _ a;exact absurd a (by simp[vv,Ff])
 |ret=>intro y bx _ aH a;exact VX gG (.inr (.inl ⟨rfl,bx,rfl⟩)) aA a8 a
 |refuse s=>intro y bx _ _ a;exact absurd a (by simp[vv,Ff])
def aAD(aA:dn C S ad h j bm w)(a8:jO S ad n ao H tmps){b9:ResultVar->Sem Value}(iC:∀t,b9 (.tmp t)=pure (tmps.getD t Go.undef))(du:∀F t,b9 (.cell F t)=do loadVar t (<-asAddr (tmps.getD F Go.undef))):
 ∀(k:List ResultVar) (br:List D),AO ao k=true->xX C h H k=some br->(k.mapM b9).run C.P w= .ok (b2 S br) w/\eu ad br:=by
 intro k
 induction k with
 |nil=>intro br _ a;simp[xX]at a;subst a;exact⟨by simp[b2],trivial⟩
 |cons x k ai=>
  intro br gf a
  cases x with
  |tmp t=>
   simp only[AO,Zq]at gf
   simp only[xX]at a
   split at a
   ·rename_i ac r bc Y
    simp at a;subst a
    obtain⟨J,Q⟩:=a8.val t ac gf.1 bc
    obtain⟨ak,ay⟩:=ai r gf.2 Y
    refine⟨?_,Q,ay⟩
    simp[Y7,iC,J,ak,b2]
   ·simp at a
  |cell F t=>
   simp only[AO,Zq]at gf
   simp only[xX]at a
   split at a
   ·rename_i p aw
    split at a
    ·rename_i ac r bc Y
     simp at a;subst a
     obtain⟨J,Q⟩:=a8.val F p gf.1 aw
     obtain⟨ak,ay⟩:=ai r gf.2 Y
     obtain⟨bt,b4⟩:=abI aA Q bc
     refine⟨?_,b4,ay⟩
     cases p with
     |ptr b V=>
      simp only[Instr.loadAt,Instr.sureAddr,aO,Sem.run_bind,Sem.run_pure,Result.andThen_ok]at bt
      simp[Y7,du,J,aO,asAddr,bt,ak,b2]
     |_=>simp[l8,cZ,aI]at bc;split at bc<;>simp at bc
    ·simp at a
   ·simp at a
def azg(br:List D):(if a:(b2 S br).toArray.size=1 then(b2 S br).toArray[0]else Value.tuple (b2 S br).toArray)=aO S (one br):=by
 match br with
 |[]=>simp[one,b2,aO]
 |[F]=>simp[one,b2]
 |F::b::r=>simp[one,b2,aO]
def azf{br:List D}(a:eu ad br):cj ad (one br):=by
 match br,a with
 |[],a=>exact a
 |[F],a=>exact a.1
 |F::b::r,a=>exact a
def jz.defs(aA:jz C bj bE bS fn ao bd aB ro cs h j S ad w bG an){gE:List h0}(a:∀d∈gE,xf ad d):jz C bj bE bS fn ao gE aB ro cs h j S ad w bG an:=
 ⟨aA.Y,aA.lq,aA.ij,aA.kn,⟨a,aA.ig.ro,aA.ig.fn⟩,aA.bot,aA.cs⟩
def jz.Xo{todo:List dV}{bR:ll}(K8:bR≠ .run)(bP:rh ad bR)(aA:jz C bj bE bS fn ao bd aB ro cs h j S ad w bG an)(a8:jO S ad n ao H tmps):
 Du C bj bE bS bR todo fn n ao bd aB ro cs H h j S ad w bG tmps bx an:=by
 cases bR with
 |run=>exact absurd rfl K8
 |returning=>exact⟨aA.Y,aA.lq,aA.ij,aA.kn,aA.ig,bP,aA.bot,aA.cs,a8⟩
 |panicking fw=>exact⟨aA.Y,aA.lq,aA.ij,aA.kn,aA.ig,bP,aA.bot,aA.cs,a8⟩
def acB(cK:Env C bj dU d5)(gG:n7 C bj bE bS ai){d:h0}{ds:List h0}{bR:ll}{todo:List dV}(K8:bR≠ .run)(bP:rh ad bR)(aA:jz C bj bE bS fn ao (d::ds) aB ro cs h j S ad w bG an)(a8:jO S ad n ao H tmps)
 (a:x4 d ds bR todo ai C ⟨fn,n,ao,[],aB,ro,cs⟩ H h j=some v):Ends C bj bE bS v (lone (ct S fn (d::ds) aB ro tmps bx (g0 S bR)) an w):=by
 have O1:xf ad d:=aA.ig.bd d (Zv ..)
 have aeR:∀d∈ds,xf ad d:=λlU aE=>aA.ig.bd lU (Zu _ aE)
 have aez:g0 S bR≠ .run:=by cases bR<;>simp[g0]at K8 ⊢
 unfold x4 at a
 split at a
 rename_i S8 aM Ih ap1 JR WQ r7 e6
 cases e6
 split at a
 ·rename_i r cp
  split at a
  ·rename_i ql h4
   simp only[e5,hv]at a
   obtain⟨Eg,a⟩:=a
   have aE:ad r:=O1.1
   obtain⟨g2,nr⟩:=aA.Y.obj r _ h4 aE
   simp only[ZR]at g2
   obtain⟨b0,bW,cq,cS⟩:=putObj aA.Y (df:=bG) (o':= .deferred none) (pg:= .deferred none) (jQ Eg) aE h4 ⟨Zs,Zs⟩ g2 Zs
    (λb0 tI=>⟨by simpa using tI,λk az=>by cases az⟩) ⟨λ_ _ _ a=>(by cases a),λ_ _ _ a=>(by cases a)⟩
   have PH:(Instr.takeDeferred (S r).cJ).run C.P w= .ok (ql.map (ma S)) b0:=by
    have E:b0=w.putObj (S r).cJ (.deferred none):=by
     have:(Go.setObj (S r).cJ (.deferred none)).run C.P w= .ok () (w.putObj (S r).cJ (.deferred none)):=by simp[Go.setObj,Sem.run,g2,World.putObj]
     rw[this]at bW
     simp only[Result.ok.injEq]at bW
     exact bW.2.symm
    rw[E]
    exact run_takeDeferred g2
   refine .head (aB7 (dE:=ql++ds) aez PH (by rw[ZQ])) ?_
   have atM:∀d∈ql++ds,xf ad d:=λlU tr=>by
    rcases Zz.1 tr with aj|aj
    ·exact nr ql rfl lU aj
    ·exact aeR lU aj
   have y3:=(aA.defs atM).ext cq cS (Zj _)
   exact gG _ _ _ _ _ _ _ _ _ _ _ _ v a S ad b0 bG tmps bx an (y3.Xo K8 bP a8)
  ·simp at a
 ·rename_i f fT args
  split at a
  ·rename_i g cp Uv
   have mF:=agl (S:=S) (h:=h) (j:=j) (bm:=bj.heap.size) (w:=w) cK.kE O1.1.1 O1.1.2 O1.2 Uv
   obtain⟨J,Q⟩:=mF
   have qF:=step_defer (P:=C.P) (fr:=ct S fn (⟨.fn f fT,args⟩::ds) aB ro tmps bx (g0 S bR)) (cs:=an) (w:=w) (d:=ma S ⟨.fn f fT,args⟩) (ds:=ds.map (ma S)) aez rfl rfl J
   refine .head qF ?_
   have aD:Bm C S ad h bG j n ao H tmps bR todo bx:=by
    cases bR with
    |run=>exact absurd rfl K8
    |_=>exact a8
   exact acO (DM:=true) gG aA.Y aA.lq aA.ij (Zj _) (.cons (bR:=bR) aD bP ((aA.defs aeR).ig) aA.bot aA.kn aA.cs) (λE=>by cases E) Q a
  ·simp at a
def aqb(S:c6):∀(k:List sR),(k.map (ur S)).dropWhile (!·.goexit)=[]:=by
 intro k
 induction k with
 |nil=>rfl
 |cons F k ai=>simp[ur,ai]
def aBl(S:c6)(fw:List sR):settle (g0 S (.panicking fw))=g0 S (x9 fw):=by
 cases fw with
 |nil=>rfl
 |cons p k=>
  obtain⟨v,r⟩:=p
  cases r with
  |false=>simp[g0,settle,x9,ur]
  |true=>simp[g0,settle,x9,ur,aqb]
def aCH{fw:List sR}(a:rh ad (.panicking fw)):rh ad (x9 fw):=by
 unfold x9
 split
 ·trivial
 ·exact a
def aCI(fw:List sR):x9 fw≠ .run:=by
 unfold x9
 split<;>simp
def aAI(cK:Env C bj dU d5)(gG:n7 C bj bE bS ai){todo:List dV}(aA:jz C bj bE bS fn ao bd aB ro cs h j S ad w bG an)(a8:jO S ad n ao H tmps)
 (a:MC todo ai C ⟨fn,n,ao,bd,aB,ro,cs⟩ H h j=some v):Ends C bj bE bS v (lone (ct S fn bd aB ro tmps bx .returning) an w):=by
 unfold MC at a
 cases bd with
 |cons d ds=>exact acB (bR:= .returning) cK gG Zs trivial aA a8 a
 |nil=>
  simp only at a
  split at a
  ·rename_i f cb
   obtain⟨ac2,rp,kP⟩:=aA.ig.fn
   rw[cb]at rp;cases rp
   split at a
   ·rename_i br Lx
    have pb:(results f tmps).run C.P w= .ok (aO S (one br)) w/\eu ad br:=by
     unfold results
     rw[Sem.run_bind,Array.mapM_eq_mapM_toList,Sem.run_map]
     obtain⟨e8,fR⟩:=aAD aA.Y a8 (b9:=λx=>match x with| .tmp t=>pure (tmps.getD t Go.undef)| .cell F t=>do loadVar t (<-asAddr (tmps.getD F Go.undef))) (λ_=>rfl) (λ_ _=>rfl) _ _ kP Lx
     refine⟨?_,fR⟩
     refine(congrArg (λr=>Result.andThen (Result.andThen r _) _) e8).trans ?_
     simp only[Result.andThen_ok,Sem.run_pure]
     rw[<-azg]
    obtain⟨pb,asv⟩:=pb
    cases aB with
    |false=>
     have Pd:(ct S fn [] false ro tmps bx .returning).leaving C.P w (.returned (aO S (one br))):=⟨rfl,rfl,rfl,f,cb,pb⟩
     cases cs with
     |nil=>
      simp only[up,ls,Zf]at a
      subst a
      obtain⟨bZ,cu,c0⟩:=aA.bot rfl
      have is:=aA.cs
      cases is with
      |nil=>exact⟨S,w,_, .refl _ _,Pd,bZ,aA.lq⟩
     |cons c rest=>
      refine abZ gG aA Zs (azf asv) (λg jo E=> ?_) a
      subst E
      exact step_leave_returned Pd
    |true=>
     cases cs with
     |nil=>have:=(aA.bot rfl).2.1;cases this
     |cons c rest=>
      obtain⟨g5,aP,la,c3,wC,gE,nq,jR,lD⟩:=c
      obtain⟨sw,hZ,iq,jo,rfl,bW,cq,cS,d1,dY,dk⟩:=aA.cs.inv
      have qF:=step_going_returned (P:=C.P) (fr:=ct S fn [] true ro tmps bx .returning) (c:=ct S g5 gE jR lD hZ iq (g0 S nq)) (cs:=jo) (w:=w) (v:=aO S (one br)) rfl ⟨rfl,rfl,f,cb,pb⟩
      refine .head qF ?_
      cases nq with
      |run=>simp[up]at a
      |returning=>
       have cy:ai .returning wC ⟨g5,aP,la,gE,jR,lD,rest⟩ c3 h j=some v:=a
       exact gG _ _ _ _ _ _ _ _ _ _ _ _ v cy S ad w sw hZ iq jo ⟨aA.Y,aA.lq,aA.ij,ZA dY aA.kn,cS,trivial,d1,dk,bW⟩
      |panicking fw=>
       have cy:ai (x9 fw) wC ⟨g5,aP,la,gE,jR,lD,rest⟩ c3 h j=some v:=a
       have E:({ct S g5 gE jR lD hZ iq (g0 S (.panicking fw))with mode:=settle (ct S g5 gE jR lD hZ iq (g0 S (.panicking fw))).mode}:Frame)=ct S g5 gE jR lD hZ iq (g0 S (x9 fw)):=by
        rw[show(ct S g5 gE jR lD hZ iq (g0 S (.panicking fw))).mode=g0 S (.panicking fw) from rfl,aBl]
        rfl
       rw[E]
       have ag:jz C bj bE bS g5 la gE jR lD rest h j S ad w sw jo:=⟨aA.Y,aA.lq,aA.ij,ZA dY aA.kn,cS,d1,dk⟩
       exact gG _ _ _ _ _ _ _ _ _ _ _ _ v cy S ad w sw hZ iq jo (ag.Xo (aCI fw) (aCH cq) bW)
   ·simp at a
  ·simp at a
def aAk(S:c6)(fw:List sR)(bR:ll):raised (g0 S bR) (fw.map (ur S))=g0 S (Fu fw bR):=by
 cases bR<;>simp[g0,raised,Fu]
def aAb{fw:List sR}{bR:ll}(a:rh ad (.panicking fw))(cy:rh ad bR):rh ad (Fu fw bR):=by
 cases bR with
 |panicking qM=>
  intro p aw
  rcases Zz.1 aw with aj|aj
  ·exact a p aj
  ·exact cy p aj
 |_=>exact a
def azC(cK:Env C bj dU d5)(gG:n7 C bj bE bS ai){todo:List dV}{fw:List sR}(bP:rh ad (.panicking fw))(aA:jz C bj bE bS fn ao bd aB ro cs h j S ad w bG an)(a8:jO S ad n ao H tmps)
 (a:MB fw todo ai C ⟨fn,n,ao,bd,aB,ro,cs⟩ H h j=some v):Ends C bj bE bS v (lone (ct S fn bd aB ro tmps bx (g0 S (.panicking fw))) an w):=by
 unfold MB at a
 cases bd with
 |cons d ds=>exact acB (bR:= .panicking fw) cK gG Zs bP aA a8 a
 |nil=>
  simp only at a
  cases cs with
  |nil=>simp at a
  |cons c rest=>
   obtain⟨g5,aP,la,c3,wC,gE,nq,jR,lD⟩:=c
   obtain⟨sw,hZ,iq,jo,rfl,bW,cq,cS,d1,dY,dk⟩:=aA.cs.inv
   obtain⟨f,cb,_⟩:=aA.ig.fn
   have qF:=step_going_panicked (P:=C.P) (fr:=ct S fn [] aB ro tmps bx (g0 S (.panicking fw))) (c:=ct S g5 gE jR lD hZ iq (g0 S nq)) (cs:=jo) (w:=w) (chain:=fw.map (ur S)) ⟨rfl,rfl,f,cb⟩
   refine .head qF ?_
   have E:({ct S g5 gE jR lD hZ iq (g0 S nq)with mode:=raised (ct S g5 gE jR lD hZ iq (g0 S nq)).mode (fw.map (ur S))}:Frame)=ct S g5 gE jR lD hZ iq (g0 S (Fu fw nq)):=by
    rw[show(ct S g5 gE jR lD hZ iq (g0 S nq)).mode=g0 S nq from rfl,aAk]
    rfl
   rw[E]
   have cy:ai (Fu fw nq) wC ⟨g5,aP,la,gE,jR,lD,rest⟩ (vx wC c3) h j=some v:=a
   have ag:jz C bj bE bS g5 la gE jR lD rest h j S ad w sw jo:=⟨aA.Y,aA.lq,aA.ij,ZA dY aA.kn,cS,d1,dk⟩
   exact gG _ _ _ _ _ _ _ _ _ _ _ _ v cy S ad w sw hZ iq jo (ag.Xo (by cases nq<;>simp[Fu]) (aAb bP cq) bW.drop)
def aiH(cK:Env C bj dU d5)(qG:n7 C bj bE bS ai):n7 C bj bE bS λbR todo b9 H h j=>Xa ai C bR todo b9 H h j:=by
 intro bR todo fn n ao bd aB ro cs H h j v cy S ad w df tmps bx an dj
 cases bR with
 |run=>
  obtain⟨aA,a8⟩:=dj.aoI
  have Q:aiI todo ai C ⟨fn,n,ao,bd,aB,ro,cs⟩ H h j=some v:=cy
  cases a8 with
  |plain aH xG=>
   cases aH with
   |nil=>
    have ak:pe none ai C [] ⟨fn,n,ao,bd,aB,ro,cs⟩ H h j=some v:=Q
    exact VX qG (.inl ⟨rfl,rfl⟩) aA xG ak
   |cons aN aH=>
    rename_i F x y bx
    have ak:agn F ai C y ⟨fn,n,ao,bd,aB,ro,cs⟩ H h j=some v:=Q
    have go:∀y bx,l7 C S ad ao y bx->ai .run y ⟨fn,n,ao,bd,aB,ro,cs⟩ H h j=some v->Ends C bj bE bS v (lone (ct S fn bd aB ro tmps bx .run) an w):=
     λy bx aH a=>qG _ _ _ _ _ _ _ _ _ _ _ _ v a S ad w df tmps bx an (aA.state (.plain aH xG))
    cases aN with
    |code gf=>exact acl cK qG aA xG _ y bx gf aH ak
    |inBlock=>exact .head aBS (go y bx aH ak)
    |inLoop gf=>exact .head aBT (acl cK qG aA xG _ _ _ gf (.cons (.inLoop gf) aH) ak)
    |inScope gf=>exact .head aBU (go y bx aH ak)
    |DS aE=>
     rename_i k
     have ay:GW k ai C y ⟨fn,n,ao,bd,aB,ro,cs⟩ H h j=some v:=ak
     unfold GW at ay
     split at ay
     ·rename_i st rF g5 aP la c3 params assign body gE h4
      have Ts:st≠ .busy->bV (kM C k) (jS (bi C h k (some (.loop .exhausted rF g5 aP la c3 params assign body gE))) λh=>ai .run ((rF.map dV.code).toList++y) ⟨fn,n,ao,bd,aB,ro,cs⟩ H h j) none=some v->
       Ends C bj bE bS v (lone (ct S fn bd aB ro tmps (.endRangeFunc (S k).cJ::bx) .run) an w):=by
       intro avL bt
       simp only[e5,hv]at bt
       obtain⟨Eg,bt⟩:=bt
       have UZ:∀c,rF=some c->H7 c:=by
        obtain⟨_,_,_,_,_,_,tP,_⟩:=aA.Y.obj k _ h4 aE
        exact tP
       obtain⟨hZ,g2,CM,tP,y3⟩:=V8 aA (jx:= .exhausted) (CU:=rF) (jQ Eg) aE h4 UZ
       refine .head (aBQ (run_endLoop g2 avL)) ?_
       refine qG _ _ _ _ _ _ _ _ _ _ _ _ v bt S ad _ df tmps _ an (y3.state (.plain ?_ xG))
       cases rF with
       |none=>exact aH
       |some c=>
        have ax:mc C ao c=true:=by
         rcases tP c rfl with rfl|⟨id,rfl⟩<;>rfl
        exact .cons (.code ax) aH
      cases st with
      |busy=>simp at ay
      |ready=>exact Ts Zs ay
      |done=>exact Ts Zs ay
      |exhausted=>exact Ts Zs ay
     ·simp at ay
    |begin=>
     have ay:JF ai C y ⟨fn,n,ao,bd,aB,ro,cs⟩ H h j=some v:=ak
     unfold JF at ay
     cases ro with
     |none=>simp at ay
     |some k=>
      simp only at ay
      split at ay
      ·rename_i rF g5 aP la c3 params assign body gE h4
       simp only[e5,hv]at ay
       obtain⟨Eg,ay⟩:=ay
       have aE:=aA.ig.ro k rfl
       have UZ:∀c,rF=some c->H7 c:=by
        obtain⟨_,_,_,_,_,_,tP,_⟩:=aA.Y.obj k _ h4 aE
        exact tP
       obtain⟨hZ,g2,CM,tP,y3⟩:=V8 aA (jx:= .busy) (CU:=rF) (jQ Eg) aE h4 UZ
       refine .head (aBL (run_beginRound g2 rfl)) ?_
       exact qG _ _ _ _ _ _ _ _ _ _ _ _ v ay S ad _ df tmps bx an (y3.state (.plain aH xG))
      ·simp at ay
  |seq aH aD=>exact aiv cK qG _ _ _ _ _ _ _ _ _ _ aA aH aD Q
  |drawn aH bt b4 dh eI=>exact acG cK qG aA aH bt b4 dh.dX dh eI Q
 |returning=>
  have aA:jz C bj bE bS fn ao bd aB ro cs h j S ad w df an:=⟨dj.Y,dj.lq,dj.ij,dj.kn,dj.ig,dj.bot,dj.cs⟩
  exact aAI (todo:=todo) cK qG aA dj.todo cy
 |panicking fw=>
  have aA:jz C bj bE bS fn ao bd aB ro cs h j S ad w df an:=⟨dj.Y,dj.lq,dj.ij,dj.kn,dj.ig,dj.bot,dj.cs⟩
  exact azC (todo:=todo) cK qG dj.mode aA dj.todo cy
def aA2(cK:Env C bj dU d5):∀n,n7 C bj bE bS (run C n):=by
 intro n
 induction n with
 |zero=>intro bR todo fn n ao bd aB ro cs H h j v a;simp[run]at a
 |succ m qG=>exact aiH cK qG
def aAZ(cK:Env C bj dU d5){m f:Nat}{args:List D}(gc:eu d5 args)(a:AQ C m f args=some v):
 Calls C.P f (b2 dU args).toArray bj λE b0=>(∃S,E= .returned (aO S v))/\Below bj.heap.size bj b0:=by
 intro r7
 have bT:Ends C bj f r7 v (lone (Frame.enter C.P f (b2 dU args).toArray .normal) r7 bj):=
  NY (aA2 cK m) cK.base (Below.refl _ _) cK.ij (Zj _) .nil (λ_=>rfl) gc a
 obtain⟨S,b0,fr,J,Q,ak,ay⟩:=bT
 exact⟨.returned (aO S v),b0,fr,⟨⟨S,rfl⟩,ay⟩,J,ak,Q⟩
end
end Go.ba

