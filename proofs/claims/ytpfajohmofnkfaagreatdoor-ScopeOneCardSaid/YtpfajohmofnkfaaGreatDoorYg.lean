/- A part of the proof of the claim's last text: what it is used for is said there; no condition of its own. -/
import Derived.Test.YtpfajohmofnkfaaGreatDoorYf
import Derived.Defers
import Derived.RangeFuncRecord
import Derived.Orders
set_option maxHeartbeats 8000000
set_option linter.unusedVariables false
set_option linter.unusedSimpArgs false
namespace Go.al
open Go.RowKit (Below)
structure M2(C:aX)(bk:World):Prop where
 val:∀f args v,C.hf f args=some v->((∀K ia,aD K v=aD ia v)/\∀Z,b0 Z v)/\(∀K ia,bI K args=bI ia args)/\∀Z,dW Z args
 ok:∀f args v,C.hf f args=some v->∀K w,Below bk.heap.size bk w->
  (callFunc f (bI K args).toArray).run C.P w= .ok (.value (aD K v)) w\/
  ((callFunc f (bI K args).toArray).run C.P w= .ok (.enter f (bI K args).toArray) w/\Calls C.P f (bI K args).toArray w λE bz=>E= .returned (aD K v)/\Below w.heap.size w bz)
structure Env(C:aX)(bk:World)(dB:cY)(dU:Nat->Prop):Prop where
 j9:wI C.P
 hf:M2 C bk
 base:cS C dB dU .nil C.bj bk.heap.size bk
 hu:q1 C dB dU
def Ends(C:aX)(bk:World)(bt:Nat)(bJ:List Frame)(v:H)(ca:Machine):Prop:=
 ∃K bz fr,Steps C.P ca (lone fr bJ bz)/\fr.leaving C.P bz (.returned (aD K v))/\fr.fn=bt/\Below bk.heap.size bk bz
structure Bb(C:aX)(bk:World)(bt:Nat)(bJ:List Frame)(bG:ks)(todo:List dy)(fn n ap:Nat)(a8:List hj)(aB:Bool)(ro:Option Nat)(cs:List gi)(J:U H)(h:U an)(k:Nat)
 (K:cY)(Z:Nat->Prop)(w:World)(cK:Nat)(tmps:Array Value)(bs:List Item)(aC:List Frame):Prop where
 S:cS C K Z h k bk.heap.size w
 kx:Below bk.heap.size bk w
 hu:q1 C K Z
 jE:cK<=k
 ht:vf C Z fn ap a8 ro
 mode:px Z bG
 bot:cs=[]->fn=bt/\aB=false/\ro=none
 cs:nM C K Z h bt bJ cK cs aC
 todo:match bG with
  | .run=>Bd C K Z h cK k n ap J tmps todo bs
  |_=>iR K Z n ap J tmps
def mM(C:aX)(bk:World)(bt:Nat)(bJ:List Frame)(ah:g4):Prop:=
 ∀bG todo fn n ap a8 aB ro cs J h k v,ah bG todo ⟨fn,n,ap,a8,aB,ro,cs⟩ J h k=some v->
  ∀K Z w cK tmps bs aC,Bb C bk bt bJ bG todo fn n ap a8 aB ro cs J h k K Z w cK tmps bs aC->Ends C bk bt bJ v (lone (cl K fn a8 aB ro tmps bs (gj K bG)) aC w)
section
variable{C:aX}{K c1:cY}{Z di:Nat->Prop}{h V:U an}{k av bg:Nat}{w bz:World}{n ap:Nat}{aq:Array Oper}
variable{bk:World}{bt:Nat}{bJ:List Frame}{v:H}
theorem Ends.head{ca FH:Machine}(a:step C.P ca= .next FH)(cv:Ends C bk bt bJ v FH):Ends C bk bt bJ v ca:=by
 obtain⟨K,bz,fr,M,R⟩:=cv
 exact⟨K,bz,fr, .head a M,R⟩
theorem Ends.steps{ca FH:Machine}(a:Steps C.P ca FH)(cv:Ends C bk bt bJ v FH):Ends C bk bt bJ v ca:=by
 obtain⟨K,bz,fr,M,R⟩:=cv
 exact⟨K,bz,fr,a.trans M,R⟩
theorem cS.later(S:cS C K Z h k bg w)(ai:Below w.heap.size w bz):cS C K Z h k bg bz:=
 ⟨S.bj,S.lt,S.uG,λb W a d=>(S.obj b W a d).af (λ_ _=>rfl) (λ_ a=>a) (ai.block _ (S.obj b W a d).lt),S.sep,S.base,S.fb⟩
theorem Env.now{dB:cY}{dU:Nat->Prop}(aW:Env C bk dB dU)(ai:Below bk.heap.size bk w):cS C dB dU .nil C.bj w.heap.size w:=by
 have S:=aW.base.later ai
 refine⟨S.bj,S.lt,S.uG,S.obj,S.sep, ?_,S.fb⟩
 intro b W aS bc _
 exfalso
 unfold ab at bc
 rw[fB,Zg (by simp[Nat.blt];omega)]at bc
 simp at bc
theorem Env.later{dB:cY}{dU:Nat->Prop}(aW:Env C bk dB dU)(ai:Below bk.heap.size bk w):Env C w dB dU:=
 ⟨aW.j9,⟨aW.hf.val,λf args v a K r4 oT=>aW.hf.ok f args v a K r4 (ai.trans (oT.mono ai.size))⟩,aW.now ai,aW.hu⟩
variable{fn:Nat}{a8:List hj}{aB:Bool}{ro:Option Nat}{tmps:Array Value}{bs:List Item}{aC:List Frame}
theorem lJ(tmps:Array Value)(bs:List Item):stepG C.P true {frame:=cl K fn a8 aB ro tmps bs .run,callers:=aC,status:= .running,dying:=none} w=stepG.exec C.P true true (cl K fn a8 aB ro tmps bs .run) aC none w:=by
 simp[stepG,cl]
theorem asN{I b:Code}:step C.P (lone (cl K fn a8 aB ro tmps (.code (.seq I b)::bs) .run) aC w)= .next (lone (cl K fn a8 aB ro tmps (.code I:: .code b::bs) .run) aC w):=
 step_lone_go (by rw[lJ];simp[stepG.exec,cl])
theorem asO:step C.P (lone (cl K fn a8 aB ro tmps (.code .skip::bs) .run) aC w)= .next (lone (cl K fn a8 aB ro tmps bs .run) aC w):=
 step_lone_go (by rw[lJ];simp[stepG.exec,cl])
theorem asD{l:Nat}:step C.P (lone (cl K fn a8 aB ro tmps (.code (.label l)::bs) .run) aC w)= .next (lone (cl K fn a8 aB ro tmps bs .run) aC w):=
 step_lone_go (by rw[lJ];simp[stepG.exec,cl])
theorem asA{l:Nat}:step C.P (lone (cl K fn a8 aB ro tmps (.inBlock l::bs) .run) aC w)= .next (lone (cl K fn a8 aB ro tmps bs .run) aC w):=
 step_lone_go (by rw[lJ];simp[stepG.exec,cl])
theorem asC{b:Code}:step C.P (lone (cl K fn a8 aB ro tmps (.inScope b::bs) .run) aC w)= .next (lone (cl K fn a8 aB ro tmps bs .run) aC w):=
 step_lone_go (by rw[lJ];simp[stepG.exec,cl])
theorem asu{id:Nat}{b:Code}:step C.P (lone (cl K fn a8 aB ro tmps (.code (.block id b)::bs) .run) aC w)= .next (lone (cl K fn a8 aB ro tmps (.code b:: .inBlock id::bs) .run) aC w):=
 step_lone_go (by rw[lJ];simp[stepG.exec,cl])
theorem asE{b:Code}:step C.P (lone (cl K fn a8 aB ro tmps (.code (.loop b)::bs) .run) aC w)= .next (lone (cl K fn a8 aB ro tmps (.code b:: .inLoop b::bs) .run) aC w):=
 step_lone_go (by rw[lJ];simp[stepG.exec,cl])
theorem asB{b:Code}:step C.P (lone (cl K fn a8 aB ro tmps (.inLoop b::bs) .run) aC w)= .next (lone (cl K fn a8 aB ro tmps (.code b:: .inLoop b::bs) .run) aC w):=
 step_lone_go (by rw[lJ];simp[stepG.exec,cl])
theorem asM{b:Code}:step C.P (lone (cl K fn a8 aB ro tmps (.code (.scope b)::bs) .run) aC w)= .next (lone (cl K fn a8 aB ro tmps (.code b:: .inScope b::bs) .run) aC w):=
 step_lone_go (by rw[lJ];simp[stepG.exec,cl])
theorem asv{c:Operand}{I b:Code}{t:Bool}(a:kq tmps c= .bool t):step C.P (lone (cl K fn a8 aB ro tmps (.code (.cond c I b)::bs) .run) aC w)= .next (lone (cl K fn a8 aB ro tmps (.code (if t then I else b)::bs) .run) aC w):=
 step_lone_go (by
  have cv:(cl K fn a8 aB ro tmps (.code (.cond c I b)::bs) .run).eval c= .bool t:=by rw[Gv];exact a
  rw[lJ]
  simp only[cl]at cv
  simp[stepG.exec,cl,cv])
theorem asz{id:Nat}{hD:List Item}(a:Go.exitTo id bs=some hD):step C.P (lone (cl K fn a8 aB ro tmps (.code (.exit id)::bs) .run) aC w)= .next (lone (cl K fn a8 aB ro tmps hD .run) aC w):=
 step_lone_go (by rw[lJ];simp[stepG.exec,cl,a])
theorem asJ:step C.P (lone (cl K fn a8 aB none tmps (.code .ret::bs) .run) aC w)= .next (lone (cl K fn a8 aB none tmps (.code .ret::bs) .returning) aC w):=
 step_lone_go (by rw[lJ];simp[stepG.exec,cl])
theorem asx:step C.P (lone (cl K fn a8 aB none tmps [] .run) aC w)= .next (lone (cl K fn a8 aB none tmps [] .returning) aC w):=
 step_lone_go (by rw[lJ];simp[stepG.exec,cl])
theorem asH{id:Nat}:step C.P (lone (cl K fn a8 aB ro tmps (.code (.region id aq false)::bs) .run) aC w)= .next (lone (cl K fn a8 aB ro tmps (.inRegion aq (List.range aq.size)::bs) .run) aC w):=
 step_lone_go (by rw[lJ];simp[stepG.exec,cl])
theorem asI{id:Nat}:step C.P (lone (cl K fn a8 aB ro tmps (.code (.region id aq true)::bs) .run) aC w)=
 .next (lone (cl K fn a8 aB ro tmps (.inRegion aq (Region.schedule (C.P.follows .mixedOrders) aq (w.tape w.drawn (.order fn id)))::bs) .run) aC w.drew):=
 step_lone_go (by rw[lJ];simp[stepG.exec,cl,Question.forced,Question.cut])
theorem ab5:step C.P (lone (cl K fn a8 aB ro tmps (.inRegion aq []::bs) .run) aC w)= .next (lone (cl K fn a8 aB ro tmps bs .run) aC w):=
 step_lone_go (by rw[lJ];simp[stepG.exec,cl])
theorem RF{i:Nat}{l:List Nat}{W:Oper}(bc:aq[i]? =some W)(bL:Region.wanted W (yielded aq tmps)=false):
 step C.P (lone (cl K fn a8 aB ro tmps (.inRegion aq (i::l)::bs) .run) aC w)= .next (lone ((cl K fn a8 aB ro tmps (.inRegion aq (i::l)::bs) .run).finish Go.undef) aC w):=
 step_lone_go (by rw[lJ];simp[stepG.exec,cl,bc,bL])
theorem QZ{aw:Operand->Value}{W:Oper}{s2:Next}(S:(execOp aw W).run C.P w= .ok s2 bz)(a:∀d,s2≠ .defer d):∀c,W.op≠ .defer c:=by
 intro c ay
 have ag:execOp aw W=(do pure (.defer (<-resolve aw c W.type))):=by unfold execOp;rw[ay]
 rw[ag]at S
 simp only[Sem.run_bind]at S
 cases cf:(resolve aw c W.type).run C.P w with
 |ok d r4=>
  rw[cf]at S
  simp only[Result.andThen_ok,Sem.run_pure,Result.ok.injEq]at S
  exact a d S.1.symm
 |halt E r4=>
  rw[cf]at S
  simp at S
theorem Fq{i:Nat}{l:List Nat}{W:Oper}(bc:aq[i]? =some W)(bL:Region.wanted W (yielded aq tmps)=true)(kC:ro=none\/∀c,W.op≠ .defer c):
 stepG C.P true {frame:=cl K fn a8 aB ro tmps (.inRegion aq (i::l)::bs) .run,callers:=aC,status:= .running,dying:=none} w=
  stepG.apply C.P true (cl K fn a8 aB ro tmps (.inRegion aq (i::l)::bs) .run) aC none (execOp (kq tmps) W) w:=by
 rw[lJ]
 rcases kC with rfl|kC
 ·simp[stepG.exec,stepG.oper,cl,Frame.oper?,bc,bL,Gv]
 ·cases ro with
  |none=>simp[stepG.exec,stepG.oper,cl,Frame.oper?,bc,bL,Gv]
  |some r=>
   have:∀(c:Call),W.op≠ .defer c:=kC
   simp[stepG.exec,stepG.oper,cl,Frame.oper?,bc,bL,Gv]
   split
   ·rename_i R;exact absurd R (this _)
   ·rfl
theorem CV{i:Nat}{l:List Nat}{W:Oper}{ad:Value}{s2:Next}(bc:aq[i]? =some W)(bL:Region.wanted W (yielded aq tmps)=true)
 (S:(execOp (kq tmps) W).run C.P w= .ok s2 bz)(aS:s2= .value ad\/(s2= .skip/\ad=Go.undef)):
 step C.P (lone (cl K fn a8 aB ro tmps (.inRegion aq (i::l)::bs) .run) aC w)= .next (lone ((cl K fn a8 aB ro tmps (.inRegion aq (i::l)::bs) .run).finish ad) aC bz):=
 step_lone_go (by
  rw[Fq bc bL (.inr (QZ S (by rcases aS with rfl|⟨rfl,rfl⟩<;>simp)))]
  rcases aS with rfl|⟨rfl,rfl⟩
  ·simp[stepG.apply,S]
  ·simp[stepG.apply,S])
theorem ab3{i:Nat}{l:List Nat}{W:Oper}{f:Nat}{args:Array Value}(bc:aq[i]? =some W)(bL:Region.wanted W (yielded aq tmps)=true)
 (S:(execOp (kq tmps) W).run C.P w= .ok (.enter f args) bz):
 step C.P (lone (cl K fn a8 aB ro tmps (.inRegion aq (i::l)::bs) .run) aC w)= .next (lone (Frame.enter C.P f args .normal) (cl K fn a8 aB ro tmps (.inRegion aq (i::l)::bs) .run::aC) bz):=
 step_lone_go (by rw[Fq bc bL (.inr (QZ S Zs))];simp[stepG.apply,S,cl])
theorem asK{i:Nat}{l:List Nat}{W:Oper}{b f:Nat}{aR:Array Value}{assign body:Code}(bc:aq[i]? =some W)(bL:Region.wanted W (yielded aq tmps)=true)
 (S:(execOp (kq tmps) W).run C.P w= .ok (.round b f aR assign body) bz):
 step C.P (lone (cl K fn a8 aB ro tmps (.inRegion aq (i::l)::bs) .run) aC w)= .next (lone (Frame.round b f aR assign body .normal) (cl K fn a8 aB ro tmps (.inRegion aq (i::l)::bs) .run::aC) bz):=
 step_lone_go (by rw[Fq bc bL (.inr (QZ S Zs))];simp[stepG.apply,S,cl])
theorem asw{i:Nat}{l:List Nat}{W:Oper}{d:hj}(bc:aq[i]? =some W)(bL:Region.wanted W (yielded aq tmps)=true)
 (S:(execOp (kq tmps) W).run C.P w= .ok (.defer (k7 K d)) bz):
 step C.P (lone (cl K fn a8 aB none tmps (.inRegion aq (i::l)::bs) .run) aC w)= .next (lone ((cl K fn (d::a8) aB none tmps (.inRegion aq (i::l)::bs) .run).finish Go.undef) aC bz):=
 step_lone_go (by rw[Fq bc bL (.inl rfl)];simp[stepG.apply,S,cl])
theorem asF{i:Nat}{l:List Nat}{W:Oper}{ad:H}(bc:aq[i]? =some W)(bL:Region.wanted W (yielded aq tmps)=true)
 (S:(execOp (kq tmps) W).run C.P w= .halt (.panic (aD K ad)) bz):
 step C.P (lone (cl K fn a8 aB none tmps (.inRegion aq (i::l)::bs) .run) aC w)= .next (lone (cl K fn a8 aB none tmps (.inRegion aq (i::l)::bs) (gj K (.panicking [⟨ad,false⟩]))) aC bz):=
 step_lone_go (by rw[Fq bc bL (.inl rfl)];simp[stepG.apply,S,cl,Frame.raise,gj,sl])
theorem asG{i:Nat}{l:List Nat}{W:Oper}{ad:Value}{iL:List Frame}(bc:aq[i]? =some W)(bL:Region.wanted W (yielded aq tmps)=true)
 (S:(execOp (kq tmps) W).run C.P w= .ok .recover bz)
 (aT:Go.tryRecover (cl K fn a8 aB none tmps (.inRegion aq (i::l)::bs) .run) aC=some (ad,iL)\/(Go.tryRecover (cl K fn a8 aB none tmps (.inRegion aq (i::l)::bs) .run) aC=none/\ad= .nilIface/\iL=aC)):
 step C.P (lone (cl K fn a8 aB none tmps (.inRegion aq (i::l)::bs) .run) aC w)= .next (lone ((cl K fn a8 aB none tmps (.inRegion aq (i::l)::bs) .run).finish ad) iL bz):=
 step_lone_go (by
  rw[Fq bc bL (.inl rfl)]
  have E:(cl K fn a8 aB none tmps (.inRegion aq (i::l)::bs) .run).roundOf=none:=rfl
  rcases aT with aT|⟨aT,rfl,rfl⟩
  ·simp[stepG.apply,S,E,aT]
  ·simp[stepG.apply,S,E,aT])
theorem ast{b:Nat}(S:(Instr.beginRound (K b).cq).run C.P w= .ok () bz):
 step C.P (lone (cl K fn a8 aB (some b) tmps (.beginRound::bs) .run) aC w)= .next (lone (cl K fn a8 aB (some b) tmps bs .run) aC bz):=
 step_lone_go (by rw[lJ];simp[stepG.exec,stepG.apply,cl,S,Frame.finish])
theorem asy{b:Nat}{il:Option Code}(S:(Instr.endLoop b).run C.P w= .ok il bz):
 step C.P (lone (cl K fn a8 aB ro tmps (.endRangeFunc b::bs) .run) aC w)= .next (lone (cl K fn a8 aB ro tmps ((il.map Item.code).toList++bs) .run) aC bz):=
 step_lone_go (by rw[lJ];simp[stepG.exec,cl,S])
theorem ab4{f:Operand}{params:Array Tmp}{assign body:Code}{b:Nat}{mark:List Deferred}{g:Nat}{args:Array Value}{kr:World}{d:Deferred}
 (aW:(Instr.enterLoop fn tmps params assign body (ro.map λl=>(K l).cq)).run C.P w= .ok (b,mark) kr)
 (n5:(resolve (kq tmps) {callee:= .value f,args:= #[.const (.func (.yield b) #[] #[])],argTypes:= #[]} 0).run C.P kr= .ok d kr)(Pm:(invoke d.target d.args).run C.P kr= .ok (.enter g args) bz):
 step C.P (lone (cl K fn a8 aB ro tmps (.code (.rangeFunc f params assign body)::bs) .run) aC w)=
  .next (lone (Frame.enter C.P g args .normal) ({cl K fn a8 aB ro tmps (.inRangeFunc b::bs) .run with defers:=mark++a8.map (k7 K)}::aC) bz):=
 step_lone_go (by
  rw[lJ]
  have cB:({cl K fn a8 aB ro tmps (.inRangeFunc b::bs) .run with defers:=mark++a8.map (k7 K)}:Frame).eval=kq tmps:=by rw[Gv];rfl
  simp only[cl]at cB
  simp[stepG.exec,cl,Sem.runT_eq,aW,GStep.bare_after,stepG.apply,cB,Sem.run_bind,n5,Pm,Result.andThen])
theorem asL{il:Option Code}{b:Nat}{ad:Value}{g:Frame}(aP:(il=none/\bs=[])\/(il=some .ret/\∃B,bs= .code .ret::B)\/(∃id B,il=some (.exit id)/\bs= .code (.exit id)::B/\Go.exitTo id B=none))
 (aW:(Instr.endRound (K b).cq il).run C.P w= .ok ad bz):
 step C.P (lone (cl K fn a8 false (some b) tmps bs .run) (g::aC) w)= .next (lone (g.finish ad) aC bz):=
 step_lone_go (by
  rw[lJ]
  rcases aP with ⟨rfl,rfl⟩|⟨rfl,B,rfl⟩|⟨id,B,rfl,rfl,ag⟩
  ·simp[stepG.exec,cl,Sem.runT_eq,aW,GStep.bare_after,doReturn]
  ·simp[stepG.exec,cl,Sem.runT_eq,aW,GStep.bare_after,doReturn]
  ·simp[stepG.exec,cl,Sem.runT_eq,aW,GStep.bare_after,doReturn,ag])
theorem asP{r:Nat}{cm:List H}{ds:List hj}{oL:List Deferred}{mode:FrameMode}{di:List hj}(bi:mode≠ .run)(aW:(Instr.takeDeferred (K r).cq).run C.P w= .ok oL bz)(aI:oL++ds.map (k7 K)=di.map (k7 K)):
 step C.P (lone (cl K fn (⟨.collected r,cm⟩::ds) aB ro tmps bs mode) aC w)= .next (lone (cl K fn di aB ro tmps bs mode) aC bz):=
 step_lone_go (by
  cases mode with
  |run=>exact absurd rfl bi
  |returning=>simp[stepG,unwind,cl,k7,Bj,Sem.runT_eq,aW,GStep.bare_after,aI]
  |panicking fL=>simp[stepG,unwind,cl,k7,Bj,Sem.runT_eq,aW,GStep.bare_after,aI])
end
end Go.al

namespace Go.al
open Go.RowKit (Below)
section
variable{C:aX}{K c1 dB:cY}{Z di dU:Nat->Prop}{h V:U an}{k av bg:Nat}{w bz:World}{n ap:Nat}{aq:Array Oper}
variable{bk:World}{bt:Nat}{bJ:List Frame}{v:H}{ah:g4}
variable{fn:Nat}{a8:List hj}{aB:Bool}{ro:Option Nat}{cs:List gi}{J:U H}{tmps:Array Value}{bs:List Item}{aC:List Frame}{bP aN:Nat}
structure iB(C:aX)(bk:World)(bt:Nat)(bJ:List Frame)(fn ap:Nat)(a8:List hj)(aB:Bool)(ro:Option Nat)(cs:List gi)(h:U an)(k:Nat)(K:cY)(Z:Nat->Prop)(w:World)(cK:Nat)(aC:List Frame):Prop where
 S:cS C K Z h k bk.heap.size w
 kx:Below bk.heap.size bk w
 hu:q1 C K Z
 jE:cK<=k
 ht:vf C Z fn ap a8 ro
 bot:cs=[]->fn=bt/\aB=false/\ro=none
 cs:nM C K Z h bt bJ cK cs aC
theorem iB.eP{cK:Nat}(a:iB C bk bt bJ fn ap a8 aB ro cs h k K Z w cK aC):bk.heap.size<=w.heap.size:=a.kx.size
theorem iB.ext{cK:Nat}(a:iB C bk bt bJ fn ap a8 aB ro cs h k K Z w cK aC)(S:cS C c1 di V av bk.heap.size bz)(ag:hS C cK K Z h bk.heap.size w c1 di V bz)(aS:k<=av):
 iB C bk bt bJ fn ap a8 aB ro cs V av c1 di bz cK aC:=
 ⟨S,a.kx.trans ag.below,a.hu.af ag.hW ag.iH,Zz a.jE aS,a.ht.af ag.iH,a.bot,a.cs.af ag⟩
theorem iB.state{cK:Nat}{todo:List dy}(a:iB C bk bt bJ fn ap a8 aB ro cs h k K Z w cK aC)(aT:Bd C K Z h cK k n ap J tmps todo bs):
 Bb C bk bt bJ .run todo fn n ap a8 aB ro cs J h k K Z w cK tmps bs aC:=⟨a.S,a.kx,a.hu,a.jE,a.ht,trivial,a.bot,a.cs,aT⟩
theorem Bb.agS{todo:List dy}{cK:Nat}(a:Bb C bk bt bJ .run todo fn n ap a8 aB ro cs J h k K Z w cK tmps bs aC):iB C bk bt bJ fn ap a8 aB ro cs h k K Z w cK aC/\Bd C K Z h cK k n ap J tmps todo bs:=
 ⟨⟨a.S,a.kx,a.hu,a.jE,a.ht,a.bot,a.cs⟩,a.todo⟩
theorem nM.inv{cK aY:Nat}{todo:List dy}{bG:ks}(a:nM C K Z h bt bJ cK (⟨fn,aY,ap,J,todo,a8,bG,aB,ro⟩::cs) aC):
 ∃bP tmps bs iL,aC=cl K fn a8 aB ro tmps bs (gj K bG)::iL/\yq C K Z h bP cK aY ap J tmps bG todo bs/\px Z bG/\vf C Z fn ap a8 ro/\(cs=[]->fn=bt/\aB=false/\ro=none)/\bP<=cK/\nM C K Z h bt bJ bP cs iL:=by
 cases a with
 |cons M bi R aM bA cr=>exact⟨_,_,_,_,rfl,M,bi,R,aM,bA,cr⟩
theorem Vn(fW:mM C bk bt bJ ah){f:Nat}{args:List H}{cK:Nat}{Bo:Bool}{so:List gi}{vC:List Frame}(S:cS C K Z h k bk.heap.size w)(ai:Below bk.heap.size bk w)(hu:q1 C K Z)(aE:cK<=k)
 (hM:nM C K Z h bt bJ cK so vC)(KB:so=[]->f=bt/\Bo=false)(jb:dW Z args)(a:nj ah C f args Bo so h k=some v):Ends C bk bt bJ v (lone (Frame.enter C.P f (bI K args).toArray (if Bo then .deferred else .normal)) vC w):=by
 unfold nj at a
 split at a
 ·rename_i func b5
  split at a
  ·rename_i c ay
   simp only[li,d9,Zk]at a
   obtain⟨⟨⟨M,R⟩,au⟩,a⟩:=a
   have M:=iT M
   have tX:Frame.enter C.P f (bI K args).toArray (if Bo then .deferred else .normal)=cl K f [] Bo none ((bI K args).toArray++Array.replicate (func.ntmps-args.length) Go.undef) [.code c] (gj K .run):=by
    simp[Frame.enter,cl,gj,b5,ay,jr]
   rw[tX]
   refine fW _ _ _ _ _ _ _ _ _ _ _ _ v a K Z w cK _ _ vC ?_
   refine⟨S,ai,hu,aE,⟨Zs,Zs,func,b5,au⟩,trivial,λE=>⟨(KB E).1,(KB E).2,rfl⟩,hM, .plain (.cons (.code R) .nil) ⟨?_, ?_⟩⟩
   ·simp[jr];omega
   ·intro t ad _ aZ
    rw[kk]at aZ
    have cR:t<args.length:=(Zc.1 aZ).1
    refine⟨?_,yQ jb aZ⟩
    rw[Yz (by simpa[jr]using cR)]
    simp[yA,aZ]
  ·simp at a
 ·simp at a
theorem JX(fW:mM C bk bt bJ ah){f:Nat}{args:List H}{cK:Nat}{so:List gi}{vC:List Frame}(S:cS C K Z h k bk.heap.size w)(ai:Below bk.heap.size bk w)(hu:q1 C K Z)(aE:cK<=k)
 (hM:nM C K Z h bt bJ cK so vC)(KB:so=[]->f=bt)(jb:dW Z args)(a:nj ah C f args false so h k=some v):Ends C bk bt bJ v (lone (Frame.enter C.P f (bI K args).toArray .normal) vC w):=
 Vn (Bo:=false) fW S ai hu aE hM (λE=>⟨KB E,rfl⟩) jb a
theorem DK(fW:mM C bk bt bJ ah){dY:dy}{B:List dy}{ad:H}(aG:iB C bk bt bJ fn ap a8 aB ro cs h k K Z w bP aC)(aH:lO C K Z h bP aN n ap J tmps (dY::B) bs)(rt:aN<=k)(yS:b0 Z ad)
 (a:(match nV dY ad with|some hc=>ah .run (hc::B) ⟨fn,n,ap,a8,aB,ro,cs⟩ J h k|none=>none)=some v):
 Ends C bk bt bJ v (lone ((cl K fn a8 aB ro tmps bs .run).finish (aD K ad)) aC w):=by
 obtain⟨avD,v8,hc,hi,hD,bF,cB,fh,js⟩:=ai6 (fn:=fn) (a8:=a8) (aB:=aB) (ro:=ro) (mode:= .run) aH rt yS
 cases bF
 rw[cB]at a
 rw[fh]
 exact fW _ _ _ _ _ _ _ _ _ _ _ _ v a K Z w bP hi hD aC (aG.state js)
theorem aop{f:Nat}{args:List H}{ad:H}(cF:Env C bk dB dU)(ai:Below bk.heap.size bk w)(bc:C.hf f args=some ad):
 (
  (∀ia,(callFunc f (bI ia args).toArray).run C.P w= .ok (.value (aD ia ad)) w)\/
  ((∀ia,(callFunc f (bI ia args).toArray).run C.P w= .ok (.enter f (bI ia args).toArray) w)/\∀ia,Calls C.P f (bI ia args).toArray w λE bz=>E= .returned (aD ia ad)/\Below w.heap.size w bz))/\∀c7,b0 c7 ad:=by
 obtain⟨⟨b9,b3⟩,g3,ec⟩:=cF.hf.val f args ad bc
 refine⟨?_,b3⟩
 rcases cF.hf.ok f args ad bc dB w ai with a|⟨M,R⟩
 ·left;intro ia;rw[g3 ia dB,b9 ia dB];exact a
 ·right;exact⟨λia=>by rw[g3 ia dB];exact M,λia=>by rw[g3 ia dB,b9 ia dB];exact R⟩
mutual
theorem Mm:∀(d:Nat) (x j:H),H.same d x j=true->x=j
 |0,_,_,a=>by simp[H.same]at a
 |d+1,x,j,a=>by
  unfold H.same at a
  split at a<;>(try(cases a;done))
  ·simp at a;rw[a]
  ·simp at a;rw[a.1,a.2]
  ·rw[(Ii _ _).1 a]
  ·simp only[Zk]at a;rw[Zi a.1,Zi a.2]
  ·rfl
  ·simp only[Zk]at a;rw[Zi a.1.1.1,Zi a.1.1.2,Zi a.1.2,Zi a.2]
  ·simp only[Zk]at a;rw[Zi a.1.1.1,Zi a.1.1.2,Zi a.1.2,Zi a.2]
  ·rfl
  ·rw[Zi a]
  ·rfl
  ·simp only[Zk,Zh]at a
   rw[a.1.1,IF d _ _ a.1.2,IF d _ _ a.2]
  ·rfl
  ·simp only[Zk]at a;rw[Zi a.1,Mm d _ _ a.2]
  ·rfl
  ·rw[IF d _ _ a]
  ·rw[IF d _ _ a]
theorem IF:∀(d:Nat) (x j:List H),p0 (H.same d) x j=true->x=j
 |_,[],[],_=>rfl
 |_,[],_::_,a=>by simp[p0]at a
 |_,_::_,[],a=>by simp[p0]at a
 |d,I::x,b::j,a=>by
  simp only[p0,Zk]at a
  rw[Mm d _ _ a.1,IF d _ _ a.2]
end
theorem Ends.same{ca:Machine}{gO:H}(aW:∀K,aD K gO=aD K v)(a:Ends C bk bt bJ gO ca):Ends C bk bt bJ v ca:=by
 obtain⟨K,bz,fr,M,R,au⟩:=a
 exact⟨K,bz,fr,M,by rw[<-aW];exact R,au⟩
theorem ajs{dY:dy}{B:List dy}{bS:h1}:∀(l:List (H×U an)) (v:H),w5 ah dY B bS J k l=some v->∀ad V,(ad,V)∈l->
 ∃gO,(match nV dY ad with|some hc=>ah .run (hc::B) bS J V k|none=>none)=some gO/\∀K,aD K gO=aD K v:=by
 intro l
 induction l with
 |nil=>intro v a;simp[w5]at a
 |cons p l mz=>
  intro v a ad V bi
  obtain⟨I,et⟩:=p
  cases l with
  |nil=>
   simp only[w5]at a
   simp at bi
   obtain⟨rfl,rfl⟩:=bi
   exact⟨v,a,λ_=>rfl⟩
  |cons ar l=>
   simp only[w5]at a
   split at a
   ·rename_i hc Pn
    split at a
    ·rename_i x j ag T
     simp only[d9,Ze]at a
     obtain⟨ax,rfl⟩:=a
     rcases Zl.1 bi with E|bi
     ·cases E
      exact⟨x,by rw[Pn];exact ag,λ_=>rfl⟩
     ·obtain⟨gO,b9,b3⟩:=mz j T ad V bi
      exact⟨gO,b9,λK=>by rw[b3 K,Mm _ _ _ ax]⟩
    ·simp at a
   ·simp at a
theorem as5{ad:H}{cZ:List gi}{cK:Nat}{bs:List Item}(hM:nM C K Z h bt bJ cK cs aC)(a:A0 aB cs=some (ad,cZ)):
 ∃iL,nM C K Z h bt bJ cK cZ iL/\b0 Z ad/\(cZ=[]->cs=[])/\
  (Go.tryRecover (cl K fn a8 aB none tmps bs .run) aC=some (aD K ad,iL)\/(Go.tryRecover (cl K fn a8 aB none tmps bs .run) aC=none/\aD K ad= .nilIface/\iL=aC)):=by
 unfold A0 at a
 rw[fB]at a
 cases aB with
 |false=>
  simp at a
  obtain⟨rfl,rfl⟩:=a
  exact⟨aC,hM,trivial,id, .inr ⟨by simp[Go.tryRecover,cl],rfl,rfl⟩⟩
 |true=>
  simp only[ZB]at a
  cases cs with
  |nil=>simp at a
  |cons c rest=>
   obtain⟨gq,aY,kh,cT,uT,fU,l8,iU,kJ⟩:=c
   obtain⟨qE,hi,hD,iL,rfl,bN,cg,cH,eK,eR,ed⟩:=hM.inv
   have same:(ad,cZ)=(H.nilIface,(⟨gq,aY,kh,cT,uT,fU,l8,iU,kJ⟩:gi)::rest)->(∀v AF,gj K l8≠ .panicking (⟨v,false,false⟩::AF))->
    ∃OA,nM C K Z h bt bJ cK cZ OA/\b0 Z ad/\(cZ=[]->(⟨gq,aY,kh,cT,uT,fU,l8,iU,kJ⟩:gi)::rest=[])/\
     (Go.tryRecover (cl K fn a8 true none tmps bs .run) (cl K gq fU iU kJ hi hD (gj K l8)::iL)=some (aD K ad,OA)\/
      (Go.tryRecover (cl K fn a8 true none tmps bs .run) (cl K gq fU iU kJ hi hD (gj K l8)::iL)=none/\aD K ad= .nilIface/\OA=cl K gq fU iU kJ hi hD (gj K l8)::iL)):=by
    intro E dv
    simp only[YJ]at E
    obtain⟨rfl,rfl⟩:=E
    refine⟨_,hM,trivial,λE=>(by cases E), .inr ⟨?_,rfl,rfl⟩⟩
    simp only[Go.tryRecover,cl,ZB]
   simp only at a
   split at a
   ·rename_i v AF
    simp only[Ze,YJ]at a
    obtain⟨rfl,rfl⟩:=a
    have bV:px Z (.panicking (⟨v,true⟩::AF)):=by
     intro p ax
     rcases Zl.1 ax with rfl|ax
     ·exact cg ⟨v,false⟩ (Zq ..)
     ·exact cg p (Zn _ ax)
    refine⟨cl K gq fU iU kJ hi hD (gj K (.panicking (⟨v,true⟩::AF)))::iL, .cons (bG:= .panicking (⟨v,true⟩::AF)) bN bV cH eK eR ed,cg ⟨v,false⟩ (Zq ..),λE=>(by cases E), .inl ?_⟩
    simp[Go.tryRecover,cl,gj,sl]
   ·rename_i pL
    simp only[Ze]at a
    refine same a.symm λv AF E=> ?_
    cases l8 with
    |run=>cases E
    |returning=>cases E
    |panicking fL=>
     cases fL with
     |nil=>cases E
     |cons p c8=>
      obtain⟨aqZ,aqQ⟩:=p
      cases aqQ with
      |true=>simp[gj,sl]at E
      |false=>exact pL aqZ c8 rfl
theorem ar1{aY:Nat}:∀(c8:List Nat) (cm:List H) (J cT:U H) (tmps:Array Value),iR K Z aY ap J tmps->dW Z cm->ws aY c8 cm J=some cT->
 c8.length=cm.length/\iR K Z aY ap cT ((c8.zip (bI K cm)).foldl (λtmps p=>tmps.setIfInBounds p.1 p.2) tmps):=by
 intro c8
 induction c8 with
 |nil=>
  intro cm J cT tmps aT _ a
  cases cm with
  |nil=>simp[ws]at a;subst a;exact⟨rfl,by simpa[bI]using aT⟩
  |cons I cm=>simp[ws]at a
 |cons p c8 anP=>
  intro cm J cT tmps aT bV a
  cases cm with
  |nil=>simp[ws]at a
  |cons I cm=>
   simp only[ws,d9]at a
   obtain⟨ax,a⟩:=a
   have ax:=kd ax
   have P3:iR K Z aY ap (J.set p (some I)) (tmps.setIfInBounds p (aD K I)):=by
    refine⟨by simp[aT.size],λt ad aE aZ=> ?_⟩
    rw[U.kf]at aZ
    by_cases E:p=t
    ·subst E
     simp at aZ;subst aZ
     exact⟨by simp[aT.size,ax],bV.1⟩
    ·simp[E]at aZ
     obtain⟨M,R⟩:=aT.val t ad aE aZ
     exact⟨by rw[Array.getElem?_setIfInBounds_ne E];exact M,R⟩
   obtain⟨M,R⟩:=anP cm _ cT _ P3 bV.2 a
   exact⟨by simp[M],by simpa[bI]using R⟩
theorem Un(cF:Env C bk dB dU)(fW:mM C bk bt bJ ah){dY:dy}{B:List dy}{i:Nat}{l:List Nat}{W:Oper}{r:dz}(aG:iB C bk bt bJ fn ap a8 aB ro cs h k K Z w bP aC)
 (aH:lO C K Z h bP aN n ap J tmps (dY::B) (.inRegion aq (i::l)::bs))(K0:bP<=aN)(rt:aN<=k)(bc:aq[i]? =some W)(bL:Region.wanted W (yielded aq tmps)=true)
 (lA:hr C K Z h k bk.heap.size w (execOp (kq tmps) W) r)(a:ng r ah C dY B ⟨fn,n,ap,a8,aB,ro,cs⟩ J h k=some v):
 Ends C bk bt bJ v (lone (cl K fn a8 aB ro tmps (.inRegion aq (i::l)::bs) .run) aC w):=by
 have nr:bP<=k:=Zz K0 rt
 have done:∀v ad V av,yi C K Z h k bk.heap.size w (execOp (kq tmps) W) ad V av->(match nV dY ad with|some hc=>ah .run (hc::B) ⟨fn,n,ap,a8,aB,ro,cs⟩ J V av|none=>none)=some v->
  Ends C bk bt bJ v (lone (cl K fn a8 aB ro tmps (.inRegion aq (i::l)::bs) .run) aC w):=by
  intro v ad V av aI a
  obtain⟨c1,di,bz,s2,cQ,cG,eL,ic,fM,hF⟩:=aI
  have xE:s2= .value (aD c1 ad)\/(s2= .skip/\aD c1 ad=Go.undef):=cG.imp id λ⟨I,b⟩=>⟨I,by rw[b];rfl⟩
  refine .head (CV bc bL cQ xE) ?_
  rw[<-EU fM.hW aG.ht]
  exact DK fW (aG.ext ic (fM.mono nr) hF) (aH.af (fM.mono rt)) (Zz rt hF) eL a
 cases r with
 |val ad=>exact done v ad h k lA a
 |eW ad V av=>exact done v ad V av lA a
 |enter f args=>
  obtain⟨M,R⟩:=lA
  refine .head (ab3 bc bL M) ?_
  simp only[ng]at a
  refine JX fW aG.S aG.kx aG.hu rt ?_ (λE=>by simp[CW]at E) R a
  exact .cons (bG:= .run) aH trivial aG.ht aG.bot K0 aG.cs
 |known f args ad=>
  obtain⟨M,R,au⟩:=lA
  obtain⟨aP,yS⟩:=aop cF aG.kx M
  simp only[ng]at a
  rcases aP with aP|⟨mu,jO⟩
  ·rw[aP K]at R
   refine .head (CV bc bL R (.inl rfl)) ?_
   exact DK fW aG aH rt (yS Z) a
  ·rw[mu K]at R
   refine .head (ab3 bc bL R) ?_
   obtain⟨E,bz,fr,⟨rfl,BL⟩,ani,_,KY⟩:=jO K (cl K fn a8 aB ro tmps (.inRegion aq (i::l)::bs) .run::aC)
   refine .steps ani (.head (step_leave_returned KY) ?_)
   have ag:hS C aN K Z h bk.heap.size w K Z h bz:=⟨λ_ _=>rfl,λ_ a=>a,λ_ a=> .inl a,λ_ _ _=>rfl,BL.mono aG.eP⟩
   exact DK fW (aG.ext (aG.S.later BL) (ag.mono K0) (Zj _)) (aH.af ag) rt (yS Z) a
 |round b args=>
  obtain⟨M,R,au⟩:=lA
  simp only[ng]at a
  split at a
  ·rename_i st p3 gq aY kh cT params assign body fU gC
   split at a
   ·rename_i agb oS
    obtain⟨hi,he,md,s3,E2,AA,rQ,AB⟩:=aG.S.obj b _ gC au
    obtain⟨cb,b1⟩:=ar1 params args cT agb hi md R oS
    rw[run_yield he (by simp[jr,cb])]at M
    refine .head (asK bc bL M) ?_
    have tX:Frame.round (K b).cq gq (((params.toArray).zip (bI K args).toArray).foldl (λtmps (t,I)=>tmps.setIfInBounds t I) hi) assign body .normal=
     cl K gq [] false (some b) ((params.zip (bI K args)).foldl (λtmps p=>tmps.setIfInBounds p.1 p.2) hi) [.code assign, .beginRound, .code body] (gj K .run):=by
     simp[Frame.round,cl,gj]
    simp only at tX ⊢
    rw[tX]
    refine fW _ _ _ _ _ _ _ _ _ _ _ _ v a K Z w aN _ _ _ ?_
    refine⟨aG.S,aG.kx,aG.hu,rt,⟨Zs,λl aE=>(by cases aE;exact au),AB⟩,trivial,λE=>by simp[CW]at E, .cons (bG:= .run) aH trivial aG.ht aG.bot K0 aG.cs, ?_⟩
    exact .plain (.cons (.code E2) (.cons .begin (.cons (.code AA) .nil))) b1
   ·simp at a
  ·simp at a
 |defer d=>
  obtain⟨M,R⟩:=lA
  simp only[ng]at a
  cases ro with
  |some b=>simp at a
  |none=>
   simp only at a
   refine .head (asw bc bL M) ?_
   have alL:vf C Z fn ap (d::a8) none:=⟨λkS aI=>by
    rcases Zl.1 aI with rfl|aI
    ·exact R
    ·exact aG.ht.a8 kS aI,aG.ht.ro,aG.ht.fn⟩
   exact DK (ad:=undef) fW ⟨aG.S,aG.kx,aG.hu,aG.jE,alL,aG.bot,aG.cs⟩ aH rt trivial a
 |recover=>
  simp only[ng]at a
  cases ro with
  |some b=>simp at a
  |none=>
   simp only at a
   split at a
   ·rename_i ad cZ amW
    obtain⟨iL,b9,b3,g3,ec⟩:=as5 (fn:=fn) (a8:=a8) (tmps:=tmps) (bs:= .inRegion aq (i::l)::bs) aG.cs amW
    refine .head (asG bc bL lA ec) ?_
    exact DK (ad:=ad) fW ⟨aG.S,aG.kx,aG.hu,aG.jE,aG.ht,λE=>aG.bot (g3 E),b9⟩ aH rt b3 a
   ·simp at a
 |panic ad=>
  obtain⟨M,R⟩:=lA
  simp only[ng]at a
  cases ro with
  |some b=>simp at a
  |none=>
   simp only at a
   refine .head (asF bc bL M) ?_
   refine fW _ _ _ _ _ _ _ _ _ _ _ _ v a K Z w bP tmps _ aC ?_
   exact⟨aG.S,aG.kx,aG.hu,aG.jE,aG.ht,λp ax=>by simp at ax;subst ax;exact R,aG.bot,aG.cs,aH.drop⟩
 |fork cd=>
  obtain⟨ad,V,bi,aI⟩:=lA
  simp only[ng]at a
  obtain⟨gO,b9,b3⟩:=ajs cd v a ad V bi
  exact .same b3 (done gO ad V k aI b9)
theorem aaK{W:Op}{d5:Operand->Option H}{b:Nat}{ad:H}{cJ:an}{c7:Nat->Prop}(a:pm W C d5 b=some (ad,cJ)):tk C c7 cJ:=by
 have key:∀l:List H,tk C c7 (.cells (U.ofList l 0 .nil) l.length .own):=λl=>⟨λ_ _ _ a=>(by cases a),λ_ _ _ a=>(by cases a;exact E3)⟩
 have aon:tk C c7 (.map [] 0):=⟨λ_ _ _ a=>(by cases a),λ_ _ _ a=>(by cases a)⟩
 cases W<;>simp only[pm]at a<;>(try(cases a;done))
 case alloc t=>unfold Co at a;split at a<;>simp at a;rw[<-a.2];exact key _
 case box t x=>unfold H9 at a;split at a<;>simp at a;rw[<-a.2];exact key _
 case buildSlice t len jF=>
  unfold Ia at a
  split at a
  ·split at a
   ·simp only[d9]at a
    obtain⟨_,a⟩:=a
    split at a<;>simp at a
    rw[<-a.2];exact key _
   ·simp at a
  ·simp at a
 case makeMap t r=>cases r<;>simp at a;rw[<-a.2];exact aon
theorem aib{i:Nat}(aN:aq.toList.drop i=[]):aq.size<=i:=by simpa using aN
theorem ajb{ap:Nat}{ak:List (Nat×H)}:∀(l:List Oper) (i:Nat) (dZ:List (Nat×Nat)) (nb J cT:U H),(∀t,e7 ap t=true->J.get t=match d8 dZ t with|some aa=>d8 ak aa|none=>nb.get t)->
 w2 ak (kA ap l i) J=some cT->∀t,e7 ap t=true->cT.get t=match d8 (uX l i dZ) t with|some aa=>d8 ak aa|none=>nb.get t:=by
 intro l
 induction l with
 |nil=>intro i dZ nb J cT oS a;simp[kA,w2]at a;subst a;exact oS
 |cons W l ah=>
  intro i dZ nb J cT oS a
  simp only[kA]at a
  simp only[uX]
  split at a
  ·rename_i d aI
   rw[fB]at a
   split at a
   ·rename_i ai
    simp only[w2]at a
    split at a
    ·rename_i ad aZ
     simp only[gK]at a
     refine ah (i+1) _ nb _ cT (λt aT=> ?_) a
     rw[U.kf,Dl,aI]
     by_cases E:d=t
     ·subst E;simp[aZ]
     ·simp[E];exact oS t aT
    ·simp at a
   ·rename_i ai
    refine ah (i+1) _ nb _ cT (λt aT=> ?_) a
    rw[Dl,aI]
    have E:d≠t:=λE=>ai (by rw[E];exact aT)
    simp[E];exact oS t aT
  ·rename_i aI
   refine ah (i+1) _ nb _ cT (λt aT=> ?_) a
   rw[Dl,aI]
   simp;exact oS t aT
theorem VC{ak:List (Nat×H)}{J cT:U H}(bu:nQ K Z ap (λ_=>True) (h0 aq aq.size) ak J tmps)(eg:tmps.size=n)(a:w2 ak (kA ap aq.toList 0) J=some cT):iR K Z n ap cT tmps:=by
 refine⟨eg,λt ad aE aZ=> ?_⟩
 have:=ajb (ap:=ap) (ak:=ak) aq.toList 0 [] J J cT (λ_ _=>rfl) a t aE
 rw[aZ]at this
 apply bu t ad trivial
 have E:h0 aq aq.size=uX aq.toList 0 []:=by unfold h0;rw[ZN Zs]
 rw[E]
 cases bK:d8 (uX aq.toList 0 []) t with
 |some aa=>rw[bK]at this;exact this.symm
 |none=>rw[bK]at this;exact⟨aE,this.symm⟩
theorem abX(cF:Env C bk dB dU)(fW:mM C bk bt bJ ah){B:List dy}{fin:List (Nat×Nat)}:∀(rest:List e4) (ak:List (Nat×H)) (h:U an) (k:Nat) (K:cY) (Z:Nat->Prop) (w:World) (tmps:Array Value) (l:List Nat) (aC:List Frame),
 iB C bk bt bJ fn ap a8 aB ro cs h k K Z w bP aC->k4 C K Z ap B bs->M8 C K Z n ap aq ak rest fin J tmps l->
 x3 rest ⟨ah,aq,fin,B,⟨fn,n,ap,a8,aB,ro,cs⟩⟩ C J ak h k=some v->Ends C bk bt bJ v (lone (cl K fn a8 aB ro tmps (.inRegion aq l::bs) .run) aC w):=by
 intro rest
 induction rest with
 |nil=>
  intro ak h k K Z w tmps l aC aG aP aH a
  obtain⟨i,aN,rfl,ay,rfl,bu,eg⟩:=aH
  have KH:aq.size<=i:=by
   cases aI:aq.toList.drop i with
   |nil=>exact aib aI
   |cons W cd=>
    rw[aI]at ay
    obtain⟨_,_,r,_,_,_,_,_,E⟩:=NB ay
    cases E
  have:i=aq.size:=Zo
  subst this
  simp only[Nat.sub_self,List.range'_zero]
  have cv:Gs ⟨ah,aq,kA ap aq.toList 0,B,⟨fn,n,ap,a8,aB,ro,cs⟩⟩ C J ak h k=some v:=a
  simp only[Gs,J2,nD]at cv
  split at cv
  ·rename_i cT oS
   refine .head ab5 ?_
   exact fW _ _ _ _ _ _ _ _ _ _ _ _ v cv K Z w bP tmps bs aC (aG.state (.plain aP (VC bu eg oS)))
  ·simp at cv
 |cons x rest Ev=>
  intro ak h k K Z w tmps l aC aG aP aH a
  obtain⟨i,aN,rfl,ay,rfl,bu,eg⟩:=aH
  cases aI:aq.toList.drop i with
  |nil=>rw[aI]at ay;simp[ra]at ay
  |cons W cd=>
   rw[aI]at ay
   obtain⟨g,op,r,dD,d2,gQ,yx,ky,E⟩:=NB ay
   cases E
   obtain⟨cQ,cG,eL⟩:=NW aI
   rw[<-IV cQ, <-cG]at ky
   have Ej:List.range' i (aq.size-i)=i::List.range' (i+1) (aq.size-(i+1)):=by
    rw[show aq.size-i=(aq.size-(i+1))+1 by omega,List.range'_succ]
   rw[Ej]
   have pD:=Vi gQ
   have Ei:∀(c1:cY) (di:Nat->Prop) (ad:H),nQ c1 di ap (λ_=>True) (h0 aq i) ak J tmps->b0 di ad->M8 C c1 di n ap aq ((i,ad)::ak) rest (kA ap aq.toList 0) J (pa tmps W.dst (aD c1 ad)) (List.range' (i+1) (aq.size-(i+1))):=by
    intro c1 di ad xD yS
    exact⟨i+1,Zo,rfl,ky,rfl,xD.put cQ (by rw[eg];exact pD) yS,by rw[Mc];exact eg⟩
   have h4:∀(c1:cY) (ad:Value),(cl c1 fn a8 aB ro tmps (.inRegion aq (i::List.range' (i+1) (aq.size-(i+1)))::bs) .run).finish ad=cl c1 fn a8 aB ro (pa tmps W.dst ad) (.inRegion aq (List.range' (i+1) (aq.size-(i+1)))::bs) .run:=by
    intro c1 ad
    rw[J4 (g:=cl c1 fn a8 aB ro tmps _ .run) rfl cQ];rfl
   have cv:CH i g op rest (x3 rest) ⟨ah,aq,kA ap aq.toList 0,B,⟨fn,n,ap,a8,aB,ro,cs⟩⟩ C J ak h k=some v:=a
   simp only[CH,ME,nD]at cv
   split at cv
   ·rename_i Sc l4
    have rH:=MI aN dD bu (λ_ _ _ _ _=>trivial) (Sub.refl ak) l4
    cases Sc with
    |false=>
     simp only[Zt,Zx]at cv
     refine .head (RF cQ rH) ?_
     rw[h4]
     exact Ev _ _ _ _ _ _ _ _ _ aG aP (Ei K Z undef bu trivial) cv
    |true=>
     simp only[ZB]at cv
     have sL:iC K Z (kq tmps) (iI (h0 aq i) ak J) W.op.operands.toList:=Vp bu (λ_ _=>trivial) yx aG.hu
     rw[L3]at cv
     cases pG:l6 op with
     |hQ=>
      simp only[pG,nD]at cv
      split at cv
      ·rename_i ad aZ
       obtain⟨be,b2⟩:=aaw aG.S sL d2 aZ
       refine .head (CV cQ rH be (.inl rfl)) ?_
       rw[h4]
       exact Ev _ _ _ _ _ _ _ _ _ aG aP (Ei K Z ad bu b2) cv
      ·simp at cv
     |make=>
      simp only[pG,nD]at cv
      split at cv
      ·rename_i res n5
       simp only[LH,li]at n5
       split at n5
       ·rename_i ad cJ bi
        simp only[gK,Ze]at n5
        subst n5
        have nt:=qJ aG.S
        obtain⟨kY,ee,fz,ki⟩:=aaJ (w:=w) (K:=K) nt sL (LI d2 bi)
        have ag:hS C bP K Z h bk.heap.size w (f0 K k ⟨w.heap.size,0,0⟩) (add Z k) (bm C h k (some cJ)) (w.alloc kY):=
         ⟨p8 nt,λ_ a=> .inl a,λx a=>a.elim .inl (λa=> .inr (by have:=aG.jE;omega)),λx ag cR=>by rw[e3 _ aG.S.bj,Zg (by have:=aG.jE;omega)],Below.alloc (Below.refl _ _) aG.eP _⟩
        have xh:=aG.S.alloc aG.S.bj (YE _) (Yc _) nt aG.eP rfl (V:=bm C h k (some cJ)) (by rw[e3 _ aG.S.bj,Zr rfl]) (λx ag=> .inl (by rw[e3 _ aG.S.bj,Zg ag])) ki (aaK (LI d2 bi))
        refine .head (CV cQ rH ee (.inl rfl)) ?_
        rw[h4, <-EU ag.hW aG.ht]
        exact Ev _ _ _ _ _ _ _ _ _ (aG.ext xh ag (Yc _)) (aP.af ag.hW ag.iH) (Ei _ _ ad (bu.af ag.hW ag.iH) fz) cv
       ·simp at n5
      ·simp at cv
     |e1=>
      simp only[pG,nD]at cv
      split at cv
      ·rename_i res n5
       have lA:=WV aG.S aG.eP cF.j9 sL d2 n5
       have ant:lO C K Z h bP k n ap J tmps (.r5 aq ak i rest (kA ap aq.toList 0)::B) (.inRegion aq (i::List.range' (i+1) (aq.size-(i+1)))::bs):=
        .seq aP ⟨W,cQ,pD,rfl,ky,rfl,bu,eg⟩
       have now:∀ad V av,yi C K Z h k bk.heap.size w (execOp (kq tmps) W) ad V av->x3 rest ⟨ah,aq,kA ap aq.toList 0,B,⟨fn,n,ap,a8,aB,ro,cs⟩⟩ C J ((i,ad)::ak) V av=some v->
        Ends C bk bt bJ v (lone (cl K fn a8 aB ro tmps (.inRegion aq (i::List.range' (i+1) (aq.size-(i+1)))::bs) .run) aC w):=by
        intro ad V av aI a
        obtain⟨c1,di,bz,s2,bF,cB,fh,js,oP,sr⟩:=aI
        have xE:s2= .value (aD c1 ad)\/(s2= .skip/\aD c1 ad=Go.undef):=cB.imp id λ⟨I,b⟩=>⟨I,by rw[b];rfl⟩
        refine .head (CV cQ rH bF xE) ?_
        rw[h4, <-EU oP.hW aG.ht]
        exact Ev _ _ _ _ _ _ _ _ _ (aG.ext js (oP.mono aG.jE) sr) (aP.af oP.hW oP.iH) (Ei _ _ ad (bu.af oP.hW oP.iH) fh) a
       have pq:ng res ah C (.r5 aq ak i rest (kA ap aq.toList 0)) B ⟨fn,n,ap,a8,aB,ro,cs⟩ J h k=some v->Ends C bk bt bJ v (lone (cl K fn a8 aB ro tmps (.inRegion aq (i::List.range' (i+1) (aq.size-(i+1)))::bs) .run) aC w):=
        λa=>Un cF fW aG ant aG.jE (Zj _) cQ rH lA a
       cases res with
       |val ad=>exact now ad h k lA cv
       |eW ad V av=>exact now ad V av lA cv
       |_=>exact pq cv
      ·simp at cv
   ·simp at cv
end
end Go.al

namespace Go.al
open Go.RowKit (Below)
theorem ahM{l:List Bool}(a:l.count false=0):∀b∈l,b=true:=by
 intro b ai
 cases b with
 |true=>rfl
 |false=>exact absurd ai (List.count_eq_zero.1 a)
theorem arS{aq:Array Oper}(lk:CD aq.toList 0=true):∀(fuel t:Nat) (h5:Array Bool),h5.size=aq.size->h5.toList.count false=fuel->
 vk aq (λi=>h5.getD i false=true) (Region.linearise.go .any aq fuel t h5 []):=by
 intro fuel
 induction fuel with
 |zero=>
  intro t h5 aH ay
  simp only[Region.linearise.go,List.reverse_nil]
  refine .nil λi aN=> ?_
  have cR:i<h5.size:=Zo
  have:=ahM ay h5[i] Zs
  simp[cR,this]
 |succ fuel ah=>
  intro t h5 aH ay
  simp only[Region.linearise.go]
  have Pg:∃i,i<aq.size/\h5.getD i true=false:=by
   have sO:false∈h5.toList:=by
    rw[<-List.count_pos_iff];omega
   obtain⟨i,aN⟩:=ZW.1 sO
   have cR:i<h5.size:=by have:=(Zc.1 aN).1;simpa using this
   refine⟨i,Zo, ?_⟩
   rw[ZM]at aN
   simp[aN]
  have vZ:∃i,i<aq.size/\h5.getD i true=false/\∀aa,aa<i->h5.getD aa false=true:=by
   have key:∀m,(∃i,i<m/\i<aq.size/\h5.getD i true=false)->∃i,i<aq.size/\h5.getD i true=false/\∀aa,aa<i->h5.getD aa false=true:=by
    intro m
    induction m with
    |zero=>rintro⟨i,a,_⟩;omega
    |succ m oZ=>
     rintro⟨i,M,R,au⟩
     by_cases ar:∃i,i<m/\i<aq.size/\h5.getD i true=false
     ·exact oZ ar
     ·have:i=m:=by
       rcases zh i m with a|a
       ·exact absurd ⟨i,a,R,au⟩ ar
       ·omega
      subst this
      refine⟨i,R,au,λaa bK=> ?_⟩
      have cR:aa<h5.size:=Zo
      cases ai:h5[aa]with
      |true=>simp[cR,ai]
      |false=>exact absurd ⟨aa,bK,Zo,by simp[cR,ai]⟩ ar
   obtain⟨i,M,R⟩:=Pg
   exact key (i+1) ⟨i,Zo,M,R⟩
  obtain⟨i0,tZ,anp,hL⟩:=vZ
  have amV:i0∈Region.ready .any aq h5:=by
   rw[mem_ready]
   refine⟨anp,aq[i0],Array.getElem?_eq_getElem tZ,λE aW ai=> ?_⟩
   have:=ap1 lk i0 aq[i0] (by rw[ZM];exact Array.getElem?_eq_getElem tZ) E (by simpa using aW) ai
   exact hL _ Zo
  change vk aq _ (match (Region.ready .any aq h5)[t%(Region.ready .any aq h5).length]? with
   |some i=>Region.linearise.go .any aq fuel (t/(Region.ready .any aq h5).length) (h5.setIfInBounds i true) [i]
   |none=>[].reverse)
  have fj:0<(Region.ready .any aq h5).length:=List.length_pos_of_mem amV
  have cR:t%(Region.ready .any aq h5).length<(Region.ready .any aq h5).length:=zx _ fj
  rw[Zf cR]
  simp only[]
  generalize aN:(Region.ready .any aq h5)[t%(Region.ready .any aq h5).length]=i
  have sO:i∈Region.ready .any aq h5:=by rw[<-aN];exact List.getElem_mem cR
  obtain⟨M,W,R,au⟩:=mem_ready.1 sO
  have auA:i<aq.size:=(ZK.1 R).1
  have ll:i<h5.size:=Zo
  have W1:h5[i]=false:=by simpa[ll]using M
  rw[linearise_go_acc,List.reverse_singleton,List.singleton_append]
  refine .cons R (by simp[ll,W1]) (λE aW ai=>au E (by simpa using aW) ai) ?_
  have b7:add (λi=>h5.getD i false=true) i=λaa=>(h5.setIfInBounds i true).getD aa false=true:=by
   funext aa
   apply propext
   unfold add
   by_cases E:aa=i
   ·subst E;simp[ll]
   ·rw[getD_set_ne false (λar=>E ar.symm)]
    simp[E]
  rw[b7]
  refine ah _ _ (by simpa using aH) ?_
  rw[Array.toList_setIfInBounds,List.count_set (by simpa using ll)]
  have:(h5.toList[i]'(by simpa using ll))=false:=by simpa using W1
  simp[this,ay]
theorem arT{aq:Array Oper}(lk:CD aq.toList 0=true)(t:Nat):vk aq (λ_=>False) (Region.schedule true aq t):=by
 simp only[Region.schedule,Bool.true_or,ZB,Region.linearise]
 have:=arS lk aq.size t (Array.replicate aq.size false) Zs Zs
 have E:(λi=>(Array.replicate aq.size false).getD i false=true)=λ_=>False:=by
  funext i
  apply propext
  by_cases a:i<aq.size<;>simp[a]
 rw[E]at this
 exact this
section
variable{C:aX}{K c1 dB:cY}{Z di dU:Nat->Prop}{h V:U an}{k av bg:Nat}{w bz:World}{n ap:Nat}{aq:Array Oper}
variable{bk:World}{bt:Nat}{bJ:List Frame}{v:H}{ah:g4}
variable{fn:Nat}{a8:List hj}{aB:Bool}{ro:Option Nat}{cs:List gi}{J:U H}{tmps:Array Value}{bs:List Item}{aC:List Frame}{bP aN:Nat}
theorem anT{op:jl}(aP:l6 op= .hQ)(aH:AR op=false)(h V:U an)(ak:List (Nat×H))(J:U H):gp op C h ak J=gp op C V ak J:=by
 cases op<;>simp only[gp]<;>(try rfl)<;>simp[AR]at aH
 case hQ bT W=>cases W<;>simp[AR]at aH<;>rfl
theorem oD.refl(h:U an):oD C h h:=λ_=> .inl rfl
theorem oD.trans{bb aV bo:U an}(a:oD C bb aV)(B:oD C aV bo):oD C bb bo:=λx=>by
 rcases a x with a|a
 ·rcases B x with B|B
  ·exact .inl (a.trans B)
  ·exact .inr (a.trans B)
 ·exact .inr a
theorem aau(h:U an):oD C .nil h:=by
 intro b
 unfold ab
 rw[fB,fB]
 split
 ·exact .inl rfl
 ·exact .inr rfl
theorem ah2{base:Nat}(aS:C.bj<=base):∀(l:List e4) (ak:List (Nat×H)) (h:U an) (gI:List (Nat×H)) (V:U an),(l.Pairwise λI b=>I.i≠b.i)->(∀x∈l,d8 ak x.i=none/\ab C h (base+x.i)=none/\mZ x.op=false)->
 vt C base J l ak h=some (gI,V)->Sub ak gI/\oD C h V/\(∀i,d8 gI i≠none->d8 ak i≠none\/∃x∈l,x.i=i)/\(∀b,ab C V b≠ab C h b->∃x∈l,b=base+x.i)/\
 ∀x∈l,∃ad,(∀Z,I1 C Z V base gI J x ad)/\FK C V gI J x ad:=by
 intro l
 induction l with
 |nil=>
  intro ak h gI V _ _ a
  simp[vt]at a
  obtain⟨rfl,rfl⟩:=a
  exact⟨Sub.refl _,oD.refl _,λi a=> .inl a,λb a=>absurd rfl a,Zs⟩
 |cons x l ah=>
  intro ak h gI V ax b5 a
  rw[List.pairwise_cons]at ax
  obtain⟨d3,dh⟩:=ax
  obtain⟨J7,Oi,Oj⟩:=b5 x (Zq ..)
  have step:∀(ad:H) (bb:U an),oD C h bb->(∀b,ab C bb b≠ab C h b->b=base+x.i)->vt C base J l ((x.i,ad)::ak) bb=some (gI,V)->
   (∀gI V,Sub ((x.i,ad)::ak) gI->oD C bb V->(ab C bb (base+x.i)≠none->ab C V (base+x.i)=ab C bb (base+x.i))->(∀Z,I1 C Z V base gI J x ad)/\FK C V gI J x ad)->
   Sub ak gI/\oD C h V/\(∀i,d8 gI i≠none->d8 ak i≠none\/∃ir∈x::l,ir.i=i)/\(∀b,ab C V b≠ab C h b->∃ir∈x::l,b=base+ir.i)/\∀ir∈x::l,∃ad,(∀Z,I1 C Z V base gI J ir ad)/\FK C V gI J ir ad:=by
   intro ad bb sN vO aI ag
   have xB:Sub ak ((x.i,ad)::ak):=Sub.cons J7
   have pE:∀ir∈l,d8 ((x.i,ad)::ak) ir.i=none/\ab C bb (base+ir.i)=none/\mZ ir.op=false:=by
    intro ir pS
    obtain⟨b9,b3,g3⟩:=b5 ir (Zn _ pS)
    have dv:=d3 ir pS
    refine⟨by rw[qi,Zg dv];exact b9, ?_,g3⟩
    by_cases ar:ab C bb (base+ir.i)=ab C h (base+ir.i)
    ·rw[ar];exact b3
    ·have:=vO _ ar;omega
   obtain⟨bN,cg,cH,eK,eR⟩:=ah _ _ _ _ dh pE aI
   have Ht:ab C V (base+x.i)=ab C bb (base+x.i):=by
    by_cases ar:ab C V (base+x.i)=ab C bb (base+x.i)
    ·exact ar
    ·obtain⟨ir,pS,E⟩:=eK _ ar
     exact absurd Zo (d3 ir pS)
   refine⟨xB.trans bN,sN.trans cg,λi aN=> ?_,λb ai=> ?_,λir pS=> ?_⟩
   ·rcases cH i aN with M|⟨ir,M,R⟩
    ·rw[qi]at M
     split at M
     ·rename_i E;exact .inr ⟨x,Zq ..,E⟩
     ·exact .inl M
    ·exact .inr ⟨ir,Zn _ M,R⟩
   ·by_cases ar:ab C V b=ab C bb b
    ·rw[ar]at ai
     exact⟨x,Zq ..,vO b ai⟩
    ·obtain⟨ir,M,R⟩:=eK b ar
     exact⟨ir,Zn _ M,R⟩
   ·rcases Zl.1 pS with rfl|pS
    ·exact⟨ad,ag gI V bN cg (λ_=>Ht)⟩
    ·exact eR ir pS
  have Ht:∀(ad:H) (gI:List (Nat×H)),Sub ((x.i,ad)::ak) gI->d8 gI x.i=some ad:=λad gI aH=>aH _ _ (by rw[qi,Zr rfl])
  simp only[vt]at a
  split at a
  ·simp at a
  ·rename_i bL
   refine step undef h (oD.refl _) (λb ai=>absurd rfl ai) a λgI V aH aE _=> ?_
   have Ac:Sub ak gI:=(Sub.cons J7).trans aH
   exact⟨λZ=>⟨Ht _ _ aH,ak,false,Ac,bL,λ_=>rfl,Zs⟩,ak, .nil,false,Ac,aau _,bL,Zs⟩
  ·rename_i bL
   cases aP:l6 x.op with
   |make=>
    rw[aP]at a
    simp only at a
    split at a
    ·rename_i ad cJ bi
     simp only[gK]at a
     have ai:C.bj<=base+x.i:=Zo
     refine step ad _ (λb=> ?_) (λb hK=> ?_) a λgI V aH aE KU=> ?_
     ·rw[e3 _ ai]
      by_cases E:b=base+x.i
      ·subst E;exact .inr Oi
      ·rw[Zg E];exact .inl rfl
     ·rw[e3 _ ai]at hK
      by_cases E:b=base+x.i
      ·exact E
      ·rw[Zg E]at hK;exact absurd rfl hK
     ·have Ac:Sub ak gI:=(Sub.cons J7).trans aH
      have gC:ab C V (base+x.i)=some cJ:=by
       rw[KU (by rw[e3 _ ai,Zr rfl];simp),e3 _ ai,Zr rfl]
      exact⟨λZ=>⟨Ht _ _ aH,ak,true,Ac,bL,Zs,λ_=>⟨Oj,λ_=>⟨cJ,bi,gC⟩,λar=>by rw[aP]at ar;cases ar⟩⟩,ak,h,true,Ac,
       (by
        intro b
        rcases aE b with ar|ar
        ·rw[e3 _ ai]at ar
         by_cases E:b=base+x.i
         ·subst E;exact .inr Oi
         ·rw[Zg E]at ar;exact .inl ar
        ·rw[e3 _ ai]at ar
         by_cases E:b=base+x.i
         ·subst E;exact .inr Oi
         ·rw[Zg E]at ar;exact .inr ar),bL,λ_ ar=>by rw[aP]at ar;cases ar⟩
    ·simp at a
   |hQ=>
    rw[aP]at a
    simp only at a
    split at a
    ·rename_i ad aZ
     refine step ad h (oD.refl _) (λb ai=>absurd rfl ai) a λgI V aH aE _=> ?_
     have Ac:Sub ak gI:=(Sub.cons J7).trans aH
     exact⟨λZ=>⟨Ht _ _ aH,ak,true,Ac,bL,Zs,λ_=>⟨Oj,λar=>(by rw[aP]at ar;cases ar),λ_ Em kb=>by rw[anT aP Em kb h];exact aZ⟩⟩,ak,h,true,Ac,aE,bL,λ_ _=>aZ⟩
    ·simp at a
   |e1=>simp[mZ,aP]at Oj
end
end Go.al

namespace Go.al
open Go.RowKit (Below)
section
variable{C:aX}{K c1 dB:cY}{Z di dU:Nat->Prop}{h V:U an}{k av bg:Nat}{w bz:World}{n ap:Nat}{aq:Array Oper}
variable{bk:World}{bt:Nat}{bJ:List Frame}{v:H}{ah:g4}
variable{fn:Nat}{a8:List hj}{aB:Bool}{ro:Option Nat}{cs:List gi}{J:U H}{tmps:Array Value}{bs:List Item}{aC:List Frame}{bP aN:Nat}
theorem ah3{ak:List (Nat×H)}:∀(l:List e4),Br C J ak h l=true->∀x∈l,∃b,nL x.g ak=some b/\(b=true->∃ad,gp x.op C h ak J=some ad/\d8 ak x.i=some ad):=by
 intro l
 induction l with
 |nil=>intro _ x a;simp at a
 |cons I l ah=>
  intro a x ag
  simp only[Br]at a
  split at a
  ·simp at a
  ·rename_i bL
   rcases Zl.1 ag with rfl|ag
   ·exact⟨false,bL,Zs⟩
   ·exact ah a x ag
  ·rename_i bL
   split at a
   ·rename_i ad r2 M R
    simp only[Zk]at a
    have:=Mm _ _ _ a.1
    subst this
    rcases Zl.1 ag with rfl|ag
    ·exact⟨true,bL,λ_=>⟨ad,M,R⟩⟩
    ·exact ah a.2 x ag
   ·simp at a
theorem asQ{h6:List oE}{B:Nat}{aE:List (fS×e4)}:∃s rest,xQ h6 B aE=s::rest/\s.sY=si B h6/\s.Rg=CP B h6/\
 (match aE with|[]=>s.e1=none/\rest=[]|j::gY=>s.e1=some j.2/\rest=xQ h6 (B+1) gY):=by
 cases aE with
 |nil=>exact⟨_,_,rfl,rfl,rfl,rfl,rfl⟩
 |cons j aE=>exact⟨_,_,rfl,rfl,rfl,rfl,rfl⟩
theorem yu{B:Nat}:∀{h6:List oE}{x:e4},x∈si B h6↔∃l∈h6,l.bP=B/\l.x=x:=by
 intro h6
 induction h6 with
 |nil=>intro x;simp[si]
 |cons I h6 ah=>
  intro x
  simp only[si,gX]
  by_cases a:I.bP=B
  ·simp only[a,ZB,Zl,ah]
   constructor
   ·rintro(rfl|⟨l,M,R,au⟩)
    ·exact⟨I, .inl rfl,a,rfl⟩
    ·exact⟨l, .inr M,R,au⟩
   ·rintro⟨l,rfl|M,R,au⟩
    ·exact .inl au.symm
    ·exact .inr ⟨l,M,R,au⟩
  ·simp only[a,Zx,ah]
   constructor
   ·rintro⟨l,M,R,au⟩;exact⟨l, .tail _ M,R,au⟩
   ·rintro⟨l,M,R,au⟩
    rcases Zl.1 M with rfl|M
    ·exact absurd R a
    ·exact⟨l,M,R,au⟩
theorem are{B:Nat}:∀{h6:List oE}{l:oE},l∈h6->l.bP<B->B<=l.aN->AR l.x.op=true->l.x∈CP B h6:=by
 intro h6
 induction h6 with
 |nil=>intro l a;simp at a
 |cons I h6 ah=>
  intro l aE M R au
  simp only[CP,fB]
  rcases Zl.1 aE with rfl|aE
  ·rw[Zr]
   ·exact Zq ..
   ·have bF:Nat.blt l.bP B=true:=by simp[Nat.blt];omega
    have cB:Nat.ble B l.aN=true:=by simpa using R
    simp[bF,cB,au]
  ·split
   ·exact Zn _ (ah aE M R au)
   ·exact ah aE M R au
theorem agX{B:Nat}:∀{h6:List oE},(h6.Pairwise λI b=>I.x.i<b.x.i)->(si B h6).Pairwise λI b=>I.i≠b.i:=by
 intro h6
 induction h6 with
 |nil=>intro _;simp[si]
 |cons I h6 ah=>
  intro a
  rw[List.pairwise_cons]at a
  simp only[si,gX]
  split
  ·rw[List.pairwise_cons]
   refine⟨λx ag=> ?_,ah a.2⟩
   obtain⟨l,M,_,rfl⟩:=yu.1 ag
   have:=a.1 l M;omega
  ·exact ah a.2
theorem aom(op:jl):mZ op=true/\l6 op= .e1\/mZ op=false/\(l6 op= .hQ\/l6 op= .make):=by
 unfold mZ
 cases l6 op<;>simp
theorem apt(cF:Env C bk dB dU)(fW:mM C bk bt bJ ah){B:List dy}{base dx:Nat}{ak:List (Nat×H)}(BY:bP<=base)(fv:base+aq.size<=k)(gr:C.bj<=base){s:vl}{rest:List vl}
 (cV:match (gc C n ap aq).drop dx with|[]=>s.e1=none|j::gY=>s.e1=some j.2/\rest=xQ (lc C n ap aq) (dx+1) gY)
 (a:(match s.e1 with
    |none=>Gx (kA ap aq.toList 0) ak J λJ=>ah .run B ⟨fn,n,ap,a8,aB,ro,cs⟩ J h k
    |some a=>(match nL a.g ak with
     |none=>none
     |some w=>bC (w) ((match hs a.op C h k ak J with
       |some r=>ng r ah C (.yb aq base ak a.i rest (kA ap aq.toList 0)) B ⟨fn,n,ap,a8,aB,ro,cs⟩ J h k
       |none=>none))<|ah .run (.drawn aq base ((a.i,undef)::ak) rest (kA ap aq.toList 0)::B) ⟨fn,n,ap,a8,aB,ro,cs⟩ J h k))=some v):
 ∀(l:List Nat) (K:cY) (Z:Nat->Prop) (w:World) (tmps:Array Value) (c7:Nat->Prop),iB C bk bt bJ fn ap a8 aB ro cs h k K Z w bP aC->k4 C K Z ap B bs->qc C K Z h base n ap aq ak dx (dx+1) J tmps c7->vk aq c7 l->
  (∀l∈lc C n ap aq,l.bP<dx+1->¬c7 l.x.i->∃ad,d8 ak l.x.i=some ad/\FK C h ak J l.x ad)->Ends C bk bt bJ v (lone (cl K fn a8 aB ro tmps (.inRegion aq l::bs) .run) aC w):=by
 intro l
 induction l with
 |nil=>
  intro K Z w tmps c7 aG aP aI aH PC
  cases aH with
  |nil hm=>
   have KH:(gc C n ap aq).drop dx=[]:=by
    cases cf:(gc C n ap aq).drop dx with
    |nil=>rfl
    |cons j gY=>
     exfalso
     have T:(gc C n ap aq)[dx]? =some j:=by
      have:((gc C n ap aq).drop dx)[0]? =some j:=by rw[cf];rfl
      rwa[YF]at this
     have b7:=hm j.1.i (ah5 aI.st (Zp T)).1
     have:=(aI.done dx j T).1 b7
     omega
   rw[KH]at cV
   simp only at cV
   rw[cV]at a
   simp only[J2,nD]at a
   split at a
   ·rename_i cT oS
    refine .head ab5 ?_
    have bu:nQ K Z ap (λ_=>True) (h0 aq aq.size) ak J tmps:=by
     obtain⟨_,eT,f3⟩:=IX aq aq.size (Zj _)
     intro t ad _ aZ
     apply aI.Bq t ad
     split at aZ
     ·rename_i aa bK
      obtain⟨b9,b3,g3⟩:=eT t aa bK
      left
      refine⟨aa,hm aa b9,b3,λny Hh rp=> ?_,aZ⟩
      rcases zh aa ny with cR|y0
      ·exact absurd rp (g3 ny cR (aI.v7 ny Hh))
      ·exact y0
     ·rename_i bK
      exact .inr ⟨λaa Hh=>f3 t bK aa (aI.v7 aa Hh),aZ⟩
    exact fW _ _ _ _ _ _ _ _ _ _ _ _ v a K Z w bP tmps bs aC (aG.state (.plain aP (VC bu aI.size oS)))
   ·simp at a
 |cons i l mz=>
  intro K Z w tmps c7 aG aP aI aH PC
  cases aH with
  |cons bc pK lk pO=>
   rename_i W
   have aN:i<aq.size:=(ZK.1 bc).1
   obtain⟨p,x,o',fI,fs,z3,z4,z5,qV⟩:=wW aI.st i aN
   have amy:o'=W:=by
    have:=z5.oper
    rw[z4,bc]at this
    exact(Yi this).symm
   subst amy
   have Ll:=ah6 aI.st aI.closed aI.v7 aI.Bq fs bc pK lk
   have K2:=Gk aI.closed (LL fs) (by rw[z3];exact bc) lk
   have ay:=z5
   have bV:=ay.g
   have B3:=ay.op
   have dp:=ay.reads
   rw[z4]at bV B3 dp
   have sL:∀jX,Sub jX ak->iC K Z (kq tmps) (iI (h0 aq i) jX J) o'.op.operands.toList:=by
    intro jX xB
    refine Vp (X:=λt=>e7 p.r t=true) (λt ad bO aZ=>Ll t ad bO ?_) (λt aT=>aqR qV aT) dp aG.hu
    split at aZ
    ·exact xB _ _ aZ
    ·exact aZ
   have Pj:∀aa b t,o'.guard=some (aa,b)->vw aa (h0 aq i)=some t->e7 p.r t=true:=by
    intro aa b t M R
    rw[qV.r,Do,z3]
    have:e7 (Km (h0 aq i) o'.guard) t=true:=by
     rw[M]
     simp only[Km,R]
     rw[Ju];simp
    rw[this];simp
   have h4:∀(c1:cY) (ad:Value),(cl c1 fn a8 aB ro tmps (.inRegion aq (i::l)::bs) .run).finish ad=cl c1 fn a8 aB ro (pa tmps o'.dst ad) (.inRegion aq l::bs) .run:=by
    intro c1 ad
    rw[J4 (g:=cl c1 fn a8 aB ro tmps _ .run) rfl bc];rfl
   rcases aom x.op with ⟨gB,pG⟩|⟨gB,pG⟩
   ·
    have n0:(p,x)∈gc C n ap aq:=by rw[JI];exact Yu.2 ⟨Zp fI,gB⟩
    obtain⟨ar,cf⟩:=ZW.1 n0
    have amN:ar=dx:=by
     rcases YY ar dx with cR|E|gA
     ·exact absurd ((aI.done ar _ cf).2 cR) (by simpa only[z3]using pK)
     ·exact E
     ·exfalso
      have fj:ar-1<(gc C n ap aq).length:=by have:=(Zc.1 cf).1;omega
      have XR:(gc C n ap aq)[ar-1]? =some ((gc C n ap aq)[ar-1]):=Zf fj
      have KD:=aI.st.chain
      rw[J6]at KD
      have ai:=alA KD (ar-1) ((gc C n ap aq)[ar-1]).1 p (by rw[Zv,XR];rfl) (by rw[show ar-1+1=ar by omega,Zv,cf];rfl)
      have b7:=K2 _ ai
      have:=(aI.done (ar-1) _ XR).1 b7
      omega
    subst amN
    have KH:(gc C n ap aq).drop ar=(p,x)::(gc C n ap aq).drop (ar+1):=by
     have cR:=(Zc.1 cf).1
     rw[ZA cR,(Zc.1 cf).2]
    rw[KH]at cV
    simp only at cV
    obtain⟨j5,pP⟩:=cV
    rw[j5]at a
    simp only at a
    have T:aq[((p,x):fS×e4).1.i]? =some o':=by simp only[z3];exact bc
    split at a
    ·simp at a
    ·rename_i Sc l4
     have rH:=MI (zt aN) bV Ll Pj (Sub.refl ak) l4
     have Xy:¬c7 ((p,x):fS×e4).1.i:=by simpa only[z3]using pK
     have anC:x.i=((p,x):fS×e4).1.i:=by simp only[z3,z4]
     cases Sc with
     |false=>
      simp only[iF]at a
      refine .head (RF bc rH) ?_
      rw[h4]
      rw[anC,pP]at a
      have:=aI.e1 cf T Xy lk (v:=undef) trivial ay.dst
      exact fW _ _ _ _ _ _ _ _ _ _ _ _ v a K Z w bP _ _ aC (aG.state (.drawn aP BY fv this (by simp only[z3];exact pO)))
     |true=>
      simp only[eB]at a
      split at a
      ·rename_i r S
       have lA:=WV aG.S aG.eP cF.j9 (sL ak (Sub.refl ak)) B3 S
       have HF:lO C K Z h bP k n ap J tmps (.yb aq base ak x.i rest (kA ap aq.toList 0)::B) (.inRegion aq (i::l)::bs):=by
        have X8:=lO.drawn (bP:=bP) (aN:=k) (l:=l) aP BY fv aI cf T Xy lk (by simp only[z3];exact pO)
        simp only[z3]at X8
        rw[pP,z4]
        exact X8
       exact Un cF fW aG HF aG.jE (Zj _) bc rH lA a
      ·simp at a
   ·
    have amf:=Zp fI
    have gz:(⟨x,tt p.m (pv (gc C n ap aq)),y1 p.i (pv (gc C n ap aq))⟩:oE)∈lc C n ap aq:=by
     rw[JK];exact ZD.2 ⟨(p,x),Yu.2 ⟨amf,by simp[gB]⟩,rfl⟩
    have nr:tt p.m (pv (gc C n ap aq))<dx+1:=by
     have:=ahL p.m (pv (gc C n ap aq)) dx (λar j cf fX=>by
      rw[J6,Zv]at cf
      cases cj:(gc C n ap aq)[ar]? with
      |none=>rw[cj]at cf;cases cf
      |some bl=>
       rw[cj]at cf;cases cf
       cases ai:e7 p.m bl.1.i with
       |false=>rfl
       |true=>have:=(aI.done ar bl cj).1 (K2 _ ai);omega)
     omega
    have Ea:¬c7 x.i:=by rw[z4];exact pK
    obtain⟨ad,Lk,P8⟩:=aI.ahead _ gz nr
    obtain⟨t6,jX,b,WB,ε,hL,np⟩:=P8 Ea
    have rH:=MI (zt aN) bV Ll Pj WB ε
    have PI:aq[x.i]? =some o':=by rw[z4];exact bc
    have PD:∀MW:Nat->Prop,(∀aa,c7 aa->MW aa)->∀l∈lc C n ap aq,l.bP<dx+1->¬MW l.x.i->∃ad,d8 ak l.x.i=some ad/\FK C h ak J l.x ad:=λMW BG cd M R au=>PC cd M R (λar=>au (BG _ ar))
    have G2:add c7 x.i=add c7 i:=by rw[z4]
    cases b with
    |false=>
     have:ad=undef:=hL rfl
     subst this
     refine .head (RF bc rH) ?_
     rw[h4]
     have jA:=aI.hQ (c1:=K) (di:=Z) gz nr PI Ea lk Lk (λ_ _=>rfl) (λ_ a=>a) (λ_ a=> .inl a) (by trivial) ay.dst
     simp only[G2]at jA
     exact mz K Z w _ _ aG aP jA pO (PD _ λ_ a=> .inl a)
    |true=>
     obtain⟨_,Hp,_⟩:=np rfl
     rcases pG with pG|pG
     ·obtain⟨r2,sP,agc,aga,sk,aQ,bp,bw,dd⟩:=PC _ gz nr Ea
      simp only at sP bw dd
      rw[Lk]at sP;cases sP
      have anv:=MI (zt aN) bV Ll Pj aQ bw
      have fv:sk=true:=by rw[<-anv,rH]
      have Pg:=dd fv pG
      have Ab:cS C K Z aga k bk.heap.size w:=aG.S.Vx bp
      obtain⟨be,b2⟩:=aaw Ab (sL agc aQ) B3 Pg
      refine .head (CV bc rH be (.inl rfl)) ?_
      rw[h4]
      have jA:=aI.hQ (c1:=K) (di:=Z) gz nr PI Ea lk Lk (λ_ _=>rfl) (λ_ a=>a) (λ_ a=> .inl a) b2 ay.dst
      simp only[G2]at jA
      exact mz K Z w _ _ aG aP jA pO (PD _ λ_ a=> .inl a)
     ·obtain⟨cJ,bi,gC⟩:=Hp pG
      simp only at bi gC
      have nt:¬Z (base+x.i):=λar=>Ea (aI.ids x.i (by rw[z4];exact aN) ar)
      obtain⟨kY,ee,fz,ki⟩:=aaJ (w:=w) (K:=K) nt (sL jX WB) (LI B3 bi)
      have cR:base+x.i<k:=by rw[z4];omega
      have xh:=aG.S.alloc (av:=k) (V:=h) (b:=base+x.i) Zo cR (Zj _) nt aG.eP rfl gC (λ_ _=> .inl rfl) ki (aaK (LI B3 bi))
      have ag:hS C bP K Z h bk.heap.size w (f0 K (base+x.i) ⟨w.heap.size,0,0⟩) (add Z (base+x.i)) h (w.alloc kY):=
       ⟨p8 nt,λ_ a=> .inl a,λj a=>a.elim .inl (λa=> .inr Zo),λ_ _ _=>rfl,Below.alloc (Below.refl _ _) aG.eP _⟩
      refine .head (CV bc rH ee (.inl rfl)) ?_
      rw[h4, <-EU ag.hW aG.ht]
      have jA:=aI.hQ (c1:=f0 K (base+x.i) ⟨w.heap.size,0,0⟩) (di:=add Z (base+x.i)) gz nr PI Ea lk Lk ag.hW ag.iH (λ_ a=>a) fz ay.dst
      simp only[G2]at jA
      exact mz _ _ _ _ _ (aG.ext xh ag (Zj _)) (aP.af ag.hW ag.iH) jA pO (PD _ λ_ a=> .inl a)
end
end Go.al

