/- Part of the proof of the last text; no conditions -/
import Derived.Test.YtpeabpmnlmaabaaGreatDoorYc
import Derived.Defers
import Derived.RangeFuncRecord
import Derived.Orders
set_option maxHeartbeats 8000000
set_option linter.all false
namespace Go.bd
open Go.RowKit (Below)
structure R4(C:aK)(bl:World):Prop where
 val:∀f args v,C.hB f args=some v->((∀T iV,aQ T v=aQ iV v)/\∀ad,cm ad v)/\(∀T iV,b4 T args=b4 iV args)/\∀ad,ew ad args
 ok:∀f args v,C.hB f args=some v->∀T w,Below bl.heap.size bl w->
  (callFunc f (b4 T args).toArray).run C.P w= .ok (.value (aQ T v)) w\/
  ((callFunc f (b4 T args).toArray).run C.P w= .ok (.enter f (b4 T args).toArray) w/\Calls C.P f (b4 T args).toArray w λE b1=>E= .returned (aQ T v)/\Below w.heap.size w b1)
structure Env(C:aK)(bl:World)(dY:db)(ed:Nat->Prop):Prop where
 kN:yV C.P
 hB:R4 C bl
 base:dn C dY ed .nil C.a2 bl.heap.size bl
 gv:th C dY ed
def Ends(C:aK)(bl:World)(bF:Nat)(bT:List Frame)(v:D)(dw:Machine):Prop:=
 ∃T b1 fr,Steps C.P dw (lone fr bT b1)/\fr.leaving C.P b1 (.returned (aQ T v))/\fr.fn=bF/\Below bl.heap.size bl b1
structure D3(C:aK)(bl:World)(bF:Nat)(bT:List Frame)(bR:lw)(todo:List d1)(fn n ao:Nat)(bh:List h3)(ay:Bool)(ro:Option Nat)(cs:List g4)(I:Q D)(h:Q af)(j:Nat)
 (T:db)(ad:Nat->Prop)(w:World)(dh:Nat)(tmps:Array Value)(bw:List Item)(am:List Frame):Prop where
 Y:dn C T ad h j bl.heap.size w
 lB:Below bl.heap.size bl w
 gv:th C T ad
 ku:dh<=j
 ig:xg C ad fn ao bh ro
 mode:rn ad bR
 bot:cs=[]->fn=bF/\ay=false/\ro=none
 cs:pu C T ad h bF bT dh cs am
 todo:match bR with
  | .run=>D4 C T ad h dh j n ao I tmps todo bw
  |_=>jQ T ad n ao I tmps
def oc(C:aK)(bl:World)(bF:Nat)(bT:List Frame)(ai:hP):Prop:=
 ∀bR todo fn n ao bh ay ro cs I h j v,ai bR todo ⟨fn,n,ao,bh,ay,ro,cs⟩ I h j=some v->
  ∀T ad w dh tmps bw am,D3 C bl bF bT bR todo fn n ao bh ay ro cs I h j T ad w dh tmps bw am->Ends C bl bF bT v (lone (cr T fn bh ay ro tmps bw (g7 T bR)) am w)
section
variable{C:aK}{T de:db}{ad dG:Nat->Prop}{h S':Q af}{j an bo:Nat}{w b1:World}{n ao:Nat}{ar:Array Oper}
variable{bl:World}{bF:Nat}{bT:List Frame}{v:D}
def Ends.head{dw JX:Machine}(a:step C.P dw= .next JX)(cz:Ends C bl bF bT v JX):Ends C bl bF bT v dw:=by
 obtain⟨T,b1,fr,M,R⟩:=cz
 exact⟨T,b1,fr, .head a M,R⟩
def Ends.steps{dw JX:Machine}(a:Steps C.P dw JX)(cz:Ends C bl bF bT v JX):Ends C bl bF bT v dw:=by
 obtain⟨T,b1,fr,M,R⟩:=cz
 exact⟨T,b1,fr,a.trans M,R⟩
def dn.later(Y:dn C T ad h j bo w)(ag:Below w.heap.size w b1):dn C T ad h j bo b1:=
 ⟨Y.a2,Y.lt,Y.wQ,λb W a d=>(Y.obj b W a d).aa (λ_ _=>rfl) (λ_ a=>a) (ag.block _ (Y.obj b W a d).lt),Y.sep,Y.base,Y.fp⟩
def Env.now{dY:db}{ed:Nat->Prop}(bC:Env C bl dY ed)(ag:Below bl.heap.size bl w):dn C dY ed .nil C.a2 w.heap.size w:=by
 have Y:=bC.base.later ag
 refine⟨Y.a2,Y.lt,Y.wQ,Y.obj,Y.sep, ?_,Y.fp⟩
 intro b W aE bf _
 exfalso
 unfold U at bf
 rw[fN,Zh (by simp[Nat.blt];omega)]at bf
 simp at bf
def Env.later{dY:db}{ed:Nat->Prop}(bC:Env C bl dY ed)(ag:Below bl.heap.size bl w):Env C w dY ed:=
 ⟨bC.kN,⟨bC.hB.val,λf args v a T q6 l4=>bC.hB.ok f args v a T q6 (ag.trans (l4.mono ag.size))⟩,bC.now ag,bC.gv⟩
variable{fn:Nat}{bh:List h3}{ay:Bool}{ro:Option Nat}{tmps:Array Value}{bw:List Item}{am:List Frame}
def m4(tmps:Array Value)(bw:List Item):stepG C.P true {frame:=cr T fn bh ay ro tmps bw .run,callers:=am,status:= .running,dying:=none} w=stepG.exec C.P true true (cr T fn bh ay ro tmps bw .run) am none w:=by
 simp[stepG,cr]
def aC6{H b:Code}:step C.P (lone (cr T fn bh ay ro tmps (.code (.seq H b)::bw) .run) am w)= .next (lone (cr T fn bh ay ro tmps (.code H:: .code b::bw) .run) am w):=
 step_lone_go (by rw[m4];simp[stepG.exec,cr])
def aC7:step C.P (lone (cr T fn bh ay ro tmps (.code .skip::bw) .run) am w)= .next (lone (cr T fn bh ay ro tmps bw .run) am w):=
 step_lone_go (by rw[m4];simp[stepG.exec,cr])
def aCW{l:Nat}:step C.P (lone (cr T fn bh ay ro tmps (.code (.label l)::bw) .run) am w)= .next (lone (cr T fn bh ay ro tmps bw .run) am w):=
 step_lone_go (by rw[m4];simp[stepG.exec,cr])
def aCT{l:Nat}:step C.P (lone (cr T fn bh ay ro tmps (.inBlock l::bw) .run) am w)= .next (lone (cr T fn bh ay ro tmps bw .run) am w):=
 step_lone_go (by rw[m4];simp[stepG.exec,cr])
def aCV{b:Code}:step C.P (lone (cr T fn bh ay ro tmps (.inScope b::bw) .run) am w)= .next (lone (cr T fn bh ay ro tmps bw .run) am w):=
 step_lone_go (by rw[m4];simp[stepG.exec,cr])
def aCN{id:Nat}{b:Code}:step C.P (lone (cr T fn bh ay ro tmps (.code (.block id b)::bw) .run) am w)= .next (lone (cr T fn bh ay ro tmps (.code b:: .inBlock id::bw) .run) am w):=
 step_lone_go (by rw[m4];simp[stepG.exec,cr])
def aCX{b:Code}:step C.P (lone (cr T fn bh ay ro tmps (.code (.loop b)::bw) .run) am w)= .next (lone (cr T fn bh ay ro tmps (.code b:: .inLoop b::bw) .run) am w):=
 step_lone_go (by rw[m4];simp[stepG.exec,cr])
def aCU{b:Code}:step C.P (lone (cr T fn bh ay ro tmps (.inLoop b::bw) .run) am w)= .next (lone (cr T fn bh ay ro tmps (.code b:: .inLoop b::bw) .run) am w):=
 step_lone_go (by rw[m4];simp[stepG.exec,cr])
def aC5{b:Code}:step C.P (lone (cr T fn bh ay ro tmps (.code (.scope b)::bw) .run) am w)= .next (lone (cr T fn bh ay ro tmps (.code b:: .inScope b::bw) .run) am w):=
 step_lone_go (by rw[m4];simp[stepG.exec,cr])
def aCO{c:Operand}{H b:Code}{t:Bool}(a:lv tmps c= .bool t):step C.P (lone (cr T fn bh ay ro tmps (.code (.cond c H b)::bw) .run) am w)= .next (lone (cr T fn bh ay ro tmps (.code (if t then H else b)::bw) .run) am w):=
 step_lone_go (by
  have cz:(cr T fn bh ay ro tmps (.code (.cond c H b)::bw) .run).eval c= .bool t:=by rw[KH];exact a
  rw[m4]
  simp only[cr]at cz
  simp[stepG.exec,cr,cz])
def aCS{id:Nat}{im:List Item}(a:Go.exitTo id bw=some im):step C.P (lone (cr T fn bh ay ro tmps (.code (.exit id)::bw) .run) am w)= .next (lone (cr T fn bh ay ro tmps im .run) am w):=
 step_lone_go (by rw[m4];simp[stepG.exec,cr,a])
def aC2:step C.P (lone (cr T fn bh ay none tmps (.code .ret::bw) .run) am w)= .next (lone (cr T fn bh ay none tmps (.code .ret::bw) .returning) am w):=
 step_lone_go (by rw[m4];simp[stepG.exec,cr])
def aCQ:step C.P (lone (cr T fn bh ay none tmps [] .run) am w)= .next (lone (cr T fn bh ay none tmps [] .returning) am w):=
 step_lone_go (by rw[m4];simp[stepG.exec,cr])
def aC0{id:Nat}:step C.P (lone (cr T fn bh ay ro tmps (.code (.region id ar false)::bw) .run) am w)= .next (lone (cr T fn bh ay ro tmps (.inRegion ar (List.range ar.size)::bw) .run) am w):=
 step_lone_go (by rw[m4];simp[stepG.exec,cr])
def aC1{id:Nat}:step C.P (lone (cr T fn bh ay ro tmps (.code (.region id ar true)::bw) .run) am w)=
 .next (lone (cr T fn bh ay ro tmps (.inRegion ar (Region.schedule (C.P.follows .mixedOrders) ar (w.tape w.drawn (.order fn id)))::bw) .run) am w.drew):=
 step_lone_go (by rw[m4];simp[stepG.exec,cr,Question.forced,Question.cut])
def ajB:step C.P (lone (cr T fn bh ay ro tmps (.inRegion ar []::bw) .run) am w)= .next (lone (cr T fn bh ay ro tmps bw .run) am w):=
 step_lone_go (by rw[m4];simp[stepG.exec,cr])
def XF{i:Nat}{l:List Nat}{W:Oper}(bf:ar[i]? =some W)(bs:Region.wanted W (yielded ar tmps)=false):
 step C.P (lone (cr T fn bh ay ro tmps (.inRegion ar (i::l)::bw) .run) am w)= .next (lone ((cr T fn bh ay ro tmps (.inRegion ar (i::l)::bw) .run).finish Go.undef) am w):=
 step_lone_go (by rw[m4];simp[stepG.exec,cr,bf,bs])
def WX{av:Operand->Value}{W:Oper}{ns:Next}(Y:(execOp av W).run C.P w= .ok ns b1)(a:∀d,ns≠ .defer d):∀c,W.op≠ .defer c:=by
 intro c ax
 have ae:execOp av W=(do pure (.defer (<-resolve av c W.type))):=by unfold execOp;rw[ax]
 rw[ae]at Y
 simp only[Sem.run_bind]at Y
 cases b0:(resolve av c W.type).run C.P w with
 |ok d q6=>
  rw[b0]at Y
  simp only[Result.andThen_ok,Sem.run_pure,Result.ok.injEq]at Y
  exact a d Y.1.symm
 |halt E q6=>
  rw[b0]at Y
  simp at Y
def Jy{i:Nat}{l:List Nat}{W:Oper}(bf:ar[i]? =some W)(bs:Region.wanted W (yielded ar tmps)=true)(jL:ro=none\/∀c,W.op≠ .defer c):
 stepG C.P true {frame:=cr T fn bh ay ro tmps (.inRegion ar (i::l)::bw) .run,callers:=am,status:= .running,dying:=none} w=
  stepG.apply C.P true (cr T fn bh ay ro tmps (.inRegion ar (i::l)::bw) .run) am none (execOp (lv tmps) W) w:=by
 rw[m4]
 rcases jL with rfl|jL
 ·simp[stepG.exec,stepG.oper,cr,Frame.oper?,bf,bs,KH]
 ·cases ro with
  |none=>simp[stepG.exec,stepG.oper,cr,Frame.oper?,bf,bs,KH]
  |some r=>
   have:∀(c:Call),W.op≠ .defer c:=jL
   simp[stepG.exec,stepG.oper,cr,Frame.oper?,bf,bs,KH]
   split
   ·rename_i R;exact absurd R (this _)
   ·rfl
def Gs{i:Nat}{l:List Nat}{W:Oper}{ac:Value}{ns:Next}(bf:ar[i]? =some W)(bs:Region.wanted W (yielded ar tmps)=true)
 (Y:(execOp (lv tmps) W).run C.P w= .ok ns b1)(aE:ns= .value ac\/(ns= .skip/\ac=Go.undef)):
 step C.P (lone (cr T fn bh ay ro tmps (.inRegion ar (i::l)::bw) .run) am w)= .next (lone ((cr T fn bh ay ro tmps (.inRegion ar (i::l)::bw) .run).finish ac) am b1):=
 step_lone_go (by
  rw[Jy bf bs (.inr (WX Y (by rcases aE with rfl|⟨rfl,rfl⟩<;>simp)))]
  rcases aE with rfl|⟨rfl,rfl⟩
  ·simp[stepG.apply,Y]
  ·simp[stepG.apply,Y])
def ajz{i:Nat}{l:List Nat}{W:Oper}{f:Nat}{args:Array Value}(bf:ar[i]? =some W)(bs:Region.wanted W (yielded ar tmps)=true)
 (Y:(execOp (lv tmps) W).run C.P w= .ok (.enter f args) b1):
 step C.P (lone (cr T fn bh ay ro tmps (.inRegion ar (i::l)::bw) .run) am w)= .next (lone (Frame.enter C.P f args .normal) (cr T fn bh ay ro tmps (.inRegion ar (i::l)::bw) .run::am) b1):=
 step_lone_go (by rw[Jy bf bs (.inr (WX Y Zs))];simp[stepG.apply,Y,cr])
def aC3{i:Nat}{l:List Nat}{W:Oper}{b f:Nat}{aW:Array Value}{assign body:Code}(bf:ar[i]? =some W)(bs:Region.wanted W (yielded ar tmps)=true)
 (Y:(execOp (lv tmps) W).run C.P w= .ok (.round b f aW assign body) b1):
 step C.P (lone (cr T fn bh ay ro tmps (.inRegion ar (i::l)::bw) .run) am w)= .next (lone (Frame.round b f aW assign body .normal) (cr T fn bh ay ro tmps (.inRegion ar (i::l)::bw) .run::am) b1):=
 step_lone_go (by rw[Jy bf bs (.inr (WX Y Zs))];simp[stepG.apply,Y,cr])
def aCP{i:Nat}{l:List Nat}{W:Oper}{d:h3}(bf:ar[i]? =some W)(bs:Region.wanted W (yielded ar tmps)=true)
 (Y:(execOp (lv tmps) W).run C.P w= .ok (.defer (mm T d)) b1):
 step C.P (lone (cr T fn bh ay none tmps (.inRegion ar (i::l)::bw) .run) am w)= .next (lone ((cr T fn (d::bh) ay none tmps (.inRegion ar (i::l)::bw) .run).finish Go.undef) am b1):=
 step_lone_go (by rw[Jy bf bs (.inl rfl)];simp[stepG.apply,Y,cr])
def aCY{i:Nat}{l:List Nat}{W:Oper}{ac:D}(bf:ar[i]? =some W)(bs:Region.wanted W (yielded ar tmps)=true)
 (Y:(execOp (lv tmps) W).run C.P w= .halt (.panic (aQ T ac)) b1):
 step C.P (lone (cr T fn bh ay none tmps (.inRegion ar (i::l)::bw) .run) am w)= .next (lone (cr T fn bh ay none tmps (.inRegion ar (i::l)::bw) (g7 T (.panicking [⟨ac,false⟩]))) am b1):=
 step_lone_go (by rw[Jy bf bs (.inl rfl)];simp[stepG.apply,Y,cr,Frame.raise,g7,uF])
def aCZ{i:Nat}{l:List Nat}{W:Oper}{ac:Value}{jH:List Frame}(bf:ar[i]? =some W)(bs:Region.wanted W (yielded ar tmps)=true)
 (Y:(execOp (lv tmps) W).run C.P w= .ok .recover b1)
 (be:Go.tryRecover (cr T fn bh ay none tmps (.inRegion ar (i::l)::bw) .run) am=some (ac,jH)\/(Go.tryRecover (cr T fn bh ay none tmps (.inRegion ar (i::l)::bw) .run) am=none/\ac= .nilIface/\jH=am)):
 step C.P (lone (cr T fn bh ay none tmps (.inRegion ar (i::l)::bw) .run) am w)= .next (lone ((cr T fn bh ay none tmps (.inRegion ar (i::l)::bw) .run).finish ac) jH b1):=
 step_lone_go (by
  rw[Jy bf bs (.inl rfl)]
  have E:(cr T fn bh ay none tmps (.inRegion ar (i::l)::bw) .run).roundOf=none:=rfl
  rcases be with be|⟨be,rfl,rfl⟩
  ·simp[stepG.apply,Y,E,be]
  ·simp[stepG.apply,Y,E,be])
def aCM{b:Nat}(Y:(Instr.beginRound (T b).cL).run C.P w= .ok () b1):
 step C.P (lone (cr T fn bh ay (some b) tmps (.beginRound::bw) .run) am w)= .next (lone (cr T fn bh ay (some b) tmps bw .run) am b1):=
 step_lone_go (by rw[m4];simp[stepG.exec,stepG.apply,cr,Y,Frame.finish])
def aCR{b:Nat}{jd:Option Code}(Y:(Instr.endLoop b).run C.P w= .ok jd b1):
 step C.P (lone (cr T fn bh ay ro tmps (.endRangeFunc b::bw) .run) am w)= .next (lone (cr T fn bh ay ro tmps ((jd.map Item.code).toList++bw) .run) am b1):=
 step_lone_go (by rw[m4];simp[stepG.exec,cr,Y])
def ajA{f:Operand}{params:Array Tmp}{assign body:Code}{b:Nat}{mark:List Deferred}{g:Nat}{args:Array Value}{n6:World}{d:Deferred}
 (bC:(Instr.enterLoop fn tmps params assign body (ro.map λl=>(T l).cL)).run C.P w= .ok (b,mark) n6)
 (k2:(resolve (lv tmps) {callee:= .value f,args:= #[.const (.func (.yield b) #[] #[])],argTypes:= #[]} 0).run C.P n6= .ok d n6)(U4:(invoke d.target d.args).run C.P n6= .ok (.enter g args) b1):
 step C.P (lone (cr T fn bh ay ro tmps (.code (.rangeFunc f params assign body)::bw) .run) am w)=
  .next (lone (Frame.enter C.P g args .normal) ({cr T fn bh ay ro tmps (.inRangeFunc b::bw) .run with defers:=mark++bh.map (mm T)}::am) b1):=
 step_lone_go (by
  rw[m4]
  have cF:({cr T fn bh ay ro tmps (.inRangeFunc b::bw) .run with defers:=mark++bh.map (mm T)}:Frame).eval=lv tmps:=by rw[KH];rfl
  simp only[cr]at cF
  simp[stepG.exec,cr,Sem.runT_eq,bC,GStep.bare_after,stepG.apply,cF,Sem.run_bind,k2,U4,Result.andThen])
def aC4{jd:Option Code}{b:Nat}{ac:Value}{g:Frame}(aJ:(jd=none/\bw=[])\/(jd=some .ret/\∃z,bw= .code .ret::z)\/(∃id z,jd=some (.exit id)/\bw= .code (.exit id)::z/\Go.exitTo id z=none))
 (bC:(Instr.endRound (T b).cL jd).run C.P w= .ok ac b1):
 step C.P (lone (cr T fn bh false (some b) tmps bw .run) (g::am) w)= .next (lone (g.finish ac) am b1):=
 step_lone_go (by
  rw[m4]
  rcases aJ with ⟨rfl,rfl⟩|⟨rfl,z,rfl⟩|⟨id,z,rfl,rfl,ae⟩
  ·simp[stepG.exec,cr,Sem.runT_eq,bC,GStep.bare_after,doReturn]
  ·simp[stepG.exec,cr,Sem.runT_eq,bC,GStep.bare_after,doReturn]
  ·simp[stepG.exec,cr,Sem.runT_eq,bC,GStep.bare_after,doReturn,ae])
def aC8{r:Nat}{cu:List D}{ds:List h3}{qu:List Deferred}{mode:FrameMode}{dG:List h3}(bp:mode≠ .run)(bC:(Instr.takeDeferred (T r).cL).run C.P w= .ok qu b1)(aF:qu++ds.map (mm T)=dG.map (mm T)):
 step C.P (lone (cr T fn (⟨.collected r,cu⟩::ds) ay ro tmps bw mode) am w)= .next (lone (cr T fn dG ay ro tmps bw mode) am b1):=
 step_lone_go (by
  cases mode with
  |run=>exact absurd rfl bp
  |returning=>simp[stepG,unwind,cr,mm,Ee,Sem.runT_eq,bC,GStep.bare_after,aF]
  |panicking fC=>simp[stepG,unwind,cr,mm,Ee,Sem.runT_eq,bC,GStep.bare_after,aF])
end
section
variable{C:aK}{T de dY:db}{ad dG ed:Nat->Prop}{h S':Q af}{j an bo:Nat}{w b1:World}{n ao:Nat}{ar:Array Oper}
variable{bl:World}{bF:Nat}{bT:List Frame}{v:D}{ai:hP}
variable{fn:Nat}{bh:List h3}{ay:Bool}{ro:Option Nat}{cs:List g4}{I:Q D}{tmps:Array Value}{bw:List Item}{am:List Frame}{bL aG:Nat}
structure jz(C:aK)(bl:World)(bF:Nat)(bT:List Frame)(fn ao:Nat)(bh:List h3)(ay:Bool)(ro:Option Nat)(cs:List g4)(h:Q af)(j:Nat)(T:db)(ad:Nat->Prop)(w:World)(dh:Nat)(am:List Frame):Prop where
 Y:dn C T ad h j bl.heap.size w
 lB:Below bl.heap.size bl w
 gv:th C T ad
 ku:dh<=j
 ig:xg C ad fn ao bh ro
 bot:cs=[]->fn=bF/\ay=false/\ro=none
 cs:pu C T ad h bF bT dh cs am
def jz.ey{dh:Nat}(a:jz C bl bF bT fn ao bh ay ro cs h j T ad w dh am):bl.heap.size<=w.heap.size:=a.lB.size
def jz.ext{dh:Nat}(a:jz C bl bF bT fn ao bh ay ro cs h j T ad w dh am)(Y:dn C de dG S' an bl.heap.size b1)(ae:iW C dh T ad h bl.heap.size w de dG S' b1)(aE:j<=an):
 jz C bl bF bT fn ao bh ay ro cs S' an de dG b1 dh am:=
 ⟨Y,a.lB.trans ae.below,a.gv.aa ae.jg ae.j2,ZB a.ku aE,a.ig.aa ae.j2,a.bot,a.cs.aa ae⟩
def jz.state{dh:Nat}{todo:List d1}(a:jz C bl bF bT fn ao bh ay ro cs h j T ad w dh am)(be:D4 C T ad h dh j n ao I tmps todo bw):
 D3 C bl bF bT .run todo fn n ao bh ay ro cs I h j T ad w dh tmps bw am:=⟨a.Y,a.lB,a.gv,a.ku,a.ig,trivial,a.bot,a.cs,be⟩
def D3.apK{todo:List d1}{dh:Nat}(a:D3 C bl bF bT .run todo fn n ao bh ay ro cs I h j T ad w dh tmps bw am):jz C bl bF bT fn ao bh ay ro cs h j T ad w dh am/\D4 C T ad h dh j n ao I tmps todo bw:=
 ⟨⟨a.Y,a.lB,a.gv,a.ku,a.ig,a.bot,a.cs⟩,a.todo⟩
def pu.inv{dh aN:Nat}{todo:List d1}{bR:lw}(a:pu C T ad h bF bT dh (⟨fn,aN,ao,I,todo,bh,bR,ay,ro⟩::cs) am):
 ∃bL tmps bw jH,am=cr T fn bh ay ro tmps bw (g7 T bR)::jH/\BK C T ad h bL dh aN ao I tmps bR todo bw/\rn ad bR/\xg C ad fn ao bh ro/\(cs=[]->fn=bF/\ay=false/\ro=none)/\bL<=dh/\pu C T ad h bF bT bL cs jH:=by
 cases a with
 |cons M bp R aA bv b9=>exact⟨_,_,_,_,rfl,M,bp,R,aA,bv,b9⟩
def adw(gM:oc C bl bF bT ai){f:Nat}{args:List D}{dh:Nat}{Ek:Bool}{uI:List g4}{xR:List Frame}(Y:dn C T ad h j bl.heap.size w)(ag:Below bl.heap.size bl w)(gv:th C T ad)(aC:dh<=j)
 (it:pu C T ad h bF bT dh uI xR)(O8:uI=[]->f=bF/\Ek=false)(f1:ew ad args)(a:o3 ai C f args Ek uI h j=some v):Ends C bl bF bT v (lone (Frame.enter C.P f (b4 T args).toArray (if Ek then .deferred else .normal)) xR w):=by
 unfold o3 at a
 split at a
 ·rename_i func b7
  split at a
  ·rename_i c ax
   simp only[mM,e7,Zp]at a
   obtain⟨⟨⟨M,R⟩,ak⟩,a⟩:=a
   have M:=jR M
   have qJ:Frame.enter C.P f (b4 T args).toArray (if Ek then .deferred else .normal)=cr T f [] Ek none ((b4 T args).toArray++Array.replicate (func.ntmps-args.length) Go.undef) [.code c] (g7 T .run):=by
    simp[Frame.enter,cr,g7,b7,ax,ki]
   rw[qJ]
   refine gM _ _ _ _ _ _ _ _ _ _ _ _ v a T ad w dh _ _ xR ?_
   refine⟨Y,ag,gv,aC,⟨Zs,Zs,func,b7,ak⟩,trivial,λE=>⟨(O8 E).1,(O8 E).2,rfl⟩,it, .plain (.cons (.code R) .nil) ⟨?_, ?_⟩⟩
   ·simp[ki];omega
   ·intro t ac _ bg
    rw[mZ]at bg
    have cZ:t<args.length:=(Zc.1 bg).1
    refine⟨?_,Cb f1 bg⟩
    rw[Yy (by simpa[ki]using cZ)]
    simp[BW,bg]
  ·simp at a
 ·simp at a
def Ol(gM:oc C bl bF bT ai){f:Nat}{args:List D}{dh:Nat}{uI:List g4}{xR:List Frame}(Y:dn C T ad h j bl.heap.size w)(ag:Below bl.heap.size bl w)(gv:th C T ad)(aC:dh<=j)
 (it:pu C T ad h bF bT dh uI xR)(O8:uI=[]->f=bF)(f1:ew ad args)(a:o3 ai C f args false uI h j=some v):Ends C bl bF bT v (lone (Frame.enter C.P f (b4 T args).toArray .normal) xR w):=
 adw (Ek:=false) gM Y ag gv aC it (λE=>⟨O8 E,rfl⟩) f1 a
def HM(gM:oc C bl bF bT ai){eP:d1}{z:List d1}{ac:D}(az:jz C bl bF bT fn ao bh ay ro cs h j T ad w bL am)(aD:m9 C T ad h bL aG n ao I tmps (eP::z) bw)(tR:aG<=j)(Cd:cm ad ac)
 (a:(match pM eP ac with|some hX=>ai .run (hX::z) ⟨fn,n,ao,bh,ay,ro,cs⟩ I h j|none=>none)=some v):
 Ends C bl bF bT v (lone ((cr T fn bh ay ro tmps bw .run).finish (aQ T ac)) am w):=by
 obtain⟨aGo,wF,hX,h1,im,bz,cF,f0,kj⟩:=asb (fn:=fn) (bh:=bh) (ay:=ay) (ro:=ro) (mode:= .run) aD tR Cd
 cases bz
 rw[cF]at a
 rw[f0]
 exact gM _ _ _ _ _ _ _ _ _ _ _ _ v a T ad w bL h1 im am (az.state kj)
def ayj{f:Nat}{args:List D}{ac:D}(cM:Env C bl dY ed)(ag:Below bl.heap.size bl w)(bf:C.hB f args=some ac):
 (
  (∀iV,(callFunc f (b4 iV args).toArray).run C.P w= .ok (.value (aQ iV ac)) w)\/
  ((∀iV,(callFunc f (b4 iV args).toArray).run C.P w= .ok (.enter f (b4 iV args).toArray) w)/\∀iV,Calls C.P f (b4 iV args).toArray w λE b1=>E= .returned (aQ iV ac)/\Below w.heap.size w b1))/\∀dm,cm dm ac:=by
 obtain⟨⟨bI,bN⟩,cH,dg⟩:=cM.hB.val f args ac bf
 refine⟨?_,bN⟩
 rcases cM.hB.ok f args ac bf dY w ag with a|⟨M,R⟩
 ·left;intro iV;rw[cH iV dY,bI iV dY];exact a
 ·right;exact⟨λiV=>by rw[cH iV dY];exact M,λiV=>by rw[cH iV dY,bI iV dY];exact R⟩
mutual
def Q8:∀(d:Nat) (x e:D),D.same d x e=true->x=e
 |0,_,_,a=>by simp[D.same]at a
 |d+1,x,e,a=>by
  unfold D.same at a
  split at a<;>(try(cases a;done))
  ·simp at a;rw[a]
  ·simp at a;rw[a.1,a.2]
  ·rw[(Mz _ _).1 a]
  ·simp only[Zp]at a;rw[Zn a.1,Zn a.2]
  ·rfl
  ·simp only[Zp]at a;rw[Zn a.1.1.1,Zn a.1.1.2,Zn a.1.2,Zn a.2]
  ·simp only[Zp]at a;rw[Zn a.1.1.1,Zn a.1.1.2,Zn a.1.2,Zn a.2]
  ·rfl
  ·rw[Zn a]
  ·rfl
  ·simp only[Zp,Zg]at a
   rw[a.1.1,MY d _ _ a.1.2,MY d _ _ a.2]
  ·rfl
  ·simp only[Zp]at a;rw[Zn a.1,Q8 d _ _ a.2]
  ·rfl
  ·rw[MY d _ _ a]
  ·rw[MY d _ _ a]
def MY:∀(d:Nat) (x e:List D),lO (D.same d) x e=true->x=e
 |_,[],[],_=>rfl
 |_,[],_::_,a=>by simp[lO]at a
 |_,_::_,[],a=>by simp[lO]at a
 |d,H::x,b::e,a=>by
  simp only[lO,Zp]at a
  rw[Q8 d _ _ a.1,MY d _ _ a.2]
end
def Ends.same{dw:Machine}{hr:D}(bC:∀T,aQ T hr=aQ T v)(a:Ends C bl bF bT hr dw):Ends C bl bF bT v dw:=by
 obtain⟨T,b1,fr,M,R,ak⟩:=a
 exact⟨T,b1,fr,M,by rw[<-bC];exact R,ak⟩
def asy{eP:d1}{z:List d1}{ca:iK}:∀(l:List (D×Q af)) (v:D),Al ai eP z ca I j l=some v->∀ac S',(ac,S')∈l->
 ∃hr,(match pM eP ac with|some hX=>ai .run (hX::z) ca I S' j|none=>none)=some hr/\∀T,aQ T hr=aQ T v:=by
 intro l
 induction l with
 |nil=>intro v a;simp[Al]at a
 |cons p l mT=>
  intro v a ac S' bp
  obtain⟨H,fR⟩:=p
  cases l with
  |nil=>
   simp only[Al]at a
   simp at bp
   obtain⟨rfl,rfl⟩:=bp
   exact⟨v,a,λ_=>rfl⟩
  |cons aj l=>
   simp only[Al]at a
   split at a
   ·rename_i hX avp
    split at a
    ·rename_i x e ae B
     simp only[e7,Zf]at a
     obtain⟨aw,rfl⟩:=a
     rcases Zt.1 bp with E|bp
     ·cases E
      exact⟨x,by rw[avp];exact ae,λ_=>rfl⟩
     ·obtain⟨hr,bI,bN⟩:=mT e B ac S' bp
      exact⟨hr,bI,λT=>by rw[bN T,Q8 _ _ _ aw]⟩
    ·simp at a
   ·simp at a
def aDC{ac:D}{dc:List g4}{dh:Nat}{bw:List Item}(it:pu C T ad h bF bT dh cs am)(a:Dy ay cs=some (ac,dc)):
 ∃jH,pu C T ad h bF bT dh dc jH/\cm ad ac/\(dc=[]->cs=[])/\
  (Go.tryRecover (cr T fn bh ay none tmps bw .run) am=some (aQ T ac,jH)\/(Go.tryRecover (cr T fn bh ay none tmps bw .run) am=none/\aQ T ac= .nilIface/\jH=am)):=by
 unfold Dy at a
 rw[fN]at a
 cases ay with
 |false=>
  simp at a
  obtain⟨rfl,rfl⟩:=a
  exact⟨am,it,trivial,id, .inr ⟨by simp[Go.tryRecover,cr],rfl,rfl⟩⟩
 |true=>
  simp only[ZE]at a
  cases cs with
  |nil=>simp at a
  |cons c rest=>
   obtain⟨hd,aN,ln,c4,w4,gJ,nr,jS,lP⟩:=c
   obtain⟨sQ,h1,im,jH,rfl,bQ,ct,c1,dJ,d7,c3⟩:=it.inv
   have same:(ac,dc)=(D.nilIface,(⟨hd,aN,ln,c4,w4,gJ,nr,jS,lP⟩:g4)::rest)->(∀v Dj,g7 T nr≠ .panicking (⟨v,false,false⟩::Dj))->
    ∃TX,pu C T ad h bF bT dh dc TX/\cm ad ac/\(dc=[]->(⟨hd,aN,ln,c4,w4,gJ,nr,jS,lP⟩:g4)::rest=[])/\
     (Go.tryRecover (cr T fn bh true none tmps bw .run) (cr T hd gJ jS lP h1 im (g7 T nr)::jH)=some (aQ T ac,TX)\/
      (Go.tryRecover (cr T fn bh true none tmps bw .run) (cr T hd gJ jS lP h1 im (g7 T nr)::jH)=none/\aQ T ac= .nilIface/\TX=cr T hd gJ jS lP h1 im (g7 T nr)::jH)):=by
    intro E dQ
    simp only[YN]at E
    obtain⟨rfl,rfl⟩:=E
    refine⟨_,it,trivial,λE=>(by cases E), .inr ⟨?_,rfl,rfl⟩⟩
    simp only[Go.tryRecover,cr,ZE]
   simp only at a
   split at a
   ·rename_i v Dj
    simp only[Zf,YN]at a
    obtain⟨rfl,rfl⟩:=a
    have b2:rn ad (.panicking (⟨v,true⟩::Dj)):=by
     intro p aw
     rcases Zt.1 aw with rfl|aw
     ·exact ct ⟨v,false⟩ (Zv ..)
     ·exact ct p (Zw _ aw)
    refine⟨cr T hd gJ jS lP h1 im (g7 T (.panicking (⟨v,true⟩::Dj)))::jH, .cons (bR:= .panicking (⟨v,true⟩::Dj)) bQ b2 c1 dJ d7 c3,ct ⟨v,false⟩ (Zv ..),λE=>(by cases E), .inl ?_⟩
    simp[Go.tryRecover,cr,g7,uF]
   ·rename_i lk
    simp only[Zf]at a
    refine same a.symm λv Dj E=> ?_
    cases nr with
    |run=>cases E
    |returning=>cases E
    |panicking fC=>
     cases fC with
     |nil=>cases E
     |cons p dq=>
      obtain⟨aBh,aA7⟩:=p
      cases aA7 with
      |true=>simp[g7,uF]at E
      |false=>exact lk aBh dq rfl
def aCj{aN:Nat}:∀(dq:List Nat) (cu:List D) (I c4:Q D) (tmps:Array Value),jQ T ad aN ao I tmps->ew ad cu->yA aN dq cu I=some c4->
 dq.length=cu.length/\jQ T ad aN ao c4 ((dq.zip (b4 T cu)).foldl (λtmps p=>tmps.setIfInBounds p.1 p.2) tmps):=by
 intro dq
 induction dq with
 |nil=>
  intro cu I c4 tmps be _ a
  cases cu with
  |nil=>simp[yA]at a;subst a;exact⟨rfl,by simpa[b4]using be⟩
  |cons H cu=>simp[yA]at a
 |cons p dq axx=>
  intro cu I c4 tmps be b2 a
  cases cu with
  |nil=>simp[yA]at a
  |cons H cu=>
   simp only[yA,e7]at a
   obtain⟨aw,a⟩:=a
   have aw:=l1 aw
   have VS:jQ T ad aN ao (I.set p (some H)) (tmps.setIfInBounds p (aQ T H)):=by
    refine⟨by simp[be.size],λt ac aC bg=> ?_⟩
    rw[Q.kW]at bg
    by_cases E:p=t
    ·subst E
     simp at bg;subst bg
     exact⟨by simp[be.size,aw],b2.1⟩
    ·simp[E]at bg
     obtain⟨M,R⟩:=be.val t ac aC bg
     exact⟨by rw[Array.getElem?_setIfInBounds_ne E];exact M,R⟩
   obtain⟨M,R⟩:=axx cu _ c4 _ VS b2.2 a
   exact⟨by simp[M],by simpa[b4]using R⟩
def acn(cM:Env C bl dY ed)(gM:oc C bl bF bT ai){eP:d1}{z:List d1}{i:Nat}{l:List Nat}{W:Oper}{r:ee}(az:jz C bl bF bT fn ao bh ay ro cs h j T ad w bL am)
 (aD:m9 C T ad h bL aG n ao I tmps (eP::z) (.inRegion ar (i::l)::bw))(Px:bL<=aG)(tR:aG<=j)(bf:ar[i]? =some W)(bs:Region.wanted W (yielded ar tmps)=true)
 (mN:iX C T ad h j bl.heap.size w (execOp (lv tmps) W) r)(a:oY r ai C eP z ⟨fn,n,ao,bh,ay,ro,cs⟩ I h j=some v):
 Ends C bl bF bT v (lone (cr T fn bh ay ro tmps (.inRegion ar (i::l)::bw) .run) am w):=by
 have ow:bL<=j:=ZB Px tR
 have done:∀v ac S' an,BC C T ad h j bl.heap.size w (execOp (lv tmps) W) ac S' an->(match pM eP ac with|some hX=>ai .run (hX::z) ⟨fn,n,ao,bh,ay,ro,cs⟩ I S' an|none=>none)=some v->
  Ends C bl bF bT v (lone (cr T fn bh ay ro tmps (.inRegion ar (i::l)::bw) .run) am w):=by
  intro v ac S' an aF a
  obtain⟨de,dG,b1,ns,cT,cy,e1,i6,gu,g8⟩:=aF
  have IE:ns= .value (aQ de ac)\/(ns= .skip/\aQ de ac=Go.undef):=cy.imp id λ⟨H,b⟩=>⟨H,by rw[b];rfl⟩
  refine .head (Gs bf bs cT IE) ?_
  rw[<-I2 gu.jg az.ig]
  exact HM gM (az.ext i6 (gu.mono ow) g8) (aD.aa (gu.mono tR)) (ZB tR g8) e1 a
 cases r with
 |val ac=>exact done v ac h j mN a
 |fv ac S' an=>exact done v ac S' an mN a
 |enter f args=>
  obtain⟨M,R⟩:=mN
  refine .head (ajz bf bs M) ?_
  simp only[oY]at a
  refine Ol gM az.Y az.lB az.gv tR ?_ (λE=>by simp[Gv]at E) R a
  exact .cons (bR:= .run) aD trivial az.ig az.bot Px az.cs
 |known f args ac=>
  obtain⟨M,R,ak⟩:=mN
  obtain⟨aJ,Cd⟩:=ayj cM az.lB M
  simp only[oY]at a
  rcases aJ with aJ|⟨lK,iu⟩
  ·rw[aJ T]at R
   refine .head (Gs bf bs R (.inl rfl)) ?_
   exact HM gM az aD tR (Cd ad) a
  ·rw[lK T]at R
   refine .head (ajz bf bs R) ?_
   obtain⟨E,b1,fr,⟨rfl,tG⟩,CH,_,Pv⟩:=iu T (cr T fn bh ay ro tmps (.inRegion ar (i::l)::bw) .run::am)
   refine .steps CH (.head (step_leave_returned Pv) ?_)
   have ae:iW C aG T ad h bl.heap.size w T ad h b1:=⟨λ_ _=>rfl,λ_ a=>a,λ_ a=> .inl a,λ_ _ _=>rfl,tG.mono az.ey⟩
   exact HM gM (az.ext (az.Y.later tG) (ae.mono Px) (Zj _)) (aD.aa ae) tR (Cd ad) a
 |round b args=>
  obtain⟨M,R,ak⟩:=mN
  simp only[oY]at a
  split at a
  ·rename_i st rQ hd aN ln c4 params assign body gJ h7
   split at a
   ·rename_i ao2 dA
    obtain⟨h1,g9,nt,sZ,I9,Dd,uf,De⟩:=az.Y.obj b _ h7 ak
    obtain⟨cN,cA⟩:=aCj params args c4 ao2 h1 nt R dA
    rw[run_yield g9 (by simp[ki,cN])]at M
    refine .head (aC3 bf bs M) ?_
    have qJ:Frame.round (T b).cL hd (((params.toArray).zip (b4 T args).toArray).foldl (λtmps (t,H)=>tmps.setIfInBounds t H) h1) assign body .normal=
     cr T hd [] false (some b) ((params.zip (b4 T args)).foldl (λtmps p=>tmps.setIfInBounds p.1 p.2) h1) [.code assign, .beginRound, .code body] (g7 T .run):=by
     simp[Frame.round,cr,g7]
    simp only at qJ ⊢
    rw[qJ]
    refine gM _ _ _ _ _ _ _ _ _ _ _ _ v a T ad w aG _ _ _ ?_
    refine⟨az.Y,az.lB,az.gv,tR,⟨Zs,λl aC=>(by cases aC;exact ak),De⟩,trivial,λE=>by simp[Gv]at E, .cons (bR:= .run) aD trivial az.ig az.bot Px az.cs, ?_⟩
    exact .plain (.cons (.code I9) (.cons .begin (.cons (.code Dd) .nil))) cA
   ·simp at a
  ·simp at a
 |defer d=>
  obtain⟨M,R⟩:=mN
  simp only[oY]at a
  cases ro with
  |some b=>simp at a
  |none=>
   simp only at a
   refine .head (aCP bf bs M) ?_
   have avc:xg C ad fn ao (d::bh) none:=⟨λl3 aF=>by
    rcases Zt.1 aF with rfl|aF
    ·exact R
    ·exact az.ig.bh l3 aF,az.ig.ro,az.ig.fn⟩
   exact HM (ac:=undef) gM ⟨az.Y,az.lB,az.gv,az.ku,avc,az.bot,az.cs⟩ aD tR trivial a
 |recover=>
  simp only[oY]at a
  cases ro with
  |some b=>simp at a
  |none=>
   simp only at a
   split at a
   ·rename_i ac dc awu
    obtain⟨jH,bI,bN,cH,dg⟩:=aDC (fn:=fn) (bh:=bh) (tmps:=tmps) (bw:= .inRegion ar (i::l)::bw) az.cs awu
    refine .head (aCZ bf bs mN dg) ?_
    exact HM (ac:=ac) gM ⟨az.Y,az.lB,az.gv,az.ku,az.ig,λE=>az.bot (cH E),bI⟩ aD tR bN a
   ·simp at a
 |panic ac=>
  obtain⟨M,R⟩:=mN
  simp only[oY]at a
  cases ro with
  |some b=>simp at a
  |none=>
   simp only at a
   refine .head (aCY bf bs M) ?_
   refine gM _ _ _ _ _ _ _ _ _ _ _ _ v a T ad w bL tmps _ am ?_
   exact⟨az.Y,az.lB,az.gv,az.ku,az.ig,λp aw=>by simp at aw;subst aw;exact R,az.bot,az.cs,aD.drop⟩
 |fork ce=>
  obtain⟨ac,S',bp,aF⟩:=mN
  simp only[oY]at a
  obtain⟨hr,bI,bN⟩:=asy ce v a ac S' bp
  exact .same bN (done hr ac S' j aF bI)
def ah6{W:Op}{eE:Operand->Option D}{b:Nat}{ac:D}{cU:af}{dm:Nat->Prop}(a:q9 W C eE b=some (ac,cU)):xl C dm cU:=by
 have key:∀l:List D,xl C dm (.cells (Q.ofList l 0 .nil) l.length .own):=λl=>⟨λ_ _ _ a=>(by cases a),λ_ _ _ a=>(by cases a;exact Jb)⟩
 have ayh:xl C dm (.map [] 0):=⟨λ_ _ _ a=>(by cases a),λ_ _ _ a=>(by cases a)⟩
 cases W<;>simp only[q9]at a<;>(try(cases a;done))
 case alloc t=>unfold FO at a;split at a<;>simp at a;rw[<-a.2];exact key _
 case box t x=>unfold Ms at a;split at a<;>simp at a;rw[<-a.2];exact key _
 case buildSlice t len kv=>
  unfold Mt at a
  split at a
  ·split at a
   ·simp only[e7]at a
    obtain⟨_,a⟩:=a
    split at a<;>simp at a
    rw[<-a.2];exact key _
   ·simp at a
  ·simp at a
 case makeMap t r=>cases r<;>simp at a;rw[<-a.2];exact ayh
def arh{i:Nat}(aG:ar.toList.drop i=[]):ar.size<=i:=by simpa using aG
def asd{ao:Nat}{aq:List (Nat×D)}:∀(l:List Oper) (i:Nat) (ep:List (Nat×Nat)) (oV I c4:Q D),(∀t,fG ao t=true->I.get t=match ev ep t with|some S=>ev aq S|none=>oV.get t)->
 Ai aq (lG ao l i) I=some c4->∀t,fG ao t=true->c4.get t=match ev (w9 l i ep) t with|some S=>ev aq S|none=>oV.get t:=by
 intro l
 induction l with
 |nil=>intro i ep oV I c4 dA a;simp[lG,Ai]at a;subst a;exact dA
 |cons W l ai=>
  intro i ep oV I c4 dA a
  simp only[lG]at a
  simp only[w9]
  split at a
  ·rename_i d aF
   rw[fN]at a
   split at a
   ·rename_i ag
    simp only[Ai]at a
    split at a
    ·rename_i ac bg
     simp only[hE]at a
     refine ai (i+1) _ oV _ c4 (λt be=> ?_) a
     rw[Q.kW,Hh,aF]
     by_cases E:d=t
     ·subst E;simp[bg]
     ·simp[E];exact dA t be
    ·simp at a
   ·rename_i ag
    refine ai (i+1) _ oV _ c4 (λt be=> ?_) a
    rw[Hh,aF]
    have E:d≠t:=λE=>ag (by rw[E];exact be)
    simp[E];exact dA t be
  ·rename_i aF
   refine ai (i+1) _ oV _ c4 (λt be=> ?_) a
   rw[Hh,aF]
   simp;exact dA t be
def adT{aq:List (Nat×D)}{I c4:Q D}(bB:pB T ad ao (λ_=>True) (iJ ar ar.size) aq I tmps)(eT:tmps.size=n)(a:Ai aq (lG ao ar.toList 0) I=some c4):jQ T ad n ao c4 tmps:=by
 refine⟨eT,λt ac aC bg=> ?_⟩
 have:=asd (ao:=ao) (aq:=aq) ar.toList 0 [] I I c4 (λ_ _=>rfl) a t aC
 rw[bg]at this
 apply bB t ac trivial
 have E:iJ ar ar.size=w9 ar.toList 0 []:=by unfold iJ;rw[ZA Zs]
 rw[E]
 cases bE:ev (w9 ar.toList 0 []) t with
 |some S=>rw[bE]at this;exact this.symm
 |none=>rw[bE]at this;exact⟨aC,this.symm⟩
def ajq(cM:Env C bl dY ed)(gM:oc C bl bF bT ai){z:List d1}{fin:List (Nat×Nat)}:∀(rest:List fz) (aq:List (Nat×D)) (h:Q af) (j:Nat) (T:db) (ad:Nat->Prop) (w:World) (tmps:Array Value) (l:List Nat) (am:List Frame),
 jz C bl bF bT fn ao bh ay ro cs h j T ad w bL am->mg C T ad ao z bw->Se C T ad n ao ar aq rest fin I tmps l->
 Bd rest ⟨ai,ar,fin,z,⟨fn,n,ao,bh,ay,ro,cs⟩⟩ C I aq h j=some v->Ends C bl bF bT v (lone (cr T fn bh ay ro tmps (.inRegion ar l::bw) .run) am w):=by
 intro rest
 induction rest with
 |nil=>
  intro aq h j T ad w tmps l am az aJ aD a
  obtain⟨i,aG,rfl,ax,rfl,bB,eT⟩:=aD
  have Pf:ar.size<=i:=by
   cases aF:ar.toList.drop i with
   |nil=>exact arh aF
   |cons W ce=>
    rw[aF]at ax
    obtain⟨_,_,r,_,_,_,_,_,E⟩:=SM ax
    cases E
  have:i=ar.size:=Zo
  subst this
  simp only[Nat.sub_self,List.range'_zero]
  have cz:KE ⟨ai,ar,lG ao ar.toList 0,z,⟨fn,n,ao,bh,ay,ro,cs⟩⟩ C I aq h j=some v:=a
  simp only[KE,Ot,pm]at cz
  split at cz
  ·rename_i c4 dA
   refine .head ajB ?_
   exact gM _ _ _ _ _ _ _ _ _ _ _ _ v cz T ad w bL tmps bw am (az.state (.plain aJ (adT bB eT dA)))
  ·simp at cz
 |cons x rest IJ=>
  intro aq h j T ad w tmps l am az aJ aD a
  obtain⟨i,aG,rfl,ax,rfl,bB,eT⟩:=aD
  cases aF:ar.toList.drop i with
  |nil=>rw[aF]at ax;simp[tt]at ax
  |cons W ce=>
   rw[aF]at ax
   obtain⟨g,op,r,cX,dN,g6,nJ,kB,E⟩:=SM ax
   cases E
   obtain⟨cT,cy,e1⟩:=Tf aF
   rw[<-Nl cT, <-cy]at kB
   have Ix:List.range' i (ar.size-i)=i::List.range' (i+1) (ar.size-(i+1)):=by
    rw[show ar.size-i=(ar.size-(i+1))+1 by omega,List.range'_succ]
   rw[Ix]
   have pR:=adq g6
   have Iw:∀(de:db) (dG:Nat->Prop) (ac:D),pB de dG ao (λ_=>True) (iJ ar i) aq I tmps->cm dG ac->Se C de dG n ao ar ((i,ac)::aq) rest (lG ao ar.toList 0) I (qX tmps W.dst (aQ de ac)) (List.range' (i+1) (ar.size-(i+1))):=by
    intro de dG ac AQ Cd
    exact⟨i+1,Zo,rfl,kB,rfl,AQ.put cT (by rw[eT];exact pR) Cd,by rw[QX];exact eT⟩
   have kE:∀(de:db) (ac:Value),(cr de fn bh ay ro tmps (.inRegion ar (i::List.range' (i+1) (ar.size-(i+1)))::bw) .run).finish ac=cr de fn bh ay ro (qX tmps W.dst ac) (.inRegion ar (List.range' (i+1) (ar.size-(i+1)))::bw) .run:=by
    intro de ac
    rw[Ov (g:=cr de fn bh ay ro tmps _ .run) rfl cT];rfl
   have cz:F7 i g op rest (Bd rest) ⟨ai,ar,lG ao ar.toList 0,z,⟨fn,n,ao,bh,ay,ro,cs⟩⟩ C I aq h j=some v:=a
   simp only[F7,Ru,pm]at cz
   split at cz
   ·rename_i XZ j6
    have t6:=Ry aG cX bB (λ_ _ _ _ _=>trivial) (Sub.refl aq) j6
    cases XZ with
    |false=>
     simp only[Zy,ZD]at cz
     refine .head (XF cT t6) ?_
     rw[kE]
     exact IJ _ _ _ _ _ _ _ _ _ az aJ (Iw T ad undef bB trivial) cz
    |true=>
     simp only[ZE]at cz
     have AB:jP T ad (lv tmps) (jE (iJ ar i) aq I) W.op.operands.toList:=adH bB (λ_ _=>trivial) nJ az.gv
     rw[QN]at cz
     cases pS:np op with
     |ix=>
      simp only[pS,pm]at cz
      split at cz
      ·rename_i ac bg
       obtain⟨bb,b5⟩:=ahS az.Y AB dN bg
       refine .head (Gs cT t6 bb (.inl rfl)) ?_
       rw[kE]
       exact IJ _ _ _ _ _ _ _ _ _ az aJ (Iw T ad ac bB b5) cz
      ·simp at cz
     |make=>
      simp only[pS,pm]at cz
      split at cz
      ·rename_i res k2
       simp only[Qr,mM]at k2
       split at k2
       ·rename_i ac cU bp
        simp only[hE,Zf]at k2
        subst k2
        have pd:=sX az.Y
        obtain⟨pk,fu,gj,mW⟩:=ah5 (w:=w) (T:=T) pd AB (Qs dN bp)
        have ae:iW C bL T ad h bl.heap.size w (gP T j ⟨w.heap.size,0,0⟩) (add ad j) (bj C h j (some cU)) (w.alloc pk):=
         ⟨r0 pd,λ_ a=> .inl a,λx a=>a.elim .inl (λa=> .inr (zs az.ku)),λx ae cZ=>by rw[ga _ az.Y.a2,Zh (zs az.ku)],Below.alloc (Below.refl _ _) az.ey _⟩
        have nf:=az.Y.alloc az.Y.a2 (Yi _) (Z9 _) pd az.ey rfl (S':=bj C h j (some cU)) (by rw[ga _ az.Y.a2,Zr rfl]) (λx ae=> .inl (by rw[ga _ az.Y.a2,Zh ae])) mW (ah6 (Qs dN bp))
        refine .head (Gs cT t6 fu (.inl rfl)) ?_
        rw[kE, <-I2 ae.jg az.ig]
        exact IJ _ _ _ _ _ _ _ _ _ (az.ext nf ae (Z9 _)) (aJ.aa ae.jg ae.j2) (Iw _ _ ac (bB.aa ae.jg ae.j2) gj) cz
       ·simp at k2
      ·simp at cz
     |fw=>
      simp only[pS,pm]at cz
      split at cz
      ·rename_i res k2
       have mN:=afr az.Y az.ey cM.kN AB dN k2
       have axb:m9 C T ad h bL j n ao I tmps (.ux ar aq i rest (lG ao ar.toList 0)::z) (.inRegion ar (i::List.range' (i+1) (ar.size-(i+1)))::bw):=
        .seq aJ ⟨W,cT,pR,rfl,kB,rfl,bB,eT⟩
       have now:∀ac S' an,BC C T ad h j bl.heap.size w (execOp (lv tmps) W) ac S' an->Bd rest ⟨ai,ar,lG ao ar.toList 0,z,⟨fn,n,ao,bh,ay,ro,cs⟩⟩ C I ((i,ac)::aq) S' an=some v->
        Ends C bl bF bT v (lone (cr T fn bh ay ro tmps (.inRegion ar (i::List.range' (i+1) (ar.size-(i+1)))::bw) .run) am w):=by
        intro ac S' an aF a
        obtain⟨de,dG,b1,ns,bz,cF,f0,kj,qy,KC⟩:=aF
        have IE:ns= .value (aQ de ac)\/(ns= .skip/\aQ de ac=Go.undef):=cF.imp id λ⟨H,b⟩=>⟨H,by rw[b];rfl⟩
        refine .head (Gs cT t6 bz IE) ?_
        rw[kE, <-I2 qy.jg az.ig]
        exact IJ _ _ _ _ _ _ _ _ _ (az.ext kj (qy.mono az.ku) KC) (aJ.aa qy.jg qy.j2) (Iw _ _ ac (bB.aa qy.jg qy.j2) f0) a
       have rj:oY res ai C (.ux ar aq i rest (lG ao ar.toList 0)) z ⟨fn,n,ao,bh,ay,ro,cs⟩ I h j=some v->Ends C bl bF bT v (lone (cr T fn bh ay ro tmps (.inRegion ar (i::List.range' (i+1) (ar.size-(i+1)))::bw) .run) am w):=
        λa=>acn cM gM az axb az.ku (Zj _) cT t6 mN a
       cases res with
       |val ac=>exact now ac h j mN cz
       |fv ac S' an=>exact now ac S' an mN cz
       |_=>exact rj cz
      ·simp at cz
   ·simp at cz
end
def aqT{l:List Bool}(a:l.count false=0):∀b∈l,b=true:=by
 intro b ag
 cases b with
 |true=>rfl
 |false=>exact absurd ag (List.count_eq_zero.1 a)
def aB9{ar:Array Oper}(mw:F5 ar.toList 0=true):∀(fuel t:Nat) (iS:Array Bool),iS.size=ar.size->iS.toList.count false=fuel->
 xm ar (λi=>iS.getD i false=true) (Region.linearise.go .any ar fuel t iS []):=by
 intro fuel
 induction fuel with
 |zero=>
  intro t iS aD ax
  simp only[Region.linearise.go,List.reverse_nil]
  refine .nil λi aG=> ?_
  have cZ:i<iS.size:=Zo
  have:=aqT ax iS[i] Zs
  simp[cZ,this]
 |succ fuel ai=>
  intro t iS aD ax
  simp only[Region.linearise.go]
  have sB:∃i,i<ar.size/\iS.getD i true=false:=by
   have Vj:false∈iS.toList:=by
    rw[<-List.count_pos_iff];omega
   obtain⟨i,aG⟩:=ZZ.1 Vj
   have cZ:i<iS.size:=by have:=(Zc.1 aG).1;simpa using this
   refine⟨i,Zo, ?_⟩
   rw[ZO]at aG
   simp[aG]
  have LC:∃i,i<ar.size/\iS.getD i true=false/\∀S,S<i->iS.getD S false=true:=by
   have key:∀m,(∃i,i<m/\i<ar.size/\iS.getD i true=false)->∃i,i<ar.size/\iS.getD i true=false/\∀S,S<i->iS.getD S false=true:=by
    intro m
    induction m with
    |zero=>rintro⟨i,a,_⟩;omega
    |succ m qN=>
     rintro⟨i,M,R,ak⟩
     by_cases aj:∃i,i<m/\i<ar.size/\iS.getD i true=false
     ·exact qN aj
     ·have:i=m:=by
       rcases zf i m with a|a
       ·exact absurd ⟨i,a,R,ak⟩ aj
       ·omega
      subst this
      refine⟨i,R,ak,λS bE=> ?_⟩
      have cZ:S<iS.size:=Zo
      cases ag:iS[S]with
      |true=>simp[cZ,ag]
      |false=>exact absurd ⟨S,bE,Zo,by simp[cZ,ag]⟩ aj
   obtain⟨i,M,R⟩:=sB
   exact key (i+1) ⟨i,Zo,M,R⟩
  obtain⟨i0,rA,aw0,is⟩:=LC
  have awt:i0∈Region.ready .any ar iS:=by
   rw[mem_ready]
   refine⟨aw0,ar[i0],Array.getElem?_eq_getElem rA,λE bC ag=> ?_⟩
   have:=aAc mw i0 ar[i0] (by rw[ZO];exact Array.getElem?_eq_getElem rA) E (by simpa using bC) ag
   exact is _ Zo
  change xm ar _ (match (Region.ready .any ar iS)[t%(Region.ready .any ar iS).length]? with
   |some i=>Region.linearise.go .any ar fuel (t/(Region.ready .any ar iS).length) (iS.setIfInBounds i true) [i]
   |none=>[].reverse)
  have fg:0<(Region.ready .any ar iS).length:=List.length_pos_of_mem awt
  have cZ:t%(Region.ready .any ar iS).length<(Region.ready .any ar iS).length:=Nat.mod_lt _ fg
  rw[Ze cZ]
  simp only[]
  generalize aG:(Region.ready .any ar iS)[t%(Region.ready .any ar iS).length]=i
  have Vj:i∈Region.ready .any ar iS:=by rw[<-aG];exact List.getElem_mem cZ
  obtain⟨M,W,R,ak⟩:=mem_ready.1 Vj
  have aFe:i<ar.size:=(ZM.1 R).1
  have l5:i<iS.size:=Zo
  have afw:iS[i]=false:=by simpa[l5]using M
  rw[linearise_go_acc,List.reverse_singleton,List.singleton_append]
  refine .cons R (by simp[l5,afw]) (λE bC ag=>ak E (by simpa using bC) ag) ?_
  have bU:add (λi=>iS.getD i false=true) i=λS=>(iS.setIfInBounds i true).getD S false=true:=by
   funext S
   apply propext
   unfold add
   by_cases E:S=i
   ·subst E;simp[l5]
   ·rw[getD_set_ne false (λaj=>E aj.symm)]
    simp[E]
  rw[bU]
  refine ai _ _ (by simpa using aD) ?_
  rw[Array.toList_setIfInBounds,List.count_set (by simpa using l5)]
  have:(iS.toList[i]'(by simpa using l5))=false:=by simpa using afw
  simp[this,ax]
def aCa{ar:Array Oper}(mw:F5 ar.toList 0=true)(t:Nat):xm ar (λ_=>False) (Region.schedule true ar t):=by
 simp only[Region.schedule,Bool.true_or,ZE,Region.linearise]
 have:=aB9 mw ar.size t (Array.replicate ar.size false) Zs Zs
 have E:(λi=>(Array.replicate ar.size false).getD i false=true)=λ_=>False:=by
  funext i
  apply propext
  by_cases a:i<ar.size<;>simp[a]
 rw[E]at this
 exact this
section
variable{C:aK}{T de dY:db}{ad dG ed:Nat->Prop}{h S':Q af}{j an bo:Nat}{w b1:World}{n ao:Nat}{ar:Array Oper}
variable{bl:World}{bF:Nat}{bT:List Frame}{v:D}{ai:hP}
variable{fn:Nat}{bh:List h3}{ay:Bool}{ro:Option Nat}{cs:List g4}{I:Q D}{tmps:Array Value}{bw:List Item}{am:List Frame}{bL aG:Nat}
def axB{op:ke}(aJ:np op= .ix)(aD:Dt op=false)(h S':Q af)(aq:List (Nat×D))(I:Q D):hc op C h aq I=hc op C S' aq I:=by
 cases op<;>simp only[hc]<;>(try rfl)<;>simp[Dt]at aD
 case ix b8 W=>cases W<;>simp[Dt]at aD<;>rfl
def qp.refl(h:Q af):qp C h h:=λ_=> .inl rfl
def qp.trans{aI aM a1:Q af}(a:qp C aI aM)(z:qp C aM a1):qp C aI a1:=λx=>by
 rcases a x with a|a
 ·rcases z x with z|z
  ·exact .inl (a.trans z)
  ·exact .inr (a.trans z)
 ·exact .inr a
def ahQ(h:Q af):qp C .nil h:=by
 intro b
 unfold U
 rw[fN,fN]
 split
 ·exact .inl rfl
 ·exact .inr rfl
def aq7{base:Nat}(aE:C.a2<=base):∀(l:List fz) (aq:List (Nat×D)) (h:Q af) (hQ:List (Nat×D)) (S':Q af),(l.Pairwise λH b=>H.i≠b.i)->(∀x∈l,ev aq x.i=none/\U C h (base+x.i)=none/\oA x.op=false)->
 xE C base I l aq h=some (hQ,S')->Sub aq hQ/\qp C h S'/\(∀i,ev hQ i≠none->ev aq i≠none\/∃x∈l,x.i=i)/\(∀b,U C S' b≠U C h b->∃x∈l,b=base+x.i)/\
 ∀x∈l,∃ac,(∀ad,Nw C ad S' base hQ I x ac)/\JY C S' hQ I x ac:=by
 intro l
 induction l with
 |nil=>
  intro aq h hQ S' _ _ a
  simp[xE]at a
  obtain⟨rfl,rfl⟩:=a
  exact⟨Sub.refl _,qp.refl _,λi a=> .inl a,λb a=>absurd rfl a,Zs⟩
 |cons x l ai=>
  intro aq h hQ S' aw b7 a
  rw[List.pairwise_cons]at aw
  obtain⟨es,dF⟩:=aw
  obtain⟨OA,TD,TE⟩:=b7 x (Zv ..)
  have step:∀(ac:D) (aI:Q af),qp C h aI->(∀b,U C aI b≠U C h b->b=base+x.i)->xE C base I l ((x.i,ac)::aq) aI=some (hQ,S')->
   (∀hQ S',Sub ((x.i,ac)::aq) hQ->qp C aI S'->(U C aI (base+x.i)≠none->U C S' (base+x.i)=U C aI (base+x.i))->(∀ad,Nw C ad S' base hQ I x ac)/\JY C S' hQ I x ac)->
   Sub aq hQ/\qp C h S'/\(∀i,ev hQ i≠none->ev aq i≠none\/∃jh∈x::l,jh.i=i)/\(∀b,U C S' b≠U C h b->∃jh∈x::l,b=base+jh.i)/\∀jh∈x::l,∃ac,(∀ad,Nw C ad S' base hQ I jh ac)/\JY C S' hQ I jh ac:=by
   intro ac aI pT ry aF ae
   have AL:Sub aq ((x.i,ac)::aq):=Sub.cons OA
   have rz:∀jh∈l,ev ((x.i,ac)::aq) jh.i=none/\U C aI (base+jh.i)=none/\oA jh.op=false:=by
    intro jh rJ
    obtain⟨bI,bN,cH⟩:=b7 jh (Zw _ rJ)
    have dQ:=es jh rJ
    refine⟨by rw[sm,Zh dQ];exact bI, ?_,cH⟩
    by_cases aj:U C aI (base+jh.i)=U C h (base+jh.i)
    ·rw[aj];exact bN
    ·have:=ry _ aj;omega
   obtain⟨bQ,ct,c1,dJ,d7⟩:=ai _ _ _ _ dF rz aF
   have wA:U C S' (base+x.i)=U C aI (base+x.i):=by
    by_cases aj:U C S' (base+x.i)=U C aI (base+x.i)
    ·exact aj
    ·obtain⟨jh,rJ,E⟩:=dJ _ aj
     exact absurd Zo (es jh rJ)
   refine⟨AL.trans bQ,pT.trans ct,λi aG=> ?_,λb ag=> ?_,λjh rJ=> ?_⟩
   ·rcases c1 i aG with M|⟨jh,M,R⟩
    ·rw[sm]at M
     split at M
     ·rename_i E;exact .inr ⟨x,Zv ..,E⟩
     ·exact .inl M
    ·exact .inr ⟨jh,Zw _ M,R⟩
   ·by_cases aj:U C S' b=U C aI b
    ·rw[aj]at ag
     exact⟨x,Zv ..,ry b ag⟩
    ·obtain⟨jh,M,R⟩:=dJ b aj
     exact⟨jh,Zw _ M,R⟩
   ·rcases Zt.1 rJ with rfl|rJ
    ·exact⟨ac,ae hQ S' bQ ct (λ_=>wA)⟩
    ·exact d7 jh rJ
  have wA:∀(ac:D) (hQ:List (Nat×D)),Sub ((x.i,ac)::aq) hQ->ev hQ x.i=some ac:=λac hQ aD=>aD _ _ (by rw[sm,Zr rfl])
  simp only[xE]at a
  split at a
  ·simp at a
  ·rename_i bs
   refine step undef h (qp.refl _) (λb ag=>absurd rfl ag) a λhQ S' aD aC _=> ?_
   have CE:Sub aq hQ:=(Sub.cons OA).trans aD
   exact⟨λad=>⟨wA _ _ aD,aq,false,CE,bs,λ_=>rfl,Zs⟩,aq, .nil,false,CE,ahQ _,bs,Zs⟩
  ·rename_i bs
   cases aJ:np x.op with
   |make=>
    rw[aJ]at a
    simp only at a
    split at a
    ·rename_i ac cU bp
     simp only[hE]at a
     have ag:C.a2<=base+x.i:=Zo
     refine step ac _ (λb=> ?_) (λb km=> ?_) a λhQ S' aD aC Ps=> ?_
     ·rw[ga _ ag]
      by_cases E:b=base+x.i
      ·subst E;exact .inr TD
      ·rw[Zh E];exact .inl rfl
     ·rw[ga _ ag]at km
      by_cases E:b=base+x.i
      ·exact E
      ·rw[Zh E]at km;exact absurd rfl km
     ·have CE:Sub aq hQ:=(Sub.cons OA).trans aD
      have h7:U C S' (base+x.i)=some cU:=by
       rw[Ps (by rw[ga _ ag,Zr rfl];simp),ga _ ag,Zr rfl]
      exact⟨λad=>⟨wA _ _ aD,aq,true,CE,bs,Zs,λ_=>⟨TE,λ_=>⟨cU,bp,h7⟩,λaj=>by rw[aJ]at aj;cases aj⟩⟩,aq,h,true,CE,
       (by
        intro b
        rcases aC b with aj|aj
        ·rw[ga _ ag]at aj
         by_cases E:b=base+x.i
         ·subst E;exact .inr TD
         ·rw[Zh E]at aj;exact .inl aj
        ·rw[ga _ ag]at aj
         by_cases E:b=base+x.i
         ·subst E;exact .inr TD
         ·rw[Zh E]at aj;exact .inr aj),bs,λ_ aj=>by rw[aJ]at aj;cases aj⟩
    ·simp at a
   |ix=>
    rw[aJ]at a
    simp only at a
    split at a
    ·rename_i ac bg
     refine step ac h (qp.refl _) (λb ag=>absurd rfl ag) a λhQ S' aD aC _=> ?_
     have CE:Sub aq hQ:=(Sub.cons OA).trans aD
     exact⟨λad=>⟨wA _ _ aD,aq,true,CE,bs,Zs,λ_=>⟨TE,λaj=>(by rw[aJ]at aj;cases aj),λ_ IA jB=>by rw[axB aJ IA jB h];exact bg⟩⟩,aq,h,true,CE,aC,bs,λ_ _=>bg⟩
    ·simp at a
   |fw=>simp[oA,aJ]at TE
end
section
variable{C:aK}{T de dY:db}{ad dG ed:Nat->Prop}{h S':Q af}{j an bo:Nat}{w b1:World}{n ao:Nat}{ar:Array Oper}
variable{bl:World}{bF:Nat}{bT:List Frame}{v:D}{ai:hP}
variable{fn:Nat}{bh:List h3}{ay:Bool}{ro:Option Nat}{cs:List g4}{I:Q D}{tmps:Array Value}{bw:List Item}{am:List Frame}{bL aG:Nat}
def aq8{aq:List (Nat×D)}:∀(l:List fz),En C I aq h l=true->∀x∈l,∃b,ps x.g aq=some b/\(b=true->∃ac,hc x.op C h aq I=some ac/\ev aq x.i=some ac):=by
 intro l
 induction l with
 |nil=>intro _ x a;simp at a
 |cons H l ai=>
  intro a x ae
  simp only[En]at a
  split at a
  ·simp at a
  ·rename_i bs
   rcases Zt.1 ae with rfl|ae
   ·exact⟨false,bs,Zs⟩
   ·exact ai a x ae
  ·rename_i bs
   split at a
   ·rename_i ac rZ M R
    simp only[Zp]at a
    have:=Q8 _ _ _ a.1
    subst this
    rcases Zt.1 ae with rfl|ae
    ·exact⟨true,bs,λ_=>⟨ac,M,R⟩⟩
    ·exact ai a.2 x ae
   ·simp at a
def aDa{fE:List qq}{z:Nat}{aC:List (gI×fz)}:∃s rest,A1 fE z aC=s::rest/\s.vc=uC z fE/\s.Xe=Gi z fE/\
 (match aC with|[]=>s.fw=none/\rest=[]|e::hK=>s.fw=some e.2/\rest=A1 fE (z+1) hK):=by
 cases aC with
 |nil=>exact⟨_,_,rfl,rfl,rfl,rfl,rfl⟩
 |cons e aC=>exact⟨_,_,rfl,rfl,rfl,rfl,rfl⟩
def BP{z:Nat}:∀{fE:List qq}{x:fz},x∈uC z fE↔∃l∈fE,l.bL=z/\l.x=x:=by
 intro fE
 induction fE with
 |nil=>intro x;simp[uC]
 |cons H fE ai=>
  intro x
  simp only[uC,h4]
  by_cases a:H.bL=z
  ·simp only[a,ZE,Zt,ai]
   constructor
   ·rintro(rfl|⟨l,M,R,ak⟩)
    ·exact⟨H, .inl rfl,a,rfl⟩
    ·exact⟨l, .inr M,R,ak⟩
   ·rintro⟨l,rfl|M,R,ak⟩
    ·exact .inl ak.symm
    ·exact .inr ⟨l,M,R,ak⟩
  ·simp only[a,ZD,ai]
   constructor
   ·rintro⟨l,M,R,ak⟩;exact⟨l, .tail _ M,R,ak⟩
   ·rintro⟨l,M,R,ak⟩
    rcases Zt.1 M with rfl|M
    ·exact absurd R a
    ·exact⟨l,M,R,ak⟩
def aBr{z:Nat}:∀{fE:List qq}{l:qq},l∈fE->l.bL<z->z<=l.aG->Dt l.x.op=true->l.x∈Gi z fE:=by
 intro fE
 induction fE with
 |nil=>intro l a;simp at a
 |cons H fE ai=>
  intro l aC M R ak
  simp only[Gi,fN]
  rcases Zt.1 aC with rfl|aC
  ·rw[Zr]
   ·exact Zv ..
   ·have bz:Nat.blt l.bL z=true:=by simp[Nat.blt];omega
    have cF:Nat.ble z l.aG=true:=by simpa using R
    simp[bz,cF,ak]
  ·split
   ·exact Zw _ (ai aC M R ak)
   ·exact ai aC M R ak
def apO{z:Nat}:∀{fE:List qq},(fE.Pairwise λH b=>H.x.i<b.x.i)->(uC z fE).Pairwise λH b=>H.i≠b.i:=by
 intro fE
 induction fE with
 |nil=>intro _;simp[uC]
 |cons H fE ai=>
  intro a
  rw[List.pairwise_cons]at a
  simp only[uC,h4]
  split
  ·rw[List.pairwise_cons]
   refine⟨λx ae=> ?_,ai a.2⟩
   obtain⟨l,M,_,rfl⟩:=BP.1 ae
   have:=a.1 l M;omega
  ·exact ai a.2
def aye(op:ke):oA op=true/\np op= .fw\/oA op=false/\(np op= .ix\/np op= .make):=by
 unfold oA
 cases np op<;>simp
def azs(cM:Env C bl dY ed)(gM:oc C bl bF bT ai){z:List d1}{base ej:Nat}{aq:List (Nat×D)}(ws:bL<=base)(fP:base+ar.size<=j)(he:C.a2<=base){s:xo}{rest:List xo}
 (dd:match (gZ C n ao ar).drop ej with|[]=>s.fw=none|e::hK=>s.fw=some e.2/\rest=A1 (mq C n ao ar) (ej+1) hK)
 (a:(match s.fw with
    |none=>KK (lG ao ar.toList 0) aq I λI=>ai .run z ⟨fn,n,ao,bh,ay,ro,cs⟩ I h j
    |some a=>(match ps a.g aq with
     |none=>none
     |some w=>bW (w) ((match ie a.op C h j aq I with
       |some r=>oY r ai C (.Bn ar base aq a.i rest (lG ao ar.toList 0)) z ⟨fn,n,ao,bh,ay,ro,cs⟩ I h j
       |none=>none))<|ai .run (.drawn ar base ((a.i,undef)::aq) rest (lG ao ar.toList 0)::z) ⟨fn,n,ao,bh,ay,ro,cs⟩ I h j))=some v):
 ∀(l:List Nat) (T:db) (ad:Nat->Prop) (w:World) (tmps:Array Value) (dm:Nat->Prop),jz C bl bF bT fn ao bh ay ro cs h j T ad w bL am->mg C T ad ao z bw->sb C T ad h base n ao ar aq ej (ej+1) I tmps dm->xm ar dm l->
  (∀l∈mq C n ao ar,l.bL<ej+1->¬dm l.x.i->∃ac,ev aq l.x.i=some ac/\JY C h aq I l.x ac)->Ends C bl bF bT v (lone (cr T fn bh ay ro tmps (.inRegion ar l::bw) .run) am w):=by
 intro l
 induction l with
 |nil=>
  intro T ad w tmps dm az aJ aF aD Vr
  cases aD with
  |nil k0=>
   have Pf:(gZ C n ao ar).drop ej=[]:=by
    cases b0:(gZ C n ao ar).drop ej with
    |nil=>rfl
    |cons e hK=>
     exfalso
     have B:(gZ C n ao ar)[ej]? =some e:=by
      have:((gZ C n ao ar).drop ej)[0]? =some e:=by rw[b0];rfl
      rwa[YH]at this
     have bU:=k0 e.1.i (ara aF.st (Zl B)).1
     have:=(aF.done ej e B).1 bU
     omega
   rw[Pf]at dd
   simp only at dd
   rw[dd]at a
   simp only[Ot,pm]at a
   split at a
   ·rename_i c4 dA
    refine .head ajB ?_
    have bB:pB T ad ao (λ_=>True) (iJ ar ar.size) aq I tmps:=by
     obtain⟨_,fk,f3⟩:=No ar ar.size (Zj _)
     intro t ac _ bg
     apply aF.Em t ac
     split at bg
     ·rename_i S bE
      obtain⟨bI,bN,cH⟩:=fk t S bE
      left
      refine⟨S,k0 S bI,bN,λpZ Lu tK=> ?_,bg⟩
      rcases zf S pZ with cZ|Cq
      ·exact absurd tK (cH pZ cZ (aF.yh pZ Lu))
      ·exact Cq
     ·rename_i bE
      exact .inr ⟨λS Lu=>f3 t bE S (aF.yh S Lu),bg⟩
    exact gM _ _ _ _ _ _ _ _ _ _ _ _ v a T ad w bL tmps bw am (az.state (.plain aJ (adT bB aF.size dA)))
   ·simp at a
 |cons i l mT=>
  intro T ad w tmps dm az aJ aF aD Vr
  cases aD with
  |cons bf rC mw tY=>
   rename_i W
   have aG:i<ar.size:=(ZM.1 bf).1
   obtain⟨p,x,o',f5,fK,z3,z4,z5,s6⟩:=Ac aF.st i aG
   have av5:o'=W:=by
    have:=z5.oper
    rw[z4,bf]at this
    exact(Ys this).symm
   subst av5
   have P1:=arb aF.st aF.closed aF.yh aF.Em fK bf rC mw
   have PA:=Kw aF.closed (Qu fK) (by rw[z3];exact bf) mw
   have ax:=z5
   have b2:=ax.g
   have E7:=ax.op
   have cB:=ax.reads
   rw[z4]at b2 E7 cB
   have AB:∀kU,Sub kU aq->jP T ad (lv tmps) (jE (iJ ar i) kU I) o'.op.operands.toList:=by
    intro kU AL
    refine adH (X:=λt=>fG p.r t=true) (λt ac bV bg=>P1 t ac bV ?_) (λt be=>aA8 s6 be) cB az.gv
    split at bg
    ·exact AL _ _ bg
    ·exact bg
   have UY:∀S b t,o'.guard=some (S,b)->xH S (iJ ar i)=some t->fG p.r t=true:=by
    intro S b t M R
    rw[s6.r,Hn,z3]
    have:fG (OK (iJ ar i) o'.guard) t=true:=by
     rw[M]
     simp only[OK,R]
     rw[NT];simp
    rw[this];simp
   have kE:∀(de:db) (ac:Value),(cr de fn bh ay ro tmps (.inRegion ar (i::l)::bw) .run).finish ac=cr de fn bh ay ro (qX tmps o'.dst ac) (.inRegion ar l::bw) .run:=by
    intro de ac
    rw[Ov (g:=cr de fn bh ay ro tmps _ .run) rfl bf];rfl
   rcases aye x.op with ⟨gx,pS⟩|⟨gx,pS⟩
   ·
    have sC:(p,x)∈gZ C n ao ar:=by rw[N7];exact YM.2 ⟨Zl f5,gx⟩
    obtain⟨aj,b0⟩:=ZZ.1 sC
    have awk:aj=ej:=by
     rcases YV aj ej with cZ|E|hk
     ·exact absurd ((aF.done aj _ b0).2 cZ) (by simpa only[z3]using rC)
     ·exact E
     ·exfalso
      have fg:aj-1<(gZ C n ao ar).length:=zs (Zc.1 b0).1
      have agA:(gZ C n ao ar)[aj-1]? =some ((gZ C n ao ar)[aj-1]):=Ze fg
      have Pa:=aF.st.chain
      rw[Oz]at Pa
      have ag:=au0 Pa (aj-1) ((gZ C n ao ar)[aj-1]).1 p (by rw[Zu,agA];rfl) (by rw[show aj-1+1=aj by omega,Zu,b0];rfl)
      have bU:=PA _ ag
      have:=(aF.done (aj-1) _ agA).1 bU
      omega
    subst awk
    have Pf:(gZ C n ao ar).drop aj=(p,x)::(gZ C n ao ar).drop (aj+1):=by
     have cZ:=(Zc.1 b0).1
     rw[Zq cZ,(Zc.1 b0).2]
    rw[Pf]at dd
    simp only at dd
    obtain⟨ll,oy⟩:=dd
    rw[ll]at a
    simp only at a
    have B:ar[((p,x):gI×fz).1.i]? =some o':=by simp only[z3];exact bf
    split at a
    ·simp at a
    ·rename_i XZ j6
     have t6:=Ry (zm aG) b2 P1 UY (Sub.refl aq) j6
     have agd:¬dm ((p,x):gI×fz).1.i:=by simpa only[z3]using rC
     have axi:x.i=((p,x):gI×fz).1.i:=by simp only[z3,z4]
     cases XZ with
     |false=>
      simp only[lD]at a
      refine .head (XF bf t6) ?_
      rw[kE]
      rw[axi,oy]at a
      have:=aF.fw b0 B agd mw (v:=undef) trivial ax.dst
      exact gM _ _ _ _ _ _ _ _ _ _ _ _ v a T ad w bL _ _ am (az.state (.drawn aJ ws fP this (by simp only[z3];exact tY)))
     |true=>
      simp only[fo]at a
      split at a
      ·rename_i r Y
       have mN:=afr az.Y az.ey cM.kN (AB aq (Sub.refl aq)) E7 Y
       have LW:m9 C T ad h bL j n ao I tmps (.Bn ar base aq x.i rest (lG ao ar.toList 0)::z) (.inRegion ar (i::l)::bw):=by
        have agS:=m9.drawn (bL:=bL) (aG:=j) (l:=l) aJ ws fP aF b0 B agd mw (by simp only[z3];exact tY)
        simp only[z3]at agS
        rw[oy,z4]
        exact agS
       exact acn cM gM az LW az.ku (Zj _) bf t6 mN a
      ·simp at a
   ·
    have avK:=Zl f5
    have gS:(⟨x,vO p.m (rm (gZ C n ao ar)),Cr p.i (rm (gZ C n ao ar))⟩:qq)∈mq C n ao ar:=by
     rw[N9];exact ZI.2 ⟨(p,x),YM.2 ⟨avK,by simp[gx]⟩,rfl⟩
    have ow:vO p.m (rm (gZ C n ao ar))<ej+1:=by
     have:=aqS p.m (rm (gZ C n ao ar)) ej (λaj e b0 gn=>by
      rw[Oz,Zu]at b0
      cases ch:(gZ C n ao ar)[aj]? with
      |none=>rw[ch]at b0;cases b0
      |some bm=>
       rw[ch]at b0;cases b0
       cases ag:fG p.m bm.1.i with
       |false=>rfl
       |true=>have:=(aF.done aj bm ch).1 (PA _ ag);omega)
     omega
    have Io:¬dm x.i:=by rw[z4];exact rC
    obtain⟨ac,ID,VW⟩:=aF.ahead _ gS ow
    obtain⟨wr,kU,b,ae5,t7,is,ng⟩:=VW Io
    have t6:=Ry (zm aG) b2 P1 UY ae5 t7
    have Vz:ar[x.i]? =some o':=by rw[z4];exact bf
    have Vs:∀RY:Nat->Prop,(∀S,dm S->RY S)->∀l∈mq C n ao ar,l.bL<ej+1->¬RY l.x.i->∃ac,ev aq l.x.i=some ac/\JY C h aq I l.x ac:=λRY EG ce M R ak=>Vr ce M R (λaj=>ak (EG _ aj))
    have Cm:add dm x.i=add dm i:=by rw[z4]
    cases b with
    |false=>
     have:ac=undef:=is rfl
     subst this
     refine .head (XF bf t6) ?_
     rw[kE]
     have kn:=aF.ix (de:=T) (dG:=ad) gS ow Vz Io mw ID (λ_ _=>rfl) (λ_ a=>a) (λ_ a=> .inl a) (by trivial) ax.dst
     simp only[Cm]at kn
     exact mT T ad w _ _ az aJ kn tY (Vs _ λ_ a=> .inl a)
    |true=>
     obtain⟨_,LD,_⟩:=ng rfl
     rcases pS with pS|pS
     ·obtain⟨rZ,sK,ao4,yX,uE,aO,aZ,bi,cK⟩:=Vr _ gS ow Io
      simp only at sK bi cK
      rw[ID]at sK;cases sK
      have axc:=Ry (zm aG) b2 P1 UY aO bi
      have fP:uE=true:=by rw[<-axc,t6]
      have sB:=cK fP pS
      have CC:dn C T ad yX j bl.heap.size w:=az.Y.adO aZ
      obtain⟨bb,b5⟩:=ahS CC (AB ao4 aO) E7 sB
      refine .head (Gs bf t6 bb (.inl rfl)) ?_
      rw[kE]
      have kn:=aF.ix (de:=T) (dG:=ad) gS ow Vz Io mw ID (λ_ _=>rfl) (λ_ a=>a) (λ_ a=> .inl a) b5 ax.dst
      simp only[Cm]at kn
      exact mT T ad w _ _ az aJ kn tY (Vs _ λ_ a=> .inl a)
     ·obtain⟨cU,bp,h7⟩:=LD pS
      simp only at bp h7
      have pd:¬ad (base+x.i):=λaj=>Io (aF.ids x.i (by rw[z4];exact aG) aj)
      obtain⟨pk,fu,gj,mW⟩:=ah5 (w:=w) (T:=T) pd (AB kU ae5) (Qs E7 bp)
      have cZ:base+x.i<j:=by rw[z4];omega
      have nf:=az.Y.alloc (an:=j) (S':=h) (b:=base+x.i) Zo cZ (Zj _) pd az.ey rfl h7 (λ_ _=> .inl rfl) mW (ah6 (Qs E7 bp))
      have ae:iW C bL T ad h bl.heap.size w (gP T (base+x.i) ⟨w.heap.size,0,0⟩) (add ad (base+x.i)) h (w.alloc pk):=
       ⟨r0 pd,λ_ a=> .inl a,λe a=>a.elim .inl (λa=> .inr Zo),λ_ _ _=>rfl,Below.alloc (Below.refl _ _) az.ey _⟩
      refine .head (Gs bf t6 fu (.inl rfl)) ?_
      rw[kE, <-I2 ae.jg az.ig]
      have kn:=aF.ix (de:=gP T (base+x.i) ⟨w.heap.size,0,0⟩) (dG:=add ad (base+x.i)) gS ow Vz Io mw ID ae.jg ae.j2 (λ_ a=>a) gj ax.dst
      simp only[Cm]at kn
      exact mT _ _ _ _ _ (az.ext nf ae (Zj _)) (aJ.aa ae.jg ae.j2) kn tY (Vs _ λ_ a=> .inl a)
end
section
variable{C:aK}{T de dY:db}{ad dG ed:Nat->Prop}{h S':Q af}{j an bo:Nat}{w b1:World}{n ao:Nat}{ar:Array Oper}
variable{bl:World}{bF:Nat}{bT:List Frame}{v:D}{ai:hP}
variable{fn:Nat}{bh:List h3}{ay:Bool}{ro:Option Nat}{cs:List g4}{I:Q D}{tmps:Array Value}{bw:List Item}{am:List Frame}{bL aG:Nat}
def dn.more(Y:dn C T ad h j bo w)(aE:j<=an)(iN:∀b,ad b->U C S' b=U C h b)(cZ:∀b W,U C S' b=some W->b<an):dn C T ad S' an bo w:=by
 refine⟨ZB Y.a2 aE,λb a=>ZN (Y.lt b a) aE,cZ,λb W a d=>Y.obj b W (by rw[<-iN b d];exact a) d,λb dM W o' a cz d l3=>Y.sep b dM W o' (by rw[<-iN b d];exact a) (by rw[<-iN dM l3];exact cz) d l3,λb W ag a d=>Y.base b W ag (by rw[<-iN b d];exact a) d,λb W a d=>Y.fp b W (by rw[<-iN b d];exact a) d⟩
def ahT(dd:qo C n ao ar){l ce:qq}(aC:l∈mq C n ao ar)(hK:ce∈mq C n ao ar)(a:l.x.i=ce.x.i):l=ce:=by
 obtain⟨H,az⟩:=ZZ.1 aC
 obtain⟨b,ag⟩:=ZZ.1 hK
 obtain⟨Ld,oo⟩:=Zc.1 az
 obtain⟨ng,l4⟩:=Zc.1 ag
 have aw:=Td dd
 rw[YR]at aw
 rcases YV H b with cZ|E|hk
 ·have:=aw H b Ld ng cZ
  rw[oo,l4]at this;omega
 ·subst E;rw[<-oo,l4]
 ·have:=aw b H ng Ld hk
  rw[oo,l4]at this;omega
def ado(cM:Env C bl dY ed)(gM:oc C bl bF bT ai){z:List d1}{base ej:Nat}{aq:List (Nat×D)}{dm:Nat->Prop}{l:List Nat}(az:jz C bl bF bT fn ao bh ay ro cs h j T ad w bL am)
 (aJ:mg C T ad ao z bw)(ws:bL<=base)(fP:base+ar.size<=j)(he:C.a2<=base)(aF:sb C T ad h base n ao ar aq ej ej I tmps dm)(aD:xm ar dm l)
 (a:Ae ai C ar base aq (A1 (mq C n ao ar) ej ((gZ C n ao ar).drop ej)) (lG ao ar.toList 0) z ⟨fn,n,ao,bh,ay,ro,cs⟩ I h j=some v):Ends C bl bF bT v (lone (cr T fn bh ay ro tmps (.inRegion ar l::bw) .run) am w):=by
 obtain⟨s,rest,bz,cF,f0,kj⟩:=aDa (fE:=mq C n ao ar) (z:=ej) (aC:=(gZ C n ao ar).drop ej)
 rw[bz]at a
 simp only[Ae]at a
 split at a
 ·simp at a
 ·rename_i hQ S' gS
  simp only[e7]at a
  obtain⟨PP,a⟩:=a
  rw[cF]at gS
  rw[f0]at PP
  have UW:∀x∈uC ej (mq C n ao ar),ev aq x.i=none/\U C h (base+x.i)=none/\oA x.op=false:=by
   intro x ae
   obtain⟨eo,M,R,rfl⟩:=BP.1 ae
   have bB:ev aq eo.x.i=none:=by
    cases bB:ev aq eo.x.i with
    |none=>rfl
    |some ac=>
     exfalso
     rcases aF.keys _ ac bB with ⟨cR,bI,bN,cH⟩|⟨p,e,bI,bN,_⟩
     ·have:=ahT aF.st bI M bN
      subst this;omega
     ·exact Qp aF.st M bI bN.symm
   obtain⟨_,_,cH,_⟩:=Ob M
   exact⟨bB,aF.free _ (Oa aF.st M) bB,cH⟩
  obtain⟨bQ,ct,c1,dJ,d7⟩:=aq7 he _ _ _ _ _ (apO (Td aF.st)) UW gS
  have VO:∀b,ad b->U C S' b=U C h b:=by
   intro b ag
   by_cases aj:U C S' b=U C h b
   ·exact aj
   ·obtain⟨x,ae,E⟩:=dJ b aj
    obtain⟨eo,M,R,rfl⟩:=BP.1 ae
    have bU:=aF.ids _ (Oa aF.st M) (E▸ag)
    have:=aF.vc eo M bU
    omega
  have mR:dn C T ad S' j bl.heap.size w:=az.Y.more (Zj _) VO (λb W ag=>by
   by_cases aj:U C S' b=U C h b
   ·exact az.Y.wQ b W (by rw[<-aj];exact ag)
   ·obtain⟨x,ae,E⟩:=dJ b aj
    obtain⟨eo,M,R,rfl⟩:=BP.1 ae
    have:=Oa aF.st M
    omega)
  have ae:iW C bL T ad h bl.heap.size w T ad S' w:=⟨λ_ _=>rfl,λ_ a=>a,λ_ a=> .inl a,λb _ cZ=>by
   by_cases aj:U C S' b=U C h b
   ·exact aj
   ·obtain⟨x,ae,E⟩:=dJ b aj
    omega,Below.refl _ _⟩
  have Aw:=az.ext mR ae (Zj _)
  have tK:sb C T ad S' base n ao ar hQ ej (ej+1) I tmps dm:=by
   refine⟨aF.st,aF.size,aF.Qk,aF.dW,aF.closed,aF.yh,aF.done,λeo M R=>Nat.lt_succ_of_lt (aF.vc eo M R), ?_, ?_, ?_, ?_,aF.ids, ?_⟩
   ·intro i ac bg
    rcases c1 i (by rw[bg];simp)with M|⟨x,M,R⟩
    ·cases bB:ev aq i with
     |none=>exact absurd bB M
     |some rZ=>
      rcases aF.keys i rZ bB with ⟨eo,bI,bN,cH⟩|g
      ·exact .inl ⟨eo,bI,bN,Zo⟩
      ·exact .inr g
    ·obtain⟨eo,bI,bN,rfl⟩:=BP.1 M
     exact .inl ⟨eo,bI,R,Zo⟩
   ·intro p e B aw
    obtain⟨ac,bg⟩:=aF.wr p e B aw
    exact⟨ac,bQ _ _ bg⟩
   ·intro eo M R
    by_cases aj:eo.bL=ej
    ·obtain⟨ac,bI,bN⟩:=d7 eo.x (BP.2 ⟨eo,M,aj,rfl⟩)
     exact⟨ac,(bI ad).key,λ_=>bI ad⟩
    ·obtain⟨ac,bI,bN⟩:=aF.ahead eo M Zo
     refine⟨ac,bQ _ _ bI,λbU=> ?_⟩
     obtain⟨_,kU,b,dg,fT,dZ,d8⟩:=bN bU
     refine⟨bQ _ _ bI,kU,b,dg.trans bQ,fT,dZ,λag=> ?_⟩
     obtain⟨fH,lH,asH⟩:=d8 ag
     refine⟨fH,λbp=> ?_,asH⟩
     obtain⟨cU,TH,TI⟩:=lH bp
     refine⟨cU,TH, ?_⟩
     by_cases cA:U C S' (base+eo.x.i)=U C h (base+eo.x.i)
     ·rw[cA];exact TI
     ·obtain⟨x,ae,E⟩:=dJ _ cA
      obtain⟨cR,fu,gj,rfl⟩:=BP.1 ae
      have:=ahT aF.st M fu Zo
      subst this;omega
   ·intro t ac bg
    apply aF.Em t ac
    rcases bg with ⟨S,bU,tM,x9,bg⟩|bg
    ·left
     refine⟨S,bU,tM,x9, ?_⟩
     have wr:∃rZ,ev aq S=some rZ:=by
      rcases adn aF.st S (aF.yh S bU)with ⟨eo,bI,bN⟩|⟨p,e,bI,bN⟩
      ·obtain⟨rZ,cH,_⟩:=aF.ahead eo bI (aF.vc eo bI (by rw[bN];exact bU))
       exact⟨rZ,by rw[<-bN];exact cH⟩
      ·obtain⟨rZ,cH⟩:=aF.wr p e bI ((aF.done p e bI).1 (by rw[bN];exact bU))
       exact⟨rZ,by rw[<-bN];exact cH⟩
     obtain⟨rZ,sK⟩:=wr
     have:=bQ _ _ sK
     rw[bg]at this
     cases this
     exact sK
    ·exact .inr bg
   ·intro i aG bB
    have aw2:ev aq i=none:=by
     cases b0:ev aq i with
     |none=>rfl
     |some ac=>rw[bQ _ _ b0]at bB;cases bB
    by_cases aj:U C S' (base+i)=U C h (base+i)
    ·rw[aj];exact aF.free i aG aw2
    ·obtain⟨x,ae,E⟩:=dJ _ aj
     obtain⟨ac,bI,_⟩:=d7 x ae
     have:x.i=i:=Zo
     rw[<-this,(bI ad).key]at bB
     cases bB
  refine azs cM gM ws fP he (s:=s) (rest:=rest) ?_ a l T ad w tmps dm Aw aJ tK aD ?_
  ·cases b0:(gZ C n ao ar).drop ej with
   |nil=>rw[b0]at kj;exact kj.1
   |cons e hK=>rw[b0]at kj;exact kj
  ·intro eo M R bU
   by_cases aj:eo.bL=ej
   ·obtain⟨ac,bI,bN⟩:=d7 eo.x (BP.2 ⟨eo,M,aj,rfl⟩)
    exact⟨ac,(bI ad).key,bN⟩
   ·obtain⟨ac,bI,bN⟩:=aF.ahead eo M Zo
    refine⟨ac,bQ _ _ bI, ?_⟩
    obtain⟨_,kU,b,dg,fT,dZ,d8⟩:=bN bU
    by_cases IA:Dt eo.x.op=true
    ·have tR:ej<=eo.aG:=by
      obtain⟨p,fu,gj,mW,WK⟩:=Ob M
      obtain⟨_,f5,fK,z3,z4,z5⟩:=Ad aF.st fu
      rw[WK]
      refine avn _ _ _ (by rw[Oz,Zi];exact aF.Qk) λaj e B cZ=> ?_
      rw[Oz,Zu]at B
      cases ch:(gZ C n ao ar)[aj]? with
      |none=>rw[ch]at B;cases B
      |some bm=>
       rw[ch]at B;cases B
       cases ag:fG bm.1.m p.i with
       |false=>rfl
       |true=>
        exfalso
        have at3:=(aF.done aj bm ch).2 cZ
        obtain⟨aGH,RD,RE,aHh,aEs,aHi,X2⟩:=Ad aF.st (N8 (Zl ch)).1
        have:=Kw aF.closed (Zl aEs) X2.oper (aF.closed _ _ X2.oper at3) _ ag
        simp only at fK
        rw[<-fK]at this
        exact bU this
     obtain⟨dM,fd,fX⟩:=aq8 _ PP eo.x (aBr M Zo tR IA)
     refine⟨hQ,S',dM,Sub.refl _,qp.refl _,fd,λag _=> ?_⟩
     obtain⟨rZ,hZ,po⟩:=fX ag
     rw[bQ _ _ bI]at po
     cases po
     exact hZ
    ·have IA:Dt eo.x.op=false:=by simpa using IA
     refine⟨kU, .nil,b,dg.trans bQ,ahQ _,fT,λag pS=> ?_⟩
     exact(d8 ag).2.2 pS IA .nil
def ar6{z:List d1}(id:Nat)(a:mg C T ad ao z bw){eY:List d1}(bC:exitTo id z=some eY):∃im,Go.exitTo id bw=some im/\mg C T ad ao eY im:=by
 induction a with
 |nil=>simp[exitTo]at bC
 |cons M R ai=>
  cases M<;>simp only[exitTo]at bC
  case inBlock u6=>
   rw[h4]at bC
   split at bC
   ·rename_i E
    simp at bC;subst bC
    exact⟨_,by simp[Go.exitTo,E],R⟩
   ·rename_i E
    obtain⟨im,bI,bN⟩:=ai bC
    have:(u6==id)=false:=by simpa using E
    exact⟨im,by simp[Go.exitTo,this,bI],bN⟩
  all_goals
   obtain⟨im,bI,bN⟩:=ai bC
   exact⟨im,by simp[Go.exitTo,bI],bN⟩
def adJ(gv:th C T ad){n:Nat}(be:jQ T ad n ao I tmps){x:Operand}{ac:D}(fs:A5 C ao [] x=true)(a:xL I x=some ac):lv tmps x=aQ T ac/\cm ad ac:=by
 cases x with
 |tmp t=>
  simp only[A5,apM]at fs
  obtain⟨M,R⟩:=be.val t ac fs a
  exact⟨by simp[lv,M],R⟩
 |const c=>exact QF a
 |global g=>
  simp[xL]at a;subst a
  simp only[A5]at fs
  obtain⟨bI,bN,cH⟩:=gv g (l1 fs)
  exact⟨by simp[lv,aQ,bN,cH],bI⟩
 |func f=>
  simp[xL]at a;subst a
  exact⟨by simp[lv,aQ,nK,b4],trivial,trivial,trivial⟩
def pB.start{n:Nat}(be:jQ T ad n ao I tmps):pB T ad ao (λ_=>True) (iJ ar 0) [] I tmps:=by
 intro t ac _ a
 rw[Nn]at a
 exact be.val t ac a.1 a.2
def aBy(cM:Env C bl dY ed)(gM:oc C bl bF bT ai){z:List d1}{id:Nat}{B0:Bool}(az:jz C bl bF bT fn ao bh ay ro cs h j T ad w bL am)(aJ:mg C T ad ao z bw)(be:jQ T ad n ao I tmps)
 (a:ajf ar B0 ai C z ⟨fn,n,ao,bh,ay,ro,cs⟩ I h j=some v):Ends C bl bF bT v (lone (cr T fn bh ay ro tmps (.code (.region id ar B0)::bw) .run) am w):=by
 cases B0 with
 |false=>
  have cz:Xh n ao ar ai C z ⟨fn,n,ao,bh,ay,ro,cs⟩ I h j=some v:=a
  simp only[Xh,pm]at cz
  split at cz
  ·rename_i r Y
   obtain⟨rest,fin⟩:=r
   have OM:Bd rest ⟨ai,ar,fin,z,⟨fn,n,ao,bh,ay,ro,cs⟩⟩ C I [] h j=some v:=cz
   unfold Mx at Y
   split at Y
   ·rename_i dc it
    simp at Y
    obtain⟨rfl,rfl⟩:=Y
    refine .head aC0 ?_
    refine ajq cM gM dc [] h j T ad w tmps _ am az aJ ⟨0,YK _, ?_,it,rfl,pB.start be,be.size⟩ OM
    rw[List.range_eq_range'];rfl
   ·simp at Y
  ·simp at cz
 |true=>
  have cz:Xg n ao ar ai C z ⟨fn,n,ao,bh,ay,ro,cs⟩ I h j=some v:=a
  simp only[Xg,pm]at cz
  split at cz
  ·rename_i r Y
   obtain⟨lS,fin⟩:=r
   have OM:rl j (λj=>Ae ai C ar j [] lS fin z ⟨fn,n,ao,bh,ay,ro,cs⟩ I h (j+ar.size))=some v:=cz
   rw[mM]at OM
   unfold Mw at Y
   split at Y
   ·simp at Y
   ·rename_i dc it
    simp only[e7,Zp,Zf]at Y
    obtain⟨⟨⟨bI,bN⟩,cH⟩,dg⟩:=Y
    have iE:xF C n ao ar=dc:=by unfold xF;rw[it];rfl
    have dd:qo C n ao ar:=⟨by rw[iE];exact it,bI,bN,by unfold gZ;rw[iE];exact cH⟩
    have awQ:lS=A1 (mq C n ao ar) 0 ((gZ C n ao ar).drop 0)/\fin=lG ao ar.toList 0:=by
     have E:=dg
     cases E
     refine⟨?_,rfl⟩
     rw[Yb]
     unfold mq gZ
     rw[iE];rfl
    obtain⟨rfl,rfl⟩:=awQ
    refine .head aC1 ?_
    rw[cM.kN.mixed]
    have ae:iW C bL T ad h bl.heap.size w T ad h w.drew:=⟨λ_ _=>rfl,λ_ a=>a,λ_ a=> .inl a,λ_ _ _=>rfl,Below.drew (Below.refl _ _)⟩
    have mR:dn C T ad h (j+ar.size) bl.heap.size w.drew:=az.Y.drew.more (zg _ _) (λ_ _=>rfl) (λb W ag=>ZN (az.Y.wQ b W ag) (zg _ _))
    refine ado cM gM (dm:=λ_=>False) (az.ext mR ae (zg _ _)) aJ az.ku (Zj _) az.Y.a2 ?_ (aCa bI _) OM
    refine⟨dd,be.size,YK _,az.Y.a2,λ_ _ _ a=>a.elim,λ_ a=>a.elim,λp e _=>⟨λa=>a.elim,λa=>Zo⟩,λ_ _ a=>a.elim,λi ac bg=>by simp at bg,λp e _ a=>Zo,λeo _ a=>Zo, ?_, ?_, ?_⟩
    ·intro t ac bg
     rcases bg with ⟨S,a,_⟩|⟨_,M,R⟩
     ·exact a.elim
     ·exact be.val t ac M R
    ·intro i _ aF
     have:=az.Y.lt _ aF;omega
    ·intro i _ _
     cases b0:U C h (j+i)with
     |none=>rfl
     |some W=>have:=az.Y.wQ _ W b0;omega
  ·simp at cz
end
section
variable{C:aK}{T de dY:db}{ad dG ed:Nat->Prop}{h S':Q af}{j an bo:Nat}{w b1:World}{n ao:Nat}{ar:Array Oper}
variable{bl:World}{bF:Nat}{bT:List Frame}{v:D}{ai:hP}
variable{fn:Nat}{bh:List h3}{ay:Bool}{ro:Option Nat}{cs:List g4}{I:Q D}{tmps:Array Value}{bw:List Item}{am:List Frame}{bL aG:Nat}
def ar5{z:List d1}(id:Nat)(a:mg C T ad ao z bw)(bC:exitTo id z=none):Go.exitTo id bw=none:=by
 induction a with
 |nil=>rfl
 |cons M R ai=>
  cases M<;>simp only[exitTo]at bC
  case inBlock u6=>
   rw[h4]at bC
   split at bC
   ·simp at bC
   ·rename_i E
    have:(u6==id)=false:=by simpa using E
    simp[Go.exitTo,this,ai bC]
  all_goals simp[Go.exitTo,ai bC]
def WH(az:jz C bl bF bT fn ao bh ay ro cs h j T ad w bL am){b:Nat}{st jx:LoopState}{rQ Dp:Option Code}{hd aN ln:Nat}{c4:Q D}{params:List Nat}{assign body:Code}{gJ:Nat}
 (aE:C.a2<=b)(aF:ad b)(h7:U C h b=some (.loop st rQ hd aN ln c4 params assign body gJ))(aw:∀c,Dp=some c->IP c):
 ∃h1,w.heap[(T b).cL]? =some (.loop ⟨st,rQ,hd,h1,params.toArray,assign,body,(T gJ).cL⟩)/\RZ C hd ln/\(∀c,rQ=some c->IP c)/\
  jz C bl bF bT fn ao bh ay ro cs (bj C h b (some (.loop jx Dp hd aN ln c4 params assign body gJ))) j T ad (w.putObj (T b).cL (.loop ⟨jx,Dp,hd,h1,params.toArray,assign,body,(T gJ).cL⟩)) bL am:=by
 obtain⟨h1,g9,nt,sZ,I9,Dd,uf,De⟩:=az.Y.obj b _ h7 aF
 obtain⟨b1,bQ,ct,c1⟩:=putObj az.Y (dh:=bL) (o':= .loop ⟨jx,Dp,hd,h1,params.toArray,assign,body,(T gJ).cL⟩) (pk:= .loop jx Dp hd aN ln c4 params assign body gJ) aE aF h7 ⟨Zs,Zs⟩ g9 Zs
  (λb1 t2=>⟨h1,t2,nt,sZ,I9,Dd,aw,De⟩) ⟨λ_ _ _ a=>(by cases a),λ_ _ _ a=>(by cases a)⟩
 rw[run_setObj_loop _ g9]at bQ
 simp only[Result.ok.injEq]at bQ
 obtain⟨_,rfl⟩:=bQ
 exact⟨h1,g9,De,uf,az.ext ct c1 (Zj _)⟩
def acD(gM:oc C bl bF bT ai){ac:D}{dw:Machine}(az:jz C bl bF bT fn ao bh false ro cs h j T ad w bL am)(dQ:cs≠[])(Cd:cm ad ac)
 (qM:∀g jH,am=g::jH->step C.P dw= .next (lone (g.finish (aQ T ac)) jH w))(a:uD ai false cs ac h j=some v):Ends C bl bF bT v dw:=by
 cases cs with
 |nil=>exact absurd rfl dQ
 |cons c rest=>
  obtain⟨hd,aN,ln,c4,w4,gJ,nr,jS,lP⟩:=c
  obtain⟨sQ,h1,im,jH,rfl,bQ,ct,c1,dJ,d7,c3⟩:=az.cs.inv
  refine .head (qM _ _ rfl) ?_
  cases nr with
  |run=>
   have cz:Xl ai w4 ⟨hd,aN,ln,gJ,jS,lP,rest⟩ ac c4 h j=some v:=a
   cases w4 with
   |nil=>simp[Xl]at cz
   |cons eP z=>exact HM gM ⟨az.Y,az.lB,az.gv,ZB d7 az.ku,c1,dJ,c3⟩ bQ az.ku Cd cz
  |returning=>simp[uD]at a
  |panicking fC=>simp[uD]at a
def Wx(gM:oc C bl bF bT ai){todo:List d1}{jd:Option Code}(bE:(jd=none/\bw=[])\/(jd=some .ret/\∃z,bw= .code .ret::z)\/(∃id z,jd=some (.exit id)/\bw= .code (.exit id)::z/\Go.exitTo id z=none))
 (az:jz C bl bF bT fn ao bh ay ro cs h j T ad w bL am)(be:jQ T ad n ao I tmps)
 (a:pj jd ai C todo ⟨fn,n,ao,bh,ay,ro,cs⟩ I h j=some v):Ends C bl bF bT v (lone (cr T fn bh ay ro tmps bw .run) am w):=by
 unfold pj at a
 cases ro with
 |some l=>
  simp only at a
  split at a
  ·rename_i st rQ hd aN ln c4 params assign body gJ h7
   simp only[e7,Zp,hE]at a
   obtain⟨⟨⟨ET,aFW⟩,nO⟩,a⟩:=a
   have nO:ay=false:=by simpa using nO
   subst nO
   have aF:=az.ig.ro l rfl
   have awa:∀c,jd=some c->IP c:=by
    intro c ax
    subst ax
    rcases bE with ⟨E,_⟩|⟨E,_⟩|⟨id,z,E,_⟩
    ·cases E
    ·cases E;exact .inl rfl
    ·cases E;exact .inr ⟨id,rfl⟩
   obtain⟨h1,g9,De,_,Aw⟩:=WH az (jx:=bW jd.isNone .ready .done) (Dp:=jd) (jR ET) aF h7 awa
   have dQ:cs≠[]:=λE=>by have:=(az.bot E).2.2;cases this
   refine acD (ac:= .bool jd.isNone) gM Aw dQ trivial (λg jH E=> ?_) a
   subst E
   refine aC4 bE ?_
   have:=run_endRound (P:=C.P) jd g9
   rw[this]
   cases jd<;>rfl
  ·simp at a
 |none=>
  simp only[e7]at a
  have dd:D3 C bl bF bT .returning todo fn n ao bh ay none cs I h j T ad w bL tmps bw am:=⟨az.Y,az.lB,az.gv,az.ku,az.ig,trivial,az.bot,az.cs,be⟩
  have bU:=gM _ _ _ _ _ _ _ _ _ _ _ _ v a.2 T ad w bL tmps bw am dd
  rcases bE with ⟨rfl,rfl⟩|⟨rfl,z,rfl⟩|⟨id,z,rfl,rfl,_⟩
  ·exact .head aCQ bU
  ·exact .head aC2 bU
  ·simp[Wa]at a
def aBq(cM:Env C bl dY ed)(gM:oc C bl bF bT ai){f:Operand}{params:Array Nat}{assign body:Code}{z:List d1}(az:jz C bl bF bT fn ao bh ay ro cs h j T ad w bL am)(be:jQ T ad n ao I tmps)
 (fs:mo C ao (.rangeFunc f params assign body)=true)(aJ:mg C T ad ao z bw)(a:MQ f params assign body ai C z ⟨fn,n,ao,bh,ay,ro,cs⟩ I h j=some v):
 Ends C bl bF bT v (lone (cr T fn bh ay ro tmps (.code (.rangeFunc f params assign body)::bw) .run) am w):=by
 simp only[mo,Zp]at fs
 obtain⟨b7,agk,h7⟩:=fs
 unfold MQ at a
 split at a
 ·rename_i g first fY TA aO C6 aq6 Kt Xo sp bC e8
  cases e8
  obtain⟨bz,cF⟩:=adJ az.gv be b7 bC
  have k2:∀(b:Nat) (n6:World),(resolve (lv tmps) {callee:= .value f,args:= #[.const (.func (.yield b) #[] #[])],argTypes:= #[]} 0).run C.P n6=
   .ok ⟨.fn (.func g) (b4 T fY).toArray,(b4 T first).toArray++ #[.func (.yield b) #[] #[]]⟩ n6:=by
   intro b n6
   have Ti:lv tmps (.const (.func (.yield b) #[] #[]))= .func (.yield b) #[] #[]:=rfl
   simp[resolve,bz,aQ,nK,Deferred.ofValue,Ti]
  have afs:∀(b:Nat) (yO:db) (m7:Nat->Prop) (aI:Q af) (F2:Nat) (n6:World) (uI:List g4) (xR:List Frame) (dh:Nat) (ce:Nat),(∀x,ad x->yO x=T x)->(∀x,ad x->m7 x)->m7 ce->(yO ce).cL=b->
   dn C yO m7 aI F2 bl.heap.size n6->Below bl.heap.size bl n6->th C yO m7->dh<=F2->pu C yO m7 aI bF bT dh uI xR->uI≠[]->o3 ai C g (first++[.func (.yield ce) [] []]++fY) false uI aI F2=some v->
   ∃args,(invoke (.fn (.func g) (b4 T fY).toArray) ((b4 T first).toArray++ #[.func (.yield b) #[] #[]])).run C.P n6= .ok (.enter g args) n6/\Ends C bl bF bT v (lone (Frame.enter C.P g args .normal) xR n6):=by
   intro b yO m7 aI F2 n6 uI xR dh ce dR fU hK ag mS ng Pg pU it dQ a
   have avf:ew m7 (first++[.func (.yield ce) [] []]++fY):=Ca (Ca (sv fU _ cF.2.1) ⟨⟨hK,trivial,trivial⟩,trivial⟩) (sv fU _ cF.2.2)
   refine⟨(b4 yO (first++[.func (.yield ce) [] []]++fY)).toArray, ?_,Ol gM mS ng Pg pU it (λE=>absurd E dQ) avf a⟩
   have Li:∃func c,C.P.funcs[g]? =some func/\func.body=some c:=by
    unfold o3 at a
    split at a
    ·rename_i func rz
     split at a
     ·rename_i c ax;exact⟨func,c,rz,ax⟩
     ·simp at a
    ·simp at a
   obtain⟨func,c,rz,ax⟩:=Li
   have aE:func.name≠ "runtime.NumGoroutine":=by simpa using cM.kN.num g func rz (by simp[ax])
   have xX:(b4 yO (first++[.func (.yield ce) [] []]++fY)).toArray=((b4 T first).toArray++ #[.func (.yield b) #[] #[]])++(b4 T fY).toArray:=by
    rw[Eg,Eg,y9 dR cF.2.1,y9 dR cF.2.2]
    simp[b4,aQ,nK,ag]
   rw[xX]
   simp[invoke,callFunc,rz,aE,ax]
  cases ro with
  |none=>
   simp only[mM]at a
   have pd:=sX az.Y
   have mS:=az.Y.alloc (b:=j) (an:=j+1) (pl:=⟨w.heap.size,0,0⟩) (cU:= .deferred (some [])) (W:= .deferred (some [])) (S':=bj C h j (some (.deferred (some [])))) az.Y.a2 (Yi _) (Z9 _) pd az.ey rfl
    (by rw[ga _ az.Y.a2,Zr rfl]) (λx ae=> .inl (by rw[ga _ az.Y.a2,Zh ae])) ⟨by rw[World.alloc_heap_new];rfl,λl aC=>by cases aC;simp⟩ ⟨λ_ _ _ a=>(by cases a),λ_ _ _ a=>(by cases a)⟩
   have CL:iW C j T ad h bl.heap.size w (gP T j ⟨w.heap.size,0,0⟩) (add ad j) (bj C h j (some (.deferred (some [])))) (w.alloc (.deferred (some []))):=
    ⟨r0 pd,λ_ a=> .inl a,λe a=>a.elim .inl (λa=> .inr Zo),λx _ cZ=>by rw[ga _ az.Y.a2,Zh Zo],Below.alloc (Below.refl _ _) az.ey _⟩
   have tU:C.a2<=j+1:=Nat.le_succ_of_le az.Y.a2
   have agc:=sX mS
   have aeD:bl.heap.size<=(w.alloc (.deferred (some []))).heap.size:=by rw[World.size_alloc];have:=az.ey;omega
   have ag6:(gP T j ⟨w.heap.size,0,0⟩ j)=⟨w.heap.size,0,0⟩:=lV ..
   have P5:=r0 (T:=gP T j ⟨w.heap.size,0,0⟩) (pl:=⟨w.heap.size+1,0,0⟩) agc
   have hy:=mS.alloc (b:=j+1) (an:=j+2) (pl:=⟨w.heap.size+1,0,0⟩) (cU:= .loop .ready none fn n ao I params.toList assign body j) (W:= .loop {state:= .ready,pending:=none,fn,tmps,params,assign,body,defers:=w.heap.size})
    (S':=bj C (bj C h j (some (.deferred (some [])))) (j+1) (some (.loop .ready none fn n ao I params.toList assign body j))) tU (Yi _) (Z9 _) agc aeD (by rw[World.size_alloc])
    (by rw[ga _ tU,Zr rfl]) (λx ae=> .inl (by rw[ga _ tU,Zh ae]))
    ⟨tmps,by
     rw[show(⟨w.heap.size+1,0,0⟩:m8).cL=(w.alloc (.deferred (some []))).heap.size by rw[World.size_alloc],World.alloc_heap_new,P5 j (.inr rfl),ag6],
     (be.aa CL.jg CL.j2).aa P5 (λ_ a=> .inl a), .inl (.inr rfl),agk,h7,λc ax=>(by cases ax),az.ig.fn⟩
    ⟨λ_ _ _ a=>(by cases a),λ_ _ _ a=>(by cases a)⟩
   have Fm:iW C (j+1) (gP T j ⟨w.heap.size,0,0⟩) (add ad j) (bj C h j (some (.deferred (some [])))) bl.heap.size (w.alloc (.deferred (some []))) (gP (gP T j ⟨w.heap.size,0,0⟩) (j+1) ⟨w.heap.size+1,0,0⟩) (add (add ad j) (j+1))
    (bj C (bj C h j (some (.deferred (some [])))) (j+1) (some (.loop .ready none fn n ao I params.toList assign body j))) ((w.alloc (.deferred (some []))).alloc (.loop {state:= .ready,pending:=none,fn,tmps,params,assign,body,defers:=w.heap.size})):=
    ⟨P5,λ_ a=> .inl a,λe a=>a.elim .inl (λa=> .inr Zo),λx _ cZ=>by rw[ga _ tU,Zh Zo],Below.alloc (Below.refl _ _) aeD _⟩
   have ae:=CL.trans (Z9 j) Fm
   have oo:=az.ext hy (ae.mono az.ku) (ZB (Z9 _) (Z9 _))
   have avd:xg C (add (add ad j) (j+1)) fn ao (⟨.collected j,[]⟩::bh) none:=⟨λd aF=>by
    rcases Zt.1 aF with rfl|aF
    ·exact⟨.inl (.inr rfl),trivial⟩
    ·exact oo.ig.bh d aF,oo.ig.ro,oo.ig.fn⟩
   have LW:m9 C (gP (gP T j ⟨w.heap.size,0,0⟩) (j+1) ⟨w.heap.size+1,0,0⟩) (add (add ad j) (j+1)) (bj C (bj C h j (some (.deferred (some [])))) (j+1) (some (.loop .ready none fn n ao I params.toList assign body j))) bL (j+2) n ao I tmps
    (.inRangeFunc (j+1)::z) (.inRangeFunc (w.heap.size+1)::bw):=by
    have:=m9.dr (bL:=bL) (aG:=j+2) (h:=bj C (bj C h j (some (.deferred (some [])))) (j+1) (some (.loop .ready none fn n ao I params.toList assign body j))) (aJ.aa ae.jg ae.j2) (be.aa ae.jg ae.j2) (l:=j+1) (.inr rfl)
    rw[lV]at this
    exact this
   have pU:bL<=j+2:=zs az.ku
   obtain⟨args,bI,bN⟩:=afs (w.heap.size+1) _ _ _ _ _ _ _ (j+2) (j+1) ae.jg ae.j2 (.inr rfl) (by rw[lV]) hy oo.lB oo.gv (Zj _)
    (.cons (bR:= .run) LW trivial avd az.bot pU oo.cs) Zs a
   refine .head (ajA (run_enterLoop_outer fn tmps params assign body) (k2 _ _) bI) ?_
   have qJ:({cr T fn bh ay none tmps (.inRangeFunc (w.heap.size+1)::bw) .run with defers:=[{target:= .collected w.heap.size,args:= #[]}]++bh.map (mm T)}:Frame)=
    cr (gP (gP T j ⟨w.heap.size,0,0⟩) (j+1) ⟨w.heap.size+1,0,0⟩) fn (⟨.collected j,[]⟩::bh) ay none tmps (.inRangeFunc (w.heap.size+1)::bw) .run:=by
    have E:bh.map (mm (gP (gP T j ⟨w.heap.size,0,0⟩) (j+1) ⟨w.heap.size+1,0,0⟩))=bh.map (mm T):=YA λd aF=>SL ae.jg (az.ig.bh d aF)
    have f0:mm (gP (gP T j ⟨w.heap.size,0,0⟩) (j+1) ⟨w.heap.size+1,0,0⟩) ⟨.collected j,[]⟩={target:= .collected w.heap.size,args:= #[]}:=by
     simp only[mm,Ee,b4]
     rw[P5 j (.inr rfl),ag6]
    simp only[cr,ZP,E,f0,YP,YD,Y5]
   rw[qJ]
   exact bN
  |some l=>
   simp only[mM]at a
   split at a
   ·rename_i st rQ hd aN ln c4 aGK aEE aEH gJ aC
    have aF:=az.ig.ro l rfl
    obtain⟨h1,g9,nt,sZ,I9,Dd,uf,De⟩:=az.Y.obj l _ aC aF
    have pd:=sX az.Y
    have V2:=r0 (T:=T) (pl:=⟨w.heap.size,0,0⟩) pd
    have hy:=az.Y.alloc (b:=j) (an:=j+1) (pl:=⟨w.heap.size,0,0⟩) (cU:= .loop .ready none fn n ao I params.toList assign body gJ) (W:= .loop {state:= .ready,pending:=none,fn,tmps,params,assign,body,defers:=(T gJ).cL})
     (S':=bj C h j (some (.loop .ready none fn n ao I params.toList assign body gJ))) az.Y.a2 (Yi _) (Z9 _) pd az.ey rfl
     (by rw[ga _ az.Y.a2,Zr rfl]) (λx ae=> .inl (by rw[ga _ az.Y.a2,Zh ae]))
     ⟨tmps,by rw[World.alloc_heap_new,V2 gJ sZ],be.aa V2 (λ_ a=> .inl a), .inl sZ,agk,h7,λc ax=>(by cases ax),az.ig.fn⟩
     ⟨λ_ _ _ a=>(by cases a),λ_ _ _ a=>(by cases a)⟩
    have ae:iW C j T ad h bl.heap.size w (gP T j ⟨w.heap.size,0,0⟩) (add ad j) (bj C h j (some (.loop .ready none fn n ao I params.toList assign body gJ))) (w.alloc (.loop {state:= .ready,pending:=none,fn,tmps,params,assign,body,defers:=(T gJ).cL})):=
     ⟨V2,λ_ a=> .inl a,λe a=>a.elim .inl (λa=> .inr Zo),λx _ cZ=>by rw[ga _ az.Y.a2,Zh Zo],Below.alloc (Below.refl _ _) az.ey _⟩
    have oo:=az.ext hy (ae.mono az.ku) (Z9 _)
    have LW:m9 C (gP T j ⟨w.heap.size,0,0⟩) (add ad j) (bj C h j (some (.loop .ready none fn n ao I params.toList assign body gJ))) bL (j+1) n ao I tmps (.inRangeFunc j::z) (.inRangeFunc w.heap.size::bw):=by
     have:=m9.dr (bL:=bL) (aG:=j+1) (h:=bj C h j (some (.loop .ready none fn n ao I params.toList assign body gJ))) (aJ.aa ae.jg ae.j2) (be.aa ae.jg ae.j2) (l:=j) (.inr rfl)
     rw[lV]at this
     exact this
    have pU:bL<=j+1:=zs az.ku
    obtain⟨args,bI,bN⟩:=afs w.heap.size _ _ _ _ _ _ _ (j+1) j ae.jg ae.j2 (.inr rfl) (by rw[lV]) hy oo.lB oo.gv (Zj _)
     (.cons (bR:= .run) LW trivial oo.ig az.bot pU oo.cs) Zs a
    have au4:(Instr.enterLoop fn tmps params assign body ((some l).map λl=>(T l).cL)).run C.P w= .ok (w.heap.size,[]) (w.alloc (.loop {state:= .ready,pending:=none,fn,tmps,params,assign,body,defers:=(T gJ).cL})):=by
     unfold Instr.enterLoop
     simp only[ZT,Sem.run_bind,run_getLoop g9,run_newObj_alloc,Result.andThen,Sem.run_pure]
    refine .head (ajA au4 (k2 _ _) bI) ?_
    have qJ:({cr T fn bh ay (some l) tmps (.inRangeFunc w.heap.size::bw) .run with defers:=[]++bh.map (mm T)}:Frame)=cr T fn bh ay (some l) tmps (.inRangeFunc w.heap.size::bw) (g7 T .run):=rfl
    rw[qJ, <-I2 ae.jg az.ig]
    exact bN
   ·simp at a
 ·simp at a
def ac2(cM:Env C bl dY ed)(gM:oc C bl bF bT ai)(az:jz C bl bF bT fn ao bh ay ro cs h j T ad w bL am)(be:jQ T ad n ao I tmps):∀(c:Code) (z:List d1) (bw:List Item),mo C ao c=true->mg C T ad ao z bw->
 vN c ai C z ⟨fn,n,ao,bh,ay,ro,cs⟩ I h j=some v->Ends C bl bF bT v (lone (cr T fn bh ay ro tmps (.code c::bw) .run) am w):=by
 intro c
 have go:∀z bw,mg C T ad ao z bw->ai .run z ⟨fn,n,ao,bh,ay,ro,cs⟩ I h j=some v->Ends C bl bF bT v (lone (cr T fn bh ay ro tmps bw .run) am w):=
  λz bw aJ a=>gM _ _ _ _ _ _ _ _ _ _ _ _ v a T ad w bL tmps bw am (az.state (.plain aJ be))
 induction c with
 |skip=>intro z bw _ aJ a;exact .head aC7 (go z bw aJ a)
 |region id ar B0=>intro z bw _ aJ a;exact aBy cM gM az aJ be a
 |seq H b mA hW=>
  intro z bw fs aJ a
  simp only[mo,Zp]at fs
  exact .head aC6 (mA (.code b::z) (.code b::bw) fs.1 (.cons (.code fs.2) aJ) a)
 |cond c H b mA hW=>
  intro z bw fs aJ a
  simp only[mo,Zp]at fs
  have cz:Kr c I (vN H ai C z ⟨fn,n,ao,bh,ay,ro,cs⟩ I h j) (vN b ai C z ⟨fn,n,ao,bh,ay,ro,cs⟩ I h j)=some v:=a
  simp only[Kr,pm]at cz
  split at cz
  ·rename_i ac bg
   obtain⟨bz,_⟩:=adJ az.gv be fs.1 bg
   cases ac with
   |bool t=>
    refine .head (aCO (t:=t) (by rw[bz];rfl)) ?_
    cases t with
    |true=>exact mA z bw fs.2.1 aJ cz
    |false=>exact hW z bw fs.2.2 aJ cz
   |_=>simp at cz
  ·simp at cz
 |block id b hW=>intro z bw fs aJ a;exact .head aCN (hW (.inBlock id::z) (.inBlock id::bw) fs (.cons .inBlock aJ) a)
 |loop b hW=>intro z bw fs aJ a;exact .head aCX (hW (.inLoop b::z) (.inLoop b::bw) fs (.cons (.inLoop fs) aJ) a)
 |rangeFunc f params assign body _ _=>intro z bw fs aJ a;exact aBq cM gM az be fs aJ a
 |exit id=>
  intro z bw _ aJ a
  have cz:B3 id ai C z ⟨fn,n,ao,bh,ay,ro,cs⟩ I h j=some v:=a
  unfold B3 at cz
  split at cz
  ·rename_i eY bC
   obtain⟨im,bI,bN⟩:=ar6 id aJ bC
   exact .head (aCS bI) (go eY im bN cz)
  ·rename_i bC
   exact Wx gM (.inr (.inr ⟨id,bw,rfl,rfl,ar5 id aJ bC⟩)) az be cz
 |scope b hW=>intro z bw fs aJ a;exact .head aC5 (hW (.inScope b::z) (.inScope b::bw) fs (.cons (.inScope fs) aJ) a)
 |label l=>intro z bw _ aJ a;exact .head aCW (go z bw aJ a)
 |goto l=>intro z bw _ _ a;exact absurd a (by simp[vN,FY])
 |ret=>intro z bw _ aJ a;exact Wx gM (.inr (.inl ⟨rfl,bw,rfl⟩)) az be a
 |refuse s=>intro z bw _ _ a;exact absurd a (by simp[vN,FY])
def aBF(az:dn C T ad h j bo w)(be:jQ T ad n ao I tmps){ca:ResultVar->Sem Value}(iC:∀t,ca (.tmp t)=pure (tmps.getD t Go.undef))(dx:∀H t,ca (.cell H t)=do loadVar t (<-asAddr (tmps.getD H Go.undef))):
 ∀(l:List ResultVar) (br:List D),A8 ao l=true->yx C h I l=some br->(l.mapM ca).run C.P w= .ok (b4 T br) w/\ew ad br:=by
 intro l
 induction l with
 |nil=>intro br _ a;simp[yx]at a;subst a;exact⟨by simp[b4],trivial⟩
 |cons x l ai=>
  intro br fs a
  cases x with
  |tmp t=>
   simp only[A8,Zp]at fs
   simp only[yx]at a
   split at a
   ·rename_i ac r bg Y
    simp at a;subst a
    obtain⟨M,R⟩:=be.val t ac fs.1 bg
    obtain⟨ak,aA⟩:=ai r fs.2 Y
    refine⟨?_,R,aA⟩
    simp[za,iC,M,ak,b4]
   ·simp at a
  |cell H t=>
   simp only[A8,Zp]at fs
   simp only[yx]at a
   split at a
   ·rename_i p aw
    split at a
    ·rename_i ac r bg Y
     simp at a;subst a
     obtain⟨M,R⟩:=be.val H p fs.1 aw
     obtain⟨ak,aA⟩:=ai r fs.2 Y
     obtain⟨bv,b9⟩:=ach az R bg
     refine⟨?_,b9,aA⟩
     cases p with
     |ptr b W=>
      simp only[Instr.loadAt,Instr.sureAddr,aQ,Sem.run_bind,Sem.run_pure,Result.andThen_ok]at bv
      simp[za,dx,M,aQ,asAddr,bv,ak,b4]
     |_=>simp[mj,cG,aP]at bg;split at bg<;>simp at bg
    ·simp at a
   ·simp at a
def aAn(br:List D):(if a:(b4 T br).toArray.size=1 then(b4 T br).toArray[0]else Value.tuple (b4 T br).toArray)=aQ T (one br):=by
 match br with
 |[]=>simp[one,b4,aQ]
 |[H]=>simp[one,b4]
 |H::b::r=>simp[one,b4,aQ]
def aAm{br:List D}(a:ew ad br):cm ad (one br):=by
 match br,a with
 |[],a=>exact a
 |[H],a=>exact a.1
 |H::b::r,a=>exact a
def jz.defs(az:jz C bl bF bT fn ao bh ay ro cs h j T ad w bL am){gJ:List h3}(a:∀d∈gJ,xP ad d):jz C bl bF bT fn ao gJ ay ro cs h j T ad w bL am:=
 ⟨az.Y,az.lB,az.gv,az.ku,⟨a,az.ig.ro,az.ig.fn⟩,az.bot,az.cs⟩
def jz.XV{todo:List d1}{bR:lw}(LB:bR≠ .run)(b2:rn ad bR)(az:jz C bl bF bT fn ao bh ay ro cs h j T ad w bL am)(be:jQ T ad n ao I tmps):
 D3 C bl bF bT bR todo fn n ao bh ay ro cs I h j T ad w bL tmps bw am:=by
 cases bR with
 |run=>exact absurd rfl LB
 |returning=>exact⟨az.Y,az.lB,az.gv,az.ku,az.ig,b2,az.bot,az.cs,be⟩
 |panicking fC=>exact⟨az.Y,az.lB,az.gv,az.ku,az.ig,b2,az.bot,az.cs,be⟩
def adi(cM:Env C bl dY ed)(gM:oc C bl bF bT ai){d:h3}{ds:List h3}{bR:lw}{todo:List d1}(LB:bR≠ .run)(b2:rn ad bR)(az:jz C bl bF bT fn ao (d::ds) ay ro cs h j T ad w bL am)(be:jQ T ad n ao I tmps)
 (a:yD d ds bR todo ai C ⟨fn,n,ao,[],ay,ro,cs⟩ I h j=some v):Ends C bl bF bT v (lone (cr T fn (d::ds) ay ro tmps bw (g7 T bR)) am w):=by
 have Pj:xP ad d:=az.ig.bh d (Zv ..)
 have afD:∀d∈ds,xP ad d:=λl3 aF=>az.ig.bh l3 (Zw _ aF)
 have afj:g7 T bR≠ .run:=by cases bR<;>simp[g7]at LB ⊢
 unfold yD at a
 split at a
 rename_i TA aO C6 aq6 Kt Xo sp e8
 cases e8
 split at a
 ·rename_i r cu
  split at a
  ·rename_i qu h7
   simp only[e7,hE]at a
   obtain⟨ET,a⟩:=a
   have aF:ad r:=Pj.1
   obtain⟨g9,nt⟩:=az.Y.obj r _ h7 aF
   simp only[ZT]at g9
   obtain⟨b1,bQ,ct,c1⟩:=putObj az.Y (dh:=bL) (o':= .deferred none) (pk:= .deferred none) (jR ET) aF h7 ⟨Zs,Zs⟩ g9 Zs
    (λb1 t2=>⟨by simpa using t2,λl aC=>by cases aC⟩) ⟨λ_ _ _ a=>(by cases a),λ_ _ _ a=>(by cases a)⟩
   have PZ:(Instr.takeDeferred (T r).cL).run C.P w= .ok (qu.map (mm T)) b1:=by
    have E:b1=w.putObj (T r).cL (.deferred none):=by
     have:(Go.setObj (T r).cL (.deferred none)).run C.P w= .ok () (w.putObj (T r).cL (.deferred none)):=by simp[Go.setObj,Sem.run,g9,World.putObj]
     rw[this]at bQ
     simp only[Result.ok.injEq]at bQ
     exact bQ.2.symm
    rw[E]
    exact run_takeDeferred g9
   refine .head (aC8 (dG:=qu++ds) afj PZ (by rw[ZX])) ?_
   have auQ:∀d∈qu++ds,xP ad d:=λl3 tK=>by
    rcases Zz.1 tK with aj|aj
    ·exact nt qu rfl l3 aj
    ·exact afD l3 aj
   have Aw:=(az.defs auQ).ext ct c1 (Zj _)
   exact gM _ _ _ _ _ _ _ _ _ _ _ _ v a T ad b1 bL tmps bw am (Aw.XV LB b2 be)
  ·simp at a
 ·rename_i f fY args
  split at a
  ·rename_i g cu U4
   have mN:=ahg (T:=T) (h:=h) (j:=j) (bo:=bl.heap.size) (w:=w) cM.kN Pj.1.1 Pj.1.2 Pj.2 U4
   obtain⟨M,R⟩:=mN
   have qM:=step_defer (P:=C.P) (fr:=cr T fn (⟨.fn f fY,args⟩::ds) ay ro tmps bw (g7 T bR)) (cs:=am) (w:=w) (d:=mm T ⟨.fn f fY,args⟩) (ds:=ds.map (mm T)) afj rfl rfl M
   refine .head qM ?_
   have aD:BK C T ad h bL j n ao I tmps bR todo bw:=by
    cases bR with
    |run=>exact absurd rfl LB
    |_=>exact be
   exact adw (Ek:=true) gM az.Y az.lB az.gv (Zj _) (.cons (bR:=bR) aD b2 ((az.defs afD).ig) az.bot az.ku az.cs) (λE=>by cases E) R a
  ·simp at a
def arf(T:db):∀(l:List s8),(l.map (uF T)).dropWhile (!·.goexit)=[]:=by
 intro l
 induction l with
 |nil=>rfl
 |cons H l ai=>simp[uF,ai]
def aCl(T:db)(fC:List s8):settle (g7 T (.panicking fC))=g7 T (yH fC):=by
 cases fC with
 |nil=>rfl
 |cons p l=>
  obtain⟨v,r⟩:=p
  cases r with
  |false=>simp[g7,settle,yH,uF]
  |true=>simp[g7,settle,yH,uF,arf]
def aDJ{fC:List s8}(a:rn ad (.panicking fC)):rn ad (yH fC):=by
 unfold yH
 split
 ·trivial
 ·exact a
def aDK(fC:List s8):yH fC≠ .run:=by
 unfold yH
 split<;>simp
def aBK(cM:Env C bl dY ed)(gM:oc C bl bF bT ai){todo:List d1}(az:jz C bl bF bT fn ao bh ay ro cs h j T ad w bL am)(be:jQ T ad n ao I tmps)
 (a:M2 todo ai C ⟨fn,n,ao,bh,ay,ro,cs⟩ I h j=some v):Ends C bl bF bT v (lone (cr T fn bh ay ro tmps bw .returning) am w):=by
 unfold M2 at a
 cases bh with
 |cons d ds=>exact adi (bR:= .returning) cM gM Zs trivial az be a
 |nil=>
  simp only at a
  split at a
  ·rename_i f b7
   obtain⟨adM,rz,k2⟩:=az.ig.fn
   rw[b7]at rz;cases rz
   split at a
   ·rename_i br L2
    have pg:(results f tmps).run C.P w= .ok (aQ T (one br)) w/\ew ad br:=by
     unfold results
     rw[Sem.run_bind,Array.mapM_eq_mapM_toList,Sem.run_map]
     obtain⟨fd,fX⟩:=aBF az.Y be (ca:=λx=>match x with| .tmp t=>pure (tmps.getD t Go.undef)| .cell H t=>do loadVar t (<-asAddr (tmps.getD H Go.undef))) (λ_=>rfl) (λ_ _=>rfl) _ _ k2 L2
     refine⟨?_,fX⟩
     refine(congrArg (λr=>Result.andThen (Result.andThen r _) _) fd).trans ?_
     simp only[Result.andThen_ok,Sem.run_pure]
     rw[<-aAn]
    obtain⟨pg,atC⟩:=pg
    cases ay with
    |false=>
     have Pv:(cr T fn [] false ro tmps bw .returning).leaving C.P w (.returned (aQ T (one br))):=⟨rfl,rfl,rfl,f,b7,pg⟩
     cases cs with
     |nil=>
      simp only[uD,lD,Zf]at a
      subst a
      obtain⟨bY,co,cY⟩:=az.bot rfl
      have it:=az.cs
      cases it with
      |nil=>exact⟨T,w,_, .refl _ _,Pv,bY,az.lB⟩
     |cons c rest=>
      refine acD gM az Zs (aAm atC) (λg jH E=> ?_) a
      subst E
      exact step_leave_returned Pv
    |true=>
     cases cs with
     |nil=>have:=(az.bot rfl).2.1;cases this
     |cons c rest=>
      obtain⟨hd,aN,ln,c4,w4,gJ,nr,jS,lP⟩:=c
      obtain⟨sQ,h1,im,jH,rfl,bQ,ct,c1,dJ,d7,c3⟩:=az.cs.inv
      have qM:=step_going_returned (P:=C.P) (fr:=cr T fn [] true ro tmps bw .returning) (c:=cr T hd gJ jS lP h1 im (g7 T nr)) (cs:=jH) (w:=w) (v:=aQ T (one br)) rfl ⟨rfl,rfl,f,b7,pg⟩
      refine .head qM ?_
      cases nr with
      |run=>simp[uD]at a
      |returning=>
       have cz:ai .returning w4 ⟨hd,aN,ln,gJ,jS,lP,rest⟩ c4 h j=some v:=a
       exact gM _ _ _ _ _ _ _ _ _ _ _ _ v cz T ad w sQ h1 im jH ⟨az.Y,az.lB,az.gv,ZB d7 az.ku,c1,trivial,dJ,c3,bQ⟩
      |panicking fC=>
       have cz:ai (yH fC) w4 ⟨hd,aN,ln,gJ,jS,lP,rest⟩ c4 h j=some v:=a
       have E:({cr T hd gJ jS lP h1 im (g7 T (.panicking fC))with mode:=settle (cr T hd gJ jS lP h1 im (g7 T (.panicking fC))).mode}:Frame)=cr T hd gJ jS lP h1 im (g7 T (yH fC)):=by
        rw[show(cr T hd gJ jS lP h1 im (g7 T (.panicking fC))).mode=g7 T (.panicking fC) from rfl,aCl]
        rfl
       rw[E]
       have ag:jz C bl bF bT hd ln gJ jS lP rest h j T ad w sQ jH:=⟨az.Y,az.lB,az.gv,ZB d7 az.ku,c1,dJ,c3⟩
       exact gM _ _ _ _ _ _ _ _ _ _ _ _ v cz T ad w sQ h1 im jH (ag.XV (aDK fC) (aDJ ct) bQ)
   ·simp at a
  ·simp at a
def aBn(T:db)(fC:List s8)(bR:lw):raised (g7 T bR) (fC.map (uF T))=g7 T (Gd fC bR):=by
 cases bR<;>simp[g7,raised,Gd]
def aBf{fC:List s8}{bR:lw}(a:rn ad (.panicking fC))(cz:rn ad bR):rn ad (Gd fC bR):=by
 cases bR with
 |panicking qU=>
  intro p aw
  rcases Zz.1 aw with aj|aj
  ·exact a p aj
  ·exact cz p aj
 |_=>exact a
def aAJ(cM:Env C bl dY ed)(gM:oc C bl bF bT ai){todo:List d1}{fC:List s8}(b2:rn ad (.panicking fC))(az:jz C bl bF bT fn ao bh ay ro cs h j T ad w bL am)(be:jQ T ad n ao I tmps)
 (a:M1 fC todo ai C ⟨fn,n,ao,bh,ay,ro,cs⟩ I h j=some v):Ends C bl bF bT v (lone (cr T fn bh ay ro tmps bw (g7 T (.panicking fC))) am w):=by
 unfold M1 at a
 cases bh with
 |cons d ds=>exact adi (bR:= .panicking fC) cM gM Zs b2 az be a
 |nil=>
  simp only at a
  cases cs with
  |nil=>simp at a
  |cons c rest=>
   obtain⟨hd,aN,ln,c4,w4,gJ,nr,jS,lP⟩:=c
   obtain⟨sQ,h1,im,jH,rfl,bQ,ct,c1,dJ,d7,c3⟩:=az.cs.inv
   obtain⟨f,b7,_⟩:=az.ig.fn
   have qM:=step_going_panicked (P:=C.P) (fr:=cr T fn [] ay ro tmps bw (g7 T (.panicking fC))) (c:=cr T hd gJ jS lP h1 im (g7 T nr)) (cs:=jH) (w:=w) (chain:=fC.map (uF T)) ⟨rfl,rfl,f,b7⟩
   refine .head qM ?_
   have E:({cr T hd gJ jS lP h1 im (g7 T nr)with mode:=raised (cr T hd gJ jS lP h1 im (g7 T nr)).mode (fC.map (uF T))}:Frame)=cr T hd gJ jS lP h1 im (g7 T (Gd fC nr)):=by
    rw[show(cr T hd gJ jS lP h1 im (g7 T nr)).mode=g7 T nr from rfl,aBn]
    rfl
   rw[E]
   have cz:ai (Gd fC nr) w4 ⟨hd,aN,ln,gJ,jS,lP,rest⟩ (vR w4 c4) h j=some v:=a
   have ag:jz C bl bF bT hd ln gJ jS lP rest h j T ad w sQ jH:=⟨az.Y,az.lB,az.gv,ZB d7 az.ku,c1,dJ,c3⟩
   exact gM _ _ _ _ _ _ _ _ _ _ _ _ v cz T ad w sQ h1 im jH (ag.XV (by cases nr<;>simp[Gd]) (aBf b2 ct) bQ.drop)
def ajC(cM:Env C bl dY ed)(qN:oc C bl bF bT ai):oc C bl bF bT λbR todo ca I h j=>XH ai C bR todo ca I h j:=by
 intro bR todo fn n ao bh ay ro cs I h j v cz T ad w dh tmps bw am dd
 cases bR with
 |run=>
  obtain⟨az,be⟩:=dd.apK
  have R:ajD todo ai C ⟨fn,n,ao,bh,ay,ro,cs⟩ I h j=some v:=cz
  cases be with
  |plain aJ yg=>
   cases aJ with
   |nil=>
    have ak:pj none ai C [] ⟨fn,n,ao,bh,ay,ro,cs⟩ I h j=some v:=R
    exact Wx qN (.inl ⟨rfl,rfl⟩) az yg ak
   |cons aG aJ=>
    rename_i H x z bw
    have ak:ahi H ai C z ⟨fn,n,ao,bh,ay,ro,cs⟩ I h j=some v:=R
    have go:∀z bw,mg C T ad ao z bw->ai .run z ⟨fn,n,ao,bh,ay,ro,cs⟩ I h j=some v->Ends C bl bF bT v (lone (cr T fn bh ay ro tmps bw .run) am w):=
     λz bw aJ a=>qN _ _ _ _ _ _ _ _ _ _ _ _ v a T ad w dh tmps bw am (az.state (.plain aJ yg))
    cases aG with
    |code fs=>exact ac2 cM qN az yg _ z bw fs aJ ak
    |inBlock=>exact .head aCT (go z bw aJ ak)
    |inLoop fs=>exact .head aCU (ac2 cM qN az yg _ _ _ fs (.cons (.inLoop fs) aJ) ak)
    |inScope fs=>exact .head aCV (go z bw aJ ak)
    |Es aF=>
     rename_i l
     have aA:HD l ai C z ⟨fn,n,ao,bh,ay,ro,cs⟩ I h j=some v:=ak
     unfold HD at aA
     split at aA
     ·rename_i st rQ hd aN ln c4 params assign body gJ h7
      have TT:st≠ .busy->bW (kV C l) (jU (bj C h l (some (.loop .exhausted rQ hd aN ln c4 params assign body gJ))) λh=>ai .run ((rQ.map d1.code).toList++z) ⟨fn,n,ao,bh,ay,ro,cs⟩ I h j) none=some v->
       Ends C bl bF bT v (lone (cr T fn bh ay ro tmps (.endRangeFunc (T l).cL::bw) .run) am w):=by
       intro awP bv
       simp only[e7,hE]at bv
       obtain⟨ET,bv⟩:=bv
       have VB:∀c,rQ=some c->IP c:=by
        obtain⟨_,_,_,_,_,_,uf,_⟩:=az.Y.obj l _ h7 aF
        exact uf
       obtain⟨h1,g9,De,uf,Aw⟩:=WH az (jx:= .exhausted) (Dp:=rQ) (jR ET) aF h7 VB
       refine .head (aCR (run_endLoop g9 awP)) ?_
       refine qN _ _ _ _ _ _ _ _ _ _ _ _ v bv T ad _ dh tmps _ am (Aw.state (.plain ?_ yg))
       cases rQ with
       |none=>exact aJ
       |some c=>
        have ax:mo C ao c=true:=by
         rcases uf c rfl with rfl|⟨id,rfl⟩<;>rfl
        exact .cons (.code ax) aJ
      cases st with
      |busy=>simp at aA
      |ready=>exact TT Zs aA
      |done=>exact TT Zs aA
      |exhausted=>exact TT Zs aA
     ·simp at aA
    |begin=>
     have aA:Ki ai C z ⟨fn,n,ao,bh,ay,ro,cs⟩ I h j=some v:=ak
     unfold Ki at aA
     cases ro with
     |none=>simp at aA
     |some l=>
      simp only at aA
      split at aA
      ·rename_i rQ hd aN ln c4 params assign body gJ h7
       simp only[e7,hE]at aA
       obtain⟨ET,aA⟩:=aA
       have aF:=az.ig.ro l rfl
       have VB:∀c,rQ=some c->IP c:=by
        obtain⟨_,_,_,_,_,_,uf,_⟩:=az.Y.obj l _ h7 aF
        exact uf
       obtain⟨h1,g9,De,uf,Aw⟩:=WH az (jx:= .busy) (Dp:=rQ) (jR ET) aF h7 VB
       refine .head (aCM (run_beginRound g9 rfl)) ?_
       exact qN _ _ _ _ _ _ _ _ _ _ _ _ v aA T ad _ dh tmps bw am (Aw.state (.plain aJ yg))
      ·simp at aA
  |seq aJ aD=>exact ajq cM qN _ _ _ _ _ _ _ _ _ _ az aJ aD R
  |drawn aJ bv b9 dl eI=>exact ado cM qN az aJ bv b9 dl.dW dl eI R
 |returning=>
  have az:jz C bl bF bT fn ao bh ay ro cs h j T ad w dh am:=⟨dd.Y,dd.lB,dd.gv,dd.ku,dd.ig,dd.bot,dd.cs⟩
  exact aBK (todo:=todo) cM qN az dd.todo cz
 |panicking fC=>
  have az:jz C bl bF bT fn ao bh ay ro cs h j T ad w dh am:=⟨dd.Y,dd.lB,dd.gv,dd.ku,dd.ig,dd.bot,dd.cs⟩
  exact aAJ (todo:=todo) cM qN dd.mode az dd.todo cz
def aB2(cM:Env C bl dY ed):∀n,oc C bl bF bT (run C n):=by
 intro n
 induction n with
 |zero=>intro bR todo fn n ao bh ay ro cs I h j v a;simp[run]at a
 |succ m qN=>exact ajC cM qN
def aBZ(cM:Env C bl dY ed){m f:Nat}{args:List D}(f1:ew ed args)(a:Bb C m f args=some v):
 Calls C.P f (b4 dY args).toArray bl λE b1=>(∃T,E= .returned (aQ T v))/\Below bl.heap.size bl b1:=by
 intro sp
 have bU:Ends C bl f sp v (lone (Frame.enter C.P f (b4 dY args).toArray .normal) sp bl):=
  Ol (aB2 cM m) cM.base (Below.refl _ _) cM.gv (Zj _) .nil (λ_=>rfl) f1 a
 obtain⟨T,b1,fr,M,R,ak,aA⟩:=bU
 exact⟨.returned (aQ T v),b1,fr,⟨⟨T,rfl⟩,aA⟩,M,ak,R⟩
end
end Go.bd

