/- Part of the proof of the last text; no conditions -/
import Derived.Test.YtendhgofocgngaaGreatDoorYf
import Derived.Defers
import Derived.RangeFuncRecord
import Derived.Orders
set_option maxHeartbeats 8000000
set_option linter.all false
namespace Go.bn
open Go.RowKit (Below)
structure PY(C:aK)(bl:World):Prop where
 val:∀f args v,C.g7 f args=some v->((∀J iE,aF J v=aF iE v)/\∀Y,b7 Y v)/\(∀J iE,bK J args=bK iE args)/\∀Y,d0 Y args
 ok:∀f args v,C.g7 f args=some v->∀J w,Below bl.heap.size bl w->
  (callFunc f (bK J args).toArray).run C.P w= .ok (.value (aF J v)) w\/
  ((callFunc f (bK J args).toArray).run C.P w= .ok (.enter f (bK J args).toArray) w/\Calls C.P f (bK J args).toArray w λB bE=>B= .returned (aF J v)/\Below w.heap.size w bE)
def HU(P:Program)(bl:World):Prop:=∀(f:Nat) (fn:Func),P.funcs[f]? =some fn->fn.name= "slices.Sort[[]int,int]"->∀(w:World),Below bl.heap.size bl w->
 ((callFunc f #[.slice none 0 0]).run P w= .ok (.enter f #[.slice none 0 0]) w/\Calls P f #[.slice none 0 0] w λB bE=>B= .returned (.tuple #[])/\Below w.heap.size w bE)/\
 ∀(g off c:Nat) (bU:Array Value) (t:TypeId) (bC aA:Nat) (bH:List Int),w.heap[g]? =some (.cells bU t (bC,aA))->(aA<=bC\/bU.size<=bC)->off+bH.length<=bU.size->(∀i aG,bH[i]? =some aG->bU[off+i]? =some (.int .i64 aG))->bH.length<=1000000->
 (callFunc f #[.slice (some ⟨g,off,none⟩) bH.length c]).run P w= .ok (.enter f #[.slice (some ⟨g,off,none⟩) bH.length c]) w/\
 Calls P f #[.slice (some ⟨g,off,none⟩) bH.length c] w λB bE=>B= .returned (.tuple #[])/\Below (w.setRow g (jF bU off ((ib bH).map λaG=> .int .i64 aG))).heap.size (w.setRow g (jF bU off ((ib bH).map λaG=> .int .i64 aG))) bE
structure Env(C:aK)(bl:World)(dD:c1)(dQ:Nat->Prop):Prop where
 kk:xt C.P
 g7:PY C bl
 base:cV C dD dQ .nil C.bf bl.heap.size bl
 hS:rX C dD dQ
 mem:HU C.P bl
def Ends(C:aK)(bl:World)(bD:Nat)(bO:List Frame)(v:z)(d5:Machine):Prop:=
 ∃J bE fr,Steps C.P d5 (lone fr bO bE)/\fr.leaving C.P bE (.returned (aF J v))/\fr.fn=bD/\Below bl.heap.size bl bE
structure Cp(C:aK)(bl:World)(bD:Nat)(bO:List Frame)(bN:k1)(todo:List dJ)(fn n am:Nat)(bg:List hE)(aN:Bool)(ro:Option Nat)(cs:List gz)(I:S z)(h:S ai)(j:Nat)
 (J:c1)(Y:Nat->Prop)(w:World)(cJ:Nat)(tmps:Array Value)(bB:List Item)(aE:List Frame):Prop where
 V:cV C J Y h j bl.heap.size w
 kL:Below bl.heap.size bl w
 hS:rX C J Y
 j8:cJ<=j
 hR:vF C Y fn am bg ro
 mode:p8 Y bN
 bot:cs=[]->fn=bD/\aN=false/\ro=none
 cs:oM C J Y h bD bO cJ cs aE
 todo:match bN with
  | .run=>Cq C J Y h cJ j n am I tmps todo bB
  |_=>jr J Y n am I tmps
def nw(C:aK)(bl:World)(bD:Nat)(bO:List Frame)(ag:hr):Prop:=
 ∀bN todo fn n am bg aN ro cs I h j v,ag bN todo ⟨fn,n,am,bg,aN,ro,cs⟩ I h j=some v->
  ∀J Y w cJ tmps bB aE,Cp C bl bD bO bN todo fn n am bg aN ro cs I h j J Y w cJ tmps bB aE->Ends C bl bD bO v (lone (cn J fn bg aN ro tmps bB (gB J bN)) aE w)
section
variable{C:aK}{J c6:c1}{Y dr:Nat->Prop}{h R:S ai}{j ap bj:Nat}{w bE:World}{n am:Nat}{ao:Array Oper}
variable{bl:World}{bD:Nat}{bO:List Frame}{v:z}
def Ends.head{d5 HT:Machine}(a:step C.P d5= .next HT)(cy:Ends C bl bD bO v HT):Ends C bl bD bO v d5:=by
 obtain⟨J,bE,fr,H,K⟩:=cy
 exact⟨J,bE,fr, .head a H,K⟩
def Ends.steps{d5 HT:Machine}(a:Steps C.P d5 HT)(cy:Ends C bl bD bO v HT):Ends C bl bD bO v d5:=by
 obtain⟨J,bE,fr,H,K⟩:=cy
 exact⟨J,bE,fr,a.trans H,K⟩
def cV.later(V:cV C J Y h j bj w)(ah:Below w.heap.size w bE):cV C J Y h j bj bE:=
 ⟨V.bf,V.lt,V.vl,λb U a d=>(V.obj b U a d).ad (λ_ _=>rfl) (λ_ a=>a) (ah.block _ (V.obj b U a d).lt),V.sep,V.base,V.et⟩
def Env.now{dD:c1}{dQ:Nat->Prop}(a7:Env C bl dD dQ)(ah:Below bl.heap.size bl w):cV C dD dQ .nil C.bf w.heap.size w:=by
 have V:=a7.base.later ah
 refine⟨V.bf,V.lt,V.vl,V.obj,V.sep, ?_,V.et⟩
 intro b U aM aS _
 exfalso
 unfold Z at aS
 rw[eR,Zg (by simp[Nat.blt];omega)]at aS
 simp at aS
def Env.later{dD:c1}{dQ:Nat->Prop}(a7:Env C bl dD dQ)(ah:Below bl.heap.size bl w):Env C w dD dQ:=
 ⟨a7.kk,⟨a7.g7.val,λf args v a J nr ls=>a7.g7.ok f args v a J nr (ah.trans (ls.mono ah.size))⟩,a7.now ah,a7.hS,λf fn H K nr ls=>a7.mem f fn H K nr (ah.trans (ls.mono ah.size))⟩
variable{fn:Nat}{bg:List hE}{aN:Bool}{ro:Option Nat}{tmps:Array Value}{bB:List Item}{aE:List Frame}
def mm(tmps:Array Value)(bB:List Item):stepG C.P true {frame:=cn J fn bg aN ro tmps bB .run,callers:=aE,status:= .running,dying:=none} w=stepG.exec C.P true true (cn J fn bg aN ro tmps bB .run) aE none w:=by
 simp[stepG,cn]
def aze{E b:Code}:step C.P (lone (cn J fn bg aN ro tmps (.code (.seq E b)::bB) .run) aE w)= .next (lone (cn J fn bg aN ro tmps (.code E:: .code b::bB) .run) aE w):=
 step_lone_go (by rw[mm];simp[stepG.exec,cn])
def azf:step C.P (lone (cn J fn bg aN ro tmps (.code .skip::bB) .run) aE w)= .next (lone (cn J fn bg aN ro tmps bB .run) aE w):=
 step_lone_go (by rw[mm];simp[stepG.exec,cn])
def ay4{k:Nat}:step C.P (lone (cn J fn bg aN ro tmps (.code (.label k)::bB) .run) aE w)= .next (lone (cn J fn bg aN ro tmps bB .run) aE w):=
 step_lone_go (by rw[mm];simp[stepG.exec,cn])
def ay1{k:Nat}:step C.P (lone (cn J fn bg aN ro tmps (.inBlock k::bB) .run) aE w)= .next (lone (cn J fn bg aN ro tmps bB .run) aE w):=
 step_lone_go (by rw[mm];simp[stepG.exec,cn])
def ay3{b:Code}:step C.P (lone (cn J fn bg aN ro tmps (.inScope b::bB) .run) aE w)= .next (lone (cn J fn bg aN ro tmps bB .run) aE w):=
 step_lone_go (by rw[mm];simp[stepG.exec,cn])
def ayV{id:Nat}{b:Code}:step C.P (lone (cn J fn bg aN ro tmps (.code (.block id b)::bB) .run) aE w)= .next (lone (cn J fn bg aN ro tmps (.code b:: .inBlock id::bB) .run) aE w):=
 step_lone_go (by rw[mm];simp[stepG.exec,cn])
def ay5{b:Code}:step C.P (lone (cn J fn bg aN ro tmps (.code (.loop b)::bB) .run) aE w)= .next (lone (cn J fn bg aN ro tmps (.code b:: .inLoop b::bB) .run) aE w):=
 step_lone_go (by rw[mm];simp[stepG.exec,cn])
def ay2{b:Code}:step C.P (lone (cn J fn bg aN ro tmps (.inLoop b::bB) .run) aE w)= .next (lone (cn J fn bg aN ro tmps (.code b:: .inLoop b::bB) .run) aE w):=
 step_lone_go (by rw[mm];simp[stepG.exec,cn])
def azd{b:Code}:step C.P (lone (cn J fn bg aN ro tmps (.code (.scope b)::bB) .run) aE w)= .next (lone (cn J fn bg aN ro tmps (.code b:: .inScope b::bB) .run) aE w):=
 step_lone_go (by rw[mm];simp[stepG.exec,cn])
def ayW{c:Operand}{E b:Code}{t:Bool}(a:k0 tmps c= .bool t):step C.P (lone (cn J fn bg aN ro tmps (.code (.cond c E b)::bB) .run) aE w)= .next (lone (cn J fn bg aN ro tmps (.code (if t then E else b)::bB) .run) aE w):=
 step_lone_go (by
  have cy:(cn J fn bg aN ro tmps (.code (.cond c E b)::bB) .run).eval c= .bool t:=by rw[ID];exact a
  rw[mm]
  simp only[cn]at cy
  simp[stepG.exec,cn,cy])
def ay0{id:Nat}{h1:List Item}(a:Go.exitTo id bB=some h1):step C.P (lone (cn J fn bg aN ro tmps (.code (.exit id)::bB) .run) aE w)= .next (lone (cn J fn bg aN ro tmps h1 .run) aE w):=
 step_lone_go (by rw[mm];simp[stepG.exec,cn,a])
def aza:step C.P (lone (cn J fn bg aN none tmps (.code .ret::bB) .run) aE w)= .next (lone (cn J fn bg aN none tmps (.code .ret::bB) .returning) aE w):=
 step_lone_go (by rw[mm];simp[stepG.exec,cn])
def ayY:step C.P (lone (cn J fn bg aN none tmps [] .run) aE w)= .next (lone (cn J fn bg aN none tmps [] .returning) aE w):=
 step_lone_go (by rw[mm];simp[stepG.exec,cn])
def ay8{id:Nat}:step C.P (lone (cn J fn bg aN ro tmps (.code (.region id ao false)::bB) .run) aE w)= .next (lone (cn J fn bg aN ro tmps (.inRegion ao (List.range ao.size)::bB) .run) aE w):=
 step_lone_go (by rw[mm];simp[stepG.exec,cn])
def ay9{id:Nat}:step C.P (lone (cn J fn bg aN ro tmps (.code (.region id ao true)::bB) .run) aE w)=
 .next (lone (cn J fn bg aN ro tmps (.inRegion ao (Region.schedule (C.P.follows .mixedOrders) ao (w.tape w.drawn (.order fn id)))::bB) .run) aE w.drew):=
 step_lone_go (by rw[mm];simp[stepG.exec,cn,Question.forced,Question.cut])
def agw:step C.P (lone (cn J fn bg aN ro tmps (.inRegion ao []::bB) .run) aE w)= .next (lone (cn J fn bg aN ro tmps bB .run) aE w):=
 step_lone_go (by rw[mm];simp[stepG.exec,cn])
def Vd{i:Nat}{k:List Nat}{U:Oper}(aS:ao[i]? =some U)(bF:Region.wanted U (yielded ao tmps)=false):
 step C.P (lone (cn J fn bg aN ro tmps (.inRegion ao (i::k)::bB) .run) aE w)= .next (lone ((cn J fn bg aN ro tmps (.inRegion ao (i::k)::bB) .run).finish Go.undef) aE w):=
 step_lone_go (by rw[mm];simp[stepG.exec,cn,aS,bF])
def Uu{au:Operand->Value}{U:Oper}{tP:Next}(V:(execOp au U).run C.P w= .ok tP bE)(a:∀d,tP≠ .defer d):∀c,U.op≠ .defer c:=by
 intro c ax
 have af:execOp au U=(do pure (.defer (<-resolve au c U.type))):=by unfold execOp;rw[ax]
 rw[af]at V
 simp only[Sem.run_bind]at V
 cases bP:(resolve au c U.type).run C.P w with
 |ok d nr=>
  rw[bP]at V
  simp only[Result.andThen_ok,Sem.run_pure,Result.ok.injEq]at V
  exact a d V.1.symm
 |halt B nr=>
  rw[bP]at V
  simp at V
def Hv{i:Nat}{k:List Nat}{U:Oper}(aS:ao[i]? =some U)(bF:Region.wanted U (yielded ao tmps)=true)(lb:ro=none\/∀c,U.op≠ .defer c):
 stepG C.P true {frame:=cn J fn bg aN ro tmps (.inRegion ao (i::k)::bB) .run,callers:=aE,status:= .running,dying:=none} w=
  stepG.apply C.P true (cn J fn bg aN ro tmps (.inRegion ao (i::k)::bB) .run) aE none (execOp (k0 tmps) U) w:=by
 rw[mm]
 rcases lb with rfl|lb
 ·simp[stepG.exec,stepG.oper,cn,Frame.oper?,aS,bF,ID]
 ·cases ro with
  |none=>simp[stepG.exec,stepG.oper,cn,Frame.oper?,aS,bF,ID]
  |some r=>
   have:∀(c:Call),U.op≠ .defer c:=lb
   simp[stepG.exec,stepG.oper,cn,Frame.oper?,aS,bF,ID]
   split
   ·rename_i K;exact absurd K (this _)
   ·rfl
def EF{i:Nat}{k:List Nat}{U:Oper}{ac:Value}{tP:Next}(aS:ao[i]? =some U)(bF:Region.wanted U (yielded ao tmps)=true)
 (V:(execOp (k0 tmps) U).run C.P w= .ok tP bE)(aM:tP= .value ac\/(tP= .skip/\ac=Go.undef)):
 step C.P (lone (cn J fn bg aN ro tmps (.inRegion ao (i::k)::bB) .run) aE w)= .next (lone ((cn J fn bg aN ro tmps (.inRegion ao (i::k)::bB) .run).finish ac) aE bE):=
 step_lone_go (by
  rw[Hv aS bF (.inr (Uu V (by rcases aM with rfl|⟨rfl,rfl⟩<;>simp)))]
  rcases aM with rfl|⟨rfl,rfl⟩
  ·simp[stepG.apply,V]
  ·simp[stepG.apply,V])
def Vc{i:Nat}{k:List Nat}{U:Oper}{f:Nat}{args:Array Value}(aS:ao[i]? =some U)(bF:Region.wanted U (yielded ao tmps)=true)
 (V:(execOp (k0 tmps) U).run C.P w= .ok (.enter f args) bE):
 step C.P (lone (cn J fn bg aN ro tmps (.inRegion ao (i::k)::bB) .run) aE w)= .next (lone (Frame.enter C.P f args .normal) (cn J fn bg aN ro tmps (.inRegion ao (i::k)::bB) .run::aE) bE):=
 step_lone_go (by rw[Hv aS bF (.inr (Uu V Zs))];simp[stepG.apply,V,cn])
def azb{i:Nat}{k:List Nat}{U:Oper}{b f:Nat}{aO:Array Value}{assign body:Code}(aS:ao[i]? =some U)(bF:Region.wanted U (yielded ao tmps)=true)
 (V:(execOp (k0 tmps) U).run C.P w= .ok (.round b f aO assign body) bE):
 step C.P (lone (cn J fn bg aN ro tmps (.inRegion ao (i::k)::bB) .run) aE w)= .next (lone (Frame.round b f aO assign body .normal) (cn J fn bg aN ro tmps (.inRegion ao (i::k)::bB) .run::aE) bE):=
 step_lone_go (by rw[Hv aS bF (.inr (Uu V Zs))];simp[stepG.apply,V,cn])
def ayX{i:Nat}{k:List Nat}{U:Oper}{d:hE}(aS:ao[i]? =some U)(bF:Region.wanted U (yielded ao tmps)=true)
 (V:(execOp (k0 tmps) U).run C.P w= .ok (.defer (lN J d)) bE):
 step C.P (lone (cn J fn bg aN none tmps (.inRegion ao (i::k)::bB) .run) aE w)= .next (lone ((cn J fn (d::bg) aN none tmps (.inRegion ao (i::k)::bB) .run).finish Go.undef) aE bE):=
 step_lone_go (by rw[Hv aS bF (.inl rfl)];simp[stepG.apply,V,cn])
def ay6{i:Nat}{k:List Nat}{U:Oper}{ac:z}(aS:ao[i]? =some U)(bF:Region.wanted U (yielded ao tmps)=true)
 (V:(execOp (k0 tmps) U).run C.P w= .halt (.panic (aF J ac)) bE):
 step C.P (lone (cn J fn bg aN none tmps (.inRegion ao (i::k)::bB) .run) aE w)= .next (lone (cn J fn bg aN none tmps (.inRegion ao (i::k)::bB) (gB J (.panicking [⟨ac,false⟩]))) aE bE):=
 step_lone_go (by rw[Hv aS bF (.inl rfl)];simp[stepG.apply,V,cn,Frame.raise,gB,tc])
def ay7{i:Nat}{k:List Nat}{U:Oper}{ac:Value}{iZ:List Frame}(aS:ao[i]? =some U)(bF:Region.wanted U (yielded ao tmps)=true)
 (V:(execOp (k0 tmps) U).run C.P w= .ok .recover bE)
 (bh:Go.tryRecover (cn J fn bg aN none tmps (.inRegion ao (i::k)::bB) .run) aE=some (ac,iZ)\/(Go.tryRecover (cn J fn bg aN none tmps (.inRegion ao (i::k)::bB) .run) aE=none/\ac= .nilIface/\iZ=aE)):
 step C.P (lone (cn J fn bg aN none tmps (.inRegion ao (i::k)::bB) .run) aE w)= .next (lone ((cn J fn bg aN none tmps (.inRegion ao (i::k)::bB) .run).finish ac) iZ bE):=
 step_lone_go (by
  rw[Hv aS bF (.inl rfl)]
  have B:(cn J fn bg aN none tmps (.inRegion ao (i::k)::bB) .run).roundOf=none:=rfl
  rcases bh with bh|⟨bh,rfl,rfl⟩
  ·simp[stepG.apply,V,B,bh]
  ·simp[stepG.apply,V,B,bh])
def ayU{b:Nat}(V:(Instr.beginRound (J b).cr).run C.P w= .ok () bE):
 step C.P (lone (cn J fn bg aN (some b) tmps (.beginRound::bB) .run) aE w)= .next (lone (cn J fn bg aN (some b) tmps bB .run) aE bE):=
 step_lone_go (by rw[mm];simp[stepG.exec,stepG.apply,cn,V,Frame.finish])
def ayZ{b:Nat}{iN:Option Code}(V:(Instr.endLoop b).run C.P w= .ok iN bE):
 step C.P (lone (cn J fn bg aN ro tmps (.endRangeFunc b::bB) .run) aE w)= .next (lone (cn J fn bg aN ro tmps ((iN.map Item.code).toList++bB) .run) aE bE):=
 step_lone_go (by rw[mm];simp[stepG.exec,cn,V])
def agv{f:Operand}{params:Array Tmp}{assign body:Code}{b:Nat}{mark:List Deferred}{g:Nat}{args:Array Value}{hC:World}{d:Deferred}
 (a7:(Instr.enterLoop fn tmps params assign body (ro.map λk=>(J k).cr)).run C.P w= .ok (b,mark) hC)
 (nM:(resolve (k0 tmps) {callee:= .value f,args:= #[.const (.func (.yield b) #[] #[])],argTypes:= #[]} 0).run C.P hC= .ok d hC)(SC:(invoke d.target d.args).run C.P hC= .ok (.enter g args) bE):
 step C.P (lone (cn J fn bg aN ro tmps (.code (.rangeFunc f params assign body)::bB) .run) aE w)=
  .next (lone (Frame.enter C.P g args .normal) ({cn J fn bg aN ro tmps (.inRangeFunc b::bB) .run with defers:=mark++bg.map (lN J)}::aE) bE):=
 step_lone_go (by
  rw[mm]
  have b3:({cn J fn bg aN ro tmps (.inRangeFunc b::bB) .run with defers:=mark++bg.map (lN J)}:Frame).eval=k0 tmps:=by rw[ID];rfl
  simp only[cn]at b3
  simp[stepG.exec,cn,Sem.runT_eq,a7,GStep.bare_after,stepG.apply,b3,Sem.run_bind,nM,SC,Result.andThen])
def azc{iN:Option Code}{b:Nat}{ac:Value}{g:Frame}(aC:(iN=none/\bB=[])\/(iN=some .ret/\∃o,bB= .code .ret::o)\/(∃id o,iN=some (.exit id)/\bB= .code (.exit id)::o/\Go.exitTo id o=none))
 (a7:(Instr.endRound (J b).cr iN).run C.P w= .ok ac bE):
 step C.P (lone (cn J fn bg false (some b) tmps bB .run) (g::aE) w)= .next (lone (g.finish ac) aE bE):=
 step_lone_go (by
  rw[mm]
  rcases aC with ⟨rfl,rfl⟩|⟨rfl,o,rfl⟩|⟨id,o,rfl,rfl,af⟩
  ·simp[stepG.exec,cn,Sem.runT_eq,a7,GStep.bare_after,doReturn]
  ·simp[stepG.exec,cn,Sem.runT_eq,a7,GStep.bare_after,doReturn]
  ·simp[stepG.exec,cn,Sem.runT_eq,a7,GStep.bare_after,doReturn,af])
def azg{r:Nat}{cg:List z}{ds:List hE}{pw:List Deferred}{mode:FrameMode}{dr:List hE}(aZ:mode≠ .run)(a7:(Instr.takeDeferred (J r).cr).run C.P w= .ok pw bE)(aI:pw++ds.map (lN J)=dr.map (lN J)):
 step C.P (lone (cn J fn (⟨.collected r,cg⟩::ds) aN ro tmps bB mode) aE w)= .next (lone (cn J fn dr aN ro tmps bB mode) aE bE):=
 step_lone_go (by
  cases mode with
  |run=>exact absurd rfl aZ
  |returning=>simp[stepG,unwind,cn,lN,CA,Sem.runT_eq,a7,GStep.bare_after,aI]
  |panicking fW=>simp[stepG,unwind,cn,lN,CA,Sem.runT_eq,a7,GStep.bare_after,aI])
end
end Go.bn

namespace Go.bn
open Go.RowKit (Below)
section
variable{C:aK}{J c6 dD:c1}{Y dr dQ:Nat->Prop}{h R:S ai}{j ap bj:Nat}{w bE:World}{n am:Nat}{ao:Array Oper}
variable{bl:World}{bD:Nat}{bO:List Frame}{v:z}{ag:hr}
variable{fn:Nat}{bg:List hE}{aN:Bool}{ro:Option Nat}{cs:List gz}{I:S z}{tmps:Array Value}{bB:List Item}{aE:List Frame}{bC aA:Nat}
structure ja(C:aK)(bl:World)(bD:Nat)(bO:List Frame)(fn am:Nat)(bg:List hE)(aN:Bool)(ro:Option Nat)(cs:List gz)(h:S ai)(j:Nat)(J:c1)(Y:Nat->Prop)(w:World)(cJ:Nat)(aE:List Frame):Prop where
 V:cV C J Y h j bl.heap.size w
 kL:Below bl.heap.size bl w
 hS:rX C J Y
 j8:cJ<=j
 hR:vF C Y fn am bg ro
 bot:cs=[]->fn=bD/\aN=false/\ro=none
 cs:oM C J Y h bD bO cJ cs aE
def ja.eX{cJ:Nat}(a:ja C bl bD bO fn am bg aN ro cs h j J Y w cJ aE):bl.heap.size<=w.heap.size:=a.kL.size
def ja.ext{cJ:Nat}(a:ja C bl bD bO fn am bg aN ro cs h j J Y w cJ aE)(V:cV C c6 dr R ap bl.heap.size bE)(af:hF C cJ J Y h bl.heap.size w c6 dr R bE)(aM:j<=ap):
 ja C bl bD bO fn am bg aN ro cs R ap c6 dr bE cJ aE:=
 ⟨V,a.kL.trans af.below,a.hS.ad af.im af.jh,Zy a.j8 aM,a.hR.ad af.jh,a.bot,a.cs.ad af⟩
def ja.state{cJ:Nat}{todo:List dJ}(a:ja C bl bD bO fn am bg aN ro cs h j J Y w cJ aE)(bh:Cq C J Y h cJ j n am I tmps todo bB):
 Cp C bl bD bO .run todo fn n am bg aN ro cs I h j J Y w cJ tmps bB aE:=⟨a.V,a.kL,a.hS,a.j8,a.hR,trivial,a.bot,a.cs,bh⟩
def Cp.alG{todo:List dJ}{cJ:Nat}(a:Cp C bl bD bO .run todo fn n am bg aN ro cs I h j J Y w cJ tmps bB aE):ja C bl bD bO fn am bg aN ro cs h j J Y w cJ aE/\Cq C J Y h cJ j n am I tmps todo bB:=
 ⟨⟨a.V,a.kL,a.hS,a.j8,a.hR,a.bot,a.cs⟩,a.todo⟩
def oM.inv{cJ aP:Nat}{todo:List dJ}{bN:k1}(a:oM C J Y h bD bO cJ (⟨fn,aP,am,I,todo,bg,bN,aN,ro⟩::cs) aE):
 ∃bC tmps bB iZ,aE=cn J fn bg aN ro tmps bB (gB J bN)::iZ/\At C J Y h bC cJ aP am I tmps bN todo bB/\p8 Y bN/\vF C Y fn am bg ro/\(cs=[]->fn=bD/\aN=false/\ro=none)/\bC<=cJ/\oM C J Y h bD bO bC cs iZ:=by
 cases a with
 |cons H aZ K ay be bV=>exact⟨_,_,_,_,rfl,H,aZ,K,ay,be,bV⟩
def aaJ(f5:nw C bl bD bO ag){f:Nat}{args:List z}{cJ:Nat}{CG:Bool}{tf:List gz}{wg:List Frame}(V:cV C J Y h j bl.heap.size w)(ah:Below bl.heap.size bl w)(hS:rX C J Y)(aw:cJ<=j)
 (hJ:oM C J Y h bD bO cJ tf wg)(Na:tf=[]->f=bD/\CG=false)(iY:d0 Y args)(a:oa ag C f args CG tf h j=some v):Ends C bl bD bO v (lone (Frame.enter C.P f (bK J args).toArray (if CG then .deferred else .normal)) wg w):=by
 unfold oa at a
 split at a
 ·rename_i func b8
  split at a
  ·rename_i c ax
   simp only[l6,d6,Zp]at a
   obtain⟨⟨⟨H,K⟩,ak⟩,a⟩:=a
   have H:=iV H
   have uQ:Frame.enter C.P f (bK J args).toArray (if CG then .deferred else .normal)=cn J f [] CG none ((bK J args).toArray++Array.replicate (func.ntmps-args.length) Go.undef) [.code c] (gB J .run):=by
    simp[Frame.enter,cn,gB,b8,ax,jH]
   rw[uQ]
   refine f5 _ _ _ _ _ _ _ _ _ _ _ _ v a J Y w cJ _ _ wg ?_
   refine⟨V,ah,hS,aw,⟨Zs,Zs,func,b8,ak⟩,trivial,λB=>⟨(Na B).1,(Na B).2,rfl⟩,hJ, .plain (.cons (.code K) .nil) ⟨?_, ?_⟩⟩
   ·simp[jH];omega
   ·intro t ac _ aX
    rw[mg]at aX
    have cS:t<args.length:=(Zb.1 aX).1
    refine⟨?_,AY iY aX⟩
    rw[Yu (by simpa[jH]using cS)]
    simp[AK,aX]
  ·simp at a
 ·simp at a
def Mp(f5:nw C bl bD bO ag){f:Nat}{args:List z}{cJ:Nat}{tf:List gz}{wg:List Frame}(V:cV C J Y h j bl.heap.size w)(ah:Below bl.heap.size bl w)(hS:rX C J Y)(aw:cJ<=j)
 (hJ:oM C J Y h bD bO cJ tf wg)(Na:tf=[]->f=bD)(iY:d0 Y args)(a:oa ag C f args false tf h j=some v):Ends C bl bD bO v (lone (Frame.enter C.P f (bK J args).toArray .normal) wg w):=
 aaJ (CG:=false) f5 V ah hS aw hJ (λB=>⟨Na B,rfl⟩) iY a
def CU(f5:nw C bl bD bO ag){d7:dJ}{o:List dJ}{ac:z}(aB:ja C bl bD bO fn am bg aN ro cs h j J Y w bC aE)(aD:mr C J Y h bC aA n am I tmps (d7::o) bB)(q5:aA<=j)(A0:b7 Y ac)
 (a:(match od d7 ac with|some hg=>ag .run (hg::o) ⟨fn,n,am,bg,aN,ro,cs⟩ I h j|none=>none)=some v):
 Ends C bl bD bO v (lone ((cn J fn bg aN ro tmps bB .run).finish (aF J ac)) aE w):=by
 obtain⟨aCx,wM,hg,hA,h1,bw,b3,er,iJ⟩:=aoj (fn:=fn) (bg:=bg) (aN:=aN) (ro:=ro) (mode:= .run) aD q5 A0
 cases bw
 rw[b3]at a
 rw[er]
 exact f5 _ _ _ _ _ _ _ _ _ _ _ _ v a J Y w bC hA h1 aE (aB.state iJ)
def auw{f:Nat}{args:List z}{ac:z}(cB:Env C bl dD dQ)(ah:Below bl.heap.size bl w)(aS:C.g7 f args=some ac):
 (
  (∀iE,(callFunc f (bK iE args).toArray).run C.P w= .ok (.value (aF iE ac)) w)\/
  ((∀iE,(callFunc f (bK iE args).toArray).run C.P w= .ok (.enter f (bK iE args).toArray) w)/\∀iE,Calls C.P f (bK iE args).toArray w λB bE=>B= .returned (aF iE ac)/\Below w.heap.size w bE))/\∀dh,b7 dh ac:=by
 obtain⟨⟨b4,b1⟩,cM,eu⟩:=cB.g7.val f args ac aS
 refine⟨?_,b1⟩
 rcases cB.g7.ok f args ac aS dD w ah with a|⟨H,K⟩
 ·left;intro iE;rw[cM iE dD,b4 iE dD];exact a
 ·right;exact⟨λiE=>by rw[cM iE dD];exact H,λiE=>by rw[cM iE dD,b4 iE dD];exact K⟩
def at0:∀{k:List z}{x:List Int},DH k=some x->k=x.map (λn=>z.int .i64 n):=by
 intro k
 induction k with
 |nil=>intro x a;simp[DH]at a;subst a;simp
 |cons E k ag=>
  intro x a
  unfold DH at a
  split at a
  ·rename_i gC;cases gC
  ·rename_i n bQ e0
   cases e0
   split at a
   ·rename_i r V
    cases a
    rw[ZE, <-ag V]
   ·cases a
  ·cases a
def amF:∀bH:List Int,bK J (bH.map λaG=>z.int .i64 aG)=bH.map λaG=>Value.int .i64 aG:=by
 intro bH
 induction bH with
 |nil=>rfl
 |cons E bH ag=>rw[ZE,ZE,bK,ag];rfl
def apn:∀bH:List Int,d0 Y (bH.map λaG=>z.int .i64 aG):=by
 intro bH
 induction bH with
 |nil=>trivial
 |cons E bH ag=>exact⟨trivial,ag⟩
def atV(x:Int):∀k:List Int,(DG x k).length=k.length+1:=by
 intro k
 induction k with
 |nil=>rfl
 |cons e k ag=>rw[DG,eR];split<;>simp[ag]
def ED:∀k:List Int,(ib k).length=k.length:=by
 intro k
 induction k with
 |nil=>rfl
 |cons e k ag=>rw[ib,atV,ag];rfl
def agt{cJ f b U len c:Nat}(cB:Env C bl dD dQ)(V:cV C J Y h j bl.heap.size w)(ah:Below bl.heap.size bl w){fn:Func}(b8:C.P.funcs[f]? =some fn)(gf:fn.name= "slices.Sort[[]int,int]")(qX:Y b)(aS:H9 C h b U len=some R):
 (callFunc f #[.slice (some ⟨(J b).cr,(J b).dH+U,none⟩) len c]).run C.P w= .ok (.enter f #[.slice (some ⟨(J b).cr,(J b).dH+U,none⟩) len c]) w/\
 Calls C.P f #[.slice (some ⟨(J b).cr,(J b).dH+U,none⟩) len c] w λB bE=>B= .returned (.tuple #[])/\∃hC,cV C J Y R j bl.heap.size hC/\hF C cJ J Y h bl.heap.size w J Y R hC/\Below hC.heap.size hC bE:=by
 unfold H9 at aS
 split at aS
 ·rename_i k aw
  split at aS
  ·rename_i bH ce
   simp only[d6,Zp]at aS
   obtain⟨⟨H,K⟩,aS⟩:=aS
   have H:=ks H
   have K:=iV K
   have arP:=at0 ce
   subst arP
   obtain⟨hC,bJ,b2,cF⟩:=Fx (cJ:=cJ) V qX (apn _) aS
   unfold kt at aw
   split at aw
   ·rename_i cc ax
    obtain⟨cO,b9⟩:=S.IL _ _ _ _ aw
    rw[Zl]at cO
    subst cO
    unfold lJ at aS
    split at aS
    ·rename_i gp n st gw
     simp only[d6,Zp]at aS
     obtain⟨⟨⟨cP,cG⟩,d4⟩,aS⟩:=aS
     have cP:U+(ib bH).length<=n:=by have:=iV cP;rwa[Zl]at this
     rw[ED]at cP
     obtain⟨bU,ty,bC,aA,bd,ca,a3,a4⟩:=V.obj b _ gw qX
     have kS:st≠ .jO:=λB=>(by subst B;simp at aS)
     have Jd:cc=gp:=by
      unfold cellsOf at ax
      rw[gw]at ax
      exact(Ym ax).symm
     subst Jd
     have oh:∀i aG,bH[i]? =some aG->bU[(J b).dH+U+i]? =some (.int .i64 aG):=λi aG acJ=>by
      have aA:=(Zb.1 acJ).1
      have bS:=b9 i aA
      rw[Zv,acJ]at bS
      have:=(a4 (U+i) _ bS).1
      rw[<-ZV]at this
      exact this
     have lY:=O6 C.P (J b).cr ((J b).dH+U) ty bC aA (bK J ((ib bH).map λaG=>z.int .i64 aG)) 0 bU w bd (ca.free kS) (by rw[jH,Zl,ED];omega) (Uy d4)
     rw[lY]at bJ
     cases bJ
     rw[ZR,amF]at b2 cF
     obtain⟨_,b3⟩:=cB.mem f fn b8 gf w ah
     obtain⟨er,iJ⟩:=b3 (J b).cr ((J b).dH+U) c bU ty bC aA bH bd (ca.free kS) Zo oh K
     exact⟨er,iJ.mono λB bE ⟨be,bV⟩=>⟨be,_,b2,cF,bV⟩⟩
    ·cases aS
   ·simp only[d6,Zf]at aw
    have a8:len=0:=Zj aw.1
    omega
  ·cases aS
 ·cases aS
def avA{cJ f:Nat}{args:List z}(cB:Env C bl dD dQ)(V:cV C J Y h j bl.heap.size w)(ah:Below bl.heap.size bl w)(aZ:GQ C f=true)(iY:d0 Y args)(aS:Ct C h args=some R):
 (callFunc f (bK J args).toArray).run C.P w= .ok (.enter f (bK J args).toArray) w/\
 Calls C.P f (bK J args).toArray w λB bE=>B= .returned (aF J (.tuple []))/\∃hC,cV C J Y R j bl.heap.size hC/\hF C cJ J Y h bl.heap.size w J Y R hC/\Below hC.heap.size hC bE:=by
 unfold GQ at aZ
 split at aZ
 ·rename_i fn b8
  rw[eR]at aZ
  split at aZ
  ·have gf:fn.name= "slices.Sort[[]int,int]":=by simpa using aZ
   unfold Ct at aS
   split at aS
   ·cases aS
    obtain⟨⟨bw,b3⟩,_⟩:=cB.mem f fn b8 gf w ah
    exact⟨bw,b3.mono λB bE ⟨be,bV⟩=>⟨be,w,V, .refl,bV⟩⟩
   ·exact agt cB V ah b8 gf iY.1 aS
   ·exact agt cB V ah b8 gf iY.1 aS
   ·cases aS
  ·cases aZ
 ·cases aZ
mutual
def O7:∀(d:Nat) (x e:z),z.same d x e=true->x=e
 |0,_,_,a=>by simp[z.same]at a
 |d+1,x,e,a=>by
  unfold z.same at a
  split at a<;>(try(cases a;done))
  ·simp at a;rw[a]
  ·simp at a;rw[a.1,a.2]
  ·rw[(KF _ _).1 a]
  ·simp only[Zp]at a;rw[Zj a.1,Zj a.2]
  ·rfl
  ·simp only[Zp]at a;rw[Zj a.1.1.1,Zj a.1.1.2,Zj a.1.2,Zj a.2]
  ·simp only[Zp]at a;rw[Zj a.1.1.1,Zj a.1.1.2,Zj a.1.2,Zj a.2]
  ·rfl
  ·rw[Zj a]
  ·rfl
  ·simp only[Zp,Zi]at a
   rw[a.1.1,KZ d _ _ a.1.2,KZ d _ _ a.2]
  ·rfl
  ·simp only[Zp]at a;rw[Zj a.1,O7 d _ _ a.2]
  ·rfl
  ·rw[KZ d _ _ a]
  ·rw[KZ d _ _ a]
def KZ:∀(d:Nat) (x e:List z),pK (z.same d) x e=true->x=e
 |_,[],[],_=>rfl
 |_,[],_::_,a=>by simp[pK]at a
 |_,_::_,[],a=>by simp[pK]at a
 |d,E::x,b::e,a=>by
  simp only[pK,Zp]at a
  rw[O7 d _ _ a.1,KZ d _ _ a.2]
end
def Ends.same{d5:Machine}{fd:z}(a7:∀J,aF J fd=aF J v)(a:Ends C bl bD bO fd d5):Ends C bl bD bO v d5:=by
 obtain⟨J,bE,fr,H,K,ak⟩:=a
 exact⟨J,bE,fr,H,by rw[<-a7];exact K,ak⟩
def aoE{d7:dJ}{o:List dJ}{bZ:ir}:∀(k:List (z×S ai)) (v:z),xT ag d7 o bZ I j k=some v->∀ac R,(ac,R)∈k->
 ∃fd,(match od d7 ac with|some hg=>ag .run (hg::o) bZ I R j|none=>none)=some fd/\∀J,aF J fd=aF J v:=by
 intro k
 induction k with
 |nil=>intro v a;simp[xT]at a
 |cons p k m5=>
  intro v a ac R aZ
  obtain⟨E,ha⟩:=p
  cases k with
  |nil=>
   simp only[xT]at a
   simp at aZ
   obtain⟨rfl,rfl⟩:=aZ
   exact⟨v,a,λ_=>rfl⟩
  |cons al k=>
   simp only[xT]at a
   split at a
   ·rename_i hg arj
    split at a
    ·rename_i x e af D
     simp only[d6,Zf]at a
     obtain⟨av,rfl⟩:=a
     rcases Zr.1 aZ with B|aZ
     ·cases B
      exact⟨x,by rw[arj];exact af,λ_=>rfl⟩
     ·obtain⟨fd,b4,b1⟩:=m5 e D ac R aZ
      exact⟨fd,b4,λJ=>by rw[b1 J,O7 _ _ _ av]⟩
    ·simp at a
   ·simp at a
def azD{ac:z}{c3:List gz}{cJ:Nat}{bB:List Item}(hJ:oM C J Y h bD bO cJ cs aE)(a:Ca aN cs=some (ac,c3)):
 ∃iZ,oM C J Y h bD bO cJ c3 iZ/\b7 Y ac/\(c3=[]->cs=[])/\
  (Go.tryRecover (cn J fn bg aN none tmps bB .run) aE=some (aF J ac,iZ)\/(Go.tryRecover (cn J fn bg aN none tmps bB .run) aE=none/\aF J ac= .nilIface/\iZ=aE)):=by
 unfold Ca at a
 rw[eR]at a
 cases aN with
 |false=>
  simp at a
  obtain⟨rfl,rfl⟩:=a
  exact⟨aE,hJ,trivial,id, .inr ⟨by simp[Go.tryRecover,cn],rfl,rfl⟩⟩
 |true=>
  simp only[ZC]at a
  cases cs with
  |nil=>simp at a
  |cons c rest=>
   obtain⟨gK,aP,kU,cZ,vx,ga,mJ,js,lg⟩:=c
   obtain⟨rp,hA,h1,iZ,rfl,bJ,b2,cF,fb,eS,eK⟩:=hJ.inv
   have same:(ac,c3)=(z.nilIface,(⟨gK,aP,kU,cZ,vx,ga,mJ,js,lg⟩:gz)::rest)->(∀v BV,gB J mJ≠ .panicking (⟨v,false,false⟩::BV))->
    ∃RD,oM C J Y h bD bO cJ c3 RD/\b7 Y ac/\(c3=[]->(⟨gK,aP,kU,cZ,vx,ga,mJ,js,lg⟩:gz)::rest=[])/\
     (Go.tryRecover (cn J fn bg true none tmps bB .run) (cn J gK ga js lg hA h1 (gB J mJ)::iZ)=some (aF J ac,RD)\/
      (Go.tryRecover (cn J fn bg true none tmps bB .run) (cn J gK ga js lg hA h1 (gB J mJ)::iZ)=none/\aF J ac= .nilIface/\RD=cn J gK ga js lg hA h1 (gB J mJ)::iZ)):=by
    intro B cK
    simp only[YT]at B
    obtain⟨rfl,rfl⟩:=B
    refine⟨_,hJ,trivial,λB=>(by cases B), .inr ⟨?_,rfl,rfl⟩⟩
    simp only[Go.tryRecover,cn,ZC]
   simp only at a
   split at a
   ·rename_i v BV
    simp only[Zf,YT]at a
    obtain⟨rfl,rfl⟩:=a
    have bS:p8 Y (.panicking (⟨v,true⟩::BV)):=by
     intro p av
     rcases Zr.1 av with rfl|av
     ·exact b2 ⟨v,false⟩ (Zu ..)
     ·exact b2 p (Zt _ av)
    refine⟨cn J gK ga js lg hA h1 (gB J (.panicking (⟨v,true⟩::BV)))::iZ, .cons (bN:= .panicking (⟨v,true⟩::BV)) bJ bS cF fb eS eK,b2 ⟨v,false⟩ (Zu ..),λB=>(by cases B), .inl ?_⟩
    simp[Go.tryRecover,cn,gB,tc]
   ·rename_i ma
    simp only[Zf]at a
    refine same a.symm λv BV B=> ?_
    cases mJ with
    |run=>cases B
    |returning=>cases B
    |panicking fW=>
     cases fW with
     |nil=>cases B
     |cons p df=>
      obtain⟨axk,aw9⟩:=p
      cases aw9 with
      |true=>simp[gB,tc]at B
      |false=>exact ma axk df rfl
def ayn{aP:Nat}:∀(df:List Nat) (cg:List z) (I cZ:S z) (tmps:Array Value),jr J Y aP am I tmps->d0 Y cg->w5 aP df cg I=some cZ->
 df.length=cg.length/\jr J Y aP am cZ ((df.zip (bK J cg)).foldl (λtmps p=>tmps.setIfInBounds p.1 p.2) tmps):=by
 intro df
 induction df with
 |nil=>
  intro cg I cZ tmps bh _ a
  cases cg with
  |nil=>simp[w5]at a;subst a;exact⟨rfl,by simpa[bK]using bh⟩
  |cons E cg=>simp[w5]at a
 |cons p df atR=>
  intro cg I cZ tmps bh bS a
  cases cg with
  |nil=>simp[w5]at a
  |cons E cg=>
   simp only[w5,d6]at a
   obtain⟨av,a⟩:=a
   have av:=ks av
   have wH:jr J Y aP am (I.set p (some E)) (tmps.setIfInBounds p (aF J E)):=by
    refine⟨by simp[bh.size],λt ac aw aX=> ?_⟩
    rw[S.kw]at aX
    by_cases B:p=t
    ·subst B
     simp at aX;subst aX
     exact⟨by simp[bh.size,av],bS.1⟩
    ·simp[B]at aX
     obtain⟨H,K⟩:=bh.val t ac aw aX
     exact⟨by rw[Array.getElem?_setIfInBounds_ne B];exact H,K⟩
   obtain⟨H,K⟩:=atR cg _ cZ _ wH bS.2 a
   exact⟨by simp[H],by simpa[bK]using K⟩
def XY(cB:Env C bl dD dQ)(f5:nw C bl bD bO ag){d7:dJ}{o:List dJ}{i:Nat}{k:List Nat}{U:Oper}{r:dL}(aB:ja C bl bD bO fn am bg aN ro cs h j J Y w bC aE)
 (aD:mr C J Y h bC aA n am I tmps (d7::o) (.inRegion ao (i::k)::bB))(Jx:bC<=aA)(q5:aA<=j)(aS:ao[i]? =some U)(bF:Region.wanted U (yielded ao tmps)=true)
 (k7:hO C J Y h j bl.heap.size w (execOp (k0 tmps) U) r)(a:ny r ag C d7 o ⟨fn,n,am,bg,aN,ro,cs⟩ I h j=some v):
 Ends C bl bD bO v (lone (cn J fn bg aN ro tmps (.inRegion ao (i::k)::bB) .run) aE w):=by
 have l9:bC<=j:=Zy Jx q5
 have done:∀v ac R ap,Ah C J Y h j bl.heap.size w (execOp (k0 tmps) U) ac R ap->(match od d7 ac with|some hg=>ag .run (hg::o) ⟨fn,n,am,bg,aN,ro,cs⟩ I R ap|none=>none)=some v->
  Ends C bl bD bO v (lone (cn J fn bg aN ro tmps (.inRegion ao (i::k)::bB) .run) aE w):=by
  intro v ac R ap aI a
  obtain⟨c6,dr,bE,tP,cI,cE,eV,iI,fG,hP⟩:=aI
  have Du:tP= .value (aF c6 ac)\/(tP= .skip/\aF c6 ac=Go.undef):=cE.imp id λ⟨E,b⟩=>⟨E,by rw[b];rfl⟩
  refine .head (EF aS bF cI Du) ?_
  rw[<-G9 fG.im aB.hR]
  exact CU f5 (aB.ext iI (fG.mono l9) hP) (aD.ad (fG.mono q5)) (Zy q5 hP) eV a
 cases r with
 |val ac=>exact done v ac h j k7 a
 |e2 ac R ap=>exact done v ac R ap k7 a
 |enter f args=>
  obtain⟨H,K⟩:=k7
  refine .head (Vc aS bF H) ?_
  simp only[ny]at a
  refine Mp f5 aB.V aB.kL aB.hS q5 ?_ (λB=>by simp[EI]at B) K a
  exact .cons (bN:= .run) aD trivial aB.hR aB.bot Jx aB.cs
 |known f args ac=>
  obtain⟨H,K,ak⟩:=k7
  obtain⟨aC,A0⟩:=auw cB aB.kL H
  simp only[ny]at a
  rcases aC with aC|⟨hW,gD⟩
  ·rw[aC J]at K
   refine .head (EF aS bF K (.inl rfl)) ?_
   exact CU f5 aB aD q5 (A0 Y) a
  ·rw[hW J]at K
   refine .head (Vc aS bF K) ?_
   obtain⟨B,bE,fr,⟨rfl,wo⟩,To,_,Gq⟩:=gD J (cn J fn bg aN ro tmps (.inRegion ao (i::k)::bB) .run::aE)
   refine .steps To (.head (step_leave_returned Gq) ?_)
   have af:hF C aA J Y h bl.heap.size w J Y h bE:=⟨λ_ _=>rfl,λ_ a=>a,λ_ a=> .inl a,λ_ _ _=>rfl,wo.mono aB.eX⟩
   exact CU f5 (aB.ext (aB.V.later wo) (af.mono Jx) (Zh _)) (aD.ad af) q5 (A0 Y) a
 |wrote f args aU=>
  obtain⟨⟨H,q0⟩,K,ak⟩:=k7
  obtain⟨hW,gD⟩:=avA (cJ:=aA) cB aB.V aB.kL H ak q0
  simp only[ny]at a
  rw[hW]at K
  refine .head (Vc aS bF K) ?_
  obtain⟨B,bE,fr,⟨rfl,hC,om,Bo,wo⟩,To,_,Gq⟩:=gD (cn J fn bg aN ro tmps (.inRegion ao (i::k)::bB) .run::aE)
  refine .steps To (.head (step_leave_returned Gq) ?_)
  have af:hF C aA J Y h bl.heap.size w J Y aU bE:=Bo.trans (Zh _) ⟨λ_ _=>rfl,λ_ a=>a,λ_ a=> .inl a,λ_ _ _=>rfl,wo.mono (Zy aB.eX Bo.below.size)⟩
  exact CU (ac:= .tuple []) f5 (aB.ext (om.later wo) (af.mono Jx) (Zh _)) (aD.ad af) q5 trivial a
 |round b args=>
  obtain⟨H,K,ak⟩:=k7
  simp only[ny]at a
  split at a
  ·rename_i st qz gK aP kU cZ params assign body ga gw
   split at a
   ·rename_i akX nG
    obtain⟨hA,gZ,mM,tQ,Hf,BQ,sM,BR⟩:=aB.V.obj b _ gw ak
    obtain⟨cP,cG⟩:=ayn params args cZ akX hA mM K nG
    rw[run_yield gZ (by simp[jH,cP])]at H
    refine .head (azb aS bF H) ?_
    have uQ:Frame.round (J b).cr gK (((params.toArray).zip (bK J args).toArray).foldl (λtmps (t,E)=>tmps.setIfInBounds t E) hA) assign body .normal=
     cn J gK [] false (some b) ((params.zip (bK J args)).foldl (λtmps p=>tmps.setIfInBounds p.1 p.2) hA) [.code assign, .beginRound, .code body] (gB J .run):=by
     simp[Frame.round,cn,gB]
    simp only at uQ ⊢
    rw[uQ]
    refine f5 _ _ _ _ _ _ _ _ _ _ _ _ v a J Y w aA _ _ _ ?_
    refine⟨aB.V,aB.kL,aB.hS,q5,⟨Zs,λk aw=>(by cases aw;exact ak),BR⟩,trivial,λB=>by simp[EI]at B, .cons (bN:= .run) aD trivial aB.hR aB.bot Jx aB.cs, ?_⟩
    exact .plain (.cons (.code Hf) (.cons .begin (.cons (.code BQ) .nil))) cG
   ·simp at a
  ·simp at a
 |defer d=>
  obtain⟨H,K⟩:=k7
  simp only[ny]at a
  cases ro with
  |some b=>simp at a
  |none=>
   simp only at a
   refine .head (ayX aS bF H) ?_
   have aq3:vF C Y fn am (d::bg) none:=⟨λlq aI=>by
    rcases Zr.1 aI with rfl|aI
    ·exact K
    ·exact aB.hR.bg lq aI,aB.hR.ro,aB.hR.fn⟩
   exact CU (ac:=undef) f5 ⟨aB.V,aB.kL,aB.hS,aB.j8,aq3,aB.bot,aB.cs⟩ aD q5 trivial a
 |recover=>
  simp only[ny]at a
  cases ro with
  |some b=>simp at a
  |none=>
   simp only at a
   split at a
   ·rename_i ac c3 asJ
    obtain⟨iZ,b4,b1,cM,eu⟩:=azD (fn:=fn) (bg:=bg) (tmps:=tmps) (bB:= .inRegion ao (i::k)::bB) aB.cs asJ
    refine .head (ay7 aS bF k7 eu) ?_
    exact CU (ac:=ac) f5 ⟨aB.V,aB.kL,aB.hS,aB.j8,aB.hR,λB=>aB.bot (cM B),b4⟩ aD q5 b1 a
   ·simp at a
 |panic ac=>
  obtain⟨H,K⟩:=k7
  simp only[ny]at a
  cases ro with
  |some b=>simp at a
  |none=>
   simp only at a
   refine .head (ay6 aS bF H) ?_
   refine f5 _ _ _ _ _ _ _ _ _ _ _ _ v a J Y w bC tmps _ aE ?_
   exact⟨aB.V,aB.kL,aB.hS,aB.j8,aB.hR,λp av=>by simp at av;subst av;exact K,aB.bot,aB.cs,aD.drop⟩
 |fork bQ=>
  obtain⟨ac,R,aZ,aI⟩:=k7
  simp only[ny]at a
  obtain⟨fd,b4,b1⟩:=aoE bQ v a ac R aZ
  exact .same b1 (done fd ac R j aI b4)
def aeY{U:Op}{ed:Operand->Option z}{b:Nat}{ac:z}{cN:ai}{dh:Nat->Prop}(a:p1 U C ed b=some (ac,cN)):uh C dh cN:=by
 have key:∀k:List z,uh C dh (.cells (S.ofList k 0 .nil) k.length .own):=λk=>⟨λ_ _ _ a=>(by cases a),λ_ _ _ a=>(by cases a;exact Hg)⟩
 have auu:uh C dh (.map [] 0):=⟨λ_ _ _ a=>(by cases a),λ_ _ _ a=>(by cases a)⟩
 cases U<;>simp only[p1]at a<;>(try(cases a;done))
 case alloc t=>unfold D1 at a;split at a<;>simp at a;rw[<-a.2];exact key _
 case box t x=>unfold Ku at a;split at a<;>simp at a;rw[<-a.2];exact key _
 case buildSlice t len j9=>
  unfold Kv at a
  split at a
  ·split at a
   ·simp only[d6]at a
    obtain⟨_,a⟩:=a
    split at a<;>simp at a
    rw[<-a.2];exact key _
   ·simp at a
  ·simp at a
 case makeMap t r=>cases r<;>simp at a;rw[<-a.2];exact auu
def anh{i:Nat}(aA:ao.toList.drop i=[]):ao.size<=i:=by simpa using aA
def aoo{am:Nat}{an:List (Nat×z)}:∀(k:List Oper) (i:Nat) (wr:List (Nat×Nat)) (kJ I cZ:S z),(∀t,fm am t=true->I.get t=match ee wr t with|some W=>ee an W|none=>kJ.get t)->
 xR an (k6 am k i) I=some cZ->∀t,fm am t=true->cZ.get t=match ee (vz k i wr) t with|some W=>ee an W|none=>kJ.get t:=by
 intro k
 induction k with
 |nil=>intro i wr kJ I cZ nG a;simp[k6,xR]at a;subst a;exact nG
 |cons U k ag=>
  intro i wr kJ I cZ nG a
  simp only[k6]at a
  simp only[vz]
  split at a
  ·rename_i d aI
   rw[eR]at a
   split at a
   ·rename_i ah
    simp only[xR]at a
    split at a
    ·rename_i ac aX
     simp only[gS]at a
     refine ag (i+1) _ kJ _ cZ (λt bh=> ?_) a
     rw[S.kw,Fy,aI]
     by_cases B:d=t
     ·subst B;simp[aX]
     ·simp[B];exact nG t bh
    ·simp at a
   ·rename_i ah
    refine ag (i+1) _ kJ _ cZ (λt bh=> ?_) a
    rw[Fy,aI]
    have B:d≠t:=λB=>ah (by rw[B];exact bh)
    simp[B];exact nG t bh
  ·rename_i aI
   refine ag (i+1) _ kJ _ cZ (λt bh=> ?_) a
   rw[Fy,aI]
   simp;exact nG t bh
def aa1{an:List (Nat×z)}{I cZ:S z}(bo:oT J Y am (λ_=>True) (io ao ao.size) an I tmps)(dW:tmps.size=n)(a:xR an (k6 am ao.toList 0) I=some cZ):jr J Y n am cZ tmps:=by
 refine⟨dW,λt ac aw aX=> ?_⟩
 have:=aoo (am:=am) (an:=an) ao.toList 0 [] I I cZ (λ_ _=>rfl) a t aw
 rw[aX]at this
 apply bo t ac trivial
 have B:io ao ao.size=vz ao.toList 0 []:=by unfold io;rw[ZH Zs]
 rw[B]
 cases bx:ee (vz ao.toList 0 []) t with
 |some W=>rw[bx]at this;exact this.symm
 |none=>rw[bx]at this;exact⟨aw,this.symm⟩
def agj(cB:Env C bl dD dQ)(f5:nw C bl bD bO ag){o:List dJ}{fin:List (Nat×Nat)}:∀(rest:List fh) (an:List (Nat×z)) (h:S ai) (j:Nat) (J:c1) (Y:Nat->Prop) (w:World) (tmps:Array Value) (k:List Nat) (aE:List Frame),
 ja C bl bD bO fn am bg aN ro cs h j J Y w bC aE->lI C J Y am o bB->P7 C J Y n am ao an rest fin I tmps k->
 y0 rest ⟨ag,ao,fin,o,⟨fn,n,am,bg,aN,ro,cs⟩⟩ C I an h j=some v->Ends C bl bD bO v (lone (cn J fn bg aN ro tmps (.inRegion ao k::bB) .run) aE w):=by
 intro rest
 induction rest with
 |nil=>
  intro an h j J Y w tmps k aE aB aC aD a
  obtain⟨i,aA,rfl,ax,rfl,bo,dW⟩:=aD
  have Ni:ao.size<=i:=by
   cases aI:ao.toList.drop i with
   |nil=>exact anh aI
   |cons U bQ=>
    rw[aI]at ax
    obtain⟨_,_,r,_,_,_,_,_,B⟩:=QB ax
    cases B
  have:i=ao.size:=Zo
  subst this
  simp only[zz,List.range'_zero]
  have cy:IB ⟨ag,ao,k6 am ao.toList 0,o,⟨fn,n,am,bg,aN,ro,cs⟩⟩ C I an h j=some v:=a
  simp only[IB,Mv,oB]at cy
  split at cy
  ·rename_i cZ nG
   refine .head agw ?_
   exact f5 _ _ _ _ _ _ _ _ _ _ _ _ v cy J Y w bC tmps bB aE (aB.state (.plain aC (aa1 bo dW nG)))
  ·simp at cy
 |cons x rest GO=>
  intro an h j J Y w tmps k aE aB aC aD a
  obtain⟨i,aA,rfl,ax,rfl,bo,dW⟩:=aD
  cases aI:ao.toList.drop i with
  |nil=>rw[aI]at ax;simp[sb]at ax
  |cons U bQ=>
   rw[aI]at ax
   obtain⟨g,op,r,dF,dR,g3,AH,ke,B⟩:=QB ax
   cases B
   obtain⟨cI,cE,eV⟩:=QZ aI
   rw[<-Lf cI, <-cE]at ke
   have GC:List.range' i (ao.size-i)=i::List.range' (i+1) (ao.size-(i+1)):=by
    rw[show ao.size-i=(ao.size-(i+1))+1 by omega,List.range'_succ]
   rw[GC]
   have qh:=aaB g3
   have tC:∀(c6:c1) (dr:Nat->Prop) (ac:z),oT c6 dr am (λ_=>True) (io ao i) an I tmps->b7 dr ac->P7 C c6 dr n am ao ((i,ac)::an) rest (k6 am ao.toList 0) I (pQ tmps U.dst (aF c6 ac)) (List.range' (i+1) (ao.size-(i+1))):=by
    intro c6 dr ac yz A0
    exact⟨i+1,Zo,rfl,ke,rfl,yz.put cI (by rw[dW];exact qh) A0,by rw[OT];exact dW⟩
   have kQ:∀(c6:c1) (ac:Value),(cn c6 fn bg aN ro tmps (.inRegion ao (i::List.range' (i+1) (ao.size-(i+1)))::bB) .run).finish ac=cn c6 fn bg aN ro (pQ tmps U.dst ac) (.inRegion ao (List.range' (i+1) (ao.size-(i+1)))::bB) .run:=by
    intro c6 ac
    rw[My (g:=cn c6 fn bg aN ro tmps _ .run) rfl cI];rfl
   have cy:Ej i g op rest (y0 rest) ⟨ag,ao,k6 am ao.toList 0,o,⟨fn,n,am,bg,aN,ro,cs⟩⟩ C I an h j=some v:=a
   simp only[Ej,Ps,oB]at cy
   split at cy
   ·rename_i VC oq
    have sH:=Pw aA dF bo (λ_ _ _ _ _=>trivial) (Sub.refl an) oq
    cases VC with
    |false=>
     simp only[Zw,ZA]at cy
     refine .head (Vd cI sH) ?_
     rw[kQ]
     exact GO _ _ _ _ _ _ _ _ _ aB aC (tC J Y undef bo trivial) cy
    |true=>
     simp only[ZC]at cy
     have yg:jc J Y (k0 tmps) (ji (io ao i) an I) U.op.operands.toList:=aaN bo (λ_ _=>trivial) AH aB.hS
     rw[OK]at cy
     cases ql:mG op with
     |h9=>
      simp only[ql,oB]at cy
      split at cy
      ·rename_i ac aX
       obtain⟨bd,ca⟩:=aeL aB.V yg dR aX
       refine .head (EF cI sH bd (.inl rfl)) ?_
       rw[kQ]
       exact GO _ _ _ _ _ _ _ _ _ aB aC (tC J Y ac bo ca) cy
      ·simp at cy
     |make=>
      simp only[ql,oB]at cy
      split at cy
      ·rename_i res nM
       simp only[Om,l6]at nM
       split at nM
       ·rename_i ac cN aZ
        simp only[gS,Zf]at nM
        subst nM
        have oi:=rv aB.V
        obtain⟨lA,ek,fN,iP⟩:=aeX (w:=w) (J:=J) oi yg (On dR aZ)
        have af:hF C bC J Y h bl.heap.size w (gh J j ⟨w.heap.size,0,0⟩) (add Y j) (bp C h j (some cN)) (w.alloc lA):=
         ⟨qG oi,λ_ a=> .inl a,λx a=>a.elim .inl (λa=> .inr (zC aB.j8)),λx af cS=>by rw[e9 _ aB.V.bf,Zg (zC aB.j8)],Below.alloc (Below.refl _ _) aB.eX _⟩
        have wm:=aB.V.alloc aB.V.bf (YK _) (Yb _) oi aB.eX rfl (R:=bp C h j (some cN)) (by rw[e9 _ aB.V.bf,Zq rfl]) (λx af=> .inl (by rw[e9 _ aB.V.bf,Zg af])) iP (aeY (On dR aZ))
        refine .head (EF cI sH ek (.inl rfl)) ?_
        rw[kQ, <-G9 af.im aB.hR]
        exact GO _ _ _ _ _ _ _ _ _ (aB.ext wm af (Yb _)) (aC.ad af.im af.jh) (tC _ _ ac (bo.ad af.im af.jh) fN) cy
       ·simp at nM
      ·simp at cy
     |fg=>
      simp only[ql,oB]at cy
      split at cy
      ·rename_i res nM
       have k7:=ach aB.V aB.eX cB.kk yg dR nM
       have att:mr C J Y h bC j n am I tmps (.s0 ao an i rest (k6 am ao.toList 0)::o) (.inRegion ao (i::List.range' (i+1) (ao.size-(i+1)))::bB):=
        .seq aC ⟨U,cI,qh,rfl,ke,rfl,bo,dW⟩
       have now:∀ac R ap,Ah C J Y h j bl.heap.size w (execOp (k0 tmps) U) ac R ap->y0 rest ⟨ag,ao,k6 am ao.toList 0,o,⟨fn,n,am,bg,aN,ro,cs⟩⟩ C I ((i,ac)::an) R ap=some v->
        Ends C bl bD bO v (lone (cn J fn bg aN ro tmps (.inRegion ao (i::List.range' (i+1) (ao.size-(i+1)))::bB) .run) aE w):=by
        intro ac R ap aI a
        obtain⟨c6,dr,bE,tP,bw,b3,er,iJ,n9,Iz⟩:=aI
        have Du:tP= .value (aF c6 ac)\/(tP= .skip/\aF c6 ac=Go.undef):=b3.imp id λ⟨E,b⟩=>⟨E,by rw[b];rfl⟩
        refine .head (EF cI sH bw Du) ?_
        rw[kQ, <-G9 n9.im aB.hR]
        exact GO _ _ _ _ _ _ _ _ _ (aB.ext iJ (n9.mono aB.j8) Iz) (aC.ad n9.im n9.jh) (tC _ _ ac (bo.ad n9.im n9.jh) er) a
       have p5:ny res ag C (.s0 ao an i rest (k6 am ao.toList 0)) o ⟨fn,n,am,bg,aN,ro,cs⟩ I h j=some v->Ends C bl bD bO v (lone (cn J fn bg aN ro tmps (.inRegion ao (i::List.range' (i+1) (ao.size-(i+1)))::bB) .run) aE w):=
        λa=>XY cB f5 aB att aB.j8 (Zh _) cI sH k7 a
       cases res with
       |val ac=>exact now ac h j k7 cy
       |e2 ac R ap=>exact now ac R ap k7 cy
       |_=>exact p5 cy
      ·simp at cy
   ·simp at cy
end
end Go.bn

namespace Go.bn
open Go.RowKit (Below)
def amJ{k:List Bool}(a:k.count false=0):∀b∈k,b=true:=by
 intro b ah
 cases b with
 |true=>rfl
 |false=>exact absurd ah (List.count_eq_zero.1 a)
def ayf{ao:Array Oper}(lV:Eh ao.toList 0=true):∀(fuel t:Nat) (ix:Array Bool),ix.size=ao.size->ix.toList.count false=fuel->
 vK ao (λi=>ix.getD i false=true) (Region.linearise.go .any ao fuel t ix []):=by
 intro fuel
 induction fuel with
 |zero=>
  intro t ix aD ax
  simp only[Region.linearise.go,List.reverse_nil]
  refine .nil λi aA=> ?_
  have cS:i<ix.size:=Zo
  have:=amJ ax ix[i] Zs
  simp[cS,this]
 |succ fuel ag=>
  intro t ix aD ax
  simp only[Region.linearise.go]
  have Sr:∃i,i<ao.size/\ix.getD i true=false:=by
   have u0:false∈ix.toList:=by
    rw[<-List.count_pos_iff];omega
   obtain⟨i,aA⟩:=Z2.1 u0
   have cS:i<ix.size:=by have:=(Zb.1 aA).1;simpa using this
   refine⟨i,Zo, ?_⟩
   rw[ZM]at aA
   simp[aA]
  have qm:∃i,i<ao.size/\ix.getD i true=false/\∀W,W<i->ix.getD W false=true:=by
   have key:∀m,(∃i,i<m/\i<ao.size/\ix.getD i true=false)->∃i,i<ao.size/\ix.getD i true=false/\∀W,W<i->ix.getD W false=true:=by
    intro m
    induction m with
    |zero=>rintro⟨i,a,_⟩;omega
    |succ m pI=>
     rintro⟨i,H,K,ak⟩
     by_cases al:∃i,i<m/\i<ao.size/\ix.getD i true=false
     ·exact pI al
     ·have:i=m:=by
       rcases zd i m with a|a
       ·exact absurd ⟨i,a,K,ak⟩ al
       ·omega
      subst this
      refine⟨i,K,ak,λW bx=> ?_⟩
      have cS:W<ix.size:=Zo
      cases ah:ix[W]with
      |true=>simp[cS,ah]
      |false=>exact absurd ⟨W,bx,Zo,by simp[cS,ah]⟩ al
   obtain⟨i,H,K⟩:=Sr
   exact key (i+1) ⟨i,Zo,H,K⟩
  obtain⟨i0,q6,atm,hc⟩:=qm
  have asI:i0∈Region.ready .any ao ix:=by
   rw[mem_ready]
   refine⟨atm,ao[i0],YY q6,λB a7 ah=> ?_⟩
   have:=awl lV i0 ao[i0] (by rw[ZM];exact YY q6) B (by simpa using a7) ah
   exact hc _ Zo
  change vK ao _ (match (Region.ready .any ao ix)[t%(Region.ready .any ao ix).length]? with
   |some i=>Region.linearise.go .any ao fuel (t/(Region.ready .any ao ix).length) (ix.setIfInBounds i true) [i]
   |none=>[].reverse)
  have ej:0<(Region.ready .any ao ix).length:=List.length_pos_of_mem asI
  have cS:t%(Region.ready .any ao ix).length<(Region.ready .any ao ix).length:=zq _ ej
  rw[Ze cS]
  simp only[]
  generalize aA:(Region.ready .any ao ix)[t%(Region.ready .any ao ix).length]=i
  have u0:i∈Region.ready .any ao ix:=by rw[<-aA];exact List.getElem_mem cS
  obtain⟨H,U,K,ak⟩:=mem_ready.1 u0
  have aBj:i<ao.size:=(ZS.1 K).1
  have jx:i<ix.size:=Zo
  have aco:ix[i]=false:=by simpa[jx]using H
  rw[linearise_go_acc,List.reverse_singleton,List.singleton_append]
  refine .cons K (by simp[jx,aco]) (λB a7 ah=>ak B (by simpa using a7) ah) ?_
  have cd:add (λi=>ix.getD i false=true) i=λW=>(ix.setIfInBounds i true).getD W false=true:=by
   funext W
   apply propext
   unfold add
   by_cases B:W=i
   ·subst B;simp[jx]
   ·rw[getD_set_ne false (λal=>B al.symm)]
    simp[B]
  rw[cd]
  refine ag _ _ (by simpa using aD) ?_
  rw[Array.toList_setIfInBounds,List.count_set (by simpa using jx)]
  have:(ix.toList[i]'(by simpa using jx))=false:=by simpa using aco
  simp[this,ax]
def ayg{ao:Array Oper}(lV:Eh ao.toList 0=true)(t:Nat):vK ao (λ_=>False) (Region.schedule true ao t):=by
 simp only[Region.schedule,Bool.true_or,ZC,Region.linearise]
 have:=ayf lV ao.size t (Array.replicate ao.size false) Zs Zs
 have B:(λi=>(Array.replicate ao.size false).getD i false=true)=λ_=>False:=by
  funext i
  apply propext
  by_cases a:i<ao.size<;>simp[a]
 rw[B]at this
 exact this
section
variable{C:aK}{J c6 dD:c1}{Y dr dQ:Nat->Prop}{h R:S ai}{j ap bj:Nat}{w bE:World}{n am:Nat}{ao:Array Oper}
variable{bl:World}{bD:Nat}{bO:List Frame}{v:z}{ag:hr}
variable{fn:Nat}{bg:List hE}{aN:Bool}{ro:Option Nat}{cs:List gz}{I:S z}{tmps:Array Value}{bB:List Item}{aE:List Frame}{bC aA:Nat}
def atX{op:jS}(aC:mG op= .h9)(aD:B6 op=false)(h R:S ai)(an:List (Nat×z))(I:S z):gJ op C h an I=gJ op C R an I:=by
 cases op<;>simp only[gJ]<;>(try rfl)<;>simp[B6]at aD
 case h9 bY U=>cases U<;>simp[B6]at aD<;>rfl
def pq.refl(h:S ai):pq C h h:=λ_=> .inl rfl
def pq.trans{aU aQ br:S ai}(a:pq C aU aQ)(o:pq C aQ br):pq C aU br:=λx=>by
 rcases a x with a|a
 ·rcases o x with o|o
  ·exact .inl (a.trans o)
  ·exact .inr (a.trans o)
 ·exact .inr a
def aeJ(h:S ai):pq C .nil h:=by
 intro b
 unfold Z
 rw[eR,eR]
 split
 ·exact .inl rfl
 ·exact .inr rfl
def am6{base:Nat}(aM:C.bf<=base):∀(k:List fh) (an:List (Nat×z)) (h:S ai) (hs:List (Nat×z)) (R:S ai),(k.Pairwise λE b=>E.i≠b.i)->(∀x∈k,ee an x.i=none/\Z C h (base+x.i)=none/\nP x.op=false)->
 vZ C base I k an h=some (hs,R)->Sub an hs/\pq C h R/\(∀i,ee hs i≠none->ee an i≠none\/∃x∈k,x.i=i)/\(∀b,Z C R b≠Z C h b->∃x∈k,b=base+x.i)/\
 ∀x∈k,∃ac,(∀Y,Lp C Y R base hs I x ac)/\HW C R hs I x ac:=by
 intro k
 induction k with
 |nil=>
  intro an h hs R _ _ a
  simp[vZ]at a
  obtain⟨rfl,rfl⟩:=a
  exact⟨Sub.refl _,pq.refl _,λi a=> .inl a,λb a=>absurd rfl a,Zs⟩
 |cons x k ag=>
  intro an h hs R av b8 a
  rw[zr]at av
  obtain⟨ec,dq⟩:=av
  obtain⟨MC,Rl,Rm⟩:=b8 x (Zu ..)
  have step:∀(ac:z) (aU:S ai),pq C h aU->(∀b,Z C aU b≠Z C h b->b=base+x.i)->vZ C base I k ((x.i,ac)::an) aU=some (hs,R)->
   (∀hs R,Sub ((x.i,ac)::an) hs->pq C aU R->(Z C aU (base+x.i)≠none->Z C R (base+x.i)=Z C aU (base+x.i))->(∀Y,Lp C Y R base hs I x ac)/\HW C R hs I x ac)->
   Sub an hs/\pq C h R/\(∀i,ee hs i≠none->ee an i≠none\/∃iR∈x::k,iR.i=i)/\(∀b,Z C R b≠Z C h b->∃iR∈x::k,b=base+iR.i)/\∀iR∈x::k,∃ac,(∀Y,Lp C Y R base hs I iR ac)/\HW C R hs I iR ac:=by
   intro ac aU lu wt aI af
   have yw:Sub an ((x.i,ac)::an):=Sub.cons MC
   have qi:∀iR∈k,ee ((x.i,ac)::an) iR.i=none/\Z C aU (base+iR.i)=none/\nP iR.op=false:=by
    intro iR qs
    obtain⟨b4,b1,cM⟩:=b8 iR (Zt _ qs)
    have cK:=ec iR qs
    refine⟨by rw[qO,Zg cK];exact b4, ?_,cM⟩
    by_cases al:Z C aU (base+iR.i)=Z C h (base+iR.i)
    ·rw[al];exact b1
    ·have:=wt _ al;omega
   obtain⟨bJ,b2,cF,fb,eS⟩:=ag _ _ _ _ dq qi aI
   have JK:Z C R (base+x.i)=Z C aU (base+x.i):=by
    by_cases al:Z C R (base+x.i)=Z C aU (base+x.i)
    ·exact al
    ·obtain⟨iR,qs,B⟩:=fb _ al
     exact absurd Zo (ec iR qs)
   refine⟨yw.trans bJ,lu.trans b2,λi aA=> ?_,λb ah=> ?_,λiR qs=> ?_⟩
   ·rcases cF i aA with H|⟨iR,H,K⟩
    ·rw[qO]at H
     split at H
     ·rename_i B;exact .inr ⟨x,Zu ..,B⟩
     ·exact .inl H
    ·exact .inr ⟨iR,Zt _ H,K⟩
   ·by_cases al:Z C R b=Z C aU b
    ·rw[al]at ah
     exact⟨x,Zu ..,wt b ah⟩
    ·obtain⟨iR,H,K⟩:=fb b al
     exact⟨iR,Zt _ H,K⟩
   ·rcases Zr.1 qs with rfl|qs
    ·exact⟨ac,af hs R bJ b2 (λ_=>JK)⟩
    ·exact eS iR qs
  have JK:∀(ac:z) (hs:List (Nat×z)),Sub ((x.i,ac)::an) hs->ee hs x.i=some ac:=λac hs aD=>aD _ _ (by rw[qO,Zq rfl])
  simp only[vZ]at a
  split at a
  ·simp at a
  ·rename_i bF
   refine step undef h (pq.refl _) (λb ah=>absurd rfl ah) a λhs R aD aw _=> ?_
   have Bj:Sub an hs:=(Sub.cons MC).trans aD
   exact⟨λY=>⟨JK _ _ aD,an,false,Bj,bF,λ_=>rfl,Zs⟩,an, .nil,false,Bj,aeJ _,bF,Zs⟩
  ·rename_i bF
   cases aC:mG x.op with
   |make=>
    rw[aC]at a
    simp only at a
    split at a
    ·rename_i ac cN aZ
     simp only[gS]at a
     have ah:C.bf<=base+x.i:=Zo
     refine step ac _ (λb=> ?_) (λb jm=> ?_) a λhs R aD aw Nq=> ?_
     ·rw[e9 _ ah]
      by_cases B:b=base+x.i
      ·subst B;exact .inr Rl
      ·rw[Zg B];exact .inl rfl
     ·rw[e9 _ ah]at jm
      by_cases B:b=base+x.i
      ·exact B
      ·rw[Zg B]at jm;exact absurd rfl jm
     ·have Bj:Sub an hs:=(Sub.cons MC).trans aD
      have gw:Z C R (base+x.i)=some cN:=by
       rw[Nq (by rw[e9 _ ah,Zq rfl];simp),e9 _ ah,Zq rfl]
      exact⟨λY=>⟨JK _ _ aD,an,true,Bj,bF,Zs,λ_=>⟨Rm,λ_=>⟨cN,aZ,gw⟩,λal=>by rw[aC]at al;cases al⟩⟩,an,h,true,Bj,
       (by
        intro b
        rcases aw b with al|al
        ·rw[e9 _ ah]at al
         by_cases B:b=base+x.i
         ·subst B;exact .inr Rl
         ·rw[Zg B]at al;exact .inl al
        ·rw[e9 _ ah]at al
         by_cases B:b=base+x.i
         ·subst B;exact .inr Rl
         ·rw[Zg B]at al;exact .inr al),bF,λ_ al=>by rw[aC]at al;cases al⟩
    ·simp at a
   |h9=>
    rw[aC]at a
    simp only at a
    split at a
    ·rename_i ac aX
     refine step ac h (pq.refl _) (λb ah=>absurd rfl ah) a λhs R aD aw _=> ?_
     have Bj:Sub an hs:=(Sub.cons MC).trans aD
     exact⟨λY=>⟨JK _ _ aD,an,true,Bj,bF,Zs,λ_=>⟨Rm,λal=>(by rw[aC]at al;cases al),λ_ GF je=>by rw[atX aC GF je h];exact aX⟩⟩,an,h,true,Bj,aw,bF,λ_ _=>aX⟩
    ·simp at a
   |fg=>simp[nP,aC]at Rm
end
end Go.bn

