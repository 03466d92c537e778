/- The law ScopeSpoils holds of the given program (its tied card) -/
import Derived.Test.YtbbkkkpgjaopkaaGreatDoorYC
import Derived.Test.YtbbkkkpgjaopkaaGreatDoorYD
import Derived.HandedShaped
set_option maxHeartbeats 8000000
set_option linter.all false
namespace Go.Proofs.YtbbkkkpgjaopkaaGreatDoor
open Go.ChangeShapes Go.WideShapes Go.ChangeAt Go.RowKit
def aj9(os:Os)(args:Array Value):laidMetH Tryz.prog Rows.scopeSpoilsRow.laid ((World.doorLaid Tryz.prog 271 os).forCall (λ_ _=>0) ⟨#[],args,[]⟩).memory:=
 laidMetH_of_parts3 (fuel:=8) (laidMet_of_run' 8 Zk Zk) Zk Zk
def anh{mc:Type}{enc:TypeId×Value->mc}{E:Assume}{C:Checked}{os:Os}{f:FuncId}{fn:Func}{s:ChangeSpec}{WJ:List PathCond}{Cr fresh μ EI:Bool}{X:World->Array Value->Prop}
 (bN:∀(w w':World) (args:Array Value),w.heap=w'.heap->X w args->X w' args)(own:ownKnob C.prog.godebug=none)(JT:os.Started)(asx:C.prog.inits.idxOf? f=none)(Iv:C.prog.funcs[f]? =some fn)
 (awp:∃(w:World) (tape:Tape) (i:Input),w.os=os/\(w.forCall tape i).Shaped C.prog/\i.vars=[]/\Input.okWide C.prog (w.forCall tape i) .any w.heap.size f i/\
  ((s.pre enc C.prog fn WJ Cr (w.forCall tape i).memory i.args/\X (w.forCall tape i).memory i.args)/\sizedMet enc C.prog fn (OpenSpec.ofChange s) Cr (w.forCall tape i).memory i.args)/\E.holds C.prog (lone (Frame.enter C.prog f i.args .normal) [] (w.forCall tape i)))
 (ajQ:∀(bv:World) (base:Nat) (args:Array Value) (ds an:List (DataW mc)) (KL:List MemPlace),(∀(Y:Nat) t v,fn.params[Y]? =some t->args[Y]? =some v->Value.okWide C.prog bv .any base t v)->
  DataW.Whole enc C.prog fn.params.toList s.vars Cr bv args.toList ds an KL->bv.ShapedOpen C.prog->X bv args->Calls C.prog f args bv λD OQ=>∃v,D= .returned v/\s.post enc C.prog fn Cr fresh μ EI bv args v OQ):
 ReturnsInHanded E C os f .any (λw args=>(s.pre enc C.prog fn WJ Cr w args/\X w args)/\sizedMet enc C.prog fn (OpenSpec.ofChange s) Cr w args) (s.post enc C.prog fn Cr fresh μ EI):=by
 refine returnsInHanded_of_calls own JT asx awp λw tape i _ kw _ dE ao7 _=> ?_
 obtain⟨_,_,_,gF,an2,_,_,_,_,xV⟩:=dE
 cases Ym (an2.symm.trans Iv)
 obtain⟨⟨⟨ds,an,KL,br,aA⟩,af⟩,cf⟩:=ao7
 refine(ajQ (w.forCall tape i) w.heap.size i.args ds an KL xV (DataW.Whole.of_heap (w':=w.forCall tape i) (by rfl) br) kw (bN _ _ _ (by rfl) af)).mono λD OQ ⟨v,bt,ay⟩=> ?_
 subst bt
 exact ChangeSpec.post_blind ay
set_option maxRecDepth 100000 in
def arz(os:Os)(JT:os.Started)(mc:Type)(enc:TypeId×Value->mc):
 ReturnsInHanded {} Tryz.checked os 4 .any (λw args=>(Rows.scopeSpoilsSpec.pre enc Tryz.prog Tryz.f4 [] false w args/\laidMetH Tryz.prog Rows.scopeSpoilsRow.laid w)/\sizedMet enc Tryz.prog Tryz.f4 (OpenSpec.ofChange Rows.scopeSpoilsSpec) false w args)
  (Rows.scopeSpoilsSpec.post enc Tryz.prog Tryz.f4 false true false false):=by
 refine anh (C:=Tryz.checked) (X:=λw _=>laidMetH Tryz.prog Rows.scopeSpoilsRow.laid w) (λ_ _ _ f8 a=>a.of_heap f8) Tryz.own JT Zk Tryz.func4
  (ChangeSpec.witness_shaped (enc:=enc) (C:=Tryz.checked) (os:=os) (X:=λw _=>laidMetH Tryz.prog Rows.scopeSpoilsRow.laid w) false (World.doorLaid Tryz.prog 271 os) #[.slice none 0 0, .agg #[.int .u8 0, .int .u8 0]] 8 rfl (World.shaped_of_RefB Zk Zk) Zk Zk Zk (aj9 os _)) ?_
 intro bv base args ds an KL abt η kw dY
 have xV:∀(Y:Nat) t v,Tryz.f4.params[Y]? =some t->args[Y]? =some v->Value.okWide Tryz.prog bv .any base t v:=abt
 have QH:=η
 obtain⟨p,ai,XV,QG,rfl,aw9,uM⟩:=η
 have ld:DataW.TrodAll enc Tryz.prog bv 0 (λ_=>true) true Tryz.f4.params.toList args.toList ds p:=XV
 rw[Tryz.params4]at ld xV
 obtain⟨v0,J4,kq,cB,yf,e3,rfl,rfl,rfl,bi,H⟩:=trodAll_two ld
 obtain⟨rfl,rfl⟩:=trodVars_none QG
 have Fl:laidMet Tryz.prog Rows.scopeSpoilsRow.laid bv:=by
  rw[<-MakeChecks.laidMetH_plain _ _ _ Zk]
  exact dY
 clear XV abt
 have aoA:∀x∈yf,x.block<bv.heap.size:=λx af=>by simpa using QH.lt x (by simp[af])
 have aoB:∀x∈e3,x.block<bv.heap.size:=λx af=>by simpa using QH.lt x (by simp[af])
 obtain⟨xs,AQ,aB⟩:=aiW (xV 0 22 v0 rfl rfl) bi
 obtain⟨hb,fX,RX,xX,rfl⟩:=aiY (xV 1 45 J4 rfl rfl) H
 refine(aux bv (ar7 kw) Fl RX xX AQ aB).mono λD OQ ⟨bt,al⟩=> ?_
 subst bt
 exact⟨_,rfl,_,_,_,[]++[],yf++e3,[],QH,trodAll_mk1 (shut_bool Zk true),trodAll_mk2 (Below.trod Tryz.laid Zk (zy Zk) bi al aoA) (Below.trod Tryz.laid Zk (zy Zk) H al aoB),rfl,Below.frame al _,λa=>by cases a⟩
def aqF:joinedFacts Tryz.checked.prog 4 Tryz.f4 Rows.scopeSpoilsSpec Rows.scopeSpoilsRow=true:=by
 unfold joinedFacts
 simp only[Zq]
 repeat' apply Za
 all_goals(as_aux_lemma=>kernel_rfl)
def arc:Rows.ScopeSpoilsSaid:=
 OpenClaim.holds_of_wide 4 Tryz.f4 rfl rfl rfl rfl rfl rfl rfl ⟨rfl,rfl,rfl,rfl,rfl⟩ rfl rfl rfl rfl rfl (by as_aux_lemma=>kernel_rfl) Tryz.func4 aqF
  (zy (by as_aux_lemma=>kernel_rfl)) (by unfold Func.isWrapper;first|(rw[Zu (by decide+kernel)];kernel_rfl)|(rw[Zg (by decide+kernel)];exact⟨rfl,rfl⟩))
  (λos JT mc enc _=>arz os JT mc enc)
theorem card_holds:Rows.ScopeSpoilsCardSaid:=
 Claim7.holds_tied_plain_at .later [] Rows.scopeSpoilsCard.laidKinds true Rows.scopeSpoilsCard.stood.harness Rows.scopeSpoilsCard.stood.looks
  arc (λ_ a=>by cases a) (by as_aux_lemma=>kernel_rfl) (λ_ a=>by cases a) aum rfl ⟨rfl,rfl⟩ (by as_aux_lemma=>kernel_rfl) rfl
  (λf fn bW Iv=>by
   obtain rfl:f=4:=Ym ((show Tryz.prog.funcNamed Rows.scopeSpoilsRow.func=some 4 by kernel_rfl).symm.trans bW)|>.symm
   obtain rfl:fn=Tryz.f4:=(Ym (Tryz.func4.symm.trans Iv)).symm
   exact⟨by kernel_rfl,λY t a8=>by
    rw[Tryz.params4]at a8
    have bc:t∈[22,45]:=by simpa using zg a8
    have hA:([22,45].all λab=> !Tryz.prog.wantsStandIn ab)=true:=Zk
    exact(show Tryz.prog.wantsStandIn t=false by simpa using zm.1 hA t bc)⟩)
  (by as_aux_lemma=>kernel_rfl)
end Go.Proofs.YtbbkkkpgjaopkaaGreatDoor

