/- The law ClocksBelow holds of the given program (its tied card) -/
import Derived.Test.YtpeabpmnlmaabaaGreatDoorYr
import Derived.Test.YtpeabpmnlmaabaaGreatDoorYs
set_option maxHeartbeats 8000000
set_option linter.all false
namespace Go.Proofs.YtpeabpmnlmaabaaGreatDoor
open Go.ChangeShapes Go.WideShapes Go.ChangeAt Go.RowKit
def aq9(os:Os)(args:Array Value):laidMetH Tryz.prog Rows.clocksBelowRow.laid ((World.doorLaid Tryz.prog 271 os).forCall (λ_ _=>0) ⟨#[],args,[]⟩).memory:=
 laidMetH_of_parts3 (fuel:=8) (laidMet_of_run' 8 Zk Zk) Zk Zk
set_option maxRecDepth 100000 in
def ayS(os:Os)(XG:os.Started)(ti:Type)(enc:TypeId×Value->ti):
 ReturnsInHanded {} Tryz.checked os 3 .any (λw args=>(Rows.clocksBelowSpec.pre enc Tryz.prog Tryz.f3 [] false w args/\laidMetH Tryz.prog Rows.clocksBelowRow.laid w)/\sizedMet enc Tryz.prog Tryz.f3 (OpenSpec.ofChange Rows.clocksBelowSpec) false w args)
  (Rows.clocksBelowSpec.post enc Tryz.prog Tryz.f3 false true false false):=by
 refine returnsInHanded_of_change_and (C:=Tryz.checked) (X:=λw _=>laidMetH Tryz.prog Rows.clocksBelowRow.laid w) (λ_ _ _ gx a=>a.of_heap gx) Tryz.own XG Zk Tryz.func3
  (ChangeSpec.witness_shaped (enc:=enc) (C:=Tryz.checked) (os:=os) (X:=λw _=>laidMetH Tryz.prog Rows.clocksBelowRow.laid w) false (World.doorLaid Tryz.prog 271 os) #[.slice none 0 0] 8 rfl (World.shaped_of_RefB Zk Zk) Zk Zk Zk (aq9 os _)) ?_
 intro bG base args ds am aEF agX ru _ _ gS _
 have IE:∀(S:Nat) t v,Tryz.f3.params[S]? =some t->args[S]? =some v->Value.okWide Tryz.prog bG .any base t v:=agX
 have ae6:=ru
 obtain⟨p,aj,aeB,Uz,rfl,aE9,AF⟩:=ru
 have mN:DataW.TrodAll enc Tryz.prog bG 0 (λ_=>true) true Tryz.f3.params.toList args.toList ds p:=aeB
 rw[Tryz.params3]at mN IE
 obtain⟨v0,iq,rfl,rfl,aX⟩:=trodAll_one mN
 obtain⟨rfl,rfl⟩:=trodVars_none Uz
 have sy:laidMet Tryz.prog Rows.clocksBelowRow.laid bG:=by
  rw[<-MakeChecks.laidMetH_plain _ _ _ Zk]
  exact gS
 clear aeB agX
 have avF:∀x∈p,x.block<bG.heap.size:=λx ae=>by simpa using ae6.lt x (by simp[ae])
 obtain⟨cn,CM,aC⟩:=apH (IE 0 22 v0 rfl rfl) aX
 refine(aCb bG sy CM aC).mono λE aED ⟨bC,ag⟩=> ?_
 subst bC
 exact⟨_,rfl,_,_,_,[]++[],p,[],ae6,trodAll_mk1 (shut_bool Zk true),trodAll_mk1 (Below.trod Tryz.laid Zk (of_decide_eq_true Zk) aX ag avF),rfl,Below.frame ag _,λa=>by cases a⟩
def axS:joinedFacts Tryz.checked.prog 3 Tryz.f3 Rows.clocksBelowSpec Rows.clocksBelowRow=true:=by
 unfold joinedFacts
 simp only[Zp]
 repeat' apply Za
 all_goals(as_aux_lemma=>kernel_rfl)
def ayA:Rows.ClocksBelowSaid:=
 OpenClaim.holds_of_wide 3 Tryz.f3 rfl rfl rfl rfl rfl rfl rfl ⟨rfl,rfl,rfl,rfl,rfl⟩ rfl rfl rfl rfl rfl (by as_aux_lemma=>kernel_rfl) Tryz.func3 axS
  (of_decide_eq_true (by as_aux_lemma=>kernel_rfl)) (by unfold Func.isWrapper;first|(rw[Zr (by decide+kernel)];kernel_rfl)|(rw[Zh (by decide+kernel)];exact⟨rfl,rfl⟩))
  (λos XG ti enc _=>ayS os XG ti enc)
theorem card_holds:Rows.ClocksBelowCardSaid:=
 Claim7.holds_tied_plain_at .later [] Rows.clocksBelowCard.laidKinds true Rows.clocksBelowCard.stood.harness Rows.clocksBelowCard.stood.looks
  ayA (λ_ a=>by cases a) (by as_aux_lemma=>kernel_rfl) (λ_ a=>by cases a) aBY rfl ⟨rfl,rfl⟩ (by as_aux_lemma=>kernel_rfl) rfl
  (λf fn b7 avb=>by
   obtain rfl:f=3:=Ys ((show Tryz.prog.funcNamed Rows.clocksBelowRow.func=some 3 by kernel_rfl).symm.trans b7)|>.symm
   obtain rfl:fn=Tryz.f3:=(Ys (Tryz.func3.symm.trans avb)).symm
   exact⟨by kernel_rfl,λS t be=>by
    rw[Tryz.params3]at be
    have bp:t∈[22]:=by simpa using Y8 be
    have k0:([22].all λac=> !Tryz.prog.wantsStandIn ac)=true:=Zk
    exact(show Tryz.prog.wantsStandIn t=false by simpa using Yw.1 k0 t bp)⟩)
  (by as_aux_lemma=>kernel_rfl)
end Go.Proofs.YtpeabpmnlmaabaaGreatDoor

