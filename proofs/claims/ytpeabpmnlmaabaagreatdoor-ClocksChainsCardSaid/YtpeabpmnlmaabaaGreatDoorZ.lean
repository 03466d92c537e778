/- The law ClocksChains holds of the given program (its tied card) -/
import Derived.Test.YtpeabpmnlmaabaaGreatDoorYr
import Derived.Test.YtpeabpmnlmaabaaGreatDoorYs
set_option maxHeartbeats 8000000
set_option linter.all false
namespace Go.Proofs.YtpeabpmnlmaabaaGreatDoor
open Go.ChangeShapes Go.WideShapes Go.ChangeAt Go.RowKit
def ap5(os:Os)(args:Array Value):laidMetH Tryz.prog Rows.clocksChainsRow.laid ((World.doorLaid Tryz.prog 271 os).forCall (λ_ _=>0) ⟨#[],args,[]⟩).memory:=
 laidMetH_of_parts3 (fuel:=8) (laidMet_of_run' 8 Zk Zk) Zk Zk
set_option maxRecDepth 100000 in
def axN(os:Os)(W9:os.Started)(s0:Type)(enc:TypeId×Value->s0):
 ReturnsInHanded {} Tryz.checked os 5 .any (λw args=>(Rows.clocksChainsSpec.pre enc Tryz.prog Tryz.f5 [] false w args/\laidMetH Tryz.prog Rows.clocksChainsRow.laid w)/\sizedMet enc Tryz.prog Tryz.f5 (OpenSpec.ofChange Rows.clocksChainsSpec) false w args)
  (Rows.clocksChainsSpec.post enc Tryz.prog Tryz.f5 false true false false):=by
 refine returnsInHanded_of_change_and (C:=Tryz.checked) (X:=λw _=>laidMetH Tryz.prog Rows.clocksChainsRow.laid w) (λ_ _ _ gU a=>a.of_heap gU) Tryz.own W9 Zk Tryz.func5
  (ChangeSpec.witness_shaped (enc:=enc) (C:=Tryz.checked) (os:=os) (X:=λw _=>laidMetH Tryz.prog Rows.clocksChainsRow.laid w) false (World.doorLaid Tryz.prog 271 os) #[.slice none 0 0] 8 rfl (World.shaped_of_RefB Zk Zk) Zk Zk Zk (ap5 os _)) ?_
 intro bF base args ds an aDv af4 tn _ _ gT _
 have HW:∀(T:Nat) t v,Tryz.f5.params[T]? =some t->args[T]? =some v->Value.okWide Tryz.prog bF .any base t v:=af4
 have aem:=tn
 obtain⟨p,aj,adS,T3,rfl,aD0,Ag⟩:=tn
 have mF:DataW.TrodAll enc Tryz.prog bF 0 (λ_=>true) true Tryz.f5.params.toList args.toList ds p:=adS
 rw[Tryz.params5]at mF HW
 obtain⟨v0,jn,rfl,rfl,aY⟩:=trodAll_one mF
 obtain⟨rfl,rfl⟩:=trodVars_none T3
 have qv:laidMet Tryz.prog Rows.clocksChainsRow.laid bF:=by
  rw[<-MakeChecks.laidMetH_plain _ _ _ Zk]
  exact gT
 clear adS af4
 have auG:∀x∈p,x.block<bF.heap.size:=λx ae=>by simpa using aem.lt x (by simp[ae])
 obtain⟨ci,Cl,az⟩:=aoF (HW 0 22 v0 rfl rfl) aY
 refine(aBb bF qv Cl az).mono λE aDt ⟨bz,ag⟩=> ?_
 subst bz
 exact⟨_,rfl,_,_,_,[]++[],p,[],aem,trodAll_mk1 (shut_bool Zk true),trodAll_mk1 (Below.trod Tryz.laid Zk (of_decide_eq_true Zk) aY ag auG),rfl,Below.frame ag _,λa=>by cases a⟩
def awM:joinedFacts Tryz.checked.prog 5 Tryz.f5 Rows.clocksChainsSpec Rows.clocksChainsRow=true:=by
 unfold joinedFacts
 simp only[Zq]
 repeat' apply Za
 all_goals(as_aux_lemma=>kernel_rfl)
def axs:Rows.ClocksChainsSaid:=
 OpenClaim.holds_of_wide 5 Tryz.f5 rfl rfl rfl rfl rfl rfl rfl ⟨rfl,rfl,rfl,rfl,rfl⟩ rfl rfl rfl rfl rfl (by as_aux_lemma=>kernel_rfl) Tryz.func5 awM
  (of_decide_eq_true (by as_aux_lemma=>kernel_rfl)) (by unfold Func.isWrapper;first|(rw[Zp (by decide+kernel)];kernel_rfl)|(rw[Zh (by decide+kernel)];exact⟨rfl,rfl⟩))
  (λos W9 s0 enc _=>axN os W9 s0 enc)
theorem card_holds:Rows.ClocksChainsCardSaid:=
 Claim7.holds_tied_plain_at .later [] Rows.clocksChainsCard.laidKinds true Rows.clocksChainsCard.stood.harness Rows.clocksChainsCard.stood.looks
  axs (λ_ a=>by cases a) (by as_aux_lemma=>kernel_rfl) (λ_ a=>by cases a) aAY rfl ⟨rfl,rfl⟩ (by as_aux_lemma=>kernel_rfl) rfl
  (λf fn cb at8=>by
   obtain rfl:f=5:=Yu ((show Tryz.prog.funcNamed Rows.clocksChainsRow.func=some 5 by kernel_rfl).symm.trans cb)|>.symm
   obtain rfl:fn=Tryz.f5:=(Yu (Tryz.func5.symm.trans at8)).symm
   exact⟨by kernel_rfl,λT t a8=>by
    rw[Tryz.params5]at a8
    have bo:t∈[22]:=by simpa using Y4 a8
    have ly:([22].all λac=> !Tryz.prog.wantsStandIn ac)=true:=Zk
    exact(show Tryz.prog.wantsStandIn t=false by simpa using List.all_eq_true.1 ly t bo)⟩)
  (by as_aux_lemma=>kernel_rfl)
end Go.Proofs.YtpeabpmnlmaabaaGreatDoor

