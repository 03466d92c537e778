/- The law ScopeOne holds of the given program (its tied card): for every source, the first 5000 bytes. Conditions: none but the card's own. -/
import Derived.Test.YtpfajohmofnkfaaGreatDoorYC
set_option maxHeartbeats 8000000
set_option linter.unusedVariables false
set_option linter.unusedSimpArgs false
namespace Go.Proofs.YtpfajohmofnkfaaGreatDoor
open Go.ChangeShapes Go.WideShapes Go.ChangeAt Go.RowKit
theorem ah4(os:Os)(args:Array Value):laidMetH Tryz.prog Rows.scopeOneRow.laid ((World.doorLaid Tryz.prog 271 os).forCall (λ_ _=>0) ⟨#[],args,[]⟩).memory:=
 laidMetH_of_parts3 (fuel:=8) (laidMet_of_run' 8 (by kernel_rfl) (by kernel_rfl)) (by kernel_rfl) (by kernel_rfl)
set_option maxRecDepth 100000 in
theorem aoU(os:Os)(RH:os.Started)(oC:Type)(enc:TypeId×Value->oC):
 ReturnsInHanded {} Tryz.checked os 3 .any (λw args=>(Rows.scopeOneSpec.pre enc Tryz.prog Tryz.f3 [] false w args/\laidMetH Tryz.prog Rows.scopeOneRow.laid w)/\sizedMet enc Tryz.prog Tryz.f3 (OpenSpec.ofChange Rows.scopeOneSpec) false w args)
  (Rows.scopeOneSpec.post enc Tryz.prog Tryz.f3 false true false false):=by
 refine returnsInHanded_of_change_and (C:=Tryz.checked) (X:=λw _=>laidMetH Tryz.prog Rows.scopeOneRow.laid w) (λ_ _ _ gB a=>a.of_heap gB) Tryz.own RH (by kernel_rfl) Tryz.func3
  (ChangeSpec.witness_shaped (enc:=enc) (C:=Tryz.checked) (os:=os) (X:=λw _=>laidMetH Tryz.prog Rows.scopeOneRow.laid w) false (World.doorLaid Tryz.prog 271 os) #[.slice none 0 0] 8 rfl (World.shaped_of_RefB (by kernel_rfl) (by kernel_rfl)) (by kernel_rfl) (by kernel_rfl) (by kernel_rfl) (ah4 os _)) ?_
 intro bD base args ds aC at4 β vH _ _ gz _
 have xE:∀(aa:Nat) t v,Tryz.f3.params[aa]? =some t->args[aa]? =some v->Value.okWide Tryz.prog bD .any base t v:=β
 have WC:=vH
 obtain⟨p,ar,Wg,xf,rfl,auw,ub⟩:=vH
 have lA:DataW.TrodAll enc Tryz.prog bD 0 (λ_=>true) true Tryz.f3.params.toList args.toList ds p:=Wg
 rw[Tryz.params3]at lA xE
 obtain⟨v0,oN,rfl,rfl,ci⟩:=trodAll_one lA
 obtain⟨rfl,rfl⟩:=trodVars_none xf
 have nn:laidMet Tryz.prog Rows.scopeOneRow.laid bD:=by
  rw[<-MakeChecks.laidMetH_plain _ _ _ (by kernel_rfl)]
  exact gz
 clear Wg β
 have amc:∀x∈p,x.block<bD.heap.size:=λx ag=>by simpa using WC.lt x (by simp[ag])
 obtain⟨ch,Ag,aE⟩:=agP (xE 0 22 v0 rfl rfl) ci
 refine(arU bD nn Ag aE).mono λE at0 ⟨aW,ai⟩=> ?_
 subst aW
 exact⟨_,rfl,_,_,_,[]++[],p,[],WC,trodAll_mk1 (shut_bool (by kernel_rfl) true),trodAll_mk1 (Below.trod Tryz.laid (by kernel_rfl) (of_decide_eq_true (by kernel_rfl)) ci ai amc),rfl,Below.frame ai _,λa=>by cases a⟩
theorem aoa:joinedFacts Tryz.checked.prog 3 Tryz.f3 Rows.scopeOneSpec Rows.scopeOneRow=true:=by
 unfold joinedFacts
 simp only[Zk]
 repeat' apply Za
 all_goals(as_aux_lemma=>kernel_rfl)
theorem aoF:Rows.ScopeOneSaid:=
 OpenClaim.holds_of_wide 3 Tryz.f3 rfl rfl rfl rfl rfl rfl rfl ⟨rfl,rfl,rfl,rfl,rfl⟩ rfl rfl rfl rfl rfl (by as_aux_lemma=>kernel_rfl) Tryz.func3 aoa
  (of_decide_eq_true (by as_aux_lemma=>kernel_rfl)) (by unfold Func.isWrapper;first|(rw[Zr (by decide+kernel)];kernel_rfl)|(rw[Zg (by decide+kernel)];exact⟨rfl,rfl⟩))
  (λos RH oC enc _=>aoU os RH oC enc)
theorem card_holds:Rows.ScopeOneCardSaid:=
 Claim7.holds_tied_plain_at .later [] Rows.scopeOneCard.laidKinds true Rows.scopeOneCard.stood.harness Rows.scopeOneCard.stood.looks
  aoF (λ_ a=>by cases a) (by as_aux_lemma=>kernel_rfl) (λ_ a=>by cases a) scopeOne_row_tie rfl ⟨rfl,rfl⟩ (by as_aux_lemma=>kernel_rfl) rfl
  (λf fn b5 alK=>by
   obtain rfl:f=3:=Yi ((show Tryz.prog.funcNamed Rows.scopeOneRow.func=some 3 by kernel_rfl).symm.trans b5)|>.symm
   obtain rfl:fn=Tryz.f3:=(Yi (Tryz.func3.symm.trans alK)).symm
   exact⟨by kernel_rfl,λaa t aT=>by
    rw[Tryz.params3]at aT
    have bi:t∈[22]:=by simpa using za aT
    have hm:([22].all λad=> !Tryz.prog.wantsStandIn ad)=true:=by kernel_rfl
    exact(show Tryz.prog.wantsStandIn t=false by simpa using List.all_eq_true.1 hm t bi)⟩)
  (by as_aux_lemma=>kernel_rfl)
end Go.Proofs.YtpfajohmofnkfaaGreatDoor

