/- The law CauseRound holds of the given program (its tied card) -/
import Derived.Test.YtehmapikajmjaaaGreatDoorYt
import Derived.Test.YtehmapikajmjaaaGreatDoorYu
set_option maxHeartbeats 8000000
set_option linter.all false
namespace Go.Proofs.YtehmapikajmjaaaGreatDoor
open Go.ChangeShapes Go.WideShapes Go.ChangeAt Go.RowKit
def Pc(os:Os)(args:Array Value):laidMetH Tryz.prog Rows.causeRoundRow.laid ((World.doorLaid Tryz.prog 271 os).forCall (λ_ _=>0) ⟨#[],args,[]⟩).memory:=
 laidMetH_of_parts3 (fuel:=8) (laidMet_of_run' 8 Zk Zk) Zk Zk
set_option maxRecDepth 100000 in
def St(os:Os)(O:os.Started)(k:Type)(enc:TypeId×Value->k):
 ReturnsInHanded {} Tryz.checked os 3 .any (λw args=>(Rows.causeRoundSpec.pre enc Tryz.prog Tryz.f3 [] false w args/\laidMetH Tryz.prog Rows.causeRoundRow.laid w)/\sizedMet enc Tryz.prog Tryz.f3 (OpenSpec.ofChange Rows.causeRoundSpec) false w args)
  (Rows.causeRoundSpec.post enc Tryz.prog Tryz.f3 false true false false):=by
 refine returnsInHanded_of_change_and (C:=Tryz.checked) (X:=λw _=>laidMetH Tryz.prog Rows.causeRoundRow.laid w) (λ_ _ _ s h=>h.of_heap s) Tryz.own O Zk Tryz.func3
  (ChangeSpec.witness_shaped (enc:=enc) (C:=Tryz.checked) (os:=os) (X:=λw _=>laidMetH Tryz.prog Rows.causeRoundRow.laid w) false (World.doorLaid Tryz.prog 271 os) #[.slice none 0 0] 8 rfl (World.shaped_of_RefB Zk Zk) Zk Zk Zk (Pc os _)) ?_
 intro aZ base args bb Y T0 i d _ _ l _;have g:∀(j:Nat) t v,Tryz.f3.params[j]? =some t->args[j]? =some v->Value.okWide Tryz.prog aZ .any base t v:=i;have f:=d;obtain⟨p,V,c,n,rfl,T2,T3⟩:=d;have b:DataW.TrodAll enc Tryz.prog aZ 0 (λ_=>true) true Tryz.f3.params.toList args.toList bb p:=c;rw[Tryz.params3]at b g;obtain⟨v0,T1,rfl,rfl,a⟩:=trodAll_one b;obtain⟨rfl,rfl⟩:=trodVars_none n;have m:laidMet Tryz.prog Rows.causeRoundRow.laid aZ:=by rw[<-MakeChecks.laidMetH_plain _ _ _ Zk];exact l
 clear c i;have G:∀x∈p,x.block<aZ.heap.size:=λx L=>by simpa using f.lt x (by simp[L])
 obtain⟨T4,N,A⟩:=N7 (g 0 22 v0 rfl rfl) a;refine(abv aZ (S3 aZ) m N A).mono λe P ⟨r,W⟩=> ?_;subst r;exact⟨_,rfl,_,_,_,[]++[],p,[],f,trodAll_mk1 (shut_bool Zk true),trodAll_mk1 (Below.trod Tryz.laid Zk (of_decide_eq_true Zk) a W G),rfl,Below.frame W _,λh=>by cases h⟩
def RR:joinedFacts Tryz.checked.prog 3 Tryz.f3 Rows.causeRoundSpec Rows.causeRoundRow=true:=by
 unfold joinedFacts;simp only[Zu]
 repeat' apply Za
 all_goals(as_aux_lemma=>kernel_rfl)
def Se:Rows.CauseRoundSaid:=
 OpenClaim.holds_of_wide 3 Tryz.f3 rfl rfl rfl rfl rfl rfl rfl ⟨rfl,rfl,rfl,rfl,rfl⟩ rfl rfl rfl rfl rfl (by as_aux_lemma=>kernel_rfl) Tryz.func3 RR
  (of_decide_eq_true (by as_aux_lemma=>kernel_rfl)) (by unfold Func.isWrapper;first|(rw[Zv (by decide+kernel)];kernel_rfl)|(rw[Zi (by decide+kernel)];exact⟨rfl,rfl⟩))
  (λos b a enc _=>St os b a enc)
theorem card_holds:Rows.CauseRoundCardSaid:=
 Claim7.holds_tied_plain_at .later [] Rows.causeRoundCard.laidKinds true Rows.causeRoundCard.stood.harness Rows.causeRoundCard.stood.looks
  Se (λ_ h=>by cases h) (by as_aux_lemma=>kernel_rfl) (λ_ h=>by cases h) abm rfl ⟨rfl,rfl⟩ (by as_aux_lemma=>kernel_rfl) rfl
  (λf fn c d=>by
   obtain rfl:f=3:=Y6 ((show Tryz.prog.funcNamed Rows.causeRoundRow.func=some 3 by kernel_rfl).symm.trans c)|>.symm;obtain rfl:fn=Tryz.f3:=(Y6 (Tryz.func3.symm.trans d)).symm;exact⟨by kernel_rfl,λj t a=>by
    rw[Tryz.params3]at a;have e:t∈[22]:=(by simpa using zl a);have b:([22].all λR=> !Tryz.prog.wantsStandIn R)=true:=Zk;exact(show Tryz.prog.wantsStandIn t=false by simpa using zr.1 b t e)⟩)
  (by as_aux_lemma=>kernel_rfl)
end Go.Proofs.YtehmapikajmjaaaGreatDoor
