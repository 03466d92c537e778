/- The law InitialFby holds of the given program (its tied card) -/
import Derived.Test.YtpfajohmofnkfaaGreatDoorYs
import Derived.Test.YtpfajohmofnkfaaGreatDoorYt
set_option maxHeartbeats 8000000
set_option linter.all false
namespace Go.Proofs.YtpfajohmofnkfaaGreatDoor
open Go.ChangeShapes Go.WideShapes Go.ChangeAt Go.RowKit
def aoM(os:Os)(args:Array Value):laidMetH Tryz.prog Rows.initialFbyRow.laid ((World.doorLaid Tryz.prog 271 os).forCall (λ_ _=>0) ⟨#[],args,[]⟩).memory:=
 laidMetH_of_parts3 (fuel:=8) (laidMet_of_run' 8 Zk Zk) Zk Zk
set_option maxRecDepth 100000 in
def awN(os:Os)(Wm:os.Started)(sW:Type)(enc:TypeId×Value->sW):
 ReturnsInHanded {} Tryz.checked os 11 .any (λw args=>(Rows.initialFbySpec.pre enc Tryz.prog Tryz.f11 [] false w args/\laidMetH Tryz.prog Rows.initialFbyRow.laid w)/\sizedMet enc Tryz.prog Tryz.f11 (OpenSpec.ofChange Rows.initialFbySpec) false w args)
  (Rows.initialFbySpec.post enc Tryz.prog Tryz.f11 false true false false):=by
 refine returnsInHanded_of_change_and (C:=Tryz.checked) (X:=λw _=>laidMetH Tryz.prog Rows.initialFbyRow.laid w) (λ_ _ _ gH a=>a.of_heap gH) Tryz.own Wm Zk Tryz.func11
  (ChangeSpec.witness_shaped (enc:=enc) (C:=Tryz.checked) (os:=os) (X:=λw _=>laidMetH Tryz.prog Rows.initialFbyRow.laid w) false (World.doorLaid Tryz.prog 271 os) #[.slice none 0 0] 8 rfl (World.shaped_of_RefB Zk Zk) Zk Zk Zk (aoM os _)) ?_
 intro bA base args ds ai aCn afe hY _ _ f6 _
 have HQ:∀(W:Nat) t v,Tryz.f11.params[W]? =some t->args[W]? =some v->Value.okWide Tryz.prog bA .any base t v:=afe
 have adC:=hY
 obtain⟨p,ah,adb,Tq,rfl,aCX,O3⟩:=hY
 have mu:DataW.TrodAll enc Tryz.prog bA 0 (λ_=>true) true Tryz.f11.params.toList args.toList ds p:=adb
 rw[Tryz.params11]at mu HQ
 obtain⟨v0,qm,rfl,rfl,aS⟩:=trodAll_one mu
 obtain⟨rfl,rfl⟩:=trodVars_none Tq
 have oN:laidMet Tryz.prog Rows.initialFbyRow.laid bA:=by
  rw[<-MakeChecks.laidMetH_plain _ _ _ Zk]
  exact f6
 clear adb afe
 have atz:∀x∈p,x.block<bA.heap.size:=λx af=>by simpa using adC.lt x (by simp[af])
 obtain⟨cl,CQ,az⟩:=anp (HQ 0 22 v0 rfl rfl) aS
 refine(az3 bA oN CQ az).mono λE aCk ⟨bs,aj⟩=> ?_
 subst bs
 exact⟨_,rfl,_,_,_,[]++[],p,[],adC,trodAll_mk1 (shut_bool Zk true),trodAll_mk1 (Below.trod Tryz.laid Zk (of_decide_eq_true Zk) aS aj atz),rfl,Below.frame aj _,λa=>by cases a⟩
def avY:joinedFacts Tryz.checked.prog 11 Tryz.f11 Rows.initialFbySpec Rows.initialFbyRow=true:=by
 unfold joinedFacts
 simp only[Zp]
 repeat' apply Za
 all_goals(as_aux_lemma=>kernel_rfl)
def awy:Rows.InitialFbySaid:=
 OpenClaim.holds_of_wide 11 Tryz.f11 rfl rfl rfl rfl rfl rfl rfl ⟨rfl,rfl,rfl,rfl,rfl⟩ rfl rfl rfl rfl rfl (by as_aux_lemma=>kernel_rfl) Tryz.func11 avY
  (of_decide_eq_true (by as_aux_lemma=>kernel_rfl)) (by unfold Func.isWrapper;first|(rw[Zu (by decide+kernel)];kernel_rfl)|(rw[Zg (by decide+kernel)];exact⟨rfl,rfl⟩))
  (λos Wm sW enc _=>awN os Wm sW enc)
theorem card_holds:Rows.InitialFbyCardSaid:=
 Claim7.holds_tied_plain_at .later [] Rows.initialFbyCard.laidKinds true Rows.initialFbyCard.stood.harness Rows.initialFbyCard.stood.looks
  awy (λ_ a=>by cases a) (by as_aux_lemma=>kernel_rfl) (λ_ a=>by cases a) azP rfl ⟨rfl,rfl⟩ (by as_aux_lemma=>kernel_rfl) rfl
  (λf fn ch as5=>by
   obtain rfl:f=11:=YB ((show Tryz.prog.funcNamed Rows.initialFbyRow.func=some 11 by kernel_rfl).symm.trans ch)|>.symm
   obtain rfl:fn=Tryz.f11:=(YB (Tryz.func11.symm.trans as5)).symm
   exact⟨by kernel_rfl,λW t a6=>by
    rw[Tryz.params11]at a6
    have bp:t∈[22]:=by simpa using Y4 a6
    have j7:([22].all λac=> !Tryz.prog.wantsStandIn ac)=true:=Zk
    exact(show Tryz.prog.wantsStandIn t=false by simpa using YI.1 j7 t bp)⟩)
  (by as_aux_lemma=>kernel_rfl)
end Go.Proofs.YtpfajohmofnkfaaGreatDoor

