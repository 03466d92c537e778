/- The law InitialKnown holds of the given program (its tied card) -/
import Derived.Test.YtpfajohmofnkfaaGreatDoorYt
import Derived.Test.YtpfajohmofnkfaaGreatDoorYu
import Derived.Test.YtpfajohmofnkfaaGreatDoorYv
set_option maxHeartbeats 8000000
set_option linter.all false
namespace Go.Proofs.YtpfajohmofnkfaaGreatDoor
open Go.ChangeShapes Go.WideShapes Go.ChangeAt Go.RowKit
def akt(os:Os)(args:Array Value):laidMetH Tryz.prog Rows.initialKnownRow.laid ((World.doorLaid Tryz.prog 271 os).forCall (λ_ _=>0) ⟨#[],args,[]⟩).memory:=
 laidMetH_of_parts3 (fuel:=8) (laidMet_of_run' 8 Zk Zk) Zk Zk
set_option maxRecDepth 100000 in
def arH(os:Os)(SY:os.Started)(ph:Type)(enc:TypeId×Value->ph):
 ReturnsInHanded {} Tryz.checked os 10 .any (λw args=>(Rows.initialKnownSpec.pre enc Tryz.prog Tryz.f10 [] false w args/\laidMetH Tryz.prog Rows.initialKnownRow.laid w)/\sizedMet enc Tryz.prog Tryz.f10 (OpenSpec.ofChange Rows.initialKnownSpec) false w args)
  (Rows.initialKnownSpec.post enc Tryz.prog Tryz.f10 false true false false):=by
 refine returnsInHanded_of_change_and (C:=Tryz.checked) (X:=λw _=>laidMetH Tryz.prog Rows.initialKnownRow.laid w) (λ_ _ _ gb a=>a.of_heap gb) Tryz.own SY Zk Tryz.func10
  (ChangeSpec.witness_shaped (enc:=enc) (C:=Tryz.checked) (os:=os) (X:=λw _=>laidMetH Tryz.prog Rows.initialKnownRow.laid w) false (World.doorLaid Tryz.prog 271 os) #[.slice none 0 0] 8 rfl (World.shaped_of_RefB Zk Zk) Zk Zk Zk (akt os _)) ?_
 intro bD base args ds ap awN abr te _ _ f0 _
 have FM:∀(Y:Nat) t v,Tryz.f10.params[Y]? =some t->args[Y]? =some v->Value.okWide Tryz.prog bD .any base t v:=abr
 have γ:=te
 obtain⟨p,an,XM,Qi,rfl,axh,Ml⟩:=te
 have l1:DataW.TrodAll enc Tryz.prog bD 0 (λ_=>true) true Tryz.f10.params.toList args.toList ds p:=XM
 rw[Tryz.params10]at l1 FM
 obtain⟨v0,nN,rfl,rfl,cj⟩:=trodAll_one l1
 obtain⟨rfl,rfl⟩:=trodVars_none Qi
 have q0:laidMet Tryz.prog Rows.initialKnownRow.laid bD:=by
  rw[<-MakeChecks.laidMetH_plain _ _ _ Zk]
  exact f0
 clear XM abr
 have aoO:∀x∈p,x.block<bD.heap.size:=λx ag=>by simpa using γ.lt x (by simp[ag])
 obtain⟨cm,A9,aB⟩:=ajf (FM 0 22 v0 rfl rfl) cj
 refine(auE bD q0 A9 aB).mono λF awJ ⟨bt,ai⟩=> ?_
 subst bt
 exact⟨_,rfl,_,_,_,[]++[],p,[],γ,trodAll_mk1 (shut_bool Zk true),trodAll_mk1 (Below.trod Tryz.laid Zk (of_decide_eq_true Zk) cj ai aoO),rfl,Below.frame ai _,λa=>by cases a⟩
def ars:Rows.InitialKnownSaid:=
 OpenClaim.holds_of_wide 10 Tryz.f10 rfl rfl rfl rfl rfl rfl rfl ⟨rfl,rfl,rfl,rfl,rfl⟩ rfl rfl rfl rfl rfl (by as_aux_lemma=>kernel_rfl) Tryz.func10 aqO
  (of_decide_eq_true (by as_aux_lemma=>kernel_rfl)) (by unfold Func.isWrapper;first|(rw[Zq (by decide+kernel)];kernel_rfl)|(rw[Zh (by decide+kernel)];exact⟨rfl,rfl⟩))
  (λos SY ph enc _=>arH os SY ph enc)
theorem card_holds:Rows.InitialKnownCardSaid:=
 Claim7.holds_tied_plain_at .later [] Rows.initialKnownCard.laidKinds true Rows.initialKnownCard.stood.harness Rows.initialKnownCard.stood.looks
  ars (λ_ a=>by cases a) (by as_aux_lemma=>kernel_rfl) (λ_ a=>by cases a) aus rfl ⟨rfl,rfl⟩ (by as_aux_lemma=>kernel_rfl) rfl
  (λf fn ce aoo=>by
   obtain rfl:f=10:=Yu ((show Tryz.prog.funcNamed Rows.initialKnownRow.func=some 10 by kernel_rfl).symm.trans ce)|>.symm
   obtain rfl:fn=Tryz.f10:=(Yu (Tryz.func10.symm.trans aoo)).symm
   exact⟨by kernel_rfl,λY t be=>by
    rw[Tryz.params10]at be
    have bp:t∈[22]:=by simpa using Y0 be
    have jP:([22].all λad=> !Tryz.prog.wantsStandIn ad)=true:=Zk
    exact(show Tryz.prog.wantsStandIn t=false by simpa using YQ.1 jP t bp)⟩)
  (by as_aux_lemma=>kernel_rfl)
end Go.Proofs.YtpfajohmofnkfaaGreatDoor

