/- The law TypesLocal holds of the given program (its tied card) -/
import Derived.Test.YtpfajohmofnkfaaGreatDoorYt
import Derived.Test.YtpfajohmofnkfaaGreatDoorYu
set_option maxHeartbeats 8000000
set_option linter.all false
namespace Go.Proofs.YtpfajohmofnkfaaGreatDoor
open Go.ChangeShapes Go.WideShapes Go.ChangeAt Go.RowKit
def alG(os:Os)(args:Array Value):laidMetH Tryz.prog Rows.typesLocalRow.laid ((World.doorLaid Tryz.prog 271 os).forCall (λ_ _=>0) ⟨#[],args,[]⟩).memory:=
 laidMetH_of_parts3 (fuel:=8) (laidMet_of_run' 8 Zk Zk) Zk Zk
set_option maxRecDepth 100000 in
def ats(os:Os)(Tz:os.Started)(rD:Type)(enc:TypeId×Value->rD):
 ReturnsInHanded {} Tryz.checked os 8 .any (λw args=>(Rows.typesLocalSpec.pre enc Tryz.prog Tryz.f8 [] false w args/\laidMetH Tryz.prog Rows.typesLocalRow.laid w)/\sizedMet enc Tryz.prog Tryz.f8 (OpenSpec.ofChange Rows.typesLocalSpec) false w args)
  (Rows.typesLocalSpec.post enc Tryz.prog Tryz.f8 false true false false):=by
 refine returnsInHanded_of_change_and (C:=Tryz.checked) (X:=λw _=>laidMetH Tryz.prog Rows.typesLocalRow.laid w) (λ_ _ _ gD a=>a.of_heap gD) Tryz.own Tz Zk Tryz.func8
  (ChangeSpec.witness_shaped (enc:=enc) (C:=Tryz.checked) (os:=os) (X:=λw _=>laidMetH Tryz.prog Rows.typesLocalRow.laid w) false (World.doorLaid Tryz.prog 271 os) #[.slice none 0 0] 8 rfl (World.shaped_of_RefB Zk Zk) Zk Zk Zk (alG os _)) ?_
 intro bA base args ds aq ay6 acf LR _ _ gr _
 have FI:∀(aa:Nat) t v,Tryz.f8.params[aa]? =some t->args[aa]? =some v->Value.okWide Tryz.prog bA .any base t v:=acf
 have aaB:=LR
 obtain⟨p,am,υ,QK,rfl,azK,wT⟩:=LR
 have lT:DataW.TrodAll enc Tryz.prog bA 0 (λ_=>true) true Tryz.f8.params.toList args.toList ds p:=υ
 rw[Tryz.params8]at lT FI
 obtain⟨v0,pu,rfl,rfl,b6⟩:=trodAll_one lT
 obtain⟨rfl,rfl⟩:=trodVars_none QK
 have pB:laidMet Tryz.prog Rows.typesLocalRow.laid bA:=by
  rw[<-MakeChecks.laidMetH_plain _ _ _ Zk]
  exact gr
 clear υ acf
 have aqj:∀x∈p,x.block<bA.heap.size:=λx ah=>by simpa using aaB.lt x (by simp[ah])
 obtain⟨cn,A8,aC⟩:=akn (FI 0 22 v0 rfl rfl) b6
 refine(awI bA pB A8 aC).mono λJ ayY ⟨bx,aj⟩=> ?_
 subst bx
 exact⟨_,rfl,_,_,_,[]++[],p,[],aaB,trodAll_mk1 (shut_bool Zk true),trodAll_mk1 (Below.trod Tryz.laid Zk (of_decide_eq_true Zk) b6 aj aqj),rfl,Below.frame aj _,λa=>by cases a⟩
def asA:joinedFacts Tryz.checked.prog 8 Tryz.f8 Rows.typesLocalSpec Rows.typesLocalRow=true:=by
 unfold joinedFacts
 simp only[Zp]
 repeat' apply Za
 all_goals(as_aux_lemma=>kernel_rfl)
def ate:Rows.TypesLocalSaid:=
 OpenClaim.holds_of_wide 8 Tryz.f8 rfl rfl rfl rfl rfl rfl rfl ⟨rfl,rfl,rfl,rfl,rfl⟩ rfl rfl rfl rfl rfl (by as_aux_lemma=>kernel_rfl) Tryz.func8 asA
  (of_decide_eq_true (by as_aux_lemma=>kernel_rfl)) (by unfold Func.isWrapper;first|(rw[Zq (by decide+kernel)];kernel_rfl)|(rw[Zg (by decide+kernel)];exact⟨rfl,rfl⟩))
  (λos Tz rD enc _=>ats os Tz rD enc)
theorem card_holds:Rows.TypesLocalCardSaid:=
 Claim7.holds_tied_plain_at .later [] Rows.typesLocalCard.laidKinds true Rows.typesLocalCard.stood.harness Rows.typesLocalCard.stood.looks
  ate (λ_ a=>by cases a) (by as_aux_lemma=>kernel_rfl) (λ_ a=>by cases a) awv rfl ⟨rfl,rfl⟩ (by as_aux_lemma=>kernel_rfl) rfl
  (λf fn ch apO=>by
   obtain rfl:f=8:=Yx ((show Tryz.prog.funcNamed Rows.typesLocalRow.func=some 8 by kernel_rfl).symm.trans ch)|>.symm
   obtain rfl:fn=Tryz.f8:=(Yx (Tryz.func8.symm.trans apO)).symm
   exact⟨by kernel_rfl,λaa t bc=>by
    rw[Tryz.params8]at bc
    have bp:t∈[22]:=by simpa using Y6 bc
    have kO:([22].all λae=> !Tryz.prog.wantsStandIn ae)=true:=Zk
    exact(show Tryz.prog.wantsStandIn t=false by simpa using List.all_eq_true.1 kO t bp)⟩)
  (by as_aux_lemma=>kernel_rfl)
end Go.Proofs.YtpfajohmofnkfaaGreatDoor

