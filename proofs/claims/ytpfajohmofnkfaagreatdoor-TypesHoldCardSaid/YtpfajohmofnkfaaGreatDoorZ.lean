/- The law TypesHold holds of the given program (its tied card) -/
import Derived.Test.YtpfajohmofnkfaaGreatDoorYt
import Derived.Test.YtpfajohmofnkfaaGreatDoorYu
set_option maxHeartbeats 8000000
set_option linter.all false
namespace Go.Proofs.YtpfajohmofnkfaaGreatDoor
open Go.ChangeShapes Go.WideShapes Go.ChangeAt Go.RowKit
def alR(os:Os)(args:Array Value):laidMetH Tryz.prog Rows.typesHoldRow.laid ((World.doorLaid Tryz.prog 271 os).forCall (λ_ _=>0) ⟨#[],args,[]⟩).memory:=
 laidMetH_of_parts3 (fuel:=8) (laidMet_of_run' 8 Zk Zk) Zk Zk
set_option maxRecDepth 100000 in
def atL(os:Os)(TK:os.Started)(pE:Type)(enc:TypeId×Value->pE):
 ReturnsInHanded {} Tryz.checked os 6 .any (λw args=>(Rows.typesHoldSpec.pre enc Tryz.prog Tryz.f6 [] false w args/\laidMetH Tryz.prog Rows.typesHoldRow.laid w)/\sizedMet enc Tryz.prog Tryz.f6 (OpenSpec.ofChange Rows.typesHoldSpec) false w args)
  (Rows.typesHoldSpec.post enc Tryz.prog Tryz.f6 false true false false):=by
 refine returnsInHanded_of_change_and (C:=Tryz.checked) (X:=λw _=>laidMetH Tryz.prog Rows.typesHoldRow.laid w) (λ_ _ _ gK a=>a.of_heap gK) Tryz.own TK Zk Tryz.func6
  (ChangeSpec.witness_shaped (enc:=enc) (C:=Tryz.checked) (os:=os) (X:=λw _=>laidMetH Tryz.prog Rows.typesHoldRow.laid w) false (World.doorLaid Tryz.prog 271 os) #[.slice none 0 0] 8 rfl (World.shaped_of_RefB Zk Zk) Zk Zk Zk (alR os _)) ?_
 intro bn base args ds aq aze acj Mk _ _ gn _
 have Gb:∀(aa:Nat) t v,Tryz.f6.params[aa]? =some t->args[aa]? =some v->Value.okWide Tryz.prog bn .any base t v:=acj
 have aaL:=Mk
 obtain⟨p,ao,aah,QU,rfl,azP,MQ⟩:=Mk
 have mj:DataW.TrodAll enc Tryz.prog bn 0 (λ_=>true) true Tryz.f6.params.toList args.toList ds p:=aah
 rw[Tryz.params6]at mj Gb
 obtain⟨v0,m4,rfl,rfl,ch⟩:=trodAll_one mj
 obtain⟨rfl,rfl⟩:=trodVars_none QU
 have n9:laidMet Tryz.prog Rows.typesHoldRow.laid bn:=by
  rw[<-MakeChecks.laidMetH_plain _ _ _ Zk]
  exact gn
 clear aah acj
 have aqu:∀x∈p,x.block<bn.heap.size:=λx ah=>by simpa using aaL.lt x (by simp[ah])
 obtain⟨cp,By,aD⟩:=akw (Gb 0 22 v0 rfl rfl) ch
 refine(aw0 bn n9 By aD).mono λI ay8 ⟨bA,ai⟩=> ?_
 subst bA
 exact⟨_,rfl,_,_,_,[]++[],p,[],aaL,trodAll_mk1 (shut_bool Zk true),trodAll_mk1 (Below.trod Tryz.laid Zk (of_decide_eq_true Zk) ch ai aqu),rfl,Below.frame ai _,λa=>by cases a⟩
def asO:joinedFacts Tryz.checked.prog 6 Tryz.f6 Rows.typesHoldSpec Rows.typesHoldRow=true:=by
 unfold joinedFacts
 simp only[Zp]
 repeat' apply Za
 all_goals(as_aux_lemma=>kernel_rfl)
def atw:Rows.TypesHoldSaid:=
 OpenClaim.holds_of_wide 6 Tryz.f6 rfl rfl rfl rfl rfl rfl rfl ⟨rfl,rfl,rfl,rfl,rfl⟩ rfl rfl rfl rfl rfl (by as_aux_lemma=>kernel_rfl) Tryz.func6 asO
  (of_decide_eq_true (by as_aux_lemma=>kernel_rfl)) (by unfold Func.isWrapper;first|(rw[Zr (by decide+kernel)];kernel_rfl)|(rw[Zh (by decide+kernel)];exact⟨rfl,rfl⟩))
  (λos TK pE enc _=>atL os TK pE enc)
theorem card_holds:Rows.TypesHoldCardSaid:=
 Claim7.holds_tied_plain_at .later [] Rows.typesHoldCard.laidKinds true Rows.typesHoldCard.stood.harness Rows.typesHoldCard.stood.looks
  atw (λ_ a=>by cases a) (by as_aux_lemma=>kernel_rfl) (λ_ a=>by cases a) awO rfl ⟨rfl,rfl⟩ (by as_aux_lemma=>kernel_rfl) rfl
  (λf fn b9 ap3=>by
   obtain rfl:f=6:=Yv ((show Tryz.prog.funcNamed Rows.typesHoldRow.func=some 6 by kernel_rfl).symm.trans b9)|>.symm
   obtain rfl:fn=Tryz.f6:=(Yv (Tryz.func6.symm.trans ap3)).symm
   exact⟨by kernel_rfl,λaa t bb=>by
    rw[Tryz.params6]at bb
    have bs:t∈[22]:=by simpa using Y3 bb
    have k2:([22].all λae=> !Tryz.prog.wantsStandIn ae)=true:=Zk
    exact(show Tryz.prog.wantsStandIn t=false by simpa using List.all_eq_true.1 k2 t bs)⟩)
  (by as_aux_lemma=>kernel_rfl)
end Go.Proofs.YtpfajohmofnkfaaGreatDoor

