/- The law CausePre holds of the given program (its tied card) -/
import Derived.Test.YtendhgofocgngaaGreatDoorYB
import Derived.Test.YtendhgofocgngaaGreatDoorYC
set_option maxHeartbeats 8000000
set_option linter.all false
namespace Go.Proofs.YtendhgofocgngaaGreatDoor
open Go.ChangeShapes Go.WideShapes Go.ChangeAt Go.RowKit
def am8(os:Os)(args:Array Value):laidMetH Tryz.prog Rows.causePreRow.laid ((World.doorLaid Tryz.prog 271 os).forCall (λ_ _=>0) ⟨#[],args,[]⟩).memory:=
 laidMetH_of_parts3 (fuel:=8) (laidMet_of_run' 8 Zk Zk) Zk Zk
set_option maxRecDepth 100000 in
def au1(os:Os)(Vf:os.Started)(nu:Type)(enc:TypeId×Value->nu):
 ReturnsInHanded {} Tryz.checked os 3 .any (λw args=>(Rows.causePreSpec.pre enc Tryz.prog Tryz.f3 [] false w args/\laidMetH Tryz.prog Rows.causePreRow.laid w)/\sizedMet enc Tryz.prog Tryz.f3 (OpenSpec.ofChange Rows.causePreSpec) false w args)
  (Rows.causePreSpec.post enc Tryz.prog Tryz.f3 false true false false):=by
 refine returnsInHanded_of_change_and (C:=Tryz.checked) (X:=λw _=>laidMetH Tryz.prog Rows.causePreRow.laid w) (λ_ _ _ gC a=>a.of_heap gC) Tryz.own Vf Zk Tryz.func3
  (ChangeSpec.witness_shaped (enc:=enc) (C:=Tryz.checked) (os:=os) (X:=λw _=>laidMetH Tryz.prog Rows.causePreRow.laid w) false (World.doorLaid Tryz.prog 271 os) #[.slice none 0 0, .int .u8 0] 8 rfl (World.shaped_of_RefB Zk Zk) Zk Zk Zk (am8 os _)) ?_
 intro bv base args ds aE aAA adU C8 _ _ gj _
 have Du:∀(W:Nat) t v,Tryz.f3.params[W]? =some t->args[W]? =some v->Value.okWide Tryz.prog bv .any base t v:=adU
 have R3:=C8
 obtain⟨p,al,abA,R2,rfl,acv,Nz⟩:=C8
 have k7:DataW.TrodAll enc Tryz.prog bv 0 (λ_=>true) true Tryz.f3.params.toList args.toList ds p:=abA
 rw[Tryz.params3]at k7 Du
 obtain⟨v0,EP,mZ,cI,ry,e7,rfl,rfl,rfl,a8,H⟩:=trodAll_two k7
 obtain⟨rfl,rfl⟩:=trodVars_none R2
 have uG:laidMet Tryz.prog Rows.causePreRow.laid bv:=by
  rw[<-MakeChecks.laidMetH_plain _ _ _ Zk]
  exact gj
 clear abA adU
 have arN:∀x∈ry,x.block<bv.heap.size:=λx af=>by simpa using R3.lt x (by simp[af])
 have Jz:∀x∈e7,x.block<bv.heap.size:=λx af=>by simpa using R3.lt x (by simp[af])
 obtain⟨ci,pH,aw⟩:=alB (Du 0 22 v0 rfl rfl) a8
 obtain⟨ip,Tw,rfl⟩:=alD (Du 1 5 EP rfl rfl) H
 refine(ayh bv (avz bv) uG Tw pH aw).mono λB aAv ⟨a7,ah⟩=> ?_
 subst a7
 exact⟨_,rfl,_,_,_,[]++[],ry++e7,[],R3,trodAll_mk1 (shut_bool Zk true),trodAll_mk2 (Below.trod Tryz.laid Zk (of_decide_eq_true Zk) a8 ah arN) (Below.trod Tryz.laid Zk (of_decide_eq_true Zk) H ah Jz),rfl,Below.frame ah _,λa=>by cases a⟩
def auf:joinedFacts Tryz.checked.prog 3 Tryz.f3 Rows.causePreSpec Rows.causePreRow=true:=by
 unfold joinedFacts
 simp only[Zp]
 repeat' apply Za
 all_goals(as_aux_lemma=>kernel_rfl)
def auL:Rows.CausePreSaid:=
 OpenClaim.holds_of_wide 3 Tryz.f3 rfl rfl rfl rfl rfl rfl rfl ⟨rfl,rfl,rfl,rfl,rfl⟩ rfl rfl rfl rfl rfl (by as_aux_lemma=>kernel_rfl) Tryz.func3 auf
  (of_decide_eq_true (by as_aux_lemma=>kernel_rfl)) (by unfold Func.isWrapper;first|(rw[Zq (by decide+kernel)];kernel_rfl)|(rw[Zg (by decide+kernel)];exact⟨rfl,rfl⟩))
  (λos Vf nu enc _=>au1 os Vf nu enc)
theorem card_holds:Rows.CausePreCardSaid:=
 Claim7.holds_tied_plain_at .later [] Rows.causePreCard.laidKinds true Rows.causePreCard.stood.harness Rows.causePreCard.stood.looks
  auL (λ_ a=>by cases a) (by as_aux_lemma=>kernel_rfl) (λ_ a=>by cases a) ax2 rfl ⟨rfl,rfl⟩ (by as_aux_lemma=>kernel_rfl) rfl
  (λf fn b8 Su=>by
   obtain rfl:f=3:=Ym ((show Tryz.prog.funcNamed Rows.causePreRow.func=some 3 by kernel_rfl).symm.trans b8)|>.symm
   obtain rfl:fn=Tryz.f3:=(Ym (Tryz.func3.symm.trans Su)).symm
   exact⟨by kernel_rfl,λW t bh=>by
    rw[Tryz.params3]at bh
    have aZ:t∈[22,5]:=by simpa using zh bh
    have is:([22,5].all λac=> !Tryz.prog.wantsStandIn ac)=true:=Zk
    exact(show Tryz.prog.wantsStandIn t=false by simpa using zk.1 is t aZ)⟩)
  (by as_aux_lemma=>kernel_rfl)
end Go.Proofs.YtendhgofocgngaaGreatDoor

