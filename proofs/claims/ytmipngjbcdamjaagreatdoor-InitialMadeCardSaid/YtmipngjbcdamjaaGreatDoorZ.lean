/- The law InitialMade holds of the given program (its tied card) -/
import Derived.Test.YtmipngjbcdamjaaGreatDoorYu
import Derived.Test.YtmipngjbcdamjaaGreatDoorYv
set_option maxHeartbeats 8000000
set_option linter.all false
namespace Go.Proofs.YtmipngjbcdamjaaGreatDoor
open Go.ChangeShapes Go.WideShapes Go.ChangeAt Go.RowKit
def E4(os:Os)(args:Array Value):laidMetH Tryz.prog Rows.initialMadeRow.laid ((World.doorLaid Tryz.prog 271 os).forCall (λ_ _=>0) ⟨#[],args,[]⟩).memory:=
 laidMetH_of_parts3 (fuel:=8) (laidMet_of_run' 8 Zk Zk) Zk Zk
set_option maxRecDepth 100000 in
def HG(os:Os)(T5:os.Started)(G:Type)(enc:TypeId×Value->G):
 ReturnsInHanded {} Tryz.checked os 4 .any (λw args=>(Rows.initialMadeSpec.pre enc Tryz.prog Tryz.f4 [] false w args/\laidMetH Tryz.prog Rows.initialMadeRow.laid w)/\sizedMet enc Tryz.prog Tryz.f4 (OpenSpec.ofChange Rows.initialMadeSpec) false w args)
  (Rows.initialMadeSpec.post enc Tryz.prog Tryz.f4 false true false false):=by
 refine returnsInHanded_of_change_and (C:=Tryz.checked) (X:=λw _=>laidMetH Tryz.prog Rows.initialMadeRow.laid w) (λ_ _ _ T0 e=>e.of_heap T0) Tryz.own T5 Zk Tryz.func4
  (ChangeSpec.witness_shaped (enc:=enc) (C:=Tryz.checked) (os:=os) (X:=λw _=>laidMetH Tryz.prog Rows.initialMadeRow.laid w) false (World.doorLaid Tryz.prog 271 os) #[.slice none 0 0, .int .u8 0] 8 rfl (World.shaped_of_RefB Zk Zk) Zk Zk Zk (E4 os _)) ?_
 intro a base args ds U T8 r n _ _ O _
 have c:∀(H:Nat) t v,Tryz.f4.params[H]? =some t->args[H]? =some v->Value.okWide Tryz.prog a .any base t v:=r
 have b:=n
 obtain⟨p,L,m,Y,rfl,TZ,U0⟩:=n
 have i:DataW.TrodAll enc Tryz.prog a 0 (λ_=>true) true Tryz.f4.params.toList args.toList ds p:=m
 rw[Tryz.params4]at i c
 obtain⟨v0,T6,T9,TY,s,z,rfl,rfl,rfl,f,g⟩:=trodAll_two i
 obtain⟨rfl,rfl⟩:=trodVars_none Y
 have P:laidMet Tryz.prog Rows.initialMadeRow.laid a:=by
  rw[<-MakeChecks.laidMetH_plain _ _ _ Zk]
  exact O
 clear m r
 have T1:∀x∈s,x.block<a.heap.size:=λx d=>by simpa using b.lt x (by simp[d])
 have T2:∀x∈z,x.block<a.heap.size:=λx d=>by simpa using b.lt x (by simp[d])
 obtain⟨U2,T4,au⟩:=Ed (c 0 22 v0 rfl rfl) f
 obtain⟨U1,T3,rfl⟩:=Ee (c 1 5 T6 rfl rfl) g
 refine(HU a P T3 T4 au).mono λl T7 ⟨Z,ab⟩=> ?_
 subst Z
 exact⟨_,rfl,_,_,_,[]++[],s++z,[],b,trodAll_mk1 (shut_bool Zk true),trodAll_mk2 (Below.trod Tryz.laid Zk (of_decide_eq_true Zk) f ab T1) (Below.trod Tryz.laid Zk (of_decide_eq_true Zk) g ab T2),rfl,Below.frame ab _,λe=>by cases e⟩
def G5:joinedFacts Tryz.checked.prog 4 Tryz.f4 Rows.initialMadeSpec Rows.initialMadeRow=true:=by
 unfold joinedFacts
 simp only[Zq]
 repeat' apply Za
 all_goals(as_aux_lemma=>kernel_rfl)
def Hs:Rows.InitialMadeSaid:=
 OpenClaim.holds_of_wide 4 Tryz.f4 rfl rfl rfl rfl rfl rfl rfl ⟨rfl,rfl,rfl,rfl,rfl⟩ rfl rfl rfl rfl rfl (by as_aux_lemma=>kernel_rfl) Tryz.func4 G5
  (of_decide_eq_true (by as_aux_lemma=>kernel_rfl)) (by unfold Func.isWrapper;first|(rw[Zv (by decide+kernel)];kernel_rfl)|(rw[Zj (by decide+kernel)];exact⟨rfl,rfl⟩))
  (λos b a enc _=>HG os b a enc)
theorem card_holds:Rows.InitialMadeCardSaid:=
 Claim7.holds_tied_plain_at .later [] Rows.initialMadeCard.laidKinds true Rows.initialMadeCard.stood.harness Rows.initialMadeCard.stood.looks
  Hs (λ_ e=>by cases e) (by as_aux_lemma=>kernel_rfl) (λ_ e=>by cases e) JY rfl ⟨rfl,rfl⟩ (by as_aux_lemma=>kernel_rfl) rfl
  (λf fn c d=>by
   obtain rfl:f=4:=Yd ((show Tryz.prog.funcNamed Rows.initialMadeRow.func=some 4 by kernel_rfl).symm.trans c)|>.symm
   obtain rfl:fn=Tryz.f4:=(Yd (Tryz.func4.symm.trans d)).symm
   exact⟨by kernel_rfl,λH t a=>by
    rw[Tryz.params4]at a
    have g:t∈[22,5]:=by simpa using Y8 a
    have b:([22,5].all λN=> !Tryz.prog.wantsStandIn N)=true:=Zk
    exact(show Tryz.prog.wantsStandIn t=false by simpa using Yy.1 b t g)⟩)
  (by as_aux_lemma=>kernel_rfl)
end Go.Proofs.YtmipngjbcdamjaaGreatDoor

