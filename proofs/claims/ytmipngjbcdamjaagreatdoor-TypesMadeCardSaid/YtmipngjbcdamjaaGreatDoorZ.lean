/- The law TypesMade holds of the given program (its tied card) -/
import Derived.Test.YtmipngjbcdamjaaGreatDoorYq
import Derived.Test.YtmipngjbcdamjaaGreatDoorYr
set_option maxHeartbeats 8000000
set_option linter.all false
namespace Go.Proofs.YtmipngjbcdamjaaGreatDoor
open Go.ChangeShapes Go.WideShapes Go.ChangeAt Go.RowKit
def E8(os:Os)(args:Array Value):laidMetH Tryz.prog Rows.typesMadeRow.laid ((World.doorLaid Tryz.prog 271 os).forCall (λ_ _=>0) ⟨#[],args,[]⟩).memory:=
 laidMetH_of_parts3 (fuel:=8) (laidMet_of_run' 8 Zk Zk) Zk Zk
set_option maxRecDepth 100000 in
def HJ(os:Os)(T5:os.Started)(G:Type)(enc:TypeId×Value->G):
 ReturnsInHanded {} Tryz.checked os 3 .any (λw args=>(Rows.typesMadeSpec.pre enc Tryz.prog Tryz.f3 [] false w args/\laidMetH Tryz.prog Rows.typesMadeRow.laid w)/\sizedMet enc Tryz.prog Tryz.f3 (OpenSpec.ofChange Rows.typesMadeSpec) false w args)
  (Rows.typesMadeSpec.post enc Tryz.prog Tryz.f3 false true false false):=by
 refine returnsInHanded_of_change_and (C:=Tryz.checked) (X:=λw _=>laidMetH Tryz.prog Rows.typesMadeRow.laid w) (λ_ _ _ T0 e=>e.of_heap T0) Tryz.own T5 Zk Tryz.func3
  (ChangeSpec.witness_shaped (enc:=enc) (C:=Tryz.checked) (os:=os) (X:=λw _=>laidMetH Tryz.prog Rows.typesMadeRow.laid w) false (World.doorLaid Tryz.prog 271 os) #[.slice none 0 0, .int .u8 0] 8 rfl (World.shaped_of_RefB Zk Zk) Zk Zk Zk (E8 os _)) ?_
 intro a base args ds T T8 r n _ _ O _
 have c:∀(E:Nat) t v,Tryz.f3.params[E]? =some t->args[E]? =some v->Value.okWide Tryz.prog a .any base t v:=r
 have b:=n
 obtain⟨p,J,m,S,rfl,TZ,U0⟩:=n
 have i:DataW.TrodAll enc Tryz.prog a 0 (λ_=>true) true Tryz.f3.params.toList args.toList ds p:=m
 rw[Tryz.params3]at i c
 obtain⟨v0,T6,T9,TY,s,z,rfl,rfl,rfl,f,g⟩:=trodAll_two i
 obtain⟨rfl,rfl⟩:=trodVars_none S
 have P:laidMet Tryz.prog Rows.typesMadeRow.laid a:=by
  rw[<-MakeChecks.laidMetH_plain _ _ _ Zk]
  exact O
 clear m r
 have T1:∀x∈s,x.block<a.heap.size:=λx d=>by simpa using b.lt x (by simp[d])
 have T2:∀x∈z,x.block<a.heap.size:=λx d=>by simpa using b.lt x (by simp[d])
 obtain⟨U2,T4,ap⟩:=Eg (c 0 22 v0 rfl rfl) f
 obtain⟨U1,T3,rfl⟩:=Eh (c 1 5 T6 rfl rfl) g
 refine(HX a P T3 T4 ap).mono λj T7 ⟨Z,Y⟩=> ?_
 subst Z
 exact⟨_,rfl,_,_,_,[]++[],s++z,[],b,trodAll_mk1 (shut_bool Zk true),trodAll_mk2 (Below.trod Tryz.laid Zk (of_decide_eq_true Zk) f Y T1) (Below.trod Tryz.laid Zk (of_decide_eq_true Zk) g Y T2),rfl,Below.frame Y _,λe=>by cases e⟩
def G6:joinedFacts Tryz.checked.prog 3 Tryz.f3 Rows.typesMadeSpec Rows.typesMadeRow=true:=by
 unfold joinedFacts
 simp only[Zq]
 repeat' apply Za
 all_goals(as_aux_lemma=>kernel_rfl)
def Ht:Rows.TypesMadeSaid:=
 OpenClaim.holds_of_wide 3 Tryz.f3 rfl rfl rfl rfl rfl rfl rfl ⟨rfl,rfl,rfl,rfl,rfl⟩ rfl rfl rfl rfl rfl (by as_aux_lemma=>kernel_rfl) Tryz.func3 G6
  (of_decide_eq_true (by as_aux_lemma=>kernel_rfl)) (by unfold Func.isWrapper;first|(rw[Zv (by decide+kernel)];kernel_rfl)|(rw[Zj (by decide+kernel)];exact⟨rfl,rfl⟩))
  (λos b a enc _=>HJ os b a enc)
theorem card_holds:Rows.TypesMadeCardSaid:=
 Claim7.holds_tied_plain_at .later [] Rows.typesMadeCard.laidKinds true Rows.typesMadeCard.stood.harness Rows.typesMadeCard.stood.looks
  Ht (λ_ e=>by cases e) (by as_aux_lemma=>kernel_rfl) (λ_ e=>by cases e) JZ rfl ⟨rfl,rfl⟩ (by as_aux_lemma=>kernel_rfl) rfl
  (λf fn c d=>by
   obtain rfl:f=3:=Yd ((show Tryz.prog.funcNamed Rows.typesMadeRow.func=some 3 by kernel_rfl).symm.trans c)|>.symm
   obtain rfl:fn=Tryz.f3:=(Yd (Tryz.func3.symm.trans d)).symm
   exact⟨by kernel_rfl,λE t a=>by
    rw[Tryz.params3]at a
    have g:t∈[22,5]:=by simpa using Y8 a
    have b:([22,5].all λL=> !Tryz.prog.wantsStandIn L)=true:=Zk
    exact(show Tryz.prog.wantsStandIn t=false by simpa using Yy.1 b t g)⟩)
  (by as_aux_lemma=>kernel_rfl)
end Go.Proofs.YtmipngjbcdamjaaGreatDoor

