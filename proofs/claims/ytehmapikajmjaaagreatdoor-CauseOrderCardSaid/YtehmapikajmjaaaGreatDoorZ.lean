/- The law CauseOrder holds of the given program (its tied card) -/
import Derived.Test.YtehmapikajmjaaaGreatDoorYu
import Derived.Test.YtehmapikajmjaaaGreatDoorYv
set_option maxHeartbeats 8000000
set_option linter.all false
namespace Go.Proofs.YtehmapikajmjaaaGreatDoor
open Go.ChangeShapes Go.WideShapes Go.ChangeAt Go.RowKit
def Pa(os:Os)(args:Array Value):laidMetH Tryz.prog Rows.causeOrderRow.laid ((World.doorLaid Tryz.prog 271 os).forCall (λ_ _=>0) ⟨#[],args,[]⟩).memory:=
 laidMetH_of_parts3 (fuel:=8) (laidMet_of_run' 8 Zk Zk) Zk Zk
set_option maxRecDepth 100000 in
def Ss(os:Os)(T0:os.Started)(l:Type)(enc:TypeId×Value->l):
 ReturnsInHanded {} Tryz.checked os 4 .any (λw args=>(Rows.causeOrderSpec.pre enc Tryz.prog Tryz.f4 [] false w args/\laidMetH Tryz.prog Rows.causeOrderRow.laid w)/\sizedMet enc Tryz.prog Tryz.f4 (OpenSpec.ofChange Rows.causeOrderSpec) false w args)
  (Rows.causeOrderSpec.post enc Tryz.prog Tryz.f4 false true false false):=by
 refine returnsInHanded_of_change_and (C:=Tryz.checked) (X:=λw _=>laidMetH Tryz.prog Rows.causeOrderRow.laid w) (λ_ _ _ G e=>e.of_heap G) Tryz.own T0 Zk Tryz.func4
  (ChangeSpec.witness_shaped (enc:=enc) (C:=Tryz.checked) (os:=os) (X:=λw _=>laidMetH Tryz.prog Rows.causeOrderRow.laid w) false (World.doorLaid Tryz.prog 271 os) #[.slice none 0 0] 8 rfl (World.shaped_of_RefB Zk Zk) Zk Zk Zk (Pa os _)) ?_
 intro a1 base args m aa T2 i d _ _ n _;have g:∀(E:Nat) t v,Tryz.f4.params[E]? =some t->args[E]? =some v->Value.okWide Tryz.prog a1 .any base t v:=i;have f:=d;obtain⟨p,V,c,s,rfl,T4,T5⟩:=d;have b:DataW.TrodAll enc Tryz.prog a1 0 (λ_=>true) true Tryz.f4.params.toList args.toList m p:=c;rw[Tryz.params4]at b g;obtain⟨v0,T3,rfl,rfl,a⟩:=trodAll_one b;obtain⟨rfl,rfl⟩:=trodVars_none s;have r:laidMet Tryz.prog Rows.causeOrderRow.laid a1:=by rw[<-MakeChecks.laidMetH_plain _ _ _ Zk];exact n
 clear c i;have N:∀x∈p,x.block<a1.heap.size:=λx O=>by simpa using f.lt x (by simp[O])
 obtain⟨T6,P,L⟩:=N8 (g 0 22 v0 rfl rfl) a;refine(abn a1 (S1 a1) r P L).mono λu T1 ⟨A,T⟩=> ?_;subst A;exact⟨_,rfl,_,_,_,[]++[],p,[],f,trodAll_mk1 (shut_bool Zk true),trodAll_mk1 (Below.trod Tryz.laid Zk (of_decide_eq_true Zk) a T N),rfl,Below.frame T _,λe=>by cases e⟩
def RQ:joinedFacts Tryz.checked.prog 4 Tryz.f4 Rows.causeOrderSpec Rows.causeOrderRow=true:=by
 unfold joinedFacts;simp only[Zt]
 repeat' apply Za
 all_goals(as_aux_lemma=>kernel_rfl)
def Sc:Rows.CauseOrderSaid:=
 OpenClaim.holds_of_wide 4 Tryz.f4 rfl rfl rfl rfl rfl rfl rfl ⟨rfl,rfl,rfl,rfl,rfl⟩ rfl rfl rfl rfl rfl (by as_aux_lemma=>kernel_rfl) Tryz.func4 RQ
  (of_decide_eq_true (by as_aux_lemma=>kernel_rfl)) (by unfold Func.isWrapper;first|(rw[Zu (by decide+kernel)];kernel_rfl)|(rw[Zi (by decide+kernel)];exact⟨rfl,rfl⟩))
  (λos b a enc _=>Ss os b a enc)
theorem card_holds:Rows.CauseOrderCardSaid:=
 Claim7.holds_tied_plain_at .later [] Rows.causeOrderCard.laidKinds true Rows.causeOrderCard.stood.harness Rows.causeOrderCard.stood.looks
  Sc (λ_ e=>by cases e) (by as_aux_lemma=>kernel_rfl) (λ_ e=>by cases e) abe rfl ⟨rfl,rfl⟩ (by as_aux_lemma=>kernel_rfl) rfl
  (λf fn c d=>by
   obtain rfl:f=4:=YF ((show Tryz.prog.funcNamed Rows.causeOrderRow.func=some 4 by kernel_rfl).symm.trans c)|>.symm;obtain rfl:fn=Tryz.f4:=(YF (Tryz.func4.symm.trans d)).symm;exact⟨by kernel_rfl,λE t a=>by
    rw[Tryz.params4]at a;have g:t∈[22]:=(by simpa using zl a);have b:([22].all λM=> !Tryz.prog.wantsStandIn M)=true:=Zk;exact(show Tryz.prog.wantsStandIn t=false by simpa using zt.1 b t g)⟩)
  (by as_aux_lemma=>kernel_rfl)
end Go.Proofs.YtehmapikajmjaaaGreatDoor
