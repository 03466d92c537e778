/- The law ClocksTurned holds of the given program (its tied card) -/
import Derived.Test.YtpeabpmnlmaabaaGreatDoorYo
import Derived.Test.YtpeabpmnlmaabaaGreatDoorYp
set_option maxHeartbeats 8000000
set_option linter.all false
namespace Go.Proofs.YtpeabpmnlmaabaaGreatDoor
open Go.ChangeShapes Go.WideShapes Go.ChangeAt Go.RowKit
def aq9(os:Os)(args:Array Value):laidMetH Tryz.prog Rows.clocksTurnedRow.laid ((World.doorLaid Tryz.prog 271 os).forCall (λ_ _=>0) ⟨#[],args,[]⟩).memory:=
 laidMetH_of_parts3 (fuel:=8) (laidMet_of_run' 8 Zk Zk) Zk Zk
set_option maxRecDepth 100000 in
def ay9(os:Os)(Xo:os.Started)(qz:Type)(enc:TypeId×Value->qz):
 ReturnsInHanded {} Tryz.checked os 4 .any (λw args=>(Rows.clocksTurnedSpec.pre enc Tryz.prog Tryz.f4 [] false w args/\laidMetH Tryz.prog Rows.clocksTurnedRow.laid w)/\sizedMet enc Tryz.prog Tryz.f4 (OpenSpec.ofChange Rows.clocksTurnedSpec) false w args)
  (Rows.clocksTurnedSpec.post enc Tryz.prog Tryz.f4 false true false false):=by
 refine returnsInHanded_of_change_and (C:=Tryz.checked) (X:=λw _=>laidMetH Tryz.prog Rows.clocksTurnedRow.laid w) (λ_ _ _ gL a=>a.of_heap gL) Tryz.own Xo Zk Tryz.func4
  (ChangeSpec.witness_shaped (enc:=enc) (C:=Tryz.checked) (os:=os) (X:=λw _=>laidMetH Tryz.prog Rows.clocksTurnedRow.laid w) false (World.doorLaid Tryz.prog 271 os) #[.slice none 0 0, .agg #[.int .u8 0, .int .u8 0]] 8 rfl (World.shaped_of_RefB Zk Zk) Zk Zk Zk (aq9 os _)) ?_
 intro bu base args ds am aFu agO rz _ _ gp _
 have Fb:∀(V:Nat) t v,Tryz.f4.params[V]? =some t->args[V]? =some v->Value.okWide Tryz.prog bu .any base t v:=agO
 have Ud:=rz
 obtain⟨p,ak,aex,Uc,rfl,aFZ,AM⟩:=rz
 have mX:DataW.TrodAll enc Tryz.prog bu 0 (λ_=>true) true Tryz.f4.params.toList args.toList ds p:=aex
 rw[Tryz.params4]at mX Fb
 obtain⟨v0,Gn,hM,c2,Bf,fF,rfl,rfl,rfl,aK,H⟩:=trodAll_two mX
 obtain⟨rfl,rfl⟩:=trodVars_none Uc
 have sB:laidMet Tryz.prog Rows.clocksTurnedRow.laid bu:=by
  rw[<-MakeChecks.laidMetH_plain _ _ _ Zk]
  exact gp
 clear aex agO
 have avS:∀x∈Bf,x.block<bu.heap.size:=λx af=>by simpa using Ud.lt x (by simp[af])
 have avT:∀x∈fF,x.block<bu.heap.size:=λx af=>by simpa using Ud.lt x (by simp[af])
 obtain⟨ck,CO,az⟩:=apC (Fb 0 22 v0 rfl rfl) aK
 obtain⟨kr,im,VC,vb,rfl⟩:=apE (Fb 1 65 Gn rfl rfl) H
 refine(aCN bu sB VC vb CO az).mono λD aFs ⟨bA,aj⟩=> ?_
 subst bA
 exact⟨_,rfl,_,_,_,[]++[],Bf++fF,[],Ud,trodAll_mk1 (shut_bool Zk true),trodAll_mk2 (Below.trod Tryz.laid Zk (of_decide_eq_true Zk) aK aj avS) (Below.trod Tryz.laid Zk (of_decide_eq_true Zk) H aj avT),rfl,Below.frame aj _,λa=>by cases a⟩
def ayc:joinedFacts Tryz.checked.prog 4 Tryz.f4 Rows.clocksTurnedSpec Rows.clocksTurnedRow=true:=by
 unfold joinedFacts
 simp only[Zq]
 repeat' apply Za
 all_goals(as_aux_lemma=>kernel_rfl)
def ayQ:Rows.ClocksTurnedSaid:=
 OpenClaim.holds_of_wide 4 Tryz.f4 rfl rfl rfl rfl rfl rfl rfl ⟨rfl,rfl,rfl,rfl,rfl⟩ rfl rfl rfl rfl rfl (by as_aux_lemma=>kernel_rfl) Tryz.func4 ayc
  (of_decide_eq_true (by as_aux_lemma=>kernel_rfl)) (by unfold Func.isWrapper;first|(rw[Zp (by decide+kernel)];kernel_rfl)|(rw[Zg (by decide+kernel)];exact⟨rfl,rfl⟩))
  (λos Xo qz enc _=>ay9 os Xo qz enc)
theorem card_holds:Rows.ClocksTurnedCardSaid:=
 Claim7.holds_tied_plain_at .later [] Rows.clocksTurnedCard.laidKinds true Rows.clocksTurnedCard.stood.harness Rows.clocksTurnedCard.stood.looks
  ayQ (λ_ a=>by cases a) (by as_aux_lemma=>kernel_rfl) (λ_ a=>by cases a) aCA rfl ⟨rfl,rfl⟩ (by as_aux_lemma=>kernel_rfl) rfl
  (λf fn b4 avf=>by
   obtain rfl:f=4:=Yf ((show Tryz.prog.funcNamed Rows.clocksTurnedRow.func=some 4 by kernel_rfl).symm.trans b4)|>.symm
   obtain rfl:fn=Tryz.f4:=(Yf (Tryz.func4.symm.trans avf)).symm
   exact⟨by kernel_rfl,λV t ba=>by
    rw[Tryz.params4]at ba
    have bn:t∈[22,65]:=by simpa using Y9 ba
    have k7:([22,65].all λac=> !Tryz.prog.wantsStandIn ac)=true:=Zk
    exact(show Tryz.prog.wantsStandIn t=false by simpa using Ym.1 k7 t bn)⟩)
  (by as_aux_lemma=>kernel_rfl)
end Go.Proofs.YtpeabpmnlmaabaaGreatDoor

