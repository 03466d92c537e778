/- The law ScopeRenames holds of the given program (its tied card) -/
import Derived.Test.YtbbkkkpgjaopkaaGreatDoorYv
import Derived.Test.YtbbkkkpgjaopkaaGreatDoorYw
set_option maxHeartbeats 8000000
set_option linter.all false
namespace Go.Proofs.YtbbkkkpgjaopkaaGreatDoor
open Go.ChangeShapes Go.WideShapes Go.ChangeAt Go.RowKit
def ajx(os:Os)(args:Array Value):laidMetH Tryz.prog Rows.scopeRenamesRow.laid ((World.doorLaid Tryz.prog 271 os).forCall (λ_ _=>0) ⟨#[],args,[]⟩).memory:=
 laidMetH_of_parts3 (fuel:=8) (laidMet_of_run' 8 Zk Zk) Zk Zk
set_option maxRecDepth 100000 in
def aqH(os:Os)(SO:os.Started)(o8:Type)(enc:TypeId×Value->o8):
 ReturnsInHanded {} Tryz.checked os 3 .any (λw args=>(Rows.scopeRenamesSpec.pre enc Tryz.prog Tryz.f3 [] false w args/\laidMetH Tryz.prog Rows.scopeRenamesRow.laid w)/\sizedMet enc Tryz.prog Tryz.f3 (OpenSpec.ofChange Rows.scopeRenamesSpec) false w args)
  (Rows.scopeRenamesSpec.post enc Tryz.prog Tryz.f3 false true false false):=by
 refine returnsInHanded_of_change_and (C:=Tryz.checked) (X:=λw _=>laidMetH Tryz.prog Rows.scopeRenamesRow.laid w) (λ_ _ _ gd a=>a.of_heap gd) Tryz.own SO Zk Tryz.func3
  (ChangeSpec.witness_shaped (enc:=enc) (C:=Tryz.checked) (os:=os) (X:=λw _=>laidMetH Tryz.prog Rows.scopeRenamesRow.laid w) false (World.doorLaid Tryz.prog 271 os) #[.slice none 0 0] 8 rfl (World.shaped_of_RefB Zk Zk) Zk Zk Zk (ajx os _)) ?_
 intro bu base args ds ax av5 aa4 K2 _ _ gj _
 have E1:∀(W:Nat) t v,Tryz.f3.params[W]? =some t->args[W]? =some v->Value.okWide Tryz.prog bu .any base t v:=aa4
 have XA:=K2
 obtain⟨p,al,Xi,PP,rfl,awx,Ly⟩:=K2
 have lH:DataW.TrodAll enc Tryz.prog bu 0 (λ_=>true) true Tryz.f3.params.toList args.toList ds p:=Xi
 rw[Tryz.params3]at lH E1
 obtain⟨v0,mV,rfl,rfl,a2⟩:=trodAll_one lH
 obtain⟨rfl,rfl⟩:=trodVars_none PP
 have yG:laidMet Tryz.prog Rows.scopeRenamesRow.laid bu:=by
  rw[<-MakeChecks.laidMetH_plain _ _ _ Zk]
  exact gj
 clear Xi aa4
 have anO:∀x∈p,x.block<bu.heap.size:=λx af=>by simpa using XA.lt x (by simp[af])
 obtain⟨b9,y3,az⟩:=aii (E1 0 22 v0 rfl rfl) a2
 refine(at0 bu yG y3 az).mono λB av3 ⟨bl,aj⟩=> ?_
 subst bl
 exact⟨_,rfl,_,_,_,[]++[],p,[],XA,trodAll_mk1 (shut_bool Zk true),trodAll_mk1 (Below.trod Tryz.laid Zk (of_decide_eq_true Zk) a2 aj anO),rfl,Below.frame aj _,λa=>by cases a⟩
def apX:joinedFacts Tryz.checked.prog 3 Tryz.f3 Rows.scopeRenamesSpec Rows.scopeRenamesRow=true:=by
 unfold joinedFacts
 simp only[Zn]
 repeat' apply Za
 all_goals(as_aux_lemma=>kernel_rfl)
def aqp:Rows.ScopeRenamesSaid:=
 OpenClaim.holds_of_wide 3 Tryz.f3 rfl rfl rfl rfl rfl rfl rfl ⟨rfl,rfl,rfl,rfl,rfl⟩ rfl rfl rfl rfl rfl (by as_aux_lemma=>kernel_rfl) Tryz.func3 apX
  (of_decide_eq_true (by as_aux_lemma=>kernel_rfl)) (by unfold Func.isWrapper;first|(rw[Zp (by decide+kernel)];kernel_rfl)|(rw[Zg (by decide+kernel)];exact⟨rfl,rfl⟩))
  (λos SO o8 enc _=>aqH os SO o8 enc)
theorem card_holds:Rows.ScopeRenamesCardSaid:=
 Claim7.holds_tied_plain_at .later [] Rows.scopeRenamesCard.laidKinds true Rows.scopeRenamesCard.stood.harness Rows.scopeRenamesCard.stood.looks
  aqp (λ_ a=>by cases a) (by as_aux_lemma=>kernel_rfl) (λ_ a=>by cases a) atM rfl ⟨rfl,rfl⟩ (by as_aux_lemma=>kernel_rfl) rfl
  (λf fn ch am7=>by
   obtain rfl:f=3:=Yv ((show Tryz.prog.funcNamed Rows.scopeRenamesRow.func=some 3 by kernel_rfl).symm.trans ch)|>.symm
   obtain rfl:fn=Tryz.f3:=(Yv (Tryz.func3.symm.trans am7)).symm
   exact⟨by kernel_rfl,λW t aZ=>by
    rw[Tryz.params3]at aZ
    have aX:t∈[22]:=by simpa using Y8 aZ
    have kK:([22].all λaa=> !Tryz.prog.wantsStandIn aa)=true:=Zk
    exact(show Tryz.prog.wantsStandIn t=false by simpa using YG.1 kK t aX)⟩)
  (by as_aux_lemma=>kernel_rfl)
end Go.Proofs.YtbbkkkpgjaopkaaGreatDoor

