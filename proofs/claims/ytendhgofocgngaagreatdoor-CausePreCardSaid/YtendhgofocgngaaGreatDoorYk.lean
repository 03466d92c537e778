/- Part of the proof of the last text; no conditions -/
import Derived.Test.YtendhgofocgngaaGreatDoorYj
set_option maxHeartbeats 8000000
set_option linter.all false
namespace Go.bn
noncomputable section
open Go.RowKit (Below)
def gP(I:db)(t:S z):Prop:=∀n v,I.g n=some v->t.get n=some v
section
variable{C:aK}{h:S ai}{j:Nat}{an:List (Nat×z)}{I:db}{t:S z}
def ob(a:gP I t){x:kq}{aj:z->Prop}(av:jJ x an I aj):∃E,k5 x an t=some E/\aj E:=by
 cases x with
 |v W=>exact sO.1 av
 |t n=>
  obtain⟨E,H,K⟩:=sO.1 (show cl (I n) aj from av)
  exact⟨E,a n E H,K⟩
 |c E=>exact⟨E,rfl,av⟩
def an9(a:gP I t):∀{k:List kq}{aj:List z->Prop},Ms an I k aj->∃cg,AQ an t k=some cg/\aj cg:=by
 intro k
 induction k with
 |nil=>intro aj av;exact⟨[],rfl,av⟩
 |cons x k ag=>
  intro aj av
  obtain⟨E,H,K⟩:=ob a (show jJ x an I (λE=>Ms an I k λr=>aj (E::r)) from av)
  obtain⟨r,ak,ay⟩:=ag K
  exact⟨E::r,by simp[AQ,H,ak],ay⟩
def hq(a:gP I t){bY:List (Nat×Nat)}{U:Operand}{aj:z->Prop}(av:ew bY an I U aj):∃E,ji bY an t U=some E/\aj E:=by
 cases U with
 |tmp n=>
  simp only[ew]at av
  simp only[ji]
  cases bx:ee bY n with
  |some W=>simp only[bx]at av ⊢;exact sO.1 av
  |none=>
   simp only[bx]at av ⊢
   obtain⟨E,H,K⟩:=sO.1 av
   exact⟨E,a n E H,K⟩
 |const v=>exact sO.1 av
 |global g=>exact⟨_,rfl,av⟩
 |func f=>exact⟨_,rfl,av⟩
def Ek(a:gP I t){bY:List (Nat×Nat)}:∀{k:List Operand}{aj:List z->Prop},sN bY an I k aj->∃cg,pz (ji bY an t) k=some cg/\aj cg:=by
 intro k
 induction k with
 |nil=>intro aj av;exact⟨[],rfl,av⟩
 |cons x k ag=>
  intro aj av
  obtain⟨E,H,K⟩:=hq a (show ew bY an I x (λE=>sN bY an I k λr=>aj (E::r)) from av)
  obtain⟨r,ak,ay⟩:=ag K
  exact⟨E::r,by simp[pz,H,ak],ay⟩
def UE(a:gP I t){bY:List (Nat×Nat)}:∀{k:List (Nat×Operand)}{aj:List (Nat×z)->Prop},BY bY an I k aj->∃cg,xO (ji bY an t) k=some cg/\aj cg:=by
 intro k
 induction k with
 |nil=>intro aj av;exact⟨[],rfl,av⟩
 |cons x k ag=>
  intro aj av
  obtain⟨i,U⟩:=x
  obtain⟨E,H,K⟩:=hq a (show ew bY an I U (λE=>BY bY an I k λr=>aj ((i,E)::r)) from av)
  obtain⟨r,ak,ay⟩:=ag K
  exact⟨(i,E)::r,by simp[xO,H,ak],ay⟩
def Uz(a:gP I t){bY:List (Nat×Nat)}{U:Option Operand}{aj:Option z->Prop}(av:OJ bY an I U aj):∃E,BX (ji bY an t) U=some E/\aj E:=by
 cases U with
 |none=>exact⟨none,rfl,av⟩
 |some x=>
  obtain⟨E,H,K⟩:=hq a (show ew bY an I x (λE=>aj (some E)) from av)
  exact⟨some E,by simp[BX,H],K⟩
def au2(a:gP I t){bY:List (Nat×Nat)}{U:Op}{aj:z->Prop}(av:aeK bY U C h an I aj):∃v,n5 U C h (ji bY an t)=some v/\aj v:=by
 cases U with
 |build ty j9=>
  obtain⟨df,H,K⟩:=UE a (show BY bY an I j9.toList _ from av)
  obtain⟨v,ak,ay⟩:=(kX.1 K)
  exact⟨v,by simp[n5,TR,H,ak],ay⟩
 |binOp op ty x e HF=>
  obtain⟨E,H,K⟩:=hq a (show ew bY an I x _ from av)
  obtain⟨b,ak,ay⟩:=hq a K
  obtain⟨v,be,bV⟩:=(kX.1 ay)
  exact⟨v,by simp[n5,Og,H,ak,be],bV⟩
 |unOp op ty x=>
  obtain⟨E,H,K⟩:=hq a (show ew bY an I x _ from av)
  obtain⟨v,ak,ay⟩:=(kX.1 K)
  exact⟨v,by simp[n5,TY,H,ak],ay⟩
 |convert s d x=>
  obtain⟨E,H,K⟩:=hq a (show ew bY an I x _ from av)
  obtain⟨v,ak,ay⟩:=(kX.1 K)
  exact⟨v,by simpa[n5,Kk,aai,kE,H]using ak,ay⟩
 |makeInterface ty x=>
  obtain⟨E,H,K⟩:=hq a (show ew bY an I x _ from av)
  obtain⟨v,ak,ay⟩:=(kX.1 K)
  exact⟨v,by simpa[n5,Kn,ad8,kE,H]using ak,ay⟩
 |makeFunc fn first fw=>
  cases fn with
  |func f=>
   obtain⟨E,H,K⟩:=Ek a (show sN bY an I first.toList _ from av)
   obtain⟨b,ak,ay⟩:=Ek a K
   exact⟨_,by simp[n5,TU,H,ak],ay⟩
  |_=>exact av.elim
 |slice ty x bC aA g6=>
  obtain⟨E,H,K⟩:=hq a (show ew bY an I x _ from av)
  obtain⟨k,ak,ay⟩:=Uz a K
  obtain⟨b,be,bV⟩:=Uz a ay
  obtain⟨m,c9,eg⟩:=Uz a bV
  obtain⟨v,hI,kO⟩:=(kX.1 eg)
  exact⟨v,by simp[n5,TX,H,ak,be,c9,hI],kO⟩
 |field ty x f=>
  obtain⟨E,H,K⟩:=hq a (show ew bY an I x _ from av)
  obtain⟨v,ak,ay⟩:=(kX.1 K)
  exact⟨v,by simpa[n5,Km,aaX,kE,H]using ak,ay⟩
 |index ty x i=>
  obtain⟨E,H,K⟩:=hq a (show ew bY an I x _ from av)
  obtain⟨b,ak,ay⟩:=hq a K
  obtain⟨v,be,bV⟩:=(kX.1 ay)
  exact⟨v,by simp[n5,TV,H,ak,be],bV⟩
 |lookup ty m o ok=>
  obtain⟨E,H,K⟩:=hq a (show ew bY an I m _ from av)
  obtain⟨b,ak,ay⟩:=hq a K
  obtain⟨v,be,bV⟩:=(kX.1 ay)
  exact⟨v,by simp[n5,TW,H,ak,be],bV⟩
 |typeAssert x ty um ok=>
  obtain⟨E,H,K⟩:=hq a (show ew bY an I x _ from av)
  obtain⟨v,ak,ay⟩:=(kX.1 K)
  exact⟨v,by simpa[n5,Kj,X7,kE,H]using ak,ay⟩
 |entry d7=>
  obtain⟨E,H,K⟩:=hq a (show ew bY an I d7 _ from av)
  obtain⟨v,ak,ay⟩:=(kX.1 K)
  exact⟨v,by simpa[n5,Kl,aaK,kE,H]using ak,ay⟩
 |call c=>
  obtain⟨callee,args,cL⟩:=c
  cases callee with
  |builtin b=>
   obtain⟨aY,H,K⟩:=Ek a (show sN bY an I args.toList _ from av)
   obtain⟨v,ak,ay⟩:=(kX.1 K)
   refine⟨v, ?_,ay⟩
   have B:n5 (.call ⟨.builtin b,args,cL⟩) C h (ji bY an t)=qR C h b cL.toList aY:=by
    simp only[n5,TT,TS,H,qR]
    repeat' split
    all_goals first|rfl|simp_all
   rw[B];exact ak
  |_=>exact av.elim
 |_=>exact av.elim
def Oi(a:gP I t){op:jS}{aj:z->Prop}(av:G2 op C h an I aj):∃v,gJ op C h an t=some v/\aj v:=by
 cases op with
 |D5 x=>exact ob a av
 |pick c E b=>
  obtain⟨aam,H,K⟩:=ob a (show jJ c an I _ from av)
  obtain⟨Po,rfl,ak,ay⟩:=κ K.out
  cases Po with
  |true=>
   obtain⟨v,be,bV⟩:=ob a (ak rfl)
   exact⟨v,by simp[gJ,H,PA,be],bV⟩
  |false=>
   obtain⟨v,be,bV⟩:=ob a (ay rfl)
   exact⟨v,by simp[gJ,H,PA,be],bV⟩
 |fq E=>
  obtain⟨fu,H,K⟩:=ob a (show jJ E an I _ from av)
  obtain⟨v,ak,ay⟩:=(kX.1 K)
  exact⟨v,by simp[gJ,H,ak],ay⟩
 |Bz n E=>
  obtain⟨fu,H,K⟩:=ob a (show jJ E an I _ from av)
  obtain⟨v,ak,ay⟩:=(kX.1 K)
  exact⟨v,by simp[gJ,H,ak],ay⟩
 |off d x=>
  obtain⟨fu,H,K⟩:=ob a (show jJ x an I _ from av)
  obtain⟨v,ak,ay⟩:=(kX.1 K)
  exact⟨v,by simp[gJ,H,ak],ay⟩
 |Bq n aR x i=>
  obtain⟨fu,H,K⟩:=ob a (show jJ x an I _ from av)
  obtain⟨cC,ak,ay⟩:=ob a K
  obtain⟨v,be,bV⟩:=(kX.1 ay)
  exact⟨v,by simp only[gJ,H,ak];unfold GS at be;cases aA:nS cC<;>simp_all,bV⟩
 |Br aR x i=>
  obtain⟨fu,H,K⟩:=ob a (show jJ x an I _ from av)
  obtain⟨cC,ak,ay⟩:=ob a K
  obtain⟨v,be,bV⟩:=(kX.1 ay)
  exact⟨v,by simp only[gJ,H,ak];unfold iv at be;cases aA:nS cC<;>simp_all,bV⟩
 |Eb x=>
  obtain⟨fu,H,K⟩:=ob a (show jJ x an I _ from av)
  obtain⟨v,ak,ay⟩:=(kX.1 K)
  exact⟨v,by simp[gJ,H,ak],ay⟩
 |J6 op x e=>
  obtain⟨fu,H,K⟩:=ob a (show jJ x an I _ from av)
  obtain⟨cC,ak,ay⟩:=ob a K
  obtain⟨v,be,bV⟩:=(kX.1 ay)
  exact⟨v,by simp[gJ,H,ak,be],bV⟩
 |ext i x=>
  obtain⟨fu,H,K⟩:=ob a (show jJ x an I _ from av)
  obtain⟨v,ak,ay⟩:=(kX.1 K)
  exact⟨v,by simp[gJ,H,ak],ay⟩
 |h9 bY U=>exact au2 a av
 |_=>exact av.elim
def avp(a:gP I t){op:jS}{b:Nat}{aj:bR}(av:aeW op C h b an I aj):∃v cN,oc op C b an t=some (v,cN)/\aj v (bp C h b (some cN)) (b+1):=by
 cases op with
 |make bY U=>
  cases U with
  |alloc ty=>
   obtain⟨⟨v,cN⟩,H,K⟩:=kX.1 (show ar (D1 C ty (kE undef) b) _ from av)
   exact⟨v,cN,H,K.out⟩
  |box ty x=>
   obtain⟨E,H,K⟩:=hq a (show ew bY an I x _ from av)
   exact⟨_,_,by simp only[oc,p1,Ku,H],K.out⟩
  |buildSlice ty len j9=>
   obtain⟨df,H,K⟩:=UE a (show BY bY an I j9.toList _ from av)
   obtain⟨⟨v,cN⟩,ak,ay⟩:=(kX.1 K)
   refine⟨v,cN, ?_,ay.out⟩
   simp only[oc,p1,Kv,H]
   unfold Pc at ak
   split at ak
   ·rename_i aX
    simp only[aX]
    exact ak
   ·cases ak
  |makeMap ty r=>
   cases r with
   |none=>exact⟨_,_,rfl,(show gm C h b _ _ aj from av).out⟩
   |some r=>exact av.elim
  |_=>exact av.elim
 |_=>exact av.elim
def avn(a:gP I t){op:jS}{b:Nat}{aj:z->S ai->Prop}(av:Ug op C h b an I aj):∃v cN,oc op C b an t=some (v,cN)/\aj v (bp C h b (some cN)):=by
 cases op with
 |make bY U=>
  cases U with
  |alloc ty=>
   obtain⟨⟨v,cN⟩,H,K⟩:=kX.1 (show ar (D1 C ty (kE undef) b) _ from av)
   exact⟨v,cN,H,K.out⟩
  |box ty x=>
   obtain⟨E,H,K⟩:=hq a (show ew bY an I x _ from av)
   exact⟨_,_,by simp only[oc,p1,Ku,H],K.out⟩
  |buildSlice ty len j9=>
   obtain⟨df,H,K⟩:=UE a (show BY bY an I j9.toList _ from av)
   obtain⟨⟨v,cN⟩,ak,ay⟩:=(kX.1 K)
   refine⟨v,cN, ?_,ay.out⟩
   simp only[oc,p1,Kv,H]
   unfold Pc at ak
   split at ak
   ·rename_i aX
    simp only[aX]
    exact ak
   ·cases ak
  |makeMap ty r=>
   cases r with
   |none=>exact⟨_,_,rfl,(show me C h b _ _ aj from av).out⟩
   |some r=>exact av.elim
  |_=>exact av.elim
 |_=>exact av.elim
def σ{rd:Bool}{f:Nat}{cg:List z}{aj au:bR}(a:ba C f cg h j aj au):∃r,r8 C f cg=some r/\Cv C rd (some r) h j aj au:=by
 rcases a.out with ⟨ac,H,K⟩|⟨H,⟨fn,c,K,ak⟩,ay⟩
 ·exact⟨.known f cg ac,by simp[r8,H],K⟩
 ·exact⟨.enter f cg,by simp[r8,H,K,ak],ay⟩
def yV{rd:Bool}{U:Option dL}{aj au:bR}(a:iA U h j aj):∃r,U=some r/\Cv C rd (some r) h j aj au:=by
 rw[axG]at a
 split at a
 ·exact⟨_,rfl,a⟩
 ·exact⟨_,rfl,a⟩
 ·exact a.elim
def aoA{rd:Bool}{U:Option dL}{aj au:bR}(a:FU U h j aj):∃r,U=some r/\Cv C rd (some r) h j aj au:=by
 rw[aoB]at a
 split at a
 ·exact⟨_,rfl,a⟩
 ·exact⟨_,rfl,a⟩
 ·exact⟨_,rfl,a⟩
 ·exact a.elim
def acg(a:gP I t){rd:Bool}{op:jS}{aj au:bR}(av:Sp rd op C h j an I aj au):∃r,hH op C h j an t=some r/\Cv C rd (some r) h j aj au:=by
 cases op with
 |st n E v=>
  obtain⟨fu,H,K⟩:=ob a (show jJ E an I _ from av)
  obtain⟨fd,ak,ay⟩:=ob a K
  obtain⟨R,be,bV⟩:=(kX.1 ay)
  refine⟨.e2 undef R j, ?_,bV⟩
  simp only[hH,H,ak]
  unfold eI at be
  split at be
  ·simp only[d6]at be
   simp[Pe,be.2,eR,be.1]
  ·cases be
 |call f args=>
  obtain⟨cg,H,K⟩:=an9 a (show Ms an I args _ from av)
  cases Gl:GQ C f with
  |true=>
   rw[Gl]at K
   obtain⟨R,ak,ay⟩:=(show Uh C h cg j aj from K).out
   exact⟨.wrote f cg R,by simp[hH,H,Gl,ak],ay⟩
  |false=>
   rw[Gl]at K
   obtain⟨r,ak,ay⟩:=σ (rd:=rd) (show ba C f cg h j aj au from K)
   exact⟨r,by simp[hH,H,ak,Gl],ay⟩
 |fg bY U=>
  cases U with
  |mapUpdate ty m o x=>
   obtain⟨E,H,K⟩:=hq a (show ew bY an I m _ from av)
   obtain⟨b,ak,ay⟩:=hq a K
   obtain⟨c,be,bV⟩:=hq a ay
   obtain⟨r,c9,eg⟩:=yV (C:=C) (au:=au) (rd:=rd) bV
   exact⟨r,by simp[hH,nx,Ga,H,ak,be,c9],eg⟩
  |insert ty m o x=>
   obtain⟨E,H,K⟩:=hq a (show ew bY an I m _ from av)
   obtain⟨b,ak,ay⟩:=hq a K
   obtain⟨c,be,bV⟩:=hq a ay
   obtain⟨r,c9,eg⟩:=yV (C:=C) (au:=au) (rd:=rd) bV
   exact⟨r,by simp[hH,nx,Ga,H,ak,be,c9],eg⟩
  |mapEntry ty m o=>
   obtain⟨E,H,K⟩:=hq a (show ew bY an I m _ from av)
   obtain⟨b,ak,ay⟩:=hq a K
   obtain⟨r,c9,eg⟩:=yV (C:=C) (au:=au) (rd:=rd) ay
   exact⟨r,by simpa[hH,nx,I2,two,Go.bn.kD,Go.bn.gZ,H,ak]using c9,eg⟩
  |entryStore ty m s x=>
   obtain⟨E,H,K⟩:=hq a (show ew bY an I m _ from av)
   obtain⟨b,ak,ay⟩:=hq a K
   obtain⟨c,be,bV⟩:=hq a ay
   obtain⟨r,c9,eg⟩:=yV (C:=C) (au:=au) (rd:=rd) bV
   exact⟨r,by simpa[hH,nx,IV,agG,Go.bn.kD,Go.bn.gZ,Go.bn.mM,H,ak,be]using c9,eg⟩
  |makeSlice ty k c=>
   obtain⟨E,H,K⟩:=hq a (show ew bY an I k _ from av)
   obtain⟨b,ak,ay⟩:=hq a K
   obtain⟨r,c9,eg⟩:=yV (C:=C) (au:=au) (rd:=rd) ay
   exact⟨r,by simpa[hH,nx,I1,two,Go.bn.kD,Go.bn.gZ,H,ak]using c9,eg⟩
  |makeMap ty jC=>
   cases jC with
   |none=>exact av.elim
   |some x=>
    obtain⟨E,H,K⟩:=hq a (show ew bY an I x _ from av)
    obtain⟨r,c9,eg⟩:=yV (C:=C) (au:=au) (rd:=rd) K
    exact⟨r,by simpa[hH,nx,I0,kE,H]using c9,eg⟩
  |convert s d x=>
   obtain⟨E,H,K⟩:=hq a (show ew bY an I x _ from av)
   obtain⟨r,c9,eg⟩:=yV (C:=C) (au:=au) (rd:=rd) K
   exact⟨r,by simpa[hH,nx,I5,kE,H]using c9,eg⟩
  |range ty x=>
   obtain⟨E,H,K⟩:=hq a (show ew bY an I x _ from av)
   obtain⟨r,c9,eg⟩:=yV (C:=C) (au:=au) (rd:=rd) K
   exact⟨r,by simpa[hH,nx,I3,kE,H]using c9,eg⟩
  |next d7 yC=>
   obtain⟨E,H,K⟩:=hq a (show ew bY an I d7 _ from av)
   obtain⟨r,c9,eg⟩:=aoA (C:=C) (au:=au) (rd:=rd) K
   exact⟨r,by simpa[hH,nx,wk,kE,H]using c9,eg⟩
  |panic x=>
   cases rd with
   |true=>exact(show False from av).elim
   |false=>
    obtain⟨E,H,K⟩:=hq a (show ew bY an I x _ from av)
    rw[awL]at K
    split at K
    ·rename_i oI azY
     exact⟨.panic (.iface oI azY),by simp[hH,nx,RW,H],K⟩
    ·exact K.elim
  |call c=>
   obtain⟨callee,args,cL⟩:=c
   cases callee with
   |value f=>
    obtain⟨mz,H,K⟩:=hq a (show ew bY an I f _ from av)
    obtain⟨cg,ak,ay⟩:=Ek a K
    have ay:=ay.out
    split at ay
    ·split at ay
     ·obtain⟨r,be,bV⟩:=σ (rd:=rd) ay
      exact⟨r,by simp[hH,nx,CZ,H,ak,Av];simpa using be,bV⟩
     ·exact⟨.round _ _,by simp only[hH,nx,CZ,H,ak,Av],ay⟩
     ·exact ay.elim
    ·exact ay.elim
   |builtin b=>
    obtain⟨aY,H,K⟩:=Ek a (show sN bY an I args.toList _ from av)
    obtain⟨r,c9,eg⟩:=yV (C:=C) (au:=au) (rd:=rd) K
    refine⟨r, ?_,eg⟩
    have B:∀r,x8 C h j b cL.toList aY=some r->hH (.fg bY (.call ⟨.builtin b,args,cL⟩)) C h j an t=some r:=by
     intro r V
     simp only[hH,nx,CZ,IR,H]
     unfold x8 at V
     split at V
     all_goals first|exact V|cases V
    exact B r c9
   |invoke x name=>
    obtain⟨hy,H,K⟩:=hq a (show ew bY an I x _ from av)
    obtain⟨cg,ak,ay⟩:=Ek a K
    rw[avB]at ay
    split at ay
    ·cases aZ:Fv C h _ _ name cg with
     |none=>rw[aZ]at ay;exact ay.elim
     |some r=>rw[aZ]at ay;exact⟨r,by simp[hH,nx,CZ,H,ak,aZ],ay⟩
    ·exact ay.elim
  |_=>exact av.elim
 |_=>exact av.elim
def apy{lF:Bool}{v:z}{E b:Prop}(a:jk lF v E b):∃w,(match v with| .bool b=>some (b==lF)|_=>some false)=some w/\(w=true->E)/\(w=false->b):=by
 have a:=a.out
 cases v with
 |bool t=>
  obtain⟨H,K⟩:=a
  refine⟨t==lF,rfl,λB=>H (by simpa using B),λB=>K ?_⟩
  cases t<;>cases lF<;>simp_all
 |_=>exact⟨false,rfl,Zs,λ_=>a⟩
def Pu{g:Option (Nat×Bool)}{E b:Prop}(a:Pt g an E b):∃w,oJ g an=some w/\(w=true->E)/\(w=false->b):=by
 cases g with
 |none=>exact⟨true,rfl,λ_=>a,Zs⟩
 |some p=>
  obtain⟨W,lF⟩:=p
  obtain⟨v,H,K⟩:=sO.1 (show cl (ee an W) _ from a)
  obtain⟨w,ak,ay⟩:=apy K
  exact⟨w,by simp only[oJ,H];exact ak,ay⟩
def agl(a:gP I t)(d:Nat)(v:z):gP (ab I d v) (t.set d (some v)):=by
 intro n ac aX
 have aX:=(show bI (Nat.beq d n) (some v) (I.g n)=some ac from aX)
 rw[hl]at aX
 rw[S.kw]
 split at aX
 ·rename_i B;rw[Zq B];exact aX
 ·rename_i B;rw[Zg B];exact a n ac aX
def aa0:∀{k:List (Nat×Nat)}{I:db}{t:S z}{aj:db->Prop},gP I t->IH k an I aj->∃cZ g8,xR an k t=some g8/\gP cZ g8/\(cZ.bg=I.bg/\cZ.rc=I.rc)/\aj cZ:=by
 intro k
 induction k with
 |nil=>intro I t aj a av;exact⟨I,t,rfl,a,⟨rfl,rfl⟩,av⟩
 |cons p k ag=>
  intro I t aj a av
  obtain⟨i,d⟩:=p
  obtain⟨v,H,K⟩:=sO.1 (show cl (ee an i) (λv=>IH k an (ab I d v) aj) from av)
  obtain⟨cZ,g8,ak,ay,be⟩:=ag (agl a d v) K
  exact⟨cZ,g8,by simp[xR,H,ak],ay,be⟩
def ayM{op:jS}{bY:List (Nat×Nat)}{f:Operand}{args:List Operand}(a:EE op= .defer bY f args):∃c:Array Operand×Array TypeId,args=c.1.toList/\op= .fg bY (.defer ⟨.value f,c.1,c.2⟩):=by
 unfold EE at a
 split at a
 ·split at a
  ·split at a
   ·injection a with H K ak
    subst H K ak
    exact⟨(_,_),rfl,rfl⟩
   ·cases a
  ·split at a
   ·split at a<;>cases a
   ·cases a
  ·cases a
 ·cases a
def ayN{op:jS}(a:EE op= .recover):∃bY cL args,op= .fg bY (.call ⟨.builtin .recover,args,cL⟩)/\args.toList=[]:=by
 unfold EE at a
 split at a
 ·split at a
  ·split at a<;>cases a
  ·split at a
   ·split at a
    ·rename_i aB
     exact⟨_,_,_,rfl,aB⟩
    ·cases a
   ·cases a
  ·cases a
 ·cases a
def axJ(a:gP I t):∀{k:List ResultVar}{aj:List z->Prop},qB C h I k aj->∃aY,w2 C h t k=some aY/\aj aY:=by
 intro k
 induction k with
 |nil=>intro aj av;exact⟨[],rfl,av⟩
 |cons x k ag=>
  intro aj av
  cases x with
  |tmp n=>
   obtain⟨v,H,K⟩:=sO.1 (show cl (I n) (λv=>qB C h I k λr=>aj (v::r)) from av)
   obtain⟨r,ak,ay⟩:=ag K
   exact⟨v::r,by simp[w2,a n v H,ak],ay⟩
  |cell E ty=>
   obtain⟨p,H,K⟩:=sO.1 (show cl (I E) (λp=>ar (pv C h ty p) λv=>qB C h I k λr=>aj (v::r)) from av)
   obtain⟨v,ak,ay⟩:=(kX.1 K)
   obtain⟨r,be,bV⟩:=ag ay
   exact⟨v::r,by simp[w2,a E p H,ak,be],bV⟩
def au4(a:gP I t){base:Nat}:∀{k:List fh}{an:List (Nat×z)}{h:S ai}{aj:List (Nat×z)->S ai->Prop},Ok C base I k an h aj->∃hs R,vZ C base t k an h=some (hs,R)/\aj hs R:=by
 intro k
 induction k with
 |nil=>intro an h aj av;exact⟨an,h,rfl,av⟩
 |cons x k ag=>
  intro an h aj av
  obtain⟨w,H,K,ak⟩:=Pu ((az4 ..).mp (show rH x.g an (λW=>match mG x.op with
   | .make=>Ug x.op C h (base+x.i) an I W
   |_=>G2 x.op C h an I λv=>W v h) (λv h=>Ok C base I k ((x.i,v)::an) h aj) h from av))
  simp only[vZ,H]
  cases w with
  |false=>exact ag (ak rfl)
  |true=>
   have ay:=K rfl
   cases aC:mG x.op with
   |make=>
    simp only[aC]at ay
    obtain⟨v,cN,be,bV⟩:=avn a ay
    simp only[be,gS]
    exact ag bV
   |h9=>
    simp only[aC]at ay
    obtain⟨v,be,bV⟩:=Oi a ay
    simp only[be]
    exact ag bV
   |fg=>
    simp only[aC]at ay
    obtain⟨v,be,bV⟩:=Oi a ay
    simp only[be]
    exact ag bV
def axy(a:gP I t):∀{k:List fh}{aj:Prop},UO C I an h k aj->CI C t an h k=true/\aj:=by
 intro k
 induction k with
 |nil=>intro aj av;exact⟨rfl,av⟩
 |cons x k ag=>
  intro aj av
  obtain⟨w,H,K,ak⟩:=Pu ((az5 ..).mp (show VB x.g an (λal=>G2 x.op C h an I λv=>iB v (ee an x.i) al) (UO C I an h k aj) from av))
  simp only[CI,H]
  cases w with
  |false=>exact ag (ak rfl)
  |true=>
   obtain⟨v,be,bV⟩:=Oi a (K rfl)
   obtain⟨ac,c9,eg,hI⟩:=sO.1 bV.out
   obtain⟨kO,lU⟩:=ag hI
   exact⟨by simp[be,c9,eg,kO],lU⟩
end
section
variable{C:aK}{dD:c1}{dQ:Nat->Prop}{bl:World}{bD:Nat}{bO:List Frame}{v:z}
variable{fn n am:Nat}{bN:uf}{aN:Bool}{ro:Option Nat}{cs c3:List gz}
def kN(cB:Env C bl dD dQ){bN:k1}{todo:List dJ}{bZ:ir}{I:S z}{h:S ai}{j:Nat}(a:Vg (fF C bl bD bO v) C bN todo bZ I h j=some v):n1 C bl bD bO bN todo bZ I h j v:=
 λJ Y w cJ tmps bB aE cX=>agx cB XZ _ _ _ _ _ _ _ _ _ _ _ _ v a J Y w cJ tmps bB aE cX
def fk(bN:uf)(fn n am:Nat)(aN:Bool)(ro:Option Nat)(cs c3:List gz)(I:db):ir:=⟨fn,n,am,bI bN.bg I.bg [],aN,ro,bI I.rc c3 cs⟩
structure An(bN:uf)(aN:Bool)(ro:Option Nat)(cs c3:List gz):Prop where
 rd:bN.rd=false->ro=none
 bg:bN.bg=true->ro=none
 none:bN.kG=some none->c3=cs/\Ca aN cs=some (.nilIface,cs)
 some:∀ac,bN.kG=some (some ac)->Ca aN cs=some (ac,c3)/\Ca aN c3=some (.nilIface,c3)
def axY{ag:hr}{C:aK}{k:Nat}{args:List z}{d7:dJ}{o:List dJ}{bZ:ir}{I:S z}{h:S ai}{j:Nat}:ny (.round k args) ag C d7 o bZ I h j=O0 ag C k args (EI d7 o bZ I) h j:=rfl
def aaz{I:db}{t:S z}(a:gP I t)(k:List Nat):gP (h3 k I) (v2 k t):=by
 intro n v bo
 rw[Mh]
 by_cases aM:n∈k
 ·simp[h3,eR,D4,aM]at bo
 ·simp[h3,eR,D4,aM]at bo
  rw[Zg aM];exact a n v bo
def Qu{E b:Nat}(a:E<=b):Nat.ble E b=true:=by simpa using a
def XX(aD:z.same 30 v v=true)(aZ:An bN aN ro cs c3){d7:dJ}{o:List dJ}{kJ:db}{I:S z}{h:S ai}{j:Nat}{aj au:bR}(cB:Env C bl dD dQ)
 (i2:∀ac h j,aj ac h j->∃hg,od d7 ac=some hg/\n1 C bl bD bO .run (hg::o) (fk bN fn n am aN ro cs c3 kJ) I h j v)
 (ct:∀ac h j todo,au ac h j->n1 C bl bD bO (.panicking [⟨ac,false⟩]) todo (fk bN fn n am aN ro cs c3 kJ) (ux (d7::o) I) h j v){r:dL}(a:Cv C bN.rd (some r) h j aj au):
 ny r (fF C bl bD bO v) C d7 o (fk bN fn n am aN ro cs c3 kJ) I h j=some v:=by
 have fill:∀ac h j,aj ac h j->(match od d7 ac with|some hg=>fF C bl bD bO v .run (hg::o) (fk bN fn n am aN ro cs c3 kJ) I h j|none=>none)=some v:=by
  intro ac h j aC
  obtain⟨hg,H,K⟩:=i2 ac h j aC
  rw[H]
  exact ii K
 cases r with
 |val ac=>exact fill ac h j a
 |e2 ac R ap=>exact fill ac R ap a
 |enter f args=>
  refine a bl dD dQ cB bD bO v aD (EI d7 o (fk bN fn n am aN ro cs c3 kJ) I) (λac R ap al=> ?_) (λac R ap al=> ?_)
  ·exact fill ac R ap al
  ·exact ii (ct ac R ap _ al)
 |round k args=>
  rw[axY]
  refine a bl dD dQ cB bD bO v aD (EI d7 o (fk bN fn n am aN ro cs c3 kJ) I) (λac R ap al=> ?_) (λac R ap al=> ?_)
  ·exact fill ac R ap al
  ·exact ii (ct ac R ap _ al)
 |known f args ac=>exact fill ac h j a
 |wrote f args aU=>exact fill (.tuple []) aU j a
 |panic ac=>
  have a:=(show bI bN.rd False (au ac h j) from a)
  cases V:bN.rd with
  |true=>rw[V]at a;exact a.elim
  |false=>
   rw[V]at a
   have lb:=aZ.rd V
   subst lb
   exact ii (ct ac h j _ a)
 |fork k=>exact aoz aD k a.1 λac R aZ=>i2 ac R j (a.2 ac R aZ)
 |_=>exact a.elim
def anf{ao:Array Oper}{an:List (Nat×z)}{i:Nat}{rest:List fh}{fin:List (Nat×Nat)}{o:List dJ}{I:S z}:ux (.s0 ao an i rest fin::o) I=v2 (dstsOf ao.toList) I:=rfl
def ane{ao:Array Oper}{an:List (Nat×z)}{b i:Nat}{rest:List vL}{fin:List (Nat×Nat)}{o:List dJ}{I:S z}:ux (.y9 ao b an i rest fin::o) I=v2 (dstsOf ao.toList) I:=rfl
def ayi(cB:Env C bl dD dQ)(aD:z.same 30 v v=true)(aZ:An bN aN ro cs c3){ao:Array Oper}{fin:List (Nat×Nat)}{o:List dJ}{t:S z}{aj:fS}{au:s6}
 (i2:∀I t h j,gP I t->aj I h j->n1 C bl bD bO .run o (fk bN fn n am aN ro cs c3 I) t h j v)
 (ct:∀I t ac h j todo,gP I t->au I ac h j->n1 C bl bD bO (.panicking [⟨ac,false⟩]) todo (fk bN fn n am aN ro cs c3 I) t h j v):
 ∀(rest:List fh) (an:List (Nat×z)) (I:db) (h:S ai) (j:Nat),gP I t->B7 C bN fin aj (λI=>au (h3 (dstsOf ao.toList) I)) rest an I h j->y0 rest ⟨fF C bl bD bO v,ao,fin,o,fk bN fn n am aN ro cs c3 I⟩ C t an h j=some v:=by
 intro rest
 induction rest with
 |nil=>
  intro an I h j bh a
  obtain⟨cZ,g8,H,K,ak,ay⟩:=aa0 bh (show IH fin an I (λI=>aj I h j) from a)
  show IB ⟨fF C bl bD bO v,ao,fin,o,fk bN fn n am aN ro cs c3 I⟩ C t an h j=some v
  simp only[IB,Mv,H,oB]
  have B:fk bN fn n am aN ro cs c3 I=fk bN fn n am aN ro cs c3 cZ:=by unfold fk;rw[ak.1,ak.2]
  rw[B]
  exact ii (i2 _ _ _ _ K ay)
 |cons x rest ag=>
  intro an I h j bh a
  obtain⟨i,g,op⟩:=x
  show Ej i g op rest (y0 rest) ⟨fF C bl bD bO v,ao,fin,o,fk bN fn n am aN ro cs c3 I⟩ C t an h j=some v
  have a:=(show(match EE op with
   | .no=>Pv g an (λaj=>UB bN.rd op C h j an I aj (au (h3 (dstsOf ao.toList) I))) (λv h j=>B7 C bN fin aj (λI=>au (h3 (dstsOf ao.toList) I)) rest ((i,v)::an) I h j) h j
   | .defer bY f args=>bI (g.isNone&&bN.bg) (ew bY an I f λmz=>sN bY an I args λcg=>L9 mz cg I λI=>B7 C bN fin aj (λI=>au (h3 (dstsOf ao.toList) I)) rest ((i,undef)::an) I h j) False
   | .recover=>bI (g.isNone&& !bN.rd) (KT bN.kG I λv I=>B7 C bN fin aj (λI=>au (h3 (dstsOf ao.toList) I)) rest ((i,v)::an) I h j) False) from a)
  cases Bk:EE op with
  |no=>
   rw[Bk]at a
   obtain⟨w,H,K,ak⟩:=Pu ((ag0 ..).mp a)
   simp only[Ej,Ps,H,oB]
   cases w with
   |false=>simp only[Zw,ZA];exact ag _ _ _ _ bh (ak rfl)
   |true=>
    simp only[ZC]
    have ay:=K rfl
    rw[OK]
    unfold UB at ay
    cases aC:mG op with
    |h9=>
     simp only[aC]at ay ⊢
     obtain⟨ac,be,bV⟩:=Oi bh ay
     rw[be]
     exact ag _ _ _ _ bh bV
    |make=>
     simp only[aC]at ay ⊢
     obtain⟨ac,cN,be,bV⟩:=avp bh ay
     simp only[Om,l6,be,gS,oB]
     exact ag _ _ _ _ bh bV
    |fg=>
     simp only[aC]at ay ⊢
     obtain⟨r,be,bV⟩:=acg bh ay
     rw[be]
     have p5:ny r (fF C bl bD bO v) C (.s0 ao an i rest fin) o (fk bN fn n am aN ro cs c3 I) t h j=some v:=by
      refine XX aD aZ cB (λac h j al=>⟨_,rfl, ?_⟩) (λac h j todo al=> ?_) bV
      ·exact kN cB (ag _ _ _ _ bh al)
      ·rw[anf];exact ct (h3 (dstsOf ao.toList) I) _ _ _ _ _ (aaz bh _) al
     cases r with
     |val ac=>exact ag _ _ _ _ bh bV
     |e2 ac R ap=>exact ag _ _ _ _ bh bV
     |_=>exact p5
  |defer bY f args=>
   rw[Bk]at a
   obtain⟨c,rfl,rfl⟩:=ayM Bk
   have a:=(show bI (g.isNone&&bN.bg) _ False from a)
   cases g with
   |some g=>exact a.elim
   |none=>
    cases pC:bN.bg with
    |false=>rw[pC]at a;exact a.elim
    |true=>
     rw[pC]at a
     obtain⟨mz,H,K⟩:=hq bh (show ew bY an I f _ from a)
     obtain⟨cg,ak,ay⟩:=Ek bh K
     have lb:=aZ.bg pC
     subst lb
     cases mz with
     |func g first fw=>
      simp only[Ej,Ps,oJ,oB,ZC]
      rw[OK]
      have aC:mG (.fg bY (.defer ⟨.value f,c.1,c.2⟩))= .fg:=rfl
      have af:hH (.fg bY (.defer ⟨.value f,c.1,c.2⟩)) C h j an t=some (.defer ⟨.fn g fw,first++cg⟩):=by
       simp only[hH,nx,RK,H,ak]
      simp only[aC,af]
      have gq:fk bN fn n am aN none cs c3 I=⟨fn,n,am,I.bg,aN,none,bI I.rc c3 cs⟩:=by unfold fk;rw[pC];rfl
      show ny (.defer ⟨.fn g fw,first++cg⟩) (fF C bl bD bO v) C (.s0 ao an i rest fin) o (fk bN fn n am aN none cs c3 I) t h j=some v
      rw[gq]
      show fF C bl bD bO v .run (.Hr ao ((i,undef)::an) rest fin::o) ⟨fn,n,am,⟨.fn g fw,first++cg⟩::I.bg,aN,none,bI I.rc c3 cs⟩ t h j=some v
      have dy:(⟨fn,n,am,⟨.fn g fw,first++cg⟩::I.bg,aN,none,bI I.rc c3 cs⟩:ir)=fk bN fn n am aN none cs c3 (B1 I ⟨.fn g fw,first++cg⟩):=by unfold fk;rw[pC];rfl
      rw[dy]
      exact ii (kN cB (ag _ (B1 I ⟨.fn g fw,first++cg⟩) _ _ bh ay))
     |_=>exact ay.elim
  |recover=>
   rw[Bk]at a
   obtain⟨bY,cL,args,rfl,wn⟩:=ayN Bk
   have a:=(show bI (g.isNone&& !bN.rd) _ False from a)
   cases g with
   |some g=>exact a.elim
   |none=>
    cases cR:bN.rd with
    |true=>rw[cR]at a;exact a.elim
    |false=>
     rw[cR]at a
     have lb:=aZ.rd cR
     subst lb
     have a:KT bN.kG I (λv I=>B7 C bN fin aj (λI=>au (h3 (dstsOf ao.toList) I)) rest ((i,v)::an) I h j):=a
     simp only[Ej,Ps,oJ,oB,ZC]
     rw[OK]
     have aC:mG (.fg bY (.call ⟨.builtin .recover,args,cL⟩))= .fg:=rfl
     have af:hH (.fg bY (.call ⟨.builtin .recover,args,cL⟩)) C h j an t=some .recover:=by
      simp only[hH,nx,CZ,IR,wn,pz]
     simp only[aC,af]
     show ny .recover (fF C bl bD bO v) C (.s0 ao an i rest fin) o (fk bN fn n am aN none cs c3 I) t h j=some v
     have key:∀ac cZ,gP cZ t->Ca aN (bI I.rc c3 cs)=some (ac,bI cZ.rc c3 cs)->cZ.bg=I.bg->B7 C bN fin aj (λI=>au (h3 (dstsOf ao.toList) I)) rest ((i,ac)::an) cZ h j->ny .recover (fF C bl bD bO v) C (.s0 ao an i rest fin) o (fk bN fn n am aN none cs c3 I) t h j=some v:=by
      intro ac cZ wH H K ak
      show(match Ca aN (bI I.rc c3 cs)with
       |some (fd,amK)=>(match od (.s0 ao an i rest fin) fd with|some hg=>fF C bl bD bO v .run (hg::o) ⟨fn,n,am,bI bN.bg I.bg [],aN,none,amK⟩ t h j|none=>none)
       |none=>none)=some v
      rw[H]
      show fF C bl bD bO v .run (.Hr ao ((i,ac)::an) rest fin::o) ⟨fn,n,am,bI bN.bg I.bg [],aN,none,bI cZ.rc c3 cs⟩ t h j=some v
      have gq:(⟨fn,n,am,bI bN.bg I.bg [],aN,none,bI cZ.rc c3 cs⟩:ir)=fk bN fn n am aN none cs c3 cZ:=by unfold fk;rw[K]
      rw[gq]
      exact ii (kN cB (ag _ _ _ _ wH ak))
     unfold KT at a
     cases av:bN.kG with
     |none=>rw[av]at a;exact a.elim
     |some p=>
      rw[av]at a
      cases p with
      |none=>
       obtain⟨H,K⟩:=aZ.none av
       subst H
       refine key _ I bh ?_ rfl a
       cases I.rc<;>exact K
      |some ac=>
       obtain⟨H,K⟩:=aZ.some ac av
       cases yu:I.rc with
       |true=>
        simp only[yu]at a
        refine key _ I bh ?_ rfl a
        simp only[yu];exact K
       |false=>
        simp only[yu]at a
        refine key ac (U5 I) bh ?_ rfl a
        simp only[yu];exact H
def anc(cB:Env C bl dD dQ)(aD:z.same 30 v v=true)(aZ:An bN aN ro cs c3){ao:Array Oper}{base:Nat}{fin:List (Nat×Nat)}{o:List dJ}{I:db}{t:S z}(bh:gP I t){aj:fS}{au:s6}
 (i2:∀I t h j,gP I t->aj I h j->n1 C bl bD bO .run o (fk bN fn n am aN ro cs c3 I) t h j v)
 (ct:∀I t ac h j todo,gP I t->au I ac h j->n1 C bl bD bO (.panicking [⟨ac,false⟩]) todo (fk bN fn n am aN ro cs c3 I) t h j v):
 ∀(li:List vL) (an:List (Nat×z)) (h:S ai) (j:Nat),QY C bN.rd base fin I aj (au (h3 (dstsOf ao.toList) I)) li an h j->xK (fF C bl bD bO v) C ao base an li fin o (fk bN fn n am aN ro cs c3 I) t h j=some v:=by
 intro li
 induction li with
 |nil=>intro an h j a;exact a.elim
 |cons s rest ag=>
  intro an h j a
  obtain⟨hs,R,H,K⟩:=au4 bh (show Ok C base I s.tN an h _ from a)
  obtain⟨ak,ay⟩:=axy bh K
  simp only[xK,H,ak,eU]
  cases gC:s.fg with
  |none=>
   simp only[gC]at ay
   obtain⟨cZ,g8,be,bV,c9,eg⟩:=aa0 bh ay
   simp only[Mv,be,oB]
   have B:fk bN fn n am aN ro cs c3 I=fk bN fn n am aN ro cs c3 cZ:=by unfold fk;rw[c9.1,c9.2]
   rw[B]
   exact ii (i2 _ _ _ _ bV eg)
  |some af=>
   simp only[gC]at ay
   obtain⟨w,be,bV,c9⟩:=Pu ((ag0 ..).mp ay)
   simp only[be]
   cases w with
   |false=>simp only[ku];exact ii (kN cB (ag _ _ _ (c9 rfl)))
   |true=>
    obtain⟨r,eg,hI⟩:=acg bh (bV rfl)
    simp only[eU,eg]
    refine XX aD aZ cB (λac h j al=>⟨_,rfl, ?_⟩) (λac h j todo al=> ?_) hI
    ·exact kN cB (ag _ _ _ al)
    ·rw[ane];exact ct (h3 (dstsOf ao.toList) I) _ _ _ _ _ (aaz bh _) al
def aht(C:aK)(bl:World)(bD:Nat)(bO:List Frame)(v:z)(cx:db->ir)(o:List dJ)(id:Nat):fS:=λI h j=>∀t,gP I t->AR id (fF C bl bD bO v) C o (cx I) t h j=some v
def Mu{id:Nat}{ag:hr}{C:aK}{d7:dJ}{o:List dJ}{bN:uf}{cs c3:List gz}{kJ:db}{I:S z}{h:S ai}{j:Nat}(a:exitTo id (d7::o)=exitTo id o):
 AR id ag C (d7::o) (fk bN fn n am aN ro cs c3 kJ) I h j=AR id ag C o (fk bN fn n am aN ro cs c3 kJ) I h j:=by
 unfold AR
 rw[a]
 cases exitTo id o with
 |some eA=>rfl
 |none=>
  unfold ox fk
  cases ro with
  |none=>rfl
  |some k=>rfl
def PS(C:aK)(fn n am:Nat)(c:Code):Prop:=
 ∀{bl:World}{dD:c1}{dQ:Nat->Prop}(_:Env C bl dD dQ) {bD:Nat}{bO:List Frame}{v:z}(_:z.same 30 v v=true) (bN:uf) (aN:Bool) (ro:Option Nat) (cs c3:List gz) (au:s6) (o:List dJ) (aj:fS) (B:Nat->fS) (r:fS) (I:db) (t:S z) (h:S ai) (j:Nat),An bN aN ro cs c3->
  (∀I t ac h j todo,gP I t->au I ac h j->n1 C bl bD bO (.panicking [⟨ac,false⟩]) todo (fk bN fn n am aN ro cs c3 I) t h j v)->
  (∀I t h j,gP I t->aj I h j->n1 C bl bD bO .run o (fk bN fn n am aN ro cs c3 I) t h j v)->
  (∀id I h j,B id I h j->aht C bl bD bO v (fk bN fn n am aN ro cs c3) o id I h j)->
  (∀I t h j todo,gP I t->r I h j->ox (some .ret) (fF C bl bD bO v) C todo (fk bN fn n am aN ro cs c3 I) t h j=some v)->
  gP I t->vV C n am c bN au aj B r I h j->up c (fF C bl bD bO v) C o (fk bN fn n am aN ro cs c3 I) t h j=some v
def ayo{n:Nat}:∀(df:List Nat) (cg:List z) (I:db) (t:S z) (aj:db->Prop),gP I t->Hs n df cg I aj->∃cZ g8,w5 n df cg t=some g8/\gP cZ g8/\aj cZ:=by
 intro df
 induction df with
 |nil=>
  intro cg I t aj bh a
  cases cg with
  |nil=>exact⟨I,t,rfl,bh,a⟩
  |cons E cg=>exact a.elim
 |cons p df ag=>
  intro cg I t aj bh a
  cases cg with
  |nil=>exact a.elim
  |cons E cg=>
   have a:=(show bI (Nat.blt p n) (Hs n df cg (ab I p E) aj) False from a)
   cases ah:Nat.blt p n with
   |false=>rw[ah]at a;exact a.elim
   |true=>
    rw[ah]at a
    obtain⟨cZ,g8,H,K,ak⟩:=ag cg _ _ aj (agl bh p E) a
    exact⟨cZ,g8,by simp only[w5,ah,eU,H],K,ak⟩
def Ci(fn n am:Nat)(ro:Option Nat)(cs:List gz)(I:db):fk BJ fn n am false ro cs cs I=⟨fn,n,am,[],false,ro,cs⟩:=by
 unfold fk BJ
 cases I.rc<;>rfl
def T2{ag:hr}{C:aK}{k fn n am:Nat}{t0:S z}{params:List Nat}{assign body:Code}{Mb:Nat}{iN:Option Code}{st:LoopState}{b:Bool}{aj:bR}{todo:List dJ}{cs:List gz}{t:S z}{h:S ai}{j:Nat}{v:z}
 (aI:jI C k=true)(av:afI iN=true)(cX:st=bI iN.isNone .ready .done)(ah:b=iN.isNone)(a:Mo C k (λst p=> .loop st p fn n am t0 params assign body Mb) st iN b aj h j)
 (aC:∀ac h j,aj ac h j->ta ag false cs ac h j=some v):ox iN ag C todo ⟨fn,n,am,[],false,some k,cs⟩ t h j=some v:=by
 obtain⟨⟨agu,ry,H⟩,K⟩:=a
 subst cX ah
 have:=aC _ _ _ K
 simp only[ox,H,aI,av,Ye,Yz,eU,gS]
 exact this
def axZ{C:aK}{fn n am:Nat}{assign body:Code}(k7:PS C fn n am assign)(eX:PS C fn n am body){bl:World}{dD:c1}{dQ:Nat->Prop}(cB:Env C bl dD dQ){bD:Nat}{bO:List Frame}{v:z}(aD:z.same 30 v v=true){k:Nat}{t:S z}{params:List Nat}{Mb:Nat}{cs:List gz}
 {I:db}{h:S ai}{j:Nat}{args:List z}{aj au:bR}(aw:Z C h k=some (.loop .ready none fn n am t params assign body Mb))(aI:jI C k=true)(bh:gP I t)
 (h6:∀ac R ap,aj ac R ap->PP C bl bD bO v cs ac R ap)(jv:∀ac R ap,au ac R ap->Lw C bl bD bO v cs ac R ap)
 (a:Hs n params args I λqM=>sU C (vV C n am assign) (vV C n am body) k (λst p=> .loop st p fn n am t params assign body Mb) aj au qM h j):
 O0 (fF C bl bD bO v) C k args cs h j=some v:=by
 obtain⟨qM,t1,bw,atg,H⟩:=ayo _ _ _ _ _ bh a
 unfold O0
 rw[aw]
 simp only[bw]
 have aZ:An BJ false (some k) cs cs:=⟨λa=>(by cases a),λa=>(by cases a),λa=>(by cases a),λac a=>(by cases a)⟩
 have ct:∀(I:db) (t:S z) (ac:z) (h:S ai) (j:Nat) (todo:List dJ),gP I t->au ac h j->n1 C bl bD bO (.panicking [⟨ac,false⟩]) todo (fk BJ fn n am false (some k) cs cs I) t h j v:=by
  intro I t ac h j todo bh al
  rw[Ci]
  refine kN cB ?_
  have:=jv ac h j al
  show K1 [⟨ac,false⟩] todo (fF C bl bD bO v) C ⟨fn,n,am,[],false,some k,cs⟩ t h j=some v
  cases cs with
  |nil=>exact this.elim
  |cons c rest=>exact this
 refine ii (kN cB ?_)
 rw[<-Ci fn n am (some k) cs qM]
 refine k7 cB aD BJ false (some k) cs cs (λ_=>au) [.beginRound, .code body] _ _ _ qM t1 h j aZ ct (λI t h j bh al=> ?_) (λid I h j al=>al.elim) (λI t h j todo bh al=>al.elim) atg H
 obtain⟨cP,cG⟩:=al
 refine kN cB ?_
 rw[Ci]
 show Ig (fF C bl bD bO v) C [.code body] ⟨fn,n,am,[],false,some k,cs⟩ t h j=some v
 unfold Ig
 simp only[cP,aI,eU,gS]
 refine ii (kN cB ?_)
 rw[<-Ci fn n am (some k) cs I]
 refine eX cB aD BJ false (some k) cs cs (λ_=>au) [] _ _ _ I t _ j aZ ct (λI t h j bh al=> ?_) (λid I h j al t bh=> ?_) (λI t h j todo bh al=> ?_) bh cG
 ·refine kN cB ?_
  rw[Ci]
  show ox none (fF C bl bD bO v) C [] ⟨fn,n,am,[],false,some k,cs⟩ t h j=some v
  exact T2 aI rfl rfl rfl al h6
 ·rw[Ci]
  show ox (some (.exit id)) (fF C bl bD bO v) C (.code (.exit id)::[]) ⟨fn,n,am,[],false,some k,cs⟩ t h j=some v
  exact T2 aI rfl rfl rfl al h6
 ·rw[Ci]
  exact T2 aI rfl rfl rfl al h6
def QI:∀c:Code,PS C fn n am c:=by
 intro c
 induction c with
 |skip=>intro bl dD dQ cB bD bO v aD bN aN ro cs c3 au o aj B r I t h j aZ ct i2 a7 V bh a;exact ii (i2 _ _ _ _ bh a)
 |region id ao d=>
  intro bl dD dQ cB bD bO v aD bN aN ro cs c3 au o aj B r I t h j aZ ct i2 a7 V bh a
  cases d with
  |false=>
   obtain⟨al,H,K⟩:=sO.1 (show cl (Kz C n ao am) (λr=>B7 C bN r.fin aj (λI=>au (h3 (dstsOf ao.toList) I)) r.rest [] I h j) from a)
   show jp (Kz C n ao am) (λr=>PR.rec (motive:=λ_=>dU) (λrest fin=>y0 rest ⟨fF C bl bD bO v,ao,fin,o,fk bN fn n am aN ro cs c3 I⟩ C t [] h j) r)=some v
   rw[H]
   exact ayi cB aD aZ i2 ct _ _ _ _ _ bh K
  |true=>
   obtain⟨al,H,K⟩:=sO.1 (show cl (Ky C n ao am) (λr=>fs (j+ao.size) λap=>QY C bN.rd j r.fin I aj (au (h3 (dstsOf ao.toList) I)) r.li [] h ap) from a)
   show jp (Ky C n ao am) (λr=>PQ.rec (motive:=λ_=>dU) (λli fin=>p6 j λj=>xK (fF C bl bD bO v) C ao j [] li fin o (fk bN fn n am aN ro cs c3 I) t h (j+ao.size)) r)=some v
   rw[H]
   show p6 j (λj=>xK (fF C bl bD bO v) C ao j [] al.li al.fin o (fk bN fn n am aN ro cs c3 I) t h (j+ao.size))=some v
   rw[l6]
   exact anc cB aD aZ bh i2 ct _ _ _ _ K.out
 |seq E b mE hv=>
  intro bl dD dQ cB bD bO v aD bN aN ro cs c3 au o aj B r I t h j aZ ct i2 a7 V bh a
  refine mE cB aD bN aN ro cs c3 au (.code b::o) (vV C n am b bN au aj B r) B r I t h j aZ ct (λI t h j bh a=> ?_) (λid I h j a t bh=> ?_) V bh a
  ·exact kN cB (hv cB aD bN aN ro cs c3 au o aj B r I t h j aZ ct i2 a7 V bh a)
  ·rw[Mu (by simp[exitTo])]
   exact a7 id I h j a t bh
 |cond c E b mE hv=>
  intro bl dD dQ cB bD bO v aD bN aN ro cs c3 au o aj B r I t h j aZ ct i2 a7 V bh a
  obtain⟨ac,H,K⟩:=hq (an:=[]) (bY:=[]) bh (show ew [] [] I c _ from a)
  obtain⟨Po,rfl,ak,ay⟩:=κ K.out
  have be:v8 t c=some (.bool Po):=by
   cases c<;>first|(simp[ji,v8]at H;done)|simpa[ji,v8]using H
  show Io c t (up E (fF C bl bD bO v) C o (fk bN fn n am aN ro cs c3 I) t h j) (up b (fF C bl bD bO v) C o (fk bN fn n am aN ro cs c3 I) t h j)=some v
  simp only[Io,oB,be]
  cases Po with
  |true=>exact mE cB aD bN aN ro cs c3 au o aj B r I t h j aZ ct i2 a7 V bh (ak rfl)
  |false=>exact hv cB aD bN aN ro cs c3 au o aj B r I t h j aZ ct i2 a7 V bh (ay rfl)
 |block id b hv=>
  intro bl dD dQ cB bD bO v aD bN aN ro cs c3 au o aj B r I t h j aZ ct i2 a7 V bh a
  refine hv cB aD bN aN ro cs c3 au (.inBlock id::o) aj (CM id aj B) r I t h j aZ ct (λI t h j bh a=>kN cB (ii (i2 I t h j bh a))) (λtI I h j a t bh=> ?_) V bh a.out
  unfold CM at a
  rw[hl]at a
  by_cases Gk:id=tI
  ·rw[Zq Gk]at a
   have bw:exitTo tI (.inBlock id::o)=some o:=by simp[exitTo,Gk,hl]
   unfold AR
   rw[bw]
   exact ii (i2 I t h j bh a)
  ·rw[Zg Gk]at a
   rw[Mu (by simp[exitTo,hl,Gk])]
   exact a7 tI I h j a t bh
 |loop b hv=>
  intro bl dD dQ cB bD bO v aD bN aN ro cs c3 au o aj B r I t h j aZ ct i2 a7 V bh a
  obtain⟨rY,⟨m,wC⟩,o0⟩:=(show fJ (λQg=>vV C n am b bN au Qg B r) I h j from a).out
  have Kw:∀m I t h j,rY m I h j->gP I t->up b (fF C bl bD bO v) C (.inLoop b::o) (fk bN fn n am aN ro cs c3 I) t h j=some v:=by
   intro m
   induction m using Nat.strongRecOn with
   |ind m pI=>
    intro I t h j wC bh
    refine hv cB aD bN aN ro cs c3 au (.inLoop b::o) _ B r I t h j aZ ct (λI t h j bh a=> ?_) (λid I h j a t bh=> ?_) V bh (o0 m I h j wC)
    ·obtain⟨e6,cS,sy⟩:=a
     exact kN cB (pI e6 cS I t h j sy bh)
    ·rw[Mu (by simp[exitTo])]
     exact a7 id I h j a t bh
  exact Kw m I t h j wC bh
 |rangeFunc f params assign body mE hv=>
  intro bl dD dQ cB bD bO v aD bN aN ro cs c3 au o aj B r I t h j aZ ct i2 a7 V bh a
  have a:=(show bI bN.bg (Q8 f I λmz=>Eu C n mz params.toList (sU C (vV C n am assign) (vV C n am body)) aj B r au I h j) False from a)
  cases pC:bN.bg with
  |false=>rw[pC]at a;exact a.elim
  |true=>
   rw[pC]at a
   have lb:=aZ.bg pC
   subst lb
   obtain⟨mz,H,K⟩:=hq (an:=[]) (bY:=[]) bh (show ew [] [] I f _ from a)
   have be:v8 t f=some mz:=by
    cases f<;>first|(simpa[ji,v8]using H)|(simp[ji]at H;subst H;rfl)
   have aBD:=K.low
   have Gx:=K.out
   have gq:∀I:db,fk bN fn n am aN none cs c3 I=⟨fn,n,am,I.bg,aN,none,bI I.rc c3 cs⟩:=λI=>by unfold fk;rw[pC];rfl
   have acc:jI C (j+1)=true:=Qu Zo
   show KS f params assign body (fF C bl bD bO v) C o (fk bN fn n am aN none cs c3 I) t h j=some v
   rw[gq]
   unfold KS
   rw[be]
   cases mz with
   |func g first fw=>
    cases g with
    |func g=>
     simp only[l6]
     have Gx:=Gx (λst p=> .loop st p fn n am t params.toList assign body j) ?_
     ·refine Gx bl dD dQ cB bD bO v aD _ (λac R ap al=> ?_) (λac R ap al=> ?_)
      ·obtain⟨st,p,cP,cG,d4⟩:=al
       show(match od (.inRangeFunc (j+1)) ac with
        |some hg=>fF C bl bD bO v .run (hg::o) ⟨fn,n,am,⟨.collected j,[]⟩::I.bg,aN,none,bI I.rc c3 cs⟩ t R ap
        |none=>none)=some v
       refine ii (kN cB ?_)
       show FP (j+1) (fF C bl bD bO v) C o ⟨fn,n,am,⟨.collected j,[]⟩::I.bg,aN,none,bI I.rc c3 cs⟩ t R ap=some v
       have bw:FP (j+1) (fF C bl bD bO v) C o ⟨fn,n,am,⟨.collected j,[]⟩::I.bg,aN,none,bI I.rc c3 cs⟩ t R ap=fF C bl bD bO v .run ((p.map dJ.code).toList++o) ⟨fn,n,am,⟨.collected j,[]⟩::I.bg,aN,none,bI I.rc c3 cs⟩ t (bp C R (j+1) (some (.loop .exhausted p fn n am t params.toList assign body j))) ap:=by
        unfold FP
        rw[cG]
        cases st with
        |busy=>exact absurd rfl cP
        |_=>simp only[acc,eU,gS]
       rw[bw]
       have dy:=gq (vi I j)
       have eF:(⟨fn,n,am,⟨.collected j,[]⟩::I.bg,aN,none,bI I.rc c3 cs⟩:ir)=fk bN fn n am aN none cs c3 (vi I j):=dy.symm
       rw[eF]
       have Tq:gP (vi I j) t:=bh
       cases p with
       |none=>exact ii (i2 _ _ _ _ Tq d4)
       |some c=>
        refine ii (kN cB ?_)
        unfold afJ at d4
        cases c with
        |exit id=>exact a7 id _ _ _ d4 t Tq
        |ret=>exact V _ _ _ _ _ Tq d4
        |_=>exact d4.elim
      ·refine ii ?_
       have eF:(⟨fn,n,am,⟨.collected j,[]⟩::I.bg,aN,none,bI I.rc c3 cs⟩:ir)=fk bN fn n am aN none cs c3 (vi I j):=(gq (vi I j)).symm
       have:=ct (vi I j) t ac R ap (.inRangeFunc (j+1)::o) bh al
       rw[<-eF]at this
       exact this
     ·
      intro args aU Ef mU ed aw bp hC xj mn Q7 ef qS EP j3 QL h6 jv
      exact axZ mE hv Q7 j3 aw acc bh h6 jv bp
    |_=>exact Gx.elim
   |_=>exact Gx.elim
 |exit id=>
  intro bl dD dQ cB bD bO v aD bN aN ro cs c3 au o aj B r I t h j aZ ct i2 a7 V bh a
  exact a7 id I h j a t bh
 |scope b hv=>
  intro bl dD dQ cB bD bO v aD bN aN ro cs c3 au o aj B r I t h j aZ ct i2 a7 V bh a
  refine hv cB aD bN aN ro cs c3 au (.inScope b::o) aj B r I t h j aZ ct (λI t h j bh a=>kN cB (ii (i2 I t h j bh a))) (λid I h j a t bh=> ?_) V bh a
  rw[Mu (by simp[exitTo])]
  exact a7 id I h j a t bh
 |label k=>intro bl dD dQ cB bD bO v aD bN aN ro cs c3 au o aj B r I t h j aZ ct i2 a7 V bh a;exact ii (i2 _ _ _ _ bh a)
 |goto k=>intro bl dD dQ cB bD bO v aD bN aN ro cs c3 au o aj B r I t h j aZ ct i2 a7 V bh a;exact a.elim
 |ret=>
  intro bl dD dQ cB bD bO v aD bN aN ro cs c3 au o aj B r I t h j aZ ct i2 a7 V bh a
  exact V _ _ _ _ _ bh a
 |refuse s=>intro bl dD dQ cB bD bO v aD bN aN ro cs c3 au o aj B r I t h j aZ ct i2 a7 V bh a;exact a.elim
end
def Qm(args:List z):gP (c0 args) (S.ofList args 0 .nil):=by
 intro n v a
 rw[mg]
 simpa[c0]using a
section
variable{C:aK}{dD:c1}{dQ:Nat->Prop}{bl:World}{bD:Nat}{bO:List Frame}{v:z}{fn:Nat}{tk:Func}{n am:Nat}{aN:Bool}{cs:List gz}
def OY(cB:Env C bl dD dQ)(aD:z.same 30 v v=true)(b8:C.P.funcs[fn]? =some tk){bk:bR}(h6:∀ac h j,bk ac h j->ta (fF C bl bD bO v) aN cs ac h j=some v){I:db}{t:S z}(bh:gP I t):
 ∀(ds:List hE) (h:S ai) (j:Nat) (todo:List dJ),pi C tk.results.toList bk I ds h j->n1 C bl bD bO .returning todo ⟨fn,n,am,ds,aN,none,cs⟩ t h j v:=by
 intro ds
 induction ds with
 |nil=>
  intro h j todo a
  obtain⟨aY,H,K⟩:=axJ bh (show qB C h I tk.results.toList (λaY=>bk (one aY) h j) from a)
  refine kN cB ?_
  show K2 todo (fF C bl bD bO v) C ⟨fn,n,am,[],aN,none,cs⟩ t h j=some v
  simp only[K2,b8,H]
  exact h6 _ _ _ K
 |cons d ds ag=>
  intro h j todo a
  obtain⟨K7,cg⟩:=d
  refine kN cB ?_
  show w7 ⟨K7,cg⟩ ds .returning todo (fF C bl bD bO v) C ⟨fn,n,am,[],aN,none,cs⟩ t h j=some v
  cases K7 with
  |collected r=>
   have a:=(show OC C r h (pi C tk.results.toList bk I ds (bp C h r (some (.deferred none))) j) from a)
   simp only[w7,a.here,show jI C r=true from Qu a.low,eU,gS,Yn]
   exact ii (ag _ _ _ a.go)
  |fn g cap=>
   have a:=(show AO C g (cg++cap) none h j (λ_ h j=>pi C tk.results.toList bk I ds h j) from a).out
   split at a
   ·rename_i f
    obtain⟨H,⟨wc,c,K,ak⟩,ay⟩:=a
    simp only[w7,Av,r8,H,K,ak]
    exact ay bl dD dQ cB bD bO v aD fn n am t todo ds aN none cs λb R ap al=>ii (ag _ _ _ al)
   ·exact a.elim
def afF(cB:Env C bl dD dQ)(aD:z.same 30 v v=true)(b8:C.P.funcs[fn]? =some tk){bk dK:bR}(h6:∀ac h j,bk ac h j->ta (fF C bl bD bO v) aN cs ac h j=some v)(jv:∀ac h j,dK ac h j->Lw C bl bD bO v cs ac h j){I:db}{t:S z}(bh:gP I t)(ac:z):
 ∀(ds:List hE) (h:S ai) (j:Nat) (todo:List dJ),wZ C tk.results.toList bk dK I ac ds h j->n1 C bl bD bO (.panicking [⟨ac,false⟩]) todo ⟨fn,n,am,ds,aN,none,cs⟩ t h j v:=by
 intro ds
 induction ds with
 |nil=>
  intro h j todo a
  refine kN cB ?_
  have:=jv ac h j a
  show K1 [⟨ac,false⟩] todo (fF C bl bD bO v) C ⟨fn,n,am,[],aN,none,cs⟩ t h j=some v
  cases cs with
  |nil=>exact this.elim
  |cons c rest=>exact this
 |cons d ds ag=>
  intro h j todo a
  obtain⟨K7,cg⟩:=d
  refine kN cB ?_
  show w7 ⟨K7,cg⟩ ds (.panicking [⟨ac,false⟩]) todo (fF C bl bD bO v) C ⟨fn,n,am,[],aN,none,cs⟩ t h j=some v
  cases K7 with
  |collected r=>
   have a:=(show OC C r h (wZ C tk.results.toList bk dK I ac ds (bp C h r (some (.deferred none))) j) from a)
   simp only[w7,a.here,show jI C r=true from Qu a.low,eU,gS,Yn]
   exact ii (ag _ _ _ a.go)
  |fn g cap=>
   have a:=(show AO C g (cg++cap) (some ac) h j (λb h j=>bI b (pi C tk.results.toList bk I ds h j) (wZ C tk.results.toList bk dK I ac ds h j)) from a).out
   split at a
   ·rename_i f
    obtain⟨H,⟨wc,c,K,ak⟩,ay⟩:=a
    simp only[w7,Av,r8,H,K,ak]
    refine ay bl dD dQ cB bD bO v aD fn n am t todo ds aN none cs λb R ap al=> ?_
    cases b with
    |true=>exact ii (OY cB aD b8 h6 bh ds R ap todo al)
    |false=>exact ii (ag _ _ _ al)
   ·exact a.elim
end
def Rj{C:aK}{f dP:Nat}(ax:c4 C f dP=true):∃fn c,C.P.funcs[f]? =some fn/\fn.body=some c/\(Nat.ble dP fn.ntmps&&lP C (Nat.lor (kj c) (nU fn.results.toList)) c&&yU (Nat.lor (kj c) (nU fn.results.toList)) fn.results.toList)=true:=by
 unfold c4 at ax
 split at ax
 ·rename_i fn b8
  split at ax
  ·rename_i c ah;exact⟨fn,c,b8,ah,ax⟩
  ·cases ax
 ·cases ax
def G1{ag:hr}{C:aK}{fn n am:Nat}{bg:List hE}{aN:Bool}{cs:List gz}{todo:List dJ}{I:S z}{h:S ai}{j:Nat}{W:Option Code}(bx:TN W=true):ox W ag C todo ⟨fn,n,am,bg,aN,none,cs⟩ I h j=ag .returning todo ⟨fn,n,am,bg,aN,none,cs⟩ I h j:=by
 simp only[ox,bx,eU]
def HQ(fn n am:Nat)(aN:Bool)(ro:Option Nat)(cs:List gz)(I:db):fk G7 fn n am aN ro cs cs I=⟨fn,n,am,[],aN,ro,cs⟩:=by
 unfold fk G7
 cases I.rc<;>rfl
def HR(fn n am:Nat)(aN:Bool)(ro:Option Nat)(cs:List gz)(I:db):fk yK fn n am aN ro cs cs I=⟨fn,n,am,I.bg,aN,ro,cs⟩:=by
 unfold fk yK
 cases I.rc<;>rfl
def aov{C:aK}{f:Nat}{args:List z}{h:S ai}{j:Nat}{bk dK:bR}(ax:c4 C f args.length=true)(a:dm C f args h j bk dK):ud C f args h j bk dK:=by
 intro bl dD dQ cB bD bO v aD cs h6 jv
 obtain⟨fn,c,b8,ah,so⟩:=Rj ax
 unfold dm at a
 simp only[b8,ah]at a
 unfold oa
 simp only[b8,ah,l6,so,eU]
 have aZ:An G7 false none cs cs:=⟨λ_=>rfl,λa=>(by cases a),λa=>(by cases a),λac a=>(by cases a)⟩
 have sE:∀I t h j todo,gP I t->qB C h I fn.results.toList (λaY=>bk (one aY) h j)->
  n1 C bl bD bO .returning todo (fk G7 f fn.ntmps (Nat.lor (kj c) (nU fn.results.toList)) false none cs cs I) t h j v:=by
  intro I t h j todo bh a
  rw[HQ]
  exact OY cB aD b8 (λac h j al=>h6 ac h j al) bh [] h j todo a
 refine ii (kN cB ?_)
 rw[<-HQ f fn.ntmps (Nat.lor (kj c) (nU fn.results.toList)) false none cs (c0 args)]
 refine QI c cB aD G7 false none cs cs _ [] _ _ _ _ _ h j aZ (λI t ac h j todo bh a=> ?_) (λI t h j bh a=> ?_) (λid I h j a=>a.elim) (λI t h j todo bh a=> ?_) (Qm args) a
 ·rw[HQ]
  exact afF (tk:=fn) (bk:=bk) cB aD b8 (λac h j al=>h6 ac h j al) (λac h j al=>jv ac h j al) bh ac [] h j todo a
 ·refine kN cB ?_
  have:=sE I t h j [] bh a
  rw[HQ]at this ⊢
  show ox none (fF C bl bD bO v) C [] ⟨f,fn.ntmps,Nat.lor (kj c) (nU fn.results.toList),[],false,none,cs⟩ t h j=some v
  rw[G1 rfl]
  exact ii this
 ·have:=sE I t h j todo bh a
  rw[HQ]at this ⊢
  rw[G1 rfl]
  exact ii this
def aow{C:aK}{f:Nat}{args:List z}{h:S ai}{j:Nat}{bk dK:bR}(ax:c4 C f args.length=true)(a:CS C f args h j bk dK):ud C f args h j bk dK:=by
 intro bl dD dQ cB bD bO v aD cs h6 jv
 obtain⟨fn,c,b8,ah,so⟩:=Rj ax
 unfold CS at a
 simp only[b8,ah]at a
 unfold oa
 simp only[b8,ah,l6,so,eU]
 have aZ:An yK false none cs cs:=⟨λ_=>rfl,λ_=>rfl,λa=>(by cases a),λac a=>(by cases a)⟩
 have sE:∀I t h j todo,gP I t->pi C fn.results.toList bk I I.bg h j->
  n1 C bl bD bO .returning todo (fk yK f fn.ntmps (Nat.lor (kj c) (nU fn.results.toList)) false none cs cs I) t h j v:=by
  intro I t h j todo bh a
  rw[HR]
  exact OY cB aD b8 (λac h j al=>h6 ac h j al) bh I.bg h j todo a
 refine ii (kN cB ?_)
 rw[show(⟨f,fn.ntmps,Nat.lor (kj c) (nU fn.results.toList),[],false,none,cs⟩:ir)=fk yK f fn.ntmps (Nat.lor (kj c) (nU fn.results.toList)) false none cs cs (c0 args) from(HR f fn.ntmps (Nat.lor (kj c) (nU fn.results.toList)) false none cs (c0 args)).symm]
 refine QI c cB aD yK false none cs cs _ [] _ _ _ _ _ h j aZ (λI t ac h j todo bh a=> ?_) (λI t h j bh a=> ?_) (λid I h j a=>a.elim) (λI t h j todo bh a=> ?_) (Qm args) a
 ·rw[HR]
  exact afF (tk:=fn) (bk:=bk) cB aD b8 (λac h j al=>h6 ac h j al) (λac h j al=>jv ac h j al) bh ac I.bg h j todo a
 ·refine kN cB ?_
  have:=sE I t h j [] bh a
  rw[HR]at this ⊢
  show ox none (fF C bl bD bO v) C [] ⟨f,fn.ntmps,Nat.lor (kj c) (nU fn.results.toList),I.bg,false,none,cs⟩ t h j=some v
  rw[G1 rfl]
  exact ii this
 ·have:=sE I t h j todo bh a
  rw[HR]at this ⊢
  rw[G1 rfl]
  exact ii this
def aa9{C:aK}{f:Nat}{args:List z}{kG:Option z}{h:S ai}{j:Nat}{bk:Bool->S ai->Nat->Prop}(ax:c4 C f args.length=true)(a:FS C f args kG h j bk)
 {bl:World}{dD:c1}{dQ:Nat->Prop}(cB:Env C bl dD dQ){bD:Nat}{bO:List Frame}{v:z}(aD:z.same 30 v v=true){cs c3:List gz}(aZ:An ⟨false,false,some kG⟩ true none cs c3)
 (Jb:∀b ac h j,bk b h j->ta (fF C bl bD bO v) true (bI b c3 cs) ac h j=some v):oa (fF C bl bD bO v) C f args true cs h j=some v:=by
 obtain⟨fn,c,b8,ah,so⟩:=Rj ax
 unfold FS at a
 simp only[b8,ah]at a
 unfold oa
 simp only[b8,ah,l6,so,eU]
 have sE:∀I t h j todo,gP I t->qB C h I fn.results.toList (λ_=>bk I.rc h j)->
  n1 C bl bD bO .returning todo (fk ⟨false,false,some kG⟩ f fn.ntmps (Nat.lor (kj c) (nU fn.results.toList)) true none cs c3 I) t h j v:=by
  intro I t h j todo bh a
  exact OY (bk:=λ_ h j=>bk I.rc h j) cB aD b8 (λac h j al=>Jb I.rc ac h j al) bh [] h j todo a
 refine ii (kN cB ?_)
 refine QI c cB aD ⟨false,false,some kG⟩ true none cs c3 _ [] _ _ _ (c0 args) _ h j aZ (λI t ac h j todo bh a=>a.elim) (λI t h j bh a=> ?_) (λid I h j a=>a.elim) (λI t h j todo bh a=> ?_) (Qm args) a
 ·refine kN cB ?_
  show ox none (fF C bl bD bO v) C [] ⟨f,fn.ntmps,Nat.lor (kj c) (nU fn.results.toList),[],true,none,bI I.rc c3 cs⟩ t h j=some v
  rw[G1 rfl]
  exact ii (sE I t h j [] bh a)
 ·show ox (some .ret) (fF C bl bD bO v) C todo ⟨f,fn.ntmps,Nat.lor (kj c) (nU fn.results.toList),[],true,none,bI I.rc c3 cs⟩ t h j=some v
  rw[G1 rfl]
  exact ii (sE I t h j todo bh a)
def aa8{C:aK}{f:Nat}{args:List z}{kG:Option z}{h:S ai}{j:Nat}{bk:Bool->S ai->Nat->Prop}(ax:c4 C f args.length=true)(a:FS C f args kG h j bk):VL C f args kG h j bk:=by
 intro bl dD dQ cB bD bO v aD Rh aL G6 qM Vt ank Iq UW qS h6
 cases kG with
 |none=>
  refine aa9 ax a cB aD (c3:=_) ⟨λ_=>rfl,λa=>(by cases a),λa=>⟨rfl,rfl⟩,λac a=>(by cases a)⟩ (λb ac h j al=> ?_)
  have:=h6 b h j al
  cases b<;>exact this
 |some p=>
  refine aa9 ax a cB aD (c3:=(⟨Rh,aL,G6,qM,Vt,ank, .panicking [⟨p,true⟩],Iq,UW⟩:gz)::qS) ⟨λ_=>rfl,λa=>(by cases a),λa=>(by cases a),λac a=> ?_⟩ (λb ac h j al=> ?_)
  ·simp only[Zf]at a
   subst a
   exact⟨rfl,rfl⟩
  ·have:=h6 b h j al
   cases b<;>exact this
def amk{C:aK}{bl:World}{dD:c1}{dQ:Nat->Prop}(cB:Env C bl dD dQ){f:Nat}{args:List z}{v:z}(aD:z.same 30 v v=true)(iY:d0 dQ args)
 (a:ud C f args .nil C.bf (λac _ _=>ac=v) (λ_ _ _=>False)):Calls C.P f (bK dD args).toArray bl λB bE=>(∃J,B= .returned (aF J v))/\Below bl.heap.size bl bE:=by
 intro qS
 have cd:Ends C bl f qS v (lone (Frame.enter C.P f (bK dD args).toArray .normal) qS bl):=
  Mp XZ cB.base (Below.refl _ _) cB.hS (Zh _) .nil (λ_=>rfl) iY
   (a bl dD dQ cB f qS v aD [] (λac R ap B=>by subst B;rfl) (λac R ap B=>B.elim))
 obtain⟨J,bE,fr,bw,b3,er,iJ⟩:=cd
 exact⟨.returned (aF J v),bE,fr,⟨⟨J,rfl⟩,iJ⟩,bw,er,b3⟩
end
end Go.bn

