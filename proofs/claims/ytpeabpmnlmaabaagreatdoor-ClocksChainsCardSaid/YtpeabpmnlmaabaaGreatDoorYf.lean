/- Part of the proof of the last text; no conditions -/
import Derived.Test.YtpeabpmnlmaabaaGreatDoorYe
set_option maxHeartbeats 8000000
set_option linter.all false
namespace Go.ba
noncomputable section
open Go.RowKit (Below)
def ha(H:cU)(t:R D):Prop:=∀n v,H.g n=some v->t.get n=some v
section
variable{C:aL}{h:R af}{j:Nat}{ap:List (Nat×D)}{H:cU}{t:R D}
def oZ(a:ha H t){x:kJ}{ah:D->Prop}(aw:j1 x ap H ah):∃F,lw x ap t=some F/\ah F:=by
 cases x with
 |v T=>exact tS.1 aw
 |t n=>
  obtain⟨F,J,Q⟩:=tS.1 (show cz (H n) ah from aw)
  exact⟨F,a n F J,Q⟩
 |c F=>exact⟨F,rfl,aw⟩
def aqY(a:ha H t):∀{k:List kJ}{ah:List D->Prop},N1 ap H k ah->∃cp,BE ap t k=some cp/\ah cp:=by
 intro k
 induction k with
 |nil=>intro ah aw;exact⟨[],rfl,aw⟩
 |cons x k ai=>
  intro ah aw
  obtain⟨F,J,Q⟩:=oZ a (show j1 x ap H (λF=>N1 ap H k λr=>ah (F::r)) from aw)
  obtain⟨r,ak,ay⟩:=ai Q
  exact⟨F::r,by simp[BE,J,ak],ay⟩
def hL(a:ha H t){b5:List (Nat×Nat)}{V:Operand}{ah:D->Prop}(aw:eR b5 ap H V ah):∃F,jD b5 ap t V=some F/\ah F:=by
 cases V with
 |tmp n=>
  simp only[eR]at aw
  simp only[jD]
  cases bJ:es b5 n with
  |some T=>simp only[bJ]at aw ⊢;exact tS.1 aw
  |none=>
   simp only[bJ]at aw ⊢
   obtain⟨F,J,Q⟩:=tS.1 aw
   exact⟨F,a n F J,Q⟩
 |const v=>exact tS.1 aw
 |global g=>exact⟨_,rfl,aw⟩
 |func f=>exact⟨_,rfl,aw⟩
def Fp(a:ha H t){b5:List (Nat×Nat)}:∀{k:List Operand}{ah:List D->Prop},tR b5 ap H k ah->∃cp,qq (jD b5 ap t) k=some cp/\ah cp:=by
 intro k
 induction k with
 |nil=>intro ah aw;exact⟨[],rfl,aw⟩
 |cons x k ai=>
  intro ah aw
  obtain⟨F,J,Q⟩:=hL a (show eR b5 ap H x (λF=>tR b5 ap H k λr=>ah (F::r)) from aw)
  obtain⟨r,ak,ay⟩:=ai Q
  exact⟨F::r,by simp[qq,J,ak],ay⟩
def Wy(a:ha H t){b5:List (Nat×Nat)}:∀{k:List (Nat×Operand)}{ah:List (Nat×D)->Prop},CT b5 ap H k ah->∃cp,yN (jD b5 ap t) k=some cp/\ah cp:=by
 intro k
 induction k with
 |nil=>intro ah aw;exact⟨[],rfl,aw⟩
 |cons x k ai=>
  intro ah aw
  obtain⟨i,V⟩:=x
  obtain⟨F,J,Q⟩:=hL a (show eR b5 ap H V (λF=>CT b5 ap H k λr=>ah ((i,F)::r)) from aw)
  obtain⟨r,ak,ay⟩:=ai Q
  exact⟨(i,F)::r,by simp[yN,J,ak],ay⟩
def Wu(a:ha H t){b5:List (Nat×Nat)}{V:Option Operand}{ah:Option D->Prop}(aw:Qt b5 ap H V ah):∃F,CS (jD b5 ap t) V=some F/\ah F:=by
 cases V with
 |none=>exact⟨none,rfl,aw⟩
 |some x=>
  obtain⟨F,J,Q⟩:=hL a (show eR b5 ap H x (λF=>ah (some F)) from aw)
  exact⟨some F,by simp[CS,J],Q⟩
def axO(a:ha H t){b5:List (Nat×Nat)}{V:Op}{ah:D->Prop}(aw:agV b5 V C h ap H ah):∃v,oS V C h (jD b5 ap t)=some v/\ah v:=by
 cases V with
 |build ty kp=>
  obtain⟨dp,J,Q⟩:=Wy a (show CT b5 ap H kp.toList _ from aw)
  obtain⟨v,ak,ay⟩:=(lf.1 Q)
  exact⟨v,by simp[oS,VL,J,ak],ay⟩
 |binOp op ty x e I0=>
  obtain⟨F,J,Q⟩:=hL a (show eR b5 ap H x _ from aw)
  obtain⟨b,ak,ay⟩:=hL a Q
  obtain⟨v,bt,b4⟩:=(lf.1 ay)
  exact⟨v,by simp[oS,P3,J,ak,bt],b4⟩
 |unOp op ty x=>
  obtain⟨F,J,Q⟩:=hL a (show eR b5 ap H x _ from aw)
  obtain⟨v,ak,ay⟩:=(lf.1 Q)
  exact⟨v,by simp[oS,VT,J,ak],ay⟩
 |convert s d x=>
  obtain⟨F,J,Q⟩:=hL a (show eR b5 ap H x _ from aw)
  obtain⟨v,ak,ay⟩:=(lf.1 Q)
  exact⟨v,by simpa[oS,LR,acr,kU,J]using ak,ay⟩
 |makeInterface ty x=>
  obtain⟨F,J,Q⟩:=hL a (show eR b5 ap H x _ from aw)
  obtain⟨v,ak,ay⟩:=(lf.1 Q)
  exact⟨v,by simpa[oS,LU,agh,kU,J]using ak,ay⟩
 |makeFunc fn first fT=>
  cases fn with
  |func f=>
   obtain⟨F,J,Q⟩:=Fp a (show tR b5 ap H first.toList _ from aw)
   obtain⟨b,ak,ay⟩:=Fp a Q
   exact⟨_,by simp[oS,VP,J,ak],ay⟩
  |_=>exact aw.elim
 |slice ty x bG aN ht=>
  obtain⟨F,J,Q⟩:=hL a (show eR b5 ap H x _ from aw)
  obtain⟨k,ak,ay⟩:=Wu a Q
  obtain⟨b,bt,b4⟩:=Wu a ay
  obtain⟨m,dh,eI⟩:=Wu a b4
  obtain⟨v,hG,kx⟩:=(lf.1 eI)
  exact⟨v,by simp[oS,VS,J,ak,bt,dh,hG],kx⟩
 |field ty x f=>
  obtain⟨F,J,Q⟩:=hL a (show eR b5 ap H x _ from aw)
  obtain⟨v,ak,ay⟩:=(lf.1 Q)
  exact⟨v,by simpa[oS,LS,ac5,kU,J]using ak,ay⟩
 |index ty x i=>
  obtain⟨F,J,Q⟩:=hL a (show eR b5 ap H x _ from aw)
  obtain⟨b,ak,ay⟩:=hL a Q
  obtain⟨v,bt,b4⟩:=(lf.1 ay)
  exact⟨v,by simp[oS,VQ,J,ak,bt],b4⟩
 |lookup ty m y ok=>
  obtain⟨F,J,Q⟩:=hL a (show eR b5 ap H m _ from aw)
  obtain⟨b,ak,ay⟩:=hL a Q
  obtain⟨v,bt,b4⟩:=(lf.1 ay)
  exact⟨v,by simp[oS,VR,J,ak,bt],b4⟩
 |typeAssert x ty vo ok=>
  obtain⟨F,J,Q⟩:=hL a (show eR b5 ap H x _ from aw)
  obtain⟨v,ak,ay⟩:=(lf.1 Q)
  exact⟨v,by simpa[oS,LQ,abU,kU,J]using ak,ay⟩
 |entry eO=>
  obtain⟨F,J,Q⟩:=hL a (show eR b5 ap H eO _ from aw)
  obtain⟨v,ak,ay⟩:=(lf.1 Q)
  exact⟨v,by simpa[oS,VO,acP,kU,J]using ak,ay⟩
 |call c=>
  obtain⟨callee,args,dg⟩:=c
  cases callee with
  |builtin b=>
   obtain⟨br,J,Q⟩:=Fp a (show tR b5 ap H args.toList _ from aw)
   obtain⟨v,ak,ay⟩:=(lf.1 Q)
   refine⟨v, ?_,ay⟩
   have E:oS (.call ⟨.builtin b,args,dg⟩) C h (jD b5 ap t)=tb C h b dg.toList br:=by
    simp only[oS,VN,VM,J,tb]
    repeat' split
    all_goals first|rfl|simp_all
   rw[E];exact ak
  |_=>exact aw.elim
 |_=>exact aw.elim
def P6(a:ha H t){op:j9}{ah:D->Prop}(aw:Ib op C h ap H ah):∃v,g4 op C h ap t=some v/\ah v:=by
 cases op with
 |E8 x=>exact oZ a aw
 |pick c F b=>
  obtain⟨act,J,Q⟩:=oZ a (show j1 c ap H _ from aw)
  obtain⟨Q0,rfl,ak,ay⟩:=ab7 Q.out
  cases Q0 with
  |true=>
   obtain⟨v,bt,b4⟩:=oZ a (ak rfl)
   exact⟨v,by simp[g4,J,Re,bt],b4⟩
  |false=>
   obtain⟨v,bt,b4⟩:=oZ a (ay rfl)
   exact⟨v,by simp[g4,J,Re,bt],b4⟩
 |ep F=>
  obtain⟨fu,J,Q⟩:=oZ a (show j1 F ap H _ from aw)
  obtain⟨v,ak,ay⟩:=(lf.1 Q)
  exact⟨v,by simp[g4,J,ak],ay⟩
 |Cw n F=>
  obtain⟨fu,J,Q⟩:=oZ a (show j1 F ap H _ from aw)
  obtain⟨v,ak,ay⟩:=(lf.1 Q)
  exact⟨v,by simp[g4,J,ak],ay⟩
 |off d x=>
  obtain⟨fu,J,Q⟩:=oZ a (show j1 x ap H _ from aw)
  obtain⟨v,ak,ay⟩:=(lf.1 Q)
  exact⟨v,by simp[g4,J,ak],ay⟩
 |Cn n bs x i=>
  obtain⟨fu,J,Q⟩:=oZ a (show j1 x ap H _ from aw)
  obtain⟨cA,ak,ay⟩:=oZ a Q
  obtain⟨v,bt,b4⟩:=(lf.1 ay)
  exact⟨v,by simp only[g4,J,ak];unfold H4 at bt;cases aN:nP cA<;>simp_all,b4⟩
 |Co bs x i=>
  obtain⟨fu,J,Q⟩:=oZ a (show j1 x ap H _ from aw)
  obtain⟨cA,ak,ay⟩:=oZ a Q
  obtain⟨v,bt,b4⟩:=(lf.1 ay)
  exact⟨v,by simp only[g4,J,ak];unfold gt at bt;cases aN:nP cA<;>simp_all,b4⟩
 |Fe x=>
  obtain⟨fu,J,Q⟩:=oZ a (show j1 x ap H _ from aw)
  obtain⟨v,ak,ay⟩:=(lf.1 Q)
  exact⟨v,by simp[g4,J,ak],ay⟩
 |LA op x e=>
  obtain⟨fu,J,Q⟩:=oZ a (show j1 x ap H _ from aw)
  obtain⟨cA,ak,ay⟩:=oZ a Q
  obtain⟨v,bt,b4⟩:=(lf.1 ay)
  exact⟨v,by simp[g4,J,ak,bt],b4⟩
 |ext i x=>
  obtain⟨fu,J,Q⟩:=oZ a (show j1 x ap H _ from aw)
  obtain⟨v,ak,ay⟩:=(lf.1 Q)
  exact⟨v,by simp[g4,J,ak],ay⟩
 |iu b5 V=>exact axO a aw
 |_=>exact aw.elim
def ayb(a:ha H t){op:j9}{b:Nat}{ah:bI}(aw:ag7 op C h b ap H ah):∃v cV,o0 op C b ap t=some (v,cV)/\ah v (bi C h b (some cV)) (b+1):=by
 cases op with
 |make b5 V=>
  cases V with
  |alloc ty=>
   obtain⟨⟨v,cV⟩,J,Q⟩:=lf.1 (show ar (E5 C ty (kU undef) b) _ from aw)
   exact⟨v,cV,J,Q.out⟩
  |box ty x=>
   obtain⟨F,J,Q⟩:=hL a (show eR b5 ap H x _ from aw)
   exact⟨_,_,by simp only[o0,q4,L2,J],Q.out⟩
  |buildSlice ty len kp=>
   obtain⟨dp,J,Q⟩:=Wy a (show CT b5 ap H kp.toList _ from aw)
   obtain⟨⟨v,cV⟩,ak,ay⟩:=(lf.1 Q)
   refine⟨v,cV, ?_,ay.out⟩
   simp only[o0,q4,L3,J]
   unfold QS at ak
   split at ak
   ·rename_i bc
    simp only[bc]
    exact ak
   ·cases ak
  |makeMap ty r=>
   cases r with
   |none=>exact⟨_,_,rfl,(show gu C h b _ _ ah from aw).out⟩
   |some r=>exact aw.elim
  |_=>exact aw.elim
 |_=>exact aw.elim
def ax9(a:ha H t){op:j9}{b:Nat}{ah:D->R af->Prop}(aw:Wd op C h b ap H ah):∃v cV,o0 op C b ap t=some (v,cV)/\ah v (bi C h b (some cV)):=by
 cases op with
 |make b5 V=>
  cases V with
  |alloc ty=>
   obtain⟨⟨v,cV⟩,J,Q⟩:=lf.1 (show ar (E5 C ty (kU undef) b) _ from aw)
   exact⟨v,cV,J,Q.out⟩
  |box ty x=>
   obtain⟨F,J,Q⟩:=hL a (show eR b5 ap H x _ from aw)
   exact⟨_,_,by simp only[o0,q4,L2,J],Q.out⟩
  |buildSlice ty len kp=>
   obtain⟨dp,J,Q⟩:=Wy a (show CT b5 ap H kp.toList _ from aw)
   obtain⟨⟨v,cV⟩,ak,ay⟩:=(lf.1 Q)
   refine⟨v,cV, ?_,ay.out⟩
   simp only[o0,q4,L3,J]
   unfold QS at ak
   split at ak
   ·rename_i bc
    simp only[bc]
    exact ak
   ·cases ak
  |makeMap ty r=>
   cases r with
   |none=>exact⟨_,_,rfl,(show ms C h b _ _ ah from aw).out⟩
   |some r=>exact aw.elim
  |_=>exact aw.elim
 |_=>exact aw.elim
def acb{rd:Bool}{f:Nat}{cp:List D}{ah av:bI}(a:aW C f cp h j ah av):∃r,s7 C f cp=some r/\DB C rd (some r) h j ah av:=by
 rcases a.out with ⟨ac,J,Q⟩|⟨J,⟨fn,c,Q,ak⟩,ay⟩
 ·exact⟨.known f cp ac,by simp[s7,J],Q⟩
 ·exact⟨.enter f cp,by simp[s7,J,Q,ak],ay⟩
def AP{rd:Bool}{V:Option eb}{ah av:bI}(a:hN V h j ah):∃r,V=some r/\DB C rd (some r) h j ah av:=by
 rw[aAz]at a
 split at a
 ·exact⟨_,rfl,a⟩
 ·exact⟨_,rfl,a⟩
 ·exact a.elim
def aro{rd:Bool}{V:Option eb}{ah av:bI}(a:G2 V h j ah):∃r,V=some r/\DB C rd (some r) h j ah av:=by
 rw[arp]at a
 split at a
 ·exact⟨_,rfl,a⟩
 ·exact⟨_,rfl,a⟩
 ·exact⟨_,rfl,a⟩
 ·exact a.elim
def aeF(a:ha H t){rd:Bool}{op:j9}{ah av:bI}(aw:Uk rd op C h j ap H ah av):∃r,ie op C h j ap t=some r/\DB C rd (some r) h j ah av:=by
 cases op with
 |st n F v=>
  obtain⟨fu,J,Q⟩:=oZ a (show j1 F ap H _ from aw)
  obtain⟨hj,ak,ay⟩:=oZ a Q
  obtain⟨S',bt,b4⟩:=(lf.1 ay)
  refine⟨.fq undef S' j, ?_,b4⟩
  simp only[ie,J,ak]
  unfold gg at bt
  split at bt
  ·simp only[e5]at bt
   simp[QU,bt.2,fF,bt.1]
  ·cases bt
 |call f args=>
  obtain⟨cp,J,Q⟩:=aqY a (show N1 ap H args _ from aw)
  obtain⟨r,ak,ay⟩:=acb (rd:=rd) Q
  exact⟨r,by simp[ie,J,ak],ay⟩
 |fo b5 V=>
  cases V with
  |mapUpdate ty m y x=>
   obtain⟨F,J,Q⟩:=hL a (show eR b5 ap H m _ from aw)
   obtain⟨b,ak,ay⟩:=hL a Q
   obtain⟨c,bt,b4⟩:=hL a ay
   obtain⟨r,dh,eI⟩:=AP (C:=C) (av:=av) (rd:=rd) b4
   exact⟨r,by simp[ie,n8,Hm,J,ak,bt,dh],eI⟩
  |insert ty m y x=>
   obtain⟨F,J,Q⟩:=hL a (show eR b5 ap H m _ from aw)
   obtain⟨b,ak,ay⟩:=hL a Q
   obtain⟨c,bt,b4⟩:=hL a ay
   obtain⟨r,dh,eI⟩:=AP (C:=C) (av:=av) (rd:=rd) b4
   exact⟨r,by simp[ie,n8,Hm,J,ak,bt,dh],eI⟩
  |mapEntry ty m y=>
   obtain⟨F,J,Q⟩:=hL a (show eR b5 ap H m _ from aw)
   obtain⟨b,ak,ay⟩:=hL a Q
   obtain⟨r,dh,eI⟩:=AP (C:=C) (av:=av) (rd:=rd) ay
   exact⟨r,by simpa[ie,n8,Kz,two,Go.ba.kT,Go.ba.g2,J,ak]using dh,eI⟩
  |entryStore ty m s x=>
   obtain⟨F,J,Q⟩:=hL a (show eR b5 ap H m _ from aw)
   obtain⟨b,ak,ay⟩:=hL a Q
   obtain⟨c,bt,b4⟩:=hL a ay
   obtain⟨r,dh,eI⟩:=AP (C:=C) (av:=av) (rd:=rd) b4
   exact⟨r,by simpa[ie,n8,Ks,aiU,Go.ba.kT,Go.ba.g2,Go.ba.nr,J,ak,bt]using dh,eI⟩
  |makeSlice ty k c=>
   obtain⟨F,J,Q⟩:=hL a (show eR b5 ap H k _ from aw)
   obtain⟨b,ak,ay⟩:=hL a Q
   obtain⟨r,dh,eI⟩:=AP (C:=C) (av:=av) (rd:=rd) ay
   exact⟨r,by simpa[ie,n8,Ky,two,Go.ba.kT,Go.ba.g2,J,ak]using dh,eI⟩
  |makeMap ty jX=>
   cases jX with
   |none=>exact aw.elim
   |some x=>
    obtain⟨F,J,Q⟩:=hL a (show eR b5 ap H x _ from aw)
    obtain⟨r,dh,eI⟩:=AP (C:=C) (av:=av) (rd:=rd) Q
    exact⟨r,by simpa[ie,n8,Kx,kU,J]using dh,eI⟩
  |convert s d x=>
   obtain⟨F,J,Q⟩:=hL a (show eR b5 ap H x _ from aw)
   obtain⟨r,dh,eI⟩:=AP (C:=C) (av:=av) (rd:=rd) Q
   exact⟨r,by simpa[ie,n8,KC,kU,J]using dh,eI⟩
  |range ty x=>
   obtain⟨F,J,Q⟩:=hL a (show eR b5 ap H x _ from aw)
   obtain⟨r,dh,eI⟩:=AP (C:=C) (av:=av) (rd:=rd) Q
   exact⟨r,by simpa[ie,n8,KA,kU,J]using dh,eI⟩
  |next eO Aw=>
   obtain⟨F,J,Q⟩:=hL a (show eR b5 ap H eO _ from aw)
   obtain⟨r,dh,eI⟩:=aro (C:=C) (av:=av) (rd:=rd) Q
   exact⟨r,by simpa[ie,n8,xn,kU,J]using dh,eI⟩
  |panic x=>
   cases rd with
   |true=>exact(show False from aw).elim
   |false=>
    obtain⟨F,J,Q⟩:=hL a (show eR b5 ap H x _ from aw)
    rw[azD]at Q
    split at Q
    ·rename_i po aCW
     exact⟨.panic (.iface po aCW),by simp[ie,n8,TX,J],Q⟩
    ·exact Q.elim
  |call c=>
   obtain⟨callee,args,dg⟩:=c
   cases callee with
   |value f=>
    obtain⟨m9,J,Q⟩:=hL a (show eR b5 ap H f _ from aw)
    obtain⟨cp,ak,ay⟩:=Fp a Q
    have ay:=ay.out
    split at ay
    ·split at ay
     ·obtain⟨r,bt,b4⟩:=acb (rd:=rd) ay
      exact⟨r,by simp[ie,n8,D4,J,ak,Bo];simpa using bt,b4⟩
     ·exact⟨.round _ _,by simp only[ie,n8,D4,J,ak,Bo],ay⟩
     ·exact ay.elim
    ·exact ay.elim
   |builtin b=>
    obtain⟨br,J,Q⟩:=Fp a (show tR b5 ap H args.toList _ from aw)
    obtain⟨r,dh,eI⟩:=AP (C:=C) (av:=av) (rd:=rd) Q
    refine⟨r, ?_,eI⟩
    have E:∀r,Hp C h j b dg.toList br=some r->ie (.fo b5 (.call ⟨.builtin b,args,dg⟩)) C h j ap t=some r:=by
     intro r Y
     simp only[ie,n8,D4,Kl,J]
     unfold Hp at Y
     split at Y
     all_goals first|exact Y|cases Y
    exact E r dh
   |invoke x name=>
    obtain⟨kF,J,Q⟩:=hL a (show eR b5 ap H x _ from aw)
    obtain⟨cp,ak,ay⟩:=Fp a Q
    rw[ayi]at ay
    split at ay
    ·cases bo:Gu C h _ _ name cp with
     |none=>rw[bo]at ay;exact ay.elim
     |some r=>rw[bo]at ay;exact⟨r,by simp[ie,n8,D4,J,ak,bo],ay⟩
    ·exact ay.elim
  |_=>exact aw.elim
 |_=>exact aw.elim
def asq{l4:Bool}{v:D}{F b:Prop}(a:iO l4 v F b):∃w,(match v with| .bool b=>some (b==l4)|_=>some false)=some w/\(w=true->F)/\(w=false->b):=by
 have a:=a.out
 cases v with
 |bool t=>
  obtain⟨J,Q⟩:=a
  refine⟨t==l4,rfl,λE=>J (by simpa using E),λE=>Q ?_⟩
  cases t<;>cases l4<;>simp_all
 |_=>exact⟨false,rfl,Zs,λ_=>a⟩
def Q8{g:Option (Nat×Bool)}{F b:Prop}(a:Q7 g ap F b):∃w,pp g ap=some w/\(w=true->F)/\(w=false->b):=by
 cases g with
 |none=>exact⟨true,rfl,λ_=>a,Zs⟩
 |some p=>
  obtain⟨T,l4⟩:=p
  obtain⟨v,J,Q⟩:=tS.1 (show cz (es ap T) _ from a)
  obtain⟨w,ak,ay⟩:=asq Q
  exact⟨w,by simp only[pp,J];exact ak,ay⟩
def aix(a:ha H t)(d:Nat)(v:D):ha (Z H d v) (t.set d (some v)):=by
 intro n ac bc
 have bc:=(show bV (Nat.beq d n) (some v) (H.g n)=some ac from bc)
 rw[h1]at bc
 rw[R.kN]
 split at bc
 ·rename_i E;rw[Zp E];exact bc
 ·rename_i E;rw[Zh E];exact a n ac bc
def ac8:∀{k:List (Nat×Nat)}{H:cU}{t:R D}{ah:cU->Prop},ha H t->Ka k ap H ah->∃c3 hh,yO ap k t=some hh/\ha c3 hh/\(c3.bd=H.bd/\c3.rc=H.rc)/\ah c3:=by
 intro k
 induction k with
 |nil=>intro H t ah a aw;exact⟨H,t,rfl,a,⟨rfl,rfl⟩,aw⟩
 |cons p k ai=>
  intro H t ah a aw
  obtain⟨i,d⟩:=p
  obtain⟨v,J,Q⟩:=tS.1 (show cz (es ap i) (λv=>Ka k ap (Z H d v) ah) from aw)
  obtain⟨c3,hh,ak,ay,bt⟩:=ai (aix a d v) Q
  exact⟨c3,hh,by simp[yO,J,ak],ay,bt⟩
def aBF{op:j9}{b5:List (Nat×Nat)}{f:Operand}{args:List Operand}(a:FG op= .defer b5 f args):∃c:Array Operand×Array TypeId,args=c.1.toList/\op= .fo b5 (.defer ⟨.value f,c.1,c.2⟩):=by
 unfold FG at a
 split at a
 ·split at a
  ·split at a
   ·injection a with J Q ak
    subst J Q ak
    exact⟨(_,_),rfl,rfl⟩
   ·cases a
  ·split at a
   ·split at a<;>cases a
   ·cases a
  ·cases a
 ·cases a
def aBG{op:j9}(a:FG op= .recover):∃b5 dg args,op= .fo b5 (.call ⟨.builtin .recover,args,dg⟩)/\args.toList=[]:=by
 unfold FG at a
 split at a
 ·split at a
  ·split at a<;>cases a
  ·split at a
   ·split at a
    ·rename_i aA
     exact⟨_,_,_,rfl,aA⟩
    ·cases a
   ·cases a
  ·cases a
 ·cases a
def aAC(a:ha H t):∀{k:List ResultVar}{ah:List D->Prop},rI C h H k ah->∃br,xX C h t k=some br/\ah br:=by
 intro k
 induction k with
 |nil=>intro ah aw;exact⟨[],rfl,aw⟩
 |cons x k ai=>
  intro ah aw
  cases x with
  |tmp n=>
   obtain⟨v,J,Q⟩:=tS.1 (show cz (H n) (λv=>rI C h H k λr=>ah (v::r)) from aw)
   obtain⟨r,ak,ay⟩:=ai Q
   exact⟨v::r,by simp[xX,a n v J,ak],ay⟩
  |cell F ty=>
   obtain⟨p,J,Q⟩:=tS.1 (show cz (H F) (λp=>ar (l8 C h ty p) λv=>rI C h H k λr=>ah (v::r)) from aw)
   obtain⟨v,ak,ay⟩:=(lf.1 Q)
   obtain⟨r,bt,b4⟩:=ai ay
   exact⟨v::r,by simp[xX,a F p J,ak,bt],b4⟩
def axQ(a:ha H t){base:Nat}:∀{k:List fs}{ap:List (Nat×D)}{h:R af}{ah:List (Nat×D)->R af->Prop},P8 C base H k ap h ah->∃hQ S',w6 C base t k ap h=some (hQ,S')/\ah hQ S':=by
 intro k
 induction k with
 |nil=>intro ap h ah aw;exact⟨ap,h,rfl,aw⟩
 |cons x k ai=>
  intro ap h ah aw
  obtain⟨w,J,Q,ak⟩:=Q8 ((aC3 ..).mp (show sN x.g ap (λT=>match nn x.op with
   | .make=>Wd x.op C h (base+x.i) ap H T
   |_=>Ib x.op C h ap H λv=>T v h) (λv h=>P8 C base H k ((x.i,v)::ap) h ah) h from aw))
  simp only[w6,J]
  cases w with
  |false=>exact ai (ak rfl)
  |true=>
   have ay:=Q rfl
   cases aH:nn x.op with
   |make=>
    simp only[aH]at ay
    obtain⟨v,cV,bt,b4⟩:=ax9 a ay
    simp only[bt,hv]
    exact ai b4
   |iu=>
    simp only[aH]at ay
    obtain⟨v,bt,b4⟩:=P6 a ay
    simp only[bt]
    exact ai b4
   |fo=>
    simp only[aH]at ay
    obtain⟨v,bt,b4⟩:=P6 a ay
    simp only[bt]
    exact ai b4
def aAq(a:ha H t):∀{k:List fs}{ah:Prop},WH C H ap h k ah->DP C t ap h k=true/\ah:=by
 intro k
 induction k with
 |nil=>intro ah aw;exact⟨rfl,aw⟩
 |cons x k ai=>
  intro ah aw
  obtain⟨w,J,Q,ak⟩:=Q8 ((aC4 ..).mp (show Xs x.g ap (λaj=>Ib x.op C h ap H λv=>gn v (es ap x.i) aj) (WH C H ap h k ah) from aw))
  simp only[DP,J]
  cases w with
  |false=>exact ai (ak rfl)
  |true=>
   obtain⟨v,bt,b4⟩:=P6 a (Q rfl)
   obtain⟨ac,dh,eI,hG⟩:=tS.1 b4.out
   obtain⟨kx,qt⟩:=ai hG
   exact⟨by simp[bt,dh,eI,kx],qt⟩
end
section
variable{C:aL}{dU:c6}{d5:Nat->Prop}{bj:World}{bE:Nat}{bS:List Frame}{v:D}
variable{fn n ao:Nat}{bR:vk}{aB:Bool}{ro:Option Nat}{cs c9:List gY}
def k4(cK:Env C bj dU d5){bR:ll}{todo:List dV}{b9:iL}{H:R D}{h:R af}{j:Nat}(a:Xa (f3 C bj bE bS v) C bR todo b9 H h j=some v):oL C bj bE bS bR todo b9 H h j v:=
 λS ad w df tmps bx an dj=>aiH cK abN _ _ _ _ _ _ _ _ _ _ _ _ v a S ad w df tmps bx an dj
def fA(bR:vk)(fn n ao:Nat)(aB:Bool)(ro:Option Nat)(cs c9:List gY)(H:cU):iL:=⟨fn,n,ao,bV bR.bd H.bd [],aB,ro,bV H.rc c9 cs⟩
structure Bf(bR:vk)(aB:Bool)(ro:Option Nat)(cs c9:List gY):Prop where
 rd:bR.rd=false->ro=none
 bd:bR.bd=true->ro=none
 none:bR.j7=some none->c9=cs/\C4 aB cs=some (.nilIface,cs)
 some:∀ac,bR.j7=some (some ac)->C4 aB cs=some (ac,c9)/\C4 aB c9=some (.nilIface,c9)
def aAU{ai:hP}{C:aL}{k:Nat}{args:List D}{eO:dV}{y:List dV}{b9:iL}{H:R D}{h:R af}{j:Nat}:oT (.round k args) ai C eO y b9 H h j=QK ai C k args (FK eO y b9 H) h j:=rfl
def acH{H:cU}{t:R D}(a:ha H t)(k:List Nat):ha (h2 k H) (w8 k t):=by
 intro n v bv
 rw[NP]
 by_cases aF:n∈k
 ·simp[h2,fF,ahd,aF]at bv
 ·simp[h2,fF,ahd,aF]at bv
  rw[Zh aF];exact a n v bv
def Sf{F b:Nat}(a:F<=b):Nat.ble F b=true:=by simpa using a
def abL(aD:D.same 30 v v=true)(bo:Bf bR aB ro cs c9){eO:dV}{y:List dV}{oQ:cU}{H:R D}{h:R af}{j:Nat}{ah av:bI}(cK:Env C bj dU d5)
 (jq:∀ac h j,ah ac h j->∃hW,pH eO ac=some hW/\oL C bj bE bS .run (hW::y) (fA bR fn n ao aB ro cs c9 oQ) H h j v)
 (cD:∀ac h j todo,av ac h j->oL C bj bE bS (.panicking [⟨ac,false⟩]) todo (fA bR fn n ao aB ro cs c9 oQ) (vx (eO::y) H) h j v){r:eb}(a:DB C bR.rd (some r) h j ah av):
 oT r (f3 C bj bE bS v) C eO y (fA bR fn n ao aB ro cs c9 oQ) H h j=some v:=by
 have fill:∀ac h j,ah ac h j->(match pH eO ac with|some hW=>f3 C bj bE bS v .run (hW::y) (fA bR fn n ao aB ro cs c9 oQ) H h j|none=>none)=some v:=by
  intro ac h j aH
  obtain⟨hW,J,Q⟩:=jq ac h j aH
  rw[J]
  exact iA Q
 cases r with
 |val ac=>exact fill ac h j a
 |fq ac S' am=>exact fill ac S' am a
 |enter f args=>
  refine a bj dU d5 cK bE bS v aD (FK eO y (fA bR fn n ao aB ro cs c9 oQ) H) (λac S' am aj=> ?_) (λac S' am aj=> ?_)
  ·exact fill ac S' am aj
  ·exact iA (cD ac S' am _ aj)
 |round k args=>
  rw[aAU]
  refine a bj dU d5 cK bE bS v aD (FK eO y (fA bR fn n ao aB ro cs c9 oQ) H) (λac S' am aj=> ?_) (λac S' am aj=> ?_)
  ·exact fill ac S' am aj
  ·exact iA (cD ac S' am _ aj)
 |known f args ac=>exact fill ac h j a
 |panic ac=>
  have a:=(show bV bR.rd False (av ac h j) from a)
  cases Y:bR.rd with
  |true=>rw[Y]at a;exact a.elim
  |false=>
   rw[Y]at a
   have jI:=bo.rd Y
   subst jI
   exact iA (cD ac h j _ a)
 |fork k=>exact arn aD k a.1 λac S' bo=>jq ac S' j (a.2 ac S' bo)
 |_=>exact a.elim
def aqa{aq:Array Oper}{ap:List (Nat×D)}{i:Nat}{rest:List fs}{fin:List (Nat×Nat)}{y:List dV}{H:R D}:vx (.uf aq ap i rest fin::y) H=w8 (dstsOf aq.toList) H:=rfl
def ap9{aq:Array Oper}{ap:List (Nat×D)}{b i:Nat}{rest:List wR}{fin:List (Nat×Nat)}{y:List dV}{H:R D}:vx (.AY aq b ap i rest fin::y) H=w8 (dstsOf aq.toList) H:=rfl
def aBe(cK:Env C bj dU d5)(aD:D.same 30 v v=true)(bo:Bf bR aB ro cs c9){aq:Array Oper}{fin:List (Nat×Nat)}{y:List dV}{t:R D}{ah:ft}{av:s4}
 (jq:∀H t h j,ha H t->ah H h j->oL C bj bE bS .run y (fA bR fn n ao aB ro cs c9 H) t h j v)
 (cD:∀H t ac h j todo,ha H t->av H ac h j->oL C bj bE bS (.panicking [⟨ac,false⟩]) todo (fA bR fn n ao aB ro cs c9 H) t h j v):
 ∀(rest:List fs) (ap:List (Nat×D)) (H:cU) (h:R af) (j:Nat),ha H t->CZ C bR fin ah (λH=>av (h2 (dstsOf aq.toList) H)) rest ap H h j->AS rest ⟨f3 C bj bE bS v,aq,fin,y,fA bR fn n ao aB ro cs c9 H⟩ C t ap h j=some v:=by
 intro rest
 induction rest with
 |nil=>
  intro ap H h j a8 a
  obtain⟨c3,hh,J,Q,ak,ay⟩:=ac8 a8 (show Ka fin ap H (λH=>ah H h j) from a)
  show J2 ⟨f3 C bj bE bS v,aq,fin,y,fA bR fn n ao aB ro cs c9 H⟩ C t ap h j=some v
  simp only[J2,N3,J,ph]
  have E:fA bR fn n ao aB ro cs c9 H=fA bR fn n ao aB ro cs c9 c3:=by unfold fA;rw[ak.1,ak.2]
  rw[E]
  exact iA (jq _ _ _ _ Q ay)
 |cons x rest ai=>
  intro ap H h j a8 a
  obtain⟨i,g,op⟩:=x
  show Fo i g op rest (AS rest) ⟨f3 C bj bE bS v,aq,fin,y,fA bR fn n ao aB ro cs c9 H⟩ C t ap h j=some v
  have a:=(show(match FG op with
   | .no=>Q9 g ap (λah=>Ww bR.rd op C h j ap H ah (av (h2 (dstsOf aq.toList) H))) (λv h j=>CZ C bR fin ah (λH=>av (h2 (dstsOf aq.toList) H)) rest ((i,v)::ap) H h j) h j
   | .defer b5 f args=>bV (g.isNone&&bR.bd) (eR b5 ap H f λm9=>tR b5 ap H args λcp=>JS m9 cp H λH=>CZ C bR fin ah (λH=>av (h2 (dstsOf aq.toList) H)) rest ((i,undef)::ap) H h j) False
   | .recover=>bV (g.isNone&& !bR.rd) (IG bR.j7 H λv H=>CZ C bR fin ah (λH=>av (h2 (dstsOf aq.toList) H)) rest ((i,v)::ap) H h j) False) from a)
  cases Cg:FG op with
  |no=>
   rw[Cg]at a
   obtain⟨w,J,Q,ak⟩:=Q8 ((ajj ..).mp a)
   simp only[Fo,Q6,J,ph]
   cases w with
   |false=>simp only[Zy,ZC];exact ai _ _ _ _ a8 (ak rfl)
   |true=>
    simp only[ZE]
    have ay:=Q rfl
    rw[Qu]
    unfold Ww at ay
    cases aH:nn op with
    |iu=>
     simp only[aH]at ay ⊢
     obtain⟨ac,bt,b4⟩:=P6 a8 ay
     rw[bt]
     exact ai _ _ _ _ a8 b4
    |make=>
     simp only[aH]at ay ⊢
     obtain⟨ac,cV,bt,b4⟩:=ayb a8 ay
     simp only[Qa,mE,bt,hv,ph]
     exact ai _ _ _ _ a8 b4
    |fo=>
     simp only[aH]at ay ⊢
     obtain⟨r,bt,b4⟩:=aeF a8 ay
     rw[bt]
     have rb:oT r (f3 C bj bE bS v) C (.uf aq ap i rest fin) y (fA bR fn n ao aB ro cs c9 H) t h j=some v:=by
      refine abL aD bo cK (λac h j aj=>⟨_,rfl, ?_⟩) (λac h j todo aj=> ?_) b4
      ·exact k4 cK (ai _ _ _ _ a8 aj)
      ·rw[aqa];exact cD (h2 (dstsOf aq.toList) H) _ _ _ _ _ (acH a8 _) aj
     cases r with
     |val ac=>exact ai _ _ _ _ a8 b4
     |fq ac S' am=>exact ai _ _ _ _ a8 b4
     |_=>exact rb
  |defer b5 f args=>
   rw[Cg]at a
   obtain⟨c,rfl,rfl⟩:=aBF Cg
   have a:=(show bV (g.isNone&&bR.bd) _ False from a)
   cases g with
   |some g=>exact a.elim
   |none=>
    cases mG:bR.bd with
    |false=>rw[mG]at a;exact a.elim
    |true=>
     rw[mG]at a
     obtain⟨m9,J,Q⟩:=hL a8 (show eR b5 ap H f _ from a)
     obtain⟨cp,ak,ay⟩:=Fp a8 Q
     have jI:=bo.bd mG
     subst jI
     cases m9 with
     |func g first fT=>
      simp only[Fo,Q6,pp,ph,ZE]
      rw[Qu]
      have aH:nn (.fo b5 (.defer ⟨.value f,c.1,c.2⟩))= .fo:=rfl
      have ae:ie (.fo b5 (.defer ⟨.value f,c.1,c.2⟩)) C h j ap t=some (.defer ⟨.fn g fT,first++cp⟩):=by
       simp only[ie,n8,TG,J,ak]
      simp only[aH,ae]
      have gF:fA bR fn n ao aB none cs c9 H=⟨fn,n,ao,H.bd,aB,none,bV H.rc c9 cs⟩:=by unfold fA;rw[mG];rfl
      show oT (.defer ⟨.fn g fT,first++cp⟩) (f3 C bj bE bS v) C (.uf aq ap i rest fin) y (fA bR fn n ao aB none cs c9 H) t h j=some v
      rw[gF]
      show f3 C bj bE bS v .run (.IL aq ((i,undef)::ap) rest fin::y) ⟨fn,n,ao,⟨.fn g fT,first++cp⟩::H.bd,aB,none,bV H.rc c9 cs⟩ t h j=some v
      have du:(⟨fn,n,ao,⟨.fn g fT,first++cp⟩::H.bd,aB,none,bV H.rc c9 cs⟩:iL)=fA bR fn n ao aB none cs c9 (AN H ⟨.fn g fT,first++cp⟩):=by unfold fA;rw[mG];rfl
      rw[du]
      exact iA (k4 cK (ai _ (AN H ⟨.fn g fT,first++cp⟩) _ _ a8 ay))
     |_=>exact ay.elim
  |recover=>
   rw[Cg]at a
   obtain⟨b5,dg,args,rfl,xo⟩:=aBG Cg
   have a:=(show bV (g.isNone&& !bR.rd) _ False from a)
   cases g with
   |some g=>exact a.elim
   |none=>
    cases cC:bR.rd with
    |true=>rw[cC]at a;exact a.elim
    |false=>
     rw[cC]at a
     have jI:=bo.rd cC
     subst jI
     have a:IG bR.j7 H (λv H=>CZ C bR fin ah (λH=>av (h2 (dstsOf aq.toList) H)) rest ((i,v)::ap) H h j):=a
     simp only[Fo,Q6,pp,ph,ZE]
     rw[Qu]
     have aH:nn (.fo b5 (.call ⟨.builtin .recover,args,dg⟩))= .fo:=rfl
     have ae:ie (.fo b5 (.call ⟨.builtin .recover,args,dg⟩)) C h j ap t=some .recover:=by
      simp only[ie,n8,D4,Kl,xo,qq]
     simp only[aH,ae]
     show oT .recover (f3 C bj bE bS v) C (.uf aq ap i rest fin) y (fA bR fn n ao aB none cs c9 H) t h j=some v
     have key:∀ac c3,ha c3 t->C4 aB (bV H.rc c9 cs)=some (ac,bV c3.rc c9 cs)->c3.bd=H.bd->CZ C bR fin ah (λH=>av (h2 (dstsOf aq.toList) H)) rest ((i,ac)::ap) c3 h j->oT .recover (f3 C bj bE bS v) C (.uf aq ap i rest fin) y (fA bR fn n ao aB none cs c9 H) t h j=some v:=by
      intro ac c3 Vf J Q ak
      show(match C4 aB (bV H.rc c9 cs)with
       |some (hj,apP)=>(match pH (.uf aq ap i rest fin) hj with|some hW=>f3 C bj bE bS v .run (hW::y) ⟨fn,n,ao,bV bR.bd H.bd [],aB,none,apP⟩ t h j|none=>none)
       |none=>none)=some v
      rw[J]
      show f3 C bj bE bS v .run (.IL aq ((i,ac)::ap) rest fin::y) ⟨fn,n,ao,bV bR.bd H.bd [],aB,none,bV c3.rc c9 cs⟩ t h j=some v
      have gF:(⟨fn,n,ao,bV bR.bd H.bd [],aB,none,bV c3.rc c9 cs⟩:iL)=fA bR fn n ao aB none cs c9 c3:=by unfold fA;rw[Q]
      rw[gF]
      exact iA (k4 cK (ai _ _ _ _ Vf ak))
     unfold IG at a
     cases aw:bR.j7 with
     |none=>rw[aw]at a;exact a.elim
     |some p=>
      rw[aw]at a
      cases p with
      |none=>
       obtain⟨J,Q⟩:=bo.none aw
       subst J
       refine key _ H a8 ?_ rfl a
       cases H.rc<;>exact Q
      |some ac=>
       obtain⟨J,Q⟩:=bo.some ac aw
       cases Am:H.rc with
       |true=>
        simp only[Am]at a
        refine key _ H a8 ?_ rfl a
        simp only[Am];exact Q
       |false=>
        simp only[Am]at a
        refine key ac (QQ H) a8 ?_ rfl a
        simp only[Am];exact J
def ap8(cK:Env C bj dU d5)(aD:D.same 30 v v=true)(bo:Bf bR aB ro cs c9){aq:Array Oper}{base:Nat}{fin:List (Nat×Nat)}{y:List dV}{H:cU}{t:R D}(a8:ha H t){ah:ft}{av:s4}
 (jq:∀H t h j,ha H t->ah H h j->oL C bj bE bS .run y (fA bR fn n ao aB ro cs c9 H) t h j v)
 (cD:∀H t ac h j todo,ha H t->av H ac h j->oL C bj bE bS (.panicking [⟨ac,false⟩]) todo (fA bR fn n ao aB ro cs c9 H) t h j v):
 ∀(lH:List wR) (ap:List (Nat×D)) (h:R af) (j:Nat),SK C bR.rd base fin H ah (av (h2 (dstsOf aq.toList) H)) lH ap h j->yK (f3 C bj bE bS v) C aq base ap lH fin y (fA bR fn n ao aB ro cs c9 H) t h j=some v:=by
 intro lH
 induction lH with
 |nil=>intro ap h j a;exact a.elim
 |cons s rest ai=>
  intro ap h j a
  obtain⟨hQ,S',J,Q⟩:=axQ a8 (show P8 C base H s.uZ ap h _ from a)
  obtain⟨ak,ay⟩:=aAq a8 Q
  simp only[yK,J,ak,ff]
  cases gU:s.fo with
  |none=>
   simp only[gU]at ay
   obtain⟨c3,hh,bt,b4,dh,eI⟩:=ac8 a8 ay
   simp only[N3,bt,ph]
   have E:fA bR fn n ao aB ro cs c9 H=fA bR fn n ao aB ro cs c9 c3:=by unfold fA;rw[dh.1,dh.2]
   rw[E]
   exact iA (jq _ _ _ _ b4 eI)
  |some ae=>
   simp only[gU]at ay
   obtain⟨w,bt,b4,dh⟩:=Q8 ((ajj ..).mp ay)
   simp only[bt]
   cases w with
   |false=>simp only[ls];exact iA (k4 cK (ai _ _ _ (dh rfl)))
   |true=>
    obtain⟨r,eI,hG⟩:=aeF a8 (b4 rfl)
    simp only[ff,eI]
    refine abL aD bo cK (λac h j aj=>⟨_,rfl, ?_⟩) (λac h j todo aj=> ?_) hG
    ·exact k4 cK (ai _ _ _ aj)
    ·rw[ap9];exact cD (h2 (dstsOf aq.toList) H) _ _ _ _ _ (acH a8 _) aj
def ajQ(C:aL)(bj:World)(bE:Nat)(bS:List Frame)(v:D)(cg:cU->iL)(y:List dV)(id:Nat):ft:=λH h j=>∀t,ha H t->BF id (f3 C bj bE bS v) C y (cg H) t h j=some v
def N2{id:Nat}{ai:hP}{C:aL}{eO:dV}{y:List dV}{bR:vk}{cs c9:List gY}{oQ:cU}{H:R D}{h:R af}{j:Nat}(a:exitTo id (eO::y)=exitTo id y):
 BF id ai C (eO::y) (fA bR fn n ao aB ro cs c9 oQ) H h j=BF id ai C y (fA bR fn n ao aB ro cs c9 oQ) H h j:=by
 unfold BF
 rw[a]
 cases exitTo id y with
 |some e2=>rfl
 |none=>
  unfold pe fA
  cases ro with
  |none=>rfl
  |some k=>rfl
def Rz(C:aL)(fn n ao:Nat)(c:Code):Prop:=
 ∀{bj:World}{dU:c6}{d5:Nat->Prop}(_:Env C bj dU d5) {bE:Nat}{bS:List Frame}{v:D}(_:D.same 30 v v=true) (bR:vk) (aB:Bool) (ro:Option Nat) (cs c9:List gY) (av:s4) (y:List dV) (ah:ft) (E:Nat->ft) (r:ft) (H:cU) (t:R D) (h:R af) (j:Nat),Bf bR aB ro cs c9->
  (∀H t ac h j todo,ha H t->av H ac h j->oL C bj bE bS (.panicking [⟨ac,false⟩]) todo (fA bR fn n ao aB ro cs c9 H) t h j v)->
  (∀H t h j,ha H t->ah H h j->oL C bj bE bS .run y (fA bR fn n ao aB ro cs c9 H) t h j v)->
  (∀id H h j,E id H h j->ajQ C bj bE bS v (fA bR fn n ao aB ro cs c9) y id H h j)->
  (∀H t h j todo,ha H t->r H h j->pe (some .ret) (f3 C bj bE bS v) C todo (fA bR fn n ao aB ro cs c9 H) t h j=some v)->
  ha H t->w4 C n ao c bR av ah E r H h j->vv c (f3 C bj bE bS v) C y (fA bR fn n ao aB ro cs c9 H) t h j=some v
def aBk{n:Nat}:∀(dp:List Nat) (cp:List D) (H:cU) (t:R D) (ah:cU->Prop),ha H t->IM n dp cp H ah->∃c3 hh,x0 n dp cp t=some hh/\ha c3 hh/\ah c3:=by
 intro dp
 induction dp with
 |nil=>
  intro cp H t ah a8 a
  cases cp with
  |nil=>exact⟨H,t,rfl,a8,a⟩
  |cons F cp=>exact a.elim
 |cons p dp ai=>
  intro cp H t ah a8 a
  cases cp with
  |nil=>exact a.elim
  |cons F cp=>
   have a:=(show bV (Nat.blt p n) (IM n dp cp (Z H p F) ah) False from a)
   cases ag:Nat.blt p n with
   |false=>rw[ag]at a;exact a.elim
   |true=>
    rw[ag]at a
    obtain⟨c3,hh,J,Q,ak⟩:=ai cp _ _ ah (aix a8 p F) a
    exact⟨c3,hh,by simp only[x0,ag,ff,J],Q,ak⟩
def Dk(fn n ao:Nat)(ro:Option Nat)(cs:List gY)(H:cU):fA CF fn n ao false ro cs cs H=⟨fn,n,ao,[],false,ro,cs⟩:=by
 unfold fA CF
 cases H.rc<;>rfl
def VW{ai:hP}{C:aL}{k fn n ao:Nat}{t0:R D}{params:List Nat}{assign body:Code}{NI:Nat}{jj:Option Code}{st:LoopState}{b:Bool}{ah:bI}{todo:List dV}{cs:List gY}{t:R D}{h:R af}{j:Nat}{v:D}
 (aE:kM C k=true)(aw:ahT jj=true)(dj:st=bV jj.isNone .ready .done)(ag:b=jj.isNone)(a:NX C k (λst p=> .loop st p fn n ao t0 params assign body NI) st jj b ah h j)
 (aH:∀ac h j,ah ac h j->up ai false cs ac h j=some v):pe jj ai C todo ⟨fn,n,ao,[],false,some k,cs⟩ t h j=some v:=by
 obtain⟨⟨aiD,Iz,J⟩,Q⟩:=a
 subst dj ag
 have:=aH _ _ _ Q
 simp only[pe,J,aE,aw,Yo,Yt,ff,hv]
 exact this
def aAV{C:aL}{fn n ao:Nat}{assign body:Code}(mF:Rz C fn n ao assign)(ez:Rz C fn n ao body){bj:World}{dU:c6}{d5:Nat->Prop}(cK:Env C bj dU d5){bE:Nat}{bS:List Frame}{v:D}(aD:D.same 30 v v=true){k:Nat}{t:R D}{params:List Nat}{NI:Nat}{cs:List gY}
 {H:cU}{h:R af}{j:Nat}{args:List D}{ah av:bI}(az:U C h k=some (.loop .ready none fn n ao t params assign body NI))(aE:kM C k=true)(a8:ha H t)
 (gz:∀ac S' am,ah ac S' am->Rw C bj bE bS v cs ac S' am)(jT:∀ac S' am,av ac S' am->Nd C bj bE bS v cs ac S' am)
 (a:IM n params args H λr0=>tZ C (w4 C n ao assign) (w4 C n ao body) k (λst p=> .loop st p fn n ao t params assign body NI) ah av r0 h j):
 QK (f3 C bj bE bS v) C k args cs h j=some v:=by
 obtain⟨r0,t1,bD,EC,J⟩:=aBk _ _ _ _ _ a8 a
 unfold QK
 rw[az]
 simp only[bD]
 have bo:Bf CF false (some k) cs cs:=⟨λa=>(by cases a),λa=>(by cases a),λa=>(by cases a),λac a=>(by cases a)⟩
 have cD:∀(H:cU) (t:R D) (ac:D) (h:R af) (j:Nat) (todo:List dV),ha H t->av ac h j->oL C bj bE bS (.panicking [⟨ac,false⟩]) todo (fA CF fn n ao false (some k) cs cs H) t h j v:=by
  intro H t ac h j todo a8 aj
  rw[Dk]
  refine k4 cK ?_
  have:=jT ac h j aj
  show MB [⟨ac,false⟩] todo (f3 C bj bE bS v) C ⟨fn,n,ao,[],false,some k,cs⟩ t h j=some v
  cases cs with
  |nil=>exact this.elim
  |cons c rest=>exact this
 refine iA (k4 cK ?_)
 rw[<-Dk fn n ao (some k) cs r0]
 refine mF cK aD CF false (some k) cs cs (λ_=>av) [.beginRound, .code body] _ _ _ r0 t1 h j bo cD (λH t h j a8 aj=> ?_) (λid H h j aj=>aj.elim) (λH t h j todo a8 aj=>aj.elim) EC J
 obtain⟨cN,cB⟩:=aj
 refine k4 cK ?_
 rw[Dk]
 show JF (f3 C bj bE bS v) C [.code body] ⟨fn,n,ao,[],false,some k,cs⟩ t h j=some v
 unfold JF
 simp only[cN,aE,ff,hv]
 refine iA (k4 cK ?_)
 rw[<-Dk fn n ao (some k) cs H]
 refine ez cK aD CF false (some k) cs cs (λ_=>av) [] _ _ _ H t _ j bo cD (λH t h j a8 aj=> ?_) (λid H h j aj t a8=> ?_) (λH t h j todo a8 aj=> ?_) a8 cB
 ·refine k4 cK ?_
  rw[Dk]
  show pe none (f3 C bj bE bS v) C [] ⟨fn,n,ao,[],false,some k,cs⟩ t h j=some v
  exact VW aE rfl rfl rfl aj gz
 ·rw[Dk]
  show pe (some (.exit id)) (f3 C bj bE bS v) C (.code (.exit id)::[]) ⟨fn,n,ao,[],false,some k,cs⟩ t h j=some v
  exact VW aE rfl rfl rfl aj gz
 ·rw[Dk]
  exact VW aE rfl rfl rfl aj gz
def Sw:∀c:Code,Rz C fn n ao c:=by
 intro c
 induction c with
 |skip=>intro bj dU d5 cK bE bS v aD bR aB ro cs c9 av y ah E r H t h j bo cD jq bz Y a8 a;exact iA (jq _ _ _ _ a8 a)
 |region id aq d=>
  intro bj dU d5 cK bE bS v aD bR aB ro cs c9 av y ah E r H t h j bo cD jq bz Y a8 a
  cases d with
  |false=>
   obtain⟨aj,J,Q⟩:=tS.1 (show cz (L7 C n aq ao) (λr=>CZ C bR r.fin ah (λH=>av (h2 (dstsOf aq.toList) H)) r.rest [] H h j) from a)
   show jK (L7 C n aq ao) (λr=>Ry.rec (motive:=λ_=>ec) (λrest fin=>AS rest ⟨f3 C bj bE bS v,aq,fin,y,fA bR fn n ao aB ro cs c9 H⟩ C t [] h j) r)=some v
   rw[J]
   exact aBe cK aD bo jq cD _ _ _ _ _ a8 Q
  |true=>
   obtain⟨aj,J,Q⟩:=tS.1 (show cz (L6 C n aq ao) (λr=>eW (j+aq.size) λam=>SK C bR.rd j r.fin H ah (av (h2 (dstsOf aq.toList) H)) r.lH [] h am) from a)
   show jK (L6 C n aq ao) (λr=>Rx.rec (motive:=λ_=>ec) (λlH fin=>rf j λj=>yK (f3 C bj bE bS v) C aq j [] lH fin y (fA bR fn n ao aB ro cs c9 H) t h (j+aq.size)) r)=some v
   rw[J]
   show rf j (λj=>yK (f3 C bj bE bS v) C aq j [] aj.lH aj.fin y (fA bR fn n ao aB ro cs c9 H) t h (j+aq.size))=some v
   rw[mE]
   exact ap8 cK aD bo a8 jq cD _ _ _ _ Q.out
 |seq F b nj hV=>
  intro bj dU d5 cK bE bS v aD bR aB ro cs c9 av y ah E r H t h j bo cD jq bz Y a8 a
  refine nj cK aD bR aB ro cs c9 av (.code b::y) (w4 C n ao b bR av ah E r) E r H t h j bo cD (λH t h j a8 a=> ?_) (λid H h j a t a8=> ?_) Y a8 a
  ·exact k4 cK (hV cK aD bR aB ro cs c9 av y ah E r H t h j bo cD jq bz Y a8 a)
  ·rw[N2 (by simp[exitTo])]
   exact bz id H h j a t a8
 |cond c F b nj hV=>
  intro bj dU d5 cK bE bS v aD bR aB ro cs c9 av y ah E r H t h j bo cD jq bz Y a8 a
  obtain⟨ac,J,Q⟩:=hL (ap:=[]) (b5:=[]) a8 (show eR [] [] H c _ from a)
  obtain⟨Q0,rfl,ak,ay⟩:=ab7 Q.out
  have bt:xc t c=some (.bool Q0):=by
   cases c<;>first|(simp[jD,xc]at J;done)|simpa[jD,xc]using J
  show JO c t (vv F (f3 C bj bE bS v) C y (fA bR fn n ao aB ro cs c9 H) t h j) (vv b (f3 C bj bE bS v) C y (fA bR fn n ao aB ro cs c9 H) t h j)=some v
  simp only[JO,ph,bt]
  cases Q0 with
  |true=>exact nj cK aD bR aB ro cs c9 av y ah E r H t h j bo cD jq bz Y a8 (ak rfl)
  |false=>exact hV cK aD bR aB ro cs c9 av y ah E r H t h j bo cD jq bz Y a8 (ay rfl)
 |block id b hV=>
  intro bj dU d5 cK bE bS v aD bR aB ro cs c9 av y ah E r H t h j bo cD jq bz Y a8 a
  refine hV cK aD bR aB ro cs c9 av (.inBlock id::y) ah (DU id ah E) r H t h j bo cD (λH t h j a8 a=>k4 cK (iA (jq H t h j a8 a))) (λuW H h j a t a8=> ?_) Y a8 a.out
  unfold DU at a
  rw[h1]at a
  by_cases Hy:id=uW
  ·rw[Zp Hy]at a
   have bD:exitTo uW (.inBlock id::y)=some y:=by simp[exitTo,Hy,h1]
   unfold BF
   rw[bD]
   exact iA (jq H t h j a8 a)
  ·rw[Zh Hy]at a
   rw[N2 (by simp[exitTo,h1,Hy])]
   exact bz uW H h j a t a8
 |loop b hV=>
  intro bj dU d5 cK bE bS v aD bR aB ro cs c9 av y ah E r H t h j bo cD jq bz Y a8 a
  obtain⟨s1,⟨m,UI⟩,pL⟩:=(show fg (λR1=>w4 C n ao b bR av R1 E r) H h j from a).out
  have iv:∀m H t h j,s1 m H h j->ha H t->vv b (f3 C bj bE bS v) C (.inLoop b::y) (fA bR fn n ao aB ro cs c9 H) t h j=some v:=by
   intro m
   induction m using Nat.strongRecOn with
   |ind m qG=>
    intro H t h j UI a8
    refine hV cK aD bR aB ro cs c9 av (.inLoop b::y) _ E r H t h j bo cD (λH t h j a8 a=> ?_) (λid H h j a t a8=> ?_) Y a8 (pL m H h j UI)
    ·obtain⟨gH,c2,v1⟩:=a
     exact k4 cK (qG gH c2 H t h j v1 a8)
    ·rw[N2 (by simp[exitTo])]
     exact bz id H h j a t a8
  exact iv m H t h j UI a8
 |rangeFunc f params assign body nj hV=>
  intro bj dU d5 cK bE bS v aD bR aB ro cs c9 av y ah E r H t h j bo cD jq bz Y a8 a
  have a:=(show bV bR.bd (SX f H λm9=>Fv C n m9 params.toList (tZ C (w4 C n ao assign) (w4 C n ao body)) ah E r av H h j) False from a)
  cases mG:bR.bd with
  |false=>rw[mG]at a;exact a.elim
  |true=>
   rw[mG]at a
   have jI:=bo.bd mG
   subst jI
   obtain⟨m9,J,Q⟩:=hL (ap:=[]) (b5:=[]) a8 (show eR [] [] H f _ from a)
   have bt:xc t f=some m9:=by
    cases f<;>first|(simpa[jD,xc]using J)|(simp[jD]at J;subst J;rfl)
   have K5:=Q.low
   have HJ:=Q.out
   have gF:∀H:cU,fA bR fn n ao aB none cs c9 H=⟨fn,n,ao,H.bd,aB,none,bV H.rc c9 cs⟩:=λH=>by unfold fA;rw[mG];rfl
   have OU:kM C (j+1)=true:=Sf Zo
   show Mp f params assign body (f3 C bj bE bS v) C y (fA bR fn n ao aB none cs c9 H) t h j=some v
   rw[gF]
   unfold Mp
   rw[bt]
   cases m9 with
   |func g first fT=>
    cases g with
    |func g=>
     simp only[mE]
     have HJ:=HJ (λst p=> .loop st p fn n ao t params.toList assign body j) ?_
     ·refine HJ bj dU d5 cK bE bS v aD _ (λac S' am aj=> ?_) (λac S' am aj=> ?_)
      ·obtain⟨st,p,cN,cB,ea⟩:=aj
       show(match pH (.inRangeFunc (j+1)) ac with
        |some hW=>f3 C bj bE bS v .run (hW::y) ⟨fn,n,ao,⟨.collected j,[]⟩::H.bd,aB,none,bV H.rc c9 cs⟩ t S' am
        |none=>none)=some v
       refine iA (k4 cK ?_)
       show GW (j+1) (f3 C bj bE bS v) C y ⟨fn,n,ao,⟨.collected j,[]⟩::H.bd,aB,none,bV H.rc c9 cs⟩ t S' am=some v
       have bD:GW (j+1) (f3 C bj bE bS v) C y ⟨fn,n,ao,⟨.collected j,[]⟩::H.bd,aB,none,bV H.rc c9 cs⟩ t S' am=f3 C bj bE bS v .run ((p.map dV.code).toList++y) ⟨fn,n,ao,⟨.collected j,[]⟩::H.bd,aB,none,bV H.rc c9 cs⟩ t (bi C S' (j+1) (some (.loop .exhausted p fn n ao t params.toList assign body j))) am:=by
        unfold GW
        rw[cB]
        cases st with
        |busy=>exact absurd rfl cN
        |_=>simp only[OU,ff,hv]
       rw[bD]
       have du:=gF (wn H j)
       have eg:(⟨fn,n,ao,⟨.collected j,[]⟩::H.bd,aB,none,bV H.rc c9 cs⟩:iL)=fA bR fn n ao aB none cs c9 (wn H j):=du.symm
       rw[eg]
       have xF:ha (wn H j) t:=a8
       cases p with
       |none=>exact iA (jq _ _ _ _ xF ea)
       |some c=>
        refine iA (k4 cK ?_)
        unfold ahU at ea
        cases c with
        |exit id=>exact bz id _ _ _ ea t xF
        |ret=>exact Y _ _ _ _ _ xF ea
        |_=>exact ea.elim
      ·refine iA ?_
       have eg:(⟨fn,n,ao,⟨.collected j,[]⟩::H.bd,aB,none,bV H.rc c9 cs⟩:iL)=fA bR fn n ao aB none cs c9 (wn H j):=(gF (wn H j)).symm
       have:=cD (wn H j) t ac S' am (.inRangeFunc (j+1)::y) a8 aj
       rw[<-eg]at this
       exact this
     ·
      intro args aK Fj A2 eE az bi n2 yf m3 SU eQ r7 im k8 Sz gz jT
      exact aAV nj hV SU k8 az OU a8 gz jT bi
    |_=>exact HJ.elim
   |_=>exact HJ.elim
 |exit id=>
  intro bj dU d5 cK bE bS v aD bR aB ro cs c9 av y ah E r H t h j bo cD jq bz Y a8 a
  exact bz id H h j a t a8
 |scope b hV=>
  intro bj dU d5 cK bE bS v aD bR aB ro cs c9 av y ah E r H t h j bo cD jq bz Y a8 a
  refine hV cK aD bR aB ro cs c9 av (.inScope b::y) ah E r H t h j bo cD (λH t h j a8 a=>k4 cK (iA (jq H t h j a8 a))) (λid H h j a t a8=> ?_) Y a8 a
  rw[N2 (by simp[exitTo])]
  exact bz id H h j a t a8
 |label k=>intro bj dU d5 cK bE bS v aD bR aB ro cs c9 av y ah E r H t h j bo cD jq bz Y a8 a;exact iA (jq _ _ _ _ a8 a)
 |goto k=>intro bj dU d5 cK bE bS v aD bR aB ro cs c9 av y ah E r H t h j bo cD jq bz Y a8 a;exact a.elim
 |ret=>
  intro bj dU d5 cK bE bS v aD bR aB ro cs c9 av y ah E r H t h j bo cD jq bz Y a8 a
  exact Y _ _ _ _ _ a8 a
 |refuse s=>intro bj dU d5 cK bE bS v aD bR aB ro cs c9 av y ah E r H t h j bo cD jq bz Y a8 a;exact a.elim
end
def R6(args:List D):ha (cP args) (R.ofList args 0 .nil):=by
 intro n v a
 rw[mR]
 simpa[cP]using a
section
variable{C:aL}{dU:c6}{d5:Nat->Prop}{bj:World}{bE:Nat}{bS:List Frame}{v:D}{fn:Nat}{uB:Func}{n ao:Nat}{aB:Bool}{cs:List gY}
def QI(cK:Env C bj dU d5)(aD:D.same 30 v v=true)(cb:C.P.funcs[fn]? =some uB){bg:bI}(gz:∀ac h j,bg ac h j->up (f3 C bj bE bS v) aB cs ac h j=some v){H:cU}{t:R D}(a8:ha H t):
 ∀(ds:List h0) (h:R af) (j:Nat) (todo:List dV),nV C uB.results.toList bg H ds h j->oL C bj bE bS .returning todo ⟨fn,n,ao,ds,aB,none,cs⟩ t h j v:=by
 intro ds
 induction ds with
 |nil=>
  intro h j todo a
  obtain⟨br,J,Q⟩:=aAC a8 (show rI C h H uB.results.toList (λbr=>bg (one br) h j) from a)
  refine k4 cK ?_
  show MC todo (f3 C bj bE bS v) C ⟨fn,n,ao,[],aB,none,cs⟩ t h j=some v
  simp only[MC,cb,J]
  exact gz _ _ _ Q
 |cons d ds ai=>
  intro h j todo a
  obtain⟨MI,cp⟩:=d
  refine k4 cK ?_
  show x4 ⟨MI,cp⟩ ds .returning todo (f3 C bj bE bS v) C ⟨fn,n,ao,[],aB,none,cs⟩ t h j=some v
  cases MI with
  |collected r=>
   have a:=(show Qm C r h (nV C uB.results.toList bg H ds (bi C h r (some (.deferred none))) j) from a)
   simp only[x4,a.here,show kM C r=true from Sf a.low,ff,hv,Yn]
   exact iA (ai _ _ _ a.go)
  |fn g cap=>
   have a:=(show uw C g (cp++cap) none h j (λ_ h j=>nV C uB.results.toList bg H ds h j) from a).out
   split at a
   ·rename_i f
    obtain⟨J,⟨xe,c,Q,ak⟩,ay⟩:=a
    simp only[x4,Bo,s7,J,Q,ak]
    exact ay bj dU d5 cK bE bS v aD fn n ao t todo ds aB none cs λb S' am aj=>iA (ai _ _ _ aj)
   ·exact a.elim
def ahQ(cK:Env C bj dU d5)(aD:D.same 30 v v=true)(cb:C.P.funcs[fn]? =some uB){bg eK:bI}(gz:∀ac h j,bg ac h j->up (f3 C bj bE bS v) aB cs ac h j=some v)(jT:∀ac h j,eK ac h j->Nd C bj bE bS v cs ac h j){H:cU}{t:R D}(a8:ha H t)(ac:D):
 ∀(ds:List h0) (h:R af) (j:Nat) (todo:List dV),wr C uB.results.toList bg eK H ac ds h j->oL C bj bE bS (.panicking [⟨ac,false⟩]) todo ⟨fn,n,ao,ds,aB,none,cs⟩ t h j v:=by
 intro ds
 induction ds with
 |nil=>
  intro h j todo a
  refine k4 cK ?_
  have:=jT ac h j a
  show MB [⟨ac,false⟩] todo (f3 C bj bE bS v) C ⟨fn,n,ao,[],aB,none,cs⟩ t h j=some v
  cases cs with
  |nil=>exact this.elim
  |cons c rest=>exact this
 |cons d ds ai=>
  intro h j todo a
  obtain⟨MI,cp⟩:=d
  refine k4 cK ?_
  show x4 ⟨MI,cp⟩ ds (.panicking [⟨ac,false⟩]) todo (f3 C bj bE bS v) C ⟨fn,n,ao,[],aB,none,cs⟩ t h j=some v
  cases MI with
  |collected r=>
   have a:=(show Qm C r h (wr C uB.results.toList bg eK H ac ds (bi C h r (some (.deferred none))) j) from a)
   simp only[x4,a.here,show kM C r=true from Sf a.low,ff,hv,Yn]
   exact iA (ai _ _ _ a.go)
  |fn g cap=>
   have a:=(show uw C g (cp++cap) (some ac) h j (λb h j=>bV b (nV C uB.results.toList bg H ds h j) (wr C uB.results.toList bg eK H ac ds h j)) from a).out
   split at a
   ·rename_i f
    obtain⟨J,⟨xe,c,Q,ak⟩,ay⟩:=a
    simp only[x4,Bo,s7,J,Q,ak]
    refine ay bj dU d5 cK bE bS v aD fn n ao t todo ds aB none cs λb S' am aj=> ?_
    cases b with
    |true=>exact iA (QI cK aD cb gz a8 ds S' am todo aj)
    |false=>exact iA (ai _ _ _ aj)
   ·exact a.elim
end
def S9{C:aL}{f d9:Nat}(ax:cQ C f d9=true):∃fn c,C.P.funcs[f]? =some fn/\fn.body=some c/\(Nat.ble d9 fn.ntmps&&mc C (Nat.lor (kC c) (oD fn.results.toList)) c&&AO (Nat.lor (kC c) (oD fn.results.toList)) fn.results.toList)=true:=by
 unfold cQ at ax
 split at ax
 ·rename_i fn cb
  split at ax
  ·rename_i c ag;exact⟨fn,c,cb,ag,ax⟩
  ·cases ax
 ·cases ax
def Ia{ai:hP}{C:aL}{fn n ao:Nat}{bd:List h0}{aB:Bool}{cs:List gY}{todo:List dV}{H:R D}{h:R af}{j:Nat}{T:Option Code}(bJ:VB T=true):pe T ai C todo ⟨fn,n,ao,bd,aB,none,cs⟩ H h j=ai .returning todo ⟨fn,n,ao,bd,aB,none,cs⟩ H h j:=by
 simp only[pe,bJ,ff]
def Jh(fn n ao:Nat)(aB:Bool)(ro:Option Nat)(cs:List gY)(H:cU):fA Ii fn n ao aB ro cs cs H=⟨fn,n,ao,[],aB,ro,cs⟩:=by
 unfold fA Ii
 cases H.rc<;>rfl
def Ji(fn n ao:Nat)(aB:Bool)(ro:Option Nat)(cs:List gY)(H:cU):fA AE fn n ao aB ro cs cs H=⟨fn,n,ao,H.bd,aB,ro,cs⟩:=by
 unfold fA AE
 cases H.rc<;>rfl
def arj{C:aL}{f:Nat}{args:List D}{h:R af}{j:Nat}{bg eK:bI}(ax:cQ C f args.length=true)(a:cY C f args h j bg eK):vi C f args h j bg eK:=by
 intro bj dU d5 cK bE bS v aD cs gz jT
 obtain⟨fn,c,cb,ag,iQ⟩:=S9 ax
 unfold cY at a
 simp only[cb,ag]at a
 unfold oY
 simp only[cb,ag,mE,iQ,ff]
 have bo:Bf Ii false none cs cs:=⟨λ_=>rfl,λa=>(by cases a),λa=>(by cases a),λac a=>(by cases a)⟩
 have tE:∀H t h j todo,ha H t->rI C h H fn.results.toList (λbr=>bg (one br) h j)->
  oL C bj bE bS .returning todo (fA Ii f fn.ntmps (Nat.lor (kC c) (oD fn.results.toList)) false none cs cs H) t h j v:=by
  intro H t h j todo a8 a
  rw[Jh]
  exact QI cK aD cb (λac h j aj=>gz ac h j aj) a8 [] h j todo a
 refine iA (k4 cK ?_)
 rw[<-Jh f fn.ntmps (Nat.lor (kC c) (oD fn.results.toList)) false none cs (cP args)]
 refine Sw c cK aD Ii false none cs cs _ [] _ _ _ _ _ h j bo (λH t ac h j todo a8 a=> ?_) (λH t h j a8 a=> ?_) (λid H h j a=>a.elim) (λH t h j todo a8 a=> ?_) (R6 args) a
 ·rw[Jh]
  exact ahQ (uB:=fn) (bg:=bg) cK aD cb (λac h j aj=>gz ac h j aj) (λac h j aj=>jT ac h j aj) a8 ac [] h j todo a
 ·refine k4 cK ?_
  have:=tE H t h j [] a8 a
  rw[Jh]at this ⊢
  show pe none (f3 C bj bE bS v) C [] ⟨f,fn.ntmps,Nat.lor (kC c) (oD fn.results.toList),[],false,none,cs⟩ t h j=some v
  rw[Ia rfl]
  exact iA this
 ·have:=tE H t h j todo a8 a
  rw[Jh]at this ⊢
  rw[Ia rfl]
  exact iA this
def ark{C:aL}{f:Nat}{args:List D}{h:R af}{j:Nat}{bg eK:bI}(ax:cQ C f args.length=true)(a:BI C f args h j bg eK):vi C f args h j bg eK:=by
 intro bj dU d5 cK bE bS v aD cs gz jT
 obtain⟨fn,c,cb,ag,iQ⟩:=S9 ax
 unfold BI at a
 simp only[cb,ag]at a
 unfold oY
 simp only[cb,ag,mE,iQ,ff]
 have bo:Bf AE false none cs cs:=⟨λ_=>rfl,λ_=>rfl,λa=>(by cases a),λac a=>(by cases a)⟩
 have tE:∀H t h j todo,ha H t->nV C fn.results.toList bg H H.bd h j->
  oL C bj bE bS .returning todo (fA AE f fn.ntmps (Nat.lor (kC c) (oD fn.results.toList)) false none cs cs H) t h j v:=by
  intro H t h j todo a8 a
  rw[Ji]
  exact QI cK aD cb (λac h j aj=>gz ac h j aj) a8 H.bd h j todo a
 refine iA (k4 cK ?_)
 rw[show(⟨f,fn.ntmps,Nat.lor (kC c) (oD fn.results.toList),[],false,none,cs⟩:iL)=fA AE f fn.ntmps (Nat.lor (kC c) (oD fn.results.toList)) false none cs cs (cP args) from(Ji f fn.ntmps (Nat.lor (kC c) (oD fn.results.toList)) false none cs (cP args)).symm]
 refine Sw c cK aD AE false none cs cs _ [] _ _ _ _ _ h j bo (λH t ac h j todo a8 a=> ?_) (λH t h j a8 a=> ?_) (λid H h j a=>a.elim) (λH t h j todo a8 a=> ?_) (R6 args) a
 ·rw[Ji]
  exact ahQ (uB:=fn) (bg:=bg) cK aD cb (λac h j aj=>gz ac h j aj) (λac h j aj=>jT ac h j aj) a8 ac H.bd h j todo a
 ·refine k4 cK ?_
  have:=tE H t h j [] a8 a
  rw[Ji]at this ⊢
  show pe none (f3 C bj bE bS v) C [] ⟨f,fn.ntmps,Nat.lor (kC c) (oD fn.results.toList),H.bd,false,none,cs⟩ t h j=some v
  rw[Ia rfl]
  exact iA this
 ·have:=tE H t h j todo a8 a
  rw[Ji]at this ⊢
  rw[Ia rfl]
  exact iA this
def adk{C:aL}{f:Nat}{args:List D}{j7:Option D}{h:R af}{j:Nat}{bg:Bool->R af->Nat->Prop}(ax:cQ C f args.length=true)(a:yQ C f args j7 h j bg)
 {bj:World}{dU:c6}{d5:Nat->Prop}(cK:Env C bj dU d5){bE:Nat}{bS:List Frame}{v:D}(aD:D.same 30 v v=true){cs c9:List gY}(bo:Bf ⟨false,false,some j7⟩ true none cs c9)
 (atr:∀b ac h j,bg b h j->up (f3 C bj bE bS v) true (bV b c9 cs) ac h j=some v):oY (f3 C bj bE bS v) C f args true cs h j=some v:=by
 obtain⟨fn,c,cb,ag,iQ⟩:=S9 ax
 unfold yQ at a
 simp only[cb,ag]at a
 unfold oY
 simp only[cb,ag,mE,iQ,ff]
 have tE:∀H t h j todo,ha H t->rI C h H fn.results.toList (λ_=>bg H.rc h j)->
  oL C bj bE bS .returning todo (fA ⟨false,false,some j7⟩ f fn.ntmps (Nat.lor (kC c) (oD fn.results.toList)) true none cs c9 H) t h j v:=by
  intro H t h j todo a8 a
  exact QI (bg:=λ_ h j=>bg H.rc h j) cK aD cb (λac h j aj=>atr H.rc ac h j aj) a8 [] h j todo a
 refine iA (k4 cK ?_)
 refine Sw c cK aD ⟨false,false,some j7⟩ true none cs c9 _ [] _ _ _ (cP args) _ h j bo (λH t ac h j todo a8 a=>a.elim) (λH t h j a8 a=> ?_) (λid H h j a=>a.elim) (λH t h j todo a8 a=> ?_) (R6 args) a
 ·refine k4 cK ?_
  show pe none (f3 C bj bE bS v) C [] ⟨f,fn.ntmps,Nat.lor (kC c) (oD fn.results.toList),[],true,none,bV H.rc c9 cs⟩ t h j=some v
  rw[Ia rfl]
  exact iA (tE H t h j [] a8 a)
 ·show pe (some .ret) (f3 C bj bE bS v) C todo ⟨f,fn.ntmps,Nat.lor (kC c) (oD fn.results.toList),[],true,none,bV H.rc c9 cs⟩ t h j=some v
  rw[Ia rfl]
  exact iA (tE H t h j todo a8 a)
def N8{C:aL}{f:Nat}{args:List D}{j7:Option D}{h:R af}{j:Nat}{bg:Bool->R af->Nat->Prop}(ax:cQ C f args.length=true)(a:yQ C f args j7 h j bg):XB C f args j7 h j bg:=by
 intro bj dU d5 cK bE bS v aD S8 aM Ih r0 Xf aqe JR WQ r7 gz
 cases j7 with
 |none=>
  refine adk ax a cK aD (c9:=_) ⟨λ_=>rfl,λa=>(by cases a),λa=>⟨rfl,rfl⟩,λac a=>(by cases a)⟩ (λb ac h j aj=> ?_)
  have:=gz b h j aj
  cases b<;>exact this
 |some p=>
  refine adk ax a cK aD (c9:=(⟨S8,aM,Ih,r0,Xf,aqe, .panicking [⟨p,true⟩],JR,WQ⟩:gY)::r7) ⟨λ_=>rfl,λa=>(by cases a),λa=>(by cases a),λac a=> ?_⟩ (λb ac h j aj=> ?_)
  ·simp only[Zf]at a
   subst a
   exact⟨rfl,rfl⟩
  ·have:=gz b h j aj
   cases b<;>exact this
def apj{C:aL}{bj:World}{dU:c6}{d5:Nat->Prop}(cK:Env C bj dU d5){f:Nat}{args:List D}{v:D}(aD:D.same 30 v v=true)(gc:eu d5 args)
 (a:vi C f args .nil C.a6 (λac _ _=>ac=v) (λ_ _ _=>False)):Calls C.P f (b2 dU args).toArray bj λE b0=>(∃S,E= .returned (aO S v))/\Below bj.heap.size bj b0:=by
 intro r7
 have bT:Ends C bj f r7 v (lone (Frame.enter C.P f (b2 dU args).toArray .normal) r7 bj):=
  NY abN cK.base (Below.refl _ _) cK.ij (Zj _) .nil (λ_=>rfl) gc
   (a bj dU d5 cK f r7 v aD [] (λac S' am E=>by subst E;rfl) (λac S' am E=>E.elim))
 obtain⟨S,b0,fr,bD,cG,fV,ke⟩:=bT
 exact⟨.returned (aO S v),b0,fr,⟨⟨S,rfl⟩,ke⟩,bD,fV,cG⟩
end
noncomputable section
section
variable{C:aL}{h:R af}{j:Nat}
def bb{b:Nat}{V:Option af}(a:C.a6<=b):U C (bi C h b V) b=V:=by rw[ge _ a,Zp rfl]
def aC{b x:Nat}{V:Option af}(a:C.a6<=b)(ae:x≠b):U C (bi C h b V) x=U C h x:=by rw[ge _ a,Zh ae]
def cl(b V:Nat):aI C h (.ptr b V)=match U C h b with|some (.cells c _ _)=>c.get V|_=>none:=by
 simp only[aI,cellsOf]
 cases U C h b with
 |none=>rfl
 |some cV=>cases cV<;>rfl
def wj(n b V:Nat):cZ C h n (.ptr b V)=match U C h b with|some (.cells c _ _)=>(c.k3 V n).map D.agg|_=>none:=by
 simp only[cZ,cellsOf]
 cases U C h b with
 |none=>rfl
 |some cV=>
  cases cV with
  |cells c m st=>simp only[];cases c.k3 V n<;>rfl
  |_=>rfl
def adB(c:R D)(V:Nat):c.k3 V 0=some []:=rfl
def ix:∀(k:List D) (c:R D) (V i:Nat),(dT c V k).get i=if V<=i/\i<V+k.length then k[i-V]? else c.get i:=by
 intro k
 induction k with
 |nil=>intro c V i;simp[dT];intro J Q;omega
 |cons F k ai=>
  intro c V i
  simp only[dT,hv]
  rw[ai,R.kN]
  by_cases J:i=V
  ·subst J
   simp
   intro a;omega
  ·by_cases Q:V+1<=i/\i<V+1+k.length
   ·rw[Zp Q,Zp Zx]
    rw[show i-V=(i-(V+1))+1 by omega]
    simp
   ·rw[Zh Q,Zh (λE=>J E.symm),Zh Zx]
def Cv{b V n:Nat}{c:R D}{st:oP}(a:C.a6<=b):aI C (bi C h b (some (.cells c n st))) (.ptr b V)=c.get V:=by
 rw[cl,bb a]
def EV{b x V:Nat}{cV:Option af}(a:C.a6<=b)(ae:x≠b):aI C (bi C h b cV) (.ptr x V)=aI C h (.ptr x V):=by
 rw[cl,cl,aC a ae]
def pY(C:aL)(h:R af)(b:Nat):Nat->Nat->Option (List D)
 |_,0=>some []
 |V,n+1=>(aI C h (.ptr b V)).bind λF=>(pY C h b (V+1) n).bind λk=>some (F::k)
def wk{b V n:Nat}:cZ C h (n+1) (.ptr b V)=(pY C h b V (n+1)).bind λk=>some (.agg k):=by
 have a:∀(c:R D) (m:Nat) (st:oP),U C h b=some (.cells c m st)->∀n V,pY C h b V n=c.k3 V n:=by
  intro c m st ag n
  induction n with
  |zero=>intro V;rfl
  |succ n ai=>
   intro V
   simp only[pY,R.k3,cl,ag,ai]
   cases c.get V with
   |none=>rfl
   |some F=>cases c.k3 (V+1) n<;>rfl
 rw[wj]
 cases ag:U C h b with
 |none=>simp[pY,cl,ag]
 |some cV=>
  cases cV with
  |cells c m st=>
   simp only[a c m st ag]
   cases c.k3 V (n+1)<;>rfl
  |_=>simp[pY,cl,ag]
structure bf(C:aL)(h:R af)(j:Nat)(S':R af)(am:Nat):Prop where
 le:j<=am
 aa:∀b,b<j->U C S' b=U C h b
def bf.refl(h:R af)(j:Nat):bf C h j h j:=⟨Zj _,λ_ _=>rfl⟩
def bf.trans{aK aJ a1:R af}{aM aR bn:Nat}(a:bf C aK aM aJ aR)(y:bf C aJ aR a1 bn):bf C aK aM a1 bn:=
 ⟨ZA a.le y.le,λb ag=>(y.aa b (ZN ag a.le)).trans (a.aa b ag)⟩
def bf.ep{S':R af}{am:Nat}(a:bf C h j S' am)(b V:Nat)(ag:b<j):aI C S' (.ptr b V)=aI C h (.ptr b V):=by
 rw[cl,cl,a.aa b ag]
def bf.fresh(a:C.a6<=j)(cV:Option af):bf C h j (bi C h j cV) (j+1):=
 ⟨Z8 _,λb ag=>aC a Zo⟩
def bf.more{S':R af}{am n:Nat}(y:bf C h j S' am)(a:am<=n):bf C h j S' n:=⟨ZA y.le a,y.aa⟩
def bf.ko{S':R af}{am df:Nat}(y:bf C h j S' am)(a:df<=j):bf C h df S' am:=⟨ZA a y.le,λb ag=>y.aa b (ZN ag a)⟩
def ud{b V n:Nat}{c:R D}{v:D}(a:U C h b=some (.cells c n .own))(ag:C.a6<=b)(bh:V+1<=n)(bv:v.cells=[v])(J:qN v=true):
 gg C h 1 (.ptr b V) v=some (bi C h b (some (.cells (c.set V (some v)) n .own))):=by
 have bD:Nat.ble (V+1) n=true:=by simpa using bh
 have cG:Nat.ble C.a6 b=true:=by simpa using ag
 simp[gg,bv,wU,a,kM,ju,J,bD,cG,dT,fF,Nat.blt]
def DW:List D->List (Nat×Nat×D)->Option (List D)
 |cells,[]=>some cells
 |cells,(off,size,v)::rest=>bV (Nat.beq v.cells.length size&&Nat.ble (off+size) cells.length) (DW (nY cells off v.cells) rest) none
def fv(sQ:List D)(dp:List (Nat×Nat×D)):Option D:=match DW sQ dp with|some cs=>some (.agg cs)|none=>none
def hR(sQ:List D)(b:Nat):Option (D×af):=some (.ptr b 0, .cells (R.ofList sQ 0 .nil) sQ.length .own)
def hC(len:Nat)(sQ:List D)(dp:List (Nat×Nat×D))(b:Nat):Option (D×af):=match DW sQ dp with
 |some cs=>some (.slice b 0 len len, .cells (R.ofList cs 0 .nil) cs.length .own)
 |none=>none
def re(agg:Bool)(off size:Nat)(v:D):Option D:=match v with| .agg cs=>bV agg (some (.agg ((cs.drop off).take size))) (sE cs off)|_=>none
def gC(v:D):Option D:=match v with| .slice _ _ n _=>qH .i64 (Int.ofNat n)| .fc _ _ n _=>qH .i64 (Int.ofNat n)| .aT=>some (.int .i64 0)|_=>none
def np(v:D):Option D:=match v with| .str s=>qH .i64 (Int.ofNat s.length)|_=>none
def ob(y:IntKind)(v:D):Option D:=match (match v with| .int _ n=>k9 y n|_=>none)with|some v=>some v|none=>none
def apR(v:D):Option D:=match (match v with| .str s=>some (D.str s)|_=>none)with|some v=>some v|none=>none
def By(C:aL)(h:R af)(v:D):Option D:=match (match v with| .str s=>some (D.str s)|_=>none)with|some v=>some v|none=>Gv C h v
def Gz(t:Nat)(bu:D)(ok:Bool)(v:D):Option D:=match v with
 | .nilIface=>bV ok (some (.tuple [bu, .bool false])) none
 | .iface hh w=>bV (Nat.beq hh t) (some (bV ok (.tuple [w, .bool true]) w)) (bV ok (some (.tuple [bu, .bool false])) none)
 |_=>none
def mN(C:aL)(h:R af)(j6:Nat)(bu m y:D)(ok:Bool):Option D:=
 match (match m with
  | .mv=>bV (nD C 20 j6 y) (some none) none
  | .map r=>(match U C h r with|some (.map ca _)=>bV (nD C 20 j6 y) (findKey C h j6 y ca 0) none|some (.look ca)=>bV (nD C 20 j6 y) (If (p0 C h j6 y ca)) none|_=>none)
  |_=>none)with
  |none=>none
  |some none=>some (bV ok (.tuple [bu, .bool false]) bu)
  |some (some (_,v))=>some (bV ok (.tuple [v, .bool true]) v)
def jP(C:aL)(h:R af)(j bs:Nat)(s x:D):Option eb:=match lG C h bs x with
 |some (n,k)=>bV (Nat.beq n 0) (Gx C h bs s) (yy C h j bs n k s)
 |none=>none
def sy(C:aL)(h:R af)(j j6:Nat)(m y v:D):Option eb:=match m with
 | .map r=>(match U C h r with
   |some (.map ca fa)=>bV (nD C 20 j6 y) (match findKey C h j6 y ca 0 with
    |some (some (i,_))=>(match sE ca i with
     |some (e2,_,born)=>bV (ox 20 e2 y) (setObj C h j r (.map (ca.set i (y,v,born)) fa) undef) none
     |none=>none)
    |some none=>setObj C h j r (.map (ca++[(y,v,fa)]) (fa+1)) undef
    |none=>none) none
   |_=>none)
 |_=>none
def uY(agg:Bool)(n bs:Nat)(v i:D):Option D:=match nP i with
 |none=>none
 |some i=>match v with
  | .agg cs=>bV (Nat.blt i n) (bV agg (some (.agg ((cs.drop (i*bs)).take bs))) (sE cs (i*bs))) none
  |_=>none
def ov(v i:D):Option D:=match nP i with
 |none=>none
 |some i=>match v with
  | .str s=>(match sE s i with|some c=>some (.int .u8 (Int.ofNat c))|none=>none)
  |_=>none
def nu(v:D)(bG aN:Option D):Option D:=match v with
 | .str s=>(match my s.length s.length bG aN none with
    |some (k,a,_)=>some (.str ((s.drop k).take (a-k)))
    |none=>none)
 |_=>none
def uc(C:aL)(h:R af)(bs:Nat)(x:D)(bG aN ht:Option D):Option D:=match x with
 | .slice b V len cap=>(match my len cap bG aN ht with
   |some (k,a,m)=>some (.slice b (bV (Nat.beq m k) V (V+k*bs)) (a-k) (m-k))
   |_=>none)
 | .aT=>(match my 0 0 bG aN ht with
   |some _=>some .aT
   |_=>none)
 | .fc b V len FL=>(match x3 C h b with
   |some n=>bV (Nat.beq FL bs&&Nat.blt 0 FL) (match my len ((n-V)/FL) bG aN ht with
     |some (k,a,m)=>(match ht with
      |some _=>some (.slice b (bV (Nat.beq m k) V (V+k*FL)) (a-k) (m-k))
      |none=>bV (Nat.blt k ((n-V)/FL)||Nat.beq k 0) (some (.fc b (V+k*FL) (a-k) FL)) none)
     |none=>none) none
   |_=>none)
 |_=>none
def W2(n bs:Nat)(x:D)(bG aN ht:Option D):Option D:=match x with
 | .ptr b V=>(match my n n bG aN ht with
   |some (k,a,m)=>some (.slice b (bV (Nat.beq m k) V (V+k*bs)) (a-k) (m-k))
   |_=>none)
 |_=>none
def WP(C:aL)(h:R af)(j:Nat)(v:D):Option eb:=match v with
 | .str s=>nQ C h j (.pm s 0) λb=> .ptr b 0
 |_=>none
def QP(C:aL)(h:R af)(j:Nat)(v:D):Option eb:=match v with
 | .str k=>uG C h j k.length 1 (k.map λn=>D.int .u8 (Int.ofNat n))
 |_=>none
def oB{α:Type}{F:α}{ah:α->Prop}(a:ah F):ar (some F) ah:=⟨a⟩
def mS{α:Type}{F:α}{ah:α->Prop}(a:ah F):cz (some F) ah:=a
def q6{F:D}{ah:bI}(a:ah (.ptr j 0) (bi C h j (some (.cells (R.ofList F.cells 0 .nil) F.cells.length .own))) (j+1)):hn C h j F ah:=⟨a⟩
def Wg{v:D}{cV:af}{ah:bI}(a:ah v (bi C h j (some cV)) (j+1)):gu C h j v cV ah:=⟨a⟩
def Wh{v:D}{cV:af}{ah:bI}(a:ah v (bi C h j (some cV)) (j+1)):gu C h j (Prod.mk v cV).1 (Prod.mk v cV).2 ah:=⟨a⟩
def Wf{b:Nat}{v:D}{cV:af}{ah:D->R af->Prop}(a:ah v (bi C h b (some cV))):ms C h b (Prod.mk v cV).1 (Prod.mk v cV).2 ah:=⟨a⟩
def Si{b:Nat}{F:D}{ah:D->R af->Prop}(a:ah (.ptr b 0) (bi C h b (some (.cells (R.ofList F.cells 0 .nil) F.cells.length .own)))):yC C h b F ah:=⟨a⟩
def We{b:Nat}{v:D}{cV:af}{ah:D->R af->Prop}(a:ah v (bi C h b (some cV))):ms C h b v cV ah:=⟨a⟩
def gk{dJ:ft}{body:ft->Prop}(a:body dJ):bk dJ body:=⟨a⟩
def VA{dJ:bI}{body:bI->Prop}(a:body dJ):pX dJ body:=⟨a⟩
def Vx{dJ:D->Prop}{body:(D->Prop)->Prop}(a:body dJ):c4 dJ body:=⟨a⟩
def Vy{dJ:D->R af->Prop}{body:(D->R af->Prop)->Prop}(a:body dJ):wc dJ body:=⟨a⟩
def Vz{dJ:Prop}{body:Prop->Prop}(a:body dJ):PV dJ body:=⟨a⟩
def VY{n:Nat}{ah:Nat->Prop}(a:ah n):eW n ah:=⟨a⟩
def WK{v:D}{S':R af}{am:Nat}{ah:bI}(a:ah v S' am):hN (some (.fq v S' am)) h j ah:=⟨a⟩
def WL{v:D}{ah:bI}(a:ah v h j):hN (some (.val v)) h j ah:=⟨a⟩
def w0{F b:Prop}(a:F):aV (.bool true) F b:=⟨⟨λ_=>a,λE=>(by cases E)⟩⟩
def wZ{F b:Prop}(a:b):aV (.bool false) F b:=⟨⟨λE=>(by cases E),λ_=>a⟩⟩
def Hb{F b:Prop}(a:F):iO true (.bool true) F b:=⟨⟨λ_=>a,λE=>(by cases E)⟩⟩
def Ha{F b:Prop}(a:b):iO true (.bool false) F b:=⟨⟨λE=>(by cases E),λ_=>a⟩⟩
def G9{F b:Prop}(a:b):iO false (.bool true) F b:=⟨⟨λE=>(by cases E),λ_=>a⟩⟩
def G8{F b:Prop}(a:F):iO false (.bool false) F b:=⟨⟨λ_=>a,λE=>(by cases E)⟩⟩
def LD{f:Nat}{F cp b:List D}{ah av:bI}(a:aW C f ((F++cp)++b) h j ah av):iS C (.func (.func f) F b) cp h j ah av:=⟨a⟩
def gp{x e:D}{ah:Prop}(a:D.same 30 x e=true)(y:ah):gn x (some e) ah:=⟨⟨a,y⟩⟩
@[congr] def aDy{v hj:D}{F b:Prop}(a:v=hj):aV v F b=aV hj F b:=by rw[a]
@[congr] def aDM{w:Bool}{v hj:D}{F b:Prop}(a:v=hj):iO w v F b=iO w hj F b:=by rw[a]
@[congr] def aDC{f:Nat}{cp abT:List D}{ah av:bI}(a:cp=abT):aW C f cp h j ah av=aW C f abT h j ah av:=by rw[a]
def aW.mono{f:Nat}{cp:List D}{ah av A2 eE:bI}(a:aW C f cp h j ah av)(jq:∀ac S' am,ah ac S' am->A2 ac S' am)(cD:∀ac S' am,av ac S' am->eE ac S' am):aW C f cp h j A2 eE:=by
 rcases a.out with ⟨ac,J,Q⟩|⟨J,Q,ak⟩
 ·exact⟨.inl ⟨ac,J,jq _ _ _ Q⟩⟩
 ·exact⟨.inr ⟨J,Q,ak.mono jq cD⟩⟩
def N7{f d9:Nat}(a:cQ C f d9=true):∃fn c,C.P.funcs[f]? =some fn/\fn.body=some c:=by
 unfold cQ at a
 split at a
 ·rename_i fn cb
  split at a
  ·rename_i c ax;exact⟨fn,c,cb,ax⟩
  ·cases a
 ·cases a
def cR{f:Nat}{cp:List D}{ah av:bI}(ax:cQ C f cp.length=true)(bh:C.hu f cp=none)(a:cY C f cp h j ah av):aW C f cp h j ah av:=
 ⟨.inr ⟨bh,N7 ax,arj ax a⟩⟩
def GK{f:Nat}{cp:List D}{ah av:bI}{ac:D}(bh:C.hu f cp=some ac)(a:ah ac h j):aW C f cp h j ah av:=⟨.inl ⟨ac,bh,a⟩⟩
def x2(H:cU)(d n:Nat)(v:D):(Z H d v).g n=if d=n then some v else H.g n:=by show bV (Nat.beq d n) (some v) (H.g n)=_;rw[h1]
def x1(H:cU)(d:Nat)(v:D):(Z H d v).bd=H.bd:=rfl
def FE(H:cU)(d:Nat)(v:D):(Z H d v).rc=H.rc:=rfl
def DC(k:List D)(n:Nat):(cP k).g n=k[n]? :=by simp[cP]
def Bq(k:List D):(cP k).bd=[]:=rfl
def DD(k:List D):(cP k).rc=false:=rfl
def vy(k:List Nat)(H:cU)(n:Nat):(h2 k H).g n=bV (rB n k) none (H.g n):=rfl
def Ft(H:cU)(d:h0)(n:Nat):(AN H d).g n=H.g n:=rfl
def Fs(H:cU)(d:h0):(AN H d).bd=d::H.bd:=rfl
def E4(H:cU)(d n:Nat):(wn H d).g n=H.g n:=rfl
def AD(H:cU)(d:Nat):(wn H d).bd=⟨.collected d,[]⟩::H.bd:=rfl
def JJ{f:Nat}{cp:List D}{ah av:bI}(ax:cQ C f cp.length=true)(bh:C.hu f cp=none)(a:BI C f cp h j ah av):aW C f cp h j ah av:=
 ⟨.inr ⟨bh,N7 ax,ark ax a⟩⟩
def acc{f:Nat}{cp:List D}{ah av:bI}(bh:C.hu f cp=none)(a:aW C f cp h j ah av):vi C f cp h j ah av:=by
 rcases a.out with ⟨ac,J,Q⟩|⟨J,Q,ak⟩
 ·rw[bh]at J;cases J
 ·exact ak
def Bu{p:Prop}[Decidable p]{F b:Prop}(J:p->F)(Q:¬p->b):aV (.bool (decide p)) F b:=⟨λE=>J (by simpa using E),λE=>Q (by simpa using E)⟩
def il(b V:Nat):cZ C h 2 (.ptr b V)=(aI C h (.ptr b V)).bind λmx=>(aI C h (.ptr b (V+1))).bind λjM=>some (.agg [mx,jM]):=by
 rw[wk]
 simp only[pY,ZJ,Nat.reduceAdd,Ye,ZL]
def wl(b V:Nat):cZ C h 3 (.ptr b V)=(aI C h (.ptr b V)).bind λmx=>(aI C h (.ptr b (V+1))).bind λjM=>(aI C h (.ptr b (V+2))).bind λio=>some (.agg [mx,jM,io]):=by
 rw[wk]
 simp only[pY,ZJ,Nat.reduceAdd,Ye,ZL]
def Cx(b V:Nat):cZ C h 4 (.ptr b V)=(aI C h (.ptr b V)).bind λmx=>(aI C h (.ptr b (V+1))).bind λjM=>(aI C h (.ptr b (V+2))).bind λio=>(aI C h (.ptr b (V+3))).bind λkH=>some (.agg [mx,jM,io,kH]):=by
 rw[wk]
 simp only[pY,ZJ,Nat.reduceAdd,Ye,ZL]
def EZ(b V:Nat):cZ C h 5 (.ptr b V)=(aI C h (.ptr b V)).bind λmx=>(aI C h (.ptr b (V+1))).bind λjM=>(aI C h (.ptr b (V+2))).bind λio=>(aI C h (.ptr b (V+3))).bind λkH=>(aI C h (.ptr b (V+4))).bind λlN=>some (.agg [mx,jM,io,kH,lN]):=by
 rw[wk]
 simp only[pY,ZJ,Nat.reduceAdd,Ye,ZL]
def E0(b V:Nat):cZ C h 6 (.ptr b V)=(aI C h (.ptr b V)).bind λmx=>(aI C h (.ptr b (V+1))).bind λjM=>(aI C h (.ptr b (V+2))).bind λio=>(aI C h (.ptr b (V+3))).bind λkH=>(aI C h (.ptr b (V+4))).bind λlN=>(aI C h (.ptr b (V+5))).bind λuh=>some (.agg [mx,jM,io,kH,lN,uh]):=by
 rw[wk]
 simp only[pY,ZJ,Nat.reduceAdd,Ye,ZL]
def E1(b V:Nat):cZ C h 7 (.ptr b V)=(aI C h (.ptr b V)).bind λmx=>(aI C h (.ptr b (V+1))).bind λjM=>(aI C h (.ptr b (V+2))).bind λio=>(aI C h (.ptr b (V+3))).bind λkH=>(aI C h (.ptr b (V+4))).bind λlN=>(aI C h (.ptr b (V+5))).bind λuh=>(aI C h (.ptr b (V+6))).bind λvd=>some (.agg [mx,jM,io,kH,lN,uh,vd]):=by
 rw[wk]
 simp only[pY,ZJ,Nat.reduceAdd,Ye,ZL]
def tM(b V:Nat):cZ C h 8 (.ptr b V)=(aI C h (.ptr b V)).bind λmx=>(aI C h (.ptr b (V+1))).bind λjM=>(aI C h (.ptr b (V+2))).bind λio=>(aI C h (.ptr b (V+3))).bind λkH=>(aI C h (.ptr b (V+4))).bind λlN=>(aI C h (.ptr b (V+5))).bind λuh=>(aI C h (.ptr b (V+6))).bind λvd=>(aI C h (.ptr b (V+7))).bind λwG=>some (.agg [mx,jM,io,kH,lN,uh,vd,wG]):=by
 rw[wk]
 simp only[pY,ZJ,Nat.reduceAdd,Ye,ZL]
def E2(b V:Nat):cZ C h 9 (.ptr b V)=(aI C h (.ptr b V)).bind λmx=>(aI C h (.ptr b (V+1))).bind λjM=>(aI C h (.ptr b (V+2))).bind λio=>(aI C h (.ptr b (V+3))).bind λkH=>(aI C h (.ptr b (V+4))).bind λlN=>(aI C h (.ptr b (V+5))).bind λuh=>(aI C h (.ptr b (V+6))).bind λvd=>(aI C h (.ptr b (V+7))).bind λwG=>(aI C h (.ptr b (V+8))).bind λA0=>some (.agg [mx,jM,io,kH,lN,uh,vd,wG,A0]):=by
 rw[wk]
 simp only[pY,ZJ,Nat.reduceAdd,Ye,ZL]
def EW(b V:Nat):cZ C h 10 (.ptr b V)=(aI C h (.ptr b V)).bind λmx=>(aI C h (.ptr b (V+1))).bind λjM=>(aI C h (.ptr b (V+2))).bind λio=>(aI C h (.ptr b (V+3))).bind λkH=>(aI C h (.ptr b (V+4))).bind λlN=>(aI C h (.ptr b (V+5))).bind λuh=>(aI C h (.ptr b (V+6))).bind λvd=>(aI C h (.ptr b (V+7))).bind λwG=>(aI C h (.ptr b (V+8))).bind λA0=>(aI C h (.ptr b (V+9))).bind λve=>some (.agg [mx,jM,io,kH,lN,uh,vd,wG,A0,ve]):=by
 rw[wk]
 simp only[pY,ZJ,Nat.reduceAdd,Ye,ZL]
def EX(b V:Nat):cZ C h 11 (.ptr b V)=(aI C h (.ptr b V)).bind λmx=>(aI C h (.ptr b (V+1))).bind λjM=>(aI C h (.ptr b (V+2))).bind λio=>(aI C h (.ptr b (V+3))).bind λkH=>(aI C h (.ptr b (V+4))).bind λlN=>(aI C h (.ptr b (V+5))).bind λuh=>(aI C h (.ptr b (V+6))).bind λvd=>(aI C h (.ptr b (V+7))).bind λwG=>(aI C h (.ptr b (V+8))).bind λA0=>(aI C h (.ptr b (V+9))).bind λve=>(aI C h (.ptr b (V+10))).bind λRd=>some (.agg [mx,jM,io,kH,lN,uh,vd,wG,A0,ve,Rd]):=by
 rw[wk]
 simp only[pY,ZJ,Nat.reduceAdd,Ye,ZL]
def EY(b V:Nat):cZ C h 12 (.ptr b V)=(aI C h (.ptr b V)).bind λmx=>(aI C h (.ptr b (V+1))).bind λjM=>(aI C h (.ptr b (V+2))).bind λio=>(aI C h (.ptr b (V+3))).bind λkH=>(aI C h (.ptr b (V+4))).bind λlN=>(aI C h (.ptr b (V+5))).bind λuh=>(aI C h (.ptr b (V+6))).bind λvd=>(aI C h (.ptr b (V+7))).bind λwG=>(aI C h (.ptr b (V+8))).bind λA0=>(aI C h (.ptr b (V+9))).bind λve=>(aI C h (.ptr b (V+10))).bind λRd=>(aI C h (.ptr b (V+11))).bind λaDf=>some (.agg [mx,jM,io,kH,lN,uh,vd,wG,A0,ve,Rd,aDf]):=by
 rw[wk]
 simp only[pY,ZJ,Nat.reduceAdd,Ye,ZL]
def FR(z0 a0:D):dT (R.ofList [z0] 0 .nil) 0 [a0]=R.ofList [a0] 0 .nil:=by rfl
def FV(z0 f1 a0 a7:D):dT (R.ofList [z0,f1] 0 .nil) 0 [a0,a7]=R.ofList [a0,a7] 0 .nil:=by rfl
def FW(z0 f1 fD a0 a7 b6:D):dT (R.ofList [z0,f1,fD] 0 .nil) 0 [a0,a7,b6]=R.ofList [a0,a7,b6] 0 .nil:=by rfl
def FX(z0 f1 fD z3 a0 a7 b6 a3:D):dT (R.ofList [z0,f1,fD,z3] 0 .nil) 0 [a0,a7,b6,a3]=R.ofList [a0,a7,b6,a3] 0 .nil:=by rfl
def FY(z0 f1 fD z3 z4 a0 a7 b6 a3 a4:D):dT (R.ofList [z0,f1,fD,z3,z4] 0 .nil) 0 [a0,a7,b6,a3,a4]=R.ofList [a0,a7,b6,a3,a4] 0 .nil:=by rfl
def FZ(z0 f1 fD z3 z4 z5 a0 a7 b6 a3 a4 a5:D):dT (R.ofList [z0,f1,fD,z3,z4,z5] 0 .nil) 0 [a0,a7,b6,a3,a4,a5]=R.ofList [a0,a7,b6,a3,a4,a5] 0 .nil:=by rfl
def F0(z0 f1 fD z3 z4 z5 sP a0 a7 b6 a3 a4 a5 hE:D):dT (R.ofList [z0,f1,fD,z3,z4,z5,sP] 0 .nil) 0 [a0,a7,b6,a3,a4,a5,hE]=R.ofList [a0,a7,b6,a3,a4,a5,hE] 0 .nil:=by rfl
def F1(z0 f1 fD z3 z4 z5 sP A1 a0 a7 b6 a3 a4 a5 hE ib:D):dT (R.ofList [z0,f1,fD,z3,z4,z5,sP,A1] 0 .nil) 0 [a0,a7,b6,a3,a4,a5,hE,ib]=R.ofList [a0,a7,b6,a3,a4,a5,hE,ib] 0 .nil:=by rfl
def F2(z0 f1 fD z3 z4 z5 sP A1 qc a0 a7 b6 a3 a4 a5 hE ib iz:D):dT (R.ofList [z0,f1,fD,z3,z4,z5,sP,A1,qc] 0 .nil) 0 [a0,a7,b6,a3,a4,a5,hE,ib,iz]=R.ofList [a0,a7,b6,a3,a4,a5,hE,ib,iz] 0 .nil:=by rfl
def FS(z0 f1 fD z3 z4 z5 sP A1 qc z9 a0 a7 b6 a3 a4 a5 hE ib iz a9:D):dT (R.ofList [z0,f1,fD,z3,z4,z5,sP,A1,qc,z9] 0 .nil) 0 [a0,a7,b6,a3,a4,a5,hE,ib,iz,a9]=R.ofList [a0,a7,b6,a3,a4,a5,hE,ib,iz,a9] 0 .nil:=by rfl
def FT(z0 f1 fD z3 z4 z5 sP A1 qc z9 Xx a0 a7 b6 a3 a4 a5 hE ib iz a9 Jv:D):dT (R.ofList [z0,f1,fD,z3,z4,z5,sP,A1,qc,z9,Xx] 0 .nil) 0 [a0,a7,b6,a3,a4,a5,hE,ib,iz,a9,Jv]=R.ofList [a0,a7,b6,a3,a4,a5,hE,ib,iz,a9,Jv] 0 .nil:=by rfl
def FU(z0 f1 fD z3 z4 z5 sP A1 qc z9 Xx aDm a0 a7 b6 a3 a4 a5 hE ib iz a9 Jv abz:D):dT (R.ofList [z0,f1,fD,z3,z4,z5,sP,A1,qc,z9,Xx,aDm] 0 .nil) 0 [a0,a7,b6,a3,a4,a5,hE,ib,iz,a9,Jv,abz]=R.ofList [a0,a7,b6,a3,a4,a5,hE,ib,iz,a9,Jv,abz] 0 .nil:=by rfl
def yd(c:R D)(V:Nat)(v:D):(dT c V [v]).get V=some v:=by rw[ix];simp
def FQ{c:R D}{V i:Nat}{v:D}(a:i≠V):(dT c V [v]).get i=c.get i:=by rw[ix,Zh Zx]
def iJ{b V y n:Nat}{c:R D}{v:D}(a:U C h b=some (.cells c n .own))(ag:C.a6<=b)(aH:v.cells.length=y)(aY:0<y)(bh:V+y<=n)(J:ju v.cells=true):
 gg C h y (.ptr b V) v=some (bi C h b (some (.cells (dT c V v.cells) n .own))):=by
 subst aH
 have cG:Nat.blt 0 v.cells.length=true:=by simp[Nat.blt];omega
 have fV:Nat.beq v.cells.length v.cells.length=true:=by simp
 have bD:Nat.ble (V+v.cells.length) n=true:=by simpa using bh
 have ke:Nat.ble C.a6 b=true:=by simpa using ag
 simp only[gg,wU,a,kM,ke,bD,cG,fV,J,Yo,ff,hv]
def sz(y:IntKind)(n:Nat):nP (.int y (n:Int))=some n:=rfl
def ayB(y:IntKind):nP (.int y 0)=some 0:=rfl
def EK(y:IntKind)(x e:Int):bl .lss (.int y x) (.int y e)=some (.bool (decide (x<e))):=by
 cases y<;>simp[bl,l0,mr,lQ,w1,uX]<;>(rw[Ya];simp)
def EI(y:IntKind)(x e:Int):bl .gtr (.int y x) (.int y e)=some (.bool (decide (e<x))):=by
 cases y<;>simp[bl,l0,mr,lQ,w1,uX]<;>(rw[Ya];simp)
def EJ(y:IntKind)(x e:Int):bl .leq (.int y x) (.int y e)=some (.bool (decide (x<=e))):=by
 cases y<;>simp[bl,l0,mr,lQ,w1,uX]<;>(rw[Ya];simp)
def EH(y:IntKind)(x e:Int):bl .geq (.int y x) (.int y e)=some (.bool (decide (e<=x))):=by
 cases y<;>simp[bl,l0,mr,lQ,w1,uX]<;>(rw[Ya];simp)
def EG(y:IntKind)(x e:Int):bl .eql (.int y x) (.int y e)=some (.bool (decide (x=e))):=by
 cases y<;>simp[bl,l0,mr,lQ,w1,H2]
def EL(y:IntKind)(x e:Int):bl .neq (.int y x) (.int y e)=some (.bool (decide (x≠e))):=by
 cases y<;>simp[bl,l0,mr,lQ,w1,H2]
def wrap64{n:Int}(J: -9223372036854775808<=n)(Q:n<9223372036854775808):oJ .i64 n=n:=by
 simp only[oJ,fF,Zg]
 split<;>omega
def eH{x e:Int}(J: -9223372036854775808<=x+e)(Q:x+e<9223372036854775808):bl .add (.int .i64 x) (.int .i64 e)=some (.int .i64 (x+e)):=by
 simp[bl,l0,mr,lQ,k9,wrap64 J Q]
def uV{x e:Int}(J: -9223372036854775808<=x-e)(Q:x-e<9223372036854775808):bl .sub (.int .i64 x) (.int .i64 e)=some (.int .i64 (x-e)):=by
 simp[bl,l0,mr,lQ,k9,wrap64 J Q]
def agd(x e:Int):bl .add (.int .u64 x) (.int .u64 e)=some (.int .u64 ((x+e)%18446744073709551616)):=by
 simp[bl,l0,mr,lQ,k9,oJ]
def H5{bs b V len cap i:Nat}(y:IntKind)(a:i<len):gt bs (.slice b V len cap) (.int y (i:Int))=some (.ptr b (V+i*bs)):=by
 simp[gt,sz,C8,fF,Nat.blt,a];omega
def H6{bs b V len cap i:Nat}(y:IntKind)(a:i<len):gt bs (.fc b V len cap) (.int y (i:Int))=some (.ptr b (V+i*bs)):=by
 simp[gt,sz,C8,fF,Nat.blt,a];omega
def F5(d b V:Nat):hk d (.ptr b V)=some (.ptr b (V+d)):=rfl
def F3(i:Nat)(k:List D):n3 i (.tuple k)=k[i]? :=by simp[n3]
def F4(b V:Nat):sO (.ptr b V)=some (.ptr b V):=rfl
def Fh(b:Bool):gi .not (.bool b)=some (.bool (!b)):=by simp[gi,w1]
def yn(c:R D)(k:List D):Prop:=∀i,c.get i=k[i]?
def nk(k:List D):yn (R.ofList k 0 .nil) k:=λi=>mR k i
def yn.app{c:R D}{k:List D}(a:yn c k)(m:List D):yn (dT c k.length m) (k++m):=by
 intro i
 rw[ix]
 by_cases J:k.length<=i/\i<k.length+m.length
 ·rw[Zp J,ZT J.1]
 ·rw[Zh J,a i]
  by_cases Q:i<k.length
  ·rw[ZW Q]
  ·rw[Z2 Zo,Z2 Zx]
end
end
noncomputable section
section
variable{C:aL}{h:R af}{j:Nat}
def lr{F b:Nat}(a:F<=b):Nat.ble F b=true:=by simpa using a
def k1(C:aL)(h:R af)(s:D)(bs:Nat)(k:List D)(cw:List Nat):Prop:=
 (s= .aT/\k=[]/\cw=[])\/∃b fz n c,s= .fc b 0 n bs/\k.length=n*bs/\cw=b::fz/\(∀x∈cw,C.a6<=x)/\b∉fz/\U C h b=some (.cells c (n*bs) (.grow fz))/\yn c k
def k1.aa{S':R af}{s:D}{bs:Nat}{k:List D}{cw:List Nat}(a:k1 C h s bs k cw)(aH:∀e∈cw,U C S' e=U C h e):k1 C S' s bs k cw:=by
 rcases a with a|⟨b,fz,n,c,J,Q,ak,ay,bt,b4,dh⟩
 ·exact .inl a
 ·exact .inr ⟨b,fz,n,c,J,Q,ak,ay,bt,by rw[aH b (by rw[ak];exact Zv ..)];exact b4,dh⟩
def sJ{bs y b n:Nat}{k:List D}{c:R D}{st:oP}(a:U C h b=some (.cells c n st))(ax:yn c k)(az:k.length=y*bs)(cap:Nat):lG C h bs (.slice b 0 y cap)=some (y,k):=by
 have bP:∀(m V:Nat),V+m<=k.length->c.k3 V m=some ((k.drop V).take m):=by
  intro m
  induction m with
  |zero=>intro V _;simp[R.k3]
  |succ m ai=>
   intro V bh
   have J:c.get V=some k[V]:=by rw[ax V,Ze Zo]
   simp only[R.k3,J,ai (V+1) Zo]
   rw[Zr (by omega:V<k.length),Yi]
 simp only[lG,nG,cellsOf,a]
 rw[bP (y*bs) 0 Zo]
 simp[<-az]
def fp{b:ft->ft}{H:cU}{h:R af}{j:Nat}(s1:Nat->ft)(m:Nat)(aY:s1 m H h j)(a:∀m H h j,s1 m H h j->b (λH h j=>∃gH,gH<m/\s1 gH H h j) H h j):fg b H h j:=⟨⟨s1,⟨m,aY⟩,a⟩⟩
def adA{c:R D}{k:List D}(ax:yn c k):∀(m V:Nat),V+m<=k.length->c.k3 V m=some ((k.drop V).take m):=by
 intro m
 induction m with
 |zero=>intro V _;simp[R.k3]
 |succ m ai=>
  intro V bh
  have J:c.get V=some k[V]:=by rw[ax V,Ze Zo]
  simp only[R.k3,J,ai (V+1) Zo]
  rw[Zr (by omega:V<k.length),Yi]
def uA{bs:Nat}:∀{bL:List (List D)},(∀r∈bL,r.length=bs)->bL.flatten.length=bL.length*bs:=by
 intro bL
 induction bL with
 |nil=>intro _;simp
 |cons F k ai=>
  intro a
  rw[Yk,ZK,a F (Zv ..),ai (λr Y=>a r (Zu _ Y)),ZF,Z7]
  omega
abbrev zu(l:List D)(n:Nat):Option af:=some (.cells (R.ofList l 0 .nil) n .own)
def zv(i:Nat)(h:i<1000000000:=by omega):bl .add (.Z (i:Int)) (.Z 1)=some (.Z ((i+1:Nat):Int)):=by rw[eH (by omega) (by omega)];rfl
def zw{p:Prop}(h:p:=by simp(disch:=omega) only[aC]):p:=h
def zB{C:aL}{S T:R af}{b o:Nat}{v:Option D}(h:U C T b=U C S b)(k:aI C S (.ptr b o)=v):aI C T (.ptr b o)=v:=by rw[cl,h,<-cl];exact k
abbrev zy(T:cU)(a:Nat)(x:D)(b:Nat)(y:D):cU:=Z (Z T a x) b y
abbrev zz(T:cU)(a:Nat)(x:D)(b:Nat)(y:D)(c:Nat)(z:D):cU:=Z (zy T a x b y) c z
abbrev zA(T:cU)(a:Nat)(x:D)(b:Nat)(y:D)(c:Nat)(z:D)(d:Nat)(u:D):cU:=zy (zy T a x b y) c z d u
end
end
end Go.ba

namespace Go.aQ
abbrev aX:=List Nat
structure er where
 b:Bool
 s:Bool
 w:Int
 deriving DecidableEq
structure Tok where
 kind:Int
 text:aX
 at_:Int
 n:Int
 ty:er
inductive bB where
 |mk (kind at_:Int) (name:aX) (no:Bool) (ty:er) (n:Int) (args:List bB)
structure ey where
 name:aX
 at_:Int
 ty:er
 on:aX
 eP:Int
 no:Bool
structure f8 where
 left:List aX
 dg:List Int
 at_:Int
 right:bB
structure Node where
 name:aX
 at_:Int
 d3:List ey
 out:List ey
 loc:List ey
 eqs:List f8
def dQ:er:=⟨false,false,0⟩
def bB.kind:bB->Int| .mk y _ _ _ _ _ _=>y
def bB.args:bB->List bB| .mk _ _ _ _ _ _ k=>k
abbrev fS(α:Type):=Option (Except Int (α×List Tok))
def ok{α:Type}(F:α)(k:List Tok):fS α:=some (.ok (F,k))
def bad{α:Type}(at_:Int):fS α:=some (.error at_)
def andThen{α eJ:Type}(x:fS α)(f:α->List Tok->fS eJ):fS eJ:=match x with
 |none=>none
 |some (.error F)=>some (.error F)
 |some (.ok (F,k))=>f F k
def g3(x:Tok)(s:aX):Bool:=(x.kind=2||x.kind=6)&&x.text=s
def lj(s:aX):List Tok->Option (Option Tok×List Tok)
 |[]=>none
 |x::k=>if g3 x s then some (some x,k)else some (none,x::k)
def h9{eJ:Type}(s:aX)(k:List Tok)(f:Option Tok->List Tok->fS eJ):fS eJ:=match lj s k with
 |none=>none
 |some (x,k)=>f x k
def ee(s:aX):List Tok->fS Tok
 |[]=>none
 |x::k=>if g3 x s then ok x k else bad x.at_
def iI(y:Int):List Tok->fS Tok
 |[]=>none
 |x::k=>if x.kind=y then ok x k else bad x.at_
def aq:Nat->List (aX×Int)
 |0=>[([111,114],7),([120,111,114],8)]
 |1=>[([97,110,100],9)]
 |2=>[([61],10),([60,62],11),([60,61],13),([62,61],15),([60],12),([62],14)]
 |3=>[([43],16),([45],17)]
 |4=>[([42],18)]
 |_=>[]
def nE:List (aX×Int)->List Tok->Option (Option bB×List Tok)
 |[],k=>some (none,k)
 |(s,y)::os,k=>match lj s k with
  |none=>none
  |some (some x,k)=>some (some (.mk y x.at_ [] false dQ 0 []),k)
  |some (none,k)=>nE os k
def bB.at_:bB->Int| .mk _ F _ _ _ _ _=>F
def tO(E:bB):Option Bool:=if E.kind=1 then some true else if E.kind=4 then(match E.args with|[]=>none|F::_=>some (decide (F.kind=1)))else some false
def bB.name:bB->aX| .mk _ _ s _ _ _ _=>s
def bB.no:bB->Bool| .mk _ _ _ b _ _ _=>b
def bB.ty:bB->er| .mk _ _ _ _ t _ _=>t
def bB.n:bB->Int| .mk _ _ _ _ _ n _=>n
def two(E:bB)(F b:bB):bB:= .mk E.kind E.at_ [] false dQ 0 [F,b]
def AM:List (aX×Int):=[([110,111,116],3),([45],4),([112,114,101],5)]
mutual
def level:Nat->Nat->List Tok->fS bB
 |0,_,_=>none
 |n+1,y,k=>if y=5 then shift n k else andThen (level n (y+1) k) λleft k=>nM n y left k
def nM:Nat->Nat->bB->List Tok->fS bB
 |0,_,_,_=>none
 |n+1,y,left,k=>match nE (aq y) k with
  |none=>none
  |some (none,k)=>ok left k
  |some (some E,k)=>andThen (level n (y+1) k) λr k=>if y=2 then ok (two E left r) k else nM n y (two E left r) k
def shift:Nat->List Tok->fS bB
 |0,_=>none
 |n+1,k=>andThen (tV n k) λleft k=>nZ n left k
def nZ:Nat->bB->List Tok->fS bB
 |0,_,_=>none
 |n+1,left,k=>h9 [60,60] k λx k=>match x with
  |some x=>n0 n 19 x left k
  |none=>h9 [62,62] k λx k=>match x with
   |some x=>n0 n 20 x left k
   |none=>ok left k
def n0:Nat->Int->Tok->bB->List Tok->fS bB
 |0,_,_,_,_=>none
 |n+1,y,x,left,k=>andThen (iI 4 k) λm k=>if 63<m.n then bad m.at_ else nZ n (.mk y x.at_ [] false dQ m.n [left]) k
def tV:Nat->List Tok->fS bB
 |0,_=>none
 |n+1,k=>match nE AM k with
  |none=>none
  |some (some E,k)=>andThen (tV n k) λF k=>ok (.mk E.kind E.at_ [] false dQ 0 [F]) k
  |some (none,k)=>andThen (part n k) λleft k=>mw n left k
def mw:Nat->bB->List Tok->fS bB
 |0,_,_=>none
 |n+1,left,k=>h9 [119,104,101,110] k λx k=>match x with
  |none=>ok left k
  |some x=>h9 [110,111,116] k λno k=>andThen (iI 1 k) λc k=>mw n (.mk 6 x.at_ c.text no.isSome dQ 0 [left]) k
def part:Nat->List Tok->fS bB
 |0,_=>none
 |_+1,[]=>none
 |n+1,x::k=>
  if x.kind=5 then ok (.mk 1 x.at_ [] false x.ty x.n []) k
  else if x.kind=2&&(x.text=[116,114,117,101]||x.text=[102,97,108,115,101])then ok (.mk 1 x.at_ [] false ⟨true,false,1⟩ (if x.text=[116,114,117,101]then 1 else 0) []) k
  else if x.kind=1 then h9 [40] k λe k=>match e with
   |none=>ok (.mk 2 x.at_ x.text false dQ 0 []) k
   |some _=>andThen (list n k) λcp k=>ok (.mk 25 x.at_ x.text false dQ 0 cp) k
  else if x.kind=3 then andThen (ee [40] k) λ_ k=>andThen (arrow n k) λE k=>andThen (ee [41] k) λ_ k=>ok (.mk 26 x.at_ [] false x.ty 0 [E]) k
  else if x.kind=6&&x.text=[40]then andThen (arrow n k) λE k=>andThen (ee [41] k) λ_ k=>ok E k
  else if x.kind=2&&x.text=[105,102]then andThen (arrow n k) λc k=>andThen (ee [116,104,101,110] k) λ_ k=>andThen (arrow n k) λF k=>andThen (ee [101,108,115,101] k) λ_ k=>andThen (arrow n k) λb k=>ok (.mk 23 x.at_ [] false dQ 0 [c,F,b]) k
  else if x.kind=2&&x.text=[109,101,114,103,101]then andThen (iI 1 k) λc k=>andThen (part n k) λF k=>andThen (part n k) λb k=>ok (.mk 24 x.at_ c.text false dQ 0 [F,b]) k
  else bad x.at_
def list:Nat->List Tok->fS (List bB)
 |0,_=>none
 |n+1,k=>h9 [41] k λe k=>match e with
  |some _=>ok [] k
  |none=>andThen (arrow n k) λE k=>nN n [E] k
def nN:Nat->List bB->List Tok->fS (List bB)
 |0,_,_=>none
 |n+1,cp,k=>h9 [44] k λe k=>match e with
  |none=>andThen (ee [41] k) λ_ k=>ok cp k
  |some _=>andThen (arrow n k) λE k=>nN n (cp++[E]) k
def k2:Nat->List Tok->fS bB
 |0,_=>none
 |n+1,k=>andThen (level n 0 k) λleft k=>h9 [102,98,121] k λx k=>match x with
  |none=>ok left k
  |some x=>match tO left with
   |none=>none
   |some true=>andThen (k2 n k) λr k=>ok (.mk 21 x.at_ [] false dQ 0 [left,r]) k
   |some false=>bad x.at_
def arrow:Nat->List Tok->fS bB
 |0,_=>none
 |n+1,k=>andThen (k2 n k) λleft k=>h9 [45,62] k λx k=>match x with
  |none=>ok left k
  |some x=>andThen (arrow n k) λr k=>ok (.mk 22 x.at_ [] false dQ 0 [left,r]) k
end
def fh:Nat->List Tok->List Tok->fS (List Tok)
 |0,_,_=>none
 |n+1,cp,k=>andThen (iI 1 k) λx k=>h9 [44] k λe k=>match e with
  |none=>ok (cp++[x]) k
  |some _=>fh n (cp++[x]) k
def qo(ty:er)(on:aX)(eP:Int)(no:Bool)(x:Tok):ey:=⟨x.text,x.at_,ty,on,eP,no⟩
def AW:Nat->List Tok->Option aX
 |_,[]=>none
 |0,x::_=>some x.text
 |i+1,_::k=>AW i k
def lv(loc:Bool)(y:List ey->List Tok->fS (List ey))(ds:List ey)(k:List Tok):fS (List ey):=match AW 0 k with
 |none=>none
 |some s=>if s=[59]then(if loc then(match AW 1 k with
   |none=>none
   |some s=>if s=[108,101,116]then ok ds k else y ds (k.drop 1))else y ds (k.drop 1))
  else ok ds k
def w5(w:Option Tok)(k:List Tok):fS (aX×Int×Bool):=match w with
 |none=>ok ([],0,false) k
 |some _=>h9 [110,111,116] k λno k=>andThen (iI 1 k) λon k=>ok (on.text,on.at_,no.isSome) k
def BA(loc:Bool)(y:List ey->List Tok->fS (List ey))(ds:List ey)(ci:List Tok)(k:List Tok):fS (List ey):=
 andThen (ee [58] k) λ_ k=>andThen (iI 3 k) λt k=>h9 [119,104,101,110] k λw k=>
 andThen (w5 w k) λr k=>lv loc y (ds++ci.map (qo t.ty r.1 r.2.1 r.2.2)) k
def ic:Nat->Bool->List ey->List Tok->fS (List ey)
 |0,_,_,_=>none
 |n+1,loc,ds,k=>andThen (fh n [] k) λci k=>BA loc (ic n loc) ds ci k
def tf(n:Nat)(k:List Tok):fS f8:=h9 [40] k λe k=>
 andThen (match e with
  |some _=>andThen (iI 1 k) λx k=>andThen (ee [44] k) λ_ k=>andThen (fh n [x] k) λci k=>andThen (ee [41] k) λ_ k=>ok ci k
  |none=>andThen (iI 1 k) λx k=>ok [x] k) λci k=>
 andThen (ee [61] k) λE k=>andThen (arrow n k) λr k=>andThen (ee [59] k) λ_ k=>ok ⟨ci.map Tok.text,ci.map Tok.at_,E.at_,r⟩ k
def kv:Nat->List f8->List Tok->fS (List f8)
 |0,_,_=>none
 |n+1,cT,k=>h9 [116,101,108] k λe k=>match e with
  |some _=>ok cT k
  |none=>andThen (tf n k) λaj k=>kv n (cT++[aj]) k
def node(n:Nat)(k:List Tok):fS Node:=
 andThen (ee [110,111,100,101] k) λ_ k=>andThen (iI 1 k) λx k=>andThen (ee [40] k) λ_ k=>h9 [41] k λe k=>
 andThen (match e with
  |some _=>ok [] k
  |none=>andThen (ic n false [] k) λds k=>andThen (ee [41] k) λ_ k=>ok ds k) λd3 k=>
 andThen (ee [114,101,116,117,114,110,115] k) λ_ k=>andThen (ee [40] k) λ_ k=>andThen (ic n false [] k) λout k=>andThen (ee [41] k) λ_ k=>
 h9 [118,97,114] k λe k=>andThen (match e with
  |some _=>andThen (ic n true [] k) λds k=>andThen (ee [59] k) λ_ k=>ok ds k
  |none=>ok [] k) λloc k=>
 andThen (ee [108,101,116] k) λ_ k=>andThen (kv n [] k) λcT k=>ok ⟨x.text,x.at_,d3,out,loc,cT⟩ k
def nR:Nat->List Node->List Tok->fS (List Node)
 |0,_,_=>none
 |n+1,an,k=>andThen (node n k) λg k=>match k with
  |[]=>none
  |x::_=>if x.kind=7 then ok (an++[g]) k else nR n (an++[g]) k
end Go.aQ

