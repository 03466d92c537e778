/- Part of the proof of the last text; no conditions -/
import Derived.Test.YtpeabpmnlmaabaaGreatDoorYe
set_option maxHeartbeats 8000000
set_option linter.all false
namespace Go.bd
noncomputable section
open Go.RowKit (Below)
def hi(I:cV)(t:Q D):Prop:=∀n v,I.g n=some v->t.get n=some v
section
variable{C:aK}{h:Q af}{j:Nat}{aq:List (Nat×D)}{I:cV}{t:Q D}
def o4(a:hi I t){x:kT}{ah:D->Prop}(aw:j3 x aq I ah):∃H,lF x aq t=some H/\ah H:=by
 cases x with
 |v S=>exact ui.1 aw
 |t n=>
  obtain⟨H,M,R⟩:=ui.1 (show cw (I n) ah from aw)
  exact⟨H,a n H M,R⟩
 |c H=>exact⟨H,rfl,aw⟩
def ar3(a:hi I t):∀{l:List kT}{ah:List D->Prop},Oo aq I l ah->∃cu,B2 aq t l=some cu/\ah cu:=by
 intro l
 induction l with
 |nil=>intro ah aw;exact⟨[],rfl,aw⟩
 |cons x l ai=>
  intro ah aw
  obtain⟨H,M,R⟩:=o4 a (show j3 x aq I (λH=>Oo aq I l λr=>ah (H::r)) from aw)
  obtain⟨r,ak,aA⟩:=ai R
  exact⟨H::r,by simp[B2,M,ak],aA⟩
def hM(a:hi I t){b8:List (Nat×Nat)}{W:Operand}{ah:D->Prop}(aw:eW b8 aq I W ah):∃H,jE b8 aq t W=some H/\ah H:=by
 cases W with
 |tmp n=>
  simp only[eW]at aw
  simp only[jE]
  cases bE:ev b8 n with
  |some S=>simp only[bE]at aw ⊢;exact ui.1 aw
  |none=>
   simp only[bE]at aw ⊢
   obtain⟨H,M,R⟩:=ui.1 aw
   exact⟨H,a n H M,R⟩
 |const v=>exact ui.1 aw
 |global g=>exact⟨_,rfl,aw⟩
 |func f=>exact⟨_,rfl,aw⟩
def F8(a:hi I t){b8:List (Nat×Nat)}:∀{l:List Operand}{ah:List D->Prop},uh b8 aq I l ah->∃cu,qz (jE b8 aq t) l=some cu/\ah cu:=by
 intro l
 induction l with
 |nil=>intro ah aw;exact⟨[],rfl,aw⟩
 |cons x l ai=>
  intro ah aw
  obtain⟨H,M,R⟩:=hM a (show eW b8 aq I x (λH=>uh b8 aq I l λr=>ah (H::r)) from aw)
  obtain⟨r,ak,aA⟩:=ai R
  exact⟨H::r,by simp[qz,M,ak],aA⟩
def W5(a:hi I t){b8:List (Nat×Nat)}:∀{l:List (Nat×Operand)}{ah:List (Nat×D)->Prop},Do b8 aq I l ah->∃cu,Ag (jE b8 aq t) l=some cu/\ah cu:=by
 intro l
 induction l with
 |nil=>intro ah aw;exact⟨[],rfl,aw⟩
 |cons x l ai=>
  intro ah aw
  obtain⟨i,W⟩:=x
  obtain⟨H,M,R⟩:=hM a (show eW b8 aq I W (λH=>Do b8 aq I l λr=>ah ((i,H)::r)) from aw)
  obtain⟨r,ak,aA⟩:=ai R
  exact⟨(i,H)::r,by simp[Ag,M,ak],aA⟩
def W1(a:hi I t){b8:List (Nat×Nat)}{W:Option Operand}{ah:Option D->Prop}(aw:QM b8 aq I W ah):∃H,Dl (jE b8 aq t) W=some H/\ah H:=by
 cases W with
 |none=>exact⟨none,rfl,aw⟩
 |some x=>
  obtain⟨H,M,R⟩:=hM a (show eW b8 aq I x (λH=>ah (some H)) from aw)
  exact⟨some H,by simp[Dl,M],R⟩
def ayT(a:hi I t){b8:List (Nat×Nat)}{W:Op}{ah:D->Prop}(aw:ahR b8 W C h aq I ah):∃v,oX W C h (jE b8 aq t)=some v/\ah v:=by
 cases W with
 |build ty kv=>
  obtain⟨dq,M,R⟩:=W5 a (show Do b8 aq I kv.toList _ from aw)
  obtain⟨v,ak,aA⟩:=(lp.1 R)
  exact⟨v,by simp[oX,Wl,M,ak],aA⟩
 |binOp op ty x e JI=>
  obtain⟨H,M,R⟩:=hM a (show eW b8 aq I x _ from aw)
  obtain⟨b,ak,aA⟩:=hM a R
  obtain⟨v,bv,b9⟩:=(lp.1 aA)
  exact⟨v,by simp[oX,Qm,M,ak,bv],b9⟩
 |unOp op ty x=>
  obtain⟨H,M,R⟩:=hM a (show eW b8 aq I x _ from aw)
  obtain⟨v,ak,aA⟩:=(lp.1 R)
  exact⟨v,by simp[oX,Wt,M,ak],aA⟩
 |convert s d x=>
  obtain⟨H,M,R⟩:=hM a (show eW b8 aq I x _ from aw)
  obtain⟨v,ak,aA⟩:=(lp.1 R)
  exact⟨v,by simpa[oX,Mk,ac8,k5,M]using ak,aA⟩
 |makeInterface ty x=>
  obtain⟨H,M,R⟩:=hM a (show eW b8 aq I x _ from aw)
  obtain⟨v,ak,aA⟩:=(lp.1 R)
  exact⟨v,by simpa[oX,Mm,ahc,k5,M]using ak,aA⟩
 |makeFunc fn first fY=>
  cases fn with
  |func f=>
   obtain⟨H,M,R⟩:=F8 a (show uh b8 aq I first.toList _ from aw)
   obtain⟨b,ak,aA⟩:=F8 a R
   exact⟨_,by simp[oX,Wp,M,ak],aA⟩
  |_=>exact aw.elim
 |slice ty x bL aG hA=>
  obtain⟨H,M,R⟩:=hM a (show eW b8 aq I x _ from aw)
  obtain⟨l,ak,aA⟩:=W1 a R
  obtain⟨b,bv,b9⟩:=W1 a aA
  obtain⟨m,dl,eI⟩:=W1 a b9
  obtain⟨v,hT,kX⟩:=(lp.1 eI)
  exact⟨v,by simp[oX,Ws,M,ak,bv,dl,hT],kX⟩
 |field ty x f=>
  obtain⟨H,M,R⟩:=hM a (show eW b8 aq I x _ from aw)
  obtain⟨v,ak,aA⟩:=(lp.1 R)
  exact⟨v,by simpa[oX,Ml,adP,k5,M]using ak,aA⟩
 |index ty x i=>
  obtain⟨H,M,R⟩:=hM a (show eW b8 aq I x _ from aw)
  obtain⟨b,ak,aA⟩:=hM a R
  obtain⟨v,bv,b9⟩:=(lp.1 aA)
  exact⟨v,by simp[oX,Wq,M,ak,bv],b9⟩
 |lookup ty m z ok=>
  obtain⟨H,M,R⟩:=hM a (show eW b8 aq I m _ from aw)
  obtain⟨b,ak,aA⟩:=hM a R
  obtain⟨v,bv,b9⟩:=(lp.1 aA)
  exact⟨v,by simp[oX,Wr,M,ak,bv],b9⟩
 |typeAssert x ty vH ok=>
  obtain⟨H,M,R⟩:=hM a (show eW b8 aq I x _ from aw)
  obtain⟨v,ak,aA⟩:=(lp.1 R)
  exact⟨v,by simpa[oX,Mj,acy,k5,M]using ak,aA⟩
 |entry eP=>
  obtain⟨H,M,R⟩:=hM a (show eW b8 aq I eP _ from aw)
  obtain⟨v,ak,aA⟩:=(lp.1 R)
  exact⟨v,by simpa[oX,Wo,adx,k5,M]using ak,aA⟩
 |call c=>
  obtain⟨callee,args,di⟩:=c
  cases callee with
  |builtin b=>
   obtain⟨br,M,R⟩:=F8 a (show uh b8 aq I args.toList _ from aw)
   obtain⟨v,ak,aA⟩:=(lp.1 R)
   refine⟨v, ?_,aA⟩
   have E:oX (.call ⟨.builtin b,args,di⟩) C h (jE b8 aq t)=ts C h b di.toList br:=by
    simp only[oX,Wn,Wm,M,ts]
    repeat' split
    all_goals first|rfl|simp_all
   rw[E];exact ak
  |_=>exact aw.elim
 |_=>exact aw.elim
def Qo(a:hi I t){op:ke}{ah:D->Prop}(aw:IV op C h aq I ah):∃v,hc op C h aq t=some v/\ah v:=by
 cases op with
 |FS x=>exact o4 a aw
 |pick c H b=>
  obtain⟨vP,M,R⟩:=o4 a (show j3 c aq I _ from aw)
  obtain⟨Rl,rfl,ak,aA⟩:=acN R.out
  cases Rl with
  |true=>
   obtain⟨v,bv,b9⟩:=o4 a (ak rfl)
   exact⟨v,by simp[hc,M,RC,bv],b9⟩
  |false=>
   obtain⟨v,bv,b9⟩:=o4 a (aA rfl)
   exact⟨v,by simp[hc,M,RC,bv],b9⟩
 |eV H=>
  obtain⟨fL,M,R⟩:=o4 a (show j3 H aq I _ from aw)
  obtain⟨v,ak,aA⟩:=(lp.1 R)
  exact⟨v,by simp[hc,M,ak],aA⟩
 |CY n H=>
  obtain⟨fL,M,R⟩:=o4 a (show j3 H aq I _ from aw)
  obtain⟨v,ak,aA⟩:=(lp.1 R)
  exact⟨v,by simp[hc,M,ak],aA⟩
 |off d x=>
  obtain⟨fL,M,R⟩:=o4 a (show j3 x aq I _ from aw)
  obtain⟨v,ak,aA⟩:=(lp.1 R)
  exact⟨v,by simp[hc,M,ak],aA⟩
 |CP n bt x i=>
  obtain⟨fL,M,R⟩:=o4 a (show j3 x aq I _ from aw)
  obtain⟨cD,ak,aA⟩:=o4 a R
  obtain⟨v,bv,b9⟩:=(lp.1 aA)
  exact⟨v,by simp only[hc,M,ak];unfold IL at bv;cases aG:nV cD<;>simp_all,b9⟩
 |CQ bt x i=>
  obtain⟨fL,M,R⟩:=o4 a (show j3 x aq I _ from aw)
  obtain⟨cD,ak,aA⟩:=o4 a R
  obtain⟨v,bv,b9⟩:=(lp.1 aA)
  exact⟨v,by simp only[hc,M,ak];unfold gy at bv;cases aG:nV cD<;>simp_all,b9⟩
 |FX x=>
  obtain⟨fL,M,R⟩:=o4 a (show j3 x aq I _ from aw)
  obtain⟨v,ak,aA⟩:=(lp.1 R)
  exact⟨v,by simp[hc,M,ak],aA⟩
 |L4 op x e=>
  obtain⟨fL,M,R⟩:=o4 a (show j3 x aq I _ from aw)
  obtain⟨cD,ak,aA⟩:=o4 a R
  obtain⟨v,bv,b9⟩:=(lp.1 aA)
  exact⟨v,by simp[hc,M,ak,bv],b9⟩
 |ext i x=>
  obtain⟨fL,M,R⟩:=o4 a (show j3 x aq I _ from aw)
  obtain⟨v,ak,aA⟩:=(lp.1 R)
  exact⟨v,by simp[hc,M,ak],aA⟩
 |ix b8 W=>exact ayT a aw
 |_=>exact aw.elim
def azj(a:hi I t){op:ke}{b:Nat}{ah:bJ}(aw:ah4 op C h b aq I ah):∃v cU,o5 op C b aq t=some (v,cU)/\ah v (bj C h b (some cU)) (b+1):=by
 cases op with
 |make b8 W=>
  cases W with
  |alloc ty=>
   obtain⟨⟨v,cU⟩,M,R⟩:=lp.1 (show ap (FO C ty (k5 undef) b) _ from aw)
   exact⟨v,cU,M,R.out⟩
  |box ty x=>
   obtain⟨H,M,R⟩:=hM a (show eW b8 aq I x _ from aw)
   exact⟨_,_,by simp only[o5,q9,Ms,M],R.out⟩
  |buildSlice ty len kv=>
   obtain⟨dq,M,R⟩:=W5 a (show Do b8 aq I kv.toList _ from aw)
   obtain⟨⟨v,cU⟩,ak,aA⟩:=(lp.1 R)
   refine⟨v,cU, ?_,aA.out⟩
   simp only[o5,q9,Mt,M]
   unfold Rd at ak
   split at ak
   ·rename_i bg
    simp only[bg]
    exact ak
   ·cases ak
  |makeMap ty r=>
   cases r with
   |none=>exact⟨_,_,rfl,(show gO C h b _ _ ah from aw).out⟩
   |some r=>exact aw.elim
  |_=>exact aw.elim
 |_=>exact aw.elim
def azh(a:hi I t){op:ke}{b:Nat}{ah:D->Q af->Prop}(aw:WL op C h b aq I ah):∃v cU,o5 op C b aq t=some (v,cU)/\ah v (bj C h b (some cU)):=by
 cases op with
 |make b8 W=>
  cases W with
  |alloc ty=>
   obtain⟨⟨v,cU⟩,M,R⟩:=lp.1 (show ap (FO C ty (k5 undef) b) _ from aw)
   exact⟨v,cU,M,R.out⟩
  |box ty x=>
   obtain⟨H,M,R⟩:=hM a (show eW b8 aq I x _ from aw)
   exact⟨_,_,by simp only[o5,q9,Ms,M],R.out⟩
  |buildSlice ty len kv=>
   obtain⟨dq,M,R⟩:=W5 a (show Do b8 aq I kv.toList _ from aw)
   obtain⟨⟨v,cU⟩,ak,aA⟩:=(lp.1 R)
   refine⟨v,cU, ?_,aA.out⟩
   simp only[o5,q9,Mt,M]
   unfold Rd at ak
   split at ak
   ·rename_i bg
    simp only[bg]
    exact ak
   ·cases ak
  |makeMap ty r=>
   cases r with
   |none=>exact⟨_,_,rfl,(show mE C h b _ _ ah from aw).out⟩
   |some r=>exact aw.elim
  |_=>exact aw.elim
 |_=>exact aw.elim
def acS{rd:Bool}{f:Nat}{cu:List D}{ah av:bJ}(a:aU C f cu h j ah av):∃r,tp C f cu=some r/\D8 C rd (some r) h j ah av:=by
 rcases a.out with ⟨ac,M,R⟩|⟨M,⟨fn,c,R,ak⟩,aA⟩
 ·exact⟨.known f cu ac,by simp[tp,M],R⟩
 ·exact⟨.enter f cu,by simp[tp,M,R,ak],aA⟩
def A9{rd:Bool}{W:Option ee}{ah av:bJ}(a:h0 W h j ah):∃r,W=some r/\D8 C rd (some r) h j ah av:=by
 rw[aBB]at a
 split at a
 ·exact⟨_,rfl,a⟩
 ·exact⟨_,rfl,a⟩
 ·exact a.elim
def asu{rd:Bool}{W:Option ee}{ah av:bJ}(a:HJ W h j ah):∃r,W=some r/\D8 C rd (some r) h j ah av:=by
 rw[asv]at a
 split at a
 ·exact⟨_,rfl,a⟩
 ·exact⟨_,rfl,a⟩
 ·exact⟨_,rfl,a⟩
 ·exact a.elim
def afq(a:hi I t){rd:Bool}{op:ke}{ah av:bJ}(aw:UR rd op C h j aq I ah av):∃r,ie op C h j aq t=some r/\D8 C rd (some r) h j ah av:=by
 cases op with
 |st n H v=>
  obtain⟨fL,M,R⟩:=o4 a (show j3 H aq I _ from aw)
  obtain⟨hr,ak,aA⟩:=o4 a R
  obtain⟨S',bv,b9⟩:=(lp.1 aA)
  refine⟨.fv undef S' j, ?_,b9⟩
  simp only[ie,M,ak]
  unfold gq at bv
  split at bv
  ·simp only[e7]at bv
   simp[Rf,bv.2,fN,bv.1]
  ·cases bv
 |call f args=>
  obtain⟨cu,M,R⟩:=ar3 a (show Oo aq I args _ from aw)
  obtain⟨r,ak,aA⟩:=acS (rd:=rd) R
  exact⟨r,by simp[ie,M,ak],aA⟩
 |fw b8 W=>
  cases W with
  |mapUpdate ty m z x=>
   obtain⟨H,M,R⟩:=hM a (show eW b8 aq I m _ from aw)
   obtain⟨b,ak,aA⟩:=hM a R
   obtain⟨c,bv,b9⟩:=hM a aA
   obtain⟨r,dl,eI⟩:=A9 (C:=C) (av:=av) (rd:=rd) b9
   exact⟨r,by simp[ie,od,H2,M,ak,bv,dl],eI⟩
  |insert ty m z x=>
   obtain⟨H,M,R⟩:=hM a (show eW b8 aq I m _ from aw)
   obtain⟨b,ak,aA⟩:=hM a R
   obtain⟨c,bv,b9⟩:=hM a aA
   obtain⟨r,dl,eI⟩:=A9 (C:=C) (av:=av) (rd:=rd) b9
   exact⟨r,by simp[ie,od,H2,M,ak,bv,dl],eI⟩
  |mapEntry ty m z=>
   obtain⟨H,M,R⟩:=hM a (show eW b8 aq I m _ from aw)
   obtain⟨b,ak,aA⟩:=hM a R
   obtain⟨r,dl,eI⟩:=A9 (C:=C) (av:=av) (rd:=rd) aA
   exact⟨r,by simpa[ie,od,K9,two,Go.bd.k4,Go.bd.g9,M,ak]using dl,eI⟩
  |entryStore ty m s x=>
   obtain⟨H,M,R⟩:=hM a (show eW b8 aq I m _ from aw)
   obtain⟨b,ak,aA⟩:=hM a R
   obtain⟨c,bv,b9⟩:=hM a aA
   obtain⟨r,dl,eI⟩:=A9 (C:=C) (av:=av) (rd:=rd) b9
   exact⟨r,by simpa[ie,od,K1,ajQ,Go.bd.k4,Go.bd.g9,Go.bd.nt,M,ak,bv]using dl,eI⟩
  |makeSlice ty l c=>
   obtain⟨H,M,R⟩:=hM a (show eW b8 aq I l _ from aw)
   obtain⟨b,ak,aA⟩:=hM a R
   obtain⟨r,dl,eI⟩:=A9 (C:=C) (av:=av) (rd:=rd) aA
   exact⟨r,by simpa[ie,od,K8,two,Go.bd.k4,Go.bd.g9,M,ak]using dl,eI⟩
  |makeMap ty jZ=>
   cases jZ with
   |none=>exact aw.elim
   |some x=>
    obtain⟨H,M,R⟩:=hM a (show eW b8 aq I x _ from aw)
    obtain⟨r,dl,eI⟩:=A9 (C:=C) (av:=av) (rd:=rd) R
    exact⟨r,by simpa[ie,od,K7,k5,M]using dl,eI⟩
  |convert s d x=>
   obtain⟨H,M,R⟩:=hM a (show eW b8 aq I x _ from aw)
   obtain⟨r,dl,eI⟩:=A9 (C:=C) (av:=av) (rd:=rd) R
   exact⟨r,by simpa[ie,od,Lc,k5,M]using dl,eI⟩
  |range ty x=>
   obtain⟨H,M,R⟩:=hM a (show eW b8 aq I x _ from aw)
   obtain⟨r,dl,eI⟩:=A9 (C:=C) (av:=av) (rd:=rd) R
   exact⟨r,by simpa[ie,od,La,k5,M]using dl,eI⟩
  |next eP AU=>
   obtain⟨H,M,R⟩:=hM a (show eW b8 aq I eP _ from aw)
   obtain⟨r,dl,eI⟩:=asu (C:=C) (av:=av) (rd:=rd) R
   exact⟨r,by simpa[ie,od,xW,k5,M]using dl,eI⟩
  |panic x=>
   cases rd with
   |true=>exact(show False from aw).elim
   |false=>
    obtain⟨H,M,R⟩:=hM a (show eW b8 aq I x _ from aw)
    rw[aAK]at R
    split at R
    ·rename_i pr aDZ
     exact⟨.panic (.iface pr aDZ),by simp[ie,od,Uu,M],R⟩
    ·exact R.elim
  |call c=>
   obtain⟨callee,args,di⟩:=c
   cases callee with
   |value f=>
    obtain⟨nd,M,R⟩:=hM a (show eW b8 aq I f _ from aw)
    obtain⟨cu,ak,aA⟩:=F8 a R
    have aA:=aA.out
    split at aA
    ·split at aA
     ·obtain⟨r,bv,b9⟩:=acS (rd:=rd) aA
      exact⟨r,by simp[ie,od,EF,M,ak,BM];simpa using bv,b9⟩
     ·exact⟨.round _ _,by simp only[ie,od,EF,M,ak,BM],aA⟩
     ·exact aA.elim
    ·exact aA.elim
   |builtin b=>
    obtain⟨br,M,R⟩:=F8 a (show uh b8 aq I args.toList _ from aw)
    obtain⟨r,dl,eI⟩:=A9 (C:=C) (av:=av) (rd:=rd) R
    refine⟨r, ?_,eI⟩
    have E:∀r,H6 C h j b di.toList br=some r->ie (.fw b8 (.call ⟨.builtin b,args,di⟩)) C h j aq t=some r:=by
     intro r Y
     simp only[ie,od,EF,KW,M]
     unfold H6 at Y
     split at Y
     all_goals first|exact Y|cases Y
    exact E r dl
   |invoke x name=>
    obtain⟨kc,M,R⟩:=hM a (show eW b8 aq I x _ from aw)
    obtain⟨cu,ak,aA⟩:=F8 a R
    rw[azq]at aA
    split at aA
    ·cases bp:Hf C h _ _ name cu with
     |none=>rw[bp]at aA;exact aA.elim
     |some r=>rw[bp]at aA;exact⟨r,by simp[ie,od,EF,M,ak,bp],aA⟩
    ·exact aA.elim
  |_=>exact aw.elim
 |_=>exact aw.elim
def atx{mc:Bool}{v:D}{H b:Prop}(a:iB mc v H b):∃w,(match v with| .bool b=>some (b==mc)|_=>some false)=some w/\(w=true->H)/\(w=false->b):=by
 have a:=a.out
 cases v with
 |bool t=>
  obtain⟨M,R⟩:=a
  refine⟨t==mc,rfl,λE=>M (by simpa using E),λE=>R ?_⟩
  cases t<;>cases mc<;>simp_all
 |_=>exact⟨false,rfl,Zs,λ_=>a⟩
def Rw{g:Option (Nat×Bool)}{H b:Prop}(a:Rv g aq H b):∃w,ps g aq=some w/\(w=true->H)/\(w=false->b):=by
 cases g with
 |none=>exact⟨true,rfl,λ_=>a,Zs⟩
 |some p=>
  obtain⟨S,mc⟩:=p
  obtain⟨v,M,R⟩:=ui.1 (show cw (ev aq S) _ from a)
  obtain⟨w,ak,aA⟩:=atx R
  exact⟨w,by simp only[ps,M];exact ak,aA⟩
def ajs(a:hi I t)(d:Nat)(v:D):hi (Z I d v) (t.set d (some v)):=by
 intro n ac bg
 have bg:=(show bW (Nat.beq d n) (some v) (I.g n)=some ac from bg)
 rw[h4]at bg
 rw[Q.kW]
 split at bg
 ·rename_i E;rw[Zr E];exact bg
 ·rename_i E;rw[Zh E];exact a n ac bg
def adS:∀{l:List (Nat×Nat)}{I:cV}{t:Q D}{ah:cV->Prop},hi I t->KL l aq I ah->∃c4 hp,Ai aq l t=some hp/\hi c4 hp/\(c4.bh=I.bh/\c4.rc=I.rc)/\ah c4:=by
 intro l
 induction l with
 |nil=>intro I t ah a aw;exact⟨I,t,rfl,a,⟨rfl,rfl⟩,aw⟩
 |cons p l ai=>
  intro I t ah a aw
  obtain⟨i,d⟩:=p
  obtain⟨v,M,R⟩:=ui.1 (show cw (ev aq i) (λv=>KL l aq (Z I d v) ah) from aw)
  obtain⟨c4,hp,ak,aA,bv⟩:=ai (ajs a d v) R
  exact⟨c4,hp,by simp[Ai,M,ak],aA,bv⟩
def aCG{op:ke}{b8:List (Nat×Nat)}{f:Operand}{args:List Operand}(a:Gq op= .defer b8 f args):∃c:Array Operand×Array TypeId,args=c.1.toList/\op= .fw b8 (.defer ⟨.value f,c.1,c.2⟩):=by
 unfold Gq at a
 split at a
 ·split at a
  ·split at a
   ·injection a with M R ak
    subst M R ak
    exact⟨(_,_),rfl,rfl⟩
   ·cases a
  ·split at a
   ·split at a<;>cases a
   ·cases a
  ·cases a
 ·cases a
def aCH{op:ke}(a:Gq op= .recover):∃b8 di args,op= .fw b8 (.call ⟨.builtin .recover,args,di⟩)/\args.toList=[]:=by
 unfold Gq at a
 split at a
 ·split at a
  ·split at a<;>cases a
  ·split at a
   ·split at a
    ·rename_i az
     exact⟨_,_,_,rfl,az⟩
    ·cases a
   ·cases a
  ·cases a
 ·cases a
def aBE(a:hi I t):∀{l:List ResultVar}{ah:List D->Prop},rS C h I l ah->∃br,yx C h t l=some br/\ah br:=by
 intro l
 induction l with
 |nil=>intro ah aw;exact⟨[],rfl,aw⟩
 |cons x l ai=>
  intro ah aw
  cases x with
  |tmp n=>
   obtain⟨v,M,R⟩:=ui.1 (show cw (I n) (λv=>rS C h I l λr=>ah (v::r)) from aw)
   obtain⟨r,ak,aA⟩:=ai R
   exact⟨v::r,by simp[yx,a n v M,ak],aA⟩
  |cell H ty=>
   obtain⟨p,M,R⟩:=ui.1 (show cw (I H) (λp=>ap (mj C h ty p) λv=>rS C h I l λr=>ah (v::r)) from aw)
   obtain⟨v,ak,aA⟩:=(lp.1 R)
   obtain⟨r,bv,b9⟩:=ai aA
   exact⟨v::r,by simp[yx,a H p M,ak,bv],b9⟩
def ayV(a:hi I t){base:Nat}:∀{l:List fz}{aq:List (Nat×D)}{h:Q af}{ah:List (Nat×D)->Q af->Prop},Qq C base I l aq h ah->∃hQ S',xE C base t l aq h=some (hQ,S')/\ah hQ S':=by
 intro l
 induction l with
 |nil=>intro aq h ah aw;exact⟨aq,h,rfl,aw⟩
 |cons x l ai=>
  intro aq h ah aw
  obtain⟨w,M,R,ak⟩:=Rw ((aD8 ..).mp (show s4 x.g aq (λS=>match np x.op with
   | .make=>WL x.op C h (base+x.i) aq I S
   |_=>IV x.op C h aq I λv=>S v h) (λv h=>Qq C base I l ((x.i,v)::aq) h ah) h from aw))
  simp only[xE,M]
  cases w with
  |false=>exact ai (ak rfl)
  |true=>
   have aA:=R rfl
   cases aJ:np x.op with
   |make=>
    simp only[aJ]at aA
    obtain⟨v,cU,bv,b9⟩:=azh a aA
    simp only[bv,hE]
    exact ai b9
   |ix=>
    simp only[aJ]at aA
    obtain⟨v,bv,b9⟩:=Qo a aA
    simp only[bv]
    exact ai b9
   |fw=>
    simp only[aJ]at aA
    obtain⟨v,bv,b9⟩:=Qo a aA
    simp only[bv]
    exact ai b9
def aBs(a:hi I t):∀{l:List fz}{ah:Prop},Xf C I aq h l ah->En C t aq h l=true/\ah:=by
 intro l
 induction l with
 |nil=>intro ah aw;exact⟨rfl,aw⟩
 |cons x l ai=>
  intro ah aw
  obtain⟨w,M,R,ak⟩:=Rw ((aD9 ..).mp (show XY x.g aq (λaj=>IV x.op C h aq I λv=>gb v (ev aq x.i) aj) (Xf C I aq h l ah) from aw))
  simp only[En,M]
  cases w with
  |false=>exact ai (ak rfl)
  |true=>
   obtain⟨v,bv,b9⟩:=Qo a (R rfl)
   obtain⟨ac,dl,eI,hT⟩:=ui.1 b9.out
   obtain⟨kX,qB⟩:=ai hT
   exact⟨by simp[bv,dl,eI,kX],qB⟩
end
section
variable{C:aK}{dY:db}{ed:Nat->Prop}{bl:World}{bF:Nat}{bT:List Frame}{v:D}
variable{fn n ao:Nat}{bR:vD}{ay:Bool}{ro:Option Nat}{cs dc:List g4}
def lj(cM:Env C bl dY ed){bR:lw}{todo:List d1}{ca:iK}{I:Q D}{h:Q af}{j:Nat}(a:XH (f7 C bl bF bT v) C bR todo ca I h j=some v):oQ C bl bF bT bR todo ca I h j v:=
 λT ad w dh tmps bw am dd=>ajC cM aco _ _ _ _ _ _ _ _ _ _ _ _ v a T ad w dh tmps bw am dd
def fF(bR:vD)(fn n ao:Nat)(ay:Bool)(ro:Option Nat)(cs dc:List g4)(I:cV):iK:=⟨fn,n,ao,bW bR.bh I.bh [],ay,ro,bW I.rc dc cs⟩
structure BF(bR:vD)(ay:Bool)(ro:Option Nat)(cs dc:List g4):Prop where
 rd:bR.rd=false->ro=none
 bh:bR.bh=true->ro=none
 none:bR.ka=some none->dc=cs/\Dy ay cs=some (.nilIface,cs)
 some:∀ac,bR.ka=some (some ac)->Dy ay cs=some (ac,dc)/\Dy ay dc=some (.nilIface,dc)
def aBU{ai:hP}{C:aK}{l:Nat}{args:List D}{eP:d1}{z:List d1}{ca:iK}{I:Q D}{h:Q af}{j:Nat}:oY (.round l args) ai C eP z ca I h j=Q3 ai C l args (Gv eP z ca I) h j:=rfl
def adp{I:cV}{t:Q D}(a:hi I t)(l:List Nat):hi (h5 l I) (xG l t):=by
 intro n v bB
 rw[Oc]
 by_cases aE:n∈l
 ·simp[h5,fN,aia,aE]at bB
 ·simp[h5,fN,aia,aE]at bB
  rw[Zh aE];exact a n v bB
def SE{H b:Nat}(a:H<=b):Nat.ble H b=true:=by simpa using a
def acm(aD:D.same 30 v v=true)(bp:BF bR ay ro cs dc){eP:d1}{z:List d1}{oV:cV}{I:Q D}{h:Q af}{j:Nat}{ah av:bJ}(cM:Env C bl dY ed)
 (jp:∀ac h j,ah ac h j->∃hX,pM eP ac=some hX/\oQ C bl bF bT .run (hX::z) (fF bR fn n ao ay ro cs dc oV) I h j v)
 (cC:∀ac h j todo,av ac h j->oQ C bl bF bT (.panicking [⟨ac,false⟩]) todo (fF bR fn n ao ay ro cs dc oV) (vR (eP::z) I) h j v){r:ee}(a:D8 C bR.rd (some r) h j ah av):
 oY r (f7 C bl bF bT v) C eP z (fF bR fn n ao ay ro cs dc oV) I h j=some v:=by
 have fill:∀ac h j,ah ac h j->(match pM eP ac with|some hX=>f7 C bl bF bT v .run (hX::z) (fF bR fn n ao ay ro cs dc oV) I h j|none=>none)=some v:=by
  intro ac h j aJ
  obtain⟨hX,M,R⟩:=jp ac h j aJ
  rw[M]
  exact iz R
 cases r with
 |val ac=>exact fill ac h j a
 |fv ac S' an=>exact fill ac S' an a
 |enter f args=>
  refine a bl dY ed cM bF bT v aD (Gv eP z (fF bR fn n ao ay ro cs dc oV) I) (λac S' an aj=> ?_) (λac S' an aj=> ?_)
  ·exact fill ac S' an aj
  ·exact iz (cC ac S' an _ aj)
 |round l args=>
  rw[aBU]
  refine a bl dY ed cM bF bT v aD (Gv eP z (fF bR fn n ao ay ro cs dc oV) I) (λac S' an aj=> ?_) (λac S' an aj=> ?_)
  ·exact fill ac S' an aj
  ·exact iz (cC ac S' an _ aj)
 |known f args ac=>exact fill ac h j a
 |panic ac=>
  have a:=(show bW bR.rd False (av ac h j) from a)
  cases Y:bR.rd with
  |true=>rw[Y]at a;exact a.elim
  |false=>
   rw[Y]at a
   have jL:=bp.rd Y
   subst jL
   exact iz (cC ac h j _ a)
 |fork l=>exact ast aD l a.1 λac S' bp=>jp ac S' j (a.2 ac S' bp)
 |_=>exact a.elim
def are{ar:Array Oper}{aq:List (Nat×D)}{i:Nat}{rest:List fz}{fin:List (Nat×Nat)}{z:List d1}{I:Q D}:vR (.ux ar aq i rest fin::z) I=xG (dstsOf ar.toList) I:=rfl
def ard{ar:Array Oper}{aq:List (Nat×D)}{b i:Nat}{rest:List xo}{fin:List (Nat×Nat)}{z:List d1}{I:Q D}:vR (.Bn ar b aq i rest fin::z) I=xG (dstsOf ar.toList) I:=rfl
def aCe(cM:Env C bl dY ed)(aD:D.same 30 v v=true)(bp:BF bR ay ro cs dc){ar:Array Oper}{fin:List (Nat×Nat)}{z:List d1}{t:Q D}{ah:fB}{av:tm}
 (jp:∀I t h j,hi I t->ah I h j->oQ C bl bF bT .run z (fF bR fn n ao ay ro cs dc I) t h j v)
 (cC:∀I t ac h j todo,hi I t->av I ac h j->oQ C bl bF bT (.panicking [⟨ac,false⟩]) todo (fF bR fn n ao ay ro cs dc I) t h j v):
 ∀(rest:List fz) (aq:List (Nat×D)) (I:cV) (h:Q af) (j:Nat),hi I t->Du C bR fin ah (λI=>av (h5 (dstsOf ar.toList) I)) rest aq I h j->Bd rest ⟨f7 C bl bF bT v,ar,fin,z,fF bR fn n ao ay ro cs dc I⟩ C t aq h j=some v:=by
 intro rest
 induction rest with
 |nil=>
  intro aq I h j be a
  obtain⟨c4,hp,M,R,ak,aA⟩:=adS be (show KL fin aq I (λI=>ah I h j) from a)
  show KE ⟨f7 C bl bF bT v,ar,fin,z,fF bR fn n ao ay ro cs dc I⟩ C t aq h j=some v
  simp only[KE,Ot,M,pm]
  have E:fF bR fn n ao ay ro cs dc I=fF bR fn n ao ay ro cs dc c4:=by unfold fF;rw[ak.1,ak.2]
  rw[E]
  exact iz (jp _ _ _ _ R aA)
 |cons x rest ai=>
  intro aq I h j be a
  obtain⟨i,g,op⟩:=x
  show F7 i g op rest (Bd rest) ⟨f7 C bl bF bT v,ar,fin,z,fF bR fn n ao ay ro cs dc I⟩ C t aq h j=some v
  have a:=(show(match Gq op with
   | .no=>Rx g aq (λah=>W3 bR.rd op C h j aq I ah (av (h5 (dstsOf ar.toList) I))) (λv h j=>Du C bR fin ah (λI=>av (h5 (dstsOf ar.toList) I)) rest ((i,v)::aq) I h j) h j
   | .defer b8 f args=>bW (g.isNone&&bR.bh) (eW b8 aq I f λnd=>uh b8 aq I args λcu=>Ku nd cu I λI=>Du C bR fin ah (λI=>av (h5 (dstsOf ar.toList) I)) rest ((i,undef)::aq) I h j) False
   | .recover=>bW (g.isNone&& !bR.rd) (Jo bR.ka I λv I=>Du C bR fin ah (λI=>av (h5 (dstsOf ar.toList) I)) rest ((i,v)::aq) I h j) False) from a)
  cases CF:Gq op with
  |no=>
   rw[CF]at a
   obtain⟨w,M,R,ak⟩:=Rw ((ake ..).mp a)
   simp only[F7,Ru,M,pm]
   cases w with
   |false=>simp only[Zy,ZD];exact ai _ _ _ _ be (ak rfl)
   |true=>
    simp only[ZE]
    have aA:=R rfl
    rw[QN]
    unfold W3 at aA
    cases aJ:np op with
    |ix=>
     simp only[aJ]at aA ⊢
     obtain⟨ac,bv,b9⟩:=Qo be aA
     rw[bv]
     exact ai _ _ _ _ be b9
    |make=>
     simp only[aJ]at aA ⊢
     obtain⟨ac,cU,bv,b9⟩:=azj be aA
     simp only[Qr,mM,bv,hE,pm]
     exact ai _ _ _ _ be b9
    |fw=>
     simp only[aJ]at aA ⊢
     obtain⟨r,bv,b9⟩:=afq be aA
     rw[bv]
     have rj:oY r (f7 C bl bF bT v) C (.ux ar aq i rest fin) z (fF bR fn n ao ay ro cs dc I) t h j=some v:=by
      refine acm aD bp cM (λac h j aj=>⟨_,rfl, ?_⟩) (λac h j todo aj=> ?_) b9
      ·exact lj cM (ai _ _ _ _ be aj)
      ·rw[are];exact cC (h5 (dstsOf ar.toList) I) _ _ _ _ _ (adp be _) aj
     cases r with
     |val ac=>exact ai _ _ _ _ be b9
     |fv ac S' an=>exact ai _ _ _ _ be b9
     |_=>exact rj
  |defer b8 f args=>
   rw[CF]at a
   obtain⟨c,rfl,rfl⟩:=aCG CF
   have a:=(show bW (g.isNone&&bR.bh) _ False from a)
   cases g with
   |some g=>exact a.elim
   |none=>
    cases mO:bR.bh with
    |false=>rw[mO]at a;exact a.elim
    |true=>
     rw[mO]at a
     obtain⟨nd,M,R⟩:=hM be (show eW b8 aq I f _ from a)
     obtain⟨cu,ak,aA⟩:=F8 be R
     have jL:=bp.bh mO
     subst jL
     cases nd with
     |func g first fY=>
      simp only[F7,Ru,ps,pm,ZE]
      rw[QN]
      have aJ:np (.fw b8 (.defer ⟨.value f,c.1,c.2⟩))= .fw:=rfl
      have ae:ie (.fw b8 (.defer ⟨.value f,c.1,c.2⟩)) C h j aq t=some (.defer ⟨.fn g fY,first++cu⟩):=by
       simp only[ie,od,T6,M,ak]
      simp only[aJ,ae]
      have gL:fF bR fn n ao ay none cs dc I=⟨fn,n,ao,I.bh,ay,none,bW I.rc dc cs⟩:=by unfold fF;rw[mO];rfl
      show oY (.defer ⟨.fn g fY,first++cu⟩) (f7 C bl bF bT v) C (.ux ar aq i rest fin) z (fF bR fn n ao ay none cs dc I) t h j=some v
      rw[gL]
      show f7 C bl bF bT v .run (.Jt ar ((i,undef)::aq) rest fin::z) ⟨fn,n,ao,⟨.fn g fY,first++cu⟩::I.bh,ay,none,bW I.rc dc cs⟩ t h j=some v
      have dx:(⟨fn,n,ao,⟨.fn g fY,first++cu⟩::I.bh,ay,none,bW I.rc dc cs⟩:iK)=fF bR fn n ao ay none cs dc (A7 I ⟨.fn g fY,first++cu⟩):=by unfold fF;rw[mO];rfl
      rw[dx]
      exact iz (lj cM (ai _ (A7 I ⟨.fn g fY,first++cu⟩) _ _ be aA))
     |_=>exact aA.elim
  |recover=>
   rw[CF]at a
   obtain⟨b8,di,args,rfl,xX⟩:=aCH CF
   have a:=(show bW (g.isNone&& !bR.rd) _ False from a)
   cases g with
   |some g=>exact a.elim
   |none=>
    cases cB:bR.rd with
    |true=>rw[cB]at a;exact a.elim
    |false=>
     rw[cB]at a
     have jL:=bp.rd cB
     subst jL
     have a:Jo bR.ka I (λv I=>Du C bR fin ah (λI=>av (h5 (dstsOf ar.toList) I)) rest ((i,v)::aq) I h j):=a
     simp only[F7,Ru,ps,pm,ZE]
     rw[QN]
     have aJ:np (.fw b8 (.call ⟨.builtin .recover,args,di⟩))= .fw:=rfl
     have ae:ie (.fw b8 (.call ⟨.builtin .recover,args,di⟩)) C h j aq t=some .recover:=by
      simp only[ie,od,EF,KW,xX,qz]
     simp only[aJ,ae]
     show oY .recover (f7 C bl bF bT v) C (.ux ar aq i rest fin) z (fF bR fn n ao ay none cs dc I) t h j=some v
     have key:∀ac c4,hi c4 t->Dy ay (bW I.rc dc cs)=some (ac,bW c4.rc dc cs)->c4.bh=I.bh->Du C bR fin ah (λI=>av (h5 (dstsOf ar.toList) I)) rest ((i,ac)::aq) c4 h j->oY .recover (f7 C bl bF bT v) C (.ux ar aq i rest fin) z (fF bR fn n ao ay none cs dc I) t h j=some v:=by
      intro ac c4 VS M R ak
      show(match Dy ay (bW I.rc dc cs)with
       |some (hr,aqU)=>(match pM (.ux ar aq i rest fin) hr with|some hX=>f7 C bl bF bT v .run (hX::z) ⟨fn,n,ao,bW bR.bh I.bh [],ay,none,aqU⟩ t h j|none=>none)
       |none=>none)=some v
      rw[M]
      show f7 C bl bF bT v .run (.Jt ar ((i,ac)::aq) rest fin::z) ⟨fn,n,ao,bW bR.bh I.bh [],ay,none,bW c4.rc dc cs⟩ t h j=some v
      have gL:(⟨fn,n,ao,bW bR.bh I.bh [],ay,none,bW c4.rc dc cs⟩:iK)=fF bR fn n ao ay none cs dc c4:=by unfold fF;rw[R]
      rw[gL]
      exact iz (lj cM (ai _ _ _ _ VS ak))
     unfold Jo at a
     cases aw:bR.ka with
     |none=>rw[aw]at a;exact a.elim
     |some p=>
      rw[aw]at a
      cases p with
      |none=>
       obtain⟨M,R⟩:=bp.none aw
       subst M
       refine key _ I be ?_ rfl a
       cases I.rc<;>exact R
      |some ac=>
       obtain⟨M,R⟩:=bp.some ac aw
       cases AJ:I.rc with
       |true=>
        simp only[AJ]at a
        refine key _ I be ?_ rfl a
        simp only[AJ];exact R
       |false=>
        simp only[AJ]at a
        refine key ac (Ra I) be ?_ rfl a
        simp only[AJ];exact M
def arc(cM:Env C bl dY ed)(aD:D.same 30 v v=true)(bp:BF bR ay ro cs dc){ar:Array Oper}{base:Nat}{fin:List (Nat×Nat)}{z:List d1}{I:cV}{t:Q D}(be:hi I t){ah:fB}{av:tm}
 (jp:∀I t h j,hi I t->ah I h j->oQ C bl bF bT .run z (fF bR fn n ao ay ro cs dc I) t h j v)
 (cC:∀I t ac h j todo,hi I t->av I ac h j->oQ C bl bF bT (.panicking [⟨ac,false⟩]) todo (fF bR fn n ao ay ro cs dc I) t h j v):
 ∀(lS:List xo) (aq:List (Nat×D)) (h:Q af) (j:Nat),Te C bR.rd base fin I ah (av (h5 (dstsOf ar.toList) I)) lS aq h j->Ae (f7 C bl bF bT v) C ar base aq lS fin z (fF bR fn n ao ay ro cs dc I) t h j=some v:=by
 intro lS
 induction lS with
 |nil=>intro aq h j a;exact a.elim
 |cons s rest ai=>
  intro aq h j a
  obtain⟨hQ,S',M,R⟩:=ayV be (show Qq C base I s.vc aq h _ from a)
  obtain⟨ak,aA⟩:=aBs be R
  simp only[Ae,M,ak,fo]
  cases gx:s.fw with
  |none=>
   simp only[gx]at aA
   obtain⟨c4,hp,bv,b9,dl,eI⟩:=adS be aA
   simp only[Ot,bv,pm]
   have E:fF bR fn n ao ay ro cs dc I=fF bR fn n ao ay ro cs dc c4:=by unfold fF;rw[dl.1,dl.2]
   rw[E]
   exact iz (jp _ _ _ _ b9 eI)
  |some ae=>
   simp only[gx]at aA
   obtain⟨w,bv,b9,dl⟩:=Rw ((ake ..).mp aA)
   simp only[bv]
   cases w with
   |false=>simp only[lD];exact iz (lj cM (ai _ _ _ (dl rfl)))
   |true=>
    obtain⟨r,eI,hT⟩:=afq be (b9 rfl)
    simp only[fo,eI]
    refine acm aD bp cM (λac h j aj=>⟨_,rfl, ?_⟩) (λac h j todo aj=> ?_) hT
    ·exact lj cM (ai _ _ _ aj)
    ·rw[ard];exact cC (h5 (dstsOf ar.toList) I) _ _ _ _ _ (adp be _) aj
def akP(C:aK)(bl:World)(bF:Nat)(bT:List Frame)(v:D)(cg:cV->iK)(z:List d1)(id:Nat):fB:=λI h j=>∀t,hi I t->B3 id (f7 C bl bF bT v) C z (cg I) t h j=some v
def Oq{id:Nat}{ai:hP}{C:aK}{eP:d1}{z:List d1}{bR:vD}{cs dc:List g4}{oV:cV}{I:Q D}{h:Q af}{j:Nat}(a:exitTo id (eP::z)=exitTo id z):
 B3 id ai C (eP::z) (fF bR fn n ao ay ro cs dc oV) I h j=B3 id ai C z (fF bR fn n ao ay ro cs dc oV) I h j:=by
 unfold B3
 rw[a]
 cases exitTo id z with
 |some eY=>rfl
 |none=>
  unfold pj fF
  cases ro with
  |none=>rfl
  |some l=>rfl
def RX(C:aK)(fn n ao:Nat)(c:Code):Prop:=
 ∀{bl:World}{dY:db}{ed:Nat->Prop}(_:Env C bl dY ed) {bF:Nat}{bT:List Frame}{v:D}(_:D.same 30 v v=true) (bR:vD) (ay:Bool) (ro:Option Nat) (cs dc:List g4) (av:tm) (z:List d1) (ah:fB) (E:Nat->fB) (r:fB) (I:cV) (t:Q D) (h:Q af) (j:Nat),BF bR ay ro cs dc->
  (∀I t ac h j todo,hi I t->av I ac h j->oQ C bl bF bT (.panicking [⟨ac,false⟩]) todo (fF bR fn n ao ay ro cs dc I) t h j v)->
  (∀I t h j,hi I t->ah I h j->oQ C bl bF bT .run z (fF bR fn n ao ay ro cs dc I) t h j v)->
  (∀id I h j,E id I h j->akP C bl bF bT v (fF bR fn n ao ay ro cs dc) z id I h j)->
  (∀I t h j todo,hi I t->r I h j->pj (some .ret) (f7 C bl bF bT v) C todo (fF bR fn n ao ay ro cs dc I) t h j=some v)->
  hi I t->xD C n ao c bR av ah E r I h j->vN c (f7 C bl bF bT v) C z (fF bR fn n ao ay ro cs dc I) t h j=some v
def aCk{n:Nat}:∀(dq:List Nat) (cu:List D) (I:cV) (t:Q D) (ah:cV->Prop),hi I t->Ju n dq cu I ah->∃c4 hp,yA n dq cu t=some hp/\hi c4 hp/\ah c4:=by
 intro dq
 induction dq with
 |nil=>
  intro cu I t ah be a
  cases cu with
  |nil=>exact⟨I,t,rfl,be,a⟩
  |cons H cu=>exact a.elim
 |cons p dq ai=>
  intro cu I t ah be a
  cases cu with
  |nil=>exact a.elim
  |cons H cu=>
   have a:=(show bW (Nat.blt p n) (Ju n dq cu (Z I p H) ah) False from a)
   cases ag:Nat.blt p n with
   |false=>rw[ag]at a;exact a.elim
   |true=>
    rw[ag]at a
    obtain⟨c4,hp,M,R,ak⟩:=ai cu _ _ ah (ajs be p H) a
    exact⟨c4,hp,by simp only[yA,ag,fo,M],R,ak⟩
def DR(fn n ao:Nat)(ro:Option Nat)(cs:List g4)(I:cV):fF C8 fn n ao false ro cs cs I=⟨fn,n,ao,[],false,ro,cs⟩:=by
 unfold fF C8
 cases I.rc<;>rfl
def Ww{ai:hP}{C:aK}{l fn n ao:Nat}{t0:Q D}{params:List Nat}{assign body:Code}{N6:Nat}{jd:Option Code}{st:LoopState}{b:Bool}{ah:bJ}{todo:List d1}{cs:List g4}{t:Q D}{h:Q af}{j:Nat}{v:D}
 (aF:kV C l=true)(aw:aiQ jd=true)(dd:st=bW jd.isNone .ready .done)(ag:b=jd.isNone)(a:Ok C l (λst p=> .loop st p fn n ao t0 params assign body N6) st jd b ah h j)
 (aJ:∀ac h j,ah ac h j->uD ai false cs ac h j=some v):pj jd ai C todo ⟨fn,n,ao,[],false,some l,cs⟩ t h j=some v:=by
 obtain⟨⟨ajy,Jh,M⟩,R⟩:=a
 subst dd ag
 have:=aJ _ _ _ R
 simp only[pj,M,aF,aw,Yn,Yr,fo,hE]
 exact this
def aBV{C:aK}{fn n ao:Nat}{assign body:Code}(mN:RX C fn n ao assign)(ey:RX C fn n ao body){bl:World}{dY:db}{ed:Nat->Prop}(cM:Env C bl dY ed){bF:Nat}{bT:List Frame}{v:D}(aD:D.same 30 v v=true){l:Nat}{t:Q D}{params:List Nat}{N6:Nat}{cs:List g4}
 {I:cV}{h:Q af}{j:Nat}{args:List D}{ah av:bJ}(aC:U C h l=some (.loop .ready none fn n ao t params assign body N6))(aF:kV C l=true)(be:hi I t)
 (gE:∀ac S' an,ah ac S' an->RU C bl bF bT v cs ac S' an)(jV:∀ac S' an,av ac S' an->NE C bl bF bT v cs ac S' an)
 (a:Ju n params args I λsi=>un C (xD C n ao assign) (xD C n ao body) l (λst p=> .loop st p fn n ao t params assign body N6) ah av si h j):
 Q3 (f7 C bl bF bT v) C l args cs h j=some v:=by
 obtain⟨si,t1,bz,Fj,M⟩:=aCk _ _ _ _ _ be a
 unfold Q3
 rw[aC]
 simp only[bz]
 have bp:BF C8 false (some l) cs cs:=⟨λa=>(by cases a),λa=>(by cases a),λa=>(by cases a),λac a=>(by cases a)⟩
 have cC:∀(I:cV) (t:Q D) (ac:D) (h:Q af) (j:Nat) (todo:List d1),hi I t->av ac h j->oQ C bl bF bT (.panicking [⟨ac,false⟩]) todo (fF C8 fn n ao false (some l) cs cs I) t h j v:=by
  intro I t ac h j todo be aj
  rw[DR]
  refine lj cM ?_
  have:=jV ac h j aj
  show M1 [⟨ac,false⟩] todo (f7 C bl bF bT v) C ⟨fn,n,ao,[],false,some l,cs⟩ t h j=some v
  cases cs with
  |nil=>exact this.elim
  |cons c rest=>exact this
 refine iz (lj cM ?_)
 rw[<-DR fn n ao (some l) cs si]
 refine mN cM aD C8 false (some l) cs cs (λ_=>av) [.beginRound, .code body] _ _ _ si t1 h j bp cC (λI t h j be aj=> ?_) (λid I h j aj=>aj.elim) (λI t h j todo be aj=>aj.elim) Fj M
 obtain⟨cN,cA⟩:=aj
 refine lj cM ?_
 rw[DR]
 show Ki (f7 C bl bF bT v) C [.code body] ⟨fn,n,ao,[],false,some l,cs⟩ t h j=some v
 unfold Ki
 simp only[cN,aF,fo,hE]
 refine iz (lj cM ?_)
 rw[<-DR fn n ao (some l) cs I]
 refine ey cM aD C8 false (some l) cs cs (λ_=>av) [] _ _ _ I t _ j bp cC (λI t h j be aj=> ?_) (λid I h j aj t be=> ?_) (λI t h j todo be aj=> ?_) be cA
 ·refine lj cM ?_
  rw[DR]
  show pj none (f7 C bl bF bT v) C [] ⟨fn,n,ao,[],false,some l,cs⟩ t h j=some v
  exact Ww aF rfl rfl rfl aj gE
 ·rw[DR]
  show pj (some (.exit id)) (f7 C bl bF bT v) C (.code (.exit id)::[]) ⟨fn,n,ao,[],false,some l,cs⟩ t h j=some v
  exact Ww aF rfl rfl rfl aj gE
 ·rw[DR]
  exact Ww aF rfl rfl rfl aj gE
def SY:∀c:Code,RX C fn n ao c:=by
 intro c
 induction c with
 |skip=>intro bl dY ed cM bF bT v aD bR ay ro cs dc av z ah E r I t h j bp cC jp bC Y be a;exact iz (jp _ _ _ _ be a)
 |region id ar d=>
  intro bl dY ed cM bF bT v aD bR ay ro cs dc av z ah E r I t h j bp cC jp bC Y be a
  cases d with
  |false=>
   obtain⟨aj,M,R⟩:=ui.1 (show cw (Mx C n ar ao) (λr=>Du C bR r.fin ah (λI=>av (h5 (dstsOf ar.toList) I)) r.rest [] I h j) from a)
   show jN (Mx C n ar ao) (λr=>RW.rec (motive:=λ_=>ef) (λrest fin=>Bd rest ⟨f7 C bl bF bT v,ar,fin,z,fF bR fn n ao ay ro cs dc I⟩ C t [] h j) r)=some v
   rw[M]
   exact aCe cM aD bp jp cC _ _ _ _ _ be R
  |true=>
   obtain⟨aj,M,R⟩:=ui.1 (show cw (Mw C n ar ao) (λr=>fb (j+ar.size) λan=>Te C bR.rd j r.fin I ah (av (h5 (dstsOf ar.toList) I)) r.lS [] h an) from a)
   show jN (Mw C n ar ao) (λr=>RV.rec (motive:=λ_=>ef) (λlS fin=>rl j λj=>Ae (f7 C bl bF bT v) C ar j [] lS fin z (fF bR fn n ao ay ro cs dc I) t h (j+ar.size)) r)=some v
   rw[M]
   show rl j (λj=>Ae (f7 C bl bF bT v) C ar j [] aj.lS aj.fin z (fF bR fn n ao ay ro cs dc I) t h (j+ar.size))=some v
   rw[mM]
   exact arc cM aD bp be jp cC _ _ _ _ R.out
 |seq H b mA hW=>
  intro bl dY ed cM bF bT v aD bR ay ro cs dc av z ah E r I t h j bp cC jp bC Y be a
  refine mA cM aD bR ay ro cs dc av (.code b::z) (xD C n ao b bR av ah E r) E r I t h j bp cC (λI t h j be a=> ?_) (λid I h j a t be=> ?_) Y be a
  ·exact lj cM (hW cM aD bR ay ro cs dc av z ah E r I t h j bp cC jp bC Y be a)
  ·rw[Oq (by simp[exitTo])]
   exact bC id I h j a t be
 |cond c H b mA hW=>
  intro bl dY ed cM bF bT v aD bR ay ro cs dc av z ah E r I t h j bp cC jp bC Y be a
  obtain⟨ac,M,R⟩:=hM (aq:=[]) (b8:=[]) be (show eW [] [] I c _ from a)
  obtain⟨Rl,rfl,ak,aA⟩:=acN R.out
  have bv:xL t c=some (.bool Rl):=by
   cases c<;>first|(simp[jE,xL]at M;done)|simpa[jE,xL]using M
  show Kr c t (vN H (f7 C bl bF bT v) C z (fF bR fn n ao ay ro cs dc I) t h j) (vN b (f7 C bl bF bT v) C z (fF bR fn n ao ay ro cs dc I) t h j)=some v
  simp only[Kr,pm,bv]
  cases Rl with
  |true=>exact mA cM aD bR ay ro cs dc av z ah E r I t h j bp cC jp bC Y be (ak rfl)
  |false=>exact hW cM aD bR ay ro cs dc av z ah E r I t h j bp cC jp bC Y be (aA rfl)
 |block id b hW=>
  intro bl dY ed cM bF bT v aD bR ay ro cs dc av z ah E r I t h j bp cC jp bC Y be a
  refine hW cM aD bR ay ro cs dc av (.inBlock id::z) ah (Eu id ah E) r I t h j bp cC (λI t h j be a=>lj cM (iz (jp I t h j be a))) (λu6 I h j a t be=> ?_) Y be a.out
  unfold Eu at a
  rw[h4]at a
  by_cases Ii:id=u6
  ·rw[Zr Ii]at a
   have bz:exitTo u6 (.inBlock id::z)=some z:=by simp[exitTo,Ii,h4]
   unfold B3
   rw[bz]
   exact iz (jp I t h j be a)
  ·rw[Zh Ii]at a
   rw[Oq (by simp[exitTo,h4,Ii])]
   exact bC u6 I h j a t be
 |loop b hW=>
  intro bl dY ed cM bF bT v aD bR ay ro cs dc av z ah E r I t h j bp cC jp bC Y be a
  obtain⟨tj,⟨m,Vk⟩,pP⟩:=(show e2 (λSq=>xD C n ao b bR av Sq E r) I h j from a).out
  have iy:∀m I t h j,tj m I h j->hi I t->vN b (f7 C bl bF bT v) C (.inLoop b::z) (fF bR fn n ao ay ro cs dc I) t h j=some v:=by
   intro m
   induction m using Nat.strongRecOn with
   |ind m qN=>
    intro I t h j Vk be
    refine hW cM aD bR ay ro cs dc av (.inLoop b::z) _ E r I t h j bp cC (λI t h j be a=> ?_) (λid I h j a t be=> ?_) Y be (pP m I h j Vk)
    ·obtain⟨gN,cZ,wv⟩:=a
     exact lj cM (qN gN cZ I t h j wv be)
    ·rw[Oq (by simp[exitTo])]
     exact bC id I h j a t be
  exact iy m I t h j Vk be
 |rangeFunc f params assign body mA hW=>
  intro bl dY ed cM bF bT v aD bR ay ro cs dc av z ah E r I t h j bp cC jp bC Y be a
  have a:=(show bW bR.bh (Tp f I λnd=>Gg C n nd params.toList (un C (xD C n ao assign) (xD C n ao body)) ah E r av I h j) False from a)
  cases mO:bR.bh with
  |false=>rw[mO]at a;exact a.elim
  |true=>
   rw[mO]at a
   have jL:=bp.bh mO
   subst jL
   obtain⟨nd,M,R⟩:=hM (aq:=[]) (b8:=[]) be (show eW [] [] I f _ from a)
   have bv:xL t f=some nd:=by
    cases f<;>first|(simpa[jE,xL]using M)|(simp[jE]at M;subst M;rfl)
   have Lz:=R.low
   have Is:=R.out
   have gL:∀I:cV,fF bR fn n ao ay none cs dc I=⟨fn,n,ao,I.bh,ay,none,bW I.rc dc cs⟩:=λI=>by unfold fF;rw[mO];rfl
   have Pc:kV C (j+1)=true:=SE Zo
   show MQ f params assign body (f7 C bl bF bT v) C z (fF bR fn n ao ay none cs dc I) t h j=some v
   rw[gL]
   unfold MQ
   rw[bv]
   cases nd with
   |func g first fY=>
    cases g with
    |func g=>
     simp only[mM]
     have Is:=Is (λst p=> .loop st p fn n ao t params.toList assign body j) ?_
     ·refine Is bl dY ed cM bF bT v aD _ (λac S' an aj=> ?_) (λac S' an aj=> ?_)
      ·obtain⟨st,p,cN,cA,eb⟩:=aj
       show(match pM (.inRangeFunc (j+1)) ac with
        |some hX=>f7 C bl bF bT v .run (hX::z) ⟨fn,n,ao,⟨.collected j,[]⟩::I.bh,ay,none,bW I.rc dc cs⟩ t S' an
        |none=>none)=some v
       refine iz (lj cM ?_)
       show HD (j+1) (f7 C bl bF bT v) C z ⟨fn,n,ao,⟨.collected j,[]⟩::I.bh,ay,none,bW I.rc dc cs⟩ t S' an=some v
       have bz:HD (j+1) (f7 C bl bF bT v) C z ⟨fn,n,ao,⟨.collected j,[]⟩::I.bh,ay,none,bW I.rc dc cs⟩ t S' an=f7 C bl bF bT v .run ((p.map d1.code).toList++z) ⟨fn,n,ao,⟨.collected j,[]⟩::I.bh,ay,none,bW I.rc dc cs⟩ t (bj C S' (j+1) (some (.loop .exhausted p fn n ao t params.toList assign body j))) an:=by
        unfold HD
        rw[cA]
        cases st with
        |busy=>exact absurd rfl cN
        |_=>simp only[Pc,fo,hE]
       rw[bz]
       have dx:=gL (wN I j)
       have eh:(⟨fn,n,ao,⟨.collected j,[]⟩::I.bh,ay,none,bW I.rc dc cs⟩:iK)=fF bR fn n ao ay none cs dc (wN I j):=dx.symm
       rw[eh]
       have CI:hi (wN I j) t:=be
       cases p with
       |none=>exact iz (jp _ _ _ _ CI eb)
       |some c=>
        refine iz (lj cM ?_)
        unfold aiR at eb
        cases c with
        |exit id=>exact bC id _ _ _ eb t CI
        |ret=>exact Y _ _ _ _ _ CI eb
        |_=>exact eb.elim
      ·refine iz ?_
       have eh:(⟨fn,n,ao,⟨.collected j,[]⟩::I.bh,ay,none,bW I.rc dc cs⟩:iK)=fF bR fn n ao ay none cs dc (wN I j):=(gL (wN I j)).symm
       have:=cC (wN I j) t ac S' an (.inRangeFunc (j+1)::z) be aj
       rw[<-eh]at this
       exact this
     ·
      intro args aI F2 Bq eE aC bj n6 yO m7 Tm eR sp kQ ll S2 gE jV
      exact aBV mA hW Tm ll aC Pc be gE jV bj
    |_=>exact Is.elim
   |_=>exact Is.elim
 |exit id=>
  intro bl dY ed cM bF bT v aD bR ay ro cs dc av z ah E r I t h j bp cC jp bC Y be a
  exact bC id I h j a t be
 |scope b hW=>
  intro bl dY ed cM bF bT v aD bR ay ro cs dc av z ah E r I t h j bp cC jp bC Y be a
  refine hW cM aD bR ay ro cs dc av (.inScope b::z) ah E r I t h j bp cC (λI t h j be a=>lj cM (iz (jp I t h j be a))) (λid I h j a t be=> ?_) Y be a
  rw[Oq (by simp[exitTo])]
  exact bC id I h j a t be
 |label l=>intro bl dY ed cM bF bT v aD bR ay ro cs dc av z ah E r I t h j bp cC jp bC Y be a;exact iz (jp _ _ _ _ be a)
 |goto l=>intro bl dY ed cM bF bT v aD bR ay ro cs dc av z ah E r I t h j bp cC jp bC Y be a;exact a.elim
 |ret=>
  intro bl dY ed cM bF bT v aD bR ay ro cs dc av z ah E r I t h j bp cC jp bC Y be a
  exact Y _ _ _ _ _ be a
 |refuse s=>intro bl dY ed cM bF bT v aD bR ay ro cs dc av z ah E r I t h j bp cC jp bC Y be a;exact a.elim
end
def Sv(args:List D):hi (cP args) (Q.ofList args 0 .nil):=by
 intro n v a
 rw[mZ]
 simpa[cP]using a
section
variable{C:aK}{dY:db}{ed:Nat->Prop}{bl:World}{bF:Nat}{bT:List Frame}{v:D}{fn:Nat}{uO:Func}{n ao:Nat}{ay:Bool}{cs:List g4}
def Q1(cM:Env C bl dY ed)(aD:D.same 30 v v=true)(b7:C.P.funcs[fn]? =some uO){bu:bJ}(gE:∀ac h j,bu ac h j->uD (f7 C bl bF bT v) ay cs ac h j=some v){I:cV}{t:Q D}(be:hi I t):
 ∀(ds:List h3) (h:Q af) (j:Nat) (todo:List d1),n0 C uO.results.toList bu I ds h j->oQ C bl bF bT .returning todo ⟨fn,n,ao,ds,ay,none,cs⟩ t h j v:=by
 intro ds
 induction ds with
 |nil=>
  intro h j todo a
  obtain⟨br,M,R⟩:=aBE be (show rS C h I uO.results.toList (λbr=>bu (one br) h j) from a)
  refine lj cM ?_
  show M2 todo (f7 C bl bF bT v) C ⟨fn,n,ao,[],ay,none,cs⟩ t h j=some v
  simp only[M2,b7,M]
  exact gE _ _ _ R
 |cons d ds ai=>
  intro h j todo a
  obtain⟨M8,cu⟩:=d
  refine lj cM ?_
  show yD ⟨M8,cu⟩ ds .returning todo (f7 C bl bF bT v) C ⟨fn,n,ao,[],ay,none,cs⟩ t h j=some v
  cases M8 with
  |collected r=>
   have a:=(show QD C r h (n0 C uO.results.toList bu I ds (bj C h r (some (.deferred none))) j) from a)
   simp only[yD,a.here,show kV C r=true from SE a.low,fo,hE,YD]
   exact iz (ai _ _ _ a.go)
  |fn g cap=>
   have a:=(show uK C g (cu++cap) none h j (λ_ h j=>n0 C uO.results.toList bu I ds h j) from a).out
   split at a
   ·rename_i f
    obtain⟨M,⟨xO,c,R,ak⟩,aA⟩:=a
    simp only[yD,BM,tp,M,R,ak]
    exact aA bl dY ed cM bF bT v aD fn n ao t todo ds ay none cs λb S' an aj=>iz (ai _ _ _ aj)
   ·exact a.elim
def aiN(cM:Env C bl dY ed)(aD:D.same 30 v v=true)(b7:C.P.funcs[fn]? =some uO){bu eM:bJ}(gE:∀ac h j,bu ac h j->uD (f7 C bl bF bT v) ay cs ac h j=some v)(jV:∀ac h j,eM ac h j->NE C bl bF bT v cs ac h j){I:cV}{t:Q D}(be:hi I t)(ac:D):
 ∀(ds:List h3) (h:Q af) (j:Nat) (todo:List d1),wR C uO.results.toList bu eM I ac ds h j->oQ C bl bF bT (.panicking [⟨ac,false⟩]) todo ⟨fn,n,ao,ds,ay,none,cs⟩ t h j v:=by
 intro ds
 induction ds with
 |nil=>
  intro h j todo a
  refine lj cM ?_
  have:=jV ac h j a
  show M1 [⟨ac,false⟩] todo (f7 C bl bF bT v) C ⟨fn,n,ao,[],ay,none,cs⟩ t h j=some v
  cases cs with
  |nil=>exact this.elim
  |cons c rest=>exact this
 |cons d ds ai=>
  intro h j todo a
  obtain⟨M8,cu⟩:=d
  refine lj cM ?_
  show yD ⟨M8,cu⟩ ds (.panicking [⟨ac,false⟩]) todo (f7 C bl bF bT v) C ⟨fn,n,ao,[],ay,none,cs⟩ t h j=some v
  cases M8 with
  |collected r=>
   have a:=(show QD C r h (wR C uO.results.toList bu eM I ac ds (bj C h r (some (.deferred none))) j) from a)
   simp only[yD,a.here,show kV C r=true from SE a.low,fo,hE,YD]
   exact iz (ai _ _ _ a.go)
  |fn g cap=>
   have a:=(show uK C g (cu++cap) (some ac) h j (λb h j=>bW b (n0 C uO.results.toList bu I ds h j) (wR C uO.results.toList bu eM I ac ds h j)) from a).out
   split at a
   ·rename_i f
    obtain⟨M,⟨xO,c,R,ak⟩,aA⟩:=a
    simp only[yD,BM,tp,M,R,ak]
    refine aA bl dY ed cM bF bT v aD fn n ao t todo ds ay none cs λb S' an aj=> ?_
    cases b with
    |true=>exact iz (Q1 cM aD b7 gE be ds S' an todo aj)
    |false=>exact iz (ai _ _ _ aj)
   ·exact a.elim
end
def TB{C:aK}{f dT:Nat}(ax:cQ C f dT=true):∃fn c,C.P.funcs[f]? =some fn/\fn.body=some c/\(Nat.ble dT fn.ntmps&&mo C (Nat.lor (kK c) (oH fn.results.toList)) c&&A8 (Nat.lor (kK c) (oH fn.results.toList)) fn.results.toList)=true:=by
 unfold cQ at ax
 split at ax
 ·rename_i fn b7
  split at ax
  ·rename_i c ag;exact⟨fn,c,b7,ag,ax⟩
  ·cases ax
 ·cases ax
def IU{ai:hP}{C:aK}{fn n ao:Nat}{bh:List h3}{ay:Bool}{cs:List g4}{todo:List d1}{I:Q D}{h:Q af}{j:Nat}{S:Option Code}(bE:Wa S=true):pj S ai C todo ⟨fn,n,ao,bh,ay,none,cs⟩ I h j=ai .returning todo ⟨fn,n,ao,bh,ay,none,cs⟩ I h j:=by
 simp only[pj,bE,fo]
def JT(fn n ao:Nat)(ay:Bool)(ro:Option Nat)(cs:List g4)(I:cV):fF I0 fn n ao ay ro cs cs I=⟨fn,n,ao,[],ay,ro,cs⟩:=by
 unfold fF I0
 cases I.rc<;>rfl
def JU(fn n ao:Nat)(ay:Bool)(ro:Option Nat)(cs:List g4)(I:cV):fF AZ fn n ao ay ro cs cs I=⟨fn,n,ao,I.bh,ay,ro,cs⟩:=by
 unfold fF AZ
 cases I.rc<;>rfl
def aso{C:aK}{f:Nat}{args:List D}{h:Q af}{j:Nat}{bu eM:bJ}(ax:cQ C f args.length=true)(a:c2 C f args h j bu eM):vB C f args h j bu eM:=by
 intro bl dY ed cM bF bT v aD cs gE jV
 obtain⟨fn,c,b7,ag,ij⟩:=TB ax
 unfold c2 at a
 simp only[b7,ag]at a
 unfold o3
 simp only[b7,ag,mM,ij,fo]
 have bp:BF I0 false none cs cs:=⟨λ_=>rfl,λa=>(by cases a),λa=>(by cases a),λac a=>(by cases a)⟩
 have tX:∀I t h j todo,hi I t->rS C h I fn.results.toList (λbr=>bu (one br) h j)->
  oQ C bl bF bT .returning todo (fF I0 f fn.ntmps (Nat.lor (kK c) (oH fn.results.toList)) false none cs cs I) t h j v:=by
  intro I t h j todo be a
  rw[JT]
  exact Q1 cM aD b7 (λac h j aj=>gE ac h j aj) be [] h j todo a
 refine iz (lj cM ?_)
 rw[<-JT f fn.ntmps (Nat.lor (kK c) (oH fn.results.toList)) false none cs (cP args)]
 refine SY c cM aD I0 false none cs cs _ [] _ _ _ _ _ h j bp (λI t ac h j todo be a=> ?_) (λI t h j be a=> ?_) (λid I h j a=>a.elim) (λI t h j todo be a=> ?_) (Sv args) a
 ·rw[JT]
  exact aiN (uO:=fn) (bu:=bu) cM aD b7 (λac h j aj=>gE ac h j aj) (λac h j aj=>jV ac h j aj) be ac [] h j todo a
 ·refine lj cM ?_
  have:=tX I t h j [] be a
  rw[JT]at this ⊢
  show pj none (f7 C bl bF bT v) C [] ⟨f,fn.ntmps,Nat.lor (kK c) (oH fn.results.toList),[],false,none,cs⟩ t h j=some v
  rw[IU rfl]
  exact iz this
 ·have:=tX I t h j todo be a
  rw[JT]at this ⊢
  rw[IU rfl]
  exact iz this
def asp{C:aK}{f:Nat}{args:List D}{h:Q af}{j:Nat}{bu eM:bJ}(ax:cQ C f args.length=true)(a:B7 C f args h j bu eM):vB C f args h j bu eM:=by
 intro bl dY ed cM bF bT v aD cs gE jV
 obtain⟨fn,c,b7,ag,ij⟩:=TB ax
 unfold B7 at a
 simp only[b7,ag]at a
 unfold o3
 simp only[b7,ag,mM,ij,fo]
 have bp:BF AZ false none cs cs:=⟨λ_=>rfl,λ_=>rfl,λa=>(by cases a),λac a=>(by cases a)⟩
 have tX:∀I t h j todo,hi I t->n0 C fn.results.toList bu I I.bh h j->
  oQ C bl bF bT .returning todo (fF AZ f fn.ntmps (Nat.lor (kK c) (oH fn.results.toList)) false none cs cs I) t h j v:=by
  intro I t h j todo be a
  rw[JU]
  exact Q1 cM aD b7 (λac h j aj=>gE ac h j aj) be I.bh h j todo a
 refine iz (lj cM ?_)
 rw[show(⟨f,fn.ntmps,Nat.lor (kK c) (oH fn.results.toList),[],false,none,cs⟩:iK)=fF AZ f fn.ntmps (Nat.lor (kK c) (oH fn.results.toList)) false none cs cs (cP args) from(JU f fn.ntmps (Nat.lor (kK c) (oH fn.results.toList)) false none cs (cP args)).symm]
 refine SY c cM aD AZ false none cs cs _ [] _ _ _ _ _ h j bp (λI t ac h j todo be a=> ?_) (λI t h j be a=> ?_) (λid I h j a=>a.elim) (λI t h j todo be a=> ?_) (Sv args) a
 ·rw[JU]
  exact aiN (uO:=fn) (bu:=bu) cM aD b7 (λac h j aj=>gE ac h j aj) (λac h j aj=>jV ac h j aj) be ac I.bh h j todo a
 ·refine lj cM ?_
  have:=tX I t h j [] be a
  rw[JU]at this ⊢
  show pj none (f7 C bl bF bT v) C [] ⟨f,fn.ntmps,Nat.lor (kK c) (oH fn.results.toList),I.bh,false,none,cs⟩ t h j=some v
  rw[IU rfl]
  exact iz this
 ·have:=tX I t h j todo be a
  rw[JU]at this ⊢
  rw[IU rfl]
  exact iz this
def ad3{C:aK}{f:Nat}{args:List D}{ka:Option D}{h:Q af}{j:Nat}{bu:Bool->Q af->Nat->Prop}(ax:cQ C f args.length=true)(a:Ak C f args ka h j bu)
 {bl:World}{dY:db}{ed:Nat->Prop}(cM:Env C bl dY ed){bF:Nat}{bT:List Frame}{v:D}(aD:D.same 30 v v=true){cs dc:List g4}(bp:BF ⟨false,false,some ka⟩ true none cs dc)
 (auy:∀b ac h j,bu b h j->uD (f7 C bl bF bT v) true (bW b dc cs) ac h j=some v):o3 (f7 C bl bF bT v) C f args true cs h j=some v:=by
 obtain⟨fn,c,b7,ag,ij⟩:=TB ax
 unfold Ak at a
 simp only[b7,ag]at a
 unfold o3
 simp only[b7,ag,mM,ij,fo]
 have tX:∀I t h j todo,hi I t->rS C h I fn.results.toList (λ_=>bu I.rc h j)->
  oQ C bl bF bT .returning todo (fF ⟨false,false,some ka⟩ f fn.ntmps (Nat.lor (kK c) (oH fn.results.toList)) true none cs dc I) t h j v:=by
  intro I t h j todo be a
  exact Q1 (bu:=λ_ h j=>bu I.rc h j) cM aD b7 (λac h j aj=>auy I.rc ac h j aj) be [] h j todo a
 refine iz (lj cM ?_)
 refine SY c cM aD ⟨false,false,some ka⟩ true none cs dc _ [] _ _ _ (cP args) _ h j bp (λI t ac h j todo be a=>a.elim) (λI t h j be a=> ?_) (λid I h j a=>a.elim) (λI t h j todo be a=> ?_) (Sv args) a
 ·refine lj cM ?_
  show pj none (f7 C bl bF bT v) C [] ⟨f,fn.ntmps,Nat.lor (kK c) (oH fn.results.toList),[],true,none,bW I.rc dc cs⟩ t h j=some v
  rw[IU rfl]
  exact iz (tX I t h j [] be a)
 ·show pj (some .ret) (f7 C bl bF bT v) C todo ⟨f,fn.ntmps,Nat.lor (kK c) (oH fn.results.toList),[],true,none,bW I.rc dc cs⟩ t h j=some v
  rw[IU rfl]
  exact iz (tX I t h j todo be a)
def Oy{C:aK}{f:Nat}{args:List D}{ka:Option D}{h:Q af}{j:Nat}{bu:Bool->Q af->Nat->Prop}(ax:cQ C f args.length=true)(a:Ak C f args ka h j bu):X9 C f args ka h j bu:=by
 intro bl dY ed cM bF bT v aD TA aO C6 si XP arj Kt Xo sp gE
 cases ka with
 |none=>
  refine ad3 ax a cM aD (dc:=_) ⟨λ_=>rfl,λa=>(by cases a),λa=>⟨rfl,rfl⟩,λac a=>(by cases a)⟩ (λb ac h j aj=> ?_)
  have:=gE b h j aj
  cases b<;>exact this
 |some p=>
  refine ad3 ax a cM aD (dc:=(⟨TA,aO,C6,si,XP,arj, .panicking [⟨p,true⟩],Kt,Xo⟩:g4)::sp) ⟨λ_=>rfl,λa=>(by cases a),λa=>(by cases a),λac a=> ?_⟩ (λb ac h j aj=> ?_)
  ·simp only[Zf]at a
   subst a
   exact⟨rfl,rfl⟩
  ·have:=gE b h j aj
   cases b<;>exact this
def aqo{C:aK}{bl:World}{dY:db}{ed:Nat->Prop}(cM:Env C bl dY ed){f:Nat}{args:List D}{v:D}(aD:D.same 30 v v=true)(f1:ew ed args)
 (a:vB C f args .nil C.a2 (λac _ _=>ac=v) (λ_ _ _=>False)):Calls C.P f (b4 dY args).toArray bl λE b1=>(∃T,E= .returned (aQ T v))/\Below bl.heap.size bl b1:=by
 intro sp
 have bU:Ends C bl f sp v (lone (Frame.enter C.P f (b4 dY args).toArray .normal) sp bl):=
  Ol aco cM.base (Below.refl _ _) cM.gv (Zj _) .nil (λ_=>rfl) f1
   (a bl dY ed cM f sp v aD [] (λac S' an E=>by subst E;rfl) (λac S' an E=>E.elim))
 obtain⟨T,b1,fr,bz,cF,f0,kj⟩:=bU
 exact⟨.returned (aQ T v),b1,fr,⟨⟨T,rfl⟩,kj⟩,bz,f0,cF⟩
end
noncomputable section
section
variable{C:aK}{h:Q af}{j:Nat}
def a7{b:Nat}{W:Option af}(a:C.a2<=b):U C (bj C h b W) b=W:=by rw[ga _ a,Zr rfl]
def aB{b x:Nat}{W:Option af}(a:C.a2<=b)(ae:x≠b):U C (bj C h b W) x=U C h x:=by rw[ga _ a,Zh ae]
def cv(b W:Nat):aP C h (.ptr b W)=match U C h b with|some (.cells c _ _)=>c.get W|_=>none:=by
 simp only[aP,cellsOf]
 cases U C h b with
 |none=>rfl
 |some cU=>cases cU<;>rfl
def wJ(n b W:Nat):cG C h n (.ptr b W)=match U C h b with|some (.cells c _ _)=>(c.li W n).map D.agg|_=>none:=by
 simp only[cG,cellsOf]
 cases U C h b with
 |none=>rfl
 |some cU=>
  cases cU with
  |cells c m st=>simp only[];cases c.li W n<;>rfl
  |_=>rfl
def ael(c:Q D)(W:Nat):c.li W 0=some []:=rfl
def gQ:∀(l:List D) (c:Q D) (W i:Nat),(dS c W l).get i=if W<=i/\i<W+l.length then l[i-W]? else c.get i:=by
 intro l
 induction l with
 |nil=>intro c W i;simp[dS];intro M R;omega
 |cons H l ai=>
  intro c W i
  simp only[dS,hE]
  rw[ai,Q.kW]
  by_cases M:i=W
  ·subst M
   simp
   intro a;omega
  ·by_cases R:W+1<=i/\i<W+1+l.length
   ·rw[Zr R,Zr Zx]
    rw[show i-W=(i-(W+1))+1 by omega]
    simp
   ·rw[Zh R,Zh (λE=>M E.symm),Zh Zx]
def CX{b W n:Nat}{c:Q D}{st:oU}(a:C.a2<=b):aP C (bj C h b (some (.cells c n st))) (.ptr b W)=c.get W:=by
 rw[cv,a7 a]
def FE{b x W:Nat}{cU:Option af}(a:C.a2<=b)(ae:x≠b):aP C (bj C h b cU) (.ptr x W)=aP C h (.ptr x W):=by
 rw[cv,cv,aB a ae]
def p2(C:aK)(h:Q af)(b:Nat):Nat->Nat->Option (List D)
 |_,0=>some []
 |W,n+1=>(aP C h (.ptr b W)).bind λH=>(p2 C h b (W+1) n).bind λl=>some (H::l)
def wK{b W n:Nat}:cG C h (n+1) (.ptr b W)=(p2 C h b W (n+1)).bind λl=>some (.agg l):=by
 have a:∀(c:Q D) (m:Nat) (st:oU),U C h b=some (.cells c m st)->∀n W,p2 C h b W n=c.li W n:=by
  intro c m st ag n
  induction n with
  |zero=>intro W;rfl
  |succ n ai=>
   intro W
   simp only[p2,Q.li,cv,ag,ai]
   cases c.get W with
   |none=>rfl
   |some H=>cases c.li (W+1) n<;>rfl
 rw[wJ]
 cases ag:U C h b with
 |none=>simp[p2,cv,ag]
 |some cU=>
  cases cU with
  |cells c m st=>
   simp only[a c m st ag]
   cases c.li W (n+1)<;>rfl
  |_=>simp[p2,cv,ag]
structure ba(C:aK)(h:Q af)(j:Nat)(S':Q af)(an:Nat):Prop where
 le:j<=an
 aa:∀b,b<j->U C S' b=U C h b
def ba.refl(h:Q af)(j:Nat):ba C h j h j:=⟨Zj _,λ_ _=>rfl⟩
def ba.trans{aI aM a1:Q af}{aO aZ bi:Nat}(a:ba C aI aO aM aZ)(z:ba C aM aZ a1 bi):ba C aI aO a1 bi:=
 ⟨ZB a.le z.le,λb ag=>(z.aa b (ZN ag a.le)).trans (a.aa b ag)⟩
def ba.eV{S':Q af}{an:Nat}(a:ba C h j S' an)(b W:Nat)(ag:b<j):aP C S' (.ptr b W)=aP C h (.ptr b W):=by
 rw[cv,cv,a.aa b ag]
def ba.fresh(a:C.a2<=j)(cU:Option af):ba C h j (bj C h j cU) (j+1):=
 ⟨Z9 _,λb ag=>aB a Zo⟩
def ba.more{S':Q af}{an n:Nat}(z:ba C h j S' an)(a:an<=n):ba C h j S' n:=⟨ZB z.le a,z.aa⟩
def ba.j9{S':Q af}{an dh:Nat}(z:ba C h j S' an)(a:dh<=j):ba C h dh S' an:=⟨ZB a z.le,λb ag=>z.aa b (ZN ag a)⟩
def us{b W n:Nat}{c:Q D}{v:D}(a:U C h b=some (.cells c n .own))(ag:C.a2<=b)(bf:W+1<=n)(bB:v.cells=[v])(M:qV v=true):
 gq C h 1 (.ptr b W) v=some (bj C h b (some (.cells (c.set W (some v)) n .own))):=by
 have bz:Nat.ble (W+1) n=true:=by simpa using bf
 have cF:Nat.ble C.a2 b=true:=by simpa using ag
 simp[gq,bB,xr,a,kV,jf,M,bz,cF,dS,fN,Nat.blt]
def Ew:List D->List (Nat×Nat×D)->Option (List D)
 |cells,[]=>some cells
 |cells,(off,size,v)::rest=>bW (Nat.beq v.cells.length size&&Nat.ble (off+size) cells.length) (Ew (n3 cells off v.cells) rest) none
def e6(s7:List D)(dq:List (Nat×Nat×D)):Option D:=match Ew s7 dq with|some cs=>some (.agg cs)|none=>none
def hD(s7:List D)(b:Nat):Option (D×af):=some (.ptr b 0, .cells (Q.ofList s7 0 .nil) s7.length .own)
def hC(len:Nat)(s7:List D)(dq:List (Nat×Nat×D))(b:Nat):Option (D×af):=match Ew s7 dq with
 |some cs=>some (.slice b 0 len len, .cells (Q.ofList cs 0 .nil) cs.length .own)
 |none=>none
def ss(agg:Bool)(off size:Nat)(v:D):Option D:=match v with| .agg cs=>bW agg (some (.agg ((cs.drop off).take size))) (sY cs off)|_=>none
def gz(v:D):Option D:=match v with| .slice _ _ n _=>qO .i64 (Int.ofNat n)| .fj _ _ n _=>qO .i64 (Int.ofNat n)| .aV=>some (.int .i64 0)|_=>none
def nq(v:D):Option D:=match v with| .str s=>qO .i64 (Int.ofNat s.length)|_=>none
def og(z:IntKind)(v:D):Option D:=match (match v with| .int _ n=>lM z n|_=>none)with|some v=>some v|none=>none
def aqW(v:D):Option D:=match (match v with| .str s=>some (D.str s)|_=>none)with|some v=>some v|none=>none
def BX(C:aK)(h:Q af)(v:D):Option D:=match (match v with| .str s=>some (D.str s)|_=>none)with|some v=>some v|none=>Hg C h v
def Hk(t:Nat)(bm:D)(ok:Bool)(v:D):Option D:=match v with
 | .nilIface=>bW ok (some (.tuple [bm, .bool false])) none
 | .iface hp w=>bW (Nat.beq hp t) (some (bW ok (.tuple [w, .bool true]) w)) (bW ok (some (.tuple [bm, .bool false])) none)
 |_=>none
def nU(C:aK)(h:Q af)(j8:Nat)(bm m z:D)(ok:Bool):Option D:=
 match (match m with
  | .mF=>bW (nH C 20 j8 z) (some none) none
  | .map r=>(match U C h r with|some (.map cb _)=>bW (nH C 20 j8 z) (findKey C h j8 z cb 0) none|some (.look cb)=>bW (nH C 20 j8 z) (IY (p6 C h j8 z cb)) none|_=>none)
  |_=>none)with
  |none=>none
  |some none=>some (bW ok (.tuple [bm, .bool false]) bm)
  |some (some (_,v))=>some (bW ok (.tuple [v, .bool true]) v)
def jC(C:aK)(h:Q af)(j bt:Nat)(s x:D):Option ee:=match lu C h bt x with
 |some (n,l)=>bW (Nat.beq n 0) (Hi C h bt s) (y2 C h j bt n l s)
 |none=>none
def uc(C:aK)(h:Q af)(j j8:Nat)(m z v:D):Option ee:=match m with
 | .map r=>(match U C h r with
   |some (.map cb fe)=>bW (nH C 20 j8 z) (match findKey C h j8 z cb 0 with
    |some (some (i,_))=>(match sY cb i with
     |some (eY,_,born)=>bW (oC 20 eY z) (setObj C h j r (.map (cb.set i (z,v,born)) fe) undef) none
     |none=>none)
    |some none=>setObj C h j r (.map (cb++[(z,v,fe)]) (fe+1)) undef
    |none=>none) none
   |_=>none)
 |_=>none
def va(agg:Bool)(n bt:Nat)(v i:D):Option D:=match nV i with
 |none=>none
 |some i=>match v with
  | .agg cs=>bW (Nat.blt i n) (bW agg (some (.agg ((cs.drop (i*bt)).take bt))) (sY cs (i*bt))) none
  |_=>none
def oB(v i:D):Option D:=match nV i with
 |none=>none
 |some i=>match v with
  | .str s=>(match sY s i with|some c=>some (.int .u8 (Int.ofNat c))|none=>none)
  |_=>none
def nw(v:D)(bL aG:Option D):Option D:=match v with
 | .str s=>(match mH s.length s.length bL aG none with
    |some (l,a,_)=>some (.str ((s.drop l).take (a-l)))
    |none=>none)
 |_=>none
def ur(C:aK)(h:Q af)(bt:Nat)(x:D)(bL aG hA:Option D):Option D:=match x with
 | .slice b W len cap=>(match mH len cap bL aG hA with
   |some (l,a,m)=>some (.slice b (bW (Nat.beq m l) W (W+l*bt)) (a-l) (m-l))
   |_=>none)
 | .aV=>(match mH 0 0 bL aG hA with
   |some _=>some .aV
   |_=>none)
 | .fj b W len Gw=>(match yC C h b with
   |some n=>bW (Nat.beq Gw bt&&Nat.blt 0 Gw) (match mH len ((n-W)/Gw) bL aG hA with
     |some (l,a,m)=>(match hA with
      |some _=>some (.slice b (bW (Nat.beq m l) W (W+l*Gw)) (a-l) (m-l))
      |none=>bW (Nat.blt l ((n-W)/Gw)||Nat.beq l 0) (some (.fj b (W+l*Gw) (a-l) Gw)) none)
     |none=>none) none
   |_=>none)
 |_=>none
def Xz(n bt:Nat)(x:D)(bL aG hA:Option D):Option D:=match x with
 | .ptr b W=>(match mH n n bL aG hA with
   |some (l,a,m)=>some (.slice b (bW (Nat.beq m l) W (W+l*bt)) (a-l) (m-l))
   |_=>none)
 |_=>none
def Xn(C:aK)(h:Q af)(j:Nat)(v:D):Option ee:=match v with
 | .str s=>nW C h j (.pp s 0) λb=> .ptr b 0
 |_=>none
def Q9(C:aK)(h:Q af)(j:Nat)(v:D):Option ee:=match v with
 | .str l=>uT C h j l.length 1 (l.map λn=>D.int .u8 (Int.ofNat n))
 |_=>none
def oF{α:Type}{H:α}{ah:α->Prop}(a:ah H):ap (some H) ah:=⟨a⟩
def m0{α:Type}{H:α}{ah:α->Prop}(a:ah H):cw (some H) ah:=a
def pG{H:D}{ah:bJ}(a:ah (.ptr j 0) (bj C h j (some (.cells (Q.ofList H.cells 0 .nil) H.cells.length .own))) (j+1)):ha C h j H ah:=⟨a⟩
def WO{v:D}{cU:af}{ah:bJ}(a:ah v (bj C h j (some cU)) (j+1)):gO C h j v cU ah:=⟨a⟩
def WP{v:D}{cU:af}{ah:bJ}(a:ah v (bj C h j (some cU)) (j+1)):gO C h j (Prod.mk v cU).1 (Prod.mk v cU).2 ah:=⟨a⟩
def WN{b:Nat}{v:D}{cU:af}{ah:D->Q af->Prop}(a:ah v (bj C h b (some cU))):mE C h b (Prod.mk v cU).1 (Prod.mk v cU).2 ah:=⟨a⟩
def SH{b:Nat}{H:D}{ah:D->Q af->Prop}(a:ah (.ptr b 0) (bj C h b (some (.cells (Q.ofList H.cells 0 .nil) H.cells.length .own)))):y6 C h b H ah:=⟨a⟩
def WM{b:Nat}{v:D}{cU:af}{ah:D->Q af->Prop}(a:ah v (bj C h b (some cU))):mE C h b v cU ah:=⟨a⟩
def gi{dK:fB}{body:fB->Prop}(a:body dK):bk dK body:=⟨a⟩
def V9{dK:bJ}{body:bJ->Prop}(a:body dK):p0 dK body:=⟨a⟩
def V6{dK:D->Prop}{body:(D->Prop)->Prop}(a:body dK):cS dK body:=⟨a⟩
def V7{dK:D->Q af->Prop}{body:(D->Q af->Prop)->Prop}(a:body dK):wE dK body:=⟨a⟩
def V8{dK:Prop}{body:Prop->Prop}(a:body dK):Me dK body:=⟨a⟩
def Wy{n:Nat}{ah:Nat->Prop}(a:ah n):fb n ah:=⟨a⟩
def Xi{v:D}{S':Q af}{an:Nat}{ah:bJ}(a:ah v S' an):h0 (some (.fv v S' an)) h j ah:=⟨a⟩
def Xj{v:D}{ah:bJ}(a:ah v h j):h0 (some (.val v)) h j ah:=⟨a⟩
def xz{H b:Prop}(a:H):aR (.bool true) H b:=⟨⟨λ_=>a,λE=>(by cases E)⟩⟩
def xy{H b:Prop}(a:b):aR (.bool false) H b:=⟨⟨λE=>(by cases E),λ_=>a⟩⟩
def HR{H b:Prop}(a:H):iB true (.bool true) H b:=⟨⟨λ_=>a,λE=>(by cases E)⟩⟩
def HQ{H b:Prop}(a:b):iB true (.bool false) H b:=⟨⟨λE=>(by cases E),λ_=>a⟩⟩
def HP{H b:Prop}(a:b):iB false (.bool true) H b:=⟨⟨λE=>(by cases E),λ_=>a⟩⟩
def HO{H b:Prop}(a:H):iB false (.bool false) H b:=⟨⟨λ_=>a,λE=>(by cases E)⟩⟩
def L8{f:Nat}{H cu b:List D}{ah av:bJ}(a:aU C f ((H++cu)++b) h j ah av):jq C (.func (.func f) H b) cu h j ah av:=⟨a⟩
def f4{x e:D}{ah:Prop}(a:D.same 30 x e=true)(z:ah):gb x (some e) ah:=⟨⟨a,z⟩⟩
@[congr] def aEI{v hr:D}{H b:Prop}(a:v=hr):aR v H b=aR hr H b:=by rw[a]
@[congr] def aEV{w:Bool}{v hr:D}{H b:Prop}(a:v=hr):iB w v H b=iB w hr H b:=by rw[a]
@[congr] def aEM{f:Nat}{cu acx:List D}{ah av:bJ}(a:cu=acx):aU C f cu h j ah av=aU C f acx h j ah av:=by rw[a]
def aU.mono{f:Nat}{cu:List D}{ah av Bq eE:bJ}(a:aU C f cu h j ah av)(jp:∀ac S' an,ah ac S' an->Bq ac S' an)(cC:∀ac S' an,av ac S' an->eE ac S' an):aU C f cu h j Bq eE:=by
 rcases a.out with ⟨ac,M,R⟩|⟨M,R,ak⟩
 ·exact⟨.inl ⟨ac,M,jp _ _ _ R⟩⟩
 ·exact⟨.inr ⟨M,R,ak.mono jp cC⟩⟩
def Ox{f dT:Nat}(a:cQ C f dT=true):∃fn c,C.P.funcs[f]? =some fn/\fn.body=some c:=by
 unfold cQ at a
 split at a
 ·rename_i fn b7
  split at a
  ·rename_i c ax;exact⟨fn,c,b7,ax⟩
  ·cases a
 ·cases a
def cW{f:Nat}{cu:List D}{ah av:bJ}(ax:cQ C f cu.length=true)(bf:C.hB f cu=none)(a:c2 C f cu h j ah av):aU C f cu h j ah av:=
 ⟨.inr ⟨bf,Ox ax,aso ax a⟩⟩
def xB{f:Nat}{cu:List D}{ah av:bJ}{ac:D}(bf:C.hB f cu=some ac)(a:ah ac h j):aU C f cu h j ah av:=⟨.inl ⟨ac,bf,a⟩⟩
def vk(I:cV)(d n:Nat)(v:D):(Z I d v).g n=if d=n then some v else I.g n:=by show bW (Nat.beq d n) (some v) (I.g n)=_;rw[h4]
def yB(I:cV)(d:Nat)(v:D):(Z I d v).bh=I.bh:=rfl
def Gn(I:cV)(d:Nat)(v:D):(Z I d v).rc=I.rc:=rfl
def D9(l:List D)(n:Nat):(cP l).g n=l[n]? :=by simp[cP]
def BO(l:List D):(cP l).bh=[]:=rfl
def Ea(l:List D):(cP l).rc=false:=rfl
def vS(l:List Nat)(I:cV)(n:Nat):(h5 l I).g n=bW (rN n l) none (I.g n):=rfl
def Gc(I:cV)(d:h3)(n:Nat):(A7 I d).g n=I.g n:=rfl
def Gb(I:cV)(d:h3):(A7 I d).bh=d::I.bh:=rfl
def FN(I:cV)(d n:Nat):(wN I d).g n=I.g n:=rfl
def AY(I:cV)(d:Nat):(wN I d).bh=⟨.collected d,[]⟩::I.bh:=rfl
def Kn{f:Nat}{cu:List D}{ah av:bJ}(ax:cQ C f cu.length=true)(bf:C.hB f cu=none)(a:B7 C f cu h j ah av):aU C f cu h j ah av:=
 ⟨.inr ⟨bf,Ox ax,asp ax a⟩⟩
def acT{f:Nat}{cu:List D}{ah av:bJ}(bf:C.hB f cu=none)(a:aU C f cu h j ah av):vB C f cu h j ah av:=by
 rcases a.out with ⟨ac,M,R⟩|⟨M,R,ak⟩
 ·rw[bf]at M;cases M
 ·exact ak
def BS{p:Prop}[Decidable p]{H b:Prop}(M:p->H)(R:¬p->b):aR (.bool (decide p)) H b:=⟨λE=>M (by simpa using E),λE=>R (by simpa using E)⟩
def iG(b W:Nat):cG C h 2 (.ptr b W)=(aP C h (.ptr b W)).bind λlW=>(aP C h (.ptr b (W+1))).bind λji=>some (.agg [lW,ji]):=by
 rw[wK]
 simp only[p2,ZK,Nat.reduceAdd,Yf,ZL]
def wL(b W:Nat):cG C h 3 (.ptr b W)=(aP C h (.ptr b W)).bind λlW=>(aP C h (.ptr b (W+1))).bind λji=>(aP C h (.ptr b (W+2))).bind λh2=>some (.agg [lW,ji,h2]):=by
 rw[wK]
 simp only[p2,ZK,Nat.reduceAdd,Yf,ZL]
def sN(b W:Nat):cG C h 4 (.ptr b W)=(aP C h (.ptr b W)).bind λlW=>(aP C h (.ptr b (W+1))).bind λji=>(aP C h (.ptr b (W+2))).bind λh2=>(aP C h (.ptr b (W+3))).bind λkd=>some (.agg [lW,ji,h2,kd]):=by
 rw[wK]
 simp only[p2,ZK,Nat.reduceAdd,Yf,ZL]
def FH(b W:Nat):cG C h 5 (.ptr b W)=(aP C h (.ptr b W)).bind λlW=>(aP C h (.ptr b (W+1))).bind λji=>(aP C h (.ptr b (W+2))).bind λh2=>(aP C h (.ptr b (W+3))).bind λkd=>(aP C h (.ptr b (W+4))).bind λlX=>some (.agg [lW,ji,h2,kd,lX]):=by
 rw[wK]
 simp only[p2,ZK,Nat.reduceAdd,Yf,ZL]
def FI(b W:Nat):cG C h 6 (.ptr b W)=(aP C h (.ptr b W)).bind λlW=>(aP C h (.ptr b (W+1))).bind λji=>(aP C h (.ptr b (W+2))).bind λh2=>(aP C h (.ptr b (W+3))).bind λkd=>(aP C h (.ptr b (W+4))).bind λlX=>(aP C h (.ptr b (W+5))).bind λuy=>some (.agg [lW,ji,h2,kd,lX,uy]):=by
 rw[wK]
 simp only[p2,ZK,Nat.reduceAdd,Yf,ZL]
def FJ(b W:Nat):cG C h 7 (.ptr b W)=(aP C h (.ptr b W)).bind λlW=>(aP C h (.ptr b (W+1))).bind λji=>(aP C h (.ptr b (W+2))).bind λh2=>(aP C h (.ptr b (W+3))).bind λkd=>(aP C h (.ptr b (W+4))).bind λlX=>(aP C h (.ptr b (W+5))).bind λuy=>(aP C h (.ptr b (W+6))).bind λvx=>some (.agg [lW,ji,h2,kd,lX,uy,vx]):=by
 rw[wK]
 simp only[p2,ZK,Nat.reduceAdd,Yf,ZL]
def nT(b W:Nat):cG C h 8 (.ptr b W)=(aP C h (.ptr b W)).bind λlW=>(aP C h (.ptr b (W+1))).bind λji=>(aP C h (.ptr b (W+2))).bind λh2=>(aP C h (.ptr b (W+3))).bind λkd=>(aP C h (.ptr b (W+4))).bind λlX=>(aP C h (.ptr b (W+5))).bind λuy=>(aP C h (.ptr b (W+6))).bind λvx=>(aP C h (.ptr b (W+7))).bind λxa=>some (.agg [lW,ji,h2,kd,lX,uy,vx,xa]):=by
 rw[wK]
 simp only[p2,ZK,Nat.reduceAdd,Yf,ZL]
def FK(b W:Nat):cG C h 9 (.ptr b W)=(aP C h (.ptr b W)).bind λlW=>(aP C h (.ptr b (W+1))).bind λji=>(aP C h (.ptr b (W+2))).bind λh2=>(aP C h (.ptr b (W+3))).bind λkd=>(aP C h (.ptr b (W+4))).bind λlX=>(aP C h (.ptr b (W+5))).bind λuy=>(aP C h (.ptr b (W+6))).bind λvx=>(aP C h (.ptr b (W+7))).bind λxa=>(aP C h (.ptr b (W+8))).bind λBo=>some (.agg [lW,ji,h2,kd,lX,uy,vx,xa,Bo]):=by
 rw[wK]
 simp only[p2,ZK,Nat.reduceAdd,Yf,ZL]
def FF(b W:Nat):cG C h 10 (.ptr b W)=(aP C h (.ptr b W)).bind λlW=>(aP C h (.ptr b (W+1))).bind λji=>(aP C h (.ptr b (W+2))).bind λh2=>(aP C h (.ptr b (W+3))).bind λkd=>(aP C h (.ptr b (W+4))).bind λlX=>(aP C h (.ptr b (W+5))).bind λuy=>(aP C h (.ptr b (W+6))).bind λvx=>(aP C h (.ptr b (W+7))).bind λxa=>(aP C h (.ptr b (W+8))).bind λBo=>(aP C h (.ptr b (W+9))).bind λvy=>some (.agg [lW,ji,h2,kd,lX,uy,vx,xa,Bo,vy]):=by
 rw[wK]
 simp only[p2,ZK,Nat.reduceAdd,Yf,ZL]
def CZ(b W:Nat):cG C h 11 (.ptr b W)=(aP C h (.ptr b W)).bind λlW=>(aP C h (.ptr b (W+1))).bind λji=>(aP C h (.ptr b (W+2))).bind λh2=>(aP C h (.ptr b (W+3))).bind λkd=>(aP C h (.ptr b (W+4))).bind λlX=>(aP C h (.ptr b (W+5))).bind λuy=>(aP C h (.ptr b (W+6))).bind λvx=>(aP C h (.ptr b (W+7))).bind λxa=>(aP C h (.ptr b (W+8))).bind λBo=>(aP C h (.ptr b (W+9))).bind λvy=>(aP C h (.ptr b (W+10))).bind λRB=>some (.agg [lW,ji,h2,kd,lX,uy,vx,xa,Bo,vy,RB]):=by
 rw[wK]
 simp only[p2,ZK,Nat.reduceAdd,Yf,ZL]
def FG(b W:Nat):cG C h 12 (.ptr b W)=(aP C h (.ptr b W)).bind λlW=>(aP C h (.ptr b (W+1))).bind λji=>(aP C h (.ptr b (W+2))).bind λh2=>(aP C h (.ptr b (W+3))).bind λkd=>(aP C h (.ptr b (W+4))).bind λlX=>(aP C h (.ptr b (W+5))).bind λuy=>(aP C h (.ptr b (W+6))).bind λvx=>(aP C h (.ptr b (W+7))).bind λxa=>(aP C h (.ptr b (W+8))).bind λBo=>(aP C h (.ptr b (W+9))).bind λvy=>(aP C h (.ptr b (W+10))).bind λRB=>(aP C h (.ptr b (W+11))).bind λaEk=>some (.agg [lW,ji,h2,kd,lX,uy,vx,xa,Bo,vy,RB,aEk]):=by
 rw[wK]
 simp only[p2,ZK,Nat.reduceAdd,Yf,ZL]
def GF(z0 a0:D):dS (Q.ofList [z0] 0 .nil) 0 [a0]=Q.ofList [a0] 0 .nil:=by rfl
def GJ(z0 f5 a0 bb:D):dS (Q.ofList [z0,f5] 0 .nil) 0 [a0,bb]=Q.ofList [a0,bb] 0 .nil:=by rfl
def GK(z0 f5 fK a0 bb b5:D):dS (Q.ofList [z0,f5,fK] 0 .nil) 0 [a0,bb,b5]=Q.ofList [a0,bb,b5] 0 .nil:=by rfl
def GL(z0 f5 fK z3 a0 bb b5 a3:D):dS (Q.ofList [z0,f5,fK,z3] 0 .nil) 0 [a0,bb,b5,a3]=Q.ofList [a0,bb,b5,a3] 0 .nil:=by rfl
def GM(z0 f5 fK z3 z4 a0 bb b5 a3 a4:D):dS (Q.ofList [z0,f5,fK,z3,z4] 0 .nil) 0 [a0,bb,b5,a3,a4]=Q.ofList [a0,bb,b5,a3,a4] 0 .nil:=by rfl
def GN(z0 f5 fK z3 z4 z5 a0 bb b5 a3 a4 a5:D):dS (Q.ofList [z0,f5,fK,z3,z4,z5] 0 .nil) 0 [a0,bb,b5,a3,a4,a5]=Q.ofList [a0,bb,b5,a3,a4,a5] 0 .nil:=by rfl
def GO(z0 f5 fK z3 z4 z5 s6 a0 bb b5 a3 a4 a5 hR:D):dS (Q.ofList [z0,f5,fK,z3,z4,z5,s6] 0 .nil) 0 [a0,bb,b5,a3,a4,a5,hR]=Q.ofList [a0,bb,b5,a3,a4,a5,hR] 0 .nil:=by rfl
def GP(z0 f5 fK z3 z4 z5 s6 Bp a0 bb b5 a3 a4 a5 hR io:D):dS (Q.ofList [z0,f5,fK,z3,z4,z5,s6,Bp] 0 .nil) 0 [a0,bb,b5,a3,a4,a5,hR,io]=Q.ofList [a0,bb,b5,a3,a4,a5,hR,io] 0 .nil:=by rfl
def GQ(z0 f5 fK z3 z4 z5 s6 Bp qk a0 bb b5 a3 a4 a5 hR io ip:D):dS (Q.ofList [z0,f5,fK,z3,z4,z5,s6,Bp,qk] 0 .nil) 0 [a0,bb,b5,a3,a4,a5,hR,io,ip]=Q.ofList [a0,bb,b5,a3,a4,a5,hR,io,ip] 0 .nil:=by rfl
def GG(z0 f5 fK z3 z4 z5 s6 Bp qk z9 a0 bb b5 a3 a4 a5 hR io ip a9:D):dS (Q.ofList [z0,f5,fK,z3,z4,z5,s6,Bp,qk,z9] 0 .nil) 0 [a0,bb,b5,a3,a4,a5,hR,io,ip,a9]=Q.ofList [a0,bb,b5,a3,a4,a5,hR,io,ip,a9] 0 .nil:=by rfl
def GH(z0 f5 fK z3 z4 z5 s6 Bp qk z9 X3 a0 bb b5 a3 a4 a5 hR io ip a9 J7:D):dS (Q.ofList [z0,f5,fK,z3,z4,z5,s6,Bp,qk,z9,X3] 0 .nil) 0 [a0,bb,b5,a3,a4,a5,hR,io,ip,a9,J7]=Q.ofList [a0,bb,b5,a3,a4,a5,hR,io,ip,a9,J7] 0 .nil:=by rfl
def GI(z0 f5 fK z3 z4 z5 s6 Bp qk z9 X3 aEw a0 bb b5 a3 a4 a5 hR io ip a9 J7 ab8:D):dS (Q.ofList [z0,f5,fK,z3,z4,z5,s6,Bp,qk,z9,X3,aEw] 0 .nil) 0 [a0,bb,b5,a3,a4,a5,hR,io,ip,a9,J7,ab8]=Q.ofList [a0,bb,b5,a3,a4,a5,hR,io,ip,a9,J7,ab8] 0 .nil:=by rfl
def yL(c:Q D)(W:Nat)(v:D):(dS c W [v]).get W=some v:=by rw[gQ];simp
def GC{c:Q D}{W i:Nat}{v:D}(a:i≠W):(dS c W [v]).get i=c.get i:=by rw[gQ,Zh Zx]
def iH{b W z n:Nat}{c:Q D}{v:D}(a:U C h b=some (.cells c n .own))(ag:C.a2<=b)(aJ:v.cells.length=z)(aX:0<z)(bf:W+z<=n)(M:jf v.cells=true):
 gq C h z (.ptr b W) v=some (bj C h b (some (.cells (dS c W v.cells) n .own))):=by
 subst aJ
 have cF:Nat.blt 0 v.cells.length=true:=by simp[Nat.blt];omega
 have f0:Nat.beq v.cells.length v.cells.length=true:=by simp
 have bz:Nat.ble (W+v.cells.length) n=true:=by simpa using bf
 have kj:Nat.ble C.a2 b=true:=by simpa using ag
 simp only[gq,xr,a,kV,kj,bz,cF,f0,M,Yn,fo,hE]
def sT(z:IntKind)(n:Nat):nV (.int z (n:Int))=some n:=rfl
def azI(z:IntKind):nV (.int z 0)=some 0:=rfl
def Ft(z:IntKind)(x e:Int):bn .lss (.int z x) (.int z e)=some (.bool (decide (x<e))):=by
 cases z<;>simp[bn,mB,mU,mi,xA,u9]<;>(rw[Ya];simp)
def Fr(z:IntKind)(x e:Int):bn .gtr (.int z x) (.int z e)=some (.bool (decide (e<x))):=by
 cases z<;>simp[bn,mB,mU,mi,xA,u9]<;>(rw[Ya];simp)
def Fs(z:IntKind)(x e:Int):bn .leq (.int z x) (.int z e)=some (.bool (decide (x<=e))):=by
 cases z<;>simp[bn,mB,mU,mi,xA,u9]<;>(rw[Ya];simp)
def Fq(z:IntKind)(x e:Int):bn .geq (.int z x) (.int z e)=some (.bool (decide (e<=x))):=by
 cases z<;>simp[bn,mB,mU,mi,xA,u9]<;>(rw[Ya];simp)
def Fp(z:IntKind)(x e:Int):bn .eql (.int z x) (.int z e)=some (.bool (decide (x=e))):=by
 cases z<;>simp[bn,mB,mU,mi,xA,CO]
def Fu(z:IntKind)(x e:Int):bn .neq (.int z x) (.int z e)=some (.bool (decide (x≠e))):=by
 cases z<;>simp[bn,mB,mU,mi,xA,CO]
def wrap64{n:Int}(M: -9223372036854775808<=n)(R:n<9223372036854775808):qj .i64 n=n:=by
 simp only[qj,fN,Zg]
 split<;>omega
def en{x e:Int}(M: -9223372036854775808<=x+e)(R:x+e<9223372036854775808):bn .add (.int .i64 x) (.int .i64 e)=some (.int .i64 (x+e)):=by
 simp[bn,mB,mU,mi,lM,wrap64 M R]
def wD{x e:Int}(M: -9223372036854775808<=x-e)(R:x-e<9223372036854775808):bn .sub (.int .i64 x) (.int .i64 e)=some (.int .i64 (x-e)):=by
 simp[bn,mB,mU,mi,lM,wrap64 M R]
def ag9(x e:Int):bn .add (.int .u64 x) (.int .u64 e)=some (.int .u64 ((x+e)%18446744073709551616)):=by
 simp[bn,mB,mU,mi,lM,qj]
def IM{bt b W len cap i:Nat}(z:IntKind)(a:i<len):gy bt (.slice b W len cap) (.int z (i:Int))=some (.ptr b (W+i*bt)):=by
 simp[gy,sT,DB,fN,Nat.blt,a];omega
def IN{bt b W len cap i:Nat}(z:IntKind)(a:i<len):gy bt (.fj b W len cap) (.int z (i:Int))=some (.ptr b (W+i*bt)):=by
 simp[gy,sT,DB,fN,Nat.blt,a];omega
def GU(d b W:Nat):gr d (.ptr b W)=some (.ptr b (W+d)):=rfl
def GR(i:Nat)(l:List D):n8 i (.tuple l)=l[i]? :=by simp[n8]
def GS(b W:Nat):s5 (.ptr b W)=some (.ptr b W):=rfl
def F0(b:Bool):gm .not (.bool b)=some (.bool (!b)):=by simp[gm,xA]
def yS(c:Q D)(l:List D):Prop:=∀i,c.get i=l[i]?
def l8(l:List D):yS (Q.ofList l 0 .nil) l:=λi=>mZ l i
def yS.app{c:Q D}{l:List D}(a:yS c l)(m:List D):yS (dS c l.length m) (l++m):=by
 intro i
 rw[gQ]
 by_cases M:l.length<=i/\i<l.length+m.length
 ·rw[Zr M,ZW M.1]
 ·rw[Zh M,a i]
  by_cases R:i<l.length
  ·rw[Z6 R]
  ·rw[Z4 Zo,Z4 Zx]
end
end
noncomputable section
section
variable{C:aK}{h:Q af}{j:Nat}
def lC{H b:Nat}(a:H<=b):Nat.ble H b=true:=by simpa using a
def jB(C:aK)(h:Q af)(s:D)(bt:Nat)(l:List D)(cq:List Nat):Prop:=
 (s= .aV/\l=[]/\cq=[])\/∃b fp n c,s= .fj b 0 n bt/\l.length=n*bt/\cq=b::fp/\(∀x∈cq,C.a2<=x)/\b∉fp/\U C h b=some (.cells c (n*bt) (.grow fp))/\yS c l
def jB.aa{S':Q af}{s:D}{bt:Nat}{l:List D}{cq:List Nat}(a:jB C h s bt l cq)(aJ:∀e∈cq,U C S' e=U C h e):jB C S' s bt l cq:=by
 rcases a with a|⟨b,fp,n,c,M,R,ak,aA,bv,b9,dl⟩
 ·exact .inl a
 ·exact .inr ⟨b,fp,n,c,M,R,ak,aA,bv,by rw[aJ b (by rw[ak];exact Zv ..)];exact b9,dl⟩
def rT{bt z b n:Nat}{l:List D}{c:Q D}{st:oU}(a:U C h b=some (.cells c n st))(ax:yS c l)(aC:l.length=z*bt)(cap:Nat):lu C h bt (.slice b 0 z cap)=some (z,l):=by
 have b2:∀(m W:Nat),W+m<=l.length->c.li W m=some ((l.drop W).take m):=by
  intro m
  induction m with
  |zero=>intro W _;simp[Q.li]
  |succ m ai=>
   intro W bf
   have M:c.get W=some l[W]:=by rw[ax W,Ze Zo]
   simp only[Q.li,M,ai (W+1) Zo]
   rw[Zq (by omega:W<l.length),Yj]
 simp only[lu,nL,cellsOf,a]
 rw[b2 (z*bt) 0 Zo]
 simp[<-aC]
def fh{b:fB->fB}{I:cV}{h:Q af}{j:Nat}(tj:Nat->fB)(m:Nat)(aX:tj m I h j)(a:∀m I h j,tj m I h j->b (λI h j=>∃gN,gN<m/\tj gN I h j) I h j):e2 b I h j:=⟨⟨tj,⟨m,aX⟩,a⟩⟩
def aek{c:Q D}{l:List D}(ax:yS c l):∀(m W:Nat),W+m<=l.length->c.li W m=some ((l.drop W).take m):=by
 intro m
 induction m with
 |zero=>intro W _;simp[Q.li]
 |succ m ai=>
  intro W bf
  have M:c.get W=some l[W]:=by rw[ax W,Ze Zo]
  simp only[Q.li,M,ai (W+1) Zo]
  rw[Zq (by omega:W<l.length),Yj]
def tz{bt:Nat}:∀{bK:List (List D)},(∀r∈bK,r.length=bt)->bK.flatten.length=bK.length*bt:=by
 intro bK
 induction bK with
 |nil=>intro _;simp
 |cons H l ai=>
  intro a
  rw[Yl,ZH,a H (Zv ..),ai (λr Y=>a r (Zw _ Y)),ZF,Z0]
  omega
abbrev zw(l:List D)(n:Nat):Option af:=some (.cells (Q.ofList l 0 .nil) n .own)
def zx(i:Nat)(h:i<1000000000:=by omega):bn .add (.Z (i:Int)) (.Z 1)=some (.Z ((i+1:Nat):Int)):=by rw[en (by omega) (by omega)];rfl
def zy{p:Prop}(h:p:=by simp(disch:=omega) only[aB]):p:=h
def zD{C:aK}{S T:Q af}{b o:Nat}{v:Option D}(h:U C T b=U C S b)(k:aP C S (.ptr b o)=v):aP C T (.ptr b o)=v:=by rw[cv,h,<-cv];exact k
abbrev zA(T:cV)(a:Nat)(x:D)(b:Nat)(y:D):cV:=Z (Z T a x) b y
abbrev zB(T:cV)(a:Nat)(x:D)(b:Nat)(y:D)(c:Nat)(z:D):cV:=Z (zA T a x b y) c z
abbrev zC(T:cV)(a:Nat)(x:D)(b:Nat)(y:D)(c:Nat)(z:D)(d:Nat)(u:D):cV:=zA (zA T a x b y) c z d u
end
end
end Go.bd

namespace Go.aT
abbrev aY:=List Nat
structure eu where
 b:Bool
 s:Bool
 w:Int
 deriving DecidableEq
structure Tok where
 kind:Int
 text:aY
 at_:Int
 n:Int
 ty:eu
inductive bD where
 |mk (kind at_:Int) (name:aY) (no:Bool) (ty:eu) (n:Int) (args:List bD)
structure eF where
 name:aY
 at_:Int
 ty:eu
 on:aY
 et:Int
 no:Bool
structure gt where
 left:List aY
 di:List Int
 at_:Int
 right:bD
structure Node where
 name:aY
 at_:Int
 d4:List eF
 out:List eF
 loc:List eF
 eqs:List gt
def dU:eu:=⟨false,false,0⟩
def bD.kind:bD->Int| .mk z _ _ _ _ _ _=>z
def bD.args:bD->List bD| .mk _ _ _ _ _ _ l=>l
abbrev gC(α:Type):=Option (Except Int (α×List Tok))
def ok{α:Type}(H:α)(l:List Tok):gC α:=some (.ok (H,l))
def bad{α:Type}(at_:Int):gC α:=some (.error at_)
def andThen{α eZ:Type}(x:gC α)(f:α->List Tok->gC eZ):gC eZ:=match x with
 |none=>none
 |some (.error H)=>some (.error H)
 |some (.ok (H,l))=>f H l
def ho(x:Tok)(s:aY):Bool:=(x.kind=2||x.kind=6)&&x.text=s
def mG(s:aY):List Tok->Option (Option Tok×List Tok)
 |[]=>none
 |x::l=>if ho x s then some (some x,l)else some (none,x::l)
def iI{eZ:Type}(s:aY)(l:List Tok)(f:Option Tok->List Tok->gC eZ):gC eZ:=match mG s l with
 |none=>none
 |some (x,l)=>f x l
def eL(s:aY):List Tok->gC Tok
 |[]=>none
 |x::l=>if ho x s then ok x l else bad x.at_
def je(z:Int):List Tok->gC Tok
 |[]=>none
 |x::l=>if x.kind=z then ok x l else bad x.at_
def ar:Nat->List (aY×Int)
 |0=>[([111,114],7),([120,111,114],8)]
 |1=>[([97,110,100],9)]
 |2=>[([61],10),([60,62],11),([60,61],13),([62,61],15),([60],12),([62],14)]
 |3=>[([43],16),([45],17)]
 |4=>[([42],18)]
 |_=>[]
def pF:List (aY×Int)->List Tok->Option (Option bD×List Tok)
 |[],l=>some (none,l)
 |(s,z)::os,l=>match mG s l with
  |none=>none
  |some (some x,l)=>some (some (.mk z x.at_ [] false dU 0 []),l)
  |some (none,l)=>pF os l
def bD.at_:bD->Int| .mk _ H _ _ _ _ _=>H
def vd(E:bD):Option Bool:=if E.kind=1 then some true else if E.kind=4 then(match E.args with|[]=>none|H::_=>some (decide (H.kind=1)))else some false
def bD.name:bD->aY| .mk _ _ s _ _ _ _=>s
def bD.no:bD->Bool| .mk _ _ _ b _ _ _=>b
def bD.ty:bD->eu| .mk _ _ _ _ t _ _=>t
def bD.n:bD->Int| .mk _ _ _ _ _ n _=>n
def two(E:bD)(H b:bD):bD:= .mk E.kind E.at_ [] false dU 0 [H,b]
def A6:List (aY×Int):=[([110,111,116],3),([45],4),([112,114,101],5)]
mutual
def level:Nat->Nat->List Tok->gC bD
 |0,_,_=>none
 |n+1,z,l=>if z=5 then shift n l else andThen (level n (z+1) l) λleft l=>p4 n z left l
def p4:Nat->Nat->bD->List Tok->gC bD
 |0,_,_,_=>none
 |n+1,z,left,l=>match pF (ar z) l with
  |none=>none
  |some (none,l)=>ok left l
  |some (some E,l)=>andThen (level n (z+1) l) λr l=>if z=2 then ok (two E left r) l else p4 n z (two E left r) l
def shift:Nat->List Tok->gC bD
 |0,_=>none
 |n+1,l=>andThen (yw n l) λleft l=>qd n left l
def qd:Nat->bD->List Tok->gC bD
 |0,_,_=>none
 |n+1,left,l=>iI [60,60] l λx l=>match x with
  |some x=>qe n 19 x left l
  |none=>iI [62,62] l λx l=>match x with
   |some x=>qe n 20 x left l
   |none=>ok left l
def qe:Nat->Int->Tok->bD->List Tok->gC bD
 |0,_,_,_,_=>none
 |n+1,z,x,left,l=>andThen (je 4 l) λm l=>if 63<m.n then bad m.at_ else qd n (.mk z x.at_ [] false dU m.n [left]) l
def yw:Nat->List Tok->gC bD
 |0,_=>none
 |n+1,l=>match pF A6 l with
  |none=>none
  |some (some E,l)=>andThen (yw n l) λH l=>ok (.mk E.kind E.at_ [] false dU 0 [H]) l
  |some (none,l)=>andThen (part n l) λleft l=>n7 n left l
def n7:Nat->bD->List Tok->gC bD
 |0,_,_=>none
 |n+1,left,l=>iI [119,104,101,110] l λx l=>match x with
  |none=>ok left l
  |some x=>iI [110,111,116] l λno l=>andThen (je 1 l) λc l=>n7 n (.mk 6 x.at_ c.text no.isSome dU 0 [left]) l
def part:Nat->List Tok->gC bD
 |0,_=>none
 |_+1,[]=>none
 |n+1,x::l=>
  if x.kind=5 then ok (.mk 1 x.at_ [] false x.ty x.n []) l
  else if x.kind=2&&(x.text=[116,114,117,101]||x.text=[102,97,108,115,101])then ok (.mk 1 x.at_ [] false ⟨true,false,1⟩ (if x.text=[116,114,117,101]then 1 else 0) []) l
  else if x.kind=1 then iI [40] l λe l=>match e with
   |none=>ok (.mk 2 x.at_ x.text false dU 0 []) l
   |some _=>andThen (list n l) λcu l=>ok (.mk 25 x.at_ x.text false dU 0 cu) l
  else if x.kind=3 then andThen (eL [40] l) λ_ l=>andThen (arrow n l) λE l=>andThen (eL [41] l) λ_ l=>ok (.mk 26 x.at_ [] false x.ty 0 [E]) l
  else if x.kind=6&&x.text=[40]then andThen (arrow n l) λE l=>andThen (eL [41] l) λ_ l=>ok E l
  else if x.kind=2&&x.text=[105,102]then andThen (arrow n l) λc l=>andThen (eL [116,104,101,110] l) λ_ l=>andThen (arrow n l) λH l=>andThen (eL [101,108,115,101] l) λ_ l=>andThen (arrow n l) λb l=>ok (.mk 23 x.at_ [] false dU 0 [c,H,b]) l
  else if x.kind=2&&x.text=[109,101,114,103,101]then andThen (je 1 l) λc l=>andThen (part n l) λH l=>andThen (part n l) λb l=>ok (.mk 24 x.at_ c.text false dU 0 [H,b]) l
  else bad x.at_
def list:Nat->List Tok->gC (List bD)
 |0,_=>none
 |n+1,l=>iI [41] l λe l=>match e with
  |some _=>ok [] l
  |none=>andThen (arrow n l) λE l=>p5 n [E] l
def p5:Nat->List bD->List Tok->gC (List bD)
 |0,_,_=>none
 |n+1,cu,l=>iI [44] l λe l=>match e with
  |none=>andThen (eL [41] l) λ_ l=>ok cu l
  |some _=>andThen (arrow n l) λE l=>p5 n (cu++[E]) l
def mv:Nat->List Tok->gC bD
 |0,_=>none
 |n+1,l=>andThen (level n 0 l) λleft l=>iI [102,98,121] l λx l=>match x with
  |none=>ok left l
  |some x=>match vd left with
   |none=>none
   |some true=>andThen (mv n l) λr l=>ok (.mk 21 x.at_ [] false dU 0 [left,r]) l
   |some false=>bad x.at_
def arrow:Nat->List Tok->gC bD
 |0,_=>none
 |n+1,l=>andThen (mv n l) λleft l=>iI [45,62] l λx l=>match x with
  |none=>ok left l
  |some x=>andThen (arrow n l) λr l=>ok (.mk 22 x.at_ [] false dU 0 [left,r]) l
end
def ea:Nat->List Tok->List Tok->gC (List Tok)
 |0,_,_=>none
 |n+1,cu,l=>andThen (je 1 l) λx l=>iI [44] l λe l=>match e with
  |none=>ok (cu++[x]) l
  |some _=>ea n (cu++[x]) l
def qx(ty:eu)(on:aY)(et:Int)(no:Bool)(x:Tok):eF:=⟨x.text,x.at_,ty,on,et,no⟩
def Bi:Nat->List Tok->Option aY
 |_,[]=>none
 |0,x::_=>some x.text
 |i+1,_::l=>Bi i l
def mJ(loc:Bool)(z:List eF->List Tok->gC (List eF))(ds:List eF)(l:List Tok):gC (List eF):=match Bi 0 l with
 |none=>none
 |some s=>if s=[59]then(if loc then(match Bi 1 l with
   |none=>none
   |some s=>if s=[108,101,116]then ok ds l else z ds (l.drop 1))else z ds (l.drop 1))
  else ok ds l
def BY(w:Option Tok)(l:List Tok):gC (aY×Int×Bool):=match w with
 |none=>ok ([],0,false) l
 |some _=>iI [110,111,116] l λno l=>andThen (je 1 l) λon l=>ok (on.text,on.at_,no.isSome) l
def El(loc:Bool)(z:List eF->List Tok->gC (List eF))(ds:List eF)(cn:List Tok)(l:List Tok):gC (List eF):=
 andThen (eL [58] l) λ_ l=>andThen (je 3 l) λt l=>iI [119,104,101,110] l λw l=>
 andThen (BY w l) λr l=>mJ loc z (ds++cn.map (qx t.ty r.1 r.2.1 r.2.2)) l
def jD:Nat->Bool->List eF->List Tok->gC (List eF)
 |0,_,_,_=>none
 |n+1,loc,ds,l=>andThen (ea n [] l) λcn l=>El loc (jD n loc) ds cn l
def vT(n:Nat)(l:List Tok):gC gt:=iI [40] l λe l=>
 andThen (match e with
  |some _=>andThen (je 1 l) λx l=>andThen (eL [44] l) λ_ l=>andThen (ea n [x] l) λcn l=>andThen (eL [41] l) λ_ l=>ok cn l
  |none=>andThen (je 1 l) λx l=>ok [x] l) λcn l=>
 andThen (eL [61] l) λE l=>andThen (arrow n l) λr l=>andThen (eL [59] l) λ_ l=>ok ⟨cn.map Tok.text,cn.map Tok.at_,E.at_,r⟩ l
def mu:Nat->List gt->List Tok->gC (List gt)
 |0,_,_=>none
 |n+1,c9,l=>iI [116,101,108] l λe l=>match e with
  |some _=>ok c9 l
  |none=>andThen (vT n l) λaj l=>mu n (c9++[aj]) l
def node(n:Nat)(l:List Tok):gC Node:=
 andThen (eL [110,111,100,101] l) λ_ l=>andThen (je 1 l) λx l=>andThen (eL [40] l) λ_ l=>iI [41] l λe l=>
 andThen (match e with
  |some _=>ok [] l
  |none=>andThen (jD n false [] l) λds l=>andThen (eL [41] l) λ_ l=>ok ds l) λd4 l=>
 andThen (eL [114,101,116,117,114,110,115] l) λ_ l=>andThen (eL [40] l) λ_ l=>andThen (jD n false [] l) λout l=>andThen (eL [41] l) λ_ l=>
 iI [118,97,114] l λe l=>andThen (match e with
  |some _=>andThen (jD n true [] l) λds l=>andThen (eL [59] l) λ_ l=>ok ds l
  |none=>ok [] l) λloc l=>
 andThen (eL [108,101,116] l) λ_ l=>andThen (mu n [] l) λc9 l=>ok ⟨x.text,x.at_,d4,out,loc,c9⟩ l
def p8:Nat->List Node->List Tok->gC (List Node)
 |0,_,_=>none
 |n+1,am,l=>andThen (node n l) λg l=>match l with
  |[]=>none
  |x::_=>if x.kind=7 then ok (am++[g]) l else p8 n (am++[g]) l
end Go.aT

