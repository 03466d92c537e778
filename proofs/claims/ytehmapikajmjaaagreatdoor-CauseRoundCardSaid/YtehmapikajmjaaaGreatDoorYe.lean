/- Part of the proof of the last text; no conditions -/
import Derived.Test.YtehmapikajmjaaaGreatDoorYd
import Derived.ChangeReads
import GoSem.ClaimJoined
import Derived.Lib.Bytealg
set_option maxHeartbeats 8000000
set_option linter.all false
namespace Go.aF
open Go.RowKit (Below)
section
variable{C:al}{F bY cv:bX}{Q b9 cw:Nat->Prop}{q D:E S}{u Z aO:Nat}{w a2:World}{n ac:Nat}{ae:Array Oper}
variable{aS:World}{a1:Nat}{bg:List Frame}{v:z}{U:eA}
variable{fn:Nat}{aP:List eD}{ar:Bool}{ro:Option Nat}{cs:List d1}{B:E z}{tmps:Array Value}{aQ:List Item}{Y:List Frame}{aT ag:Nat}
def Pb{ad:List (Nat×z)}:∀(l:List dd),qm C B ad q l=true->∀x∈l,∃b,jJ x.g ad=some b/\(b=true->∃R,d6 x.op C q ad B=some R/\cL ad x.i=some R):=by
 intro l;induction l with
 |nil=>grind|cons a l U=>
  intro h x f;simp only[qm]at h;split at h
  ·grind
  ·rename_i c;grind
  ·rename_i c;split at h
   ·rename_i R g d e;simp only[Zu]at h;have:=xE _ _ _ h.1;grind
   ·grind
def acr{b:List jj}{k:Nat}{a:List (dM×dd)}:∃s rest,n0 b k a=s::rest/\s.lO=lD k b/\s.Bz=rt k b/\
 (match a with|[]=>s.db=none/\rest=[]|o::c=>s.db=some o.2/\rest=n0 b (k+1) c):=by
 cases a with|nil=>exact⟨_,_,rfl,rfl,rfl,rfl,rfl⟩|cons o a=>exact⟨_,_,rfl,rfl,rfl,rfl,rfl⟩
def oQ{k:Nat}:∀{b:List jj}{x:dd},x∈lD k b↔∃l∈b,l.aT=k/\l.x=x:=by intro b;induction b with|nil=>intro x;simp[lD]|cons a b U=>simp only[lD,ee];grind
def aaM{k:Nat}:∀{b:List jj}{l:jj},l∈b->l.aT<k->k<=l.ag->pG l.x.op=true->l.x∈rt k b:=by
 intro b;induction b with
 |nil=>grind|cons a b U=>
  intro l c d e f;simp only[rt,cY];rcases Zq.1 c with rfl|c
  ·rw[Zv]
   ·grind
   ·simp_all
  ·split
   ·grind
   ·grind
def Od{k:Nat}:∀{c:List jj},(c.Pairwise λa b=>a.x.i<b.x.i)->(lD k c).Pairwise λa b=>a.i≠b.i:=by
 intro c;induction c with
 |nil=>intro _;simp[lD]|cons a c U=>
  intro h;rw[Yc]at h;simp only[lD,ee];split
  ·rw[Yc];refine⟨λx d=> ?_,U h.2⟩;obtain⟨l,e,_,rfl⟩:=oQ.1 d;grind
  ·grind
def RZ(op:fT):h9 op=true/\hF op=.db\/h9 op=false/\(hF op=.eP\/hF op=.make):=by unfold h9;cases hF op<;>simp
def S8(UO:Env C aS cv cw)(UB:h3 C aS a1 bg U){k:List co}{base d:Nat}{ad:List (Nat×z)}(UT:aT<=base)(T8:base+ae.size<=u)(VJ:C.aB<=base){s:mK}{rest:List mK}
 (T0:match (ef C n ac ae).drop d with|[]=>s.db=none|o::US=>s.db=some o.2/\rest=n0 (hn C n ac ae) (d+1) US)
 (h:(match s.db with
    |none=>ug (gK ac ae.toList 0) ad B λB=>U .run k ⟨fn,n,ac,aP,ar,ro,cs⟩ B q u|some h=>(match jJ h.g ad with
     |none=>none|some w=>ba (w) ((match eE h.op C q u ad B with
       |some r=>jm r U C (.od ae base ad h.i rest (gK ac ae.toList 0)) k ⟨fn,n,ac,aP,ar,ro,cs⟩ B q u|none=>none))<|U .run (.drawn ae base ((h.i,undef)::ad) rest (gK ac ae.toList 0)::k) ⟨fn,n,ac,aP,ar,ro,cs⟩ B q u))=some v):
 ∀(l:List Nat) (F:bX) (Q:Nat->Prop) (w:World) (tmps:Array Value) (g:Nat->Prop),fm C aS a1 bg fn ac aP ar ro cs q u F Q w aT Y->g3 C F Q ac k aQ->kj C F Q q base n ac ae ad d (d+1) B tmps g->mJ ae g l->
  (∀l∈hn C n ac ae,l.aT<d+1->¬g l.x.i->∃R,cL ad l.x.i=some R/\tG C q ad B l.x R)->Ends C aS a1 bg v (lone (bD F fn aP ar ro tmps (.inRegion ae l::aQ) .run) Y w):=by
 intro l;induction l with
 |nil=>
  intro F Q w tmps g a L ai UJ UG;cases UJ with
  |nil UQ=>
   have U7:(ef C n ac ae).drop d=[]:=by
    cases c:(ef C n ac ae).drop d with
    |nil=>rfl|cons o US=>
     have T7:(ef C n ac ae)[d]? =some o:=by
      have:((ef C n ac ae).drop d)[0]? =some o:=by rw[c];rfl
      rwa[zg]at this
     have U5:=UQ o.1.i (Pe ai.st (Zl T7)).1;have:=(ai.done d o T7).1 U5;omega
   rw[U7]at T0;simp only at T0;rw[T0]at h;simp only[ws,mr]at h;split at h
   ·rename_i VH Uo;refine .head Ih ?_;have V6:iQ F Q ac (λ_=>True) (e4 ae ae.size) ad B tmps:=by
     obtain⟨_,Uh,f3⟩:=vn ae ae.size (Zg _);intro t R _ O;apply ai.ql t R;split at O
     ·rename_i j UC;obtain⟨Ui,Uj,Uk⟩:=Uh t j UC;left;refine⟨j,UQ j Ui,Uj,λUN UD Ut=> ?_,O⟩;rcases zt j UN with N|qB
      ·exact absurd Ut (Uk UN N (ai.m2 UN UD))
      ·exact qB
     ·rename_i UC;exact .inr ⟨λj UD=>f3 t UC j (ai.m2 j UD),O⟩
    exact UB _ _ _ _ _ _ _ _ _ _ _ _ v h F Q w aT tmps aQ Y (a.state (.plain L (FU V6 ai.size Uo)))
   ·simp at h
 |cons i l UM=>
  intro F Q w tmps g a L ai UJ UG;cases UJ with
  |cons f TZ G T6=>
   rename_i I;have ag:=(Z7.1 f).1;obtain⟨p,x,dG,Uc,Ud,z3,z4,z5,Ue⟩:=nL ai.st i ag;have Uz:dG=I:=(by have:=z5.oper;rw[z4,f]at this;exact(Y6 this).symm);subst Uz;have U1:=Pf ai.st ai.closed ai.m2 ai.ql Ud f TZ G;have UU:=ua ai.closed (w3 Ud) (by rw[z3];exact f) G;have A:=z5;have TY:=A.g;have T5:=A.op;have UY:=A.reads;rw[z4]at TY T5 UY;have U8:∀T2,Sub T2 ad->fx F Q (gR tmps) (fA (e4 ae i) T2 B) dG.op.operands.toList:=by
    intro T2 V2;refine FL (λt R Up O=>U1 t R Up ?_) (λt V4=>aat Ue V4) UY a.eK;split at O
    ·exact V2 _ _ O
    ·exact O
   have U9:∀j b t,dG.guard=some (j,b)->mX j (e4 ae i)=some t->dq p.r t=true:=by
    intro j b t U3 U4;rw[Ue.r,sm,z3]
    have:dq (wJ (e4 ae i) dG.guard) t=true:=by rw[U3];simp only[wJ,U4];rw[vX];simp
    rw[this];simp
   have T9:∀(bY:bX) (R:Value),(bD bY fn aP ar ro tmps (.inRegion ae (i::l)::aQ) .run).finish R=bD bY fn aP ar ro (ka tmps dG.dst R) (.inRegion ae l::aQ) .run:=(by intro bY R;rw[wu rfl f];rfl);rcases RZ x.op with ⟨UA,iW⟩|⟨UA,iW⟩
   ·
    have Uv:(p,x)∈ef C n ac ae:=(by rw[wa];exact Yp.2 ⟨Zl Uc,UA⟩);obtain⟨V,c⟩:=Z1.1 Uv;have V0:V=d:=by
     rcases zG V d with N|e|eL
     ·exact absurd ((ai.done V _ c).2 N) (by simpa only[z3]using TZ)
     ·exact e
     ·exfalso;have Uw:V-1<(ef C n ac ae).length:=zL (Ze.1 c).1;have UX:=Zb Uw;have UR:=ai.st.chain;rw[wA]at UR;have W:=Q7 UR (V-1) ((ef C n ac ae)[V-1]).1 p (by rw[Zt,UX];rfl) (by rw[show V-1+1=V by omega,Zt,c];rfl);have U5:=UU _ W;have:=(ai.done (V-1) _ UX).1 U5;omega
    subst V0;have U7:(ef C n ac ae).drop V=(p,x)::(ef C n ac ae).drop (V+1):=(by have N:=(Ze.1 c).1;rw[Zz N,(Ze.1 c).2]);rw[U7]at T0;simp only at T0;obtain⟨gu,hB⟩:=T0;rw[gu]at h;simp only at h;have T7:ae[((p,x):dM×dd).1.i]? =some dG:=(by simp only[z3];exact f);split at h
    ·simp at h
    ·rename_i VF V7;have P:=xY (zF ag) TY U1 U9 (Sub.refl ad) V7;have UV:¬g ((p,x):dM×dd).1.i:=(by simpa only[z3]using TZ);have VA:x.i=((p,x):dM×dd).1.i:=(by simp only[z3,z4]);cases VF with
     |false=>simp only[ga]at h;refine .head (BT f P) ?_;rw[T9];rw[VA,hB]at h;have:=ai.db c T7 UV G (v:=undef) trivial A.dst;exact UB _ _ _ _ _ _ _ _ _ _ _ _ v h F Q w aT _ _ Y (a.state (.drawn L UT T8 this (by simp only[z3];exact T6)))|true=>
      simp only[cI]at h;split at h
      ·rename_i r K;have Um:=Gd a.K a.cx UO.ge (U8 ad (Sub.refl ad)) T5 K;have V3:hw C F Q q aT u n ac B tmps (.od ae base ad x.i rest (gK ac ae.toList 0)::k) (.inRegion ae (i::l)::aQ):=(by have UZ:=hw.drawn (ag:=u) L UT T8 ai c T7 UV G (by simp only[z3];exact T6);simp only[z3]at UZ;rw[hB,z4];exact UZ);exact EJ UO UB a V3 a.f2 (Zg _) f P Um h
      ·simp at h
   ·
    have Ux:=Zl Uc;have T3:(⟨x,l9 p.m (j0 (ef C n ac ae)),pb p.i (j0 (ef C n ac ae))⟩:jj)∈hn C n ac ae:=(by rw[wc];exact ZC.2 ⟨(p,x),Yp.2 ⟨Ux,by simp[UA]⟩,rfl⟩);have T4:l9 p.m (j0 (ef C n ac ae))<d+1:=by
     have:=O0 p.m (j0 (ef C n ac ae)) d (λV o c VI=>by
      rw[wA,Zt]at c;cases UL:(ef C n ac ae)[V]? with
      |none=>rw[UL]at c;cases c|some aj=>
       rw[UL]at c;cases c;cases W:dq p.m aj.1.i with
       |false=>rfl|true=>have:=(ai.done V aj UL).1 (UU _ W);omega)
     omega
    have X:¬g x.i:=(by rw[z4];exact TZ);obtain⟨R,U0,V5⟩:=ai.ahead _ T3 T4;obtain⟨mg,T2,b,UP,V8,Ur,Us⟩:=V5 X;have P:=xY (zF ag) TY U1 U9 UP V8;have UI:ae[x.i]? =some dG:=(by rw[z4];exact f);have UH:∀U2:Nat->Prop,(∀j,g j->U2 j)->∀l∈hn C n ac ae,l.aT<d+1->¬U2 l.x.i->∃R,cL ad l.x.i=some R/\tG C q ad B l.x R:=λU2 Un VB U3 U4 Ul=>UG VB U3 U4 (λV=>Ul (Un _ V));have U6:add g x.i=add g i:=(by rw[z4]);cases b with
    |false=>
     have:R=undef:=Ur rfl
     subst this;refine .head (BT f P) ?_;rw[T9];have m:=ai.eP (b9:=Q) T3 T4 UI X G U0 (λ_ _=>rfl) (λ_ h=>h) (λ_ h=> .inl h) (by trivial) A.dst;simp only[U6]at m;exact UM F Q w _ _ a L m T6 (UH _ λ_ h=> .inl h)
    |true=>
     obtain⟨_,Uy,_⟩:=Us rfl;rcases iW with iW|iW
     ·obtain⟨VK,UK,Uf,VG,Ug,ap,aw,Ua,Ub⟩:=UG _ T3 T4 X;simp only at UK Ua Ub;rw[U0]at UK;cases UK;have V9:=xY (zF ag) TY U1 U9 ap Ua;have T8:Ug=true:=(by rw[<-V9,P]);have Uu:=Ub T8 iW;have V1:=a.K.Ah aw;obtain⟨aL,bt⟩:=GF V1 (U8 Uf ap) T5 Uu;refine .head (rC f P aL (.inl rfl)) ?_;rw[T9];have m:=ai.eP (b9:=Q) T3 T4 UI X G U0 (λ_ _=>rfl) (λ_ h=>h) (λ_ h=> .inl h) bt A.dst;simp only[U6]at m;exact UM F Q w _ _ a L m T6 (UH _ λ_ h=> .inl h)
     ·obtain⟨bU,UE,UW⟩:=Uy iW;simp only at UE UW;have UF:=λV=>X (ai.ids x.i (by rw[z4];exact ag) V);obtain⟨ic,VC,VD,VE⟩:=GQ (F:=F) UF (U8 T2 UP) (w0 T5 UE);have N:base+x.i<u:=(by rw[z4];omega);have Uq:=a.K.alloc (D:=q) Zo N (Zg _) UF a.cx rfl UW (λ_ _=> .inl rfl) VE (GR (w0 T5 UE));have T1:eH C aT F Q q aS.heap.size w (dR F (base+x.i) ⟨w.heap.size,0,0⟩) (add Q (base+x.i)) q (w.alloc ic):=
       ⟨ke UF,λ_ h=> .inl h,λo h=>h.elim .inl (λh=> .inr Zo),λ_ _ _=>rfl,Below.alloc (Below.refl _ _) a.cx _⟩
      refine .head (rC f P VC (.inl rfl)) ?_;rw[T9, <-s5 T1.e2 a.eJ];have m:=ai.eP (b9:=add Q (base+x.i)) T3 T4 UI X G U0 T1.e2 T1.fz (λ_ h=>h) VD A.dst;simp only[U6]at m;exact UM _ _ _ _ _ (a.ext Uq T1 (Zg _)) (L.M T1.e2 T1.fz) m T6 (UH _ λ_ h=> .inl h)
def bW.more(K:bW C F Q q u aO w)(f:u<=Z)(a:∀b,Q b->H C D b=H C q b)(i:∀b I,H C D b=some I->b<Z):bW C F Q D Z aO w:=by refine⟨ZE K.aB f,λb h=>ZV (K.lt b h) f,i,λb I h d=>K.obj b I (by rw[<-a b d];exact h) d,λb c I dG h g d e=>K.sep b c I dG (by rw[<-a b d];exact h) (by rw[<-a c e];exact g) d e,λb I W h d=>K.base b I W (by rw[<-a b d];exact h) d,λb I h d=>K.b3 b I (by rw[<-a b d];exact h) d⟩
def GG(i:jh C n ac ae){l c:jj}(e:l∈hn C n ac ae)(f:c∈hn C n ac ae)(h:l.x.i=c.x.i):l=c:=by obtain⟨a,d⟩:=Z1.1 e;obtain⟨b,W⟩:=Z1.1 f;obtain⟨j,k⟩:=Ze.1 d;obtain⟨m,p⟩:=Ze.1 W;have g:=Ab i;rw[Y4]at g;grind
def Fw(UF:Env C aS cv cw)(US:h3 C aS a1 bg U){k:List co}{base r:Nat}{ad:List (Nat×z)}{T0:Nat->Prop}{l:List Nat}(T9:fm C aS a1 bg fn ac aP ar ro cs q u F Q w aT Y)
 (UT:g3 C F Q ac k aQ)(UU:aT<=base)(UN:base+ae.size<=u)(U4:C.aB<=base)(ai:kj C F Q q base n ac ae ad r r B tmps T0)(UZ:mJ ae T0 l)
 (h:oW U C ae base ad (n0 (hn C n ac ae) r ((ef C n ac ae).drop r)) (gK ac ae.toList 0) k ⟨fn,n,ac,aP,ar,ro,cs⟩ B q u=some v):Ends C aS a1 bg v (lone (bD F fn aP ar ro tmps (.inRegion ae l::aQ) .run) Y w):=by
 obtain⟨s,rest,UC,UD,UE,T1⟩:=acr (k:=r);rw[UC]at h;simp only[oW]at h;split at h
 ·grind
 ·rename_i U0 D U2;simp only[cO]at h;obtain⟨U5,h⟩:=h;rw[UD]at U2;rw[UE]at U5;have UQ:∀x∈lD r (hn C n ac ae),cL ad x.i=none/\H C q (base+x.i)=none/\h9 x.op=false:=by
   intro x m;obtain⟨bw,c,N,rfl⟩:=oQ.1 m;have f:cL ad bw.x.i=none:=by
    cases f:cL ad bw.x.i with
    |none=>rfl|some R=>
     exfalso;rcases ai.keys _ R f with ⟨Ud,a,d,O⟩|⟨p,o,a,d,_⟩
     ·have:=GG ai.st a c d;subst this;omega
     ·exact wW ai.st c a d.symm
   obtain⟨_,_,O,_⟩:=we c;exact⟨f,ai.free _ (wd ai.st c) f,O⟩
  obtain⟨a7,bl,Uc,X,TY⟩:=Pa U4 _ _ _ _ _ (Od (Ab ai.st)) UQ U2;have Ua:∀b,Q b->H C D b=H C q b:=by
   intro b W;by_cases V:H C D b=H C q b
   ·exact V
   ·obtain⟨x,m,e⟩:=X b V;obtain⟨bw,c,N,rfl⟩:=oQ.1 m;have A:=ai.ids _ (wd ai.st c) (e▸W);have:=ai.lO bw c A;omega
  have UY:=T9.K.more (Zg _) Ua (λb I W=>by
   by_cases V:H C D b=H C q b
   ·exact T9.K.mq b I (by rw[<-V];exact W)
   ·obtain⟨x,m,e⟩:=X b V;obtain⟨bw,c,N,rfl⟩:=oQ.1 m;have:=wd ai.st c;omega)
  have m:eH C aT F Q q aS.heap.size w F Q D w:=⟨λ_ _=>rfl,λ_ h=>h,λ_ h=> .inl h,λb _ U3=>by
   by_cases V:H C D b=H C q b
   ·exact V
   ·obtain⟨x,m,e⟩:=X b V;omega,Below.refl _ _⟩
  have UM:=T9.ext UY m (Zg _);have UO:kj C F Q D base n ac ae U0 r (r+1) B tmps T0:=by
   refine⟨ai.st,ai.size,ai.wS,ai.bv,ai.closed,ai.m2,ai.done,λbw c N=>Nat.lt_succ_of_lt (ai.lO bw c N), ?_, ?_, ?_, ?_,ai.ids, ?_⟩
   ·intro i R G;rcases Uc i (by rw[G];simp)with c|⟨x,c,N⟩
    ·cases f:cL ad i with
     |none=>exact absurd f c|some L=>
      rcases ai.keys i L f with ⟨bw,a,d,O⟩|g
      ·exact .inl ⟨bw,a,d,Zo⟩
      ·exact .inr g
    ·obtain⟨bw,a,d,rfl⟩:=oQ.1 c;exact .inl ⟨bw,a,N,Zo⟩
   ·intro p o P UX;obtain⟨R,G⟩:=ai.mg p o P UX;exact⟨R,a7 _ _ G⟩
   ·intro bw c N;by_cases V:bw.aT=r
    ·obtain⟨R,a,d⟩:=TY bw.x (oQ.2 ⟨bw,c,V,rfl⟩);exact⟨R,(a Q).key,λ_=>a Q⟩
    ·obtain⟨R,a,d⟩:=ai.ahead bw c Zo;refine⟨R,a7 _ _ a,λA=> ?_⟩;obtain⟨_,T5,b,T6,T7,U1,T8⟩:=d A;refine⟨a7 _ _ a,T5,b,T6.trans a7,T7,U1,λW=> ?_⟩;obtain⟨UJ,UK,UG⟩:=T8 W;refine⟨UJ,λUV=> ?_,UG⟩;obtain⟨bU,UH,UI⟩:=UK UV;refine⟨bU,UH, ?_⟩;by_cases U7:H C D (base+bw.x.i)=H C q (base+bw.x.i)
     ·rw[U7];exact UI
     ·obtain⟨x,m,e⟩:=X _ U7;obtain⟨Ud,TZ,Ue,rfl⟩:=oQ.1 m;have:=GG ai.st c TZ Zo;subst this;omega
   ·intro t R G;apply ai.ql t R;rcases G with ⟨j,A,UP,UW,G⟩|G
    ·left;refine⟨j,A,UP,UW, ?_⟩;have mg:∃L,cL ad j=some L:=by
      rcases Fv ai.st j (ai.m2 j A)with ⟨bw,a,d⟩|⟨p,o,a,d⟩
      ·obtain⟨L,O,_⟩:=ai.ahead bw a (ai.lO bw a (by rw[d];exact A));exact⟨L,by rw[<-d];exact O⟩
      ·obtain⟨L,O⟩:=ai.mg p o a ((ai.done p o a).1 (by rw[d];exact A));exact⟨L,by rw[<-d];exact O⟩
     obtain⟨L,U6⟩:=mg;have:=a7 _ _ U6;rw[G]at this;cases this;exact U6
    ·exact .inr G
   ·intro i ag f;have Ub:cL ad i=none:=by cases T2:cL ad i with|none=>rfl|some R=>rw[a7 _ _ T2]at f;cases f
    by_cases V:H C D (base+i)=H C q (base+i)
    ·rw[V];exact ai.free i ag Ub
    ·obtain⟨x,m,e⟩:=X _ V;obtain⟨R,a,_⟩:=TY x m
     have:x.i=i:=Zo
     rw[<-this,(a Q).key]at f;cases f
  refine S8 UF US UU UN U4 (rest:=rest) ?_ h l F Q w tmps T0 UM UT UO UZ ?_
  ·cases T2:(ef C n ac ae).drop r with|nil=>rw[T2]at T1;exact T1.1|cons o Uk=>rw[T2]at T1;exact T1
  ·intro bw c N A;by_cases V:bw.aT=r
   ·obtain⟨R,a,d⟩:=TY bw.x (oQ.2 ⟨bw,c,V,rfl⟩);exact⟨R,(a Q).key,d⟩
   ·obtain⟨R,a,d⟩:=ai.ahead bw c Zo;refine⟨R,a7 _ _ a, ?_⟩;obtain⟨_,T5,b,T6,T7,U1,T8⟩:=d A;by_cases T3:pG bw.x.op=true
    ·have UR:r<=bw.ag:=by obtain⟨p,TZ,Ue,Ul,Uf⟩:=we c;obtain⟨_,Ur,UA,z3,z4,z5⟩:=nM ai.st TZ;rw[Uf];refine Re _ _ _ (by rw[wA,Zj];exact ai.wS) λV o P U3=> ?_;rw[wA,Zt]at P;cases T4:(ef C n ac ae)[V]? with|none=>rw[T4]at P;cases P|some aj=>rw[T4]at P;cases P;cases W:dq aj.1.m p.i with|false=>rfl|true=>exfalso;have UL:=(ai.done V aj T4).2 U3;obtain⟨Um,Un,Uo,Up,Uj,Uq,U9⟩:=nM ai.st (wb (Zl T4)).1;have:=ua ai.closed (Zl Uj) U9.oper (ai.closed _ _ U9.oper UL) _ W;simp only at UA;rw[<-UA]at this;exact A this
     obtain⟨UB,Ug,Uh⟩:=Pb _ U5 bw.x (aaM c Zo UR T3);refine⟨U0,D,UB,Sub.refl _,ji.refl _,Ug,λW _=> ?_⟩;obtain⟨L,Ui,U8⟩:=Uh W;rw[a7 _ _ a]at U8;cases U8;exact Ui
    ·have T3:pG bw.x.op=false:=(by simpa using T3);refine⟨T5,.nil,b,T6.trans a7,GC _,T7,λW iW=> ?_⟩;exact(T8 W).2.2 iW T3 .nil
def P4{k:List co}(id:Nat)(h:g3 C F Q ac k aQ){f:List co}(a:exitTo id k=some f):∃b,Go.exitTo id aQ=some b/\g3 C F Q ac f b:=by
 induction h with
 |nil=>simp[exitTo]at a|cons g i U=>
  cases g<;>simp only[exitTo]at a;case inBlock j=>
   rw[ee]at a;split at a
   ·rename_i e;simp at a;subst a;exact⟨_,by simp[Go.exitTo,e],i⟩
   ·rename_i e;obtain⟨b,c,d⟩:=U a
    have:(j==id)=false:=by simpa using e
    exact⟨b,by simp[Go.exitTo,this,c],d⟩
  all_goals
   obtain⟨b,c,d⟩:=U a;exact⟨b,by simp[Go.exitTo,c],d⟩
def FN(eK:kT C F Q){n:Nat}(k:fy F Q n ac B tmps){x:Operand}{R:z}(a:ta C ac [] x=true)(h:nP B x=some R):gR tmps x=aq F R/\bs Q R:=by
 cases x with
 |tmp t=>obtain⟨i,j⟩:=k.val t R a h;exact⟨by simp[gR,i],j⟩
 |const c=>exact xc h|global g=>simp[nP]at h;subst h;obtain⟨b,d,e⟩:=eK g (hy a);exact⟨by simp[gR,aq,d,e],b⟩
 |func f=>simp[nP]at h;subst h;exact⟨by simp[gR,aq,hQ,bf],trivial,trivial,trivial⟩
def iQ.start{n:Nat}(a:fy F Q n ac B tmps):iQ F Q ac (λ_=>True) (e4 ae 0) [] B tmps:=by intro t R _ h;exact a.val t R h.1 h.2
def aaT(m:Env C aS cv cw)(G:h3 C aS a1 bg U){k:List co}{id:Nat}{l:Bool}(a:fm C aS a1 bg fn ac aP ar ro cs q u F Q w aT Y)(L:g3 C F Q ac k aQ)(g:fy F Q n ac B tmps)
 (h:HX ae l U C k ⟨fn,n,ac,aP,ar,ro,cs⟩ B q u=some v):Ends C aS a1 bg v (lone (bD F fn aP ar ro tmps (.code (.region id ae l)::aQ) .run) Y w):=by
 cases l with
 |false=>
  have c:BC n ac ae U C k ⟨fn,n,ac,aP,ar,ro,cs⟩ B q u=some v:=h;simp only[BC,mr]at c;split at c
  ·rename_i r K;have d:=c;unfold uT at K;split at K
   ·rename_i b1 f;obtain⟨rfl,rfl⟩:=K;refine .head aci ?_;refine H6 m G b1 [] q u F Q w tmps _ Y a L ⟨0,zB _, ?_,f,rfl,iQ.start g,g.size⟩ d;rw[List.range_eq_range'];rfl
   ·grind
  ·grind
 |true=>
  have c:BB n ac ae U C k ⟨fn,n,ac,aP,ar,ro,cs⟩ B q u=some v:=h;simp only[BB,mr]at c;split at c
  ·rename_i r K;obtain⟨g1,fin⟩:=r;have d:=c;rw[gi]at d;unfold uS at K;split at K
   ·simp at K
   ·rename_i b1 f;simp only[cO,Zu]at K;obtain⟨⟨⟨A,N⟩,O⟩,P⟩:=K;have s:mU C n ac ae=b1:=(by unfold mU;rw[f];rfl);have T3:jh C n ac ae:=⟨by rw[s];exact f,A,N,by unfold ef;rw[s];exact O⟩;have T4:g1=n0 (hn C n ac ae) 0 ((ef C n ac ae).drop 0)/\fin=gK ac ae.toList 0:=(by have e:=P;cases e;refine⟨?_,rfl⟩;unfold hn ef;rw[s];rfl);obtain⟨rfl,rfl⟩:=T4;refine .head acj ?_;rw[m.ge.mixed];have T5:eH C aT F Q q aS.heap.size w F Q q w.drew:=⟨λ_ _=>rfl,λ_ h=>h,λ_ h=> .inl h,λ_ _ _=>rfl,Below.drew (Below.refl _ _)⟩;have T2:bW C F Q q (u+ae.size) aS.heap.size w.drew:=a.K.drew.more (zs _ _) (λ_ _=>rfl) (λb I W=>ZV (a.K.mq b I W) (zs _ _));refine Fw m G (a.ext T2 T5 (zs _ _)) L a.f2 (Zg _) a.K.aB ?_ (abu A _) d;refine⟨T3,g.size,zB _,a.K.aB,λ_ _ _ h=>h.elim,λ_ h=>h.elim,λp o _=>⟨λh=>h.elim,λh=>Zo⟩,λ_ _ h=>h.elim,λi R x=>by simp at x,λp o _ h=>Zo,λbw _ h=>Zo, ?_, ?_, ?_⟩
    ·intro t R x;rcases x with ⟨j,h,_⟩|⟨_,X,T0⟩
     ·exact h.elim
     ·exact g.val t R X T0
    ·intro i _ ai;have:=a.K.lt _ ai;omega
    ·intro i _ _;cases T1:H C q (u+i)with
     |none=>rfl|some I=>have:=a.K.mq _ I T1;omega
  ·simp at c
def P3{k:List co}(id:Nat)(h:g3 C F Q ac k aQ)(a:exitTo id k=none):Go.exitTo id aQ=none:=by
 induction h with
 |nil=>rfl|cons b d U=>
  cases b<;>simp only[exitTo]at a;case inBlock c=>
   rw[ee]at a;split at a
   ·grind
   ·rename_i e
    have:(c==id)=false:=by simpa using e
    simp[Go.exitTo,this,U a]
  all_goals simp[Go.exitTo,U a]
def A8(i:fm C aS a1 bg fn ac aP ar ro cs q u F Q w aT Y){b:Nat}{st fF:LoopState}{k pA:Option Code}{a j f:Nat}{g:E z}{params:List Nat}{assign body:Code}{d:Nat}
 (n:C.aB<=b)(ai:Q b)(l:H C q b=some (.loop st k a j f g params assign body d))(p:∀c,pA=some c->sS c):
 ∃e,w.heap[(F b).bA]? =some (.loop ⟨st,k,a,e,params.toArray,assign,body,(F d).bA⟩)/\ym C a f/\(∀c,k=some c->sS c)/\
  fm C aS a1 bg fn ac aP ar ro cs (aH C q b (some (.loop fF pA a j f g params assign body d))) u F Q (w.putObj (F b).bA (.loop ⟨fF,pA,a,e,params.toArray,assign,body,(F d).bA⟩)) aT Y:=by
 obtain⟨e,dH,gd,t,v,x,A,m⟩:=i.K.obj b _ l ai;obtain⟨a2,a7,bl,s⟩:=putObj i.K (dG:=.loop ⟨fF,pA,a,e,params.toArray,assign,body,(F d).bA⟩) (ic:=.loop fF pA a j f g params assign body d) n ai l ⟨Zs,Zs⟩ dH Zs
  (λa2 r=>⟨e,r,gd,t,v,x,p,m⟩) ⟨λ_ _ _ h=>(by cases h),λ_ _ _ h=>(by cases h)⟩
 rw[run_setObj_loop _ dH]at a7;obtain⟨_,rfl⟩:=a7;exact⟨e,dH,m,A,i.ext bl s (Zg _)⟩
def EY(n:h3 C aS a1 bg U){R:z}{a6:Machine}(a:fm C aS a1 bg fn ac aP false ro cs q u F Q w aT Y)(X:cs≠[])(m:bs Q R)
 (p:∀g b,Y=g::b->step C.P a6=.next (lone (g.finish (aq F R)) b w))(h:lE U false cs R q u=some v):Ends C aS a1 bg v a6:=by
 cases cs with
 |nil=>grind|cons c rest=>
  obtain⟨l,L,A,f,e,j,G,i,N⟩:=c;obtain⟨T1,T2,O,b,rfl,a7,bl,r,s,t,x⟩:=a.cs.inv;refine .head (p _ _ rfl) ?_;cases G with
  |run=>
   have d:BG U e ⟨l,L,A,j,i,N,rest⟩ R f q u=some v:=h;cases e with
   |nil=>simp[BG]at d|cons T0 k=>exact qy n ⟨a.K,a.gp,a.eK,ZE t a.f2,r,s,x⟩ a7 a.f2 m d
  |returning=>simp[lE]at h|panicking P=>simp[lE]at h
def AW(j:h3 C aS a1 bg U){todo:List co}{b:Option Code}(d:(b=none/\aQ=[])\/(b=some .ret/\∃k,aQ=.code .ret::k)\/(∃id k,b=some (.exit id)/\aQ=.code (.exit id)::k/\Go.exitTo id k=none))
 (a:fm C aS a1 bg fn ac aP ar ro cs q u F Q w aT Y)(G:fy F Q n ac B tmps)
 (h:jv b U C todo ⟨fn,n,ac,aP,ar,ro,cs⟩ B q u=some v):Ends C aS a1 bg v (lone (bD F fn aP ar ro tmps aQ .run) Y w):=by
 unfold jv at h;cases ro with
 |some l=>
  simp only at h;split at h
  ·rename_i st T4 O T2 T1 L params assign body N t;simp only[cO,Zu,du]at h;obtain⟨⟨⟨r,T0⟩,i⟩,h⟩:=h;have i:ar=false:=(by grind);subst i;have ai:=a.eJ.ro l rfl;have x:∀c,b=some c->sS c:=by
    intro c p;subst p;rcases d with ⟨e,_⟩|⟨e,_⟩|⟨id,k,e,_⟩
    ·cases e
    ·cases e;exact .inl rfl
    ·cases e;exact .inr ⟨id,rfl⟩
   obtain⟨T5,dH,T3,_,m⟩:=A8 a (pA:=b) (e7 r) ai t x;have s:cs≠[]:=λe=>(by have:=(a.bot e).2.2;cases this);refine EY (R:=.bool b.isNone) j m s trivial (λg X e=> ?_) h;subst e;refine acm d ?_;have:=run_endRound (P:=C.P) b dH;rw[this];cases b<;>rfl
  ·simp at h
 |none=>
  simp only[cO]at h;have A:p1 C aS a1 bg .returning todo fn n ac aP ar none cs B q u F Q w aT tmps aQ Y:=⟨a.K,a.gp,a.eK,a.f2,a.eJ,trivial,a.bot,a.cs,G⟩;have f:=j _ _ _ _ _ _ _ _ _ _ _ _ v h.2 F Q w aT tmps aQ Y A;rcases d with ⟨rfl,rfl⟩|⟨rfl,k,rfl⟩|⟨id,k,rfl,rfl,_⟩
  ·exact .head ab8 f
  ·exact .head ack f
  ·simp[AH]at h
def aaJ(UH:Env C aS cv cw)(UT:h3 C aS a1 bg U){f:Operand}{params:Array Nat}{assign body:Code}{k:List co}(a:fm C aS a1 bg fn ac aP ar ro cs q u F Q w aT Y)(O:fy F Q n ac B tmps)
 (U9:g7 C ac (.rangeFunc f params assign body)=true)(U4:g3 C F Q ac k aQ)(h:u3 f params assign body U C k ⟨fn,n,ac,aP,ar,ro,cs⟩ B q u=some v):
 Ends C aS a1 bg v (lone (bD F fn aP ar ro tmps (.code (.rangeFunc f params assign body)::aQ) .run) Y w):=by
 simp only[g7,Zu]at U9;obtain⟨UP,U7,U8⟩:=U9;unfold u3 at h;split at h
 ·rename_i g first t Uf ap s2 Ud Uc Uo Ub UM UO
  cases UO;obtain⟨UE,X⟩:=FN a.eK O UP UM;have UA:∀(b:Nat) (dS:World),(resolve (gR tmps) {callee:=.value f,args:= #[.const (.func (.yield b) #[] #[])],argTypes:= #[]} 0).run C.P dS=
   .ok ⟨.fn (.func g) (bf F t).toArray,(bf F first).toArray++ #[.func (.yield b) #[] #[]]⟩ dS:=by
   intro b dS;have UG:gR tmps (.const (.func (.yield b) #[] #[]))=.func (.yield b) #[] #[]:=rfl;simp[resolve,UE,aq,hQ,Deferred.ofValue,UG]
  have U3:∀(b:Nat) (r:bX) (s:Nat->Prop) (au:E S) (T4:Nat) (dS:World) (P:List d1) (T7:List Frame) (bQ:Nat) (A:Nat),(∀x,Q x->r x=F x)->(∀x,Q x->s x)->s A->(r A).bA=b->
   bW C r s au T4 aS.heap.size dS->Below aS.heap.size aS dS->kT C r s->bQ<=T4->iL C r s au a1 bg bQ P T7->P≠[]->iz U C g (first++[.func (.yield A) [] []]++t) false P au T4=some v->
   ∃args,(invoke (.fn (.func g) (bf F t).toArray) ((bf F first).toArray++ #[.func (.yield b) #[] #[]])).run C.P dS=.ok (.enter g args) dS/\Ends C aS a1 bg v (lone (Frame.enter C.P g args .normal) T7 dS):=by
   intro b r s au T4 dS P T7 bQ A UB U2 UU W T2 UJ UR G UL UW h;have US:cz s (first++[.func (.yield A) [] []]++t):=o9 (o9 (kx U2 _ X.2.1) ⟨⟨UU,trivial,trivial⟩,trivial⟩) (kx U2 _ X.2.2);refine⟨(bf r (first++[.func (.yield A) [] []]++t)).toArray, ?_,wm UT T2 UJ UR G UL (λe=>absurd e UW) US h⟩;have UK:∃func c,C.P.funcs[g]? =some func/\func.body=some c:=by
    unfold iz at h;split at h
    ·rename_i func T0;split at h
     ·rename_i c p;exact⟨func,c,T0,p⟩
     ·simp at h
    ·simp at h
   obtain⟨func,c,T0,p⟩:=UK;have UV:func.name≠ "runtime.NumGoroutine":=by simpa using UH.ge.num g func T0 (by simp[p])
   have UI:(bf r (first++[.func (.yield A) [] []]++t)).toArray=((bf F first).toArray++ #[.func (.yield b) #[] #[]])++(bf F t).toArray:=by rw[qh,qh,nJ UB X.2.1,nJ UB X.2.2];simp[bf,aq,hQ,W]
   rw[UI];simp[invoke,callFunc,T0,UV,p]
  cases ro with
  |none=>
   simp only[gi]at h;have L:=j7 a.K;have T2:=a.K.alloc (b:=u) (Z:=u+1) (pl:=⟨w.heap.size,0,0⟩) (bU:=.deferred (some [])) (I:=.deferred (some [])) (D:=aH C q u (some (.deferred (some [])))) a.K.aB (Yr _) (Yb _) L a.cx rfl
    (by rw[dm _ a.K.aB,Zv rfl]) (λx i=> .inl (by rw[dm _ a.K.aB,Zi i])) ⟨by rw[World.alloc_heap_new];rfl,λl T9=>by cases T9;simp⟩ ⟨λ_ _ _ h=>(by cases h),λ_ _ _ h=>(by cases h)⟩
   have TZ:eH C u F Q q aS.heap.size w (dR F u ⟨w.heap.size,0,0⟩) (add Q u) (aH C q u (some (.deferred (some [])))) (w.alloc (.deferred (some []))):=
    ⟨ke L,λ_ h=> .inl h,λo h=>h.elim .inl (λh=> .inr Zo),λx _ U5=>by rw[dm _ a.K.aB,Zi Zo],Below.alloc (Below.refl _ _) a.cx _⟩
   have T1:=Nat.le_succ_of_le a.K.aB;have U6:=j7 T2;have U1:aS.heap.size<=(w.alloc (.deferred (some []))).heap.size:=by rw[World.size_alloc];have:=a.cx;omega
   have UC:(dR F u ⟨w.heap.size,0,0⟩ u)=⟨w.heap.size,0,0⟩:=gT ..;have T3:=ke (F:=dR F u ⟨w.heap.size,0,0⟩) (pl:=⟨w.heap.size+1,0,0⟩) U6;have N:=T2.alloc (b:=u+1) (Z:=u+2) (pl:=⟨w.heap.size+1,0,0⟩) (bU:=.loop .ready none fn n ac B params.toList assign body u) (I:=.loop {state:=.ready,pending:=none,fn,tmps,params,assign,body,defers:=w.heap.size})
    (D:=aH C (aH C q u (some (.deferred (some [])))) (u+1) (some (.loop .ready none fn n ac B params.toList assign body u))) T1 (Yr _) (Yb _) U6 U1 (by rw[World.size_alloc])
    (by rw[dm _ T1,Zv rfl]) (λx i=> .inl (by rw[dm _ T1,Zi i]))
    ⟨tmps,by
     rw[show(⟨w.heap.size+1,0,0⟩:hv).bA=(w.alloc (.deferred (some []))).heap.size by rw[World.size_alloc],World.alloc_heap_new,T3 u (.inr rfl),UC],
     (O.M TZ.e2 TZ.fz).M T3 (λ_ h=> .inl h),.inl (.inr rfl),U7,U8,λc p=>(by cases p),a.eJ.fn⟩
    ⟨λ_ _ _ h=>(by cases h),λ_ _ _ h=>(by cases h)⟩
   have UX:eH C (u+1) (dR F u ⟨w.heap.size,0,0⟩) (add Q u) (aH C q u (some (.deferred (some [])))) aS.heap.size (w.alloc (.deferred (some []))) (dR (dR F u ⟨w.heap.size,0,0⟩) (u+1) ⟨w.heap.size+1,0,0⟩) (add (add Q u) (u+1))
    (aH C (aH C q u (some (.deferred (some [])))) (u+1) (some (.loop .ready none fn n ac B params.toList assign body u))) ((w.alloc (.deferred (some []))).alloc (.loop {state:=.ready,pending:=none,fn,tmps,params,assign,body,defers:=w.heap.size})):=
    ⟨T3,λ_ h=> .inl h,λo h=>h.elim .inl (λh=> .inr Zo),λx _ U5=>by rw[dm _ T1,Zi Zo],Below.alloc (Below.refl _ _) U1 _⟩
   have i:=TZ.trans (Yb u) UX;have j:=a.ext N (i.mono a.f2) (ZE (Yb _) (Yb _));have UQ:mC C (add (add Q u) (u+1)) fn ac (⟨.collected u,[]⟩::aP) none:=⟨λd ai=>by
    rcases Zq.1 ai with rfl|ai
    ·exact⟨.inl (.inr rfl),trivial⟩
    ·exact j.eJ.aP d ai,j.eJ.ro,j.eJ.fn⟩
   have TY:hw C (dR (dR F u ⟨w.heap.size,0,0⟩) (u+1) ⟨w.heap.size+1,0,0⟩) (add (add Q u) (u+1)) (aH C (aH C q u (some (.deferred (some [])))) (u+1) (some (.loop .ready none fn n ac B params.toList assign body u))) aT (u+2) n ac B tmps
    (.inRangeFunc (u+1)::k) (.inRangeFunc (w.heap.size+1)::aQ):=by
    have:=hw.b2 (aT:=aT) (ag:=u+2) (q:=aH C (aH C q u (some (.deferred (some [])))) (u+1) (some (.loop .ready none fn n ac B params.toList assign body u))) (U4.M i.e2 i.fz) (O.M i.e2 i.fz) (l:=u+1) (.inr rfl);rw[gT]at this;exact this
   have G:aT<=u+2:=zL a.f2;obtain⟨args,T5,T6⟩:=U3 (w.heap.size+1) _ _ _ _ _ _ _ (u+2) (u+1) i.e2 i.fz (.inr rfl) (by rw[gT]) N j.gp j.eK (Zg _)
    (.cons (bh:=.run) TY trivial UQ a.bot G j.cs) Zs h
   refine .head (Ig (run_enterLoop_outer fn tmps params assign body) (UA _ _) T5) ?_;have T8:({bD F fn aP ar none tmps (.inRangeFunc (w.heap.size+1)::aQ) .run with defers:=[{target:=.collected w.heap.size,args:= #[]}]++aP.map (hm F)}:Frame)=
    bD (dR (dR F u ⟨w.heap.size,0,0⟩) (u+1) ⟨w.heap.size+1,0,0⟩) fn (⟨.collected u,[]⟩::aP) ar none tmps (.inRangeFunc (w.heap.size+1)::aQ) .run:=by
    have e:aP.map (hm (dR (dR F u ⟨w.heap.size,0,0⟩) (u+1) ⟨w.heap.size+1,0,0⟩))=aP.map (hm F):=Ys λd ai=>yP i.e2 (a.eJ.aP d ai);have UF:hm (dR (dR F u ⟨w.heap.size,0,0⟩) (u+1) ⟨w.heap.size+1,0,0⟩) ⟨.collected u,[]⟩={target:=.collected w.heap.size,args:= #[]}:=by simp only[hm,qd,bf];rw[T3 u (.inr rfl),UC]
    simp only[bD,ZG,e,UF,Yw,Yq,zh]
   rw[T8];exact T6
  |some l=>
   simp only[gi]at h;split at h
   ·rename_i st Un Ue Uh Ug UY Um UZ Ua m T9;have ai:=a.eJ.ro l rfl;obtain⟨Up,dH,gd,UD,Ui,Uj,Uk,Ul⟩:=a.K.obj l _ T9 ai;have L:=j7 a.K;have U0:=ke (F:=F) (pl:=⟨w.heap.size,0,0⟩) L;have N:=a.K.alloc (b:=u) (Z:=u+1) (pl:=⟨w.heap.size,0,0⟩) (bU:=.loop .ready none fn n ac B params.toList assign body m) (I:=.loop {state:=.ready,pending:=none,fn,tmps,params,assign,body,defers:=(F m).bA})
     (D:=aH C q u (some (.loop .ready none fn n ac B params.toList assign body m))) a.K.aB (Yr _) (Yb _) L a.cx rfl
     (by rw[dm _ a.K.aB,Zv rfl]) (λx i=> .inl (by rw[dm _ a.K.aB,Zi i]))
     ⟨tmps,by rw[World.alloc_heap_new,U0 m UD],O.M U0 (λ_ h=> .inl h),.inl UD,U7,U8,λc p=>(by cases p),a.eJ.fn⟩
     ⟨λ_ _ _ h=>(by cases h),λ_ _ _ h=>(by cases h)⟩
    have i:eH C u F Q q aS.heap.size w (dR F u ⟨w.heap.size,0,0⟩) (add Q u) (aH C q u (some (.loop .ready none fn n ac B params.toList assign body m))) (w.alloc (.loop {state:=.ready,pending:=none,fn,tmps,params,assign,body,defers:=(F m).bA})):=
     ⟨U0,λ_ h=> .inl h,λo h=>h.elim .inl (λh=> .inr Zo),λx _ U5=>by rw[dm _ a.K.aB,Zi Zo],Below.alloc (Below.refl _ _) a.cx _⟩
    have j:=a.ext N (i.mono a.f2) (Yb _);have TY:hw C (dR F u ⟨w.heap.size,0,0⟩) (add Q u) (aH C q u (some (.loop .ready none fn n ac B params.toList assign body m))) aT (u+1) n ac B tmps (.inRangeFunc u::k) (.inRangeFunc w.heap.size::aQ):=by have:=hw.b2 (aT:=aT) (ag:=u+1) (q:=aH C q u (some (.loop .ready none fn n ac B params.toList assign body m))) (U4.M i.e2 i.fz) (O.M i.e2 i.fz) (l:=u) (.inr rfl);rw[gT]at this;exact this
    have G:aT<=u+1:=zL a.f2;obtain⟨args,T5,T6⟩:=U3 w.heap.size _ _ _ _ _ _ _ (u+1) u i.e2 i.fz (.inr rfl) (by rw[gT]) N j.gp j.eK (Zg _)
     (.cons (bh:=.run) TY trivial j.eJ a.bot G j.cs) Zs h
    have UN:(Instr.enterLoop fn tmps params assign body ((some l).map λl=>(F l).bA)).run C.P w=.ok (w.heap.size,[]) (w.alloc (.loop {state:=.ready,pending:=none,fn,tmps,params,assign,body,defers:=(F m).bA})):=by unfold Instr.enterLoop;simp only[ZX,Sem.run_bind,run_getLoop dH,run_newObj_alloc,Result.andThen,Sem.run_pure]
    refine .head (Ig UN (UA _ _) T5) ?_;have T8:({bD F fn aP ar (some l) tmps (.inRangeFunc w.heap.size::aQ) .run with defers:=[]++aP.map (hm F)}:Frame)=bD F fn aP ar (some l) tmps (.inRangeFunc w.heap.size::aQ) (d5 F .run):=rfl;rw[T8, <-s5 i.e2 a.eJ];exact T6
   ·simp at h
 ·simp at h
def Fe(A:Env C aS cv cw)(p:h3 C aS a1 bg U)(j:fm C aS a1 bg fn ac aP ar ro cs q u F Q w aT Y)(m:fy F Q n ac B tmps):∀(c:Code) (k:List co) (aQ:List Item),g7 C ac c=true->g3 C F Q ac k aQ->
 l8 c U C k ⟨fn,n,ac,aP,ar,ro,cs⟩ B q u=some v->Ends C aS a1 bg v (lone (bD F fn aP ar ro tmps (.code c::aQ) .run) Y w):=by
 intro c;have go:∀k aQ,g3 C F Q ac k aQ->U .run k ⟨fn,n,ac,aP,ar,ro,cs⟩ B q u=some v->Ends C aS a1 bg v (lone (bD F fn aP ar ro tmps aQ .run) Y w):=
  λk aQ d h=>p _ _ _ _ _ _ _ _ _ _ _ _ v h F Q w aT tmps aQ Y (j.state (.plain d m))
 induction c with
 |skip=>intro k aQ _ d h;exact .head acp (go k aQ d h)|region id ae T0=>intro k aQ _ d h;exact aaT A p j d m h|seq a b x i=>intro k aQ e d h;simp only[g7,Zu]at e;exact .head aco (x (.code b::k) (.code b::aQ) e.1 (.cons (.code e.2) d) h)|cond c a b x i=>
  intro k aQ e d h;simp only[g7,Zu]at e;have g:t2 c B (l8 a U C k ⟨fn,n,ac,aP,ar,ro,cs⟩ B q u) (l8 b U C k ⟨fn,n,ac,aP,ar,ro,cs⟩ B q u)=some v:=h;simp only[t2,mr]at g;split at g
  ·rename_i R P;obtain⟨L,_⟩:=FN j.eK m e.1 P;cases R with
   |bool t=>
    refine .head (ab6 (by rw[L];rfl)) ?_;cases t with
    |true=>exact x k aQ e.2.1 d g|false=>exact i k aQ e.2.2 d g
   |_=>simp at g
  ·simp at g
 |block id b i=>intro k aQ e d h;exact .head ab5 (i (.inBlock id::k) (.inBlock id::aQ) e (.cons .inBlock d) h)|loop b i=>intro k aQ e d h;exact .head acf (i (.inLoop b::k) (.inLoop b::aQ) e (.cons (.inLoop e) d) h)|rangeFunc f params assign body _ _=>intro k aQ e d h;exact aaJ A p j m e d h|exit id=>
  intro k aQ _ d h;have g:oZ id U C k ⟨fn,n,ac,aP,ar,ro,cs⟩ B q u=some v:=h;unfold oZ at g;split at g
  ·rename_i X r;obtain⟨G,N,O⟩:=P4 id d r;exact .head (aca N) (go X G O g)
  ·rename_i r;exact AW p (.inr (.inr ⟨id,aQ,rfl,rfl,P3 id d r⟩)) j m g
 |scope b i=>intro k aQ e d h;exact .head acn (i (.inScope b::k) (.inScope b::aQ) e (.cons (.inScope e) d) h)|label l=>intro k aQ _ d h;exact .head ace (go k aQ d h)|goto l=>intro k aQ _ _ h;exact absurd h (by simp[l8,q6])|ret=>intro k aQ _ d h;exact AW p (.inr (.inl ⟨rfl,aQ,rfl⟩)) j m h|refuse s=>intro k aQ _ _ h;exact absurd h (by simp[l8,q6])
def aa0(A:bW C F Q q u aO w)(k:fy F Q n ac B tmps){bm:ResultVar->Sem Value}(s:∀t,bm (.tmp t)=pure (tmps.getD t Go.undef))(v:∀a t,bm (.cell a t)=do loadVar t (<-asAddr (tmps.getD a Go.undef))):
 ∀(l:List ResultVar) (aG:List z),n7 ac l=true->nf C q B l=some aG->(l.mapM bm).run C.P w=.ok (bf F aG) w/\cz Q aG:=by
 intro l;induction l with
 |nil=>intro aG _ h;simp[nf]at h;subst h;exact⟨by simp[bf],trivial⟩|cons x l U=>
  intro aG c h;cases x with
  |tmp t=>
   simp only[n7,Zu]at c;simp only[nf]at h;split at h
   ·rename_i R r d K;simp at h;subst h;obtain⟨e,f⟩:=k.val t R c.1 d;obtain⟨g,i⟩:=U r c.2 K;refine⟨?_,f,i⟩;simp[s,e,g,bf]
   ·simp at h
  |cell a t=>
   simp only[n7,Zu]at c;simp only[nf]at h;split at h
   ·rename_i p G;split at h
    ·rename_i R r d K;simp at h;subst h;obtain⟨e,f⟩:=k.val a p c.1 G;obtain⟨g,i⟩:=U r c.2 K;obtain⟨j,m⟩:=EF A f d;refine⟨?_,m,i⟩;cases p with|ptr b I=>simp only[Instr.loadAt,Instr.sureAddr,aq,Sem.run_bind,Sem.run_pure,Result.andThen_ok]at j;simp[List.mapM_cons,v,e,aq,asAddr,j,g,bf]|_=>simp[g4,ca,ay]at d;split at d<;>simp at d
    ·simp at h
   ·simp at h
def β(aG:List z):(if h:(bf F aG).toArray.size=1 then(bf F aG).toArray[0]else Value.tuple (bf F aG).toArray)=aq F (one aG):=by
 match aG with
 |[]=>rfl|[a]=>simp[one,bf]|a::b::r=>simp[one,bf,aq]
def TX{aG:List z}(h:cz Q aG):bs Q (one aG):=by
 match aG,h with
 |[],h=>exact h|[a],h=>exact h.1|a::b::r,h=>exact h
def fm.defs(a:fm C aS a1 bg fn ac aP ar ro cs q u F Q w aT Y){b:List eD}(h:∀d∈b,o8 Q d):fm C aS a1 bg fn ac b ar ro cs q u F Q w aT Y:=
 ⟨a.K,a.gp,a.eK,a.f2,⟨h,a.eJ.ro,a.eJ.fn⟩,a.bot,a.cs⟩
def fm.B3{todo:List co}{bh:gA}(e:bh≠ .run)(b:j1 Q bh)(a:fm C aS a1 bg fn ac aP ar ro cs q u F Q w aT Y)(c:fy F Q n ac B tmps):
 p1 C aS a1 bg bh todo fn n ac aP ar ro cs B q u F Q w aT tmps aQ Y:=by
 cases bh with|run=>grind|returning=>exact⟨a.K,a.gp,a.eK,a.f2,a.eJ,b,a.bot,a.cs,c⟩|panicking d=>exact⟨a.K,a.gp,a.eK,a.f2,a.eJ,b,a.bot,a.cs,c⟩
def Fs(L:Env C aS cv cw)(t:h3 C aS a1 bg U){d:eD}{bb:List eD}{bh:gA}{todo:List co}(j:bh≠ .run)(p:j1 Q bh)(a:fm C aS a1 bg fn ac (d::bb) ar ro cs q u F Q w aT Y)(A:fy F Q n ac B tmps)
 (h:nj d bb bh todo U C ⟨fn,n,ac,[],ar,ro,cs⟩ B q u=some v):Ends C aS a1 bg v (lone (bD F fn (d::bb) ar ro tmps aQ (d5 F bh)) Y w):=by
 have c:=a.eJ.aP d (Zr ..);have s:=λb ai=>a.eJ.aP b (Zw _ ai);have m:d5 F bh≠ .run:=by cases bh<;>simp[d5]at j ⊢
 unfold nj at h;split at h;rename_i U2 ap s2 U1 U0 U3 TZ T3;cases T3;split at h
 ·rename_i r G;split at h
  ·rename_i i x;simp only[cO,du]at h;obtain⟨T2,h⟩:=h;have ai:=c.1;obtain⟨dH,gd⟩:=a.K.obj r _ x ai;obtain⟨a2,a7,bl,TY⟩:=putObj a.K (dG:=.deferred none) (ic:=.deferred none) (e7 T2) ai x ⟨Zs,Zs⟩ dH Zs
    (λa2 T9=>⟨by simpa using T9,λl T5=>by cases T5⟩) ⟨λ_ _ _ h=>(by cases h),λ_ _ _ h=>(by cases h)⟩
   have T8:(Instr.takeDeferred (F r).bA).run C.P w=.ok (i.map (hm F)) a2:=by
    have e:a2=w.putObj (F r).bA (.deferred none):=by
     have:(Go.setObj (F r).bA (.deferred none)).run C.P w=.ok () (w.putObj (F r).bA (.deferred none)):=by simp[Go.setObj,Sem.run,dH,World.putObj]
     rw[this]at a7;simp only[Result.ok.injEq]at a7;exact a7.2.symm
    rw[e];exact run_takeDeferred dH
   refine .head (acq m T8 (by rw[ZU])) ?_;have T1:∀d∈i++bb,o8 Q d:=λb T0=>by
    rcases Zp.1 T0 with V|V
    ·exact gd i rfl b V
    ·exact s b V
   have X:=(a.defs T1).ext bl TY (Zg _);exact t _ _ _ _ _ _ _ _ _ _ _ _ v h F Q a2 aT tmps aQ Y (X.B3 j p A)
  ·simp at h
 ·rename_i f k args;split at h
  ·rename_i g G T4;have P:=Gp (F:=F) (q:=q) (u:=u) (aO:=aS.heap.size) (w:=w) L.ge c.1.1 c.1.2 c.2 T4;obtain⟨N,O⟩:=P;have T7:=step_defer (fr:=bD F fn (⟨.fn f k,args⟩::bb) ar ro tmps aQ (d5 F bh)) (cs:=Y) (d:=hm F ⟨.fn f k,args⟩) m rfl rfl N;refine .head T7 ?_;have T6:oI C F Q q aT u n ac B tmps bh todo aQ:=by cases bh with|run=>exact absurd rfl j|_=>exact A
   exact FE t a.K a.gp a.eK (Zg _) (.cons T6 p ((a.defs s).eJ) a.bot a.f2 a.cs) (λe=>by cases e) O h
  ·simp at h
def Pk(F:bX):∀(l:List kK),(l.map (nH F)).dropWhile (!·.goexit)=[]:=by intro l;induction l with|nil=>rfl|cons a l U=>assumption
def abE(F:bX)(a:List kK):settle (d5 F (.panicking a))=d5 F (pK a):=by cases a with|nil=>rfl|cons p l=>obtain⟨v,r⟩:=p;cases r with|false=>rfl|true=>simp[d5,settle,pK,nH,Pk]
def acX{a:List kK}(h:j1 Q (.panicking a)):j1 Q (pK a):=by
 unfold pK;split
 ·trivial
 ·exact h
def acY(a:List kK):pK a≠ .run:=by unfold pK;grind
def aa5(T7:Env C aS cv cw)(G:h3 C aS a1 bg U){todo:List co}(b:fm C aS a1 bg fn ac aP ar ro cs q u F Q w aT Y)(T1:fy F Q n ac B tmps)
 (h:vb todo U C ⟨fn,n,ac,aP,ar,ro,cs⟩ B q u=some v):Ends C aS a1 bg v (lone (bD F fn aP ar ro tmps aQ .returning) Y w):=by
 unfold vb at h;cases aP with
 |cons d bb=>exact Fs (bh:=.returning) T7 G Zs trivial b T1 h|nil=>
  simp only at h;split at h
  ·rename_i f O;obtain⟨U5,X,TY⟩:=b.eJ.fn;rw[O]at X;cases X;split at h
   ·rename_i aG U0;have L:(results f tmps).run C.P w=.ok (aq F (one aG)) w/\cz Q aG:=by unfold results;rw[Sem.run_bind,Array.mapM_eq_mapM_toList,Sem.run_map];obtain⟨U2,U3⟩:=aa0 b.K T1 (bm:=λx=>match x with| .tmp t=>pure (tmps.getD t Go.undef)| .cell a t=>do loadVar t (<-asAddr (tmps.getD a Go.undef))) (λ_=>rfl) (λ_ _=>rfl) _ _ TY U0;refine⟨?_,U3⟩;refine(congrArg (λr=>Result.andThen (Result.andThen r _) _) U2).trans ?_;simp only[Result.andThen_ok,Sem.run_pure];rw[<-β]
    obtain⟨L,T8⟩:=L;cases ar with
    |false=>
     have T0:(bD F fn [] false ro tmps aQ .returning).leaving C.P w (.returned (aq F (one aG))):=⟨rfl,rfl,rfl,f,O,L⟩;cases cs with
     |nil=>
      simp only[lE,ga,Zh]at h;subst h;obtain⟨bc,bp,bG⟩:=b.bot rfl;have T9:=b.cs;cases T9 with
      |nil=>exact⟨F,w,_,.refl _ _,T0,bc,b.gp⟩
     |cons c rest=>refine EY G b Zs (TX T8) (λg A e=> ?_) h;subst e;exact step_leave_returned T0
    |true=>cases cs with|nil=>have:=(b.bot rfl).2.1;cases this|cons c rest=>obtain⟨p,U6,U1,U4,U7,m,T6,l,s⟩:=c;obtain⟨P,j,i,A,rfl,a7,bl,T2,T3,T4,T5⟩:=b.cs.inv;have TZ:=step_going_returned (fr:=bD F fn [] true ro tmps aQ .returning) (c:=bD F p m l s j i (d5 F T6)) (cs:=A) (v:=aq F (one aG)) rfl ⟨rfl,rfl,f,O,L⟩;refine .head TZ ?_;cases T6 with|run=>simp[lE]at h|returning=>have N:=h;exact G _ _ _ _ _ _ _ _ _ _ _ _ v N F Q w P j i A ⟨b.K,b.gp,b.eK,ZE T4 b.f2,T2,trivial,T3,T5,a7⟩|panicking k=>have N:=h;have e:({bD F p m l s j i (d5 F (.panicking k))with mode:=settle (bD F p m l s j i (d5 F (.panicking k))).mode}:Frame)=bD F p m l s j i (d5 F (pK k)):=(by rw[show(bD F p m l s j i (d5 F (.panicking k))).mode=d5 F (.panicking k) from rfl,abE];rfl);rw[e];have W:fm C aS a1 bg p U1 m l s rest q u F Q w P A:=⟨b.K,b.gp,b.eK,ZE T4 b.f2,T2,T3,T5⟩;exact G _ _ _ _ _ _ _ _ _ _ _ _ v N F Q w P j i A (W.B3 (acY k) (acX bl) a7)
   ·simp at h
  ·simp at h
def aaG(F:bX)(a:List kK)(bh:gA):raised (d5 F bh) (a.map (nH F))=d5 F (th a bh):=by cases bh<;>simp[d5,raised,th]
def aaA{a:List kK}{bh:gA}(h:j1 Q (.panicking a))(b:j1 Q bh):j1 Q (th a bh):=by
 cases bh with
 |panicking he=>
  intro p c;rcases Zp.1 c with V|V
  ·exact h p V
  ·exact b p V
 |_=>exact h
def φ(A:Env C aS cv cw)(t:h3 C aS a1 bg U){todo:List co}{i:List kK}(s:j1 Q (.panicking i))(a:fm C aS a1 bg fn ac aP ar ro cs q u F Q w aT Y)(O:fy F Q n ac B tmps)
 (h:BV i todo U C ⟨fn,n,ac,aP,ar,ro,cs⟩ B q u=some v):Ends C aS a1 bg v (lone (bD F fn aP ar ro tmps aQ (d5 F (.panicking i))) Y w):=by
 unfold BV at h;cases aP with|cons d bb=>exact Fs A t Zs s a O h|nil=>cases cs with|nil=>grind|cons c rest=>obtain⟨l,T4,T2,T3,T5,k,b,j,m⟩:=c;obtain⟨x,p,g,r,rfl,a7,bl,P,X,T0,T1⟩:=a.cs.inv;obtain⟨f,L,_⟩:=a.eJ.fn;have N:=step_going_panicked (fr:=bD F fn [] ar ro tmps aQ (d5 F (.panicking i))) (c:=bD F l k j m p g (d5 F b)) (cs:=r) (w:=w) ⟨rfl,rfl,f,L⟩;refine .head N ?_;have e:({bD F l k j m p g (d5 F b)with mode:=raised (bD F l k j m p g (d5 F b)).mode (i.map (nH F))}:Frame)=bD F l k j m p g (d5 F (th i b)):=(by rw[show(bD F l k j m p g (d5 F b)).mode=d5 F b from rfl,aaG];rfl);rw[e];have G:=h;have W:fm C aS a1 bg l T2 k j m rest q u F Q w x r:=⟨a.K,a.gp,a.eK,ZE T0 a.f2,P,X,T1⟩;exact t _ _ _ _ _ _ _ _ _ _ _ _ v G F Q w x p g r (W.B3 (by cases b<;>simp[th]) (aaA s bl) a7.drop)
def Ii(m:Env C aS cv cw)(g:h3 C aS a1 bg U):h3 C aS a1 bg λbh todo bm B q u=>BU U C bh todo bm B q u:=by
 intro bh todo fn n ac aP ar ro cs B q u v N F Q w bQ tmps aQ Y b;cases bh with
 |run=>
  obtain⟨e,TZ⟩:=b.Oa;have G:=N;cases TZ with
  |plain f r=>
   cases f with
   |nil=>have i:=G;exact AW g (.inl ⟨rfl,rfl⟩) e r i|cons ag f=>
    rename_i a x k aQ;have i:=G;have go:∀k aQ,g3 C F Q ac k aQ->U .run k ⟨fn,n,ac,aP,ar,ro,cs⟩ B q u=some v->Ends C aS a1 bg v (lone (bD F fn aP ar ro tmps aQ .run) Y w):=
     λk aQ f h=>g _ _ _ _ _ _ _ _ _ _ _ _ v h F Q w bQ tmps aQ Y (e.state (.plain f r))
    cases ag with
    |code A=>exact Fe m g e r _ k aQ A f i|inBlock=>exact .head acb (go k aQ f i)|inLoop A=>exact .head acc (Fe m g e r _ _ _ A (.cons (.inLoop A) f) i)|inScope A=>exact .head acd (go k aQ f i)|qo ai=>
     rename_i l;have d:sy l U C k ⟨fn,n,ac,aP,ar,ro,cs⟩ B q u=some v:=i;unfold sy at d;split at d
     ·rename_i st j T2 T5 T4 T0 params assign body T1 t;have L:st≠ .busy->ba (eB C l) (fB (aH C q l (some (.loop .exhausted j T2 T5 T4 T0 params assign body T1))) λq=>U .run ((j.map co.code).toList++k) ⟨fn,n,ac,aP,ar,ro,cs⟩ B q u) none=some v->
       Ends C aS a1 bg v (lone (bD F fn aP ar ro tmps (.endRangeFunc (F l).bA::aQ) .run) Y w):=by
       intro TY p;simp only[cO,du]at p;obtain⟨P,p⟩:=p;have X:∀c,j=some c->sS c:=(by obtain⟨_,_,_,_,_,_,s,_⟩:=e.K.obj l _ t ai;exact s);obtain⟨U1,dH,U0,s,O⟩:=A8 e (pA:=j) (e7 P) ai t X;refine .head (ab9 (run_endLoop dH TY)) ?_;refine g _ _ _ _ _ _ _ _ _ _ _ _ v p F Q _ bQ tmps _ Y (O.state (.plain ?_ r));cases j with|none=>exact f|some c=>have T8:g7 C ac c=true:=(by rcases s c rfl with rfl|⟨id,rfl⟩<;>rfl);exact .cons (.code T8) f
      cases st with|busy=>simp at d|ready=>exact L Zs d|done=>exact L Zs d|exhausted=>exact L Zs d
     ·simp at d
    |begin=>
     have d:tT U C k ⟨fn,n,ac,aP,ar,ro,cs⟩ B q u=some v:=i;unfold tT at d;cases ro with
     |none=>simp at d|some l=>
      simp only at d;split at d
      ·rename_i j T2 T5 T4 T0 params assign body T1 t;simp only[cO,du]at d;obtain⟨P,d⟩:=d;have ai:=e.eJ.ro l rfl;have X:∀c,j=some c->sS c:=(by obtain⟨_,_,_,_,_,_,s,_⟩:=e.K.obj l _ t ai;exact s);obtain⟨U1,dH,U0,s,O⟩:=A8 e (pA:=j) (e7 P) ai t X;refine .head (ab4 (run_beginRound dH rfl)) ?_;exact g _ _ _ _ _ _ _ _ _ _ _ _ v d F Q _ bQ tmps aQ Y (O.state (.plain f r))
      ·simp at d
  |seq f T9=>exact H6 m g _ _ _ _ _ _ _ _ _ _ e f T9 G|drawn f p T6 T3 T7=>exact Fw m g e f p T6 T3.bv T3 T7 G
 |returning=>have e:fm C aS a1 bg fn ac aP ar ro cs q u F Q w bQ Y:=⟨b.K,b.gp,b.eK,b.f2,b.eJ,b.bot,b.cs⟩;exact aa5 m g e b.todo N|panicking U2=>have e:fm C aS a1 bg fn ac aP ar ro cs q u F Q w bQ Y:=⟨b.K,b.gp,b.eK,b.f2,b.eJ,b.bot,b.cs⟩;exact φ m g b.mode e b.todo N
def abq(a:Env C aS cv cw):∀n,h3 C aS a1 bg (run C n):=by intro n;induction n with|zero=>intro bh todo fn n ac aP ar ro cs B q u v h;simp[run]at h|succ m b=>exact Ii a b
def abn(a:Env C aS cv cw){m f:Nat}{args:List z}(c:cz cw args)(h:n9 C m f args=some v):
 Calls C.P f (bf cv args).toArray aS λe a2=>(∃F,e=.returned (aq F v))/\Below aS.heap.size aS a2:=by
 intro b;have k:Ends C aS f b v (lone (Frame.enter C.P f (bf cv args).toArray .normal) b aS):=
  wm (abq a m) a.base (Below.refl _ _) a.eK (Zg _) .nil (λ_=>rfl) c h
 obtain⟨F,a2,fr,d,g,i,j⟩:=k;exact⟨.returned (aq F v),a2,fr,⟨⟨F,rfl⟩,j⟩,d,i,g⟩
end
noncomputable section
open Go.RowKit (Below)
abbrev mF:=Option (List z×Nat×List (Nat×S))
def sW(P:Program)(next:Nat->DataW Unit->Nat->mF):List Field->List (DataW Unit)->Nat->Nat->mF
 |[],[],_,n=>some ([],n,[])|f::f0,d::bb,off,n=>ba (Nat.beq f.offset off) (match next f.type d n with
  |some (l,ap,os)=>ba (Nat.beq l.length (P.cellsOf f.type)) (match sW P next f0 bb (off+l.length) ap with
   |some (a,aw,b)=>some (l++a,aw,os++b)|none=>none) none
  |none=>none) none
 |_,_,_,_=>none
def sV(P:Program)(next:Nat->DataW Unit->Nat->mF)(e:Nat):List (DataW Unit)->Nat->mF
 |[],n=>some ([],n,[])|d::bb,n=>match next e d n with
  |some (l,ap,os)=>ba (Nat.beq l.length (P.cellsOf e)) (match sV P next e bb ap with
   |some (a,aw,b)=>some (l++a,aw,os++b)|none=>none) none
  |none=>none
def uD:Lit->Option z
 | .bool b=>some (.bool b)| .int k n=>some (.int k n)| .string s=>some (.str (s.map (·.toNat)))|_=>none
def AU(P:Program)(e:Nat)(l:List z):Option z:=match P.underlying e with
 |some (.struct _)=>some (.agg l)|some (.array _ _)=>some (.agg l)|some _=>(match l with|[v]=>some v|_=>none)|none=>none
def xo(P:Program)(k:Nat):Bool:=match P.underlying k with|some .bool=>true|some (.int _)=>true|some .string=>true|_=>false
def uJ(P:Program)(next:Nat->DataW Unit->Nat->mF)(e:Nat):List (Lit×DataW Unit)->Nat->Option (List (z×z)×Nat×List (Nat×S))
 |[],n=>some ([],n,[])|(key,d)::a,n=>match uD key,next e d n with
  |some b,some (l,ap,os)=>(match AU P e l,uJ P next e a ap with
   |some v,some (r,aw,c)=>some ((b,v)::r,aw,os++c)|_,_=>none)
  |_,_=>none
def tl(l:List z):S:=.cells (E.ofList l 0 .nil) l.length .own
def m7(P:Program):Nat->Nat->DataW Unit->Nat->mF
 |0,_,_,_=>none|m+1,t,d,n=>match P.underlying t,d with
  |some .bool,.lit (.bool b)=>some ([.bool b],n,[])|some (.int _),.lit (.int k i)=>some ([.int k i],n,[])|some .string,.lit (.string s)=>some ([.str (s.map (·.toNat))],n,[])|some (.pointer _),.nil=>some ([.bH],n,[])|some (.pointer e),.ptr d=>(match m7 P m e d (n+1)with
   |some (l,ap,os)=>ba (Nat.beq l.length (P.cellsOf e)&&Nat.blt 0 l.length) (some ([.ptr n 0],ap,(n,tl l)::os)) none|none=>none)
  |some (.slice _),.nil=>some ([.ax],n,[])|some (.slice e),.slice a c=>(match c with
   |[]=>(match sV P (m7 P m) e a (n+1)with
    |some (l,ap,os)=>ba (Nat.blt 0 l.length) (some ([.slice n 0 a.length a.length],ap,(n,tl l)::os)) none|none=>none)
   |_::_=>none)
  |some (.struct f0),.agg bb=>(match sW P (m7 P m) f0.toList bb 0 n with
   |some (l,ap,os)=>ba (Nat.beq l.length (P.cellsOf t)) (some (l,ap,os)) none|none=>none)
  |some (.array _ e),.agg bb=>(match sV P (m7 P m) e bb n with
   |some (l,ap,os)=>ba (Nat.beq l.length (P.cellsOf t)) (some (l,ap,os)) none|none=>none)
  |some (.interface _),.nil=>some ([.nilIface],n,[])|some (.map _ _),.nil=>some ([.gO],n,[])|some (.map k e),.map a=>ba (xo P k) (match uJ P (m7 P m) e a (n+1)with
   |some (r,ap,os)=>some ([.map n],ap,(n,.look r)::os)|none=>none) none
  |_,_=>none
section
variable{C:al}{P:Program}{w:World}
def l2(w:World)(b4:List MemPlace):Prop:=∀b off,MemPlace.cell b off∈b4->∃c t,w.heap[b]? =some (.cells c t (0,0))
def sc(I:S):Prop:=∀C Q,mH C Q I
def Lays(C:al)(w:World)(n:Nat)(cs:List Value)(r:List z×Nat×List (Nat×S)):Prop:=
 n<=r.2.1/\(∀x∈r.2.2,n<=x.1/\x.1<r.2.1/\sc x.2)/\∃f:Nat->hv,∀F Q,(∀b,n<=b->b<r.2.1->F b=f b/\Q b)->cs=bf F r.1/\cz Q r.1/\∀x∈r.2.2,f7 C F Q x.2 (F x.1) w
def Lays.plain{n:Nat}{cs:List Value}{l:List z}(h:∀F Q,cs=bf F l/\cz Q l):Lays C w n cs (l,n,[]):=
 ⟨Zg _,Zs,λ_=>default,λF Q _=>⟨(h F Q).1,(h F Q).2,Zs⟩⟩
def Lays.app{n ap aw:Nat}{d e:List Value}{bw i:List z}{j k:List (Nat×S)}(a:Lays C w n d (bw,ap,j))(c:Lays C w ap e (i,aw,k)):Lays C w n (d++e) (bw++i,aw,j++k):=by
 obtain⟨aL,bt,s,a3⟩:=a;obtain⟨bc,bp,t,bG⟩:=c;refine⟨ZE aL bc, ?_,λb=>if b<ap then s b else t b, ?_⟩
 ·intro x f;grind
 ·intro F Q g;obtain⟨bV,b0,l⟩:=a3 F Q (λb a c=>by
   have A:=c;have:=g b a (ZV c bc);simp only[Zv A]at this;exact this)
  obtain⟨m,p,r⟩:=bG F Q (λb a c=>by
   have v:=zH.2 a;have:=g b (ZE aL a) c;simp only[Zi v]at this;exact this)
  refine⟨by rw[qh, <-bV, <-m],o9 b0 p, ?_⟩;intro x f;rcases Zp.1 f with h|h
  ·exact l x h
  ·exact r x h
def qW{α cr:Type}{f:α->Option cr}:∀{l:List α}{r:List cr},l.mapM f=some r->r.length=l.length/\∀(i:Nat) (a:α) (b:cr),l[i]? =some a->r[i]? =some b->f a=some b:=by intro l;induction l with|nil=>grind|cons a l U=>intro r h;simp only[List.mapM_cons,Option.bind_eq_bind,Z0]at h;grind
def GU{α cr:Type}{f:α->Option cr}{a:α}{l:List α}{r:List cr}(h:(a::l).mapM f=some r):∃b c,r=b::c/\f a=some b/\l.mapM f=some c:=by simp only[List.mapM_cons,Option.bind_eq_bind,Z0]at h;grind
def l2.of{b4 a:List MemPlace}(h:l2 w b4)(c:∀x∈a,x∈b4):l2 w a:=λb off W=>h b off (c _ W)
def vJ(C:al)(w:World)(next:Nat->DataW Unit->Nat->mF)(cK:TypeId->List Value->Option (DataW Unit×List MemPlace)):Prop:=
 ∀t d n r,next t d n=some r->∀cs b4,cK t cs=some (d,b4)->l2 w b4->Lays C w n cs r
variable{next:Nat->DataW Unit->Nat->mF}{cK:TypeId->List Value->Option (DataW Unit×List MemPlace)}
def Si(k:vJ C w next cK){cs:List Value}:∀(f0:List Field) (bb:List (DataW Unit)) (off n:Nat) (r:List z×Nat×List (Nat×S)),sW P next f0 bb off n=some r->
 ∀b:List (DataW Unit×List MemPlace),(f0.mapM λf=>cK f.type ((cs.drop f.offset).take (P.cellsOf f.type)))=some b->b.map (·.1)=bb->l2 w (b.flatMap (·.2))->Lays C w n ((cs.drop off).take r.1.length) r:=by
 intro f0;induction f0 with
 |nil=>
  intro bb off n r h b _ _ _;cases bb with
  |nil=>simp[sW]at h;subst h;exact .plain λF Q=>⟨by simp[bf],trivial⟩|cons d bb=>grind
 |cons f f0 U=>
  intro bb off n r h b a ai i;cases bb with
  |nil=>simp[sW]at h|cons d bb=>
   simp only[sW,cO]at h;obtain⟨e,h⟩:=h;have e:=Zn e;split at h
   ·rename_i l ap os K;simp only[cO]at h;obtain⟨c,h⟩:=h;have c:=Zn c;split at h
    ·rename_i v aw A m;simp at h;subst h;obtain⟨o,t,rfl,p,s⟩:=GU a;simp at ai;obtain⟨rfl,ai⟩:=ai;have g:=k _ _ _ _ K _ o.2 (by rw[p]) (i.of (by intro x a;simp;exact .inl a));have j:=U bb (off+l.length) ap _ m t s ai (i.of (by intro x a;simp only[YR,Zp];exact .inr a));rw[e, <-c]at g;have:=g.app j;simp;rw[List.take_add,zE];exact this
    ·simp at h
   ·simp at h
def FY(cs:List Value)(k:Nat):∀(m i0:Nat),(List.range' i0 m).flatMap (λi=>(cs.drop (i*k)).take k)=(cs.drop (i0*k)).take (m*k):=by intro m;induction m with|zero=>grind|succ m U=>intro i0;rw[List.range'_succ,YR,U,Yj m 1 k,Nat.one_mul,Nat.add_comm (m*k) k,List.take_add,zE,Yj i0 1 k,Nat.one_mul]
def Gw(p:vJ C w next cK){e:Nat}{g:Nat->List Value}:∀(bb:List (DataW Unit)) (i0 n:Nat) (r:List z×Nat×List (Nat×S)),sV P next e bb n=some r->
 ∀b:List (DataW Unit×List MemPlace),((List.range' i0 bb.length).mapM λi=>cK e (g i))=some b->b.map (·.1)=bb->l2 w (b.flatMap (·.2))->Lays C w n ((List.range' i0 bb.length).flatMap g) r/\r.1.length=bb.length*P.cellsOf e:=by
 intro bb;induction bb with
 |nil=>intro i0 n r h b _ _ _;simp[sV]at h;subst h;exact⟨.plain λF Q=>⟨by simp[bf],trivial⟩,Zs⟩|cons d bb U=>
  intro i0 n r h b a ai f;simp only[sV]at h;split at h
  ·rename_i l ap os K;simp only[cO]at h;obtain⟨c,h⟩:=h;have c:=Zn c;split at h
   ·rename_i G aw L s;simp at h;subst h;obtain⟨o,A,rfl,t,v⟩:=GU a;simp at ai;obtain⟨rfl,ai⟩:=ai;have j:=p _ _ _ _ K _ o.2 (by rw[t]) (f.of (by intro x a;simp;exact .inl a));obtain⟨k,m⟩:=U (i0+1) ap _ s A v ai (f.of (by intro x a;simp only[YR,Zp];exact .inr a));refine⟨?_, ?_⟩
    ·simp;exact j.app k
    ·simp only[ZH,ZI,m,Nat.succ_mul];omega
   ·simp at h
  ·simp at h
end
open Go.RowKit (Below)
section
variable{C:al}{P:Program}{w:World}
def yT{a:Addr}{v:Value}(h:w.cell? a=some v):a.spot=none/\∃bj ty b,w.heap[a.block]? =some (.cells bj ty b)/\bj[a.off]? =some v:=by
 unfold World.cell? at h;split at h
 ·rename_i c ty b W;simp_all
 ·cases h
def yF(a:Addr)(j:Nat):(a.add j).block=a.block:=by unfold Addr.add;split<;>rfl
def EH(a:Addr)(j:Nat):(a.add j).off=a.off+j:=by unfold Addr.add;split<;>simp_all
def yV{a:Addr}{k:Nat}{g:List Value}{bj:Array Value}{ty:TypeId}{l:Nat×Nat}(W:w.heap[a.block]? =some (.cells bj ty l))(h:w.cells? 0 a k=some g):g=(bj.toList.drop a.off).take k/\g.length=k:=by
 unfold World.cells? at h;obtain⟨c,i⟩:=qW h;rw[List.length_range]at c;have key:∀j,j<k->bj[a.off+j]? =g[j]? :=by intro j b;have d:g[j]? =some g[j]:=Zb Zo;have:=i j j g[j] (by simp[b]) d;obtain⟨_,qb,n,m,e,f⟩:=yT this;rw[yF,W]at e;cases e;rw[EH]at f;rw[f,d]
 refine⟨Y7 λj=> ?_,c⟩;by_cases b:j<k
 ·rw[zb b, <-key j b];simp
 ·rw[Yt Zo,Yt Zx]
def Bq(l:List z):sc (tl l):=λ_ _=>⟨λ_ _ _ h=>(by cases h),λ_ _ _ h=>(by cases h;exact s9)⟩
def TT(l:List (z×z)):sc (.look l):=λ_ _=>⟨λ_ _ _ h=>(by cases h),λ_ _ _ h=>(by cases h)⟩
def BK{F:bX}{Q:Nat->Prop}{l:List z}{pl:hv}{bj:Array Value}{ty:TypeId}(W:w.heap[pl.bA]? =some (.cells bj ty (0,0)))(b:(bj.toList.drop pl.cn).take l.length=bf F l)(g:cz Q l)(d:0<l.length):f7 C F Q (tl l) pl w:=by
 have c:l.length<=bj.size-pl.cn:=by have:=congrArg List.length b;rw[fI]at this;grind
 refine⟨bj,ty,0,0,W,rfl,Zo,λi v a=> ?_⟩;rw[g0]at a;have ag:=(Ze.1 a).1;refine⟨?_,pa g a⟩;have:=congrArg (λx:List Value=>x[i]?) b;simp only[zb ag,zg,Z2,oU,a]at this;grind
def Lays.block{n ap:Nat}{os:List (Nat×S)}{cs:List Value}{l:List z}{R:z}{x:Value}{bU:S}(pl:hv)(h:Lays C w (n+1) cs (l,ap,os))(s:sc bU)
 (j:∀F Q,F n=pl->Q n->cs=bf F l->cz Q l->f7 C F Q bU pl w/\x=aq F R/\bs Q R):Lays C w n [x] ([R],ap,(n,bU)::os):=by
 obtain⟨aL,bt,f,a3⟩:=h;have aL:n+1<=ap:=aL;refine⟨by simp only;omega, ?_,λb=>if b=n then pl else f b, ?_⟩
 ·intro o c;grind
 ·intro F Q d;have a:=d n (Zg _) (by simp only;omega);simp only[ZL]at a;obtain⟨bV,b0,e⟩:=a3 F Q (λb r g=>by
   have:=d b Zo g;have i:b≠n:=Zo;simp only[Zi i]at this;exact this)
  obtain⟨k,m,p⟩:=j F Q a.1 a.2 bV b0;refine⟨by simp[bf,m],⟨p,trivial⟩, ?_⟩;intro o c;rcases Zq.1 c with rfl|c
  ·simp only[a.1];exact k
  ·exact e o c
def HL{α cr:Type}{f:α->cr}{a m:List cr}(h:a.Perm m):∀l:List α,l.map f=a->∃b:List α,b.Perm l/\b.map f=m:=by
 induction h with
 |nil=>simp_all|cons x _ U=>
  intro l h;cases l with
  |nil=>grind|cons o l=>simp at h;obtain⟨b,c,d⟩:=U l h.2;exact⟨o::b,c.cons o,by simp[h.1,d]⟩
 |swap x o dk=>
  intro l h;cases l with
  |nil=>grind|cons p l=>
   cases l with
   |nil=>grind|cons V l=>obtain⟨rfl,rfl,rfl⟩:=h;exact⟨V::p::l,.swap _ _ _,Zs⟩
 |trans _ _ i j=>intro l h;obtain⟨bw,c,d⟩:=i l h;obtain⟨k,e,g⟩:=j bw d;exact⟨k,e.trans c,g⟩
def insert_perm{a:Type}(x:Lit×DataW a):∀l,(DataW.insert x l).Perm (x::l):=by
 intro l;induction l with
 |nil=>rfl|cons o l U=>
  simp only[DataW.insert];split
  ·simp_all
  ·exact(U.cons o).trans (.swap _ _ _)
def sorted_perm{a:Type}:∀l:List (Lit×DataW a),(l.foldr DataW.insert []).Perm l:=by intro l;induction l with|nil=>simp_all|cons x l U=>exact(insert_perm x _).trans (U.cons x)
def RX{k:Nat}{v:Value}{key:Lit}{c:z}(f:xo P k=true)(h:keyOf P k v=some key)(a:uD key=some c)(F:bX)(Q:Nat->Prop):v=aq F c/\bs Q c:=by
 unfold xo at f;unfold keyOf at h;have e:mapKey P k v=some key:=by grind
 unfold mapKey at e;split at e
 ·simp at e;subst e;simp[uD]at a;subst a;exact⟨rfl,trivial⟩
 ·split at e
  ·rename_i V i n _ g;simp at e;subst e;simp[uD]at a;subst a;exact⟨by rw[g.1];rfl,trivial⟩
  ·cases e
 ·split at e
  ·rename_i s _ _;simp at e;subst e;simp[uD]at a;subst a;refine⟨by simp only[aq];rw[yN], ?_⟩;intro x d;simp at d;obtain⟨b,_,rfl⟩:=d;exact b.toNat_lt
  ·cases e
 ·cases e
def ac4{e:Nat}{v:Value}{l:List z}{R:z}{F:bX}{Q:Nat->Prop}(c:v.formed P e=true)(a:AU P e l=some R)(b:v.cells.toList=bf F l)(g:cz Q l):v=aq F R/\bs Q R:=by
 unfold AU at a;unfold Value.formed at c;cases ai:P.underlying e with
 |none=>grind|some h=>
  rw[ai]at a c;have agg:(∃cs,v=.agg cs)->R=.agg l->v=aq F R/\bs Q R:=by rintro⟨cs,rfl⟩ rfl;refine⟨?_,g⟩;simp only[Value.cells]at b;simp only[aq, <-b]
  have f:v.cells= #[v]->(∃x,l=[x]/\R=x)->v=aq F R/\bs Q R:=by rintro d ⟨x,rfl,rfl⟩;rw[d]at b;simp[bf]at b;exact⟨b,g.1⟩
  cases v<;>cases h<;>simp only at c a<;>first
   |(cases c;done)|(simp at a;exact agg ⟨_,rfl⟩ a.symm)|(
     split at a
     ·simp at a;exact f rfl ⟨_,rfl,a.symm⟩
     ·cases a)
end
open Go.RowKit (Below)
section
variable{C:al}{P:Program}{w:World}
variable{next:Nat->DataW Unit->Nat->mF}{cK:TypeId->List Value->Option (DataW Unit×List MemPlace)}
def Sh(T9:vJ C w next cK){k e:Nat}(d:xo P k=true):∀(c:List (Lit×DataW Unit)) (n:Nat) (r:List (z×z)×Nat×List (Nat×S)),uJ P next e c n=some r->
 ∀cZ:List (MapEntry×((Lit×DataW Unit)×List MemPlace)),cZ.map (·.2.1)=c->(∀aj∈cZ,keyOf P k aj.1.key=some aj.2.1.1/\aj.1.val.formed P e=true/\cK e aj.1.val.cells.toList=some (aj.2.1.2,aj.2.2)/\l2 w aj.2.2)->
 n<=r.2.1/\(∀x∈r.2.2,n<=x.1/\x.1<r.2.1/\sc x.2)/\r.1.length=cZ.length/\∃f:Nat->hv,∀F Q,(∀b,n<=b->b<r.2.1->F b=f b/\Q b)->
  cZ.map (·.1)=(List.zipWith (λ(p:z×z) (aj:MapEntry×((Lit×DataW Unit)×List MemPlace))=>(p.1,p.2,aj.1.born)) r.1 cZ).map (dP F)/\(∀p∈r.1,bs Q p.1/\bs Q p.2)/\∀x∈r.2.2,f7 C F Q x.2 (F x.1) w:=by
 intro c;induction c with
 |nil=>intro n r h cZ j _;simp[uJ]at h;subst h;simp_all|cons a c U=>
  intro n r h cZ j N;simp only[uJ]at h;split at h
  ·rename_i U6 l ap os TY TZ;split at h
   ·rename_i v U8 aw U7 U0 K;simp at h;subst h;cases cZ with
    |nil=>simp at j|cons aj cZ=>
     simp at j;obtain⟨U2,U3⟩:=j;obtain⟨G,T5,L,T6⟩:=N aj (Zr ..);rw[U2]at G L;obtain⟨aL,bt,T3,a3⟩:=T9 _ _ _ _ TZ _ _ L T6;obtain⟨bc,bp,bn,T4,bG⟩:=U ap _ K cZ U3 (λaj U1=>N aj (Zw _ U1));refine⟨ZE aL bc, ?_,by simpa using bn,λb=>if b<ap then T3 b else T4 b, ?_⟩
     ·intro x m;rcases Zp.1 m with V|V
      ·obtain⟨s,t,A⟩:=bt x V;exact⟨s,ZV t bc,A⟩
      ·obtain⟨s,t,A⟩:=bp x V;exact⟨ZE aL s,t,A⟩
     ·intro F Q O;obtain⟨bV,b0,T0⟩:=a3 F Q (λb g i=>by
       have T8:=i;have:=O b g (ZV i bc);simp only[Zv T8]at this;exact this)
      obtain⟨U5,T1,T2⟩:=bG F Q (λb g i=>by
       have T7:=zH.2 g;have:=O b (ZE aL g) i;simp only[Zi T7]at this;exact this)
      obtain⟨a7,bl⟩:=RX d G TY F Q;obtain⟨X,U4⟩:=ac4 T5 U0 bV b0;refine⟨?_, ?_, ?_⟩
      ·simp only[ZG];congr 1;simp only[dP]at a7 X ⊢;rw[<-a7, <-X]
      ·intro p d;rcases Zq.1 d with rfl|d
       ·exact⟨bl,U4⟩
       ·exact T1 p d
      ·intro x m;rcases Zp.1 m with V|V
       ·exact T0 x V
       ·exact T2 x V
   ·simp at h
  ·simp at h
def I6{cZ:List (MapEntry×((Lit×DataW Unit)×List MemPlace))}:∀(r:List (z×z)) (cZ:List (MapEntry×((Lit×DataW Unit)×List MemPlace))),r.length=cZ.length->
 (List.zipWith (λ(p:z×z) (aj:MapEntry×((Lit×DataW Unit)×List MemPlace))=>(p.1,p.2,aj.1.born)) r cZ).map (λe=>(e.1,e.2.1))=r:=by
 intro r;induction r with|nil=>simp_all|cons p r U=>intro cZ h;cases cZ with|nil=>grind|cons aj cZ=>simp_all
def SX{α cr:Type}{f g:α->Option cr}:∀{l:List α},(∀x∈l,f x=g x)->l.mapM f=l.mapM g:=by intro l;induction l with|nil=>grind|cons a l U=>grind
def Qi{α cr:Type}{f g:α->List cr}:∀{l:List α},(∀x∈l,f x=g x)->l.flatMap f=l.flatMap g:=by intro l;induction l with|nil=>grind|cons a l U=>grind
end
open Go.RowKit (Below)
section
variable{C:al}{P:Program}{w:World}
abbrev rd(P:Program)(w:World)(V:Nat):TypeId->List Value->Option (DataW Unit×List MemPlace):=DataW.trod (λ_=>()) P w 0 (λ_=>true) false V
def xz{a:Addr}{k:Nat}(h:0<k):MemPlace.cell a.block a.off∈MemPlace.row a k:=by exact ZC.2 ⟨0,by simp[h],Zs⟩
def Gy:∀(m V:Nat),vJ C w (m7 P m) (rd P w V):=by
 intro m;induction m with
 |zero=>intro V t d n r h;simp[m7]at h|succ m U=>
  intro V t d n r h cs b4 K T0;cases V with
  |zero=>simp[rd,DataW.trod]at K|succ V=>
   have T8:=U V;simp only[m7]at h;split at h
   ·
    rename_i b j;simp at h;subst h
    match cs with
    |[]=>simp[rd,DataW.trod,j]at K|_::_::_=>simp[rd,DataW.trod,j]at K|[c]=>cases c<;>simp[rd,DataW.trod,j]at K;obtain⟨rfl,rfl⟩:=K;exact .plain λF Q=>⟨rfl,trivial,trivial⟩
   ·
    rename_i Uo k i j;simp at h;subst h
    match cs with
    |[]=>simp[rd,DataW.trod,j]at K|_::_::_=>simp[rd,DataW.trod,j]at K|[c]=>cases c<;>simp[rd,DataW.trod,j]at K;obtain⟨⟨rfl,_⟩,⟨rfl,rfl⟩,rfl⟩:=K;exact .plain λF Q=>⟨rfl,trivial,trivial⟩
   ·
    rename_i s j;simp at h;subst h
    match cs with
    |[]=>simp[rd,DataW.trod,j]at K|_::_::_=>simp[rd,DataW.trod,j]at K|[c]=>cases c<;>simp[rd,DataW.trod,j]at K;obtain⟨_,rfl,rfl⟩:=K;refine .plain λF Q=>⟨by simp only[bf,aq];rw[yN], ?_,trivial⟩;intro x A;simp at A;obtain⟨b,_,rfl⟩:=A;exact b.toNat_lt
   ·
    rename_i e j;simp at h;subst h
    match cs with
    |[]=>simp[rd,DataW.trod,j]at K|_::_::_=>simp[rd,DataW.trod,j]at K|[c]=>cases c<;>simp[rd,DataW.trod,j]at K;rename_i a;cases a with|none=>exact .plain λF Q=>⟨rfl,trivial,trivial⟩|some a=>simp[Z0]at K
   ·
    rename_i e d j;split at h
    ·rename_i l ap os O;simp only[cO,Zu,Zh]at h;obtain⟨⟨L,N⟩,rfl⟩:=h;have L:=Zn L;have N:=hy N
     match cs with
     |[]=>simp[rd,DataW.trod,j]at K|_::_::_=>simp[rd,DataW.trod,j]at K|[c]=>
      cases c<;>simp[rd,DataW.trod,j]at K;rename_i I;cases I with
      |none=>simp at K|some a=>
       simp only[Z0,Function.comp,Yn,YX,DataW.ptr.injEq]at K;obtain⟨b1,TZ,x,A,rfl,rfl⟩:=K;obtain⟨bj,ty,W⟩:=T0 a.block a.off (Zp.2 (.inl (xz Zo)));obtain⟨U3,Uj⟩:=yV W TZ;have T2:a.spot=none:=(by unfold World.cells? at TZ;rw[Zv (zB _)]at TZ;obtain⟨a7,bl⟩:=qW TZ;have:=bl 0 0 b1[0] (by rw[List.getElem?_range Zo]) (Zb Zo);exact(yT (show w.cell? a=some _ from this)).1);have Ue:=T8 _ _ _ _ O b1 x.2 A (T0.of λo G=>Zp.2 (.inr G));refine Lays.block ⟨a.block,a.off,0⟩ Ue (Bq l) λF Q T4 U4 U6 U7=>⟨BK W ?_ U7 N, ?_,U4⟩
       ·simp only;rw[L, <-U3,U6]
       ·simp only[aq,T4];obtain⟨UL,UM,U1⟩:=a;have T2:U1=none:=T2;subst T2;rfl
    ·simp at h
   ·
    rename_i e j;simp at h;subst h
    match cs with
    |[]=>simp[rd,DataW.trod,j]at K|_::_::_=>simp[rd,DataW.trod,j]at K|[c]=>cases c<;>(try(simp[rd,DataW.trod,j]at K;done));rename_i a len cap;cases a with|none=>simp only[rd,DataW.trod,j]at K;split at K<;>simp_all;exact .plain λF Q=>⟨rfl,trivial,trivial⟩|some a=>simp[rd,DataW.trod,j,Z0]at K
   ·
    rename_i e T7 Up j;split at h
    ·split at h
     ·rename_i l ap os O;simp only[cO,Zh]at h;obtain⟨N,rfl⟩:=h;have N:=hy N
      match cs with
      |[]=>simp[rd,DataW.trod,j]at K|_::_::_=>simp[rd,DataW.trod,j]at K|[c]=>
       cases c<;>(try(simp[rd,DataW.trod,j]at K;done));rename_i I len cap;cases I with
       |none=>simp only[rd,DataW.trod,j]at K;split at K<;>simp_all|some a=>
        simp only[rd,DataW.trod,j]at K;split at K
        ·rename_i Uk;simp only[Z0,Yn,YX,DataW.slice.injEq,ZL]at K;obtain⟨U2,UG,rest,Ub,⟨UC,UO⟩,rfl⟩:=K;have Uc:rest=[]:=(by simpa using UO);subst Uc;obtain⟨a7,_⟩:=qW Ub;obtain⟨bl,UI⟩:=qW UG;simp at a7 bl;have UU:cap=len:=Zo;subst UU;have T1:T7.length=cap:=(by rw[<-UC];simp[bl]);simp only[ZT,ZN,ZY]at T0;obtain⟨T9,TY⟩:=Gw (C:=C) (w:=w) T8 (e:=e) (g:=λi=>(w.cells? 0 (a.add (i*P.cellsOf e)) (P.cellsOf e)).getD []) T7 0 (n+1) _ O U2
          (by
           rw[T1, <-List.range_eq_range'];rw[<-UG];have U5:∀i∈List.range cap,(w.cells? 0 (a.add (i*P.cellsOf e)) (P.cellsOf e)).isSome=true:=(by intro i ag;have gb:i<cap:=(by simpa using ag);have:=UI i i U2[i] (by simp[gb]) (Zb Zo);simp only[Z0]at this;obtain⟨b8,v,_⟩:=this;rw[v];rfl);exact SX λi ag=>by
            have:=U5 i ag;cases Ua:w.cells? 0 (a.add (i*P.cellsOf e)) (P.cellsOf e)with
            |none=>rw[Ua]at this;cases this|some b8=>simp)
          UC (T0.of λo G=>Zp.2 (.inr G))
         simp only at TY;have U9:0<cap*P.cellsOf e:=(by rw[<-T1, <-TY];exact N);obtain⟨bj,ty,W⟩:=T0 a.block a.off (Zp.2 (.inl (xz (by rw[bl];exact U9))));have Ul:0<P.cellsOf e:=Nat.pos_of_mul_pos_left U9;have UT:0<cap:=Nat.pos_of_mul_pos_right U9;have H:∀i,i<cap->∃b8,w.cells? 0 (a.add (i*P.cellsOf e)) (P.cellsOf e)=some b8:=(by intro i gb;have:=UI i i U2[i] (by simp[gb]) (Zb Zo);simp only[Z0]at this;obtain⟨b8,v,_⟩:=this;exact⟨b8,v⟩);have T2:a.spot=none:=(by obtain⟨b8,v⟩:=H 0 UT;have Um:=(yV (a:=a.add (0*P.cellsOf e)) (by rw[yF];exact W) v).2;unfold World.cells? at v;rw[Zv (zB _)]at v;obtain⟨_,bl⟩:=qW v;have:=bl 0 0 b8[0] (by rw[List.getElem?_range Zo]) (Zb Zo);have UQ:(a.add (0*P.cellsOf e)).add 0=a:=(by simp[Addr.add]);rw[UQ]at this;exact(yT this).1);have UX:(List.range' 0 T7.length).flatMap (λi=>(w.cells? 0 (a.add (i*P.cellsOf e)) (P.cellsOf e)).getD [])=(bj.toList.drop a.off).take (cap*P.cellsOf e):=by
          rw[T1]
          have:∀i∈List.range' 0 cap,(w.cells? 0 (a.add (i*P.cellsOf e)) (P.cellsOf e)).getD []=((bj.toList.drop a.off).drop (i*P.cellsOf e)).take (P.cellsOf e):=by intro i ag;have gb:i<cap:=(by simpa using ag);obtain⟨b8,v⟩:=H i gb;obtain⟨U3,_⟩:=yV (a:=a.add (i*P.cellsOf e)) (by rw[yF];exact W) v;rw[v,YF,U3,EH,zE]
          rw[Qi this,FY,zu,Yk]
         rw[UX]at T9;refine Lays.block ⟨a.block,a.off,0⟩ T9 (Bq l) λF Q T4 U4 U6 U7=>⟨BK W ?_ U7 N, ?_,U4⟩
         ·simp only;rw[TY,T1];exact U6
         ·simp only[aq,T4,T1];obtain⟨UL,UM,U1⟩:=a;have T2:U1=none:=T2;subst T2;rfl
        ·simp at K
     ·simp at h
    ·simp at h
   ·
    rename_i f0 bb j;split at h
    ·rename_i l ap os O;simp only[cO,Zh]at h;obtain⟨L,rfl⟩:=h;have L:=Zn L;have UA:rd P w (V+1) t cs=(if cs.length=P.cellsOf t then(f0.toList.mapM λf=>rd P w V f.type ((cs.drop f.offset).take (P.cellsOf f.type))).map λX=>(.agg (X.map (·.1)),X.flatMap (·.2))else none):=(by simp only[rd];rw[DataW.trod_step];unfold DataW.trodStep;rw[j]);rw[UA]at K;split at K;case isFalse=>cases K
     rename_i T1;simp only[Yn,YX,DataW.agg.injEq]at K;obtain⟨X,A,ai,rfl⟩:=K;have:=Si (C:=C) (w:=w) T8 (cs:=cs) f0.toList bb 0 n _ O X A ai T0;simp only[Yk]at this;rw[Zy Zo]at this;exact this
    ·simp at h
   ·
    rename_i k e bb j;split at h
    ·rename_i l ap os O;simp only[cO,Zh]at h;obtain⟨L,rfl⟩:=h;have L:=Zn L;have UA:rd P w (V+1) t cs=(if cs.length=P.cellsOf t then((List.range k).mapM λi=>rd P w V e ((cs.drop (i*P.cellsOf e)).take (P.cellsOf e))).map λX=>(.agg (X.map (·.1)),X.flatMap (·.2))else none):=(by simp only[rd];rw[DataW.trod_step];unfold DataW.trodStep;rw[j]);rw[UA]at K;split at K;case isFalse=>cases K
     rename_i T1;simp only[Yn,YX,DataW.agg.injEq]at K;obtain⟨X,A,ai,rfl⟩:=K;have UV:bb.length=k:=(by have:=(qW A).1;rw[<-ai];simpa using this);obtain⟨T9,TY⟩:=Gw (C:=C) (w:=w) T8 (e:=e) (g:=λi=>(cs.drop (i*P.cellsOf e)).take (P.cellsOf e)) bb 0 n _ O X (by rw[UV, <-List.range_eq_range'];exact A) ai T0;rw[FY,zu,Yk,Zy (by simp only at TY;omega)]at T9;exact T9
    ·simp at h
   ·
    rename_i e j;simp at h;subst h
    match cs with
    |[]=>simp[rd,DataW.trod,j]at K|_::_::_=>simp[rd,DataW.trod,j]at K|[c]=>
     cases c<;>simp[rd,DataW.trod,j]at K;all_goals first
      |exact .plain λF Q=>⟨rfl,trivial,trivial⟩|(split at K<;>simp_all)
   ·
    rename_i k e j;simp at h;subst h
    match cs with
    |[]=>simp[rd,DataW.trod,j]at K|_::_::_=>simp[rd,DataW.trod,j]at K|[c]=>
     cases c<;>simp[rd,DataW.trod,j]at K;rename_i b;cases b with
     |none=>exact .plain λF Q=>⟨rfl,trivial,trivial⟩|some b=>
      simp only at K;split at K
      ·split at K
       ·simp only[Z0]at K;obtain⟨T3,_,UD⟩:=K;split at UD<;>simp at UD
       ·cases K
      ·cases K
   ·
    rename_i k e T7 j;simp only[cO]at h;obtain⟨U8,h⟩:=h;split at h
    ·rename_i Ui ap os O;simp at h;subst h
     match cs with
     |[]=>simp[rd,DataW.trod,j]at K|_::_::_=>simp[rd,DataW.trod,j]at K|[c]=>
      cases c<;>(try(simp[rd,DataW.trod,j]at K;done));rename_i b;cases b with
      |none=>simp[rd,DataW.trod,j]at K|some b=>
       simp only[rd,DataW.trod,j]at K;split at K
       ·rename_i T6 bz W;split at K
        ·simp only[Z0]at K;obtain⟨T3,UR,K⟩:=K;split at K
         ·simp only[Zh,YX,DataW.map.injEq]at K;obtain⟨Ud,rfl⟩:=K;obtain⟨a7,bl⟩:=qW UR;have Un:T3.length=T6.toList.length:=a7;have US:(T6.toList.zip T3).map (·.2.1)=T3.map (·.1):=(by have UP:(λx:MapEntry×((Lit×DataW Unit)×List MemPlace)=>x.2.1)=(λo:(Lit×DataW Unit)×List MemPlace=>o.1)∘Prod.snd:=rfl;rw[UP, <-Ya,List.map_snd_zip Zo]);obtain⟨cZ,UE,UF⟩:=HL (sorted_perm (T3.map (·.1))).symm (T6.toList.zip T3) US;rw[Ud]at UF;have U5:∀aj∈cZ,keyOf P k aj.1.key=some aj.2.1.1/\aj.1.val.formed P e=true/\rd P w V e aj.1.val.cells.toList=some (aj.2.1.2,aj.2.2)/\l2 w aj.2.2:=by
           intro aj Uf;have Ug:=UE.mem_iff.1 Uf;obtain⟨i,ag⟩:=Z1.1 Ug;rw[List.getElem?_zip_eq_some]at ag;have:=bl i _ _ ag.1 ag.2;simp only[Z0]at this;obtain⟨key,v,T5⟩:=this;split at T5
           ·rename_i UW;simp only[Yn]at T5;obtain⟨o,UB,UK⟩:=T5;rw[<-UK];refine⟨v,UW,UB,T0.of λp U8=> ?_⟩;refine Zw _ (zd.2 ⟨aj.2,Zl ag.2, ?_⟩);rw[<-UK];exact U8
           ·cases T5
          obtain⟨aL,bt,a0,f,a3⟩:=Sh (C:=C) (w:=w) T8 U8 T7 (n+1) _ O cZ UF U5;have aL:n+1<=ap:=aL;refine⟨by simp only;omega, ?_,λx=>if x=n then⟨b,0,0⟩else f x, ?_⟩
          ·intro o G;rcases Zq.1 G with rfl|G
           ·exact⟨Zg _,by simp only;omega,TT _⟩
           ·obtain⟨v,T5,UB⟩:=bt o G;exact⟨Zo,T5,UB⟩
          ·intro F Q T4;have U0:=T4 n (Zg _) (by simp only;omega);simp only[ZL]at U0;obtain⟨bV,b0,UN⟩:=a3 F Q (λx L N=>by
            have:=T4 x Zo N;have UZ:x≠n:=Zo;simp only[Zi UZ]at this;exact this)
           refine⟨by simp[bf,aq,U0.1],⟨U0.2,trivial⟩, ?_⟩;intro o G;rcases Zq.1 G with rfl|G
           ·simp only[U0.1];have UH:(cZ.map (·.1)).Perm T6.toList:=(by have:=UE.map (·.1);rwa[List.map_fst_zip Zo]at this);rw[bV]at UH;obtain⟨gW,UJ,Uh⟩:=HL UH _ rfl;refine⟨T6,bz,gW,W,Uh.symm, ?_, ?_⟩
            ·have:=UJ.map (λe=>(e.1,e.2.1));rwa[I6 (cZ:=cZ) _ cZ a0]at this
            ·intro x A;have hR:=UJ.mem_iff.1 A;have UY:(x.1,x.2.1)∈Ui:=(by have:=YU (f:=λe:z×z×Nat=>(e.1,e.2.1)) hR;rwa[I6 (cZ:=cZ) _ cZ a0]at this);exact b0 _ UY
           ·exact UN o G
         ·simp at K
        ·simp at K
       ·simp at K
    ·simp at h
   ·simp at h
end
open Go.RowKit (Below)
def hX:List (Nat×S)->E S->E S
 |[],B=>B|(b,I)::l,B=>hX l (B.set b (some I))
section
variable{C:al}{P:Program}{w:World}
def BN(b:Nat)(I:S):∀(l:List (Nat×S)) (B:E S),(hX l B).get b=some I->(b,I)∈l\/B.get b=some I:=by
 intro l;induction l with
 |nil=>intro B h;exact .inr h|cons x l U=>
  obtain⟨a,dG⟩:=x;intro B h;rcases U _ h with h|h
  ·grind
  ·rw[E.e0]at h;grind
def IE{nm:String}{g:Nat}{cs:Array Value}(b:P.globalNamed nm=some g)(h:w.var? P nm=some cs):∃ty a,w.heap[g]? =some (.cells cs ty a):=by unfold World.var? at h;grind
def Cg(C:al)(w:World)(i2 n:Nat)(r:Nat×List (Nat×S)):Prop:=
 n<=r.1/\(∀x∈r.2,(x.1<i2\/n<=x.1)/\(x.1<i2\/x.1<r.1)/\sc x.2)/\
  ∃f:Nat->hv,∀F Q,(∀b,n<=b->b<r.1->F b=f b/\Q b)->(∀g,g<i2->F g=⟨g,0,0⟩/\Q g)->∀x∈r.2,f7 C F Q x.2 (F x.1) w
end
open Go.RowKit (Below)
def nB:List Nat->Bool
 |[]=>true|x::s=>Nat.blt x 256&&nB s
def nV:List Nat->Nat->Nat->Int
 |[],_,_=> .negSucc 0|x::s,c,i=>ba (Nat.beq x c) (.ofNat i) (nV s c (i+1))
def n4(bm:Nat)(f:Nat)(args:List z):Option z:=
 ba (Nat.beq f bm) (match args with
  |[.str s,.int .u8 (.ofNat c)]=>ba (nB s&&Nat.blt c 256) (some (.int .i64 (nV s c 0))) none|_=>none) none
section
variable{C:al}{P:Program}{w:World}
def yG:∀{s:List Nat},nB s=true->∀x∈s,x<256:=by
 intro s;induction s with
 |nil=>grind|cons a s U=>
  intro h x b;simp only[nB,Zu]at h;rcases Zq.1 b with rfl|b
  ·simp_all
  ·grind
def RJ:∀(s:List Nat) (c i:Nat),(∀x∈s,x<256)->c<256->nV s c i=(if Lib.indexByte (s.map UInt8.ofNat) (UInt8.ofNat c)= -1 then -1 else Lib.indexByte (s.map UInt8.ofNat) (UInt8.ofNat c)+i):=by
 intro s;induction s with
 |nil=>intro c i _ _;simp[nV,Lib.indexByte]|cons a s U=>
  intro c i d b;have f:=d a (Zr ..);have ag:=U c (i+1) (λx h=>d x (Zw _ h)) b;simp only[nV,ZG,Lib.indexByte,ee];by_cases e:a=c
  ·grind
  ·have g:(UInt8.ofNat a==UInt8.ofNat c)=false:=(by rw[beq_eq_false_iff_ne];intro V;have:=congrArg UInt8.toNat V;simp at this;rw[zc f,zc b]at this;exact e this);rw[Zi e,ag,g];have qB:=Lib.indexByte_ge (s.map UInt8.ofNat) (UInt8.ofNat c);by_cases V:Lib.indexByte (s.map UInt8.ofNat) (UInt8.ofNat c)= -1
   ·simp[V]
   ·simp only[V];simp;omega
def Hx{bm f:Nat}{args:List z}{v:z}(h:n4 bm f args=some v):f=bm/\∃s c,args=[.str s,.int .u8 (.ofNat c)]/\v=.int .i64 (nV s c 0)/\(∀x∈s,x<256)/\c<256:=by
 unfold n4 at h;rw[ee]at h;split at h
 ·rename_i e;split at h
  ·rename_i s c;simp only[cO,Zu,Zh]at h;exact⟨e,s,c,rfl,h.2.symm,yG h.1.1,hy h.1.2⟩
  ·grind
 ·grind
def ξ{bm:Nat}{fn:Func}(j:P.funcs[bm]? =some fn)(k:(fn.name== "runtime.NumGoroutine")=false)(W:fn.body=none)(d:Extern.findNext fn=none)(g:Extern.find fn=some Extern.BytealgIndexByte.indexByte)
 {f:Nat}{args:List z}{v:z}(h:n4 bm f args=some v)(F:bX)(w:World):(callFunc f (bf F args).toArray).run P w=.ok (.value (aq F v)) w:=by
 obtain⟨rfl,s,c,rfl,rfl,m,i⟩:=Hx h;have b:=Lib.run_indexByteString (P:=P) (dz s) (Int.ofNat c) w;have e:Lib.indexByte (dz s).data.toList (Int.ofNat c).toNat.toUInt8=nV s c 0:=by
  rw[RJ s c 0 m i]
  have:(dz s).data.toList=s.map UInt8.ofNat:=by simp[dz]
  grind
 rw[e]at b;have n:(bf F [.str s,.int .u8 (.ofNat c)]).toArray= #[.string (dz s),.int .u8 (Int.ofNat c)]:=rfl;have l:¬fn.name= "runtime.NumGoroutine":=by simpa using k
 simp only[callFunc];simp[j,l,W,d,g];exact congrArg (λr=>Result.andThen r (λa a2=>Result.ok (Next.value a) a2)) b
end
open Go.RowKit (Below)
mutual
def jB:z->Bool
 | .bool _=>true| .int _ _=>true| .str s=>nB s| .bH=>true| .ax=>true| .gO=>true| .nilFunc=>true| .nilIface=>true| .iface _ v=>jB v| .agg l=>pB l| .tuple l=>pB l|_=>false
def pB:List z->Bool
 |[]=>true|v::l=>jB v&&pB l
end
mutual
def xp:∀v,jB v=true->bs (λ_=>False) v
 | .bool _,_=>trivial| .int _ _,_=>trivial| .str s,h=>yG (by simpa[jB]using h)| .bH,_=>trivial| .ax,_=>trivial| .gO,_=>trivial| .nilFunc,_=>trivial| .nilIface,_=>trivial| .iface _ v,h=>by have:=xp v (by simpa[jB]using h);simpa[bs]using this| .agg l,h=>u2 l (by simpa[jB]using h)| .tuple l,h=>u2 l (by simpa[jB]using h)| .ptr _ _,h=>by simp[jB]at h| .slice ..,h=>by simp[jB]at h| .cq ..,h=>by simp[jB]at h| .gf ..,h=>by simp[jB]at h| .map _,h=>by simp[jB]at h| .func ..,h=>by simp[jB]at h
def u2:∀l,pB l=true->cz (λ_=>False) l
 |[],_=>trivial|v::l,h=>by simp only[pB,Zu]at h;exact⟨xp v h.1,u2 l h.2⟩
end
def HO{v:z}(h:jB v=true):(∀F a,aq F v=aq a v)/\∀Q,bs Q v:=
 ⟨λ_ _=>jW (λ_ h=>h.elim) (xp v h),λ_=>iV (λ_ h=>h.elim) v (xp v h)⟩
def By{l:List z}(h:pB l=true):(∀F a,bf F l=bf a l)/\∀Q,cz Q l:=
 ⟨λ_ _=>nJ (λ_ h=>h.elim) (u2 l h),λ_=>kx (λ_ h=>h.elim) l (u2 l h)⟩
def HP{a b:z}(h:xn a b=true):a=b:=by
 unfold xn at h;split at h
 ·simp_all
 ·simp_all
 ·rw[(uV _ _).1 h]
 ·rfl
 ·rfl
 ·rfl
 ·cases h
def aap:∀{a b:List z},rm a b=true->a=b:=by intro a;induction a with|nil=>intro b h;cases b<;>simp[rm]at h;rfl|cons x a U=>intro b h;cases b with|nil=>simp[rm]at h|cons o b=>simp only[rm,Zu]at h;rw[HP h.1,U h.2]
def y8(x o:z):Bool:=match x,o with
 | .agg a,.agg b=>rm a b|x,o=>xn x o
def O7{a b:z}(h:y8 a b=true):a=b:=by
 unfold y8 at h;split at h
 ·rw[aap h]
 ·exact HP h
def sx:List z->List z->Bool
 |[],[]=>true|a::x,b::o=>y8 a b&&sx x o|_,_=>false
def O8:∀{a b:List z},sx a b=true->a=b:=by intro a;induction a with|nil=>intro b h;cases b<;>simp[sx]at h;rfl|cons x a U=>intro b h;cases b with|nil=>simp[sx]at h|cons o b=>simp only[sx,Zu]at h;rw[O7 h.1,U h.2]
def m6(f:Nat)(args:List z):List (Nat×List z×z)->Option z
 |[]=>none|(g,a,v)::l=>ba (Nat.beq f g) (ba (sx args a) (some v)<|m6 f args l) (m6 f args l)
def Gt{f:Nat}{args:List z}{v:z}:∀{l:List (Nat×List z×z)},m6 f args l=some v->(f,args,v)∈l:=by
 intro l;induction l with
 |nil=>intro h;simp[m6]at h|cons x l U=>
  intro h;simp only[m6]at h;rw[cY]at h;split at h
  ·rename_i V;rw[cY]at h;split at h
   ·rename_i a;simp at h;subst h;rw[Zn V,O8 a];grind
   ·grind
  ·grind
def j8(I:Nat->List z->Option z)(l:List (Nat×List z×z))(f:Nat)(args:List z):Option z:=
 match m6 f args l with|some v=>some v|none=>I f args
def vc:List (Nat×List z×z)->Bool
 |[]=>true|x::l=>(pB x.2.1&&jB x.2.2)&&vc l
def Im:∀{l:List (Nat×List z×z)},vc l=true->∀x∈l,pB x.2.1=true/\jB x.2.2=true:=by intro l;induction l with|nil=>grind|cons a l U=>intro h x b;simp only[vc,Zu]at h;grind
section
variable{P:Program}{w:World}
def Pu{U:eA}{C:al}{f:Nat}{args:List z}{b:Bool}{cs:List d1}{q:E S}{u:Nat}{v:z}(h:iz U C f args b cs q u=some v):∃fn c,C.P.funcs[f]? =some fn/\fn.body=some c:=by unfold iz at h;grind
def Hz{G:E S}{aB i2:Nat}{I:Nat->List z->Option z}{cv:bX}{cw:Nat->Prop}{l:List (Nat×List z×z)}(b:Env ⟨P,G,aB,I,i2⟩ w cv cw)(p:vc l=true)
 (r:∀x∈l,∃m,n9 ⟨P,G,aB,I,i2⟩ m x.1 x.2.1=some x.2.2):yq ⟨P,G,aB,j8 I l,i2⟩ w:=by
 refine⟨λf args v a=> ?_,λf args v a F N W=> ?_⟩
 ·have a:j8 I l f args=some v:=a;unfold j8 at a;split at a
  ·rename_i R h;simp at a;subst a;obtain⟨d,g⟩:=Im p _ (Gt h);exact⟨HO g,By d⟩
  ·exact b.eC.val f args v a
 ·have a:j8 I l f args=some v:=a;unfold j8 at a;split at a
  ·rename_i R h;simp at a;subst a;have k:=Gt h;obtain⟨d,g⟩:=Im p _ k;obtain⟨m,n⟩:=r _ k;obtain⟨fn,c,j,i⟩:=Pu n;right;have L:fn.name≠ "runtime.NumGoroutine":=(by simpa using b.ge.num f fn j (by simp[i]));refine⟨?_, ?_⟩
   ·have C:=j;simp[callFunc,C,L,i]
   ·have A:=b.later W;have:=abn A (args:=args) ((By d).2 cw) n;rw[(By d).1 F cv];exact this.mono λe a2 ⟨⟨O,t⟩,s⟩=>⟨by rw[t,(HO g).1 O F],s⟩
  ·exact b.eC.ok f args v a F N W
end
end
end Go.aF
