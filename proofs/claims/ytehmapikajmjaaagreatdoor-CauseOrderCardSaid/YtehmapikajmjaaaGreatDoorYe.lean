/- Part of the last text; no conditions -/
import Derived.Test.YtehmapikajmjaaaGreatDoorYd
import Derived.ChangeReads
import GoSem.ClaimJoined
import Derived.Lib.Bytealg
set_option maxHeartbeats 8000000
set_option linter.all false
namespace Go.aC
open Go.RowKit (Below)
section
variable{C:ai}{D bZ cn:bT}{Q b9 co:Nat->Prop}{j S':B R}{k W aN:Nat}{w a6:World}{n ac:Nat}{ae:Array Oper}
variable{aS:World}{a2:Nat}{bc:List Frame}{v:y}{U:ey}
variable{fn:Nat}{aP:List eA}{ap:Bool}{ro:Option Nat}{cs:List d3}{z:B y}{tmps:Array Value}{aM:List Item}{aa:List Frame}{aW af:Nat}
def O9{ad:List (Nat×y)}:∀(l:List de),qp C z ad j l=true->∀x∈l,∃b,jI x.g ad=some b/\(b=true->∃M,eb x.op C j ad z=some M/\cH ad x.i=some M):=by
 intro l;induction l with
 |nil=>grind|cons a l U=>
  intro e x g;simp only[qp]at e;split at e
  ·grind
  ·rename_i c;grind
  ·rename_i c;split at e
   ·rename_i M i d f;simp only[Zt]at e;have:=xt _ _ _ e.1;grind
   ·grind
def aci{b:List jk}{q:Nat}{a:List (dN×de)}:∃s rest,n9 b q a=s::rest/\s.lK=lz q b/\s.Bi=rv q b/\
 (match a with|[]=>s.dc=none/\rest=[]|h::c=>s.dc=some h.2/\rest=n9 b (q+1) c):=by
 cases a with|nil=>exact⟨_,_,rfl,rfl,rfl,rfl,rfl⟩|cons h a=>exact⟨_,_,rfl,rfl,rfl,rfl,rfl⟩
def oU{q:Nat}:∀{b:List jk}{x:de},x∈lz q b↔∃l∈b,l.aW=q/\l.x=x:=by intro b;induction b with|nil=>intro x;simp[lz]|cons a b U=>simp only[lz,er];grind
def aaI{q:Nat}:∀{b:List jk}{l:jk},l∈b->l.aW<q->q<=l.af->pG l.x.op=true->l.x∈rv q b:=by
 intro b;induction b with
 |nil=>grind|cons a b U=>
  intro l c d f g;simp only[rv,c3];rcases Zq.1 c with rfl|c
  ·rw[Zu]
   ·grind
   ·simp_all
  ·split
   ·grind
   ·grind
def Oe{q:Nat}:∀{c:List jk},(c.Pairwise λa b=>a.x.i<b.x.i)->(lz q c).Pairwise λa b=>a.i≠b.i:=by
 intro c;induction c with
 |nil=>intro _;simp[lz]|cons a c U=>
  intro e;rw[Yy]at e;simp only[lz,er];split
  ·rw[Yy];refine⟨λx d=> ?_,U e.2⟩;obtain⟨l,f,_,rfl⟩:=oU.1 d;grind
  ·grind
def RX(op:fM):h6 op=true/\hz op=.dc\/h6 op=false/\(hz op=.eP\/hz op=.make):=by unfold h6;cases hz op<;>simp
def S6(UO:Env C aS cn co)(UB:h0 C aS a2 bc U){q:List ci}{base d:Nat}{ad:List (Nat×y)}(UT:aW<=base)(T8:base+ae.size<=k)(VK:C.aD<=base){s:mN}{rest:List mN}
 (T0:match (ef C n ac ae).drop d with|[]=>s.dc=none|h::US=>s.dc=some h.2/\rest=n9 (hd C n ac ae) (d+1) US)
 (e:(match s.dc with
    |none=>uf (gE ac ae.toList 0) ad z λz=>U .run q ⟨fn,n,ac,aP,ap,ro,cs⟩ z j k|some e=>(match jI e.g ad with
     |none=>none|some w=>a8 (w) ((match eB e.op C j k ad z with
       |some r=>jn r U C (.oq ae base ad e.i rest (gE ac ae.toList 0)) q ⟨fn,n,ac,aP,ap,ro,cs⟩ z j k|none=>none))<|U .run (.drawn ae base ((e.i,undef)::ad) rest (gE ac ae.toList 0)::q) ⟨fn,n,ac,aP,ap,ro,cs⟩ z j k))=some v):
 ∀(l:List Nat) (D:bT) (Q:Nat->Prop) (w:World) (tmps:Array Value) (g:Nat->Prop),fg C aS a2 bc fn ac aP ap ro cs j k D Q w aW aa->gV C D Q ac q aM->kj C D Q j base n ac ae ad d (d+1) z tmps g->mM ae g l->
  (∀l∈hd C n ac ae,l.aW<d+1->¬g l.x.i->∃M,cH ad l.x.i=some M/\tE C j ad z l.x M)->Ends C aS a2 bc v (lone (bC D fn aP ap ro tmps (.inRegion ae l::aM) .run) aa w):=by
 intro l;induction l with
 |nil=>
  intro D Q w tmps g a L al UJ UG;cases UJ with
  |nil UQ=>
   have U7:(ef C n ac ae).drop d=[]:=by cases c:(ef C n ac ae).drop d with|nil=>rfl|cons h US=>have T7:(ef C n ac ae)[d]? =some h:=(by have:((ef C n ac ae).drop d)[0]? =some h:=(by rw[c];rfl);rwa[zf]at this);have U5:=UQ h.1.i (Pc al.st (Zl T7)).1;have:=(al.done d h T7).1 U5;omega
   rw[U7]at T0;simp only at T0;rw[T0]at e;simp only[wi,mr]at e;split at e
   ·rename_i VI Up;refine .head Ic ?_;have V7:iS D Q ac (λ_=>True) (e0 ae ae.size) ad z tmps:=by
     obtain⟨_,Uh,Ui⟩:=vg ae ae.size (Zg _);intro t M _ O;apply al.qo t M;split at O
     ·rename_i E UC;obtain⟨Uj,Uk,Ul⟩:=Uh t E UC;left;refine⟨E,UQ E Uj,Uk,λUN UD Uu=> ?_,O⟩;rcases zg E UN with N|qF
      ·exact absurd Uu (Ul UN N (al.m4 UN UD))
      ·exact qF
     ·rename_i UC;exact .inr ⟨λE UD=>Ui t UC E (al.m4 E UD),O⟩
    exact UB _ _ _ _ _ _ _ _ _ _ _ _ v e D Q w aW tmps aM aa (a.state (.plain L (FI V7 al.size Up)))
   ·simp at e
 |cons i l UM=>
  intro D Q w tmps g a L al UJ UG;cases UJ with
  |cons f TZ G T6=>
   rename_i J;have af:=(Z9.1 f).1;obtain⟨p,x,dH,Uc,Ud,z3,z4,z5,Ue⟩:=nT al.st i af;have V0:dH=J:=(by have:=z5.oper;rw[z4,f]at this;exact(YF this).symm);subst V0;have U1:=Pd al.st al.closed al.m4 al.qo Ud f TZ G;have UU:=t8 al.closed (wS Ud) (by rw[z3];exact f) G;have A:=z5;have TY:=A.g;have T5:=A.op;have UY:=A.reads;rw[z4]at TY T5 UY;have U8:∀T2,Sub T2 ad->fq D Q (gK tmps) (fw (e0 ae i) T2 z) dH.op.operands.toList:=by
    intro T2 V3;refine Fy (λt M Uq O=>U1 t M Uq ?_) (λt V5=>aap Ue V5) UY a.ec;split at O
    ·exact V3 _ _ O
    ·exact O
   have U9:∀E b t,dH.guard=some (E,b)->mY E (e0 ae i)=some t->dj p.r t=true:=(by intro E b t U3 U4;rw[Ue.r,sk,z3];have:dj (wy (e0 ae i) dH.guard) t=true:=(by rw[U3];simp only[wy,U4];rw[vP];simp);rw[this];simp);have T9:∀(bZ:bT) (M:Value),(bC bZ fn aP ap ro tmps (.inRegion ae (i::l)::aM) .run).finish M=bC bZ fn aP ap ro (j6 tmps dH.dst M) (.inRegion ae l::aM) .run:=(by intro bZ M;rw[wk rfl f];rfl);rcases RX x.op with ⟨UA,iX⟩|⟨UA,iX⟩
   ·
    have Uw:(p,x)∈ef C n ac ae:=(by rw[vW];exact Yb.2 ⟨Zl Uc,UA⟩);obtain⟨V,c⟩:=Z4.1 Uw;have V1:V=d:=by
     rcases zE V d with N|u|eJ
     ·exact absurd ((al.done V _ c).2 N) (by simpa only[z3]using TZ)
     ·exact u
     ·exfalso;have Ux:V-1<(ef C n ac ae).length:=zK (Ze.1 c).1;have UX:=Zb Ux;have UR:=al.st.chain;rw[wp]at UR;have T:=Q5 UR (V-1) ((ef C n ac ae)[V-1]).1 p (by rw[Zn,UX];rfl) (by rw[show V-1+1=V by omega,Zn,c];rfl);have U5:=UU _ T;have:=(al.done (V-1) _ UX).1 U5;omega
    subst V1;have U7:(ef C n ac ae).drop V=(p,x)::(ef C n ac ae).drop (V+1):=(by have N:=(Ze.1 c).1;rw[Zz N,(Ze.1 c).2]);rw[U7]at T0;simp only at T0;obtain⟨gn,gp⟩:=T0;rw[gn]at e;simp only at e;have T7:ae[((p,x):dN×de).1.i]? =some dH:=(by simp only[z3];exact f);split at e
    ·simp at e
    ·rename_i VG V8;have P:=xL (zD af) TY U1 U9 (Sub.refl ad) V8;have UV:¬g ((p,x):dN×de).1.i:=(by simpa only[z3]using TZ);have VB:x.i=((p,x):dN×de).1.i:=(by simp only[z3,z4]);cases VG with
     |false=>simp only[ge]at e;refine .head (BB f P) ?_;rw[T9];rw[VB,gp]at e;have:=al.dc c T7 UV G (v:=undef) trivial A.dst;exact UB _ _ _ _ _ _ _ _ _ _ _ _ v e D Q w aW _ _ aa (a.state (.drawn L UT T8 this (by simp only[z3];exact T6)))|true=>
      simp only[cE]at e;split at e
      ·rename_i r I;have Un:=F5 a.I a.cB UO.f8 (U8 ad (Sub.refl ad)) T5 I;have V4:hr C D Q j aW k n ac z tmps (.oq ae base ad x.i rest (gE ac ae.toList 0)::q) (.inRegion ae (i::l)::aM):=(by have UZ:=hr.drawn (af:=k) L UT T8 al c T7 UV G (by simp only[z3];exact T6);simp only[z3]at UZ;rw[gp,z4];exact UZ);exact Ex UO UB a V4 a.fV (Zg _) f P Un e
      ·simp at e
   ·
    have Uy:=Zl Uc;have T3:(⟨x,l5 p.m (jU (ef C n ac ae)),pe p.i (jU (ef C n ac ae))⟩:jk)∈hd C n ac ae:=(by rw[vY];exact ZB.2 ⟨(p,x),Yb.2 ⟨Uy,by simp[UA]⟩,rfl⟩);have T4:l5 p.m (jU (ef C n ac ae))<d+1:=by
     have:=OY p.m (jU (ef C n ac ae)) d (λV h c VJ=>by
      rw[wp,Zn]at c;cases UL:(ef C n ac ae)[V]? with
      |none=>rw[UL]at c;cases c|some aw=>
       rw[UL]at c;cases c;cases T:dj p.m aw.1.i with
       |false=>rfl|true=>have:=(al.done V aw UL).1 (UU _ T);omega)
     omega
    have X:¬g x.i:=(by rw[z4];exact TZ);obtain⟨M,U0,V6⟩:=al.ahead _ T3 T4;obtain⟨mg,T2,b,UP,V9,Us,Ut⟩:=V6 X;have P:=xL (zD af) TY U1 U9 UP V9;have UI:ae[x.i]? =some dH:=(by rw[z4];exact f);have UH:∀U2:Nat->Prop,(∀E,g E->U2 E)->∀l∈hd C n ac ae,l.aW<d+1->¬U2 l.x.i->∃M,cH ad l.x.i=some M/\tE C j ad z l.x M:=λU2 Uo VC U3 U4 Um=>UG VC U3 U4 (λV=>Um (Uo _ V));have U6:add g x.i=add g i:=(by rw[z4]);cases b with
    |false=>have:M=undef:=Us rfl;subst this;refine .head (BB f P) ?_;rw[T9];have m:=al.eP (b9:=Q) T3 T4 UI X G U0 (λ_ _=>rfl) (λ_ e=>e) (λ_ e=> .inl e) (by trivial) A.dst;simp only[U6]at m;exact UM D Q w _ _ a L m T6 (UH _ λ_ e=> .inl e)|true=>
     obtain⟨_,Uz,_⟩:=Ut rfl;rcases iX with iX|iX
     ·obtain⟨VL,UK,Uf,VH,Ug,ak,ar,Ua,Ub⟩:=UG _ T3 T4 X;simp only at UK Ua Ub;rw[U0]at UK;cases UK;have VA:=xL (zD af) TY U1 U9 ak Ua;have T8:Ug=true:=(by rw[<-VA,P]);have Uv:=Ub T8 iX;have V2:=a.I.FF ar;obtain⟨aL,bs⟩:=Gx V2 (U8 Uf ak) T5 Uv;refine .head (rD f P aL (.inl rfl)) ?_;rw[T9];have m:=al.eP (b9:=Q) T3 T4 UI X G U0 (λ_ _=>rfl) (λ_ e=>e) (λ_ e=> .inl e) bs A.dst;simp only[U6]at m;exact UM D Q w _ _ a L m T6 (UH _ λ_ e=> .inl e)
     ·obtain⟨bQ,UE,UW⟩:=Uz iX;simp only at UE UW;have UF:=λV=>X (al.ids x.i (by rw[z4];exact af) V);obtain⟨h9,VD,VE,VF⟩:=GI (D:=D) UF (U8 T2 UP) (wP T5 UE);have N:base+x.i<k:=(by rw[z4];omega);have Ur:=a.I.alloc (S':=j) Zo N (Zg _) UF a.cB rfl UW (λ_ _=> .inl rfl) VF (GJ (wP T5 UE));have T1:eF C aW D Q j aS.heap.size w (dS D (base+x.i) ⟨w.heap.size,0,0⟩) (add Q (base+x.i)) j (w.alloc h9):=
       ⟨kc UF,λ_ e=> .inl e,λh e=>e.elim .inl (λe=> .inr Zo),λ_ _ _=>rfl,Below.alloc (Below.refl _ _) a.cB _⟩
      refine .head (rD f P VD (.inl rfl)) ?_;rw[T9, <-s0 T1.eZ a.eI];have m:=al.eP (b9:=add Q (base+x.i)) T3 T4 UI X G U0 T1.eZ T1.fv (λ_ e=>e) VE A.dst;simp only[U6]at m;exact UM _ _ _ _ _ (a.ext Ur T1 (Zg _)) (L.K T1.eZ T1.fv) m T6 (UH _ λ_ e=> .inl e)
def bV.more(I:bV C D Q j k aN w)(g:k<=W)(a:∀b,Q b->F C S' b=F C j b)(l:∀b J,F C S' b=some J->b<W):bV C D Q S' W aN w:=by refine⟨ZD I.aD g,λb e=>ZX (I.lt b e) g,l,λb J e d=>I.obj b J (by rw[<-a b d];exact e) d,λb c J dH e i d f=>I.sep b c J dH (by rw[<-a b d];exact e) (by rw[<-a c f];exact i) d f,λb J T e d=>I.base b J T (by rw[<-a b d];exact e) d,λb J e d=>I.cl b J (by rw[<-a b d];exact e) d⟩
def Gy(m:ji C n ac ae){l c:jk}(f:l∈hd C n ac ae)(g:c∈hd C n ac ae)(e:l.x.i=c.x.i):l=c:=by obtain⟨a,d⟩:=Z4.1 f;obtain⟨b,T⟩:=Z4.1 g;obtain⟨p,r⟩:=Ze.1 d;obtain⟨s,t⟩:=Ze.1 T;have i:=yV m;rw[Y3]at i;grind
def Fi(UF:Env C aS cn co)(US:h0 C aS a2 bc U){q:List ci}{base r:Nat}{ad:List (Nat×y)}{T0:Nat->Prop}{l:List Nat}(T9:fg C aS a2 bc fn ac aP ap ro cs j k D Q w aW aa)
 (UT:gV C D Q ac q aM)(UU:aW<=base)(UN:base+ae.size<=k)(U4:C.aD<=base)(al:kj C D Q j base n ac ae ad r r z tmps T0)(UZ:mM ae T0 l)
 (e:o0 U C ae base ad (n9 (hd C n ac ae) r ((ef C n ac ae).drop r)) (gE ac ae.toList 0) q ⟨fn,n,ac,aP,ap,ro,cs⟩ z j k=some v):Ends C aS a2 bc v (lone (bC D fn aP ap ro tmps (.inRegion ae l::aM) .run) aa w):=by
 obtain⟨s,rest,UC,UD,UE,T1⟩:=aci (q:=r);rw[UC]at e;simp only[o0]at e;split at e
 ·grind
 ·rename_i U0 S' U2;simp only[cL]at e;obtain⟨U5,e⟩:=e;rw[UD]at U2;rw[UE]at U5;have UQ:∀x∈lz r (hd C n ac ae),cH ad x.i=none/\F C j (base+x.i)=none/\h6 x.op=false:=by
   intro x m;obtain⟨bG,c,N,rfl⟩:=oU.1 m;have f:cH ad bG.x.i=none:=by
    cases f:cH ad bG.x.i with
    |none=>rfl|some M=>
     exfalso;rcases al.keys _ M f with ⟨Ud,a,d,O⟩|⟨p,h,a,d,_⟩
     ·have:=Gy al.st a c d;subst this;omega
     ·exact wK al.st c a d.symm
   obtain⟨_,_,O,_⟩:=v1 c;exact⟨f,al.free _ (vZ al.st c) f,O⟩
  obtain⟨a7,bl,Uc,X,TY⟩:=O8 U4 _ _ _ _ _ (Oe (yV al.st)) UQ U2;have Ua:∀b,Q b->F C S' b=F C j b:=by
   intro b T;by_cases V:F C S' b=F C j b
   ·exact V
   ·obtain⟨x,m,u⟩:=X b V;obtain⟨bG,c,N,rfl⟩:=oU.1 m;have A:=al.ids _ (vZ al.st c) (u▸T);have:=al.lK bG c A;omega
  have UY:=T9.I.more (Zg _) Ua (λb J T=>by
   by_cases V:F C S' b=F C j b
   ·exact T9.I.mq b J (by rw[<-V];exact T)
   ·obtain⟨x,m,u⟩:=X b V;obtain⟨bG,c,N,rfl⟩:=oU.1 m;have:=vZ al.st c;omega)
  have m:eF C aW D Q j aS.heap.size w D Q S' w:=⟨λ_ _=>rfl,λ_ e=>e,λ_ e=> .inl e,λb _ U3=>by
   by_cases V:F C S' b=F C j b
   ·exact V
   ·obtain⟨x,m,u⟩:=X b V;omega,Below.refl _ _⟩
  have UM:=T9.ext UY m (Zg _);have UO:kj C D Q S' base n ac ae U0 r (r+1) z tmps T0:=by
   refine⟨al.st,al.size,al.wG,al.bu,al.closed,al.m4,al.done,λbG c N=>Nat.lt_succ_of_lt (al.lK bG c N), ?_, ?_, ?_, ?_,al.ids, ?_⟩
   ·intro i M G;rcases Uc i (by rw[G];simp)with c|⟨x,c,N⟩
    ·cases f:cH ad i with
     |none=>exact absurd f c|some L=>
      rcases al.keys i L f with ⟨bG,a,d,O⟩|g
      ·exact .inl ⟨bG,a,d,Zo⟩
      ·exact .inr g
    ·obtain⟨bG,a,d,rfl⟩:=oU.1 c;exact .inl ⟨bG,a,N,Zo⟩
   ·intro p h P UX;obtain⟨M,G⟩:=al.mg p h P UX;exact⟨M,a7 _ _ G⟩
   ·intro bG c N;by_cases V:bG.aW=r
    ·obtain⟨M,a,d⟩:=TY bG.x (oU.2 ⟨bG,c,V,rfl⟩);exact⟨M,(a Q).key,λ_=>a Q⟩
    ·obtain⟨M,a,d⟩:=al.ahead bG c Zo;refine⟨M,a7 _ _ a,λA=> ?_⟩;obtain⟨_,T5,b,T6,T7,U1,T8⟩:=d A;refine⟨a7 _ _ a,T5,b,T6.trans a7,T7,U1,λT=> ?_⟩;obtain⟨UJ,UK,UG⟩:=T8 T;refine⟨UJ,λUV=> ?_,UG⟩;obtain⟨bQ,UH,UI⟩:=UK UV;refine⟨bQ,UH, ?_⟩;by_cases U7:F C S' (base+bG.x.i)=F C j (base+bG.x.i)
     ·rw[U7];exact UI
     ·obtain⟨x,m,u⟩:=X _ U7;obtain⟨Ud,TZ,Ue,rfl⟩:=oU.1 m;have:=Gy al.st c TZ Zo;subst this;omega
   ·intro t M G;apply al.qo t M;rcases G with ⟨E,A,UP,UW,G⟩|G
    ·left;refine⟨E,A,UP,UW, ?_⟩;have mg:∃L,cH ad E=some L:=by
      rcases Fh al.st E (al.m4 E A)with ⟨bG,a,d⟩|⟨p,h,a,d⟩
      ·obtain⟨L,O,_⟩:=al.ahead bG a (al.lK bG a (by rw[d];exact A));exact⟨L,by rw[<-d];exact O⟩
      ·obtain⟨L,O⟩:=al.mg p h a ((al.done p h a).1 (by rw[d];exact A));exact⟨L,by rw[<-d];exact O⟩
     obtain⟨L,U6⟩:=mg;have:=a7 _ _ U6;rw[G]at this;cases this;exact U6
    ·exact .inr G
   ·intro i af f;have Ub:cH ad i=none:=by cases T2:cH ad i with|none=>rfl|some M=>rw[a7 _ _ T2]at f;cases f
    by_cases V:F C S' (base+i)=F C j (base+i)
    ·rw[V];exact al.free i af Ub
    ·obtain⟨x,m,u⟩:=X _ V;obtain⟨M,a,_⟩:=TY x m;have:x.i=i:=Zo;rw[<-this,(a Q).key]at f;cases f
  refine S6 UF US UU UN U4 (rest:=rest) ?_ e l D Q w tmps T0 UM UT UO UZ ?_
  ·cases T2:(ef C n ac ae).drop r with|nil=>rw[T2]at T1;exact T1.1|cons h Uk=>rw[T2]at T1;exact T1
  ·intro bG c N A;by_cases V:bG.aW=r
   ·obtain⟨M,a,d⟩:=TY bG.x (oU.2 ⟨bG,c,V,rfl⟩);exact⟨M,(a Q).key,d⟩
   ·obtain⟨M,a,d⟩:=al.ahead bG c Zo;refine⟨M,a7 _ _ a, ?_⟩;obtain⟨_,T5,b,T6,T7,U1,T8⟩:=d A;by_cases T3:pG bG.x.op=true
    ·have UR:r<=bG.af:=by obtain⟨p,TZ,Ue,Ul,Uf⟩:=v1 c;obtain⟨_,Ur,UA,z3,z4,z5⟩:=nU al.st TZ;rw[Uf];refine Rc _ _ _ (by rw[wp,Zj];exact al.wG) λV h P U3=> ?_;rw[wp,Zn]at P;cases T4:(ef C n ac ae)[V]? with|none=>rw[T4]at P;cases P|some aw=>rw[T4]at P;cases P;cases T:dj aw.1.m p.i with|false=>rfl|true=>exfalso;have UL:=(al.done V aw T4).2 U3;obtain⟨Um,Un,Uo,Up,Uj,Uq,U9⟩:=nU al.st (vX (Zl T4)).1;have:=t8 al.closed (Zl Uj) U9.oper (al.closed _ _ U9.oper UL) _ T;simp only at UA;rw[<-UA]at this;exact A this
     obtain⟨UB,Ug,Uh⟩:=O9 _ U5 bG.x (aaI c Zo UR T3);refine⟨U0,S',UB,Sub.refl _,jj.refl _,Ug,λT _=> ?_⟩;obtain⟨L,Ui,U8⟩:=Uh T;rw[a7 _ _ a]at U8;cases U8;exact Ui
    ·have T3:pG bG.x.op=false:=(by simpa using T3);refine⟨T5,.nil,b,T6.trans a7,Gv _,T7,λT iX=> ?_⟩;exact(T8 T).2.2 iX T3 .nil
def P2{q:List ci}(id:Nat)(e:gV C D Q ac q aM){f:List ci}(a:exitTo id q=some f):∃b,Go.exitTo id aM=some b/\gV C D Q ac f b:=by
 induction e with
 |nil=>simp[exitTo]at a|cons g i U=>
  cases g<;>simp only[exitTo]at a;case inBlock l=>
   rw[er]at a;split at a
   ·rename_i u;simp at a;subst a;exact⟨_,by simp[Go.exitTo,u],i⟩
   ·rename_i u;obtain⟨b,c,d⟩:=U a;have:(l==id)=false:=(by simpa using u);exact⟨b,by simp[Go.exitTo,this,c],d⟩
  all_goals
   obtain⟨b,c,d⟩:=U a;exact⟨b,by simp[Go.exitTo,c],d⟩
def FA(ec:kT C D Q){n:Nat}(p:fs D Q n ac z tmps){x:Operand}{M:y}(a:s6 C ac [] x=true)(e:nX z x=some M):gK tmps x=aq D M/\bp Q M:=by
 cases x with
 |tmp t=>obtain⟨l,m⟩:=p.val t M a e;exact⟨by simp[gK,l],m⟩
 |const c=>exact w1 e|global g=>simp[nX]at e;subst e;obtain⟨b,d,i⟩:=ec g (ht a);exact⟨by simp[gK,aq,d,i],b⟩
 |func f=>simp[nX]at e;subst e;exact⟨by simp[gK,aq,hN,bd],trivial,trivial,trivial⟩
def iS.start{n:Nat}(a:fs D Q n ac z tmps):iS D Q ac (λ_=>True) (e0 ae 0) [] z tmps:=by intro t M _ e;exact a.val t M e.1 e.2
def aaP(m:Env C aS cn co)(G:h0 C aS a2 bc U){q:List ci}{id:Nat}{l:Bool}(a:fg C aS a2 bc fn ac aP ap ro cs j k D Q w aW aa)(L:gV C D Q ac q aM)(g:fs D Q n ac z tmps)
 (e:HR ae l U C q ⟨fn,n,ac,aP,ap,ro,cs⟩ z j k=some v):Ends C aS a2 bc v (lone (bC D fn aP ap ro tmps (.code (.region id ae l)::aM) .run) aa w):=by
 cases l with
 |false=>
  have c:Bl n ac ae U C q ⟨fn,n,ac,aP,ap,ro,cs⟩ z j k=some v:=e;simp only[Bl,mr]at c;split at c
  ·rename_i r I;have d:=c;unfold uP at I;split at I
   ·rename_i bY f;obtain⟨rfl,rfl⟩:=I;refine .head ab9 ?_;refine H2 m G bY [] j k D Q w tmps _ aa a L ⟨0,Nat.zero_le _, ?_,f,rfl,iS.start g,g.size⟩ d;rw[List.range_eq_range'];rfl
   ·grind
  ·grind
 |true=>
  have c:Bk n ac ae U C q ⟨fn,n,ac,aP,ap,ro,cs⟩ z j k=some v:=e;simp only[Bk,mr]at c;split at c
  ·rename_i r I;obtain⟨gT,fin⟩:=r;have d:=c;rw[gQ]at d;unfold uO at I;split at I
   ·simp at I
   ·rename_i bY f;simp only[cL,Zt]at I;obtain⟨⟨⟨A,N⟩,O⟩,P⟩:=I;have s:mV C n ac ae=bY:=(by unfold mV;rw[f];rfl);have T3:ji C n ac ae:=⟨by rw[s];exact f,A,N,by unfold ef;rw[s];exact O⟩;have T4:gT=n9 (hd C n ac ae) 0 ((ef C n ac ae).drop 0)/\fin=gE ac ae.toList 0:=(by have u:=P;cases u;refine⟨?_,rfl⟩;unfold hd ef;rw[s];rfl);obtain⟨rfl,rfl⟩:=T4;refine .head aca ?_;rw[m.f8.mixed];have T5:eF C aW D Q j aS.heap.size w D Q j w.drew:=⟨λ_ _=>rfl,λ_ e=>e,λ_ e=> .inl e,λ_ _ _=>rfl,Below.drew (Below.refl _ _)⟩;have T2:bV C D Q j (k+ae.size) aS.heap.size w.drew:=a.I.drew.more (zu _ _) (λ_ _=>rfl) (λb J T=>ZX (a.I.mq b J T) (zu _ _));refine Fi m G (a.ext T2 T5 (zu _ _)) L a.fV (Zg _) a.I.aD ?_ (abm A _) d;refine⟨T3,g.size,Nat.zero_le _,a.I.aD,λ_ _ _ e=>e.elim,λ_ e=>e.elim,λp h _=>⟨λe=>e.elim,λe=>Zo⟩,λ_ _ e=>e.elim,λi M x=>by simp at x,λp h _ e=>Zo,λbG _ e=>Zo, ?_, ?_, ?_⟩
    ·intro t M x;rcases x with ⟨E,e,_⟩|⟨_,X,T0⟩
     ·exact e.elim
     ·exact g.val t M X T0
    ·intro i _ al;have:=a.I.lt _ al;omega
    ·intro i _ _;cases T1:F C j (k+i)with
     |none=>rfl|some J=>have:=a.I.mq _ J T1;omega
  ·simp at c
def P1{q:List ci}(id:Nat)(e:gV C D Q ac q aM)(a:exitTo id q=none):Go.exitTo id aM=none:=by
 induction e with
 |nil=>rfl|cons b d U=>
  cases b<;>simp only[exitTo]at a;case inBlock c=>
   rw[er]at a;split at a
   ·grind
   ·rename_i u;have:(c==id)=false:=(by simpa using u);simp[Go.exitTo,this,U a]
  all_goals simp[Go.exitTo,U a]
def AQ(l:fg C aS a2 bc fn ac aP ap ro cs j k D Q w aW aa){b:Nat}{st fC:LoopState}{n pC:Option Code}{a m g:Nat}{i:B y}{params:List Nat}{assign body:Code}{d:Nat}
 (s:C.aD<=b)(al:Q b)(p:F C j b=some (.loop st n a m g i params assign body d))(t:∀c,pC=some c->sN c):
 ∃f,w.heap[(D b).bx]? =some (.loop ⟨st,n,a,f,params.toArray,assign,body,(D d).bx⟩)/\x6 C a g/\(∀c,n=some c->sN c)/\
  fg C aS a2 bc fn ac aP ap ro cs (aI C j b (some (.loop fC pC a m g i params assign body d))) k D Q (w.putObj (D b).bx (.loop ⟨fC,pC,a,f,params.toArray,assign,body,(D d).bx⟩)) aW aa:=by
 obtain⟨f,dI,f7,A,G,L,N,r⟩:=l.I.obj b _ p al;obtain⟨a6,a7,bl,x⟩:=putObj l.I (dH:=.loop ⟨fC,pC,a,f,params.toArray,assign,body,(D d).bx⟩) (h9:=.loop fC pC a m g i params assign body d) s al p ⟨Zs,Zs⟩ dI Zs
  (λa6 v=>⟨f,v,f7,A,G,L,t,r⟩) ⟨λ_ _ _ e=>(by cases e),λ_ _ _ e=>(by cases e)⟩
 rw[run_setObj_loop _ dI]at a7;obtain⟨_,rfl⟩:=a7;exact⟨f,dI,r,N,l.ext bl x (Zg _)⟩
def EK(r:h0 C aS a2 bc U){M:y}{aV:Machine}(a:fg C aS a2 bc fn ac aP false ro cs j k D Q w aW aa)(T1:cs≠[])(p:bp Q M)
 (s:∀g b,aa=g::b->step C.P aV=.next (lone (g.finish (aq D M)) b w))(e:lA U false cs M j k=some v):Ends C aS a2 bc v aV:=by
 cases cs with
 |nil=>grind|cons c rest=>
  obtain⟨n,O,L,i,f,m,N,l,P⟩:=c;obtain⟨T3,T4,X,b,rfl,a7,bl,t,x,A,G⟩:=a.cs.inv;refine .head (s _ _ rfl) ?_;cases N with
  |run=>
   have d:Bp U f ⟨n,O,L,m,l,P,rest⟩ M i j k=some v:=e;cases f with
   |nil=>simp[Bp]at d|cons T2 q=>exact qC r ⟨a.I,a.gi,a.ec,ZD A a.fV,t,x,G⟩ a7 a.fV p d
  |returning=>simp[lA]at e|panicking T0=>simp[lA]at e
def AG(m:h0 C aS a2 bc U){todo:List ci}{b:Option Code}(d:(b=none/\aM=[])\/(b=some .ret/\∃q,aM=.code .ret::q)\/(∃id q,b=some (.exit id)/\aM=.code (.exit id)::q/\Go.exitTo id q=none))
 (a:fg C aS a2 bc fn ac aP ap ro cs j k D Q w aW aa)(L:fs D Q n ac z tmps)
 (e:jx b U C todo ⟨fn,n,ac,aP,ap,ro,cs⟩ z j k=some v):Ends C aS a2 bc v (lone (bC D fn aP ap ro tmps aM .run) aa w):=by
 unfold jx at e;cases ro with
 |some l=>
  simp only at e;split at e
  ·rename_i st T5 X T3 T2 N params assign body O x;simp only[cL,Zt,dD]at e;obtain⟨⟨⟨s,T1⟩,i⟩,e⟩:=e;have i:ap=false:=(by grind);subst i;have al:=a.eI.ro l rfl;have A:∀c,b=some c->sN c:=by
    intro c r;subst r;rcases d with ⟨u,_⟩|⟨u,_⟩|⟨id,q,u,_⟩
    ·cases u
    ·cases u;exact .inl rfl
    ·cases u;exact .inr ⟨id,rfl⟩
   obtain⟨T6,dI,T4,_,p⟩:=AQ a (pC:=b) (fu s) al x A;have t:cs≠[]:=λu=>(by have:=(a.bot u).2.2;cases this);refine EK (M:=.bool b.isNone) m p t trivial (λg T0 u=> ?_) e;subst u;refine acd d ?_;have:=run_endRound (P:=C.P) b dI;rw[this];cases b<;>rfl
  ·simp at e
 |none=>
  simp only[cL]at e;have G:p1 C aS a2 bc .returning todo fn n ac aP ap none cs z j k D Q w aW tmps aM aa:=⟨a.I,a.gi,a.ec,a.fV,a.eI,trivial,a.bot,a.cs,L⟩;have f:=m _ _ _ _ _ _ _ _ _ _ _ _ v e.2 D Q w aW tmps aM aa G;rcases d with ⟨rfl,rfl⟩|⟨rfl,q,rfl⟩|⟨id,q,rfl,rfl,_⟩
  ·exact .head abZ f
  ·exact .head acb f
  ·simp[As]at e
def aaF(UI:Env C aS cn co)(UU:h0 C aS a2 bc U){f:Operand}{params:Array Nat}{assign body:Code}{q:List ci}(a:fg C aS a2 bc fn ac aP ap ro cs j k D Q w aW aa)(P:fs D Q n ac z tmps)
 (UA:gZ C ac (.rangeFunc f params assign body)=true)(U5:gV C D Q ac q aM)(e:u1 f params assign body U C q ⟨fn,n,ac,aP,ap,ro,cs⟩ z j k=some v):
 Ends C aS a2 bc v (lone (bC D fn aP ap ro tmps (.code (.rangeFunc f params assign body)::aM) .run) aa w):=by
 simp only[gZ,Zt]at UA;obtain⟨UQ,U8,U9⟩:=UA;unfold u1 at e;split at e
 ·rename_i g first A Ug ak sX Ue Ud Up Uc UN UP
  cases UP;obtain⟨UF,T0⟩:=FA a.ec P UQ UN;have UB:∀(b:Nat) (dT:World),(resolve (gK tmps) {callee:=.value f,args:= #[.const (.func (.yield b) #[] #[])],argTypes:= #[]} 0).run C.P dT=
   .ok ⟨.fn (.func g) (bd D A).toArray,(bd D first).toArray++ #[.func (.yield b) #[] #[]]⟩ dT:=by
   intro b dT;have UH:gK tmps (.const (.func (.yield b) #[] #[]))=.func (.yield b) #[] #[]:=rfl;simp[resolve,UF,aq,hN,Deferred.ofValue,UH]
  have U4:∀(b:Nat) (s:bT) (t:Nat->Prop) (am:B R) (T5:Nat) (dT:World) (X:List d3) (T8:List Frame) (bP:Nat) (G:Nat),(∀x,Q x->s x=D x)->(∀x,Q x->t x)->t G->(s G).bx=b->
   bV C s t am T5 aS.heap.size dT->Below aS.heap.size aS dT->kT C s t->bP<=T5->iN C s t am a2 bc bP X T8->X≠[]->iB U C g (first++[.func (.yield G) [] []]++A) false X am T5=some v->
   ∃args,(invoke (.fn (.func g) (bd D A).toArray) ((bd D first).toArray++ #[.func (.yield b) #[] #[]])).run C.P dT=.ok (.enter g args) dT/\Ends C aS a2 bc v (lone (Frame.enter C.P g args .normal) T8 dT):=by
   intro b s t am T5 dT X T8 bP G UC U3 UV T T3 UK US L UM UX e;have UT:cu t (first++[.func (.yield G) [] []]++A):=pc (pc (kw U3 _ T0.2.1) ⟨⟨UV,trivial,trivial⟩,trivial⟩) (kw U3 _ T0.2.2);refine⟨(bd s (first++[.func (.yield G) [] []]++A)).toArray, ?_,wc UU T3 UK US L UM (λu=>absurd u UX) UT e⟩;have UL:∃func c,C.P.funcs[g]? =some func/\func.body=some c:=by
    unfold iB at e;split at e
    ·rename_i func T1;split at e
     ·rename_i c r;exact⟨func,c,T1,r⟩
     ·simp at e
    ·simp at e
   obtain⟨func,c,T1,r⟩:=UL;have UW:func.name≠ "runtime.NumGoroutine":=by simpa using UI.f8.num g func T1 (by simp[r])
   have UJ:(bd s (first++[.func (.yield G) [] []]++A)).toArray=((bd D first).toArray++ #[.func (.yield b) #[] #[]])++(bd D A).toArray:=by rw[qj,qj,nQ UC T0.2.1,nQ UC T0.2.2];simp[bd,aq,hN,T]
   rw[UJ];simp[invoke,callFunc,T1,UW,r]
  cases ro with
  |none=>
   simp only[gQ]at e;have N:=kD a.I;have T3:=a.I.alloc (b:=k) (W:=k+1) (pl:=⟨w.heap.size,0,0⟩) (bQ:=.deferred (some [])) (J:=.deferred (some [])) (S':=aI C j k (some (.deferred (some [])))) a.I.aD (Yt _) (Yd _) N a.cB rfl
    (by rw[dt _ a.I.aD,Zu rfl]) (λx i=> .inl (by rw[dt _ a.I.aD,Zi i])) ⟨by rw[World.alloc_heap_new];rfl,λl TY=>by cases TY;simp⟩ ⟨λ_ _ _ e=>(by cases e),λ_ _ _ e=>(by cases e)⟩
   have U0:eF C k D Q j aS.heap.size w (dS D k ⟨w.heap.size,0,0⟩) (add Q k) (aI C j k (some (.deferred (some [])))) (w.alloc (.deferred (some []))):=
    ⟨kc N,λ_ e=> .inl e,λh e=>e.elim .inl (λe=> .inr Zo),λx _ U6=>by rw[dt _ a.I.aD,Zi Zo],Below.alloc (Below.refl _ _) a.cB _⟩
   have T2:=Nat.le_succ_of_le a.I.aD;have U7:=kD T3;have U2:aS.heap.size<=(w.alloc (.deferred (some []))).heap.size:=by rw[World.size_alloc];have:=a.cB;omega
   have UD:(dS D k ⟨w.heap.size,0,0⟩ k)=⟨w.heap.size,0,0⟩:=gM ..;have T4:=kc (D:=dS D k ⟨w.heap.size,0,0⟩) (pl:=⟨w.heap.size+1,0,0⟩) U7;have O:=T3.alloc (b:=k+1) (W:=k+2) (pl:=⟨w.heap.size+1,0,0⟩) (bQ:=.loop .ready none fn n ac z params.toList assign body k) (J:=.loop {state:=.ready,pending:=none,fn,tmps,params,assign,body,defers:=w.heap.size})
    (S':=aI C (aI C j k (some (.deferred (some [])))) (k+1) (some (.loop .ready none fn n ac z params.toList assign body k))) T2 (Yt _) (Yd _) U7 U2 (by rw[World.size_alloc])
    (by rw[dt _ T2,Zu rfl]) (λx i=> .inl (by rw[dt _ T2,Zi i]))
    ⟨tmps,by
     rw[show(⟨w.heap.size+1,0,0⟩:hq).bx=(w.alloc (.deferred (some []))).heap.size by rw[World.size_alloc],World.alloc_heap_new,T4 k (.inr rfl),UD],
     (P.K U0.eZ U0.fv).K T4 (λ_ e=> .inl e),.inl (.inr rfl),U8,U9,λc r=>(by cases r),a.eI.fn⟩
    ⟨λ_ _ _ e=>(by cases e),λ_ _ _ e=>(by cases e)⟩
   have UY:eF C (k+1) (dS D k ⟨w.heap.size,0,0⟩) (add Q k) (aI C j k (some (.deferred (some [])))) aS.heap.size (w.alloc (.deferred (some []))) (dS (dS D k ⟨w.heap.size,0,0⟩) (k+1) ⟨w.heap.size+1,0,0⟩) (add (add Q k) (k+1))
    (aI C (aI C j k (some (.deferred (some [])))) (k+1) (some (.loop .ready none fn n ac z params.toList assign body k))) ((w.alloc (.deferred (some []))).alloc (.loop {state:=.ready,pending:=none,fn,tmps,params,assign,body,defers:=w.heap.size})):=
    ⟨T4,λ_ e=> .inl e,λh e=>e.elim .inl (λe=> .inr Zo),λx _ U6=>by rw[dt _ T2,Zi Zo],Below.alloc (Below.refl _ _) U2 _⟩
   have i:=U0.trans (Yd k) UY;have m:=a.ext O (i.mono a.fV) (ZD (Yd _) (Yd _));have UR:mE C (add (add Q k) (k+1)) fn ac (⟨.collected k,[]⟩::aP) none:=⟨λd al=>by
    rcases Zq.1 al with rfl|al
    ·exact⟨.inl (.inr rfl),trivial⟩
    ·exact m.eI.aP d al,m.eI.ro,m.eI.fn⟩
   have TZ:hr C (dS (dS D k ⟨w.heap.size,0,0⟩) (k+1) ⟨w.heap.size+1,0,0⟩) (add (add Q k) (k+1)) (aI C (aI C j k (some (.deferred (some [])))) (k+1) (some (.loop .ready none fn n ac z params.toList assign body k))) aW (k+2) n ac z tmps
    (.inRangeFunc (k+1)::q) (.inRangeFunc (w.heap.size+1)::aM):=by
    have:=hr.bR (aW:=aW) (af:=k+2) (j:=aI C (aI C j k (some (.deferred (some [])))) (k+1) (some (.loop .ready none fn n ac z params.toList assign body k))) (U5.K i.eZ i.fv) (P.K i.eZ i.fv) (l:=k+1) (.inr rfl);rw[gM]at this;exact this
   have L:aW<=k+2:=zK a.fV;obtain⟨args,T6,T7⟩:=U4 (w.heap.size+1) _ _ _ _ _ _ _ (k+2) (k+1) i.eZ i.fv (.inr rfl) (by rw[gM]) O m.gi m.ec (Zg _)
    (.cons (be:=.run) TZ trivial UR a.bot L m.cs) Zs e
   refine .head (Ib (run_enterLoop_outer fn tmps params assign body) (UB _ _) T6) ?_;have T9:({bC D fn aP ap none tmps (.inRangeFunc (w.heap.size+1)::aM) .run with defers:=[{target:=.collected w.heap.size,args:= #[]}]++aP.map (hc D)}:Frame)=
    bC (dS (dS D k ⟨w.heap.size,0,0⟩) (k+1) ⟨w.heap.size+1,0,0⟩) fn (⟨.collected k,[]⟩::aP) ap none tmps (.inRangeFunc (w.heap.size+1)::aM) .run:=by
    have u:aP.map (hc (dS (dS D k ⟨w.heap.size,0,0⟩) (k+1) ⟨w.heap.size+1,0,0⟩))=aP.map (hc D):=Yv λd al=>yB i.eZ (a.eI.aP d al);have UG:hc (dS (dS D k ⟨w.heap.size,0,0⟩) (k+1) ⟨w.heap.size+1,0,0⟩) ⟨.collected k,[]⟩={target:=.collected w.heap.size,args:= #[]}:=by simp only[hc,qe,bd];rw[T4 k (.inr rfl),UD]
    simp only[bC,ZH,u,UG,YA,Yz,zh]
   rw[T9];exact T7
  |some l=>
   simp only[gQ]at e;split at e
   ·rename_i st Uo Uf Ui Uh UZ Un Ua Ub p TY;have al:=a.eI.ro l rfl;obtain⟨Uq,dI,f7,UE,Uj,Uk,Ul,Um⟩:=a.I.obj l _ TY al;have N:=kD a.I;have U1:=kc (D:=D) (pl:=⟨w.heap.size,0,0⟩) N;have O:=a.I.alloc (b:=k) (W:=k+1) (pl:=⟨w.heap.size,0,0⟩) (bQ:=.loop .ready none fn n ac z params.toList assign body p) (J:=.loop {state:=.ready,pending:=none,fn,tmps,params,assign,body,defers:=(D p).bx})
     (S':=aI C j k (some (.loop .ready none fn n ac z params.toList assign body p))) a.I.aD (Yt _) (Yd _) N a.cB rfl
     (by rw[dt _ a.I.aD,Zu rfl]) (λx i=> .inl (by rw[dt _ a.I.aD,Zi i]))
     ⟨tmps,by rw[World.alloc_heap_new,U1 p UE],P.K U1 (λ_ e=> .inl e),.inl UE,U8,U9,λc r=>(by cases r),a.eI.fn⟩
     ⟨λ_ _ _ e=>(by cases e),λ_ _ _ e=>(by cases e)⟩
    have i:eF C k D Q j aS.heap.size w (dS D k ⟨w.heap.size,0,0⟩) (add Q k) (aI C j k (some (.loop .ready none fn n ac z params.toList assign body p))) (w.alloc (.loop {state:=.ready,pending:=none,fn,tmps,params,assign,body,defers:=(D p).bx})):=
     ⟨U1,λ_ e=> .inl e,λh e=>e.elim .inl (λe=> .inr Zo),λx _ U6=>by rw[dt _ a.I.aD,Zi Zo],Below.alloc (Below.refl _ _) a.cB _⟩
    have m:=a.ext O (i.mono a.fV) (Yd _);have TZ:hr C (dS D k ⟨w.heap.size,0,0⟩) (add Q k) (aI C j k (some (.loop .ready none fn n ac z params.toList assign body p))) aW (k+1) n ac z tmps (.inRangeFunc k::q) (.inRangeFunc w.heap.size::aM):=by have:=hr.bR (aW:=aW) (af:=k+1) (j:=aI C j k (some (.loop .ready none fn n ac z params.toList assign body p))) (U5.K i.eZ i.fv) (P.K i.eZ i.fv) (l:=k) (.inr rfl);rw[gM]at this;exact this
    have L:aW<=k+1:=zK a.fV;obtain⟨args,T6,T7⟩:=U4 w.heap.size _ _ _ _ _ _ _ (k+1) k i.eZ i.fv (.inr rfl) (by rw[gM]) O m.gi m.ec (Zg _)
     (.cons (be:=.run) TZ trivial m.eI a.bot L m.cs) Zs e
    have UO:(Instr.enterLoop fn tmps params assign body ((some l).map λl=>(D l).bx)).run C.P w=.ok (w.heap.size,[]) (w.alloc (.loop {state:=.ready,pending:=none,fn,tmps,params,assign,body,defers:=(D p).bx})):=by unfold Instr.enterLoop;simp only[ZZ,Sem.run_bind,run_getLoop dI,run_newObj_alloc,Result.andThen,Sem.run_pure]
    refine .head (Ib UO (UB _ _) T6) ?_;have T9:({bC D fn aP ap (some l) tmps (.inRangeFunc w.heap.size::aM) .run with defers:=[]++aP.map (hc D)}:Frame)=bC D fn aP ap (some l) tmps (.inRangeFunc w.heap.size::aM) (ea D .run):=rfl;rw[T9, <-s0 i.eZ a.eI];exact T7
   ·simp at e
 ·simp at e
def E0(L:Env C aS cn co)(x:h0 C aS a2 bc U)(p:fg C aS a2 bc fn ac aP ap ro cs j k D Q w aW aa)(r:fs D Q n ac z tmps):∀(c:Code) (q:List ci) (aM:List Item),gZ C ac c=true->gV C D Q ac q aM->
 l4 c U C q ⟨fn,n,ac,aP,ap,ro,cs⟩ z j k=some v->Ends C aS a2 bc v (lone (bC D fn aP ap ro tmps (.code c::aM) .run) aa w):=by
 intro c;have go:∀q aM,gV C D Q ac q aM->U .run q ⟨fn,n,ac,aP,ap,ro,cs⟩ z j k=some v->Ends C aS a2 bc v (lone (bC D fn aP ap ro tmps aM .run) aa w):=
  λq aM d e=>x _ _ _ _ _ _ _ _ _ _ _ _ v e D Q w aW tmps aM aa (p.state (.plain d r))
 induction c with
 |skip=>intro q aM _ d e;exact .head acg (go q aM d e)|region id ae T2=>intro q aM _ d e;exact aaP L x p d r e|seq a b G m=>intro q aM g d e;simp only[gZ,Zt]at g;exact .head acf (G (.code b::q) (.code b::aM) g.1 (.cons (.code g.2) d) e)|cond c a b G m=>
  intro q aM g d e;simp only[gZ,Zt]at g;have i:tZ c z (l4 a U C q ⟨fn,n,ac,aP,ap,ro,cs⟩ z j k) (l4 b U C q ⟨fn,n,ac,aP,ap,ro,cs⟩ z j k)=some v:=e;simp only[tZ,mr]at i;split at i
  ·rename_i M T0;obtain⟨O,_⟩:=FA p.ec r g.1 T0;cases M with
   |bool t=>
    refine .head (abX (by rw[O];rfl)) ?_;cases t with
    |true=>exact G q aM g.2.1 d i|false=>exact m q aM g.2.2 d i
   |_=>simp at i
  ·simp at i
 |block id b m=>intro q aM g d e;exact .head abW (m (.inBlock id::q) (.inBlock id::aM) g (.cons .inBlock d) e)|loop b m=>intro q aM g d e;exact .head ab6 (m (.inLoop b::q) (.inLoop b::aM) g (.cons (.inLoop g) d) e)|rangeFunc f params assign body _ _=>intro q aM g d e;exact aaF L x p r g d e|exit id=>
  intro q aM _ d e;have i:o2 id U C q ⟨fn,n,ac,aP,ap,ro,cs⟩ z j k=some v:=e;unfold o2 at i;split at i
  ·rename_i T1 A;obtain⟨N,P,X⟩:=P2 id d A;exact .head (ab1 P) (go T1 N X i)
  ·rename_i A;exact AG x (.inr (.inr ⟨id,aM,rfl,rfl,P1 id d A⟩)) p r i
 |scope b m=>intro q aM g d e;exact .head ace (m (.inScope b::q) (.inScope b::aM) g (.cons (.inScope g) d) e)|label l=>intro q aM _ d e;exact .head ab5 (go q aM d e)|goto l=>intro q aM _ _ e;exact absurd e (by simp[l4,q9])|ret=>intro q aM _ d e;exact AG x (.inr (.inl ⟨rfl,aM,rfl⟩)) p r e|refuse s=>intro q aM _ _ e;exact absurd e (by simp[l4,q9])
def aaV(N:bV C D Q j k aN w)(v:fs D Q n ac z tmps){bj:ResultVar->Sem Value}(G:∀t,bj (.tmp t)=pure (tmps.getD t Go.undef))(L:∀a t,bj (.cell a t)=do loadVar t (<-asAddr (tmps.getD a Go.undef))):
 ∀(l:List ResultVar) (aF:List y),oh ac l=true->ng C j z l=some aF->(l.mapM bj).run C.P w=.ok (bd D aF) w/\cu Q aF:=by
 intro l;induction l with
 |nil=>intro aF _ e;simp[ng]at e;subst e;exact⟨by simp[bd],trivial⟩|cons x l U=>
  intro aF c e;cases x with
  |tmp t=>
   simp only[oh,Zt]at c;simp only[ng]at e;split at e
   ·rename_i M r d I;simp at e;subst e;obtain⟨f,g⟩:=v.val t M c.1 d;obtain⟨i,m⟩:=U r c.2 I;refine⟨?_,g,m⟩;simp[G,f,i,bd]
   ·simp at e
  |cell a t=>
   simp only[oh,Zt]at c;simp only[ng]at e;split at e
   ·rename_i p O;split at e
    ·rename_i M r d I;simp at e;subst e;obtain⟨f,g⟩:=v.val a p c.1 O;obtain⟨i,m⟩:=U r c.2 I;obtain⟨s,A⟩:=Et N g d;refine⟨?_,A,m⟩;cases p with|ptr b J=>simp only[Instr.loadAt,Instr.sureAddr,aq,Sem.run_bind,Sem.run_pure,Result.andThen_ok]at s;simp[List.mapM_cons,L,f,aq,asAddr,s,i,bd]|_=>simp[gW,b4,ay]at d;split at d<;>simp at d
    ·simp at e
   ·simp at e
def TS(aF:List y):(if e:(bd D aF).toArray.size=1 then(bd D aF).toArray[0]else Value.tuple (bd D aF).toArray)=aq D (one aF):=by
 match aF with
 |[]=>rfl|[a]=>simp[one,bd]|a::b::r=>simp[one,bd,aq]
def TR{aF:List y}(e:cu Q aF):bp Q (one aF):=by
 match aF,e with
 |[],e=>exact e|[a],e=>exact e.1|a::b::r,e=>exact e
def fg.defs(a:fg C aS a2 bc fn ac aP ap ro cs j k D Q w aW aa){b:List eA}(e:∀d∈b,pb Q d):fg C aS a2 bc fn ac b ap ro cs j k D Q w aW aa:=
 ⟨a.I,a.gi,a.ec,a.fV,⟨e,a.eI.ro,a.eI.fn⟩,a.bot,a.cs⟩
def fg.BN{todo:List ci}{be:gw}(f:be≠ .run)(b:jV Q be)(a:fg C aS a2 bc fn ac aP ap ro cs j k D Q w aW aa)(c:fs D Q n ac z tmps):
 p1 C aS a2 bc be todo fn n ac aP ap ro cs z j k D Q w aW tmps aM aa:=by
 cases be with|run=>grind|returning=>exact⟨a.I,a.gi,a.ec,a.fV,a.eI,b,a.bot,a.cs,c⟩|panicking d=>exact⟨a.I,a.gi,a.ec,a.fV,a.eI,b,a.bot,a.cs,c⟩
def Fe(P:Env C aS cn co)(G:h0 C aS a2 bc U){d:eA}{b:List eA}{be:gw}{todo:List ci}(p:be≠ .run)(x:jV Q be)(a:fg C aS a2 bc fn ac (d::b) ap ro cs j k D Q w aW aa)(N:fs D Q n ac z tmps)
 (e:nl d b be todo U C ⟨fn,n,ac,[],ap,ro,cs⟩ z j k=some v):Ends C aS a2 bc v (lone (bC D fn (d::b) ap ro tmps aM (ea D be)) aa w):=by
 have i:=a.eI.aP d (Zp ..);have A:=λc al=>a.eI.aP c (Zw _ al);have t:ea D be≠ .run:=by cases be<;>simp[ea]at p ⊢
 unfold nl at e;split at e;rename_i U5 ak sX U4 U3 U6 U2 T6;cases T6;split at e
 ·rename_i r O;split at e
  ·rename_i m L;simp only[cL,dD]at e;obtain⟨T5,e⟩:=e;have al:=i.1;obtain⟨dI,f7⟩:=a.I.obj r _ L al;obtain⟨a6,a7,bl,U1⟩:=putObj a.I (dH:=.deferred none) (h9:=.deferred none) (fu T5) al L ⟨Zs,Zs⟩ dI Zs
    (λa6 U0=>⟨by simpa using U0,λl T8=>by cases T8⟩) ⟨λ_ _ _ e=>(by cases e),λ_ _ _ e=>(by cases e)⟩
   have TZ:(Instr.takeDeferred (D r).bx).run C.P w=.ok (m.map (hc D)) a6:=(by have u:a6=w.putObj (D r).bx (.deferred none):=(by have:(Go.setObj (D r).bx (.deferred none)).run C.P w=.ok () (w.putObj (D r).bx (.deferred none)):=(by simp[Go.setObj,Sem.run,dI,World.putObj]);rw[this]at a7;simp only[Result.ok.injEq]at a7;exact a7.2.symm);rw[u];exact run_takeDeferred dI);refine .head (ach t TZ (by rw[ZR])) ?_;have T4:∀d∈m++b,pb Q d:=λc T3=>by
    rcases Zv.1 T3 with V|V
    ·exact f7 m rfl c V
    ·exact A c V
   have T2:=(a.defs T4).ext bl U1 (Zg _);exact G _ _ _ _ _ _ _ _ _ _ _ _ v e D Q a6 aW tmps aM aa (T2.BN p x N)
  ·simp at e
 ·rename_i f s args;split at e
  ·rename_i g O T7;have T1:=Gg (D:=D) (j:=j) (k:=k) (aN:=aS.heap.size) (w:=w) P.f8 i.1.1 i.1.2 i.2 T7;obtain⟨X,T0⟩:=T1;have TY:=step_defer (fr:=bC D fn (⟨.fn f s,args⟩::b) ap ro tmps aM (ea D be)) (cs:=aa) (d:=hc D ⟨.fn f s,args⟩) t rfl rfl X;refine .head TY ?_;have T9:oN C D Q j aW k n ac z tmps be todo aM:=by cases be with|run=>exact absurd rfl p|_=>exact N
   exact Fr G a.I a.gi a.ec (Zg _) (.cons T9 x ((a.defs A).eI) a.bot a.fV a.cs) (λu=>by cases u) T0 e
  ·simp at e
def Ph(D:bT):∀(l:List kL),(l.map (nO D)).dropWhile (!·.goexit)=[]:=by intro l;induction l with|nil=>rfl|cons a l U=>assumption
def abv(D:bT)(a:List kL):settle (ea D (.panicking a))=ea D (pK a):=by cases a with|nil=>rfl|cons p l=>obtain⟨v,r⟩:=p;cases r with|false=>rfl|true=>simp[ea,settle,pK,nO,Ph]
def acL{a:List kL}(e:jV Q (.panicking a)):jV Q (pK a):=by
 unfold pK;split
 ·trivial
 ·exact e
def acM(a:List kL):pK a≠ .run:=by unfold pK;grind
def aa0(T9:Env C aS cn co)(N:h0 C aS a2 bc U){todo:List ci}(b:fg C aS a2 bc fn ac aP ap ro cs j k D Q w aW aa)(T3:fs D Q n ac z tmps)
 (e:u6 todo U C ⟨fn,n,ac,aP,ap,ro,cs⟩ z j k=some v):Ends C aS a2 bc v (lone (bC D fn aP ap ro tmps aM .returning) aa w):=by
 unfold u6 at e;cases aP with
 |cons d U7=>exact Fe (be:=.returning) T9 N Zs trivial b T3 e|nil=>
  simp only at e;split at e
  ·rename_i f X;obtain⟨U8,T1,U0⟩:=b.eI.fn;rw[X]at T1;cases T1;split at e
   ·rename_i aF U2;have O:(results f tmps).run C.P w=.ok (aq D (one aF)) w/\cu Q aF:=by unfold results;rw[Sem.run_bind,Array.mapM_eq_mapM_toList,Sem.run_map];obtain⟨U4,U5⟩:=aaV b.I T3 (bj:=λx=>match x with| .tmp t=>pure (tmps.getD t Go.undef)| .cell a t=>do loadVar t (<-asAddr (tmps.getD a Go.undef))) (λ_=>rfl) (λ_ _=>rfl) _ _ U0 U2;refine⟨?_,U5⟩;refine(congrArg (λr=>Result.andThen (Result.andThen r _) _) U4).trans ?_;simp only[Result.andThen_ok,Sem.run_pure];rw[<-TS]
    obtain⟨O,TY⟩:=O;cases ap with
    |false=>
     have T2:(bC D fn [] false ro tmps aM .returning).leaving C.P w (.returned (aq D (one aF))):=⟨rfl,rfl,rfl,f,X,O⟩;cases cs with
     |nil=>
      simp only[lA,ge,Zh]at e;subst e;obtain⟨bb,bn,bH⟩:=b.bot rfl;have TZ:=b.cs;cases TZ with
      |nil=>exact⟨D,w,_,.refl _ _,T2,bb,b.gi⟩
     |cons c rest=>refine EK N b Zs (TR TY) (λg L u=> ?_) e;subst u;exact step_leave_returned T2
    |true=>cases cs with|nil=>have:=(b.bot rfl).2.1;cases this|cons c rest=>obtain⟨A,U9,U3,U6,UA,s,T8,p,G⟩:=c;obtain⟨T0,l,i,L,rfl,a7,bl,T4,T5,T6,T7⟩:=b.cs.inv;have U1:=step_going_returned (fr:=bC D fn [] true ro tmps aM .returning) (c:=bC D A s p G l i (ea D T8)) (cs:=L) (v:=aq D (one aF)) rfl ⟨rfl,rfl,f,X,O⟩;refine .head U1 ?_;cases T8 with|run=>simp[lA]at e|returning=>have P:=e;exact N _ _ _ _ _ _ _ _ _ _ _ _ v P D Q w T0 l i L ⟨b.I,b.gi,b.ec,ZD T6 b.fV,T4,trivial,T5,T7,a7⟩|panicking m=>have P:=e;have u:({bC D A s p G l i (ea D (.panicking m))with mode:=settle (bC D A s p G l i (ea D (.panicking m))).mode}:Frame)=bC D A s p G l i (ea D (pK m)):=(by rw[show(bC D A s p G l i (ea D (.panicking m))).mode=ea D (.panicking m) from rfl,abv];rfl);rw[u];have T:fg C aS a2 bc A U3 s p G rest j k D Q w T0 L:=⟨b.I,b.gi,b.ec,ZD T6 b.fV,T4,T5,T7⟩;exact N _ _ _ _ _ _ _ _ _ _ _ _ v P D Q w T0 l i L (T.BN (acM m) (acL bl) a7)
   ·simp at e
  ·simp at e
def aaC(D:bT)(a:List kL)(be:gw):raised (ea D be) (a.map (nO D))=ea D (td a be):=by cases be<;>simp[ea,raised,td]
def aaw{a:List kL}{be:gw}(e:jV Q (.panicking a))(b:jV Q be):jV Q (td a be):=by
 cases be with
 |panicking hD=>
  intro p c;rcases Zv.1 c with V|V
  ·exact e p V
  ·exact b p V
 |_=>exact e
def σ(L:Env C aS cn co)(A:h0 C aS a2 bc U){todo:List ci}{i:List kL}(x:jV Q (.panicking i))(a:fg C aS a2 bc fn ac aP ap ro cs j k D Q w aW aa)(X:fs D Q n ac z tmps)
 (e:BD i todo U C ⟨fn,n,ac,aP,ap,ro,cs⟩ z j k=some v):Ends C aS a2 bc v (lone (bC D fn aP ap ro tmps aM (ea D (.panicking i))) aa w):=by
 unfold BD at e;cases aP with|cons d T6=>exact Fe L A Zs x a X e|nil=>cases cs with|nil=>grind|cons c rest=>obtain⟨p,T7,T4,T5,T8,m,b,l,r⟩:=c;obtain⟨G,s,g,t,rfl,a7,bl,T0,T1,T2,T3⟩:=a.cs.inv;obtain⟨f,O,_⟩:=a.eI.fn;have P:=step_going_panicked (fr:=bC D fn [] ap ro tmps aM (ea D (.panicking i))) (c:=bC D p m l r s g (ea D b)) (cs:=t) (w:=w) ⟨rfl,rfl,f,O⟩;refine .head P ?_;have u:({bC D p m l r s g (ea D b)with mode:=raised (bC D p m l r s g (ea D b)).mode (i.map (nO D))}:Frame)=bC D p m l r s g (ea D (td i b)):=(by rw[show(bC D p m l r s g (ea D b)).mode=ea D b from rfl,aaC];rfl);rw[u];have N:=e;have T:fg C aS a2 bc p T4 m l r rest j k D Q w G t:=⟨a.I,a.gi,a.ec,ZD T2 a.fV,T0,T1,T3⟩;exact A _ _ _ _ _ _ _ _ _ _ _ _ v N D Q w G s g t (T.BN (by cases b<;>simp[td]) (aaw x bl) a7.drop)
def Ie(r:Env C aS cn co)(i:h0 C aS a2 bc U):h0 C aS a2 bc λbe todo bj z j k=>BC U C be todo bj z j k:=by
 intro be todo fn n ac aP ap ro cs z j k v P D Q w bP tmps aM aa b;cases be with
 |run=>
  obtain⟨f,U1⟩:=b.Ob;have N:=P;cases U1 with
  |plain g t=>
   cases g with
   |nil=>have m:=N;exact AG i (.inl ⟨rfl,rfl⟩) f t m|cons af g=>
    rename_i a x q aM;have m:=N;have go:∀q aM,gV C D Q ac q aM->U .run q ⟨fn,n,ac,aP,ap,ro,cs⟩ z j k=some v->Ends C aS a2 bc v (lone (bC D fn aP ap ro tmps aM .run) aa w):=
     λq aM g e=>i _ _ _ _ _ _ _ _ _ _ _ _ v e D Q w bP tmps aM aa (f.state (.plain g t))
    cases af with
    |code L=>exact E0 r i f t _ q aM L g m|inBlock=>exact .head ab2 (go q aM g m)|inLoop L=>exact .head ab3 (E0 r i f t _ _ _ L (.cons (.inLoop L) g) m)|inScope L=>exact .head ab4 (go q aM g m)|qs al=>
     rename_i l;have d:su l U C q ⟨fn,n,ac,aP,ap,ro,cs⟩ z j k=some v:=m;unfold su at d;split at d
     ·rename_i st p T4 T7 T6 T2 params assign body T3 G;have O:st≠ .busy->a8 (eN C l) (fx (aI C j l (some (.loop .exhausted p T4 T7 T6 T2 params assign body T3))) λj=>U .run ((p.map ci.code).toList++q) ⟨fn,n,ac,aP,ap,ro,cs⟩ z j k) none=some v->
       Ends C aS a2 bc v (lone (bC D fn aP ap ro tmps (.endRangeFunc (D l).bx::aM) .run) aa w):=by
       intro U0 s;simp only[cL,dD]at s;obtain⟨T0,s⟩:=s;have T1:∀c,p=some c->sN c:=(by obtain⟨_,_,_,_,_,_,A,_⟩:=f.I.obj l _ G al;exact A);obtain⟨U3,dI,U2,A,X⟩:=AQ f (pC:=p) (fu T0) al G T1;refine .head (ab0 (run_endLoop dI U0)) ?_;refine i _ _ _ _ _ _ _ _ _ _ _ _ v s D Q _ bP tmps _ aa (X.state (.plain ?_ t));cases p with|none=>exact g|some c=>have TY:gZ C ac c=true:=(by rcases A c rfl with rfl|⟨id,rfl⟩<;>rfl);exact .cons (.code TY) g
      cases st with|busy=>simp at d|ready=>exact O Zs d|done=>exact O Zs d|exhausted=>exact O Zs d
     ·simp at d
    |begin=>
     have d:tS U C q ⟨fn,n,ac,aP,ap,ro,cs⟩ z j k=some v:=m;unfold tS at d;cases ro with
     |none=>simp at d|some l=>
      simp only at d;split at d
      ·rename_i p T4 T7 T6 T2 params assign body T3 G;simp only[cL,dD]at d;obtain⟨T0,d⟩:=d;have al:=f.eI.ro l rfl;have T1:∀c,p=some c->sN c:=(by obtain⟨_,_,_,_,_,_,A,_⟩:=f.I.obj l _ G al;exact A);obtain⟨U3,dI,U2,A,X⟩:=AQ f (pC:=p) (fu T0) al G T1;refine .head (abV (run_beginRound dI rfl)) ?_;exact i _ _ _ _ _ _ _ _ _ _ _ _ v d D Q _ bP tmps aM aa (X.state (.plain g t))
      ·simp at d
  |seq g TZ=>exact H2 r i _ _ _ _ _ _ _ _ _ _ f g TZ N|drawn g s T8 T5 T9=>exact Fi r i f g s T8 T5.bu T5 T9 N
 |returning=>have f:fg C aS a2 bc fn ac aP ap ro cs j k D Q w bP aa:=⟨b.I,b.gi,b.ec,b.fV,b.eI,b.bot,b.cs⟩;exact aa0 r i f b.todo P|panicking U4=>have f:fg C aS a2 bc fn ac aP ap ro cs j k D Q w bP aa:=⟨b.I,b.gi,b.ec,b.fV,b.eI,b.bot,b.cs⟩;exact σ r i b.mode f b.todo P
def abi(a:Env C aS cn co):∀n,h0 C aS a2 bc (run C n):=by intro n;induction n with|zero=>intro be todo fn n ac aP ap ro cs z j k v e;simp[run]at e|succ m b=>exact Ie a b
def abf(a:Env C aS cn co){m f:Nat}{args:List y}(c:cu co args)(e:oj C m f args=some v):
 Calls C.P f (bd cn args).toArray aS λu a6=>(∃D,u=.returned (aq D v))/\Below aS.heap.size aS a6:=by
 intro b;have n:Ends C aS f b v (lone (Frame.enter C.P f (bd cn args).toArray .normal) b aS):=
  wc (abi a m) a.base (Below.refl _ _) a.ec (Zg _) .nil (λ_=>rfl) c e
 obtain⟨D,a6,fr,d,g,i,l⟩:=n;exact⟨.returned (aq D v),a6,fr,⟨⟨D,rfl⟩,l⟩,d,i,g⟩
end
noncomputable section
open Go.RowKit (Below)
abbrev mH:=Option (List y×Nat×List (Nat×R))
def sQ(P:Program)(next:Nat->DataW Unit->Nat->mH):List Field->List (DataW Unit)->Nat->Nat->mH
 |[],[],_,n=>some ([],n,[])|f::fR,d::a,off,n=>a8 (Nat.beq f.offset off) (match next f.type d n with
  |some (l,ak,os)=>a8 (Nat.beq l.length (P.cellsOf f.type)) (match sQ P next fR a (off+l.length) ak with
   |some (b,ar,c)=>some (l++b,ar,os++c)|none=>none) none
  |none=>none) none
 |_,_,_,_=>none
def sP(P:Program)(next:Nat->DataW Unit->Nat->mH)(u:Nat):List (DataW Unit)->Nat->mH
 |[],n=>some ([],n,[])|d::a,n=>match next u d n with
  |some (l,ak,os)=>a8 (Nat.beq l.length (P.cellsOf u)) (match sP P next u a ak with
   |some (b,ar,c)=>some (l++b,ar,os++c)|none=>none) none
  |none=>none
def uA:Lit->Option y
 | .bool b=>some (.bool b)| .int q n=>some (.int q n)| .string s=>some (.str (s.map (·.toNat)))|_=>none
def AE(P:Program)(u:Nat)(l:List y):Option y:=match P.underlying u with
 |some (.struct _)=>some (.agg l)|some (.array _ _)=>some (.agg l)|some _=>(match l with|[v]=>some v|_=>none)|none=>none
def xc(P:Program)(q:Nat):Bool:=match P.underlying q with|some .bool=>true|some (.int _)=>true|some .string=>true|_=>false
def uG(P:Program)(next:Nat->DataW Unit->Nat->mH)(u:Nat):List (Lit×DataW Unit)->Nat->Option (List (y×y)×Nat×List (Nat×R))
 |[],n=>some ([],n,[])|(key,d)::a,n=>match uA key,next u d n with
  |some b,some (l,ak,os)=>(match AE P u l,uG P next u a ak with
   |some v,some (r,ar,c)=>some ((b,v)::r,ar,os++c)|_,_=>none)
  |_,_=>none
def th(l:List y):R:=.cells (B.ofList l 0 .nil) l.length .own
def m8(P:Program):Nat->Nat->DataW Unit->Nat->mH
 |0,_,_,_=>none|m+1,t,d,n=>match P.underlying t,d with
  |some .bool,.lit (.bool b)=>some ([.bool b],n,[])|some (.int _),.lit (.int q i)=>some ([.int q i],n,[])|some .string,.lit (.string s)=>some ([.str (s.map (·.toNat))],n,[])|some (.pointer _),.nil=>some ([.bE],n,[])|some (.pointer u),.ptr d=>(match m8 P m u d (n+1)with
   |some (l,ak,os)=>a8 (Nat.beq l.length (P.cellsOf u)&&Nat.blt 0 l.length) (some ([.ptr n 0],ak,(n,th l)::os)) none|none=>none)
  |some (.slice _),.nil=>some ([.au],n,[])|some (.slice u),.slice a f=>(match f with
   |[]=>(match sP P (m8 P m) u a (n+1)with
    |some (l,ak,os)=>a8 (Nat.blt 0 l.length) (some ([.slice n 0 a.length a.length],ak,(n,th l)::os)) none|none=>none)
   |_::_=>none)
  |some (.struct fR),.agg c=>(match sQ P (m8 P m) fR.toList c 0 n with
   |some (l,ak,os)=>a8 (Nat.beq l.length (P.cellsOf t)) (some (l,ak,os)) none|none=>none)
  |some (.array _ u),.agg c=>(match sP P (m8 P m) u c n with
   |some (l,ak,os)=>a8 (Nat.beq l.length (P.cellsOf t)) (some (l,ak,os)) none|none=>none)
  |some (.interface _),.nil=>some ([.nilIface],n,[])|some (.map _ _),.nil=>some ([.gs],n,[])|some (.map q u),.map a=>a8 (xc P q) (match uG P (m8 P m) u a (n+1)with
   |some (r,ak,os)=>some ([.map n],ak,(n,.look r)::os)|none=>none) none
  |_,_=>none
section
variable{C:ai}{P:Program}{w:World}
def lV(w:World)(b2:List MemPlace):Prop:=∀b off,MemPlace.cell b off∈b2->∃c t,w.heap[b]? =some (.cells c t (0,0))
def sa(J:R):Prop:=∀C Q,mJ C Q J
def Lays(C:ai)(w:World)(n:Nat)(cs:List Value)(r:List y×Nat×List (Nat×R)):Prop:=
 n<=r.2.1/\(∀x∈r.2.2,n<=x.1/\x.1<r.2.1/\sa x.2)/\∃f:Nat->hq,∀D Q,(∀b,n<=b->b<r.2.1->D b=f b/\Q b)->cs=bd D r.1/\cu Q r.1/\∀x∈r.2.2,f1 C D Q x.2 (D x.1) w
def Lays.plain{n:Nat}{cs:List Value}{l:List y}(e:∀D Q,cs=bd D l/\cu Q l):Lays C w n cs (l,n,[]):=
 ⟨Zg _,Zs,λ_=>default,λD Q _=>⟨(e D Q).1,(e D Q).2,Zs⟩⟩
def Lays.app{n ak ar:Nat}{d f:List Value}{bG l:List y}{m p:List (Nat×R)}(a:Lays C w n d (bG,ak,m))(c:Lays C w ak f (l,ar,p)):Lays C w n (d++f) (bG++l,ar,m++p):=by
 obtain⟨aL,bs,A,a3⟩:=a;obtain⟨bb,bn,G,bH⟩:=c;refine⟨ZD aL bb, ?_,λb=>if b<ak then A b else G b, ?_⟩
 ·intro x g;grind
 ·intro D Q i;obtain⟨bS,bU,r⟩:=a3 D Q (λb a c=>by
   have N:=c;have:=i b a (ZX c bb);simp only[Zu N]at this;exact this)
  obtain⟨s,t,v⟩:=bH D Q (λb a c=>by
   have L:=zG.2 a;have:=i b (ZD aL a) c;simp only[Zi L]at this;exact this)
  refine⟨by rw[qj, <-bS, <-s],pc bU t, ?_⟩;intro x g;rcases Zv.1 g with e|e
  ·exact r x e
  ·exact v x e
def q1{α cz:Type}{f:α->Option cz}:∀{l:List α}{r:List cz},l.mapM f=some r->r.length=l.length/\∀(i:Nat) (a:α) (b:cz),l[i]? =some a->r[i]? =some b->f a=some b:=by intro l;induction l with|nil=>grind|cons a l U=>intro r e;simp only[List.mapM_cons,Option.bind_eq_bind,Z3]at e;grind
def GK{α cz:Type}{f:α->Option cz}{a:α}{l:List α}{r:List cz}(e:(a::l).mapM f=some r):∃b c,r=b::c/\f a=some b/\l.mapM f=some c:=by simp only[List.mapM_cons,Option.bind_eq_bind,Z3]at e;grind
def lV.of{b2 a:List MemPlace}(e:lV w b2)(c:∀x∈a,x∈b2):lV w a:=λb off T=>e b off (c _ T)
def vD(C:ai)(w:World)(next:Nat->DataW Unit->Nat->mH)(b7:TypeId->List Value->Option (DataW Unit×List MemPlace)):Prop:=
 ∀t d n r,next t d n=some r->∀cs b2,b7 t cs=some (d,b2)->lV w b2->Lays C w n cs r
variable{next:Nat->DataW Unit->Nat->mH}{b7:TypeId->List Value->Option (DataW Unit×List MemPlace)}
def Sg(t:vD C w next b7){cs:List Value}:∀(fR:List Field) (a:List (DataW Unit)) (off n:Nat) (r:List y×Nat×List (Nat×R)),sQ P next fR a off n=some r->
 ∀c:List (DataW Unit×List MemPlace),(fR.mapM λf=>b7 f.type ((cs.drop f.offset).take (P.cellsOf f.type)))=some c->c.map (·.1)=a->lV w (c.flatMap (·.2))->Lays C w n ((cs.drop off).take r.1.length) r:=by
 intro fR;induction fR with
 |nil=>
  intro a off n r e c _ _ _;cases a with
  |nil=>simp[sQ]at e;subst e;exact .plain λD Q=>⟨by simp[bd],trivial⟩|cons d a=>grind
 |cons f fR U=>
  intro a off n r e c b al p;cases a with
  |nil=>simp[sQ]at e|cons d a=>
   simp only[sQ,cL]at e;obtain⟨i,e⟩:=e;have i:=Zr i;split at e
   ·rename_i l ak os I;simp only[cL]at e;obtain⟨g,e⟩:=e;have g:=Zr g;split at e
    ·rename_i N ar O v;simp at e;subst e;obtain⟨h,L,rfl,A,G⟩:=GK b;simp at al;obtain⟨rfl,al⟩:=al;have m:=t _ _ _ _ I _ h.2 (by rw[A]) (p.of (by intro x b;simp;exact .inl b));have s:=U a (off+l.length) ak _ v L G al (p.of (by intro x b;simp only[zn,Zv];exact .inr b));rw[i, <-g]at m;have:=m.app s;simp;rw[List.take_add,zC];exact this
    ·simp at e
   ·simp at e
def FM(cs:List Value)(q:Nat):∀(m i0:Nat),(List.range' i0 m).flatMap (λi=>(cs.drop (i*q)).take q)=(cs.drop (i0*q)).take (m*q):=by intro m;induction m with|zero=>grind|succ m U=>intro i0;rw[List.range'_succ,zn,U,Yj m 1 q,Nat.one_mul,Nat.add_comm (m*q) q,List.take_add,zC,Yj i0 1 q,Nat.one_mul]
def Gn(v:vD C w next b7){u:Nat}{g:Nat->List Value}:∀(a:List (DataW Unit)) (i0 n:Nat) (r:List y×Nat×List (Nat×R)),sP P next u a n=some r->
 ∀c:List (DataW Unit×List MemPlace),((List.range' i0 a.length).mapM λi=>b7 u (g i))=some c->c.map (·.1)=a->lV w (c.flatMap (·.2))->Lays C w n ((List.range' i0 a.length).flatMap g) r/\r.1.length=a.length*P.cellsOf u:=by
 intro a;induction a with
 |nil=>intro i0 n r e c _ _ _;simp[sP]at e;subst e;exact⟨.plain λD Q=>⟨by simp[bd],trivial⟩,Zs⟩|cons d a U=>
  intro i0 n r e c b al m;simp only[sP]at e;split at e
  ·rename_i l ak os I;simp only[cL]at e;obtain⟨f,e⟩:=e;have f:=Zr f;split at e
   ·rename_i O ar X A;simp at e;subst e;obtain⟨h,N,rfl,G,L⟩:=GK b;simp at al;obtain⟨rfl,al⟩:=al;have p:=v _ _ _ _ I _ h.2 (by rw[G]) (m.of (by intro x b;simp;exact .inl b));obtain⟨s,t⟩:=U (i0+1) ak _ A N L al (m.of (by intro x b;simp only[zn,Zv];exact .inr b));refine⟨?_, ?_⟩
    ·simp;exact p.app s
    ·simp only[ZG,ZI,t,Nat.succ_mul];omega
   ·simp at e
  ·simp at e
end
open Go.RowKit (Below)
section
variable{C:ai}{P:Program}{w:World}
def yF{a:Addr}{v:Value}(e:w.cell? a=some v):a.spot=none/\∃bg ty b,w.heap[a.block]? =some (.cells bg ty b)/\bg[a.off]? =some v:=by
 unfold World.cell? at e;split at e
 ·rename_i c ty b T;simp_all
 ·cases e
def yp(a:Addr)(E:Nat):(a.add E).block=a.block:=by unfold Addr.add;split<;>rfl
def Ev(a:Addr)(E:Nat):(a.add E).off=a.off+E:=by unfold Addr.add;split<;>simp_all
def yH{a:Addr}{q:Nat}{g:List Value}{bg:Array Value}{ty:TypeId}{m:Nat×Nat}(T:w.heap[a.block]? =some (.cells bg ty m))(e:w.cells? 0 a q=some g):g=(bg.toList.drop a.off).take q/\g.length=q:=by
 unfold World.cells? at e;obtain⟨c,l⟩:=q1 e;rw[List.length_range]at c;have key:∀E,E<q->bg[a.off+E]? =g[E]? :=by intro E b;have d:g[E]? =some g[E]:=Zb Zo;have:=l E E g[E] (by simp[b]) d;obtain⟨_,qc,p,n,f,i⟩:=yF this;rw[yp,T]at f;cases f;rw[Ev]at i;rw[i,d]
 refine⟨Y5 λE=> ?_,c⟩;by_cases b:E<q
 ·rw[Y9 b, <-key E b];simp
 ·rw[YP Zo,YP Zx]
def A8(l:List y):sa (th l):=λ_ _=>⟨λ_ _ _ e=>(by cases e),λ_ _ _ e=>(by cases e;exact s4)⟩
def TN(l:List (y×y)):sa (.look l):=λ_ _=>⟨λ_ _ _ e=>(by cases e),λ_ _ _ e=>(by cases e)⟩
def Bs{D:bT}{Q:Nat->Prop}{l:List y}{pl:hq}{bg:Array Value}{ty:TypeId}(T:w.heap[pl.bx]? =some (.cells bg ty (0,0)))(b:(bg.toList.drop pl.cm).take l.length=bd D l)(g:cu Q l)(d:0<l.length):f1 C D Q (th l) pl w:=by
 have c:l.length<=bg.size-pl.cm:=by have:=congrArg List.length b;rw[fH]at this;grind
 refine⟨bg,ty,0,0,T,rfl,Zo,λi v a=> ?_⟩;rw[g5]at a;have af:=(Ze.1 a).1;refine⟨?_,pd g a⟩;have:=congrArg (λx:List Value=>x[i]?) b;simp only[Y9 af,zf,Z5,oY,a]at this;grind
def Lays.block{n ak:Nat}{os:List (Nat×R)}{cs:List Value}{l:List y}{M:y}{x:Value}{bQ:R}(pl:hq)(e:Lays C w (n+1) cs (l,ak,os))(A:sa bQ)
 (p:∀D Q,D n=pl->Q n->cs=bd D l->cu Q l->f1 C D Q bQ pl w/\x=aq D M/\bp Q M):Lays C w n [x] ([M],ak,(n,bQ)::os):=by
 obtain⟨aL,bs,f,a3⟩:=e;have aL:n+1<=ak:=aL;refine⟨by simp only;omega, ?_,λb=>if b=n then pl else f b, ?_⟩
 ·intro h c;grind
 ·intro D Q d;have a:=d n (Zg _) (by simp only;omega);simp only[ZK]at a;obtain⟨bS,bU,g⟩:=a3 D Q (λb v i=>by
   have:=d b Zo i;have m:b≠n:=Zo;simp only[Zi m]at this;exact this)
  obtain⟨r,s,t⟩:=p D Q a.1 a.2 bS bU;refine⟨by simp[bd,s],⟨t,trivial⟩, ?_⟩;intro h c;rcases Zq.1 c with rfl|c
  ·simp only[a.1];exact r
  ·exact g h c
def HF{α cz:Type}{f:α->cz}{a m:List cz}(e:a.Perm m):∀l:List α,l.map f=a->∃b:List α,b.Perm l/\b.map f=m:=by
 induction e with
 |nil=>simp_all|cons x _ U=>
  intro l e;cases l with
  |nil=>grind|cons h l=>simp at e;obtain⟨b,c,d⟩:=U l e.2;exact⟨h::b,c.cons h,by simp[e.1,d]⟩
 |swap x h dr=>
  intro l e;cases l with
  |nil=>grind|cons p l=>
   cases l with
   |nil=>grind|cons V l=>obtain⟨rfl,rfl,rfl⟩:=e;exact⟨V::p::l,.swap _ _ _,Zs⟩
 |trans _ _ n r=>intro l e;obtain⟨bG,c,d⟩:=n l e;obtain⟨s,g,i⟩:=r bG d;exact⟨s,g.trans c,i⟩
def insert_perm{a:Type}(x:Lit×DataW a):∀l,(DataW.insert x l).Perm (x::l):=by
 intro l;induction l with
 |nil=>rfl|cons h l U=>
  simp only[DataW.insert];split
  ·simp_all
  ·exact(U.cons h).trans (.swap _ _ _)
def sorted_perm{a:Type}:∀l:List (Lit×DataW a),(l.foldr DataW.insert []).Perm l:=by intro l;induction l with|nil=>simp_all|cons x l U=>exact(insert_perm x _).trans (U.cons x)
def RV{q:Nat}{v:Value}{key:Lit}{c:y}(f:xc P q=true)(e:keyOf P q v=some key)(a:uA key=some c)(D:bT)(Q:Nat->Prop):v=aq D c/\bp Q c:=by
 unfold xc at f;unfold keyOf at e;have u:mapKey P q v=some key:=by grind
 unfold mapKey at u;split at u
 ·simp at u;subst u;simp[uA]at a;subst a;exact⟨rfl,trivial⟩
 ·split at u
  ·rename_i V i n _ g;simp at u;subst u;simp[uA]at a;subst a;exact⟨by rw[g.1];rfl,trivial⟩
  ·cases u
 ·split at u
  ·rename_i s _ _;simp at u;subst u;simp[uA]at a;subst a;refine⟨by simp only[aq];rw[yz], ?_⟩;intro x d;simp at d;obtain⟨b,_,rfl⟩:=d;exact b.toNat_lt
  ·cases u
 ·cases u
def acS{u:Nat}{v:Value}{l:List y}{M:y}{D:bT}{Q:Nat->Prop}(c:v.formed P u=true)(a:AE P u l=some M)(b:v.cells.toList=bd D l)(g:cu Q l):v=aq D M/\bp Q M:=by
 unfold AE at a;unfold Value.formed at c;cases al:P.underlying u with
 |none=>grind|some i=>
  rw[al]at a c;have agg:(∃cs,v=.agg cs)->M=.agg l->v=aq D M/\bp Q M:=by rintro⟨cs,rfl⟩ rfl;refine⟨?_,g⟩;simp only[Value.cells]at b;simp only[aq, <-b]
  have f:v.cells= #[v]->(∃x,l=[x]/\M=x)->v=aq D M/\bp Q M:=by rintro d ⟨x,rfl,rfl⟩;rw[d]at b;simp[bd]at b;exact⟨b,g.1⟩
  cases v<;>cases i<;>simp only at c a<;>first
   |(cases c;done)|(simp at a;exact agg ⟨_,rfl⟩ a.symm)|(
     split at a
     ·simp at a;exact f rfl ⟨_,rfl,a.symm⟩
     ·cases a)
end
open Go.RowKit (Below)
section
variable{C:ai}{P:Program}{w:World}
variable{next:Nat->DataW Unit->Nat->mH}{b7:TypeId->List Value->Option (DataW Unit×List MemPlace)}
def Sf(TY:vD C w next b7){q u:Nat}(d:xc P q=true):∀(c:List (Lit×DataW Unit)) (n:Nat) (r:List (y×y)×Nat×List (Nat×R)),uG P next u c n=some r->
 ∀cX:List (MapEntry×((Lit×DataW Unit)×List MemPlace)),cX.map (·.2.1)=c->(∀aw∈cX,keyOf P q aw.1.key=some aw.2.1.1/\aw.1.val.formed P u=true/\b7 u aw.1.val.cells.toList=some (aw.2.1.2,aw.2.2)/\lV w aw.2.2)->
 n<=r.2.1/\(∀x∈r.2.2,n<=x.1/\x.1<r.2.1/\sa x.2)/\r.1.length=cX.length/\∃f:Nat->hq,∀D Q,(∀b,n<=b->b<r.2.1->D b=f b/\Q b)->
  cX.map (·.1)=(List.zipWith (λ(p:y×y) (aw:MapEntry×((Lit×DataW Unit)×List MemPlace))=>(p.1,p.2,aw.1.born)) r.1 cX).map (dR D)/\(∀p∈r.1,bp Q p.1/\bp Q p.2)/\∀x∈r.2.2,f1 C D Q x.2 (D x.1) w:=by
 intro c;induction c with
 |nil=>intro n r e cX m _;simp[uG]at e;subst e;simp_all|cons a c U=>
  intro n r e cX m O;simp only[uG]at e;split at e
  ·rename_i U7 l ak os TZ U0;split at e
   ·rename_i v U9 ar U8 U1 I;simp at e;subst e;cases cX with
    |nil=>simp at m|cons aw cX=>
     simp at m;obtain⟨U3,U4⟩:=m;obtain⟨L,T6,N,T7⟩:=O aw (Zp ..);rw[U3]at L N;obtain⟨aL,bs,T4,a3⟩:=TY _ _ _ _ U0 _ _ N T7;obtain⟨bb,bn,bk,T5,bH⟩:=U ak _ I cX U4 (λaw U2=>O aw (Zw _ U2));refine⟨ZD aL bb, ?_,by simpa using bk,λb=>if b<ak then T4 b else T5 b, ?_⟩
     ·intro x s;rcases Zv.1 s with V|V
      ·obtain⟨t,A,G⟩:=bs x V;exact⟨t,ZX A bb,G⟩
      ·obtain⟨t,A,G⟩:=bn x V;exact⟨ZD aL t,A,G⟩
     ·intro D Q X;obtain⟨bS,bU,T1⟩:=a3 D Q (λb g i=>by
       have T9:=i;have:=X b g (ZX i bb);simp only[Zu T9]at this;exact this)
      obtain⟨U6,T2,T3⟩:=bH D Q (λb g i=>by
       have T8:=zG.2 g;have:=X b (ZD aL g) i;simp only[Zi T8]at this;exact this)
      obtain⟨a7,bl⟩:=RV d L TZ D Q;obtain⟨T0,U5⟩:=acS T6 U1 bS bU;refine⟨?_, ?_, ?_⟩
      ·simp only[ZH];congr 1;simp only[dR]at a7 T0 ⊢;rw[<-a7, <-T0]
      ·intro p d;rcases Zq.1 d with rfl|d
       ·exact⟨bl,U5⟩
       ·exact T2 p d
      ·intro x s;rcases Zv.1 s with V|V
       ·exact T1 x V
       ·exact T3 x V
   ·simp at e
  ·simp at e
def I2{cX:List (MapEntry×((Lit×DataW Unit)×List MemPlace))}:∀(r:List (y×y)) (cX:List (MapEntry×((Lit×DataW Unit)×List MemPlace))),r.length=cX.length->
 (List.zipWith (λ(p:y×y) (aw:MapEntry×((Lit×DataW Unit)×List MemPlace))=>(p.1,p.2,aw.1.born)) r cX).map (λu=>(u.1,u.2.1))=r:=by
 intro r;induction r with|nil=>simp_all|cons p r U=>intro cX e;cases cX with|nil=>grind|cons aw cX=>simp_all
def SW{α cz:Type}{f g:α->Option cz}:∀{l:List α},(∀x∈l,f x=g x)->l.mapM f=l.mapM g:=by intro l;induction l with|nil=>grind|cons a l U=>grind
def Qh{α cz:Type}{f g:α->List cz}:∀{l:List α},(∀x∈l,f x=g x)->l.flatMap f=l.flatMap g:=by intro l;induction l with|nil=>grind|cons a l U=>grind
end
open Go.RowKit (Below)
section
variable{C:ai}{P:Program}{w:World}
abbrev rd(P:Program)(w:World)(V:Nat):TypeId->List Value->Option (DataW Unit×List MemPlace):=DataW.trod (λ_=>()) P w 0 (λ_=>true) false V
def xo{a:Addr}{q:Nat}(e:0<q):MemPlace.cell a.block a.off∈MemPlace.row a q:=by exact ZB.2 ⟨0,by simp[e],Zs⟩
def Gq:∀(m V:Nat),vD C w (m8 P m) (rd P w V):=by
 intro m;induction m with
 |zero=>intro V t d n r e;simp[m8]at e|succ m U=>
  intro V t d n r e cs b2 I T1;cases V with
  |zero=>simp[rd,DataW.trod]at I|succ V=>
   have T9:=U V;simp only[m8]at e;split at e
   ·
    rename_i b v;simp at e;subst e
    match cs with
    |[]=>simp[rd,DataW.trod,v]at I|_::_::_=>simp[rd,DataW.trod,v]at I|[c]=>cases c<;>simp[rd,DataW.trod,v]at I;obtain⟨rfl,rfl⟩:=I;exact .plain λD Q=>⟨rfl,trivial,trivial⟩
   ·
    rename_i Uq q i v;simp at e;subst e
    match cs with
    |[]=>simp[rd,DataW.trod,v]at I|_::_::_=>simp[rd,DataW.trod,v]at I|[c]=>cases c<;>simp[rd,DataW.trod,v]at I;obtain⟨⟨rfl,_⟩,⟨rfl,rfl⟩,rfl⟩:=I;exact .plain λD Q=>⟨rfl,trivial,trivial⟩
   ·
    rename_i s v;simp at e;subst e
    match cs with
    |[]=>simp[rd,DataW.trod,v]at I|_::_::_=>simp[rd,DataW.trod,v]at I|[c]=>cases c<;>simp[rd,DataW.trod,v]at I;obtain⟨_,rfl,rfl⟩:=I;refine .plain λD Q=>⟨by simp only[bd,aq];rw[yz], ?_,trivial⟩;intro x G;simp at G;obtain⟨b,_,rfl⟩:=G;exact b.toNat_lt
   ·
    rename_i u v;simp at e;subst e
    match cs with
    |[]=>simp[rd,DataW.trod,v]at I|_::_::_=>simp[rd,DataW.trod,v]at I|[c]=>cases c<;>simp[rd,DataW.trod,v]at I;rename_i a;cases a with|none=>exact .plain λD Q=>⟨rfl,trivial,trivial⟩|some a=>simp[Z3]at I
   ·
    rename_i u d v;split at e
    ·rename_i l ak os X;simp only[cL,Zt,Zh]at e;obtain⟨⟨N,O⟩,rfl⟩:=e;have N:=Zr N;have O:=ht O
     match cs with
     |[]=>simp[rd,DataW.trod,v]at I|_::_::_=>simp[rd,DataW.trod,v]at I|[c]=>
      cases c<;>simp[rd,DataW.trod,v]at I;rename_i J;cases J with
      |none=>simp at I|some a=>
       simp only[Z3,Function.comp,Yr,YZ,DataW.ptr.injEq]at I;obtain⟨bY,U1,x,G,rfl,rfl⟩:=I;obtain⟨bg,ty,T⟩:=T1 a.block a.off (Zv.2 (.inl (xo Zo)));obtain⟨U5,Ul⟩:=yH T U1;have T3:a.spot=none:=(by unfold World.cells? at U1;rw[Zu (Nat.zero_le _)]at U1;obtain⟨a7,bl⟩:=q1 U1;have:=bl 0 0 bY[0] (by rw[List.getElem?_range Zo]) (Zb Zo);exact(yF (show w.cell? a=some _ from this)).1);have Ug:=T9 _ _ _ _ X bY x.2 G (T1.of λh L=>Zv.2 (.inr L));refine Lays.block ⟨a.block,a.off,0⟩ Ug (A8 l) λD Q T5 U6 U8 U9=>⟨Bs T ?_ U9 O, ?_,U6⟩
       ·simp only;rw[N, <-U5,U8]
       ·simp only[aq,T5];obtain⟨UN,UO,U3⟩:=a;have T3:U3=none:=T3;subst T3;rfl
    ·simp at e
   ·
    rename_i u v;simp at e;subst e
    match cs with
    |[]=>simp[rd,DataW.trod,v]at I|_::_::_=>simp[rd,DataW.trod,v]at I|[c]=>cases c<;>(try(simp[rd,DataW.trod,v]at I;done));rename_i a len cap;cases a with|none=>simp only[rd,DataW.trod,v]at I;split at I<;>simp_all;exact .plain λD Q=>⟨rfl,trivial,trivial⟩|some a=>simp[rd,DataW.trod,v,Z3]at I
   ·
    rename_i u T8 Ur v;split at e
    ·split at e
     ·rename_i l ak os X;simp only[cL,Zh]at e;obtain⟨O,rfl⟩:=e;have O:=ht O
      match cs with
      |[]=>simp[rd,DataW.trod,v]at I|_::_::_=>simp[rd,DataW.trod,v]at I|[c]=>
       cases c<;>(try(simp[rd,DataW.trod,v]at I;done));rename_i J len cap;cases J with
       |none=>simp only[rd,DataW.trod,v]at I;split at I<;>simp_all|some a=>
        simp only[rd,DataW.trod,v]at I;split at I
        ·rename_i Um;simp only[Z3,Yr,YZ,DataW.slice.injEq,ZK]at I;obtain⟨U4,UI,rest,Ud,⟨UE,UQ⟩,rfl⟩:=I;have Ue:rest=[]:=(by simpa using UQ);subst Ue;obtain⟨a7,_⟩:=q1 Ud;obtain⟨bl,UK⟩:=q1 UI;simp at a7 bl;have UW:cap=len:=Zo;subst UW;have T2:T8.length=cap:=(by rw[<-UE];simp[bl]);simp only[ZU,ZL,ZW]at T1;obtain⟨TY,TZ⟩:=Gn (C:=C) (w:=w) T9 (u:=u) (g:=λi=>(w.cells? 0 (a.add (i*P.cellsOf u)) (P.cellsOf u)).getD []) T8 0 (n+1) _ X U4
          (by
           rw[T2, <-List.range_eq_range'];rw[<-UI];have U7:∀i∈List.range cap,(w.cells? 0 (a.add (i*P.cellsOf u)) (P.cellsOf u)).isSome=true:=(by intro i af;have fy:i<cap:=(by simpa using af);have:=UK i i U4[i] (by simp[fy]) (Zb Zo);simp only[Z3]at this;obtain⟨b1,A,_⟩:=this;rw[A];rfl);exact SW λi af=>by
            have:=U7 i af;cases Uc:w.cells? 0 (a.add (i*P.cellsOf u)) (P.cellsOf u)with
            |none=>rw[Uc]at this;cases this|some b1=>simp)
          UE (T1.of λh L=>Zv.2 (.inr L))
         simp only at TZ;have UB:0<cap*P.cellsOf u:=(by rw[<-T2, <-TZ];exact O);obtain⟨bg,ty,T⟩:=T1 a.block a.off (Zv.2 (.inl (xo (by rw[bl];exact UB))));have Un:0<P.cellsOf u:=Nat.pos_of_mul_pos_left UB;have UV:0<cap:=Nat.pos_of_mul_pos_right UB;have F:∀i,i<cap->∃b1,w.cells? 0 (a.add (i*P.cellsOf u)) (P.cellsOf u)=some b1:=(by intro i fy;have:=UK i i U4[i] (by simp[fy]) (Zb Zo);simp only[Z3]at this;obtain⟨b1,A,_⟩:=this;exact⟨b1,A⟩);have T3:a.spot=none:=(by obtain⟨b1,A⟩:=F 0 UV;have Uo:=(yH (a:=a.add (0*P.cellsOf u)) (by rw[yp];exact T) A).2;unfold World.cells? at A;rw[Zu (Nat.zero_le _)]at A;obtain⟨_,bl⟩:=q1 A;have:=bl 0 0 b1[0] (by rw[List.getElem?_range Zo]) (Zb Zo);have US:(a.add (0*P.cellsOf u)).add 0=a:=(by simp[Addr.add]);rw[US]at this;exact(yF this).1);have UZ:(List.range' 0 T8.length).flatMap (λi=>(w.cells? 0 (a.add (i*P.cellsOf u)) (P.cellsOf u)).getD [])=(bg.toList.drop a.off).take (cap*P.cellsOf u):=(by rw[T2];have:∀i∈List.range' 0 cap,(w.cells? 0 (a.add (i*P.cellsOf u)) (P.cellsOf u)).getD []=((bg.toList.drop a.off).drop (i*P.cellsOf u)).take (P.cellsOf u):=(by intro i af;have fy:i<cap:=(by simpa using af);obtain⟨b1,A⟩:=F i fy;obtain⟨U5,_⟩:=yH (a:=a.add (i*P.cellsOf u)) (by rw[yp];exact T) A;rw[A,Yl,U5,Ev,zC]);rw[Qh this,FM,zF,Ym]);rw[UZ]at TY;refine Lays.block ⟨a.block,a.off,0⟩ TY (A8 l) λD Q T5 U6 U8 U9=>⟨Bs T ?_ U9 O, ?_,U6⟩
         ·simp only;rw[TZ,T2];exact U8
         ·simp only[aq,T5,T2];obtain⟨UN,UO,U3⟩:=a;have T3:U3=none:=T3;subst T3;rfl
        ·simp at I
     ·simp at e
    ·simp at e
   ·
    rename_i fR U0 v;split at e
    ·rename_i l ak os X;simp only[cL,Zh]at e;obtain⟨N,rfl⟩:=e;have N:=Zr N;have UC:rd P w (V+1) t cs=(if cs.length=P.cellsOf t then(fR.toList.mapM λf=>rd P w V f.type ((cs.drop f.offset).take (P.cellsOf f.type))).map λT0=>(.agg (T0.map (·.1)),T0.flatMap (·.2))else none):=(by simp only[rd];rw[DataW.trod_step];unfold DataW.trodStep;rw[v]);rw[UC]at I;split at I;case isFalse=>cases I
     rename_i T2;simp only[Yr,YZ,DataW.agg.injEq]at I;obtain⟨T0,G,al,rfl⟩:=I;have:=Sg (C:=C) (w:=w) T9 (cs:=cs) fR.toList U0 0 n _ X T0 G al T1;simp only[Ym]at this;rw[Zy Zo]at this;exact this
    ·simp at e
   ·
    rename_i q u U0 v;split at e
    ·rename_i l ak os X;simp only[cL,Zh]at e;obtain⟨N,rfl⟩:=e;have N:=Zr N;have UC:rd P w (V+1) t cs=(if cs.length=P.cellsOf t then((List.range q).mapM λi=>rd P w V u ((cs.drop (i*P.cellsOf u)).take (P.cellsOf u))).map λT0=>(.agg (T0.map (·.1)),T0.flatMap (·.2))else none):=(by simp only[rd];rw[DataW.trod_step];unfold DataW.trodStep;rw[v]);rw[UC]at I;split at I;case isFalse=>cases I
     rename_i T2;simp only[Yr,YZ,DataW.agg.injEq]at I;obtain⟨T0,G,al,rfl⟩:=I;have UX:U0.length=q:=(by have:=(q1 G).1;rw[<-al];simpa using this);obtain⟨TY,TZ⟩:=Gn (C:=C) (w:=w) T9 (u:=u) (g:=λi=>(cs.drop (i*P.cellsOf u)).take (P.cellsOf u)) U0 0 n _ X T0 (by rw[UX, <-List.range_eq_range'];exact G) al T1;rw[FM,zF,Ym,Zy (by simp only at TZ;omega)]at TY;exact TY
    ·simp at e
   ·
    rename_i u v;simp at e;subst e
    match cs with
    |[]=>simp[rd,DataW.trod,v]at I|_::_::_=>simp[rd,DataW.trod,v]at I|[c]=>
     cases c<;>simp[rd,DataW.trod,v]at I;all_goals first
      |exact .plain λD Q=>⟨rfl,trivial,trivial⟩|(split at I<;>simp_all)
   ·
    rename_i q u v;simp at e;subst e
    match cs with
    |[]=>simp[rd,DataW.trod,v]at I|_::_::_=>simp[rd,DataW.trod,v]at I|[c]=>
     cases c<;>simp[rd,DataW.trod,v]at I;rename_i b;cases b with
     |none=>exact .plain λD Q=>⟨rfl,trivial,trivial⟩|some b=>
      simp only at I;split at I
      ·split at I
       ·simp only[Z3]at I;obtain⟨T4,_,UF⟩:=I;split at UF<;>simp at UF
       ·cases I
      ·cases I
   ·
    rename_i q u T8 v;simp only[cL]at e;obtain⟨UA,e⟩:=e;split at e
    ·rename_i Uk ak os X;simp at e;subst e
     match cs with
     |[]=>simp[rd,DataW.trod,v]at I|_::_::_=>simp[rd,DataW.trod,v]at I|[c]=>
      cases c<;>(try(simp[rd,DataW.trod,v]at I;done));rename_i b;cases b with
      |none=>simp[rd,DataW.trod,v]at I|some b=>
       simp only[rd,DataW.trod,v]at I;split at I
       ·rename_i T7 bq T;split at I
        ·simp only[Z3]at I;obtain⟨T4,UT,I⟩:=I;split at I
         ·simp only[Zh,YZ,DataW.map.injEq]at I;obtain⟨Uf,rfl⟩:=I;obtain⟨a7,bl⟩:=q1 UT;have Up:T4.length=T7.toList.length:=a7;have UU:(T7.toList.zip T4).map (·.2.1)=T4.map (·.1):=(by have UR:(λx:MapEntry×((Lit×DataW Unit)×List MemPlace)=>x.2.1)=(λh:(Lit×DataW Unit)×List MemPlace=>h.1)∘Prod.snd:=rfl;rw[UR, <-Z2,List.map_snd_zip Zo]);obtain⟨cX,UG,UH⟩:=HF (sorted_perm (T4.map (·.1))).symm (T7.toList.zip T4) UU;rw[Uf]at UH;have U7:∀aw∈cX,keyOf P q aw.1.key=some aw.2.1.1/\aw.1.val.formed P u=true/\rd P w V u aw.1.val.cells.toList=some (aw.2.1.2,aw.2.2)/\lV w aw.2.2:=by
           intro aw Uh;have Ui:=UG.mem_iff.1 Uh;obtain⟨i,af⟩:=Z4.1 Ui;rw[List.getElem?_zip_eq_some]at af;have:=bl i _ _ af.1 af.2;simp only[Z3]at this;obtain⟨key,A,T6⟩:=this;split at T6
           ·rename_i UY;simp only[Yr]at T6;obtain⟨h,UD,UM⟩:=T6;rw[<-UM];refine⟨A,UY,UD,T1.of λp UA=> ?_⟩;refine Zw _ (List.mem_flatMap.2 ⟨aw.2,Zl af.2, ?_⟩);rw[<-UM];exact UA
           ·cases T6
          obtain⟨aL,bs,a0,f,a3⟩:=Sf (C:=C) (w:=w) T9 UA T8 (n+1) _ X cX UH U7;have aL:n+1<=ak:=aL;refine⟨by simp only;omega, ?_,λx=>if x=n then⟨b,0,0⟩else f x, ?_⟩
          ·intro h L;rcases Zq.1 L with rfl|L
           ·exact⟨Zg _,by simp only;omega,TN _⟩
           ·obtain⟨A,T6,UD⟩:=bs h L;exact⟨Zo,T6,UD⟩
          ·intro D Q T5;have U2:=T5 n (Zg _) (by simp only;omega);simp only[ZK]at U2;obtain⟨bS,bU,UP⟩:=a3 D Q (λx N O=>by
            have:=T5 x Zo O;have Ub:x≠n:=Zo;simp only[Zi Ub]at this;exact this)
           refine⟨by simp[bd,aq,U2.1],⟨U2.2,trivial⟩, ?_⟩;intro h L;rcases Zq.1 L with rfl|L
           ·simp only[U2.1];have UJ:(cX.map (·.1)).Perm T7.toList:=(by have:=UG.map (·.1);rwa[List.map_fst_zip Zo]at this);rw[bS]at UJ;obtain⟨gO,UL,Uj⟩:=HF UJ _ rfl;refine⟨T7,bq,gO,T,Uj.symm, ?_, ?_⟩
            ·have:=UL.map (λu=>(u.1,u.2.1));rwa[I2 (cX:=cX) _ cX a0]at this
            ·intro x G;have jW:=UL.mem_iff.1 G;have Ua:(x.1,x.2.1)∈Uk:=(by have:=za (f:=λu:y×y×Nat=>(u.1,u.2.1)) jW;rwa[I2 (cX:=cX) _ cX a0]at this);exact bU _ Ua
           ·exact UP h L
         ·simp at I
        ·simp at I
       ·simp at I
    ·simp at e
   ·simp at e
end
open Go.RowKit (Below)
def hX:List (Nat×R)->B R->B R
 |[],z=>z|(b,J)::l,z=>hX l (z.set b (some J))
section
variable{C:ai}{P:Program}{w:World}
def Bv(b:Nat)(J:R):∀(l:List (Nat×R)) (z:B R),(hX l z).get b=some J->(b,J)∈l\/z.get b=some J:=by
 intro l;induction l with
 |nil=>intro z e;exact .inr e|cons x l U=>
  obtain⟨a,dH⟩:=x;intro z e;rcases U _ e with e|e
  ·grind
  ·rw[B.eX]at e;grind
def IC{nm:String}{g:Nat}{cs:Array Value}(b:P.globalNamed nm=some g)(e:w.var? P nm=some cs):∃ty a,w.heap[g]? =some (.cells cs ty a):=by unfold World.var? at e;grind
def BZ(C:ai)(w:World)(i6 n:Nat)(r:Nat×List (Nat×R)):Prop:=
 n<=r.1/\(∀x∈r.2,(x.1<i6\/n<=x.1)/\(x.1<i6\/x.1<r.1)/\sa x.2)/\
  ∃f:Nat->hq,∀D Q,(∀b,n<=b->b<r.1->D b=f b/\Q b)->(∀g,g<i6->D g=⟨g,0,0⟩/\Q g)->∀x∈r.2,f1 C D Q x.2 (D x.1) w
end
open Go.RowKit (Below)
def nI:List Nat->Bool
 |[]=>true|x::s=>Nat.blt x 256&&nI s
def n2:List Nat->Nat->Nat->Int
 |[],_,_=> .negSucc 0|x::s,c,i=>a8 (Nat.beq x c) (.ofNat i) (n2 s c (i+1))
def oc(bj:Nat)(f:Nat)(args:List y):Option y:=
 a8 (Nat.beq f bj) (match args with
  |[.str s,.int .u8 (.ofNat c)]=>a8 (nI s&&Nat.blt c 256) (some (.int .i64 (n2 s c 0))) none|_=>none) none
section
variable{C:ai}{P:Program}{w:World}
def yq:∀{s:List Nat},nI s=true->∀x∈s,x<256:=by
 intro s;induction s with
 |nil=>grind|cons a s U=>
  intro e x b;simp only[nI,Zt]at e;rcases Zq.1 b with rfl|b
  ·simp_all
  ·grind
def RI:∀(s:List Nat) (c i:Nat),(∀x∈s,x<256)->c<256->n2 s c i=(if Lib.indexByte (s.map UInt8.ofNat) (UInt8.ofNat c)= -1 then -1 else Lib.indexByte (s.map UInt8.ofNat) (UInt8.ofNat c)+i):=by
 intro s;induction s with
 |nil=>intro c i _ _;simp[n2,Lib.indexByte]|cons a s U=>
  intro c i d b;have f:=d a (Zp ..);have af:=U c (i+1) (λx l=>d x (Zw _ l)) b;simp only[n2,ZH,Lib.indexByte,er];by_cases u:a=c
  ·grind
  ·have g:(UInt8.ofNat a==UInt8.ofNat c)=false:=(by rw[beq_eq_false_iff_ne];intro V;have:=congrArg UInt8.toNat V;simp at this;rw[zb f,zb b]at this;exact u this);rw[Zi u,af,g];have qF:=Lib.indexByte_ge (s.map UInt8.ofNat) (UInt8.ofNat c);by_cases V:Lib.indexByte (s.map UInt8.ofNat) (UInt8.ofNat c)= -1
   ·simp[V]
   ·simp only[V];simp;omega
def Hr{bj f:Nat}{args:List y}{v:y}(e:oc bj f args=some v):f=bj/\∃s c,args=[.str s,.int .u8 (.ofNat c)]/\v=.int .i64 (n2 s c 0)/\(∀x∈s,x<256)/\c<256:=by
 unfold oc at e;rw[er]at e;split at e
 ·rename_i u;split at e
  ·rename_i s c;simp only[cL,Zt,Zh]at e;exact⟨u,s,c,rfl,e.2.symm,yq e.1.1,ht e.1.2⟩
  ·grind
 ·grind
def θ{bj:Nat}{fn:Func}(l:P.funcs[bj]? =some fn)(m:(fn.name== "runtime.NumGoroutine")=false)(T:fn.body=none)(d:Extern.findNext fn=none)(g:Extern.find fn=some Extern.BytealgIndexByte.indexByte)
 {f:Nat}{args:List y}{v:y}(e:oc bj f args=some v)(D:bT)(w:World):(callFunc f (bd D args).toArray).run P w=.ok (.value (aq D v)) w:=by
 obtain⟨rfl,s,c,rfl,rfl,p,i⟩:=Hr e;have b:=Lib.run_indexByteString (P:=P) (dz s) (Int.ofNat c) w;have u:Lib.indexByte (dz s).data.toList (Int.ofNat c).toNat.toUInt8=n2 s c 0:=by
  rw[RI s c 0 p i];have:(dz s).data.toList=s.map UInt8.ofNat:=by simp[dz]
  grind
 rw[u]at b;have t:(bd D [.str s,.int .u8 (.ofNat c)]).toArray= #[.string (dz s),.int .u8 (Int.ofNat c)]:=rfl;have n:¬fn.name= "runtime.NumGoroutine":=by simpa using m
 simp only[callFunc];simp[l,n,T,d,g];exact congrArg (λr=>Result.andThen r (λa a6=>Result.ok (Next.value a) a6)) b
end
open Go.RowKit (Below)
mutual
def j5:y->Bool
 | .bool _=>true| .int _ _=>true| .str s=>nI s| .bE=>true| .au=>true| .gs=>true| .nilFunc=>true| .nilIface=>true| .iface _ v=>j5 v| .agg l=>pD l| .tuple l=>pD l|_=>false
def pD:List y->Bool
 |[]=>true|v::l=>j5 v&&pD l
end
mutual
def xd:∀v,j5 v=true->bp (λ_=>False) v
 | .bool _,_=>trivial| .int _ _,_=>trivial| .str s,e=>yq (by simpa[j5]using e)| .bE,_=>trivial| .au,_=>trivial| .gs,_=>trivial| .nilFunc,_=>trivial| .nilIface,_=>trivial| .iface _ v,e=>by have:=xd v (by simpa[j5]using e);simpa[bp]using this| .agg l,e=>u0 l (by simpa[j5]using e)| .tuple l,e=>u0 l (by simpa[j5]using e)| .ptr _ _,e=>by simp[j5]at e| .slice ..,e=>by simp[j5]at e| .cy ..,e=>by simp[j5]at e| .map _,e=>by simp[j5]at e| .func ..,e=>by simp[j5]at e
def u0:∀l,pD l=true->cu (λ_=>False) l
 |[],_=>trivial|v::l,e=>by simp only[pD,Zt]at e;exact⟨xd v e.1,u0 l e.2⟩
end
def HI{v:y}(e:j5 v=true):(∀D a,aq D v=aq a v)/\∀Q,bp Q v:=
 ⟨λ_ _=>jQ (λ_ e=>e.elim) (xd v e),λ_=>iV (λ_ e=>e.elim) v (xd v e)⟩
def Bh{l:List y}(e:pD l=true):(∀D a,bd D l=bd a l)/\∀Q,cu Q l:=
 ⟨λ_ _=>nQ (λ_ e=>e.elim) (u0 l e),λ_=>kw (λ_ e=>e.elim) l (u0 l e)⟩
def HJ{a b:y}(e:xb a b=true):a=b:=by
 unfold xb at e;split at e
 ·simp_all
 ·simp_all
 ·rw[(uT _ _).1 e]
 ·rfl
 ·rfl
 ·rfl
 ·cases e
def aal:∀{a b:List y},rp a b=true->a=b:=by intro a;induction a with|nil=>intro b e;cases b<;>simp[rp]at e;rfl|cons x a U=>intro b e;cases b with|nil=>simp[rp]at e|cons h b=>simp only[rp,Zt]at e;rw[HJ e.1,U e.2]
def yS(x h:y):Bool:=match x,h with
 | .agg a,.agg b=>rp a b|x,h=>xb x h
def O5{a b:y}(e:yS a b=true):a=b:=by
 unfold yS at e;split at e
 ·rw[aal e]
 ·exact HJ e
def ss:List y->List y->Bool
 |[],[]=>true|a::x,b::h=>yS a b&&ss x h|_,_=>false
def O6:∀{a b:List y},ss a b=true->a=b:=by intro a;induction a with|nil=>intro b e;cases b<;>simp[ss]at e;rfl|cons x a U=>intro b e;cases b with|nil=>simp[ss]at e|cons h b=>simp only[ss,Zt]at e;rw[O5 e.1,U e.2]
def m7(f:Nat)(args:List y):List (Nat×List y×y)->Option y
 |[]=>none|(g,a,v)::l=>a8 (Nat.beq f g) (a8 (ss args a) (some v)<|m7 f args l) (m7 f args l)
def Gk{f:Nat}{args:List y}{v:y}:∀{l:List (Nat×List y×y)},m7 f args l=some v->(f,args,v)∈l:=by
 intro l;induction l with
 |nil=>intro e;simp[m7]at e|cons x l U=>
  intro e;simp only[m7]at e;rw[c3]at e;split at e
  ·rename_i V;rw[c3]at e;split at e
   ·rename_i a;simp at e;subst e;rw[Zr V,O6 a];grind
   ·grind
  ·grind
def j3(J:Nat->List y->Option y)(l:List (Nat×List y×y))(f:Nat)(args:List y):Option y:=
 match m7 f args l with|some v=>some v|none=>J f args
def u7:List (Nat×List y×y)->Bool
 |[]=>true|x::l=>(pD x.2.1&&j5 x.2.2)&&u7 l
def Ij:∀{l:List (Nat×List y×y)},u7 l=true->∀x∈l,pD x.2.1=true/\j5 x.2.2=true:=by intro l;induction l with|nil=>grind|cons a l U=>intro e x b;simp only[u7,Zt]at e;grind
section
variable{P:Program}{w:World}
def Ps{U:ey}{C:ai}{f:Nat}{args:List y}{b:Bool}{cs:List d3}{j:B R}{k:Nat}{v:y}(e:iB U C f args b cs j k=some v):∃fn c,C.P.funcs[f]? =some fn/\fn.body=some c:=by unfold iB at e;grind
def Ht{G:B R}{aD i6:Nat}{J:Nat->List y->Option y}{cn:bT}{co:Nat->Prop}{l:List (Nat×List y×y)}(b:Env ⟨P,G,aD,J,i6⟩ w cn co)(t:u7 l=true)
 (A:∀x∈l,∃m,oj ⟨P,G,aD,J,i6⟩ m x.1 x.2.1=some x.2.2):ya ⟨P,G,aD,j3 J l,i6⟩ w:=by
 refine⟨λf args v a=> ?_,λf args v a D T0 T=> ?_⟩
 ·have a:j3 J l f args=some v:=a;unfold j3 at a;split at a
  ·rename_i M i;simp at a;subst a;obtain⟨d,g⟩:=Ij t _ (Gk i);exact⟨HI g,Bh d⟩
  ·exact b.ez.val f args v a
 ·have a:j3 J l f args=some v:=a;unfold j3 at a;split at a
  ·rename_i M i;simp at a;subst a;have r:=Gk i;obtain⟨d,g⟩:=Ij t _ r;obtain⟨m,s⟩:=A _ r;obtain⟨fn,c,p,n⟩:=Ps s;right;have X:fn.name≠ "runtime.NumGoroutine":=(by simpa using b.f8.num f fn p (by simp[n]));refine⟨?_, ?_⟩
   ·have O:=p;simp[callFunc,O,X,n]
   ·have N:=b.later T;have:=abf N (args:=args) ((Bh d).2 co) s;rw[(Bh d).1 D cn];exact this.mono λu a6 ⟨⟨T1,L⟩,C⟩=>⟨by rw[L,(HI g).1 T1 D],C⟩
  ·exact b.ez.ok f args v a D T0 T
end
end
end Go.aC
