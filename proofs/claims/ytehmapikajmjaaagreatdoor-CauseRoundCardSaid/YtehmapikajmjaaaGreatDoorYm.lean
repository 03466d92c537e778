/- Part of the proof of the last text; no conditions -/
import Derived.Test.YtehmapikajmjaaaGreatDoorYl
set_option maxHeartbeats 8000000
set_option linter.all false
namespace Go.Proofs.YtehmapikajmjaaaGreatDoor
open Go.aF Go.ak
noncomputable section
def qS(t:aA->Option cB)(Q:aA->Option Int)(f:Int×Int)(w:aA)(a:Int):Int×Int:=match t w with
 |none=>g8 f 23 a|some v=>if v.kind=1\/1<(Q w).getD 0+1 then g8 f 24 a else f
def iy(Q:aA->Option Int)(w:aA):Option z:=(Q w).map λk=> .Z k
section
variable{X:bi}{q D au am:E S}{u Z ap aw:Nat}
def Sn(r:bZ X){P:Nat->Prop}{c b:Nat}{p bI:z}{k:Int}{t:aA->Option cB}{Q:aA->Option Int}{f:Int×Int}(UB:(y X).aB<=u)(T4:(y X).aB<=c)(U9:(y X).aB<=b)(U8:c<u)(UA:b<u)(U7:c≠b)
 (T2:dE X q c p k bI (.map b) f)(UC:jQ X q P bI t)(aV:∀o,P o->o<u/\o≠c/\o≠b)(U3:h2 X q b (iy Q))(w:aA)(a:Int)(W:0<=(Q w).getD 0/\(Q w).getD 0<4000000000000000000):
 aD X 92 [.ptr c 0,.str w,.Z a] q u (λR D Z=>R=.tuple []/\dE X D c p k bI (.map b) (qS t Q f w a)/\h2 X D b (iy λx=>if x=w then some ((Q w).getD 0+1)else Q x)/\u<=Z/\∀o,o<u->o≠c->o≠b->H X D o=H X q o) zX:=by
 refine Fd r (Nb ..) ?_;unfold Er;have UG:ay X q (.ptr c 2)=some bI:=by unfold dE at T2;rw[a8 T2];rfl
 refine bo @UG ⟨?_⟩;refine(sF r UB UC (λo T0=>(aV o T0).1) w).Zm ?_;rintro R au ap ⟨rfl,L⟩;have UH:=L.le;have U6:dE X au c p k bI (.map b) f:=by unfold dE;rw[L.M c U8];exact T2
 have U4:=U3.M (L.M b UA);generalize U0:(t w).getD lV=v;have UE:ik v=[.Z v.kind,.str v.d.name,.Z v.d.at_,.bool v.d.ty.b,.bool v.d.ty.s,.Z v.d.ty.w,.str v.d.on,.Z v.d.cC,.bool v.d.no,.Z v.eq,.Z v.left]:=rfl;rw[UE];refine eN ⟨?_⟩;refine eN ⟨?_⟩;refine k0 ?_;refine eN ⟨?_⟩;generalize N:aH X _ ap _=am;have T7:H X am ap=zP [.Z v.kind,.str v.d.name,.Z v.d.at_,.bool v.d.ty.b,.bool v.d.ty.s,.Z v.d.ty.w,.str v.d.on,.Z v.d.cC,.bool v.d.no,.Z v.eq,.Z v.left] 11:=by rw[<-N,aM Zo];rfl
 have U5:aU X q u am (ap+1):=⟨Zo,λo T0=>by rw[<-N];simp(disch:=omega) only[ah];exact L.M o T0⟩;have dB:∀o,o<ap->H X am o=H X au o:=λo T0=>by rw[<-N];exact zR
 clear N;have T3:dE X am c p k bI (.map b) f:=by unfold dE;rw[dB c Zo];exact U6
 have T8:=U4.M (dB b Zo);have C:ay X am (.ptr c 3)=some (.map b):=by unfold dE at T3;rw[a8 T3];rfl
 have A:fb X am 9 (.Z 0) (.map b) (.str w) false=some (.Z ((Q w).getD 0)):=by rw[pn T8];unfold iy;cases Q w<;>rfl
 have U2:aK .add (.Z ((Q w).getD 0)) (.Z 1)=some (.Z ((Q w).getD 0+1)):=cp Zo Zo;refine cg @C @A @U2 ⟨?_⟩;obtain⟨i,TZ,T9,T5⟩:=uU (u:=ap+1) U9 T8 w (.Z ((Q w).getD 0+1));refine d8 TZ ?_;have m:dE X i c p k bI (.map b) f:=by unfold dE;rw[T5 c U7];exact T3
 rw[<-T5 ap Zo]at T7;have n:h2 X i b (iy λx=>if x=w then some ((Q w).getD 0+1)else Q x):=by
  have:(λx=>if x=w then some (z.Z ((Q w).getD 0+1))else iy Q x)=(iy λx=>if x=w then some ((Q w).getD 0+1)else Q x):=by funext x;unfold iy;by_cases h:x=w<;>simp[h]
  rw[<-this];exact T9
 have O:∀o,o<u->o≠b->H X i o=H X q o:=λo e g=>by rw[T5 o g];exact U5.M o e
 clear A TZ T9 C;unfold qS;cases UD:t w with
 |none=>simp only[Z3,YK];refine bx ⟨?_⟩;refine(mS (u:=ap+1) (q:=i) r T4 m 23 a).Zm ?_;rintro R T6 U1 ⟨rfl,s,TY,j⟩;refine bx ⟨?_⟩;exact⟨by first|trivial|rfl,s,n.M (j b Zo),Zo,λo e g l=>by rw[j o g];exact O o e l⟩
 |some G=>
  have UF:G=v:=by rw[UD]at U0;exact U0
  subst UF;simp only[Z4,YN];have dk:ay X i (.ptr ap 0)=some (.Z G.kind):=by rw[a8 T7];rfl
  have C:ay X i (.ptr c 3)=some (.map b):=by unfold dE at m;rw[a8 m];rfl
  have A:fb X i 9 (.Z 0) (.map b) (.str w) false=some (.Z ((Q w).getD 0+1)):=by rw[pn n];unfold iy;simp
  by_cases e:G.kind=1
  ·have d:decide (G.kind=1)=true:=(by simp[e]);refine bE @dk @d ⟨?_⟩;refine(mS (u:=ap+1) (q:=i) r T4 m 24 a).Zm ?_;rintro R T6 U1 ⟨rfl,s,TY,j⟩;refine bx ⟨?_⟩;exact⟨by first|trivial|rfl,by simp only[e,true_or,ZL];exact s,n.M (j b Zo),Zo,λo e g l=>by rw[j o g];exact O o e l⟩
  ·have d:decide (G.kind=1)=false:=by simp[e]
   by_cases g:1<(Q w).getD 0+1
   ·have T1:decide (1<(Q w).getD 0+1)=true:=(by simp only[Zf];exact g);refine dA @dk @d @C @A @T1 ⟨?_⟩;refine(mS (u:=ap+1) (q:=i) r T4 m 24 a).Zm ?_;rintro R T6 U1 ⟨rfl,s,TY,j⟩;refine bx ⟨?_⟩;exact⟨by first|trivial|rfl,by simp only[e,g,or_true,ZL];exact s,n.M (j b Zo),Zo,λo e g l=>by rw[j o g];exact O o e l⟩
   ·have T1:decide (1<(Q w).getD 0+1)=false:=by simp only[Zc];exact g
    refine dA @dk @d @C @A @T1 ⟨?_⟩;exact⟨by first|trivial|rfl,by simp only[e,g,Yy,ZJ];exact m,n,Zo,λo e g l=>O o e l⟩
def lq(t:aA->Option cB)(f:Int×Int)(e:aX):Int×Int:=if lQ e then(if (t e.name).isSome then f else g8 f 23 e.at_)else f
def pE(Y:List GT)(k:Nat)(f:Int×Int)(e:aX):Int×Int:=if e.kind=25 then(match jr Y e.name with
 |none=>g8 f 23 e.at_|some j=>if k<=j then g8 f 25 e.at_ else f)else f
def lp(t:aA->Option cB)(Y:List GT)(k:Nat)(f:Int×Int)(e:aX):(Int×Int)×Bool:=(pE Y k (lq t f e) e,true)
structure sf(X:bi)(dT:E S)(aB a:Nat)(p:z)(k:Nat)(bI b:z)(f:Int×Int)(q:E S)(u:Nat):Prop where
 le:aB<=u
 fY:dE X q a p k bI b f
 low:∀o,o<aB->o≠a->H X q o=H X dT o
variable{dT:E S}
def aa7(G:bZ X){P:Nat->Prop}{dp c l:Nat}{p bI T0:z}{k:Nat}{t:aA->Option cB}{Y:List GT}(US:(y X).aB<=dp)(T9:(y X).aB<=c)(UP:c<dp)(T6:l<dp)(T5:l≠c)(UJ:ay X dT (.ptr l 0)=some (.ptr c 0))
 (aV:∀o,P o->o<dp/\o≠c)(UL:jQ X dT P bI t)(UH:iP X dT P Y p){f:Int×Int}(x:sf X dT dp c p k bI T0 f q u){e:aX}{v:z}(T3:bF X q P e v):
 aD X 123 [v,.ptr l 0] q u (λR D Z=>R=.zV/\sf X dT dp c p k bI T0 (lp t Y k f e).1 D Z) zX:=by
 refine Fd G (JV ..) ?_;unfold CG;refine(Te G T3).Zm ?_;rintro R au ap ⟨rfl,rfl,UQ⟩;have UT:=x.le;have T4:∀q,H X q l=H X dT l->ay X q (.ptr l 0)=some (.ptr c 0):=λq h=>zW h UJ;refine eO (λU3 D UO=>U3.g 0=some v/\U3.g 1=some (.ptr l 0)/\sf X dT dp c p k bI T0 (lq t f e) D UO/\bF X D P e v) (λj i=> ?_) ?_
 ·obtain⟨b,_,_,_,rfl,W,a0,aL,bt,_⟩:=id T3.open;unfold lq at i;cases UD:lQ e with|false=>rw[UD]at i;simp only[ZA,ZJ]at i;refine bx ⟨?_⟩;exact i _ _ _ ⟨aC,aC,⟨Zo,x.fY,x.low⟩,T3⟩|true=>rw[UD]at i;simp only[ZL]at i;have TZ:=T4 au (x.low l T6 T5);have UN:ay X au (.ptr c 2)=some bI:=(by have:=x.fY;unfold dE at this;rw[a8 this];rfl);refine cg @TZ @UN @bt ⟨?_⟩;refine c7 (λam=>H X am (ap+12)=zP [.Z 0,.str [],.Z 0,.zT,.zT,.Z 0,.str [],.Z 0,.zT,.Z 0,.Z 0] 11/\aU X au ap am (ap+12+1)) ⟨by rw[aM Zo];rfl,Zo,λo a=>zR⟩ ?_;rintro am ⟨U5,U7⟩;have bl:∀o,o<dp->H X am o=H X au o:=λo a=>U7.M o Zo;refine(sF (u:=ap+15) (q:=am) G Zo (UL.M (aI:=P) (λo a=>by rw[bl o (aV o a).1];exact x.low o (aV o a).1 (aV o a).2) (λ_ h=>h)) (λo a=>zL (aV o a).1) e.name).Zm ?_;rintro R r U1 ⟨rfl,w⟩;have UI:=w.le;have U6:H X r (ap+12)=zP [.Z 0,.str [],.Z 0,.zT,.zT,.Z 0,.str [],.Z 0,.zT,.Z 0,.Z 0] 11:=(by rw[w.M _ Zo];exact U5);generalize UU:(t e.name).getD lV=m;have UM:ik m=[.Z m.kind,.str m.d.name,.Z m.d.at_,.bool m.d.ty.b,.bool m.d.ty.s,.Z m.d.ty.w,.str m.d.on,.Z m.d.cC,.bool m.d.no,.Z m.eq,.Z m.left]:=rfl;rw[UM];refine eN ⟨?_⟩;refine eN ⟨?_⟩;refine dg (eS (k:=11) (b:=ap+12) (I:=0) (n:=11) U6 Zo rfl Zd Zd rfl) ?_;generalize U8:aH X r (ap+12) _=L;have T7:∀o,o<ap->H X L o=H X au o:=λo a=>(by rw[<-U8,ah Zo Zo,w.M o Zo,U7.M o a]);clear U8 U5 U6;have T2:sf X dT dp c p k bI T0 f L U1:=⟨Zo,by have:=x.fY;unfold dE at*;rw[T7 c Zo];exact this,λo s g=>by rw[T7 o Zo];exact x.low o s g⟩;have U9:bF X L P e (.ptr b 0):=bF.M (λo a=>T7 o (zL (aV o a).1)) _ _ T3;have UK:=T4 L (T2.low l T6 T5);have UF:ay X L (.ptr b 1)=some (.Z e.at_):=zW (T7 b (zL (aV b W).1)) aL;cases UA:(t e.name).isSome with|true=>rw[UA]at i;simp only[ZL]at i;refine bx ⟨?_⟩;exact i _ _ _ ⟨aC,aC,T2,U9⟩|false=>rw[UA]at i;simp only[ZA,ZJ]at i;refine bE @UK @UF ⟨?_⟩;refine(mS (q:=L) G T9 T2.fY 23 e.at_).Zm ?_;rintro R U2 UE ⟨rfl,T1,UC,O⟩;refine bx ⟨?_⟩;exact i _ _ _ ⟨aC,aC,⟨Zo,T1,λo s g=>by rw[O o g];exact T2.low o s g⟩,bF.M (λo a=>O o (aV o a).2) _ _ U9⟩
 ·rintro B am aw ⟨t0,t1,A,UG⟩;obtain⟨b,_,_,_,rfl,W,a0,aL,bt,_⟩:=id UG.open;have UR:=A.le;show bu _ _;by_cases N:e.kind=25
  ·have d:decide (e.kind=25)=true:=(by simp[N]);have TZ:=T4 am (A.low l T6 T5);have dk:ay X am (.ptr c 0)=some p:=(by have:=A.fY;unfold dE at this;rw[a8 this];rfl);refine cu @t0 @t1 @a0 @d @TZ @dk @bt ⟨?_⟩;refine(Am (u:=aw+14) (q:=am) G Zo (UH.M (aI:=P) (λo a=>A.low o (aV o a).1 (aV o a).2) (λ_ h=>h)) (λo a=>zL (aV o a).1) e.name).Zm ?_;rintro R r U1 ⟨rfl,w⟩;have UI:=w.le;have C:sf X dT dp c p k bI T0 (lq t f e) r U1:=⟨Zo,by have:=A.fY;unfold dE at*;rw[w.M c Zo];exact this,λo s g=>by rw[w.M o Zo];exact A.low o s g⟩;have U0:=T4 r (C.low l T6 T5);have U4:ay X r (.ptr b 1)=some (.Z e.at_):=zW (w.M b (zL (aV b W).1)) aL;have bw:ay X r (.ptr c 1)=some (.Z k):=(by have:=C.fY;unfold dE at this;rw[a8 this];rfl);cases TY:jr Y e.name with
   |none=>have K:(lp t Y k f e).1=g8 (lq t f e) 23 e.at_:=(by simp[lp,pE,N,TY]);rw[K];simp only[Z3];refine df @t0 @t1 @U0 @U4 ⟨?_⟩;refine(mS (q:=r) G T9 C.fY 23 e.at_).Zm ?_;rintro R U2 UE ⟨rfl,T1,UC,O⟩;refine bx ⟨?_⟩;exact⟨by first|trivial|rfl,Zo,T1,λo s g=>by rw[O o g];exact C.low o s g⟩
   |some j=>
    simp only[Z4,YF];by_cases UB:k<=j
    ·have T8:decide ((k:Int)<=(j:Int))=true:=z1;have K:(lp t Y k f e).1=g8 (lq t f e) 25 e.at_:=(by simp[lp,pE,N,TY,UB]);rw[K];refine eg @t0 @t1 @U0 @U4 @bw @T8 ⟨?_⟩;refine(mS (q:=r) G T9 C.fY 25 e.at_).Zm ?_;rintro R U2 UE ⟨rfl,T1,UC,O⟩;refine bx ⟨?_⟩;exact⟨by first|trivial|rfl,Zo,T1,λo s g=>by rw[O o g];exact C.low o s g⟩
    ·have T8:decide ((k:Int)<=(j:Int))=false:=z2;have K:(lp t Y k f e).1=lq t f e:=by simp[lp,pE,N,TY,UB]
     rw[K];refine dA @t0 @t1 @U0 @bw @T8 ⟨?_⟩;exact⟨by first|trivial|rfl,C⟩
  ·have d:decide (e.kind=25)=false:=(by simp[N]);have K:(lp t Y k f e).1=lq t f e:=(by simp[lp,pE,N]);rw[K];refine cg @t0 @a0 @d ⟨?_⟩;exact⟨by first|trivial|rfl,A⟩
def u7(t:aA->Option cB)(Y:List GT)(k:Nat)(f:Int×Int)(e:aX):Int×Int:=np (lp t Y k) f e
def aa9(i:bZ X){P:Nat->Prop}{a:Nat}{p bI d:z}{k:Nat}{t:aA->Option cB}{Y:List GT}(N:(y X).aB<=u)(x:(y X).aB<=a)(A:a<u)
 (aV:∀o,P o->o<u/\o≠a)(T0:jQ X q P bI t)(L:iP X q P Y p){f:Int×Int}(w:dE X q a p k bI d f){e:aX}{v:z}(C:bF X q P e v):
 aD X 93 [.ptr a 0,v] q u (λR D Z=>R=.tuple []/\dE X D a p k bI d (u7 t Y k f e)/\u<=Z/\∀o,o<u->o≠a->H X D o=H X q o) zX:=by
 refine Fd i (Nd ..) ?_;unfold Es;refine bx ⟨?_⟩;refine c7 (λau=>H X au u=zP [.ptr a 0] 1/\aU X q u au (u+1)) ⟨aM N,cf⟩ ?_;rintro au ⟨m,g⟩;have j:∀o,P o->H X au o=H X q o:=λo c=>g.M o (aV o c).1;have O:ay X au (.ptr u 0)=some (.ptr a 0):=by rw[a8 m];rfl
 refine(ac9 i (lp t Y k) P (sf X au (u+1) a p k bI d) 123 [] [.ptr u 0] (λs e v am aw l G=> ?_) (SizeOf.sizeOf e+1) e Zo f v au (u+1) ⟨Zg _,by unfold dE at*;rw[g.M a A];exact w,λ_ _ _=>rfl⟩ (bF.M j _ _ C)).Zm ?_
 ·refine(aa7 i Zo x Zo Zo Zo O (λo c=>⟨zL (aV o c).1,(aV o c).2⟩) (T0.M (aI:=P) j (λ_ h=>h)) (L.M (aI:=P) j (λ_ h=>h)) l G).Zm ?_;rintro R T1 T2 ⟨rfl,b⟩;exact⟨rfl,b,λo c=>by have:=aV o c;rw[b.low o Zo this.2,l.low o Zo this.2]⟩
 ·rintro R am aw ⟨rfl,b,_⟩;refine bx ⟨?_⟩;have:=b.le;exact⟨by first|trivial|rfl,b.fY,Zo,λo n r=>by rw[b.low o Zo r,g.M o n]⟩
def c3(g:GT):List (Int×cG):=(g.cm.map λd=>(1,d))++((g.out.map λd=>(2,d))++(g.loc.map λd=>(3,d)))
def e3(g:GT):Nat->List cG
 |0=>g.cm|1=>g.out|_=>g.loc
def jA(g:GT):Nat->Nat
 |0=>0|1=>g.cm.length|2=>g.cm.length+g.out.length|_=>g.cm.length+g.out.length+g.loc.length
def Hr(g:GT){k:Nat}(a:k<3):jA g (k+1)=jA g k+(e3 g k).length:=by
 match k,a with
 |0,_=>simp[jA,e3]|1,_=>rfl|2,_=>rfl
def wi(g:GT):(c3 g).length=jA g 3:=by simp[c3,jA];omega
def FC(g:GT){k:Nat}(b:k<3){j:Nat}{d:cG}(h:(e3 g k)[j]? =some d):(c3 g)[jA g k+j]? =some (1+(k:Int),d):=by
 match k,b,h with
 |0,_,h=>have a:=(Ze.1 h).1;simp only[e3]at h a;simp only[c3,jA,ZK];rw[ZQ (by simpa using a),Zt,h];rfl|1,_,h=>have a:=(Ze.1 h).1;simp only[e3]at h a;simp only[c3,jA];rw[ZW Zs,Zj,Nat.add_sub_cancel_left,ZQ (by simpa using a),Zt,h];rfl|2,_,h=>simp only[e3]at h;simp only[c3,jA];rw[ZW Zx,Zj,ZW Zx,Zj,show g.cm.length+g.out.length+j-g.cm.length-g.out.length=j by omega,Zt,h];rfl
def RC{C:al}{l:Nat}{a m b:List z}{T ab:aY}(h:mI C l (a++m) q u T ab):e9 C (.func (.yield l) a b) m q u T ab:=⟨h⟩
def Pr(U5:bZ X){P:Nat->Prop}{g:GT}{f l bc bp bG:Nat}{bK bO aE:z}(a:Nat->E S->Nat->Prop)
 (O:cl X dT P bc bK 8 (g.cm.map cQ))(T0:cl X dT P bp bO 8 (g.out.map cQ))(n:cl X dT P bG aE 8 (g.loc.map cQ))
 (bt:ay X q (.ptr f 2)=some bK)(a3:ay X q (.ptr f 3)=some bO)(a4:ay X q (.ptr f 4)=some aE)
 (U3:∀i q u,a i q u->(y X).aB<=u/\∀o,P o->H X q o=H X dT o)
 (U4:∀i q u D Z,a i q u->aU X q u D Z->a i D Z)
 (K:∀i k d q u,(c3 g)[i]? =some (k,d)->a i q u->mI X l [.Z k,.agg (cQ d)] q u (λR D Z=>R=.zV/\a (i+1) D Z) zX)
 (U0:a 0 q u):aD X 46 [.func (.yield l) [] [],.ptr f 0] q u (λ_ D Z=>a (c3 g).length D Z) zX:=by
 refine Fd U5 (L7 ..) ?_;unfold DM;have UE:∀k,k<3->∃s b,[bK,bO,aE][k]? =some s/\cl X dT P b s 8 ((e3 g k).map cQ):=by
  intro k T2
  match k,T2 with
  |0,_=>exact⟨bK,bc,rfl,O⟩|1,_=>exact⟨bO,bp,rfl,T0⟩|2,_=>exact⟨aE,bG,rfl,n⟩
 have T7:=(fu O.len).1;have T9:=(fu T0.len).1;have T8:=(fu n.len).1;have U7:dl [.ax,.ax,.ax] [(0,1,bK),(1,1,bO),(2,1,aE)]=some (.agg [bK,bO,aE]):=by simp[dl,k4,lL,ih,T7,T9,T8]
 refine cg @bt @a3 @a4 ⟨?_⟩;refine dg U7 ?_;refine bx ⟨?_⟩;refine cM (λm B D C=>∃(k:Nat),B.g 0=some (.func (.yield l) [] [])/\B.g 13=some (.agg [bK,bO,aE])/\B.g 14=some (.Z k)/\k+m=3/\a (jA g k) D C)
  3 ⟨0,aC,aC,cT,Zo,U0⟩ ?_
 rintro m B am aw ⟨k,t0,e,c,T2,T1⟩;cases m with
 |zero=>
  have d:decide ((k:Int)<3)=false:=z2;refine bE @c @d ⟨?_⟩;rw[wi]
  have:k=3:=Zo
  subst this;exact T1
 |succ m=>
  have d:decide ((k:Int)<3)=true:=z1;obtain⟨s,b,UD,p⟩:=UE k Zo;have U9:ky false 3 1 (.agg [bK,bO,aE]) (.Z k)=some s:=by have n:Nat.blt k 3=true:=(by simp[Nat.blt];omega);simp only[ky,hV,n,cI,ga,jz,ZF];exact UD
  have T3:=p.len;have UB:=p.many;rw[Zj]at T3 UB;refine dA @c @e @d @U9 @T3 ⟨?_⟩;refine cM (λm B D C=>∃(j:Nat),B.g 0=some (.func (.yield l) [] [])/\B.g 13=some (.agg [bK,bO,aE])/\B.g 14=some (.Z k)/\B.g 3=some (.Z k)/\B.g 18=some s/\B.g 19=some (.Z ((e3 g k).length:Int))/\B.g 20=some (.Z j)/\j+m=(e3 g k).length/\a (jA g k+j) D C)
   (e3 g k).length ⟨0,af t0,af e,af c,aC,aC,aC,cT,Zo,T1⟩ ?_
  rintro A UG T6 t ⟨j,t0,e,c,t3,T5,G,L,UH,w⟩;cases A with
  |zero=>
   have d:=zM j (e3 g k).length;have v:=zQ k;refine dA @L @G @c @d @v ⟨?_⟩;refine⟨m,Zo,k+1,af t0,af e,aC,Zo, ?_⟩;rw[Hr g Zo]
   have:j=(e3 g k).length:=Zo
   rw[<-this];exact w
  |succ A=>have d:=zN j (e3 g k).length;have v:=zQ j;have TY:aK .add (.Z 1) (.Z k)=some (.Z (1+(k:Int))):=cp Zo Zo;obtain⟨ar,ai⟩:=zO (e3 g k) j;obtain⟨UC,U6⟩:=U3 _ _ _ w;have UA:=p.c4 j (by rw[Zj];omega);have T4:=(p.M U6).row (i:=j) (r:=cQ ar) Zd (by rw[Zt,ai];rfl);have U8:cQ ar=[.str ar.name,.Z ar.at_,.bool ar.ty.b,.bool ar.ty.s,.Z ar.ty.w,.str ar.on,.Z ar.cC,.bool ar.no]:=rfl;rw[U8]at T4;refine eg @L @G @T5 @d @UA @T4 ⟨?_⟩;generalize x:aH X _ t _=N;have TZ:H X N t=zP [.str ar.name,.Z ar.at_,.bool ar.ty.b,.bool ar.ty.s,.Z ar.ty.w,.str ar.on,.Z ar.cC,.bool ar.no] 8:=(by rw[<-x,aM UC];rfl);have U1:aU X T6 t N (t+1):=⟨Zo,λo UI=>by rw[<-x];exact zR⟩;clear x;refine df @t0 @t3 @TY (a8 TZ) ⟨?_⟩;refine RC ((K _ _ _ _ _ (FC g Zo ai) (U4 _ _ _ _ _ w U1)).mono ?_ (λ_ _ _ h=>False.elim h));rintro R UF UJ ⟨rfl,U2⟩;refine bE @L @v ⟨?_⟩;exact⟨A,Zo,j+1,af t0,af e,af c,af t3,af T5,af G,aC,Zo,U2⟩
def wk(O:bZ X){P:Nat->Prop}{g:GT}{n v w f bc bp bG:Nat}{bK bO aE:z}{A aO:vC}{T:ds}{e:Nat->ds}{r:ds}{ab:kY}{B:bS}(b:Nat->E S->Nat->Prop)
 (T0:(y X).aB<=u)(U3:v<n)(U4:w<n)(x:f<u)
 (T8:cl X q P bc bK 8 (g.cm.map cQ))(T9:cl X q P bp bO 8 (g.out.map cQ))(TY:cl X q P bG aE 8 (g.loc.map cQ))
 (bt:ay X q (.ptr f 2)=some bK)(a3:ay X q (.ptr f 3)=some bO)(a4:ay X q (.ptr f 4)=some aE)
 (p:∀i D a,b i D a->u+2<=a/\∀o,P o->H X D o=H X q o)
 (N:∀i au ap am aw,b i au ap->ap<=aw->(∀o,o<ap->o≠u+1->H X am o=H X au o)->b i am aw)
 (T7:∀D,aU X q u D (u+2)->b 0 D (u+2))
 (U1:∀mk i k d au ap,(c3 g)[i]? =some (k,d)->b i au ap->H X au u=some (.deferred (some []))->H X au (u+1)=some (mk .ready none)->
  lo X A aO (u+1) mk (λR D a=>R=.zV/\b (i+1) D a/\H X D u=some (.deferred (some []))/\H X D (u+1)=some (mk .ready none)) zX (J (J B v (.Z k)) w (.agg (cQ d))) au ap)
 (TZ:∀D a,b (c3 g).length D a->H X D u=some (.deferred (some []))->T (nY B u) D a):
 rs X n (.func (.func 46) [] [.ptr f 0]) [v,w] (lo X A aO) T e r ab B q u:=by
 refine⟨T0, ?_⟩;intro mk U0;refine E8 (O.none _ _ rfl) ?_;generalize t:aH X (aH X q u _) (u+1) _=au;have gr:H X au u=some (.deferred (some [])):=by rw[<-t,ah Zo Zo,aM T0]
 have T5:H X au (u+1)=some (mk .ready none):=by rw[<-t,aM Zo]
 have m:aU X q u au (u+2):=⟨Zo,λo c=>by rw[<-t];exact zR⟩;clear t;have G:=T7 au m;obtain⟨_,s⟩:=p _ _ _ G;refine(Pr (l:=u+1) O (λi D a=>b i D a/\H X D u=some (.deferred (some []))/\H X D (u+1)=some (mk .ready none)) (T8.M s) (T9.M s) (TY.M s)
  (by rw[m.dn _ _ x];exact bt) (by rw[m.dn _ _ x];exact a3) (by rw[m.dn _ _ x];exact a4)
  (λi D a h=> ?_) (λi au ap am aw h j=> ?_) (λi k d au ap ag h=> ?_) ⟨G,gr,T5⟩).Zm ?_
 ·obtain⟨T1,C⟩:=p _ _ _ h.1;exact⟨Zo,λo c=>by rw[C o c,s o c]⟩
 ·obtain⟨T1,C⟩:=p _ _ _ h.1;exact⟨N _ _ _ _ _ h.1 j.le (λo c _=>j.M o c),by rw[j.M _ Zo];exact h.2.1,by rw[j.M _ Zo];exact h.2.2⟩
 ·refine U0 _ _ _ _ _ h.2.2 ?_;have T2:Nat.blt v n=true:=by simp[Nat.blt];omega
  have T3:Nat.blt w n=true:=by simp[Nat.blt];omega
  simp only[to,T2,T3,cI];exact U1 mk i k d au ap ag h.1 h.2.1 h.2.2
 ·rintro R am aw ⟨L,T4,T6⟩;obtain⟨T1,C⟩:=p _ _ _ L;refine⟨.ready,none,Zs,T6, ?_⟩;show T _ _ _;exact TZ _ _ (N _ _ _ _ _ L (Zg _) (λo c U2=>ah Zo U2)) (by rw[ah Zo Zo];exact T4)
def o4{α cr:Type}(st:cr->α->cr)(s:cr){l:List α}{i:Nat}{x:α}(h:l[i]? =some x):(l.take (i+1)).foldl st s=st ((l.take i).foldl st s) x:=by rw[ZD,h,Y8];rfl
def gI(s:(aA->Option Int)×(Int×Int))(x:Int×cG):(aA->Option Int)×(Int×Int):=
 (λw=>if w=x.2.name then some x.1 else s.1 w,if 0<(s.1 x.2.name).getD 0 then g8 s.2 24 x.2.at_ else s.2)
def jp(t:aA->Option cB)(f:Int×Int)(x:Int×cG):Int×Int:=if t x.2.on=none/\x.2.on≠[]then g8 f 23 x.2.cC else f
def kt(t:aA->Option cB)(g:GT)(f:Int×Int):Int×Int:=(c3 g).foldl (jp t) ((c3 g).foldl gI (λ_=>none,f)).2
def wj(c:bZ X){nm bK bO aE d:z}{a:z}(b:(y X).aB<=u):
 aD X 24 [.agg [nm,a,bK,bO,aE,d]] q u (λR D Z=>R=.func (.func 46) [] [.ptr u 0]/\Z=u+1/\aU X q u D Z/\ay X D (.ptr u 2)=some bK/\ay X D (.ptr u 3)=some bO/\ay X D (.ptr u 4)=some aE) zX:=by
 refine Fd c (Lr ..) ?_;unfold Dr;refine bx ⟨?_⟩;exact⟨rfl,rfl,cf,by rw[a8 (aM b)];rfl,by rw[a8 (aM b)];rfl,by rw[a8 (aM b)];rfl⟩
structure kR(X:bi)(d:E S)(c a b:Nat)(p:z)(k:Int)(bI e:z)(f:Int×Int)(Q:aA->Option Int)(q:E S)(n:Nat):Prop where
 le:c+2<=n
 fY:dE X q a p k bI e f
 seen:h2 X q b (iy Q)
 low:∀o,o<c->o≠a->o≠b->H X q o=H X d o
def kR.M{e:E S}{a b d:Nat}{p bI g:z}{k:Int}{f:Int×Int}{Q:aA->Option Int}(h:kR X e a b d p k bI g f Q au ap)(m:b<a)(r:d<a)(s:ap<=aw)(c:∀o,o<ap->o≠a+1->H X am o=H X au o):kR X e a b d p k bI g f Q am aw:=by have n:=h.le;refine⟨Zo, ?_,h.seen.M (c _ Zo Zo),λo i j l=>by rw[c o Zo Zo];exact h.low o i j l⟩;have:=h.fY;unfold dE at*;rw[c _ Zo Zo];exact this
def O6(T2:bZ X){P:Nat->Prop}{c:Nat}{p bI L:z}{k:Int}{t:aA->Option cB}{g:GT}{row:List z}(VU:(y X).aB<=u)(Uj:(y X).aB<=c)(VA:c<u)
 (aV:∀o,P o->o<u/\o≠c)(VH:jQ X q P bI t){f:Int×Int}(V4:dE X q c p k bI L f)(VB:iO X q P g row)(VQ:True):
 aD X 91 [.ptr c 0,.agg row] q u (λR D Z=>R=.tuple []/\dE X D c p k bI L (kt t g f)/\u<=Z/\∀o,o<u->o≠c->H X D o=H X q o) zX:=by
 refine tX (M8 X) (T2.none _ _ rfl) ?_;rw[M9];unfold Ep;obtain⟨bK,bO,aE,Uq,bc,bp,bG,VN,aR,rfl,Uk,Ul,Um,VP,VO⟩:=VB;refine bx ⟨?_⟩;refine c7 (λau=>H X au u=zP [.ptr c 0] 1/\H X au (u+1)=zP [.str g.name,.Z g.at_,bK,bO,aE,Uq] 6
  /\H X au (u+1+1)=some (.map [] 0)/\ay X au (.ptr (u+1+1+1) 0)=some (.map (u+1+1))/\aU X q u au (u+1+1+1+1)) ⟨by(first|assumption|(exact z6)|(simp(disch:=omega) only[aM,ah])),by(first|assumption|(exact z6)|(simp(disch:=omega) only[aM,ah])),by(first|assumption|(exact z6)|(simp(disch:=omega) only[aM,ah])),by rw[bB,aM Zo];rfl,cf⟩ ?_
 rintro au ⟨UH,Uc,Ud,UI,V3⟩;refine(wj T2 Zo).Zm ?_;rintro R am aw ⟨rfl,rfl,UK,UY,UZ,Ua⟩;have UJ:aU X q u am (u+1+1+1+1+1):=V3.trans UK;have UE:∀o,P o->H X am o=H X q o:=λo a=>UJ.M o (aV o a).1;rw[<-UK.M _ Zo]at UH Uc Ud;rw[<-UK.dn _ _ Zo]at UI;generalize VV:u+1+1+1+1+1=O at*;have V5:dE X am c p k bI L f:=by unfold dE at*;rw[UJ.M c VA];exact V4
 have VF:h2 X am (u+1+1) (iy λ_=>none):=⟨[],0,Ud,λ_=>rfl⟩;refine dN ?_;refine wk (P:=P) (g:=g) (bc:=bc) (bp:=bp) (bG:=bG) (bK:=bK) (bO:=bO) (aE:=aE) T2 (λi D N=>kR X am O c (u+1+1) p k bI L (((c3 g).take i).foldl gI (λ_=>none,f)).2 (((c3 g).take i).foldl gI (λ_=>none,f)).1 D N) Zo Zo Zo Zo
  (Uk.M UE) (Ul.M UE) (Um.M UE) UY UZ Ua (λi D N h=>⟨h.le,λo a=>h.low o (zL (aV o a).1) (aV o a).2 (zL (aV o a).1)⟩)
  (λi au ap am aw h U4 UR=>h.M Zo Zo U4 UR) (λD T5=>⟨Zg _,by unfold dE at*;rw[T5.M _ Zo];exact V5,VF.M (T5.M _ Zo),λo a _ _=>T5.M o a⟩) ?_ ?_
 ·intro mk i r d UG T1 ag A gr Uy;rw[o4 gI _ ag];generalize ((c3 g).take i).foldl gI (λ_=>none,f)=bm at A ⊢;have U4:=A.le;have UQ:cQ d=[.str d.name,.Z d.at_,.bool d.ty.b,.bool d.ty.s,.Z d.ty.w,.str d.on,.Z d.cC,.bool d.no]:=rfl;rw[UQ];unfold lo;refine bx ⟨?_⟩;generalize UM:aH X _ T1 _=s;have T6:H X s T1=zP [.str d.name,.Z d.at_,.bool d.ty.b,.bool d.ty.s,.Z d.ty.w,.str d.on,.Z d.cC,.bool d.no] 8:=by rw[<-UM,aM Zo];rfl
  have US:∀o,o<T1->H X s o=H X UG o:=λo a=>by rw[<-UM];exact zR
  clear UM;refine⟨by rw[US _ Zo];exact Uy, ?_⟩;generalize UN:aH X s (O+1) _=v;have Ue:H X v (O+1)=some (mk .busy none):=by rw[<-UN,aM Zo]
  have UT:∀o,o≠O+1->H X v o=H X s o:=λo a=>by rw[<-UN,ah Zo a]
  clear UN;have l:=A.M (am:=v) (aw:=T1+1) Zo Zo Zo (λo m e=>by rw[UT o e,US o m]);rw[<-UT _ Zo]at T6;have T7:H X v O=some (.deferred (some [])):=by rw[UT _ Zo,US _ Zo];exact gr
  have bn:ay X v (.ptr u 0)=some (.ptr c 0):=by rw[a8 (show H X v u=_ by rw[l.low _ Zo Zo Zo];exact UH)];rfl
  have bG:ay X v (.ptr (u+1+1+1) 0)=some (.map (u+1+1)):=zW (l.low _ Zo Zo Zo) UI;have Up:fb X v 9 (.Z 0) (.map (u+1+1)) (.str d.name) false=some (.Z ((bm.1 d.name).getD 0)):=by rw[pn l.seen];unfold iy;cases bm.1 d.name<;>rfl
  refine dF @bG @Up (a8 T6) ⟨?_⟩;refine dN ?_;refine dF @bG @Up (a8 T6) ⟨?_⟩;refine eO (λU7 D N=>U7.g 4=some (.ptr (u+1+1+1) 0)/\U7.g 6=some (.ptr T1 0)/\U7.g 5=some (.Z r)/\kR X am O c (u+1+1) p k bI L (gI bm (r,d)).2 bm.1 D N/\T1+1<=N
   /\H X D T1=zP [.str d.name,.Z d.at_,.bool d.ty.b,.bool d.ty.s,.Z d.ty.w,.str d.on,.Z d.cC,.bool d.no] 8/\H X D O=some (.deferred (some []))/\H X D (O+1)=some (mk .busy none)) (λj Uo=> ?_) ?_
  ·by_cases UD:0<(bm.1 d.name).getD 0
   ·have ar:decide (0<(bm.1 d.name).getD 0)=true:=(by simp[UD]);refine cg @ar @bn (a8 T6) ⟨?_⟩;refine(mS (q:=v) T2 Uj l.fY 24 d.at_).Zm ?_;rintro R T3 UX ⟨rfl,V7,VE,U3⟩;refine bx ⟨?_⟩;refine Uo _ _ _ ⟨aC,aC,aC,⟨Zo, ?_,l.seen.M (U3 _ Zo),λo m e T8=>by rw[U3 o e];exact l.low o m e T8⟩,Zo,by rw[U3 _ Zo];exact T6,by rw[U3 _ Zo];exact T7,by rw[U3 _ Zo];exact Ue⟩;unfold gI;simp only[UD,ZL];exact V7
   ·have ar:decide (0<(bm.1 d.name).getD 0)=false:=(by simp[UD]);refine bo @ar ⟨?_⟩;refine Uo _ _ _ ⟨aC,aC,aC,⟨Zo, ?_,l.seen,l.low⟩,Zo,T6,T7,Ue⟩;unfold gI;simp only[UD,ZJ];exact l.fY
  ·rintro U7 T3 UX ⟨t4,VL,t5,U1,VE,T4,Ux,V0⟩;have VC:=U1.le;have Ut:ay X T3 (.ptr (u+1+1+1) 0)=some (.map (u+1+1)):=zW (U1.low _ Zo Zo Zo) UI;show bu _ _;refine dA @t4 @VL @t5 @Ut (a8 T4) ⟨?_⟩;obtain⟨w,VG,V1,UA⟩:=uU (u:=UX) (show(y X).aB<=u+1+1 by omega) U1.seen d.name (.Z r);refine d8 VG ?_;refine bx ⟨?_⟩;refine⟨⟨.busy,none,by rw[UA _ Zo];exact V0⟩, ?_⟩;have V8:dE X w c p k bI L (gI bm (r,d)).2:=(by have:=U1.fY;unfold dE at*;rw[UA c Zo];exact this);have V2:h2 X w (u+1+1) (iy (gI bm (r,d)).1):=by
    have:(λx=>if x=d.name then some (z.Z r)else iy bm.1 x)=iy (gI bm (r,d)).1:=by funext x;unfold iy gI;by_cases h:x=d.name<;>simp[h]
    rw[<-this];exact V1
   have TY:kR X am O c (u+1+1) p k bI L (gI bm (r,d)).2 (gI bm (r,d)).1 w UX:=⟨VC,V8,V2,λo m e T8=>by rw[UA o T8];exact U1.low o m e T8⟩;exact⟨rfl,TY.M Zo Zo (Zg _) (λo m e=>ah Zo e),by rw[ah Zo Zo,UA _ Zo];exact Ux,aM Zo⟩
 ·intro UG T1 A gr;rw[Yx]at A;unfold kt;generalize (c3 g).foldl gI (λ_=>none,f)=bm at A ⊢;have U4:=A.le;have Uu:H X UG (u+1)=zP [.str g.name,.Z g.at_,bK,bO,aE,Uq] 6:=by rw[A.low _ Zo Zo Zo];exact Uc
  refine bo (a8 Uu) ⟨?_⟩;refine(wj T2 Zo).Zm ?_;rintro R s VY ⟨rfl,rfl,T9,UY,UZ,Ua⟩;generalize VW:T1+1=bv at*;have V6:dE X s c p k bI L bm.2:=by have:=A.fY;unfold dE at*;rw[T9.M c Zo];exact this
  have Uv:H X s O=some (.deferred (some [])):=by rw[T9.M _ Zo];exact gr
  have UF:∀o,P o->H X s o=H X q o:=λo a=>by have:=aV o a;rw[T9.M o Zo,A.low o Zo this.2 Zo,UE o a]
  have Ur:H X s u=zP [.ptr c 0] 1:=by rw[T9.M _ Zo,A.low _ Zo Zo Zo];exact UH
  refine dN ?_;refine wk (P:=P) (g:=g) (bc:=bc) (bp:=bp) (bG:=bG) (bK:=bK) (bO:=bO) (aE:=aE) T2 (λi D N=>kR X s bv c (u+1+1) p k bI L (((c3 g).take i).foldl (jp t) bm.2) bm.1 D N) Zo Zo Zo Zo
   (Uk.M UF) (Ul.M UF) (Um.M UF) UY UZ Ua (λi D N h=>⟨h.le,λo a=>h.low o (zL (aV o a).1) (aV o a).2 (zL (aV o a).1)⟩)
   (λi au ap am aw h U4 UR=>h.M Zo Zo U4 UR) (λD T5=>⟨Zg _,by unfold dE at*;rw[T5.M _ Zo];exact V6,(A.seen.M (T9.M _ Zo)).M (T5.M _ Zo),λo a _ _=>T5.M o a⟩) ?_ ?_
  ·intro mk i r d v C ag l T7 Uz;rw[o4 (jp t) _ ag];generalize ((c3 g).take i).foldl (jp t) bm.2=G at l ⊢;have VD:=l.le;have UQ:cQ d=[.str d.name,.Z d.at_,.bool d.ty.b,.bool d.ty.s,.Z d.ty.w,.str d.on,.Z d.cC,.bool d.no]:=rfl;rw[UQ];unfold lo;refine bx ⟨?_⟩;generalize UO:aH X _ C _=T3;have T4:H X T3 C=zP [.str d.name,.Z d.at_,.bool d.ty.b,.bool d.ty.s,.Z d.ty.w,.str d.on,.Z d.cC,.bool d.no] 8:=(by rw[<-UO,aM Zo];rfl);have UU:∀o,o<C->H X T3 o=H X v o:=λo a=>(by rw[<-UO];exact zR);clear UO;refine⟨by rw[UU _ Zo];exact Uz, ?_⟩;generalize UP:aH X T3 (bv+1) _=w;have U8:H X w (bv+1)=some (mk .busy none):=(by rw[<-UP,aM Zo]);have UV:∀o,o≠bv+1->H X w o=H X T3 o:=λo a=>(by rw[<-UP,ah Zo a]);clear UP;have TY:=l.M (am:=w) (aw:=C+1) Zo Zo Zo (λo m e=>by rw[UV o e,UU o m]);rw[<-UV _ Zo]at T4;have U9:H X w bv=some (.deferred (some [])):=(by rw[UV _ Zo,UU _ Zo];exact T7);have bn:ay X w (.ptr u 0)=some (.ptr c 0):=(by rw[a8 (show H X w u=_ by rw[TY.low _ Zo Zo Zo];exact Ur)];rfl);have VJ:ay X w (.ptr c 2)=some bI:=(by have:=TY.fY;unfold dE at this;rw[a8 this];rfl);have U0:∀D N,kR X s bv c (u+1+1) p k bI L (jp t G (r,d)) bm.1 D N->H X D bv=some (.deferred (some []))->(z.bool true=z.bool true/\kR X s bv c (u+1+1) p k bI L (jp t G (r,d)) bm.1 (aH X D (bv+1) (some (mk .ready none))) N/\H X (aH X D (bv+1) (some (mk .ready none))) bv=some (.deferred (some []))/\H X (aH X D (bv+1) (some (mk .ready none))) (bv+1)=some (mk .ready none)):=λD N h e=>
    ⟨rfl,h.M Zo Zo (Zg _) (λo m e=>ah Zo e),by rw[ah Zo Zo];exact e,aM Zo⟩
   refine h8 ⟨?_⟩;refine dN ?_;refine cg @bn @VJ (a8 T4) ⟨?_⟩;refine c7 (λU5=>H X U5 (C+1+10)=zP [.Z 0,.str [],.Z 0,.zT,.zT,.Z 0,.str [],.Z 0,.zT,.Z 0,.Z 0] 11/\aU X w (C+1) U5 (C+1+10+1)) ⟨by rw[aM Zo];rfl,Zo,λo a=>zR⟩ ?_;rintro U5 ⟨Uf,Uh⟩;refine(sF (u:=C+1+13) (q:=U5) T2 Zo (VH.M (aI:=P) (λo a=>by have:=aV o a;rw[Uh.M o Zo,TY.low o Zo this.2 Zo,UF o a]) (λ_ h=>h)) (λo a=>zL (aV o a).1) d.on).Zm ?_;rintro R Ub VK ⟨rfl,UL⟩;have VS:=UL.le;have Ug:H X Ub (C+1+10)=zP [.Z 0,.str [],.Z 0,.zT,.zT,.Z 0,.str [],.Z 0,.zT,.Z 0,.Z 0] 11:=(by rw[UL.M _ Zo];exact Uf);generalize VX:(t d.on).getD lV=T0;have VI:ik T0=[.Z T0.kind,.str T0.d.name,.Z T0.d.at_,.bool T0.d.ty.b,.bool T0.d.ty.s,.Z T0.d.ty.w,.str T0.d.on,.Z T0.d.cC,.bool T0.d.no,.Z T0.eq,.Z T0.left]:=rfl;rw[VI];refine eN ⟨?_⟩;refine eN ⟨?_⟩;refine dg (eS (k:=11) (b:=C+1+10) (I:=0) (n:=11) Ug Zo rfl Zd Zd rfl) ?_;generalize Ui:aH X Ub (C+1+10) _=U6;have UW:∀o,o<C+1->H X U6 o=H X w o:=λo a=>(by rw[<-Ui,ah Zo Zo,UL.M o Zo,Uh.M o a]);clear Ui Uf Ug;have TZ:kR X s bv c (u+1+1) p k bI L G bm.1 U6 VK:=TY.M Zo Zo Zo (λo m e=>UW o m);rw[<-UW _ Zo]at T4 U8 U9;have Us:ay X U6 (.ptr u 0)=some (.ptr c 0):=zW (UW _ Zo) bn;cases Un:(t d.on)with
   |some Va=>have U2:jp t G (r,d)=G:=(by unfold jp;rw[Zi (by simp[Un])]);simp only[Z4];refine bx ⟨?_⟩;rw[U2]at U0 ⊢;exact⟨⟨.busy,none,U8⟩,U0 _ _ TZ U9⟩|none=>
    simp only[Z3];by_cases UC:d.on=[]
    ·have U2:jp t G (r,d)=G:=(by unfold jp;rw[Zi (by simp[UC])]);have ar:decide (d.on≠[])=false:=(by simp[UC]);refine bE (a8 T4) @ar ⟨?_⟩;rw[U2]at U0 ⊢;exact⟨⟨.busy,none,U8⟩,U0 _ _ TZ U9⟩
    ·have U2:jp t G (r,d)=g8 G 23 d.cC:=(by unfold jp;rw[Zv ⟨Un,UC⟩]);have ar:decide (d.on≠[])=true:=(by simp[UC]);refine cg (a8 T4) @ar @Us ⟨?_⟩;refine(mS (q:=U6) T2 Uj TZ.fY 23 d.cC).Zm ?_;rintro R VM VZ ⟨rfl,V9,VT,UB⟩;refine bx ⟨?_⟩;rw[U2]at U0 ⊢;have VR:=TZ.le;exact⟨⟨.busy,none,by rw[UB _ Zo];exact U8⟩,U0 _ _ ⟨Zo,V9,TZ.seen.M (UB _ Zo),λo m e T8=>by rw[UB o e];exact TZ.low o m e T8⟩ (by rw[UB _ Zo];exact U9)⟩
  ·intro v C l T7;rw[Yx]at l;generalize (c3 g).foldl (jp t) bm.2=G at l ⊢;have VD:=l.le;have Uw:H X v O=some (.deferred (some [])):=(by rw[l.low _ Zo Zo Zo];exact Uv);show ig X [] _ _ _ _ _;simp only[nZ,ni,oP];refine⟨by show(y X).aB<=bv;omega,T7, ?_⟩;refine⟨by show(y X).aB<=O;omega,by rw[ah Zo Zo];exact Uw, ?_⟩;show kc _ _ _ _ _;refine⟨rfl, ?_,Zo,λo m e=> ?_⟩
   ·have:=l.fY;unfold dE at*;rw[ah Zo Zo,ah Zo Zo];exact this
   ·rw[ah Zo Zo,ah Zo Zo,l.low o Zo e Zo,T9.M o Zo,A.low o Zo e Zo,UJ.M o m]
def eR(s:(aA->Option cB)×List aA)(x:Int×cG):(aA->Option cB)×List aA:=
 if (s.1 x.2.name).isSome then s else(λw=>if w=x.2.name then some ⟨x.1,x.2, -1, -1⟩else s.1 w,s.2++[x.2.name])
def ie(k:Nat)(t:aA->Option cB)(x:aA×Nat):aA->Option cB:=match t x.1 with
 |some v=>if v.eq<0 then(λw=>if w=x.1 then some ⟨v.kind,v.d,k,x.2⟩else t w)else t
 |none=>t
def rk(t:aA->Option cB)(x:cA×Nat):aA->Option cB:=x.1.left.zipIdx.foldl (ie x.2) t
def hd(g:GT):(aA->Option cB)×List aA:=(c3 g).foldl eR (λ_=>none,[])
def c6(g:GT):aA->Option cB:=g.eqs.zipIdx.foldl rk (hd g).1
def eQ(g:GT):List aA:=(hd g).2
def jb(t:aA->Option cB):aA->Option z:=λw=>(t w).map λv=> .agg (ik v)
def Cb{α:Type}{l:List α}{i:Nat}{x:α}(h:l[i]? =some x):l.zipIdx[i]? =some (x,i):=by rw[List.getElem?_zipIdx,h];simp
structure kX(X:bi)(b:E S)(d a bI aT:Nat)(t:aA->Option cB)(ci:List aA)(q:E S)(n:Nat):Prop where
 le:aT<=n
 map:h2 X q a (jb t)
 mx:∃c aE aW,H X q bI=some (.cells c 2 .own)/\c.get 0=some (.map a)/\c.get 1=some aE/\da X q aE 1 (ci.map .str) aW/\∀o∈aW,aT<=o/\o<n
 low:∀o,o<d->o≠a->o≠bI->H X q o=H X b o
def kX.M{f:E S}{a e bI aT:Nat}{t:aA->Option cB}{ci:List aA}(h:kX X f a e bI aT t ci au ap)(v:e<a)(x:bI<a)(s:a<=aT)(w:ap<=aw)(b:∀o,o<ap->(o<a\/aT<=o)->H X am o=H X au o):kX X f a e bI aT t ci am aw:=by have r:=h.le;refine⟨Zo,h.map.M (b _ Zo Zo), ?_,λo m n p=>by rw[b o Zo Zo];exact h.low o m n p⟩;obtain⟨c,aE,aW,i,j,k,l,g⟩:=h.mx;exact⟨c,aE,aW,by rw[b _ Zo Zo];exact i,j,k,l.M (λo d=>by have:=g o d;exact b o Zo Zo),λo d=>zL (g o d)⟩
def uY(Ut:bZ X){P:Nat->Prop}{g:GT}{row:List z}(WF:(y X).aB<=u)(aV:∀o,P o->o<u)(Vg:iO X q P g row)(WE:(c3 g).length<=300000):
 aD X 8 [.agg row] q u (λR D Z=>∃bI V2 aE b,R=.ptr bI 0/\b2 u Z bI/\b2 u Z V2/\ay X D (.ptr bI 0)=some (.map V2)/\h2 X D V2 (jb (c6 g))/\ay X D (.ptr bI 1)=some aE/\cl X D (b2 u Z) b aE 1 (dh (eQ g))/\aU X q u D Z) zX:=by
 refine tX (M4 X) (Ut.none _ _ rfl) ?_;rw[M5];unfold Ek;obtain⟨bK,bO,aE,Uh,bc,bp,bG,W5,aR,rfl,Vh,Vi,Vj,Ub,VE⟩:=Vg;refine bx ⟨?_⟩;refine c7 (λau=>H X au u=zP [.str g.name,.Z g.at_,bK,bO,aE,Uh] 6
  /\H X au (u+1)=some (.map [] 0)/\H X au (u+1+1)=zP [.map (u+1),.ax] 2/\ay X au (.ptr (u+1+1+1) 0)=some (.ptr (u+1+1) 0)/\aU X q u au (u+1+1+1+1)) ⟨by(first|assumption|(exact z6)|(simp(disch:=omega) only[aM,ah])),by(first|assumption|(exact z6)|(simp(disch:=omega) only[aM,ah])),by(first|assumption|(exact z6)|(simp(disch:=omega) only[aM,ah])),by rw[bB,aM Zo];rfl,cf⟩ ?_
 rintro au ⟨V6,V7,V8,UZ,Vc⟩;refine(wj Ut Zo).Zm ?_;rintro R am aw ⟨rfl,rfl,Ur,UT,UU,UV⟩;have V9:aU X q u am (u+1+1+1+1+1):=Vc.trans Ur;have UR:∀o,P o->H X am o=H X q o:=λo a=>V9.M o (aV o a);rw[<-Ur.M _ Zo]at V6 V7 V8;rw[<-Ur.dn _ _ Zo]at UZ;generalize WG:u+1+1+1+1+1=e at*;refine dN ?_;refine wk (P:=P) (g:=g) (bc:=bc) (bp:=bp) (bG:=bG) (bK:=bK) (bO:=bO) (aE:=aE) Ut (λi D T4=>kX X am e (u+1) (u+1+1) (e+2) (((c3 g).take i).foldl eR (λ_=>none,[])).1 (((c3 g).take i).foldl eR (λ_=>none,[])).2 D T4/\(((c3 g).take i).foldl eR (λ_=>none,[])).2.length<=i) Zo Zo Zo Zo
  (Vh.M UR) (Vi.M UR) (Vj.M UR) UT UU UV (λi D T4 h=>⟨h.1.le,λo a=>h.1.low o (zL (aV o a)) (zL (aV o a)) (zL (aV o a))⟩)
  (λi au ap am aw h VH Vm=>⟨h.1.M Zo Zo Zo VH (λo l p=>Vm o l Zo),h.2⟩)
  (λD Uq=>⟨⟨Zg _,⟨[],0,by rw[Uq.M _ Zo];exact V7,λ_=>rfl⟩,⟨_,.ax,[],by rw[Uq.M _ Zo];exact V8,rfl,rfl,.inl (.inl ⟨rfl,rfl,rfl⟩),λo a=>by simp at a⟩,λo a _ _=>Uq.M o a⟩,Zs⟩) ?_ ?_
 ·intro mk i UH d UY T0 ag C gr Vb;rw[o4 eR _ ag];generalize ((c3 g).take i).foldl eR (λ_=>none,[])=bm at C ⊢;obtain⟨C,Ux⟩:=C;have WA:=(Ze.1 ag).1;have VH:=C.le;have Vf:cQ d=[.str d.name,.Z d.at_,.bool d.ty.b,.bool d.ty.s,.Z d.ty.w,.str d.on,.Z d.cC,.bool d.no]:=rfl;rw[Vf];unfold lo;refine bx ⟨?_⟩;generalize Uu:aH X _ T0 _=T6;have UB:H X T6 T0=zP [.str d.name,.Z d.at_,.bool d.ty.b,.bool d.ty.s,.Z d.ty.w,.str d.on,.Z d.cC,.bool d.no] 8:=by rw[<-Uu,aM Zo];rfl
  have V1:∀o,o<T0->H X T6 o=H X UY o:=λo a=>by rw[<-Uu];exact zR
  clear Uu;refine⟨by rw[V1 _ Zo];exact Vb, ?_⟩;generalize U4:aH X T6 (e+1) _=L;have UC:H X L (e+1)=some (mk .busy none):=by rw[<-U4,aM Zo]
  have UE:∀o,o≠e+1->H X L o=H X T6 o:=λo a=>by rw[<-U4,ah Zo a]
  clear U4;have T2:=C.M (am:=L) (aw:=T0+1) Zo Zo Zo Zo (λo l p=>by rw[UE o Zo,V1 o l]);rw[<-UE _ Zo]at UB;have Ua:H X L e=some (.deferred (some [])):=by rw[UE _ Zo,V1 _ Zo];exact gr
  have bG:ay X L (.ptr (u+1+1+1) 0)=some (.ptr (u+1+1) 0):=zW (T2.low _ Zo Zo Zo) UZ;obtain⟨UL,WN,VV,TZ,U0,Uf,Ug,A⟩:=T2.mx;have TY:fb X L 9 (.agg [.Z 0,.str [],.Z 0,.zT,.zT,.Z 0,.str [],.Z 0,.zT,.Z 0,.Z 0]) (.map (u+1)) (.str d.name) true=some (.tuple [.agg (ik ((bm.1 d.name).getD lV)),.bool (bm.1 d.name).isSome]):=by rw[pn T2.map];unfold jb;cases bm.1 d.name<;>rfl
  generalize V0:(bm.1 d.name).getD lV=f at TY;have Uz:ik f=[.Z f.kind,.str f.d.name,.Z f.d.at_,.bool f.d.ty.b,.bool f.d.ty.s,.Z f.d.ty.w,.str f.d.on,.Z f.d.cC,.bool f.d.no,.Z f.eq,.Z f.left]:=rfl;rw[Uz]at TY;have VF:∀D T4 (G:(aA->Option cB)×List aA),kX X am e (u+1) (u+1+1) (e+2) G.1 G.2 D T4->G.2.length<=i+1->H X D e=some (.deferred (some []))->(z.bool true=z.bool true/\(kX X am e (u+1) (u+1+1) (e+2) G.1 G.2 (aH X D (e+1) (some (mk .ready none))) T4/\G.2.length<=i+1)/\H X (aH X D (e+1) (some (mk .ready none))) e=some (.deferred (some []))/\H X (aH X D (e+1) (some (mk .ready none))) (e+1)=some (mk .ready none)):=λD T4 G h Vn p=>
   ⟨rfl,⟨h.M Zo Zo Zo (Zg _) (λo l p=>ah Zo Zo),Vn⟩,by rw[ah Zo Zo];exact p,aM Zo⟩
  refine h8 ⟨?_⟩;refine dN ?_;refine dA @bG (a8 TZ) @U0 (a8 UB) @TY ⟨?_⟩;generalize VB:aH X _ (T0+1+10) _=T1;have UQ:∀o,o<T0+1->H X T1 o=H X L o:=λo a=>by rw[<-VB];exact zR
  clear VB TY;have t:kX X am e (u+1) (u+1+1) (e+2) bm.1 bm.2 T1 (T0+1+13):=T2.M Zo Zo Zo Zo (λo l p=>UQ o l);rw[<-UQ _ Zo]at UB UC Ua;have UK:ay X T1 (.ptr (u+1+1+1) 0)=some (.ptr (u+1+1) 0):=zW (UQ _ Zo) bG;have VP:H X T1 (u+1+1)=some (.cells UL 2 .own):=by rw[UQ _ Zo];exact TZ
  cases U6:bm.1 d.name with
  |some WP=>have T8:eR bm (UH,d)=bm:=(by unfold eR;rw[Zv (by simp[U6])]);rw[T8];simp only[Z4];refine bx ⟨?_⟩;exact⟨⟨.busy,none,UC⟩,VF _ _ bm (t.M Zo Zo Zo Zo (λ_ _ _=>rfl)) Zo Ua⟩|none=>
   have T8:eR bm (UH,d)=(λw=>if w=d.name then some ⟨UH,d, -1, -1⟩else bm.1 w,bm.2++[d.name]):=(by unfold eR;rw[Zi (by simp[U6])]);rw[T8];simp only[Z3];refine df @UK (a8 VP) @U0 (a8 UB) ⟨?_⟩;generalize W7:T0+1+13+10=N;obtain⟨O,Uc,VA,UO⟩:=uU (u:=N) (show(y X).aB<=u+1 by omega) t.map d.name (.agg (ik ⟨UH,d, -1, -1⟩));refine d8 Uc ?_;have V5:ay X O (.ptr (u+1+1+1) 0)=some (.ptr (u+1+1) 0):=zW (UO _ Zo) UK;have VQ:H X O (u+1+1)=some (.cells UL 2 .own):=(by rw[UO _ Zo];exact VP);rw[<-UO _ Zo]at UB UC Ua;refine df @V5 (a8 VQ) @Uf (a8 UB) ⟨?_⟩;generalize U5:aH X O (N+7) _=T7;have VY:H X T7 (N+7)=zP [.str d.name] 1:=(by rw[<-U5,aM Zo]);have T3:∀o,o<N->H X T7 o=H X O o:=λo a=>(by rw[<-U5];exact zR);clear U5 Uc;obtain⟨V4,UA,VU,Ve,VL,VC,UD⟩:=(Ug.M (D:=T7) (λo a=>by have:=A o a;rw[T3 o Zo,UO o Zo,UQ o Zo])).append (u:=N+12) Zd (hY VY (gv _) rfl _) rfl Zd rfl Zx Zo (λo a=>zL (A o a));refine d8 Ve ?_;have UG:∀o,o<N->o∉VV->H X UA o=H X O o:=λo a h=>(by rw[UD o Zo h,T3 o a]);have VT:ay X UA (.ptr (u+1+1+1) 0)=some (.ptr (u+1+1) 0):=zW (UG _ Zo (λh=>zL (A _ h))) V5;have W2:H X UA (u+1+1)=some (.cells UL 2 .own):=(by rw[UG _ Zo (λh=>zL (A _ h))];exact VQ);refine bo @VT ⟨?_⟩;refine d9 (by simp[z.same]) ?_;obtain⟨Vz,W0,WK⟩:=et.one VL;refine dg (jF W2 Zo Zo Vz W0) ?_;refine bx ⟨?_⟩;generalize Uw:aH X UA (u+1+1) _=Ul;have W3:H X Ul (u+1+1)=some (.cells (UL.set 1 (some V4)) 2 .own):=(by rw[<-Uw,aM Zo]);have US:∀o,o≠u+1+1->H X Ul o=H X UA o:=λo a=>(by rw[<-Uw,ah Zo a]);clear Uw;have Vy:∀o,o<T0+1->(o<e\/o=e\/o=e+1)->o≠u+1+1->o≠u+1->H X Ul o=H X T1 o:=λo a l p T9=>(by rw[US o p,UG o Zo (λh=>zL (A _ h)),UO o T9]);refine⟨⟨.busy,none, ?_⟩,VF _ _ (_,bm.2++[d.name]) ⟨Zo, ?_,⟨UL.set 1 (some V4),V4,VU,W3, ?_, ?_, ?_, ?_⟩, ?_⟩ Zx ?_⟩
   ·rw[US _ Zo,UG _ Zo (λh=>zL (A _ h))];exact UC
   ·have:(λx=>if x=d.name then some (z.agg (ik ⟨UH,d, -1, -1⟩))else jb bm.1 x)=jb (λw=>if w=d.name then some ⟨UH,d, -1, -1⟩else bm.1 w):=by funext x;unfold jb;by_cases h:x=d.name<;>simp[h]
    rw[this]at VA;exact VA.M (by rw[US _ Zo,UG _ Zo (λh=>zL (A _ h))])
   ·rw[E.e0,Zi Zd];exact U0
   ·rw[E.e0,Zv rfl]
   ·rw[ZU];exact .inl (VL.M λo a=>US o (by rcases VC o a with rfl|h;omega;have:=A _ h;omega))
   ·intro o a;rcases VC o a with rfl|h
    ·omega
    ·have:=A _ h;omega
   ·intro o l p T9;rw[Vy o Zo (.inl l) T9 p];exact t.low o l p T9
   ·rw[US _ Zo,UG _ Zo (λh=>zL (A _ h))];exact Ua
 ·intro UY T0 C gr;rw[Yx]at C;obtain⟨C,Ux⟩:=C;change kX X am e (u+1) (u+1+1) (e+2) (hd g).1 (hd g).2 UY T0 at C;change (hd g).2.length<=_ at Ux;have VZ:H X UY u=zP [.str g.name,.Z g.at_,bK,bO,aE,Uh] 6:=by rw[C.low _ Zo Zo Zo];exact V6
  have VN:=VE.wide;have VI:=Ub.len;have Vo:=Ub.many;rw[VN.1]at VI Vo;refine bE (a8 VZ) @VI ⟨?_⟩;refine cM (λm B D T4=>∃(j:Nat),B.g 3=some (.ptr (u+1+1+1) 0)/\B.g 54=some Uh/\B.g 55=some (.Z g.eqs.length)/\B.g 56=some (.Z j)/\B.aP=[⟨.collected e,[]⟩]/\j+m=g.eqs.length
   /\kX X am e (u+1) (u+1+1) (e+2) ((g.eqs.zipIdx.take j).foldl rk (hd g).1) (hd g).2 D T4/\H X D e=some (.deferred (some [])))
   g.eqs.length ⟨0,aC,aC,aC,cT,rfl,Zo,C,gr⟩ ?_
  rintro m B T6 UI ⟨j,t3,U8,U1,U2,U9,WB,U3,Up⟩;have WC:=U3.le;cases m with
  |zero=>
   have ar:=zM j g.eqs.length;have VR:ay X T6 (.ptr (u+1+1+1) 0)=some (.ptr (u+1+1) 0):=zW (U3.low _ Zo Zo Zo) UZ;refine dA @U2 @U1 @t3 @ar @VR ⟨?_⟩;have Vl:(g.eqs.zipIdx.take j).foldl rk (hd g).1=c6 g:=(by rw[Zy Zx];rfl);rw[Vl]at U3;show ig X [.tmp 2] _ _ _ _ _;simp only[ni,U9];refine⟨by show(y X).aB<=e;omega,Up, ?_⟩;show kc _ _ _ _ _;unfold kc;refine bx ⟨?_⟩;have T2:=U3.M (am:=aH X T6 e (some (.deferred none))) Zo Zo Zo (Zg _) (λo l p=>ah Zo Zo);obtain⟨c,s,aW,TZ,U0,Uf,Ug,A⟩:=T2.mx;obtain⟨b,W⟩:=Ug.pC (P:=b2 u UI) (by simp[eQ]at Ux ⊢;omega) (λo a=>by have:=A o a;exact⟨Zo,Zo⟩);refine⟨u+1+1,u+1,s,b,rfl,⟨Zo,Zo⟩,⟨Zo,Zo⟩,by rw[a8 TZ];exact U0,T2.map,by rw[a8 TZ];exact Uf, ?_,Zo,λo a=> ?_⟩
   ·have:dh (eQ g)=((hd g).2.map z.str).map λv=>[v]:=by unfold dh eQ;rw[Ya];rfl
    rw[this];exact W
   ·rw[T2.low o Zo Zo Zo];exact V9.M o a
  |succ m=>
   have ar:=zN j g.eqs.length;have VX:=zQ j;obtain⟨V,VJ⟩:=zO g.eqs j;obtain⟨row,Vt,Vs⟩:=VE.get j V VJ;have Vw:∀o,P o->H X T6 o=H X q o:=λo a=>(by have:=aV o a;rw[U3.low o Zo Zo Zo,UR o a]);have Vk:=Ub.c4 j (by rw[VN.1];omega);have Vu:=(Ub.M Vw).row Zd Vt;obtain⟨VO,WL,bV,b0,WM,rfl,UP,Vp,WH,Vq⟩:=Vs;have WI:=fu UP.len;have WJ:=fu Vp.1.len;have VK:=UP.len;have Vr:=UP.many;rw[show(dh V.left).length=V.left.length from by simp[dh]]at VK Vr;have Uy:=o4 rk (hd g).1 (Cb VJ);rw[show(V,j)=(V,j) from rfl]at Uy;generalize W9:(g.eqs.zipIdx.take j).foldl rk (hd g).1=Uk at U3 Uy;refine eg @U2 @U1 @U8 @ar @Vk @Vu ⟨?_⟩;refine dg (eS (k:=4) (b:=UI) (I:=0) (n:=4) (c:=E.ofList [.ax,.ax,.Z 0,.bH] 0 .nil) (aM Zo) Zo rfl Zd Zd Vq) ?_;generalize U4:aH X _ UI _=L;have UC:ay X L (.ptr UI 0)=some VO:=(by rw[<-U4,bB,aM Zo];rfl);have UE:∀o,o<UI->H X L o=H X T6 o:=λo a=>(by rw[<-U4];exact zR);clear U4;have T2:kX X am e (u+1) (u+1+1) (e+2) Uk (hd g).2 L (UI+1):=U3.M Zo Zo Zo Zo (λo l p=>UE o l);rw[<-UE _ Zo]at Up;refine bE @UC @VK ⟨?_⟩;refine cM (λU7 B D T4=>∃(i:Nat),B.g 3=some (.ptr (u+1+1+1) 0)/\B.g 54=some Uh/\B.g 55=some (.Z g.eqs.length)/\B.g 56=some (.Z j)/\B.aP=[⟨.collected e,[]⟩]/\B.g 8=some (.Z j)/\B.g 62=some VO/\B.g 63=some (.Z V.left.length)/\B.g 64=some (.Z i)/\i+U7=V.left.length
    /\kX X am e (u+1) (u+1+1) (e+2) ((V.left.zipIdx.take i).foldl (ie j) Uk) (hd g).2 D T4/\H X D e=some (.deferred (some [])))
    V.left.length ⟨0,af t3,af U8,af U1,af U2,U9,aC,aC,aC,cT,Zo,T2,Up⟩ ?_
   rintro U7 W4 T1 T5 ⟨i,t3,U8,U1,U2,U9,Uj,Ui,UX,UJ,ag,t,UM⟩;have WD:=t.le;cases U7 with
   |zero=>have ar:=zM i V.left.length;refine dA @UJ @UX @U2 @ar @VX ⟨?_⟩;rw[Zy Zx]at t;refine⟨m,Zo,j+1,af t3,af U8,af U1,aC,U9,Zo, ?_,UM⟩;rw[Uy];exact t|succ U7=>
    have ar:=zN i V.left.length;have Un:=zQ i;obtain⟨w,VM⟩:=zO V.left i;have Vx:∀o,P o->H X T1 o=H X q o:=λo a=>(by have:=aV o a;rw[t.low o Zo Zo Zo,UR o a]);have VG:=UP.c4 i (by simp[dh];omega);have VD:=(UP.M Vx).cell i [.str w] 0 (.str w) (by unfold dh;rw[Zt,VM];rfl) rfl;rw[ZF]at VG;rw[ZF,ZN]at VD;have Ue:=o4 (ie j) Uk (Cb VM);generalize W8:(V.left.zipIdx.take i).foldl (ie j) Uk=r at t Ue;have UK:ay X T1 (.ptr (u+1+1+1) 0)=some (.ptr (u+1+1) 0):=zW (t.low _ Zo Zo Zo) UZ;obtain⟨VW,WO,W6,TZ,U0,Uf,Ug,A⟩:=t.mx;have TY:fb X T1 9 (.agg [.Z 0,.str [],.Z 0,.zT,.zT,.Z 0,.str [],.Z 0,.zT,.Z 0,.Z 0]) (.map (u+1)) (.str w) true=some (.tuple [.agg (ik ((r w).getD lV)),.bool (r w).isSome]):=(by rw[pn t.map];unfold jb;cases r w<;>rfl);generalize V0:(r w).getD lV=f at TY;have Uz:ik f=[.Z f.kind,.str f.d.name,.Z f.d.at_,.bool f.d.ty.b,.bool f.d.ty.s,.Z f.d.ty.w,.str f.d.on,.Z f.d.cC,.bool f.d.no,.Z f.eq,.Z f.left]:=rfl;rw[Uz]at TY;refine cu @UJ @UX @Ui @t3 @ar @VG (Za @VD (Za @UK (Za (a8 TZ) (Za @U0 @TY)))) ⟨?_⟩;generalize Uv:aH X _ T5 _=O;have Uo:H X O T5=zP [.Z f.kind,.str f.d.name,.Z f.d.at_,.bool f.d.ty.b,.bool f.d.ty.s,.Z f.d.ty.w,.str f.d.on,.Z f.d.cC,.bool f.d.no,.Z f.eq,.Z f.left] 11:=(by rw[<-Uv,aM Zo];rfl);have UF:∀o,o<T5->H X O o=H X T1 o:=λo a=>(by rw[<-Uv];exact zR);clear Uv;have UN:kX X am e (u+1) (u+1+1) (e+2) r (hd g).2 O (T5+1):=t.M Zo Zo Zo Zo (λo l p=>UF o l);rw[<-UF _ Zo]at UM;cases U6:r w with
    |none=>have T8:ie j r (w,i)=r:=(by unfold ie;simp only[U6]);simp only[Z3];refine bE @UJ @Un ⟨?_⟩;exact⟨U7,Zo,i+1,af t3,af U8,af U1,af U2,U9,af Uj,af Ui,af UX,aC,Zo,by rw[Ue,T8];exact UN,UM⟩|some v=>
     have Vv:v=f:=(by rw[U6]at V0;exact V0);subst Vv;simp only[Z4];by_cases Ud:v.eq<0
     ·have Um:decide (v.eq<0)=true:=(by simp[Ud]);have T8:ie j r (w,i)=λx=>if x=w then some ⟨v.kind,v.d,j,i⟩else r x:=(by unfold ie;simp only[U6,Ud,ZL]);refine df (a8 Uo) @Um @Uj @UJ ⟨?_⟩;generalize U5:aH X (aH X O T5 _) T5 _=T7;have Va:H X T7 T5=zP [.Z v.kind,.str v.d.name,.Z v.d.at_,.bool v.d.ty.b,.bool v.d.ty.s,.Z v.d.ty.w,.str v.d.on,.Z v.d.cC,.bool v.d.no,.Z j,.Z i] 11:=(by rw[<-U5,aM Zo];rfl);have T3:∀o,o≠T5->H X T7 o=H X O o:=λo a=>(by rw[<-U5,ah Zo a,ah Zo a]);clear U5 Uo;have Us:kX X am e (u+1) (u+1+1) (e+2) r (hd g).2 T7 (T5+1):=⟨UN.le,UN.map.M (T3 _ Zo),by
       obtain⟨c,s,aW,V3,UT,UU,UV,UW⟩:=t.mx;exact⟨c,s,aW,by rw[T3 _ Zo,UF _ Zo];exact V3,UT,UU,UV.M (λo a=>by have:=UW o a;rw[T3 o Zo,UF o Zo]),λo a=>zL (UW o a)⟩,
       λo l p T9=>by rw[T3 o Zo];exact UN.low o l p T9⟩
      have VS:ay X T7 (.ptr (u+1+1+1) 0)=some (.ptr (u+1+1) 0):=(by rw[bB,T3 _ Zo,UF _ Zo, <-bB];exact UK);have W1:H X T7 (u+1+1)=some (.cells VW 2 .own):=(by rw[T3 _ Zo,UF _ Zo];exact TZ);refine dA @t3 @VS (a8 W1) @U0 (a8 Va) ⟨?_⟩;obtain⟨UA,Uc,Vd,UD⟩:=uU (u:=T5+1+7) (show(y X).aB<=u+1 by omega) Us.map w (.agg (ik ⟨v.kind,v.d,j,i⟩));refine d8 Uc ?_;refine bE @UJ @Un ⟨?_⟩;refine⟨U7,Zo,i+1,af t3,af U8,af U1,af U2,U9,af Uj,af Ui,af UX,aC,Zo, ?_,by rw[UD _ Zo,T3 _ Zo];exact UM⟩;rw[Ue,T8];refine⟨Zo, ?_, ?_,λo l p T9=>by rw[UD o p];exact Us.low o l p T9⟩
      ·have:(λx=>if x=w then some (z.agg (ik ⟨v.kind,v.d,j,i⟩))else jb r x)=jb (λx=>if x=w then some ⟨v.kind,v.d,j,i⟩else r x):=by funext x;unfold jb;by_cases h:x=w<;>simp[h]
       rw[<-this];exact Vd
      ·obtain⟨c,s,aW,V3,UT,UU,UV,UW⟩:=Us.mx;exact⟨c,s,aW,by rw[UD _ Zo];exact V3,UT,UU,UV.M (λo a=>by have:=UW o a;exact UD o Zo),λo a=>zL (UW o a)⟩
     ·have Um:decide (v.eq<0)=false:=(by simp[Ud]);have T8:ie j r (w,i)=r:=(by unfold ie;simp only[U6,Ud,ZJ]);refine df (a8 Uo) @Um @UJ @Un ⟨?_⟩;exact⟨U7,Zo,i+1,af t3,af U8,af U1,af U2,U9,af Uj,af Ui,af UX,aC,Zo,by rw[Ue,T8];exact UN,UM⟩
mutual
def rn:aX->List aX
 | .mk k a nm no t n args=> .mk k a nm no t n args::rp args
def rp:List aX->List aX
 |[]=>[]|e::l=>rn e++rp l
end
mutual
def IG{b:Type}(step:b->aX->b×Bool)(h:∀s e,(step s e).2=true):∀(e:aX) (s:b),np step s e=(rn e).foldl (λs e=>(step s e).1) s
 | .mk k a nm no t n args,s=>by rw[np,Zv (h _ _),rn,Z6];exact II step h args _
def II{b:Type}(step:b->aX->b×Bool)(h:∀s e,(step s e).2=true):∀(l:List aX) (s:b),lv step s l=(rp l).foldl (λs e=>(step s e).1) s
 |[],s=>by rw[lv,rp];rfl|e::l,s=>by rw[lv,rp,Y8,IG step h e s];exact II step h l _
end
def kA(V:cA):List (aA×Int):=V.left.zipIdx.map λx=>(x.1,(V.bM[x.2]?).getD 0)
def hU(t:aA->Option cB)(s:(aA->Option Int)×(Int×Int))(x:aA×Int):(aA->Option Int)×(Int×Int):=(λw=>if w=x.1 then some ((s.1 x.1).getD 0+1)else s.1 w,qS t s.1 s.2 x.1 x.2)
def gP(t:aA->Option cB)(Y:List GT)(k:Nat)(s:(aA->Option Int)×(Int×Int))(V:cA):(aA->Option Int)×(Int×Int):=
 (((kA V).foldl (hU t) s).1,u7 t Y k ((kA V).foldl (hU t) s).2 V.right)
def jd(Q:aA->Option Int)(f:Int×Int)(x:Int×cG):Int×Int:=if x.1≠1/\(Q x.2.name).getD 0=0 then g8 f 37 x.2.at_ else f
def j6(Y:List GT)(k:Nat)(g:GT):Int×Int:=if (jr Y g.name).getD 0<k then g8 (0,0) 24 g.at_ else(0,0)
def gZ(Y:List GT)(k:Nat)(g:GT):Int×Int:=
 (c3 g).foldl (jd (g.eqs.foldl (gP (c6 g) Y k) (λ_=>none,kt (c6 g) g (j6 Y k g))).1) (g.eqs.foldl (gP (c6 g) Y k) (λ_=>none,kt (c6 g) g (j6 Y k g))).2
def mR(Y:List GT):Nat->List GT->Int×Int
 |_,[]=>(0,0)|k,g::l=>if (gZ Y k g).1≠0 then gZ Y k g else mR Y (k+1) l
def l7(Y:List GT):Int×Int:=mR Y 0 Y
def qs(f:Int×Int){c:Int}(a:Int)(b:c≠0):(g8 f c a).1≠0:=by
 unfold g8;split
 ·exact b
 ·rename_i h;exact h
def F0{α:Type}(bad:α->Prop)[DecidablePred bad](c a:α->Int)(b:∀x,c x≠0):∀(l:List α) (f:Int×Int),(l.foldl (λf x=>if bad x then g8 f (c x) (a x)else f) f).1=0↔f.1=0/\∀x∈l,¬bad x:=by
 intro l;induction l with
 |nil=>intro f;simp|cons x l U=>
  intro f;rw[Z6,U];by_cases W:bad x
  ·have:=qs f (a x) (b x);simp[W,this]
  ·simp[W]
def w5(g:GT):List aA:=(c3 g).map λx=>x.2.name
def Ps{g:GT}{x:Int×cG}(h:x∈c3 g):x.1=1/\x.2∈g.cm\/x.1=2/\x.2∈g.out\/x.1=3/\x.2∈g.loc:=by simp only[c3,Zp,ZC]at h;rcases h with ⟨d,h,rfl⟩|⟨d,h,rfl⟩|⟨d,h,rfl⟩<;>simp[h]
def Po:∀(l:List (Int×cG)) (s:aA->Option Int) (f:Int×Int),(∀x∈l,0<x.1)->((l.foldl gI (s,f)).2.1=0↔f.1=0/\(l.map λx=>x.2.name).Nodup/\∀x∈l,¬0<(s x.2.name).getD 0):=by
 intro l;induction l with
 |nil=>intro s f _;simp|cons x l U=>
  intro s f h;rw[Z6];have i:=h x (Zr ..);rw[show gI (s,f) x=((gI (s,f) x).1,(gI (s,f) x).2) from rfl,U _ _ (λo a=>h o (Zw _ a))];simp only[gI,ZG,YC,Zq,ZC];constructor
  ·rintro⟨b,d,c⟩;by_cases W:0<(s x.2.name).getD 0
   ·rw[Zv W]at b;exact absurd b (qs f _ Zd)
   ·rw[Zi W]at b;refine⟨b,⟨?_,d⟩, ?_⟩
    ·rintro⟨o,a,j⟩;have:=c o a;rw[Zv j]at this;exact this (by simpa using i)
    ·rintro o (rfl|a)
     ·exact W
     ·have:=c o a;split at this
      ·exact absurd i (by simpa using this)
      ·exact this
  ·rintro⟨b,⟨d,c⟩,g⟩;have W:¬0<(s x.2.name).getD 0:=g x (.inl rfl);refine⟨by rw[Zi W];exact b,c,λo a=> ?_⟩;rw[Zi (λe=>d ⟨o,a,e⟩)];exact g o (.inr a)
def O4{g:GT}{t:aA->Option cB}{f:Int×Int}:(kt t g f).1=0↔f.1=0/\(w5 g).Nodup/\∀x∈c3 g,¬(t x.2.on=none/\x.2.on≠[]):=by unfold kt;have a:=F0 (λx:Int×cG=>t x.2.on=none/\x.2.on≠[]) (λ_=>23) (λx=>x.2.cC) (λ_=>Zd) (c3 g) ((c3 g).foldl gI (λ_=>none,f)).2;have b:(c3 g).foldl (jp t) ((c3 g).foldl gI (λ_=>none,f)).2=(c3 g).foldl (λf x=>if t x.2.on=none/\x.2.on≠[]then g8 f 23 x.2.cC else f) ((c3 g).foldl gI (λ_=>none,f)).2:=rfl;rw[b,a,Po _ _ _ (λx c=>by rcases Ps c with h|h|h<;>omega)];simp[w5,and_assoc]
def fs(w:aA)(l:List aA):Int:=((l.filter λx=>decide (x=w)).length:Int)
def tZ(w x:aA)(l:List aA):fs w (x::l)=(if x=w then 1 else 0)+fs w l:=by
 unfold fs;rw[YM];by_cases h:x=w
 ·simp[h];omega
 ·simp[h]
def yX(w:aA):fs w []=0:=rfl
def qg(w:aA)(l:List aA):0<=fs w l:=by unfold fs;omega
def Fb(w:aA)(l m:List aA):fs w (l++m)=fs w l+fs w m:=by unfold fs;rw[List.filter_append,ZH];omega
def Fc{w:aA}{l:List aA}:0<fs w l↔w∈l:=by
 induction l with
 |nil=>simp[yX]|cons x l U=>
  have:=qg w l;rw[tZ];by_cases h:x=w
  ·simp[h];omega
  ·have a:¬w=x:=λe=>h e.symm;simp[h,a,U]
def Ba(t:aA->Option cB):∀(l:List (aA×Int)) (s:(aA->Option Int)×(Int×Int)) (w:aA),((l.foldl (hU t) s).1 w).getD 0=(s.1 w).getD 0+fs w (l.map Prod.fst):=by
 intro l;induction l with
 |nil=>intro s w;simp[yX]|cons x l U=>
  intro s w;rw[Z6,U,ZG,tZ];simp only[hU];by_cases h:w=x.1
  ·subst h;simp;omega
  ·have a:¬x.1=w:=λe=>h e.symm;simp[h,a]
def SJ(t:aA->Option cB):∀(l:List (aA×Int)) (s:(aA->Option Int)×(Int×Int)),(∀w,0<=(s.1 w).getD 0)->((l.foldl (hU t) s).2.1=0↔s.2.1=0/\∀w∈l.map Prod.fst,∃v,t w=some v/\v.kind≠1/\(s.1 w).getD 0+fs w (l.map Prod.fst)<=1):=by
 intro l;induction l with
 |nil=>intro s _;simp|cons x l U=>
  intro s i;have G:∀w,0<=((hU t s x).1 w).getD 0:=by
   intro w;have:=i w;have:=i x.1;simp only[hU];split
   ·simp;omega
   ·assumption
  rw[Z6,U _ G];have N:=i x.1;constructor
  ·rintro⟨a,d⟩;have m:s.2.1=0/\∃v,t x.1=some v/\v.kind≠1/\(s.1 x.1).getD 0+1<=1:=by
    simp only[hU,qS]at a;cases r:t x.1 with
    |none=>rw[r]at a;exact absurd a (qs _ _ Zd)|some v=>
     rw[r]at a;simp only[]at a;split at a
     ·exact absurd a (qs _ _ Zd)
     ·rename_i p;exact⟨a,v,rfl,λe=>p (.inl e),by have:¬1<(s.1 x.1).getD 0+1:=λe=>p (.inr e);omega⟩
   refine⟨m.1,λw b=> ?_⟩;rw[ZG,Zq]at b;rw[ZG,tZ];by_cases c:w=x.1
   ·subst c;obtain⟨v,f,g,h⟩:=m.2;refine⟨v,f,g, ?_⟩;by_cases n:x.1∈l.map Prod.fst
    ·obtain⟨A,_,_,C⟩:=d _ n;simp only[hU,ZL,YF]at C ⊢;omega
    ·have:¬0<fs x.1 (l.map Prod.fst):=λe=>n (Fc.1 e)
     have:=qg x.1 (l.map Prod.fst);simp only[ZL];omega
   ·rcases b with b|b
    ·exact absurd b c
    ·obtain⟨v,f,g,h⟩:=d _ b;have j:¬x.1=w:=λe=>c e.symm;simp only[hU,c,ZJ]at h;exact⟨v,f,g,by simp only[j,ZJ];omega⟩
  ·rintro⟨a,d⟩;obtain⟨v,f,g,h⟩:=d x.1 Zs;rw[ZG,tZ,Zv rfl]at h;have L:=qg x.1 (l.map Prod.fst);refine⟨?_,λw b=> ?_⟩
   ·simp only[hU,qS,f];rw[Zi (by rintro(e|e);exact g e;omega)];exact a
   ·obtain⟨A,a7,bl,k⟩:=d w (by rw[ZG];exact Zw _ b);refine⟨A,a7,bl, ?_⟩;rw[ZG,tZ]at k;simp only[hU];by_cases c:w=x.1
    ·subst c;simp only[ZL,YF];simp only[ZL]at k;omega
    ·have j:¬x.1=w:=λe=>c e.symm;simp only[c,ZJ];simp only[j,ZJ]at k;omega
def AX(V:cA):(kA V).map Prod.fst=V.left:=by
 simp only[kA,Ya]
 have:(Prod.fst∘λx:aA×Nat=>(x.1,(V.bM[x.2]?).getD 0))=Prod.fst:=rfl
 rw[this];exact List.zipIdx_map_fst ..
def tJ(t:aA->Option cB)(Y:List GT)(k:Nat)(e:aX):Prop:=∀x∈rn e,(lQ x=true->(t x.name).isSome=true)/\(x.kind=25->∃j,jr Y x.name=some j/\j<k)
def aa8{t:aA->Option cB}{Y:List GT}{k:Nat}{f:Int×Int}{e:aX}:(u7 t Y k f e).1=0↔f.1=0/\tJ t Y k e:=by
 unfold u7 tJ;rw[IG _ (λ_ _=>rfl)];generalize rn e=l;induction l generalizing f with
 |nil=>simp|cons x l U=>
  rw[Z6,U];have g:(lp t Y k f x).1.1=0↔f.1=0/\(lQ x=true->(t x.name).isSome=true)/\(x.kind=25->∃j,jr Y x.name=some j/\j<k):=by
   simp only[lp,pE];have c:(lq t f x).1=0↔f.1=0/\(lQ x=true->(t x.name).isSome=true):=by
    unfold lq;by_cases h:lQ x=true
    ·rw[Zv h];by_cases b:(t x.name).isSome=true
     ·rw[Zv b];simp[b]
     ·rw[Zi b];simp[h,b,qs]
    ·rw[Zi h];simp[h]
   by_cases a:x.kind=25
   ·rw[Zv a];cases i:jr Y x.name with
    |none=>simp[qs,a]|some j=>
     simp only[];by_cases d:k<=j
     ·rw[Zv d]
      have:¬j<k:=Zo
      simp[qs,a,this]
     ·rw[Zi d,c]
      have:j<k:=Zo
      simp[a,this]
   ·rw[Zi a,c];simp[a]
  rw[g];simp only[Zq,forall_eq_or_imp,and_assoc]
def aaE(t:aA->Option cB)(Y:List GT)(k:Nat):∀(l:List cA) (s:(aA->Option Int)×(Int×Int)) (w:aA),((l.foldl (gP t Y k) s).1 w).getD 0=(s.1 w).getD 0+fs w (l.flatMap cA.left):=by intro l;induction l with|nil=>intro s w;simp[yX]|cons V l U=>intro s w;rw[Z6,U,YR,Fb];simp only[gP];rw[Ba,AX];omega
def aaF(t:aA->Option cB)(Y:List GT)(k:Nat):∀(l:List cA) (s:(aA->Option Int)×(Int×Int)),(∀w,0<=(s.1 w).getD 0)->((l.foldl (gP t Y k) s).2.1=0↔s.2.1=0/\(∀w∈l.flatMap cA.left,∃v,t w=some v/\v.kind≠1/\(s.1 w).getD 0+fs w (l.flatMap cA.left)<=1)/\∀V∈l,tJ t Y k V.right):=by
 intro l;induction l with
 |nil=>intro s _;simp|cons V l U=>
  intro s i;have p:∀w,0<=((gP t Y k s V).1 w).getD 0:=by intro w;simp only[gP];rw[Ba];have:=i w;have:=qg w ((kA V).map Prod.fst);omega
  rw[Z6,U _ p];have j:(gP t Y k s V).2.1=0↔(s.2.1=0/\∀w∈V.left,∃v,t w=some v/\v.kind≠1/\(s.1 w).getD 0+fs w V.left<=1)/\tJ t Y k V.right:=by simp only[gP];rw[aa8,SJ t _ _ i,AX]
  have m:∀w,((gP t Y k s V).1 w).getD 0=(s.1 w).getD 0+fs w V.left:=by intro w;simp only[gP];rw[Ba,AX]
  rw[j];simp only[m,YR,Fb,Zp,Zq,forall_eq_or_imp];constructor
  ·rintro⟨⟨⟨c,b⟩,d⟩,f,n⟩;refine⟨c,λw a=> ?_,d,n⟩;by_cases g:w∈l.flatMap cA.left
   ·obtain⟨v,a7,bl,h⟩:=f w g;exact⟨v,a7,bl,Zo⟩
   ·have r:¬0<fs w (l.flatMap cA.left):=λe=>g (Fc.1 e);have:=qg w (l.flatMap cA.left);obtain⟨v,a7,bl,h⟩:=b w (a.resolve_right g);exact⟨v,a7,bl,Zo⟩
  ·rintro⟨c,b,d,f⟩;refine⟨⟨⟨c,λw a=> ?_⟩,d⟩,λw a=> ?_,f⟩
   ·obtain⟨v,a7,bl,h⟩:=b w (.inl a);have:=qg w (l.flatMap cA.left);exact⟨v,a7,bl,Zo⟩
   ·obtain⟨v,a7,bl,h⟩:=b w (.inr a);exact⟨v,a7,bl,Zo⟩
def ac2(Q:aA->Option Int)(l:List (Int×cG))(f:Int×Int):(l.foldl (jd Q) f).1=0↔f.1=0/\∀x∈l,¬(x.1≠1/\(Q x.2.name).getD 0=0):=
 F0 (λx:Int×cG=>x.1≠1/\(Q x.2.name).getD 0=0) (λ_=>37) (λx=>x.2.at_) (λ_=>Zd) l f
def nn(v:cB):Int×cG:=(v.kind,v.d)
def π(k:Nat)(t:aA->Option cB)(x:aA×Nat)(w:aA):((ie k t x) w).map nn=(t w).map nn:=by
 unfold ie;cases h:t x.1 with
 |none=>rfl|some v=>
  simp;split
  ·by_cases a:w=x.1
   ·subst a;simp[h,nn]
   ·grind
  ·rfl
def F1{α:Type}(s:(aA->Option cB)->α->(aA->Option cB))(b:∀t x w,(s t x w).map nn=(t w).map nn):∀(l:List α) (t:aA->Option cB) (w:aA),(l.foldl s t w).map nn=(t w).map nn:=by intro l;induction l with|nil=>simp_all|cons a l U=>simp_all
def xN(g:GT)(w:aA):(c6 g w).map nn=((hd g).1 w).map nn:=
 F1 _ (λt x w=>F1 _ (λt o w=>π _ _ _ _) _ _ _) _ _ _
variable{t eu:aA->Option cB}
structure nv(X:bi)(d:E S)(c b a:Nat)(p:z)(k:Int)(bI:z)(f:Int×Int)(Q:aA->Option Int)(q:E S)(n:Nat):Prop where
 le:c<=n
 fY:dE X q b p k bI (.map a) f
 fs:h2 X q a (iy Q)
 low:∀o,o<c->o≠b->o≠a->H X q o=H X d o
def nv.M{e:E S}{a b c:Nat}{p bI:z}{k:Int}{f:Int×Int}{Q:aA->Option Int}(h:nv X e a b c p k bI f Q au ap)(l:b<a)(n:c<a)(r:ap<=aw)(d:∀o,o<ap->H X am o=H X au o):nv X e a b c p k bI f Q am aw:=by have m:=h.le;refine⟨Zo, ?_,h.fs.M (d _ Zo),λo g i j=>by rw[d o Zo];exact h.low o g i j⟩;have:=h.fY;unfold dE at*;rw[d _ Zo];exact this
def qc(V:cA)(i:Nat):Int:=(V.bM[i]?).getD 0
def Sq{V:cA}{i:Nat}{w:aA}(h:V.left[i]? =some w):(kA V)[i]? =some (w,qc V i):=by unfold kA;rw[Zt,Cb h];rfl
def Sr(V:cA):(kA V).length=V.left.length:=by simp[kA]
def OJ(U0:bZ X){P:Nat->Prop}{l r:Nat}{p bI:z}{k:Nat}{Y:List GT}{g:GT}(WD:(y X).aB<=u)(UL:(y X).aB<=l)(W3:(y X).aB<=r)(VJ:l<u)(W5:r<u)(UU:l≠r)
 (aV:∀o,P o->o<u/\o≠l/\o≠r)(Uz:iP X q P Y p)(UY:Y[k]? =some g)(V7:jQ X q P bI (c6 g))(UK:dE X q l p k bI (.map r) (0,0))(Vs:h2 X q r (iy λ_=>none)):
 aD X 52 [.ptr l 0] q u (λR D Z=>R=.tuple []/\dE X D l p k bI (.map r) (gZ Y k g)/\u<=Z/\∀o,o<u->o≠l->o≠r->H X D o=H X q o) zX:=by
 refine tX (Me X) (U0.none _ _ rfl) ?_;rw[Mf];unfold DR;obtain⟨T0,Wr,Wp,Wq,rfl,Vw,Vg,VV,VU⟩:=id Uz;have WG:=VU.wide;have Wd:=(Ze.1 UY).1;obtain⟨row,WN,V3⟩:=VU.get k g UY;have WE:=V3;have e1:=V3.dU;obtain⟨bK,bO,aE,U9,bc,bp,bG,WY,aR,rfl,W6,W7,W8,UW,VK⟩:=V3;have WF:=aV T0 Vw;have b8:ay X q (.ptr l 0)=some (.ptr T0 0):=by unfold dE at UK;rw[a8 UK];rfl
 have bV:ay X q (.ptr l 1)=some (.Z k):=by unfold dE at UK;rw[a8 UK];rfl
 have V0:=VV.c4 k (by rw[WG.1];omega);refine h8 ⟨?_⟩;generalize Us:aH X q u _=au;have TY:H X au u=zP [.ptr l 0] 1:=by rw[<-Us,aM WD];rfl
 have UR:aU X q u au (u+1):=by rw[<-Us];exact cf
 clear Us;have WQ:∀o,P o->H X au o=H X q o:=λo f=>UR.M o (aV o f).1;rw[<-UR.dn _ _ VJ]at b8 bV;rw[<-UR.dn _ _ WF.1]at Vg;have V4:=(VV.M WQ).row Zd WN;refine dF (a8 TY) @b8 (Za @bV (Za @Vg (Za @V0 @V4))) ⟨?_⟩;refine dg (eS (k:=6) (b:=u+1+13) (I:=0) (n:=6) (c:=E.ofList [.str [],.Z 0,.ax,.ax,.ax,.ax] 0 .nil) (aM Zo) Zo rfl Zd Zd e1) ?_;generalize Ut:aH X _ (u+1+13) _=am;have UB:H X am (u+1+13)=zP [.str g.name,.Z g.at_,bK,bO,aE,U9] 6:=by rw[<-Ut,aM Zo];rfl
 have Uq:aU X au (u+1) am (u+1+14):=by rw[<-Ut];exact cf
 clear Ut;rw[<-Uq.M _ Zo]at TY;have VE:aU X q u am (u+1+14):=⟨Zo,λo f=>by rw[Uq.M o Zo,UR.M o f]⟩;have WR:∀o,P o->H X am o=H X q o:=λo f=>VE.M o (aV o f).1;rw[<-Uq.dn _ _ Zo]at b8 bV;refine dF (a8 TY) @b8 (a8 UB) ⟨?_⟩;refine(Am (u:=u+1+15+12) (q:=am) U0 Zo (Uz.M (aI:=P) WR (λ_ h=>h)) (λo f=>zL (aV o f).1) g.name).Zm ?_;rintro R T4 U4 ⟨rfl,UT⟩;have Wf:=UT.le;rw[<-UT.M _ Zo]at TY UB;rw[<-UT.dn _ _ Zo]at b8 bV;have US:aU X q u T4 U4:=⟨Zo,λo f=>by rw[UT.M o Zo,VE.M o f]⟩;have V9:∀o,P o->H X T4 o=H X q o:=λo f=>US.M o (aV o f).1;have Ur:nv X T4 U4 l r (.ptr T0 0) k bI (0,0) (λ_=>none) T4 U4:=⟨Zg _,by unfold dE at*;rw[US.M _ VJ];exact UK,Vs.M (US.M _ W5),λ_ _ _ _=>rfl⟩;generalize WO:(jr Y g.name).getD 0=Uh;have Ub:j6 Y k g=if Uh<k then g8 (0,0) 24 g.at_ else(0,0):=by unfold j6;rw[WO]
 refine dF (a8 TY) @b8 @bV ⟨?_⟩;refine eO (λUQ D v=>UQ.g 1=some (.ptr u 0)/\UQ.g 2=some (.ptr (u+1+13) 0)/\UQ.aP=[]/\nv X T4 U4 l r (.ptr T0 0) k bI (j6 Y k g) (λ_=>none) D v) (λj V1=> ?_) ?_
 ·by_cases VT:Uh<k
  ·have ar:=zN Uh k;rw[Zv VT]at Ub;refine cg @ar (a8 TY) (a8 UB) ⟨?_⟩;refine(mS (q:=T4) U0 UL Ur.fY 24 g.at_).Zm ?_;rintro R UG Ve ⟨rfl,Vz,WA,VO⟩;refine bx ⟨?_⟩;exact V1 _ _ _ ⟨aC,aC,rfl,Zo,by rw[Ub];exact Vz,Ur.fs.M (VO _ (λe=>UU e.symm)),λo A s N=>VO o s⟩
  ·have ar:=zM Uh k;rw[Zi VT]at Ub;refine bo @ar ⟨?_⟩;exact V1 _ _ _ ⟨aC,aC,rfl,by rw[Ub];exact Ur⟩
 rintro B UG Ve ⟨t1,C,O,U8⟩;have WA:=U8.le;have Vm:H X UG u=zP [.ptr l 0] 1:=by rw[U8.low _ Zo Zo Zo];exact TY
 have Vo:H X UG (u+1+13)=zP [.str g.name,.Z g.at_,bK,bO,aE,U9] 6:=by rw[U8.low _ Zo Zo Zo];exact UB
 have Vb:∀o,P o->H X UG o=H X q o:=λo f=>by have:=aV o f;rw[U8.low o Zo this.2.1 this.2.2,V9 o f]
 show bu _ _;refine dF @t1 @C (Za (a8 Vm) (a8 Vo)) ⟨?_⟩;refine(O6 (u:=Ve) (q:=UG) U0 Zo UL Zo (λo f=>⟨zL (aV o f).1,(aV o f).2.1⟩) (V7.M (aI:=P) Vb (λ_ h=>h)) U8.fY (WE.M (aI:=P) Vb (λ_ h=>h)) trivial).Zm ?_;rintro R Ui Vf ⟨rfl,W0,Wg,VP⟩;have VF:nv X T4 U4 l r (.ptr T0 0) k bI (kt (c6 g) g (j6 Y k g)) (λ_=>none) Ui Vf:=⟨Zo,W0,U8.fs.M (VP _ Zo (λe=>UU e.symm)),λo A s N=>by rw[VP o Zo s];exact U8.low o A s N⟩;have Vp:H X Ui (u+1+13)=zP [.str g.name,.Z g.at_,bK,bO,aE,U9] 6:=by rw[VF.low _ Zo Zo Zo];exact UB
 have Va:=VK.wide;have VS:=UW.len;have WC:=UW.many;rw[Va.1]at VS WC;have V2:gZ Y k g=(c3 g).foldl (jd (g.eqs.foldl (gP (c6 g) Y k) (λ_=>none,kt (c6 g) g (j6 Y k g))).1) (g.eqs.foldl (gP (c6 g) Y k) (λ_=>none,kt (c6 g) g (j6 Y k g))).2:=rfl;generalize VY:((λ_=>none,kt (c6 g) g (j6 Y k g)):(aA->Option Int)×(Int×Int))=T2 at V2;have Vu:nv X T4 U4 l r (.ptr T0 0) k bI T2.2 T2.1 Ui Vf:=by rw[<-VY];exact VF
 have Vx:∀w,0<=(T2.1 w).getD 0/\(T2.1 w).getD 0<=((0:Nat):Int)*1048576:=by intro w;rw[<-VY];simp
 refine dF @C (a8 Vp) @VS ⟨?_⟩;refine dN ?_;refine cM (λm B D v=>∃(j:Nat),B.g 1=some (.ptr u 0)/\B.g 2=some (.ptr (u+1+13) 0)/\B.aP=[]/\B.g 49=some U9/\B.g 50=some (.Z g.eqs.length)/\B.g 51=some (.Z j)/\j+m=g.eqs.length
  /\nv X T4 U4 l r (.ptr T0 0) k bI ((g.eqs.take j).foldl (gP (c6 g) Y k) T2).2 ((g.eqs.take j).foldl (gP (c6 g) Y k) T2).1 D v/\(∀w,0<=(((g.eqs.take j).foldl (gP (c6 g) Y k) T2).1 w).getD 0/\(((g.eqs.take j).foldl (gP (c6 g) Y k) T2).1 w).getD 0<=(j:Int)*1048576))
  g.eqs.length ⟨0,af t1,af C,O,aC,aC,cT,Zo,Vu,Vx⟩ ?_
 clear t1 C O;rintro m B UP T6 ⟨j,t1,C,O,T7,T3,t51,V1,T1,VH⟩;have Wh:=T1.le;have Vn:H X UP u=zP [.ptr l 0] 1:=by rw[T1.low _ Zo Zo Zo];exact TY
 have Vq:H X UP (u+1+13)=zP [.str g.name,.Z g.at_,bK,bO,aE,U9] 6:=by rw[T1.low _ Zo Zo Zo];exact UB
 have Vc:∀o,P o->H X UP o=H X q o:=λo f=>by have:=aV o f;rw[T1.low o Zo this.2.1 this.2.2,V9 o f]
 cases m with
 |zero=>
  have ar:=zM j g.eqs.length;rw[Zy Zo]at T1;generalize g.eqs.foldl (gP (c6 g) Y k) T2=G at T1 V2;refine dA @t51 @T3 @C @ar (a8 Vq) ⟨?_⟩;refine(wj U0 Zo).Zm ?_;rintro R T5 Wn ⟨rfl,rfl,UI,WT,WU,WV⟩;generalize Wk:T6+1=bv at*;have VA:∀o,P o->H X T5 o=H X q o:=λo f=>by rw[UI.M o (zL (aV o f).1),Vc o f]
  have W1:dE X T5 l (.ptr T0 0) k bI (.map r) G.2:=by have:=T1.fY;unfold dE at*;rw[UI.M l Zo];exact this
  have Vj:H X T5 u=zP [.ptr l 0] 1:=by rw[UI.M _ Zo];exact Vn
  refine dN ?_;refine wk (P:=P) (g:=g) (bc:=bc) (bp:=bp) (bG:=bG) (bK:=bK) (bO:=bO) (aE:=aE) U0 (λi D v=>kR X T5 bv l r (.ptr T0 0) k bI (.map r) (((c3 g).take i).foldl (jd G.1) G.2) G.1 D v) Zo Zo Zo Zo
   (W6.M VA) (W7.M VA) (W8.M VA) WT WU WV (λi D v h=>⟨h.le,λo f=>h.low o (zL (aV o f).1) (aV o f).2.1 (aV o f).2.2⟩)
   (λi au ap am aw h W9 UY=>h.M Zo Zo W9 UY) (λD Up=>⟨Zg _,by unfold dE at*;rw[Up.M _ Zo];exact W1,(T1.fs.M (UI.M _ Zo)).M (Up.M _ Zo),λo f _ _=>Up.M o f⟩) ?_ ?_
  ·intro mk i U3 d U7 U5 ag t Un Vr;rw[o4 (jd G.1) _ ag];generalize ((c3 g).take i).foldl (jd G.1) G.2=bm at t ⊢;have VQ:=t.le;have W4:cQ d=[.str d.name,.Z d.at_,.bool d.ty.b,.bool d.ty.s,.Z d.ty.w,.str d.on,.Z d.cC,.bool d.no]:=rfl;rw[W4];unfold lo;refine bx ⟨?_⟩;generalize Uv:aH X _ U5 _=UA;have Ul:H X UA U5=zP [.str d.name,.Z d.at_,.bool d.ty.b,.bool d.ty.s,.Z d.ty.w,.str d.on,.Z d.cC,.bool d.no] 8:=(by rw[<-Uv,aM Zo];rfl);have V8:∀o,o<U5->H X UA o=H X U7 o:=λo f=>(by rw[<-Uv];exact zR);clear Uv;refine⟨by rw[V8 _ Zo];exact Vr, ?_⟩;generalize Uw:aH X UA (bv+1) _=T9;have Um:H X T9 (bv+1)=some (mk .busy none):=(by rw[<-Uw,aM Zo]);have VB:∀o,o≠bv+1->H X T9 o=H X UA o:=λo f=>(by rw[<-Uw,ah Zo f]);clear Uw;have TZ:=t.M (am:=T9) (aw:=U5+1) Zo Zo Zo (λo A s=>by rw[VB o s,V8 o A]);rw[<-VB _ Zo]at Ul;have Uo:H X T9 bv=some (.deferred (some [])):=(by rw[VB _ Zo,V8 _ Zo];exact Un);have bn:ay X T9 (.ptr u 0)=some (.ptr l 0):=(by rw[a8 (show H X T9 u=_ by rw[TZ.low _ Zo Zo Zo];exact Vj)];rfl);have Vd:ay X T9 (.ptr l 3)=some (.map r):=(by have:=TZ.fY;unfold dE at this;rw[a8 this];rfl);have VR:fb X T9 9 (.Z 0) (.map r) (.str d.name) false=some (.Z ((G.1 d.name).getD 0)):=(by rw[pn TZ.seen];unfold iy;cases G.1 d.name<;>rfl);have UD:∀D v,kR X T5 bv l r (.ptr T0 0) k bI (.map r) (jd G.1 bm (U3,d)) G.1 D v->H X D bv=some (.deferred (some []))->(z.bool true=z.bool true/\kR X T5 bv l r (.ptr T0 0) k bI (.map r) (jd G.1 bm (U3,d)) G.1 (aH X D (bv+1) (some (mk .ready none))) v/\H X (aH X D (bv+1) (some (mk .ready none))) bv=some (.deferred (some []))/\H X (aH X D (bv+1) (some (mk .ready none))) (bv+1)=some (mk .ready none)):=λD v h s=>
    ⟨rfl,h.M Zo Zo (Zg _) (λo A s=>ah Zo s),by rw[ah Zo Zo];exact s,aM Zo⟩
   refine h8 ⟨?_⟩;refine dN ?_;by_cases UZ:U3=1
   ·have ar:decide (U3≠1)=false:=(by simp[UZ]);have UM:jd G.1 bm (U3,d)=bm:=(by unfold jd;rw[Zi (by simp[UZ])]);refine bo @ar ⟨?_⟩;rw[UM]at UD ⊢;exact⟨⟨.busy,none,Um⟩,UD _ _ (TZ.M Zo Zo Zo (λ_ _ _=>rfl)) Uo⟩
   ·have ar:decide (U3≠1)=true:=(by simp[UZ]);by_cases Uf:(G.1 d.name).getD 0=0
    ·have Uk:decide ((G.1 d.name).getD 0=0)=true:=(by simp[Uf]);have UM:jd G.1 bm (U3,d)=g8 bm 37 d.at_:=(by unfold jd;rw[Zv ⟨UZ,Uf⟩]);refine cu @ar @t1 @bn @Vd (a8 Ul) @VR @Uk ⟨?_⟩;refine(mS (q:=T9) U0 UL TZ.fY 37 d.at_).Zm ?_;rintro R WX Wo ⟨rfl,W2,Wi,Ua⟩;refine bx ⟨?_⟩;rw[UM]at UD ⊢;have We:=TZ.le;exact⟨⟨.busy,none,by rw[Ua _ Zo];exact Um⟩,UD _ _ ⟨Zo,W2,TZ.seen.M (Ua _ Zo),λo A s N=>by rw[Ua o s];exact TZ.low o A s N⟩ (by rw[Ua _ Zo];exact Uo)⟩
    ·have Uk:decide ((G.1 d.name).getD 0=0)=false:=(by simp[Uf]);have UM:jd G.1 bm (U3,d)=bm:=(by unfold jd;rw[Zi (λh=>Uf h.2)]);refine cu @ar @t1 @bn @Vd (a8 Ul) @VR @Uk ⟨?_⟩;rw[UM]at UD ⊢;exact⟨⟨.busy,none,Um⟩,UD _ _ (TZ.M Zo Zo Zo (λ_ _ _=>rfl)) Uo⟩
  ·intro U7 U5 t Un;rw[Yx]at t;have VQ:=t.le;rw[<-V2]at t;show ig X [] _ _ _ _ _;simp only[nZ,ni,O];refine⟨by show(y X).aB<=bv;omega,Un, ?_⟩;show kc _ _ _ _ _;refine⟨rfl, ?_,Zo,λo A s N=> ?_⟩
   ·have:=t.fY;unfold dE at*;rw[ah Zo Zo];exact this
   ·rw[ah Zo Zo,t.low o Zo s N,UI.M o Zo,T1.low o Zo s N,US.M o A]
 |succ m=>
  have ar:=zN j g.eqs.length;have Vk:=zQ j;obtain⟨V,VW⟩:=zO g.eqs j;obtain⟨Ws,WM,WL⟩:=VK.get j V VW;have V0:=UW.c4 j (by rw[Va.1];omega);have V4:=(UW.M Vc).row Zd WM;obtain⟨Ug,Vh,WZ,Wa,Vi,rfl,Uc,Ud,WH,WI⟩:=WL;have VX:=Uc.len;have WK:=Uc.many;have Ue:=Ud.1.len;have WJ:=Ud.1.many;rw[show(dh V.left).length=V.left.length from by simp[dh]]at VX WK;rw[Zj]at Ue WJ;have V5:=o4 (gP (c6 g) Y k) T2 VW;generalize Wc:(g.eqs.take j).foldl (gP (c6 g) Y k) T2=UF at T1 V5 VH;refine eg @t51 @T3 @T7 @ar @V0 @V4 ⟨?_⟩;refine dg (eS (k:=4) (b:=T6) (I:=0) (n:=4) (c:=E.ofList [.ax,.ax,.Z 0,.bH] 0 .nil) (aM Zo) Zo rfl Zd Zd WI) ?_;generalize Uu:aH X _ T6 _=T5;have VD:H X T5 T6=zP [Ug,Vh,.Z V.at_,Vi] 4:=by rw[<-Uu,aM Zo];rfl
  have WP:∀o,o<T6->H X T5 o=H X UP o:=λo f=>by rw[<-Uu];exact zR
  clear Uu;have Vv:=T1.M (am:=T5) (aw:=T6+1) Zo Zo Zo (λo A=>WP o A);refine m0 (a8 VD) @VX ⟨?_⟩;refine dN ?_;refine cM (λUO B D v=>∃(i:Nat),B.g 1=some (.ptr u 0)/\B.g 2=some (.ptr (u+1+13) 0)/\B.aP=[]/\B.g 49=some U9/\B.g 50=some (.Z g.eqs.length)/\B.g 51=some (.Z j)/\B.g 6=some (.ptr T6 0)/\B.g 56=some Ug/\B.g 57=some (.Z V.left.length)/\B.g 58=some (.Z i)/\i+UO=V.left.length
   /\nv X T4 U4 l r (.ptr T0 0) k bI (((kA V).take i).foldl (hU (c6 g)) UF).2 (((kA V).take i).foldl (hU (c6 g)) UF).1 D v/\(∀w,0<=((((kA V).take i).foldl (hU (c6 g)) UF).1 w).getD 0/\((((kA V).take i).foldl (hU (c6 g)) UF).1 w).getD 0<=(j:Int)*1048576+i)
   /\T6+1<=v/\H X D T6=zP [Ug,Vh,.Z V.at_,Vi] 4)
   V.left.length ⟨0,af t1,af C,O,af T7,af T3,af t51,aC,aC,aC,cT,Zo,Vv,λw=>by simpa using VH w,Zo,VD⟩ ?_
  clear t1 C O T7 T3 t51;rintro UO UQ U7 U5 ⟨i,t1,C,O,T7,T3,t51,T8,U6,U1,U2,ag,t,UJ,Wj,UC⟩;have VQ:=t.le;have VC:H X U7 u=zP [.ptr l 0] 1:=by rw[t.low _ Zo Zo Zo];exact TY
  have UE:∀o,P o->H X U7 o=H X q o:=λo f=>by have:=aV o f;rw[t.low o Zo this.2.1 this.2.2,V9 o f]
  cases UO with
  |zero=>
   have UH:=zM i V.left.length;rw[Zy (by rw[Sr];omega)]at t UJ;refine cu @U2 @U1 @t1 @T8 @UH (a8 VC) (a8 UC) ⟨?_⟩;refine(aa9 (u:=U5) (q:=U7) U0 Zo UL Zo (λo f=>⟨zL (aV o f).1,(aV o f).2.1⟩) (V7.M (aI:=P) UE (λ_ h=>h)) (Uz.M (aI:=P) UE (λ_ h=>h)) t.fY (bF.M UE _ _ WH)).Zm ?_;rintro R UA WS ⟨rfl,Uy,WB,UN⟩;refine bE @t51 @Vk ⟨?_⟩;refine⟨m,Zo,j+1,af t1,af C,O,af T7,af T3,aC,Zo, ?_, ?_⟩
   ·rw[V5];exact⟨Zo,Uy,t.fs.M (UN _ Zo (λe=>UU e.symm)),λo A s N=>by rw[UN o Zo s];exact t.low o A s N⟩
   ·rw[V5];intro w;have:=UJ w;simp only[gP];constructor
    ·exact this.1
    ·have s:=this.2;have N:i<=1048576:=Zo
     push_cast
     omega
  |succ UO=>
   have UH:=zN i V.left.length;have Vl:=zQ i;obtain⟨w,VZ⟩:=zO V.left i;have UX:=Uc.c4 i (by simp[dh];omega);have UV:=(Uc.M UE).cell i [.str w] 0 (.str w) (by unfold dh;rw[Zt,VZ];rfl) rfl;rw[ZF]at UX;rw[ZF,ZN]at UV;have V6:=o4 (hU (c6 g)) UF (Sq VZ);generalize Wb:((kA V).take i).foldl (hU (c6 g)) UF=Wt at t V6 UJ;have Vy:=UJ w;refine dF @U2 @U1 (Za @U6 (Za @T8 (Za @UH (Za @UX (Za @UV (Za (a8 UC) @Ue)))))) ⟨?_⟩;refine dN ?_;refine dF @U2 @U1 (Za @U6 (Za @T8 (Za @UH (Za @UX (Za @UV (Za (a8 UC) @Ue)))))) ⟨?_⟩;refine dN ?_;refine dF @U2 @U1 (Za @U6 (Za @T8 (Za @UH (Za @UX (Za @UV (Za (a8 UC) @Ue)))))) ⟨?_⟩;refine eO (λL D v=>L.g 1=some (.ptr u 0)/\L.g 2=some (.ptr (u+1+13) 0)/\L.aP=[]/\L.g 49=some U9/\L.g 50=some (.Z g.eqs.length)/\L.g 51=some (.Z j)/\L.g 6=some (.ptr T6 0)/\L.g 56=some Ug/\L.g 57=some (.Z V.left.length)/\L.g 58=some (.Z i)/\L.g 8=some (.str w)/\L.g 9=some (.Z (qc V i))/\D=U7/\v=U5) (λWm VN=> ?_) ?_
   ·by_cases VL:i<V.bM.length
    ·have Uj:=zN i V.bM.length;obtain⟨a,VG⟩:∃a,V.bM[i]? =some a:=⟨_,Zb VL⟩;have VM:=Ud.1.c4 i (by rw[Zj];exact VL);have VI:=(Ud.1.M UE).cell i [sN a] 0 (sN a) (by rw[Zt,VG];rfl) rfl;rw[ZF]at VM;rw[ZF,ZN]at VI;have Ux:qc V i=a:=(by unfold qc;rw[VG];rfl);refine dA @Uj @T8 (a8 UC) @VM @VI ⟨?_⟩;exact VN _ _ _ ⟨af t1,af C,O,af T7,af T3,af t51,af T8,af U6,af U1,af U2,aC,by refine o6 ⟨?_⟩;rw[Ux];rfl,rfl,rfl⟩
    ·have Uj:=zM i V.bM.length;have Ux:qc V i=0:=(by unfold qc;rw[Yt Zo];rfl);refine bo @Uj ⟨?_⟩;exact VN _ _ _ ⟨af t1,af C,O,af T7,af T3,af t51,af T8,af U6,af U1,af U2,aC,by refine o6 ⟨?_⟩;rw[Ux],rfl,rfl⟩
   ·clear t1 C O T7 T3 t51 T8 U6 U1 U2;rintro L D v ⟨t1,C,O,T7,T3,t51,T8,U6,U1,U2,WW,t9,rfl,rfl⟩;show bu _ _;refine df @t1 @WW @t9 (a8 VC) ⟨?_⟩;refine(Sn U0 Zo UL W3 Zo Zo UU t.fY (V7.M (aI:=P) UE (λ_ h=>h)) (λo f=>⟨zL (aV o f).1,(aV o f).2.1,(aV o f).2.2⟩) t.fs w (qc V i) ⟨Vy.1,Zo⟩).Zm ?_;rintro R UA WS ⟨rfl,Uy,Vt,WB,UN⟩;refine bE @U2 @Vl ⟨?_⟩;refine⟨UO,Zo,i+1,af t1,af C,O,af T7,af T3,af t51,af T8,af U6,af U1,aC,Zo, ?_, ?_,Zo,by rw[UN _ Zo Zo Zo];exact UC⟩
    ·rw[V6];exact⟨Zo,Uy,Vt,λo A s N=>by rw[UN o Zo s N];exact t.low o A s N⟩
    ·rw[V6];intro x;have Wl:=UJ x;simp only[hU];split
     ·simp only[YF];push_cast;omega
     ·push_cast;omega
def Tm{C:al}{q:E S}{u r pos c:Nat}{s:aA}(K:C.aB<=r)(h:H C q r=some (.iH s pos))(a:s[pos]? =some c)(f:c<128):
 jt C fO true q u (fc (.ptr r 0))=some (.cJ (.tuple [.zV,.Z (pos:Int),.int .i32 (c:Int)]) (aH C q r (some (.iH s (pos+1)))) u):=by
 have g:=(Ze.1 a).1;have b:Nat.blt pos s.length=true:=by simp[Nat.blt];omega
 have d:Nat.blt c 128=true:=by simp[Nat.blt];omega
 have e:eB C r=true:=de K;simp only[jt,fc,e,cI,h,b,jz,a,d,aF.setObj,du];rfl
def Tk{C:al}{q:E S}{u r pos:Nat}{s:aA}(K:C.aB<=r)(h:H C q r=some (.iH s pos))(d:s.length<=pos):
 jt C fO true q u (fc (.ptr r 0))=some (.val (.tuple [.zT])):=by
 have a:Nat.blt pos s.length=false:=by cases c:Nat.blt pos s.length with|false=>rfl|true=>simp[Nat.blt]at c;omega
 have b:eB C r=true:=de K;simp only[jt,fc,b,cI,h,a,ga]
def F4{I:Option ck}{q D:E S}{u Z:Nat}{T:aY}{v:z}(h:I=some (.cJ v D Z))(k:T v D Z):o5 I q u T:=by subst h;exact⟨k⟩
def F3{I:Option ck}{q:E S}{u:Nat}{T:aY}{v:z}(h:I=some (.val v))(k:T v q u):o5 I q u T:=by subst h;exact⟨k⟩
def AA{c:Nat}(h:fh c=true):(97<=c/\c<=122)\/(65<=c/\c<=90)\/(48<=c/\c<=57)\/c=95:=by simp[fh,j3,fa]at h;omega
def TL(i:bZ X){c:Nat}(j:fh c=true):aD X 140 [.int .i32 (c:Int)] q u (λR D Z=>R=.zT/\D=q/\u<=Z) zX:=by
 refine Fd i (Kn ..) ?_;unfold CT;rcases AA j with h|h|h|h
 ·have a:decide ((c:Int)<97)=false:=z2;have b:decide ((122:Int)<(c:Int))=false:=z2;refine bE @a @b ⟨?_⟩;exact⟨rfl,rfl,Zo⟩
 ·have a:decide ((c:Int)<97)=true:=z1;have b:decide ((c:Int)<65)=false:=z2;have d:decide ((90:Int)<(c:Int))=false:=z2;refine cg @a @b @d ⟨?_⟩;exact⟨rfl,rfl,Zo⟩
 ·have a:decide ((c:Int)<97)=true:=z1;have b:decide ((c:Int)<65)=true:=z1;have d:decide ((c:Int)<48)=false:=z2;have e:decide ((57:Int)<(c:Int))=false:=z2;refine df @a @b @d @e ⟨?_⟩;exact⟨rfl,rfl,Zo⟩
 ·have a:decide ((c:Int)<97)=true:=z1;have b:decide ((c:Int)<65)=false:=z2;have d:decide ((90:Int)<(c:Int))=true:=z1;have e:decide ((c:Int)<48)=false:=z2;have f:decide ((57:Int)<(c:Int))=true:=z1;have g:decide ((c:Int)≠95)=false:=by simp only[Zc,ne_eq,Decidable.not_not];omega
  refine eg @a @b @d @e @f @g ⟨?_⟩;exact⟨rfl,rfl,Zo⟩
def abc{C:al}{s:aA}{T:aY}(k:T (.ptr u 0) (aH C q u (some (.iH s 0))) (u+1)):ek (BJ C q u (.str s)) q u T:=d8 (by simp only[BJ,fE,gi,du]) k
def Om:b7 X q .eql 4 false .zT .zV=some .zT:=Zk
def Rt(d:bZ X){s:aA}(C:∀c∈s,fh c=true)(a:(y X).aB<=u):
 aD X 141 [.str s,.func (.func 140) [] []] q u (λR D Z=>R=.Z (-1)/\aU X q u D Z) zX:=by
 refine Fd d (Kp ..) ?_;unfold CU;refine Fd d (KN ..) ?_;unfold C7;refine abc ?_;generalize e:aH X q u _=au;have v:H X au u=some (.iH s 0):=by rw[<-e,aM a]
 have A:aU X q u au (u+1):=by rw[<-e];exact cf
 clear e;refine bx ⟨?_⟩;refine cM (λm B D r=>∃(j:Nat),B.g 1=some (.func (.func 140) [] [])/\B.g 2=some .zV/\B.g 10=some (.ptr u 0)/\j+m=s.length/\H X D u=some (.iH s j)/\aU X q u D r/\u+1<=r)
  s.length ⟨0,aC,aC,aC,Zo,v,A,Zo⟩ ?_
 rintro m B am aw ⟨j,t1,t,g,N,k,b,P⟩;cases m with
 |zero=>refine bo @g ⟨?_⟩;refine F3 (Tk a k Zo) ?_;refine bx ⟨?_⟩;exact⟨rfl,b⟩|succ m=>
  obtain⟨c,n⟩:=zO s j;have p:=C c (Zl n);have x:c<128:=zL (AA p);refine bo @g ⟨?_⟩;refine F4 (Tm a k n x) ?_;refine bo @t1 ⟨?_⟩;generalize f:aH X am u _=i;have w:H X i u=some (.iH s (j+1)):=by rw[<-f,aM a]
  have l:aU X q u i aw:=⟨b.le,λo G=>by rw[<-f,ah a Zo];exact b.M o G⟩;clear f;refine(TL d p).Zm ?_;rintro R L T0 ⟨rfl,rfl,O⟩;refine bE @t @Om ⟨?_⟩;refine⟨m,Zo,j+1,af t1,af t,af g,Zo,w,⟨zL l.le,l.M⟩,Zo⟩
def HZ:List aA:=[[110,111,100,101],[114,101,116,117,114,110,115],[118,97,114],[108,101,116],[116,101,108],[119,104,101,110],[110,111,116],[111,114],[120,111,114],[97,110,100],[112,114,101],[102,98,121],[105,102],[116,104,101,110],[101,108,115,101],[109,101,114,103,101],[116,114,117,101],[102,97,108,115,101]]
def aaY:∀w∈HZ,w∈mu:=by decide
structure kl(X:bi):Prop where
 aB:2<X.aB
 at_:∀q,∃b aE,ay X q (.ptr 3 0)=some aE/\cl X q (λo=>o<X.aB) b aE 1 (dh HZ)
variable{s:aA}
def PH:b7 X q .eql 138 true .nilIface .nilIface=some .zV:=Zk
def PI(b:Nat):b7 X q .eql 138 true (.iface 207 (.ptr b 0)) .nilIface=some .zT:=Zk
def Fl(p:bZ X){b:Nat}{aE:z}{P:Nat->Prop}{dL:List aA}{v:Bool}(K:cl X q P b aE 1 (dh dL))(t:decide (s∈dL)=v):
 aD X 48 [aE,.str s] q u (λR D Z=>R=.bool v/\aU X q u D Z) zX:=by
 refine Fd p (Mb ..) ?_;unfold DO;refine aD.mono (T:=λR D Z=>(∃i:Int,R=.Z i/\decide (0<=i)=v)/\aU X q u D Z) (ab:=λ_ _ _=>False) ?_ ?_ (λ_ _ _ h=>h.elim)
 ·refine Fd p (CB ..) ?_;unfold yr;have r:=K.len;have G:=K.many;rw[show(dh dL).length=dL.length from by simp[dh]]at r G;refine bo @r ⟨?_⟩;refine cM (λm B D L=>∃(j:Nat),B.g 0=some aE/\B.g 1=some (.str s)/\B.g 7=some (.Z dL.length)/\B.g 8=some (.Z j)/\j+m=dL.length/\s∉dL.take j/\D=q/\L=u)
   dL.length ⟨0,aC,aC,aC,cT,Zo,Zs,rfl,rfl⟩ ?_
  rintro m B am aw ⟨j,t0,t1,c,n,N,k,rfl,rfl⟩;cases m with
  |zero=>have d:=zM j dL.length;rw[Zy Zo]at k;refine cg @n @c @d ⟨?_⟩;exact⟨⟨-1,rfl,by rw[<-t];simp[k]⟩,aU.refl _ _⟩|succ m=>
   have d:=zN j dL.length;have x:=zQ j;obtain⟨w,l⟩:=zO dL j;have g:=K.c4 j (by simp[dh];omega);have f:=K.cell j [.str w] 0 (.str w) (by unfold dh;rw[Zt,l];rfl) rfl;rw[ZF]at g;rw[ZF,ZN]at f;by_cases a:s=w
   ·have e:decide (s=w)=true:=(by simp[a]);have C:s∈dL:=a▸Zl l;refine cu @n @c @t1 @t0 @d @g (Za @f @e) ⟨?_⟩;exact⟨⟨j,rfl,by rw[<-t];simp[C]⟩,aU.refl _ _⟩
   have e:decide (s=w)=false:=(by simp[a]);refine cu @n @c @t1 @t0 @d @g (Za @f (Za @e @x)) ⟨?_⟩;exact⟨m,Zo,j+1,af t0,af t1,af c,aC,Zo,by rw[ZD,l];simp[k,a],rfl,rfl⟩
 ·rintro R au ap ⟨⟨i,rfl,ag⟩,A⟩;refine bx ⟨?_⟩;exact⟨by rw[<-ag],A⟩
def Iw(e:bZ X)(t:cH)(p:(y X).aB<=u):aD X 143 [.agg (cP t)] q u (λR D Z=>R=.str (hW t)/\aU X q u D Z) zX:=by
 refine Fd e (Kt ..) ?_;unfold CW;have r:cP t=[.bool t.b,.bool t.s,.Z t.w]:=rfl;rw[r];refine bx ⟨?_⟩;refine c7 (λau=>H X au u=zP [.bool t.b,.bool t.s,.Z t.w] 3/\aU X q u au (u+1)) ⟨aM p,cf⟩ ?_;rintro au ⟨m,n⟩;refine(qY e t Zo).Zm ?_;rintro R am aw ⟨rfl,i⟩;have v:=i.le;have d:=n.trans i;have g:H X am u=zP [.bool t.b,.bool t.s,.Z t.w] 3:=by rw[i.M _ Zo];exact m
 have b8:ay X am (.ptr u 0)=some (.bool t.b):=by rw[a8 g];rfl
 have bV:ay X am (.ptr u 1)=some (.bool t.s):=by rw[a8 g];rfl
 have b0:ay X am (.ptr u 2)=some (.Z t.w):=by rw[a8 g];rfl
 cases b:gw t with
 |false=>refine bx ⟨?_⟩;exact⟨by simp[hW,b],d⟩|true=>
  cases a:t.b with
  |true=>rw[a]at b8;refine bo @b8 ⟨?_⟩;exact⟨by simp[hW,b,a],d⟩|false=>
   rw[a]at b8;have A:1<=t.w/\t.w<=64:=(by simpa[gw,a]using b);obtain⟨w,k⟩:=Yl (by omega:0<=t.w);rw[k]at b0;have ag:fC t.w.toNat=fC w:=(by rw[k];rfl);have x:(fC w).length<=2:=(by unfold fC;split<;>simp);have j:∀q c,b7 X q .add 9 true (.str [c]) (.str (fC w))=some (.str (c::fC w)):=λq c=>by
    have:Nat.ble ([c].length+(fC w).length) 1000000000=true:=de Zx
    simp only[b7,oL,this,cI];rfl
   cases f:t.s with
   |true=>rw[f]at bV;refine cg @b8 @bV @b0 ⟨?_⟩;refine(wL e Zo).Zm ?_;rintro R l s ⟨rfl,rfl,rfl⟩;refine bo @j ⟨?_⟩;exact⟨by simp[hW,b,a,f,ag],d⟩
   |false=>rw[f]at bV;refine cg @b8 @bV @b0 ⟨?_⟩;refine(wL e Zo).Zm ?_;rintro R l s ⟨rfl,rfl,rfl⟩;refine bo @j ⟨?_⟩;exact⟨by simp[hW,b,a,f,ag],d⟩
def RD{c:Nat}(h:fh c=true):c<256:=zL (AA h)
def acT(g:e5 X)(G:g2 X)(a:sa s)(T8:(y X).aB<=u):
 aD X 142 [.str s] q u (λR D Z=>R=.zT/\aU X q u D Z) zX:=by
 refine Fd g.tobZ (Kr ..) ?_;unfold CV;cases s with
 |nil=>exact absurd rfl a.ne|cons c l=>
  cases l with
  |nil=>have v:decide (((1:Nat):Int)<2)=true:=rfl;refine bo @v ⟨?_⟩;exact⟨rfl,cf⟩|cons b0 l=>
   have w:decide ((((b0::l).length+1:Nat):Int)<2)=false:=(by simp only[Zc,ZI];omega);have T3:hJ (.str (c::b0::l)) (some (.Z 1)) none=some (.str (b0::l)):=xJ (l:=1) .i64 Zs;have T0:ia (.str (c::b0::l)) (.Z 0)=some (.int .u8 (c:Int)):=pe (i:=0) .i64 rfl;have T2:hG (.str (c::b0::l))=some (.Z ((c::b0::l).length:Int)):=nX _;have r:=a.all;have T1:=a.len;have N:c::b0::l≠[98,111,111,108]:=λe=>(by have:=a.ty;rw[e]at this;cases this);have k:decide (c::b0::l=[98,111,111,108])=false:=(by simp only[Zc];exact N);have T4:=a.ty;generalize T6:b0::l=m at*;have A:decide ((c:Int)=105)=decide (c=105):=(by simp;omega);refine dg T2 ?_;refine bE @w @T3 ⟨?_⟩;refine(EX g G (by simp at T1;omega) (λx d=>RD (r x (Zw _ d))) (Hp (λx d=>r x (Zw _ d))) Zo).Zm ?_;rintro R am aw ⟨⟨aj,e,rfl,P,d⟩,f⟩;have T7:=f.le;rcases P with rfl|⟨b,rfl⟩
   ·refine df @k @PH @T0 @A ⟨?_⟩;refine(Iw (u:=aw) (q:=am) g.tobZ ⟨false,decide (c=105),aj⟩ Zo).Zm ?_;rintro R T5 TY ⟨rfl,L⟩;have ar:decide (c::m=hW ⟨false,decide (c=105),aj⟩)=false:=by
     simp only[Zc];intro h;cases j:gw ⟨false,decide (c=105),aj⟩with
     |false=>simp[hW,j]at h|true=>
      have T9:1<=aj/\aj<=64:=(by simpa[gw]using j);obtain⟨n,rfl⟩:=Yl (by omega:0<=aj);simp only[hW,j,ZL,ZA,ZJ]at h;have p:=(List.cons.inj h).1;have C:=(List.cons.inj h).2;have O:c=105\/c=117:=by
       by_cases t:c=105
       ·exact .inl t
       ·simp[t]at p;exact .inr p
      exact Iv T4 O (n:=n) Zo Zo (by simpa using C.symm)
    refine bo @ar ⟨?_⟩;exact⟨rfl,f.trans L⟩
   ·refine bE @k @PI ⟨?_⟩;exact⟨rfl,f⟩
def uP(d:e5 X)(t:g2 X)(x:kl X)(a:sa s)(G:(y X).aB<=u):
 aD X 115 [.str s] q u (λR D Z=>R=.zV/\aU X q u D Z) zX:=by
 refine Fd d.tobZ (JF ..) ?_;unfold Cv;have j:=a.ne;have k:decide (s=[])=false:=by simp[j]
 have T2:=a.len;have m:decide ((32:Int)<(s.length:Int))=false:=z2;obtain⟨c,g⟩:∃c,s.head?=some c:=by cases s with|nil=>exact absurd rfl j|cons c l=>exact⟨c,rfl⟩
 have A:=a.Of c g;have C:ia (.str s) (.Z 0)=some (.int .u8 (c:Int)):=pe (i:=0) .i64 (by rw[<-List.head?_eq_getElem?];exact g);have P:65<=c:=by simp[j3]at A;omega
 have n:decide ((48:Int)<=(c:Int))=true:=z1;have p:decide ((c:Int)<=57)=false:=z2;refine dA @k @m @C @n @p ⟨?_⟩;refine(Rt d.tobZ a.all G).Zm ?_;rintro R au ap ⟨rfl,e⟩;have T0:=e.le;obtain⟨b,aE,N,L⟩:=x.at_ au;have r:decide ((0:Int)<= -1)=false:=rfl;refine bE @N @r ⟨?_⟩;refine(Fl (u:=ap) d.tobZ L (v:=false) (by simp;exact λh=>a.res (aaY _ h))).Zm ?_;rintro R am aw ⟨rfl,f⟩;have T1:=f.le;refine bx ⟨?_⟩;refine(acT (u:=aw) (q:=am) d t a Zo).Zm ?_;rintro R O T3 ⟨rfl,w⟩;refine bx ⟨?_⟩;exact⟨rfl,(e.trans f).trans w⟩
end
end
end Go.Proofs.YtehmapikajmjaaaGreatDoor
