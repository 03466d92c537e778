/- Part of the proof of the last text; no conditions -/
import Derived.Test.YtehmapikajmjaaaGreatDoorYm
set_option maxHeartbeats 8000000
set_option linter.all false
namespace Go.Proofs.YtehmapikajmjaaaGreatDoor
open Go.aF Go.ak
noncomputable section
section
variable{X:bi}{q D dT au am:E S}{u Z ap aw:Nat}{s:aA}
def Ca:List z:=[.str [],.Z 0,.zT,.zT,.Z 0,.str [],.Z 0,.zT]
def QT(n:Nat):k7 X q u .append [34,3] [.ax,.Z (n:Int)]=ba (Nat.ble n 1048576) (ba (Nat.beq n 0) (some (.val .ax)) (k6 X q u n 8 (fj n Ca))) none:=Zk
def ru(n:Nat)(l:List z):(fj n l).length=n*l.length:=by induction n with|zero=>simp[fj]|succ n U=>simp[fj,U,Yj];omega
def Oz:jn X q .cap [34] [.ax]=some (.Z 0):=Zk
def abL:fw X q 8 .ax none (some (.Z 0)) none=some .ax:=by rfl
def abO{bv n m:Nat}{c:E z}(h:H X q bv=some (.cells c m (.grow []))):fw X q 8 (.cq bv 0 n 8) none (some (.Z 0)) none=some (.cq bv 0 0 8):=by
 have d:ho (some (.Z 0)) (m/8) n=some 0:=by simp[ho,Tj]
 have e:∀a b:Nat,ho none a b=some b:=λa b=>rfl;have f:ii X q bv=some m:=by simp[ii,h]
 have g:Nat.blt 0 8=true:=rfl;simp only[fw,f,fW,zf,e,d];simp[g]
def u5{C:al}{P:Nat->Prop}{b aN:Nat}{aE:z}{aR:List (List z)}(h:cl C q P b aE aN aR)(T4:0<aN):fQ C q aN aE=some (aR.length,aR.flatten):=by
 have A:=mc h.wide;have key:∀a I n:Nat,n=aR.length->(∀i,i<aR.length->some (z.ptr a (I+i*aN))=some (.ptr b (i*aN)))->gq C q a I (n*aN)=some aR.flatten:=by
  intro a I n d ag;subst d;by_cases X:aR.length=0
  ·have:aR=[]:=ZS X
   subst this;simp only[gq];cases g:cellsOf C q a with|none=>simp|some c=>simp[F7]
  ·have x:=ag 0 Zo;simp at x;obtain⟨rfl,rfl⟩:=x;obtain⟨r,K⟩:=zO aR 0;have T7:=h.wide r (Zl K);obtain⟨v,T3⟩:=zO r 0;have k:=h.cell 0 r 0 v K T3;simp only[zu,ZN]at k;have T1:∃c,cellsOf C q a=some c:=by simp only[ay]at k;cases g:cellsOf C q a with|none=>rw[g]at k;cases k|some c=>exact⟨c,rfl⟩
   obtain⟨c,g⟩:=T1;simp only[gq,g];rw[<-A];refine wD _ _ λj v G=> ?_;have L:=(Ze.1 G).1;rw[A]at L;have T2:j/aN<aR.length:=Nat.div_lt_of_lt_mul (by rw[zD];exact L);obtain⟨m,w⟩:∃r,aR[j/aN]? =some r:=⟨_,Zb T2⟩;have T8:=h.wide m (Zl w);have T6:j%aN<aN:=Nat.mod_lt _ T4;obtain⟨O,N⟩:∃v,m[j%aN]? =some v:=⟨_,Zb Zo⟩;have p:=h.cell (j/aN) m (j%aN) O w N;have s:=Ap aR h.wide (j/aN) m (j%aN) O w N;have T0:j/aN*aN+j%aN=j:=(by rw[zD];exact Nat.div_add_mod j aN);rw[T0]at p s;rw[G]at s;cases s;simp only[ay,g]at p;rw[ZK];exact p
 have f:=h.len;cases aE with
 |slice a I n cap=>
  have d:n=aR.length:=by rw[kB]at f;simp at f;omega
  have ag:∀i,i<aR.length->some (z.ptr a (I+i*aN))=some (.ptr b (i*aN)):=λi ag=>by have:=h.c4 i ag;rw[<-this];have e:Nat.blt i n=true:=(by simp[Nat.blt];omega);simp only[c8,hV,pL,e,cI]
  have t:=key a I n d ag;subst d;simp only[fQ,t]
 |cq a I n T5=>
  have d:n=aR.length:=by rw[lg]at f;simp at f;omega
  have ag:∀i,i<aR.length->some (z.ptr a (I+i*aN))=some (.ptr b (i*aN)):=λi ag=>by have:=h.c4 i ag;rw[<-this];have e:Nat.blt i n=true:=(by simp[Nat.blt];omega);simp only[c8,hV,pL,e,cI]
  have t:=key a I n d ag;subst d;simp only[fQ,t]
 |gf a I l T5=>
  have d:(0:Int)=aR.length:=by simpa[c0]using f
  have:aR=[]:=ZS Zo
  subst this;rfl
 |ax=>
  have d:(0:Int)=aR.length:=by rw[pj]at f;simpa using f
  have:aR=[]:=ZS Zo
  subst this;rfl
 |_=>simp[c0]at f
def abe{bv n r m:Nat}{c:E z}{x:z}{l:List z}{T:aY}(W:H X q bv=some (.cells c (m*8) (.grow [])))(ai:(y X).aB<=bv)(d:fQ X q 8 x=some (r,l))(v:l.length=r*8)(K:n+r<=m)(s:Go.aF.dU l=true)
 (k:∀D a,H X D bv=some (.cells a (m*8) (.grow []))->(∀i,a.get i=if n*8<=i/\i<n*8+l.length then l[i-n*8]? else c.get i)->(∀o,o≠bv->H X D o=H X q o)->T (.cq bv 0 (n+r) 8) D u):
 ek (eV X q u 8 (.cq bv 0 n 8) x) q u T:=by
 by_cases b:r=0
 ·subst b
  have:l=[]:=ZS Zo
  subst this;have e:eV X q u 8 (.cq bv 0 n 8) x=some (.val (.cq bv 0 n 8)):=by simp only[eV,d];simp[mM,ii,W];omega
  refine xv e ?_;exact k q c W (λi=>by rw[Zi Zs]) (λ_ _=>rfl)
 ·have f:Nat.ble ((n+r)*8) (m*8)=true:=de Zo;have g:Nat.ble (n*8+l.length) (m*8)=true:=de Zo;have p:Nat.beq 8 8=true:=rfl;have h:eB X bv=true:=de ai;have j:eV X q u 8 (.cq bv 0 n 8) x=some (.cJ (.cq bv 0 (n+r) 8) (Go.aF.aH X q bv (some (.cells (cj c (n*8) l) (m*8) (.grow [])))) u):=by simp only[eV,d];rw[ee,Zi b];simp only[jU,oM,W,h,p,cI,f,g5,g,s,ZZ,du,fi,ZK]
  refine d8 j ?_;refine k _ _ (aM ai) (λi=> ?_) (λo t=>ah ai t);rw[fR]
def abF(k:bZ X){n:Nat}(m:0<n)(p:n<=300000)(l:(y X).aB<=u):
 aD X 144 [.ax,.Z (n:Int)] q u (λR D Z=>R=.cq u 0 0 8/\(∃c,H X D u=some (.cells c (n*8) (.grow [])))/\aU X q u D Z/\u<Z) zX:=by
 refine Fd k (Kv ..) ?_;unfold CX;have d:decide ((n:Int)<0)=false:=z2;have e:decide ((0:Int)<(n:Int))=true:=z1;have f:aK .sub (.Z 0) (.Z 0)=some (.Z 0):=ju Zo Zo;have g:aK .sub (.Z n) (.Z 0)=some (.Z n):=by rw[ju Zo Zo];simp
 have h:k7 X q u .append [34,3] [.ax,.Z (n:Int)]=some (.cJ (.cq u 0 n 8) (aH X q u (some (.cells (E.ofList (fj n Ca) 0 .nil) (n*8) (.grow [])))) (u+1)):=by rw[QT,de Zo,cI,ee,Zi Zo];simp only[k6,de (show n<=1048576 by omega),cI,fE,gi,du,ru];rfl
 refine eg @d @Oz @f @g @e @abL ⟨?_⟩;refine d8 h ?_;generalize a:aH X q u _=au;have b:H X au u=some (.cells (E.ofList (fj n Ca) 0 .nil) (n*8) (.grow [])):=by rw[<-a,aM l]
 have j:aU X q u au (u+1):=by rw[<-a];exact cf
 clear a;have i:=abO (n:=n) b;refine bo @i ⟨?_⟩;exact⟨rfl,⟨_,b⟩,j,Zo⟩
def oT(l:List (List cG)):Nat:=(l.map List.length).sum
def OX(U5:bZ X){P:Nat->Prop}{e bc bp bG:Nat}{bK bO aE:z}{A aO Q:List cG}(UW:(y X).aB<=u)(UQ:e<u)(U6:H X q e=zP [bK,bO,aE] 3)
 (G:cl X q P bc bK 8 (A.map cQ))(U3:cl X q P bp bO 8 (aO.map cQ))(UM:cl X q P bG aE 8 (Q.map cQ))(aV:∀o,P o->o<u)(UL:0<A.length+aO.length+Q.length)(UV:A.length+aO.length+Q.length<=300000):
 aD X 117 [.slice e 0 3 3] q u (λR D Z=>∃b,cl X D (b2 u Z) b R 8 ((A++(aO++Q)).map cQ)/\aU X q u D Z) zX:=by
 refine Fd U5 (JJ ..) ?_;unfold Cx;have UC:∀j,j<3->∃s b L,[bK,bO,aE][j]? =some s/\cl X q P b s 8 (L.map cQ)/\([A,aO,Q]:List (List cG))[j]? =some L/\L.length<=300000:=by
  intro j T2
  match j,T2 with
  |0,_=>exact⟨bK,bc,A,rfl,G,rfl,Zo⟩|1,_=>exact⟨bO,bp,aO,rfl,U3,rfl,Zo⟩|2,_=>exact⟨aE,bG,Q,rfl,UM,rfl,Zo⟩
 have U7:∀D j s,H X D e=zP [bK,bO,aE] 3->[bK,bO,aE][j]? =some s->ay X D (.ptr e j)=some s:=λD j s h l=>by rw[a8 h,g0];exact l
 obtain⟨a,t⟩:∃a:Nat->Nat,∀j,a j=oT (([A,aO,Q]:List (List cG)).take j):=⟨_,λ_=>rfl⟩;obtain⟨f,k⟩:∃f:Nat->List cG,∀j,f j=(([A,aO,Q]:List (List cG)).take j).flatten:=⟨_,λ_=>rfl⟩;have U8:∀j L,([A,aO,Q]:List (List cG))[j]? =some L->f (j+1)=f j++L:=by intro j L h;rw[k,k,ZD,h];simp
 have T0:∀j,a j=(f j).length:=λj=>by rw[t,k];unfold oT;rw[List.length_flatten]
 have UD:∀j L,([A,aO,Q]:List (List cG))[j]? =some L->a (j+1)=a j+L.length:=by intro j L h;rw[T0,T0,U8 j L h,ZH]
 have UA:∀j,a j<=A.length+aO.length+Q.length:=by
  intro j;rw[t]
  match j with
  |0=>simp[oT]|1=>simp[oT];omega|2=>simp[oT]|n+3=>simp[oT];omega
 have U4:a 3=A.length+aO.length+Q.length:=by rw[t];simp[oT];omega
 have U2:a 0=0:=by rw[t];simp[oT]
 have UI:f 0=[]:=by rw[k];rfl
 refine bx ⟨?_⟩;refine cM (λm B D w=>∃(j:Nat),B.g 0=some (.slice e 0 3 3)/\B.g 9=some (.slice e 0 3 3)/\B.g 10=some (.Z 3)/\B.g 11=some (.Z j)/\B.g 3=some (.Z (a j:Nat))/\j+m=3/\D=q/\w=u)
  3 ⟨0,aC,aC,cT,cT,by refine o6 ⟨?_⟩;rw[U2];rfl,Zo,rfl,rfl⟩ ?_
 rintro m B au ap ⟨j,t0,t9,x,T8,t3,T2,rfl,rfl⟩;cases m with
 |succ m=>
  have d:decide ((j:Int)<3)=true:=z1;have C:=zQ j;obtain⟨s,b,L,l,T5,p,UO⟩:=UC j Zo;have Ue:=UA j;have T1:c8 1 (.slice e 0 3 3) (.Z j)=some (.ptr e j):=by rw[nW _ Zo];simp
  have N:=U7 _ j s U6 l;have UB:=T5.len;rw[Zj]at UB;have UH:aK .add (.Z (a j:Nat)) (.Z L.length)=some (.Z ((a (j+1):Nat):Int)):=by rw[UD j L p,cp Zo Zo];simp
  have UG:decide (((a (j+1):Nat):Int)<0)=false:=z2;refine cu @T8 @x @t9 @t3 @d @T1 (Za @N (Za @UB (Za @UH (Za @UG @C)))) ⟨?_⟩;exact⟨m,Zo,j+1,af t0,af t9,af x,aC,aC,Zo,rfl,rfl⟩
 |zero=>
  have d:decide ((j:Int)<3)=false:=z2;have T3:j=3:=Zo;subst T3;rw[U4]at t3;refine df @T8 @x @t3 @d ⟨?_⟩;refine(abF U5 UL UV UW).Zm ?_;rintro R am aw ⟨rfl,⟨b0,UJ⟩,UN,UX⟩;generalize Ud:A.length+aO.length+Q.length=a6 at*;refine bo @t0 ⟨?_⟩;refine cM (λm B D w=>∃(j:Nat) (c:E z),B.g 25=some (.slice e 0 3 3)/\B.g 26=some (.Z 3)/\B.g 27=some (.Z j)/\B.g 6=some (.cq ap 0 (a j) 8)/\j+m=3/\ap<w/\aU X au ap D w
   /\H X D ap=some (.cells c (a6*8) (.grow []))/\∀(i:Nat) v,((f j).map cQ).flatten[i]? =some v->c.get i=some v)
   3 ⟨0,b0,aC,cT,cT,by refine o6 ⟨?_⟩;rw[U2],Zo,UX,UN,UJ,λi v h=>by rw[UI]at h;simp at h⟩ ?_
  clear t0 t9 x T8 t3;rintro m B U0 Ug ⟨j,Uc,UE,T9,TY,TZ,T2,UY,g,U1,O⟩;have U9:∀L:List cG,((L.map cQ).flatten).length=L.length*8:=λL=>by have:=mc (aR:=L.map cQ) (aN:=8) (by intro r K;obtain⟨d,_,rfl⟩:=ZC.1 K;rfl);rw[this,Zj]
  cases m with
  |zero=>have d:decide ((j:Int)<3)=false:=z2;have T3:j=3:=Zo;subst T3;rw[U4]at TZ;refine df @TY @T9 @TZ @d ⟨?_⟩;have UR:f 3=A++(aO++Q):=(by rw[k];simp);rw[UR]at O;have T4:(A++(aO++Q)).length=a6:=(by simp;omega);refine⟨ap,⟨λ_=>⟨Zo,Zo⟩,by rw[Zj,T4];omega,by intro r K;obtain⟨d,_,rfl⟩:=ZC.1 K;rfl,by rw[lg,Zj,T4],λi ag=>by rw[m4 _ (by rw[Zj,T4]at ag;omega),ZK],λi r Ua v ag UT=> ?_⟩,g⟩;rw[a8 U1];exact O _ _ (Ap _ (by intro r K;obtain⟨d,_,rfl⟩:=ZC.1 K;rfl) i r Ua v ag UT)|succ m=>
   have d:decide ((j:Int)<3)=true:=z1;have C:=zQ j;obtain⟨s,b,L,l,T5,p,UO⟩:=UC j Zo;have T1:c8 1 (.slice e 0 3 3) (.Z j)=some (.ptr e j):=(by rw[nW _ Zo];simp);have UP:H X U0 e=zP [bK,bO,aE] 3:=(by rw[g.M _ UQ];exact U6);have N:=U7 _ j s UP l;have T6:=u5 (T5.M (D:=U0) (λo T7=>g.M o (aV o T7))) Zd;rw[Zj]at T6;have G:=UD j L p;have U3:=UA (j+1);refine cu @TY @T9 @UE @TZ @d @T1 @N ⟨?_⟩;refine abe U1 Zo T6 (U9 L) Zo ?_ ?_
   ·clear T6
    have:∀a6:List cG,Go.aF.dU (a6.map cQ).flatten=true:=by intro a6;induction a6 with|nil=>rfl|cons d a6 U=>simpa[cQ,Go.aF.dU,hI]using U
    exact this L
   ·intro Ub UF UK US UU;refine bE @TY @C ⟨?_⟩;refine⟨m,Zo,j+1,UF,af UE,af T9,aC,by refine o6 ⟨?_⟩;rw[G],Zo,UY,⟨g.le,λo T7=>by rw[UU o Zo];exact g.M o T7⟩,UK,λi v ag=> ?_⟩;rw[U8 j L p]at ag;simp only[zx,ZU]at ag;have UZ:(((f j).map cQ).flatten).length=a j*8:=(by rw[U9,T0]);rw[US];by_cases Uf:i<a j*8
    ·rw[Zi Zo];rw[ZQ Zo]at ag;exact O i v ag
    ·rw[ZW Zo,UZ]at ag;have:=(Ze.1 ag).1;rw[Zv ⟨Zo,Zo⟩];exact ag
def abs{t:cH}(h:gw t=true):hW t≠[]:=by unfold hW;rw[Zv h];split<;>simp
def O3(g:e5 X)(T0:g2 X)(T2:kl X){P:Nat->Prop}{b:Nat}{aE:z}{bb:List cG}(UB:(y X).aB<=u)(l:cl X q P b aE 8 (bb.map cQ))(aV:∀o,P o->o<u)(U3:∀d∈bb,l1 gm d):
 aD X 116 [aE] q u (λR D Z=>R=.zV/\aU X q u D Z) zX:=by
 refine Fd g.tobZ (JH ..) ?_;unfold Cw;have T3:=l.len;have U0:=l.many;rw[Zj]at T3 U0;refine bo @T3 ⟨?_⟩;refine cM (λm B D U4=>∃(j:Nat),B.g 5=some aE/\B.g 6=some (.Z bb.length)/\B.g 7=some (.Z j)/\j+m=bb.length/\aU X q u D U4)
  bb.length ⟨0,aC,aC,cT,Zo,aU.refl _ _⟩ ?_
 rintro m B au ap ⟨j,t5,n,p,U6,f⟩;have U7:=f.le;cases m with
 |zero=>have d:=zM j bb.length;refine cg @p @n @d ⟨?_⟩;exact⟨rfl,f⟩|succ m=>
  have T7:=zN j bb.length;have O:=zQ j;obtain⟨d,ai⟩:=zO bb j;have k:=U3 d (Zl ai);have TY:=l.c4 j (by rw[Zj];omega);have T4:=(l.M (λo G=>f.M o (aV o G))).row (i:=j) (r:=cQ d) Zd (by rw[Zt,ai];rfl);have T9:cQ d=[.str d.name,.Z d.at_,.bool d.ty.b,.bool d.ty.s,.Z d.ty.w,.str d.on,.Z d.cC,.bool d.no]:=rfl;rw[T9]at T4;refine eg @p @n @t5 @T7 @TY @T4 ⟨?_⟩;generalize A:aH X _ ap _=am;have a:H X am ap=zP [.str d.name,.Z d.at_,.bool d.ty.b,.bool d.ty.s,.Z d.ty.w,.str d.on,.Z d.cC,.bool d.no] 8:=by rw[<-A,aM Zo];rfl
  have T8:aU X q u am (ap+1):=⟨Zo,λo G=>by rw[<-A];simp(disch:=omega) only[ah];exact f.M o G⟩;clear A;refine bo (a8 a) ⟨?_⟩;refine(uP (u:=ap+1) (q:=am) g T0 T2 k.name Zo).Zm ?_;rintro R L U5 ⟨rfl,v⟩;have U8:=v.le;rw[<-v.M _ Zo]at a;have UC:cP d.ty=[.bool d.ty.b,.bool d.ty.s,.Z d.ty.w]:=rfl;have TZ:ca X L 3 (.ptr ap 2)=some (.agg (cP d.ty)):=by rw[mn,a8 a,a8 a,a8 a];rfl
  refine bo @TZ ⟨?_⟩;refine(Iw (u:=U5) (q:=L) g.tobZ d.ty Zo).Zm ?_;rintro R e T5 ⟨rfl,w⟩;have U9:=w.le;rw[<-w.M _ Zo]at a;have N:decide (hW d.ty=[])=false:=by simp[abs k.type]
  have T1:aU X q u e T5:=(T8.trans v).trans w;by_cases c:d.on=[]
  ·have s:decide (d.on≠[])=false:=(by simp[c]);have t:decide (d.on=[])=true:=(by simp[c]);have U1:ay X e (.ptr ap 7)=some .zT:=(by rw[a8 a];exact congrArg (λb=>some (z.bool b)) (k.no c));have C:ay X e (.ptr ap 5)=some (.str d.on):=(by rw[a8 a];rfl);refine cu @N @C @s @t @U1 @p @O ⟨?_⟩;exact⟨m,Zo,j+1,af t5,af n,aC,Zo,T1⟩
  ·have s:decide (d.on≠[])=true:=(by simp[c]);have t:decide (d.on=[])=false:=(by simp[c]);have C:ay X e (.ptr ap 5)=some (.str d.on):=(by rw[a8 a];rfl);refine cg @N @C @s ⟨?_⟩;refine(uP (u:=T5) (q:=e) g T0 T2 (k.on c) Zo).Zm ?_;rintro R T6 UD ⟨rfl,x⟩;have UA:=x.le;rw[<-x.M _ Zo]at a;have U2:ay X T6 (.ptr ap 5)=some (.str d.on):=(by rw[a8 a];rfl);refine df @U2 @t @p @O ⟨?_⟩;exact⟨m,Zo,j+1,af t5,af n,aC,Zo,T1.trans x⟩
def TK(a:e5 X)(b:g2 X)(d:kl X){w:aA}(f:sa w)(e:(y X).aB<=u):
 aD X 118 [.str w] q u (λR D Z=>R=.zT/\aU X q u D Z) zX:=by
 refine Fd a.tobZ (JL ..) ?_;unfold Cy;refine(uP (u:=u) (q:=q) a b d f e).Zm ?_;rintro R am aw ⟨rfl,c⟩;refine bx ⟨?_⟩;exact⟨rfl,c⟩
def Sp(e:e5 X)(c:g2 X)(s:kl X){P:Nat->Prop}{b:Nat}{aE:z}{dL:List aA}(L:(y X).aB<=u)(K:cl X q P b aE 1 (dh dL))(aV:∀o,P o->o<u)(v:∀w∈dL,sa w):
 aD X 15 [aE,.func (.func 118) [] []] q u (λR D Z=>R=.zT/\aU X q u D Z) zX:=by
 refine Fd e.tobZ (KX ..) ?_;unfold C3;refine aD.mono (T:=λR D Z=>R=.Z (-1)/\aU X q u D Z) (ab:=λ_ _ _=>False) ?_ ?_ (λ_ _ _ h=>h.elim)
 ·refine Fd e.tobZ (LD ..) ?_;unfold Dz;have l:=K.len;have t:=K.many;rw[show(dh dL).length=dL.length from by simp[dh]]at l t;refine bo @l ⟨?_⟩;refine cM (λm B D A=>∃(j:Nat),B.g 0=some aE/\B.g 1=some (.func (.func 118) [] [])/\B.g 7=some (.Z dL.length)/\B.g 8=some (.Z j)/\j+m=dL.length/\aU X q u D A)
   dL.length ⟨0,aC,aC,aC,cT,Zo,aU.refl _ _⟩ ?_
  rintro m B au ap ⟨j,t0,t1,f,g,C,a⟩;have G:=a.le;cases m with|zero=>have d:=zM j dL.length;refine cg @g @f @d ⟨?_⟩;exact⟨rfl,a⟩|succ m=>have d:=zN j dL.length;have p:=zQ j;obtain⟨w,n⟩:=zO dL j;have k:=K.c4 j (by simp[dh];omega);have i:=(K.M (λo x=>a.M o (aV o x))).cell j [.str w] 0 (.str w) (by unfold dh;rw[Zt,n];rfl) rfl;rw[ZF]at k;rw[ZF,ZN]at i;refine cu @g @f @t1 @t0 @d @k @i ⟨?_⟩;refine(TK (u:=ap) (q:=au) e c s (v w (Zl n)) Zo).Zm ?_;rintro R am aw ⟨rfl,r⟩;refine bE @g @p ⟨?_⟩;exact⟨m,Zo,j+1,af t0,af t1,af f,aC,Zo,a.trans r⟩
 ·rintro R au ap ⟨rfl,c⟩;refine bx ⟨?_⟩;exact⟨rfl,c⟩
def γ:∀w<65,pw ((w:Nat):Int)=((2^w-1:Nat):Int):=by decide+kernel
def N0{n w:Nat}(e:w<=64)(c:n<18446744073709551616)(h:tQ (n:Int) (pw (w:Int))=0):n<2^w:=by
 rw[γ w Zo]at h;unfold tQ at h;have d:=(BitVec.ofInt 64 (n:Int)&&& ~~~ BitVec.ofInt 64 ((2^w-1:Nat):Int)).isLt;rw[IX Zo Zo]at h;have a:BitVec.ofInt 64 (n:Int)&&& ~~~ BitVec.ofInt 64 ((2^w-1:Nat):Int)=0#64:=BitVec.eq_of_toNat_eq (by rw[BitVec.toNat_ofNat];omega);rw[BitVec.ofInt_natCast,BitVec.ofInt_natCast]at a;apply Nat.lt_pow_two_of_testBit;intro i ag;by_cases b:i<64
 ·have W:=congrArg (λv=>v.getLsbD i) a;simp only[BitVec.getLsbD_and,BitVec.getLsbD_not,BitVec.getLsbD_ofNat,b,YG,Bool.true_and,Nat.testBit_two_pow_sub_one,BitVec.getLsbD_zero]at W
  have:decide (i<w)=false:=by simp;omega
  rw[this]at W;simpa using W
 ·exact Nat.testBit_lt_two_pow (ZV c (by
   have:(18446744073709551616:Nat)=2^64:=by decide
   rw[this];exact Nat.pow_le_pow_right Zd Zo))
def SC{t:cH}{n:Int}(h:yp t n):n<2^(if t.s then t.w-1 else t.w).toNat:=by
 obtain⟨f,a,g,i⟩:=h;obtain⟨m,rfl⟩:=Yl g;have e:=w2 f;have key:∀w:Nat,w<=64->tQ (m:Int) (pw (w:Int))=0->(m:Int)<2^w:=λw e h=>by
  have:=N0 e Zo h;have a:((2^w:Nat):Int)=(2:Int)^w:=by simp
  rw[<-a];omega
 unfold mh at a;cases d:t.s with
 |true=>
  rw[Zv d]at a;rw[Zv rfl];by_cases b:t.w-1=0
  ·rw[Zv b]at a
   have:(m:Int)=0:=by simpa using a
   rw[b,this];decide
  ·rw[Zi b]at a;obtain⟨w,c⟩:=Yl (by omega:0<=t.w-1);rw[c]at a ⊢;simp only[qK,Zu,Zf]at a;exact key w Zo a.2
 |false=>rw[Zi (by simp[d])]at a;rw[Zi Zs];obtain⟨w,c⟩:=Yl (by omega:0<=t.w);simp only[qK,Zu,Zf]at a;rw[c]at a ⊢;exact key w Zo a.2
def H9{n b:Int}(a:0<=n)(W:0<=b)(f:b<=64)(h:n<2^b.toNat):aK .shr (.int .u64 n) (.Z b)=some (.int .u64 0):=by
 have c:m3 b 0=false:=by rw[la];simp;omega
 have d:min b.toNat IntKind.u64.bits=b.toNat:=by
  have:IntKind.u64.bits=64:=rfl
  rw[this];omega
 have e:n.fdiv (2^b.toNat)=0:=by rw[Int.fdiv_eq_ediv_of_nonneg _ (by exact Int.le_of_lt (Int.lt_of_le_of_lt a h))];exact Int.ediv_eq_zero_of_lt a h
 simp only[aK,gL,cI,tN,c,ga,d,e];rfl
def SD(j:e5 X){P:Nat->Prop}{e:aX}{v:z}(s:(y X).aB<=u)(w:bF X q P e v)(aV:∀o,P o->o<u)(x:e.kind=1)(c:yp e.ty e.n):
 aD X 157 [v] q u (λR D Z=>R=.zV/\aU X q u D Z) zX:=by
 refine Fd j.tobZ (KR ..) ?_;unfold C9;obtain⟨b,aE,bC,aG,rfl,W,a0,aL,bt,a3,a4,a5,fq,fV,f9,A,has⟩:=id w.open;have p:=aV b W;have f:=SC c;have G:=w2 c.1;have m:decide (e.kind=1)=true:=by simp[x]
 have C:cP e.ty=[.bool e.ty.b,.bool e.ty.s,.Z e.ty.w]:=rfl;have r:ca X q 3 (.ptr b 4)=some (.agg (cP e.ty)):=by rw[mn,a4,a5,fq];rfl
 cases g:e.ty.s with
 |true=>
  rw[g]at a5;rw[Zv g]at f;have t:aK .sub (.Z e.ty.w) (.Z 1)=some (.Z (e.ty.w-1)):=ju Zo Zo;have d:decide (e.ty.w-1=64)=false:=z2;have l:=H9 c.2.2.1 Zo Zo f;refine eg @a5 @fq @t @a0 @m @r ⟨?_⟩;refine(qY (u:=u) (q:=q) j.tobZ e.ty s).Zm ?_;rintro R au ap ⟨rfl,a⟩;have i:ay X au (.ptr b 7)=some (.int .u64 e.n):=by rw[a.dn _ _ p];exact fV
  have k:gw e.ty=true:=c.1;rw[k];refine cg @d @i @l ⟨?_⟩;exact⟨rfl,a⟩
 |false=>
  rw[g]at a5;rw[Zi (by simp[g])]at f;refine dA @a5 @fq @a0 @m @r ⟨?_⟩;refine(qY (u:=u) (q:=q) j.tobZ e.ty s).Zm ?_;rintro R au ap ⟨rfl,a⟩;have i:ay X au (.ptr b 7)=some (.int .u64 e.n):=by rw[a.dn _ _ p];exact fV
  have k:gw e.ty=true:=c.1;rw[k];by_cases n:e.ty.w=64
  ·have d:decide (e.ty.w=64)=true:=(by simp[n]);refine bo @d ⟨?_⟩;exact⟨rfl,a⟩
  ·have d:decide (e.ty.w=64)=false:=(by simp[n]);have l:=H9 c.2.2.1 Zo Zo f;refine cg @d @i @l ⟨?_⟩;exact⟨rfl,a⟩
def Tn(b:Nat):b7 X q .eql 40 false .bH (.ptr b 0)=some .zT:=Zk
def N9(f:e5 X){P:Nat->Prop}{b:Nat}{aE:z}{c:List aX}{aG:List z}(K:cl X q P b aE 1 (aG.map λv=>[v]))(g:b5 X q P c aG):
 aD X 156 [aE,.bH] q u (λR D Z=>R=.zT/\D=q/\u<=Z) zX:=by
 refine Fd f.tobZ (KP ..) ?_;unfold C8;refine aD.mono (T:=λR D Z=>R=.Z (-1)/\D=q/\u<=Z) (ab:=λ_ _ _=>False) ?_ ?_ (λ_ _ _ h=>h.elim)
 ·refine Fd f.tobZ (K3 ..) ?_;unfold De;have i:=K.len;have C:=K.many;rw[Zj]at i C;refine bo @i ⟨?_⟩;refine cM (λm B D G=>∃(j:Nat),B.g 0=some aE/\B.g 1=some .bH/\B.g 7=some (.Z aG.length)/\B.g 8=some (.Z j)/\j+m=aG.length/\D=q/\u<=G)
   aG.length ⟨0,aC,aC,aC,cT,Zo,rfl,Zo⟩ ?_
  rintro m B am aw ⟨j,t0,t1,a,p,T0,rfl,k⟩;cases m with|zero=>have d:=zM j aG.length;refine cg @p @a @d ⟨?_⟩;exact⟨rfl,rfl,k⟩|succ m=>have d:=zN j aG.length;have r:=zQ j;obtain⟨v,l⟩:=zO aG j;have O:=g.len;obtain⟨e,x⟩:=zO c j;obtain⟨T1,n,A⟩:=g.get j e x;rw[l]at n;cases n;obtain⟨L,rfl,_,_⟩:=A.ptr;obtain⟨s,t,N⟩:=K.one l;refine cu @p @a @t1 @t0 @d @s (Za @t (Za @Tn @r)) ⟨?_⟩;exact⟨m,Zo,j+1,af t0,af t1,af a,aC,Zo,rfl,k⟩
 ·rintro R au ap ⟨rfl,rfl,w⟩;refine bx ⟨?_⟩;exact⟨rfl,rfl,w⟩
def lT(k:Int):Option (Int×Bool×Bool×Bool):=
 if k=1 then some (0,false,true,true)else if k=2 then some (0,true,false,false)else if k=3\/k=4\/k=5 then some (1,false,false,false)else if k=6 then some (1,true,false,false)
 else if k=19\/k=20 then some (1,false,false,true)else if k=23 then some (3,false,false,false)else if k=24 then some (2,true,false,false)else if k=25 then some (-1,true,false,false)
 else if k=26 then some (1,false,true,false)else none
def jE(s:Int×Bool×Bool×Bool):List z:=[.Z s.1,.bool s.2.1,.bool s.2.2.1,.bool s.2.2.2]
structure mE(X:bi):Prop where
 at_:∀q,∃v,ay X q (.ptr 7 0)=some v/\∀k:Int,fb X q 3 (.agg [.Z 0,.zT,.zT,.zT]) v (.Z k) true=some (.tuple [.agg (jE ((lT k).getD (0,false,false,false))),.bool (lT k).isSome])
structure Nv(e:aX)(s:Int×Bool×Bool×Bool):Prop where
 oN:0<=s.1->(e.args.length:Int)=s.1
 Hl:s.2.1=true->sa e.name
 xa:s.2.1=false->e.name=[]
 acR:s.2.2.1=true->gw e.ty=true
 cd:s.2.2.1=false->e.ty=cd
 aB:s.2.2.2=false->e.n=0
def abG{e:aX}(h:pX gm e):Nv e ((lT e.kind).getD (2,false,false,false)):=by
 have j:=h.a7;have l:=h.bl;have b:=h.oN;have g:=h.nm;have f:=h.xa;have i:=h.ty;have c:=h.cd;have d:=h.aB;unfold kq at b;unfold lM at g f;unfold lN at i c;generalize e.kind=k at*;unfold lT;have a:k=1\/k=2\/(k=3\/k=4\/k=5)\/k=6\/(k=19\/k=20)\/k=23\/k=24\/k=25\/k=26\/(7<=k/\k<=18\/k=21\/k=22):=Zo;rcases a with a|a|a|a|a|a|a|a|a|a
 ·subst a;exact⟨λ_=>by have:=b 0 Zs;simp[this],λh=>by simp at h,λ_=>f Zo,λ_=>i Zo,λh=>by simp at h,λh=>by simp at h⟩
 ·subst a;exact⟨λ_=>by have:=b 0 Zs;simp[this],λ_=>g Zo,λh=>by simp at h,λh=>by simp at h,λ_=>c Zo,λ_=>d Zo Zo Zo⟩
 ·rw[Zi Zo,Zi Zo,Zv a];rw[Zi Zo,Zi Zo,Zv Zo]at b;exact⟨λ_=>by have:=b 1 rfl;simp[this],λh=>by simp at h,λ_=>f Zo,λh=>by simp at h,λ_=>c Zo,λ_=>d Zo Zo Zo⟩
 ·subst a;exact⟨λ_=>by have:=b 1 Zs;simp[this],λ_=>g Zo,λh=>by simp at h,λh=>by simp at h,λ_=>c Zo,λ_=>d Zo Zo Zo⟩
 ·rw[Zi Zo,Zi Zo,Zi Zo,Zi Zo,Zv a];rw[Zi Zo,Zi Zo,Zv Zo]at b;exact⟨λ_=>by have:=b 1 rfl;simp[this],λh=>by simp at h,λ_=>f Zo,λh=>by simp at h,λ_=>c Zo,λh=>by simp at h⟩
 ·subst a;exact⟨λ_=>by have:=b 3 Zs;simp[this],λh=>by simp at h,λ_=>f Zo,λh=>by simp at h,λ_=>c Zo,λ_=>d Zo Zo Zo⟩
 ·subst a;exact⟨λ_=>by have:=b 2 Zs;simp[this],λ_=>g Zo,λh=>by simp at h,λh=>by simp at h,λ_=>c Zo,λ_=>d Zo Zo Zo⟩
 ·subst a;exact⟨λh=>by simp at h,λ_=>g Zo,λh=>by simp at h,λh=>by simp at h,λ_=>c Zo,λ_=>d Zo Zo Zo⟩
 ·subst a;exact⟨λ_=>by have:=b 1 Zs;simp[this],λh=>by simp at h,λ_=>f Zo,λ_=>i Zo,λh=>by simp at h,λ_=>d Zo Zo Zo⟩
 ·rw[Zi Zo,Zi Zo,Zi Zo,Zi Zo,Zi Zo,Zi Zo,Zi Zo,Zi Zo,Zi Zo];rw[Zi Zo,Zi Zo,Zi Zo,Zi Zo]at b;exact⟨λ_=>by have:=b 2 rfl;simp[this],λh=>by simp at h,λ_=>f Zo,λh=>by simp at h,λ_=>c Zo,λ_=>d Zo Zo Zo⟩
structure Cd(G:Prop):Prop where
 out:G
def t6{G a:Prop}(b:Cd G->a)(c:G):a:=b ⟨c⟩
def On:b7 X q .neq 4 false .zT .zT=some .zT:=Zk
def Oo:b7 X q .neq 4 false .zV .zV=some .zT:=Zk
def acS:b7 X q .neq 52 false (.agg [.zT,.zT,.Z 0]) (.agg [.zT,.zT,.Z 0])=some .zT:=Zk
def aaq(b:Nat):b7 X q .neq 40 true (.ptr b 0) .bH=some .zV:=Zk
set_option maxRecDepth 100000 in
def SQ(T8:e5 X)(Uq:g2 X)(Us:kl X)(Ut:mE X){P:Nat->Prop}{e:aX}{v:z}(VV:(y X).aB<=u)(UZ:bF X q P e v)(aV:∀o,P o->o<u)(g:dw gm e):
 aD X 146 [v] q u (λR D Z=>R=.zV/\aU X q u D Z) zX:=by
 refine Fd T8.tobZ (Kz ..) ?_;unfold CZ;rw[dw.eq]at g;obtain⟨g,Vb⟩:=g;have t:=abG g;obtain⟨b,aE,bC,aG,rfl,W,a0,aL,bt,a3,a4,a5,fq,fV,f9,UN,has⟩:=id UZ.open;have a:=aV b W;obtain⟨dj,Uw,Ux⟩:=Ut.at_ q;have Ua:=Ux e.kind;generalize T3:(lT e.kind).getD (2,false,false,false)=s at t;have V7:∀V:Int×Bool×Bool×Bool,jE V=[.Z V.1,.bool V.2.1,.bool V.2.2.1,.bool V.2.2.2]:=λ_=>rfl;rw[V7]at Ua;refine dF @Uw @a0 @Ua ⟨?_⟩;refine eO (λc D i=>c.g 0=some (.ptr b 0)/\c.g 3=some (.ptr (u+9) 0)/\aU X q u D i/\u+9<i/\H X D (u+9)=zP (jE s) 4) (λj p=> ?_) ?_
 ·cases U5:lT e.kind with|some V=>rw[U5]at T3;simp only[YF]at T3;subst T3;simp only[YF,Z4];refine bx ⟨?_⟩;exact p _ _ _ ⟨aC,aC,cf,Zo,by rw[aM Zo];rfl⟩|none=>rw[U5]at T3;simp only[Option.getD_none]at T3;subst T3;simp only[Option.getD_none,Z3];refine bx ⟨?_⟩;exact p _ _ _ ⟨aC,aC,cf,Zo,by rw[aM Zo];rfl⟩
 rintro B au ap ⟨t0,t3,T1,VW,UE⟩;have rd:∀D,Go.aF.H X D (u+9)=zP (jE s) 4->ay X D (.ptr (u+9) 0)=some (.Z s.1)/\ay X D (.ptr (u+9) 1)=some (.bool s.2.1)/\ay X D (.ptr (u+9) 2)=some (.bool s.2.2.1)/\ay X D (.ptr (u+9) 3)=some (.bool s.2.2.2):=λD h=>
  ⟨by rw[a8 h];rfl,by rw[a8 h];rfl,by rw[a8 h];rfl,by rw[a8 h];rfl⟩
 have VP:=g.a7;have dB:=g.bl;have UW:decide (e.kind<1)=false:=z2;have UX:decide ((26:Int)<e.kind)=false:=z2;obtain⟨w,k,m,TY⟩:=rd au UE;have U7:ay X au (.ptr b 0)=some (.Z e.kind):=by rw[T1.dn _ _ a];exact a0
 have UA:ay X au (.ptr b 8)=some aE:=by rw[T1.dn _ _ a];exact f9
 have Ub:=UN.len;have Uv:=has.len;rw[Zj,Uv]at Ub;have UO:∀o,P o->H X au o=H X q o:=λo T9=>T1.M o (aV o T9);have Uz:=T1.le;apply t6
 ·intro VE;by_cases UK:0<=s.1;all_goals
   first
   |(
     have UB:decide ((0:Int)<=s.1)=true:=by simp[UK]
     have Un:decide ((e.args.length:Int)≠s.1)=false:=by simp[t.oN UK]
     refine dF @t0 @t3 (Za @U7 (Za @UW (Za @UX (Za @w (Za @UB (Za @UA (Za @Ub (Za @w @Un)))))))) ⟨?_⟩)
   |(
     have UB:decide ((0:Int)<=s.1)=false:=by simp[UK]
     refine dF @t0 @t3 (Za @U7 (Za @UW (Za @UX (Za @w (Za @UB @UA))))) ⟨?_⟩)
   refine(N9 (u:=ap+34) (q:=au) T8 (UN.M UO) (b5.M UO _ _ has)).Zm ?_;rintro R am aw ⟨rfl,rfl,VR⟩;refine h8 ⟨?_⟩;refine eO (λc D i=>c.g 0=some (.ptr b 0)/\c.g 3=some (.ptr (u+9) 0)/\aU X q u D i/\u+9<i/\H X D (u+9)=zP (jE s) 4) (λj p=> ?_) ?_
   ·refine bx ⟨?_⟩;exact p _ _ _ ⟨af t0,af t3,T1.more Zo,Zo,UE⟩
   exact VE.out
 clear t0 t3 T1 UE w k m TY U7 UA UO Uz;rintro B A UQ ⟨t0,t3,T7,VX,U1⟩;obtain⟨w,k,m,TY⟩:=rd A U1;have V0:=T7.le;have U8:ay X A (.ptr b 2)=some (.str e.name):=by rw[T7.dn _ _ a];exact bt
 have V4:s.2.1=true->decide (e.name≠[])=true:=λh=>by simp[(t.Hl h).ne]
 have V3:s.2.1=false->decide (e.name≠[])=false:=λh=>by simp[t.xa h]
 have V6:(e.no=true/\decide (e.kind≠6)=false)\/(e.no=false/\decide ((0:Int)≠0)=false):=by cases U5:e.no with|true=>exact .inl ⟨rfl,by simp[g.no U5]⟩|false=>exact .inr ⟨rfl,rfl⟩
 apply t6
 ·intro VC;rcases Bool.eq_false_or_eq_true s.2.1 with gu|gu;all_goals
   first
   |(
     have O:=V4 gu;rw[gu]at k;refine dF @t0 @t3 (Za @k (Za @U8 (Za @O @Oo))) ⟨?_⟩;refine(uP (u:=UQ+33) (q:=A) T8 Uq Us (t.Hl gu) Zo).Zm ?_;rintro R TZ Ui ⟨rfl,UI⟩;have VS:=UI.le;have f:aU X q u TZ Ui:=T7.trans (UI.gx Zo);have UM:u+9<Ui:=Zo;have G:H X TZ (u+9)=zP (jE s) 4:=by rw[UI.M _ Zo];exact U1
     have U9:ay X TZ (.ptr b 3)=some (.bool e.no):=by rw[f.dn _ _ a];exact a3
     have US:ay X TZ (.ptr b 0)=some (.Z e.kind):=by rw[f.dn _ _ a];exact a0)
   |(
     have O:=V3 gu;rw[gu]at k;refine dF @t0 @t3 (Za @k (Za @U8 (Za @O @On))) ⟨?_⟩;have f:aU X q u A (UQ+33):=T7.more Zo;have UM:u+9<UQ+33:=Zo;have G:H X A (u+9)=zP (jE s) 4:=U1;have U9:ay X A (.ptr b 3)=some (.bool e.no):=by rw[f.dn _ _ a];exact a3
     have US:ay X A (.ptr b 0)=some (.Z e.kind):=by rw[f.dn _ _ a];exact a0)
   rcases V6 with ⟨Uc,UY⟩|⟨Uc,UY⟩;all_goals
    rw[Uc]at U9;refine dF @t0 @t3 (Za @U9 (Za @US @UY)) ⟨?_⟩;refine eO (λc D i=>c.g 0=some (.ptr b 0)/\c.g 3=some (.ptr (u+9) 0)/\aU X q u D i/\u+9<i/\H X D (u+9)=zP (jE s) 4) (λj p=> ?_) ?_
    ·refine bx ⟨?_⟩;exact p _ _ _ ⟨af t0,af t3,f.more Zo,Zo,G⟩
    exact VC.out
 clear t0 t3 T7 U1 w k m TY U8 V0;rintro B n UR ⟨t0,t3,L,V5,U2⟩;obtain⟨w,k,m,TY⟩:=rd n U2;have V1:=L.le;have Va:cP e.ty=[.bool e.ty.b,.bool e.ty.s,.Z e.ty.w]:=rfl;have U4:ca X n 3 (.ptr b 4)=some (.agg (cP e.ty)):=by rw[mn,L.dn _ _ a,L.dn _ _ a,L.dn _ _ a,a4,a5,fq];rfl
 apply t6
 ·intro VD;rcases Bool.eq_false_or_eq_true s.2.2.1 with gu|gu;all_goals
   first
   |(
     have UL:=t.acR gu;rw[gu]at m;refine dF @t0 @t3 (Za @m @U4) ⟨?_⟩;refine(qY (u:=UR) (q:=n) T8.tobZ e.ty Zo).Zm ?_;rintro R T4 Uj ⟨rfl,UJ⟩;rw[UL];have VT:=UJ.le;have f:aU X q u T4 Uj:=L.trans (UJ.gx Zo);have UM:u+9<Uj:=Zo;have G:H X T4 (u+9)=zP (jE s) 4:=by rw[UJ.M _ Zo];exact U2
     have UT:ay X T4 (.ptr b 7)=some (.int .u64 e.n):=by rw[f.dn _ _ a];exact fV
     have U6:ay X T4 (.ptr (u+9) 3)=some (.bool s.2.2.2):=(rd T4 G).2.2.2)
   |(
     have UL:=t.cd gu;rw[gu]at m;have V8:cP e.ty=[.zT,.zT,.Z 0]:=by rw[UL];rfl
     rw[V8]at U4;refine dF @t0 @t3 (Za @m (Za @U4 @acS)) ⟨?_⟩;have f:aU X q u n UR:=L;have UM:u+9<UR:=V5;have G:H X n (u+9)=zP (jE s) 4:=U2;have UT:ay X n (.ptr b 7)=some (.int .u64 e.n):=by rw[f.dn _ _ a];exact fV
     have U6:ay X n (.ptr (u+9) 3)=some (.bool s.2.2.2):=(rd n G).2.2.2)
   rcases Bool.eq_false_or_eq_true s.2.2.2 with hB|hB;all_goals
    first
    |(
      have O:decide ((0:Int)≠0)=false:=rfl;rw[hB]at U6;have VZ:s.2.2.2=true:=hB)
    |(
      have O:decide (e.n≠0)=false:=by simp[t.aB hB]
      rw[hB]at U6)
    refine dF @t0 @t3 (Za @U6 (Za @UT @O)) ⟨?_⟩;refine eO (λc D i=>c.g 0=some (.ptr b 0)/\c.g 3=some (.ptr (u+9) 0)/\aU X q u D i/\u+9<i/\H X D (u+9)=zP (jE s) 4) (λj p=> ?_) ?_
    ·refine bx ⟨?_⟩;exact p _ _ _ ⟨af t0,af t3,f.more Zo,Zo,G⟩
    exact VD.out
 clear t0 t3 L U2 w k m TY V1 U4;rintro B T5 VH ⟨t0,t3,d,VY,VO⟩;have VU:=d.le;have N:ay X T5 (.ptr b 0)=some (.Z e.kind):=by rw[d.dn _ _ a];exact a0
 have UU:ay X T5 (.ptr b 7)=some (.int .u64 e.n):=by rw[d.dn _ _ a];exact fV
 have UV:ay X T5 (.ptr b 8)=some aE:=by rw[d.dn _ _ a];exact f9
 have UP:∀o,P o->H X T5 o=H X q o:=λo T9=>d.M o (aV o T9);show bu _ _;by_cases U3:e.kind=1
 ·have C:decide (e.kind=1)=true:=by simp[U3]
  refine cg @t0 @N @C ⟨?_⟩;refine(SD (u:=VH) (q:=T5) T8 Zo (bF.M UP _ _ UZ) (λo T9=>zL (aV o T9)) U3 (g.Hk U3)).Zm ?_;rintro R VN Ve ⟨rfl,Ur⟩;exact⟨rfl,d.trans (Ur.gx Zo)⟩
 have C:decide (e.kind=1)=false:=by simp[U3]
 by_cases UF:e.kind=19
 ·have T0:decide (e.kind=19)=true:=by simp[UF]
  have UC:decide (e.n<=63)=true:=by simp[(g.ci (.inl UF)).2]
  refine eg @t0 @N @C @T0 @UU @UC ⟨?_⟩;exact⟨rfl,d.more Zo⟩
 have T0:decide (e.kind=19)=false:=by simp[UF]
 by_cases UG:e.kind=20
 ·have T6:decide (e.kind=20)=true:=by simp[UG]
  have UC:decide (e.n<=63)=true:=by simp[(g.ci (.inr UG)).2]
  refine cu @t0 @N @C @T0 @T6 @UU @UC ⟨?_⟩;exact⟨rfl,d.more Zo⟩
 have T6:decide (e.kind=20)=false:=by simp[UG]
 by_cases UH:e.kind=21
 ·have U0:decide (e.kind=21)=true:=by simp[UH]
  obtain⟨l,r,Uu,T2⟩:=g.gX UH;obtain⟨ac,V2,Uy⟩:=has.get 0 l (by rw[Uu];rfl);obtain⟨VL,Ul,Vg⟩:=(UN.M UP).one V2;obtain⟨dK,Uh,VF,Vd,rfl,VQ,b8,_,_,_,_,_,_,_,Um,Ug,Ue⟩:=(bF.M UP _ _ Uy).open;have Uk:c8 1 aE (.Z 0)=some (.ptr bC 0):=VL;rcases T2 with T2|⟨T2,x,Ud,VA⟩
  ·have UD:decide (l.kind=1)=true:=(by simp[T2]);refine cu @t0 @N @C @T0 @T6 @U0 (Za @UV (Za @Uk (Za @Ul (Za @b8 @UD)))) ⟨?_⟩;exact⟨rfl,d.more Zo⟩
  ·have UD:decide (l.kind=1)=false:=(by simp[T2]);have Up:decide (l.kind=4)=true:=(by simp[T2]);obtain⟨Vi,VB,V9⟩:=Ue.get 0 x (by rw[Ud];rfl);obtain⟨VI,VK,Vf⟩:=Ug.one VB;obtain⟨Vh,rfl,Vc,VM⟩:=V9.ptr;have VJ:c8 1 Uh (.Z 0)=some (.ptr VF 0):=VI;have Uf:=Ug.len;rw[Zj,Ue.len,Ud]at Uf;have VG:c0 Uh=some (.Z 1):=Uf;have ex:decide (x.kind=1)=true:=(by simp[VA]);have Uo:decide ((1:Int)=1)=true:=rfl;refine cu @t0 @N @C @T0 @T6 @U0 (Za @UV (Za @Uk (Za @Ul (Za @b8 (Za @UD (Za @Up (Za @Um (Za @VG (Za @Uo (Za @VJ (Za @VK (Za @aaq (Za @VM @ex))))))))))))) ⟨?_⟩;exact⟨rfl,d.more Zo⟩
 have U0:decide (e.kind=21)=false:=by simp[UH]
 refine eg @t0 @N @C @T0 @T6 @U0 ⟨?_⟩;exact⟨rfl,d.more Zo⟩
def Rb{k:Nat}{e a:aX}(h:eL (k+1) e<=k)(g:a∈e.args):eL k a+1<=k:=by
 have i:∀(l:List aX) (c:Nat),(∀a∈l,eL k a<=l.foldl (λh a=>max h (eL k a)) c)/\c<=l.foldl (λh a=>max h (eL k a)) c:=by
  intro l;induction l with
  |nil=>intro c;exact⟨λ_ h=>by simp at h,Zg _⟩|cons b l U=>
   intro c;obtain⟨j,f⟩:=U (max c (eL k b));refine⟨λx d=> ?_,ZE (Nat.le_max_left _ _) f⟩;rcases Zq.1 d with rfl|d
   ·exact ZE (Nat.le_max_right _ _) f
   ·exact j x d
 have m:=(i e.args 0).1 a g;have n:eL (k+1) e=e.args.foldl (λh a=>max h (eL k a)) 0+1:=rfl;omega
def Rd{k:Nat}{e:aX}:1<=eL (k+1) e:=by have b:eL (k+1) e=e.args.foldl (λh a=>max h (eL k a)) 0+1:=rfl;omega
def IT{aZ:eM}:∀{l:List aX}{a:aX},dJ aZ l->a∈l->dw aZ a:=by
 intro l;induction l with
 |nil=>intro a _ h;cases h|cons b l U=>
  intro a h c;rw[dJ]at h;rcases Zq.1 c with rfl|c
  ·exact h.1
  ·exact U h.2 c
structure oB(X:bi)(a cD dK:Nat)(d:Int)(q:E S):Prop where
 v8:∃c,H X q a=some (.cells c 1 .own)/\c.get 0=some (.Z d)
 x0:ay X q (.ptr cD 0)=some (.Z 0)
 look:ay X q (.ptr dK 0)=some (.func (.func 145) [] [.ptr a 0,.ptr cD 0,.ptr dK 0])
def oB.M{a cD dK:Nat}{d:Int}(h:oB X a cD dK d au)(k:∀o,o=a\/o=cD\/o=dK->H X am o=H X au o):oB X a cD dK d am:=by obtain⟨c,b,e⟩:=h.v8;exact⟨⟨c,by rw[k a (.inl rfl)];exact b,e⟩,zW (k cD (.inr (.inl rfl))) h.x0,zW (k dK (.inr (.inr rfl))) h.look⟩
set_option maxRecDepth 100000 in
def SI(T3:e5 X)(UB:g2 X)(UC:kl X)(UF:mE X){P:Nat->Prop}{f cD dK dp:Nat}(l:(y X).aB<=f)(UW:f<dp)(Ue:cD<dp)(Ua:dK<dp)(T7:cD≠f)(T6:dK≠f)(aV:∀o,P o->o<dp/\o≠f):
 ∀(k:Nat) (e:aX) (v:z) (q:E S) (u:Nat),k<=200->dp<=u->eL (k+1) e<=k->dw gm e->bF X q P e v->oB X f cD dK ((200-k:Nat):Int) q->
  aD X 145 [v,.ptr f 0,.ptr cD 0,.ptr dK 0] q u (λR D Z=>R=.tuple []/\oB X f cD dK ((200-k:Nat):Int) D/\u<=Z/\∀o,o<u->o≠f->H X D o=H X q o) zX:=by
 intro k;induction k with
 |zero=>intro e v q u _ _ h;have:=Rd (k:=0) (e:=e);omega|succ k U=>
  intro e v q u UZ Ud UJ G T8 t;refine Fd T3.tobZ (Kx ..) ?_;unfold CY;obtain⟨b,aE,bC,aG,rfl,W,_,_,_,_,_,_,_,_,f9,C,has⟩:=id T8.open;obtain⟨c,U4,U8⟩:=t.v8;have UH:=aV b W;have U3:aK .add (.Z ((200-(k+1):Nat):Int)) (.Z 1)=some (.Z (200-k:Nat)):=by rw[cp Zo Zo,show((200-(k+1):Nat):Int)+1=((200-k:Nat):Int) by omega]
  refine dF (a8 U4) @U8 @U3 ⟨?_⟩;generalize x:aH X q f _=au;have U5:∃T0,H X au f=some (.cells T0 1 .own)/\T0.get 0=some (.Z (200-k:Nat)):=⟨cj c 0 [.Z ((200-k:Nat):Int)],by rw[<-x,aM l];rfl,nq c 0 _⟩;have a7:∀o,o≠f->H X au o=H X q o:=λo g=>by rw[<-x,ah l g]
  clear x;have UD:oB X f cD dK ((200-k:Nat):Int) au:=⟨U5,zW (a7 _ T7) t.x0,zW (a7 _ T6) t.look⟩;have UP:∀o,P o->H X au o=H X q o:=λo g=>a7 o (aV o g).2;have UI:=bF.M UP _ _ T8;refine bo @tf ⟨?_⟩;refine(SQ (u:=u) (q:=au) T3 UB UC UF Zo UI (λo g=>zL (aV o g).1) G).Zm ?_;rintro R am aw ⟨rfl,r⟩;have UL:=r.le;have T2:oB X f cD dK ((200-k:Nat):Int) am:=UD.M (λo g=>r.M o (by rcases g with rfl|rfl|rfl<;>omega));obtain⟨b0,U6,U9⟩:=T2.v8;have U1:ay X am (.ptr b 8)=some aE:=by rw[r.dn _ _ Zo,bB,a7 _ UH.2, <-bB];exact f9
  have TY:=C.len;have T9:=has.len;rw[Zj,T9]at TY;have UN:=C.many;rw[Zj,T9]at UN;have U2:decide ((200:Int)<((200-k:Nat):Int))=false:=z2;refine dA (a8 U6) @U9 @U2 @U1 @TY ⟨?_⟩;refine cM (λm B D UQ=>∃(j:Nat),B.g 1=some (.ptr f 0)/\B.g 2=some (.ptr cD 0)/\B.g 3=some (.ptr dK 0)/\B.g 12=some aE/\B.g 13=some (.Z e.args.length)/\B.g 14=some (.Z j)/\j+m=e.args.length
   /\oB X f cD dK ((200-k:Nat):Int) D/\u<=UQ/\∀o,o<u->o≠f->H X D o=H X q o)
   e.args.length ⟨0,aC,aC,aC,aC,aC,cT,Zo,T2,UL,λo n i=>by rw[r.M o n,a7 o i]⟩ ?_
  rintro m B O UR ⟨j,t1,UU,t3,U0,L,N,UY,p,Ub,A⟩;cases m with
  |zero=>have d:=zM j e.args.length;obtain⟨T1,U7,UA⟩:=p.v8;have s:aK .sub (.Z (200-k:Nat)) (.Z 1)=some (.Z ((200-(k+1):Nat):Int)):=(by rw[ju Zo Zo,show((200-k:Nat):Int) -1=((200-(k+1):Nat):Int) by omega]);refine cu @N @L @t1 @d (a8 U7) @UA @s ⟨?_⟩;refine⟨rfl,⟨⟨cj T1 0 [.Z ((200-(k+1):Nat):Int)],by rw[aM l];rfl,nq T1 0 _⟩,zW (ah l T7) p.x0,zW (ah l T6) p.look⟩,Zo,λo n i=>by rw[ah l i];exact A o n i⟩
  |succ m=>have d:=zN j e.args.length;have s:=zQ j;obtain⟨a,T4⟩:=zO e.args j;obtain⟨w,UO,UG⟩:=has.get j a T4;have TZ:∀o,P o->H X O o=H X q o:=λo g=>A o (zL (aV o g).1) (aV o g).2;obtain⟨US,UT,Ug⟩:=(C.M TZ).one UO;have T5:=Zl T4;have UX:=Rb UJ T5;have UM:=p.look;refine cu @N @L @U0 @t3 @d @US (Za @UT @UM) ⟨?_⟩;rw[dw.eq]at G;refine(U a w O UR Zo Zo Zo (IT G.2 T5) (bF.M TZ _ _ UG) p).Zm ?_;rintro R UV Uf ⟨rfl,UE,Uc,UK⟩;refine bE @N @s ⟨?_⟩;exact⟨m,Zo,j+1,af t1,af UU,af t3,af U0,af L,aC,Zo,UE,Zo,λo n i=>by rw[UK o Zo i];exact A o n i⟩
structure yo(g:GT):Prop where
 vars:g.cm.length+g.out.length+g.loc.length<=256
 eqs:g.eqs.length<=4096
 high:∀V∈g.eqs,eL 201 V.right<=200
def Sy:∀{l:List cA},pk l=none->∀V∈l,eL 201 V.right<=200:=by
 intro l;induction l with
 |nil=>intro _ V h;cases h|cons a l U=>
  intro h V b;unfold pk at h;split at h
  ·cases h
  ·rcases Zq.1 b with rfl|b
   ·omega
   ·exact U h V b
def Sz:∀{l:List GT},kC l=none->∀g∈l,yo g:=by
 intro l;induction l with
 |nil=>intro _ V h;cases h|cons a l U=>
  intro h g b;unfold kC at h;split at h
  ·cases h
  ·rename_i d;split at h
   ·cases h
   ·rename_i c;rcases Zq.1 b with rfl|b
    ·exact⟨Zo,Zo,Sy c⟩
    ·exact U h g b
def wY{Y:List GT}(h:jw Y=none):Y.length<=64/\∀g∈Y,yo g:=by
 unfold jw at h;split at h
 ·cases h
 ·rename_i a;rw[List.getElem?_eq_none_iff]at a;exact⟨a,Sz h⟩
set_option maxRecDepth 100000 in
def Qu(f:e5 X)(j:g2 X)(k:kl X)(m:mE X){P:Nat->Prop}{e:aX}{v:z}(x:(y X).aB<=u)(n:bF X q P e v)(aV:∀o,P o->o<u)(s:dw gm e)(r:eL 201 e<=200):
 aD X 119 [v] q u (λR D Z=>R=.Z 0/\aU X q u D Z) zX:=by
 refine Fd f.tobZ (JN ..) ?_;unfold Cz;refine bx ⟨?_⟩;generalize a:aH X _ (u+1+1) _=au;have g:H X au u=zP [.Z 0] 1:=by rw[<-a];simp(disch:=omega) only[ah,aM];rfl
 have i:H X au (u+1)=zP [.Z 0] 1:=by rw[<-a];simp(disch:=omega) only[ah,aM];rfl
 have c:ay X au (.ptr (u+1+1) 0)=some (.func (.func 145) [] [.ptr (u+1) 0,.ptr u 0,.ptr (u+1+1) 0]):=by rw[<-a,pg Zo];rfl
 have d:aU X q u au (u+1+1+1):=by rw[<-a];exact cf
 clear a;refine bo @c ⟨?_⟩;have p:=bF.M (λo b=>d.M o (aV o b)) _ _ n;refine(SI (dp:=u+1+1+1) f j k m Zo Zo Zo Zo Zo Zo (λo b=>by have:=aV o b;exact⟨Zo,Zo⟩) 200 e v au (u+1+1+1) Zo Zo r s p ⟨⟨_,i,rfl⟩,by rw[a8 g];rfl,c⟩).Zm ?_;rintro R am aw ⟨rfl,l,w,dB⟩;have t:=l.x0;refine bo @t ⟨?_⟩;exact⟨rfl,Zo,λo b=>by rw[dB o Zo Zo];exact d.M o b⟩
set_option maxRecDepth 100000 in
def S2(f:e5 X)(s:g2 X)(v:kl X)(UU:mE X){P:Nat->Prop}{g:GT}{row:List z}(UY:(y X).aB<=u)(UV:iO X q P g row)(aV:∀o,P o->o<u)(i:hN gm g)(T4:yo g):
 aD X 88 [.agg row] q u (λR D Z=>R=.Z 0/\aU X q u D Z) zX:=by
 refine Fd f.tobZ (M1 ..) ?_;unfold El;obtain⟨bK,bO,aE,TY,bc,bp,bG,Ur,aR,rfl,T1,T2,T3,x,U9⟩:=UV;have bw:=T1.len;have T7:=T2.len;have T8:=T3.len;have UE:=U9.wide;have T9:=x.len;have UX:=x.many;rw[Zj]at bw T7 T8;rw[UE.1]at T9 UX;have V3:=T4.vars;have Ut:=T4.eqs;have V1:0<g.out.length:=ZP.2 i.some;have C:aK .add (.Z g.cm.length) (.Z g.out.length)=some (.Z (g.cm.length+g.out.length:Nat)):=by rw[cp Zo Zo];simp
 have UO:aK .add (.Z (g.cm.length+g.out.length:Nat)) (.Z g.loc.length)=some (.Z (g.cm.length+g.out.length+g.loc.length:Nat)):=by rw[cp Zo Zo];simp
 have UK:decide ((g.out.length:Int)=0)=false:=z2;have UL:decide ((256:Int)<((g.cm.length+g.out.length+g.loc.length:Nat):Int))=false:=z2;have UM:decide ((4096:Int)<(g.eqs.length:Int))=false:=z2;refine mQ ?_;generalize O:aH X q u _=au;have r:H X au u=zP [.str g.name,.Z g.at_,bK,bO,aE,TY] 6:=by rw[<-O,aM UY];rfl
 have UQ:aU X q u au (u+1):=by rw[<-O];exact cf
 clear O;refine dF (a8 r) @bw (Za @T7 (Za @T8 (Za @C @UO))) ⟨?_⟩;refine(uP (u:=u+1) (q:=au) f s v i.name Zo).Zm ?_;rintro R am aw ⟨rfl,L⟩;have Uv:=L.le;rw[<-L.M _ Zo]at r;have UR:=UQ.trans L;have bV:=(fu T1.len).1;have b0:=(fu T2.len).1;have UJ:=(fu T3.len).1;have Uf:ea 3 [.ax,.ax,.ax] [(0,1,bK),(1,1,bO),(2,1,aE)] aw=some (.slice aw 0 3 3,.cells (E.ofList [bK,bO,aE] 0 .nil) 3 .own):=by simp[ea,k4,lL,ih,bV,b0,UJ]
 refine dF (a8 r) @bw (Za @T7 (Za @T8 (Za @T9 (Za @UK (Za @UL @UM))))) ⟨?_⟩;refine dg Uf ?_;refine h8 ⟨?_⟩;generalize w:aH X am aw _=e;have UP:H X e aw=zP [bK,bO,aE] 3:=by rw[<-w,aM Zo]
 have U3:aU X q u e (aw+1):=⟨Zo,λo a=>by rw[<-w];simp(disch:=omega) only[ah];exact UR.M o a⟩;have U2:H X e u=zP [.str g.name,.Z g.at_,bK,bO,aE,TY] 6:=by rw[<-w];simp(disch:=omega) only[ah];exact r
 clear w;have T6:∀o,P o->H X e o=H X q o:=λo a=>U3.M o (aV o a);refine(OX (u:=aw+1) (q:=e) f.tobZ Zo Zo UP (T1.M T6) (T2.M T6) (T3.M T6) (λo a=>zL (aV o a)) Zo Zo).Zm ?_;rintro R UH Uk ⟨Us,Uc,U5⟩;have Uw:=U5.le;refine h8 ⟨?_⟩;refine(O3 (u:=Uk) (q:=UH) f s v Zo Uc (λo a=>a.2) (λd ai=> ?_)).Zm ?_
 ·rcases Zp.1 ai with h|h
  ·exact i.cm d h
  ·rcases Zp.1 h with h|h
   ·exact i.out d h
   ·exact i.loc d h
 rintro R U1 UF ⟨rfl,U6⟩;have Ux:=U6.le;have U4:aU X e (aw+1) U1 UF:=U5.trans U6;have UT:aU X q u U1 UF:=U3.trans U4;rw[<-U4.M _ Zo]at U2;refine bE (a8 U2) @T9 ⟨?_⟩;refine cM (λm B D Uj=>∃(j:Nat),B.g 4=some (.Z 0)/\B.g 53=some TY/\B.g 54=some (.Z g.eqs.length)/\B.g 55=some (.Z j)/\j+m=g.eqs.length/\aU X q u D Uj)
  g.eqs.length ⟨0,aC,aC,aC,cT,Zo,UT⟩ ?_
 rintro m B UI l ⟨j,t4,t53,TZ,U0,Uu,t⟩;have Uy:=t.le;cases m with
 |zero=>have d:=zM j g.eqs.length;refine df @U0 @TZ @t4 @d ⟨?_⟩;exact⟨rfl,t⟩|succ m=>
  have d:=zN j g.eqs.length;have C:=zQ j;obtain⟨V,UA⟩:=zO g.eqs j;have UD:=Zl UA;have T5:=i.eqs V UD;obtain⟨row,Ud,Ub⟩:=U9.get j V UA;have Ug:∀o,P o->H X UI o=H X q o:=λo a=>t.M o (aV o a);have UW:=x.c4 j (by rw[UE.1];omega);have Ue:=(x.M Ug).row Zd Ud;obtain⟨Um,Ul,bV,b0,Un,rfl,UB,V2,UZ,Ua⟩:=Ub;have UC:=UB.len;rw[show(dh V.left).length=V.left.length from by simp[dh]]at UC;have V0:0<V.left.length:=ZP.2 T5.some;have UN:decide ((V.left.length:Int)=0)=false:=z2;refine eg @U0 @TZ @t53 @d @UW @Ue ⟨?_⟩;refine dg (eS (k:=4) (b:=l) (I:=0) (n:=4) (c:=E.ofList [.ax,.ax,.Z 0,.bH] 0 .nil) (aM Zo) Zo rfl Zd Zd Ua) ?_;generalize T0:aH X _ l _=p;have G:H X p l=zP [Um,Ul,.Z V.at_,Un] 4:=by rw[<-T0,aM Zo];rfl
  have U7:aU X q u p (l+1):=⟨Zo,λo a=>by rw[<-T0];simp(disch:=omega) only[ah];exact t.M o a⟩;clear T0;have Uh:∀o,P o->H X p o=H X q o:=λo a=>U7.M o (aV o a);refine bo (a8 G) ⟨?_⟩;refine(Qu (u:=l+1) (q:=p) f s v UU Zo (bF.M Uh _ _ UZ) (λo a=>zL (aV o a)) T5.right (T4.high V UD)).Zm ?_;rintro R A UG ⟨rfl,N⟩;have Uz:=N.le;rw[<-N.M _ Zo]at G;have U8:aU X q u A UG:=U7.trans N;have Ui:∀o,P o->H X A o=H X q o:=λo a=>U8.M o (aV o a);refine cg (a8 G) @UC @UN ⟨?_⟩;refine(Sp (u:=UG) (q:=A) f s v Zo (UB.M Ui) (λo a=>zL (aV o a)) T5.left).Zm ?_;rintro R Uq V4 ⟨rfl,US⟩;have Uo:decide ((0:Int)=1)=false:=rfl;have Up:decide ((0:Int)≠0)=false:=rfl;refine df @Uo @Up @U0 @C ⟨?_⟩;exact⟨m,Zo,j+1,af t4,af t53,af TZ,aC,Zo,U8.trans US⟩
set_option maxRecDepth 100000 in
def Qt(t:e5 X)(T2:g2 X)(T4:kl X)(T5:mE X){P:Nat->Prop}{Y:List GT}{v:z}(UE:(y X).aB<=u)(T6:iP X q P Y v)(aV:∀o,P o->o<u)(U1:∀g∈Y,hN gm g)(T1:Y≠[])(T8:jw Y=none):
 aD X 51 [v] q u (λR D Z=>R=.Z 0/\aU X q u D Z) zX:=by
 refine Fd t.tobZ (Md ..) ?_;unfold DQ;obtain⟨UC,T9⟩:=wY T8;obtain⟨b,aE,bC,aR,rfl,W,a0,l,C⟩:=id T6;have G:=C.wide;have A:=l.len;rw[G.1]at A;have UA:=aV b W;have UF:0<Y.length:=ZP.2 T1;have L:decide ((Y.length:Int)=0)=false:=z2;have N:decide ((64:Int)<(Y.length:Int))=false:=z2;refine dA @FJ @a0 @A @L @N ⟨?_⟩;refine cM (λm B D U3=>∃(j:Nat),B.g 3=some (.Z 0)/\B.g 28=some aE/\B.g 29=some (.Z Y.length)/\B.g 30=some (.Z j)/\j+m=Y.length/\aU X q u D U3)
  Y.length ⟨0,aC,aC,aC,cT,Zo,aU.refl _ _⟩ ?_
 rintro m B au ap ⟨j,t3,t28,p,r,UB,e⟩;have UD:=e.le;cases m with
 |zero=>have d:=zM j Y.length;refine df @r @p @t3 @d ⟨?_⟩;exact⟨rfl,e⟩|succ m=>
  have d:=zN j Y.length;have O:=zQ j;obtain⟨g,w⟩:=zO Y j;have x:=Zl w;obtain⟨row,TZ,i⟩:=C.get j g w;have U2:∀o,P o->H X au o=H X q o:=λo a=>e.M o (aV o a);have T7:=l.c4 j (by rw[G.1];omega);have U0:=(l.M U2).row Zd TZ;have e1:=i.dU;have TY:=i;obtain⟨bK,bO,U5,U4,bc,bp,bG,U9,UH,rfl,_⟩:=i;refine eg @r @p @t28 @d @T7 @U0 ⟨?_⟩;refine dg (eS (k:=6) (b:=ap) (I:=0) (n:=6) (c:=E.ofList [.str [],.Z 0,.ax,.ax,.ax,.ax] 0 .nil) (aM Zo) Zo rfl Zd Zd e1) ?_;generalize f:aH X _ ap _=am;have T0:H X am ap=zP [.str g.name,.Z g.at_,bK,bO,U5,U4] 6:=by rw[<-f,aM Zo];rfl
  have s:aU X q u am (ap+1):=⟨Zo,λo a=>by rw[<-f];simp(disch:=omega) only[ah];exact e.M o a⟩;clear f;refine bo (a8 T0) ⟨?_⟩;refine(S2 (u:=ap+1) (q:=am) t T2 T4 T5 Zo (TY.M (aI:=P) (λo a=>s.M o (aV o a)) (λ_ h=>h)) (λo a=>zL (aV o a)) (U1 g x) (T9 g x)).Zm ?_;rintro R U8 UG ⟨rfl,T3⟩;have U6:decide ((0:Int)=1)=false:=rfl;have U7:decide ((0:Int)=22)=false:=rfl;refine df @U6 @U7 @r @O ⟨?_⟩;exact⟨m,Zo,j+1,af t3,af t28,af p,aC,Zo,s.trans T3⟩
def s4(Y:List GT)(k:Nat)(g:GT):(aA->Option Int)×(Int×Int):=g.eqs.foldl (gP (c6 g) Y k) (λ_=>none,kt (c6 g) g (j6 Y k g))
def Tq(Y:List GT)(k:Nat)(g:GT):gZ Y k g=(c3 g).foldl (jd (s4 Y k g).1) (s4 Y k g).2:=rfl
def GY(Y:List GT)(k:Nat)(g:GT)(w:aA):((s4 Y k g).1 w).getD 0=fs w (g.eqs.flatMap cA.left):=by unfold s4;rw[aaE];simp
def qT(g:GT):List aA:=g.eqs.flatMap cA.left
structure Ch(Y:List GT)(k:Nat)(g:GT):Prop where
 aB:(j6 Y k g).1=0
 bR:(w5 g).Nodup
 on:∀x∈c3 g,x.2.on≠[]->(c6 g x.2.on).isSome=true
 left:∀w∈qT g,∃v,c6 g w=some v/\v.kind≠1/\fs w (qT g)<=1
 right:∀V∈g.eqs,tJ (c6 g) Y k V.right
def S7{Y:List GT}{k:Nat}{g:GT}:(s4 Y k g).2.1=0↔Ch Y k g:=by
 unfold s4;rw[aaF _ _ _ _ _ (λ_=>Zs)];rw[O4];constructor
 ·rintro⟨⟨a,b,h⟩,c,d⟩;refine⟨a,b,λx j i=> ?_,λw e=> ?_,d⟩
  ·cases l:c6 g x.2.on with|none=>grind|some v=>rfl
  ·obtain⟨v,a7,bl,f⟩:=c w e;exact⟨v,a7,bl,by simpa[qT]using f⟩
 ·rintro⟨a,b,h,c,d⟩;refine⟨⟨a,b,λx j i=> ?_⟩,λw e=> ?_,d⟩
  ·grind
  ·obtain⟨v,a7,bl,f⟩:=c w e;exact⟨v,a7,bl,by simpa[qT]using f⟩
def Hn{Y:List GT}{k:Nat}{g:GT}:(gZ Y k g).1=0↔Ch Y k g/\∀x∈c3 g,x.1≠1->0<fs x.2.name (qT g):=by
 rw[Tq,ac2,S7];refine and_congr Iff.rfl ⟨λh x b a=> ?_,λh x b a=> ?_⟩
 ·have:=h x b;rw[GY]at this;have:=qg x.2.name (g.eqs.flatMap cA.left);show 0<fs x.2.name (g.eqs.flatMap cA.left);omega
 ·rw[GY]at a;have:=h x b a.1;unfold qT at this;omega
def HB:∀(l:List (Int×cG)) (s:(aA->Option cB)×List aA) (w:aA),((l.foldl eR s).1 w=s.1 w/\((s.1 w).isSome=true\/∀x∈l,x.2.name≠w))\/((s.1 w)=none/\∃x∈l,x.2.name=w/\(l.foldl eR s).1 w=some ⟨x.1,x.2, -1, -1⟩):=by
 intro l;induction l with
 |nil=>simp_all|cons x l U=>
  intro s w;rw[Z6];by_cases d:(s.1 x.2.name).isSome=true
  ·have e:eR s x=s:=(by unfold eR;rw[Zv d]);rw[e];grind
  ·have e:eR s x=(λw=>if w=x.2.name then some ⟨x.1,x.2, -1, -1⟩else s.1 w,s.2++[x.2.name]):=(by unfold eR;rw[Zi d]);rw[e];by_cases f:w=x.2.name
   ·subst f;have i:s.1 x.2.name=none:=by cases h:s.1 x.2.name with|none=>rfl|some v=>rw[h]at d;exact absurd rfl d
    refine .inr ⟨i,x,Zr ..,rfl, ?_⟩;rcases U (λw=>if w=x.2.name then some ⟨x.1,x.2, -1, -1⟩else s.1 w,s.2++[x.2.name]) x.2.name with ⟨a,_⟩|⟨a,_⟩
    ·rw[a];simp
    ·simp at a
   ·rcases U (λw=>if w=x.2.name then some ⟨x.1,x.2, -1, -1⟩else s.1 w,s.2++[x.2.name]) w with ⟨a,b⟩|⟨a,o,c,b,g⟩
    ·simp only[Zi f]at a b;refine .inl ⟨a,b.imp id λb o c=> ?_⟩;rcases Zq.1 c with rfl|c
     ·exact λe=>f e.symm
     ·exact b o c
    ·simp only[Zi f]at a;exact .inr ⟨a,o,Zw _ c,b,g⟩
def acz{g:GT}{w:aA}(h:w∈w5 g):(c6 g w).isSome=true:=by
 obtain⟨x,e,rfl⟩:=ZC.1 h;have b:=xN g x.2.name;unfold hd at b;rcases HB (c3 g) (λ_=>none,[]) x.2.name with ⟨d,a⟩|⟨_,o,f,a,c⟩
 ·rcases a with a|a
  ·grind
  ·grind
 ·rw[c]at b;have:=congrArg Option.isSome b;grind
def OF{Y:List GT}:∀(l:List GT) (k:Nat),(mR Y k l).1=0↔∀(i:Nat) g,l[i]? =some g->(gZ Y (k+i) g).1=0:=by
 intro l;induction l with
 |nil=>intro k;simp[mR]|cons a l U=>
  intro k;rw[mR];by_cases h:(gZ Y k a).1=0
  ·rw[Zi (by simp[h]),U];constructor
   ·grind
   ·intro b i g ag;have:=b (i+1) g (by simpa using ag);grind
  ·rw[Zv h];exact⟨λe=>absurd e h,λb=>absurd (b 0 a rfl) h⟩
def OG{Y:List GT}:(l7 Y).1=0↔∀(i:Nat) g,Y[i]? =some g->(gZ Y i g).1=0:=by unfold l7;rw[OF];simp
variable{Y:List GT}{j k:Nat}{g:GT}{V:cA}
end
open Go.ak
def n1(k:Int):Bool:=decide (k=2)||decide (k=6)||decide (k=24)
def lA(l:List aA)(w:aA):List aA:=if w∈l then l else l++[w]
mutual
def fM:List aA->aX->List aA
 |l,.mk k _ nm _ _ _ args=>if k=5 then l else lh (if n1 k=true then lA l nm else l) (decide (k=21)) args
def lh:List aA->Bool->List aX->List aA
 |l,_,[]=>l|l,f,a::b=>if f=true then fM l a else lh (fM l a) f b
end
def vh(aj:aA):aX:=.mk 2 0 aj false cd 0 []
mutual
def uO:aX->Nat
 | .mk _ _ _ _ _ _ args=>1+w1 args
def w1:List aX->Nat
 |[]=>0|a::l=>uO a+w1 l
end
def GS:∀{l:List aX}{a:aX},a∈l->uO a<=w1 l
 |[],a,h=>by cases h|b::l,a,h=>by
  rw[w1];rcases Zq.1 h with rfl|h
  ·omega
  ·have:=GS h;omega
def j9(ci:List aA):aA->Option Nat:=ci.zipIdx.foldl (λm x w=>if w=x.1 then some x.2 else m w) (λ_=>none)
def hp(g:GT)(nm:aA):List aA:=match c6 g nm with
 |some v=>v.d.on::(if 0<=v.eq/\v.kind≠1 then(match g.eqs[v.eq.toNat]? with|some V=>fM [] V.right|none=>[])else[])|none=>[]
def H3(g:GT)(nm:aA):List Nat:=(hp g nm).filterMap (j9 (eQ g))
def TI(k:Nat):∀(l:List (aA×Nat)) (t:aA->Option cB) (w:aA) (v:cB),t w=some v->∃c,(l.foldl (ie k) t) w=some c/\((c.eq=v.eq/\(v.eq<0->∀x∈l,x.1≠w))\/(v.eq<0/\c.eq=k/\∃x∈l,x.1=w)):=by
 intro l;induction l with
 |nil=>simp_all|cons x l U=>
  intro t w v h;by_cases m:x.1=w
  ·by_cases i:v.eq<0
   ·have g:ie k t x w=some ⟨v.kind,v.d,k,x.2⟩:=(by unfold ie;grind);obtain⟨c,f,d⟩:=U _ w _ g;refine⟨c,f,.inr ⟨i, ?_,x,Zr ..,m⟩⟩;grind
   ·have g:ie k t x w=some v:=(by unfold ie;rw[m,h];grind);obtain⟨c,f,d⟩:=U _ w _ g;refine⟨c,f,.inl ⟨?_,λh=>absurd h i⟩⟩;rcases d with ⟨d,_⟩|⟨d,_⟩
    ·exact d
    ·exact absurd d i
  ·have g:ie k t x w=some v:=by
    unfold ie;cases p:t x.1 with
    |none=>exact h|some R=>
     simp only;by_cases n:R.eq<0
     ·rw[Zv n,Zi (λe=>m e.symm)];exact h
     ·rw[Zi n];exact h
   obtain⟨c,f,d⟩:=U _ w _ g;refine⟨c,f,d.imp (λ⟨a,b⟩=>⟨a,λi o j=> ?_⟩) (λ⟨a,b,o,j,e⟩=>⟨a,b,o,Zw _ j,e⟩)⟩;rcases Zq.1 j with rfl|j
   ·exact m
   ·exact b i o j
def I5{w:aA}(l:List aA):(∃x∈l.zipIdx,x.1=w)↔w∈l:=by
 constructor
 ·grind
 ·intro h;obtain⟨i,ag⟩:=Yv h;exact⟨(w,i),List.mem_zipIdx_iff_getElem?.2 ag,rfl⟩
def TJ:∀(a:List cA) (i:Nat) (t:aA->Option cB) (w:aA) (v:cB),t w=some v->∃c,((a.zipIdx i).foldl rk t) w=some c/\((c.eq=v.eq/\(v.eq<0->∀V∈a,w∉V.left))\/(v.eq<0/\∃(k:Nat) (V:cA),c.eq=(i+k:Nat)/\a[k]? =some V/\w∈V.left)):=by
 intro a;induction a with
 |nil=>simp_all|cons V a U=>
  intro i t w v h;obtain⟨N,p,r⟩:=TI i V.left.zipIdx t w v h;obtain⟨c,s,l⟩:=U (i+1) (rk t (V,i)) w N p;refine⟨c,s, ?_⟩;rcases r with ⟨d,f⟩|⟨d,f,m⟩
  ·rcases l with ⟨b,g⟩|⟨b,k,L,g,f3,n⟩
   ·refine .inl ⟨b.trans d,λA o j=> ?_⟩;rcases Zq.1 j with rfl|j
    ·intro C;obtain⟨x,G,e⟩:=(I5 o.left).2 C;exact f A x G e
    ·exact g Zo o j
   ·exact .inr ⟨Zo,k+1,L,by rw[g];omega,by simpa using f3,n⟩
  ·refine .inr ⟨d,0,V, ?_,rfl,(I5 V.left).1 m⟩;rcases l with ⟨b,_⟩|⟨b,_⟩
   ·rw[b,f];rfl
   ·omega
def vd{g:GT}{w:aA}{v:cB}(h:c6 g w=some v):(v.eq= -1/\∀V∈g.eqs,w∉V.left)\/∃(k:Nat) (V:cA),v.eq=k/\g.eqs[k]? =some V/\w∈V.left:=by
 have d:=xN g w;rw[h]at d;cases a:(hd g).1 w with
 |none=>grind|some v0=>
  have i:v0.eq= -1:=by
   unfold hd at a;rcases HB (c3 g) (λ_=>none,[]) w with ⟨b,_⟩|⟨_,x,j,c,f⟩
   ·grind
   ·grind
  obtain⟨e,b,c⟩:=TJ g.eqs 0 (hd g).1 w v0 a
  have:c6 g w=some e:=b
  grind
def jq:Int->List Int->List Int
 |_,[]=>[]|p,a::l=>if a=p then jq a l else a::jq a l
def hz:List Int->List Int
 |[]=>[]|a::l=>a::jq a l
open Go.aF
section
variable (X : bi) (q : E S) (u : Nat) (T ab : aY) (a0 aL bt a3 a4 a5 fq fV f9 : z)
def En:Za0:=λa b c d e f=>aa (b7 a c .eql 43 true b .bH) λg=>aJ (λb c d=>h1 b 1 a c λ_ _ b=>aD a 25 [b] c d e f) λa=>av g (e .ax c d) (a (zT (bN [b]) 2 .ax 4 g) c d)
theorem Nt:dV X 9 [a0] (En X a0):=⟨Zk,Zk⟩
end
section
variable (X : bi) (q : E S) (u : Nat) (T ab : aY) (a0 aL bt a3 a4 a5 fq fV f9 : z)
def Ds:Za0:=λa b c d e _=>aa (b7 a c .eql 38 true b .ax) λf=>aJ (λb c d=>aa (ea 0 [] [] d) λf=>dQ a c d f.1 f.2 λc d f=>cN b λb=>lX a d f c b λa b c=>e a b c) λa=>av f (e .ax c d) (a (zT (bN [b]) 2 .ax 4 f) c d)
theorem Lt:dV X 25 [a0] (Ds X a0):=⟨Zk,Zk⟩
end
section
variable (X : bi) (q : E S) (u : Nat) (T ab : aY) (a0 aL bt a3 a4 a5 fq fV f9 : z)
def Dw:Za0:=λa b c d e f=>Cc b a c 5000 λg=>ou a 5 g c d f λc d g h=>vr d a c h 0 λc d h i=>aJ (λb c d=>gC b λg=>aa (b7 a c .eql 23 true g .bH) λg=>aJ (λb c d=>gC b λg=>aD a 7 [g] c d (λc d g=>vr g a d c 29 λc d g h=>aJ (λb c d=>gC b λg=>dC g 0 a c λ_ g=>ec g (λb c d=>gC b λg=>dC g 0 a c λ_ g=>ec g (λ_ a b=>e .zT a b) λh i=>cF (λb c d g=>dD c 122 121 λh=>aJ (λc d g=>fe (λa c d=>c9 a 122 λe=>b (J a 122 e) c d) c 120 122 λb h i=>og h i a d g λd g h=>x6 d a h λi=>aJ b λb=>cF (λc d g h=>rY d 133 3 λi=>aJ (λb d g=>fe (λa b d=>c9 a 133 λe=>c (J a 133 e) b d) b 132 133 λc h i=>aa (ky false 3 1 h i) λh=>aa (c0 h) λi=>aJ c λc=>cF (λb d g h=>dD d 138 137 λi=>aJ (λc d g=>aJ (λa c d=>c9 a 138 λe=>b (J a 138 e) c d) λb=>tu c 136 138 a d g λd g h=>cS 5 d a h λ_ i=>aa (b7 a h .neq 9 true i (.str [])) λi=>kN i 6 d h g a λg h j=>wQ i (c 5) (λa=>es 1 a) h j λh j k=>cR i (ay a j h) j k λh j k=>cR i (aK .eql g h) j k λg h j=>bT (λg=>aJ b λb=>av g (aD a 6 [] h j e f) (b (zT c 23 d 151 g) h j)) λa=>av i (a g) (a .zT)) λa=>av i (a (J d 139 i) g h) (c (J d 139 i) g h)) (zV b 21 h 136 h 137 i 138 (.Z 0)) d g) λa=>av i (a (J d 134 i) g h) (b (J d 134 i) g h)) (zU c 19 d 132 i 133 (.Z 0)) h g) λa=>av h (a (J c 123 h) d g) (i (J c 123 h) d g)) (zU b 120 g 121 h 122 (.Z 0)) c d) λh i=>cF (λb c d g=>dD c 50 49 λh=>aJ (λc d g=>fe (λa c d=>c9 a 50 λe=>b (J a 50 e) c d) c 48 50 λb h i=>og h i a d g λd g h=>nt 5 d a h λi j=>aJ b λb=>cF (λc d g h=>dD d 57 56 λi=>aJ (λb d g=>fe (λa b d=>c9 a 57 λe=>c (J a 57 e) b d) b 55 57 λc h i=>rV h i a d g λd g h=>cS 2 d a h λ_ i=>fd b 5 1 a h λ_ j=>aa (aK .neq i j) λi=>aJ (λb c d=>bu (b 7) λg=>jK a c 6 g 8 d f λc d g=>aD a 9 [c] d g (λd g h=>bu (b 7) λi=>jK a g 6 i 10 h f λg h i=>fd b 9 0 a h λ_ j=>ec j (λ_ a b=>e .zT a b) λk l=>cF (λb c d g=>dD c 75 74 λh=>aJ (λc d g=>h0 (λa c d=>c9 a 75 λe=>b (J a 75 e) c d) c 73 75 a d λb h=>pN a d g λd g i=>c1 c 12 11 λj k=>aD a 11 [k,h] g i (λg i k=>fS j g a i λg=>ek (eV a i k 1 .ax g) i k λg i j=>aJ (λc d g=>c1 c 15 11 λh i=>bu (c 14) λj=>aD a 11 [i,j] d g (λd g i=>aa (fb a g 3 (.Z 0) h d false) λd=>rZ d λd=>aJ b λb=>av d (aD a 6 [] g i e f) (b (J c 112 d) g i)) f) λb=>cF (λc d e f=>bu (d 16) λg=>aa (c0 g) λg=>rZ g λg=>aJ (λb d e=>aJ c λc=>bu (b 16) λf=>r1 1 f λf=>aa (ay a d f) λf=>bu (b 16) λg=>aa (fw a d 1 g (some (.Z 1)) none none) λg=>bu (b 15) λh=>aa (fb a d 3 (.Z 0) h f false) λh=>jg h 0 c λc h=>av c (bu (b 15) λi=>ek (ib a d e 3 i f (.Z 1)) d e λ_ d e=>bu (b 12) λi=>fS i f a d λi=>lX a d e g i λa d e=>h (zV b 17 f 16 g 98 c 16 a) d e) (h (zU b 17 f 16 g 98 c) d e)) λa=>av g (a (J d 89 g) e f) (b (J d 89 g) e f)) (zU c 14 h 15 d 16 g) i j) f) λa=>av h (a (J c 76 h) d g) (l (J c 76 h) d g)) (zT (zV b 10 c 11 d 12 g 73 j) 74 k 75 (.Z 0)) h i) f) λa=>av i (c (zT b 9 d 65 i) h g) (a (zT b 9 d 65 i) h g)) λa=>av i (a (J d 58 i) g h) (b (J d 58 i) g h)) (zV c 7 d 55 i 56 j 57 (.Z 0)) h g) λa=>av h (a (J c 51 h) d g) (i (J c 51 h) d g)) (zU b 48 g 49 h 50 (.Z 0)) c d) λi=>av h (aD a 6 [] g d e f) (i (zT b 5 c 43 h) g d)) f) λa=>av g (e .zT c d) (a (J b 38 g) c d)) λj=>av i (aD a 6 [] h d e f) (j (zV (bN [b]) 2 .zT 4 c 3 g 35 i) h d)
theorem LS:dV X 3 [a0] (Dw X a0):=⟨Zk,Zk⟩
def Ea:Za0:=λa b c d e f=>oh d a c λc d g=>ou a 12 b d g f λd g _ h=>vr g a d h 0 λd g h i=>aJ (λb c d=>jM b a c λg=>ec g (λb c d=>tw λf=>jL b 2 a c 2 f λa b=>e b a d) λh i=>cF (λb c d g=>dD c 26 25 λh=>aJ (λc d g=>fe (λa c d=>c9 a 26 λe=>b (J a 26 e) c d) c 24 26 λb h i=>og h i a d g λd g h=>jK a h 6 d 10 g f λg h i=>ou a 23 g h i f λg h i j=>aa (dX .not j) λk=>aJ (λb c d=>bu (b 6) λg=>jK a c 6 g 8 d f λc d g=>cU (g+15) λh=>bu (b 7) λi=>r1 1 i λi=>aa (ay a d i) λj=>vp g 12 a d λd g=>aD a 9 [c] g h (λg h k=>fS g j a h λg=>aa (ay a h i) λi=>d3 i (some j) (aD a 13 [c,g] h k (λf g h=>eG f λf _=>aa (cW a g 11 d f) λf=>cS 9 d a f λ_ g=>mA g λg=>aJ (λb c d=>bu (b 10) λf=>aa (es 1 f) λf=>cS 6 f a c λ_ f=>vq 29 f λf=>jL b 2 a c 2 f λa b=>e b a d) λi=>av g (fd b 6 5 a f λ_ c=>cS 9 d a f λ_ d=>aa (c8 4 c d) λc=>cS 2 c a f λ_ c=>vq 29 c λc=>jL b 2 a f 2 c λa b=>e b a h) (i (zU b 9 c 10 d 54 g) f h)) f)) f) λa=>av k (b (zV c 6 d 7 i 8 j 37 k) g h) (a (zV c 6 d 7 i 8 j 37 k) g h)) λa=>av h (a (J c 27 h) d g) (i (J c 27 h) d g)) (zU b 24 g 25 h 26 (.Z 0)) c d) λf=>av i (aa (ca a h 2 d) λb=>pO a h 2 c b λa b=>e b a g) (f (zU (bN [b]) 2 c 4 d 19 i) h g)
theorem MZ:dV X 7 [a0] (Ea X a0):=⟨Zk,Zk⟩
def Cl:Za0:=λa b c d e f=>eW a c d b λc d g=>jK a d 6 c 8 g f λd g h=>pN a g h λg h i=>aD a 9 [d] h i (λh i j=>ec h (λb c d=>gC b λg=>aD a 9 [g] c d (λc d g=>ec c (λa b c=>bu (a 7) λa=>e a b c) λe h=>cF (λb c d e=>dD c 36 35 λg=>aJ (λc d e=>h0 (λa c d=>c9 a 36 λe=>b (J a 36 e) c d) c 34 36 a d λb g=>gC c λh=>aD a 13 [h,g] d e (λd e h=>tt d h a e λ_ d e h=>aa (es 1 d) λi=>cS 5 i a h λ_ i=>aa (ea 1 [.str []] [(0,1,i)] e) λi=>dQ a h e i.1 i.2 λe h i=>cS 9 d a h λ_ j=>mA j λj=>kN j 0 d h i a λh i k=>cR j (aK .neq h (.Z 1)) i k λh i k=>bT (λh=>aJ (λc d e=>bu (c 12) λg=>ec g (λc d e=>bu (c 13) λg=>Bf a d [g] e λ_ d e=>c1 c 7 13 λg h=>aD a 28 [h] d e (λd e f=>aa (ea 1 [.ax] [(0,1,d)] f) λd=>oi a e f d.1 d.2 1 g λa d e=>b (J c 7 a) d e) f) λb f=>cF (λb c d e=>dD c 70 69 λg=>aJ (λc d e=>h0 (λa c d=>c9 a 70 λe=>b (J a 70 e) c d) c 68 70 a d λb f=>eX c λg=>aa (fb a d 9 (.Z 0) g f true) λg=>eG g λg h=>aJ b λb=>av h (bu (c 13) λi=>vv g e a d i λa d e=>b (J (zV c 15 f 16 g 17 h 80 h) 13 a) d e) (b (zV c 15 f 16 g 17 h 80 h) d e)) λa=>av g (a (J c 71 g) d e) (f (J c 71 g) d e)) (zV c 13 .ax 68 g 69 b 70 (.Z 0)) d e) λb=>av h (fd c 1 5 a i λ_ j=>cS 9 d a i λ_ l=>aa (c8 4 j l) λj=>oo 3 j a i 26 k f λf i j=>lX a i j e f λa f i=>b (J (zV c 9 g 10 d 12 e 57 h) 12 a) f i) (b (zV c 9 g 10 d 12 e 57 h) i k)) λa=>av j (a h) (a .zT)) f) λa=>av g (a (J c 37 g) d e) (h (J c 37 g) d e)) (zV b 7 .ax 34 c 35 e 36 (.Z 0)) d g) f) λe f=>cF (λb c d e=>dD c 24 23 λg=>aJ (λc d e=>fe (λa c d=>c9 a 24 λe=>b (J a 24 e) c d) c 24 22 λb f g=>bu (c 24) λh=>fS g h a d λg=>eX c λh=>ek (ib a d e 9 h g f) d e λ_ a d=>b (zT c 5 f 6 g) a d) λa=>av g (a (J c 25 g) d e) (f (J c 25 g) d e)) (zU (zV (bN [b]) 1 c 2 .ax 3 d 4 g) 22 h 23 e 24 (.Z 0)) i j) f
theorem JD:dV X 10 [a0] (Cl X a0):=⟨Zk,Zk⟩
def Dt:Za0:=λa b c d e f=>aa (fX [.ax] d) λg=>dQ a c d g.1 g.2 λc d g=>aa (fX [.nilFunc] g) λh=>dQ a d g h.1 h.2 λd g h=>aa (cW a g 1 d (.func (.func 47) [] [c,d])) λg=>aa (ay a g d) λd=>e9 a d [b] g h (λ_ b d=>aa (ay a b c) λa=>e a b d) f
theorem Lv:dV X 26 [a0] (Dt X a0):=⟨Zk,Zk⟩
def DN:Za2:=λa b c d e f g h=>aa (b7 a e .eql 40 true b .bH) λi=>d7 i b e f λe f j=>rW i e f j a 5 λe f j=>bT (λe=>aJ (λb c d=>vt b a c 2 λe=>lb e (b 0) c d λc d f=>rW e c d f a 6 λc d f=>bT (λc=>lb c (b 0) d f λd e f=>rW c d e f a 24 λd e f=>bT (λc=>cU (f+10) λd=>wP c (b 1) (λb=>ay a e b) e λe f=>pM c b 0 f 2 a λf i=>gM c (λb=>aD a 48 [e,f] i d b h) i d λd e f=>gc c (dX .not d) e λd e=>bT (λd=>aJ (λb c d=>h1 b 8 a c λ_ _ e=>vt b a c 21 λf=>aJ (λb c d=>hu b λe=>ec e (λ_ a b=>g (.tuple []) a b) λf g=>cF (λb c d e=>dD c 69 68 λf=>aJ (λc d e=>h0 (λa c d=>c9 a 69 λe=>b (J a 69 e) c d) c 67 69 a d λb f=>gg c 2 a d λg=>e9 a g [f] d e (λ_ a d=>b (J c 7 f) a d) h) λa=>av f (a (J c 70 f) d e) (g (J c 70 f) d e)) (zU b 67 e 68 f 69 (.Z 0)) c d) λg=>av f (Cc e a c 1 λa=>g (zU b 5 e 61 f 5 a) c d) (g (zT b 5 e 61 f) c d)) λg=>av d (cU (f+8) λh=>gg b 1 a e λi=>h1 b 2 a e λ_ _ j=>aa (ea 1 [.str []] [(0,1,j)] (f+5)) λj=>hb a e (f+5) j.1 j.2 λe f=>lX a f h i e λe f h=>hL b λi=>gl a f i e λa=>g (zT b 4 c 45 d) a h) (g (zT b 4 c 45 d) e f)) λa=>av c (a d) (a .zT)) λa=>av c (a .zV) (a d)) λa=>av e (a .zV) (a c)) λa=>av e (g (.tuple []) f j) (a (J (bN [b,c,d]) 16 e) f j)) λa=>av i (a .zV) (a e)
theorem L9:dV X 47 [a0,aL,bt] (DN X a0 aL bt):=⟨Zk,Zk⟩
def Du:Za0:=λa b c d e _=>aa (c0 b) λf=>aa (aK .lss f (.Z 2)) λf=>aJ (λb c d=>aJ (λa b c=>cN a λa=>e a b c) λf=>cF (λb c d g=>c1 c 3 0 λh i=>aa (c0 i) λi=>aa (aK .lss h i) λh=>aJ (λc d f=>aJ (λa c d=>c9 a 3 λe=>b (J a 3 e) c d) λb=>cU (f+10) λf=>c1 c 0 3 λg h=>fS g h a d λg=>c1 c 0 3 λh i=>kO i λi=>fS h i a d λh=>aa (aK .eql g h) λg=>aJ b λb=>av g (c1 c 0 3 λb h=>aa (fw a d 1 b (some h) none none) λb=>aJ (λb c d=>c1 b 0 3 λf g=>aa (fw a c 1 f (some g) none none) λf=>ek (k7 a c d .clear [39] [f]) c d λ_ c d=>c1 b 0 3 λb f=>aa (fw a c 1 b none (some f) none) λa=>e a c d) λe=>cF (λb c d f=>c1 c 5 4 λg h=>aa (c0 h) λh=>aa (aK .lss g h) λg=>aJ (λc d e=>aJ (λa c d=>c9 a 5 λe=>b (J a 5 e) c d) λb=>cU (e+10) λe=>c1 c 4 5 λf g=>fS f g a d λf=>c1 c 4 5 λg h=>kO h λh=>fS g h a d λg=>aa (aK .neq f g) λf=>aJ b λb=>av f (c1 c 0 3 λg h=>c1 c 4 5 λi j=>fS i j a d λi=>aa (c8 1 g h) λg=>gl a d g i λa=>c9 c 3 λd=>b (zT c 44 f 3 d) a e) (b (J c 44 f) d e)) λa=>av g (a (J c 32 g) d f) (e (J c 32 g) d f)) (zU c 25 g 4 b 5 (.Z 1)) d f) (b (J c 25 g) d f)) λa=>av h (a (J c 13 h) d g) (f (J c 13 h) d g)) (J b 3 (.Z 1)) c d) λa=>av f (e b c d) (a (zT (bN [b]) 2 .ax 8 f) c d)
theorem Lx:dV X 28 [a0] (Du X a0):=⟨Zk,Zk⟩
def Ee:Za1:=λa b c d e f g=>aD a 106 [b,c] d e (λa b c=>mA a λa=>f a b c) g
theorem MR:dV X 72 [a0,aL] (Ee X a0 aL):=⟨Zk,Zk⟩
def Cs:Za1:=λa b c d e f g=>ec b (λ_ a b=>f (.Z (-1)) a b) λh i=>cF (λb c d e=>dD c 8 7 λh=>aJ (λc d e=>fe (λa c d=>c9 a 8 λe=>b (J a 8 e) c d) c 8 1 λb h i=>cN c λj=>fS j h a d λj=>e9 a i [j] d e (λa d e=>aJ b λb=>av a (f h d e) (b (zT c 5 h 16 a) d e)) g) λa=>av h (a (J c 9 h) d e) (i (J c 9 h) d e)) (zU (bN [b,c]) 4 (.Z 0) 7 h 8 (.Z 0)) d e
theorem Jx:dV X 106 [a0,aL] (Cs X a0 aL):=⟨Zk,Zk⟩
def DL:Za1:=λa b c d e f _=>ec b (λ_ a b=>f (.Z (-1)) a b) λg h=>cF (λb c d e=>dD c 8 7 λg=>aJ (λc d e=>fe (λa c d=>c9 a 8 λe=>b (J a 8 e) c d) c 8 1 λb g h=>cN c λi=>fS i g a d λa=>aa (aK .eql h a) λa=>aJ b λb=>av a (f g d e) (b (zT c 5 g 16 a) d e)) λa=>av g (a (J c 9 g) d e) (h (J c 9 g) d e)) (zU (bN [b,c]) 4 (.Z 0) 7 g 8 (.Z 0)) d e
theorem L5:dV X 45 [a0,aL] (DL X a0 aL):=⟨Zk,Zk⟩
def Dq:Za0:=λa b c d e f=>aD a 43 [b] c d (λc d g=>aa (dX .not c) λc=>aJ (λb c d=>pN a c d λc d g=>cN b λh=>ec h (λb c d=>cN b λg=>aD a 44 [g] c d (λc d g=>ec c (λb c d=>eX b λg=>aa (AY a c g) λg=>aa (aK .eql g (.Z 0)) λg=>aJ (λb c d=>cN b λg=>aa (c0 g) λg=>eX b λh=>ek (BI a c d h) c d λc d h=>aJ (λb c d=>aJ (λa b c=>bu (a 10) λa=>e (.tuple [a,.zV]) b c) λe=>cF (λb c d g=>aJ b λb=>c1 c 10 8 λh i=>vv i g a d h λd g h=>cN c λi=>aa (c0 i) λi=>c1 c 0 8 λj k=>fS j k a g λj=>ec j (λc d g=>c1 c 10 11 λh i=>aD a 45 [h,i] d g (λd f g=>mA d λh=>aJ (λa c d=>bu (a 11) λe=>b (J a 8 e) c d) λb=>av h (bu (c 10) λb=>aa (fw a f 1 b (some d) none none) λa=>e (zU c 14 d 78 h 10 a) f g) (b (zT c 14 d 78 h) f g)) f) λb e=>cF (λb c d f=>dD c 62 61 λg=>aJ (λc d e=>h0 (λa c d=>c9 a 62 λe=>b (J a 62 e) c d) c 60 62 a d λb f=>eX c λg=>aa (fb a d 3 (.Z 0) g f false) λg=>rZ g λg=>aJ b λb=>av g (bu (c 11) λh=>aa (jn a d .min [3,3] [h,f]) λa=>b (zU c 13 f 69 g 11 a) d e) (b (zT c 13 f 69 g) d e)) λa=>av g (a (J c 63 g) d f) (e (J c 63 g) d f)) (J (zV c 10 d 11 i 60 j 61 b) 62 (.Z 0)) g h) (J b 10 .ax) c d) λe=>cF (λb c d f=>bu (c 43) λg=>o5 (jt a fO false d f (fc g)) d f λd f g=>aa (hZ 0 d) λd=>aJ (λc d e=>aJ b λb=>bu (c 43) λf=>aa (sA a d f) λf=>aa (hZ 0 f) λf=>bu (c 8) λg=>aa (jn a d .min [3,3] [g,f]) λa=>b (zT c 9 f 8 a) d e) λa=>av d (a (J c 45 d) f g) (e (J c 45 d) f g)) (zT b 8 g 43 c) d h) λa=>av g (e (.tuple [.ax,.zT]) c d) (a (J b 39 g) c d)) λe f=>cF (λb c d e=>dD c 30 29 λg=>aJ (λc d e=>h0 (λa c d=>c9 a 30 λe=>b (J a 30 e) c d) c 28 30 a d λb f=>eX c λg=>ek (k7 a d e .delete [48,3] [g,f]) d e λ_ a d=>b (J c 7 f) a d) λa=>av g (a (J c 31 g) d e) (f (J c 31 g) d e)) (zU b 28 c 29 e 30 (.Z 0)) d g) f) λe f=>cF (λb c d e=>dD c 21 20 λg=>aJ (λc d e=>fe (λa c d=>c9 a 21 λe=>b (J a 21 e) c d) c 21 4 λb f g=>ek (ib a d e 3 g f (.Z 1)) d e λ_ a d=>b (J c 5 f) a d) λa=>av g (a (J c 22 g) d e) (f (J c 22 g) d e)) (zU b 4 c 20 e 21 (.Z 0)) d g) λa=>av c (e (.tuple [.ax,.zT]) d g) (a (zU (bN [b]) 2 .ax 3 .zT 17 c) d g)) f
theorem Lp:dV X 23 [a0] (Dq X a0):=⟨Zk,Zk⟩
def DJ:Za0:=λa b c d e f=>eW a c d b λc d g=>aa (ay a d c) λh=>ec h (λ_ a b=>e .zV a b) λi j=>cF (λb c d g=>dD c 7 6 λh=>aJ (λc d g=>h0 (λa c d=>c9 a 7 λe=>b (J a 7 e) c d) c 5 7 a d λb h=>hL c λi=>aD a 72 [h,.func (.func 73) [] [i]] d g (λa d f=>aJ b λb=>av a (e .zT d f) (b (zT c 4 h 13 a) d f)) f) λa=>av h (a (J c 8 h) d g) (j (J c 8 h) d g)) (J (zV (bN [b]) 1 c 2 .zT 5 h 6 i) 7 (.Z 0)) d g
theorem L1:dV X 43 [a0] (DJ X a0):=⟨Zk,Zk⟩
def DK:Za0:=λa b c d e f=>aa (c0 b) λg=>ek (w4 a c d 1 [.Z 0] g g) c d λc d g=>aa (c0 b) λh=>ek (w4 a d g 1 [.ax] h h) d g λd g h=>aa (ea 0 [] [] h) λi=>dQ a g h i.1 i.2 λg h i=>eW a h i g λg h i=>ec b (λb c d=>aJ (λa b c=>bu (a 10) λa=>e a b c) λe=>cF (λb c d g=>hu c λh=>aa (ht h) λh=>aa (ay a d h) λh=>aD a 75 [h] d g (λd g h=>rZ d λd=>aJ (λc d e=>aJ b λb=>hu c λg=>aa (some (z.iface 152 g)) λg=>aD a 76 [g] d e (λd e g=>aa (lC 3 (.Z 0) false d) λd=>bu (c 10) λh=>vv d g a e h λe g h=>eX c λi=>fS i d a g λi=>aa (c0 i) λj=>aJ b λb=>cF (λc d e g=>dD d 78 77 λh=>aJ (λb d e=>h0 (λa b d=>c9 a 78 λe=>c (J a 78 e) b d) b 76 78 a d λc g=>gC b λh=>fS h g a d λi=>kO i λi=>aa (c8 1 h g) λh=>gl a d h i λd=>gC b λh=>fS h g a d λh=>jg h 0 c λc h=>av c (hu b λi=>aa (some (z.iface 152 i)) λi=>aa (some (z.iface 3 g)) λj=>aD a 74 [i,j] d e (λ_ a d=>h (zT b 13 g 92 c) a d) f) (h (zT b 13 g 92 c) d e)) λa=>av h (a (J d 79 h) e g) (b (J d 79 h) e g)) (J (zV c 11 d 10 e 76 i 77 j) 78 (.Z 0)) g h) f) λa=>av d (a (J c 64 d) g h) (e (J c 64 d) g h)) f) (J b 10 .ax) c d) λe j=>cF (λb c d e=>dD c 24 23 λg=>aJ (λc d e=>fe (λa c d=>c9 a 24 λe=>b (J a 24 e) c d) c 24 22 λb g h=>bu (c 24) λi=>fS h i a d λh=>gC c λi=>aa (c0 h) λj=>aa (c8 1 i g) λi=>gl a d i j λd=>ec h (λc d e=>bu (c 7) λg=>aa (c0 g) λg=>jg g 0 b λb g=>av b (hu c λh=>aa (some (z.iface 152 h)) λh=>bu (c 6) λi=>aa (some (z.iface 3 i)) λi=>aD a 74 [h,i] d e (λ_ a d=>g (J c 53 b) a d) f) (g (J c 53 b) d e)) λb f=>cF (λb c d e=>dD c 36 35 λg=>aJ (λc d e=>h0 (λa c d=>c9 a 36 λe=>b (J a 36 e) c d) c 34 36 a d λb f=>c1 c 4 4 λg h=>fS h f a d λh=>bu (c 6) λi=>vv i e a d h λd e h=>aa (c8 1 g f) λg=>gl a e g d λa=>b (J c 9 f) a h) λa=>av g (a (J c 37 g) d e) (f (J c 37 g) d e)) (J (zV c 6 g 7 h 34 h 35 b) 36 (.Z 0)) d e) λa=>av g (a (J c 25 g) d e) (j (J c 25 g) d e)) (zU (zV (bN [b]) 2 .ax 3 c 4 d 5 g) 22 b 23 e 24 (.Z 0)) h i
theorem L3:dV X 44 [a0] (DK X a0):=⟨Zk,Zk⟩
def Ef:Za1:=λa b c d e f _=>r0 b λg=>d7 g b d e λb d e=>dc g (ay a d c) d e λa c d=>dc g (c0 a) c d λa c d=>dc g (aK .geq b a) c d λa b c=>bT (λa=>f a b c) λb=>av g (b .zV) (b a)
theorem MT:dV X 73 [a0,aL] (Ef X a0 aL):=⟨Zk,Zk⟩
def Eg:Za1:=λa b c d e f g=>jy a false b "Push" [c] d e (λ_ c d=>jy a false b "Len" [] c d (λc d e=>kO c λc=>aD a 107 [b,c] d e (λ_ a b=>f (.tuple []) a b) g) g) g
theorem MV:dV X 74 [a0,aL] (Eg X a0 aL):=⟨Zk,Zk⟩
def yy:Za0:=λ_ a b c d _=>aa (c0 a) λa=>d a b c
def Ei:bP X 75 [a0]=yy X a0:=Zk
def Eh:bJ X 75 1=true:=Zk
def Ej:Za0:=λa b c d e f=>jy a false b "Len" [] c d (λc d g=>kO c λc=>jy a false b "Swap" [.Z 0,c] d g (λ_ d g=>aD a 108 [b,.Z 0,c] d g (λ_ c d=>jy a false b "Pop" [] c d e f) f) f) f
theorem MX:dV X 76 [a0] (Ej X a0):=⟨Zk,Zk⟩
def Ct:Za1:=λa b c d e f g=>aJ (λ_ a b=>f (.tuple []) a b) λf=>cF (λb c d e=>aJ b λb=>hL c λh=>kO h λh=>aa (aK .quo h (.Z 2)) λh=>hL c λi=>aa (aK .eql h i) λi=>lb i (c 0) d e λd e j=>lb i (c 1) e j λe j k=>d7 i h j k λj k l=>r2 i (λb=>jy a false d "Less" [e,j] k l b g) k l λd e j=>bT (λd=>aJ (λc d e=>c1 c 0 4 λf h=>hL c λi=>jy a false f "Swap" [h,i] d e (λ_ a d=>eX c λe=>b (J c 1 e) a d) g) λa=>av d (f (zT c 4 h 17 d) e j) (a (zT c 4 h 17 d) e j)) λa=>av i (a .zV) (a d)) (bN [b,c]) d e
theorem Jz:dV X 107 [a0,aL] (Ct X a0 aL):=⟨Zk,Zk⟩
def Cu:Za2:=λa b c d e f g h=>aJ (λa b c=>c1 a 7 1 λa d=>aa (aK .gtr a d) λa=>g a b c) λg=>cF (λb c d e=>aJ b λb=>bu (c 7) λf=>aa (aK .mul (.Z 2) f) λf=>ns f λf=>gD c λi=>aa (aK .geq f i) λi=>d7 i f d e λd e j=>dc i (aK .lss d (.Z 0)) e j λd e j=>bT (λd=>aJ (λc d e=>c1 c 8 8 λf i=>ns i λi=>gD c λj=>aa (aK .lss i j) λj=>hE j (c 0) d e λd e k=>fL j i e k λe k l=>hE j (c 8) k l λk l m=>gM j (λb=>jy a false d "Less" [e,k] l m b h) l m λd e k=>bT (λd=>aJ (λc d e=>c1 c 0 9 λf i=>bu (c 7) λj=>jy a false f "Less" [i,j] d e (λd e f=>aa (dX .not d) λd=>aJ (λc d e=>c1 c 0 7 λf g=>bu (c 9) λi=>jy a false f "Swap" [g,i] d e (λ_ a d=>bu (c 9) λe=>b (J c 7 e) a d) h) λa=>av d (g (J c 39 d) e f) (a (J c 39 d) e f)) h) λa=>av d (a (zV c 9 f 10 i 33 d 9 i) e k) (a (zU c 9 f 10 i 33 d) e k)) λa=>av j (a d) (a .zT)) λa=>av d (g (zT c 8 f 21 d) e j) (a (zT c 8 f 21 d) e j)) λa=>av i (a .zV) (a d)) (zT (bN [b,c,d]) 6 .zT 7 c) e f
theorem JB:dV X 108 [a0,aL,bt] (Cu X a0 aL bt):=⟨Zk,Zk⟩
def Dj:Za2:=λa b c d e f g _=>cU (f+10) λf=>fS b c a e λc=>fS b d a e λa=>aa (aK .lss c a) λa=>g a e f
def Ld:bP X 193 [a0,aL,bt]=Dj X a0 aL bt:=Zk
def Lc:bJ X 193 3=true:=Zk
def Dk:Za0:=λa b c d e _=>aa (ht b) λf=>aa (ay a c f) λf=>aa (c0 f) λf=>kO f λf=>aa (ht b) λg=>aa (ay a c g) λg=>fS g f a c λg=>aa (ht b) λh=>aa (ay a c h) λh=>aa (fw a c 1 h none (some f) none) λf=>aa (ht b) λb=>gl a c b f λa=>aa (some (z.iface 3 g)) λb=>e b a d
def Lf:bP X 194 [a0]=Dk X a0:=Zk
def Le:bJ X 194 1=true:=Zk
def Dl:Za1:=λa b c d e f _=>cU (e+10) λg=>aa (ht b) λh=>aa (ay a d h) λh=>aa (lC 3 (.Z 0) false c) λc=>aa (ea 1 [.Z 0] [(0,1,c)] (e+6)) λc=>hb a d (e+6) c.1 c.2 λc d=>lX a d g h c λc d e=>aa (ht b) λb=>gl a d b c λa=>f (.tuple []) a e
def Lh:bP X 195 [a0,aL]=Dl X a0 aL:=Zk
def Lg:bJ X 195 2=true:=Zk
def Dm:Za2:=λa b c d e f g _=>cU (f+16) λf=>fS b d a e λh=>fS b c a e λi=>aa (c8 1 b c) λc=>gl a e c h λc=>aa (c8 1 b d) λb=>gl a c b i λa=>g (.tuple []) a f
def Lj:bP X 196 [a0,aL,bt]=Dm X a0 aL bt:=Zk
def Li:bJ X 196 3=true:=Zk
variable{X:bi}{q D au am:E S}{u Z ap aw:Nat}{P:Nat->Prop}
def abQ{aE:z}{n:Nat}(h:c0 aE=some (.Z (n+1:Nat))):b7 X q .eql 38 true aE .ax=some .zT:=by cases aE with|ax=>exfalso;simp[c0]at h;omega|gf b I l c=>exfalso;simp[c0]at h;omega|slice b I n c=>kernel_rfl|cq b I n c=>kernel_rfl|_=>simp[c0]at h
def acD(b:Nat):b7 X q .eql 43 true (.ptr b 0) .bH=some .zT:=Zk
def ON(x:bZ X){b:Nat}{aE:z}{ci:List aA}(g:(y X).aB<=u)(i:cl X q P b aE 1 (dh ci))(aV:∀o,P o->o<u)(N:ci≠[]):
 aD X 25 [aE] q u (λR D Z=>(∃d,cl X D (b2 u Z) d R 1 (dh ci))/\aU X q u D Z) zX:=by
 refine Fd x (Lt ..) ?_;unfold Ds;have f:=i.len;have L:=i.many;have j:(dh ci).length=ci.length:=by simp[dh]
 rw[j]at f L;obtain⟨m,G⟩:∃m,ci.length=m+1:=⟨ci.length-1,zL (ZP.2 N)⟩;rw[G]at f;have t:=abQ (X:=X) (q:=q) f;refine bo @t ⟨?_⟩;generalize e:aH X q u _=au;have v:H X au u=zP [] 0:=by rw[<-e,aM g]
 have a7:∀o,o<u->H X au o=H X q o:=λo c=>by rw[<-e,ah g Zo]
 clear e;have k:=u5 (i.M (D:=au) λo c=>a7 o (aV o c)) Zd;rw[j]at k;have n:(dh ci).flatten=ci.map .str:=by
  have:∀l:List aA,(dh l).flatten=l.map .str:=by intro l;induction l with|nil=>rfl|cons a l U=>show[z.str a]++(dh l).flatten=_;rw[U];rfl
  exact this ci
 rw[n]at k;have O:∀l:List aA,dU (l.map z.str)=true:=by intro l;induction l with|nil=>rfl|cons a l U=>rw[ZG,dU,U];rfl
 have w:da X au (.slice u 0 0 0) 1 [] [u]:=.inr ⟨u,0,_,.own,rfl,rfl,rfl,v,gv _,rfl,g⟩;obtain⟨T2,am,T1,A,p,C,dB⟩:=w.append (u:=u+1) Zd k Zs Zo (O ci) Zx Zo Zs;refine d8 A ?_;rw[Yq, <-n]at p;obtain⟨d,T0⟩:=p.kG Zd (λr K=>by obtain⟨R,_,rfl⟩:=ZC.1 (show r∈ci.map (λs=>[z.str s]) from K);rfl) (by rw[j];omega) (P:=b2 u (u+1+1)) (λo c=>by
  rcases C o c with rfl|h
  ·exact⟨Zo,Zo⟩
  ·simp at h;exact⟨Zo,Zo⟩)
 exact⟨⟨d,T0⟩,Zo,λo c=>by rw[dB o Zo Zx,a7 o c]⟩
def w7(a:bZ X){bI b:Nat}{aE:z}{ci:List aA}(e:(y X).aB<=u)(i:ay X q (.ptr bI 1)=some aE)(g:cl X q P b aE 1 (dh ci))(aV:∀o,P o->o<u)(f:ci≠[]):
 aD X 9 [.ptr bI 0] q u (λR D Z=>(∃c,cl X D (b2 u Z) c R 1 (dh ci))/\aU X q u D Z) zX:=by
 refine Fd a (Nt ..) ?_;unfold En;have d:=acD (X:=X) (q:=q) bI;refine bE @d @i ⟨?_⟩;refine(ON a e g aV f).Zm ?_;rintro R am aw h;refine bx ⟨?_⟩;exact h
variable{dT:E S}
def GZ{C:al}{q:E S}(x o:Int):jn C q .min [3,3] [.int .i64 x,.int .i64 o]=some (.int .i64 (min x o)):=by show h5 false (.int .i64 x) [.int .i64 o]=_;simp only[h5,cY,la];congr 2;simp only[Zf];split<;>simp_all<;>omega
def Sx:∀{l:List GT}{k a:Int},kC l=some (k,a)->k=30\/k=22:=by
 intro l;induction l with
 |nil=>intro k a h;cases h|cons g l U=>
  intro k a h;unfold kC at h;split at h
  ·cases h;exact .inl rfl
  ·split at h
   ·cases h;exact .inr rfl
   ·exact U h
def aac{s:aA}(d:s.length<=5000){k a:Int}(h:lR s=.error (k,a)):k≠0:=by
 have b:=HH d;rw[h]at b;unfold nc at b;split at b
 ·cases b
 ·cases b;decide
 ·split at b
  ·cases b
  ·cases b;decide
  ·split at b
   ·rename_i c;cases b;unfold jw at c;split at c
    ·cases c;decide
    ·rcases Sx c with rfl|rfl<;>decide
   ·cases b
end
end
end Go.Proofs.YtehmapikajmjaaaGreatDoor
