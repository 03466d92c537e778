/- Part of the proof of the last text; no conditions -/
import Derived.Test.YtehmapikajmjaaaGreatDoorYp
set_option maxHeartbeats 8000000
set_option linter.all false
namespace Go.Proofs.YtehmapikajmjaaaGreatDoor
open Go.aF Go.ak
noncomputable section
section
variable{X:bi}{q D au am:E S}{u Z ap aw:Nat}{P:Nat->Prop}
def FK(T1:bZ X){A aO:List cH}{v w:z}(U3:(y X).aB<=u)(T2:hP X q P v A)(W:hP X q P w aO)(aV:∀o,P o->o<u):
 aD X 56 [v,w] q u (λR D Z=>R=.bool (decide (A=aO))/\aU X q u D Z) zX:=by
 refine Fd T1 (Mn ..) ?_;unfold DV;obtain⟨bc,f⟩:=T2;obtain⟨bp,s⟩:=W;have n:=f.len;have p:=s.len;have T7:=f.many;rw[Zj]at n p T7;by_cases O:A.length=aO.length
 ·have d:decide ((A.length:Int)≠(aO.length:Int))=false:=by simp[O]
  refine cg @n @p @d ⟨?_⟩;refine cM (λm B D TZ=>∃(j:Nat),B.g 0=some v/\B.g 1=some w/\B.g 12=some (.Z A.length)/\B.g 13=some (.Z j)/\j+m=A.length/\aU X q u D TZ/\decide (A=aO)=decide (A.drop j=aO.drop j))
   A.length ⟨0,aC,aC,aC,cT,Zo,aU.refl _ _,rfl⟩ ?_
  rintro m B am aw ⟨j,t0,t1,x,C,U1,a,b⟩;have U2:=a.le;cases m with
  |zero=>have d:=zM j A.length;rw[ZM Zo,ZM Zo]at b;refine cg @x @C @d ⟨?_⟩;exact⟨by rw[b];rfl,a⟩|succ m=>
   have d:=zN j A.length;have T0:=zQ j;obtain⟨g,G⟩:=zO A j;obtain⟨h,L⟩:=zO aO j;have T3:A.drop j=g::A.drop (j+1):=(by obtain⟨t,c⟩:=Ze.1 G;rw[Zz t,c]);have T4:aO.drop j=h::aO.drop (j+1):=(by obtain⟨t,c⟩:=Ze.1 L;rw[Zz t,c]);have N:=λo (c:P o)=>a.M o (aV o c);have T5:=f.c4 j (by rw[Zj];omega);have T6:=s.c4 j (by rw[Zj];omega);have T9:=(f.M N).row Zd (i:=j) (r:=cP g) (by rw[Zt,G];rfl);have TY:=(s.M N).row Zd (i:=j) (r:=cP h) (by rw[Zt,L];rfl);rw[T3,T4]at b;have U0:=Hg (X:=X) (q:=am) g h;refine cu @t0 @t1 @x @C @d @T5 (Za @T6 (Za @T9 (Za @TY @U0))) ⟨?_⟩;by_cases l:g=h
   ·subst l;have k:(!decide (g=g))=false:=(by simp);rw[k];refine bE @C @T0 ⟨?_⟩;exact⟨m,Zo,j+1,af t0,af t1,af x,aC,Zo,a.more Zo,by rw[b];simp⟩
   ·have k:(!decide (g=h))=true:=(by simp[l]);rw[k];refine bx ⟨?_⟩;exact⟨by rw[b];simp[l],a.more Zo⟩
 ·have d:decide ((A.length:Int)≠(aO.length:Int))=true:=z1;have T8:A≠aO:=λe=>O (by rw[e]);refine cg @n @p @d ⟨?_⟩;exact⟨by simp[T8],aU.refl _ _⟩
def abk(h:bZ X)(i:(y X).aB<=u)(t:cH)(b:Bool):
 e9 X (.func (.func 125) [] []) [.agg (cP t),.bool b] q u (λR D Z=>∃w,R=.tuple [w,.bool b]/\w.cells=[w]/\hP X D (b2 u Z) w [t]/\aU X q u D Z) zX:=by
 refine uA ?_;show aD X 125 [.agg (cP t),.bool b] q u _ _;refine Fd h (JZ ..) ?_;unfold CI;refine mQ ?_;generalize a:aH X q u _=au;have d:ca X au 3 (.ptr u 0)=some (.agg (cP t)):=by rw[<-a];exact uL (aM i) (by cases t;rfl)
 have f:aU X q u au (u+1):=by rw[<-a];exact cf
 clear a;refine bE @d cP.eq_1 ⟨?_⟩;generalize c:aH X au _ _=am;have e:H X am (u+1)=zP [cP t].flatten (1*3):=by rw[<-c,aM Zo];rfl
 have g:aU X q u am (u+1+1):=⟨Zo,λo j=>by rw[<-c,ah Zo Zo];exact f.M o j⟩;exact⟨_,rfl,rfl,⟨u+1,u4 (aR:=[cP t]) e rfl (by simp[cP]) Zo ⟨Zo,Zo⟩⟩,g⟩
structure r6(X:bi)(q:E S)(a:Nat)(b p bI:z):Prop where
 b8:ay X q (.ptr a 0)=some b
 bV:ay X q (.ptr a 1)=some p
 b0:ay X q (.ptr a 2)=some bI
def r6.M{a:Nat}{c p bI:z}(h:r6 X q a c p bI)(k:H X D a=H X q a):r6 X D a c p bI:=by
 have b:∀I,ay X D (.ptr a I)=ay X q (.ptr a I):=λI=>by rw[bB,bB,k]
 exact⟨by rw[b];exact h.b8,by rw[b];exact h.bV,by rw[b];exact h.b0⟩
def Qd{nm:aA}:∀(Y:List GT) (k j:Nat),sD nm k Y=some j->j<k+Y.length:=by
 intro Y;induction Y with
 |nil=>intro k j h;cases h|cons g Y U=>
  intro k j h;unfold sD at h;split at h
  ·cases h;simp
  ·have:=U _ _ h;simp;omega
def Qf{Y:List GT}{nm:aA}(a:Y≠[]):(jr Y nm).getD 0<Y.length:=by
 have:0<Y.length:=ZP.2 a
 cases h:jr Y nm with|none=>exact this|some j=>have:=Qd Y 0 j h;simpa using this
def Oy(f:bZ X){Y:List GT}{i:Nat}{UL p bI:z}(UY:(y X).aB<=u)(UQ:i<u)(G:r6 X q i UL p bI)(L:iP X q P Y p)(TZ:Y≠[])(aV:∀o,P o->o<u)(UA:∀g∈Y,g.cm.length<=100000/\g.out.length<=100000)
 {e:aX}{v:z}(U4:bF X q P e v){a:List cH}{aE:z}(U2:hP X q P aE a):
 aD X 127 [.ptr i 0,v,aE] q u (λR D Z=>∃w,R=.tuple [w,.bool (tY Y e.name a).2]/\w.cells=[w]/\hP X D (b2 u Z) w (tY Y e.name a).1/\aU X q u D Z) zX:=by
 refine Fd f (J3 ..) ?_;unfold CK;obtain⟨UP,_,_,_,rfl,UR,_,_,T8,_⟩:=U4.open;have bV:=G.bV;refine bE @bV @T8 ⟨?_⟩;refine(Am (u:=u+14) f Zo L (λo c=>zL (aV o c)) e.name).Zm ?_;rintro R au ap ⟨rfl,d⟩;have UT:=d.le;have m:=λo (c:P o)=>d.M o (zL (aV o c));have U9:=Qf (nm:=e.name) TZ;unfold tY;generalize US:(jr Y e.name).getD 0=k at*;obtain⟨g,t⟩:∃g,Y[k]? =some g:=⟨_,Zb U9⟩;rw[t];obtain⟨U5,U6⟩:=UA g (Zl t);obtain⟨x,UJ,Uc,aR,rfl,U1,a0,T2,T1⟩:=L;have UB:=T1.wide;obtain⟨row,UD,O⟩:=T1.get k g t;have T0:=O.M (aI:=P) m (λ_ h=>h);have U3:=(G.M (d.M i Zo)).bV;have T7:ay X au (.ptr x 0)=some UJ:=zW (d.M x (zL (aV x U1))) a0;have U7:=T2.c4 k (by rw[UB.1];omega);have UE:=(T2.M m).row Zd UD;have UX:=O.len;have UC:=T0.dU;obtain⟨bK,bO,T4,T5,bc,bp,bG,UO,eqs,rfl,T3,e1,_⟩:=T0;refine df @U3 @T7 @U7 @UE ⟨?_⟩;refine dg (eS (k:=6) (b:=ap) (I:=0) (n:=6) (aM Zo) Zo rfl Zd Zd UC) ?_;refine bx ⟨?_⟩;show aD X 149 [bO] _ _ _ _;generalize s:aH X _ ap _=am;have T9:H X am ap=zP [.str g.name,.Z g.at_,bK,bO,T4,T5] 6:=by rw[<-s,aM Zo];rfl
 have C:aU X q u am (ap+1+12):=⟨Zo,λo c=>by rw[<-s];simp(disch:=omega) only[ah];exact d.M o Zo⟩;have dB:∀o,P o->H X am o=H X au o:=λo c=>by rw[C.M o (aV o c),m o c]
 clear s;refine(Ix f Zo (e1.M dB) (λo c=>zL (aV o c)) U6).Zm ?_;rintro UM A Ua ⟨⟨UH,UF⟩,j⟩;have UU:=j.le;have TY:H X A ap=zP [.str g.name,.Z g.at_,bK,bO,T4,T5] 6:=by rw[j.M _ Zo];exact T9
 obtain⟨Ud,Ue,UK⟩:=fu T3.len;refine bo (a8 TY) ⟨?_⟩;refine d9 UK ?_;refine uA ?_;show aD X 149 [bK] _ _ _ _;have N:∀o,P o->H X A o=H X au o:=λo c=>by rw[j.M o (zL (aV o c)),dB o c]
 refine(Ix f Zo (T3.M N) (λo c=>zL (aV o c)) U5).Zm ?_;rintro Uf T6 UI ⟨⟨UZ,UG⟩,l⟩;have UV:=l.le;have U8:∀o,P o->H X T6 o=H X q o:=λo c=>by rw[l.M o (zL (aV o c)),N o c,m o c]
 have U0:=(C.trans ((j.gx Zo).trans l));refine(FK (P:=λo=>o<UI) f Zo (UG.M (λ_ _=>rfl) (λo c=>c.2)) (U2.M U8 (λo c=>zL (aV o c))) (λo c=>c)).Zm ?_;rintro Ug UN Ub ⟨rfl,r⟩;have UW:=r.le;refine bx ⟨?_⟩;refine⟨UM,rfl,UH,UF.M (λo c=> ?_) (λo c=>⟨zL c.1,zL c.2⟩),U0.trans r⟩;have:=c.2;rw[r.M o Zo,l.M o Zo]
def jY{p:Prop}[Decidable p](h:p):decide p=true:=decide_eq_true h
def jX{p:Prop}[Decidable p](h:¬p):decide p=false:=decide_eq_false h
def wx(t:cH):kv false 0 1 (.agg (cP t))=some (.bool t.b):=rfl
def lr(t:cH):z.same 30 (.agg (cP t)) (.agg (cP t))=true:=by
 obtain⟨a,b,c⟩:=t;have d:∀x:Bool,z.same 29 (.bool x) (.bool x)=true:=λx=>by cases x<;>rfl
 have e:z.same 29 (.Z c) (.Z c)=true:=by simp only[z.same];simp
 simp only[cP];rw[z.same];simp only[iE,d,e,ZZ]
def pS(X:bi):Prop:=∀q,ca X q 3 (.ptr 2 0)=some (.agg (cP ts))
def Ez(X:bi)(q:E S)(u:Nat)(r:List cH×Bool):aY:=λR D Z=>∃w,R=.tuple [w,.bool r.2]/\w.cells=[w]/\hP X D (b2 u Z) w r.1/\aU X q u D Z
def iX(f:bZ X)(n:(y X).aB<=u)(a:aU X q u au ap){B:cH}{aO:Bool}{r:List cH×Bool}(K:r=([B],aO)):
 aD X 125 [.agg (cP B),.bool aO] au ap (λc d j=>aa (hZ 0 c) λk=>aa (hZ 1 c) λl=>Ez X q u r (.tuple [k,l]) d j) zX:=by
 subst K;have m:=a.le;have h:=(abk (q:=au) (u:=ap) f Zo B aO).out;refine h.Zm ?_;rintro R D p ⟨w,rfl,i,g,e⟩;refine bx ⟨?_⟩;exact⟨w,rfl,i,g.M (λ_ _=>rfl) (λo b=>⟨zL b.1,b.2⟩),a.trans e⟩
def nD{e:aX}{a:List cH}(d:pX gm e)(c:a.length=e.args.length){m:Nat}(h:kq e.kind=some (m+1)):∃b l,a=b::l:=by have:=d.oN _ h;cases a with|nil=>simp at c;omega|cons b l=>exact⟨b,l,rfl⟩
def acB{a:List cH}{aE:z}{aW:List Nat}(h:da X q aE 3 (jc a).flatten aW)(O:2<=a.length)(T1:a.length<=1000)(L:∀o∈aW,P o):
 ∃f,fw X q 3 aE (some (.Z 1)) none none=some f/\f.cells=[f]/\nz X q P f a.tail:=by
 have p:=Iy a;obtain⟨v,N⟩:=h.kG (P:=P) Zd (vg a) (by simp[jc];omega) L;have G:=(show hP X q P aE a from⟨v,N⟩).rd;have r:∀i t,a.tail[i]? =some t->∃b I,c8 3 aE (.Z (i+1:Nat))=some (.ptr b I)/\P b/\ca X q 3 (.ptr b I)=some (.agg (cP t))/\ay X q (.ptr b I)=some (.bool t.b):=
  λi t ag=>G.c4 (i+1) t (by rw[<-ag];cases a<;>simp)
 have s:∀i t,a.tail[i]? =some t->i<a.length-1:=λi t ag=>by have:=(Ze.1 ag).1;simpa using this
 have m:hc (.Z 1)=some 1:=rfl;rcases h with (⟨_,h,_⟩|⟨b,b3,n,c,rfl,w,rfl,x,A,C,T0⟩)|⟨b,n,c,st,rfl,w,rfl,x,A⟩
 ·rw[h]at p;simp at p;omega
 ·have j:n=a.length:=Zo;subst j;have W:fW a.length ((a.length*3-0)/3) (some (.Z 1)) none none=some (1,a.length,a.length):=by have e:(a.length*3-0)/3=a.length:=Zo;rw[e];have d:Nat.ble 1 a.length=true:=de Zo;simp only[fW,ho,m,d,cI]
  refine⟨.cq b (0+1*3) (a.length-1) 3, ?_,rfl,⟨by rw[lg,List.length_tail],Zx,λi t ag=> ?_⟩⟩
  ·simp only[fw,ii,C,W];have e:(a.length*3-0)/3=a.length:=Zo;rw[e];have d:Nat.blt 1 a.length=true:=(by simp[Nat.blt];omega);simp[d,cY]
  ·obtain⟨bc,dH,e,d,k,l⟩:=r i t ag;have g:=s i t ag;rw[m4 _ Zo]at e;cases e;refine⟨b,0+1*3+i*3,m4 _ g,d, ?_, ?_⟩
   ·rw[show 0+1*3+i*3=0+(i+1)*3 by omega];exact k
   ·rw[show 0+1*3+i*3=0+(i+1)*3 by omega];exact l
 ·have j:n=a.length:=Zo;subst j;have W:fW a.length a.length (some (.Z 1)) none none=some (1,a.length,a.length):=by have d:Nat.ble 1 a.length=true:=de Zo;simp only[fW,ho,m,d,cI]
  refine⟨.slice b (0+1*3) (a.length-1) (a.length-1), ?_,rfl,⟨by rw[kB,List.length_tail],Zx,λi t ag=> ?_⟩⟩
  ·simp only[fw,W];have d:¬a.length=1:=Zo;simp[d,ee]
  ·obtain⟨bc,dH,e,d,k,l⟩:=r i t ag;have g:=s i t ag;rw[nW _ Zo]at e;cases e;refine⟨b,0+1*3+i*3,nW _ g,d, ?_, ?_⟩
   ·rw[show 0+1*3+i*3=0+(i+1)*3 by omega];exact k
   ·rw[show 0+1*3+i*3=0+(i+1)*3 by omega];exact l
set_option maxRecDepth 100000 in
def abl(d:bZ X)(cx:pS X){Y:List GT}{t:aA->Option cB}{T0:Nat}{UO p bI:z}(f:(y X).aB<=u)(U2:T0<u)(T2:r6 X q T0 UO p bI)(T5:jQ X q P bI t)(UF:iP X q P Y p)(U9:Y≠[])(aV:∀o,P o->o<u)(UG:∀g∈Y,g.cm.length<=100000/\g.out.length<=100000)
 {e:aX}{v:z}(U3:bF X q P e v)(r:pX gm e){a:List cH}{aE:z}{aW:List Nat}(s:a.length=e.args.length)(U0:da X q aE 3 (jc a).flatten aW)(UR:a.length<=300000)(U1:∀o∈aW,P o):
 aD X 94 [.ptr T0 0,v,aE] q u (Ez X q u (gQ Y t e a)) zX:=by
 obtain⟨U7,UH⟩:=U0.kG (P:=P) Zd (vg a) (by simp[jc];omega) U1;have U5:hP X q P aE a:=⟨U7,UH⟩;have C:=U5.rd;obtain⟨O,_,_⟩:=fu C.len;refine Fd d (Ng ..) ?_;unfold Et;obtain⟨T3,_,_,_,rfl,UE,a0,_,bt,_,a4,a5,fq,_⟩:=id U3.open;have T6:ca X q 3 (.ptr T3 4)=some (.agg (cP e.ty)):=by rw[mn,a4,a5,fq];rfl
 have a7:=r.a7;have bl:=r.bl;have TY:=cx q;have M:∀{D:E S}{n T7:Nat},aU X q n D T7->u<=n->∀o,P o->H X D o=H X q o:=λh f o j=>h.M o (zL (aV o j));have A:∀b l,a=b::l->∃bC I,c8 3 aE (.Z 0)=some (.ptr bC I)/\P bC/\ca X q 3 (.ptr bC I)=some (.agg (cP b))/\ay X q (.ptr bC I)=some (.bool b.b):=λb l h=>C.c4 0 b (by rw[h];rfl);have L:∀{D:E S}{n T7 bC I:Nat}{b:cH},aU X q n D T7->u<=n->P bC->ca X q 3 (.ptr bC I)=some (.agg (cP b))->ay X q (.ptr bC I)=some (.bool b.b)->ca X D 3 (.ptr bC I)=some (.agg (cP b))/\ay X D (.ptr bC I)=some (.bool b.b):=
  λh f U4 N T8=>⟨by rw[lf,M h f _ U4, <-lf];exact N,zW (M h f _ U4) T8⟩
 have UD:e.kind=1\/e.kind=2\/(e.kind=3\/e.kind=5)\/(e.kind=4\/e.kind=19\/e.kind=20)\/e.kind=6\/(e.kind=7\/e.kind=8\/e.kind=9\/e.kind=21\/e.kind=22)\/(e.kind=16\/e.kind=17\/e.kind=18)\/(e.kind=10\/e.kind=11)\/(e.kind=12\/e.kind=13\/e.kind=14\/e.kind=15)\/e.kind=23\/e.kind=24\/e.kind=26\/e.kind=25:=Zo;rcases UD with h|h|h|h|h|h|h|h|h|h|h|h|h
 ·refine df @a0 @jY @jX @T6 ⟨?_⟩;exact iX d f (aU.refl _ _) (by unfold gQ;rw[Zv h])
 ·refine df @a0 @jY @jX @bt ⟨?_⟩;refine(uZ d f U2 T2.b0 T5 aV e.name).Zm ?_;rintro R am aw ⟨rfl,c⟩;refine bx ⟨?_⟩;exact iX d f c (by unfold gQ;rw[Zi Zo,Zv h])
 ·rcases h with h|h;all_goals
   obtain⟨b,l,rfl⟩:=nD r s (by rw[h];rfl);obtain⟨bC,I,i,k,i3,i4⟩:=A b l rfl;refine dA @a0 @jY @jX @i @i3 ⟨?_⟩;exact iX d f (aU.refl _ _) (by simp[gQ,h])
 ·rcases h with h|h|h;all_goals
   obtain⟨b,l,rfl⟩:=nD r s (by rw[h];rfl);obtain⟨bC,I,i,k,i3,i4⟩:=A b l rfl;refine eg @a0 @jY @jX @i @i3 @i4 ⟨?_⟩;exact iX d f ((aU.refl _ _).more Zo) (by simp[gQ,h])
 ·obtain⟨b,l,rfl⟩:=nD r s (by rw[h];rfl);obtain⟨bC,I,i,k,i3,i4⟩:=A b l rfl;refine eg @a0 @jY @jX @i @i3 @bt ⟨?_⟩;refine(uZ (u:=u+16) d Zo Zo T2.b0 T5 (λo j=>zL (aV o j)) e.name).Zm ?_;rintro R am aw ⟨rfl,c⟩;obtain⟨m,G⟩:=L c Zo k i3 i4;refine bE @wx @m ⟨?_⟩;refine d9 (lr b) ?_;refine bx ⟨?_⟩;exact iX d f (c.gx Zo) (by simp[gQ,h])
 ·rcases h with h|h|h|h|h;all_goals
   obtain⟨b,l,rfl⟩:=nD r s (by rw[h];rfl);obtain⟨bC,I,i,k,i3,i4⟩:=A b l rfl;refine dA @a0 @jY @jX @i @i3 ⟨?_⟩;refine(tb (u:=u+11) d Zo O C (λo j=>zL (aV o j))).Zm ?_;rintro R am aw ⟨rfl,c⟩;obtain⟨m,G⟩:=L c Zo k i3 i4;refine bo @m ⟨?_⟩;refine d9 (lr b) ?_;refine bx ⟨?_⟩;exact iX d f (c.gx Zo) (by simp[gQ,h])
 ·rcases h with h|h|h;all_goals
   obtain⟨b,l,rfl⟩:=nD r s (by rw[h];rfl);obtain⟨bC,I,i,k,i3,i4⟩:=A b l rfl;refine dA @a0 @jY @jX @i @i3 ⟨?_⟩;refine(tb (u:=u+18) d Zo O C (λo j=>zL (aV o j))).Zm ?_;rintro R am aw ⟨rfl,c⟩;obtain⟨m,G⟩:=L c Zo k i3 i4;cases W:lj (b::l)
   ·refine bo @m ⟨?_⟩;refine d9 (lr b) ?_;refine bx ⟨?_⟩;exact iX d f (c.gx Zo) (by simp[gQ,h,W])
   ·refine cg @i @m @G ⟨?_⟩;refine d9 (lr b) ?_;refine bx ⟨?_⟩;exact iX d f (c.gx Zo) (by simp[gQ,h,W])
 ·rcases h with h|h;all_goals
   obtain⟨b,l,rfl⟩:=nD r s (by rw[h];rfl);obtain⟨bC,I,i,k,i3,i4⟩:=A b l rfl;refine df @a0 @jY @jX @TY ⟨?_⟩;refine(tb (u:=u+9) d Zo O C (λo j=>zL (aV o j))).Zm ?_;rintro R am aw ⟨rfl,c⟩;obtain⟨m,G⟩:=L c Zo k i3 i4;have T1:=cx am;refine bo @T1 ⟨?_⟩;refine d9 (lr ts) ?_;refine bx ⟨?_⟩;exact iX d f (c.gx Zo) (by simp[gQ,h])
 ·rcases h with h|h|h|h;all_goals
   obtain⟨b,l,rfl⟩:=nD r s (by rw[h];rfl);obtain⟨bC,I,i,k,i3,i4⟩:=A b l rfl;refine df @a0 @jY @jX @TY ⟨?_⟩;refine(tb (u:=u+16) d Zo O C (λo j=>zL (aV o j))).Zm ?_;rintro R am aw ⟨rfl,c⟩;obtain⟨m,G⟩:=L c Zo k i3 i4;have T1:=cx am;cases W:lj (b::l)
   ·refine bo @T1 ⟨?_⟩;refine d9 (lr ts) ?_;refine bx ⟨?_⟩;exact iX d f (c.gx Zo) (by simp[gQ,h,W])
   ·refine cg @i @G @T1 ⟨?_⟩;refine d9 (lr ts) ?_;refine bx ⟨?_⟩;exact iX d f (c.gx Zo) (by simp[gQ,h,W])
 ·obtain⟨bn,bc,bp,rfl⟩:∃bn bc bp,a=[bn,bc,bp]:=by
   have T4:a.length=3:=s.trans (r.oN 3 (by rw[h];rfl))
   match a,T4 with
   |[x,o,aj],_=>exact⟨x,o,aj,rfl⟩
  obtain⟨bC,I,i,k,i3,i4⟩:=A bn [bc,bp] rfl;obtain⟨U8,UJ,N,T8,T9,UK⟩:=C.c4 1 bc rfl;have N:c8 3 aE (.Z 1)=some (.ptr U8 UJ):=N;obtain⟨UU,UL,UM,UN⟩:=acB U0 Zs Zs U1;cases W:bn.b
  ·rw[W]at i4;refine cu @a0 @jY @jX @i @N @T9 @i4 ⟨?_⟩;refine d9 (lr bc) ?_;refine bx ⟨?_⟩;exact iX d f ((aU.refl _ _).more Zo) (by simp[gQ,h,W])
  ·rw[W]at i4;refine cu @a0 @jY @jX @i @N @T9 (Za @i4 @UL) ⟨?_⟩;refine(tb (u:=u+18) (b:=bc) (l:=[bp]) d Zo UM UN (λo j=>zL (aV o j))).Zm ?_;rintro R am aw ⟨rfl,c⟩;obtain⟨m,G⟩:=L c Zo T8 T9 UK;refine bo @m ⟨?_⟩;refine d9 (lr bc) ?_;refine bx ⟨?_⟩;exact iX d f (c.gx Zo) (by simp[gQ,h,W])
 ·obtain⟨b,l,rfl⟩:=nD r s (by rw[h];rfl);obtain⟨bC,I,i,k,i3,i4⟩:=A b l rfl;refine dA @a0 @jY @jX @i @i3 ⟨?_⟩;refine(tb (u:=u+20) d Zo O C (λo j=>zL (aV o j))).Zm ?_;rintro R am aw ⟨rfl,c⟩;obtain⟨m,G⟩:=L c Zo k i3 i4;cases W:lj (b::l)
  ·refine bo @m ⟨?_⟩;refine d9 (lr b) ?_;refine bo @m ⟨?_⟩;refine d9 (lr b) ?_;refine bx ⟨?_⟩;exact iX d f (c.gx Zo) (by simp[gQ,h,W])
  ·have U6:ay X am (.ptr T3 2)=some (.str e.name):=zW (M c Zo T3 UE) bt;have UQ:=c.le;refine bE @U6 @m ⟨?_⟩;refine d9 (lr b) ?_;refine bx ⟨?_⟩;refine(uZ (u:=aw) d Zo Zo (T2.M (c.M T0 Zo)).b0 (T5.M (aI:=P) (M c Zo) (λ_ h=>h)) (λo j=>zL (aV o j)) e.name).Zm ?_;rintro R UP UT ⟨rfl,UC⟩;have TZ:=c.trans UC;obtain⟨UI,US⟩:=L TZ Zo k i3 i4;refine bE @wx @UI ⟨?_⟩;refine d9 (lr b) ?_;refine bx ⟨?_⟩;exact iX d f (TZ.gx Zo) (by simp[gQ,h,W])
 ·obtain⟨b,l,rfl⟩:=nD r s (by rw[h];rfl);obtain⟨bC,I,i,k,i3,i4⟩:=A b l rfl;cases W:e.ty.b
  ·rw[W]at a4;refine dA @a0 @jY @jX @T6 @a4 ⟨?_⟩;exact iX d f ((aU.refl _ _).more Zo) (by simp[gQ,h,W])
  ·rw[W]at a4;refine cu @a0 @jY @jX @T6 @a4 @i @i4 ⟨?_⟩;exact iX d f ((aU.refl _ _).more Zo) (by simp[gQ,h,W])
 ·have K:gQ Y t e a=tY Y e.name a:=by simp[gQ,h]
  rw[K];refine cg @a0 @jY @jX ⟨?_⟩;refine(Oy d f U2 T2 UF U9 aV UG U3 U5).Zm ?_;rintro R am aw ⟨w,rfl,UA,UB,T4⟩;refine bx ⟨?_⟩;exact⟨w,rfl,UA,UB,T4⟩
def qp(e:Nat×z×Nat):z×z×Nat:=(.ptr e.1 0,e.2.1,e.2.2)
mutual
def qf:aX->Nat
 | .mk _ _ _ _ _ _ args=>lG args+1
def lG:List aX->Nat
 |[]=>0|e::l=>qf e+lG l
end
def OP(e:aX):qf e=lG e.args+1:=by cases e;rw[qf];rfl
def OQ:lG []=0:=by rw[lG]
def Fa(e:aX):∀l:List aX,lG (l++[e])=lG l+qf e:=by intro l;induction l with|nil=>simp[lG]|cons a l U=>rw[Yw,lG,lG,U];omega
def hM(X:bi)(q:E S)(P:Nat->Prop)(r:Nat)(a:Nat->Option z):Prop:=∃a6 bz,H X q r=some (.map (a6.map qp) bz)/\(∀w,fN a6 w=a w)/\∀x∈a6,P x.1/\jk X q x.1
def hM.M{r:Nat}{c:Nat->Option z}(h:hM X q P r c)(f:H X D r=H X q r)(k:∀o,P o->H X D o=H X q o):hM X D P r c:=by obtain⟨a6,bz,d,e,a⟩:=h;exact⟨a6,bz,by rw[f];exact d,e,λx b=>⟨(a x b).1,(a x b).2.M (k _ (a x b).1)⟩⟩
def Bp(b:Nat):hj X 20 40 (.ptr b 0)=true:=Zk
def PJ(b a:Nat):gn X q 20 40 (.ptr b 0) (.ptr a 0)=aF.ptrEq X q b 0 a 0:=Zk
def aaw{b a:Nat}(h:jk X q b)(d:jk X q a)(i:(y X).aB<=b):aF.ptrEq X q b 0 a 0=some (decide (b=a)):=by
 obtain⟨c,n,f,p⟩:=h;obtain⟨m,j,g,r⟩:=d;unfold aF.ptrEq;rw[ee];by_cases e:b=a
 ·simp[e]
 ·have bc:Nat.blt 0 n=true:=de Zo;have bp:Nat.blt 0 j=true:=de Zo;have k:te X q b 0=true:=by simp only[te,f,eB,de i,bc,ZZ]
  have l:pm X q a 0=true:=by simp only[pm,g,bp]
  simp[e,k,l,cY]
def Aj{b:Nat}(W:jk X q b)(c:(y X).aB<=b):∀(a6:List (Nat×z×Nat)) (i:Nat),(∀x∈a6,P x.1/\jk X q x.1)->findKey X q 40 (.ptr b 0) (a6.map qp) i=some (eZ a6 b i):=by
 intro a6;induction a6 with
 |nil=>intro i _;rfl|cons x a6 U=>
  intro i a;simp only[ZG,qp,findKey,PJ,aaw W (a x (Zr ..)).2 c,eZ];by_cases h:b=x.1
  ·have:x.1=b:=h.symm
   simp[this]
  ·have:¬x.1=b:=λe=>h e.symm
   simp only[h,this,Yo,ZJ];exact U (i+1) (λx d=>a x (Zw _ d))
def RT(b:Nat):hS 20 (.ptr b 0) (.ptr b 0)=true:=by simp[hS]
def Tc{r:Nat}{s:Nat->Option z}(K:(y X).aB<=r)(h:hM X q P r s){b:Nat}(W:jk X q b)(G:P b)(m:(y X).aB<=b)(v:z):
 ∃D,ib X q u 40 (.map r) (.ptr b 0) v=some (.cJ aF.undef D u)/\hM X D P r (λx=>if x=b then some v else s x)/\∀o,o≠r->H X D o=H X q o:=by
 obtain⟨a6,bz,g,l,i⟩:=h;have ai:eB X r=true:=de K;have A:∀o,jk X q o->o≠r:=λo d e=>by obtain⟨c,n,V,_⟩:=d;rw[e,g]at V;cases V
 have key:∀(N:List (Nat×z×Nat)) (k:Nat),(∀x∈N,x.1=b\/∃o∈a6,o.1=x.1)->(∀x∈N,P x.1/\jk X (Go.aF.aH X q r (some (.map (N.map qp) k))) x.1):=λN k t x a=>by
  have V:P x.1/\jk X q x.1:=by
   rcases t x a with e|⟨o,d,e⟩
   ·rw[e];exact⟨G,W⟩
   ·rw[<-e];exact i o d
  exact⟨V.1,V.2.M (ah K (A _ V.2))⟩
 cases f:eZ a6 b 0 with
 |none=>
  refine⟨Go.aF.aH X q r (some (.map ((a6++[(b,v,bz)]).map qp) (bz+1))), ?_,⟨a6++[(b,v,bz)],bz+1,aM K,λx=> ?_,key _ _ λx a=> ?_⟩,λo d=>ah K d⟩
  ·simp only[ib,g,Bp,cI,Aj W m _ _ i,f,aF.setObj,ai,cI,du];rw[ZU];rfl
  ·rw[A4 _ _ _ _ _ (by unfold fN;rw[f];rfl),l]
  ·rcases Zp.1 a with a|a
   ·exact .inr ⟨x,a,rfl⟩
   ·rw[ZB]at a;exact .inl (by rw[a])
 |some p=>
  obtain⟨j,v0⟩:=p;obtain⟨born,w⟩:=Ao b a6 j v0 f;have C:(a6.map qp)[j]? =some (.ptr b 0,v0,born):=by rw[Zt,w];rfl
  refine⟨Go.aF.aH X q r (some (.map ((a6.set j (b,v,born)).map qp) bz)), ?_,⟨a6.set j (b,v,born),bz,aM K,λx=> ?_,key _ _ λx a=> ?_⟩,λo d=>ah K d⟩
  ·simp only[ib,g,Bp,cI,Aj W m _ _ i,f,jz,C,RT,aF.setObj,ai,cI,du];rw[List.map_set];rfl
  ·rw[A5 _ _ _ _ _ _ _ f,l]
  ·rcases List.mem_or_eq_of_mem_set a with a|a
   ·exact .inr ⟨x,a,rfl⟩
   ·exact .inl (by rw[a])
def iN(X:bi)(q:E S)(r n:Nat):Prop:=∃a bz,H X q r=some (.map a bz)/\a.length=n
def iN.M{r n:Nat}(h:iN X q r n)(k:H X D r=H X q r):iN X D r n:=by unfold iN;rw[k];exact h
def Td{r n:Nat}{f:Nat->Option z}(K:(y X).aB<=r)(h:hM X q P r f)(l:iN X q r n){b:Nat}(W:jk X q b)(s:(y X).aB<=b)(i:f b=none){v:z}(e:ib X q u 40 (.map r) (.ptr b 0) v=some (.cJ aF.undef D u)):iN X D r (n+1):=by
 obtain⟨a6,bz,d,j,k⟩:=h;obtain⟨x,w,c,g⟩:=l;rw[d]at c;cases c;have ai:eB X r=true:=de K;have a:=j b;rw[i]at a;unfold fN at a;have m:eZ a6 b 0=none:=by cases t:eZ a6 b 0 with|none=>rfl|some p=>rw[t]at a;cases a
 simp only[ib,d,Bp,cI,Aj W s _ _ k,m,aF.setObj,ai,cI,du,Zh,ck.cJ.injEq]at e;obtain⟨_,rfl,_⟩:=e;exact⟨_,_,aM K,by rw[ZH,g];rfl⟩
mutual
def iv(X:bi)(q:E S)(Y:List GT)(t:aA->Option cB)(c:Nat->Option z)(P cX:Nat->Prop):aX->z->Prop
 | .mk k a nm no ty n args,v=>∃b aE bC aG row w,v=.ptr b 0/\P b/\ay X q (.ptr b 8)=some aE/\cl X q P bC aE 1 (aG.map λv=>[v])/\o0 Y t (.mk k a nm no ty n args)=.ok row/\c b=some w/\w.cells=[w]/\hP X q cX w row/\gG X q Y t c P cX args aG
def gG(X:bi)(q:E S)(Y:List GT)(t:aA->Option cB)(c:Nat->Option z)(P cX:Nat->Prop):List aX->List z->Prop
 |[],aG=>aG=[]|e::f,aG=>∃v d,aG=v::d/\iv X q Y t c P cX e v/\gG X q Y t c P cX f d
end
mutual
def iv.M{Y:List GT}{t:aA->Option cB}{m p:Nat->Option z}{P cX d f:Nat->Prop}(k:∀o,P o->H X D o=H X q o)(l:∀o,cX o->H X D o=H X q o)(i:∀o,P o->p o=m o)(c:∀o,P o->d o)(j:∀o,cX o->f o):∀(e:aX) (v:z),iv X q Y t m P cX e v->iv X D Y t p d f e v
 | .mk T1 a nm no ty n args,v,h=>by rw[iv]at h ⊢;obtain⟨b,aE,bC,aG,row,w,s,g,x,C,G,L,N,O,T0⟩:=h;exact⟨b,aE,bC,aG,row,w,s,c b g,zW (k b g) x,(C.M k).lift c,G,by rw[i b g];exact L,N,O.M l j,gG.M k l i c j args aG T0⟩
def gG.M{Y:List GT}{t:aA->Option cB}{m p:Nat->Option z}{P cX d f:Nat->Prop}(k:∀o,P o->H X D o=H X q o)(l:∀o,cX o->H X D o=H X q o)(i:∀o,P o->p o=m o)(c:∀o,P o->d o)(j:∀o,cX o->f o):∀(r:List aX) (aG:List z),gG X q Y t m P cX r aG->gG X D Y t p d f r aG
 |[],aG,h=>by rw[gG]at h ⊢;exact h|e::r,aG,h=>by rw[gG]at h ⊢;obtain⟨v,A,s,g,x⟩:=h;exact⟨v,A,s,iv.M k l i c j e v g,gG.M k l i c j r A x⟩
end
def FQ(Y:List GT)(t:aA->Option cB)(e:aX):o0 Y t e=(match mN Y t e.args with
 | .error a=> .error a| .ok (b,one)=>if one=false then .error e.at_ else if (gQ Y t e b).2=false then .error e.at_ else .ok (gQ Y t e b).1):=by
 cases e;rw[o0];rfl
variable{cX:Nat->Prop}
def iv.mk'{Y:List GT}{t:aA->Option cB}{a:Nat->Option z}{e:aX}{b bC:Nat}{aE w:z}{aG:List z}{row:List cH}(c:P b)(d:ay X q (.ptr b 8)=some aE)(f:cl X q P bC aE 1 (aG.map λv=>[v]))(g:o0 Y t e=.ok row)(h:a b=some w)(i:w.cells=[w])(j:hP X q cX w row)(k:gG X q Y t a P cX e.args aG):iv X q Y t a P cX e (.ptr b 0):=by cases e;rw[iv];exact⟨b,aE,bC,aG,row,w,rfl,c,d,f,g,h,i,j,k⟩
def gG.snoc{Y:List GT}{t:aA->Option cB}{c:Nat->Option z}{e:aX}{v:z}(k:iv X q Y t c P cX e v):∀{b:List aX}{aG:List z},gG X q Y t c P cX b aG->gG X q Y t c P cX (b++[e]) (aG++[v]):=by intro b;induction b with|nil=>intro aG h;rw[gG]at h;subst h;rw[Yq,gG];exact⟨v,[],rfl,k,by rw[gG]⟩|cons a b U=>intro aG h;rw[gG]at h;obtain⟨g,i,rfl,d,f⟩:=h;rw[Yw,gG];exact⟨g,i++[v],rfl,d,U f⟩
def η:∀{e:aX}{v:z},bF X q P e v->∃b aE bC aG,v=.ptr b 0/\P b/\jk X q b/\ay X q (.ptr b 1)=some (.Z e.at_)/\ay X q (.ptr b 8)=some aE/\cl X q P bC aE 1 (aG.map λv=>[v])/\b5 X q (λo=>P o/\o≠b) e.args aG
 | .mk ..,_,h=>by unfold bF at h;obtain⟨b,c,aV,j,k,i,l,m,n,p,r,s,aE,bC,aG,d,f,t,g⟩:=h;exact⟨b,aE,bC,aG,c,aV,j,i,d,f,b5.lift (λo a=>⟨a.1,a.2.1⟩) _ _ g⟩
structure mB(X:bi)(q:E S)(dp:Nat)(P:Nat->Prop)(a V r:Nat)(bI p:z)(Y:List GT)(t:aA->Option cB):Prop where
 aB:(y X).aB<=dp
 lc:a<dp
 s1:V<dp
 po:r<dp
 s8:(y X).aB<=r
 qi:a≠r
 qr:V≠r
 aV:∀o,P o->(y X).aB<=o/\o<dp/\o≠r
 um:∃c,H X q a=some (.cells c 3 .own)/\c.get 0=some (.ptr V 0)/\c.get 1=some p/\c.get 2=some bI
 rH:ay X q (.ptr V 0)=some (.map r)
 mx:jQ X q P bI t
 prog:iP X q P Y p
def mB.sr{dp b V r:Nat}{bI p:z}{Y:List GT}{t:aA->Option cB}(h:mB X q dp P b V r bI p Y t):r6 X q b (.ptr V 0) p bI:=by obtain⟨c,a,d,e,f⟩:=h.um;exact⟨by rw[a8 a];exact d,by rw[a8 a];exact e,by rw[a8 a];exact f⟩
def mB.M{dp a V r:Nat}{bI p:z}{Y:List GT}{t:aA->Option cB}(h:mB X q dp P a V r bI p Y t)(k:∀o,o<dp->o≠r->H X D o=H X q o):mB X D dp P a V r bI p Y t:=
 have c:∀o,P o->H X D o=H X q o:=λo b=>k o (h.aV o b).2.1 (h.aV o b).2.2
 ⟨h.aB,h.lc,h.s1,h.po,h.s8,h.qi,h.qr,h.aV,by rw[k a h.lc h.qi];exact h.um,zW (k V h.s1 h.qr) h.rH,h.mx.M c (λ_ h=>h),h.prog.M c (λ_ h=>h)⟩
def mB.fr{dp a V r:Nat}{bI p:z}{Y:List GT}{t:aA->Option cB}(h:mB X q dp P a V r bI p Y t)(c:br X [r] q u D Z)(e:dp<=u):mB X D dp P a V r bI p Y t:=
 h.M λo d b=>c.M o Zo (by simp[b])
def Jg(n:Nat)(X:bi)(q:E S)(u:Nat)(aQ:Nat->Prop)(r:Nat)(Y:List GT)(t:aA->Option cB)(b:Nat->Option z)(aI:Nat->Prop)(e:aX)(v:z):aY:=λR D Z=>∃row a,o0 Y t e=.ok row/\R.cells=[R]/\hP X D (b2 u Z) R row/\hM X D aQ r a/\(∀o,¬aI o->a o=b o)/\iv X D Y t a aI (b2 u Z) e v/\br X [r] q u D Z/\iN X D r (n+qf e)
def Jf(X:bi)(q:E S)(u r:Nat)(Y:List GT)(t:aA->Option cB)(e:aX):aY:=λR D Z=>∃a,o0 Y t e=.error a/\R=iU 26 a/\br X [r] q u D Z
set_option maxRecDepth 100000 in
def P5(UB:bZ X)(cx:pS X){Y:List GT}{t:aA->Option cB}{UM V r dp:Nat}{p bI:z}(VC:Y≠[])(VR:∀g∈Y,g.cm.length<=100000/\g.out.length<=100000){aQ:Nat->Prop}(UN:∀o,aQ o->P o):
 ∀(N:Nat) (e:aX),SizeOf.sizeOf e<N->dw gm e->∀(aI:Nat->Prop) (v:z) (q:E S) (u:Nat) (TY:Nat->Option z) (n:Nat),(∀o,aI o->aQ o)->dp<=u->mB X q dp P UM V r bI p Y t->hM X q aQ r TY->bF X q aI e v->iN X q r n->(∀o,aI o->TY o=none)->
  aD X 55 [.ptr UM 0,v] q u (Jg n X q u aQ r Y t TY aI e v) (Jf X q u r Y t e):=by
 intro N;induction N with
 |zero=>intro e h;omega|succ N U=>
  intro e Vi VY aI v q u TY n UO Uu G VF Uq VJ Ur;have i:∀o,aI o->P o:=λo c=>UN o (UO o c);have V4:=VY;rw[dw.eq]at V4;obtain⟨VX,VZ⟩:=V4;refine Fd UB (Ml ..) ?_;unfold DU;obtain⟨b,aE,bC,aG,rfl,W,VS,aL,f9,UE,has⟩:=η Uq;have Vo:=G.aB;have aV:=G.aV;have Uo:=aV b (i b W);have Ut:=UE.len;have V2:=has.len;rw[Zj,V2]at Ut;have Vk:e.args.length<=300000:=by have:=UE.many;rw[Zj,V2]at this;exact this
  refine bE @f9 @Ut ⟨?_⟩;refine cM (λm B D UK=>∃(j:Nat) (s:z) (aW:List Nat) (T4:List cH) (U0:Bool) (U7:Nat->Option z) (T2:Nat->Prop),B.g 0=some (.ptr UM 0)/\B.g 1=some (.ptr b 0)/\B.g 5=some s/\B.g 6=some (.bool U0)/\B.g 15=some aE/\B.g 16=some (.Z e.args.length)/\B.g 17=some (.Z j)/\j+m=e.args.length
   /\da X D s 3 (jc T4).flatten aW/\(∀o∈aW,u<=o/\o<UK)/\(U0=true->T4.length=j)/\T4.length<=j
   /\mN Y t e.args=(match mN Y t (e.args.drop j)with| .error a=> .error a| .ok (UJ,one)=> .ok (T4++UJ,U0&&one))
   /\hM X D aQ r U7/\(∀o,¬aI o->U7 o=TY o)/\U7 b=TY b/\br X [r] q u D UK
   /\(∀o,T2 o->aI o/\o≠b)/\b5 X D T2 (e.args.drop j) (aG.drop j)/\gG X D Y t U7 (λo=>(aI o/\o≠b)/\¬T2 o) (λo=>b2 u UK o/\o∉aW) (e.args.take j) (aG.take j)/\iN X D r (n+lG (e.args.take j))/\∀o,T2 o->U7 o=none)
   e.args.length ⟨0,.ax,[],[],true,TY,λo=>aI o/\o≠b,aC,aC,aC,aC,aC,aC,cT,Zo,.inl (.inl ⟨rfl,rfl,rfl⟩),Zs,λ_=>rfl,Zg _,by
    rw[Yk];cases mN Y t e.args with
    |error a=>rfl|ok x=>obtain⟨UJ,one⟩:=x;simp,VF,λ_ _=>rfl,rfl,br.refl _ _ _,λ_ h=>h,by simpa using has,by rw[Z8,Z8,gG],by rw[Z8,OQ];exact VJ,λo c=>Ur o c.1⟩ ?_
  rintro m B am aw ⟨j,s,aW,T4,U0,Uc,T2,t0,t1,t5,Uf,Ue,U8,U9,Vl,UW,T0,Uy,Vj,A,Uk,UT,UU,T6,U3,UR,UG,Un,US⟩;have Vm:=T6.le;have UA:=G.fr T6 Uu;have U5:∀o,P o->H X am o=H X q o:=λo c=>by have:=aV o c;exact T6.M o Zo (by simp[this.2.2])
  have Uv:=VS.M (U5 b (i b W));cases m with
  |zero=>
   have d:=zM j e.args.length;have VO:j=e.args.length:=Zo;rw[ZM Zo,mN]at A;simp only[ZY,YJ]at A;have T1:=FQ Y t e;rw[A]at T1;simp only[]at T1;have V7:ay X am (.ptr b 1)=some (.Z e.at_):=zW (U5 b (i b W)) aL;cases U0 with
   |false=>rw[Zv rfl]at T1;refine eg @U9 @U8 @d @Uf @t1 @V7 ⟨?_⟩;refine(ue UB Zo e.at_).mono (λ_ _ _ h=>h) ?_;rintro R l C ⟨rfl,L⟩;exact⟨_,T1,rfl,T6.trans (br.of L)⟩
   |true=>
    rw[Zi Zd]at T1;have VK:∀o,(P o\/(u<=o/\o<aw))->o<aw:=λo c=>by
     rcases c with h|h
     ·have:=aV o h;omega
     ·exact h.2
    refine cu @U9 @U8 @d @Uf @t0 @t1 @t5 ⟨?_⟩;refine(abl (P:=λo=>P o\/(u<=o/\o<aw)) UB cx Zo (zL G.lc) UA.sr (UA.mx.M (λ_ _=>rfl) (λo h=> .inl h)) (UA.prog.M (λ_ _=>rfl) (λo h=> .inl h)) VC VK VR (bF.lift (λo c=> .inl (i o c)) _ _ (bF.M (λo c=>U5 o (i o c)) _ _ Uq)) VX (Uy rfl▸VO) UW Zo (λo c=> .inr (T0 o c))).Zm ?_;rintro R l C ⟨w,rfl,V3,VV,L⟩;have VQ:=L.le;have O:=T6.trans (br.of (X:=[r]) L);have Uh:=G.fr O Uu;have U6:∀o,P o->H X l o=H X q o:=λo c=>(by have:=aV o c;exact O.M o Zo (by simp[this.2.2]));cases Uw:(gQ Y t e T4).2 with
    |false=>rw[Zv Uw]at T1;have V8:ay X l (.ptr b 1)=some (.Z e.at_):=zW (U6 b (i b W)) aL;refine bE @t1 @V8 ⟨?_⟩;refine(ue UB Zo e.at_).mono (λ_ _ _ h=>h) ?_;rintro R T3 Vs ⟨rfl,VE⟩;exact⟨_,T1,rfl,O.trans (br.of VE)⟩
    |true=>
     rw[Zi (by rw[Uw];decide)]at T1;have b8:=Uh.sr.b8;have rH:=Uh.rH;refine df @t0 @t1 @b8 @rH ⟨?_⟩;have U2:hM X l aQ r Uc:=Uk.M (L.M r (zL G.po)) (λo c=>L.M o (zL (aV o (UN o c))));obtain⟨T3,aH,VG,U4⟩:=Tc (u:=C) G.s8 U2 (Uv.M (L.M b Zo)) (UO b W) Uo.1 w;have Um:=Td G.s8 U2 (Un.M (L.M r (zL G.po))) (Uv.M (L.M b Zo)) Uo.1 (by rw[UU];exact Ur b W) aH;rw[Zy Zo]at Um;refine d8 aH ?_;refine bx ⟨?_⟩;have Uj:br X [r] q u T3 C:=⟨O.le,λo k f=>by rw[U4 o (by simpa using f)];exact O.M o k f⟩;have Ub:∀o,P o->H X T3 o=H X q o:=λo c=>(by have:=aV o c;exact Uj.M o Zo (by simp[this.2.2]));have V5:∀o,u<=o->o<C->H X T3 o=H X l o:=λo k f=>U4 o (zL G.po);rw[Zy Zo,Zy Zo]at UG;have V1:hP X T3 (b2 u C) w (gQ Y t e T4).1:=VV.M (λo c=>V5 o (zL c.1) c.2) (λo c=>⟨zL c.1,c.2⟩);refine⟨_,_,T1,V3,V1,VG,λo c=> ?_,iv.mk' W (zW (Ub b (i b W)) f9) (UE.M λo c=>Ub o (i o c)) T1 Zs V3 V1 (gG.M (λo c=> ?_) (λo c=> ?_) (λo c=> ?_) (λo c=>c.1.1) (λo c=>⟨c.1.1,zL c.1.2⟩) _ _ UG),Uj,by rw[OP];exact Um⟩
     ·have:o≠b:=λe=>c (e▸W)
      simp only[this,ZJ];exact UT o c
     ·rw[Ub o (i o c.1.1),U5 o (i o c.1.1)]
     ·rw[V5 o c.1.1 (zL c.1.2),L.M o c.1.2]
     ·simp only[c.1.2,ZJ]
  |succ m=>
   have d:=zN j e.args.length;have Ug:=zQ j;obtain⟨a,UD⟩:=zO e.args j;have ai:e.args.drop j=a::e.args.drop (j+1):=(by obtain⟨UZ,c⟩:=Ze.1 UD;rw[Zz UZ,c]);rw[ai]at UR A;unfold b5 at UR;obtain⟨w,Vg,TZ,UH,UC,VM,VN⟩:=UR;have UY:aG[j]? =some w:=by
    have:(aG.drop j)[0]? =some w:=by rw[UH];rfl
    simpa using this
   have VW:Vg=aG.drop (j+1):=(by obtain⟨UZ,c⟩:=Ze.1 UY;rw[Zz UZ]at UH;simp only[zy]at UH;exact UH.2.symm);subst VW;obtain⟨V9,VA,Vh⟩:=(UE.M λo c=>U5 o (i o c)).one UY;have UF:e.args.take (j+1)=e.args.take j++[a]:=(by rw[ZD,UD];rfl);have V0:aG.take (j+1)=aG.take j++[w]:=(by rw[ZD,UY];rfl);have Vp:=Ib (Zl UD);have T7:∀o,TZ o->aI o/\o≠b:=λo c=>U3 o (UC o c);rw[mN]at A;refine cu @U9 @U8 @Ue @t0 @d @V9 @VA ⟨?_⟩;refine(U a Zo (IT VZ (Zl UD)) TZ w am aw Uc (n+lG (e.args.take j)) (λo c=>UO o (T7 o c).1) Zo UA Uk VM Un (λo c=>US o (UC o c))).mono ?_ (λR D UK h=>by
    obtain⟨V6,k,f,VD⟩:=h;rw[k]at A;simp only[]at A;exact⟨V6,by rw[FQ,A],f,T6.trans VD⟩)
   rintro R l C ⟨row,Ud,VT,Vq,UX,U2,T8,Uz,O,Ul⟩;have VQ:=O.le;have Ui:=T6.trans O;rw[VT]at A;simp only[]at A;have Vn:=G.po;have UI:∀o,u<=o->o<aw->H X l o=H X am o:=λo k f=>O.M o f Zx;have U6:∀o,P o->H X l o=H X am o:=λo c=>(by have:=aV o c;exact O.M o Zo (by simp[this.2.2]));have Up:Ud b=Uc b:=T8 b (λh=>(T7 b h).2 rfl);have Ux:b5 X l (λo=>T2 o/\¬TZ o) (e.args.drop (j+1)) (aG.drop (j+1)):=b5.M (λo c=>U6 o (i o (U3 o c.1).1)) _ _ VN;by_cases Us:row.length=1
   ·obtain⟨x,rfl⟩:∃x,row=[x]:=by
     match row,Us with
     |[x],_=>exact⟨x,rfl⟩
    obtain⟨bG,Ve,Ua,Vr,i3,i4⟩:=UX.rd.c4 0 x rfl;have Ua:c8 3 R (.Z 0)=some (.ptr bG Ve):=Ua;have UV:c0 R=some (.Z 1):=UX.rd.len;have ar:decide ((1:Int)≠1)=false:=(by decide);simp only[]at A;refine eg @UV @ar @t5 @Ua @i3 cP.eq_1 ⟨?_⟩;generalize UP:Go.aF.aH X l C _=T3;have VB:H X T3 C=zP (cP x) 3:=(by rw[<-UP,aM Zo];rfl);have U4:∀o,o<C->H X T3 o=H X l o:=λo c=>(by rw[<-UP,ah Zo Zo]);clear UP;obtain⟨Vf,U1,UL,VL,VU,UQ,VP⟩:=B1 (u:=C+1) (UW.M (D:=T3) (λo c=>by have:=T0 o c;rw[U4 o Zo,UI o this.1 this.2])) VB Zo Zo (λo c=>zL (T0 o c)) 1;refine d8 VL ?_;refine bE @U9 @Ug ⟨?_⟩;have T5:∀o,o<C->o∉aW->H X U1 o=H X l o:=λo k f=>(by rw[VP o Zo f,U4 o k]);have T9:∀o,o<u->o∉aW:=λo k f=>zL (T0 o f);refine⟨m,Zo,j+1,Vf,UL,T4++[x],U0,Ud,λo=>T2 o/\¬TZ o,af t0,af t1,aC,af Uf,af Ue,af U8,aC,Zo,VU,λo c=> ?_,λh=>by have:=Uy h;simp;omega,Zx, ?_, ?_,λo c=> ?_,by rw[Up];exact UU, ?_,λo c=>U3 o c.1, ?_, ?_,by rw[UF,Fa, <-Ye];exact Ul.M (T5 r Zo (T9 r Zo)),λo c=>(T8 o c.2).trans (US o c.1)⟩
    ·rcases UQ o c with rfl|h
     ·omega
     ·have:=T0 o h;omega
    ·rw[A];cases mN Y t (e.args.drop (j+1))with
     |error a=>rfl|ok p=>obtain⟨UJ,one⟩:=p;simp
    ·exact U2.M (T5 r Zo (T9 r Zo)) (λo c=>by have:=aV o (UN o c);exact T5 o Zo (T9 o Zo))
    ·exact(T8 o (λh=>c (T7 o h).1)).trans (UT o c)
    ·exact⟨Zo,λo k f=>by rw[T5 o Zo (T9 o k)];exact Ui.M o k f⟩
    ·exact b5.M (λo c=>by have:=aV o (i o (U3 o c.1).1);exact T5 o Zo (T9 o Zo)) _ _ Ux
    ·have VH:∀o,aw<=o->o<C->o∉UL:=λo k f h=>by
      rcases UQ o h with rfl|h
      ·omega
      ·have:=T0 o h;omega
     have VI:∀o,o<aw->o∉aW->o∉UL:=λo k f h=>by
      rcases UQ o h with rfl|h
      ·omega
      ·exact f h
     have Va:∀o,(aI o/\o≠b)/\¬T2 o->H X U1 o=H X am o:=λo c=>(by have:=aV o (i o c.1.1);rw[T5 o Zo (T9 o Zo),U6 o (i o c.1.1)]);have Vb:∀o,b2 u aw o/\o∉aW->H X U1 o=H X am o:=λo c=>(by have k:=c.1.1;have f:=c.1.2;rw[T5 o Zo c.2,UI o k f]);have Vc:∀o,TZ o->H X U1 o=H X l o:=λo c=>(by have:=aV o (i o (T7 o c).1);exact T5 o Zo (T9 o Zo));have Vd:∀o,b2 aw C o->H X U1 o=H X l o:=λo c=>T5 o c.2 (λh=>by have:=T0 o h;have:=c.1;omega);rw[UF,V0];exact gG.snoc (iv.M Vc Vd (λ_ _=>rfl) (λo c=>⟨T7 o c,λh=>h.2 c⟩) (λo c=>⟨⟨zL c.1,zL c.2⟩,VH o c.1 c.2⟩) a w Uz) (gG.M Va Vb (λo c=>T8 o (λh=>c.2 (UC o h))) (λo c=>⟨c.1,λh=>c.2 h.1⟩) (λo c=>⟨⟨c.1.1,zL c.1.2⟩,VI o c.1.2 c.2⟩) _ _ UG)
   ·have UV:=UX.rd.len;have ar:decide ((row.length:Int)≠1)=true:=z1;refine df @UV @ar @U9 @Ug ⟨?_⟩;refine⟨m,Zo,j+1,s,aW,T4,false,Ud,λo=>T2 o/\¬TZ o,af t0,af t1,af t5,aC,af Ue,af U8,aC,Zo,UW.M (λo c=>by have:=T0 o c;exact UI o this.1 this.2),λo c=>zL (T0 o c),(λh=>by cases h),Zo, ?_,U2,λo c=>(T8 o (λh=>c (T7 o h).1)).trans (UT o c),by rw[Up];exact UU,Ui,λo c=>U3 o c.1,Ux, ?_,by rw[UF,Fa, <-Ye];exact Ul,λo c=>(T8 o c.2).trans (US o c.1)⟩
    ·rw[A];cases mN Y t (e.args.drop (j+1))with
     |error a=>rfl|ok p=>
      obtain⟨UJ,one⟩:=p
      match row,Us with
      |[],_=>simp|[_],h=>exact absurd rfl h|_::_::_,_=>simp
    ·rw[UF,V0];exact gG.snoc (iv.M (λ_ _=>rfl) (λ_ _=>rfl) (λ_ _=>rfl) (λo c=>⟨T7 o c,λh=>h.2 c⟩) (λo c=>⟨⟨zL c.1,c.2⟩,λh=>by have:=T0 o h;have:=c.1;omega⟩) a w Uz) (gG.M (λo c=>U6 o (i o c.1.1)) (λo c=>UI o c.1.1 c.1.2) (λo c=>T8 o (λh=>c.2 (UC o h))) (λo c=>⟨c.1,λh=>c.2 h.1⟩) (λo c=>⟨⟨c.1.1,zL c.1.2⟩,c.2⟩) _ _ UG)
def jV:List cA->Nat
 |[]=>0|V::l=>qf V.right+jV l
def OS:∀l b:List cA,jV (l++b)=jV l+jV b:=by intro l;induction l with|nil=>intro b;simp[jV]|cons a l U=>intro b;rw[Yw,jV,jV,U];omega
def OT(V:cA)(l:List cA):jV (l++[V])=jV l+qf V.right:=by rw[OS];simp[jV]
def uk{α:Type}{f:α->Option Int}{l:List α}{i:Nat}{x:α}(h:l[i]? =some x)(a:(l.take i).findSome? f=none):(l.take (i+1)).findSome? f=f x:=by rw[ZD,h,List.findSome?_append,a];simp
def wt{α:Type}{f:α->Option Int}{l:List α}{i:Nat}{x:α}{a:Int}(h:l[i]? =some x)(b:(l.take i).findSome? f=none)(c:f x=some a):l.findSome? f=some a:=by have e:l=l.take (i+1)++l.drop (i+1):=(List.take_append_drop _ _).symm;rw[e,List.findSome?_append,uk h b,c];rfl
variable{aQ:Nat->Prop}
def mL(X:bi)(q:E S)(Y:List GT)(t:aA->Option cB)(a:Nat->Option z)(P cX:Nat->Prop):List cA->List (List z)->Prop
 |[],aR=>aR=[]|V::c,aR=>∃row b v,aR=row::b/\row[3]? =some v/\mY Y t V=none/\iv X q Y t a P cX V.right v/\mL X q Y t a P cX c b
def mL.M{Y:List GT}{t:aA->Option cB}{d e:Nat->Option z}{b c:Nat->Prop}(k:∀o,P o->H X D o=H X q o)(r:∀o,cX o->H X D o=H X q o)(m:∀o,P o->e o=d o)(n:∀o,P o->b o)(p:∀o,cX o->c o):∀{a:List cA}{aR:List (List z)},mL X q Y t d P cX a aR->mL X D Y t e b c a aR:=by intro a;induction a with|nil=>intro aR h;exact h|cons V a U=>rintro aR ⟨row,s,v,f,g,i,j,l⟩;exact⟨row,s,v,f,g,i,iv.M k r m n p _ _ j,U l⟩
def mL.snoc{Y:List GT}{t:aA->Option cB}{c:Nat->Option z}{V:cA}{row:List z}{v:z}(d:row[3]? =some v)(e:mY Y t V=none)(f:iv X q Y t c P cX V.right v):∀{b:List cA}{aR:List (List z)},mL X q Y t c P cX b aR->mL X q Y t c P cX (b++[V]) (aR++[row]):=by
 intro b;induction b with
 |nil=>rintro aR rfl;exact⟨row,[],v,rfl,d,e,f,rfl⟩
 |cons a b U=>rintro aR ⟨j,k,w,rfl,bl,g,h,i⟩;exact⟨j,k++[row],w,rfl,bl,g,h,U i⟩
structure r7(X:bi)(q:E S)(dp:Nat)(P:Nat->Prop)(a V r:Nat)(p:z)(Y:List GT):Prop where
 aB:(y X).aB<=dp
 lc:a<dp
 s1:V<dp
 po:r<dp
 s8:(y X).aB<=r
 w9:(y X).aB<=a
 qi:a≠r
 qr:V≠r
 y1:V≠a
 aV:∀o,P o->(y X).aB<=o/\o<dp/\o≠r/\o≠a
 um:∃c,H X q a=some (.cells c 3 .own)/\c.get 0=some (.ptr V 0)/\c.get 1=some p
 rH:ay X q (.ptr V 0)=some (.map r)
 prog:iP X q P Y p
def sb(X:bi)(q:E S)(Y:List GT)(c:Nat->Option z)(P cX:Nat->Prop)(g:GT)(row:List z):Prop:=q7 Y g=none/\∃bK bO aE a bc bp bG b aR,row=[.str g.name,.Z g.at_,bK,bO,aE,a]/\cl X q P bc bK 8 (g.cm.map cQ)/\cl X q P bp bO 8 (g.out.map cQ)/\cl X q P bG aE 8 (g.loc.map cQ)/\cl X q P b a 4 aR/\kS X q P g.eqs aR/\mL X q Y (c6 g) c P cX g.eqs aR
structure Je(n:Nat)(X:bi)(dT:E S)(u e:Nat)(aQ aI:Nat->Prop)(r:Nat)(Y:List GT)(t:aA->Option cB)(d:Nat->Option z)(eqs:List cA)(aR:List (List z))(j:Nat)(D:E S)(c:Nat):Prop where
 none_:(eqs.take j).findSome? (mY Y t)=none
 fr:br X [r] dT e D c
 at_:∃b a,hM X D aQ r b/\(∀o,¬aI o->b o=d o)/\(∀o,a o->aI o)/\kS X D a (eqs.drop j) (aR.drop j)/\mL X D Y t b (λo=>aI o/\¬a o) (b2 u c) (eqs.take j) (aR.take j)/\iN X D r (n+jV (eqs.take j))/\∀o,a o->b o=none
set_option maxRecDepth 100000 in
def Ts(TY:bZ X)(cx:pS X){Y:List GT}{A UZ r dp:Nat}{p:z}(WQ:Y≠[])(X3:∀g∈Y,g.cm.length<=100000/\g.out.length<=100000)(UH:∀o,aQ o->P o){aI:Nat->Prop}(Vj:∀o,aI o->aQ o)(Xc:dp<=u)(C:r7 X q dp P A UZ r p Y){UB:Nat->Option z}(Vg:hM X q aQ r UB){n:Nat}(Wc:iN X q r n)(Wr:∀o,aI o->UB o=none)
 {g:GT}{row:List z}(Vo:iO X q aI g row)(We:∀V∈g.eqs,dw gm V.right)(X2:(c3 g).length<=300000):
 aD X 31 [.ptr A 0,.agg row] q u (λR D Z=>R=.tuple []/\(∃c,H X D A=some (.cells c 3 .own)/\c.get 0=some (.ptr UZ 0)/\c.get 1=some p)/\∃VT,hM X D aQ r VT/\(∀o,¬aI o->VT o=UB o)/\sb X D Y VT aI (b2 u Z) g row/\br X [r,A] q u D Z/\iN X D r (n+jV g.eqs))
  (λR D Z=>∃a,q7 Y g=some a/\R=iU 26 a/\br X [r,A] q u D Z):=by
 refine Fd TY (LB ..) ?_;unfold Dy;have Xd:=C.aB;have aV:=C.aV;have Xb:=C.po;have XX:=C.lc;have Xa:=C.s1;have T0:∀o,aI o->P o:=λo f=>UH o (Vj o f);have Vp:=Vo;obtain⟨bK,bO,aE,UN,bc,bp,bG,WH,aR,rfl,VJ,VK,VL,UI,VH⟩:=Vo;have XD:=(fu VJ.len).1;have XF:=(fu VK.len).1;have XE:=(fu VL.len).1;have Xf:=(fu UI.len).1;refine mQ ?_;generalize VD:Go.aF.aH X q u _=au;have V0:H X au u=zP [.str g.name,.Z g.at_,bK,bO,aE,UN] 6:=by rw[<-VD,aM Zo];rfl
 have V3:aU X q u au (u+1):=by rw[<-VD];exact cf
 clear VD;refine bo (a8 V0) ⟨?_⟩;have a7:∀o,P o->H X au o=H X q o:=λo f=>V3.M o (zL (aV o f));refine(uY (u:=u+1) (q:=au) TY Zo (λo f=>zL (aV o (T0 o f))) (Vp.M (aI:=aI) (λo f=>a7 o (T0 o f)) (λ_ h=>h)) X2).Zm ?_;rintro R am aw ⟨bI,WD,Xj,XV,rfl,W1,W2,Vk,Vx,_,_,Uh⟩;have XY:=Uh.le;have V4:=V3.trans Uh;obtain⟨c,VW,VX,VY⟩:=C.um;have wB:H X am A=some (.cells c 3 .own):=by rw[V4.M A Zo];exact VW
 have Vy:=C.w9;refine h8 ⟨?_⟩;generalize VE:Go.aF.aH X am A _=L;have WP:∃Uf,H X L A=some (.cells Uf 3 .own)/\Uf.get 0=some (.ptr UZ 0)/\Uf.get 1=some p/\Uf.get 2=some (.ptr bI 0):=⟨cj c 2 [.ptr bI 0],by rw[<-VE,aM Vy];rfl,by rw[je,E.e0];exact VX,by rw[je,E.e0];exact VY,nq c 2 _⟩;have Ur:∀o,o≠A->H X L o=H X am o:=λo f=>by rw[<-VE,ah Vy f]
 clear VE wB;have UU:∀o,o<u->o≠A->H X L o=H X q o:=λo U7 T6=>by rw[Ur o T6,V4.M o U7]
 have UV:∀o,P o->H X L o=H X q o:=λo f=>by have:=aV o f;exact UU o Zo Zo
 have Vc:br X [r,A] q u L aw:=⟨Zo,λo U7 T6=>UU o U7 (by simp at T6;exact T6.2)⟩;have W3:jQ X L (λo=>P o\/b2 (u+1) aw o) (.ptr bI 0) (c6 g):=⟨bI,WD,rfl,.inr W1,.inr W2,zW (Ur bI (zL W1.1)) Vk,Vx.M (Ur WD (zL W2.1))⟩;have UR:mB X L aw (λo=>P o\/b2 (u+1) aw o) A UZ r (.ptr bI 0) p Y (c6 g):=⟨Zo,Zo,Zo,Zo,C.s8,C.qi,C.qr,λo f=>by
  rcases f with h|h
  ·have:=aV o h;exact⟨this.1,Zo,this.2.2.1⟩
  ·have U7:=h.1;have T6:=h.2;exact⟨Zo,T6,Zo⟩,WP,zW (UU UZ Zo C.y1) C.rH,W3,C.prog.M UV (λ_ h=> .inl h)⟩
 have V1:H X L u=zP [.str g.name,.Z g.at_,bK,bO,aE,UN] 6:=by rw[Ur u Zo,Uh.M u Zo];exact V0
 have Vh:hM X L aQ r UB:=Vg.M (UU r Zo (λe=>C.qi e.symm)) (λo f=>UV o (UH o f));have WZ:iN X L r n:=Wc.M (UU r Zo (λe=>C.qi e.symm));generalize W5:c6 g=t at*;have UJ:q7 Y g=(match v7 t g with|some a=>some a|none=>g.eqs.findSome? (mY Y t)):=by unfold q7;rw[W5];rfl
 clear V3 Uh V4 a7 Vx Vk W3 V0 VW VX VY;have Wi:dl [.ax,.ax,.ax] [(0,1,bK),(1,1,bO),(2,1,aE)]=some (.agg [bK,bO,aE]):=by simp[dl,k4,lL,ih,XD,XF,XE]
 refine js (a8 V1) ⟨?_⟩;refine dg Wi ?_;refine eO (λB D T8=>B.g 0=some (.ptr A 0)/\B.g 3=some (.ptr u 0)/\v7 t g=none/\aU X L aw D T8) (λj Vq=> ?_) ?_
 ·have XC:∀k,k<3->∃s b,([bK,bO,aE]:List z)[k]? =some s/\cl X q aI b s 8 ((e3 g k).map cQ):=λk Vr=>by
   match k,Vr with
   |0,_=>exact⟨bK,bc,rfl,VJ⟩|1,_=>exact⟨bO,bp,rfl,VK⟩|2,_=>exact⟨aE,bG,rfl,VL⟩
  refine cM (λm B D T8=>∃(k:Nat),B.g 0=some (.ptr A 0)/\B.g 3=some (.ptr u 0)/\B.g 25=some (.agg [bK,bO,aE])/\B.g 26=some (.Z k)/\k+m=3/\((c3 g).take (jA g k)).findSome? (λx=>if x.2.on≠[]/\(i6 t x.2.on).b=false then some x.2.cC else none)=none/\aU X L aw D T8)
   3 ⟨0,aC,aC,aC,cT,Zo,by simp[jA],aU.refl _ _⟩ ?_
  rintro m B N U0 ⟨k,t0,t3,UD,U3,Vr,G,O⟩;have Wy:=O.le;cases m with
  |zero=>have d:decide ((k:Int)<3)=false:=z2;have Wv:k=3:=Zo;subst Wv;rw[<-wi,Yx]at G;refine bE @U3 @d ⟨?_⟩;exact Vq _ _ _ ⟨af t0,af t3,G,O⟩|succ m=>
   have d:decide ((k:Int)<3)=true:=z1;obtain⟨Us,XU,XA,UL⟩:=XC k Zo;have Wu:ky false 3 1 (.agg [bK,bO,aE]) (.Z k)=some Us:=(by have WR:Nat.blt k 3=true:=(by simp[Nat.blt];omega);simp only[ky,hV,WR,cI,ga,jz,ZF];exact XA);have Vv:=UL.len;have X5:=UL.many;rw[Zj]at Vv X5;refine dA @U3 @UD @d @Wu @Vv ⟨?_⟩;refine cM (λm B D T8=>∃(i:Nat),B.g 0=some (.ptr A 0)/\B.g 3=some (.ptr u 0)/\B.g 25=some (.agg [bK,bO,aE])/\B.g 26=some (.Z k)/\B.g 29=some Us/\B.g 30=some (.Z ((e3 g k).length:Int))/\B.g 31=some (.Z i)/\i+m=(e3 g k).length/\((c3 g).take (jA g k+i)).findSome? (λx=>if x.2.on≠[]/\(i6 t x.2.on).b=false then some x.2.cC else none)=none/\aU X L aw D T8)
    (e3 g k).length ⟨0,af t0,af t3,af UD,af U3,aC,aC,cT,Zo,G,O⟩ ?_
   clear t0 t3 UD U3 G;rintro U2 B T3 l ⟨i,t0,t3,UD,U3,VV,Ut,Uu,ag,G,UQ⟩;have Wz:=UQ.le;cases U2 with
   |zero=>
    have d:=zM i (e3 g k).length;have UF:=zQ k;refine dA @Uu @Ut @U3 @d @UF ⟨?_⟩;refine⟨m,Zo,k+1,af t0,af t3,af UD,aC,Zo, ?_,UQ⟩;rw[Hr g Zo]
    have:i=(e3 g k).length:=Zo
    rw[<-this];exact G
   |succ U2=>
    have d:=zN i (e3 g k).length;have UF:=zQ i;obtain⟨ar,ai⟩:=zO (e3 g k) i;have Wt:=UL.c4 i (by rw[Zj];omega);have XM:∀o,aI o->H X T3 o=H X q o:=λo f=>(by have:=aV o (T0 o f);rw[UQ.M o Zo,UV o (T0 o f)]);have W0:=(UL.M XM).row (i:=i) (r:=cQ ar) Zd (by rw[Zt,ai];rfl);have Wl:cQ ar=[.str ar.name,.Z ar.at_,.bool ar.ty.b,.bool ar.ty.s,.Z ar.ty.w,.str ar.on,.Z ar.cC,.bool ar.no]:=rfl;rw[Wl]at W0;have VI:=FC g (k:=k) Zo ai;have XW:=UR.fr (br.of (X:=[r]) UQ) (Zg _);refine eg @Uu @Ut @VV @d @Wt @W0 ⟨?_⟩;generalize UA:Go.aF.aH X _ l _=T4;have U6:H X T4 l=zP [.str ar.name,.Z ar.at_,.bool ar.ty.b,.bool ar.ty.s,.Z ar.ty.w,.str ar.on,.Z ar.cC,.bool ar.no] 8:=(by rw[<-UA,aM Zo];rfl);have TZ:∀o,o<l->H X T4 o=H X T3 o:=λo f=>(by rw[<-UA];exact zR);clear UA;have V5:aU X L aw T4 (l+1):=⟨Zo,λo f=>by rw[TZ o Zo];exact UQ.M o f⟩;have Va:=UR.fr (br.of (X:=[r]) V5) (Zg _);by_cases Um:ar.on=[]
    ·have Uv:∀i:Decidable (ar.on≠[]), @decide (ar.on≠[]) i=false:=λi=>(by simp[Um]);refine bo (a8 U6) ⟨?_⟩;simp only[Uv];refine bE @Uu @UF ⟨?_⟩;refine⟨U2,Zo,i+1,af t0,af t3,af UD,af U3,af VV,af Ut,aC,Zo, ?_,V5.more Zo⟩;rw[<-Ye,uk VI G];simp[Um]
    ·have Uv:∀i:Decidable (ar.on≠[]), @decide (ar.on≠[]) i=true:=λi=>(by simp[Um]);refine bo (a8 U6) ⟨?_⟩;simp only[Uv];refine bE @t0 (a8 U6) ⟨?_⟩;refine(uZ (u:=l+1) (P:=λo=>P o\/b2 (u+1) aw o) TY Zo Zo Va.sr.b0 Va.mx (λo f=>zL (UR.aV o f).2.1) ar.on).Zm ?_;rintro R U4 UX ⟨rfl,V6⟩;have X0:=V6.le;have VZ:=V5.trans (V6.gx Zo);have Ug:H X U4 l=zP [.str ar.name,.Z ar.at_,.bool ar.ty.b,.bool ar.ty.s,.Z ar.ty.w,.str ar.on,.Z ar.cC,.bool ar.no] 8:=(by rw[V6.M l Zo];exact U6);cases W:(i6 t ar.on).b with|true=>refine df @wx @W @Uu @UF ⟨?_⟩;refine⟨U2,Zo,i+1,af t0,af t3,af UD,af U3,af VV,af Ut,aC,Zo, ?_,VZ⟩;rw[<-Ye,uk VI G];simp[W]|false=>refine cg @wx @W (a8 Ug) ⟨?_⟩;refine(ue TY Zo ar.cC).mono (λ_ _ _ h=>h) ?_;rintro R U5 UC ⟨rfl,T7⟩;have Wj:v7 t g=some ar.cC:=wt VI G (by simp[Um,W]);exact⟨ar.cC,by rw[UJ,Wj],rfl,Vc.trans (br.of (VZ.trans T7))⟩
 ·rintro B N U0 ⟨t0,t3,Wk,O⟩;have Wy:=O.le;have V8:br X [r,A] q u N U0:=Vc.trans (br.of O);have V7:=UR.fr (br.of (X:=[r]) O) (Zg _);have WM:H X N u=zP [.str g.name,.Z g.at_,bK,bO,aE,UN] 6:=by rw[O.M u Zo];exact V1
  have W9:∀o,P o->H X N o=H X q o:=λo f=>by have:=aV o f;rw[O.M o Zo,UV o f]
  have WW:hM X N aQ r UB:=Vh.M (O.M r Zo) (λo f=>by have:=aV o (UH o f);exact O.M o Zo);have Wa:iN X N r n:=WZ.M (O.M r Zo);have Wo:kS X N aI g.eqs aR:=VH.M (λo f=>W9 o (T0 o f)) (λ_ h=>h);have W6:=VH.wide;have Vu:=UI.len;have X4:=UI.many;rw[W6.1]at Vu X4;rw[Wk]at UJ;simp only[]at UJ;clear Vh V1 UV C Vg Vp;show bu _ _;refine cg @t3 (a8 WM) @Vu ⟨?_⟩;refine cM (λm B D T8=>∃(j:Nat),B.g 0=some (.ptr A 0)/\B.g 52=some UN/\B.g 53=some (.Z g.eqs.length)/\B.g 54=some (.Z j)/\j+m=g.eqs.length/\Je n X N u U0 aQ aI r Y t UB g.eqs aR j D T8)
   g.eqs.length ⟨0,af t0,aC,aC,cT,Zo,⟨rfl,br.refl _ _ _,UB,aI,WW,λ_ _=>rfl,λ_ h=>h,by simpa using Wo,by rw[Z8,Z8];rfl,by rw[Z8];exact Wa,Wr⟩⟩ ?_
  clear t0 t3;rintro m B T3 l ⟨j,t0,UO,t53,UE,Vq,Uj⟩;have US:=Uj.fr;have Wz:=US.le;have WT:=V7.fr US Zo;obtain⟨VU,WG,Vi,Vt,VC,Vm,VP,VA,Vn⟩:=Uj.at_;have G:=Uj.none_;clear Uj;cases m with
  |zero=>have d:=zM j g.eqs.length;rw[Zy Zo]at G VA;rw[Zy Zo,Zy Zo]at VP;refine cg @t53 @UE @d ⟨?_⟩;have Vf:br X [r,A] q u T3 l:=V8.trans (US.down (Zg _) (λb W=> .inl (by simp at W;simp[W])));have UW:∀o,aI o->H X T3 o=H X q o:=λo f=>(by have:=aV o (T0 o f);exact Vf.M o Zo (by simp;exact⟨this.2.2.1,this.2.2.2⟩));obtain⟨WK,z0,XR,XS,_⟩:=WT.um;exact⟨rfl,⟨WK,z0,XR,XS⟩,VU,Vi,Vt,⟨by rw[UJ];exact G,bK,bO,aE,UN,bc,bp,bG,WH,aR,rfl,VJ.M UW,VK.M UW,VL.M UW,UI.M UW,VH.M UW (λ_ h=>h),by rw[W5];exact VP.M (λ_ _=>rfl) (λ_ _=>rfl) (λ_ _=>rfl) (λo f=>f.1) (λ_ h=>h)⟩,Vf,VA⟩
  |succ m=>
   have d:=zN j g.eqs.length;have UF:=zQ j;obtain⟨V,UK⟩:=zO g.eqs j;have ai:g.eqs.drop j=V::g.eqs.drop (j+1):=(by obtain⟨VQ,f⟩:=Ze.1 UK;rw[Zz VQ,f]);rw[ai]at Vm;obtain⟨row,XP,Ud,Uo,VB,X8,Wp⟩:=Vm;have VN:aR[j]? =some row:=by
    have:(aR.drop j)[0]? =some row:=by rw[Uo];rfl
    simpa using this
   have UL:XP=aR.drop (j+1):=(by obtain⟨VQ,f⟩:=Ze.1 VN;rw[Zz VQ]at Uo;simp only[zy]at Uo;exact Uo.2.symm);subst UL;obtain⟨UM,UY,bV,b0,Xi,rfl,Un,Xe,Vz,X7⟩:=id X8;obtain⟨T1,rfl,Wn,iW⟩:=Vz.ptr;have U9:∀o,Ud o->aI o:=λo f=>VC o (VB o f);have U1:∀o,P o->o<U0/\o≠r:=λo f=>(by have:=aV o f;exact⟨Zo,this.2.2.1⟩);have XL:∀o,P o->H X T3 o=H X q o:=λo f=>(by have:=U1 o f;rw[US.M o this.1 (by simp[this.2]),W9 o f]);have Ws:=UI.c4 j (by rw[W6.1];omega);have X9:=(UI.M (λo f=>XL o (T0 o f))).row Zd VN;have W4:g.eqs.take (j+1)=g.eqs.take j++[V]:=(by rw[ZD,UK];rfl);have XI:aR.take (j+1)=aR.take j++[[UM,UY,.Z V.at_,.ptr T1 0]]:=(by rw[ZD,VN];rfl);refine eg @UE @t53 @UO @d @Ws @X9 ⟨?_⟩;refine dg (eS (k:=4) (b:=l) (I:=0) (n:=4) (aM Zo) Zo rfl Zd Zd X7) ?_;generalize UA:Go.aF.aH X _ l _=T4;have U6:H X T4 l=zP [UM,UY,.Z V.at_,.ptr T1 0] 4:=(by rw[<-UA,aM Zo];rfl);have TZ:∀o,o<l->H X T4 o=H X T3 o:=λo f=>(by rw[<-UA];exact zR);clear UA;have V9:br X [r] N U0 T4 (l+1):=⟨Zo,λo U7 T6=>by rw[TZ o Zo];exact US.M o U7 T6⟩;have WU:=V7.fr V9 Zo;have WX:hM X T4 aQ r VU:=Vi.M (TZ r Zo) (λo f=>by have:=U1 o (UH o f);exact TZ o Zo);have Wq:bF X T4 Ud V.right (.ptr T1 0):=bF.M (λo f=>by have:=U1 o (T0 o (U9 o f));exact TZ o Zo) _ _ Vz;refine bE @t0 (a8 U6) ⟨?_⟩;refine(P5 (aQ:=aQ) (P:=λo=>P o\/b2 (u+1) aw o) (dp:=aw) TY cx WQ X3 (λo f=> .inl (UH o f)) (SizeOf.sizeOf V.right+1) V.right (Yr _) (We V (Zl UK)) Ud (.ptr T1 0) T4 (l+1) VU (n+jV (g.eqs.take j)) (λo f=>Vj o (U9 o f)) Zo WU WX Wq (VA.M (TZ r Zo)) (λo f=>Vn o (VB o f))).mono ?_ ?_
   ·rintro R U4 UX ⟨cK,XO,Wd,Xg,XJ,WY,VM,XH,U8,Wb⟩;have X0:=U8.le;have Vd:br X [r] N U0 U4 UX:=V9.trans (U8.down Zo (λb W=> .inl W));have WV:=V7.fr Vd Zo;have Ug:H X U4 l=zP [UM,UY,.Z V.at_,.ptr T1 0] 4:=(by rw[U8.M l Zo Zx];exact U6);have Vw:=Un.len;have X6:=Un.many;simp only[dh,Zj]at Vw X6;have XN:∀o,aI o->H X U4 o=H X T3 o:=λo f=>(by have:=U1 o (T0 o f);rw[U8.M o Zo (by simp[this.2]),TZ o Zo]);refine bE (a8 Ug) @Vw ⟨?_⟩;refine cM (λm B D T8=>∃(i:Nat) (s:z) (aW:List Nat),B.g 0=some (.ptr A 0)/\B.g 9=some (.ptr l 0)/\B.g 10=some R/\B.g 11=some s/\B.g 52=some UN/\B.g 53=some (.Z g.eqs.length)/\B.g 54=some (.Z j)/\B.g 63=some UM/\B.g 64=some (.Z V.left.length)/\B.g 65=some (.Z i)/\i+m=V.left.length/\da X D s 3 (jc ((V.left.take i).map (i6 t))).flatten aW/\(∀o∈aW,UX<=o/\o<T8)/\aU X U4 UX D T8)
     V.left.length ⟨0,.ax,[],af t0,aC,aC,aC,af UO,af t53,af UE,aC,aC,cT,Zo,.inl (.inl ⟨rfl,rfl,rfl⟩),Zs,aU.refl _ _⟩ ?_
    clear t0 UO t53 UE;rintro U2 B U5 UC ⟨i,s,aW,t0,t9,WE,Ua,UO,t53,UE,WF,Ub,Uc,ag,VO,UT,T7⟩;have XZ:=T7.le;have Vb:=WV.fr (br.of (X:=[r]) T7) Zo;have V2:H X U5 l=zP [UM,UY,.Z V.at_,.ptr T1 0] 4:=(by rw[T7.M l Zo];exact Ug);have VS:∀o,aI o->H X U5 o=H X T3 o:=λo f=>(by have:=U1 o (T0 o f);rw[T7.M o Zo,XN o f]);cases U2 with
    |zero=>
     have d:=zM i V.left.length;rw[Zy Zo]at VO;obtain⟨WJ,Up⟩:=VO.kG (P:=λo=>o<UC) Zd (vg _) (by simp[jc];omega) (λo f=>(UT o f).2);have W7:hP X U5 (λo=>o<UC) s (V.left.map (i6 t)):=⟨WJ,Up⟩;have Uq:=W7.rd.len;rw[Zj]at Uq;have XK:hP X U5 (λo=>o<UC) R cK:=XJ.M (λo f=>T7.M o f.2) (λo f=>zL f.2);have Vs:ay X U5 (.ptr T1 0)=some (.Z V.right.kind):=zW (VS T1 (U9 T1 Wn)) iW;have Ve:br X [r] N U0 U5 UC:=Vd.trans (br.of (T7.gx Zo));have VG:mY Y t V=if (1<V.left.length/\V.right.kind≠25)\/cK≠V.left.map (i6 t)then some V.at_ else none:=(by unfold mY;rw[Wd]);have fin:∀{T5:E S}{T9:Nat},br X [r] N U0 T5 T9->mY Y t V=some V.at_->q7 Y g=some V.at_/\br X [r,A] q u T5 T9:=λUi Wm=>⟨by rw[UJ];exact wt UK G Wm,V8.trans (Ui.down (Zg _) (λb W=> .inl (by simp at W;simp[W])))⟩;by_cases Ul:1<V.left.length/\V.right.kind≠25
     ·have UP:decide ((V.left.length:Int)>1)=true:=z1;have Uw:decide (V.right.kind≠25)=true:=(by simp[Ul.2]);refine cu @Uc @Ub @d @Ua @Uq @UP (Za @t9 (Za (a8 V2) (Za @Vs @Uw))) ⟨?_⟩;refine(ue TY Zo V.at_).mono (λ_ _ _ h=>h) ?_;rintro R T5 T9 ⟨rfl,T2⟩;obtain⟨Uy,Uz⟩:=fin (Ve.trans (br.of T2)) (by rw[VG,Zv (.inl Ul)]);exact⟨_,Uy,rfl,Uz⟩
     ·apply t6
      ·intro WC;by_cases Wx:1<V.left.length
       ·have UP:decide ((V.left.length:Int)>1)=true:=z1;have Uw:decide (V.right.kind≠25)=false:=(by simp only[Zc];exact λh=>Ul ⟨Wx,h⟩);refine cu @Uc @Ub @d @Ua @Uq @UP (Za @t9 (Za (a8 V2) (Za @Vs @Uw))) ⟨?_⟩;exact WC.out
       ·have UP:decide ((V.left.length:Int)>1)=false:=z2;refine eg @Uc @Ub @d @Ua @Uq @UP ⟨?_⟩;exact WC.out
      ·refine bE @WE @Ua ⟨?_⟩;refine(FK (P:=λo=>o<UC) TY Zo XK W7 (λo h=>h)).Zm ?_;rintro XQ T5 T9 ⟨rfl,T2⟩;have X1:=T2.le;have Ui:br X [r] N U0 T5 T9:=Ve.trans (br.of T2);by_cases Uk:cK=V.left.map (i6 t)
       ·have Ux:decide (cK=V.left.map (i6 t))=true:=(by simp[Uk]);have Vl:mY Y t V=none:=(by rw[VG,Zi];exact λh=>h.elim Ul (λh=>h Uk));refine cg @Ux @UE @UF ⟨?_⟩;have UG:=T7.trans T2;have WA:∀o,aI o->H X T5 o=H X T3 o:=λo f=>(by have:=U1 o (T0 o f);rw[T2.M o Zo,VS o f]);refine⟨m,Zo,j+1,af t0,af UO,af t53,aC,Zo,⟨by rw[uk UK G];exact Vl,Ui,XO,λo=>WG o/\¬Ud o,WY.M (UG.M r Zo) (λo f=>by have:=U1 o (UH o f);exact UG.M o Zo),λo f=>(VM o (λh=>f (U9 o h))).trans (Vt o f),λo f=>VC o f.1,Wp.M (λo f=>WA o (VC o f.1)) (λ_ h=>h), ?_,by rw[W4,OT, <-Ye];exact Wb.M (UG.M r Zo),λo f=>(VM o f.2).trans (Vn o f.1)⟩⟩;rw[W4,XI];refine mL.snoc (v:=.ptr T1 0) rfl Vl (iv.M (λo f=>by have:=U1 o (T0 o (U9 o f));exact UG.M o Zo) (λo f=>UG.M o f.2) (λ_ _=>rfl) (λo f=>⟨U9 o f,λh=>h.2 f⟩) (λo f=>⟨zL f.1,zL f.2⟩) _ _ XH) (VP.M (λo f=>WA o f.1) (λo f=> ?_) (λo f=>VM o (λh=>f.2 (VB o h))) (λo f=>⟨f.1,λh=>f.2 h.1⟩) (λo f=>⟨f.1,zL f.2⟩));have U7:=f.1;have T6:=f.2;rw[UG.M o Zo,U8.M o Zo Zx,TZ o T6]
       ·have Ux:decide (cK=V.left.map (i6 t))=false:=(by simp[Uk]);have WN:H X T5 l=zP [UM,UY,.Z V.at_,.ptr T1 0] 4:=(by rw[T2.M l Zo];exact V2);refine cg @Ux @t9 (a8 WN) ⟨?_⟩;refine(ue TY Zo V.at_).mono (λ_ _ _ h=>h) ?_;rintro R Ue Xh ⟨rfl,WS⟩;obtain⟨Uy,Uz⟩:=fin (Ui.trans (br.of WS)) (by rw[VG,Zv (.inr Uk)]);exact⟨_,Uy,rfl,Uz⟩
    |succ U2=>
     have d:=zN i V.left.length;have WL:=zQ i;obtain⟨w,Up⟩:=zO V.left i;have W8:=Un.c4 i (by simp[dh];omega);have VR:=(Un.M (λo f=>VS o (U9 o f))).cell i [.str w] 0 (.str w) (by simp[dh,Up]) rfl;rw[ZF]at W8 VR;rw[ZN]at VR;have XG:V.left.take (i+1)=V.left.take i++[w]:=(by rw[ZD,Up];rfl);refine cu @Uc @Ub @WF @d @W8 @VR (Za @Ua @t0) ⟨?_⟩;refine(uZ (u:=UC) (P:=λo=>P o\/b2 (u+1) aw o) TY Zo Zo Vb.sr.b0 Vb.mx (λo f=>zL (UR.aV o f).2.1) w).Zm ?_;rintro XQ T5 T9 ⟨rfl,T2⟩;have X1:=T2.le;refine bo cP.eq_1 ⟨?_⟩;generalize VF:Go.aF.aH X T5 T9 _=Ue;have WO:H X Ue T9=zP (cP (i6 t w)) 3:=(by rw[<-VF,aM Zo];rfl);have WB:∀o,o<T9->H X Ue o=H X T5 o:=λo f=>(by rw[<-VF,ah Zo Zo]);clear VF;obtain⟨Us,XT,WI,Wg,XB,Wh,Ww⟩:=B1 (u:=T9+1) (VO.M (D:=Ue) (λo f=>by have:=UT o f;rw[WB o Zo,T2.M o this.2])) WO (by rw[Zj,YI];omega) Zo (λo f=>zL (UT o f)) 1;refine d8 Wg ?_;refine bE @Uc @WL ⟨?_⟩;refine⟨U2,Zo,i+1,Us,WI,af t0,af t9,af WE,aC,af UO,af t53,af UE,af WF,af Ub,aC,Zo, ?_,λo f=> ?_,⟨Zo,λo f=> ?_⟩⟩
     ·rw[XG,ZU];exact XB
     ·rcases Wh o f with rfl|h
      ·omega
      ·have:=UT o h;omega
     ·rw[Ww o Zo (λh=>zL (UT o h)),WB o Zo,T2.M o Zo];exact T7.M o f
   ·rintro R U4 UX ⟨a,Wf,rfl,U8⟩;exact⟨a,by rw[UJ];exact wt UK G (by unfold mY;rw[Wf]),rfl,V8.trans ((V9.trans U8).down (Zg _) (λb W=> .inl (by simp at W;simp[W])))⟩
def A1(p:z):g4 X q 56 p=ay X q p:=Zk
def E3:∃fn c,(y X).P.funcs[30]? =some fn/\fn.body=some c:=wy (yv X)
def aaO(c:bZ X){a b:z}{aI:Bool->E S->Nat->Prop}(h:aI false q u):lI X (.func 30) ([]++[a,b]) none q u aI:=by refine⟨c.none _ _ rfl,E3,wz (yv X) ?_⟩;show nT X 30 [a,b] none q u aI;rw[Dx];unfold yu;show aJ _ _;refine bo @FI ⟨?_⟩;exact h
def aaP(w:bZ X){a b:Nat}{k at_:Int}{bV b0:E z}{aI:Bool->E S->Nat->Prop}(m:(y X).aB<=a)(c:(y X).aB<=b)(x:a≠b)(A:a<u)(C:b<u)(v:H X q a=some (.cells bV 1 .own))(e:H X q b=some (.cells b0 2 .own))
 (h:∀D p,u<=p->ay X D (.ptr a 0)=some .bH->ca X D 2 (.ptr b 0)=some (.agg [.Z k,.Z at_])->(∀o,o<u->o≠a->o≠b->H X D o=H X q o)->aI true D p):lI X (.func 30) ([]++[.ptr a 0,.ptr b 0]) (some (iU k at_)) q u aI:=by
 refine⟨w.none _ _ rfl,E3,wz (yv X) ?_⟩;show nT X 30 [.ptr a 0,.ptr b 0] (some (iU k at_)) q u aI;rw[Dx];unfold yu;show aJ _ _;have r:lC 26 (.agg [.Z 0,.Z 0]) true (iU k at_)=some (.tuple [.agg [.Z k,.Z at_],.zV]):=nE _ _ _;have j:∀(B:bS) (n:Nat),(xH B).g n=B.g n:=λ_ _=>rfl;refine cg @FH @r @j ⟨?_⟩;generalize g:aH X _ u _=au;have s:H X au u=zP [.Z k,.Z at_] 2:=by rw[<-g,aM Zo];rfl
 have f:∀o,o<u->H X au o=H X q o:=λo d=>by rw[<-g];exact zR
 rw[<-f a A]at v;rw[<-f b C]at e;clear g;refine bE (a8 s) @j ⟨?_⟩;refine d9 (by simp[z.same,iE,i7]) ?_;generalize i:aH X au a _=am;have t:H X am a=some (.cells (cj bV 0 [.bH]) 1 .own):=by rw[<-i,aM m];rfl
 have l:∀o,o≠a->H X am o=H X au o:=λo d=>by rw[<-i,ah m d]
 rw[<-l b Zo]at e;clear i;refine k5 @j ⟨?_⟩;refine dg (eS (k:=2) (b:=b) (I:=0) (n:=2) e c rfl Zd Zd rfl) ?_;show aI true _ _;refine h _ _ Zo ?_ ?_ (λo d G c5=> ?_)
 ·rw[a8 (by rw[ah c x];exact t),fR];rfl
 ·rw[kz,a8 (aM c),a8 (aM c),fR,fR];rfl
 ·rw[ah c c5,l o G,f o d]
def aa3{T:aY}{B:bS}{p V v w:z}(c:B.aP=[])(a:B.g 2=some p)(b:B.g 3=some V)(bw:ay X q p=some v)(d:ca X q 2 V=some w)(h:T (.tuple [v,w]) q u):tj X T B q u:=by unfold tj;rw[c];show bu (B.g 2) (λp=>aa (g4 X q 56 p) λv=>bu (B.g 3) λp=>aa (g4 X q 26 p) λw=>T (.tuple [v,w]) q u);rw[a,b];refine iF ?_;rw[A1,bw];refine hq ?_;refine iF ?_;rw[sZ,d];exact hq h
def aa4{T:aY}{B:bS}{p V v w a b:z}(e:bZ X)(f:B.aP=[⟨.fn (.func 30) [a,b],[]⟩])(c:B.g 2=some p)(d:B.g 3=some V)(bw:ay X q p=some v)(g:ca X q 2 V=some w)(h:T (.tuple [v,w]) q u):tj X T B q u:=by unfold tj;rw[f];show lI X (.func 30) ([]++[a,b]) none q u λ_ q u=>ig X [.cell 2 56,.cell 3 26] T B [] q u;refine aaO e ?_;show bu (B.g 2) (λp=>aa (g4 X q 56 p) λv=>bu (B.g 3) λp=>aa (g4 X q 26 p) λw=>T (.tuple [v,w]) q u);rw[c,d];refine iF ?_;rw[A1,bw];refine hq ?_;refine iF ?_;rw[sZ,g];exact hq h
def υ{T ab:aY}{B:bS}{a b:Nat}{k at_:Int}{bV b0:E z}(i:bZ X)(n:B.aP=[⟨.fn (.func 30) [.ptr a 0,.ptr b 0],[]⟩])(f:B.g 2=some (.ptr a 0))(g:B.g 3=some (.ptr b 0))
 (t:(y X).aB<=a)(x:(y X).aB<=b)(j:a≠b)(l:a<u)(m:b<u)(d:H X q a=some (.cells bV 1 .own))(e:H X q b=some (.cells b0 2 .own))
 (h:∀D c,u<=c->(∀o,o<u->o≠a->o≠b->H X D o=H X q o)->T (.tuple [.bH,.agg [.Z k,.Z at_]]) D c):xk X T ab B (iU k at_) q u:=by
 unfold xk;rw[n];show lI X (.func 30) ([]++[.ptr a 0,.ptr b 0]) (some (iU k at_)) q u λb q u=>ba b (ig X [.cell 2 56,.cell 3 26] T B [] q u) _;refine aaP i t x j l m d e (λD c s bw A r=> ?_);show bu (B.g 2) (λp=>aa (g4 X D 56 p) λv=>bu (B.g 3) λp=>aa (g4 X D 26 p) λw=>T (.tuple [v,w]) D c);rw[f,g];refine iF ?_;rw[A1,bw];refine hq ?_;refine iF ?_;rw[sZ,A];exact hq (h D c s r)
def sb.M{Y:List GT}{d e:Nat->Option z}{b c:Nat->Prop}{g:GT}{row:List z}(h:sb X q Y d P cX g row)(k:∀o,P o->H X D o=H X q o)(w:∀o,cX o->H X D o=H X q o)(t:∀o,P o->e o=d o)(a:∀o,P o->b o)(v:∀o,cX o->c o):sb X D Y e b c g row:=by obtain⟨i,bK,bO,aE,x,bc,bp,bG,f,aR,j,l,m,n,p,r,s⟩:=h;exact⟨i,bK,bO,aE,x,bc,bp,bG,f,aR,j,(l.M k).lift a,(m.M k).lift a,(n.M k).lift a,(p.M k).lift a,r.M k a,s.M k w t a v⟩
def mG(X:bi)(q:E S)(Y:List GT)(a:Nat->Option z)(P cX:Nat->Prop):List GT->List (List z)->Prop
 |[],aR=>aR=[]|g::l,aR=>∃row b,aR=row::b/\sb X q Y a P cX g row/\mG X q Y a P cX l b
def mG.M{Y:List GT}{c d:Nat->Option z}{a b:Nat->Prop}(k:∀o,P o->H X D o=H X q o)(p:∀o,cX o->H X D o=H X q o)(j:∀o,P o->d o=c o)(m:∀o,P o->a o)(n:∀o,cX o->b o):∀{l:List GT}{aR:List (List z)},mG X q Y c P cX l aR->mG X D Y d a b l aR:=by intro l;induction l with|nil=>intro aR h;exact h|cons g l U=>rintro aR ⟨row,r,e,f,i⟩;exact⟨row,r,e,f.M k p j m n,U i⟩
def mG.snoc{Y:List GT}{b:Nat->Option z}{g:GT}{row:List z}(h:sb X q Y b P cX g row):∀{l:List GT}{aR:List (List z)},mG X q Y b P cX l aR->mG X q Y b P cX (l++[g]) (aR++[row]):=by
 intro l;induction l with
 |nil=>rintro aR rfl;exact⟨row,[],rfl,h,rfl⟩
 |cons a l U=>rintro aR ⟨e,f,rfl,c,d⟩;exact⟨e,f++[row],rfl,c,U d⟩
def Jj(X:bi)(q:E S)(Y:List GT)(a:Nat->Option z)(P cX:Nat->Prop)(p:z):Prop:=∃b aE bC aR,p=.ptr b 0/\P b/\ay X q (.ptr b 0)=some aE/\cl X q P bC aE 6 aR/\mG X q Y a P cX Y aR
def jD(Y:List GT):Int×Int:=if (l7 Y).1≠0 then l7 Y else match vf Y with|some a=>(26,a)|none=>(0,0)
def oS:List GT->Nat
 |[]=>0|g::l=>jV g.eqs+oS l
def OR(g:GT):∀l:List GT,oS (l++[g])=oS l+jV g.eqs:=by intro l;induction l with|nil=>simp[oS]|cons a l U=>rw[Yw,oS,oS,U];omega
def Nx(X:bi)(q:E S)(Y:List GT)(P cX:Nat->Prop)(p v:z):Prop:=∃V r a,v=.ptr V 0/\cX V/\cX r/\ay X q (.ptr V 0)=some (.map r)/\hM X q P r a/\Jj X q Y a P cX p/\iN X q r (oS Y)
def tA(X:bi)(q:E S)(Y:List GT)(P cX:Nat->Prop)(p R:z):Prop:=if (jD Y).1=0 then ∃v,R=.tuple [v,.agg [.Z 0,.Z 0]]/\Nx X q Y P cX p v else R=.tuple [.bH,.agg [.Z (jD Y).1,.Z (jD Y).2]]
def r7.M{dp a V r:Nat}{p:z}{Y:List GT}(h:r7 X q dp P a V r p Y)(k:∀o,o<dp->o≠r->o≠a->H X D o=H X q o)(b:∃c,H X D a=some (.cells c 3 .own)/\c.get 0=some (.ptr V 0)/\c.get 1=some p):r7 X D dp P a V r p Y:=
 ⟨h.aB,h.lc,h.s1,h.po,h.s8,h.w9,h.qi,h.qr,h.y1,h.aV,b,zW (k V h.s1 h.qr h.y1) h.rH,h.prog.M (λo d=>by have:=h.aV o d;exact k o this.2.1 this.2.2.1 this.2.2.2) (λ_ h=>h)⟩
set_option maxRecDepth 100000 in
def OH(T9:e5 X)(V8:g2 X)(VC:kl X)(VI:mE X)(cx:pS X){Y:List GT}{p:z}(VS:(y X).aB<=u)(U7:iP X q P Y p)(aV:∀o,P o->(y X).aB<=o/\o<u)(Uw:∀g∈Y,hN gm g)(Ug:Y≠[])(Un:jw Y=none):
 aD X 12 [p] q u (λR D Z=>tA X D Y P (b2 u Z) p R/\aU X q u D Z) zX:=by
 refine tX (J6 X) (T9.tobZ.none _ _ rfl) ?_;rw[J7];unfold CC;obtain⟨Vg,Uo⟩:=wY Un;refine bx ⟨?_⟩;refine c7 (λau=>H X au u=zP [.bH] 1/\H X au (u+1)=zP [.Z 0,.Z 0] 2/\aU X q u au (u+1+1)) ⟨by exact z6,by rw[aM Zo];rfl,cf⟩ ?_;rintro au ⟨Ua,Ub,UF⟩;refine(OI (u:=u+1+1) T9 V8 VC VI Zo (U7.M (aI:=P) (λo e=>UF.M o (aV o e).2) (λ_ h=>h)) (λo e=>zL (aV o e).2) Uw Ug Un).Zm ?_;rintro R am aw ⟨rfl,T8⟩;have Vi:=T8.le;have U5:H X am u=zP [.bH] 1:=by rw[T8.M _ Zo];exact Ua
 have U6:H X am (u+1)=zP [.Z 0,.Z 0] 2:=by rw[T8.M _ Zo];exact Ub
 have Uh:=UF.trans T8;clear Ua Ub UF T8;have U1:(l7 Y).1≠0->jD Y=l7 Y:=λh=>by unfold jD;rw[Zv h]
 have U2:(l7 Y).1=0->jD Y=match vf Y with|some a=>(26,a)|none=>(0,0):=λh=>by unfold jD;rw[Zi (by simp[h])]
 generalize l7 Y=sr at U1 U2 ⊢;obtain⟨cc,UZ⟩:=sr;simp only at U1 U2;by_cases TZ:cc=0
 ·have N:=U2 TZ;subst TZ;clear U1 U2;have d:decide ((0:Int)≠0)=false:=rfl;refine bo @d ⟨?_⟩;generalize T1:Go.aF.aH X _ aw _=t;have UQ:∀o,o<aw->H X t o=H X am o:=λo e=>by rw[<-T1];exact zR
  clear T1;rw[<-UQ u Zo]at U5;rw[<-UQ (u+1) Zo]at U6;have Ux:∀o,o<u->H X t o=H X q o:=λo e=>by rw[UQ o Zo];exact Uh.M o e
  have VN:=U7.M (D:=t) (aI:=P) (λo e=>Ux o (aV o e).2) (λ_ h=>h);obtain⟨s,UU,V0,aR,rfl,T4,a0,T6,Us⟩:=VN;have Uu:=Us.wide;have Uq:=T6.len;have VR:=T6.many;rw[Uu.1]at Uq VR;have Vl:=aV s T4;refine Fr ?_;generalize TY:n6 _ _=U4;have V3:U4.aP=[⟨.fn (.func 30) [.ptr u 0,.ptr (u+1) 0],[]⟩]:=by rw[<-TY];rfl
  have t0:U4.g 0=some (.ptr s 0):=by rw[<-TY];rfl
  have O:U4.g 2=some (.ptr u 0):=by rw[<-TY];rfl
  have t3:U4.g 3=some (.ptr (u+1) 0):=by rw[<-TY];rfl
  clear TY;generalize Vk:aw+1=f at*;refine dA @t0 @O @U5 @a0 @Uq ⟨?_⟩;generalize T5:Go.aF.aH X _ (f+1+1) _=i;have Ud:H X i f=some (.map [] 0):=by rw[<-T5];simp(disch:=omega) only[aM,ah]
  have Uf:H X i (f+1)=zP [.map f] 1:=by rw[<-T5];exact z6
  have Uc:H X i (f+1+1)=zP [.ptr (f+1) 0,.ptr s 0,.bH] 3:=by rw[<-T5,aM Zo];rfl
  have V7:H X i u=some (.cells (cj (E.ofList [.bH] 0 .nil) 0 [.ptr (f+1) 0]) 1 .own):=by rw[<-T5];exact z6
  have UR:∀o,o<f->o≠u->H X i o=H X t o:=λo A T0=>by rw[<-T5];exact zR
  clear T5;have V6:H X i (u+1)=zP [.Z 0,.Z 0] 2:=by rw[UR _ Zo Zo];exact U6
  have UA:∀o,P o->H X i o=H X t o:=λo e=>by have:=aV o e;exact UR o Zo Zo
  have Ut:=Us.M (D:=i) (aI:=P) UA (λ_ h=>h);have V9:r7 X i (f+1+1+1) P (f+1+1) (f+1) f (.ptr s 0) Y:=⟨Zo,Zo,Zo,Zo,Zo,Zo,Zo,Zo,Zo,λo e=>by have:=aV o e;exact⟨this.1,Zo,Zo,Zo⟩,⟨_,Uc,rfl,rfl⟩,by rw[a8 Uf];rfl,⟨s,UU,V0,aR,rfl,T4,zW (UA s T4) a0,T6.M UA,Ut⟩⟩;have VD:hM X i P f (λ_=>none):=⟨[],0,Ud,λ_=>rfl,Zs⟩;have VG:iN X i f 0:=⟨[],0,Ud,rfl⟩;refine cM (λm B D UT=>∃(j:Nat) (T7:Nat->Option z) (T3:Nat->Prop),B.g 5=some (.ptr (f+1+1) 0)/\B.g 25=some UU/\B.g 26=some (.Z Y.length)/\B.g 27=some (.Z j)/\B.aP=[⟨.fn (.func 30) [.ptr u 0,.ptr (u+1) 0],[]⟩]/\B.g 2=some (.ptr u 0)/\B.g 3=some (.ptr (u+1) 0)/\j+m=Y.length/\(Y.take j).findSome? (q7 Y)=none/\(∃c,H X D (f+1+1)=some (.cells c 3 .own)/\c.get 0=some (.ptr (f+1) 0)/\c.get 1=some (.ptr s 0))/\br X [f,f+1+1] i (f+1+1+1) D UT/\hM X D P f T7/\(∀o,T3 o->P o)/\lz X D T3 (Y.drop j) (aR.drop j)/\mG X D Y T7 (λo=>P o/\¬T3 o) (b2 (f+1+1+1) UT) (Y.take j) (aR.take j)/\iN X D f (oS (Y.take j))/\∀o,T3 o->T7 o=none)
   Y.length ⟨0,λ_=>none,P,aC,aC,aC,cT,V3,af O,af t3,Zo,rfl,⟨_,Uc,rfl,rfl⟩,br.refl _ _ _,VD,λ_ h=>h,by simpa using Ut,by rw[Z8,Z8];rfl,by rw[Z8];exact VG,λ_ _=>rfl⟩ ?_
  clear V3 t0 O t3 U5 U6;rintro m B x T2 ⟨j,T7,T3,t5,V2,UV,UW,UX,O,t3,Vf,U8,VL,C,Ui,UH,Uk,UN,UG,Ul⟩;have Vj:=C.le;have US:∀o,P o->H X x o=H X t o:=λo e=>by have:=aV o e;rw[C.M o Zo Zx,UA o e]
  have UD:H X x u=some (.cells (cj (E.ofList [.bH] 0 .nil) 0 [.ptr (f+1) 0]) 1 .own):=by rw[C.M u Zo Zx];exact V7
  have Ue:H X x (u+1)=zP [.Z 0,.Z 0] 2:=by rw[C.M (u+1) Zo Zx];exact V6
  have Ur:∀o,o<u->H X x o=H X q o:=λo e=>by rw[C.M o Zo Zx,UR o Zo Zo,Ux o e]
  cases m with
  |zero=>have d:=zM j Y.length;rw[Zy Zo]at U8 UG;rw[Zy Zo,Zy Zo]at UN;have UO:vf Y=none:=U8;rw[UO]at N;simp only[]at N;have VY:ay X x (.ptr u 0)=some (.ptr (f+1) 0):=(by rw[a8 UD,fR];rfl);refine cu @UW @UV @d @O @VY @UD (Za @t3 @Ue) ⟨?_⟩;generalize L:Go.aF.aH X _ (u+1) _=l;have UY:H X l u=some (.cells (cj (cj (E.ofList [.bH] 0 .nil) 0 [.ptr (f+1) 0]) 0 [.ptr (f+1) 0]) 1 .own):=(by rw[<-L];exact z6);have U3:H X l (u+1)=some (.cells (cj (E.ofList [.Z 0,.Z 0] 0 .nil) 0 [.Z 0,.Z 0]) 2 .own):=(by rw[<-L,aM Zo];rfl);have z3:∀o,o≠u->o≠u+1->H X l o=H X x o:=λo A T0=>(by rw[<-L];exact zR);clear L;have UB:∀o,P o->H X l o=H X x o:=λo e=>(by have:=aV o e;exact z3 o Zo Zo);have Vd:ay X l (.ptr (f+1) 0)=some (.map f):=(by rw[bB,z3 _ Zo Zo,C.M (f+1) Zo Zs, <-bB,a8 Uf];rfl);refine aa4 (v:=.ptr (f+1) 0) (w:=.agg [.Z 0,.Z 0]) T9.tobZ UX (af O) (af t3) (by rw[a8 UY,fR];rfl) (by rw[kz,a8 U3,a8 U3,fR,fR];rfl) ⟨?_,Zo,λo e=>by rw[z3 o Zo Zo];exact Ur o e⟩;unfold tA;rw[Zv (by rw[N])];exact⟨_,rfl,f+1,f,T7,rfl,⟨Zo,Zo⟩,⟨Zo,Zo⟩,Vd,Ui.M (z3 _ Zo Zo) UB,⟨s,UU,V0,aR,rfl,T4,by rw[bB,UB s T4,US s T4, <-bB];exact a0,T6.M (λo e=>by rw[UB o e,US o e]),UN.M (λo e=>UB o e.1) (λo e=>z3 o (zL e.1) (zL e.1)) (λ_ _=>rfl) (λo e=>e.1) (λo e=>⟨zL e.1,e.2⟩)⟩,UG.M (z3 _ Zo Zo)⟩|succ m=>
   have d:=zN j Y.length;have V4:=zQ j;obtain⟨g,U0⟩:=zO Y j;have Um:=Zl U0;have ai:Y.drop j=g::Y.drop (j+1):=(by obtain⟨UP,e⟩:=Ze.1 U0;rw[Zz UP,e]);rw[ai]at Uk;obtain⟨row,V1,aI,U9,UI,UL,VK⟩:=Uk;have UM:aR[j]? =some row:=by
    have:(aR.drop j)[0]? =some row:=by rw[U9];rfl
    simpa using this
   have VV:V1=aR.drop (j+1):=(by obtain⟨UP,e⟩:=Ze.1 UM;rw[Zz UP]at U9;simp only[zy]at U9;exact U9.2.symm);subst VV;have UJ:∀o,aI o->P o:=λo e=>UH o (UI o e);have VO:=T6.c4 j (by rw[Uu.1];omega);have VW:=(T6.M US).row Zd UM;have e1:=UL.dU;have VT:=UL;have Uv:Y.take (j+1)=Y.take j++[g]:=(by rw[ZD,U0];rfl);have VX:aR.take (j+1)=aR.take j++[row]:=(by rw[ZD,UM];rfl);obtain⟨bK,bO,Vc,Vb,bc,bp,bG,Ve,V1,rfl,_⟩:=UL;refine eg @UW @UV @V2 @d @VO @VW ⟨?_⟩;refine dg (eS (k:=6) (b:=T2) (I:=0) (n:=6) (c:=E.ofList [.str [],.Z 0,.ax,.ax,.ax,.ax] 0 .nil) (aM Zo) Zo rfl Zd Zd e1) ?_;generalize L:Go.aF.aH X _ T2 _=l;have V5:H X l T2=zP [.str g.name,.Z g.at_,bK,bO,Vc,Vb] 6:=(by rw[<-L,aM Zo];rfl);have r:∀o,o<T2->H X l o=H X x o:=λo e=>(by rw[<-L];exact zR);clear L;have VA:r7 X l (f+1+1+1) P (f+1+1) (f+1) f (.ptr s 0) Y:=V9.M (λo A T0 UE=>by rw[r o Zo];exact C.M o A (by simp;exact⟨T0,UE⟩)) (by rw[r _ Zo];exact VL);have VE:hM X l P f T7:=Ui.M (r _ Zo) (λo e=>by have:=aV o e;exact r o Zo);have VB:br X [f,f+1+1] i (f+1+1+1) l (T2+1):=⟨Zo,λo A T0=>by rw[r o Zo];exact C.M o A T0⟩;refine bE @t5 (a8 V5) ⟨?_⟩;refine(Ts (u:=T2+1) (aQ:=P) (P:=P) (aI:=aI) T9.tobZ cx Ug (λg U7=>zL (Uo g U7).vars) (λ_ h=>h) UJ Zo VA VE (UG.M (r _ Zo)) (λo e=>Ul o (UI o e)) (VT.M (aI:=aI) (λo e=>by have:=aV o (UJ o e);exact r o Zo) (λ_ h=>h)) (λV VU=>((Uw g Um).eqs V VU).right) (by rw[wi];have:=(Uo g Um).vars;simp only[jA];omega)).mono ?_ ?_
   ·rintro R UC Va ⟨rfl,VM,VZ,VF,Up,Uj,G,VH⟩;have VQ:=G.le;have Uz:∀o,o<T2->o≠f->o≠f+1+1->H X UC o=H X x o:=λo A T0 UE=>(by rw[G.M o Zo (by simp;exact⟨T0,UE⟩),r o A]);have Uy:∀o,P o->H X UC o=H X x o:=λo e=>(by have:=aV o e;exact Uz o Zo Zo Zo);refine bE @UW @V4 ⟨?_⟩;refine⟨m,Zo,j+1,VZ,λo=>T3 o/\¬aI o,af t5,af V2,af UV,aC,UX,af O,af t3,Zo,by rw[uk U0 U8];exact Uj.1,VM,VB.trans (G.down Zo (λb W=> .inl W)),VF,λo e=>UH o e.1,VK.M (λo e=>Uy o (UH o e.1)) (λ_ h=>h), ?_,by rw[Uv,OR];exact VH,λo e=>(Up o e.2).trans (Ul o e.1)⟩;rw[Uv,VX];exact mG.snoc (Uj.M (λ_ _=>rfl) (λ_ _=>rfl) (λ_ _=>rfl) (λo e=>⟨UJ o e,λh=>h.2 e⟩) (λo e=>⟨zL e.1,e.2⟩)) (UN.M (λo e=>Uy o e.1) (λo e=>Uz o e.2 (zL e.1) (zL e.1)) (λo e=>Up o (λh=>e.2 (UI o h))) (λo e=>⟨e.1,λh=>e.2 h.1⟩) (λo e=>⟨e.1,zL e.2⟩))
   ·rintro R UC Va ⟨a,VJ,rfl,G⟩;have VQ:=G.le;have UO:vf Y=some a:=wt U0 U8 VJ;rw[UO]at N;simp only[]at N;refine υ (bV:=cj (E.ofList [.bH] 0 .nil) 0 [.ptr (f+1) 0]) (b0:=E.ofList [.Z 0,.Z 0] 0 .nil) T9.tobZ UX (by have UK:gN 2 [31,32,33]=false:=rfl;simp[ma,oa,O,UK]) (by have UK:gN 3 [31,32,33]=false:=rfl;simp[ma,oa,t3,UK]) VS Zo Zo Zo Zo ?_ ?_ (λD UT Vh VP=>⟨?_,Zo,λo e=> ?_⟩)
    ·rw[G.M u Zo Zx,r u Zo];exact UD
    ·rw[G.M (u+1) Zo Zx,r (u+1) Zo];exact Ue
    ·unfold tA;rw[N,Zi (show ¬(26:Int)=0 by decide)]
    ·rw[VP o Zo Zo Zo,G.M o Zo Zx,r o Zo];exact Ur o e
 ·have N:=U1 TZ;clear U1 U2;have d:decide (cc≠0)=true:=by simp[TZ]
  refine bE @d @U5 ⟨?_⟩;refine d9 (by simp[z.same,iE,i7]) ?_;refine bo @U6 ⟨?_⟩;generalize T1:Go.aF.aH X _ (u+1) _=t;have UY:H X t u=some (.cells (cj (E.ofList [.bH] 0 .nil) 0 [.bH]) 1 .own):=by rw[<-T1];exact z6
  have U3:H X t (u+1)=some (.cells (cj (E.ofList [.Z 0,.Z 0] 0 .nil) 0 [.Z cc,.Z UZ]) 2 .own):=by rw[<-T1,aM Zo];rfl
  have z3:∀o,o<u->H X t o=H X q o:=λo A=>by rw[<-T1];simp(disch:=omega) only[ah];exact Uh.M o A
  clear T1;refine aa3 (v:=.bH) (w:=.agg [.Z cc,.Z UZ]) rfl (cT) (cT) (by rw[a8 UY,fR];rfl) (by rw[kz,a8 U3,a8 U3,fR,fR];rfl) ⟨?_,Zo,z3⟩;unfold tA;rw[N,Zi TZ]
variable{aI:Nat->Prop}
mutual
def rh:aX->List aA
 | .mk k _ nm _ _ _ args=>if k=5 then[]else(if n1 k=true then[nm]else[])++px (decide (k=21)) args
def px:Bool->List aX->List aA
 |_,[]=>[]|f,a::l=>rh a++(if f=true then[]else px f l)
end
def NR(l:List aA)(x w:aA):w∈lA l x↔w∈l\/w=x:=by
 unfold lA;split
 ·rename_i h;constructor
  ·exact .inl
  ·rintro(a|rfl)
   ·exact a
   ·exact h
 ·simp
mutual
def A7:∀(e:aX) (l:List aA) (w:aA),w∈fM l e↔w∈l\/w∈rh e
 | .mk k a nm no ty n args,l,w=>by
   rw[fM,rh];split
   ·simp
   ·rw[GL,Zp];split
    ·rw[NR,ZB,or_assoc]
    ·simp
def GL:∀(args:List aX) (f:Bool) (l:List aA) (w:aA),w∈lh l f args↔w∈l\/w∈px f args
 |[],f,l,w=>by rw[lh,px];simp|a::args,f,l,w=>by
  rw[lh,px,Zp];split
  ·rw[A7];simp
  ·rw[GL,A7,or_assoc]
end
def TG:∀(l:List (Int×cG)) (s:(aA->Option cB)×List aA) (w:aA) (v:cB),(l.foldl eR s).1 w=some v->s.1 w=some v\/∃x∈l,v.kind=x.1/\v.d=x.2/\x.2.name=w:=by
 intro l;induction l with
 |nil=>intro s w v h;exact .inl h|cons x l U=>
  intro s w v h;rw[Z6]at h;rcases U _ w v h with h|⟨o,a,e⟩
  ·unfold eR at h;split at h
   ·exact .inl h
   ·simp only at h;split at h
    ·rename_i e;cases h;exact .inr ⟨x,Zr ..,rfl,rfl,e.symm⟩
    ·exact .inl h
  ·exact .inr ⟨o,Zw _ a,e⟩
def TH:∀(l:List (Int×cG)) (s:(aA->Option cB)×List aA),(∀w,(s.1 w).isSome=true↔w∈s.2)->∀w,((l.foldl eR s).1 w).isSome=true↔w∈(l.foldl eR s).2:=by
 intro l;induction l with
 |nil=>intro s h;exact h|cons x l U=>
  intro s h;rw[Z6];refine U _ λw=> ?_;unfold eR;split
  ·exact h w
  ·simp only[Zp,ZB];split
   ·rename_i e;simp[e]
   ·rename_i e;rw[h];simp[e]
def acA(g:GT)(w:aA):(c6 g w).isSome=((hd g).1 w).isSome:=by have:=congrArg Option.isSome (xN g w);simpa using this
def xP(g:GT)(w:aA):(c6 g w).isSome=true↔w∈eQ g:=by rw[acA];exact TH (c3 g) (λ_=>none,[]) (λw=>Zs) w
def xO{g:GT}{w:aA}{v:cB}(h:c6 g w=some v):∃x∈c3 g,v.kind=x.1/\v.d=x.2/\x.2.name=w:=by
 have a:=xN g w;rw[h]at a;cases b:(hd g).1 w with
 |none=>rw[b]at a;cases a|some v0=>
  rw[b]at a;simp only[ZX,Zh,nn,YX]at a;rcases TG (c3 g) (λ_=>none,[]) w v0 b with h|⟨x,f,c,d,e⟩
  ·cases h
  ·exact⟨x,f,a.1.trans c,a.2.trans d,e⟩
mutual
def Hu:∀(e:aX) (w:aA),w∈rh e->∃x∈rn e,lQ x=true/\x.name=w
 | .mk k a nm no ty n args,w,h=>by
   rw[rh]at h;rw[rn];split at h
   ·cases h
   ·rcases Zp.1 h with h|h
    ·split at h
     ·rename_i d;rw[ZB]at h;exact⟨_,Zr ..,d,h.symm⟩
     ·cases h
    ·obtain⟨x,c,b⟩:=Hv args _ w h;exact⟨x,Zw _ c,b⟩
def Hv:∀(l:List aX) (f:Bool) (w:aA),w∈px f l->∃x∈rp l,lQ x=true/\x.name=w
 |[],f,w,h=>by rw[px]at h;cases h|a::l,f,w,h=>by
  rw[px]at h;rw[rp];rcases Zp.1 h with h|h
  ·obtain⟨x,c,b⟩:=Hu a w h;exact⟨x,Zp.2 (.inl c),b⟩
  ·split at h
   ·cases h
   ·obtain⟨x,c,b⟩:=Hv l f w h;exact⟨x,Zp.2 (.inr c),b⟩
end
def B4{Y:List GT}{k:Nat}{g:GT}(h:(gZ Y k g).1=0){nm:aA}{v:cB}(c:c6 g nm=some v):
 (v.d.on≠[]->v.d.on∈eQ g)/\(v.kind≠1->∃(i:Nat) (V:cA),v.eq=i/\g.eqs[i]? =some V/\∀w∈rh V.right,w∈eQ g)/\(v.kind=1->v.eq= -1):=by
 obtain⟨j,L⟩:=Hn.1 h;obtain⟨x,d,p,r,s⟩:=xO c;refine⟨λn=> ?_,λf=> ?_,λf=> ?_⟩
 ·rw[r]at n ⊢;exact(xP g _).1 (j.on x d n)
 ·have A:=L x d (by rw[<-p];exact f);rw[s]at A;rcases vd c with ⟨_,a⟩|⟨i,V,b,a,f3⟩
  ·exfalso
   have:fs nm (qT g)=0:=by
    unfold fs;rw[YP.2 ?_]
    ·rfl
    ·rw[List.filter_eq_nil_iff];intro o l;obtain⟨V,N,l⟩:=zd.1 l;simp only[Zf];exact λe=>a V N (e▸l)
   omega
  ·refine⟨i,V,b,a,λw O=> ?_⟩;obtain⟨x,d,C,G⟩:=Hu _ _ O;rw[<-G];exact(xP g _).1 ((j.right V (Zl a) x d).1 C)
 ·rcases vd c with ⟨b,_⟩|⟨i,V,b,a,f3⟩
  ·exact b
  ·obtain⟨P,m,t,_⟩:=j.left nm (zd.2 ⟨V,Zl a,f3⟩);rw[c]at m;cases m;exact absurd f t
def uK(g:GT)(nm:aA):List aA:=match c6 g nm with
 |none=>[]|some v=>(if v.d.on=[]then[]else[v.d.on])++(if v.kind=1 then[]else match g.eqs[v.eq.toNat]? with|some V=>rh V.right|none=>[])
def Tg{aZ:eM}{g:GT}(b:hN aZ g):([]:aA)∉eQ g:=by
 intro h;obtain⟨v,e⟩:=Option.isSome_iff_exists.1 ((xP g _).2 h);obtain⟨x,a,f,i,c⟩:=xO e
 have:aZ.N x.2.name:=by
  rcases Zp.1 (show x∈_++(_++_) from a)with a|a
  ·obtain⟨d,ai,rfl⟩:=ZC.1 a;exact(b.cm d ai).name
  ·rcases Zp.1 a with a|a
   ·obtain⟨d,ai,rfl⟩:=ZC.1 a;exact(b.out d ai).name
   ·obtain⟨d,ai,rfl⟩:=ZC.1 a;exact(b.loc d ai).name
 exact aZ.aB _ this c
def GA{aZ:eM}{Y:List GT}{k:Nat}{g:GT}(h:(gZ Y k g).1=0)(l:hN aZ g)(nm:aA){w:aA}(m:w∈eQ g):w∈hp g nm↔w∈uK g nm:=by
 have f:w≠[]:=λe=>Tg l (e▸m);unfold hp uK;cases j:c6 g nm with
 |none=>simp|some v=>
  obtain⟨p,d,r⟩:=B4 h j;simp only[Zq,Zp];refine or_congr ?_ ?_
  ·split
   ·rename_i e;rw[e];simp[f]
   ·simp
  ·by_cases a:v.kind=1
   ·simp[a]
   ·obtain⟨i,V,b,c,n⟩:=d a;rw[Zv ⟨Zo,a⟩,Zi a,b,Int.toNat_natCast,c];simp only;rw[A7];simp
def Hb{aZ:eM}{Y:List GT}{j:Nat}{g:GT}(h:(gZ Y j g).1=0)(d:hN aZ g){a k:Nat}{nm:aA}(e:(eQ g)[a]? =some nm):k∈bR (dZ g) a↔∃w,(eQ g)[k]? =some w/\w∈uK g nm:=by
 rw[Hd e];constructor
 ·rintro⟨w,b,c⟩;exact⟨w,b,(GA h d nm (Zl b)).1 c⟩
 ·rintro⟨w,b,c⟩;exact⟨w,b,(GA h d nm (Zl b)).2 c⟩
def tC(b:List (List Nat)):Prop:=∃out,kZ b out/\∀a,a<b.length->a∈out
def Qx{b:List (List Nat)}{out:List Nat}(h:kZ b out)(f:out.length=b.length):tC b:=by
 refine⟨out,h,λa d=>Yg λe=> ?_⟩;have:=n2 b.length (a::out) (YC.2 ⟨e,h.once⟩) (λx c=>by
  rcases Zq.1 c with rfl|c
  ·exact d
  ·exact h.lK x c)
 simp at this;omega
def Qy{b:List (List Nat)}{out:List Nat}(h:kZ b out){a:Nat}(e:a<b.length)(f:a∉out):¬tC b:=λ⟨I,c,d⟩=>f ((c.same h a).1 (d a e))
def yk(Y:List GT)(c a:Int):Prop:=((jD Y).1≠0/\(c,a)=jD Y)\/((jD Y).1=0/\((c=0/\a=0/\∀g∈Y,tC (dZ g))\/(c=29/\∃g∈Y,¬tC (dZ g)/\∃k nm v,(eQ g)[k]? =some nm/\jP (dZ g) k k/\c6 g nm=some v/\((∃(i:Nat) (V:cA),v.eq=i/\g.eqs[i]? =some V/\a=V.at_)\/(v.eq<0/\a=v.d.cC)))))
structure Ci(g:GT):Prop where
 lK:(c3 g).length<=100000
 some:eQ g≠[]
 a:∀V∈g.eqs,nQ V.right=true/\(fM [] V.right).length<=200000
set_option maxRecDepth 100000 in
def OA(x:e5 X)(VB:g2 X)(VD:kl X)(VG:mE X)(cx:pS X){Y:List GT}{p:z}(VV:(y X).aB<=u)(Ug:iP X q P Y p)(aV:∀o,P o->(y X).aB<=o/\o<u)(Vg:∀g∈Y,hN gm g)(V8:Y≠[])(VP:jw Y=none)(VY:∀g∈Y,Ci g):
 aD X 7 [p] q u (λR D Z=>(∃c a,R=.agg [.Z c,.Z a]/\yk Y c a)/\aU X q u D Z) zX:=by
 refine Fd x.tobZ (MZ ..) ?_;unfold Ea;refine bx ⟨?_⟩;generalize UE:Go.aF.aH X q u _=au;have T6:H X au u=zP [.Z 0,.Z 0] 2:=by rw[<-UE,aM VV];rfl
 have Ua:aU X q u au (u+1):=by rw[<-UE];exact cf
 clear UE;refine(OH (u:=u+1) x VB VD VG cx Zo (Ug.M (D:=au) (aI:=P) (λo f=>Ua.M o (aV o f).2) (λ_ h=>h)) (λo f=>zL (aV o f)) Vg V8 VP).Zm ?_;rintro R am aw ⟨T3,UA⟩;have Vv:=UA.le;have U9:=Ua.trans UA;rw[<-UA.M u Zo]at T6;unfold tA at T3;by_cases C:(jD Y).1=0
 ·rw[Zv C]at T3;obtain⟨v,rfl,_⟩:=T3;have VL:=Ug.M (D:=am) (aI:=P) (λo f=>U9.M o (aV o f).2) (λ_ h=>h);obtain⟨V2,Vk,W5,aR,rfl,VF,a0,N,TZ⟩:=VL;have VX:=TZ.wide;have Ul:=N.len;have VU:=N.many;rw[VX.1]at Ul VU;have W4:=aV V2 VF;have U7:decide ((0:Int)≠0)=false:=rfl;refine bo @U7 ⟨?_⟩;generalize Ue:Go.aF.aH X _ aw _=O;have T4:∀o,o<aw->H X O o=H X am o:=λo f=>by rw[<-Ue];exact zR
  clear Ue;have Vh:∀o,o<u->H X O o=H X q o:=λo f=>by rw[T4 o Zo];exact U9.M o f
  rw[<-T4 u Zo]at T6;rw[bB, <-T4 V2 Zo, <-bB]at a0;replace N:=N.M (D:=O) (λo f=>T4 o (zL (aV o f)));replace TZ:=TZ.M (D:=O) (aI:=P) (λo f=>T4 o (zL (aV o f))) (λ_ h=>h);generalize W1:aw+1=UR at*;refine bE @a0 @Ul ⟨?_⟩;refine cM (λm B D Vj=>∃(j:Nat),B.g 2=some (.ptr u 0)/\B.g 24=some Vk/\B.g 25=some (.Z Y.length)/\B.g 26=some (.Z j)/\j+m=Y.length/\UR<=Vj/\(∀g∈Y.take j,tC (dZ g))/\∀o,o<UR->H X D o=H X O o)
   Y.length ⟨0,aC,aC,aC,cT,Zo,Zg _,Zs,λ_ _=>rfl⟩ ?_
  rintro m B s l ⟨j,U4,V3,UT,UU,Vu,W2,UI,T2⟩;have UX:H X s u=zP [.Z 0,.Z 0] 2:=by rw[T2 u Zo];exact T6
  have Uv:∀o,o<u->H X s o=H X q o:=λo f=>by rw[T2 o Zo];exact Vh o f
  cases m with|zero=>have d:=zM j Y.length;rw[Zy Zo]at UI;refine dA @UU @UT @d @U4 @UX ⟨?_⟩;exact⟨⟨0,0,rfl,.inr ⟨C,.inl ⟨rfl,rfl,UI⟩⟩⟩,Zo,λo f=>by simp(disch:=omega) only[ah];exact Uv o f⟩|succ m=>
  have d:=zN j Y.length;have V7:=zQ j;obtain⟨g,UJ⟩:=zO Y j;have UK:=Zl UJ;obtain⟨VJ,Uq,VT⟩:=VY g UK;have W3:=Bm g;obtain⟨row,Us,Up⟩:=TZ.get j g UJ;have A:∀o,P o->o<UR:=λo f=>zL (aV o f);have VN:=N.c4 j (Ze.1 Us).1;have Vb:=(N.M (D:=s) (λo f=>T2 o (A o f))).row Zd Us;have e1:=Up.dU;have UL:=Up.M (D:=s) (aI:=P) (λo f=>T2 o (A o f)) (λ_ h=>h);have Ve:Y.take (j+1)=Y.take j++[g]:=by rw[ZD,UJ];rfl
  obtain⟨bK,bO,US,U3,bc,bp,bG,Vm,W7,rfl,Vr,Vs,Vt,VM,VK⟩:=id UL;refine eg @UU @UT @V3 @d @VN @Vb ⟨?_⟩;refine dg (eS (k:=6) (b:=l) (I:=0) (n:=6) (c:=E.ofList [.str [],.Z 0,.ax,.ax,.ax,.ax] 0 .nil) (aM Zo) Zo rfl Zd Zd e1) ?_;generalize UF:Go.aF.aH X _ l _=T0;have UY:H X T0 l=zP [.str g.name,.Z g.at_,bK,bO,US,U3] 6:=by rw[<-UF,aM Zo];rfl
  have Ux:∀o,o<l->H X T0 o=H X s o:=λo f=>by rw[<-UF];exact zR
  clear UF;have Uz:ca X T0 6 (.ptr l 0)=some (.agg [.str g.name,.Z g.at_,bK,bO,US,U3]):=by rw[mo];simp only[a8 UY];rfl
  refine bo @Uz ⟨?_⟩;refine(Hf (u:=l+1) x.tobZ (P:=P) Zo (λo f=>zL (A o f)) (UL.M (D:=T0) (λo f=>Ux o (zL (A o f))) (λ_ h=>h)) VJ Uq VT).Zm ?_;rintro R Vl V1 ⟨Un,Ub⟩;have Vw:=Ub.le;rw[He]at Un;refine bx ⟨?_⟩;refine(abg (u:=V1) x.tobZ (P:=b2 (l+1) V1) Zo (λo f=>f.2) Un (by rw[pt];omega) (Bn g)).Zm ?_;rintro R T5 U2 ⟨Va,Uc⟩;have Vx:=Uc.le;have UB:aU X T0 (l+1) T5 U2:=Ub.trans Uc;have UO:∀o,o<l->H X T5 o=H X s o:=λo f=>by rw[UB.M o Zo,Ux o f]
  rcases Va with ⟨rfl,out,UN,VS⟩|⟨W6,a,b,I,out,rfl,UN,T9,VW,Ur,Ud,VO,VQ⟩
  ·refine bE @UU @V7 ⟨?_⟩;refine⟨m,Zo,j+1,af U4,af V3,af UT,aC,Zo,Zo,λV L=> ?_,λo f=>by rw[UO o Zo];exact T2 o f⟩;rw[Ve]at L;rcases Zp.1 L with L|L
   ·exact UI V L
   ·rw[ZB.1 L];exact Qx UN VS
  ·have Uo:=Qy UN T9 VW;rw[pt]at T9;obtain⟨nm,TY⟩:∃w,(eQ g)[a]? =some w:=⟨_,Zb T9⟩;have Vi:ca X T5 6 (.ptr l 0)=some (.agg [.str g.name,.Z g.at_,bK,bO,US,U3]):=(by rw[lf,UB.M l Zo, <-lf];exact Uz);refine bo @Vi ⟨?_⟩;refine(uY (u:=U2) x.tobZ (P:=P) Zo (λo f=>zL (A o f)) (UL.M (D:=T5) (λo f=>UO o (zL (A o f))) (λ_ h=>h)) Zo).Zm ?_;rintro R T1 r ⟨bI,V0,aE,Vn,rfl,UM,Um,V5,VE,V6,VZ,T8⟩;have Vy:=T8.le;have Uk:ay X T1 (.ptr b I)=some (.Z a):=(by rw[T8.dn _ _ (zL Ud.2)];exact VQ);refine bE @VO @Uk ⟨?_⟩;generalize UG:Go.aF.aH X T1 (r+12) _=U5;have T7:H X U5 (r+12)=zP [.Z 0,.str [],.Z 0,.zT,.zT,.Z 0,.str [],.Z 0,.zT,.Z 0,.Z 0] 11:=(by rw[<-UG,aM Zo];rfl);have UQ:∀o,o<r->H X U5 o=H X T1 o:=λo f=>(by rw[<-UG,ah Zo Zo]);clear UG;refine(w7 (u:=r+15) x.tobZ (ci:=eQ g) (P:=b2 U2 r) Zo (zW (UQ bI UM.2) V6) (VZ.M (D:=U5) (λo f=>UQ o f.2)) (λo f=>zL f.2) Uq).Zm ?_;rintro R U6 bv ⟨⟨Vo,Ut⟩,UC⟩;have Vz:=UC.le;have Vd:(dh (eQ g)).length=(eQ g).length:=(by simp[dh]);have Ui:=Ut.c4 a (by rw[Vd];exact T9);have Uf:=Ut.cell a [.str nm] 0 (.str nm) (by unfold dh;rw[Zt,TY];rfl) rfl;rw[ZF]at Ui;rw[ZF,ZN]at Uf;have U1:∀o,o<r->H X U6 o=H X T1 o:=λo f=>(by rw[UC.M o Zo,UQ o f]);have VR:ay X U6 (.ptr b I)=some (.Z a):=zW (U1 b (zL Ud.2)) Uk;rw[<-UC.M (r+12) Zo]at T7;refine cg @Ui @Uf @VR ⟨?_⟩;refine d9 (by simp[z.same,i7]) ?_;have VH:jQ X U6 (b2 U2 r) (.ptr bI 0) (c6 g):=⟨bI,V0,rfl,UM,Um,zW (U1 bI UM.2) V5,VE.M (U1 V0 Um.2)⟩;obtain⟨v,U0⟩:=Option.isSome_iff_exists.1 (G4 (Zl TY));refine(sF (u:=bv) x.tobZ Zo VH (λo f=>zL f.2) nm).Zm ?_;rintro R V4 w9 ⟨rfl,UD⟩;have W0:=UD.le;rw[U0];simp only[YF,Z4];have Vf:ik v=[.Z v.kind,.str v.d.name,.Z v.d.at_,.bool v.d.ty.b,.bool v.d.ty.s,.Z v.d.ty.w,.str v.d.on,.Z v.d.cC,.bool v.d.no,.Z v.eq,.Z v.left]:=rfl;rw[Vf];rw[<-UD.M (r+12) Zo]at T7;refine hq ?_;refine hq ?_;refine dg (eS (k:=11) (b:=r+12) (I:=0) (n:=11) T7 Zo rfl Zd Zd rfl) ?_;generalize UH:Go.aF.aH X V4 (r+12) _=t;have gr:H X t (r+12)=zP [.Z v.kind,.str v.d.name,.Z v.d.at_,.bool v.d.ty.b,.bool v.d.ty.s,.Z v.d.ty.w,.str v.d.on,.Z v.d.cC,.bool v.d.no,.Z v.eq,.Z v.left] 11:=(by rw[<-UH,aM Zo];rfl);have Uy:∀o,o<r->H X t o=H X T1 o:=λo f=>(by rw[<-UH,ah Zo Zo,UD.M o Zo,U1 o f]);clear UH T7;have UP:∀o,o<l->H X t o=H X s o:=λo f=>(by rw[Uy o Zo,T8.M o Zo];exact UO o f);have UZ:H X t u=zP [.Z 0,.Z 0] 2:=(by rw[UP u Zo];exact UX);have Uw:∀o,o<u->H X t o=H X q o:=λo f=>(by rw[UP o Zo];exact Uv o f);by_cases bV:0<=v.eq
   ·have U8:decide (0<=v.eq)=true:=(by simp[bV]);obtain⟨G,V,UV,UW⟩:∃(G:Nat) (V:cA),v.eq=G/\g.eqs[G]? =some V:=by
     rcases vd U0 with ⟨e,_⟩|⟨i,V,V9,VA,_⟩
     ·omega
     ·exact⟨i,V,V9,VA⟩
    obtain⟨W9,Uu,VC⟩:=VK.get G V UW;obtain⟨WB,WA,Vp,Vq,W8,rfl,_⟩:=VC;have Uh:=VM.M (D:=t) (λo f=>UP o (zL (A o f)));have Uj:=Uh.c4 G (Ze.1 Uu).1;rw[<-UV]at Uj;have Vc:=Uh.cell G _ 2 _ Uu rfl;have VI:ay X t (.ptr l 5)=some U3:=(by rw[bB,Uy l Zo,T8.M l Zo,UB.M l Zo, <-bB,a8 UY];rfl);refine cu (a8 gr) @U8 @VI @Uj @Vc @U4 @UZ ⟨?_⟩;exact⟨⟨29,V.at_,rfl,.inr ⟨C,.inr ⟨rfl,g,UK,Uo,a,nm,v,TY,Ur,U0,.inl ⟨G,V,UV,UW,rfl⟩⟩⟩⟩,Zo,λo f=>by simp(disch:=omega) only[ah];exact Uw o f⟩
   ·have U8:decide (0<=v.eq)=false:=(by simp;omega);refine df (a8 gr) @U8 @U4 @UZ ⟨?_⟩;exact⟨⟨29,v.d.cC,rfl,.inr ⟨C,.inr ⟨rfl,g,UK,Uo,a,nm,v,TY,Ur,U0,.inr ⟨Zo,rfl⟩⟩⟩⟩,Zo,λo f=>by simp(disch:=omega) only[ah];exact Uw o f⟩
 ·rw[Zi C]at T3;obtain rfl:=T3;have U7:decide ((jD Y).1≠0)=true:=by simp[C]
  refine bE @U7 @T6 ⟨?_⟩;exact⟨⟨_,_,rfl,.inl ⟨C,rfl⟩⟩,Zo,λo f=>by simp(disch:=omega) only[ah];exact U9.M o f⟩
end
end
end Go.Proofs.YtehmapikajmjaaaGreatDoor
