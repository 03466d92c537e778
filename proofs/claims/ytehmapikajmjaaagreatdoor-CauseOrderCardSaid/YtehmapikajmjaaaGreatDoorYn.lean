/- Part of the last text; no conditions -/
import Derived.Test.YtehmapikajmjaaaGreatDoorYm
set_option maxHeartbeats 8000000
set_option linter.all false
namespace Go.Proofs.YtehmapikajmjaaaGreatDoor
open Go.aC Go.aj
noncomputable section
mutual
def rq:aX->List aX
 | .mk q a nm no t n args=> .mk q a nm no t n args::rr args
def rr:List aX->List aX
 |[]=>[]|u::l=>rq u++rr l
end
mutual
def ID{b:Type}(step:b->aX->b×Bool)(e:∀s u,(step s u).2=true):∀(u:aX) (s:b),pL step s u=(rq u).foldl (λs u=>(step s u).1) s
 | .mk q a nm no t n args,s=>by rw[pL,Zu (e _ _),rq,Z8];exact IE step e args _
def IE{b:Type}(step:b->aX->b×Bool)(e:∀s u,(step s u).2=true):∀(l:List aX) (s:b),ns step s l=(rr l).foldl (λs u=>(step s u).1) s
 |[],s=>by rw[ns,rr];rfl|u::l,s=>by rw[ns,rr,Y7,ID step e u s];exact IE step e l _
end
def ky(V:cS):List (ax×Int):=V.left.zipIdx.map λx=>(x.1,(V.bN[x.2]?).getD 0)
def h8(t:ax->Option ct)(s:(ax->Option Int)×(Int×Int))(x:ax×Int):(ax->Option Int)×(Int×Int):=(λw=>if w=x.1 then some ((s.1 x.1).getD 0+1)else s.1 w,uI t s.1 s.2 x.1 x.2)
def hj(t:ax->Option ct)(aa:List GE)(q:Nat)(s:(ax->Option Int)×(Int×Int))(V:cS):(ax->Option Int)×(Int×Int):=
 (((ky V).foldl (h8 t) s).1,xk t aa q ((ky V).foldl (h8 t) s).2 V.right)
def ke(Q:ax->Option Int)(f:Int×Int)(x:Int×cR):Int×Int:=if x.1≠1/\(Q x.2.name).getD 0=0 then hw f 37 x.2.at_ else f
def mo(aa:List GE)(q:Nat)(g:GE):Int×Int:=if (js aa g.name).getD 0<q then hw (0,0) 24 g.at_ else(0,0)
def hh(aa:List GE)(q:Nat)(g:GE):Int×Int:=
 (c7 g).foldl (ke (g.eqs.foldl (hj (dk g) aa q) (λ_=>none,l7 (dk g) g (mo aa q g))).1) (g.eqs.foldl (hj (dk g) aa q) (λ_=>none,l7 (dk g) g (mo aa q g))).2
def qg(aa:List GE):Nat->List GE->Int×Int
 |_,[]=>(0,0)|q,g::l=>if (hh aa q g).1≠0 then hh aa q g else qg aa (q+1) l
def l3(aa:List GE):Int×Int:=qg aa 0 aa
def qw(f:Int×Int){c:Int}(a:Int)(b:c≠0):(hw f c a).1≠0:=by
 unfold hw;split
 ·exact b
 ·rename_i e;exact e
def FP{α:Type}(bad:α->Prop)[DecidablePred bad](c a:α->Int)(b:∀x,c x≠0):∀(l:List α) (f:Int×Int),(l.foldl (λf x=>if bad x then hw f (c x) (a x)else f) f).1=0↔f.1=0/\∀x∈l,¬bad x:=by
 intro l;induction l with
 |nil=>intro f;simp|cons x l U=>
  intro f;rw[Z8,U];by_cases T:bad x
  ·have:=qw f (a x) (b x);simp[T,this]
  ·simp[T]
def wU(g:GE):List ax:=(c7 g).map λx=>x.2.name
def Pq{g:GE}{x:Int×cR}(e:x∈c7 g):x.1=1/\x.2∈g.cv\/x.1=2/\x.2∈g.out\/x.1=3/\x.2∈g.loc:=by simp only[c7,Zv,ZB]at e;rcases e with ⟨d,e,rfl⟩|⟨d,e,rfl⟩|⟨d,e,rfl⟩<;>simp[e]
def Pm:∀(l:List (Int×cR)) (s:ax->Option Int) (f:Int×Int),(∀x∈l,0<x.1)->((l.foldl g0 (s,f)).2.1=0↔f.1=0/\(l.map λx=>x.2.name).Nodup/\∀x∈l,¬0<(s x.2.name).getD 0):=by
 intro l;induction l with
 |nil=>intro s f _;simp|cons x l U=>
  intro s f i;rw[Z8];have m:=i x (Zp ..);rw[show g0 (s,f) x=((g0 (s,f) x).1,(g0 (s,f) x).2) from rfl,U _ _ (λh a=>i h (Zw _ a))];simp only[g0,ZH,YG,Zq,ZB];constructor
  ·rintro⟨b,d,c⟩;by_cases T:0<(s x.2.name).getD 0
   ·rw[Zu T]at b;exact absurd b (qw f _ Zd)
   ·rw[Zi T]at b;refine⟨b,⟨?_,d⟩, ?_⟩
    ·rintro⟨h,a,n⟩;have:=c h a;rw[Zu n]at this;exact this (by simpa using m)
    ·rintro h (rfl|a)
     ·exact T
     ·have:=c h a;split at this
      ·exact absurd m (by simpa using this)
      ·exact this
  ·rintro⟨b,⟨d,c⟩,g⟩;have T:¬0<(s x.2.name).getD 0:=g x (.inl rfl);refine⟨by rw[Zi T];exact b,c,λh a=> ?_⟩;rw[Zi (λu=>d ⟨h,a,u⟩)];exact g h (.inr a)
def O2{g:GE}{t:ax->Option ct}{f:Int×Int}:(l7 t g f).1=0↔f.1=0/\(wU g).Nodup/\∀x∈c7 g,¬(t x.2.on=none/\x.2.on≠[]):=by unfold l7;have a:=FP (λx:Int×cR=>t x.2.on=none/\x.2.on≠[]) (λ_=>23) (λx=>x.2.cY) (λ_=>Zd) (c7 g) ((c7 g).foldl g0 (λ_=>none,f)).2;have b:(c7 g).foldl (kt t) ((c7 g).foldl g0 (λ_=>none,f)).2=(c7 g).foldl (λf x=>if t x.2.on=none/\x.2.on≠[]then hw f 23 x.2.cY else f) ((c7 g).foldl g0 (λ_=>none,f)).2:=rfl;rw[b,a,Pm _ _ _ (λx c=>by rcases Pq c with e|e|e<;>omega)];simp[wU,and_assoc]
def fk(w:ax)(l:List ax):Int:=((l.filter λx=>decide (x=w)).length:Int)
def tY(w x:ax)(l:List ax):fk w (x::l)=(if x=w then 1 else 0)+fk w l:=by
 unfold fk;rw[YR];by_cases e:x=w
 ·simp[e];omega
 ·simp[e]
def yJ(w:ax):fk w []=0:=rfl
def qi(w:ax)(l:List ax):0<=fk w l:=by unfold fk;omega
def EY(w:ax)(l m:List ax):fk w (l++m)=fk w l+fk w m:=by unfold fk;rw[List.filter_append,ZG];omega
def EZ{w:ax}{l:List ax}:0<fk w l↔w∈l:=by
 induction l with
 |nil=>simp[yJ]|cons x l U=>
  have:=qi w l;rw[tY];by_cases e:x=w
  ·simp[e];omega
  ·have a:¬w=x:=λu=>e u.symm;simp[e,a,U]
def AS(t:ax->Option ct):∀(l:List (ax×Int)) (s:(ax->Option Int)×(Int×Int)) (w:ax),((l.foldl (h8 t) s).1 w).getD 0=(s.1 w).getD 0+fk w (l.map Prod.fst):=by
 intro l;induction l with
 |nil=>intro s w;simp[yJ]|cons x l U=>
  intro s w;rw[Z8,U,ZH,tY];simp only[h8];by_cases e:w=x.1
  ·subst e;simp;omega
  ·have a:¬x.1=w:=λu=>e u.symm;simp[e,a]
def SI(t:ax->Option ct):∀(l:List (ax×Int)) (s:(ax->Option Int)×(Int×Int)),(∀w,0<=(s.1 w).getD 0)->((l.foldl (h8 t) s).2.1=0↔s.2.1=0/\∀w∈l.map Prod.fst,∃v,t w=some v/\v.kind≠1/\(s.1 w).getD 0+fk w (l.map Prod.fst)<=1):=by
 intro l;induction l with
 |nil=>intro s _;simp|cons x l U=>
  intro s m;have O:∀w,0<=((h8 t s x).1 w).getD 0:=by
   intro w;have:=m w;have:=m x.1;simp only[h8];split
   ·simp;omega
   ·assumption
  rw[Z8,U _ O];have X:=m x.1;constructor
  ·rintro⟨a,d⟩;have r:s.2.1=0/\∃v,t x.1=some v/\v.kind≠1/\(s.1 x.1).getD 0+1<=1:=by
    simp only[h8,uI]at a;cases G:t x.1 with
    |none=>rw[G]at a;exact absurd a (qw _ _ Zd)|some v=>
     rw[G]at a;simp only[]at a;split at a
     ·exact absurd a (qw _ _ Zd)
     ·rename_i C;exact⟨a,v,rfl,λu=>C (.inl u),by have:¬1<(s.1 x.1).getD 0+1:=λu=>C (.inr u);omega⟩
   refine⟨r.1,λw b=> ?_⟩;rw[ZH,Zq]at b;rw[ZH,tY];by_cases c:w=x.1
   ·subst c;obtain⟨v,f,g,i⟩:=r.2;refine⟨v,f,g, ?_⟩;by_cases A:x.1∈l.map Prod.fst
    ·obtain⟨L,_,_,N⟩:=d _ A;simp only[h8,ZK,Yl]at N ⊢;omega
    ·have:¬0<fk x.1 (l.map Prod.fst):=λu=>A (EZ.1 u);have:=qi x.1 (l.map Prod.fst);simp only[ZK];omega
   ·rcases b with b|b
    ·exact absurd b c
    ·obtain⟨v,f,g,i⟩:=d _ b;have n:¬x.1=w:=λu=>c u.symm;simp only[h8,c,ZJ]at i;exact⟨v,f,g,by simp only[n,ZJ];omega⟩
  ·rintro⟨a,d⟩;obtain⟨v,f,g,i⟩:=d x.1 Zs;rw[ZH,tY,Zu rfl]at i;have P:=qi x.1 (l.map Prod.fst);refine⟨?_,λw b=> ?_⟩
   ·simp only[h8,uI,f];rw[Zi (by rintro(u|u);exact g u;omega)];exact a
   ·obtain⟨L,a7,bl,p⟩:=d w (by rw[ZH];exact Zw _ b);refine⟨L,a7,bl, ?_⟩;rw[ZH,tY]at p;simp only[h8];by_cases c:w=x.1
    ·subst c;simp only[ZK,Yl];simp only[ZK]at p;omega
    ·have n:¬x.1=w:=λu=>c u.symm;simp only[c,ZJ];simp only[n,ZJ]at p;omega
def AH(V:cS):(ky V).map Prod.fst=V.left:=by simp only[ky,Z2];have:(Prod.fst∘λx:ax×Nat=>(x.1,(V.bN[x.2]?).getD 0))=Prod.fst:=rfl;rw[this];exact List.zipIdx_map_fst ..
def tH(t:ax->Option ct)(aa:List GE)(q:Nat)(u:aX):Prop:=∀x∈rq u,(lM x=true->(t x.name).isSome=true)/\(x.kind=25->∃E,js aa x.name=some E/\E<q)
def aa3{t:ax->Option ct}{aa:List GE}{q:Nat}{f:Int×Int}{u:aX}:(xk t aa q f u).1=0↔f.1=0/\tH t aa q u:=by
 unfold xk tH;rw[ID _ (λ_ _=>rfl)];generalize rq u=l;induction l generalizing f with
 |nil=>simp|cons x l U=>
  rw[Z8,U];have g:(lm t aa q f x).1.1=0↔f.1=0/\(lM x=true->(t x.name).isSome=true)/\(x.kind=25->∃E,js aa x.name=some E/\E<q):=by
   simp only[lm,ti];have c:(nh t f x).1=0↔f.1=0/\(lM x=true->(t x.name).isSome=true):=by
    unfold nh;by_cases e:lM x=true
    ·rw[Zu e];by_cases b:(t x.name).isSome=true
     ·rw[Zu b];simp[b]
     ·rw[Zi b];simp[e,b,qw]
    ·rw[Zi e];simp[e]
   by_cases a:x.kind=25
   ·rw[Zu a];cases i:js aa x.name with
    |none=>simp[qw,a]|some E=>
     simp only[];by_cases d:q<=E
     ·rw[Zu d];have:¬E<q:=Zo;simp[qw,a,this]
     ·rw[Zi d,c];have:E<q:=Zo;simp[a,this]
   ·rw[Zi a,c];simp[a]
  rw[g];simp only[Zq,forall_eq_or_imp,and_assoc]
def aaA(t:ax->Option ct)(aa:List GE)(q:Nat):∀(l:List cS) (s:(ax->Option Int)×(Int×Int)) (w:ax),((l.foldl (hj t aa q) s).1 w).getD 0=(s.1 w).getD 0+fk w (l.flatMap cS.left):=by intro l;induction l with|nil=>intro s w;simp[yJ]|cons V l U=>intro s w;rw[Z8,U,zn,EY];simp only[hj];rw[AS,AH];omega
def aaB(t:ax->Option ct)(aa:List GE)(q:Nat):∀(l:List cS) (s:(ax->Option Int)×(Int×Int)),(∀w,0<=(s.1 w).getD 0)->((l.foldl (hj t aa q) s).2.1=0↔s.2.1=0/\(∀w∈l.flatMap cS.left,∃v,t w=some v/\v.kind≠1/\(s.1 w).getD 0+fk w (l.flatMap cS.left)<=1)/\∀V∈l,tH t aa q V.right):=by
 intro l;induction l with
 |nil=>intro s _;simp|cons V l U=>
  intro s m;have x:∀w,0<=((hj t aa q s V).1 w).getD 0:=by intro w;simp only[hj];rw[AS];have:=m w;have:=qi w ((ky V).map Prod.fst);omega
  rw[Z8,U _ x];have n:(hj t aa q s V).2.1=0↔(s.2.1=0/\∀w∈V.left,∃v,t w=some v/\v.kind≠1/\(s.1 w).getD 0+fk w V.left<=1)/\tH t aa q V.right:=by simp only[hj];rw[aa3,SI t _ _ m,AH]
  have p:∀w,((hj t aa q s V).1 w).getD 0=(s.1 w).getD 0+fk w V.left:=by intro w;simp only[hj];rw[AS,AH]
  rw[n];simp only[p,zn,EY,Zv,Zq,forall_eq_or_imp];constructor
  ·rintro⟨⟨⟨c,b⟩,d⟩,f,r⟩;refine⟨c,λw a=> ?_,d,r⟩;by_cases g:w∈l.flatMap cS.left
   ·obtain⟨v,a7,bl,i⟩:=f w g;exact⟨v,a7,bl,Zo⟩
   ·have A:¬0<fk w (l.flatMap cS.left):=λu=>g (EZ.1 u);have:=qi w (l.flatMap cS.left);obtain⟨v,a7,bl,i⟩:=b w (a.resolve_right g);exact⟨v,a7,bl,Zo⟩
  ·rintro⟨c,b,d,f⟩;refine⟨⟨⟨c,λw a=> ?_⟩,d⟩,λw a=> ?_,f⟩
   ·obtain⟨v,a7,bl,i⟩:=b w (.inl a);have:=qi w (l.flatMap cS.left);exact⟨v,a7,bl,Zo⟩
   ·obtain⟨v,a7,bl,i⟩:=b w (.inr a);exact⟨v,a7,bl,Zo⟩
def acQ(Q:ax->Option Int)(l:List (Int×cR))(f:Int×Int):(l.foldl (ke Q) f).1=0↔f.1=0/\∀x∈l,¬(x.1≠1/\(Q x.2.name).getD 0=0):=
 FP (λx:Int×cR=>x.1≠1/\(Q x.2.name).getD 0=0) (λ_=>37) (λx=>x.2.at_) (λ_=>Zd) l f
section
variable{X:bf}{j S' dU am ah:B R}{k W ak ar:Nat}
structure nB(X:bf)(d:B R)(c b a:Nat)(p:y)(q:Int)(bw:y)(f:Int×Int)(Q:ax->Option Int)(j:B R)(n:Nat):Prop where
 le:c<=n
 fQ:dC X j b p q bw (.map a) f
 fk:hY X j a (iA Q)
 low:∀h,h<c->h≠b->h≠a->F X j h=F X d h
def nB.K{g:B R}{a b c:Nat}{p bw:y}{q:Int}{f:Int×Int}{Q:ax->Option Int}(e:nB X g a b c p q bw f Q am ak)(n:b<a)(s:c<a)(t:ak<=ar)(d:∀h,h<ak->F X ah h=F X am h):nB X g a b c p q bw f Q ah ar:=by have r:=e.le;refine⟨Zo, ?_,e.fk.K (d _ Zo),λh i l m=>by rw[d h Zo];exact e.low h i l m⟩;have:=e.fQ;unfold dC at*;rw[d _ Zo];exact this
def qd(V:cS)(i:Nat):Int:=(V.bN[i]?).getD 0
def Sp{V:cS}{i:Nat}{w:ax}(e:V.left[i]? =some w):(ky V)[i]? =some (w,qd V i):=by unfold ky;rw[Zn,BT e];rfl
def Sq(V:cS):(ky V).length=V.left.length:=by simp[ky]
def OH(U0:bW X){P:Nat->Prop}{l r:Nat}{p bw:y}{q:Nat}{aa:List GE}{g:GE}(WD:(o X).aD<=k)(UL:(o X).aD<=l)(W3:(o X).aD<=r)(VJ:l<k)(W5:r<k)(UU:l≠r)
 (aU:∀h,P h->h<k/\h≠l/\h≠r)(Uz:iQ X j P aa p)(UY:aa[q]? =some g)(V7:iv X j P bw (dk g))(UK:dC X j l p q bw (.map r) (0,0))(Vs:hY X j r (iA λ_=>none)):
 az X 52 [.ptr l 0] j k (λM S' W=>M=.tuple []/\dC X S' l p q bw (.map r) (hh aa q g)/\k<=W/\∀h,h<k->h≠l->h≠r->F X S' h=F X j h) zW:=by
 refine tW (Mh X) (U0.none _ _ rfl) ?_;rw[Mi];unfold DF;obtain⟨T0,Wr,Wp,Wq,rfl,Vw,Vg,VV,VU⟩:=id Uz;have WG:=VU.wide;have Wd:=(Ze.1 UY).1;obtain⟨row,WN,V3⟩:=VU.get q g UY;have WE:=V3;have dF:=V3.ei;obtain⟨bK,bM,aB,U9,bb,bn,bH,WY,aR,rfl,W6,W7,W8,UW,VK⟩:=V3;have WF:=aU T0 Vw;have b1:ay X j (.ptr l 0)=some (.ptr T0 0):=by unfold dC at UK;rw[aZ UK];rfl
 have bS:ay X j (.ptr l 1)=some (.Z q):=by unfold dC at UK;rw[aZ UK];rfl
 have V0:=VV.c0 q (by rw[WG.1];omega);refine h5 ⟨?_⟩;generalize Us:aI X j k _=am;have TY:F X am k=zO [.ptr l 0] 1:=by rw[<-Us,aJ WD];rfl
 have UR:aT X j k am (k+1):=by rw[<-Us];exact b8
 clear Us;have WQ:∀h,P h->F X am h=F X j h:=λh f=>UR.K h (aU h f).1;rw[<-UR.df _ _ VJ]at b1 bS;rw[<-UR.df _ _ WF.1]at Vg;have V4:=(VV.K WQ).row Zd WN;refine c8 (aZ TY) @b1 (Za @bS (Za @Vg (Za @V0 @V4))) ⟨?_⟩;refine dh (eR (q:=6) (b:=k+1+13) (J:=0) (n:=6) (c:=B.ofList [.str [],.Z 0,.au,.au,.au,.au] 0 .nil) (aJ Zo) Zo rfl Zd Zd dF) ?_;generalize Ut:aI X _ (k+1+13) _=ah;have UB:F X ah (k+1+13)=zO [.str g.name,.Z g.at_,bK,bM,aB,U9] 6:=by rw[<-Ut,aJ Zo];rfl
 have Uq:aT X am (k+1) ah (k+1+14):=by rw[<-Ut];exact b8
 clear Ut;rw[<-Uq.K _ Zo]at TY;have VE:aT X j k ah (k+1+14):=⟨Zo,λh f=>by rw[Uq.K h Zo,UR.K h f]⟩;have WR:∀h,P h->F X ah h=F X j h:=λh f=>VE.K h (aU h f).1;rw[<-Uq.df _ _ Zo]at b1 bS;refine c8 (aZ TY) @b1 (aZ UB) ⟨?_⟩;refine(y6 (k:=k+1+15+12) (j:=ah) U0 Zo (Uz.K (aK:=P) WR (λ_ e=>e)) (λh f=>zK (aU h f).1) g.name).Zm ?_;rintro M T4 U4 ⟨rfl,UT⟩;have Wf:=UT.le;rw[<-UT.K _ Zo]at TY UB;rw[<-UT.df _ _ Zo]at b1 bS;have US:aT X j k T4 U4:=⟨Zo,λh f=>by rw[UT.K h Zo,VE.K h f]⟩;have V9:∀h,P h->F X T4 h=F X j h:=λh f=>US.K h (aU h f).1;have Ur:nB X T4 U4 l r (.ptr T0 0) q bw (0,0) (λ_=>none) T4 U4:=⟨Zg _,by unfold dC at*;rw[US.K _ VJ];exact UK,Vs.K (US.K _ W5),λ_ _ _ _=>rfl⟩;generalize WO:(js aa g.name).getD 0=Uh;have Ub:mo aa q g=if Uh<q then hw (0,0) 24 g.at_ else(0,0):=by unfold mo;rw[WO]
 refine c8 (aZ TY) @b1 @bS ⟨?_⟩;refine dW (λUQ S' v=>UQ.g 1=some (.ptr k 0)/\UQ.g 2=some (.ptr (k+1+13) 0)/\UQ.aP=[]/\nB X T4 U4 l r (.ptr T0 0) q bw (mo aa q g) (λ_=>none) S' v) (λE V1=> ?_) ?_
 ·by_cases VT:Uh<q
  ·have ap:=zM Uh q;rw[Zu VT]at Ub;refine cb @ap (aZ TY) (aZ UB) ⟨?_⟩;refine(mS (j:=T4) U0 UL Ur.fQ 24 g.at_).Zm ?_;rintro M UG Ve ⟨rfl,Vz,WA,VO⟩;refine br ⟨?_⟩;exact V1 _ _ _ ⟨av,av,rfl,Zo,by rw[Ub];exact Vz,Ur.fk.K (VO _ (λu=>UU u.symm)),λh A s N=>VO h s⟩
  ·have ap:=zL Uh q;rw[Zi VT]at Ub;refine bh @ap ⟨?_⟩;exact V1 _ _ _ ⟨av,av,rfl,by rw[Ub];exact Ur⟩
 rintro z UG Ve ⟨t1,C,O,U8⟩;have WA:=U8.le;have Vm:F X UG k=zO [.ptr l 0] 1:=by rw[U8.low _ Zo Zo Zo];exact TY
 have Vo:F X UG (k+1+13)=zO [.str g.name,.Z g.at_,bK,bM,aB,U9] 6:=by rw[U8.low _ Zo Zo Zo];exact UB
 have Vb:∀h,P h->F X UG h=F X j h:=λh f=>by have:=aU h f;rw[U8.low h Zo this.2.1 this.2.2,V9 h f]
 show bt _ _;refine c8 @t1 @C (Za (aZ Vm) (aZ Vo)) ⟨?_⟩;refine(O4 (k:=Ve) (j:=UG) U0 Zo UL Zo (λh f=>⟨zK (aU h f).1,(aU h f).2.1⟩) (V7.K (aK:=P) Vb (λ_ e=>e)) U8.fQ (WE.K (aK:=P) Vb (λ_ e=>e)) trivial).Zm ?_;rintro M Ui Vf ⟨rfl,W0,Wg,VP⟩;have VF:nB X T4 U4 l r (.ptr T0 0) q bw (l7 (dk g) g (mo aa q g)) (λ_=>none) Ui Vf:=⟨Zo,W0,U8.fk.K (VP _ Zo (λu=>UU u.symm)),λh A s N=>by rw[VP h Zo s];exact U8.low h A s N⟩;have Vp:F X Ui (k+1+13)=zO [.str g.name,.Z g.at_,bK,bM,aB,U9] 6:=by rw[VF.low _ Zo Zo Zo];exact UB
 have Va:=VK.wide;have VS:=UW.len;have WC:=UW.many;rw[Va.1]at VS WC;have V2:hh aa q g=(c7 g).foldl (ke (g.eqs.foldl (hj (dk g) aa q) (λ_=>none,l7 (dk g) g (mo aa q g))).1) (g.eqs.foldl (hj (dk g) aa q) (λ_=>none,l7 (dk g) g (mo aa q g))).2:=rfl;generalize VY:((λ_=>none,l7 (dk g) g (mo aa q g)):(ax->Option Int)×(Int×Int))=T2 at V2;have Vu:nB X T4 U4 l r (.ptr T0 0) q bw T2.2 T2.1 Ui Vf:=by rw[<-VY];exact VF
 have Vx:∀w,0<=(T2.1 w).getD 0/\(T2.1 w).getD 0<=((0:Nat):Int)*1048576:=by intro w;rw[<-VY];simp
 refine c8 @C (aZ Vp) @VS ⟨?_⟩;refine dV ?_;refine cG (λm z S' v=>∃(E:Nat),z.g 1=some (.ptr k 0)/\z.g 2=some (.ptr (k+1+13) 0)/\z.aP=[]/\z.g 49=some U9/\z.g 50=some (.Z g.eqs.length)/\z.g 51=some (.Z E)/\E+m=g.eqs.length
  /\nB X T4 U4 l r (.ptr T0 0) q bw ((g.eqs.take E).foldl (hj (dk g) aa q) T2).2 ((g.eqs.take E).foldl (hj (dk g) aa q) T2).1 S' v/\(∀w,0<=(((g.eqs.take E).foldl (hj (dk g) aa q) T2).1 w).getD 0/\(((g.eqs.take E).foldl (hj (dk g) aa q) T2).1 w).getD 0<=(E:Int)*1048576))
  g.eqs.length ⟨0,Y t1,Y C,O,av,av,cW,Zo,Vu,Vx⟩ ?_
 clear t1 C O;rintro m z UP T6 ⟨E,t1,C,O,T7,T3,t51,V1,T1,VH⟩;have Wh:=T1.le;have Vn:F X UP k=zO [.ptr l 0] 1:=by rw[T1.low _ Zo Zo Zo];exact TY
 have Vq:F X UP (k+1+13)=zO [.str g.name,.Z g.at_,bK,bM,aB,U9] 6:=by rw[T1.low _ Zo Zo Zo];exact UB
 have Vc:∀h,P h->F X UP h=F X j h:=λh f=>by have:=aU h f;rw[T1.low h Zo this.2.1 this.2.2,V9 h f]
 cases m with
 |zero=>
  have ap:=zL E g.eqs.length;rw[Zy Zo]at T1;generalize g.eqs.foldl (hj (dk g) aa q) T2=G at T1 V2;refine dE @t51 @T3 @C @ap (aZ Vq) ⟨?_⟩;refine(v8 U0 Zo).Zm ?_;rintro M T5 Wn ⟨rfl,rfl,UI,WT,WU,WV⟩;generalize Wk:T6+1=bu at*;have VA:∀h,P h->F X T5 h=F X j h:=λh f=>by rw[UI.K h (zK (aU h f).1),Vc h f]
  have W1:dC X T5 l (.ptr T0 0) q bw (.map r) G.2:=by have:=T1.fQ;unfold dC at*;rw[UI.K l Zo];exact this
  have Vj:F X T5 k=zO [.ptr l 0] 1:=by rw[UI.K _ Zo];exact Vn
  refine dV ?_;refine wa (P:=P) (g:=g) (bb:=bb) (bn:=bn) (bH:=bH) (bK:=bK) (bM:=bM) (aB:=aB) U0 (λi S' v=>kR X T5 bu l r (.ptr T0 0) q bw (.map r) (((c7 g).take i).foldl (ke G.1) G.2) G.1 S' v) Zo Zo Zo Zo
   (W6.K VA) (W7.K VA) (W8.K VA) WT WU WV (λi S' v e=>⟨e.le,λh f=>e.low h (zK (aU h f).1) (aU h f).2.1 (aU h f).2.2⟩)
   (λi am ak ah ar e W9 UY=>e.K Zo Zo W9 UY) (λS' Up=>⟨Zg _,by unfold dC at*;rw[Up.K _ Zo];exact W1,(T1.fk.K (UI.K _ Zo)).K (Up.K _ Zo),λh f _ _=>Up.K h f⟩) ?_ ?_
  ·intro mk i U3 d U7 U5 af t Un Vr;rw[o7 (ke G.1) _ af];generalize ((c7 g).take i).foldl (ke G.1) G.2=bj at t ⊢;have VQ:=t.le;have W4:cV d=[.str d.name,.Z d.at_,.bool d.ty.b,.bool d.ty.s,.Z d.ty.w,.str d.on,.Z d.cY,.bool d.no]:=rfl;rw[W4];unfold ll;refine br ⟨?_⟩;generalize Uv:aI X _ U5 _=UA;have Ul:F X UA U5=zO [.str d.name,.Z d.at_,.bool d.ty.b,.bool d.ty.s,.Z d.ty.w,.str d.on,.Z d.cY,.bool d.no] 8:=(by rw[<-Uv,aJ Zo];rfl);have V8:∀h,h<U5->F X UA h=F X U7 h:=λh f=>(by rw[<-Uv];exact zQ);clear Uv;refine⟨by rw[V8 _ Zo];exact Vr, ?_⟩;generalize Uw:aI X UA (bu+1) _=T9;have Um:F X T9 (bu+1)=some (mk .busy none):=(by rw[<-Uw,aJ Zo]);have VB:∀h,h≠bu+1->F X T9 h=F X UA h:=λh f=>(by rw[<-Uw,ag Zo f]);clear Uw;have TZ:=t.K (ah:=T9) (ar:=U5+1) Zo Zo Zo (λh A s=>by rw[VB h s,V8 h A]);rw[<-VB _ Zo]at Ul;have Uo:F X T9 bu=some (.deferred (some [])):=(by rw[VB _ Zo,V8 _ Zo];exact Un);have bk:ay X T9 (.ptr k 0)=some (.ptr l 0):=(by rw[aZ (show F X T9 k=_ by rw[TZ.low _ Zo Zo Zo];exact Vj)];rfl);have Vd:ay X T9 (.ptr l 3)=some (.map r):=(by have:=TZ.fQ;unfold dC at this;rw[aZ this];rfl);have VR:fb X T9 9 (.Z 0) (.map r) (.str d.name) false=some (.Z ((G.1 d.name).getD 0)):=(by rw[pq TZ.seen];unfold iA;cases G.1 d.name<;>rfl);have UD:∀S' v,kR X T5 bu l r (.ptr T0 0) q bw (.map r) (ke G.1 bj (U3,d)) G.1 S' v->F X S' bu=some (.deferred (some []))->(y.bool true=y.bool true/\kR X T5 bu l r (.ptr T0 0) q bw (.map r) (ke G.1 bj (U3,d)) G.1 (aI X S' (bu+1) (some (mk .ready none))) v/\F X (aI X S' (bu+1) (some (mk .ready none))) bu=some (.deferred (some []))/\F X (aI X S' (bu+1) (some (mk .ready none))) (bu+1)=some (mk .ready none)):=λS' v e s=>
    ⟨rfl,e.K Zo Zo (Zg _) (λh A s=>ag Zo s),by rw[ag Zo Zo];exact s,aJ Zo⟩
   refine h5 ⟨?_⟩;refine dV ?_;by_cases UZ:U3=1
   ·have ap:decide (U3≠1)=false:=(by simp[UZ]);have UM:ke G.1 bj (U3,d)=bj:=(by unfold ke;rw[Zi (by simp[UZ])]);refine bh @ap ⟨?_⟩;rw[UM]at UD ⊢;exact⟨⟨.busy,none,Um⟩,UD _ _ (TZ.K Zo Zo Zo (λ_ _ _=>rfl)) Uo⟩
   ·have ap:decide (U3≠1)=true:=(by simp[UZ]);by_cases Uf:(G.1 d.name).getD 0=0
    ·have Uk:decide ((G.1 d.name).getD 0=0)=true:=(by simp[Uf]);have UM:ke G.1 bj (U3,d)=hw bj 37 d.at_:=(by unfold ke;rw[Zu ⟨UZ,Uf⟩]);refine cd @ap @t1 @bk @Vd (aZ Ul) @VR @Uk ⟨?_⟩;refine(mS (j:=T9) U0 UL TZ.fQ 37 d.at_).Zm ?_;rintro M WX Wo ⟨rfl,W2,Wi,Ua⟩;refine br ⟨?_⟩;rw[UM]at UD ⊢;have We:=TZ.le;exact⟨⟨.busy,none,by rw[Ua _ Zo];exact Um⟩,UD _ _ ⟨Zo,W2,TZ.seen.K (Ua _ Zo),λh A s N=>by rw[Ua h s];exact TZ.low h A s N⟩ (by rw[Ua _ Zo];exact Uo)⟩
    ·have Uk:decide ((G.1 d.name).getD 0=0)=false:=(by simp[Uf]);have UM:ke G.1 bj (U3,d)=bj:=(by unfold ke;rw[Zi (λe=>Uf e.2)]);refine cd @ap @t1 @bk @Vd (aZ Ul) @VR @Uk ⟨?_⟩;rw[UM]at UD ⊢;exact⟨⟨.busy,none,Um⟩,UD _ _ (TZ.K Zo Zo Zo (λ_ _ _=>rfl)) Uo⟩
  ·intro U7 U5 t Un;rw[Yu]at t;have VQ:=t.le;rw[<-V2]at t;show ic X [] _ _ _ _ _;simp only[n8,nk,O];refine⟨by show(o X).aD<=bu;omega,Un, ?_⟩;show j8 _ _ _ _ _;refine⟨rfl, ?_,Zo,λh A s N=> ?_⟩
   ·have:=t.fQ;unfold dC at*;rw[ag Zo Zo];exact this
   ·rw[ag Zo Zo,t.low h Zo s N,UI.K h Zo,T1.low h Zo s N,US.K h A]
 |succ m=>
  have ap:=zM E g.eqs.length;have Vk:=zP E;obtain⟨V,VW⟩:=zN g.eqs E;obtain⟨Ws,WM,WL⟩:=VK.get E V VW;have V0:=UW.c0 E (by rw[Va.1];omega);have V4:=(UW.K Vc).row Zd WM;obtain⟨Ug,Vh,WZ,Wa,Vi,rfl,Uc,Ud,WH,WI⟩:=WL;have VX:=Uc.len;have WK:=Uc.many;have Ue:=Ud.1.len;have WJ:=Ud.1.many;rw[show(cQ V.left).length=V.left.length from by simp[cQ]]at VX WK;rw[Zj]at Ue WJ;have V5:=o7 (hj (dk g) aa q) T2 VW;generalize Wc:(g.eqs.take E).foldl (hj (dk g) aa q) T2=UF at T1 V5 VH;refine eC @t51 @T3 @T7 @ap @V0 @V4 ⟨?_⟩;refine dh (eR (q:=4) (b:=T6) (J:=0) (n:=4) (c:=B.ofList [.au,.au,.Z 0,.bE] 0 .nil) (aJ Zo) Zo rfl Zd Zd WI) ?_;generalize Uu:aI X _ T6 _=T5;have VD:F X T5 T6=zO [Ug,Vh,.Z V.at_,Vi] 4:=by rw[<-Uu,aJ Zo];rfl
  have WP:∀h,h<T6->F X T5 h=F X UP h:=λh f=>by rw[<-Uu];exact zQ
  clear Uu;have Vv:=T1.K (ah:=T5) (ar:=T6+1) Zo Zo Zo (λh A=>WP h A);refine mc (aZ VD) @VX ⟨?_⟩;refine dV ?_;refine cG (λUO z S' v=>∃(i:Nat),z.g 1=some (.ptr k 0)/\z.g 2=some (.ptr (k+1+13) 0)/\z.aP=[]/\z.g 49=some U9/\z.g 50=some (.Z g.eqs.length)/\z.g 51=some (.Z E)/\z.g 6=some (.ptr T6 0)/\z.g 56=some Ug/\z.g 57=some (.Z V.left.length)/\z.g 58=some (.Z i)/\i+UO=V.left.length
   /\nB X T4 U4 l r (.ptr T0 0) q bw (((ky V).take i).foldl (h8 (dk g)) UF).2 (((ky V).take i).foldl (h8 (dk g)) UF).1 S' v/\(∀w,0<=((((ky V).take i).foldl (h8 (dk g)) UF).1 w).getD 0/\((((ky V).take i).foldl (h8 (dk g)) UF).1 w).getD 0<=(E:Int)*1048576+i)
   /\T6+1<=v/\F X S' T6=zO [Ug,Vh,.Z V.at_,Vi] 4)
   V.left.length ⟨0,Y t1,Y C,O,Y T7,Y T3,Y t51,av,av,av,cW,Zo,Vv,λw=>by simpa using VH w,Zo,VD⟩ ?_
  clear t1 C O T7 T3 t51;rintro UO UQ U7 U5 ⟨i,t1,C,O,T7,T3,t51,T8,U6,U1,U2,af,t,UJ,Wj,UC⟩;have VQ:=t.le;have VC:F X U7 k=zO [.ptr l 0] 1:=by rw[t.low _ Zo Zo Zo];exact TY
  have UE:∀h,P h->F X U7 h=F X j h:=λh f=>by have:=aU h f;rw[t.low h Zo this.2.1 this.2.2,V9 h f]
  cases UO with
  |zero=>
   have UH:=zL i V.left.length;rw[Zy (by rw[Sq];omega)]at t UJ;refine cd @U2 @U1 @t1 @T8 @UH (aZ VC) (aZ UC) ⟨?_⟩;refine(aa4 (k:=U5) (j:=U7) U0 Zo UL Zo (λh f=>⟨zK (aU h f).1,(aU h f).2.1⟩) (V7.K (aK:=P) UE (λ_ e=>e)) (Uz.K (aK:=P) UE (λ_ e=>e)) t.fQ (bB.K UE _ _ WH)).Zm ?_;rintro M UA WS ⟨rfl,Uy,WB,UN⟩;refine bA @t51 @Vk ⟨?_⟩;refine⟨m,Zo,E+1,Y t1,Y C,O,Y T7,Y T3,av,Zo, ?_, ?_⟩
   ·rw[V5];exact⟨Zo,Uy,t.fk.K (UN _ Zo (λu=>UU u.symm)),λh A s N=>by rw[UN h Zo s];exact t.low h A s N⟩
   ·rw[V5];intro w;have:=UJ w;simp only[hj];constructor
    ·exact this.1
    ·have s:=this.2;have N:i<=1048576:=Zo
     push_cast
     omega
  |succ UO=>
   have UH:=zM i V.left.length;have Vl:=zP i;obtain⟨w,VZ⟩:=zN V.left i;have UX:=Uc.c0 i (by simp[cQ];omega);have UV:=(Uc.K UE).cell i [.str w] 0 (.str w) (by unfold cQ;rw[Zn,VZ];rfl) rfl;rw[ZF]at UX;rw[ZF,ZL]at UV;have V6:=o7 (h8 (dk g)) UF (Sp VZ);generalize Wb:((ky V).take i).foldl (h8 (dk g)) UF=Wt at t V6 UJ;have Vy:=UJ w;refine c8 @U2 @U1 (Za @U6 (Za @T8 (Za @UH (Za @UX (Za @UV (Za (aZ UC) @Ue)))))) ⟨?_⟩;refine dV ?_;refine c8 @U2 @U1 (Za @U6 (Za @T8 (Za @UH (Za @UX (Za @UV (Za (aZ UC) @Ue)))))) ⟨?_⟩;refine dV ?_;refine c8 @U2 @U1 (Za @U6 (Za @T8 (Za @UH (Za @UX (Za @UV (Za (aZ UC) @Ue)))))) ⟨?_⟩;refine dW (λL S' v=>L.g 1=some (.ptr k 0)/\L.g 2=some (.ptr (k+1+13) 0)/\L.aP=[]/\L.g 49=some U9/\L.g 50=some (.Z g.eqs.length)/\L.g 51=some (.Z E)/\L.g 6=some (.ptr T6 0)/\L.g 56=some Ug/\L.g 57=some (.Z V.left.length)/\L.g 58=some (.Z i)/\L.g 8=some (.str w)/\L.g 9=some (.Z (qd V i))/\S'=U7/\v=U5) (λWm VN=> ?_) ?_
   ·by_cases VL:i<V.bN.length
    ·have Uj:=zM i V.bN.length;obtain⟨a,VG⟩:∃a,V.bN[i]? =some a:=⟨_,Zb VL⟩;have VM:=Ud.1.c0 i (by rw[Zj];exact VL);have VI:=(Ud.1.K UE).cell i [sI a] 0 (sI a) (by rw[Zn,VG];rfl) rfl;rw[ZF]at VM;rw[ZF,ZL]at VI;have Ux:qd V i=a:=(by unfold qd;rw[VG];rfl);refine dE @Uj @T8 (aZ UC) @VM @VI ⟨?_⟩;exact VN _ _ _ ⟨Y t1,Y C,O,Y T7,Y T3,Y t51,Y T8,Y U6,Y U1,Y U2,av,by refine o8 ⟨?_⟩;rw[Ux];rfl,rfl,rfl⟩
    ·have Uj:=zL i V.bN.length;have Ux:qd V i=0:=(by unfold qd;rw[YP Zo];rfl);refine bh @Uj ⟨?_⟩;exact VN _ _ _ ⟨Y t1,Y C,O,Y T7,Y T3,Y t51,Y T8,Y U6,Y U1,Y U2,av,by refine o8 ⟨?_⟩;rw[Ux],rfl,rfl⟩
   ·clear t1 C O T7 T3 t51 T8 U6 U1 U2;rintro L S' v ⟨t1,C,O,T7,T3,t51,T8,U6,U1,U2,WW,t9,rfl,rfl⟩;show bt _ _;refine c9 @t1 @WW @t9 (aZ VC) ⟨?_⟩;refine(Sm U0 Zo UL W3 Zo Zo UU t.fQ (V7.K (aK:=P) UE (λ_ e=>e)) (λh f=>⟨zK (aU h f).1,(aU h f).2.1,(aU h f).2.2⟩) t.fk w (qd V i) ⟨Vy.1,Zo⟩).Zm ?_;rintro M UA WS ⟨rfl,Uy,Vt,WB,UN⟩;refine bA @U2 @Vl ⟨?_⟩;refine⟨UO,Zo,i+1,Y t1,Y C,O,Y T7,Y T3,Y t51,Y T8,Y U6,Y U1,av,Zo, ?_, ?_,Zo,by rw[UN _ Zo Zo Zo];exact UC⟩
    ·rw[V6];exact⟨Zo,Uy,Vt,λh A s N=>by rw[UN h Zo s N];exact t.low h A s N⟩
    ·rw[V6];intro x;have Wl:=UJ x;simp only[h8];split
     ·simp only[Yl];push_cast;omega
     ·push_cast;omega
def Tk{C:ai}{j:B R}{k r pos c:Nat}{s:ax}(I:C.aD<=r)(e:F C j r=some (.iI s pos))(a:s[pos]? =some c)(g:c<128):
 iW C fB true j k (eY (.ptr r 0))=some (.cJ (.tuple [.zV,.Z (pos:Int),.int .i32 (c:Int)]) (aI C j r (some (.iI s (pos+1)))) k):=by
 have i:=(Ze.1 a).1;have b:Nat.blt pos s.length=true:=by simp[Nat.blt];omega
 have d:Nat.blt c 128=true:=by simp[Nat.blt];omega
 have f:eN C r=true:=ds I;simp only[iW,eY,f,cE,e,b,jB,a,d,aC.setObj,dD];rfl
def Ti{C:ai}{j:B R}{k r pos:Nat}{s:ax}(I:C.aD<=r)(e:F C j r=some (.iI s pos))(d:s.length<=pos):
 iW C fB true j k (eY (.ptr r 0))=some (.val (.tuple [.zT])):=by
 have a:Nat.blt pos s.length=false:=by cases c:Nat.blt pos s.length with|false=>rfl|true=>simp[Nat.blt]at c;omega
 have b:eN C r=true:=ds I;simp only[iW,eY,b,cE,e,a,ge]
def FT{J:Option cj}{j S':B R}{k W:Nat}{S:aY}{v:y}(e:J=some (.cJ v S' W))(q:S v S' W):n0 J j k S:=by subst e;exact⟨q⟩
def FS{J:Option cj}{j:B R}{k:Nat}{S:aY}{v:y}(e:J=some (.val v))(q:S v j k):n0 J j k S:=by subst e;exact⟨q⟩
def Aj{c:Nat}(e:fa c=true):(97<=c/\c<=122)\/(65<=c/\c<=90)\/(48<=c/\c<=57)\/c=95:=by simp[fa,jZ,e6]at e;omega
def TF(l:bW X){c:Nat}(m:fa c=true):az X 140 [.int .i32 (c:Int)] j k (λM S' W=>M=.zT/\S'=j/\k<=W) zW:=by
 refine z6 l (Km ..) ?_;unfold CC;rcases Aj m with e|e|e|e
 ·have a:decide ((c:Int)<97)=false:=z1;have b:decide ((122:Int)<(c:Int))=false:=z1;refine bA @a @b ⟨?_⟩;exact⟨rfl,rfl,Zo⟩
 ·have a:decide ((c:Int)<97)=true:=zZ;have b:decide ((c:Int)<65)=false:=z1;have d:decide ((90:Int)<(c:Int))=false:=z1;refine cb @a @b @d ⟨?_⟩;exact⟨rfl,rfl,Zo⟩
 ·have a:decide ((c:Int)<97)=true:=zZ;have b:decide ((c:Int)<65)=true:=zZ;have d:decide ((c:Int)<48)=false:=z1;have f:decide ((57:Int)<(c:Int))=false:=z1;refine c9 @a @b @d @f ⟨?_⟩;exact⟨rfl,rfl,Zo⟩
 ·have a:decide ((c:Int)<97)=true:=zZ;have b:decide ((c:Int)<65)=false:=z1;have d:decide ((90:Int)<(c:Int))=true:=zZ;have f:decide ((c:Int)<48)=false:=z1;have g:decide ((57:Int)<(c:Int))=true:=zZ;have i:decide ((c:Int)≠95)=false:=by simp only[Zc,ne_eq,Decidable.not_not];omega
  refine eC @a @b @d @f @g @i ⟨?_⟩;exact⟨rfl,rfl,Zo⟩
def aa7{C:ai}{s:ax}{S:aY}(q:S (.ptr k 0) (aI C j k (some (.iI s 0))) (k+1)):d6 (Br C j k (.str s)) j k S:=d7 (by simp only[Br,gg,gQ,dD]) q
def Om:b0 X j .eql 4 false .zT .zV=some .zT:=Zk
def Rs(d:bW X){s:ax}(L:∀c∈s,fa c=true)(a:(o X).aD<=k):
 az X 141 [.str s,.func (.func 140) [] []] j k (λM S' W=>M=.Z (-1)/\aT X j k S' W) zW:=by
 refine z6 d (Ko ..) ?_;unfold CD;refine z6 d (KO ..) ?_;unfold CP;refine aa7 ?_;generalize f:aI X j k _=am;have x:F X am k=some (.iI s 0):=by rw[<-f,aJ a]
 have G:aT X j k am (k+1):=by rw[<-f];exact b8
 clear f;refine br ⟨?_⟩;refine cG (λm z S' v=>∃(E:Nat),z.g 1=some (.func (.func 140) [] [])/\z.g 2=some .zV/\z.g 10=some (.ptr k 0)/\E+m=s.length/\F X S' k=some (.iI s E)/\aT X j k S' v/\k+1<=v)
  s.length ⟨0,av,av,av,Zo,x,G,Zo⟩ ?_
 rintro m z ah ar ⟨E,t1,w,i,P,n,b,T1⟩;cases m with
 |zero=>refine bh @i ⟨?_⟩;refine FS (Ti a n Zo) ?_;refine br ⟨?_⟩;exact⟨rfl,b⟩|succ m=>
  obtain⟨c,r⟩:=zN s E;have t:=L c (Zl r);have C:c<128:=zK (Aj t);refine bh @i ⟨?_⟩;refine FT (Tk a n r C) ?_;refine bh @t1 ⟨?_⟩;generalize g:aI X ah k _=l;have A:F X l k=some (.iI s (E+1)):=by rw[<-g,aJ a]
  have p:aT X j k l ar:=⟨b.le,λh N=>by rw[<-g,ag a Zo];exact b.K h N⟩;clear g;refine(TF d t).Zm ?_;rintro M O T2 ⟨rfl,rfl,T0⟩;refine bA @w @Om ⟨?_⟩;refine⟨m,Zo,E+1,Y t1,Y w,Y i,Zo,A,⟨zK p.le,p.K⟩,Zo⟩
end
section
variable{aM:Type}[DecidableEq aM]{em:aM->y}{dZ:Nat}
def fl(em:aM->y)(u:aM×y×Nat):y×y×Nat:=(em u.1,u.2.1,u.2.2)
structure r6(X:bf)(em:aM->y)(dZ:Nat):Prop where
 ok:∀q,ha X 20 dZ (em q)=true
 eq:∀j a b,f3 X j 20 dZ (em a) (em b)=some (decide (a=b))
 same:∀q,hO 20 (em q) (em q)=true
def PV{α cz:Type}(f:α->cz):∀(l:List α) (i:Nat),(l.eraseIdx i).map f=(l.map f).eraseIdx i:=by intro l;induction l with|nil=>intro i;rfl|cons a l U=>intro i;cases i with|zero=>rfl|succ i=>rw[List.eraseIdx_cons_succ,ZH,ZH,List.eraseIdx_cons_succ,U]
def GO{x:Nat}{l:List Nat}:gH x l=true↔x∈l:=by rw[uM];simp
def y7(w:aM):∀(aV:List (aM×y×Nat)) (i:Nat),eW aV w i=none↔∀u∈aV,u.1≠w:=by
 intro aV;induction aV with
 |nil=>intro i;simp[eW]|cons x aV U=>
  intro i;simp only[eW];split
  ·rename_i e;simp[e]
  ·rename_i e;simp[e,U]
def wN{aV:List (aM×y×Nat)}(b:(aV.map λu=>u.1).Nodup){u:aM×y×Nat}(a:u∈aV):d5 aV u.1=some u.2.1:=by
 induction aV with
 |nil=>cases a|cons x aV U=>
  rw[m9];rw[ZH,YG]at b;rcases Zq.1 a with rfl|a
  ·simp
  ·have:¬x.1=u.1:=λe=>b.1 (e▸za a);rw[Zi this];exact U b.2 a
def sU{aV:List (aM×y×Nat)}{w:aM}{v:y}(e:d5 aV w=some v):∃u∈aV,u.1=w/\u.2.1=v:=by
 induction aV with
 |nil=>cases e|cons x aV U=>
  rw[m9]at e;split at e
  ·rename_i c;cases e;exact⟨x,Zp ..,c,rfl⟩
  ·obtain⟨u,b,a⟩:=U e;exact⟨u,Zw _ b,a⟩
def SD{aV:List (aM×y×Nat)}{w:aM}:d5 aV w=none↔∀u∈aV,u.1≠w:=by unfold d5;rw[Option.map_eq_none_iff,y7]
def Qg(w:aM):∀(aV:List (aM×y×Nat)) (E:Nat) (v:y),(aV.map λu=>u.1).Nodup->eW aV w 0=some (E,v)->aV.eraseIdx E=aV.filter λu=>decide (u.1≠w):=by
 intro aV;induction aV with
 |nil=>intro E v _ e;cases e|cons x aV U=>
  intro E v a e;rw[ZH,YG]at a;simp only[eW]at e;split at e
  ·rename_i u;simp at e;obtain⟨rfl,rfl⟩:=e;rw[List.eraseIdx_cons_zero,YR,Zi (by simp[u])];symm;rw[List.filter_eq_self];intro h d;simp only[Zf];intro c;exact a.1 (ZB.2 ⟨h,d,c.trans u.symm⟩)
  ·rename_i u;rw[wl]at e;cases b:eW aV w 0 with|none=>rw[b]at e;cases e|some p=>rw[b]at e;simp at e;obtain⟨rfl,rfl⟩:=e;rw[List.eraseIdx_cons_succ,YR,Zu (by simp[u]),U p.1 p.2 a.2 b]
def P8{aV:List (aM×y×Nat)}{w:aM}(e:eW aV w 0=none):(aV.filter λu=>decide (u.1≠w))=aV:=by rw[List.filter_eq_self];intro u a;simpa using (y7 w aV 0).1 e u a
variable{X:bf}{j S' am ah:B R}{k W ak ar:Nat}
def uh(a:r6 X em dZ)(w:aM):∀(aV:List (aM×y×Nat)) (i:Nat),findKey X j dZ (em w) (aV.map (fl em)) i=some (eW aV w i):=by
 intro aV;induction aV with
 |nil=>intro i;rfl|cons x aV U=>
  intro i;simp only[ZH,fl,findKey,a.eq,eW];by_cases e:w=x.1
  ·have:x.1=w:=e.symm;simp[this]
  ·have:¬x.1=w:=λu=>e u.symm;simp only[e,this,Ys,ZJ];exact U (i+1)
structure f0(X:bf)(em:aM->y)(j:B R)(r:Nat)(aV:List (aM×y×Nat))(bq:Nat):Prop where
 at_:F X j r=some (.map (aV.map (fl em)) bq)
 keys:(aV.map λu=>u.1).Nodup
 born:(aV.map λu=>u.2.2).Nodup
 hD:∀u∈aV,u.2.2<bq
variable{r bq:Nat}{aV:List (aM×y×Nat)}
def f0.K(e:f0 X em j r aV bq)(q:F X S' r=F X j r):f0 X em S' r aV bq:=⟨by rw[q];exact e.at_,e.keys,e.born,e.hD⟩
def f0.new(e:F X j r=some (.map [] 0)):f0 X em j r ([]:List (aM×y×Nat)) 0:=⟨e,List.nodup_nil,List.nodup_nil,λu e=>by cases e⟩
def f0.look(a:r6 X em dZ)(e:f0 X em j r aV bq)(aw:y)(w:aM)(ok:Bool):fb X j dZ aw (.map r) (em w) ok=some (match d5 aV w with|some v=>a8 ok (.tuple [v,.zV]) v|none=>a8 ok (.tuple [aw,.zT]) aw):=by have b:=e.at_;simp only[fb,b,a.ok,cE,uh a];unfold d5;cases eW aV w 0<;>rfl
def f0.set(g:r6 X em dZ)(I:(o X).aD<=r)(e:f0 X em j r aV bq)(w:aM)(v:y):
 ∃S' s kr,hT X j k dZ (.map r) (em w) v=some (.cJ aC.undef S' k)/\f0 X em S' r s kr/\(∀x,d5 s x=if x=w then some v else d5 aV x)/\(d5 aV w=none->s.length=aV.length+1)/\∀h,h≠r->F X S' h=F X j h:=by
 obtain⟨G,L,T,n⟩:=e;have al:eN X r=true:=ds I;cases d:eW aV w 0 with
 |none=>
  refine⟨Go.aC.aI X j r (some (.map ((aV++[(w,v,bq)]).map (fl em)) (bq+1))),aV++[(w,v,bq)],bq+1, ?_,⟨aJ I, ?_, ?_, ?_⟩,λx=> ?_,λ_=>Zs,λh C=>ag I C⟩
  ·simp only[hT,G,g.ok,cE,uh g,d,aC.setObj,al,cE,dD];rw[ZR];rfl
  ·rw[ZR,YX];refine⟨L,Zs,λa t b l=> ?_⟩;obtain⟨u,c,rfl⟩:=ZB.1 t;simp at l;rw[l];exact(y7 w aV 0).1 d u c
  ·rw[ZR,YX];refine⟨T,Zs,λa t b l=> ?_⟩;obtain⟨u,c,rfl⟩:=ZB.1 t;simp at l;rw[l];have:=n u c;omega
  ·intro u c;rcases Zv.1 c with c|c
   ·have:=n u c;omega
   ·simp at c;subst c;simp
  ·exact AM _ _ _ _ _ (by unfold d5;rw[d];rfl)
 |some p=>
  obtain⟨E,v0⟩:=p;obtain⟨born,m⟩:=y8 w aV E v0 d;have P:(aV.map (fl em))[E]? =some (em w,v0,born):=by rw[Zn,m];rfl
  have O:=(Ze.1 m).1;have N:∀{α:Type}(f:aM×y×Nat->α),f (w,v,born)=f (w,v0,born)->(aV.set E (w,v,born)).map f=aV.map f:=by
   intro α f d;rw[List.map_set,d];have:(aV.map f)[E]? =some (f (w,v0,born)):=(by rw[Zn,m];rfl);apply Y5;intro i;rw[Y8];split
   ·rename_i e;subst e;rw[this];simp[O]
   ·rfl
  refine⟨Go.aC.aI X j r (some (.map ((aV.set E (w,v,born)).map (fl em)) bq)),aV.set E (w,v,born),bq, ?_,⟨aJ I,by rw[N _ rfl];exact L,by rw[N _ rfl];exact T,λu c=> ?_⟩,λx=>AN w x v aV E v0 born d,λA=> ?_,λh C=>ag I C⟩
  ·simp only[hT,G,g.ok,cE,uh g,d,jB,P,g.same,aC.setObj,al,cE,dD];rw[List.map_set];rfl
  ·rcases List.mem_or_eq_of_mem_set c with c|c
   ·exact n u c
   ·rw[c];exact n (w,v0,born) (Zl m)
  ·unfold d5 at A;rw[d]at A;cases A
def f0.del(a:r6 X em dZ){mt n:Nat}(i:(o X).P.underlying mt=some (.map dZ n))(bN:List Nat)(I:(o X).aD<=r)(e:f0 X em j r aV bq)(w:aM):
 ∃S',kx X j k .delete (mt::bN) [.map r,em w]=some (.cJ (.tuple []) S' k)/\f0 X em S' r (aV.filter λu=>decide (u.1≠w)) bq/\∀h,h≠r->F X S' h=F X j h:=by
 obtain⟨f,g,T,l⟩:=e;have al:eN X r=true:=ds I;have d:(aV.filter λu=>decide (u.1≠w)).Sublist aV:=List.filter_sublist;refine⟨Go.aC.aI X j r (some (.map ((aV.filter λu=>decide (u.1≠w)).map (fl em)) bq)), ?_,⟨aJ I,(d.map _).nodup g,(d.map _).nodup T,λu c=>l u (d.mem c)⟩,λh m=>ag I m⟩;cases b:eW aV w 0 with|none=>rw[P8 b];simp only[kx,sh,i,f,a.ok,cE,uh a,b,aC.setObj,al,dD]|some p=>obtain⟨E,v0⟩:=p;rw[<-Qg w aV E v0 g b];have c:(aV.eraseIdx E).map (fl em)=(aV.map (fl em)).eraseIdx E:=PV _ _ _;simp only[kx,sh,i,f,a.ok,cE,uh a,b,aC.setObj,al,dD,c]
def acK(seen:List Nat):∀aV:List (aM×y×Nat),fe seen (aV.map (fl em))=(aV.filter λu=> !gH u.2.2 seen).map (fl em):=by intro aV;induction aV with|nil=>rfl|cons u aV U=>rw[ZH,YR];have:fe seen (fl em u::aV.map (fl em))=a8 (gH u.2.2 seen) (fe seen (aV.map (fl em))) (fl em u::fe seen (aV.map (fl em))):=rfl;rw[this];cases e:gH u.2.2 seen with|true=>simp[U]|false=>simp[U]
def NX{a:Nat}:∀{aV:List (aM×y×Nat)},(∀u∈aV,u.2.2<a)->nJ a (aV.map (fl em))=true:=by
 intro aV;induction aV with
 |nil=>intro _;rfl|cons u aV U=>
  intro e;have c:=e u (Zp ..);have:Nat.blt (fl em u).2.2 a=true:=by simp[Nat.blt,fl];omega
  simp only[ZH,nJ,this,U (λx b=>e x (Zw _ b)),Z1]
def EB{a:Nat}{aV:List (aM×y×Nat)}(e:∀u∈aV,u.2.2<a)(b:aV≠[]):l0 a (aV.map (fl em))=true:=by
 cases aV with
 |nil=>exact absurd rfl b|cons u aV=>
  have c:=e u (Zp ..);have:Nat.blt (fl em u).2.2 a=true:=by simp[Nat.blt,fl];omega
  simp only[ZH,l0,this,Bool.true_or]
def Qq{C:ai}{j:B R}{r m a bq:Nat}{seen:List Nat}:∀{l:List (y×y×Nat)}{M:y}{S':B R},(M,S')∈qB C j r m a bq seen l->∃u∈l,M=.tuple [.zV,u.1,u.2.1]/\S'=aI C j r (some (.e7 (some m) a (seen++[u.2.2]) bq)):=by
 intro l;induction l with
 |nil=>intro M S' e;cases e|cons u l U=>
  intro M S' e;obtain⟨q,v,b⟩:=u;simp only[qB,Zq,YZ]at e;rcases e with ⟨rfl,rfl⟩|e
  ·exact⟨_,Zp ..,rfl,rfl⟩
  ·obtain⟨u,d,c⟩:=U e;exact⟨u,Zw _ d,c⟩
def f0.next{b:Nat}{seen:List Nat}{S:aY}(I:(o X).aD<=b)(c:f0 X em j r aV bq)(af:F X j b=some (.e7 (some r) bq seen bq))
 (C:(∀u∈aV,u.2.2∈seen)->S (.tuple [.zT]) j k)
 (t:∀u∈aV,u.2.2∉seen->S (.tuple [.zV,em u.1,u.2.1]) (Go.aC.aI X j b (some (.e7 (some r) bq (seen++[u.2.2]) bq))) k):
 n0 (iW X fB false j k (eY (.ptr b 0))) j k S:=by
 have al:eN X b=true:=ds I;have f:=acK (em:=em) seen aV;have m:=NX (em:=em) c.hD;have d:∀u,u∈aV.filter (λu=> !gH u.2.2 seen)↔u∈aV/\u.2.2∉seen:=by
  intro u;rw[Yb];constructor
  ·rintro⟨s,i⟩;refine⟨s,λe=> ?_⟩;rw[GO.2 e]at i;cases i
  ·rintro⟨s,i⟩;refine⟨s, ?_⟩;cases p:gH u.2.2 seen with|false=>rfl|true=>exact absurd (GO.1 p) i
 cases w:aV.filter (λu=> !gH u.2.2 seen)with
 |nil=>
  rw[w]at f d;have N:∀u∈aV,u.2.2∈seen:=λu n=>by
   by_cases e:u.2.2∈seen
   ·exact e
   ·have:=(d u).2 ⟨n,e⟩;cases this
  have G:(l0 bq (aV.map (fl em))||seen.isEmpty||(aV.map (fl em)).isEmpty)=true:=by cases aV with|nil=>simp|cons a aV=>rw[EB c.hD Zs];simp
  refine FS (v:=.tuple [.zT]) ?_ (C N);simp only[iW,eY,al,cE,af,c.at_,f,List.map_nil,m,G]
 |cons u l=>rw[w]at f d;have g:=(d u).1 (Zp ..);have hx:=EB (em:=em) c.hD (aV:=aV) (λe=>by rw[e]at g;cases g.1);cases l with|nil=>refine FT (v:=.tuple [.zV,em u.1,u.2.1]) (S':=Go.aC.aI X j b (some (.e7 (some r) bq (seen++[u.2.2]) bq))) (W:=k) ?_ (t u g.1 g.2);simp only[iW,eY,al,cE,af,c.at_,f,ZH,List.map_nil,fl,m,hx,Z1,aC.setObj,dD]|cons A l=>have n:iW X fB false j k (eY (.ptr b 0))=some (.fork (qB X j b r bq bq seen ((u::A::l).map (fl em)))):=(by simp only[iW,eY,al,cE,af,c.at_,f,ZH,m,hx,Z1]);rw[n];refine⟨⟨by simp[qB,fl],λM S' O=> ?_⟩⟩;obtain⟨V,p,rfl,rfl⟩:=Qq O;obtain⟨x,L,rfl⟩:=ZB.1 p;have:=(d x).1 L;exact t x this.1 this.2
def Sa(l:List Nat)(a:Nat):uF (l++[a])=some a:=by induction l with|nil=>rfl|cons b l U=>cases l with|nil=>rfl|cons c l=>exact U
def Qb{aV:List (aM×y×Nat)}(T:(aV.map λu=>u.2.2).Nodup){u:aM×y×Nat}(a:u∈aV):ma u.2.2 (aV.map (fl em))=some (fl em u):=by
 induction aV with
 |nil=>cases a|cons x aV U=>
  rw[ZH,YG]at T;rcases Zq.1 a with rfl|a
  ·simp[ma,fl]
  ·have b:¬x.2.2=u.2.2:=λe=>T.1 (e▸za a);rw[ZH,ma,er,Zi (show ¬(fl em x).2.2=u.2.2 from b)];exact U T.2 a
def f0.entry{b:Nat}{seen:List Nat}(a:f0 X em j r aV bq){u:aM×y×Nat}(c:u∈aV)(af:F X j b=some (.e7 (some r) bq (seen++[u.2.2]) bq)):qu X j (.ptr b 0)=some (.tuple [em u.1,u.2.1]):=by simp only[qu,sO,eY,af,Sa,a.at_,Qb a.born c,fl];simp
def HY(b:(o X).aD<=k)(a:f0 X em j r aV bq):xl X j k (.map r)=some (.cJ (.ptr k 0) (Go.aC.aI X j k (some (.e7 (some r) bq [] bq))) (k+1)):=by simp only[xl,a.at_,gg,ds b,cE,gQ,dD]
def uz(X:bf):r6 X y.str 9:=⟨uY,λj a b=>by rw[yY,pv],Gj⟩
def lI(X:bf):r6 X (y.int .i64) 3:=by
 refine⟨λq=>by kernel_rfl,λj a b=> ?_,λq=> ?_⟩
 ·have:f3 X j 20 3 (.Z a) (.Z b)=some (jX a b):=Zk;rw[this,qM]
 ·show(i1 .i64 .i64&&jX q q)=true;rw[qM];simp[i1]
end
def nr(v:ct):Int×cR:=(v.kind,v.d)
def ν(q:Nat)(t:ax->Option ct)(x:ax×Nat)(w:ax):((ia q t x) w).map nr=(t w).map nr:=by
 unfold ia;cases e:t x.1 with
 |none=>rfl|some v=>
  simp;split
  ·by_cases a:w=x.1
   ·subst a;simp[e,nr]
   ·grind
  ·rfl
def FQ{α:Type}(s:(ax->Option ct)->α->(ax->Option ct))(b:∀t x w,(s t x w).map nr=(t w).map nr):∀(l:List α) (t:ax->Option ct) (w:ax),(l.foldl s t w).map nr=(t w).map nr:=by intro l;induction l with|nil=>simp_all|cons a l U=>simp_all
def xB(g:GE)(w:ax):(dk g w).map nr=((g4 g).1 w).map nr:=
 FQ _ (λt x w=>FQ _ (λt h w=>ν _ _ _ _) _ _ _) _ _ _
section
variable{t es:ax->Option ct}
def HU:List ax:=[[110,111,100,101],[114,101,116,117,114,110,115],[118,97,114],[108,101,116],[116,101,108],[119,104,101,110],[110,111,116],[111,114],[120,111,114],[97,110,100],[112,114,101],[102,98,121],[105,102],[116,104,101,110],[101,108,115,101],[109,101,114,103,101],[116,114,117,101],[102,97,108,115,101]]
def aaT:∀w∈HU,w∈mu:=by decide
structure kl(X:bf):Prop where
 aD:2<X.aD
 at_:∀j,∃b aB,ay X j (.ptr 3 0)=some aB/\ca X j (λh=>h<X.aD) b aB 1 (cQ HU)
variable{X:bf}{j S' dU am ah:B R}{k W ak ar:Nat}{s:ax}
def PH:b0 X j .eql 138 true .nilIface .nilIface=some .zV:=Zk
def PI(b:Nat):b0 X j .eql 138 true (.iface 207 (.ptr b 0)) .nilIface=some .zT:=Zk
def E7(t:bW X){b:Nat}{aB:y}{P:Nat->Prop}{c5:List ax}{v:Bool}(I:ca X j P b aB 1 (cQ c5))(A:decide (s∈c5)=v):
 az X 48 [aB,.str s] j k (λM S' W=>M=.bool v/\aT X j k S' W) zW:=by
 refine z6 t (Mc ..) ?_;unfold DC;refine az.mono (S:=λM S' W=>(∃i:Int,M=.Z i/\decide (0<=i)=v)/\aT X j k S' W) (ab:=λ_ _ _=>False) ?_ ?_ (λ_ _ _ e=>e.elim)
 ·refine z6 t (JM ..) ?_;unfold Ce;have x:=I.len;have N:=I.many;rw[show(cQ c5).length=c5.length from by simp[cQ]]at x N;refine bh @x ⟨?_⟩;refine cG (λm z S' O=>∃(E:Nat),z.g 0=some aB/\z.g 1=some (.str s)/\z.g 7=some (.Z c5.length)/\z.g 8=some (.Z E)/\E+m=c5.length/\s∉c5.take E/\S'=j/\O=k)
   c5.length ⟨0,av,av,av,cW,Zo,Zs,rfl,rfl⟩ ?_
  rintro m z ah ar ⟨E,t0,t1,c,r,T0,n,rfl,rfl⟩;cases m with
  |zero=>have d:=zL E c5.length;rw[Zy Zo]at n;refine cb @r @c @d ⟨?_⟩;exact⟨⟨-1,rfl,by rw[<-A];simp[n]⟩,aT.refl _ _⟩|succ m=>
   have d:=zM E c5.length;have C:=zP E;obtain⟨w,p⟩:=zN c5 E;have l:=I.c0 E (by simp[cQ];omega);have g:=I.cell E [.str w] 0 (.str w) (by unfold cQ;rw[Zn,p];rfl) rfl;rw[ZF]at l;rw[ZF,ZL]at g;by_cases a:s=w
   ·have f:decide (s=w)=true:=(by simp[a]);have L:s∈c5:=a▸Zl p;refine cd @r @c @t1 @t0 @d @l (Za @g @f) ⟨?_⟩;exact⟨⟨E,rfl,by rw[<-A];simp[L]⟩,aT.refl _ _⟩
   have f:decide (s=w)=false:=(by simp[a]);refine cd @r @c @t1 @t0 @d @l (Za @g (Za @f @C)) ⟨?_⟩;exact⟨m,Zo,E+1,Y t0,Y t1,Y c,av,Zo,by rw[ZE,p];simp[n,a],rfl,rfl⟩
 ·rintro M am ak ⟨⟨i,rfl,af⟩,G⟩;refine br ⟨?_⟩;exact⟨by rw[<-af],G⟩
def Iu(f:bW X)(t:cD)(v:(o X).aD<=k):az X 143 [.agg (cI t)] j k (λM S' W=>M=.str (hW t)/\aT X j k S' W) zW:=by
 refine z6 f (Ks ..) ?_;unfold CF;have x:cI t=[.bool t.b,.bool t.s,.Z t.w]:=rfl;rw[x];refine br ⟨?_⟩;refine c6 (λam=>F X am k=zO [.bool t.b,.bool t.s,.Z t.w] 3/\aT X j k am (k+1)) ⟨aJ v,b8⟩ ?_;rintro am ⟨r,s⟩;refine(q3 f t Zo).Zm ?_;rintro M ah ar ⟨rfl,l⟩;have C:=l.le;have d:=s.trans l;have i:F X ah k=zO [.bool t.b,.bool t.s,.Z t.w] 3:=by rw[l.K _ Zo];exact r
 have b1:ay X ah (.ptr k 0)=some (.bool t.b):=by rw[aZ i];rfl
 have bS:ay X ah (.ptr k 1)=some (.bool t.s):=by rw[aZ i];rfl
 have bU:ay X ah (.ptr k 2)=some (.Z t.w):=by rw[aZ i];rfl
 cases b:gq t with
 |false=>refine br ⟨?_⟩;exact⟨by simp[hW,b],d⟩|true=>
  cases a:t.b with
  |true=>rw[a]at b1;refine bh @b1 ⟨?_⟩;exact⟨by simp[hW,b,a],d⟩|false=>
   rw[a]at b1;have L:1<=t.w/\t.w<=64:=(by simpa[gq,a]using b);obtain⟨w,n⟩:=Yn (by omega:0<=t.w);rw[n]at bU;have af:fz t.w.toNat=fz w:=(by rw[n];rfl);have G:(fz w).length<=2:=(by unfold fz;split<;>simp);have m:∀j c,b0 X j .add 9 true (.str [c]) (.str (fz w))=some (.str (c::fz w)):=λj c=>(by have:Nat.ble ([c].length+(fz w).length) 1000000000=true:=ds Zx;simp only[b0,oP,this,cE];rfl);cases g:t.s with
   |true=>rw[g]at bS;refine cb @b1 @bS @bU ⟨?_⟩;refine(wA f Zo).Zm ?_;rintro M p A ⟨rfl,rfl,rfl⟩;refine bh @m ⟨?_⟩;exact⟨by simp[hW,b,a,g,af],d⟩
   |false=>rw[g]at bS;refine cb @b1 @bS @bU ⟨?_⟩;refine(wA f Zo).Zm ?_;rintro M p A ⟨rfl,rfl,rfl⟩;refine bh @m ⟨?_⟩;exact⟨by simp[hW,b,a,g,af],d⟩
def RC{c:Nat}(e:fa c=true):c<256:=zK (Aj e)
def acG(g:e2 X)(N:gU X)(a:r8 s)(TY:(o X).aD<=k):
 az X 142 [.str s] j k (λM S' W=>M=.zT/\aT X j k S' W) zW:=by
 refine z6 g.tobW (Kq ..) ?_;unfold CE;cases s with
 |nil=>exact absurd rfl a.ne|cons c l=>
  cases l with
  |nil=>have A:decide (((1:Nat):Int)<2)=true:=rfl;refine bh @A ⟨?_⟩;exact⟨rfl,b8⟩|cons bU l=>
   have C:decide ((((bU::l).length+1:Nat):Int)<2)=false:=(by simp only[Zc,ZI];omega);have T5:hE (.str (c::bU::l)) (some (.Z 1)) none=some (.str (bU::l)):=xx (l:=1) .i64 Zs;have T2:h7 (.str (c::bU::l)) (.Z 0)=some (.int .u8 (c:Int)):=ph (i:=0) .i64 rfl;have T4:hB (.str (c::bU::l))=some (.Z ((c::bU::l).length:Int)):=n6 _;have v:=a.all;have T3:=a.len;have P:c::bU::l≠[98,111,111,108]:=λu=>(by have:=a.ty;rw[u]at this;cases this);have r:decide (c::bU::l=[98,111,111,108])=false:=(by simp only[Zc];exact P);have T6:=a.ty;generalize T8:bU::l=m at*;have G:decide ((c:Int)=105)=decide (c=105):=(by simp;omega);refine dh T4 ?_;refine bA @C @T5 ⟨?_⟩;refine(EJ g N (by simp at T3;omega) (λx d=>RC (v x (Zw _ d))) (Hf (λx d=>v x (Zw _ d))) Zo).Zm ?_;rintro M ah ar ⟨⟨aw,u,rfl,T1,d⟩,f⟩;have T9:=f.le;rcases T1 with rfl|⟨b,rfl⟩
   ·refine c9 @r @PH @T2 @G ⟨?_⟩;refine(Iu (k:=ar) (j:=ah) g.tobW ⟨false,decide (c=105),aw⟩ Zo).Zm ?_;rintro M T7 U0 ⟨rfl,O⟩;have ap:decide (c::m=hW ⟨false,decide (c=105),aw⟩)=false:=by
     simp only[Zc];intro e;cases p:gq ⟨false,decide (c=105),aw⟩with
     |false=>simp[hW,p]at e|true=>
      have TZ:1<=aw/\aw<=64:=(by simpa[gq]using p);obtain⟨n,rfl⟩:=Yn (by omega:0<=aw);simp only[hW,p,ZK,ZA,ZJ]at e;have t:=(List.cons.inj e).1;have L:=(List.cons.inj e).2;have T0:c=105\/c=117:=by
       by_cases w:c=105
       ·exact .inl w
       ·simp[w]at t;exact .inr t
      exact It T6 T0 (n:=n) Zo Zo (by simpa using L.symm)
    refine bh @ap ⟨?_⟩;exact⟨rfl,f.trans O⟩
   ·refine bA @r @PI ⟨?_⟩;exact⟨rfl,f⟩
def uL(d:e2 X)(A:gU X)(G:kl X)(a:r8 s)(O:(o X).aD<=k):
 az X 115 [.str s] j k (λM S' W=>M=.zV/\aT X j k S' W) zW:=by
 refine z6 d.tobW (JC ..) ?_;unfold Cf;have n:=a.ne;have p:decide (s=[])=false:=by simp[n]
 have T5:=a.len;have r:decide ((32:Int)<(s.length:Int))=false:=z1;obtain⟨c,m⟩:∃c,s.head?=some c:=by cases s with|nil=>exact absurd rfl n|cons c l=>exact⟨c,rfl⟩
 have L:=a.Og c m;have N:h7 (.str s) (.Z 0)=some (.int .u8 (c:Int)):=ph (i:=0) .i64 (by rw[<-List.head?_eq_getElem?];exact m);have T2:65<=c:=by simp[jZ]at L;omega
 have t:decide ((48:Int)<=(c:Int))=true:=zZ;have w:decide ((c:Int)<=57)=false:=z1;refine dE @p @r @N @t @w ⟨?_⟩;refine(Rs d.tobW a.all O).Zm ?_;rintro M am ak ⟨rfl,f⟩;have T3:=f.le;obtain⟨b,aB,T0,P⟩:=G.at_ am;have x:decide ((0:Int)<= -1)=false:=rfl;refine bA @T0 @x ⟨?_⟩;refine(E7 (k:=ak) d.tobW P (v:=false) (by simp;exact λe=>a.res (aaT _ e))).Zm ?_;rintro M ah ar ⟨rfl,g⟩;have T4:=g.le;refine br ⟨?_⟩;refine(acG (k:=ar) (j:=ah) d A a Zo).Zm ?_;rintro M T1 T6 ⟨rfl,C⟩;refine br ⟨?_⟩;exact⟨rfl,(f.trans g).trans C⟩
def BS:List y:=[.str [],.Z 0,.zT,.zT,.Z 0,.str [],.Z 0,.zT]
def QR(n:Nat):kx X j k .append [34,3] [.au,.Z (n:Int)]=a8 (Nat.ble n 1048576) (a8 (Nat.beq n 0) (some (.val .au)) (k4 X j k n 8 (fc n BS))) none:=Zk
def rx(n:Nat)(l:List y):(fc n l).length=n*l.length:=by induction n with|zero=>simp[fc]|succ n U=>simp[fc,U,Yj];omega
def Oz:jo X j .cap [34] [.au]=some (.Z 0):=Zk
def abC:fY X j 8 .au none (some (.Z 0)) none=some .au:=by rfl
def abF{bu n m:Nat}{c:B y}(e:F X j bu=some (.cells c m (.grow []))):fY X j 8 (.cy bu 0 n 8) none (some (.Z 0)) none=some (.cy bu 0 0 8):=by
 have d:hA (some (.Z 0)) (m/8) n=some 0:=by simp[hA,Th]
 have f:∀a b:Nat,hA none a b=some b:=λa b=>rfl;have g:j9 X j bu=some m:=by simp[j9,e]
 have i:Nat.blt 0 8=true:=rfl;simp only[fY,g,gd,ze,f,d];simp[i]
def u3{C:ai}{P:Nat->Prop}{b aO:Nat}{aB:y}{aR:List (List y)}(e:ca C j P b aB aO aR)(T4:0<aO):f9 C j aO aB=some (aR.length,aR.flatten):=by
 have A:=mb e.wide;have key:∀a J n:Nat,n=aR.length->(∀i,i<aR.length->some (y.ptr a (J+i*aO))=some (.ptr b (i*aO)))->gj C j a J (n*aO)=some aR.flatten:=by
  intro a J n d af;subst d;by_cases X:aR.length=0
  ·have:aR=[]:=ZY X;subst this;simp only[gj];cases g:cellsOf C j a with|none=>simp|some c=>simp[FY]
  ·have x:=af 0 Zo;simp at x;obtain⟨rfl,rfl⟩:=x;obtain⟨r,I⟩:=zN aR 0;have T6:=e.wide r (Zl I);obtain⟨v,T3⟩:=zN r 0;have l:=e.cell 0 r 0 v I T3;simp only[zF,ZL]at l;have T1:∃c,cellsOf C j a=some c:=by simp only[ay]at l;cases g:cellsOf C j a with|none=>rw[g]at l;cases l|some c=>exact⟨c,rfl⟩
   obtain⟨c,g⟩:=T1;simp only[gj,g];rw[<-A];refine Ad _ _ λE v G=> ?_;have L:=(Ze.1 G).1;rw[A]at L;have T2:E/aO<aR.length:=Nat.div_lt_of_lt_mul (by rw[zH];exact L);obtain⟨m,w⟩:∃r,aR[E/aO]? =some r:=⟨_,Zb T2⟩;have T7:=e.wide m (Zl w);have T5:E%aO<aO:=Nat.mod_lt _ T4;obtain⟨O,N⟩:∃v,m[E%aO]? =some v:=⟨_,Zb Zo⟩;have p:=e.cell (E/aO) m (E%aO) O w N;have s:=y9 aR e.wide (E/aO) m (E%aO) O w N;have T0:E/aO*aO+E%aO=E:=(by rw[zH];exact Nat.div_add_mod E aO);rw[T0]at p s;rw[G]at s;cases s;simp only[ay,g]at p;rw[ZQ];exact p
 have f:=e.len;cases aB with
 |slice a J n cap=>
  have d:n=aR.length:=by rw[kz]at f;simp at f;omega
  have af:∀i,i<aR.length->some (y.ptr a (J+i*aO))=some (.ptr b (i*aO)):=λi af=>by have:=e.c0 i af;rw[<-this];have u:Nat.blt i n=true:=(by simp[Nat.blt];omega);simp only[da,hU,pM,u,cE]
  have t:=key a J n d af;subst d;simp only[f9,t]
 |cy a J n T8=>
  have d:n=aR.length:=by rw[k8]at f;simp at f;omega
  have af:∀i,i<aR.length->some (y.ptr a (J+i*aO))=some (.ptr b (i*aO)):=λi af=>by have:=e.c0 i af;rw[<-this];have u:Nat.blt i n=true:=(by simp[Nat.blt];omega);simp only[da,hU,pM,u,cE]
  have t:=key a J n d af;subst d;simp only[f9,t]
 |au=>
  have d:(0:Int)=aR.length:=by rw[pn]at f;simpa using f
  have:aR=[]:=ZY Zo;subst this;rfl
 |_=>simp[c2]at f
def aa8{bu n r m:Nat}{c:B y}{x:y}{l:List y}{S:aY}(T:F X j bu=some (.cells c (m*8) (.grow [])))(al:(o X).aD<=bu)(d:f9 X j 8 x=some (r,l))(C:l.length=r*8)(I:n+r<=m)(w:Go.aC.ei l=true)
 (q:∀S' a,F X S' bu=some (.cells a (m*8) (.grow []))->(∀i,a.get i=if n*8<=i/\i<n*8+l.length then l[i-n*8]? else c.get i)->(∀h,h≠bu->F X S' h=F X j h)->S (.cy bu 0 (n+r) 8) S' k):
 d6 (fP X j k 8 (.cy bu 0 n 8) x) j k S:=by
 by_cases b:r=0
 ·subst b;have:l=[]:=ZY Zo;subst this;have f:fP X j k 8 (.cy bu 0 n 8) x=some (.val (.cy bu 0 n 8)):=by simp only[fP,d];simp[oQ,j9,T];omega
  refine HT f ?_;exact q j c T (λi=>by rw[Zi Zs]) (λ_ _=>rfl)
 ·have g:Nat.ble ((n+r)*8) (m*8)=true:=ds Zo;have p:Nat.ble (n*8+l.length) (m*8)=true:=ds Zo;have v:Nat.beq 8 8=true:=rfl;have s:eN X bu=true:=ds al;have t:fP X j k 8 (.cy bu 0 n 8) x=some (.cJ (.cy bu 0 (n+r) 8) (Go.aC.aI X j bu (some (.cells (ch c (n*8) l) (m*8) (.grow [])))) k):=by simp only[fP,d];rw[er,Zi b];simp only[kZ,p9,T,s,v,cE,g,gX,p,w,Z1,dD,hy,ZQ]
  refine d7 t ?_;refine q _ _ (aJ al) (λi=> ?_) (λh A=>ag al A);rw[fF]
def abw(r:bW X){n:Nat}(t:0<n)(v:n<=300000)(s:(o X).aD<=k):
 az X 144 [.au,.Z (n:Int)] j k (λM S' W=>M=.cy k 0 0 8/\(∃c,F X S' k=some (.cells c (n*8) (.grow [])))/\aT X j k S' W/\k<W) zW:=by
 refine z6 r (Ku ..) ?_;unfold CG;have d:decide ((n:Int)<0)=false:=z1;have f:decide ((0:Int)<(n:Int))=true:=zZ;have g:aH .sub (.Z 0) (.Z 0)=some (.Z 0):=ju Zo Zo;have i:aH .sub (.Z n) (.Z 0)=some (.Z n):=by rw[ju Zo Zo];simp
 have l:kx X j k .append [34,3] [.au,.Z (n:Int)]=some (.cJ (.cy k 0 n 8) (aI X j k (some (.cells (B.ofList (fc n BS) 0 .nil) (n*8) (.grow [])))) (k+1)):=by rw[QR,ds Zo,cE,er,Zi Zo];simp only[k4,ds (show n<=1048576 by omega),cE,gg,gQ,dD,rx];rfl
 refine eC @d @Oz @g @i @f @abC ⟨?_⟩;refine d7 l ?_;generalize a:aI X j k _=am;have b:F X am k=some (.cells (B.ofList (fc n BS) 0 .nil) (n*8) (.grow [])):=by rw[<-a,aJ s]
 have p:aT X j k am (k+1):=by rw[<-a];exact b8
 clear a;have m:=abF (n:=n) b;refine bh @m ⟨?_⟩;exact⟨rfl,⟨_,b⟩,p,Zo⟩
def oX(l:List (List cR)):Nat:=(l.map List.length).sum
def OV(U7:bW X){P:Nat->Prop}{f bb bn bH:Nat}{bK bM aB:y}{A aN Q:List cR}(UY:(o X).aD<=k)(US:f<k)(U8:F X j f=zO [bK,bM,aB] 3)
 (O:ca X j P bb bK 8 (A.map cV))(U5:ca X j P bn bM 8 (aN.map cV))(UO:ca X j P bH aB 8 (Q.map cV))(aU:∀h,P h->h<k)(UN:0<A.length+aN.length+Q.length)(UX:A.length+aN.length+Q.length<=300000):
 az X 117 [.slice f 0 3 3] j k (λM S' W=>∃b,ca X S' (bR k W) b M 8 ((A++(aN++Q)).map cV)/\aT X j k S' W) zW:=by
 refine z6 U7 (JG ..) ?_;unfold Ch;have UE:∀E,E<3->∃s b L,[bK,bM,aB][E]? =some s/\ca X j P b s 8 (L.map cV)/\([A,aN,Q]:List (List cR))[E]? =some L/\L.length<=300000:=by
  intro E T4
  match E,T4 with
  |0,_=>exact⟨bK,bb,A,rfl,O,rfl,Zo⟩|1,_=>exact⟨bM,bn,aN,rfl,U5,rfl,Zo⟩|2,_=>exact⟨aB,bH,Q,rfl,UO,rfl,Zo⟩
 have U9:∀S' E s,F X S' f=zO [bK,bM,aB] 3->[bK,bM,aB][E]? =some s->ay X S' (.ptr f E)=some s:=λS' E s e t=>by rw[aZ e,g5];exact t
 obtain⟨a,x⟩:∃a:Nat->Nat,∀E,a E=oX (([A,aN,Q]:List (List cR)).take E):=⟨_,λ_=>rfl⟩;obtain⟨g,p⟩:∃g:Nat->List cR,∀E,g E=(([A,aN,Q]:List (List cR)).take E).flatten:=⟨_,λ_=>rfl⟩;have UA:∀E L,([A,aN,Q]:List (List cR))[E]? =some L->g (E+1)=g E++L:=by intro E L e;rw[p,p,ZE,e];simp
 have T2:∀E,a E=(g E).length:=λE=>by rw[x,p];unfold oX;rw[List.length_flatten]
 have UF:∀E L,([A,aN,Q]:List (List cR))[E]? =some L->a (E+1)=a E+L.length:=by intro E L e;rw[T2,T2,UA E L e,ZG]
 have UC:∀E,a E<=A.length+aN.length+Q.length:=by
  intro E;rw[x]
  match E with
  |0=>simp[oX]|1=>simp[oX];omega|2=>simp[oX]|n+3=>simp[oX];omega
 have U6:a 3=A.length+aN.length+Q.length:=by rw[x];simp[oX];omega
 have U4:a 0=0:=by rw[x];simp[oX]
 have UK:g 0=[]:=by rw[p];rfl
 refine br ⟨?_⟩;refine cG (λm z S' C=>∃(E:Nat),z.g 0=some (.slice f 0 3 3)/\z.g 9=some (.slice f 0 3 3)/\z.g 10=some (.Z 3)/\z.g 11=some (.Z E)/\z.g 3=some (.Z (a E:Nat))/\E+m=3/\S'=j/\C=k)
  3 ⟨0,av,av,cW,cW,by refine o8 ⟨?_⟩;rw[U4];rfl,Zo,rfl,rfl⟩ ?_
 rintro m z am ak ⟨E,t0,t9,G,TY,t3,T4,rfl,rfl⟩;cases m with
 |succ m=>
  have d:decide ((E:Int)<3)=true:=zZ;have N:=zP E;obtain⟨s,b,L,t,T7,w,UQ⟩:=UE E Zo;have Ug:=UC E;have T3:da 1 (.slice f 0 3 3) (.Z E)=some (.ptr f E):=by rw[n3 _ Zo];simp
  have T0:=U9 _ E s U8 t;have UD:=T7.len;rw[Zj]at UD;have UJ:aH .add (.Z (a E:Nat)) (.Z L.length)=some (.Z ((a (E+1):Nat):Int)):=by rw[UF E L w,ck Zo Zo];simp
  have UI:decide (((a (E+1):Nat):Int)<0)=false:=z1;refine cd @TY @G @t9 @t3 @d @T3 (Za @T0 (Za @UD (Za @UJ (Za @UI @N)))) ⟨?_⟩;exact⟨m,Zo,E+1,Y t0,Y t9,Y G,av,av,Zo,rfl,rfl⟩
 |zero=>
  have d:decide ((E:Int)<3)=false:=z1;have T5:E=3:=Zo;subst T5;rw[U6]at t3;refine c9 @TY @G @t3 @d ⟨?_⟩;refine(abw U7 UN UX UY).Zm ?_;rintro M ah ar ⟨rfl,⟨bU,UL⟩,UP,UZ⟩;generalize Uf:A.length+aN.length+Q.length=aV at*;refine bh @t0 ⟨?_⟩;refine cG (λm z S' C=>∃(E:Nat) (c:B y),z.g 25=some (.slice f 0 3 3)/\z.g 26=some (.Z 3)/\z.g 27=some (.Z E)/\z.g 6=some (.cy ak 0 (a E) 8)/\E+m=3/\ak<C/\aT X am ak S' C
   /\F X S' ak=some (.cells c (aV*8) (.grow []))/\∀(i:Nat) v,((g E).map cV).flatten[i]? =some v->c.get i=some v)
   3 ⟨0,bU,av,cW,cW,by refine o8 ⟨?_⟩;rw[U4],Zo,UZ,UP,UL,λi v e=>by rw[UK]at e;simp at e⟩ ?_
  clear t0 t9 G TY t3;rintro m z U2 Ui ⟨E,Ue,UG,TZ,U0,U1,T4,Ua,l,U3,T1⟩;have UB:∀L:List cR,((L.map cV).flatten).length=L.length*8:=λL=>by have:=mb (aR:=L.map cV) (aO:=8) (by intro r I;obtain⟨d,_,rfl⟩:=ZB.1 I;rfl);rw[this,Zj]
  cases m with
  |zero=>have d:decide ((E:Int)<3)=false:=z1;have T5:E=3:=Zo;subst T5;rw[U6]at U1;refine c9 @U0 @TZ @U1 @d ⟨?_⟩;have UT:g 3=A++(aN++Q):=(by rw[p];simp);rw[UT]at T1;have T6:(A++(aN++Q)).length=aV:=(by simp;omega);refine⟨ak,⟨λ_=>⟨Zo,Zo⟩,by rw[Zj,T6];omega,by intro r I;obtain⟨d,_,rfl⟩:=ZB.1 I;rfl,by rw[k8,Zj,T6],λi af=>by rw[n4 _ (by rw[Zj,T6]at af;omega),ZQ],λi r Uc v af UV=> ?_⟩,l⟩;rw[aZ U3];exact T1 _ _ (y9 _ (by intro r I;obtain⟨d,_,rfl⟩:=ZB.1 I;rfl) i r Uc v af UV)|succ m=>
   have d:decide ((E:Int)<3)=true:=zZ;have N:=zP E;obtain⟨s,b,L,t,T7,w,UQ⟩:=UE E Zo;have T3:da 1 (.slice f 0 3 3) (.Z E)=some (.ptr f E):=(by rw[n3 _ Zo];simp);have UR:F X U2 f=zO [bK,bM,aB] 3:=(by rw[l.K _ US];exact U8);have T0:=U9 _ E s UR t;have T8:=u3 (T7.K (S':=U2) (λh T9=>l.K h (aU h T9))) Zd;rw[Zj]at T8;have O:=UF E L w;have U5:=UC (E+1);refine cd @U0 @TZ @UG @U1 @d @T3 @T0 ⟨?_⟩;refine aa8 U3 Zo T8 (UB L) Zo ?_ ?_
   ·clear T8;have:∀aV:List cR,Go.aC.ei (aV.map cV).flatten=true:=by intro aV;induction aV with|nil=>rfl|cons d aV U=>simpa[cV,Go.aC.ei,hV]using U
    exact this L
   ·intro Ud UH UM UU UW;refine bA @U0 @N ⟨?_⟩;refine⟨m,Zo,E+1,UH,Y UG,Y TZ,av,by refine o8 ⟨?_⟩;rw[O],Zo,Ua,⟨l.le,λh T9=>by rw[UW h Zo];exact l.K h T9⟩,UM,λi v af=> ?_⟩;rw[UA E L w]at af;simp only[zx,ZR]at af;have Ub:(((g E).map cV).flatten).length=a E*8:=(by rw[UB,T2]);rw[UU];by_cases Uh:i<a E*8
    ·rw[Zi Zo];rw[ZO Zo]at af;exact T1 i v af
    ·rw[ZT Zo,Ub]at af;have:=(Ze.1 af).1;rw[Zu ⟨Zo,Zo⟩];exact af
def abk{t:cD}(e:gq t=true):hW t≠[]:=by unfold hW;rw[Zu e];split<;>simp
def O1(n:e2 X)(T3:gU X)(T5:kl X){P:Nat->Prop}{b:Nat}{aB:y}{c:List cR}(UE:(o X).aD<=k)(s:ca X j P b aB 8 (c.map cV))(aU:∀h,P h->h<k)(U6:∀d∈c,lU gN d):
 az X 116 [aB] j k (λM S' W=>M=.zV/\aT X j k S' W) zW:=by
 refine z6 n.tobW (JE ..) ?_;unfold Cg;have T6:=s.len;have U3:=s.many;rw[Zj]at T6 U3;refine bh @T6 ⟨?_⟩;refine cG (λm z S' U7=>∃(E:Nat),z.g 5=some aB/\z.g 6=some (.Z c.length)/\z.g 7=some (.Z E)/\E+m=c.length/\aT X j k S' U7)
  c.length ⟨0,av,av,cW,Zo,aT.refl _ _⟩ ?_
 rintro m z am ak ⟨E,t5,t,v,U9,l⟩;have UA:=l.le;cases m with
 |zero=>have d:=zL E c.length;refine cb @v @t @d ⟨?_⟩;exact⟨rfl,l⟩|succ m=>
  have TY:=zM E c.length;have T2:=zP E;obtain⟨d,al⟩:=zN c E;have p:=U6 d (Zl al);have U1:=s.c0 E (by rw[Zj];omega);have T7:=(s.K (λh O=>l.K h (aU h O))).row (i:=E) (r:=cV d) Zd (by rw[Zn,al];rfl);have U0:cV d=[.str d.name,.Z d.at_,.bool d.ty.b,.bool d.ty.s,.Z d.ty.w,.str d.on,.Z d.cY,.bool d.no]:=rfl;rw[U0]at T7;refine eC @v @t @t5 @TY @U1 @T7 ⟨?_⟩;generalize L:aI X _ ak _=ah;have a:F X ah ak=zO [.str d.name,.Z d.at_,.bool d.ty.b,.bool d.ty.s,.Z d.ty.w,.str d.on,.Z d.cY,.bool d.no] 8:=by rw[<-L,aJ Zo];rfl
  have TZ:aT X j k ah (ak+1):=⟨Zo,λh O=>by rw[<-L];simp(disch:=omega) only[ag];exact l.K h O⟩;clear L;refine bh (aZ a) ⟨?_⟩;refine(uL (k:=ak+1) (j:=ah) n T3 T5 p.name Zo).Zm ?_;rintro M T0 U8 ⟨rfl,A⟩;have UB:=A.le;rw[<-A.K _ Zo]at a;have UF:cI d.ty=[.bool d.ty.b,.bool d.ty.s,.Z d.ty.w]:=rfl;have U2:b4 X T0 3 (.ptr ak 2)=some (.agg (cI d.ty)):=by rw[mn,aZ a,aZ a,aZ a];rfl
  refine bh @U2 ⟨?_⟩;refine(Iu (k:=U8) (j:=T0) n.tobW d.ty Zo).Zm ?_;rintro M g T8 ⟨rfl,C⟩;have UC:=C.le;rw[<-C.K _ Zo]at a;have T1:decide (hW d.ty=[])=false:=by simp[abk p.type]
  have T4:aT X j k g T8:=(TZ.trans A).trans C;by_cases f:d.on=[]
  ·have w:decide (d.on≠[])=false:=(by simp[f]);have x:decide (d.on=[])=true:=(by simp[f]);have U4:ay X g (.ptr ak 7)=some .zT:=(by rw[aZ a];exact congrArg (λb=>some (y.bool b)) (p.no f));have N:ay X g (.ptr ak 5)=some (.str d.on):=(by rw[aZ a];rfl);refine cd @T1 @N @w @x @U4 @v @T2 ⟨?_⟩;exact⟨m,Zo,E+1,Y t5,Y t,av,Zo,T4⟩
  ·have w:decide (d.on≠[])=true:=(by simp[f]);have x:decide (d.on=[])=false:=(by simp[f]);have N:ay X g (.ptr ak 5)=some (.str d.on):=(by rw[aZ a];rfl);refine cb @T1 @N @w ⟨?_⟩;refine(uL (k:=T8) (j:=g) n T3 T5 (p.on f) Zo).Zm ?_;rintro M T9 UG ⟨rfl,G⟩;have UD:=G.le;rw[<-G.K _ Zo]at a;have U5:ay X T9 (.ptr ak 5)=some (.str d.on):=(by rw[aZ a];rfl);refine c9 @U5 @x @v @T2 ⟨?_⟩;exact⟨m,Zo,E+1,Y t5,Y t,av,Zo,T4.trans G⟩
def TE(a:e2 X)(b:gU X)(d:kl X){w:ax}(g:r8 w)(f:(o X).aD<=k):
 az X 118 [.str w] j k (λM S' W=>M=.zT/\aT X j k S' W) zW:=by
 refine z6 a.tobW (JI ..) ?_;unfold Ci;refine(uL (k:=k) (j:=j) a b d g f).Zm ?_;rintro M ah ar ⟨rfl,c⟩;refine br ⟨?_⟩;exact⟨rfl,c⟩
def Sn(f:e2 X)(c:gU X)(v:kl X){P:Nat->Prop}{b:Nat}{aB:y}{c5:List ax}(O:(o X).aD<=k)(I:ca X j P b aB 1 (cQ c5))(aU:∀h,P h->h<k)(A:∀w∈c5,r8 w):
 az X 15 [aB,.func (.func 118) [] []] j k (λM S' W=>M=.zT/\aT X j k S' W) zW:=by
 refine z6 f.tobW (CV ..) ?_;unfold yb;refine az.mono (S:=λM S' W=>M=.Z (-1)/\aT X j k S' W) (ab:=λ_ _ _=>False) ?_ ?_ (λ_ _ _ e=>e.elim)
 ·refine z6 f.tobW (Dl ..) ?_;unfold yg;have p:=I.len;have x:=I.many;rw[show(cQ c5).length=c5.length from by simp[cQ]]at p x;refine bh @p ⟨?_⟩;refine cG (λm z S' G=>∃(E:Nat),z.g 0=some aB/\z.g 1=some (.func (.func 118) [] [])/\z.g 7=some (.Z c5.length)/\z.g 8=some (.Z E)/\E+m=c5.length/\aT X j k S' G)
   c5.length ⟨0,av,av,av,cW,Zo,aT.refl _ _⟩ ?_
  rintro m z am ak ⟨E,t0,t1,g,i,L,a⟩;have N:=a.le;cases m with|zero=>have d:=zL E c5.length;refine cb @i @g @d ⟨?_⟩;exact⟨rfl,a⟩|succ m=>have d:=zM E c5.length;have s:=zP E;obtain⟨w,r⟩:=zN c5 E;have n:=I.c0 E (by simp[cQ];omega);have l:=(I.K (λh C=>a.K h (aU h C))).cell E [.str w] 0 (.str w) (by unfold cQ;rw[Zn,r];rfl) rfl;rw[ZF]at n;rw[ZF,ZL]at l;refine cd @i @g @t1 @t0 @d @n @l ⟨?_⟩;refine(TE (k:=ak) (j:=am) f c v (A w (Zl r)) Zo).Zm ?_;rintro M ah ar ⟨rfl,t⟩;refine bA @i @s ⟨?_⟩;exact⟨m,Zo,E+1,Y t0,Y t1,Y g,av,Zo,a.trans t⟩
 ·rintro M am ak ⟨rfl,c⟩;refine br ⟨?_⟩;exact⟨rfl,c⟩
def TT:∀w<65,pz ((w:Nat):Int)=((2^w-1:Nat):Int):=by decide+kernel
def N1{n w:Nat}(f:w<=64)(c:n<18446744073709551616)(e:tO (n:Int) (pz (w:Int))=0):n<2^w:=by
 rw[TT w Zo]at e;unfold tO at e;have d:=(BitVec.ofInt 64 (n:Int)&&& ~~~ BitVec.ofInt 64 ((2^w-1:Nat):Int)).isLt;rw[IT Zo Zo]at e;have a:BitVec.ofInt 64 (n:Int)&&& ~~~ BitVec.ofInt 64 ((2^w-1:Nat):Int)=0#64:=BitVec.eq_of_toNat_eq (by rw[BitVec.toNat_ofNat];omega);rw[BitVec.ofInt_natCast,BitVec.ofInt_natCast]at a;apply Nat.lt_pow_two_of_testBit;intro i af;by_cases b:i<64
 ·have T:=congrArg (λv=>v.getLsbD i) a;simp only[BitVec.getLsbD_and,BitVec.getLsbD_not,BitVec.getLsbD_ofNat,b,YK,Bool.true_and,Nat.testBit_two_pow_sub_one,BitVec.getLsbD_zero]at T;have:decide (i<w)=false:=by simp;omega
  rw[this]at T;simpa using T
 ·exact Nat.testBit_lt_two_pow (ZX c (by
   have:(18446744073709551616:Nat)=2^64:=(by decide);rw[this];exact Nat.pow_le_pow_right Zd Zo))
def SB{t:cD}{n:Int}(e:x9 t n):n<2^(if t.s then t.w-1 else t.w).toNat:=by
 obtain⟨g,a,i,l⟩:=e;obtain⟨m,rfl⟩:=Yn i;have f:=wR g;have key:∀w:Nat,w<=64->tO (m:Int) (pz (w:Int))=0->(m:Int)<2^w:=λw f e=>by
  have:=N1 f Zo e;have a:((2^w:Nat):Int)=(2:Int)^w:=by simp
  rw[<-a];omega
 unfold mh at a;cases d:t.s with
 |true=>
  rw[Zu d]at a;rw[Zu rfl];by_cases b:t.w-1=0
  ·rw[Zu b]at a;have:(m:Int)=0:=(by simpa using a);rw[b,this];decide
  ·rw[Zi b]at a;obtain⟨w,c⟩:=Yn (by omega:0<=t.w-1);rw[c]at a ⊢;simp only[qP,Zt,Zf]at a;exact key w Zo a.2
 |false=>rw[Zi (by simp[d])]at a;rw[Zi Zs];obtain⟨w,c⟩:=Yn (by omega:0<=t.w);simp only[qP,Zt,Zf]at a;rw[c]at a ⊢;exact key w Zo a.2
def H5{n b:Int}(a:0<=n)(T:0<=b)(g:b<=64)(e:n<2^b.toNat):aH .shr (.int .u64 n) (.Z b)=some (.int .u64 0):=by
 have c:m5 b 0=false:=by rw[k6];simp;omega
 have d:min b.toNat IntKind.u64.bits=b.toNat:=by have:IntKind.u64.bits=64:=rfl;rw[this];omega
 have f:n.fdiv (2^b.toNat)=0:=by rw[Int.fdiv_eq_ediv_of_nonneg _ (by exact Int.le_of_lt (Int.lt_of_le_of_lt a e))];exact Int.ediv_eq_zero_of_lt a e
 simp only[aH,gF,cE,tL,c,ge,d,f];rfl
def SC(l:e2 X){P:Nat->Prop}{u:aX}{v:y}(w:(o X).aD<=k)(A:bB X j P u v)(aU:∀h,P h->h<k)(C:u.kind=1)(c:x9 u.ty u.n):
 az X 157 [v] j k (λM S' W=>M=.zV/\aT X j k S' W) zW:=by
 refine z6 l.tobW (KS ..) ?_;unfold CR;obtain⟨b,aB,bz,aF,rfl,T,a0,aL,bs,a3,a4,a5,fj,fO,ft,G,has⟩:=id A.open;have s:=aU b T;have f:=SB c;have N:=wR c.1;have p:decide (u.kind=1)=true:=by simp[C]
 have L:cI u.ty=[.bool u.ty.b,.bool u.ty.s,.Z u.ty.w]:=rfl;have t:b4 X j 3 (.ptr b 4)=some (.agg (cI u.ty)):=by rw[mn,a4,a5,fj];rfl
 cases g:u.ty.s with
 |true=>
  rw[g]at a5;rw[Zu g]at f;have x:aH .sub (.Z u.ty.w) (.Z 1)=some (.Z (u.ty.w-1)):=ju Zo Zo;have d:decide (u.ty.w-1=64)=false:=z1;have n:=H5 c.2.2.1 Zo Zo f;refine eC @a5 @fj @x @a0 @p @t ⟨?_⟩;refine(q3 (k:=k) (j:=j) l.tobW u.ty w).Zm ?_;rintro M am ak ⟨rfl,a⟩;have i:ay X am (.ptr b 7)=some (.int .u64 u.n):=by rw[a.df _ _ s];exact fO
  have m:gq u.ty=true:=c.1;rw[m];refine cb @d @i @n ⟨?_⟩;exact⟨rfl,a⟩
 |false=>
  rw[g]at a5;rw[Zi (by simp[g])]at f;refine dE @a5 @fj @a0 @p @t ⟨?_⟩;refine(q3 (k:=k) (j:=j) l.tobW u.ty w).Zm ?_;rintro M am ak ⟨rfl,a⟩;have i:ay X am (.ptr b 7)=some (.int .u64 u.n):=by rw[a.df _ _ s];exact fO
  have m:gq u.ty=true:=c.1;rw[m];by_cases r:u.ty.w=64
  ·have d:decide (u.ty.w=64)=true:=(by simp[r]);refine bh @d ⟨?_⟩;exact⟨rfl,a⟩
  ·have d:decide (u.ty.w=64)=false:=(by simp[r]);have n:=H5 c.2.2.1 Zo Zo f;refine cb @d @i @n ⟨?_⟩;exact⟨rfl,a⟩
def Tl(b:Nat):b0 X j .eql 40 false .bE (.ptr b 0)=some .zT:=Zk
def Oa(f:e2 X){P:Nat->Prop}{b:Nat}{aB:y}{c:List aX}{aF:List y}(I:ca X j P b aB 1 (aF.map λv=>[v]))(g:b3 X j P c aF):
 az X 156 [aB,.bE] j k (λM S' W=>M=.zT/\S'=j/\k<=W) zW:=by
 refine z6 f.tobW (KQ ..) ?_;unfold CQ;refine az.mono (S:=λM S' W=>M=.Z (-1)/\S'=j/\k<=W) (ab:=λ_ _ _=>False) ?_ ?_ (λ_ _ _ e=>e.elim)
 ·refine z6 f.tobW (K2 ..) ?_;unfold CZ;have i:=I.len;have G:=I.many;rw[Zj]at i G;refine bh @i ⟨?_⟩;refine cG (λm z S' L=>∃(E:Nat),z.g 0=some aB/\z.g 1=some .bE/\z.g 7=some (.Z aF.length)/\z.g 8=some (.Z E)/\E+m=aF.length/\S'=j/\k<=L)
   aF.length ⟨0,av,av,av,cW,Zo,rfl,Zo⟩ ?_
  rintro m z ah ar ⟨E,t0,t1,a,r,T1,rfl,l⟩;cases m with|zero=>have d:=zL E aF.length;refine cb @r @a @d ⟨?_⟩;exact⟨rfl,rfl,l⟩|succ m=>have d:=zM E aF.length;have s:=zP E;obtain⟨v,n⟩:=zN aF E;have T0:=g.len;obtain⟨u,A⟩:=zN c E;obtain⟨T2,p,C⟩:=g.get E u A;rw[n]at p;cases p;obtain⟨N,rfl,_,_⟩:=C.ptr;obtain⟨t,w,O⟩:=I.one n;refine cd @r @a @t1 @t0 @d @t (Za @w (Za @Tl @s)) ⟨?_⟩;exact⟨m,Zo,E+1,Y t0,Y t1,Y a,av,Zo,rfl,l⟩
 ·rintro M am ak ⟨rfl,rfl,x⟩;refine br ⟨?_⟩;exact⟨rfl,rfl,x⟩
def lP(q:Int):Option (Int×Bool×Bool×Bool):=
 if q=1 then some (0,false,true,true)else if q=2 then some (0,true,false,false)else if q=3\/q=4\/q=5 then some (1,false,false,false)else if q=6 then some (1,true,false,false)
 else if q=19\/q=20 then some (1,false,false,true)else if q=23 then some (3,false,false,false)else if q=24 then some (2,true,false,false)else if q=25 then some (-1,true,false,false)
 else if q=26 then some (1,false,true,false)else none
def jD(s:Int×Bool×Bool×Bool):List y:=[.Z s.1,.bool s.2.1,.bool s.2.2.1,.bool s.2.2.2]
structure mG(X:bf):Prop where
 at_:∀j,∃v,ay X j (.ptr 7 0)=some v/\∀q:Int,fb X j 3 (.agg [.Z 0,.zT,.zT,.zT]) v (.Z q) true=some (.tuple [.agg (jD ((lP q).getD (0,false,false,false))),.bool (lP q).isSome])
structure Ny(u:aX)(s:Int×Bool×Bool×Bool):Prop where
 oR:0<=s.1->(u.args.length:Int)=s.1
 Hc:s.2.1=true->r8 u.name
 wZ:s.2.1=false->u.name=[]
 acE:s.2.2.1=true->gq u.ty=true
 cg:s.2.2.1=false->u.ty=cg
 aD:s.2.2.2=false->u.n=0
def abx{u:aX}(e:pZ gN u):Ny u ((lP u.kind).getD (2,false,false,false)):=by
 have l:=e.a7;have m:=e.bl;have b:=e.oR;have g:=e.nm;have f:=e.wZ;have i:=e.ty;have c:=e.cg;have d:=e.aD;unfold kp at b;unfold lF at g f;unfold lG at i c;generalize u.kind=q at*;unfold lP;have a:q=1\/q=2\/(q=3\/q=4\/q=5)\/q=6\/(q=19\/q=20)\/q=23\/q=24\/q=25\/q=26\/(7<=q/\q<=18\/q=21\/q=22):=Zo;rcases a with a|a|a|a|a|a|a|a|a|a
 ·subst a;exact⟨λ_=>by have:=b 0 Zs;simp[this],λe=>by simp at e,λ_=>f Zo,λ_=>i Zo,λe=>by simp at e,λe=>by simp at e⟩
 ·subst a;exact⟨λ_=>by have:=b 0 Zs;simp[this],λ_=>g Zo,λe=>by simp at e,λe=>by simp at e,λ_=>c Zo,λ_=>d Zo Zo Zo⟩
 ·rw[Zi Zo,Zi Zo,Zu a];rw[Zi Zo,Zi Zo,Zu Zo]at b;exact⟨λ_=>by have:=b 1 rfl;simp[this],λe=>by simp at e,λ_=>f Zo,λe=>by simp at e,λ_=>c Zo,λ_=>d Zo Zo Zo⟩
 ·subst a;exact⟨λ_=>by have:=b 1 Zs;simp[this],λ_=>g Zo,λe=>by simp at e,λe=>by simp at e,λ_=>c Zo,λ_=>d Zo Zo Zo⟩
 ·rw[Zi Zo,Zi Zo,Zi Zo,Zi Zo,Zu a];rw[Zi Zo,Zi Zo,Zu Zo]at b;exact⟨λ_=>by have:=b 1 rfl;simp[this],λe=>by simp at e,λ_=>f Zo,λe=>by simp at e,λ_=>c Zo,λe=>by simp at e⟩
 ·subst a;exact⟨λ_=>by have:=b 3 Zs;simp[this],λe=>by simp at e,λ_=>f Zo,λe=>by simp at e,λ_=>c Zo,λ_=>d Zo Zo Zo⟩
 ·subst a;exact⟨λ_=>by have:=b 2 Zs;simp[this],λ_=>g Zo,λe=>by simp at e,λe=>by simp at e,λ_=>c Zo,λ_=>d Zo Zo Zo⟩
 ·subst a;exact⟨λe=>by simp at e,λ_=>g Zo,λe=>by simp at e,λe=>by simp at e,λ_=>c Zo,λ_=>d Zo Zo Zo⟩
 ·subst a;exact⟨λ_=>by have:=b 1 Zs;simp[this],λe=>by simp at e,λ_=>f Zo,λ_=>i Zo,λe=>by simp at e,λ_=>d Zo Zo Zo⟩
 ·rw[Zi Zo,Zi Zo,Zi Zo,Zi Zo,Zi Zo,Zi Zo,Zi Zo,Zi Zo,Zi Zo];rw[Zi Zo,Zi Zo,Zi Zo,Zi Zo]at b;exact⟨λ_=>by have:=b 2 rfl;simp[this],λe=>by simp at e,λ_=>f Zo,λe=>by simp at e,λ_=>c Zo,λ_=>d Zo Zo Zo⟩
structure BW(G:Prop):Prop where
 out:G
def ql{G a:Prop}(b:BW G->a)(c:G):a:=b ⟨c⟩
def On:b0 X j .neq 4 false .zT .zT=some .zT:=Zk
def Oo:b0 X j .neq 4 false .zV .zV=some .zT:=Zk
def acF:b0 X j .neq 52 false (.agg [.zT,.zT,.Z 0]) (.agg [.zT,.zT,.Z 0])=some .zT:=Zk
def aam(b:Nat):b0 X j .neq 40 true (.ptr b 0) .bE=some .zV:=Zk
set_option maxRecDepth 100000 in
def SP(T9:e2 X)(Ur:gU X)(Ut:kl X)(Uu:mG X){P:Nat->Prop}{u:aX}{v:y}(VW:(o X).aD<=k)(Ua:bB X j P u v)(aU:∀h,P h->h<k)(g:dv gN u):
 az X 146 [v] j k (λM S' W=>M=.zV/\aT X j k S' W) zW:=by
 refine z6 T9.tobW (Ky ..) ?_;unfold CI;rw[dv.eq]at g;obtain⟨g,Vc⟩:=g;have w:=abx g;obtain⟨b,aB,bz,aF,rfl,T,a0,aL,bs,a3,a4,a5,fj,fO,ft,UO,has⟩:=id Ua.open;have a:=aU b T;obtain⟨dg,Ux,Uy⟩:=Uu.at_ j;have Ub:=Uy u.kind;generalize T4:(lP u.kind).getD (2,false,false,false)=s at w;have V8:∀V:Int×Bool×Bool×Bool,jD V=[.Z V.1,.bool V.2.1,.bool V.2.2.1,.bool V.2.2.2]:=λ_=>rfl;rw[V8]at Ub;refine c8 @Ux @a0 @Ub ⟨?_⟩;refine dW (λc S' i=>c.g 0=some (.ptr b 0)/\c.g 3=some (.ptr (k+9) 0)/\aT X j k S' i/\k+9<i/\F X S' (k+9)=zO (jD s) 4) (λE t=> ?_) ?_
 ·cases U6:lP u.kind with|some V=>rw[U6]at T4;simp only[Yl]at T4;subst T4;simp only[Yl,Z0];refine br ⟨?_⟩;exact t _ _ _ ⟨av,av,b8,Zo,by rw[aJ Zo];rfl⟩|none=>rw[U6]at T4;simp only[Option.getD_none]at T4;subst T4;simp only[Option.getD_none,Z6];refine br ⟨?_⟩;exact t _ _ _ ⟨av,av,b8,Zo,by rw[aJ Zo];rfl⟩
 rintro z am ak ⟨t0,t3,T2,VX,UF⟩;have rd:∀S',Go.aC.F X S' (k+9)=zO (jD s) 4->ay X S' (.ptr (k+9) 0)=some (.Z s.1)/\ay X S' (.ptr (k+9) 1)=some (.bool s.2.1)/\ay X S' (.ptr (k+9) 2)=some (.bool s.2.2.1)/\ay X S' (.ptr (k+9) 3)=some (.bool s.2.2.2):=λS' e=>
  ⟨by rw[aZ e];rfl,by rw[aZ e];rfl,by rw[aZ e];rfl,by rw[aZ e];rfl⟩
 have VQ:=g.a7;have dx:=g.bl;have UX:decide (u.kind<1)=false:=z1;have UY:decide ((26:Int)<u.kind)=false:=z1;obtain⟨A,m,n,TZ⟩:=rd am UF;have U8:ay X am (.ptr b 0)=some (.Z u.kind):=by rw[T2.df _ _ a];exact a0
 have UB:ay X am (.ptr b 8)=some aB:=by rw[T2.df _ _ a];exact ft
 have Uc:=UO.len;have Uw:=has.len;rw[Zj,Uw]at Uc;have UP:∀h,P h->F X am h=F X j h:=λh TY=>T2.K h (aU h TY);have V0:=T2.le;apply ql
 ·intro VF;by_cases UL:0<=s.1;all_goals
   first
   |(
     have UC:decide ((0:Int)<=s.1)=true:=by simp[UL]
     have Uo:decide ((u.args.length:Int)≠s.1)=false:=by simp[w.oR UL]
     refine c8 @t0 @t3 (Za @U8 (Za @UX (Za @UY (Za @A (Za @UC (Za @UB (Za @Uc (Za @A @Uo)))))))) ⟨?_⟩)
   |(
     have UC:decide ((0:Int)<=s.1)=false:=by simp[UL]
     refine c8 @t0 @t3 (Za @U8 (Za @UX (Za @UY (Za @A (Za @UC @UB))))) ⟨?_⟩)
   refine(Oa (k:=ak+34) (j:=am) T9 (UO.K UP) (b3.K UP _ _ has)).Zm ?_;rintro M ah ar ⟨rfl,rfl,VS⟩;refine h5 ⟨?_⟩;refine dW (λc S' i=>c.g 0=some (.ptr b 0)/\c.g 3=some (.ptr (k+9) 0)/\aT X j k S' i/\k+9<i/\F X S' (k+9)=zO (jD s) 4) (λE t=> ?_) ?_
   ·refine br ⟨?_⟩;exact t _ _ _ ⟨Y t0,Y t3,T2.more Zo,Zo,UF⟩
   exact VF.out
 clear t0 t3 T2 UF A m n TZ U8 UB UP V0;rintro z C UR ⟨t0,t3,T8,VY,U2⟩;obtain⟨A,m,n,TZ⟩:=rd C U2;have V1:=T8.le;have U9:ay X C (.ptr b 2)=some (.str u.name):=by rw[T8.df _ _ a];exact bs
 have V5:s.2.1=true->decide (u.name≠[])=true:=λe=>by simp[(w.Hc e).ne]
 have V4:s.2.1=false->decide (u.name≠[])=false:=λe=>by simp[w.wZ e]
 have V7:(u.no=true/\decide (u.kind≠6)=false)\/(u.no=false/\decide ((0:Int)≠0)=false):=by cases U6:u.no with|true=>exact .inl ⟨rfl,by simp[g.no U6]⟩|false=>exact .inr ⟨rfl,rfl⟩
 apply ql
 ·intro VD;rcases Bool.eq_false_or_eq_true s.2.1 with gn|gn;all_goals
   first
   |(
     have T0:=V5 gn;rw[gn]at m;refine c8 @t0 @t3 (Za @m (Za @U9 (Za @T0 @Oo))) ⟨?_⟩;refine(uL (k:=UR+33) (j:=C) T9 Ur Ut (w.Hc gn) Zo).Zm ?_;rintro M U0 Uj ⟨rfl,UJ⟩;have VT:=UJ.le;have f:aT X j k U0 Uj:=T8.trans (UJ.gr Zo);have UN:k+9<Uj:=Zo;have L:F X U0 (k+9)=zO (jD s) 4:=by rw[UJ.K _ Zo];exact U2
     have UA:ay X U0 (.ptr b 3)=some (.bool u.no):=by rw[f.df _ _ a];exact a3
     have UT:ay X U0 (.ptr b 0)=some (.Z u.kind):=by rw[f.df _ _ a];exact a0)
   |(
     have T0:=V4 gn;rw[gn]at m;refine c8 @t0 @t3 (Za @m (Za @U9 (Za @T0 @On))) ⟨?_⟩;have f:aT X j k C (UR+33):=T8.more Zo;have UN:k+9<UR+33:=Zo;have L:F X C (k+9)=zO (jD s) 4:=U2;have UA:ay X C (.ptr b 3)=some (.bool u.no):=by rw[f.df _ _ a];exact a3
     have UT:ay X C (.ptr b 0)=some (.Z u.kind):=by rw[f.df _ _ a];exact a0)
   rcases V7 with ⟨Ud,UZ⟩|⟨Ud,UZ⟩;all_goals
    rw[Ud]at UA;refine c8 @t0 @t3 (Za @UA (Za @UT @UZ)) ⟨?_⟩;refine dW (λc S' i=>c.g 0=some (.ptr b 0)/\c.g 3=some (.ptr (k+9) 0)/\aT X j k S' i/\k+9<i/\F X S' (k+9)=zO (jD s) 4) (λE t=> ?_) ?_
    ·refine br ⟨?_⟩;exact t _ _ _ ⟨Y t0,Y t3,f.more Zo,Zo,L⟩
    exact VD.out
 clear t0 t3 T8 U2 A m n TZ U9 V1;rintro z p US ⟨t0,t3,N,V6,U3⟩;obtain⟨A,m,n,TZ⟩:=rd p U3;have V2:=N.le;have Vb:cI u.ty=[.bool u.ty.b,.bool u.ty.s,.Z u.ty.w]:=rfl;have U5:b4 X p 3 (.ptr b 4)=some (.agg (cI u.ty)):=by rw[mn,N.df _ _ a,N.df _ _ a,N.df _ _ a,a4,a5,fj];rfl
 apply ql
 ·intro VE;rcases Bool.eq_false_or_eq_true s.2.2.1 with gn|gn;all_goals
   first
   |(
     have UM:=w.acE gn;rw[gn]at n;refine c8 @t0 @t3 (Za @n @U5) ⟨?_⟩;refine(q3 (k:=US) (j:=p) T9.tobW u.ty Zo).Zm ?_;rintro M T5 Uk ⟨rfl,UK⟩;rw[UM];have VU:=UK.le;have f:aT X j k T5 Uk:=N.trans (UK.gr Zo);have UN:k+9<Uk:=Zo;have L:F X T5 (k+9)=zO (jD s) 4:=by rw[UK.K _ Zo];exact U3
     have UU:ay X T5 (.ptr b 7)=some (.int .u64 u.n):=by rw[f.df _ _ a];exact fO
     have U7:ay X T5 (.ptr (k+9) 3)=some (.bool s.2.2.2):=(rd T5 L).2.2.2)
   |(
     have UM:=w.cg gn;rw[gn]at n;have V9:cI u.ty=[.zT,.zT,.Z 0]:=by rw[UM];rfl
     rw[V9]at U5;refine c8 @t0 @t3 (Za @n (Za @U5 @acF)) ⟨?_⟩;have f:aT X j k p US:=N;have UN:k+9<US:=V6;have L:F X p (k+9)=zO (jD s) 4:=U3;have UU:ay X p (.ptr b 7)=some (.int .u64 u.n):=by rw[f.df _ _ a];exact fO
     have U7:ay X p (.ptr (k+9) 3)=some (.bool s.2.2.2):=(rd p L).2.2.2)
   rcases Bool.eq_false_or_eq_true s.2.2.2 with gp|gp;all_goals
    first
    |(
      have T0:decide ((0:Int)≠0)=false:=rfl;rw[gp]at U7;have Va:s.2.2.2=true:=gp)
    |(
      have T0:decide (u.n≠0)=false:=by simp[w.aD gp]
      rw[gp]at U7)
    refine c8 @t0 @t3 (Za @U7 (Za @UU @T0)) ⟨?_⟩;refine dW (λc S' i=>c.g 0=some (.ptr b 0)/\c.g 3=some (.ptr (k+9) 0)/\aT X j k S' i/\k+9<i/\F X S' (k+9)=zO (jD s) 4) (λE t=> ?_) ?_
    ·refine br ⟨?_⟩;exact t _ _ _ ⟨Y t0,Y t3,f.more Zo,Zo,L⟩
    exact VE.out
 clear t0 t3 N U3 A m n TZ V2 U5;rintro z T6 VI ⟨t0,t3,d,VZ,VP⟩;have VV:=d.le;have O:ay X T6 (.ptr b 0)=some (.Z u.kind):=by rw[d.df _ _ a];exact a0
 have UV:ay X T6 (.ptr b 7)=some (.int .u64 u.n):=by rw[d.df _ _ a];exact fO
 have UW:ay X T6 (.ptr b 8)=some aB:=by rw[d.df _ _ a];exact ft
 have UQ:∀h,P h->F X T6 h=F X j h:=λh TY=>d.K h (aU h TY);show bt _ _;by_cases U4:u.kind=1
 ·have G:decide (u.kind=1)=true:=by simp[U4]
  refine cb @t0 @O @G ⟨?_⟩;refine(SC (k:=VI) (j:=T6) T9 Zo (bB.K UQ _ _ Ua) (λh TY=>zK (aU h TY)) U4 (g.Hb U4)).Zm ?_;rintro M VO Vf ⟨rfl,Us⟩;exact⟨rfl,d.trans (Us.gr Zo)⟩
 have G:decide (u.kind=1)=false:=by simp[U4]
 by_cases UG:u.kind=19
 ·have T1:decide (u.kind=19)=true:=by simp[UG]
  have UD:decide (u.n<=63)=true:=by simp[(g.cf (.inl UG)).2]
  refine eC @t0 @O @G @T1 @UV @UD ⟨?_⟩;exact⟨rfl,d.more Zo⟩
 have T1:decide (u.kind=19)=false:=by simp[UG]
 by_cases UH:u.kind=20
 ·have T7:decide (u.kind=20)=true:=by simp[UH]
  have UD:decide (u.n<=63)=true:=by simp[(g.cf (.inr UH)).2]
  refine cd @t0 @O @G @T1 @T7 @UV @UD ⟨?_⟩;exact⟨rfl,d.more Zo⟩
 have T7:decide (u.kind=20)=false:=by simp[UH]
 by_cases UI:u.kind=21
 ·have U1:decide (u.kind=21)=true:=by simp[UI]
  obtain⟨l,r,Uv,T3⟩:=g.gP UI;obtain⟨ac,V3,Uz⟩:=has.get 0 l (by rw[Uv];rfl);obtain⟨VM,Um,Vh⟩:=(UO.K UQ).one V3;obtain⟨dL,Ui,VG,Ve,rfl,VR,b1,_,_,_,_,_,_,_,Un,Uh,Uf⟩:=(bB.K UQ _ _ Uz).open;have Ul:da 1 aB (.Z 0)=some (.ptr bz 0):=VM;rcases T3 with T3|⟨T3,x,Ue,VB⟩
  ·have UE:decide (l.kind=1)=true:=(by simp[T3]);refine cd @t0 @O @G @T1 @T7 @U1 (Za @UW (Za @Ul (Za @Um (Za @b1 @UE)))) ⟨?_⟩;exact⟨rfl,d.more Zo⟩
  ·have UE:decide (l.kind=1)=false:=(by simp[T3]);have Uq:decide (l.kind=4)=true:=(by simp[T3]);obtain⟨Vj,VC,VA⟩:=Uf.get 0 x (by rw[Ue];rfl);obtain⟨VJ,VL,Vg⟩:=Uh.one VC;obtain⟨Vi,rfl,Vd,VN⟩:=VA.ptr;have VK:da 1 Ui (.Z 0)=some (.ptr VG 0):=VJ;have Ug:=Uh.len;rw[Zj,Uf.len,Ue]at Ug;have VH:c2 Ui=some (.Z 1):=Ug;have ex:decide (x.kind=1)=true:=(by simp[VB]);have Up:decide ((1:Int)=1)=true:=rfl;refine cd @t0 @O @G @T1 @T7 @U1 (Za @UW (Za @Ul (Za @Um (Za @b1 (Za @UE (Za @Uq (Za @Un (Za @VH (Za @Up (Za @VK (Za @VL (Za @aam (Za @VN @ex))))))))))))) ⟨?_⟩;exact⟨rfl,d.more Zo⟩
 have U1:decide (u.kind=21)=false:=by simp[UI]
 refine eC @t0 @O @G @T1 @T7 @U1 ⟨?_⟩;exact⟨rfl,d.more Zo⟩
def Q9{q:Nat}{u a:aX}(e:eJ (q+1) u<=q)(g:a∈u.args):eJ q a+1<=q:=by
 have i:∀(l:List aX) (c:Nat),(∀a∈l,eJ q a<=l.foldl (λe a=>max e (eJ q a)) c)/\c<=l.foldl (λe a=>max e (eJ q a)) c:=by
  intro l;induction l with
  |nil=>intro c;exact⟨λ_ e=>by simp at e,Zg _⟩|cons b l U=>
   intro c;obtain⟨m,f⟩:=U (max c (eJ q b));refine⟨λx d=> ?_,ZD (Nat.le_max_left _ _) f⟩;rcases Zq.1 d with rfl|d
   ·exact ZD (Nat.le_max_right _ _) f
   ·exact m x d
 have n:=(i u.args 0).1 a g;have p:eJ (q+1) u=u.args.foldl (λe a=>max e (eJ q a)) 0+1:=rfl;omega
def Rb{q:Nat}{u:aX}:1<=eJ (q+1) u:=by have b:eJ (q+1) u=u.args.foldl (λe a=>max e (eJ q a)) 0+1:=rfl;omega
def IP{a1:eG}:∀{l:List aX}{a:aX},dK a1 l->a∈l->dv a1 a:=by
 intro l;induction l with
 |nil=>intro a _ e;cases e|cons b l U=>
  intro a e c;rw[dK]at e;rcases Zq.1 c with rfl|c
  ·exact e.1
  ·exact U e.2 c
structure oH(X:bf)(a cw dL:Nat)(d:Int)(j:B R):Prop where
 vV:∃c,F X j a=some (.cells c 1 .own)/\c.get 0=some (.Z d)
 xN:ay X j (.ptr cw 0)=some (.Z 0)
 look:ay X j (.ptr dL 0)=some (.func (.func 145) [] [.ptr a 0,.ptr cw 0,.ptr dL 0])
def oH.K{a cw dL:Nat}{d:Int}(e:oH X a cw dL d am)(q:∀h,h=a\/h=cw\/h=dL->F X ah h=F X am h):oH X a cw dL d ah:=by obtain⟨c,b,f⟩:=e.vV;exact⟨⟨c,by rw[q a (.inl rfl)];exact b,f⟩,zV (q cw (.inr (.inl rfl))) e.xN,zV (q dL (.inr (.inr rfl))) e.look⟩
set_option maxRecDepth 100000 in
def SH(T3:e2 X)(UB:gU X)(UC:kl X)(UF:mG X){P:Nat->Prop}{f cw dL di:Nat}(l:(o X).aD<=f)(UW:f<di)(Ue:cw<di)(Ua:dL<di)(T7:cw≠f)(T6:dL≠f)(aU:∀h,P h->h<di/\h≠f):
 ∀(q:Nat) (u:aX) (v:y) (j:B R) (k:Nat),q<=200->di<=k->eJ (q+1) u<=q->dv gN u->bB X j P u v->oH X f cw dL ((200-q:Nat):Int) j->
  az X 145 [v,.ptr f 0,.ptr cw 0,.ptr dL 0] j k (λM S' W=>M=.tuple []/\oH X f cw dL ((200-q:Nat):Int) S'/\k<=W/\∀h,h<k->h≠f->F X S' h=F X j h) zW:=by
 intro q;induction q with
 |zero=>intro u v j k _ _ e;have:=Rb (q:=0) (u:=u);omega|succ q U=>
  intro u v j k UZ Ud UJ G T8 t;refine z6 T3.tobW (Kw ..) ?_;unfold CH;obtain⟨b,aB,bz,aF,rfl,T,_,_,_,_,_,_,_,_,ft,C,has⟩:=id T8.open;obtain⟨c,U4,U8⟩:=t.vV;have UH:=aU b T;have U3:aH .add (.Z ((200-(q+1):Nat):Int)) (.Z 1)=some (.Z (200-q:Nat)):=by rw[ck Zo Zo,show((200-(q+1):Nat):Int)+1=((200-q:Nat):Int) by omega]
  refine c8 (aZ U4) @U8 @U3 ⟨?_⟩;generalize x:aI X j f _=am;have U5:∃T0,F X am f=some (.cells T0 1 .own)/\T0.get 0=some (.Z (200-q:Nat)):=⟨ch c 0 [.Z ((200-q:Nat):Int)],by rw[<-x,aJ l];rfl,nt c 0 _⟩;have a7:∀h,h≠f->F X am h=F X j h:=λh g=>by rw[<-x,ag l g]
  clear x;have UD:oH X f cw dL ((200-q:Nat):Int) am:=⟨U5,zV (a7 _ T7) t.xN,zV (a7 _ T6) t.look⟩;have UP:∀h,P h->F X am h=F X j h:=λh g=>a7 h (aU h g).2;have UI:=bB.K UP _ _ T8;refine bh @tb ⟨?_⟩;refine(SP (k:=k) (j:=am) T3 UB UC UF Zo UI (λh g=>zK (aU h g).1) G).Zm ?_;rintro M ah ar ⟨rfl,r⟩;have UL:=r.le;have T2:oH X f cw dL ((200-q:Nat):Int) ah:=UD.K (λh g=>r.K h (by rcases g with rfl|rfl|rfl<;>omega));obtain⟨bU,U6,U9⟩:=T2.vV;have U1:ay X ah (.ptr b 8)=some aB:=by rw[r.df _ _ Zo,bv,a7 _ UH.2, <-bv];exact ft
  have TY:=C.len;have T9:=has.len;rw[Zj,T9]at TY;have UN:=C.many;rw[Zj,T9]at UN;have U2:decide ((200:Int)<((200-q:Nat):Int))=false:=z1;refine dE (aZ U6) @U9 @U2 @U1 @TY ⟨?_⟩;refine cG (λm z S' UQ=>∃(E:Nat),z.g 1=some (.ptr f 0)/\z.g 2=some (.ptr cw 0)/\z.g 3=some (.ptr dL 0)/\z.g 12=some aB/\z.g 13=some (.Z u.args.length)/\z.g 14=some (.Z E)/\E+m=u.args.length
   /\oH X f cw dL ((200-q:Nat):Int) S'/\k<=UQ/\∀h,h<k->h≠f->F X S' h=F X j h)
   u.args.length ⟨0,av,av,av,av,av,cW,Zo,T2,UL,λh n i=>by rw[r.K h n,a7 h i]⟩ ?_
  rintro m z O UR ⟨E,t1,UU,t3,U0,L,N,UY,p,Ub,A⟩;cases m with
  |zero=>have d:=zL E u.args.length;obtain⟨T1,U7,UA⟩:=p.vV;have s:aH .sub (.Z (200-q:Nat)) (.Z 1)=some (.Z ((200-(q+1):Nat):Int)):=(by rw[ju Zo Zo,show((200-q:Nat):Int) -1=((200-(q+1):Nat):Int) by omega]);refine cd @N @L @t1 @d (aZ U7) @UA @s ⟨?_⟩;refine⟨rfl,⟨⟨ch T1 0 [.Z ((200-(q+1):Nat):Int)],by rw[aJ l];rfl,nt T1 0 _⟩,zV (ag l T7) p.xN,zV (ag l T6) p.look⟩,Zo,λh n i=>by rw[ag l i];exact A h n i⟩
  |succ m=>have d:=zM E u.args.length;have s:=zP E;obtain⟨a,T4⟩:=zN u.args E;obtain⟨w,UO,UG⟩:=has.get E a T4;have TZ:∀h,P h->F X O h=F X j h:=λh g=>A h (zK (aU h g).1) (aU h g).2;obtain⟨US,UT,Ug⟩:=(C.K TZ).one UO;have T5:=Zl T4;have UX:=Q9 UJ T5;have UM:=p.look;refine cd @N @L @U0 @t3 @d @US (Za @UT @UM) ⟨?_⟩;rw[dv.eq]at G;refine(U a w O UR Zo Zo Zo (IP G.2 T5) (bB.K TZ _ _ UG) p).Zm ?_;rintro M UV Uf ⟨rfl,UE,Uc,UK⟩;refine bA @N @s ⟨?_⟩;exact⟨m,Zo,E+1,Y t1,Y UU,Y t3,Y U0,Y L,av,Zo,UE,Zo,λh n i=>by rw[UK h Zo i];exact A h n i⟩
end
end
end Go.Proofs.YtehmapikajmjaaaGreatDoor
