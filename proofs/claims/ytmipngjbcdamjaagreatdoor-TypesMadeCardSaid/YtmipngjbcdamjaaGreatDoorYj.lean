/- Part of the proof of the last text; no conditions -/
import Derived.Test.YtmipngjbcdamjaaGreatDoorYi
set_option maxHeartbeats 8000000
set_option linter.all false
namespace Go.Proofs.YtmipngjbcdamjaaGreatDoor
open Go.Q Go.a6
noncomputable section
structure dQ where
 kind:Int
 at_:Int
 name:aT
 no:Bool
 ty:d7
 n:Int
 args:List (Option Nat)
 au:q
 aH:List Nat
def m6:Option Nat->q
 |none=> .bt
 |some c=> .ptr c 0
def dQ.cells(d:dQ):List q:=c2 d.kind d.at_ d.name d.no d.ty d.n d.au
structure dd(X:bQ)(S:F ac)(aD:dQ->Prop)(D:Nat->Prop)(ar:Nat->Option dQ)(b5:Nat->Nat):Prop where
 low:∀a,D a->(o X).aN<=a
 cell:∀b d,ar b=some d->D b/\∃c,H X S b=some (.cells c 9 .own)/\dF c d.cells
 arg:∀b d,ar b=some d->cT X S d.au 1 (d.args.map m6) d.aH
 a8:∀b d,ar b=some d->∀a∈d.aH,D a/\ar a=none
 own:∀b d f g,ar b=some d->ar f=some g->b≠f->∀a∈d.aH,a∉g.aH
 fY:∀b d c,ar b=some d->some c∈d.args->ar c≠none/\b5 c<b5 b
 ok:∀b d,ar b=some d->aD d
section
variable{X:bQ}{S B:F ac}{aD c0:dQ->Prop}{D bq:Nat->Prop}{ar hZ:Nat->Option dQ}{b5 nU:Nat->Nat}
def dd.R(e:dd X S aD D ar b5)(k:∀a,D a->H X B a=H X S a):dd X B aD D ar b5:=
 ⟨e.low,λb d j=>⟨(e.cell b d j).1,by rw[k b (e.cell b d j).1];exact(e.cell b d j).2⟩,λb d j=>(e.arg b d j).R λa c=>k a (e.a8 b d j a c).1,e.a8,e.own,e.fY,e.ok⟩
def dd.lift(e:dd X S aD D ar b5)(J:∀a,D a->bq a)(ap:∀a,bq a->(o X).aN<=a):dd X S aD bq ar b5:=
 ⟨ap,λb d j=>⟨J b (e.cell b d j).1,(e.cell b d j).2⟩,e.arg,λb d j a c=>⟨J a (e.a8 b d j a c).1,(e.a8 b d j a c).2⟩,e.own,e.fY,e.ok⟩
def dd.qy(e:dd X S aD D ar b5)(J:∀d,aD d->c0 d):dd X S c0 D ar b5:=⟨e.low,e.cell,e.arg,e.a8,e.own,e.fY,λb d j=>J d (e.ok b d j)⟩
def dd.up(e:dd X S aD D ar b5):dd X S aD D ar (λf=>b5 f+1):=⟨e.low,e.cell,e.arg,e.a8,e.own,λb d c j a=>⟨(e.fY b d c j a).1,Nat.succ_lt_succ (e.fY b d c j a).2⟩,e.ok⟩
def dd.union(e:dd X S aD D ar b5)(f:dd X S aD bq hZ nU)(s:∀a,D a->¬bq a):dd X S aD (λa=>D a\/bq a) (λa=>match ar a with|some d=>some d|none=>hZ a) (λa=>if (ar a).isSome then b5 a else nU a):=by
 have Z:∀b d,ar b=some d->hZ b=none:=λb d j=>by
  cases r:hZ b with
  |none=>rfl
  |some n=>exact absurd (f.cell b n r).1 (s b (e.cell b d j).1)
 have cs:∀b d,(match ar b with|some d=>some d|none=>hZ b)=some d->ar b=some d\/ar b=none/\hZ b=some d:=λb d j=>by
  cases J:ar b with
  |none=>rw[J]at j;exact .inr ⟨rfl,j⟩
  |some n=>rw[J]at j;exact .inl j
 have O:∀a,D a->hZ a=none:=λa g=>by
  cases r:hZ a with
  |none=>rfl
  |some n=>exact absurd (f.cell a n r).1 (s a g)
 have C:∀a,bq a->ar a=none:=λa g=>by
  cases r:ar a with
  |none=>rfl
  |some n=>exact absurd g (s a (e.cell a n r).1)
 refine⟨λa g=>g.elim (e.low a) (f.low a),λb d j=> ?_,λb d j=> ?_,λb d j a g=> ?_,λb d bb p j m z a g=> ?_,λb d c j x=> ?_,λb d j=> ?_⟩
 ·rcases cs b d j with j|⟨_,j⟩
  ·exact⟨.inl (e.cell b d j).1,(e.cell b d j).2⟩
  ·exact⟨.inr (f.cell b d j).1,(f.cell b d j).2⟩
 ·rcases cs b d j with j|⟨_,j⟩
  ·exact e.arg b d j
  ·exact f.arg b d j
 ·rcases cs b d j with j|⟨_,j⟩
  ·have:=e.a8 b d j a g
   exact⟨.inl this.1,by simp only[this.2];exact O a this.1⟩
  ·have:=f.a8 b d j a g
   exact⟨.inr this.1,by simp only[C a this.1];exact this.2⟩
 ·rcases cs b d j with j|⟨_,j⟩<;>rcases cs bb p m with m|⟨_,m⟩
  ·exact e.own b d bb p j m z a g
  ·exact λt=>s a (e.a8 b d j a g).1 (f.a8 bb p m a t).1
  ·exact λt=>s a (e.a8 bb p m a t).1 (f.a8 b d j a g).1
  ·exact f.own b d bb p j m z a g
 ·rcases cs b d j with j|⟨G,j⟩
  ·obtain⟨i,v⟩:=e.fY b d c j x
   obtain⟨w,i⟩:=Yb.1 i
   simp only[i,j,Ya,ZP]
   exact⟨Zs,v⟩
  ·obtain⟨i,v⟩:=f.fY b d c j x
   obtain⟨w,i⟩:=Yb.1 i
   have P:=C c (f.cell c w i).1
   simp only[i,P,G,Z4,ZR,ZM]
   exact⟨Zs,v⟩
 ·rcases cs b d j with j|⟨_,j⟩
  ·exact e.ok b d j
  ·exact f.ok b d j
def dd.one{b:Nat}{d:dQ}{c:F q}(ap:∀g,D g->(o X).aN<=g)(Y:H X S b=some (.cells c 9 .own))(i:dF c d.cells)(v:D b)(z:d.au= .aw)(m:d.args=[])(n:d.aH=[])(w:aD d)(r:Nat):dd X S aD D (λg=>if g=b then some d else none) (λ_=>r):=by
 have cs:∀a f,(if a=b then some d else none)=some f->a=b/\d=f:=λa f j=>by
  split at j
  ·rename_i J;exact⟨J,Yd j⟩
  ·cases j
 refine⟨ap,λa f j=> ?_,λa f j=> ?_,λa f j g p=> ?_,λa f bb s j t x=> ?_,λa f c j i=> ?_,λa f j=> ?_⟩
 ·obtain⟨rfl,rfl⟩:=cs a f j;exact⟨v,c,Y,i⟩
 ·obtain⟨rfl,rfl⟩:=cs a f j;rw[z,m,n];exact .inl (.inl ⟨rfl,rfl,rfl⟩)
 ·obtain⟨rfl,rfl⟩:=cs a f j;rw[n]at p;cases p
 ·obtain⟨rfl,rfl⟩:=cs a f j;exact absurd (cs bb s t).1.symm x
 ·obtain⟨rfl,rfl⟩:=cs a f j;rw[m]at i;cases i
 ·obtain⟨rfl,rfl⟩:=cs a f j;exact w
def dd.set{b:Nat}{d i:dQ}(e:dd X S aD D ar b5)(Y:ar b=some d)(J:∀a,D a->bq a)(ap:∀a,bq a->(o X).aN<=a)(z:∃c,H X B b=some (.cells c 9 .own)/\dF c i.cells)
 (Z:cT X B i.au 1 (i.args.map m6) i.aH)(x:∀a∈i.aH,bq a/\ar a=none/\a≠b/\(a∈d.aH\/¬D a))(C:∀c,some c∈i.args->ar c≠none/\b5 c<b5 b)
 (k:∀a,D a->a≠b->a∉d.aH->H X B a=H X S a)(T1:aD i):dd X B aD bq (λa=>if a=b then some i else ar a) b5:=by
 have cs:∀bb g,(if bb=b then some i else ar bb)=some g->bb=b/\i=g\/bb≠b/\ar bb=some g:=λbb g j=>by
  split at j
  ·rename_i J;exact .inl ⟨J,Yd j⟩
  ·rename_i J;exact .inr ⟨J,j⟩
 have T0:=(e.cell b d Y).1
 have cf:∀bb g,ar bb=some g->bb∉d.aH:=λbb g j T2=>by have:=(e.a8 b d Y bb T2).2;rw[j]at this;cases this
 refine⟨ap,λbb g j=> ?_,λbb g j=> ?_,λbb g j a m=> ?_,λbb g b4 t j G n a m=> ?_,λbb g c j r=> ?_,λbb g j=> ?_⟩
 ·rcases cs bb g j with ⟨rfl,rfl⟩|⟨n,f⟩
  ·exact⟨J _ T0,z⟩
  ·have:=e.cell bb g f
   exact⟨J _ this.1,by rw[k bb this.1 n (cf bb g f)];exact this.2⟩
 ·rcases cs bb g j with ⟨rfl,rfl⟩|⟨n,f⟩
  ·exact Z
  ·exact(e.arg bb g f).R λa m=>k a (e.a8 bb g f a m).1 (λv=>by have:=(e.a8 bb g f a m).2;rw[v,Y]at this;cases this) (e.own bb g b d f Y n a m)
 ·rcases cs bb g j with ⟨rfl,rfl⟩|⟨n,f⟩
  ·obtain⟨p,O,P,_⟩:=x a m
   exact⟨p,by rw[Zj P];exact O⟩
  ·have:=e.a8 bb g f a m
   exact⟨J a this.1,by rw[Zj (λv=>by rw[v,Y]at this;cases this.2)];exact this.2⟩
 ·have key:∀bb g,bb≠b->ar bb=some g->∀a∈i.aH,a∉g.aH:=λbb g n j a m s=>by
   rcases(x a m).2.2.2 with p|p
   ·exact e.own b d bb g Y j (λj=>n j.symm) a p s
   ·exact p (e.a8 bb g j a s).1
  rcases cs bb g j with ⟨rfl,rfl⟩|⟨T3,w⟩<;>rcases cs b4 t G with ⟨rfl,rfl⟩|⟨T4,f3⟩
  ·exact absurd rfl n
  ·exact key b4 t T4 f3 a m
  ·exact λs=>key bb g T3 w a s m
  ·exact e.own bb g b4 t w f3 n a m
 ·have up:∀c,ar c≠none->(if c=b then some i else ar c)≠none:=λc z=>by split<;>simp_all
  rcases cs bb g j with ⟨rfl,rfl⟩|⟨n,f⟩
  ·exact⟨up c (C c r).1,(C c r).2⟩
  ·exact⟨up c (e.fY bb g c f r).1,(e.fY bb g c f r).2⟩
 ·rcases cs bb g j with ⟨rfl,rfl⟩|⟨n,f⟩
  ·exact T1
  ·exact e.ok bb g f
def dd.add{b r:Nat}{d:dQ}{c:F q}(e:dd X S aD D ar b5)(J:∀a,D a->bq a)(ap:∀a,bq a->(o X).aN<=a)(T1:bq b)(C:¬D b)(Y:H X B b=some (.cells c 9 .own))(T3:dF c d.cells)
 (T2:cT X B d.au 1 (d.args.map m6) d.aH)(s:∀a∈d.aH,bq a/\¬D a/\a≠b)(T5:∀c,some c∈d.args->ar c≠none/\b5 c<r)
 (k:∀a,D a->H X B a=H X S a)(T4:aD d):dd X B aD bq (λa=>if a=b then some d else ar a) (λa=>if a=b then r else b5 a):=by
 have G:∀a,¬D a->ar a=none:=λa i=>by
  cases j:ar a with
  |none=>rfl
  |some g=>exact absurd (e.cell a g j).1 i
 have cs:∀bb g,(if bb=b then some d else ar bb)=some g->bb=b/\d=g\/bb≠b/\ar bb=some g:=λbb g j=>by
  split at j
  ·rename_i J;exact .inl ⟨J,Yd j⟩
  ·rename_i J;exact .inr ⟨J,j⟩
 refine⟨ap,λbb g j=> ?_,λbb g j=> ?_,λbb g j a i=> ?_,λbb g b4 p j O m a i=> ?_,λbb g c j z=> ?_,λbb g j=> ?_⟩
 ·rcases cs bb g j with ⟨rfl,rfl⟩|⟨m,f⟩
  ·exact⟨T1,c,Y,T3⟩
  ·have:=e.cell bb g f
   exact⟨J _ this.1,by rw[k bb this.1];exact this.2⟩
 ·rcases cs bb g j with ⟨rfl,rfl⟩|⟨m,f⟩
  ·exact T2
  ·exact(e.arg bb g f).R λa i=>k a (e.a8 bb g f a i).1
 ·rcases cs bb g j with ⟨rfl,rfl⟩|⟨m,f⟩
  ·obtain⟨P,Z,T0⟩:=s a i
   exact⟨P,by rw[Zj T0];exact G a Z⟩
  ·have:=e.a8 bb g f a i
   exact⟨J a this.1,by rw[Zj (λn:a=b=>C (by rw[<-n];exact this.1))];exact this.2⟩
 ·rcases cs bb g j with ⟨rfl,rfl⟩|⟨T6,w⟩<;>rcases cs b4 p O with ⟨rfl,rfl⟩|⟨T7,f3⟩
  ·exact absurd rfl m
  ·exact λv=>(s a i).2.1 (e.a8 b4 p f3 a v).1
  ·exact λv=>(s a v).2.1 (e.a8 bb g w a i).1
  ·exact e.own bb g b4 p w f3 m a i
 ·have x:=G b C
  rcases cs bb g j with ⟨rfl,rfl⟩|⟨m,f⟩
  ·have:=T5 c z
   have t:c≠bb:=λn=>this.1 (by rw[n];exact x)
   simp only[t,ZM,ZP];exact this
  ·have:=e.fY bb g c f z
   have t:c≠b:=λn=>this.1 (by rw[n];exact x)
   simp only[t,m,ZM];exact this
 ·rcases cs bb g j with ⟨rfl,rfl⟩|⟨m,f⟩
  ·exact T4
  ·exact e.ok bb g f
def cT.same{s:q}{an:Nat}{h:List q}{aH:List Nat}(e:cT X S s an h aH):s.cells=[s]/\d5 s=true/\q.same 30 s s=true:=by
 rcases e with e|⟨b,n,c,st,rfl,_⟩
 ·exact e.one
 ·exact⟨rfl,rfl,by simp[q.same]⟩
def dd.oM(e:dd X S aD D ar b5){b:Nat}{d:dQ}(Y:ar b=some d){i:Nat}{v:q}(g:d.cells[i]? =some v):W X S (.ptr b i)=some v:=by
 obtain⟨_,c,a,f⟩:=e.cell b d Y
 rw[aZ a,f i];exact g
def g3:bg:= .mk (-1) 0 [] false ck 0 []
def g7(ar:Nat->Option dQ):Nat->Option Nat->bg
 |0,_=>g3
 |k+1,A=>match A with
  |none=>g3
  |some b=>match ar b with
   |none=>g3
   |some d=> .mk d.kind d.at_ d.name d.no d.ty d.n (d.args.map (g7 ar k))
structure n4(d:dQ):Prop where
 bc:d.kind≠ -1
 nm:d.name∈ek
 aG:0<=d.n
 aL:d.n<18446744073709551616
 ea:d.args.length<=4
def lm:([]:aT)∈ek:=by decide
def t8:hy g3:=λx a=>by
 have:x=g3:=by simpa[g3,dH,ev]using a
 subst this
 exact⟨lm,Zd,Zd⟩
def A4(e:dd X S n4 D ar b5):∀(k:Nat) (A:Option Nat),(∀b,A=some b->ar b≠none/\b5 b<k)->0<k->bR X S D (g7 ar k A) (m6 A)/\hy (g7 ar k A):=by
 intro k
 induction k with
 |zero=>intro A _ e;exact absurd e Zd
 |succ k U=>
  intro A g _
  cases A with
  |none=>
   refine⟨?_,t8⟩
   show bR X S D g3 .bt
   unfold g3 bR
   exact .inl ⟨rfl,rfl⟩
  |some b=>
   obtain⟨Y,K⟩:=g b rfl
   obtain⟨d,m⟩:=Yb.1 Y
   have j:g7 ar (k+1) (some b)= .mk d.kind d.at_ d.name d.no d.ty d.n (d.args.map (g7 ar k)):=by simp only[g7,m]
   have n:=e.ok b d m
   obtain⟨w,c,z,O⟩:=e.cell b d m
   have t:=e.arg b d m
   have fY:∀A∈d.args,bR X S D (g7 ar k A) (m6 A)/\hy (g7 ar k A):=by
    intro A C
    cases A with
    |none=>
     cases k with
     |zero=>exact⟨by show bR X S D g3 .bt;unfold g3 bR;exact .inl ⟨rfl,rfl⟩,t8⟩
     |succ k=>exact U none (λ_ j=>by cases j) (Nat.succ_pos _)
    |some c=>
     have:=e.fY b d c m C
     exact U (some c) (λT2 j=>by cases j;exact⟨this.1,Zo⟩) Zo
   rw[j]
   refine⟨?_, ?_⟩
   ·obtain⟨bL,G⟩:=t.qp (P:=D) (by rw[Zn];have:=n.ea;omega) (λT1 Z=>(e.a8 b d m T1 Z).1)
    refine bR.of n.bc z (λi v r=>by rw[O i];exact r) w G (dt.of Zs λi j v p r=> ?_)
    rw[Zw]at p r
    cases g:d.args[i]? with
    |none=>rw[g]at p;cases p
    |some A=>
     rw[g]at p r
     cases p;cases r
     exact(fY A (Zg g)).1
   ·intro x f
    rw[mH]at f
    rcases Zz.1 f with rfl|f
    ·exact⟨n.nm,n.aG,n.aL⟩
    ·have key:∀h:List (Option Nat),(∀A∈h,hy (g7 ar k A))->∀x∈ev (h.map (g7 ar k)),mU x:=by
      intro h
      induction h with
      |nil=>intro _ x f;simp[ev]at f
      |cons a h T0=>
       intro s x f
       rw[ZS,ev]at f
       rcases Zr.1 f with f|f
       ·exact s a (Zl ..) x f
       ·exact T0 (λA g=>s A (Zi _ g)) x f
     exact key d.args (λA g=>(fY A g).2) x f
def fk(X:bQ)(S:F ac)(aD:dQ->Prop)(D:Nat->Prop)(v:q)(e:Nat):Prop:=∃ar b5 b,v= .ptr b 0/\dd X S aD D ar b5/\ar b≠none/\1<=b5 b/\b5 b<=e
def fk.R{v:q}{n:Nat}(e:fk X S aD D v n)(k:∀a,D a->H X B a=H X S a):fk X B aD D v n:=by
 obtain⟨ar,b5,b,c,d,f⟩:=e
 exact⟨ar,b5,b,c,d.R k,f⟩
def fk.lift{v:q}{n m:Nat}(e:fk X S aD D v n)(J:∀a,D a->bq a)(ap:∀a,bq a->(o X).aN<=a)(p:n<=m):fk X S aD bq v m:=by
 obtain⟨ar,b5,b,c,d,f,g,i⟩:=e
 exact⟨ar,b5,b,c,d.lift J ap,f,g,Zo⟩
end
end
open Go.Q
set_option maxRecDepth 100000
set_option maxHeartbeats 4000000
noncomputable section
variable (X : bQ) (S : F ac) (nx : Nat) (M ad : be) (a0 aE aW a3 a4 a5 dS dW dA : q)
def vL:Za0:=λa b c d e f _=>df (e+10) λe=>l (aY b) λg=>l (ao 1 g) λg=>l (W a d g) λg=>l (aY b) λh=>l (ao 0 h) λh=>l (W a d h) λh=>l (bK h) λh=>l (ag .geq g h) λg=>aq (λb c d=>N (b 0) λe=>l (aY e) λg=>l (ao 1 g) λg=>l (W a c g) λg=>l (ag .add g (.Z 1)) λg=>l (aY e) λe=>l (ao 1 e) λe=>l (bj a c 1 e g) λc=>df (d+15) λd=>N (b 0) λe=>l (aY e) λe=>l (ao 0 e) λe=>l (W a c e) λe=>N (b 0) λg=>l (aY g) λg=>l (ao 1 g) λg=>l (W a c g) λg=>l (ag .sub g (.Z 1)) λg=>l (bH 1 e g) λe=>l (W a c e) λa=>l (iQ .i64 a) λa=>N (b 1) λb=>l (ag .rem a b) λa=>f a c d) λa=>aA g (f (.Z 0) d e) (a (zC (bN [b,c]) 4 (.Z 0) 14 g) d e)
def B3:cl X 15 [a0,aE]=vL X a0 aE:=Zk
def B2:b9 X 15 2=true:=Zk
def vO:Za1:=λa b c d e f=>l (dz 9 [.str [],.str [],.str [],.str [],.str [],.str [],.str [],.str [],.str []] [(0,1,(.str [97])),(1,1,(.str [98])),(2,1,(.str [99])),(3,1,(.str [120,95,49])),(4,1,(.str [95])),(5,1,(.str [90,57])),(6,1,(.str [119,104,101,110,95])),(7,1,(.str [117,54,53])),(8,1,(.str [97,98,99,100,101,102,103,104,105,106,107,108,109,110,111,112,113,114,115,116,117,118,119,120,121,122,48,49,50,51,52,53]))] d) λg=>cb a c d g.1 g.2 λc d g=>l (bK c) λh=>aJ a 15 [b,h] d g (λb d f=>l (bH 1 c b) λb=>l (W a d b) λa=>e a d f) f
def B9:cl X 16 [a0]=vO X a0:=Zk
def B8:b9 X 16 1=true:=Zk
def vR:Za0:=λa b c d e f g=>aJ a 15 [b,c] d e (λd e h=>aq (λa b c=>N (a 5) λa=>f a b c) λf=>cC (λb c d e=>N (c 6) λh=>l (ag .gtr h (.Z 0)) λh=>aq (λc d e=>aq (λa c d=>N (a 6) λe=>l (ag .sub e (.Z 1)) λe=>b (I a 6 e) c d) λb=>df (e+12) λf=>N (c 0) λh=>N (c 0) λi=>N (c 0) λj=>l (cv [.str [],.Z 0,.zF,.zF,.Z 0,.str [],.Z 0,.zF] (e+10)) λk=>fM a d (e+10) k.1 k.2 λd e=>aJ a 16 [h] e f (λe f h=>aJ a 18 [] f h (λf h k=>aJ a 15 [i,.Z 8] h k (λh i k=>l (bH 3 f h) λf=>l (br a i 3 f) λh=>aJ a 15 [j,.Z 50] i k (λi j k=>l (cq [.str [],.Z 0,.zF,.zF,.Z 0,.str [],.Z 0,.zF] [(0,1,e),(2,3,h),(1,1,i)]) λe=>l (br a j 3 f) λf=>ez f (some h) (l (bj a j 8 d e) λe=>N (c 0) λf=>aJ a 15 [f,.Z 3] e k (λe f h=>l (ag .eql e (.Z 1)) λe=>aq (λc d e=>N (c 5) λf=>N (c 7) λg=>l (br a d 8 g) λg=>l (dz 1 [.str [],.Z 0,.zF,.zF,.Z 0,.str [],.Z 0,.zF] [(0,8,g)] e) λg=>cb a d e g.1 g.2 λd e g=>dx (d1 a e g 8 f d) e g λa d e=>b (I c 5 a) d e) λb=>aA e (N (c 0) λi=>aJ a 16 [i] f h (λf h i=>N (c 0) λj=>aJ a 15 [j,.Z 2] h i (λg h i=>l (ag .eql g (.Z 1)) λg=>l (ao 5 d) λj=>l (bj a h 1 j f) λf=>l (ao 7 d) λh=>l (bj a f 1 h g) λa=>b (zC c 7 d 27 e) a i) g) g) (b (zC c 7 d 27 e) f h)) g)) g) g) g) g) λa=>aA h (a (I c 12 h) d e) (f (I c 12 h) d e)) (zD (bN [b,c]) 4 .aw 5 .aw 6 d) e h) g
def Cb:cl X 17 [a0,aE]=vR X a0 aE:=Zk
def Ca:b9 X 17 2=true:=Zk
def vS:Za4:=λa b c d _=>l (cq [.zF,.zF,.Z 0] [(0,1,.zT),(2,1,(.Z 1))]) λe=>l (cq [.zF,.zF,.Z 0] [(2,1,(.Z 8))]) λf=>l (cq [.zF,.zF,.Z 0] [(1,1,.zT),(2,1,(.Z 8))]) λg=>l (cq [.zF,.zF,.Z 0] [(2,1,(.Z 1))]) λh=>l (cq [.zF,.zF,.Z 0] [(2,1,(.Z 64))]) λi=>l (cq [.zF,.zF,.Z 0] [(1,1,.zT),(2,1,(.Z 64))]) λj=>l (cq [.zF,.zF,.Z 0] [(1,1,.zT),(2,1,(.Z 1))]) λk=>l (cq [.zF,.zF,.Z 0] [(2,1,(.Z 13))]) λm=>l (dz 8 [.zF,.zF,.Z 0,.zF,.zF,.Z 0,.zF,.zF,.Z 0,.zF,.zF,.Z 0,.zF,.zF,.Z 0,.zF,.zF,.Z 0,.zF,.zF,.Z 0,.zF,.zF,.Z 0] [(0,3,e),(3,3,f),(6,3,g),(9,3,h),(12,3,i),(15,3,j),(18,3,k),(21,3,m)] c) λe=>cb a b c e.1 e.2 λa b c=>d a b c
def Cd:cl X 18 []=vS X:=Zk
def Cc:b9 X 18 0=true:=Zk
def vT:Za0:=λa b c d e f g=>df (e+14) λe=>l (ag .leq c (.Z 1)) λh=>b1 (λd i=>b1 (λd i=>b1 (λd i=>b1 (λd i=>b1 (λi j=>b1 (λi j=>b1 (λi j=>b1 (λi j=>b1 (λi j=>b1 (λd i=>bM (λd=>aq (λb c d=>N (b 0) λe=>aJ a 15 [e,.Z 26] c d (λc d e=>l (ag .add (.Z 1) c) λc=>N (b 0) λh=>aJ a 15 [h,.Z 100] d e (λd e h=>l (cq [.Z 0,.Z 0,.str [],.zF,.zF,.zF,.Z 0,.int .u64 0, .aw] [(0,1,c),(1,1,d)]) λd=>eR a e h d λd e h=>aq (λb c d=>aq (λa b c=>N (a 6) λa=>f a b c) λe=>cC (λb c d f=>N (c 8) λh=>N (c 7) λi=>l (ag .lss h i) λh=>aq (λc d e=>aq (λa c d=>N (a 8) λe=>l (ag .add e (.Z 1)) λe=>b (I a 8 e) c d) λb=>df (e+14) λf=>N (c 6) λh=>N (c 6) λi=>l (aY i) λi=>l (ao 8 i) λi=>l (W a d i) λj=>N (c 0) λk=>N (c 1) λm=>l (ag .sub m (.Z 1)) λm=>aJ a 19 [k,m] d f (λd f g=>l (dz 1 [.bt] [(0,1,d)] (e+9)) λd=>fM a f (e+9) d.1 d.2 λd e=>l (W a e i) λf=>ez f (some j) (dx (d1 a e g 1 j d) e g λd e f=>l (aY h) λg=>l (ao 8 g) λg=>l (bj a e 1 g d) λa=>b c a f)) g) λa=>aA h (a (I c 128 h) d f) (e (I c 128 h) d f)) (I b 8 (.Z 0)) c d) λi=>l (ag .eql c (.Z 1)) λj=>aq i λi=>aA j (N (b 0) λb=>aJ a 39 [b] e h (λa b c=>f a b c) g) (l (ag .eql c (.Z 2)) λk=>aq i λi=>aA k (N (b 0) λb=>aJ a 16 [b] e h (λb c d=>aJ a 38 [b] c d (λa b c=>f a b c) g) g) (l (ag .eql c (.Z 3)) λf=>aq (λb c d=>N (b 49) λe=>aq i λf=>aA e (f (I b 7 (.Z 1)) c d) (N (b 39) λe=>l (ag .eql e (.Z 6)) λe=>aq f λf=>aA e (N (b 6) λh=>N (b 6) λi=>N (b 0) λj=>aJ a 16 [j] c d (λc d j=>N (b 0) λk=>aJ a 15 [k,.Z 2] d j (λd g j=>l (ag .eql d (.Z 1)) λd=>l (aY h) λh=>l (ao 2 h) λh=>l (bj a g 1 h c) λc=>l (aY i) λg=>l (ao 3 g) λg=>l (bj a c 1 g d) λa=>f (zC b 53 e 7 (.Z 1)) a j) g) g) (N (b 39) λh=>l (ag .eql h (.Z 19)) λh=>aq (λb c d=>N (b 66) λe=>aq f λf=>aA e (N (b 6) λe=>N (b 0) λh=>aJ a 15 [h,.Z 64] c d (λc d g=>l (iQ .u64 c) λc=>l (aY e) λe=>l (ao 7 e) λe=>l (bj a d 1 e c) λa=>f (I b 7 (.Z 1)) a g) g) (N (b 39) λe=>l (ag .eql e (.Z 21)) λe=>aq f λf=>aA e (N (b 6) λh=>N (b 0) λi=>aJ a 39 [i] c d (λc d i=>l (dz 1 [.bt] [(0,1,c)] i) λc=>cb a d i c.1 c.2 λc d i=>l (aY h) λh=>l (ao 8 h) λh=>l (bj a d 1 h c) λc=>N (b 0) λd=>aJ a 15 [d,.Z 2] c i (λc d h=>l (ag .eql c (.Z 1)) λc=>aq (λa b c=>f (I a 7 (.Z 1)) b c) λf=>aA c (df (h+13) λh=>N (b 6) λi=>l (aY i) λi=>l (ao 8 i) λi=>l (W a d i) λj=>N (b 6) λk=>l (aY k) λk=>l (ao 8 k) λk=>l (W a d k) λk=>l (bH 1 k (.Z 0)) λk=>l (W a d k) λk=>aJ a 40 [.Z 4,k] d h (λd g h=>l (bH 1 j (.Z 0)) λk=>l (W a g i) λi=>ez i (some j) (l (bj a g 1 k d) λa=>f (zC b 75 e 85 c) a h)) g) (f (zC b 75 e 85 c) d h)) g) g) (N (b 39) λh=>l (ag .eql h (.Z 23)) λh=>aq f λf=>aA h (f (zD b 75 e 98 h 7 (.Z 3)) c d) (N (b 39) λi=>l (ag .eql i (.Z 24)) λi=>aq f λf=>aA i (N (b 6) λj=>N (b 0) λk=>aJ a 16 [k] c d (λc d g=>l (aY j) λj=>l (ao 2 j) λj=>l (bj a d 1 j c) λa=>f (zD b 75 e 98 h 100 i) a g) g) (N (b 39) λj=>l (ag .eql j (.Z 25)) λj=>aq f λf=>aA j (N (b 6) λk=>N (b 0) λm=>aJ a 15 [m,.Z 4] c d (λc d m=>N (b 0) λn=>aJ a 16 [n] d m (λd g m=>l (aY k) λk=>l (ao 2 k) λk=>l (bj a g 1 k d) λa=>f (I (zE b 75 e 98 h 100 i 107 j) 7 c) a m) g) g) (N (b 39) λk=>l (ag .eql k (.Z 26)) λk=>aq f λf=>aA k (df (d+10) λd=>N (b 6) λm=>N (b 0) λn=>aJ a 18 [] c d (λc d o=>aJ a 15 [n,.Z 8] d o (λd g n=>l (bH 3 c d) λc=>l (br a g 3 c) λc=>l (aY m) λd=>l (ao 4 d) λd=>l (bj a g 3 d c) λa=>f (zC (zE b 75 e 98 h 100 i 107 j) 116 k 7 (.Z 1)) a n) g) g) (f (I (zE b 75 e 98 h 100 i 107 j) 116 k) c d))))))) λa=>aA h (a (zC b 53 e 66 h) c d) (N (b 39) λf=>l (ag .eql f (.Z 20)) λf=>a (zD b 53 e 66 h 66 f) c d)))) λa=>aA f (a (zD (zE b 5 c 6 d 7 (.Z 2) 39 c) 40 j 44 k 49 f) e h) (l (ag .eql c (.Z 4)) λg=>aq a λa=>aA g (a (zE (zE b 5 c 6 d 7 (.Z 2) 39 c) 40 j 44 k 49 f 49 g) e h) (l (ag .eql c (.Z 5)) λi=>a (I (zE (zE b 5 c 6 d 7 (.Z 2) 39 c) 40 j 44 k 49 f 49 g) 49 i) e h))))) g) g) λh=>aA d (aJ a 15 [b,.Z 2] i e (λe h i=>l (ag .eql e (.Z 0)) λe=>aq (λb c d=>N (b 0) λb=>aJ a 39 [b] c d (λa b c=>f a b c) g) λj=>aA e (aJ a 16 [b] h i (λb c d=>aJ a 38 [b] c d (λa b c=>f a b c) g) g) (j (zD (bN [b,c]) 4 .bt 22 d 25 e) h i)) g) (h (zC (bN [b,c]) 4 .bt 22 d) i e)) λa=>aA h (a .zT) (a d)) λa=>ae false h (l (ag .geq d i) λb=>a b j) (a Q.undef j)) λa=>ae false h (l (bK i) λb=>a b j) (a Q.undef j)) λb=>ae false h (l (W a j i) λa=>b a j) (b Q.undef j)) λa=>ae false h (l (ao 0 i) λb=>a b j) (a Q.undef j)) λa=>ae false h (l (aY i) λb=>a b j) (a Q.undef j)) λa=>ae false h (a b i) (a Q.undef i)) λb=>ae false h (l (W a i d) λa=>b a i) (b Q.undef i)) λa=>ae false h (l (ao 1 d) λb=>a b i) (a Q.undef i)) λa=>ae false h (l (aY d) λb=>a b i) (a Q.undef i)) λa=>ae false h (a b d) (a Q.undef d)
def Cf:cl X 19 [a0,aE]=vT X a0 aE:=Zk
def Ce:b9 X 19 2=true:=Zk
def v7:Za1:=λa b c d e _=>l (cq [.Z 0,.Z 0,.str [],.zF,.zF,.zF,.Z 0,.int .u64 0, .aw] [(0,1,(.Z 2)),(2,1,b)]) λb=>eR a c d b λa b c=>e a b c
def Cx:cl X 38 [a0]=v7 X a0:=Zk
def Cw:b9 X 38 1=true:=Zk
def v8:Za1:=λa b c d e f=>aJ a 18 [] c d (λc d g=>aJ a 15 [b,.Z 8] d g (λd g h=>l (bH 3 c d) λc=>l (br a g 3 c) λc=>l (cv [.zF,.zF,.Z 0] h) λd=>cb a g h d.1 d.2 λd g h=>l (bj a g 3 d c) λc=>aJ a 15 [b,.Z 200] c h (λc g h=>l (iQ .u64 c) λc=>l (ao 2 d) λi=>l (W a g i) λi=>l (ao 1 d) λj=>l (W a g j) λj=>aq (λb c d=>N (b 5) λg=>l (ag .lss g (.Z 8)) λg=>aq (λb c d=>N (b 5) λg=>l (ag .gtr g (.Z 8)) λg=>aj (λc d h=>aj (λc d f=>aj (λc d f=>bM (λc=>aq (λb c d=>N (b 3) λf=>l (br a c 3 f) λf=>N (b 4) λb=>l (cq [.Z 0,.Z 0,.str [],.zF,.zF,.zF,.Z 0,.int .u64 0, .aw] [(0,1,(.Z 1)),(4,3,f),(7,1,b)]) λb=>eR a c d b λa b c=>e a b c) λa=>aA c (N (b 5) λe=>l (ag .shl (.int .u64 1) e) λe=>l (ag .sub e (.int .u64 1)) λe=>N (b 4) λg=>l (ag .sub e g) λe=>a (zC b 33 c 4 e) d f) (a (I b 33 c) d f)) λa=>aA g (a c) (a .zF)) λa=>ae true g (l (ag .eql c (.Z 0)) λb=>a b d f) (a Q.undef d f)) λb=>ae true g (aJ a 15 [c,.Z 3] d h (λa c d=>b a c d) f) (b Q.undef d h)) λa=>ae true g (N (b 0) λb=>a b c d) (a Q.undef c d)) λa=>aA g (N (b 4) λe=>N (b 5) λf=>l (ag .shl (.int .u64 1) f) λf=>l (ag .sub f (.int .u64 1)) λf=>l (ag .and e f) λe=>a (zC b 21 g 4 e) c d) (a (I b 21 g) c d)) λa=>aA j (l (ag .sub i (.Z 1)) λe=>a (zC (zE (bN [b]) 2 .bt 3 d 4 c 5 i) 17 j 5 e) g h) (a (I (zE (bN [b]) 2 .bt 3 d 4 c 5 i) 17 j) g h)) f) f) f
def Cz:cl X 39 [a0]=v8 X a0:=Zk
def Cy:b9 X 39 1=true:=Zk
def wa:Za0:=λa b c d e f _=>l (dz 1 [.bt] [(0,1,c)] e) λc=>cb a d e c.1 c.2 λc d e=>l (cq [.Z 0,.Z 0,.str [],.zF,.zF,.zF,.Z 0,.int .u64 0, .aw] [(0,1,b),(8,1,c)]) λb=>eR a d e b λa b c=>f a b c
def CD:cl X 40 [a0,aE]=wa X a0 aE:=Zk
def CC:b9 X 40 2=true:=Zk
def wk:Za0:=λa b c d e f g=>l (bK b) λh=>l (jX a d .min [3,3] [h,.Z 400]) λh=>l (ii a d 1 b none (some h) none) λh=>l (cq [.aw,.Z 0] [(0,1,h)]) λh=>eR a d e h λd e h=>l (cq [.aw] []) λi=>eR a e h i λe h i=>aq (λb c d=>N (b 1) λe=>l (ag .gtr e (.int .u8 0)) λe=>aq (λa b c=>N (a 6) λa=>f a b c) λf=>aA e (N (b 6) λh=>N (b 5) λi=>N (b 1) λj=>l (iQ .i64 j) λj=>aJ a 20 [h,i,j] c d (λ_ a c=>f (I b 87 e) a c) g) (f (I b 87 e) c d)) λf=>cC (λb c d e=>N (c 7) λh=>N (c 5) λi=>aJ a 15 [i,.Z 3] d e (λd e i=>l (ag .leq h d) λd=>aq (λc d e=>aq (λa c d=>N (a 7) λe=>l (ag .add e (.Z 1)) λe=>b (I a 7 e) c d) λb=>N (c 5) λf=>aJ a 16 [f] d e (λd e f=>N (c 5) λh=>aJ a 17 [h,.Z 3] e f (λe f h=>N (c 5) λi=>aJ a 17 [i,.Z 2] f h (λf h i=>aJ a 18 [] h i (λh i j=>N (c 5) λk=>aJ a 15 [k,.Z 8] i j (λi j k=>l (bH 3 h i) λh=>l (br a j 3 h) λh=>l (cq [.str [],.Z 0,.zF,.zF,.Z 0,.str [],.Z 0,.zF] [(0,1,(.str [111,117,116])),(2,3,h)]) λh=>l (dz 1 [.str [],.Z 0,.zF,.zF,.Z 0,.str [],.Z 0,.zF] [(0,8,h)] k) λh=>cb a j k h.1 h.2 λh i j=>dx (d1 a i j 8 f h) i j λf h i=>N (c 5) λj=>aJ a 17 [j,.Z 3] h i (λh i j=>l (cq [.str [],.Z 0, .aw, .aw, .aw, .aw] [(0,1,d),(2,1,e),(3,1,f),(4,1,h)]) λd=>l (cv [.str [],.Z 0, .aw, .aw, .aw, .aw] j) λe=>cb a i j e.1 e.2 λe f h=>l (bj a f 6 e d) λd=>N (c 5) λf=>aJ a 15 [f,.Z 5] d h (λd f h=>aq (λc d e=>df (e+11) λf=>N (c 6) λg=>N (c 6) λh=>l (aY h) λh=>l (ao 0 h) λh=>l (W a d h) λh=>N (c 8) λi=>l (br a d 6 i) λi=>l (dz 1 [.str [],.Z 0, .aw, .aw, .aw, .aw] [(0,6,i)] (e+6)) λi=>fM a d (e+6) i.1 i.2 λd e=>dx (d1 a e f 6 h d) e f λd e f=>l (aY g) λg=>l (ao 0 g) λg=>l (bj a e 1 g d) λa=>b c a f) λb=>cC (λc d e f=>N (d 9) λh=>l (ag .gtr h (.Z 0)) λh=>aq (λb d e=>aq (λa b d=>N (a 9) λe=>l (ag .sub e (.Z 1)) λe=>c (I a 9 e) b d) λc=>N (b 5) λf=>aJ a 16 [f] d e (λd e f=>l (dz 1 [.str []] [(0,1,d)] f) λd=>cb a e f d.1 d.2 λd e f=>N (b 5) λh=>N (b 5) λi=>aJ a 15 [i,.Z 7] e f (λe f i=>l (ag .add (.Z 2) e) λe=>aJ a 19 [h,e] f i (λe f h=>N (b 5) λi=>aJ a 15 [i,.Z 9] f h (λf h i=>l (cq [.aw, .aw,.Z 0, .bt] [(0,1,d),(3,1,e),(2,1,f)]) λd=>l (cv [.aw, .aw,.Z 0, .bt] i) λe=>cb a h i e.1 e.2 λe f h=>l (bj a f 4 e d) λd=>N (b 5) λf=>aJ a 15 [f,.Z 4] d h (λd f h=>l (ag .eql d (.Z 1)) λd=>aq (λb d e=>N (b 8) λf=>l (ao 5 f) λf=>l (W a d f) λf=>N (b 10) λg=>l (br a d 4 g) λg=>l (dz 1 [.aw, .aw,.Z 0, .bt] [(0,4,g)] e) λg=>cb a d e g.1 g.2 λd e g=>dx (d1 a e g 4 f d) e g λd e f=>N (b 8) λg=>l (ao 5 g) λg=>l (bj a e 1 g d) λa=>c b a f) λc=>aA d (df (h+8) λi=>l (ao 0 e) λj=>l (W a f j) λk=>N (b 5) λm=>aJ a 16 [m] f i (λf g i=>l (dz 1 [.str []] [(0,1,f)] (h+4)) λf=>fM a g (h+4) f.1 f.2 λf g=>l (W a g j) λh=>ez h (some k) (dx (d1 a g i 1 k f) g i λf g h=>l (ao 0 e) λi=>l (bj a g 1 i f) λa=>c (zC b 10 e 62 d) a h)) g) (c (zC b 10 e 62 d) f h)) g) g) g) g) g) λa=>aA h (a (I d 46 h) e f) (b (I d 46 h) e f)) (zC c 8 e 9 d) f h) g) g) g) g) g) g) g) λa=>aA d (a (I c 23 d) e i) (f (I c 23 d) e i)) g) (zE (bN [b,c]) 4 .bt 5 d 6 e 7 (.Z 0)) h i
def C7:cl X 5 [a0,aE]=wk X a0 aE:=Zk
def C6:b9 X 5 2=true:=Zk
def vU:Za2:=λa b c d e f g h=>df (f+13) λf=>l (aY b) λi=>l (ao 0 i) λi=>l (W a e i) λj=>l (aY b) λk=>l (ao 0 k) λk=>l (W a e k) λk=>l (bK k) λk=>aJ a 15 [c,k] e f (λe f k=>l (bH 6 j e) λe=>l (W a f i) λi=>ez i (some j) (l (ag .rem d (.Z 3)) λi=>l (ag .eql i (.Z 0)) λi=>aj (λf j k=>aj (λf j k=>aj (λf j k=>aj (λf j k=>aj (λf j k=>aj (λf j k=>bM (λf=>aq (λb c d=>df (d+13) λd=>N (b 6) λe=>l (aY e) λe=>l (ao 5 e) λe=>l (W a c e) λf=>N (b 1) λi=>N (b 6) λj=>l (aY j) λj=>l (ao 5 j) λj=>l (W a c j) λj=>l (bK j) λj=>aJ a 15 [i,j] c d (λc d i=>l (bH 4 f c) λc=>l (W a d e) λe=>ez e (some f) (l (aY c) λe=>l (ao 3 e) λe=>l (W a d e) λe=>aq (λb c d=>N (b 2) λe=>l (ag .rem e (.Z 11)) λe=>aq (λ_ a b=>g (.tuple []) a b) λf=>l (ag .eql e (.Z 0)) λg=>aq f λf=>aA g (N (b 9) λh=>l (aY h) λh=>l (ao 0 h) λh=>l (bj a c 1 h (.Z 27)) λa=>f (zC b 135 e 136 g) a d) (l (ag .eql e (.Z 1)) λi=>aq f λf=>aA i (N (b 9) λh=>l (aY h) λj=>l (ao 2 j) λj=>l (W a c j) λj=>l (bZ a c .add 9 true j (.str [97])) λj=>l (aY h) λh=>l (ao 2 h) λh=>l (bj a c 1 h j) λa=>f (zD b 135 e 136 g 141 i) a d) (l (ag .eql e (.Z 2)) λj=>aq f λf=>aA j (N (b 9) λh=>l (aY h) λk=>l (ao 7 k) λk=>l (W a c k) λk=>l (ag .add k (.int .u64 64)) λk=>l (aY h) λh=>l (ao 7 h) λh=>l (bj a c 1 h k) λa=>f (zE b 135 e 136 g 141 i 150 j) a d) (l (ag .eql e (.Z 3)) λk=>aq f λf=>aA k (df (d+11) λm=>N (b 9) λn=>N (b 9) λo=>l (aY o) λo=>l (ao 8 o) λo=>l (W a c o) λp=>aJ a 38 [(.str [97])] c m (λc h m=>l (dz 1 [.bt] [(0,1,c)] (d+6)) λc=>fM a h (d+6) c.1 c.2 λc d=>l (W a d o) λh=>ez h (some p) (dx (d1 a d m 1 p c) d m λc d h=>l (aY n) λm=>l (ao 8 m) λm=>l (bj a d 1 m c) λa=>f (I (zE b 135 e 136 g 141 i 150 j) 159 k) a h)) h) (l (ag .eql e (.Z 4)) λm=>aq f λf=>aA m (N (b 9) λh=>N (b 9) λn=>l (aY n) λn=>l (ao 8 n) λn=>l (W a c n) λn=>l (dz 1 [.bt] [(0,1, .bt)] d) λo=>cb a c d o.1 o.2 λc d o=>dx (d1 a d o 1 n c) d o λc d n=>l (aY h) λh=>l (ao 8 h) λh=>l (bj a d 1 h c) λa=>f (zC (zE b 135 e 136 g 141 i 150 j) 159 k 171 m) a n) (l (ag .eql e (.Z 5)) λn=>aq f λf=>aA n (N (b 9) λh=>N (b 9) λo=>l (aY o) λo=>l (ao 3 o) λo=>l (W a c o) λo=>l (cY .not o) λo=>l (aY h) λh=>l (ao 3 h) λh=>l (bj a c 1 h o) λa=>f (zD (zE b 135 e 136 g 141 i 150 j) 159 k 171 m 182 n) a d) (l (ag .eql e (.Z 6)) λo=>aq f λf=>aA o (N (b 9) λh=>l (aY h) λp=>l (ao 4 p) λp=>l (ao 2 p) λp=>l (W a c p) λp=>l (ag .xor p (.Z 8)) λp=>l (aY h) λh=>l (ao 4 h) λh=>l (ao 2 h) λh=>l (bj a c 1 h p) λa=>f (zE (zE b 135 e 136 g 141 i 150 j) 159 k 171 m 182 n 192 o) a d) (l (ag .eql e (.Z 7)) λp=>aq f λf=>aA p (N (b 8) λh=>l (aY h) λh=>l (ao 0 h) λh=>l (bj a c 1 h .aw) λa=>f (I (zE (zE b 135 e 136 g 141 i 150 j) 159 k 171 m 182 n 192 o) 203 p) a d) (l (ag .eql e (.Z 8)) λr=>aq f λf=>aA r (N (b 9) λh=>l (aY h) λh=>l (ao 0 h) λh=>l (bj a c 1 h (.Z 21)) λa=>f (zC (zE (zE b 135 e 136 g 141 i 150 j) 159 k 171 m 182 n 192 o) 203 p 208 r) a d) (l (ag .eql e (.Z 9)) λs=>aq f λf=>aA s (aq f λf=>cC (λb c d e=>N (c 10) λg=>N (c 1) λi=>aJ a 15 [i,.Z 20] d e (λd e i=>l (ag .add (.Z 190) d) λd=>l (ag .lss g d) λd=>aq (λc d e=>aq (λa c d=>N (a 10) λe=>l (ag .add e (.Z 1)) λe=>b (I a 10 e) c d) λb=>N (c 8) λf=>N (c 8) λg=>l (aY g) λg=>l (ao 3 g) λg=>l (W a d g) λg=>aJ a 40 [.Z 3,g] d e (λd e g=>l (aY f) λf=>l (ao 3 f) λf=>l (bj a e 1 f d) λa=>b c a g) h) λa=>aA d (a (I c 219 d) e i) (f (I c 219 d) e i)) h) (zE (zE (zE b 135 e 136 g 141 i 150 j) 159 k 171 m 182 n 192 o) 203 p 208 r 213 s 10 (.Z 0)) c d) (l (ag .eql e (.Z 10)) λh=>aq f λf=>aA h (N (b 8) λt=>l (aY t) λt=>l (ao 3 t) λt=>l (bj a c 1 t .bt) λa=>f (zE (zE (zE b 135 e 136 g 141 i 150 j) 159 k 171 m 182 n 192 o) 203 p 208 r 213 s 230 h) a d) (f (zE (zE (zE b 135 e 136 g 141 i 150 j) 159 k 171 m 182 n 192 o) 203 p 208 r 213 s 230 h) c d)))))))))))) λf=>cC (λb c d e=>N (c 1) λg=>aJ a 15 [g,.Z 2] d e (λd e g=>l (ag .eql d (.Z 1)) λd=>aj (λe g i=>aj (λe g i=>aj (λe g i=>aj (λe g i=>aj (λe g i=>aj (λe g i=>bM (λd=>aq (λc d e=>aq b λb=>df (e+14) λe=>N (c 9) λf=>l (aY f) λf=>l (ao 8 f) λf=>l (W a d f) λg=>N (c 1) λi=>N (c 9) λj=>l (aY j) λj=>l (ao 8 j) λj=>l (W a d j) λj=>l (bK j) λj=>aJ a 15 [i,j] d e (λd e h=>l (bH 1 g d) λd=>l (W a e d) λd=>l (W a e f) λa=>ez a (some g) (b (I c 9 d) e h)) h) λa=>aA d (a (I c 120 d) g i) (f (I c 120 d) g i)) λa=>aA d (a e) (a .zF)) λa=>ae true d (l (ag .gtr e (.Z 0)) λb=>a b g i) (a Q.undef g i)) λa=>ae true d (l (bK e) λb=>a b g i) (a Q.undef g i)) λb=>ae true d (l (W a g e) λa=>b a g i) (b Q.undef g i)) λa=>ae true d (l (ao 8 e) λb=>a b g i) (a Q.undef g i)) λa=>ae true d (l (aY e) λb=>a b g i) (a Q.undef g i)) λa=>ae true d (N (c 9) λb=>a b e g) (a Q.undef e g)) h) (zC b 8 c 9 e) d i)) h) λh=>aA f (df (k+12) λh=>l (aY e) λi=>l (ao 3 i) λi=>l (W a j i) λi=>l (aY e) λk=>l (ao 3 k) λk=>l (W a j k) λk=>l (bK k) λk=>l (ag .sub k (.Z 1)) λk=>l (bH 8 i k) λi=>l (ag .rem d (.Z 8)) λk=>aq (λ_ a b=>g (.tuple []) a b) λg=>l (ag .eql k (.Z 0)) λm=>aq g λg=>aA m (l (aY i) λn=>l (ao 0 n) λn=>l (bj a j 1 n (.str [53,120])) λa=>g (I (zE (bN [b,c,d]) 6 e 33 f 7 i 46 k) 47 m) a h) (l (ag .eql k (.Z 1)) λn=>aq g λg=>aA n (l (aY i) λo=>l (ao 2 o) λo=>l (ao 2 o) λo=>l (bj a j 1 o (.Z 65)) λa=>g (zC (zE (bN [b,c,d]) 6 e 33 f 7 i 46 k) 47 m 52 n) a h) (l (ag .eql k (.Z 2)) λo=>aq g λg=>aA o (l (aY i) λp=>l (ao 7 p) λp=>l (W a j p) λp=>l (cY .not p) λp=>l (aY i) λr=>l (ao 7 r) λr=>l (bj a j 1 r p) λa=>g (zD (zE (bN [b,c,d]) 6 e 33 f 7 i 46 k) 47 m 52 n 58 o) a h) (l (ag .eql k (.Z 3)) λp=>aq g λg=>aA p (l (aY e) λr=>l (ao 0 r) λr=>l (bj a j 1 r (.str [116,104,101,110])) λa=>g (zE (zE (bN [b,c,d]) 6 e 33 f 7 i 46 k) 47 m 52 n 58 o 68 p) a h) (l (ag .eql k (.Z 4)) λr=>aq g λg=>aA r (l (aY e) λs=>l (ao 3 s) λs=>l (bj a j 1 s .aw) λa=>g (I (zE (zE (bN [b,c,d]) 6 e 33 f 7 i 46 k) 47 m 52 n 58 o 68 p) 73 r) a h) (l (ag .eql k (.Z 5)) λs=>aq g λg=>aA s (l (aY b) λt=>l (ao 0 t) λt=>l (bj a j 1 t .aw) λa=>g (zC (zE (zE (bN [b,c,d]) 6 e 33 f 7 i 46 k) 47 m 52 n 58 o 68 p) 73 r 78 s) a h) (l (ag .eql k (.Z 6)) λt=>aq g λg=>aA t (l (aY i) λu=>l (ao 5 u) λu=>l (bj a j 1 u (.str [117,56])) λa=>g (zD (zE (zE (bN [b,c,d]) 6 e 33 f 7 i 46 k) 47 m 52 n 58 o 68 p) 73 r 78 s 83 t) a h) (l (ag .eql k (.Z 7)) λu=>aq g λg=>aA u (dx (uu a j h 8 [.str [],.Z 0,.zF,.zF,.Z 0,.str [],.Z 0,.zF] (.Z 300) (.Z 300)) j h λh j v=>l (aY e) λw=>l (ao 4 w) λw=>l (bj a j 1 w h) λa=>g (zE (zE (zE (bN [b,c,d]) 6 e 33 f 7 i 46 k) 47 m 52 n 58 o 68 p) 73 r 78 s 83 t 88 u) a v) (g (zE (zE (zE (bN [b,c,d]) 6 e 33 f 7 i 46 k) 47 m 52 n 58 o 68 p) 73 r 78 s 83 t 88 u) j h))))))))) (h (zC (bN [b,c,d]) 6 e 33 f) j k)) λa=>aA i (a .zT) (a f)) λa=>ae false i (l (ag .eql f (.Z 0)) λb=>a b j k) (a Q.undef j k)) λa=>ae false i (l (bK f) λb=>a b j k) (a Q.undef j k)) λb=>ae false i (l (W a j f) λa=>b a j k) (b Q.undef j k)) λa=>ae false i (l (ao 5 f) λb=>a b j k) (a Q.undef j k)) λa=>ae false i (l (aY f) λb=>a b j k) (a Q.undef j k)) λa=>ae false i (a e f k) (a Q.undef f k))) h
def Ch:cl X 20 [a0,aE,aW]=vU X a0 aE aW:=Zk
def Cg:b9 X 20 3=true:=Zk
def vV:Za1:=λa b c d e _=>aq (λa b c=>N (a 3) λa=>e a b c) λe=>cC (λb c d f=>N (c 4) λg=>N (c 0) λh=>l (bK h) λh=>l (ag .lss g h) λg=>aq (λc d e=>aq (λa c d=>N (a 4) λe=>l (ag .add e (.Z 1)) λe=>b (I a 4 e) c d) λb=>N (c 3) λf=>N (c 0) λg=>N (c 4) λh=>l (bH 8 g h) λg=>l (br a d 8 g) λg=>l (dz 1 [.str [],.Z 0,.zF,.zF,.Z 0,.str [],.Z 0,.zF] [(0,8,g)] e) λg=>cb a d e g.1 g.2 λd e g=>dx (d1 a e g 8 f d) e g λa d e=>b (I c 3 a) d e) λa=>aA g (a (I c 8 g) d f) (e (I c 8 g) d f)) (zD (bN [b]) 2 .aw 3 .aw 4 (.Z 0)) c d
def Cj:cl X 21 [a0]=vV X a0:=Zk
def Ci:b9 X 21 1=true:=Zk
def vW:Za1:=λa b c d e f=>l (bZ a c .eql 59 true b .bt) λg=>aq (λb c d=>df (d+27) λg=>N (b 0) λh=>l (aY h) λh=>l (ao 0 h) λh=>l (W a c h) λh=>N (b 0) λi=>l (aY i) λi=>l (ao 1 i) λi=>l (W a c i) λi=>N (b 0) λj=>l (aY j) λj=>l (ao 2 j) λj=>l (W a c j) λj=>N (b 0) λk=>l (aY k) λk=>l (ao 3 k) λk=>l (W a c k) λk=>N (b 0) λm=>l (aY m) λm=>l (ao 4 m) λm=>l (br a c 3 m) λm=>N (b 0) λn=>l (aY n) λn=>l (ao 7 n) λn=>l (W a c n) λn=>l (cq [.Z 0,.Z 0,.str [],.zF,.zF,.zF,.Z 0,.int .u64 0, .aw] [(0,1,h),(1,1,i),(2,1,j),(3,1,k),(4,3,m),(7,1,n)]) λh=>tb a c (d+25) h λc d=>aq (λa b c=>N (a 3) λa=>e a b c) λe=>cC (λb c d g=>N (c 4) λh=>N (c 0) λi=>l (aY i) λi=>l (ao 8 i) λi=>l (W a d i) λi=>l (bK i) λi=>l (ag .lss h i) λh=>aq (λc d e=>aq (λa c d=>N (a 4) λe=>l (ag .add e (.Z 1)) λe=>b (I a 4 e) c d) λb=>df (e+18) λg=>N (c 3) λh=>N (c 3) λi=>l (aY i) λi=>l (ao 8 i) λi=>l (W a d i) λj=>N (c 0) λk=>l (aY k) λk=>l (ao 8 k) λk=>l (W a d k) λk=>N (c 4) λm=>l (bH 1 k m) λk=>l (W a d k) λk=>aJ a 22 [k] d g (λd f g=>l (dz 1 [.bt] [(0,1,d)] (e+13)) λd=>fM a f (e+13) d.1 d.2 λd e=>l (W a e i) λf=>ez f (some j) (dx (d1 a e g 1 j d) e g λd e f=>l (aY h) λg=>l (ao 8 g) λg=>l (bj a e 1 g d) λa=>b c a f)) f) λa=>aA h (a (I c 39 h) d g) (e (I c 39 h) d g)) (zC b 3 c 4 (.Z 0)) d g) λa=>aA g (e .bt c d) (a (zC (bN [b]) 2 .bt 6 g) c d)
def Cl:cl X 22 [a0]=vW X a0:=Zk
def Ck:b9 X 22 1=true:=Zk
def wu:Za1:=λa b c d e f=>l (bZ a c .eql 23 true b .bt) λg=>aq (λb c d=>l (cq [.aw] []) λg=>eR a c d g λc d g=>aq (λa b c=>N (a 3) λa=>e a b c) λe=>cC (λb c d g=>N (c 4) λh=>N (c 0) λi=>l (aY i) λi=>l (ao 0 i) λi=>l (W a d i) λi=>l (bK i) λi=>l (ag .lss h i) λh=>aq (λc d e=>aq (λa c d=>N (a 4) λe=>l (ag .add e (.Z 1)) λe=>b (I a 4 e) c d) λb=>N (c 0) λg=>l (aY g) λg=>l (ao 0 g) λg=>l (W a d g) λg=>N (c 4) λh=>l (bH 6 g h) λg=>l (br a d 6 g) λg=>l (cv [.str [],.Z 0, .aw, .aw, .aw, .aw] e) λh=>cb a d e h.1 h.2 λd e h=>l (bj a e 6 d g) λe=>df (h+16) λg=>l (ao 0 d) λi=>l (W a e i) λj=>l (ao 1 d) λk=>l (W a e k) λm=>l (ao 2 d) λn=>l (W a e n) λn=>l (ao 3 d) λo=>l (W a e o) λp=>l (ao 4 d) λr=>l (W a e r) λs=>l (cv [.str [],.Z 0, .aw, .aw, .aw, .aw] (h+14)) λt=>fM a e (h+14) t.1 t.2 λe h=>aJ a 21 [n] h g (λg h n=>l (W a h i) λt=>ez t (some j) (l (W a h k) λt=>ez t (some m) (l (W a h o) λo=>ez o (some p) (l (W a h r) λo=>ez o (some s) (aJ a 21 [p] h n (λh n o=>l (W a n i) λp=>ez p (some j) (l (W a n k) λp=>ez p (some m) (l (W a n r) λp=>ez p (some s) (aJ a 21 [s] n o (λn o p=>l (cq [.str [],.Z 0, .aw, .aw, .aw, .aw] [(0,1,j),(1,1,m),(2,1,g),(3,1,h),(4,1,n)]) λg=>l (W a o i) λh=>ez h (some j) (l (W a o k) λh=>ez h (some m) (l (bj a o 6 e g) λg=>aq (λc d e=>df (e+11) λf=>N (c 3) λg=>N (c 3) λh=>l (aY h) λh=>l (ao 0 h) λh=>l (W a d h) λh=>N (c 6) λi=>l (br a d 6 i) λi=>l (dz 1 [.str [],.Z 0, .aw, .aw, .aw, .aw] [(0,6,i)] (e+6)) λi=>fM a d (e+6) i.1 i.2 λd e=>dx (d1 a e f 6 h d) e f λd e f=>l (aY g) λg=>l (ao 0 g) λg=>l (bj a e 1 g d) λa=>b c a f) λb=>cC (λc d e g=>N (d 7) λh=>N (d 5) λi=>l (ao 5 i) λi=>l (W a e i) λi=>l (bK i) λi=>l (ag .lss h i) λh=>aq (λb d e=>aq (λa b d=>N (a 7) λe=>l (ag .add e (.Z 1)) λe=>c (I a 7 e) b d) λc=>N (b 5) λg=>l (ao 5 g) λg=>l (W a d g) λg=>N (b 7) λh=>l (bH 4 g h) λg=>l (br a d 4 g) λg=>l (cv [.aw, .aw,.Z 0, .bt] e) λh=>cb a d e h.1 h.2 λd e h=>l (bj a e 4 d g) λe=>df (h+16) λg=>N (b 6) λi=>l (ao 5 i) λi=>l (W a e i) λj=>l (ao 0 d) λk=>l (W a e k) λm=>l (ao 1 d) λn=>l (W a e n) λo=>l (ao 2 d) λp=>l (W a e p) λr=>l (ao 3 d) λs=>l (W a e s) λs=>aJ a 22 [s] e g (λe f g=>l (cq [.aw, .aw,.Z 0, .bt] [(0,1,m),(1,1,o),(2,1,r),(3,1,e)]) λe=>l (dz 1 [.aw, .aw,.Z 0, .bt] [(0,4,e)] (h+12)) λe=>fM a f (h+12) e.1 e.2 λe f=>l (W a f i) λh=>ez h (some j) (l (W a f k) λh=>ez h (some m) (l (W a f n) λh=>ez h (some o) (l (W a f p) λh=>ez h (some r) (dx (d1 a f g 4 j e) f g λe f g=>N (b 6) λh=>l (ao 5 h) λh=>l (bj a f 1 h e) λa=>c (I b 8 d) a g))))) f) λa=>aA h (a (I d 47 h) e g) (b (I d 47 h) e g)) (zD c 5 d 6 e 7 (.Z 0)) g p))) f)))) f))))) f) λa=>aA h (a (I c 19 h) d g) (e (I c 19 h) d g)) (zC b 3 c 4 (.Z 0)) d g) λa=>aA g (e .bt c d) (a (zC (bN [b]) 2 .bt 10 g) c d)
def Db:cl X 6 [a0]=wu X a0:=Zk
def Da:b9 X 6 1=true:=Zk
end
end Go.Proofs.YtmipngjbcdamjaaGreatDoor

namespace Go.Proofs.YtmipngjbcdamjaaGreatDoor
open Go.Q Go.a6
noncomputable section
def gq:List aT:=[[97],[98],[99],[120,95,49],[95],[90,57],[119,104,101,110,95],[117,54,53],[97,98,99,100,101,102,103,104,105,106,107,108,109,110,111,112,113,114,115,116,117,118,119,120,121,122,48,49,50,51,52,53]]
def n9:List d7:=[⟨true,false,1⟩,⟨false,false,8⟩,⟨false,true,8⟩,⟨false,false,1⟩,⟨false,false,64⟩,⟨false,true,64⟩,⟨false,true,1⟩,⟨false,false,13⟩]
def wP:∀t∈n9,1<=t.w/\t.w<=64:=by decide
def ln:∀s∈gq,s∈ek:=by decide
structure fE(d:dQ):Prop where
 bc:1<=d.kind
 bl:d.kind<=26
 nm:d.name=[]\/d.name∈gq
 aG:0<=d.n
 aL:d.n<18446744073709551616
 full:∀a∈d.args,a≠none
 ea:d.args.length<=3
def rL{x n:Nat}(c:0<n):ag .rem (.Z (x:Int)) (.Z (n:Int))=some (.Z ((x%n:Nat):Int)):=by
 have a:¬((n:Int)=0):=Zo
 have b:(x:Int).tmod (n:Int)=((x%n:Nat):Int):=(Int.ofNat_tmod x n).symm
 simp[ag,fK,f0,fH,gH,ke,a,b]
 omega
def n0(z:Int):0<=z%18446744073709551616/\z%18446744073709551616<18446744073709551616:=⟨Int.emod_nonneg _ Zd,Int.emod_lt_of_pos _ Zd⟩
def yc(x a:Int):ag .sub (.int .u64 x) (.int .u64 a)=some (.int .u64 ((x-a)%18446744073709551616)):=by
 simp[ag,fK,f0,fH,fm,hV]
def GN(x a:Int):∃z:Int,ag .and (.int .u64 x) (.int .u64 a)=some (.int .u64 (z%18446744073709551616)):=
 ⟨((BitVec.ofInt 64 x&&& BitVec.ofInt 64 a).toNat:Int),by simp only[ag,fK,f0,fH,fm,hV,fz,cO,ry];rfl⟩
def GQ(x:Int){a:Int}(e:0<=a):∃z:Int,ag .shl (.int .u64 x) (.Z a)=some (.int .u64 (z%18446744073709551616)):=by
 have b:kf a 0=false:=by rw[jr];simp;omega
 exact⟨x*2^(min a.toNat IntKind.u64.bits),by simp only[ag,fK,cO,pg,b,fz,fm,hV,ry]⟩
structure eI(X:bQ)(S:F ac)(bw:Nat):Prop where
 aN:(o X).aN<=bw
 at_:∃(c:F q) (au:q) (n i:Nat),H X S bw=some (.cells c 2 .own)/\c.get 0=some au/\c.get 1=some (.Z (i:Int))/\bK au=some (.Z (n:Int))/\n<=400/\i<=n
  /\∀E,E<n->∃(p:q) (x:Nat),bH 1 au (.Z (E:Int))=some p/\(∀B,W X B p=some (.int .u16 (x:Int)))/\x<65536
section
variable{X:bQ}{S B cE ay aM:F ac}{nx nx' aG aL bw:Nat}
def eI.R(e:eI X S bw)(k:H X B bw=H X S bw):eI X B bw:=by
 obtain⟨c,au,n,i,a,b⟩:=e.at_
 exact⟨e.aN,c,au,n,i,by rw[k];exact a,b⟩
def eM(T1:dV X)(g:eI X S bw)(Y:bw<nx){n:Nat}(t:0<n)(T6:n<=1000):
 aJ X 15 [.ptr bw 0, .Z (n:Int)] S nx (λL B nx'=>∃r:Nat,L= .Z (r:Int)/\r<n/\eI X B bw/\im X [bw] S nx B nx') zG:=by
 refine zB T1 (B2 X) ?_
 rw[B3]
 unfold vL
 obtain⟨c,au,m,i,v,a,w,f,T0,T5,z⟩:=g.at_
 have s:=g.aN
 by_cases ai:i<m
 ·have d:decide ((m:Int)<=(i:Int))=false:=zJ
  have G:=zz i
  have O:ag .sub (.Z ((i+1:Nat):Int)) (.Z 1)=some (.Z (i:Int)):=by rw[g0 Zo Zo,show((i+1:Nat):Int) -1=(i:Int) by omega]
  obtain⟨p,x,T2,T3,T7⟩:=z i ai
  have T4:=T3
  have P:iQ .i64 (.int .u16 (x:Int))=some (.Z (x:Int)):=xn Zo Zo
  have Z:=rL (x:=x) t
  refine bo (aZ v) @w @a @f @d @G (Za @O (Za @T2 (Za @T4 (Za @P @Z)))) ⟨?_⟩
  refine⟨x%n,rfl,zt _ t,⟨s,cL c 1 [.Z ((i+1:Nat):Int)],au,m,i+1,a7 s,by rw[kx Zd];exact a,hx ..,f,T0,ai,z⟩,Zo,λb Y C=> ?_⟩
  simp only[Zz,List.not_mem_nil,or_false]at C
  exact aV s C
 ·have d:decide ((m:Int)<=(i:Int))=true:=zK
  refine db (aZ v) @w @a @f @d ⟨?_⟩
  exact⟨0,rfl,t,g,Zo,λ_ _ _=>rfl⟩
def ki(g:dV X)(v:eI X S bw)(Y:bw<nx)(f:(o X).aN<=nx):
 aJ X 16 [.ptr bw 0] S nx (λL B nx'=>∃s,L= .str s/\s∈gq/\eI X B bw/\im X [bw] S nx B nx') zG:=by
 refine zB g (B8 X) ?_
 rw[B9]
 unfold vO
 refine bh ⟨?_⟩
 generalize d:aP X S nx _=ay
 have t:H X ay nx=zy (gq.map q.str) 9:=by rw[<-d,a7 f];rfl
 have bc:∀a,a<nx->H X ay a=H X S a:=λa p=>by rw[<-d,aV f Zo]
 clear d
 refine(eM g (v.R (bc _ Y)) (nx:=nx+1) (n:=9) Zo Zo Zo).Zm ?_
 rintro L aM aL ⟨r,rfl,K,w,c⟩
 have z:=mq (an:=1) (b:=nx) (A:=0) (len:=9) (cap:=9) (i:=r) .i64 K
 obtain⟨s,m⟩:∃s,gq[r]? =some s:=⟨_,Ze K⟩
 have ap:W X aM (.ptr nx (r*1))=some (.str s):=by
  rw[aZ (by rw[c.R nx Zo Zx];exact t),fD,ZV,Zw,m];rfl
 refine ci @z @ap ⟨?_⟩
 exact⟨s,rfl,Zg m,w,⟨zu c.le,λa p x=>by rw[c.R a Zo x,bc a p]⟩⟩
def sA(b:dV X)(a:(o X).aN<=nx):aJ X 18 [] S nx (λL B nx'=>cg X B (λc=>c=nx) nx L 3 (n9.map eP)/\nx<nx'/\aX X S nx B nx') zG:=by
 refine zB b (Cc X) ?_
 rw[Cd]
 unfold vS
 refine bh ⟨?_⟩
 refine⟨As (k:=8) (st:= .own) (by rw[a7 a];rfl) rfl Zd Zd rfl,Zo,dJ⟩
end
section
variable{X:bQ}{S B cE ay aM:F ac}{nx nx' aG aL bw:Nat}
def jD{a b:Nat}(e:(o X).aN<=a):∀c,dk a b c->(o X).aN<=c:=λc d=>zu d.1
def fk.leaf{b:Nat}{kind at_ n:Int}{name:aT}{no:Bool}{ty:d7}(c:(o X).aN<=nx)(Y:H X S b=zy (c2 kind at_ name no ty n .aw) 9)(f:nx<=b)(g:b<nx')
 (bc:1<=kind)(bl:kind<=26)(m:name=[]\/name∈gq)(p:0<=n)(r:n<18446744073709551616):fk X S fE (dk nx nx') (.ptr b 0) 1:=by
 refine⟨_,_,b,rfl,dd.one (d:=⟨kind,at_,name,no,ty,n,[], .aw,[]⟩) (jD c) Y (dj _) ⟨f,g⟩ rfl rfl rfl ⟨bc,bl,m,p,r,(λa i=>by cases i),Zs⟩ 1,Zs,Zp _,Zp _⟩
def vh(b:dV X)(a:(o X).aN<=nx)(s:aT):aJ X 38 [.str s] S nx (λL B nx'=>L= .ptr nx 0/\H X B nx=zy (c2 2 0 s false ck 0 .aw) 9/\nx<nx'/\aX X S nx B nx') zG:=by
 refine zB b (Cw X) ?_
 rw[Cx]
 unfold v7
 refine bh ⟨?_⟩
 exact⟨rfl,by rw[a7 a];rfl,Zo,dJ⟩
def y0(c:dV X)(b:(o X).aN<=nx)(k:Int)(a:Nat):aJ X 40 [.Z k, .ptr a 0] S nx (λL B nx'=>L= .ptr (nx+1) 0/\H X B nx=zy [.ptr a 0] 1/\H X B (nx+1)=zy (c2 k 0 [] false ck 0 (.slice nx 0 1 1)) 9/\nx+1<nx'/\aX X S nx B nx') zG:=by
 refine zB c (CC X) ?_
 rw[CD]
 unfold wa
 refine bh ⟨?_⟩
 exact⟨rfl,by rw[aV Zo Zo,a7 b],by rw[a7 Zo];rfl,Zo,dJ⟩
def uq(p:dV X)(UE:eI X S bw)(Y:bw<nx)(UD:(o X).aN<=nx):
 aJ X 39 [.ptr bw 0] S nx (λL B nx'=>∃(ty:d7) (n:Int) (b:Nat),L= .ptr b 0/\H X B b=zy (c2 1 0 [] false ty n .aw) 9/\(0<=n/\n<18446744073709551616)/\nx<=b/\b<nx'/\eI X B bw/\im X [bw] S nx B nx') zG:=by
 refine zB p (Cy X) ?_
 rw[Cz]
 unfold v8
 refine(sA p UD).Zm ?_
 rintro L ay aG ⟨UI,UH,T6⟩
 refine(eM p (UE.R (T6.R _ Y)) (nx:=aG) (n:=8) Zo Zo Zo).Zm ?_
 rintro UV aM aL ⟨r,rfl,K,UF,P⟩
 have UO:=P.le
 have T9:=UI.R (B:=aM) (λa f=>by subst f;exact P.R _ UH Zx)
 obtain⟨ty,TZ⟩:∃ty,n9[r]? =some ty:=⟨_,Ze K⟩
 have UU:=wP ty (Zg TZ)
 have UG:=T9.cP r K
 have TY:=T9.row Zd (i:=r) (r:=eP ty) (by rw[Zw,TZ];rfl)
 have UJ:eP ty=[.bool ty.b, .bool ty.s, .Z ty.w]:=rfl
 rw[UJ]at TY
 refine ci @UG @TY ⟨?_⟩
 generalize T1:aP X _ aL _=T4
 have UC:H X T4 aL=zy [.bool ty.b, .bool ty.s, .Z ty.w] 3:=by rw[<-T1,a7 Zo];rfl
 have U0:∀a,a<aL->H X T4 a=H X aM a:=λa f=>by rw[<-T1];exact zA
 clear T1
 refine(eM p (UF.R (U0 _ Zo)) (nx:=aL+1) (n:=200) Zo Zo Zo).Zm ?_
 rintro UW C U2 ⟨t,rfl,UR,T7,Z⟩
 have UP:=Z.le
 have O:H X C aL=zy [.bool ty.b, .bool ty.s, .Z ty.w] 3:=by rw[Z.R _ Zo Zx];exact UC
 have T0:im X [bw] S nx C U2:=⟨Zo,λa f c=>by rw[Z.R a Zo c,U0 a Zo,P.R a Zo c,T6.R a f]⟩
 have g:=n0 (t:Int)
 generalize (t:Int)%18446744073709551616=z at g
 refine k2 (aZ O) ⟨?_⟩
 refine cQ (λy S n=>y.g 0=some (.ptr bw 0)/\y.g 3=some (.ptr aL 0)/\y.g 4=some (.int .u64 ((t:Int)%18446744073709551616))/\(∃w:Int,y.g 5=some (.Z w)/\0<=w)/\S=C/\n=U2) (λE s=> ?_) ?_
 ·cases UT:ty.s with
  |true=>
   have UB:ag .sub (.Z ty.w) (.Z 1)=some (.Z (ty.w-1)):=g0 Zo Zo
   refine bB @UB ⟨?_⟩
   exact s _ _ _ ⟨aI,aI,aI,⟨ty.w-1,aI,Zo⟩,rfl,rfl⟩
  |false=>
   refine bh ⟨?_⟩
   exact s _ _ _ ⟨aI,aI,aI,⟨ty.w,aI,Zo⟩,rfl,rfl⟩
 rintro y U8 UL ⟨t0,t3,t4,⟨w,t5,UK⟩,rfl,rfl⟩
 show N _ _
 have g:=n0 (t:Int)
 generalize (t:Int)%18446744073709551616=z at g t4
 obtain⟨T3,U5⟩:=GQ 1 UK
 have U6:=yc (T3%18446744073709551616) 1
 obtain⟨UN,U7⟩:=GN z ((T3%18446744073709551616-1)%18446744073709551616)
 refine k2 @t5 ⟨?_⟩
 refine cQ (λy S n=>y.g 0=some (.ptr bw 0)/\y.g 3=some (.ptr aL 0)/\(∃z:Int,y.g 4=some (.int .u64 z)/\0<=z/\z<18446744073709551616)/\y.g 5=some (.Z w)/\S=U8/\n=UL) (λE s=> ?_) ?_
 ·by_cases m:w<8
  ·have d:decide (w<8)=true:=by simp[m]
   refine dp @d @t4 @t5 @U5 @U6 @U7 ⟨?_⟩
   exact s _ _ _ ⟨al t0,al t3,⟨_,aI,n0 UN⟩,al t5,rfl,rfl⟩
  ·have d:decide (w<8)=false:=by simp[m]
   refine bB @d ⟨?_⟩
   exact s _ _ _ ⟨al t0,al t3,⟨z,al t4,g⟩,al t5,rfl,rfl⟩
 clear t0 t3 t4 t5 g U7
 rintro y U9 U3 ⟨t0,t3,⟨z,t4,g⟩,t5,rfl,rfl⟩
 show N _ _
 have UM:=yc ((T3%18446744073709551616-1)%18446744073709551616) z
 have U1:∀B,Go.Q.H X B aL=zy [.bool ty.b, .bool ty.s, .Z ty.w] 3->br X B 3 (.ptr aL 0)=some (.agg [.bool ty.b, .bool ty.s, .Z ty.w]):=λB e=>by rw[hm,aZ e,aZ e,aZ e];rfl
 by_cases m:8<w
 ·have d:decide (8<w)=true:=by simp[m]
  refine cw @t5 @t0 @d ⟨?_⟩
  refine(eM p T7 (nx:=U3) (n:=3) Zo Zo Zo).Zm ?_
  rintro UX UA U4 ⟨T2,rfl,US,T8,x⟩
  have UQ:=x.le
  have v:=U1 UA (by rw[x.R _ Zo Zx];exact O)
  by_cases T5:(T2:Int)=0
  ·have G:decide ((T2:Int)=0)=true:=by simp[T5]
   refine bo @d @G @t5 @t4 @t3 @U5 (Za @U6 (Za @UM @v)) ⟨?_⟩
   refine⟨ty,_,U4,rfl,by rw[a7 Zo];rfl,n0 _,Zo,Zo,T8.R (aV Zo Zo),Zo,λa f c=> ?_⟩
   rw[aV Zo Zo,x.R a Zo c,T0.R a f c]
  ·have G:decide ((T2:Int)=0)=false:=by simp only[Zb];exact T5
   refine dp @d @G @t5 @t4 @t3 @v ⟨?_⟩
   refine⟨ty,z,U4,rfl,by rw[a7 Zo];rfl,g,Zo,Zo,T8.R (aV Zo Zo),Zo,λa f c=> ?_⟩
   rw[aV Zo Zo,x.R a Zo c,T0.R a f c]
 ·have d:decide (8<w)=false:=by simp[m]
  have v:=U1 U9 O
  refine db @t5 @d @t4 @t3 @v ⟨?_⟩
  refine⟨ty,z,U3,rfl,by rw[a7 Zo];rfl,g,Zo,Zo,T7.R (aV Zo Zo),Zo,λa f c=> ?_⟩
  rw[aV Zo Zo,T0.R a f c]
end
structure jb(d:bv):Prop where
 nm:d.name∈gq
 on:d.on=[]\/d.on∈gq
def tv(ds:List bv):((ds.map bO).flatten).length=ds.length*8:=by
 have:=ix (rows:=ds.map bO) (an:=8) (by intro r K;obtain⟨d,_,rfl⟩:=ZB.1 K;rfl)
 rw[this,Zn]
def tw(ds:List bv)(d:bv):((ds++[d]).map bO).flatten=(ds.map bO).flatten++bO d:=by simp
section
variable{X:bQ}{S B cE ay aM:F ac}{nx nx' aG aL bw:Nat}
def rR{C:ax}{S:F ac}{b n k:Nat}{c:F q}{st:h1}{h:List q}(e:H C S b=some (.cells c n st))(a:dF c h)(d:h.length=k):br C S k (.ptr b 0)=some (.agg h):=by
 rw[ul,e]
 simp only[tV a k 0 Zo,Yf,ZJ]
 rw[<-d,zi]
def K5(t:d7):q.same 30 (.agg [.bool t.b, .bool t.s, .Z t.w]) (.agg [.bool t.b, .bool t.s, .Z t.w])=true:=by
 simp[q.same,ju,o1]
def tn(g:dV X)(Uc:eI X S bw)(Y:bw<nx)(V7:(o X).aN<=nx){n:Nat}(Uq:0<n)(VH:n<=3):
 aJ X 17 [.ptr bw 0, .Z (n:Int)] S nx (λL B nx'=>∃(ds:List bv) (aH:List Nat),cT X B L 8 (ds.map bO).flatten aH/\(∀a∈aH,nx<=a/\a<nx')/\ds.length<=n/\(∀d∈ds,jb d)/\eI X B bw/\im X [bw] S nx B nx') zG:=by
 refine zB g (Ca X) ?_
 rw[Cb]
 unfold vR
 refine(eM g Uc Y (n:=n) Uq Zo).Zm ?_
 rintro L ay aG ⟨r,rfl,K,UA,U8⟩
 refine bh ⟨?_⟩
 refine cM (λm y B ah=>∃(au:q) (ds:List bv) (aH:List Nat),y.g 0=some (.ptr bw 0)/\y.g 5=some au/\y.g 6=some (.Z (m:Int))/\cT X B au 8 (ds.map bO).flatten aH/\(∀a∈aH,nx<=a/\a<ah)/\ds.length+m<=n/\(∀d∈ds,jb d)/\eI X B bw/\im X [bw] S nx B ah)
  r ⟨.aw,[],[],aI,aI,aI, .inl (.inl ⟨rfl,rfl,rfl⟩),Zs,Zx,Zs,UA,U8⟩ ?_
 clear U8 UA
 rintro m y aM aL ⟨au,ds,aH,t0,t5,p,UM,t,V8,UF,UB,T1⟩
 have V9:=T1.le
 cases m with
 |zero=>
  have d:decide ((0:Int)<((0:Nat):Int))=false:=rfl
  refine cw @p @d @t5 ⟨?_⟩
  exact⟨ds,aH,UM,t,Zo,UF,UB,T1⟩
 |succ m=>
  have d:decide ((0:Int)<((m+1:Nat):Int))=true:=zK
  have UY:ag .sub (.Z ((m+1:Nat):Int)) (.Z 1)=some (.Z (m:Int)):=by rw[g0 Zo Zo,show((m+1:Nat):Int) -1=(m:Int) by omega]
  refine cw @p @d @t0 ⟨?_⟩
  generalize T7:aP X aM (aL+10) _=P
  have UZ:H X P (aL+10)=zy [.str [], .Z 0, .zF, .zF, .Z 0, .str [], .Z 0, .zF] 8:=by rw[<-T7,a7 Zo];rfl
  have UP:∀a,a≠aL+10->H X P a=H X aM a:=λa b=>by rw[<-T7,aV Zo b]
  clear T7
  refine(ki g (UB.R (UP _ Zo)) (nx:=aL+12) Zo Zo).Zm ?_
  rintro VM UV Uv ⟨s,rfl,UL,Ud,U9⟩
  have VA:=U9.le
  refine(sA g (nx:=Uv) (S:=UV) Zo).Zm ?_
  rintro VN V2 Uw ⟨Ut,Ur,U7⟩
  refine(eM g (Ud.R (U7.R _ Zo)) (nx:=Uw) (n:=8) Zo Zo Zo).Zm ?_
  rintro VO UW Ux ⟨O,rfl,UI,Ue,T2⟩
  have VB:=T2.le
  have TY:=Ut.R (B:=UW) (λa b=>by subst b;exact T2.R _ Ur Zx)
  obtain⟨ty,TZ⟩:∃ty,n9[O]? =some ty:=⟨_,Ze UI⟩
  have VL:=wP ty (Zg TZ)
  have Uo:=TY.cP O UI
  have UJ:=TY.row Zd (i:=O) (r:=eP ty) (by rw[Zw,TZ];rfl)
  have UN:eP ty=[.bool ty.b, .bool ty.s, .Z ty.w]:=rfl
  rw[UN]at UJ
  refine ci @Uo @UJ ⟨?_⟩
  refine(eM g Ue (nx:=Ux) (n:=50) Zo Zo Zo).Zm ?_
  rintro VP x Uy ⟨w,rfl,VI,Uf,T3⟩
  have VC:=T3.le
  have UK:=(TY.R (B:=x) (λa b=>by subst b;exact T3.R _ Zo Zx)).row Zd (i:=O) (r:=eP ty) (by rw[Zw,TZ];rfl)
  rw[UN]at UK
  have UQ:∀a,a<aL+12->a≠bw->H X x a=H X P a:=λa b f=>by
   have z:a∉[bw]:=by simpa using f
   rw[T3.R a Zo z,T2.R a Zo z,U7.R a Zo,U9.R a Zo z]
  have V5:H X x (aL+10)=zy [.str [], .Z 0, .zF, .zF, .Z 0, .str [], .Z 0, .zF] 8:=by rw[UQ _ Zo Zo];exact UZ
  refine bB @UK ⟨?_⟩
  refine eV (K5 ty) ?_
  refine bh ⟨?_⟩
  generalize T8:aP X x (aL+10) _=U2
  have Ua:H X U2 (aL+10)=zy (bO ⟨s,w,ty,[],0,false⟩) 8:=by rw[<-T8,a7 Zo];rfl
  have UR:∀a,a≠aL+10->H X U2 a=H X x a:=λa b=>by rw[<-T8,aV Zo b]
  clear T8
  refine bB @t0 ⟨?_⟩
  refine(eM g (Uf.R (UR _ Zo)) (nx:=Uy) (n:=3) Zo Zo Zo).Zm ?_
  rintro VQ U3 UT ⟨U1,rfl,VJ,UC,T4⟩
  have VD:=T4.le
  have U5:H X U3 (aL+10)=zy (bO ⟨s,w,ty,[],0,false⟩) 8:=by rw[T4.R _ Zo Zx];exact Ua
  have UO:∀a,a<aL->a≠bw->H X U3 a=H X aM a:=λa b f=>by
   rw[T4.R a Zo (by simpa using f),UR a Zo,UQ a Zo f,UP a Zo]
  have UD:∀a∈aH,a≠bw:=λa b=>zu (t a b)
  refine hl ⟨?_⟩
  refine cQ (λC B ah=>∃(c:F q) (d:bv),C.g 0=some (.ptr bw 0)/\C.g 5=some au/\C.g 6=some (.Z ((m+1:Nat):Int))/\C.g 7=some (.ptr (aL+10) 0)/\jb d/\H X B (aL+10)=some (.cells c 8 .own)/\dF c (bO d)/\eI X B bw/\UT<=ah/\∀a,a<aL->a≠bw->H X B a=H X aM a) (λE UE=> ?_) ?_
  ·by_cases U6:(U1:Int)=1
   ·have T0:decide ((U1:Int)=1)=true:=by simp only[Zc];exact U6
    refine ci @T0 @t0 ⟨?_⟩
    refine(ki g UC (nx:=UT) Zo Zo).Zm ?_
    rintro VR V3 Uz ⟨on,rfl,Us,Ug,T5⟩
    have VE:=T5.le
    refine bB @t0 ⟨?_⟩
    refine(eM g Ug (nx:=Uz) (n:=2) Zo Zo Zo).Zm ?_
    rintro VS fw cf ⟨UU,rfl,VK,Uh,T6⟩
    have VF:=T6.le
    have V6:H X fw (aL+10)=zy (bO ⟨s,w,ty,[],0,false⟩) 8:=by rw[T6.R _ Zo Zx,T5.R _ Zo Zx];exact U5
    refine bh ⟨?_⟩
    refine UE _ _ _ ⟨_,⟨s,w,ty,on,0,decide ((UU:Int)=1)⟩,al t0,al t5,al p,aI,⟨UL, .inr Us⟩,a7 Zo,((dj (bO ⟨s,w,ty,[],0,false⟩)).put (A:=5) (aB:=[.str on]) (by simp[bO])).put (A:=7) (aB:=[.bool (decide ((UU:Int)=1))]) (by simp[bO,i1]),Uh.R ?_,Zo,λa b f=> ?_⟩
    ·rw[aV Zo Zo,aV Zo Zo]
    ·rw[aV Zo Zo,aV Zo Zo,T6.R a Zo (by simpa using f),T5.R a Zo (by simpa using f),UO a b f]
   ·have T0:decide ((U1:Int)=1)=false:=by simp only[Zb];exact U6
    refine bB @T0 ⟨?_⟩
    exact UE _ _ _ ⟨_,⟨s,w,ty,[],0,false⟩,al t0,al t5,al p,aI,⟨UL, .inl rfl⟩,U5,dj _,UC,Zo,UO⟩
  ·clear t0 t5 p
   rintro y U4 G ⟨c,am,t0,t5,p,V1,Up,np,Ul,Ui,VG,US⟩
   have Um:bO am=[.str am.name, .Z am.at_, .bool am.ty.b, .bool am.ty.s, .Z am.ty.w, .str am.on, .Z am.dg, .bool am.no]:=rfl
   have UH:=rR np Ul rfl
   rw[Um]at UH
   show N _ _
   refine ci @t5 @V1 ⟨?_⟩
   refine cz UH ?_
   refine bh ⟨?_⟩
   generalize T9:aP X U4 G _=Z
   have Ub:H X Z G=zy (bO am) 8:=by rw[<-T9,a7 Zo];rfl
   have U0:∀a,a<G->H X Z a=H X U4 a:=λa b=>by rw[<-T9,aV Zo Zo]
   clear T9
   have Un:=tv ds
   obtain⟨V0,V4,UX,Uj,Uu,Uk,UG⟩:=(UM.R (B:=Z) (λa b=>by have:=t a b;rw[U0 a Zo,US a Zo (UD a b)])).append (nx:=G+1) (k:=1) Zd (hu Ub (dj _) rfl 1) rfl Zd rfl (by rw[Un];simp[bO];omega) Zo (λa b=>zu (t a b))
   refine eU Uj ?_
   refine ci @p @UY ⟨?_⟩
   refine⟨m,Zo,V0,ds++[am],UX,al t0,aI,aI,by rw[tw];exact .inl Uu,λa b=> ?_,Zx,λd v=> ?_,Ui.R ?_,Zo,λa b f=> ?_⟩
   ·rcases Uk a b with rfl|b
    ·omega
    ·have:=t a b;omega
   ·rcases Zr.1 v with v|v
    ·exact UF d v
    ·simp at v;subst v;exact Up
   ·rw[UG _ Zo (λe=>UD _ e rfl),U0 _ Zo]
   ·have z:a≠bw:=by simpa using f
    rw[UG a Zo (λe=>zu (t a e)),U0 a Zo,US a Zo z,T1.R a b f]
end
section
variable{X:bQ}{S B cE ay aM:F ac}{nx nx' aG aL bw:Nat}
structure g9(X:bQ)(S:F ac)(a n j r m:Nat):Prop where
 ex:∃ar b5 d,dd X S fE (dk a n) ar b5/\ar j=some d/\b5 j=r/\d.args.length+m<=3
def g9.one{a n j r m:Nat}{kind at_ k:Int}{name:aT}{no:Bool}{ty:d7}{c:F q}(b:(o X).aN<=a)(f:a<=j)(g:j<n)(Y:H X S j=some (.cells c 9 .own))(s:dF c (c2 kind at_ name no ty k .aw))
 (bc:1<=kind)(bl:kind<=26)(t:name=[]\/name∈gq)(v:0<=k)(w:k<18446744073709551616)(i:m<=3):g9 X S a n j r m:=
 ⟨_,_,⟨kind,at_,name,no,ty,k,[], .aw,[]⟩,dd.one (d:=⟨kind,at_,name,no,ty,k,[], .aw,[]⟩) (jD b) Y s ⟨f,g⟩ rfl rfl rfl ⟨bc,bl,t,v,w,(λa p=>by cases p),Zs⟩ r,Zs,rfl,by simpa using i⟩
def g9.tree{a n j r m:Nat}(e:g9 X S a n j r m)(K:1<=r):fk X S fE (dk a n) (.ptr j 0) r:=by
 obtain⟨ar,b5,d,b,c,f,_⟩:=e.ex
 exact⟨ar,b5,j,rfl,b,by rw[c];simp,Zo,Zo⟩
def pE{aD:dQ->Prop}{D:Nat->Prop}{ar:Nat->Option dQ}{b5:Nat->Nat}(e:dd X S aD D ar b5){a:Nat}(b:¬D a):ar a=none:=by
 cases j:ar a with
 |none=>rfl
 |some d=>exact absurd (e.cell a d j).1 b
def g9.rr{a n j b7 cJ r m:Nat}{at_ z:Int}{ty:d7}{c:F q}(C:(o X).aN<=a)(G:a<=j)(T1:j<b7)(T2:b7<cJ)(O:cJ<n)(K:2<=r)(p:0<=z/\z<18446744073709551616)
 (x:H X S b7=zy (c2 1 0 [] false ty z .aw) 9)(i:∃c,H X S cJ=some (.cells c 1 .own)/\dF c [.ptr b7 0])
 (w:H X S j=some (.cells c 9 .own))(g:dF c (c2 21 at_ [] false ck 0 (.slice cJ 0 1 1)))(T3:m<=2):g9 X S a n j r m:=by
 have t:=dd.one (aD:=fE) (D:=dk b7 (b7+1)) (d:=⟨1,0,[],false,ty,z,[], .aw,[]⟩) (jD Zo) x (dj _) ⟨Zp _,Zo⟩ rfl rfl rfl ⟨Zs,Zs, .inl rfl,p.1,p.2,(λa P=>by cases P),Zs⟩ 1
 obtain⟨s,i,Z⟩:=i
 have v:=t.add (B:=S) (bq:=dk a n) (b:=j) (r:=r) (d:=⟨21,at_,[],false,ck,0,[some b7], .slice cJ 0 1 1,[cJ]⟩) (λT0 f=>by have:=f.1;have:=f.2;exact⟨Zo,Zo⟩) (jD C) ⟨G,Zo⟩ (λe=>zu e.1) w g
  (.inr ⟨cJ,1,s, .own,rfl,rfl,rfl,i,Z,rfl,Zo⟩) (λT0 f=>by simp at f;subst f;exact⟨⟨Zo,O⟩,λe=>zu e.2,Zo⟩) (λc g=>by simp at g;subst g;exact⟨Zs,Zo⟩) (λ_ _=>rfl) ⟨Zs,Zs, .inl rfl,Zs,Zs,Zs,Zs⟩
 exact⟨_,_,_,v,Zv rfl,Zv rfl,Zx⟩
def g9.FS{a n j b7 cJ jF cf r m:Nat}{at_ z:Int}{ty:d7}{c:F q}(O:(o X).aN<=a)(P:a<=j)(T1:j<b7)(T2:b7<cJ)(T3:cJ<jF)(T4:jF<cf)(T5:cf<n)(K:3<=r)(s:0<=z/\z<18446744073709551616)
 (C:H X S b7=zy (c2 1 0 [] false ty z .aw) 9)(T:H X S jF=zy [.ptr b7 0] 1)(G:H X S cf=zy (c2 4 0 [] false ck 0 (.slice jF 0 1 1)) 9)
 (p:∃c,H X S cJ=some (.cells c 1 .own)/\dF c [.ptr cf 0])
 (x:H X S j=some (.cells c 9 .own))(g:dF c (c2 21 at_ [] false ck 0 (.slice cJ 0 1 1)))(T6:m<=2):g9 X S a n j r m:=by
 have v:=dd.one (aD:=fE) (D:=dk b7 (b7+1)) (d:=⟨1,0,[],false,ty,z,[], .aw,[]⟩) (jD Zo) C (dj _) ⟨Zp _,Zo⟩ rfl rfl rfl ⟨Zs,Zs, .inl rfl,s.1,s.2,(λa Z=>by cases Z),Zs⟩ 1
 have w:=v.add (B:=S) (bq:=λi=>dk b7 (b7+1) i\/dk jF (cf+1) i) (b:=cf) (r:=2) (d:=⟨4,0,[],false,ck,0,[some b7], .slice jF 0 1 1,[jF]⟩) (λi f=> .inl f) (λi f=>by rcases f with f|f<;>(have:=f.1;omega)) (.inr ⟨Zo,Zo⟩) (λe=>zu e.2) G (dj _)
  (.inr ⟨jF,1,_, .own,rfl,rfl,rfl,T,dj _,rfl,Zo⟩) (λi f=>by simp at f;subst f;exact⟨.inr ⟨Zp _,Zo⟩,λe=>zu e.2,Zo⟩) (λc g=>by simp at g;subst g;exact⟨Zs,Zo⟩) (λ_ _=>rfl) ⟨Zs,Zs, .inl rfl,Zs,Zs,Zs,Zs⟩
 obtain⟨t,p,T0⟩:=p
 have f3:=w.add (B:=S) (bq:=dk a n) (b:=j) (r:=r) (d:=⟨21,at_,[],false,ck,0,[some cf], .slice cJ 0 1 1,[cJ]⟩) (λi f=>by rcases f with f|f<;>(have:=f.1;have:=f.2;exact⟨Zo,Zo⟩)) (jD O) ⟨P,Zo⟩ (λe=>by rcases e with e|e<;>(have:=e.1;omega)) x g
  (.inr ⟨cJ,1,t, .own,rfl,rfl,rfl,p,T0,rfl,Zo⟩) (λi f=>by simp at f;subst f;exact⟨⟨Zo,Zo⟩,λe=>by rcases e with e|e<;>(have:=e.1;have:=e.2;omega),Zo⟩) (λc g=>by simp at g;subst g;exact⟨Zs,Zx⟩) (λ_ _=>rfl) ⟨Zs,Zs, .inl rfl,Zs,Zs,Zs,Zs⟩
 exact⟨_,_,_,f3,Zv rfl,Zv rfl,Zx⟩
end
section
variable{X:bQ}{S B cE ay aM:F ac}{nx nx' aG aL bw:Nat}
set_option maxRecDepth 100000 in
def FQ(C:dV X):∀(t:Nat),t<=100->∀(S:F ac) (nx:Nat),eI X S bw->bw<nx->(o X).aN<=nx->
 aJ X 19 [.ptr bw 0, .Z (t:Int)] S nx (λL B nx'=>fk X B fE (dk nx nx') L (t+1)/\eI X B bw/\im X [bw] S nx B nx') zG:=by
 intro t
 induction t using Nat.strongRecOn with
 |_ t U=>
 intro WQ S nx V3 Y T7
 refine zB C (Ce X) ?_
 rw[Cf]
 unfold vT
 obtain⟨c,au,m,i,U5,UP,VI,VJ,WM,WN,WO⟩:=id V3.at_
 by_cases WS:t<=1\/m<=i
 ·by_cases WP:t<=1
  all_goals
   first
   |(
     have x:decide ((t:Int)<=1)=true:=zK
     refine bB @x ⟨?_⟩)
   |(
     have x:decide ((t:Int)<=1)=false:=zJ
     have O:decide ((m:Int)<=(i:Int))=true:=zK
     refine dp @x (aZ U5) @VI @UP @VJ @O ⟨?_⟩)
   refine(eM C V3 (nx:=nx+14) (n:=2) Zo Zo Zo).Zm ?_
   rintro WJ ay aG ⟨r,rfl,K,Up,US⟩
   have W4:=US.le
   by_cases VU:(r:Int)=0
   ·have G:decide ((r:Int)=0)=true:=by simp only[Zc];exact VU
    refine bB @G ⟨?_⟩
    refine(ki C Up (nx:=aG) Zo Zo).Zm ?_
    rintro Vc aM aL ⟨s,rfl,U6,Uf,UH⟩
    have W5:=UH.le
    refine bh ⟨?_⟩
    refine(vh C (nx:=aL) Zo s).Zm ?_
    rintro Wi UL We ⟨rfl,TZ,W6,Ue⟩
    exact⟨(fk.leaf T7 TZ Zo W6 Zd Zd (.inr U6) Zd Zd).lift (λ_ e=>e) (jD T7) Zo,Uf.R (Ue.R _ Zo),Zo,λf g p=>by rw[Ue.R f Zo,UH.R f Zo p,US.R f Zo p]⟩
   ·have G:decide ((r:Int)=0)=false:=by simp only[Zb];exact VU
    refine bB @G ⟨?_⟩
    refine(uq C Up (nx:=aG) Zo Zo).Zm ?_
    rintro Vc aM aL ⟨ty,z,b7,rfl,Vj,U0,Ux,UZ,Uf,UH⟩
    exact⟨(fk.leaf T7 Vj Zo UZ Zd Zd (.inl rfl) U0.1 U0.2).lift (λ_ e=>e) (jD T7) Zo,Uf,Zo,λf g p=>by rw[UH.R f Zo p,US.R f Zo p]⟩
 ·have x:decide ((t:Int)<=1)=false:=zJ
  have O:decide ((m:Int)<=(i:Int))=false:=zJ
  refine dp @x (aZ U5) @VI @UP @VJ @O ⟨?_⟩
  refine(eM C V3 (nx:=nx+14) (n:=26) Zo Zo Zo).Zm ?_
  rintro WJ ay aG ⟨r,rfl,K,Up,US⟩
  have W4:=US.le
  have UN:ag .add (.Z 1) (.Z (r:Int))=some (.Z (1+(r:Int))):=ct Zo Zo
  have VR:1<=1+(r:Int):=Zo
  have VS:1+(r:Int)<=26:=Zo
  generalize 1+(r:Int)=k at UN VR VS
  refine bB @UN ⟨?_⟩
  refine(eM C Up (nx:=aG) (n:=100) Zo Zo Zo).Zm ?_
  rintro Vc aM j ⟨at_,rfl,WR,Uf,UH⟩
  have W5:=UH.le
  refine hl ⟨?_⟩
  generalize V4:aP X aM j _=UL
  have TZ:H X UL j=zy (c2 k at_ [] false ck 0 .aw) 9:=by rw[<-V4,a7 Zo];rfl
  have Ue:aX X aM j UL (j+1):=by rw[<-V4];exact dJ
  clear V4
  have T6:=Uf.R (Ue.R _ Zo)
  have T5:im X [bw] S nx UL (j+1):=⟨Zo,λf g p=>by rw[Ue.R f Zo,UH.R f Zo p,US.R f Zo p]⟩
  refine cQ (λU8 B ah=>∃(many:Nat),U8.g 0=some (.ptr bw 0)/\U8.g 1=some (.Z (t:Int))/\U8.g 6=some (.ptr j 0)/\U8.g 7=some (.Z (many:Int))/\j<ah/\g9 X B nx ah j (t+1) many/\eI X B bw/\im X [bw] S nx B ah) (λE T9=> ?_) ?_
  ·have UC:∀{Va:Nat}{nm:aT}{no:Bool}{ty:d7}{z:Int}{c:F q}{B:F ac}{ah:Nat},Va<=3->j<ah->(nm=[]\/nm∈gq)->0<=z->z<18446744073709551616->H X B j=some (.cells c 9 .own)->dF c (c2 k at_ nm no ty z .aw)->g9 X B nx ah j (t+1) Va:=
    λW3 W1 W7 Ux UZ W2 Vx=>g9.one T7 Zo W1 W2 Vx VR VS W7 Ux UZ W3
   have z0:(0:Int)<18446744073709551616:=by decide
   by_cases bc:k=1
   ·have x:decide (k=1)=true:=by simp only[Zc];exact bc
    refine bB @x ⟨?_⟩
    refine(uq C T6 (nx:=j+1) Zo Zo).Zm ?_
    rintro Uk U1 UJ ⟨ty,z,b7,rfl,Ud,U0,Ux,UZ,T1,w⟩
    exact⟨(fk.leaf T7 Ud Zo UZ Zd Zd (.inl rfl) U0.1 U0.2).lift (λ_ e=>e) (jD T7) Zo,T1,Zo,λf g p=>by rw[w.R f Zo p,T5.R f g p]⟩
   have x:decide (k=1)=false:=by simp only[Zb];exact bc
   by_cases bl:k=2
   ·have O:decide (k=2)=true:=by simp only[Zc];exact bl
    refine ci @x @O ⟨?_⟩
    refine(ki C T6 (nx:=j+1) Zo Zo).Zm ?_
    rintro Uk U1 UJ ⟨s,rfl,U6,T1,w⟩
    have UX:=w.le
    refine bh ⟨?_⟩
    refine(vh C (nx:=UJ) Zo s).Zm ?_
    rintro Uy Z T2 ⟨rfl,V1,V9,UQ⟩
    exact⟨(fk.leaf T7 V1 Zo V9 Zd Zd (.inr U6) Zd Zd).lift (λ_ e=>e) (jD T7) Zo,T1.R (UQ.R _ Zo),Zo,λf g p=>by rw[UQ.R f Zo,w.R f Zo p,T5.R f g p]⟩
   have O:decide (k=2)=false:=by simp only[Zb];exact bl
   by_cases Uu:k=3\/k=4\/k=5
   ·have fin:g9 X UL nx (j+1) j (t+1) 1:=UC Zo Zo (.inl rfl) Zd z0 TZ (dj _)
    rcases Uu with Uu|Uu|Uu
    ·have G:decide (k=3)=true:=zK
     refine cw @x @O @G ⟨?_⟩
     exact T9 _ _ _ ⟨1,aI,aI,aI,cx,Zo,fin,T6,T5⟩
    ·have G:decide (k=3)=false:=zJ
     have T4:decide (k=4)=true:=zK
     refine cV @x @O @G @T4 ⟨?_⟩
     exact T9 _ _ _ ⟨1,aI,aI,aI,cx,Zo,fin,T6,T5⟩
    ·have G:decide (k=3)=false:=zJ
     have T4:decide (k=4)=false:=zJ
     have TY:decide (k=5)=true:=zK
     refine db @x @O @G @T4 @TY ⟨?_⟩
     exact T9 _ _ _ ⟨1,aI,aI,aI,cx,Zo,fin,T6,T5⟩
   have G:decide (k=3)=false:=zJ
   have T4:decide (k=4)=false:=zJ
   have TY:decide (k=5)=false:=zJ
   by_cases UI:k=6
   ·have U3:decide (k=6)=true:=by simp only[Zc];exact UI
    refine dp @x @O @G @T4 @TY @U3 ⟨?_⟩
    refine(ki C T6 (nx:=j+1) Zo Zo).Zm ?_
    rintro Uk U1 UJ ⟨s,rfl,U6,T1,w⟩
    have UX:=w.le
    refine bh ⟨?_⟩
    refine(eM C T1 (nx:=UJ) (n:=2) Zo Zo Zo).Zm ?_
    rintro Uy Z T2 ⟨UD,rfl,VV,UB,P⟩
    have V8:=P.le
    have V1:H X Z j=zy (c2 k at_ [] false ck 0 .aw) 9:=by rw[P.R _ Zo Zx,w.R _ Zo Zx];exact TZ
    refine bh ⟨?_⟩
    refine T9 _ _ _ ⟨1,aI,aI,aI,cx,Zo,UC (nm:=s) (no:=decide ((UD:Int)=1)) Zo Zo (.inr U6) Zd z0 (a7 Zo) (((dj (c2 k at_ [] false ck 0 .aw)).put (A:=2) (aB:=[.str s]) (by simp[c2])).put (A:=3) (aB:=[.bool (decide ((UD:Int)=1))]) (by simp[c2,i1])),UB.R ?_,Zo,λf g p=> ?_⟩
    ·rw[aV Zo Zo,aV Zo Zo]
    ·rw[aV Zo Zo,aV Zo Zo,P.R f Zo p,w.R f Zo p,T5.R f g p]
   have U3:decide (k=6)=false:=by simp only[Zb];exact UI
   by_cases gI:k=19\/k=20
   ·rcases gI with gI|gI
    all_goals
     first
     |(
       have U2:decide (k=19)=true:=zK
       refine bo @x @O @G @T4 @TY @U3 @U2 ⟨?_⟩)
     |(
       have U2:decide (k=19)=false:=zJ
       have U9:decide (k=20)=true:=zK
       refine bo @x @O @G @T4 @TY @U3 (Za @U2 @U9) ⟨?_⟩)
     refine(eM C T6 (nx:=j+1) (n:=64) Zo Zo Zo).Zm ?_
     rintro Uy Z T2 ⟨UD,rfl,VV,UB,P⟩
     have V8:=P.le
     have V1:H X Z j=zy (c2 k at_ [] false ck 0 .aw) 9:=by rw[P.R _ Zo Zx];exact TZ
     have U0:=n0 (UD:Int)
     refine bh ⟨?_⟩
     refine T9 _ _ _ ⟨1,aI,aI,aI,cx,Zo,UC (z:=(UD:Int)%18446744073709551616) Zo Zo (.inl rfl) U0.1 U0.2 (a7 Zo) ((dj (c2 k at_ [] false ck 0 .aw)).put (A:=7) (aB:=[.int .u64 ((UD:Int)%18446744073709551616)]) (by simp[c2])),UB.R (aV Zo Zo),Zo,λf g p=> ?_⟩
     rw[aV Zo Zo,P.R f Zo p,T5.R f g p]
   have U2:decide (k=19)=false:=zJ
   have U9:decide (k=20)=false:=zJ
   by_cases VZ:k=21
   ·have UG:decide (k=21)=true:=zK
    refine bo @x @O @G @T4 @TY @U3 (Za @U2 (Za @U9 @UG)) ⟨?_⟩
    refine(uq C T6 (nx:=j+1) Zo Zo).Zm ?_
    rintro Uk U1 cJ ⟨ty,z,b7,rfl,Ud,U0,Ux,UZ,T1,w⟩
    have UX:=w.le
    have Vk:H X U1 j=zy (c2 k at_ [] false ck 0 .aw) 9:=by rw[w.R _ Zo Zx];exact TZ
    refine bB @Vk ⟨?_⟩
    generalize Uq:aP X _ j _=Z
    have UO:∃c,H X Z j=some (.cells c 9 .own)/\dF c (c2 k at_ [] false ck 0 (.slice cJ 0 1 1)):=⟨_,by rw[<-Uq,a7 Zo];rfl,(dj (c2 k at_ [] false ck 0 .aw)).put (A:=8) (aB:=[.slice cJ 0 1 1]) (by simp[c2])⟩
    have Uo:H X Z cJ=zy [.ptr b7 0] 1:=by rw[<-Uq,aV Zo Zo,a7 Zo]
    have VC:∀f,f≠j->f<cJ->H X Z f=H X U1 f:=λf g WY=>by rw[<-Uq,aV Zo g,aV Zo Zo]
    clear Uq
    refine bh ⟨?_⟩
    refine(eM C (T1.R (VC _ Zo Zo)) (nx:=cJ+1) (n:=2) Zo Zo Zo).Zm ?_
    rintro Vd T3 U7 ⟨VE,rfl,WX,UV,U4⟩
    have VT:=U4.le
    have UI:∀f,f<=cJ->f≠bw->H X T3 f=H X Z f:=λf g p=>U4.R f Zo (by simpa using p)
    obtain⟨Ub,UO,Uh⟩:=UO
    rw[<-UI j Zo Zo]at UO
    rw[<-UI cJ Zo Zo]at Uo
    have VH:H X T3 b7=zy (c2 1 0 [] false ty z .aw) 9:=by rw[UI b7 Zo Zo,VC b7 Zo Zo];exact Ud
    have VL:∀f,f<nx->f∉[bw]->H X T3 f=H X S f:=λf g p=>by rw[UI f Zo (by simpa using p),VC f Zo Zo,w.R f Zo p,T5.R f g p]
    refine hl ⟨?_⟩
    refine cQ (λU8 B ah=>U8.g 0=some (.ptr bw 0)/\U8.g 1=some (.Z (t:Int))/\U8.g 6=some (.ptr j 0)/\j<ah/\g9 X B nx ah j (t+1) 1/\eI X B bw/\im X [bw] S nx B ah) (λWZ VQ=> ?_) ?_
    ·by_cases U5:(VE:Int)=1
     ·have UN:decide ((VE:Int)=1)=true:=by simp only[Zc];exact U5
      have Uj:W X T3 (.ptr j 8)=some (.slice cJ 0 1 1):=by rw[aZ UO,Uh 8];rfl
      have WE:W X T3 (.ptr cJ 0)=some (.ptr b7 0):=by rw[aZ Uo];rfl
      have Us:bH 1 (.slice cJ 0 1 1) (.Z 0)=some (.ptr cJ 0):=mq (i:=0) .i64 Zd
      refine cV @UN @Uj @WE @Us ⟨?_⟩
      refine(y0 C (nx:=U7+13) Zo 4 b7).Zm ?_
      rintro Wj UF Wf ⟨rfl,Vn,Vm,WV,UR⟩
      have WD:W X UF (.ptr j 8)=some (.slice cJ 0 1 1):=by rw[UR.cW _ _ Zo];exact Uj
      refine ci @Us @WD ⟨?_⟩
      refine eV (by simp[q.same]) ?_
      have WL:H X UF cJ=zy [.ptr b7 0] 1:=by rw[UR.R _ Zo];exact Uo
      refine bh ⟨?_⟩
      refine VQ _ _ _ ⟨aI,aI,aI,Zo,g9.FS (ty:=ty) (b7:=b7) (cJ:=cJ) (jF:=U7+13) (cf:=U7+13+1) (c:=Ub) T7 Zo Zo Zo Zo Zo Zo Zo U0 ?_ ?_ ?_ ⟨_,a7 Zo,(dj [.ptr b7 0]).put (A:=0) (aB:=[.ptr (U7+13+1) 0]) Zs⟩ ?_ (by rw[<-VZ];exact Uh) Zo,UV.R ?_,Zo,λf g p=> ?_⟩
      ·rw[aV Zo Zo,UR.R _ Zo];exact VH
      ·rw[aV Zo Zo];exact Vn
      ·rw[aV Zo Zo];exact Vm
      ·rw[aV Zo Zo,UR.R _ Zo];exact UO
      ·rw[aV Zo Zo,UR.R _ Zo]
      ·rw[aV Zo Zo,UR.R _ Zo,VL f g p]
     ·have UN:decide ((VE:Int)=1)=false:=by simp only[Zb];exact U5
      refine bB @UN ⟨?_⟩
      exact VQ _ _ _ ⟨aI,aI,aI,Zo,g9.rr (b7:=b7) (cJ:=cJ) (c:=Ub) T7 Zo Zo Zo Zo Zo U0 VH ⟨_,Uo,dj _⟩ UO (by rw[<-VZ];exact Uh) Zo,UV,Zo,VL⟩
    ·rintro y Ul Wg ⟨t0,UK,UE,Ui,UA,Vu,Vr⟩
     refine bh ⟨?_⟩
     exact T9 _ _ _ ⟨1,al t0,al UK,al UE,cx,Ui,UA,Vu,Vr⟩
   have UG:decide (k=21)=false:=zJ
   by_cases Wa:k=23
   ·have UM:decide (k=23)=true:=zK
    refine bo @x @O @G @T4 @TY @U3 (Za @U2 (Za @U9 (Za @UG @UM))) ⟨?_⟩
    exact T9 _ _ _ ⟨3,aI,aI,aI,cx,Zo,UC Zo Zo (.inl rfl) Zd z0 TZ (dj _),T6,T5⟩
   have UM:decide (k=23)=false:=zJ
   by_cases Wb:k=24
   ·have Uc:decide (k=24)=true:=zK
    refine bo @x @O @G @T4 @TY @U3 (Za @U2 (Za @U9 (Za @UG (Za @UM @Uc)))) ⟨?_⟩
    refine(ki C T6 (nx:=j+1) Zo Zo).Zm ?_
    rintro Uk U1 UJ ⟨s,rfl,U6,T1,w⟩
    have UX:=w.le
    have Ud:H X U1 j=zy (c2 k at_ [] false ck 0 .aw) 9:=by rw[w.R _ Zo Zx];exact TZ
    refine bh ⟨?_⟩
    refine T9 _ _ _ ⟨2,aI,aI,aI,cx,Zo,UC (nm:=s) Zo Zo (.inr U6) Zd z0 (a7 Zo) ((dj (c2 k at_ [] false ck 0 .aw)).put (A:=2) (aB:=[.str s]) (by simp[c2])),T1.R (aV Zo Zo),Zo,λf g p=> ?_⟩
    rw[aV Zo Zo,w.R f Zo p,T5.R f g p]
   have Uc:decide (k=24)=false:=zJ
   by_cases Wc:k=25
   ·have Un:decide (k=25)=true:=zK
    refine bo @x @O @G @T4 @TY @U3 (Za @U2 (Za @U9 (Za @UG (Za @UM (Za @Uc @Un))))) ⟨?_⟩
    refine(eM C T6 (nx:=j+1) (n:=4) Zo Zo Zo).Zm ?_
    rintro Uy Z T2 ⟨UD,rfl,VV,UB,P⟩
    have V8:=P.le
    refine bh ⟨?_⟩
    refine(ki C UB (nx:=T2) Zo Zo).Zm ?_
    rintro Uk U1 UJ ⟨s,rfl,U6,T1,w⟩
    have UX:=w.le
    have Ud:H X U1 j=zy (c2 k at_ [] false ck 0 .aw) 9:=by rw[w.R _ Zo Zx,P.R _ Zo Zx];exact TZ
    refine bh ⟨?_⟩
    refine T9 _ _ _ ⟨UD,aI,aI,aI,aI,Zo,UC (nm:=s) Zo Zo (.inr U6) Zd z0 (a7 Zo) ((dj (c2 k at_ [] false ck 0 .aw)).put (A:=2) (aB:=[.str s]) (by simp[c2])),T1.R (aV Zo Zo),Zo,λf g p=> ?_⟩
    rw[aV Zo Zo,w.R f Zo p,P.R f Zo p,T5.R f g p]
   have Un:decide (k=25)=false:=zJ
   by_cases Wd:k=26
   ·have V0:decide (k=26)=true:=zK
    refine bo @x @O @G @T4 @TY @U3 (Za @U2 (Za @U9 (Za @UG (Za @UM (Za @Uc (Za @Un @V0)))))) ⟨?_⟩
    refine(sA C (nx:=j+1+10) (S:=UL) Zo).Zm ?_
    rintro Uy Z T2 ⟨W8,V9,UQ⟩
    refine(eM C (T6.R (UQ.R _ Zo)) (nx:=T2) (n:=8) Zo Zo Zo).Zm ?_
    rintro Vd T3 U7 ⟨VD,rfl,VB,UV,U4⟩
    have VT:=U4.le
    have VW:=W8.R (B:=T3) (λf g=>by subst g;exact U4.R _ V9 Zx)
    obtain⟨ty,WB⟩:∃ty,n9[VD]? =some ty:=⟨_,Ze VB⟩
    have Us:=VW.cP VD VB
    have VX:=VW.row Zd (i:=VD) (r:=eP ty) (by rw[Zw,WB];rfl)
    have WA:eP ty=[.bool ty.b, .bool ty.s, .Z ty.w]:=rfl
    rw[WA]at VX
    have WK:H X T3 j=zy (c2 k at_ [] false ck 0 .aw) 9:=by rw[U4.R _ Zo Zx,UQ.R _ Zo];exact TZ
    refine ci @Us @VX ⟨?_⟩
    refine T9 _ _ _ ⟨1,aI,aI,aI,cx,Zo,UC (ty:=ty) Zo Zo (.inl rfl) Zd z0 (a7 Zo) ((dj (c2 k at_ [] false ck 0 .aw)).put (A:=4) (aB:=[.bool ty.b, .bool ty.s, .Z ty.w]) (by simp[c2])),UV.R (aV Zo Zo),Zo,λf g p=> ?_⟩
    rw[aV Zo Zo,U4.R f Zo p,UQ.R f Zo,T5.R f g p]
   have V0:decide (k=26)=false:=zJ
   refine bo @x @O @G @T4 @TY @U3 (Za @U2 (Za @U9 (Za @UG (Za @UM (Za @Uc (Za @Un @V0)))))) ⟨?_⟩
   exact T9 _ _ _ ⟨2,aI,aI,aI,cx,Zo,UC Zo Zo (.inl rfl) Zd z0 TZ (dj _),T6,T5⟩
  ·rintro y U1 UJ ⟨many,t0,UK,UE,Ua,Ui,UA,T1,w⟩
   have UX:=w.le
   refine bh ⟨?_⟩
   refine cM (λUY y B ah=>∃(E:Nat),y.g 0=some (.ptr bw 0)/\y.g 1=some (.Z (t:Int))/\y.g 6=some (.ptr j 0)/\y.g 7=some (.Z (many:Int))/\y.g 8=some (.Z (E:Int))/\E+UY=many/\j<ah/\g9 X B nx ah j (t+1) UY/\eI X B bw/\im X [bw] S nx B ah)
    many ⟨0,al t0,al UK,al UE,al Ua,cx,Zo,Ui,UA,T1,w⟩ ?_
   have WU:many<=3:=by obtain⟨ar,b5,d,_,_,_,e⟩:=UA.ex;omega
   clear t0 UK UE Ua Ui UA T1 w UX
   rintro UY y Z T2 ⟨E,t0,UK,UE,Ua,VF,T9,Ui,UA,UB,P⟩
   have V8:=P.le
   cases UY with
   |zero=>
    have d:=zv E many
    refine cV @VF @Ua @d @UE ⟨?_⟩
    exact⟨UA.tree Zo,UB,P⟩
   |succ UY=>
    have d:=zw E many
    have Vh:=zz E
    have Vi:ag .sub (.Z (t:Int)) (.Z 1)=some (.Z ((t-1:Nat):Int)):=by rw[g0 Zo Zo,show(t:Int) -1=((t-1:Nat):Int) by omega]
    obtain⟨ar,b5,T0,UT,T8,W9,WT⟩:=UA.ex
    have Uj:=UT.oM T8 (i:=8) (v:=T0.au) rfl
    have Vp:=UT.arg j T0 T8
    have Ug:=UT.a8 j T0 T8
    refine bo @VF @Ua @d @UE @Uj @t0 (Za @UK @Vi) ⟨?_⟩
    refine(U (t-1) Zo Zo Z (T2+14) UB Zo Zo).Zm ?_
    rintro Vd T3 U7 ⟨⟨Ve,WI,Um,rfl,VK,VN,WW,VB⟩,UV,U4⟩
    have VT:=U4.le
    have V7:∀f,f<T2->f≠bw->H X T3 f=H X Z f:=λf g p=>U4.R f Zo (by simpa using p)
    have WC:W X T3 (.ptr j 8)=some T0.au:=zF (V7 j Zo Zo) Uj
    refine bB @WC ⟨?_⟩
    refine eV (cT.same Vp).2.2 ?_
    generalize V5:aP X T3 (T2+9) _=UF
    have Vl:H X UF (T2+9)=zy [.ptr Um 0] 1:=by rw[<-V5,a7 Zo]
    have Uv:∀f,f≠T2+9->H X UF f=H X T3 f:=λf g=>by rw[<-V5,aV Zo g]
    clear V5
    have V2:dd X UF fE (dk nx T2) ar b5:=UT.R λf g=>by have:=g.1;have:=g.2;rw[Uv f Zo,V7 f Zo Zo]
    have Vs:dd X UF fE (dk (T2+14) U7) Ve WI:=VK.R λf g=>by have:=g.1;rw[Uv f Zo]
    have Ur:=V2.union Vs (λf U5 UP=>by have:=U5.2;have:=UP.1;omega)
    have Vq:=V2.arg j T0 T8
    have Uh:=V2.cell j T0 T8
    obtain⟨Vb,Ul,VG,Vw,VY,VM,Ut⟩:=Vq.append (nx:=U7) (k:=1) Zd (hu Vl (dj _) rfl 1) rfl Zd rfl Zx Zo (λf g=>zu (Ug f g).1.2)
    refine eU Vw ?_
    obtain⟨WF,WG,Wh⟩:=c9.one VY
    obtain⟨Ub,Vy,Vz⟩:=Uh.2
    have VO:j∉T0.aH:=λe=>by have:=(Ug j e).2;rw[T8]at this;cases this
    have WH:H X Ul j=some (.cells Ub 9 .own):=by rw[Ut j Zo VO];exact Vy
    refine bh ⟨?_⟩
    refine cz (kr WH Zo Zo WF WG) ?_
    generalize V6:aP X Ul j _=Uz
    have Vo:H X Uz j=some (.cells (Ub.set 8 (some Vb)) 9 .own):=by rw[<-V6,a7 Zo]
    have Uw:∀f,f≠j->H X Uz f=H X Ul f:=λf g=>by rw[<-V6,aV Zo g]
    clear V6
    refine ci @VF @Vh ⟨?_⟩
    have Vt:ar Um=none:=pE UT λe=>by obtain⟨Vg,W0⟩:=Yb.1 VN;have:=(VK.cell Um Vg W0).1.1;have:=e.2;omega
    have VP:j∉VG:=λe=>by
     rcases VM j e with e|e
     ·omega
     ·exact VO e
    refine⟨UY,Zo,E+1,al t0,al UK,al UE,al Ua,aI,Zo,Zo,⟨_,_,{T0 with args:=T0.args++[some Um],au:=Vb,aH:=VG},Ur.set (B:=Uz) (b:=j) (d:=T0) (bq:=dk nx (U7+1)) (by simp only[T8]) (λf g=>by rcases g with g|g<;>(have:=g.1;have:=g.2;exact⟨Zo,Zo⟩)) (jD T7) ⟨_,Vo, ?_⟩ (.inl ?_) (λf g=> ?_) (λVf e1=> ?_) (λf g U5 UP=> ?_) ?_,Zv rfl, ?_, ?_⟩,UV.R ?_,Zo,λf g p=> ?_⟩
    ·intro J
     rw[F.gj]
     by_cases VA:J=8
     ·subst VA;rw[Zv rfl];rfl
     ·rw[Zj (λj=>VA j.symm),Vz J]
      show T0.cells[J]? =(c2 _ _ _ _ _ _ _)[J]?
      unfold dQ.cells c2
      match J with
      |0=>rfl
      |1=>rfl
      |2=>rfl
      |3=>rfl
      |4=>rfl
      |5=>rfl
      |6=>rfl
      |7=>rfl
      |8=>exact absurd rfl VA
      |J+9=>rfl
    ·rw[YF]
     exact VY.R λf g=>Uw f (λe=>VP (e▸g))
    ·rcases VM f g with rfl|jp
     ·exact⟨⟨Zo,Zo⟩,pE Ur (λe=>by rcases e with e|e<;>(have:=e.2;omega)),Zo, .inr (λe=>by rcases e with e|e<;>(have:=e.2;omega))⟩
     ·have:=Ug f jp
      exact⟨⟨this.1.1,zu this.1.2⟩,(Ur.a8 j T0 (by simp only[T8]) f jp).2,λe=>VP (e▸g), .inl jp⟩
    ·rcases Zr.1 e1 with e1|e1
     ·exact Ur.fY j T0 Vf (by simp only[T8]) e1
     ·simp at e1
      subst e1
      simp only[Vt,T8,Z4,Ya,ZP,ZR,ZM]
      exact⟨VN,Zo⟩
    ·rw[Uw f U5,Ut f (λe=>by rcases g with g|g<;>(have:=g.2;omega)) UP]
    ·have UU:=UT.ok j T0 T8
     exact⟨UU.bc,UU.bl,UU.nm,UU.aG,UU.aL,λa UW=>by
      rcases Zr.1 UW with UW|UW
      ·exact UU.full a UW
      ·simp at UW;subst UW;simp,Zx⟩
    ·simp only[T8,Ya,ZP];exact W9
    ·simp;omega
    ·rw[Uw _ Zo,Ut _ Zo (λe=>zu (Ug _ e).1.1),Uv _ Zo]
    ·have Vv:f≠bw:=by simpa using p
     rw[Uw f Zo,Ut f Zo (λe=>zu (Ug _ e).1.1),Uv f Zo,V7 f Zo Vv,P.R f g p]
end
section
variable{ar:Nat->Option dQ}{w:Nat->Nat}
def jO(j:bg):Prop:=hy j/\(dH j).length<=120000
def nL(w:Nat->Nat):Option Nat->Nat
 |none=>1
 |some c=>w c
def gv(w:Nat->Nat):List (Option Nat)->Nat
 |[]=>0
 |A::h=>nL w A+gv w h
structure gd(ar:Nat->Option dQ)(w:Nat->Nat)(s:Nat):Prop where
 pos:∀b,1<=w b
 sum:∀b d,ar b=some d->s+gv w d.args<=w b
def K0{bI:Nat}:∀(h:List (Option Nat)),(∀A∈h,nL w A<=bI)->gv w h<=h.length*bI:=by
 intro h
 induction h with
 |nil=>intro _;simp[gv]
 |cons A h U=>
  intro e
  have b:=e A (Zl ..)
  have c:=U λA a=>e A (Zi _ a)
  rw[ZC,zr]
  simp only[gv]
  omega
def AX(w:Nat->Nat)(A:Option Nat):∀(h:List (Option Nat)),gv w (h++[A])=gv w h+nL w A:=by
 intro h
 induction h with
 |nil=>simp[gv]
 |cons a h U=>simp only[YZ,gv,U];omega
def AW{v w:Nat->Nat}:∀(h:List (Option Nat)),(∀c,some c∈h->v c=w c)->gv v h=gv w h:=by
 intro h
 induction h with
 |nil=>intro _;rfl
 |cons a h U=>
  intro e
  simp only[gv]
  rw[U λc b=>e c (Zi _ b)]
  cases a with
  |none=>rfl
  |some c=>simp only[nL];rw[e c (Zl ..)]
def yR:(dH g3).length=1:=by unfold g3;rw[mH];rfl
def gd.size(e:gd ar w 1):∀(k:Nat) (A:Option Nat),(dH (g7 ar k A)).length<=nL w A:=by
 have f:∀A,(dH g3).length<=nL w A:=λA=>by
  rw[yR]
  cases A with
  |none=>exact Zp _
  |some c=>exact e.pos c
 intro k
 induction k with
 |zero=>exact f
 |succ k U=>
  intro A
  cases A with
  |none=>exact f none
  |some b=>
   cases Y:ar b with
   |none=>simp only[g7,Y];exact f (some b)
   |some d=>
    simp only[g7,Y]
    rw[mH]
    have key:∀h:List (Option Nat),(ev (h.map (g7 ar k))).length<=gv w h:=by
     intro h
     induction h with
     |nil=>simp[ev,gv]
     |cons a h m=>
      have:=U a
      simp only[ZS,ev,gv,ZT]
      omega
    have g:=key d.args
    have i:=e.sum b d Y
    rw[ZC]
    show(ev (d.args.map (g7 ar k))).length+1<=w b
    omega
def gd.less{s:Nat}(e:gd ar w (s+1)):gd ar w s:=⟨e.pos,λb d j=>zu (e.sum b d j)⟩
def gd.tP{s b:Nat}{d a:dQ}(e:gd ar w s)(Y:ar b=some d)(g:a.args=d.args):gd (λc=>if c=b then some a else ar c) w s:=by
 refine⟨e.pos,λbb f j=> ?_⟩
 split at j
 ·rename_i J
  cases j
  rw[g,J]
  exact e.sum b d Y
 ·exact e.sum bb f j
def gd.Jn{j:Nat}{d b:dQ}(e:gd ar w 2)(i:ar j=some d)(g:b.args=d.args++[none]):gd (λc=>if c=j then some b else ar c) w 1:=by
 refine⟨e.pos,λbb f a=> ?_⟩
 split at a
 ·rename_i J
  cases a
  have:=e.sum j d i
  rw[g,J,AX]
  show 1+(gv w d.args+1)<=w j
  omega
 ·have:=e.sum bb f a;omega
def gd.Jo{j a:Nat}{d m leaf:dQ}(e:gd ar w 2)(t:∀b d c,ar b=some d->some c∈d.args->ar c≠none)(p:ar a=none)(ap:leaf.args=[])(i:ar j=some d)(s:m.args=d.args++[some a]):
 gd (λf=>if f=j then some m else if f=a then some leaf else ar f) (λf=>if f=a then 1 else w f) 1:=by
 have r:∀b d,ar b=some d->gv (λf=>if f=a then 1 else w f) d.args=gv w d.args:=λb d Y=>AW _ λc z=>by
  have v:c≠a:=λj=>t b d c Y z (by rw[j];exact p)
  simp only[v,ZM]
 refine⟨λb=> ?_,λbb n g=> ?_⟩
 ·split
  ·exact Zp _
  ·exact e.pos b
 ·have x:j≠a:=λj=>by rw[j,p]at i;cases i
  split at g
  ·rename_i J
   cases g
   have:=e.sum j d i
   subst J
   rw[s,AX,r bb d i,Zj x]
   show 1+(gv w d.args+(if a=a then 1 else w a))<=w bb
   rw[Zv rfl]
   omega
  ·split at g
   ·rename_i J
    cases g
    rw[ap,Zv J]
    exact Zp _
   ·rename_i J
    rw[r bb n g,Zj J]
    have:=e.sum bb n g
    omega
def gd.over{b t:Nat}{d:dQ}(e:gd ar w 1)(m:∀b d c,ar b=some d->some c∈d.args->ar c≠none)(Y:ar b=none)(r:ar t≠none)(i:d.args=[some t]):
 gd (λa=>if a=b then some d else ar a) (λa=>if a=b then w t+1 else w a) 1:=by
 have s:t≠b:=λj=>r (by rw[j];exact Y)
 refine⟨λa=> ?_,λbb g f=> ?_⟩
 ·split
  ·omega
  ·exact e.pos a
 ·split at f
  ·rename_i J
   cases f
   rw[i,Zv J]
   show 1+((if t=b then w t+1 else w t)+0)<=w t+1
   rw[Zj s]
   omega
  ·rename_i J
   rw[Zj J,AW (w:=w) _ λc p=>by
    have n:c≠b:=λj=>m bb g c f p (by rw[j];exact Y)
    simp only[n,ZM]]
   exact e.sum bb g f
def n1(b5:Nat->Nat):Nat->Nat:=λb=>2*3^(b5 b+1) -1
def uN(n:Nat):1<=3^n:=Nat.one_le_pow n 3 Zd
def dd.wt{X:bQ}{S:F ac}{D:Nat->Prop}{b5:Nat->Nat}(e:dd X S fE D ar b5):gd ar (n1 b5) 2:=by
 refine⟨λb=> ?_,λb d Y=> ?_⟩
 ·have:=uN (b5 b+1)
  unfold n1
  omega
 ·have f:=K0 (w:=n1 b5) (bI:=2*3^b5 b-1) d.args λA g=>by
   have i:=uN (b5 b)
   cases A with
   |none=>show 1<=_;omega
   |some c=>
    have a:=(e.fY b d c Y g).2
    have m:3^(b5 c+1)<=3^b5 b:=Nat.pow_le_pow_right Zd a
    show 2*3^(b5 c+1) -1<=_
    omega
  have a:=zd (2*3^b5 b-1) (e.ok b d Y).ea
  have i:=uN (b5 b)
  unfold n1 at f ⊢
  rw[Nat.pow_succ]
  omega
def A9{b5:Nat->Nat}{b:Nat}(e:b5 b<=9):n1 b5 b<=118097:=by
 have a:3^(b5 b+1)<=3^10:=Nat.pow_le_pow_right Zd Zo
 unfold n1
 rw[show(3:Nat)^10=59049 from by decide]at a
 omega
def Hc:jO g3:=⟨t8,by rw[yR];decide⟩
end
def m2(X:bQ)(S:F ac)(D:Nat->Prop)(v:q)(n:Nat):Prop:=∃ar b5 w b,v= .ptr b 0/\dd X S fE D ar b5/\ar b≠none/\1<=b5 b/\gd ar w 1/\w b<=n
structure mR where
 left:List aT
 at_:Int
 dy:q
structure fu where
 name:aT
 cj:List bv
 out:List bv
 loc:List bv
 eqs:List mR
def iJ(X:bQ)(S:F ac)(bm:Nat->Prop)(J:mR)(row:List q):Prop:=∃(M:Nat->Nat) (au:q) (b:Nat),row=[au, .aw, .Z J.at_,J.dy]/\cg X S (λa=>bm a/\M a=1) b au 1 (dr J.left)/\fk X S fE (λa=>bm a/\M a=0) J.dy 9
def jP(X:bQ)(S:F ac)(bm:Nat->Prop)(g:fu)(row:List q):Prop:=∃(M:Nat->Nat) (bx bz au b:q) (b0 bb b4 c1:Nat) (rows:List (List q)),row=[.str g.name, .Z 0,bx,bz,au,b]
 /\en X S (λa=>bm a/\M a=1) b0 bx 8 (g.cj.map bO)/\en X S (λa=>bm a/\M a=2) bb bz 8 (g.out.map bO)/\en X S (λa=>bm a/\M a=3) b4 au 8 (g.loc.map bO)/\en X S (λa=>bm a/\M a=4) c1 b 4 rows
 /\rows.length=g.eqs.length/\∀(i:Nat) J row,g.eqs[i]? =some J->rows[i]? =some row->iJ X S (λa=>bm a/\M a=5+i) J row
structure kz(g:fu):Prop where
 nm:g.name∈gq
 cj:∀d∈g.cj,jb d
 out:∃ds t,g.out=ds++[⟨gt,0,t,[],0,false⟩]/\∀d∈ds,jb d
 loc:∀d∈g.loc,jb d
 left:∀J∈g.eqs,∀w∈J.left,w∈gq
 ea:g.eqs.length<=100
 an:g.cj.length<=100/\g.out.length<=100/\g.loc.length<=100
structure h0(g:Go.a6.Node):Prop where
 g1:vo g
 bad:hA g->sV g
 an:g.cj.length<=1000/\g.out.length<=1000/\g.loc.length<=1000/\g.eqs.length<=1000
 ea:∀J∈g.eqs,(dH J.right).length<=120000
section
variable{X:bQ}{S B cE ay aM:F ac}{nx nx' aG aL bw:Nat}{bm d0:Nat->Prop}
def fk.to{aD:dQ->Prop}{v:q}{n:Nat}(e:fk X S aD bm v n)(k:∀a,bm a->H X B a=H X S a)(J:∀a,bm a->d0 a)(ap:∀a,d0 a->(o X).aN<=a):fk X B aD d0 v n:=(e.R k).lift J ap (Zp _)
def iJ.to{J:mR}{row:List q}(e:iJ X S bm J row)(k:∀a,bm a->H X B a=H X S a)(ap:∀a,bm a->d0 a)(d:∀a,d0 a->(o X).aN<=a):iJ X B d0 J row:=by
 obtain⟨M,au,b,f,g,i⟩:=e
 exact⟨M,au,b,f,(g.R λa c=>k a c.1).lift λa c=>⟨ap a c.1,c.2⟩,i.to (λa c=>k a c.1) (λa c=>⟨ap a c.1,c.2⟩) λa c=>d a c.1⟩
def jP.to{g:fu}{row:List q}(e:jP X S bm g row)(k:∀a,bm a->H X B a=H X S a)(ap:∀a,bm a->d0 a)(f:∀a,d0 a->(o X).aN<=a):jP X B d0 g row:=by
 obtain⟨M,bx,bz,au,x,b0,bb,b4,c1,rows,m,n,p,r,s,t,v⟩:=e
 have c:∀i a,bm a/\M a=i->H X B a=H X S a:=λi a b=>k a b.1
 have d:∀i a,bm a/\M a=i->d0 a/\M a=i:=λi a b=>⟨ap a b.1,b.2⟩
 exact⟨M,bx,bz,au,x,b0,bb,b4,c1,rows,m,(n.R (c _)).lift (d _),(p.R (c _)).lift (d _),(r.R (c _)).lift (d _),(s.R (c _)).lift (d _),t,λi J row w K=>(v i J row w K).to (c _) (d _) λa b=>f a b.1⟩
def fE.fn{d:dQ}(e:fE d):n4 d:=⟨λj=>by have:=e.bc;rw[j]at this;exact absurd this Zd,by
 rcases e.nm with e|e
 ·rw[e];exact lm
 ·exact ln _ e,e.aG,e.aL,zu e.ea⟩
def m2.pB{v:q}{n:Nat}(e:m2 X S bm v n)(r:n<=120000):∃j,bR X S bm j v/\jO j:=by
 obtain⟨ar,b5,w,b,rfl,a,c,m,d,p⟩:=e
 obtain⟨f,g⟩:=A4 (a.qy λ_=>fE.fn) (b5 b+1) (some b) (λi j=>by cases j;exact⟨c,Zo⟩) Zo
 exact⟨_,f,g,by have:_<=w b:=d.size (b5 b+1) (some b);omega⟩
def fk.A2{v:q}(e:fk X S fE bm v 9):m2 X S bm v 118097:=by
 obtain⟨ar,b5,b,c,a,d,f,g⟩:=e
 exact⟨ar,b5,_,b,c,a,d,f,a.wt.less,A9 g⟩
def fk.pB{v:q}(e:fk X S fE bm v 9):∃j,bR X S bm j v/\jO j:=e.A2.pB Zd
def m2.R{v:q}{n:Nat}(e:m2 X S bm v n)(k:∀a,bm a->H X B a=H X S a):m2 X B bm v n:=by
 obtain⟨ar,b5,w,b,c,d,f⟩:=e
 exact⟨ar,b5,w,b,c,d.R k,f⟩
def pz{au:q}{w:q}(e:bK au=some w)(a:Int)(dy:q)(K:d5 dy=true):cN [au, .aw, .Z a,dy]=true:=by
 simp[cN,(fg e).2.1,K,show d5 (.Z a)=true from rfl,show d5 .aw=true from rfl]
def iJ.read{J:mR}{row:List q}(e:iJ X S bm J row):∃j,jK X S bm (bR X S bm) ⟨J.left,[],J.at_,j⟩ row/\jO j:=by
 obtain⟨M,au,b,rfl,c,d⟩:=e
 obtain⟨j,f,g⟩:=d.pB
 obtain⟨ar,b5,bn,i,_⟩:=d
 refine⟨j,⟨au, .aw,b,0,J.dy,rfl,c.lift λm a=>a.1,⟨cg.nil _ _,trivial⟩,bR.to (λ_ _=>rfl) (λm a=>a.1) _ _ f,pz c.len _ _ (by rw[i];rfl)⟩,g⟩
def tC{dc:List mR}{rows:List (List q)}(ap:rows.length=dc.length)(e:∀(i:Nat) J row,dc[i]? =some J->rows[i]? =some row->∃dw,jK X S bm (bR X S bm) dw row/\(∀w∈dw.left,w∈J.left)/\jO dw.right):
 ∃ak:List dL,ga X S bm (bR X S bm) ak rows/\∀dw∈ak,jO dw.right/\∃J∈dc,∀w∈dw.left,w∈J.left:=by
 induction dc generalizing rows with
 |nil=>exact⟨[],⟨by simpa using ap,λi J row c=>by simp at c⟩,λJ e=>by cases e⟩
 |cons J dc U=>
  cases rows with
  |nil=>simp at ap
  |cons row rows=>
   obtain⟨dw,f,g,m⟩:=e 0 J row rfl rfl
   obtain⟨ak,d,n⟩:=U (rows:=rows) (by simpa using ap) λi J row c K=>e (i+1) J row (by simpa using c) (by simpa using K)
   refine⟨dw::ak,⟨by simp[d.len],λi p r a K=> ?_⟩,λp a=> ?_⟩
   ·cases i with
    |zero=>simp at a K;subst a K;exact f
    |succ i=>exact d.all i p r (by simpa using a) (by simpa using K)
   ·rcases Zz.1 a with rfl|a
    ·exact⟨m,J,Zl ..,g⟩
    ·obtain⟨aE,b,aW,a3⟩:=n p a
     exact⟨aE,b,Zi _ aW,a3⟩
def jb.g1{d:bv}(e:jb d):iq d:=⟨ln _ e.nm,by
 rcases e.on with j|j
 ·rw[j];exact lm
 ·exact ln _ j⟩
def sd:gt∈ek:=by decide
def I2:gt∉gq:=by decide
def rG{g:fu}(i:kz g){out:List bv}{ak:List dL}{nm:aT}{loc:List bv}(s:nm∈ek)(t:∀d∈out,iq d)(r:∀d∈loc,iq d)(f:∀dw∈ak,jO dw.right/\∃J∈g.eqs,∀w∈dw.left,w∈J.left)
 (v:out.length<=1000/\loc.length<=1000/\ak.length<=1000)(Y:hA ⟨nm,0,g.cj,out,loc,ak⟩->∃d∈out,d.name=gt):h0 ⟨nm,0,g.cj,out,loc,ak⟩:=by
 have ap:∀J∈ak,∀w∈J.left,w∈gq:=λJ b w c=>by
  obtain⟨_,x,m,n⟩:=f J b
  exact i.left x m w (n w c)
 refine⟨⟨s,λd a=> ?_,λJ b w c=>ln _ (ap J b w c),λJ b=>(f J b).1.1⟩,λp=> ?_,(by have:=i.an.1;exact⟨by show g.cj.length<=1000;omega,v⟩),λJ b=>(f J b).1.2⟩
 ·rcases Zr.1 a with a|a
  ·exact(i.cj d a).g1
  ·rcases Zr.1 a with a|a
   ·exact t d a
   ·exact r d a
 ·obtain⟨d,a,j⟩:=Y p
  exact⟨d,a,λJ b c=>I2 (by rw[<-j];exact ap J b _ c)⟩
def kz.ql{g:fu}(b:kz g):∀d∈g.out,iq d:=λd a=>by
 obtain⟨ds,t,j,e⟩:=b.out
 rw[j]at a
 rcases Zr.1 a with a|a
 ·exact(e d a).g1
 ·simp at a;subst a;exact⟨sd,lm⟩
def kz.y7{g:fu}(a:kz g):∃d∈g.out,d.name=gt:=by
 obtain⟨ds,t,j,e⟩:=a.out
 exact⟨_,by rw[j];exact ZQ _ (Zl ..),rfl⟩
def jP.read{g:fu}{row:List q}(e:jP X S bm g row)(a:kz g):∃hk,fR X S bm (bR X S bm) hk row/\h0 hk:=by
 obtain⟨M,bx,bz,au,P,b0,bb,b4,c1,rows,rfl,p,r,s,t,x,z⟩:=e
 obtain⟨ak,m,n⟩:=tC x (bm:=bm) λi J row G K=>by
  obtain⟨j,aE,aW⟩:=(z i J row G K).read
  exact⟨_,aE.to (λ_ _=>rfl) (λb c=>c.1) (λv=>bR.to (λ_ _=>rfl) (λb c=>c.1) _ _),λw O=>O,aW⟩
 have f:∀i b,bm b/\M b=i->bm b:=λi b c=>c.1
 exact⟨⟨g.name,0,g.cj,g.out,g.loc,ak⟩,⟨bx,bz,au,P,b0,bb,b4,c1,rows,rfl,p.rd.lift (f _),r.rd.lift (f _),s.rd.lift (f _),t.rd.lift (f _),m⟩,rG a (ln _ a.nm) a.ql (λd C=>(a.loc d C).g1) n ⟨zu a.an.2.1,zu a.an.2.2,by have:=m.len;have:=a.ea;omega⟩ λ_=>a.y7⟩
structure hf(X:bQ)(S:F ac)(aC n:Nat)(M:Nat->Nat)(au:q)(T:List fu)(rows:List (List q))(aH:List Nat):Prop where
 aN:(o X).aN<=aC
 ie:cT X S au 6 rows.flatten aH
 aH:∀a∈aH,aC<=a/\a<n/\M a=1
 wd:∀r∈rows,r.length=6
 len:rows.length=T.length
 ea:T.length<=100
 jA:∀(i:Nat) g row,T[i]? =some g->rows[i]? =some row->jP X S (λa=>aC<=a/\a<n/\M a=2+i) g row
 ok:∀g∈T,kz g
def yX{P:Nat->Prop}{T:List fu}{rows:List (List q)}(ap:rows.length=T.length)(e:∀(i:Nat) g row,T[i]? =some g->rows[i]? =some row->∃hk,fR X S P (bR X S P) hk row/\h0 hk):
 ∃c:List Go.a6.Node,f6 X S P (bR X S P) c rows/\∀g∈c,h0 g:=by
 induction T generalizing rows with
 |nil=>exact⟨[],⟨by simpa using ap,λi J row b=>by simp at b⟩,λJ e=>by cases e⟩
 |cons J dc U=>
  cases rows with
  |nil=>simp at ap
  |cons row rows=>
   obtain⟨dw,f,m⟩:=e 0 J row rfl rfl
   obtain⟨ak,d,n⟩:=U (rows:=rows) (by simpa using ap) λi J row b K=>e (i+1) J row (by simpa using b) (by simpa using K)
   refine⟨dw::ak,⟨by simp[d.len],λi p r a K=> ?_⟩,λp a=> ?_⟩
   ·cases i with
    |zero=>simp at a K;subst a K;exact f
    |succ i=>exact d.all i p r (by simpa using a) (by simpa using K)
   ·rcases Zz.1 a with rfl|a
    ·exact m
    ·exact n p a
def sS.to{P bi:Nat->Prop}(k:∀a,P a->H X B a=H X S a)(ap:∀a,P a->bi a){g:Go.a6.Node}{row:List q}(e:fR X S P (bR X S P) g row):fR X B bi (bR X B bi) g row:=
 fR.to k ap (λJ _ v e=>bR.to k ap _ _ e) e
def jd(X:bQ)(S:F ac)(P:Nat->Prop)(v:q):Prop:=∃T,fT X S P T v/\T.length<=1000/\∀g∈T,h0 g
def hf.made{aC n bU:Nat}{M:Nat->Nat}{au:q}{T:List fu}{rows:List (List q)}{aH:List Nat}(e:hf X S aC n M au T rows aH){P:Nat->Prop}(f:∀a,aC<=a->a<n->P a)(s:P bU)(v:W X S (.ptr bU 0)=some au):jd X S P (.ptr bU 0):=by
 obtain⟨p,d,r⟩:=yX (P:=P) e.len λi g row m K=>by
  obtain⟨hk,aE,aW⟩:=(e.jA i g row m K).read (e.ok g (Zg m))
  exact⟨hk,sS.to (λ_ _=>rfl) (λa c=>f a c.1 c.2.1) aE,aW⟩
 obtain⟨b,t⟩:=e.ie.gM (P:=P) Zd e.wd (by rw[e.len];have:=e.ea;omega) λa c=>f a (e.aH a c).1 (e.aH a c).2.1
 exact⟨p,⟨bU,au,b,rows,rfl,s,v,t,d⟩,by have:=d.len;have:=e.len;have:=e.ea;omega,r⟩
end
end
end Go.Proofs.YtmipngjbcdamjaaGreatDoor

