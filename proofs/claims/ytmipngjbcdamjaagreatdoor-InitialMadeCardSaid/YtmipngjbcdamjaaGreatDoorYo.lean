/- Part of the proof of the last text; no conditions -/
import Derived.Test.YtmipngjbcdamjaaGreatDoorYj
import Derived.Test.YtmipngjbcdamjaaGreatDoorYk
import Derived.Test.YtmipngjbcdamjaaGreatDoorYl
import Derived.Test.YtmipngjbcdamjaaGreatDoorYn
set_option maxHeartbeats 8000000
set_option linter.all false
namespace Go.Proofs.YtmipngjbcdamjaaGreatDoor
open Go.S
noncomputable section
def fI:List (Nat×List y×y):=(14,[], .bool true)::((d8.map λs=>(41,[.str s], .bool (c7 s)))++d8.map λs=>(85,[.str s], .bool (c7 s)))
def DL:∀x∈fI,gP ou 1000000 x.1 x.2.1=some x.2.2:=by
 intro x a
 rcases Zz.1 a with rfl|a
 ·exact K6
 ·rcases Zr.1 a with a|a
  ·obtain⟨s,b,rfl⟩:=ZB.1 a
   exact Ib b
  ·obtain⟨s,b,rfl⟩:=ZB.1 a
   exact JT b
def hh:Nat->List y->Option y:=hu (λ_ _=>none) fI
def yL(s:List Nat):Bool:=match ju 41 [.str s] fI with|some (.bool b)=>b==c7 s|_=>false
set_option maxRecDepth 100000 in
def Ia:d8.all yL=true:=Zk
def H9{s:List Nat}(e:s∈d8):hh 41 [.str s]=some (.bool (c7 s)):=by
 have a:=Yy.1 Ia s e
 unfold yL at a
 unfold hh hu
 split at a
 ·rename_i b ab
  rw[ab,eq_of_beq a]
 ·cases a
def Ay(s:List Nat):Bool:=match ju 85 [.str s] fI with|some (.bool b)=>b==c7 s|_=>false
set_option maxRecDepth 100000 in
def JS:d8.all Ay=true:=Zk
def JR{s:List Nat}(e:s∈d8):hh 85 [.str s]=some (.bool (c7 s)):=by
 have a:=Yy.1 JS s e
 unfold Ay at a
 unfold hh hu
 split at a
 ·rename_i b ab
  rw[ab,eq_of_beq a]
 ·cases a
def K5:hh 14 []=some (.bool true):=by unfold hh hu fI;rfl
def Hc{f:Nat}{a:List y}:∀{k:List (Nat×List y×y)},(∀x∈k,f≠x.1)->ju f a k=none:=by
 intro k
 induction k with
 |nil=>intro _;rfl
 |cons x k V=>
  intro e
  obtain⟨g,i,v⟩:=x
  have b:¬f=g:=e _ (Zl ..)
  simp only[ju,d5,b,ZM]
  exact V λd c=>e d (Zi _ c)
def Bo(f:Nat)(k:List y)(e:g6 f=false):hh f k=none:=by
 have b:f≠14/\f≠41/\f≠85:=by refine⟨λl=> ?_,λl=> ?_,λl=> ?_⟩<;>(subst l;cases e)
 unfold hh hu
 rw[Hc λx a=> ?_]
 rcases Zz.1 a with rfl|a
 ·exact b.1
 ·rcases Zr.1 a with a|a
  ·obtain⟨s,c,rfl⟩:=ZB.1 a
   exact b.2.1
  ·obtain⟨s,c,rfl⟩:=ZB.1 a
   exact b.2.2
end
open Go.S Go.a8
noncomputable section
structure dT where
 kind:Int
 at_:Int
 name:aW
 no:Bool
 ty:eb
 n:Int
 args:List (Option Nat)
 ax:y
 aJ:List Nat
def na:Option Nat->y
 |none=> .bC
 |some c=> .ptr c 0
def dT.cells(d:dT):List y:=c5 d.kind d.at_ d.name d.no d.ty d.n d.ax
structure dg(X:bU)(h:I ae)(aG:dT->Prop)(F:Nat->Prop)(aw:Nat->Option dT)(b7:Nat->Nat):Prop where
 low:∀a,F a->(u X).aP<=a
 cell:∀b d,aw b=some d->F b/\∃c,J X h b=some (.cells c 9 .own)/\dJ c d.cells
 arg:∀b d,aw b=some d->cX X h d.ax 1 (d.args.map na) d.aJ
 bc:∀b d,aw b=some d->∀a∈d.aJ,F a/\aw a=none
 own:∀b d f g,aw b=some d->aw f=some g->b≠f->∀a∈d.aJ,a∉g.aJ
 f0:∀b d c,aw b=some d->some c∈d.args->aw c≠none/\b7 c<b7 b
 ok:∀b d,aw b=some d->aG d
section
variable{X:bU}{h E:I ae}{aG c3:dT->Prop}{F bu:Nat->Prop}{aw h4:Nat->Option dT}{b7 nX:Nat->Nat}
def dg.T(e:dg X h aG F aw b7)(o:∀a,F a->J X E a=J X h a):dg X E aG F aw b7:=
 ⟨e.low,λb d l=>⟨(e.cell b d l).1,by rw[o b (e.cell b d l).1];exact(e.cell b d l).2⟩,λb d l=>(e.arg b d l).T λa c=>o a (e.bc b d l a c).1,e.bc,e.own,e.f0,e.ok⟩
def dg.lift(e:dg X h aG F aw b7)(L:∀a,F a->bu a)(au:∀a,bu a->(u X).aP<=a):dg X h aG bu aw b7:=
 ⟨au,λb d l=>⟨L b (e.cell b d l).1,(e.cell b d l).2⟩,e.arg,λb d l a c=>⟨L a (e.bc b d l a c).1,(e.bc b d l a c).2⟩,e.own,e.f0,e.ok⟩
def dg.qA(e:dg X h aG F aw b7)(L:∀d,aG d->c3 d):dg X h c3 F aw b7:=⟨e.low,e.cell,e.arg,e.bc,e.own,e.f0,λb d l=>L d (e.ok b d l)⟩
def dg.up(e:dg X h aG F aw b7):dg X h aG F aw (λf=>b7 f+1):=⟨e.low,e.cell,e.arg,e.bc,e.own,λb d c l a=>⟨(e.f0 b d c l a).1,Nat.succ_lt_succ (e.f0 b d c l a).2⟩,e.ok⟩
def dg.union(e:dg X h aG F aw b7)(f:dg X h aG bu h4 nX)(s:∀a,F a->¬bu a):dg X h aG (λa=>F a\/bu a) (λa=>match aw a with|some d=>some d|none=>h4 a) (λa=>if (aw a).isSome then b7 a else nX a):=by
 have Y:∀b d,aw b=some d->h4 b=none:=λb d l=>by
  cases r:h4 b with
  |none=>rfl
  |some n=>exact absurd (f.cell b n r).1 (s b (e.cell b d l).1)
 have cs:∀b d,(match aw b with|some d=>some d|none=>h4 b)=some d->aw b=some d\/aw b=none/\h4 b=some d:=λb d l=>by
  cases L:aw b with
  |none=>rw[L]at l;exact .inr ⟨rfl,l⟩
  |some n=>rw[L]at l;exact .inl l
 have O:∀a,F a->h4 a=none:=λa g=>by
  cases r:h4 a with
  |none=>rfl
  |some n=>exact absurd (f.cell a n r).1 (s a g)
 have C:∀a,bu a->aw a=none:=λa g=>by
  cases r:aw a with
  |none=>rfl
  |some n=>exact absurd g (s a (e.cell a n r).1)
 refine⟨λa g=>g.elim (e.low a) (f.low a),λb d l=> ?_,λb d l=> ?_,λb d l a g=> ?_,λb d be p l m z a g=> ?_,λb d c l x=> ?_,λb d l=> ?_⟩
 ·rcases cs b d l with l|⟨_,l⟩
  ·exact⟨.inl (e.cell b d l).1,(e.cell b d l).2⟩
  ·exact⟨.inr (f.cell b d l).1,(f.cell b d l).2⟩
 ·rcases cs b d l with l|⟨_,l⟩
  ·exact e.arg b d l
  ·exact f.arg b d l
 ·rcases cs b d l with l|⟨_,l⟩
  ·have:=e.bc b d l a g
   exact⟨.inl this.1,by simp only[this.2];exact O a this.1⟩
  ·have:=f.bc b d l a g
   exact⟨.inr this.1,by simp only[C a this.1];exact this.2⟩
 ·rcases cs b d l with l|⟨_,l⟩<;>rcases cs be p m with m|⟨_,m⟩
  ·exact e.own b d be p l m z a g
  ·exact λt=>s a (e.bc b d l a g).1 (f.bc be p m a t).1
  ·exact λt=>s a (e.bc be p m a t).1 (f.bc b d l a g).1
  ·exact f.own b d be p l m z a g
 ·rcases cs b d l with l|⟨G,l⟩
  ·obtain⟨i,v⟩:=e.f0 b d c l x
   obtain⟨w,i⟩:=Yb.1 i
   simp only[i,l,Ya,ZP]
   exact⟨Zs,v⟩
  ·obtain⟨i,v⟩:=f.f0 b d c l x
   obtain⟨w,i⟩:=Yb.1 i
   have P:=C c (f.cell c w i).1
   simp only[i,P,G,Z4,ZR,ZM]
   exact⟨Zs,v⟩
 ·rcases cs b d l with l|⟨_,l⟩
  ·exact e.ok b d l
  ·exact f.ok b d l
def dg.one{b:Nat}{d:dT}{c:I y}(au:∀g,F g->(u X).aP<=g)(ab:J X h b=some (.cells c 9 .own))(i:dJ c d.cells)(v:F b)(z:d.ax= .az)(m:d.args=[])(n:d.aJ=[])(w:aG d)(r:Nat):dg X h aG F (λg=>if g=b then some d else none) (λ_=>r):=by
 have cs:∀a f,(if a=b then some d else none)=some f->a=b/\d=f:=λa f l=>by
  split at l
  ·rename_i L;exact⟨L,Yd l⟩
  ·cases l
 refine⟨au,λa f l=> ?_,λa f l=> ?_,λa f l g p=> ?_,λa f be s l t x=> ?_,λa f c l i=> ?_,λa f l=> ?_⟩
 ·obtain⟨rfl,rfl⟩:=cs a f l;exact⟨v,c,ab,i⟩
 ·obtain⟨rfl,rfl⟩:=cs a f l;rw[z,m,n];exact .inl (.inl ⟨rfl,rfl,rfl⟩)
 ·obtain⟨rfl,rfl⟩:=cs a f l;rw[n]at p;cases p
 ·obtain⟨rfl,rfl⟩:=cs a f l;exact absurd (cs be s t).1.symm x
 ·obtain⟨rfl,rfl⟩:=cs a f l;rw[m]at i;cases i
 ·obtain⟨rfl,rfl⟩:=cs a f l;exact w
def dg.set{b:Nat}{d i:dT}(e:dg X h aG F aw b7)(ab:aw b=some d)(L:∀a,F a->bu a)(au:∀a,bu a->(u X).aP<=a)(C:∃c,J X E b=some (.cells c 9 .own)/\dJ c i.cells)
 (Z:cX X E i.ax 1 (i.args.map na) i.aJ)(z:∀a∈i.aJ,bu a/\aw a=none/\a≠b/\(a∈d.aJ\/¬F a))(G:∀c,some c∈i.args->aw c≠none/\b7 c<b7 b)
 (o:∀a,F a->a≠b->a∉d.aJ->J X E a=J X h a)(T1:aG i):dg X E aG bu (λa=>if a=b then some i else aw a) b7:=by
 have cs:∀be g,(if be=b then some i else aw be)=some g->be=b/\i=g\/be≠b/\aw be=some g:=λbe g l=>by
  split at l
  ·rename_i L;exact .inl ⟨L,Yd l⟩
  ·rename_i L;exact .inr ⟨L,l⟩
 have T0:=(e.cell b d ab).1
 have ch:∀be g,aw be=some g->be∉d.aJ:=λbe g l T2=>by have:=(e.bc b d ab be T2).2;rw[l]at this;cases this
 refine⟨au,λbe g l=> ?_,λbe g l=> ?_,λbe g l a m=> ?_,λbe g b6 t l O n a m=> ?_,λbe g c l r=> ?_,λbe g l=> ?_⟩
 ·rcases cs be g l with ⟨rfl,rfl⟩|⟨n,f⟩
  ·exact⟨L _ T0,C⟩
  ·have:=e.cell be g f
   exact⟨L _ this.1,by rw[o be this.1 n (ch be g f)];exact this.2⟩
 ·rcases cs be g l with ⟨rfl,rfl⟩|⟨n,f⟩
  ·exact Z
  ·exact(e.arg be g f).T λa m=>o a (e.bc be g f a m).1 (λv=>by have:=(e.bc be g f a m).2;rw[v,ab]at this;cases this) (e.own be g b d f ab n a m)
 ·rcases cs be g l with ⟨rfl,rfl⟩|⟨n,f⟩
  ·obtain⟨p,P,Y,_⟩:=z a m
   exact⟨p,by rw[Zj Y];exact P⟩
  ·have:=e.bc be g f a m
   exact⟨L a this.1,by rw[Zj (λv=>by rw[v,ab]at this;cases this.2)];exact this.2⟩
 ·have key:∀be g,be≠b->aw be=some g->∀a∈i.aJ,a∉g.aJ:=λbe g n l a m s=>by
   rcases(z a m).2.2.2 with p|p
   ·exact e.own b d be g ab l (λl=>n l.symm) a p s
   ·exact p (e.bc be g l a s).1
  rcases cs be g l with ⟨rfl,rfl⟩|⟨T3,w⟩<;>rcases cs b6 t O with ⟨rfl,rfl⟩|⟨T4,x⟩
  ·exact absurd rfl n
  ·exact key b6 t T4 x a m
  ·exact λs=>key be g T3 w a s m
  ·exact e.own be g b6 t w x n a m
 ·have up:∀c,aw c≠none->(if c=b then some i else aw c)≠none:=λc C=>by split<;>simp_all
  rcases cs be g l with ⟨rfl,rfl⟩|⟨n,f⟩
  ·exact⟨up c (G c r).1,(G c r).2⟩
  ·exact⟨up c (e.f0 be g c f r).1,(e.f0 be g c f r).2⟩
 ·rcases cs be g l with ⟨rfl,rfl⟩|⟨n,f⟩
  ·exact T1
  ·exact e.ok be g f
def dg.add{b r:Nat}{d:dT}{c:I y}(e:dg X h aG F aw b7)(L:∀a,F a->bu a)(au:∀a,bu a->(u X).aP<=a)(T1:bu b)(G:¬F b)(ab:J X E b=some (.cells c 9 .own))(T3:dJ c d.cells)
 (T2:cX X E d.ax 1 (d.args.map na) d.aJ)(s:∀a∈d.aJ,bu a/\¬F a/\a≠b)(T5:∀c,some c∈d.args->aw c≠none/\b7 c<r)
 (o:∀a,F a->J X E a=J X h a)(T4:aG d):dg X E aG bu (λa=>if a=b then some d else aw a) (λa=>if a=b then r else b7 a):=by
 have O:∀a,¬F a->aw a=none:=λa i=>by
  cases l:aw a with
  |none=>rfl
  |some g=>exact absurd (e.cell a g l).1 i
 have cs:∀be g,(if be=b then some d else aw be)=some g->be=b/\d=g\/be≠b/\aw be=some g:=λbe g l=>by
  split at l
  ·rename_i L;exact .inl ⟨L,Yd l⟩
  ·rename_i L;exact .inr ⟨L,l⟩
 refine⟨au,λbe g l=> ?_,λbe g l=> ?_,λbe g l a i=> ?_,λbe g b6 p l P m a i=> ?_,λbe g c l C=> ?_,λbe g l=> ?_⟩
 ·rcases cs be g l with ⟨rfl,rfl⟩|⟨m,f⟩
  ·exact⟨T1,c,ab,T3⟩
  ·have:=e.cell be g f
   exact⟨L _ this.1,by rw[o be this.1];exact this.2⟩
 ·rcases cs be g l with ⟨rfl,rfl⟩|⟨m,f⟩
  ·exact T2
  ·exact(e.arg be g f).T λa i=>o a (e.bc be g f a i).1
 ·rcases cs be g l with ⟨rfl,rfl⟩|⟨m,f⟩
  ·obtain⟨Y,Z,T0⟩:=s a i
   exact⟨Y,by rw[Zj T0];exact O a Z⟩
  ·have:=e.bc be g f a i
   exact⟨L a this.1,by rw[Zj (λn:a=b=>G (by rw[<-n];exact this.1))];exact this.2⟩
 ·rcases cs be g l with ⟨rfl,rfl⟩|⟨T6,w⟩<;>rcases cs b6 p P with ⟨rfl,rfl⟩|⟨T7,x⟩
  ·exact absurd rfl m
  ·exact λv=>(s a i).2.1 (e.bc b6 p x a v).1
  ·exact λv=>(s a v).2.1 (e.bc be g w a i).1
  ·exact e.own be g b6 p w x m a i
 ·have z:=O b G
  rcases cs be g l with ⟨rfl,rfl⟩|⟨m,f⟩
  ·have:=T5 c C
   have t:c≠be:=λn=>this.1 (by rw[n];exact z)
   simp only[t,ZM,ZP];exact this
  ·have:=e.f0 be g c f C
   have t:c≠b:=λn=>this.1 (by rw[n];exact z)
   simp only[t,m,ZM];exact this
 ·rcases cs be g l with ⟨rfl,rfl⟩|⟨m,f⟩
  ·exact T4
  ·exact e.ok be g f
def cX.same{s:y}{ap:Nat}{k:List y}{aJ:List Nat}(e:cX X h s ap k aJ):s.cells=[s]/\d9 s=true/\y.same 30 s s=true:=by
 rcases e with e|⟨b,n,c,st,rfl,_⟩
 ·exact e.one
 ·exact⟨rfl,rfl,by simp[y.same]⟩
def dg.oO(e:dg X h aG F aw b7){b:Nat}{d:dT}(ab:aw b=some d){i:Nat}{v:y}(g:d.cells[i]? =some v):W X h (.ptr b i)=some v:=by
 obtain⟨_,c,a,f⟩:=e.cell b d ab
 rw[ba a,f i];exact g
def g8:bk:= .mk (-1) 0 [] false cm 0 []
def ha(aw:Nat->Option dT):Nat->Option Nat->bk
 |0,_=>g8
 |o+1,D=>match D with
  |none=>g8
  |some b=>match aw b with
   |none=>g8
   |some d=> .mk d.kind d.at_ d.name d.no d.ty d.n (d.args.map (ha aw o))
structure n7(d:dT):Prop where
 bf:d.kind≠ -1
 nm:d.name∈d8
 aL:0<=d.n
 aR:d.n<18446744073709551616
 ee:d.args.length<=4
def lo:([]:aW)∈d8:=by decide
def ub:hC g8:=λx a=>by
 have:x=g8:=by simpa[g8,dL,ez]using a
 subst this
 exact⟨lo,Zd,Zd⟩
def A1(e:dg X h n7 F aw b7):∀(o:Nat) (D:Option Nat),(∀b,D=some b->aw b≠none/\b7 b<o)->0<o->bT X h F (ha aw o D) (na D)/\hC (ha aw o D):=by
 intro o
 induction o with
 |zero=>intro D _ e;exact absurd e Zd
 |succ o V=>
  intro D g _
  cases D with
  |none=>
   refine⟨?_,ub⟩
   show bT X h F g8 .bC
   unfold g8 bT
   exact .inl ⟨rfl,rfl⟩
  |some b=>
   obtain⟨ab,M⟩:=g b rfl
   obtain⟨d,m⟩:=Yb.1 ab
   have l:ha aw (o+1) (some b)= .mk d.kind d.at_ d.name d.no d.ty d.n (d.args.map (ha aw o)):=by simp only[ha,m]
   have n:=e.ok b d m
   obtain⟨w,c,z,O⟩:=e.cell b d m
   have t:=e.arg b d m
   have f0:∀D∈d.args,bT X h F (ha aw o D) (na D)/\hC (ha aw o D):=by
    intro D C
    cases D with
    |none=>
     cases o with
     |zero=>exact⟨by show bT X h F g8 .bC;unfold g8 bT;exact .inl ⟨rfl,rfl⟩,ub⟩
     |succ o=>exact V none (λ_ l=>by cases l) (Nat.succ_pos _)
    |some c=>
     have:=e.f0 b d c m C
     exact V (some c) (λT1 l=>by cases l;exact⟨this.1,Zo⟩) Zo
   rw[l]
   refine⟨?_, ?_⟩
   ·obtain⟨bO,G⟩:=t.qr (P:=F) (by rw[Zn];have:=n.ee;omega) (λT0 Y=>(e.bc b d m T0 Y).1)
    refine bT.of n.bf z (λi v r=>by rw[O i];exact r) w G (du.of Zs λi l v p r=> ?_)
    rw[Zw]at p r
    cases g:d.args[i]? with
    |none=>rw[g]at p;cases p
    |some D=>
     rw[g]at p r
     cases p;cases r
     exact(f0 D (Zg g)).1
   ·intro x f
    rw[mL]at f
    rcases Zz.1 f with rfl|f
    ·exact⟨n.nm,n.aL,n.aR⟩
    ·have key:∀k:List (Option Nat),(∀D∈k,hC (ha aw o D))->∀x∈ez (k.map (ha aw o)),mY x:=by
      intro k
      induction k with
      |nil=>intro _ x f;simp[ez]at f
      |cons a k Z=>
       intro s x f
       rw[ZS,ez]at f
       rcases Zr.1 f with f|f
       ·exact s a (Zl ..) x f
       ·exact Z (λD g=>s D (Zi _ g)) x f
     exact key d.args (λD g=>(f0 D g).2) x f
def fo(X:bU)(h:I ae)(aG:dT->Prop)(F:Nat->Prop)(v:y)(e:Nat):Prop:=∃aw b7 b,v= .ptr b 0/\dg X h aG F aw b7/\aw b≠none/\1<=b7 b/\b7 b<=e
def fo.T{v:y}{n:Nat}(e:fo X h aG F v n)(o:∀a,F a->J X E a=J X h a):fo X E aG F v n:=by
 obtain⟨aw,b7,b,c,d,f⟩:=e
 exact⟨aw,b7,b,c,d.T o,f⟩
def fo.lift{v:y}{n m:Nat}(e:fo X h aG F v n)(L:∀a,F a->bu a)(au:∀a,bu a->(u X).aP<=a)(p:n<=m):fo X h aG bu v m:=by
 obtain⟨aw,b7,b,c,d,f,g,i⟩:=e
 exact⟨aw,b7,b,c,d.lift L au,f,g,Zo⟩
end
end
set_option maxRecDepth 100000
set_option maxHeartbeats 4000000
noncomputable section
variable (X : bU) (h : I ae) (j : Nat) (R af : bh) (a0 aH aZ a3 a4 a5 dY d3 dE : y)
def vN:Za0:=λa b c d e f _=>dx (e+10) λe=>q (a2 b) λg=>q (aq 1 g) λg=>q (W a d g) λg=>q (a2 b) λh=>q (aq 0 h) λh=>q (W a d h) λh=>q (bL h) λh=>q (ah .geq g h) λg=>av (λb c d=>Q (b 0) λe=>q (a2 e) λg=>q (aq 1 g) λg=>q (W a c g) λg=>q (ah .add g (.Z 1)) λg=>q (a2 e) λe=>q (aq 1 e) λe=>q (bj a c 1 e g) λc=>dx (d+15) λd=>Q (b 0) λe=>q (a2 e) λe=>q (aq 0 e) λe=>q (W a c e) λe=>Q (b 0) λg=>q (a2 g) λg=>q (aq 1 g) λg=>q (W a c g) λg=>q (ah .sub g (.Z 1)) λg=>q (bK 1 e g) λe=>q (W a c e) λa=>q (iS .i64 a) λa=>Q (b 1) λb=>q (ah .rem a b) λa=>f a c d) λa=>aD g (f (.Z 0) d e) (a (zC (bR [b,c]) 4 (.Z 0) 14 g) d e)
def B1:co X 15 [a0,aH]=vN X a0 aH:=Zk
def B0:cb X 15 2=true:=Zk
def vQ:Za1:=λa b c d e f=>q (dC 9 [.str [],.str [],.str [],.str [],.str [],.str [],.str [],.str [],.str []] [(0,1,(.str [97])),(1,1,(.str [98])),(2,1,(.str [99])),(3,1,(.str [120,95,49])),(4,1,(.str [95])),(5,1,(.str [90,57])),(6,1,(.str [119,104,101,110,95])),(7,1,(.str [117,54,53])),(8,1,(.str [97,98,99,100,101,102,103,104,105,106,107,108,109,110,111,112,113,114,115,116,117,118,119,120,121,122,48,49,50,51,52,53]))] d) λg=>b4 a c d g.1 g.2 λc d g=>q (bL c) λh=>aN a 15 [b,h] d g (λb d f=>q (bK 1 c b) λb=>q (W a d b) λa=>e a d f) f
def B7:co X 16 [a0]=vQ X a0:=Zk
def B6:cb X 16 1=true:=Zk
def vT:Za0:=λa b c d e f g=>aN a 15 [b,c] d e (λd e h=>av (λa b c=>Q (a 5) λa=>f a b c) λf=>cC (λb c d e=>Q (c 6) λh=>q (ah .gtr h (.Z 0)) λh=>av (λc d e=>av (λa c d=>Q (a 6) λe=>q (ah .sub e (.Z 1)) λe=>b (K a 6 e) c d) λb=>dx (e+12) λf=>Q (c 0) λh=>Q (c 0) λi=>Q (c 0) λj=>q (cu [.str [],.Z 0,.zF,.zF,.Z 0,.str [],.Z 0,.zF] (e+10)) λk=>fO a d (e+10) k.1 k.2 λd e=>aN a 16 [h] e f (λe f h=>aN a 18 [] f h (λf h k=>aN a 15 [i,.Z 8] h k (λh i k=>q (bK 3 f h) λf=>q (br a i 3 f) λh=>aN a 15 [j,.Z 50] i k (λi j k=>q (cr [.str [],.Z 0,.zF,.zF,.Z 0,.str [],.Z 0,.zF] [(0,1,e),(2,3,h),(1,1,i)]) λe=>q (br a j 3 f) λf=>eR f (some h) (q (bj a j 8 d e) λe=>Q (c 0) λf=>aN a 15 [f,.Z 3] e k (λe f h=>q (ah .eql e (.Z 1)) λe=>av (λc d e=>Q (c 5) λf=>Q (c 7) λg=>q (br a d 8 g) λg=>q (dC 1 [.str [],.Z 0,.zF,.zF,.Z 0,.str [],.Z 0,.zF] [(0,8,g)] e) λg=>b4 a d e g.1 g.2 λd e g=>dA (d4 a e g 8 f d) e g λa d e=>b (K c 5 a) d e) λb=>aD e (Q (c 0) λi=>aN a 16 [i] f h (λf h i=>Q (c 0) λj=>aN a 15 [j,.Z 2] h i (λg h i=>q (ah .eql g (.Z 1)) λg=>q (aq 5 d) λj=>q (bj a h 1 j f) λf=>q (aq 7 d) λh=>q (bj a f 1 h g) λa=>b (zC c 7 d 27 e) a i) g) g) (b (zC c 7 d 27 e) f h)) g)) g) g) g) g) λa=>aD h (a (K c 12 h) d e) (f (K c 12 h) d e)) (zD (bR [b,c]) 4 .az 5 .az 6 d) e h) g
def B9:co X 17 [a0,aH]=vT X a0 aH:=Zk
def B8:cb X 17 2=true:=Zk
def vU:Za4:=λa b c d _=>q (cr [.zF,.zF,.Z 0] [(0,1,.zT),(2,1,(.Z 1))]) λe=>q (cr [.zF,.zF,.Z 0] [(2,1,(.Z 8))]) λf=>q (cr [.zF,.zF,.Z 0] [(1,1,.zT),(2,1,(.Z 8))]) λg=>q (cr [.zF,.zF,.Z 0] [(2,1,(.Z 1))]) λh=>q (cr [.zF,.zF,.Z 0] [(2,1,(.Z 64))]) λi=>q (cr [.zF,.zF,.Z 0] [(1,1,.zT),(2,1,(.Z 64))]) λj=>q (cr [.zF,.zF,.Z 0] [(1,1,.zT),(2,1,(.Z 1))]) λk=>q (cr [.zF,.zF,.Z 0] [(2,1,(.Z 13))]) λl=>q (dC 8 [.zF,.zF,.Z 0,.zF,.zF,.Z 0,.zF,.zF,.Z 0,.zF,.zF,.Z 0,.zF,.zF,.Z 0,.zF,.zF,.Z 0,.zF,.zF,.Z 0,.zF,.zF,.Z 0] [(0,3,e),(3,3,f),(6,3,g),(9,3,h),(12,3,i),(15,3,j),(18,3,k),(21,3,l)] c) λe=>b4 a b c e.1 e.2 λa b c=>d a b c
def Cb:co X 18 []=vU X:=Zk
def Ca:cb X 18 0=true:=Zk
def vV:Za0:=λa b c d e f g=>dx (e+14) λe=>q (ah .leq c (.Z 1)) λh=>ck (λd i=>ck (λd i=>ck (λd i=>ck (λd i=>ck (λi j=>ck (λi j=>ck (λi j=>ck (λi j=>ck (λi j=>ck (λd i=>bS (λd=>av (λb c d=>Q (b 0) λe=>aN a 15 [e,.Z 26] c d (λc d e=>q (ah .add (.Z 1) c) λc=>Q (b 0) λh=>aN a 15 [h,.Z 100] d e (λd e h=>q (cr [.Z 0,.Z 0,.str [],.zF,.zF,.zF,.Z 0,.int .u64 0, .az] [(0,1,c),(1,1,d)]) λd=>eU a e h d λd e h=>av (λb c d=>av (λa b c=>Q (a 6) λa=>f a b c) λe=>cC (λb c d f=>Q (c 8) λh=>Q (c 7) λi=>q (ah .lss h i) λh=>av (λc d e=>av (λa c d=>Q (a 8) λe=>q (ah .add e (.Z 1)) λe=>b (K a 8 e) c d) λb=>dx (e+14) λf=>Q (c 6) λh=>Q (c 6) λi=>q (a2 i) λi=>q (aq 8 i) λi=>q (W a d i) λj=>Q (c 0) λk=>Q (c 1) λl=>q (ah .sub l (.Z 1)) λl=>aN a 19 [k,l] d f (λd f g=>q (dC 1 [.bC] [(0,1,d)] (e+9)) λd=>fO a f (e+9) d.1 d.2 λd e=>q (W a e i) λf=>eR f (some j) (dA (d4 a e g 1 j d) e g λd e f=>q (a2 h) λg=>q (aq 8 g) λg=>q (bj a e 1 g d) λa=>b c a f)) g) λa=>aD h (a (K c 128 h) d f) (e (K c 128 h) d f)) (K b 8 (.Z 0)) c d) λi=>q (ah .eql c (.Z 1)) λj=>av i λi=>aD j (Q (b 0) λb=>aN a 39 [b] e h (λa b c=>f a b c) g) (q (ah .eql c (.Z 2)) λk=>av i λi=>aD k (Q (b 0) λb=>aN a 16 [b] e h (λb c d=>aN a 38 [b] c d (λa b c=>f a b c) g) g) (q (ah .eql c (.Z 3)) λf=>av (λb c d=>Q (b 49) λe=>av i λf=>aD e (f (K b 7 (.Z 1)) c d) (Q (b 39) λe=>q (ah .eql e (.Z 6)) λe=>av f λf=>aD e (Q (b 6) λh=>Q (b 6) λi=>Q (b 0) λj=>aN a 16 [j] c d (λc d j=>Q (b 0) λk=>aN a 15 [k,.Z 2] d j (λd g j=>q (ah .eql d (.Z 1)) λd=>q (a2 h) λh=>q (aq 2 h) λh=>q (bj a g 1 h c) λc=>q (a2 i) λg=>q (aq 3 g) λg=>q (bj a c 1 g d) λa=>f (zC b 53 e 7 (.Z 1)) a j) g) g) (Q (b 39) λh=>q (ah .eql h (.Z 19)) λh=>av (λb c d=>Q (b 66) λe=>av f λf=>aD e (Q (b 6) λe=>Q (b 0) λh=>aN a 15 [h,.Z 64] c d (λc d g=>q (iS .u64 c) λc=>q (a2 e) λe=>q (aq 7 e) λe=>q (bj a d 1 e c) λa=>f (K b 7 (.Z 1)) a g) g) (Q (b 39) λe=>q (ah .eql e (.Z 21)) λe=>av f λf=>aD e (Q (b 6) λh=>Q (b 0) λi=>aN a 39 [i] c d (λc d i=>q (dC 1 [.bC] [(0,1,c)] i) λc=>b4 a d i c.1 c.2 λc d i=>q (a2 h) λh=>q (aq 8 h) λh=>q (bj a d 1 h c) λc=>Q (b 0) λd=>aN a 15 [d,.Z 2] c i (λc d h=>q (ah .eql c (.Z 1)) λc=>av (λa b c=>f (K a 7 (.Z 1)) b c) λf=>aD c (dx (h+13) λh=>Q (b 6) λi=>q (a2 i) λi=>q (aq 8 i) λi=>q (W a d i) λj=>Q (b 6) λk=>q (a2 k) λk=>q (aq 8 k) λk=>q (W a d k) λk=>q (bK 1 k (.Z 0)) λk=>q (W a d k) λk=>aN a 40 [.Z 4,k] d h (λd g h=>q (bK 1 j (.Z 0)) λk=>q (W a g i) λi=>eR i (some j) (q (bj a g 1 k d) λa=>f (zC b 75 e 85 c) a h)) g) (f (zC b 75 e 85 c) d h)) g) g) (Q (b 39) λh=>q (ah .eql h (.Z 23)) λh=>av f λf=>aD h (f (zD b 75 e 98 h 7 (.Z 3)) c d) (Q (b 39) λi=>q (ah .eql i (.Z 24)) λi=>av f λf=>aD i (Q (b 6) λj=>Q (b 0) λk=>aN a 16 [k] c d (λc d g=>q (a2 j) λj=>q (aq 2 j) λj=>q (bj a d 1 j c) λa=>f (zD b 75 e 98 h 100 i) a g) g) (Q (b 39) λj=>q (ah .eql j (.Z 25)) λj=>av f λf=>aD j (Q (b 6) λk=>Q (b 0) λl=>aN a 15 [l,.Z 4] c d (λc d l=>Q (b 0) λm=>aN a 16 [m] d l (λd g l=>q (a2 k) λk=>q (aq 2 k) λk=>q (bj a g 1 k d) λa=>f (K (zE b 75 e 98 h 100 i 107 j) 7 c) a l) g) g) (Q (b 39) λk=>q (ah .eql k (.Z 26)) λk=>av f λf=>aD k (dx (d+10) λd=>Q (b 6) λl=>Q (b 0) λm=>aN a 18 [] c d (λc d n=>aN a 15 [m,.Z 8] d n (λd g m=>q (bK 3 c d) λc=>q (br a g 3 c) λc=>q (a2 l) λd=>q (aq 4 d) λd=>q (bj a g 3 d c) λa=>f (zC (zE b 75 e 98 h 100 i 107 j) 116 k 7 (.Z 1)) a m) g) g) (f (K (zE b 75 e 98 h 100 i 107 j) 116 k) c d))))))) λa=>aD h (a (zC b 53 e 66 h) c d) (Q (b 39) λf=>q (ah .eql f (.Z 20)) λf=>a (zD b 53 e 66 h 66 f) c d)))) λa=>aD f (a (zD (zE b 5 c 6 d 7 (.Z 2) 39 c) 40 j 44 k 49 f) e h) (q (ah .eql c (.Z 4)) λg=>av a λa=>aD g (a (zE (zE b 5 c 6 d 7 (.Z 2) 39 c) 40 j 44 k 49 f 49 g) e h) (q (ah .eql c (.Z 5)) λi=>a (K (zE (zE b 5 c 6 d 7 (.Z 2) 39 c) 40 j 44 k 49 f 49 g) 49 i) e h))))) g) g) λh=>aD d (aN a 15 [b,.Z 2] i e (λe h i=>q (ah .eql e (.Z 0)) λe=>av (λb c d=>Q (b 0) λb=>aN a 39 [b] c d (λa b c=>f a b c) g) λj=>aD e (aN a 16 [b] h i (λb c d=>aN a 38 [b] c d (λa b c=>f a b c) g) g) (j (zD (bR [b,c]) 4 .bC 22 d 25 e) h i)) g) (h (zC (bR [b,c]) 4 .bC 22 d) i e)) λa=>aD h (a .zT) (a d)) λa=>ag false h (q (ah .geq d i) λb=>a b j) (a S.undef j)) λa=>ag false h (q (bL i) λb=>a b j) (a S.undef j)) λb=>ag false h (q (W a j i) λa=>b a j) (b S.undef j)) λa=>ag false h (q (aq 0 i) λb=>a b j) (a S.undef j)) λa=>ag false h (q (a2 i) λb=>a b j) (a S.undef j)) λa=>ag false h (a b i) (a S.undef i)) λb=>ag false h (q (W a i d) λa=>b a i) (b S.undef i)) λa=>ag false h (q (aq 1 d) λb=>a b i) (a S.undef i)) λa=>ag false h (q (a2 d) λb=>a b i) (a S.undef i)) λa=>ag false h (a b d) (a S.undef d)
def Cd:co X 19 [a0,aH]=vV X a0 aH:=Zk
def Cc:cb X 19 2=true:=Zk
def v7:Za1:=λa b c d e _=>q (cr [.Z 0,.Z 0,.str [],.zF,.zF,.zF,.Z 0,.int .u64 0, .az] [(0,1,(.Z 2)),(2,1,b)]) λb=>eU a c d b λa b c=>e a b c
def Ct:co X 38 [a0]=v7 X a0:=Zk
def Cs:cb X 38 1=true:=Zk
def v8:Za1:=λa b c d e f=>aN a 18 [] c d (λc d g=>aN a 15 [b,.Z 8] d g (λd g h=>q (bK 3 c d) λc=>q (br a g 3 c) λc=>q (cu [.zF,.zF,.Z 0] h) λd=>b4 a g h d.1 d.2 λd g h=>q (bj a g 3 d c) λc=>aN a 15 [b,.Z 200] c h (λc g h=>q (iS .u64 c) λc=>q (aq 2 d) λi=>q (W a g i) λi=>q (aq 1 d) λj=>q (W a g j) λj=>av (λb c d=>Q (b 5) λg=>q (ah .lss g (.Z 8)) λg=>av (λb c d=>Q (b 5) λg=>q (ah .gtr g (.Z 8)) λg=>al (λc d h=>al (λc d f=>al (λc d f=>bS (λc=>av (λb c d=>Q (b 3) λf=>q (br a c 3 f) λf=>Q (b 4) λb=>q (cr [.Z 0,.Z 0,.str [],.zF,.zF,.zF,.Z 0,.int .u64 0, .az] [(0,1,(.Z 1)),(4,3,f),(7,1,b)]) λb=>eU a c d b λa b c=>e a b c) λa=>aD c (Q (b 5) λe=>q (ah .shl (.int .u64 1) e) λe=>q (ah .sub e (.int .u64 1)) λe=>Q (b 4) λg=>q (ah .sub e g) λe=>a (zC b 33 c 4 e) d f) (a (K b 33 c) d f)) λa=>aD g (a c) (a .zF)) λa=>ag true g (q (ah .eql c (.Z 0)) λb=>a b d f) (a S.undef d f)) λb=>ag true g (aN a 15 [c,.Z 3] d h (λa c d=>b a c d) f) (b S.undef d h)) λa=>ag true g (Q (b 0) λb=>a b c d) (a S.undef c d)) λa=>aD g (Q (b 4) λe=>Q (b 5) λf=>q (ah .shl (.int .u64 1) f) λf=>q (ah .sub f (.int .u64 1)) λf=>q (ah .and e f) λe=>a (zC b 21 g 4 e) c d) (a (K b 21 g) c d)) λa=>aD j (q (ah .sub i (.Z 1)) λe=>a (zC (zE (bR [b]) 2 .bC 3 d 4 c 5 i) 17 j 5 e) g h) (a (K (zE (bR [b]) 2 .bC 3 d 4 c 5 i) 17 j) g h)) f) f) f
def Cv:co X 39 [a0]=v8 X a0:=Zk
def Cu:cb X 39 1=true:=Zk
def wb:Za0:=λa b c d e f _=>q (dC 1 [.bC] [(0,1,c)] e) λc=>b4 a d e c.1 c.2 λc d e=>q (cr [.Z 0,.Z 0,.str [],.zF,.zF,.zF,.Z 0,.int .u64 0, .az] [(0,1,b),(8,1,c)]) λb=>eU a d e b λa b c=>f a b c
def Cx:co X 40 [a0,aH]=wb X a0 aH:=Zk
def Cw:cb X 40 2=true:=Zk
def wl:Za0:=λa b c d e f g=>q (bL b) λh=>q (j0 a d .min [3,3] [h,.Z 400]) λh=>q (il a d 1 b none (some h) none) λh=>q (cr [.az,.Z 0] [(0,1,h)]) λh=>eU a d e h λd e h=>q (cr [.az] []) λi=>eU a e h i λe h i=>av (λb c d=>Q (b 1) λe=>q (ah .gtr e (.int .u8 0)) λe=>av (λa b c=>Q (a 6) λa=>f a b c) λf=>aD e (Q (b 6) λh=>Q (b 5) λi=>Q (b 1) λj=>q (iS .i64 j) λj=>aN a 20 [h,i,j] c d (λ_ a c=>f (K b 87 e) a c) g) (f (K b 87 e) c d)) λf=>cC (λb c d e=>Q (c 7) λh=>Q (c 5) λi=>aN a 15 [i,.Z 3] d e (λd e i=>q (ah .leq h d) λd=>av (λc d e=>av (λa c d=>Q (a 7) λe=>q (ah .add e (.Z 1)) λe=>b (K a 7 e) c d) λb=>Q (c 5) λf=>aN a 16 [f] d e (λd e f=>Q (c 5) λh=>aN a 17 [h,.Z 3] e f (λe f h=>Q (c 5) λi=>aN a 17 [i,.Z 2] f h (λf h i=>aN a 18 [] h i (λh i j=>Q (c 5) λk=>aN a 15 [k,.Z 8] i j (λi j k=>q (bK 3 h i) λh=>q (br a j 3 h) λh=>q (cr [.str [],.Z 0,.zF,.zF,.Z 0,.str [],.Z 0,.zF] [(0,1,(.str [111,117,116])),(2,3,h)]) λh=>q (dC 1 [.str [],.Z 0,.zF,.zF,.Z 0,.str [],.Z 0,.zF] [(0,8,h)] k) λh=>b4 a j k h.1 h.2 λh i j=>dA (d4 a i j 8 f h) i j λf h i=>Q (c 5) λj=>aN a 17 [j,.Z 3] h i (λh i j=>q (cr [.str [],.Z 0, .az, .az, .az, .az] [(0,1,d),(2,1,e),(3,1,f),(4,1,h)]) λd=>q (cu [.str [],.Z 0, .az, .az, .az, .az] j) λe=>b4 a i j e.1 e.2 λe f h=>q (bj a f 6 e d) λd=>Q (c 5) λf=>aN a 15 [f,.Z 5] d h (λd f h=>av (λc d e=>dx (e+11) λf=>Q (c 6) λg=>Q (c 6) λh=>q (a2 h) λh=>q (aq 0 h) λh=>q (W a d h) λh=>Q (c 8) λi=>q (br a d 6 i) λi=>q (dC 1 [.str [],.Z 0, .az, .az, .az, .az] [(0,6,i)] (e+6)) λi=>fO a d (e+6) i.1 i.2 λd e=>dA (d4 a e f 6 h d) e f λd e f=>q (a2 g) λg=>q (aq 0 g) λg=>q (bj a e 1 g d) λa=>b c a f) λb=>cC (λc d e f=>Q (d 9) λh=>q (ah .gtr h (.Z 0)) λh=>av (λb d e=>av (λa b d=>Q (a 9) λe=>q (ah .sub e (.Z 1)) λe=>c (K a 9 e) b d) λc=>Q (b 5) λf=>aN a 16 [f] d e (λd e f=>q (dC 1 [.str []] [(0,1,d)] f) λd=>b4 a e f d.1 d.2 λd e f=>Q (b 5) λh=>Q (b 5) λi=>aN a 15 [i,.Z 7] e f (λe f i=>q (ah .add (.Z 2) e) λe=>aN a 19 [h,e] f i (λe f h=>Q (b 5) λi=>aN a 15 [i,.Z 9] f h (λf h i=>q (cr [.az, .az,.Z 0, .bC] [(0,1,d),(3,1,e),(2,1,f)]) λd=>q (cu [.az, .az,.Z 0, .bC] i) λe=>b4 a h i e.1 e.2 λe f h=>q (bj a f 4 e d) λd=>Q (b 5) λf=>aN a 15 [f,.Z 4] d h (λd f h=>q (ah .eql d (.Z 1)) λd=>av (λb d e=>Q (b 8) λf=>q (aq 5 f) λf=>q (W a d f) λf=>Q (b 10) λg=>q (br a d 4 g) λg=>q (dC 1 [.az, .az,.Z 0, .bC] [(0,4,g)] e) λg=>b4 a d e g.1 g.2 λd e g=>dA (d4 a e g 4 f d) e g λd e f=>Q (b 8) λg=>q (aq 5 g) λg=>q (bj a e 1 g d) λa=>c b a f) λc=>aD d (dx (h+8) λi=>q (aq 0 e) λj=>q (W a f j) λk=>Q (b 5) λl=>aN a 16 [l] f i (λf g i=>q (dC 1 [.str []] [(0,1,f)] (h+4)) λf=>fO a g (h+4) f.1 f.2 λf g=>q (W a g j) λh=>eR h (some k) (dA (d4 a g i 1 k f) g i λf g h=>q (aq 0 e) λi=>q (bj a g 1 i f) λa=>c (zC b 10 e 62 d) a h)) g) (c (zC b 10 e 62 d) f h)) g) g) g) g) g) λa=>aD h (a (K d 46 h) e f) (b (K d 46 h) e f)) (zC c 8 e 9 d) f h) g) g) g) g) g) g) g) λa=>aD d (a (K c 23 d) e i) (f (K c 23 d) e i)) g) (zE (bR [b,c]) 4 .bC 5 d 6 e 7 (.Z 0)) h i
def C3:co X 5 [a0,aH]=wl X a0 aH:=Zk
def C2:cb X 5 2=true:=Zk
def vW:Za2:=λa b c d e f g h=>dx (f+13) λf=>q (a2 b) λi=>q (aq 0 i) λi=>q (W a e i) λj=>q (a2 b) λk=>q (aq 0 k) λk=>q (W a e k) λk=>q (bL k) λk=>aN a 15 [c,k] e f (λe f k=>q (bK 6 j e) λe=>q (W a f i) λi=>eR i (some j) (q (ah .rem d (.Z 3)) λi=>q (ah .eql i (.Z 0)) λi=>al (λf j k=>al (λf j k=>al (λf j k=>al (λf j k=>al (λf j k=>al (λf j k=>bS (λf=>av (λb c d=>dx (d+13) λd=>Q (b 6) λe=>q (a2 e) λe=>q (aq 5 e) λe=>q (W a c e) λf=>Q (b 1) λi=>Q (b 6) λj=>q (a2 j) λj=>q (aq 5 j) λj=>q (W a c j) λj=>q (bL j) λj=>aN a 15 [i,j] c d (λc d i=>q (bK 4 f c) λc=>q (W a d e) λe=>eR e (some f) (q (a2 c) λe=>q (aq 3 e) λe=>q (W a d e) λe=>av (λb c d=>Q (b 2) λe=>q (ah .rem e (.Z 11)) λe=>av (λ_ a b=>g (.tuple []) a b) λf=>q (ah .eql e (.Z 0)) λg=>av f λf=>aD g (Q (b 9) λh=>q (a2 h) λh=>q (aq 0 h) λh=>q (bj a c 1 h (.Z 27)) λa=>f (zC b 135 e 136 g) a d) (q (ah .eql e (.Z 1)) λi=>av f λf=>aD i (Q (b 9) λh=>q (a2 h) λj=>q (aq 2 j) λj=>q (W a c j) λj=>q (ce a c .add 9 true j (.str [97])) λj=>q (a2 h) λh=>q (aq 2 h) λh=>q (bj a c 1 h j) λa=>f (zD b 135 e 136 g 141 i) a d) (q (ah .eql e (.Z 2)) λj=>av f λf=>aD j (Q (b 9) λh=>q (a2 h) λk=>q (aq 7 k) λk=>q (W a c k) λk=>q (ah .add k (.int .u64 64)) λk=>q (a2 h) λh=>q (aq 7 h) λh=>q (bj a c 1 h k) λa=>f (zE b 135 e 136 g 141 i 150 j) a d) (q (ah .eql e (.Z 3)) λk=>av f λf=>aD k (dx (d+11) λl=>Q (b 9) λm=>Q (b 9) λn=>q (a2 n) λn=>q (aq 8 n) λn=>q (W a c n) λo=>aN a 38 [(.str [97])] c l (λc h l=>q (dC 1 [.bC] [(0,1,c)] (d+6)) λc=>fO a h (d+6) c.1 c.2 λc d=>q (W a d n) λh=>eR h (some o) (dA (d4 a d l 1 o c) d l λc d h=>q (a2 m) λl=>q (aq 8 l) λl=>q (bj a d 1 l c) λa=>f (K (zE b 135 e 136 g 141 i 150 j) 159 k) a h)) h) (q (ah .eql e (.Z 4)) λl=>av f λf=>aD l (Q (b 9) λh=>Q (b 9) λm=>q (a2 m) λm=>q (aq 8 m) λm=>q (W a c m) λm=>q (dC 1 [.bC] [(0,1, .bC)] d) λn=>b4 a c d n.1 n.2 λc d n=>dA (d4 a d n 1 m c) d n λc d m=>q (a2 h) λh=>q (aq 8 h) λh=>q (bj a d 1 h c) λa=>f (zC (zE b 135 e 136 g 141 i 150 j) 159 k 171 l) a m) (q (ah .eql e (.Z 5)) λm=>av f λf=>aD m (Q (b 9) λh=>Q (b 9) λn=>q (a2 n) λn=>q (aq 3 n) λn=>q (W a c n) λn=>q (c0 .not n) λn=>q (a2 h) λh=>q (aq 3 h) λh=>q (bj a c 1 h n) λa=>f (zD (zE b 135 e 136 g 141 i 150 j) 159 k 171 l 182 m) a d) (q (ah .eql e (.Z 6)) λn=>av f λf=>aD n (Q (b 9) λh=>q (a2 h) λo=>q (aq 4 o) λo=>q (aq 2 o) λo=>q (W a c o) λo=>q (ah .xor o (.Z 8)) λo=>q (a2 h) λh=>q (aq 4 h) λh=>q (aq 2 h) λh=>q (bj a c 1 h o) λa=>f (zE (zE b 135 e 136 g 141 i 150 j) 159 k 171 l 182 m 192 n) a d) (q (ah .eql e (.Z 7)) λo=>av f λf=>aD o (Q (b 8) λh=>q (a2 h) λh=>q (aq 0 h) λh=>q (bj a c 1 h .az) λa=>f (K (zE (zE b 135 e 136 g 141 i 150 j) 159 k 171 l 182 m 192 n) 203 o) a d) (q (ah .eql e (.Z 8)) λp=>av f λf=>aD p (Q (b 9) λh=>q (a2 h) λh=>q (aq 0 h) λh=>q (bj a c 1 h (.Z 21)) λa=>f (zC (zE (zE b 135 e 136 g 141 i 150 j) 159 k 171 l 182 m 192 n) 203 o 208 p) a d) (q (ah .eql e (.Z 9)) λr=>av f λf=>aD r (av f λf=>cC (λb c d e=>Q (c 10) λg=>Q (c 1) λi=>aN a 15 [i,.Z 20] d e (λd e i=>q (ah .add (.Z 190) d) λd=>q (ah .lss g d) λd=>av (λc d e=>av (λa c d=>Q (a 10) λe=>q (ah .add e (.Z 1)) λe=>b (K a 10 e) c d) λb=>Q (c 8) λf=>Q (c 8) λg=>q (a2 g) λg=>q (aq 3 g) λg=>q (W a d g) λg=>aN a 40 [.Z 3,g] d e (λd e g=>q (a2 f) λf=>q (aq 3 f) λf=>q (bj a e 1 f d) λa=>b c a g) h) λa=>aD d (a (K c 219 d) e i) (f (K c 219 d) e i)) h) (zE (zE (zE b 135 e 136 g 141 i 150 j) 159 k 171 l 182 m 192 n) 203 o 208 p 213 r 10 (.Z 0)) c d) (q (ah .eql e (.Z 10)) λh=>av f λf=>aD h (Q (b 8) λs=>q (a2 s) λs=>q (aq 3 s) λs=>q (bj a c 1 s .bC) λa=>f (zE (zE (zE b 135 e 136 g 141 i 150 j) 159 k 171 l 182 m 192 n) 203 o 208 p 213 r 230 h) a d) (f (zE (zE (zE b 135 e 136 g 141 i 150 j) 159 k 171 l 182 m 192 n) 203 o 208 p 213 r 230 h) c d)))))))))))) λf=>cC (λb c d e=>Q (c 1) λg=>aN a 15 [g,.Z 2] d e (λd e g=>q (ah .eql d (.Z 1)) λd=>al (λe g i=>al (λe g i=>al (λe g i=>al (λe g i=>al (λe g i=>al (λe g i=>bS (λd=>av (λc d e=>av b λb=>dx (e+14) λe=>Q (c 9) λf=>q (a2 f) λf=>q (aq 8 f) λf=>q (W a d f) λg=>Q (c 1) λi=>Q (c 9) λj=>q (a2 j) λj=>q (aq 8 j) λj=>q (W a d j) λj=>q (bL j) λj=>aN a 15 [i,j] d e (λd e h=>q (bK 1 g d) λd=>q (W a e d) λd=>q (W a e f) λa=>eR a (some g) (b (K c 9 d) e h)) h) λa=>aD d (a (K c 120 d) g i) (f (K c 120 d) g i)) λa=>aD d (a e) (a .zF)) λa=>ag true d (q (ah .gtr e (.Z 0)) λb=>a b g i) (a S.undef g i)) λa=>ag true d (q (bL e) λb=>a b g i) (a S.undef g i)) λb=>ag true d (q (W a g e) λa=>b a g i) (b S.undef g i)) λa=>ag true d (q (aq 8 e) λb=>a b g i) (a S.undef g i)) λa=>ag true d (q (a2 e) λb=>a b g i) (a S.undef g i)) λa=>ag true d (Q (c 9) λb=>a b e g) (a S.undef e g)) h) (zC b 8 c 9 e) d i)) h) λh=>aD f (dx (k+12) λh=>q (a2 e) λi=>q (aq 3 i) λi=>q (W a j i) λi=>q (a2 e) λk=>q (aq 3 k) λk=>q (W a j k) λk=>q (bL k) λk=>q (ah .sub k (.Z 1)) λk=>q (bK 8 i k) λi=>q (ah .rem d (.Z 8)) λk=>av (λ_ a b=>g (.tuple []) a b) λg=>q (ah .eql k (.Z 0)) λl=>av g λg=>aD l (q (a2 i) λm=>q (aq 0 m) λm=>q (bj a j 1 m (.str [53,120])) λa=>g (K (zE (bR [b,c,d]) 6 e 33 f 7 i 46 k) 47 l) a h) (q (ah .eql k (.Z 1)) λm=>av g λg=>aD m (q (a2 i) λn=>q (aq 2 n) λn=>q (aq 2 n) λn=>q (bj a j 1 n (.Z 65)) λa=>g (zC (zE (bR [b,c,d]) 6 e 33 f 7 i 46 k) 47 l 52 m) a h) (q (ah .eql k (.Z 2)) λn=>av g λg=>aD n (q (a2 i) λo=>q (aq 7 o) λo=>q (W a j o) λo=>q (c0 .not o) λo=>q (a2 i) λp=>q (aq 7 p) λp=>q (bj a j 1 p o) λa=>g (zD (zE (bR [b,c,d]) 6 e 33 f 7 i 46 k) 47 l 52 m 58 n) a h) (q (ah .eql k (.Z 3)) λo=>av g λg=>aD o (q (a2 e) λp=>q (aq 0 p) λp=>q (bj a j 1 p (.str [116,104,101,110])) λa=>g (zE (zE (bR [b,c,d]) 6 e 33 f 7 i 46 k) 47 l 52 m 58 n 68 o) a h) (q (ah .eql k (.Z 4)) λp=>av g λg=>aD p (q (a2 e) λr=>q (aq 3 r) λr=>q (bj a j 1 r .az) λa=>g (K (zE (zE (bR [b,c,d]) 6 e 33 f 7 i 46 k) 47 l 52 m 58 n 68 o) 73 p) a h) (q (ah .eql k (.Z 5)) λr=>av g λg=>aD r (q (a2 b) λs=>q (aq 0 s) λs=>q (bj a j 1 s .az) λa=>g (zC (zE (zE (bR [b,c,d]) 6 e 33 f 7 i 46 k) 47 l 52 m 58 n 68 o) 73 p 78 r) a h) (q (ah .eql k (.Z 6)) λs=>av g λg=>aD s (q (a2 i) λt=>q (aq 5 t) λt=>q (bj a j 1 t (.str [117,56])) λa=>g (zD (zE (zE (bR [b,c,d]) 6 e 33 f 7 i 46 k) 47 l 52 m 58 n 68 o) 73 p 78 r 83 s) a h) (q (ah .eql k (.Z 7)) λt=>av g λg=>aD t (dA (uw a j h 8 [.str [],.Z 0,.zF,.zF,.Z 0,.str [],.Z 0,.zF] (.Z 300) (.Z 300)) j h λh j u=>q (a2 e) λv=>q (aq 4 v) λv=>q (bj a j 1 v h) λa=>g (zE (zE (zE (bR [b,c,d]) 6 e 33 f 7 i 46 k) 47 l 52 m 58 n 68 o) 73 p 78 r 83 s 88 t) a u) (g (zE (zE (zE (bR [b,c,d]) 6 e 33 f 7 i 46 k) 47 l 52 m 58 n 68 o) 73 p 78 r 83 s 88 t) j h))))))))) (h (zC (bR [b,c,d]) 6 e 33 f) j k)) λa=>aD i (a .zT) (a f)) λa=>ag false i (q (ah .eql f (.Z 0)) λb=>a b j k) (a S.undef j k)) λa=>ag false i (q (bL f) λb=>a b j k) (a S.undef j k)) λb=>ag false i (q (W a j f) λa=>b a j k) (b S.undef j k)) λa=>ag false i (q (aq 5 f) λb=>a b j k) (a S.undef j k)) λa=>ag false i (q (a2 f) λb=>a b j k) (a S.undef j k)) λa=>ag false i (a e f k) (a S.undef f k))) h
def Cf:co X 20 [a0,aH,aZ]=vW X a0 aH aZ:=Zk
def Ce:cb X 20 3=true:=Zk
def vX:Za1:=λa b c d e _=>av (λa b c=>Q (a 3) λa=>e a b c) λe=>cC (λb c d f=>Q (c 4) λg=>Q (c 0) λh=>q (bL h) λh=>q (ah .lss g h) λg=>av (λc d e=>av (λa c d=>Q (a 4) λe=>q (ah .add e (.Z 1)) λe=>b (K a 4 e) c d) λb=>Q (c 3) λf=>Q (c 0) λg=>Q (c 4) λh=>q (bK 8 g h) λg=>q (br a d 8 g) λg=>q (dC 1 [.str [],.Z 0,.zF,.zF,.Z 0,.str [],.Z 0,.zF] [(0,8,g)] e) λg=>b4 a d e g.1 g.2 λd e g=>dA (d4 a e g 8 f d) e g λa d e=>b (K c 3 a) d e) λa=>aD g (a (K c 8 g) d f) (e (K c 8 g) d f)) (zD (bR [b]) 2 .az 3 .az 4 (.Z 0)) c d
def Ch:co X 21 [a0]=vX X a0:=Zk
def Cg:cb X 21 1=true:=Zk
def vY:Za1:=λa b c d e f=>q (ce a c .eql 59 true b .bC) λg=>av (λb c d=>dx (d+27) λg=>Q (b 0) λh=>q (a2 h) λh=>q (aq 0 h) λh=>q (W a c h) λh=>Q (b 0) λi=>q (a2 i) λi=>q (aq 1 i) λi=>q (W a c i) λi=>Q (b 0) λj=>q (a2 j) λj=>q (aq 2 j) λj=>q (W a c j) λj=>Q (b 0) λk=>q (a2 k) λk=>q (aq 3 k) λk=>q (W a c k) λk=>Q (b 0) λl=>q (a2 l) λl=>q (aq 4 l) λl=>q (br a c 3 l) λl=>Q (b 0) λm=>q (a2 m) λm=>q (aq 7 m) λm=>q (W a c m) λm=>q (cr [.Z 0,.Z 0,.str [],.zF,.zF,.zF,.Z 0,.int .u64 0, .az] [(0,1,h),(1,1,i),(2,1,j),(3,1,k),(4,3,l),(7,1,m)]) λh=>tb a c (d+25) h λc d=>av (λa b c=>Q (a 3) λa=>e a b c) λe=>cC (λb c d g=>Q (c 4) λh=>Q (c 0) λi=>q (a2 i) λi=>q (aq 8 i) λi=>q (W a d i) λi=>q (bL i) λi=>q (ah .lss h i) λh=>av (λc d e=>av (λa c d=>Q (a 4) λe=>q (ah .add e (.Z 1)) λe=>b (K a 4 e) c d) λb=>dx (e+18) λg=>Q (c 3) λh=>Q (c 3) λi=>q (a2 i) λi=>q (aq 8 i) λi=>q (W a d i) λj=>Q (c 0) λk=>q (a2 k) λk=>q (aq 8 k) λk=>q (W a d k) λk=>Q (c 4) λl=>q (bK 1 k l) λk=>q (W a d k) λk=>aN a 22 [k] d g (λd f g=>q (dC 1 [.bC] [(0,1,d)] (e+13)) λd=>fO a f (e+13) d.1 d.2 λd e=>q (W a e i) λf=>eR f (some j) (dA (d4 a e g 1 j d) e g λd e f=>q (a2 h) λg=>q (aq 8 g) λg=>q (bj a e 1 g d) λa=>b c a f)) f) λa=>aD h (a (K c 39 h) d g) (e (K c 39 h) d g)) (zC b 3 c 4 (.Z 0)) d g) λa=>aD g (e .bC c d) (a (zC (bR [b]) 2 .bC 6 g) c d)
def Cj:co X 22 [a0]=vY X a0:=Zk
def Ci:cb X 22 1=true:=Zk
def wv:Za1:=λa b c d e f=>q (ce a c .eql 23 true b .bC) λg=>av (λb c d=>q (cr [.az] []) λg=>eU a c d g λc d g=>av (λa b c=>Q (a 3) λa=>e a b c) λe=>cC (λb c d g=>Q (c 4) λh=>Q (c 0) λi=>q (a2 i) λi=>q (aq 0 i) λi=>q (W a d i) λi=>q (bL i) λi=>q (ah .lss h i) λh=>av (λc d e=>av (λa c d=>Q (a 4) λe=>q (ah .add e (.Z 1)) λe=>b (K a 4 e) c d) λb=>Q (c 0) λg=>q (a2 g) λg=>q (aq 0 g) λg=>q (W a d g) λg=>Q (c 4) λh=>q (bK 6 g h) λg=>q (br a d 6 g) λg=>q (cu [.str [],.Z 0, .az, .az, .az, .az] e) λh=>b4 a d e h.1 h.2 λd e h=>q (bj a e 6 d g) λe=>dx (h+16) λg=>q (aq 0 d) λi=>q (W a e i) λj=>q (aq 1 d) λk=>q (W a e k) λl=>q (aq 2 d) λm=>q (W a e m) λm=>q (aq 3 d) λn=>q (W a e n) λo=>q (aq 4 d) λp=>q (W a e p) λr=>q (cu [.str [],.Z 0, .az, .az, .az, .az] (h+14)) λs=>fO a e (h+14) s.1 s.2 λe h=>aN a 21 [m] h g (λg h m=>q (W a h i) λs=>eR s (some j) (q (W a h k) λs=>eR s (some l) (q (W a h n) λn=>eR n (some o) (q (W a h p) λn=>eR n (some r) (aN a 21 [o] h m (λh m n=>q (W a m i) λo=>eR o (some j) (q (W a m k) λo=>eR o (some l) (q (W a m p) λo=>eR o (some r) (aN a 21 [r] m n (λm n o=>q (cr [.str [],.Z 0, .az, .az, .az, .az] [(0,1,j),(1,1,l),(2,1,g),(3,1,h),(4,1,m)]) λg=>q (W a n i) λh=>eR h (some j) (q (W a n k) λh=>eR h (some l) (q (bj a n 6 e g) λg=>av (λc d e=>dx (e+11) λf=>Q (c 3) λg=>Q (c 3) λh=>q (a2 h) λh=>q (aq 0 h) λh=>q (W a d h) λh=>Q (c 6) λi=>q (br a d 6 i) λi=>q (dC 1 [.str [],.Z 0, .az, .az, .az, .az] [(0,6,i)] (e+6)) λi=>fO a d (e+6) i.1 i.2 λd e=>dA (d4 a e f 6 h d) e f λd e f=>q (a2 g) λg=>q (aq 0 g) λg=>q (bj a e 1 g d) λa=>b c a f) λb=>cC (λc d e g=>Q (d 7) λh=>Q (d 5) λi=>q (aq 5 i) λi=>q (W a e i) λi=>q (bL i) λi=>q (ah .lss h i) λh=>av (λb d e=>av (λa b d=>Q (a 7) λe=>q (ah .add e (.Z 1)) λe=>c (K a 7 e) b d) λc=>Q (b 5) λg=>q (aq 5 g) λg=>q (W a d g) λg=>Q (b 7) λh=>q (bK 4 g h) λg=>q (br a d 4 g) λg=>q (cu [.az, .az,.Z 0, .bC] e) λh=>b4 a d e h.1 h.2 λd e h=>q (bj a e 4 d g) λe=>dx (h+16) λg=>Q (b 6) λi=>q (aq 5 i) λi=>q (W a e i) λj=>q (aq 0 d) λk=>q (W a e k) λl=>q (aq 1 d) λm=>q (W a e m) λn=>q (aq 2 d) λo=>q (W a e o) λp=>q (aq 3 d) λr=>q (W a e r) λr=>aN a 22 [r] e g (λe f g=>q (cr [.az, .az,.Z 0, .bC] [(0,1,l),(1,1,n),(2,1,p),(3,1,e)]) λe=>q (dC 1 [.az, .az,.Z 0, .bC] [(0,4,e)] (h+12)) λe=>fO a f (h+12) e.1 e.2 λe f=>q (W a f i) λh=>eR h (some j) (q (W a f k) λh=>eR h (some l) (q (W a f m) λh=>eR h (some n) (q (W a f o) λh=>eR h (some p) (dA (d4 a f g 4 j e) f g λe f g=>Q (b 6) λh=>q (aq 5 h) λh=>q (bj a f 1 h e) λa=>c (K b 8 d) a g))))) f) λa=>aD h (a (K d 47 h) e g) (b (K d 47 h) e g)) (zD c 5 d 6 e 7 (.Z 0)) g o))) f)))) f))))) f) λa=>aD h (a (K c 19 h) d g) (e (K c 19 h) d g)) (zC b 3 c 4 (.Z 0)) d g) λa=>aD g (e .bC c d) (a (zC (bR [b]) 2 .bC 10 g) c d)
def C7:co X 6 [a0]=wv X a0:=Zk
def C6:cb X 6 1=true:=Zk
end
end Go.Proofs.YtmipngjbcdamjaaGreatDoor

namespace Go.Proofs.YtmipngjbcdamjaaGreatDoor
open Go.S Go.a8
noncomputable section
def gu:List aW:=[[97],[98],[99],[120,95,49],[95],[90,57],[119,104,101,110,95],[117,54,53],[97,98,99,100,101,102,103,104,105,106,107,108,109,110,111,112,113,114,115,116,117,118,119,120,121,122,48,49,50,51,52,53]]
def oc:List eb:=[⟨true,false,1⟩,⟨false,false,8⟩,⟨false,true,8⟩,⟨false,false,1⟩,⟨false,false,64⟩,⟨false,true,64⟩,⟨false,true,1⟩,⟨false,false,13⟩]
def wQ:∀t∈oc,1<=t.w/\t.w<=64:=by decide
def lp:∀s∈gu,s∈d8:=by decide
structure fH(d:dT):Prop where
 bf:1<=d.kind
 bo:d.kind<=26
 nm:d.name=[]\/d.name∈gu
 aL:0<=d.n
 aR:d.n<18446744073709551616
 full:∀a∈d.args,a≠none
 ee:d.args.length<=3
def rL{x n:Nat}(c:0<n):ah .rem (.Z (x:Int)) (.Z (n:Int))=some (.Z ((x%n:Nat):Int)):=by
 have a:¬((n:Int)=0):=Zo
 have b:(x:Int).tmod (n:Int)=((x%n:Nat):Int):=(Int.ofNat_tmod x n).symm
 simp[ah,fM,f2,fJ,g5,mq,a,b]
 omega
def n3(z:Int):0<=z%18446744073709551616/\z%18446744073709551616<18446744073709551616:=⟨Int.emod_nonneg _ Zd,Int.emod_lt_of_pos _ Zd⟩
def yb(x a:Int):ah .sub (.int .u64 x) (.int .u64 a)=some (.int .u64 ((x-a)%18446744073709551616)):=by
 simp[ah,fM,f2,fJ,fq,h0]
def GL(x a:Int):∃z:Int,ah .and (.int .u64 x) (.int .u64 a)=some (.int .u64 (z%18446744073709551616)):=
 ⟨((BitVec.ofInt 64 x&&& BitVec.ofInt 64 a).toNat:Int),by simp only[ah,fM,f2,fJ,fq,h0,fB,cS,ry];rfl⟩
def GO(x:Int){a:Int}(e:0<=a):∃z:Int,ah .shl (.int .u64 x) (.Z a)=some (.int .u64 (z%18446744073709551616)):=by
 have b:kh a 0=false:=by rw[jt];simp;omega
 exact⟨x*2^(min a.toNat IntKind.u64.bits),by simp only[ah,fM,cS,pi,b,fB,fq,h0,ry]⟩
structure eK(X:bU)(h:I ae)(bz:Nat):Prop where
 aP:(u X).aP<=bz
 at_:∃(c:I y) (ax:y) (n i:Nat),J X h bz=some (.cells c 2 .own)/\c.get 0=some ax/\c.get 1=some (.Z (i:Int))/\bL ax=some (.Z (n:Int))/\n<=400/\i<=n
  /\∀H,H<n->∃(p:y) (x:Nat),bK 1 ax (.Z (H:Int))=some p/\(∀E,W X E p=some (.int .u16 (x:Int)))/\x<65536
section
variable{X:bU}{h E cH ay aO:I ae}{j ar aL aR bz:Nat}
def eK.T(e:eK X h bz)(o:J X E bz=J X h bz):eK X E bz:=by
 obtain⟨c,ax,n,i,a,b⟩:=e.at_
 exact⟨e.aP,c,ax,n,i,by rw[o];exact a,b⟩
def eO(T0:dX X)(g:eK X h bz)(ab:bz<j){n:Nat}(t:0<n)(T5:n<=1000):
 aN X 15 [.ptr bz 0, .Z (n:Int)] h j (λN E ar=>∃r:Nat,N= .Z (r:Int)/\r<n/\eK X E bz/\iq X [bz] h j E ar) zG:=by
 refine zB T0 (B0 X) ?_
 rw[B1]
 unfold vN
 obtain⟨c,ax,m,i,v,a,w,f,Z,T4,z⟩:=g.at_
 have s:=g.aP
 by_cases ak:i<m
 ·have d:decide ((m:Int)<=(i:Int))=false:=zJ
  have G:=zz i
  have O:ah .sub (.Z ((i+1:Nat):Int)) (.Z 1)=some (.Z (i:Int)):=by rw[g4 Zo Zo,show((i+1:Nat):Int) -1=(i:Int) by omega]
  obtain⟨p,x,T1,T2,T6⟩:=z i ak
  have T3:=T2
  have P:iS .i64 (.int .u16 (x:Int))=some (.Z (x:Int)):=xo Zo Zo
  have Y:=rL (x:=x) t
  refine bs (ba v) @w @a @f @d @G (Za @O (Za @T1 (Za @T3 (Za @P @Y)))) ⟨?_⟩
  refine⟨x%n,rfl,zt _ t,⟨s,cO c 1 [.Z ((i+1:Nat):Int)],ax,m,i+1,bb s,by rw[kz Zd];exact a,hA ..,f,Z,ak,z⟩,Zo,λb ab C=> ?_⟩
  simp only[Zz,List.not_mem_nil,or_false]at C
  exact aY s C
 ·have d:decide ((m:Int)<=(i:Int))=true:=zK
  refine de (ba v) @w @a @f @d ⟨?_⟩
  exact⟨0,rfl,t,g,Zo,λ_ _ _=>rfl⟩
def kk(g:dX X)(v:eK X h bz)(ab:bz<j)(f:(u X).aP<=j):
 aN X 16 [.ptr bz 0] h j (λN E ar=>∃s,N= .str s/\s∈gu/\eK X E bz/\iq X [bz] h j E ar) zG:=by
 refine zB g (B6 X) ?_
 rw[B7]
 unfold vQ
 refine bl ⟨?_⟩
 generalize d:aS X h j _=ay
 have t:J X ay j=zy (gu.map y.str) 9:=by rw[<-d,bb f];rfl
 have bf:∀a,a<j->J X ay a=J X h a:=λa p=>by rw[<-d,aY f Zo]
 clear d
 refine(eO g (v.T (bf _ ab)) (j:=j+1) (n:=9) Zo Zo Zo).Zm ?_
 rintro N aO aR ⟨r,rfl,M,w,c⟩
 have z:=mu (ap:=1) (b:=j) (D:=0) (len:=9) (cap:=9) (i:=r) .i64 M
 obtain⟨s,m⟩:∃s,gu[r]? =some s:=⟨_,Ze M⟩
 have au:W X aO (.ptr j (r*1))=some (.str s):=by
  rw[ba (by rw[c.T j Zo Zx];exact t),fG,ZV,Zw,m];rfl
 refine cn @z @au ⟨?_⟩
 exact⟨s,rfl,Zg m,w,⟨zu c.le,λa p x=>by rw[c.T a Zo x,bf a p]⟩⟩
def sB(b:dX X)(a:(u X).aP<=j):aN X 18 [] h j (λN E ar=>ci X E (λc=>c=j) j N 3 (oc.map eS)/\j<ar/\a1 X h j E ar) zG:=by
 refine zB b (Ca X) ?_
 rw[Cb]
 unfold vU
 refine bl ⟨?_⟩
 refine⟨Ar (o:=8) (st:= .own) (by rw[bb a];rfl) rfl Zd Zd rfl,Zo,dG⟩
end
section
variable{X:bU}{h E cH ay aO:I ae}{j ar aL aR bz:Nat}
def jG{a b:Nat}(e:(u X).aP<=a):∀c,dm a b c->(u X).aP<=c:=λc d=>zu d.1
def fo.leaf{b:Nat}{kind at_ n:Int}{name:aW}{no:Bool}{ty:eb}(c:(u X).aP<=j)(ab:J X h b=zy (c5 kind at_ name no ty n .az) 9)(f:j<=b)(g:b<ar)
 (bf:1<=kind)(bo:kind<=26)(m:name=[]\/name∈gu)(p:0<=n)(r:n<18446744073709551616):fo X h fH (dm j ar) (.ptr b 0) 1:=by
 refine⟨_,_,b,rfl,dg.one (d:=⟨kind,at_,name,no,ty,n,[], .az,[]⟩) (jG c) ab (dl _) ⟨f,g⟩ rfl rfl rfl ⟨bf,bo,m,p,r,(λa i=>by cases i),Zs⟩ 1,Zs,Zp _,Zp _⟩
def vi(b:dX X)(a:(u X).aP<=j)(s:aW):aN X 38 [.str s] h j (λN E ar=>N= .ptr j 0/\J X E j=zy (c5 2 0 s false cm 0 .az) 9/\j<ar/\a1 X h j E ar) zG:=by
 refine zB b (Cs X) ?_
 rw[Ct]
 unfold v7
 refine bl ⟨?_⟩
 exact⟨rfl,by rw[bb a];rfl,Zo,dG⟩
def yZ(c:dX X)(b:(u X).aP<=j)(o:Int)(a:Nat):aN X 40 [.Z o, .ptr a 0] h j (λN E ar=>N= .ptr (j+1) 0/\J X E j=zy [.ptr a 0] 1/\J X E (j+1)=zy (c5 o 0 [] false cm 0 (.slice j 0 1 1)) 9/\j+1<ar/\a1 X h j E ar) zG:=by
 refine zB c (Cw X) ?_
 rw[Cx]
 unfold wb
 refine bl ⟨?_⟩
 exact⟨rfl,by rw[aY Zo Zo,bb b],by rw[bb Zo];rfl,Zo,dG⟩
def us(p:dX X)(UD:eK X h bz)(ab:bz<j)(UC:(u X).aP<=j):
 aN X 39 [.ptr bz 0] h j (λN E ar=>∃(ty:eb) (n:Int) (b:Nat),N= .ptr b 0/\J X E b=zy (c5 1 0 [] false ty n .az) 9/\(0<=n/\n<18446744073709551616)/\j<=b/\b<ar/\eK X E bz/\iq X [bz] h j E ar) zG:=by
 refine zB p (Cu X) ?_
 rw[Cv]
 unfold v8
 refine(sB p UC).Zm ?_
 rintro N ay aL ⟨UH,UG,T5⟩
 refine(eO p (UD.T (T5.T _ ab)) (j:=aL) (n:=8) Zo Zo Zo).Zm ?_
 rintro UU aO aR ⟨r,rfl,M,UE,P⟩
 have UN:=P.le
 have T8:=UH.T (E:=aO) (λa f=>by subst f;exact P.T _ UG Zx)
 obtain⟨ty,TY⟩:∃ty,oc[r]? =some ty:=⟨_,Ze M⟩
 have UT:=wQ ty (Zg TY)
 have UF:=T8.cT r M
 have T9:=T8.row Zd (i:=r) (r:=eS ty) (by rw[Zw,TY];rfl)
 have UI:eS ty=[.bool ty.b, .bool ty.s, .Z ty.w]:=rfl
 rw[UI]at T9
 refine cn @UF @T9 ⟨?_⟩
 generalize T0:aS X _ aR _=T3
 have UB:J X T3 aR=zy [.bool ty.b, .bool ty.s, .Z ty.w] 3:=by rw[<-T0,bb Zo];rfl
 have TZ:∀a,a<aR->J X T3 a=J X aO a:=λa f=>by rw[<-T0];exact zA
 clear T0
 refine(eO p (UE.T (TZ _ Zo)) (j:=aR+1) (n:=200) Zo Zo Zo).Zm ?_
 rintro UV C U1 ⟨t,rfl,UQ,T6,Y⟩
 have UO:=Y.le
 have O:J X C aR=zy [.bool ty.b, .bool ty.s, .Z ty.w] 3:=by rw[Y.T _ Zo Zx];exact UB
 have Z:iq X [bz] h j C U1:=⟨Zo,λa f c=>by rw[Y.T a Zo c,TZ a Zo,P.T a Zo c,T5.T a f]⟩
 have g:=n3 (t:Int)
 generalize (t:Int)%18446744073709551616=z at g
 refine k4 (ba O) ⟨?_⟩
 refine cU (λB h n=>B.g 0=some (.ptr bz 0)/\B.g 3=some (.ptr aR 0)/\B.g 4=some (.int .u64 ((t:Int)%18446744073709551616))/\(∃w:Int,B.g 5=some (.Z w)/\0<=w)/\h=C/\n=U1) (λH s=> ?_) ?_
 ·cases US:ty.s with
  |true=>
   have UA:ah .sub (.Z ty.w) (.Z 1)=some (.Z (ty.w-1)):=g4 Zo Zo
   refine bG @UA ⟨?_⟩
   exact s _ _ _ ⟨aK,aK,aK,⟨ty.w-1,aK,Zo⟩,rfl,rfl⟩
  |false=>
   refine bl ⟨?_⟩
   exact s _ _ _ ⟨aK,aK,aK,⟨ty.w,aK,Zo⟩,rfl,rfl⟩
 rintro B U7 UK ⟨t0,t3,t4,⟨w,t5,UJ⟩,rfl,rfl⟩
 show Q _ _
 have g:=n3 (t:Int)
 generalize (t:Int)%18446744073709551616=z at g t4
 obtain⟨T2,U4⟩:=GO 1 UJ
 have U5:=yb (T2%18446744073709551616) 1
 obtain⟨UM,U6⟩:=GL z ((T2%18446744073709551616-1)%18446744073709551616)
 refine k4 @t5 ⟨?_⟩
 refine cU (λB h n=>B.g 0=some (.ptr bz 0)/\B.g 3=some (.ptr aR 0)/\(∃z:Int,B.g 4=some (.int .u64 z)/\0<=z/\z<18446744073709551616)/\B.g 5=some (.Z w)/\h=U7/\n=UK) (λH s=> ?_) ?_
 ·by_cases m:w<8
  ·have d:decide (w<8)=true:=by simp[m]
   refine dw @d @t4 @t5 @U4 @U5 @U6 ⟨?_⟩
   exact s _ _ _ ⟨an t0,an t3,⟨_,aK,n3 UM⟩,an t5,rfl,rfl⟩
  ·have d:decide (w<8)=false:=by simp[m]
   refine bG @d ⟨?_⟩
   exact s _ _ _ ⟨an t0,an t3,⟨z,an t4,g⟩,an t5,rfl,rfl⟩
 clear t0 t3 t4 t5 g U6
 rintro B U8 U2 ⟨t0,t3,⟨z,t4,g⟩,t5,rfl,rfl⟩
 show Q _ _
 have UL:=yb ((T2%18446744073709551616-1)%18446744073709551616) z
 have U0:∀E,Go.S.J X E aR=zy [.bool ty.b, .bool ty.s, .Z ty.w] 3->br X E 3 (.ptr aR 0)=some (.agg [.bool ty.b, .bool ty.s, .Z ty.w]):=λE e=>by rw[hp,ba e,ba e,ba e];rfl
 by_cases m:8<w
 ·have d:decide (8<w)=true:=by simp[m]
  refine cz @t5 @t0 @d ⟨?_⟩
  refine(eO p T6 (j:=U2) (n:=3) Zo Zo Zo).Zm ?_
  rintro UW U9 U3 ⟨T1,rfl,UR,T7,x⟩
  have UP:=x.le
  have v:=U0 U9 (by rw[x.T _ Zo Zx];exact O)
  by_cases T4:(T1:Int)=0
  ·have G:decide ((T1:Int)=0)=true:=by simp[T4]
   refine bs @d @G @t5 @t4 @t3 @U4 (Za @U5 (Za @UL @v)) ⟨?_⟩
   refine⟨ty,_,U3,rfl,by rw[bb Zo];rfl,n3 _,Zo,Zo,T7.T (aY Zo Zo),Zo,λa f c=> ?_⟩
   rw[aY Zo Zo,x.T a Zo c,Z.T a f c]
  ·have G:decide ((T1:Int)=0)=false:=by simp only[Zb];exact T4
   refine dw @d @G @t5 @t4 @t3 @v ⟨?_⟩
   refine⟨ty,z,U3,rfl,by rw[bb Zo];rfl,g,Zo,Zo,T7.T (aY Zo Zo),Zo,λa f c=> ?_⟩
   rw[aY Zo Zo,x.T a Zo c,Z.T a f c]
 ·have d:decide (8<w)=false:=by simp[m]
  have v:=U0 U8 O
  refine de @t5 @d @t4 @t3 @v ⟨?_⟩
  refine⟨ty,z,U2,rfl,by rw[bb Zo];rfl,g,Zo,Zo,T6.T (aY Zo Zo),Zo,λa f c=> ?_⟩
  rw[aY Zo Zo,Z.T a f c]
end
structure jd(d:bx):Prop where
 nm:d.name∈gu
 on:d.on=[]\/d.on∈gu
def tw(ds:List bx):((ds.map bP).flatten).length=ds.length*8:=by
 have:=iz (rows:=ds.map bP) (ap:=8) (by intro r M;obtain⟨d,_,rfl⟩:=ZB.1 M;rfl)
 rw[this,Zn]
def tx(ds:List bx)(d:bx):((ds++[d]).map bP).flatten=(ds.map bP).flatten++bP d:=by simp
section
variable{X:bU}{h E cH ay aO:I ae}{j ar aL aR bz:Nat}
def rQ{C:aC}{h:I ae}{b n o:Nat}{c:I y}{st:h5}{k:List y}(e:J C h b=some (.cells c n st))(a:dJ c k)(d:k.length=o):br C h o (.ptr b 0)=some (.agg k):=by
 rw[un,e]
 simp only[tW a o 0 Zo,Yf,ZJ]
 rw[<-d,zi]
def K4(t:eb):y.same 30 (.agg [.bool t.b, .bool t.s, .Z t.w]) (.agg [.bool t.b, .bool t.s, .Z t.w])=true:=by
 simp[y.same,jx,o3]
def tp(g:dX X)(Ub:eK X h bz)(ab:bz<j)(V6:(u X).aP<=j){n:Nat}(Up:0<n)(VG:n<=3):
 aN X 17 [.ptr bz 0, .Z (n:Int)] h j (λN E ar=>∃(ds:List bx) (aJ:List Nat),cX X E N 8 (ds.map bP).flatten aJ/\(∀a∈aJ,j<=a/\a<ar)/\ds.length<=n/\(∀d∈ds,jd d)/\eK X E bz/\iq X [bz] h j E ar) zG:=by
 refine zB g (B8 X) ?_
 rw[B9]
 unfold vT
 refine(eO g Ub ab (n:=n) Up Zo).Zm ?_
 rintro N ay aL ⟨r,rfl,M,U9,U7⟩
 refine bl ⟨?_⟩
 refine cQ (λm B E aj=>∃(ax:y) (ds:List bx) (aJ:List Nat),B.g 0=some (.ptr bz 0)/\B.g 5=some ax/\B.g 6=some (.Z (m:Int))/\cX X E ax 8 (ds.map bP).flatten aJ/\(∀a∈aJ,j<=a/\a<aj)/\ds.length+m<=n/\(∀d∈ds,jd d)/\eK X E bz/\iq X [bz] h j E aj)
  r ⟨.az,[],[],aK,aK,aK, .inl (.inl ⟨rfl,rfl,rfl⟩),Zs,Zx,Zs,U9,U7⟩ ?_
 clear U7 U9
 rintro m B aO aR ⟨ax,ds,aJ,t0,t5,p,UL,t,V7,UE,UA,T0⟩
 have V8:=T0.le
 cases m with
 |zero=>
  have d:decide ((0:Int)<((0:Nat):Int))=false:=rfl
  refine cz @p @d @t5 ⟨?_⟩
  exact⟨ds,aJ,UL,t,Zo,UE,UA,T0⟩
 |succ m=>
  have d:decide ((0:Int)<((m+1:Nat):Int))=true:=zK
  have UX:ah .sub (.Z ((m+1:Nat):Int)) (.Z 1)=some (.Z (m:Int)):=by rw[g4 Zo Zo,show((m+1:Nat):Int) -1=(m:Int) by omega]
  refine cz @p @d @t0 ⟨?_⟩
  generalize T6:aS X aO (aR+10) _=P
  have UY:J X P (aR+10)=zy [.str [], .Z 0, .zF, .zF, .Z 0, .str [], .Z 0, .zF] 8:=by rw[<-T6,bb Zo];rfl
  have UO:∀a,a≠aR+10->J X P a=J X aO a:=λa b=>by rw[<-T6,aY Zo b]
  clear T6
  refine(kk g (UA.T (UO _ Zo)) (j:=aR+12) Zo Zo).Zm ?_
  rintro VL UU Uu ⟨s,rfl,UK,Uc,U8⟩
  have V9:=U8.le
  refine(sB g (j:=Uu) (h:=UU) Zo).Zm ?_
  rintro VM V1 Uv ⟨Us,Uq,U6⟩
  refine(eO g (Uc.T (U6.T _ Zo)) (j:=Uv) (n:=8) Zo Zo Zo).Zm ?_
  rintro VN UV Uw ⟨O,rfl,UH,Ud,T1⟩
  have VA:=T1.le
  have T9:=Us.T (E:=UV) (λa b=>by subst b;exact T1.T _ Uq Zx)
  obtain⟨ty,TY⟩:∃ty,oc[O]? =some ty:=⟨_,Ze UH⟩
  have VK:=wQ ty (Zg TY)
  have Un:=T9.cT O UH
  have UI:=T9.row Zd (i:=O) (r:=eS ty) (by rw[Zw,TY];rfl)
  have UM:eS ty=[.bool ty.b, .bool ty.s, .Z ty.w]:=rfl
  rw[UM]at UI
  refine cn @Un @UI ⟨?_⟩
  refine(eO g Ud (j:=Uw) (n:=50) Zo Zo Zo).Zm ?_
  rintro VO x Ux ⟨w,rfl,VH,Ue,T2⟩
  have VB:=T2.le
  have UJ:=(T9.T (E:=x) (λa b=>by subst b;exact T2.T _ Zo Zx)).row Zd (i:=O) (r:=eS ty) (by rw[Zw,TY];rfl)
  rw[UM]at UJ
  have UP:∀a,a<aR+12->a≠bz->J X x a=J X P a:=λa b f=>by
   have z:a∉[bz]:=by simpa using f
   rw[T2.T a Zo z,T1.T a Zo z,U6.T a Zo,U8.T a Zo z]
  have V4:J X x (aR+10)=zy [.str [], .Z 0, .zF, .zF, .Z 0, .str [], .Z 0, .zF] 8:=by rw[UP _ Zo Zo];exact UY
  refine bG @UJ ⟨?_⟩
  refine fi (K4 ty) ?_
  refine bl ⟨?_⟩
  generalize T7:aS X x (aR+10) _=U1
  have UZ:J X U1 (aR+10)=zy (bP ⟨s,w,ty,[],0,false⟩) 8:=by rw[<-T7,bb Zo];rfl
  have UQ:∀a,a≠aR+10->J X U1 a=J X x a:=λa b=>by rw[<-T7,aY Zo b]
  clear T7
  refine bG @t0 ⟨?_⟩
  refine(eO g (Ue.T (UQ _ Zo)) (j:=Ux) (n:=3) Zo Zo Zo).Zm ?_
  rintro VP U2 US ⟨U0,rfl,VI,UB,T3⟩
  have VC:=T3.le
  have U4:J X U2 (aR+10)=zy (bP ⟨s,w,ty,[],0,false⟩) 8:=by rw[T3.T _ Zo Zx];exact UZ
  have UN:∀a,a<aR->a≠bz->J X U2 a=J X aO a:=λa b f=>by
   rw[T3.T a Zo (by simpa using f),UQ a Zo,UP a Zo f,UO a Zo]
  have UC:∀a∈aJ,a≠bz:=λa b=>zu (t a b)
  refine ho ⟨?_⟩
  refine cU (λC E aj=>∃(c:I y) (d:bx),C.g 0=some (.ptr bz 0)/\C.g 5=some ax/\C.g 6=some (.Z ((m+1:Nat):Int))/\C.g 7=some (.ptr (aR+10) 0)/\jd d/\J X E (aR+10)=some (.cells c 8 .own)/\dJ c (bP d)/\eK X E bz/\US<=aj/\∀a,a<aR->a≠bz->J X E a=J X aO a) (λH UD=> ?_) ?_
  ·by_cases U5:(U0:Int)=1
   ·have Z:decide ((U0:Int)=1)=true:=by simp only[Zc];exact U5
    refine cn @Z @t0 ⟨?_⟩
    refine(kk g UB (j:=US) Zo Zo).Zm ?_
    rintro VQ V2 Uy ⟨on,rfl,Ur,Uf,T4⟩
    have VD:=T4.le
    refine bG @t0 ⟨?_⟩
    refine(eO g Uf (j:=Uy) (n:=2) Zo Zo Zo).Zm ?_
    rintro VR fy ch ⟨UT,rfl,VJ,Ug,T5⟩
    have VE:=T5.le
    have V5:J X fy (aR+10)=zy (bP ⟨s,w,ty,[],0,false⟩) 8:=by rw[T5.T _ Zo Zx,T4.T _ Zo Zx];exact U4
    refine bl ⟨?_⟩
    refine UD _ _ _ ⟨_,⟨s,w,ty,on,0,decide ((UT:Int)=1)⟩,an t0,an t5,an p,aK,⟨UK, .inr Ur⟩,bb Zo,((dl (bP ⟨s,w,ty,[],0,false⟩)).put (D:=5) (aE:=[.str on]) (by simp[bP])).put (D:=7) (aE:=[.bool (decide ((UT:Int)=1))]) (by simp[bP,i6]),Ug.T ?_,Zo,λa b f=> ?_⟩
    ·rw[aY Zo Zo,aY Zo Zo]
    ·rw[aY Zo Zo,aY Zo Zo,T5.T a Zo (by simpa using f),T4.T a Zo (by simpa using f),UN a b f]
   ·have Z:decide ((U0:Int)=1)=false:=by simp only[Zb];exact U5
    refine bG @Z ⟨?_⟩
    exact UD _ _ _ ⟨_,⟨s,w,ty,[],0,false⟩,an t0,an t5,an p,aK,⟨UK, .inl rfl⟩,U4,dl _,UB,Zo,UN⟩
  ·clear t0 t5 p
   rintro B U3 G ⟨c,ao,t0,t5,p,V0,Uo,nu,Uk,Uh,VF,UR⟩
   have Ul:bP ao=[.str ao.name, .Z ao.at_, .bool ao.ty.b, .bool ao.ty.s, .Z ao.ty.w, .str ao.on, .Z ao.di, .bool ao.no]:=rfl
   have UG:=rQ nu Uk rfl
   rw[Ul]at UG
   show Q _ _
   refine cn @t5 @V0 ⟨?_⟩
   refine cD UG ?_
   refine bl ⟨?_⟩
   generalize T8:aS X U3 G _=Y
   have Ua:J X Y G=zy (bP ao) 8:=by rw[<-T8,bb Zo];rfl
   have TZ:∀a,a<G->J X Y a=J X U3 a:=λa b=>by rw[<-T8,aY Zo Zo]
   clear T8
   have Um:=tw ds
   obtain⟨Uz,V3,UW,Ui,Ut,Uj,UF⟩:=(UL.T (E:=Y) (λa b=>by have:=t a b;rw[TZ a Zo,UR a Zo (UC a b)])).append (j:=G+1) (o:=1) Zd (hx Ua (dl _) rfl 1) rfl Zd rfl (by rw[Um];simp[bP];omega) Zo (λa b=>zu (t a b))
   refine eX Ui ?_
   refine cn @p @UX ⟨?_⟩
   refine⟨m,Zo,Uz,ds++[ao],UW,an t0,aK,aK,by rw[tx];exact .inl Ut,λa b=> ?_,Zx,λd v=> ?_,Uh.T ?_,Zo,λa b f=> ?_⟩
   ·rcases Uj a b with rfl|b
    ·omega
    ·have:=t a b;omega
   ·rcases Zr.1 v with v|v
    ·exact UE d v
    ·simp at v;subst v;exact Uo
   ·rw[UF _ Zo (λe=>UC _ e rfl),TZ _ Zo]
   ·have z:a≠bz:=by simpa using f
    rw[UF a Zo (λe=>zu (t a e)),TZ a Zo,UR a Zo z,T0.T a b f]
end
section
variable{X:bU}{h E cH ay aO:I ae}{j ar aL aR bz:Nat}
structure hc(X:bU)(h:I ae)(a n l r m:Nat):Prop where
 ex:∃aw b7 d,dg X h fH (dm a n) aw b7/\aw l=some d/\b7 l=r/\d.args.length+m<=3
def hc.one{a n l r m:Nat}{kind at_ o:Int}{name:aW}{no:Bool}{ty:eb}{c:I y}(b:(u X).aP<=a)(f:a<=l)(g:l<n)(ab:J X h l=some (.cells c 9 .own))(s:dJ c (c5 kind at_ name no ty o .az))
 (bf:1<=kind)(bo:kind<=26)(t:name=[]\/name∈gu)(v:0<=o)(w:o<18446744073709551616)(i:m<=3):hc X h a n l r m:=
 ⟨_,_,⟨kind,at_,name,no,ty,o,[], .az,[]⟩,dg.one (d:=⟨kind,at_,name,no,ty,o,[], .az,[]⟩) (jG b) ab s ⟨f,g⟩ rfl rfl rfl ⟨bf,bo,t,v,w,(λa p=>by cases p),Zs⟩ r,Zs,rfl,by simpa using i⟩
def hc.tree{a n l r m:Nat}(e:hc X h a n l r m)(M:1<=r):fo X h fH (dm a n) (.ptr l 0) r:=by
 obtain⟨aw,b7,d,b,c,f,_⟩:=e.ex
 exact⟨aw,b7,l,rfl,b,by rw[c];simp,Zo,Zo⟩
def pG{aG:dT->Prop}{F:Nat->Prop}{aw:Nat->Option dT}{b7:Nat->Nat}(e:dg X h aG F aw b7){a:Nat}(b:¬F a):aw a=none:=by
 cases l:aw a with
 |none=>rfl
 |some d=>exact absurd (e.cell a d l).1 b
def hc.rr{a n l b9 cM r m:Nat}{at_ z:Int}{ty:eb}{c:I y}(C:(u X).aP<=a)(G:a<=l)(T0:l<b9)(T1:b9<cM)(O:cM<n)(M:2<=r)(p:0<=z/\z<18446744073709551616)
 (x:J X h b9=zy (c5 1 0 [] false ty z .az) 9)(i:∃c,J X h cM=some (.cells c 1 .own)/\dJ c [.ptr b9 0])
 (w:J X h l=some (.cells c 9 .own))(g:dJ c (c5 21 at_ [] false cm 0 (.slice cM 0 1 1)))(T2:m<=2):hc X h a n l r m:=by
 have t:=dg.one (aG:=fH) (F:=dm b9 (b9+1)) (d:=⟨1,0,[],false,ty,z,[], .az,[]⟩) (jG Zo) x (dl _) ⟨Zp _,Zo⟩ rfl rfl rfl ⟨Zs,Zs, .inl rfl,p.1,p.2,(λa P=>by cases P),Zs⟩ 1
 obtain⟨s,i,Y⟩:=i
 have v:=t.add (E:=h) (bu:=dm a n) (b:=l) (r:=r) (d:=⟨21,at_,[],false,cm,0,[some b9], .slice cM 0 1 1,[cM]⟩) (λZ f=>by have:=f.1;have:=f.2;exact⟨Zo,Zo⟩) (jG C) ⟨G,Zo⟩ (λe=>zu e.1) w g
  (.inr ⟨cM,1,s, .own,rfl,rfl,rfl,i,Y,rfl,Zo⟩) (λZ f=>by simp at f;subst f;exact⟨⟨Zo,O⟩,λe=>zu e.2,Zo⟩) (λc g=>by simp at g;subst g;exact⟨Zs,Zo⟩) (λ_ _=>rfl) ⟨Zs,Zs, .inl rfl,Zs,Zs,Zs,Zs⟩
 exact⟨_,_,_,v,Zv rfl,Zv rfl,Zx⟩
def hc.FP{a n l b9 cM jI ch r m:Nat}{at_ z:Int}{ty:eb}{c:I y}(P:(u X).aP<=a)(Y:a<=l)(T1:l<b9)(T2:b9<cM)(T3:cM<jI)(T4:jI<ch)(T5:ch<n)(M:3<=r)(s:0<=z/\z<18446744073709551616)
 (G:J X h b9=zy (c5 1 0 [] false ty z .az) 9)(U:J X h jI=zy [.ptr b9 0] 1)(O:J X h ch=zy (c5 4 0 [] false cm 0 (.slice jI 0 1 1)) 9)
 (p:∃c,J X h cM=some (.cells c 1 .own)/\dJ c [.ptr ch 0])
 (C:J X h l=some (.cells c 9 .own))(g:dJ c (c5 21 at_ [] false cm 0 (.slice cM 0 1 1)))(T6:m<=2):hc X h a n l r m:=by
 have v:=dg.one (aG:=fH) (F:=dm b9 (b9+1)) (d:=⟨1,0,[],false,ty,z,[], .az,[]⟩) (jG Zo) G (dl _) ⟨Zp _,Zo⟩ rfl rfl rfl ⟨Zs,Zs, .inl rfl,s.1,s.2,(λa Z=>by cases Z),Zs⟩ 1
 have w:=v.add (E:=h) (bu:=λi=>dm b9 (b9+1) i\/dm jI (ch+1) i) (b:=ch) (r:=2) (d:=⟨4,0,[],false,cm,0,[some b9], .slice jI 0 1 1,[jI]⟩) (λi f=> .inl f) (λi f=>by rcases f with f|f<;>(have:=f.1;omega)) (.inr ⟨Zo,Zo⟩) (λe=>zu e.2) O (dl _)
  (.inr ⟨jI,1,_, .own,rfl,rfl,rfl,U,dl _,rfl,Zo⟩) (λi f=>by simp at f;subst f;exact⟨.inr ⟨Zp _,Zo⟩,λe=>zu e.2,Zo⟩) (λc g=>by simp at g;subst g;exact⟨Zs,Zo⟩) (λ_ _=>rfl) ⟨Zs,Zs, .inl rfl,Zs,Zs,Zs,Zs⟩
 obtain⟨t,p,T0⟩:=p
 have x:=w.add (E:=h) (bu:=dm a n) (b:=l) (r:=r) (d:=⟨21,at_,[],false,cm,0,[some ch], .slice cM 0 1 1,[cM]⟩) (λi f=>by rcases f with f|f<;>(have:=f.1;have:=f.2;exact⟨Zo,Zo⟩)) (jG P) ⟨Y,Zo⟩ (λe=>by rcases e with e|e<;>(have:=e.1;omega)) C g
  (.inr ⟨cM,1,t, .own,rfl,rfl,rfl,p,T0,rfl,Zo⟩) (λi f=>by simp at f;subst f;exact⟨⟨Zo,Zo⟩,λe=>by rcases e with e|e<;>(have:=e.1;have:=e.2;omega),Zo⟩) (λc g=>by simp at g;subst g;exact⟨Zs,Zx⟩) (λ_ _=>rfl) ⟨Zs,Zs, .inl rfl,Zs,Zs,Zs,Zs⟩
 exact⟨_,_,_,x,Zv rfl,Zv rfl,Zx⟩
end
section
variable{X:bU}{h E cH ay aO:I ae}{j ar aL aR bz:Nat}
set_option maxRecDepth 100000 in
def FN(C:dX X):∀(t:Nat),t<=100->∀(h:I ae) (j:Nat),eK X h bz->bz<j->(u X).aP<=j->
 aN X 19 [.ptr bz 0, .Z (t:Int)] h j (λN E ar=>fo X E fH (dm j ar) N (t+1)/\eK X E bz/\iq X [bz] h j E ar) zG:=by
 intro t
 induction t using Nat.strongRecOn with
 |_ t V=>
 intro WP h j V2 ab T6
 refine zB C (Cc X) ?_
 rw[Cd]
 unfold vV
 obtain⟨c,ax,m,i,U4,UO,VH,VI,WL,WM,WN⟩:=id V2.at_
 by_cases WR:t<=1\/m<=i
 ·by_cases WO:t<=1
  all_goals
   first
   |(
     have x:decide ((t:Int)<=1)=true:=zK
     refine bG @x ⟨?_⟩)
   |(
     have x:decide ((t:Int)<=1)=false:=zJ
     have O:decide ((m:Int)<=(i:Int))=true:=zK
     refine dw @x (ba U4) @VH @UO @VI @O ⟨?_⟩)
   refine(eO C V2 (j:=j+14) (n:=2) Zo Zo Zo).Zm ?_
   rintro WI ay aL ⟨r,rfl,M,Uo,UR⟩
   have W3:=UR.le
   by_cases VT:(r:Int)=0
   ·have G:decide ((r:Int)=0)=true:=by simp only[Zc];exact VT
    refine bG @G ⟨?_⟩
    refine(kk C Uo (j:=aL) Zo Zo).Zm ?_
    rintro Vb aO aR ⟨s,rfl,U5,Ue,UG⟩
    have W4:=UG.le
    refine bl ⟨?_⟩
    refine(vi C (j:=aR) Zo s).Zm ?_
    rintro Wh UK Wd ⟨rfl,TY,W5,Ud⟩
    exact⟨(fo.leaf T6 TY Zo W5 Zd Zd (.inr U5) Zd Zd).lift (λ_ e=>e) (jG T6) Zo,Ue.T (Ud.T _ Zo),Zo,λf g p=>by rw[Ud.T f Zo,UG.T f Zo p,UR.T f Zo p]⟩
   ·have G:decide ((r:Int)=0)=false:=by simp only[Zb];exact VT
    refine bG @G ⟨?_⟩
    refine(us C Uo (j:=aL) Zo Zo).Zm ?_
    rintro Vb aO aR ⟨ty,z,b9,rfl,Vi,TZ,Uw,UY,Ue,UG⟩
    exact⟨(fo.leaf T6 Vi Zo UY Zd Zd (.inl rfl) TZ.1 TZ.2).lift (λ_ e=>e) (jG T6) Zo,Ue,Zo,λf g p=>by rw[UG.T f Zo p,UR.T f Zo p]⟩
 ·have x:decide ((t:Int)<=1)=false:=zJ
  have O:decide ((m:Int)<=(i:Int))=false:=zJ
  refine dw @x (ba U4) @VH @UO @VI @O ⟨?_⟩
  refine(eO C V2 (j:=j+14) (n:=26) Zo Zo Zo).Zm ?_
  rintro WI ay aL ⟨r,rfl,M,Uo,UR⟩
  have W3:=UR.le
  have UM:ah .add (.Z 1) (.Z (r:Int))=some (.Z (1+(r:Int))):=cx Zo Zo
  have VQ:1<=1+(r:Int):=Zo
  have VR:1+(r:Int)<=26:=Zo
  generalize 1+(r:Int)=o at UM VQ VR
  refine bG @UM ⟨?_⟩
  refine(eO C Uo (j:=aL) (n:=100) Zo Zo Zo).Zm ?_
  rintro Vb aO l ⟨at_,rfl,WQ,Ue,UG⟩
  have W4:=UG.le
  refine ho ⟨?_⟩
  generalize V3:aS X aO l _=UK
  have TY:J X UK l=zy (c5 o at_ [] false cm 0 .az) 9:=by rw[<-V3,bb Zo];rfl
  have Ud:a1 X aO l UK (l+1):=by rw[<-V3];exact dG
  clear V3
  have T5:=Ue.T (Ud.T _ Zo)
  have T4:iq X [bz] h j UK (l+1):=⟨Zo,λf g p=>by rw[Ud.T f Zo,UG.T f Zo p,UR.T f Zo p]⟩
  refine cU (λU7 E aj=>∃(many:Nat),U7.g 0=some (.ptr bz 0)/\U7.g 1=some (.Z (t:Int))/\U7.g 6=some (.ptr l 0)/\U7.g 7=some (.Z (many:Int))/\l<aj/\hc X E j aj l (t+1) many/\eK X E bz/\iq X [bz] h j E aj) (λH T8=> ?_) ?_
  ·have UB:∀{VZ:Nat}{nm:aW}{no:Bool}{ty:eb}{z:Int}{c:I y}{E:I ae}{aj:Nat},VZ<=3->l<aj->(nm=[]\/nm∈gu)->0<=z->z<18446744073709551616->J X E l=some (.cells c 9 .own)->dJ c (c5 o at_ nm no ty z .az)->hc X E j aj l (t+1) VZ:=
    λW2 W0 W6 Uw UY W1 Vw=>hc.one T6 Zo W0 W1 Vw VQ VR W6 Uw UY W2
   have z0:(0:Int)<18446744073709551616:=by decide
   by_cases bf:o=1
   ·have x:decide (o=1)=true:=by simp only[Zc];exact bf
    refine bG @x ⟨?_⟩
    refine(us C T5 (j:=l+1) Zo Zo).Zm ?_
    rintro Uj U0 UI ⟨ty,z,b9,rfl,Uc,TZ,Uw,UY,T0,w⟩
    exact⟨(fo.leaf T6 Uc Zo UY Zd Zd (.inl rfl) TZ.1 TZ.2).lift (λ_ e=>e) (jG T6) Zo,T0,Zo,λf g p=>by rw[w.T f Zo p,T4.T f g p]⟩
   have x:decide (o=1)=false:=by simp only[Zb];exact bf
   by_cases bo:o=2
   ·have O:decide (o=2)=true:=by simp only[Zc];exact bo
    refine cn @x @O ⟨?_⟩
    refine(kk C T5 (j:=l+1) Zo Zo).Zm ?_
    rintro Uj U0 UI ⟨s,rfl,U5,T0,w⟩
    have UW:=w.le
    refine bl ⟨?_⟩
    refine(vi C (j:=UI) Zo s).Zm ?_
    rintro Ux Y T1 ⟨rfl,V0,V8,UP⟩
    exact⟨(fo.leaf T6 V0 Zo V8 Zd Zd (.inr U5) Zd Zd).lift (λ_ e=>e) (jG T6) Zo,T0.T (UP.T _ Zo),Zo,λf g p=>by rw[UP.T f Zo,w.T f Zo p,T4.T f g p]⟩
   have O:decide (o=2)=false:=by simp only[Zb];exact bo
   by_cases Ut:o=3\/o=4\/o=5
   ·have fin:hc X UK j (l+1) l (t+1) 1:=UB Zo Zo (.inl rfl) Zd z0 TY (dl _)
    rcases Ut with Ut|Ut|Ut
    ·have G:decide (o=3)=true:=zK
     refine cz @x @O @G ⟨?_⟩
     exact T8 _ _ _ ⟨1,aK,aK,aK,cA,Zo,fin,T5,T4⟩
    ·have G:decide (o=3)=false:=zJ
     have T3:decide (o=4)=true:=zK
     refine cP @x @O @G @T3 ⟨?_⟩
     exact T8 _ _ _ ⟨1,aK,aK,aK,cA,Zo,fin,T5,T4⟩
    ·have G:decide (o=3)=false:=zJ
     have T3:decide (o=4)=false:=zJ
     have T9:decide (o=5)=true:=zK
     refine de @x @O @G @T3 @T9 ⟨?_⟩
     exact T8 _ _ _ ⟨1,aK,aK,aK,cA,Zo,fin,T5,T4⟩
   have G:decide (o=3)=false:=zJ
   have T3:decide (o=4)=false:=zJ
   have T9:decide (o=5)=false:=zJ
   by_cases UH:o=6
   ·have U2:decide (o=6)=true:=by simp only[Zc];exact UH
    refine dw @x @O @G @T3 @T9 @U2 ⟨?_⟩
    refine(kk C T5 (j:=l+1) Zo Zo).Zm ?_
    rintro Uj U0 UI ⟨s,rfl,U5,T0,w⟩
    have UW:=w.le
    refine bl ⟨?_⟩
    refine(eO C T0 (j:=UI) (n:=2) Zo Zo Zo).Zm ?_
    rintro Ux Y T1 ⟨UC,rfl,VU,UA,P⟩
    have V7:=P.le
    have V0:J X Y l=zy (c5 o at_ [] false cm 0 .az) 9:=by rw[P.T _ Zo Zx,w.T _ Zo Zx];exact TY
    refine bl ⟨?_⟩
    refine T8 _ _ _ ⟨1,aK,aK,aK,cA,Zo,UB (nm:=s) (no:=decide ((UC:Int)=1)) Zo Zo (.inr U5) Zd z0 (bb Zo) (((dl (c5 o at_ [] false cm 0 .az)).put (D:=2) (aE:=[.str s]) (by simp[c5])).put (D:=3) (aE:=[.bool (decide ((UC:Int)=1))]) (by simp[c5,i6])),UA.T ?_,Zo,λf g p=> ?_⟩
    ·rw[aY Zo Zo,aY Zo Zo]
    ·rw[aY Zo Zo,aY Zo Zo,P.T f Zo p,w.T f Zo p,T4.T f g p]
   have U2:decide (o=6)=false:=by simp only[Zb];exact UH
   by_cases gK:o=19\/o=20
   ·rcases gK with gK|gK
    all_goals
     first
     |(
       have U1:decide (o=19)=true:=zK
       refine bs @x @O @G @T3 @T9 @U2 @U1 ⟨?_⟩)
     |(
       have U1:decide (o=19)=false:=zJ
       have U8:decide (o=20)=true:=zK
       refine bs @x @O @G @T3 @T9 @U2 (Za @U1 @U8) ⟨?_⟩)
     refine(eO C T5 (j:=l+1) (n:=64) Zo Zo Zo).Zm ?_
     rintro Ux Y T1 ⟨UC,rfl,VU,UA,P⟩
     have V7:=P.le
     have V0:J X Y l=zy (c5 o at_ [] false cm 0 .az) 9:=by rw[P.T _ Zo Zx];exact TY
     have TZ:=n3 (UC:Int)
     refine bl ⟨?_⟩
     refine T8 _ _ _ ⟨1,aK,aK,aK,cA,Zo,UB (z:=(UC:Int)%18446744073709551616) Zo Zo (.inl rfl) TZ.1 TZ.2 (bb Zo) ((dl (c5 o at_ [] false cm 0 .az)).put (D:=7) (aE:=[.int .u64 ((UC:Int)%18446744073709551616)]) (by simp[c5])),UA.T (aY Zo Zo),Zo,λf g p=> ?_⟩
     rw[aY Zo Zo,P.T f Zo p,T4.T f g p]
   have U1:decide (o=19)=false:=zJ
   have U8:decide (o=20)=false:=zJ
   by_cases VY:o=21
   ·have UF:decide (o=21)=true:=zK
    refine bs @x @O @G @T3 @T9 @U2 (Za @U1 (Za @U8 @UF)) ⟨?_⟩
    refine(us C T5 (j:=l+1) Zo Zo).Zm ?_
    rintro Uj U0 cM ⟨ty,z,b9,rfl,Uc,TZ,Uw,UY,T0,w⟩
    have UW:=w.le
    have Vj:J X U0 l=zy (c5 o at_ [] false cm 0 .az) 9:=by rw[w.T _ Zo Zx];exact TY
    refine bG @Vj ⟨?_⟩
    generalize Up:aS X _ l _=Y
    have UN:∃c,J X Y l=some (.cells c 9 .own)/\dJ c (c5 o at_ [] false cm 0 (.slice cM 0 1 1)):=⟨_,by rw[<-Up,bb Zo];rfl,(dl (c5 o at_ [] false cm 0 .az)).put (D:=8) (aE:=[.slice cM 0 1 1]) (by simp[c5])⟩
    have Un:J X Y cM=zy [.ptr b9 0] 1:=by rw[<-Up,aY Zo Zo,bb Zo]
    have VB:∀f,f≠l->f<cM->J X Y f=J X U0 f:=λf g WX=>by rw[<-Up,aY Zo g,aY Zo Zo]
    clear Up
    refine bl ⟨?_⟩
    refine(eO C (T0.T (VB _ Zo Zo)) (j:=cM+1) (n:=2) Zo Zo Zo).Zm ?_
    rintro Vc T2 U6 ⟨VD,rfl,WW,UU,U3⟩
    have VS:=U3.le
    have UH:∀f,f<=cM->f≠bz->J X T2 f=J X Y f:=λf g p=>U3.T f Zo (by simpa using p)
    obtain⟨Ua,UN,Ug⟩:=UN
    rw[<-UH l Zo Zo]at UN
    rw[<-UH cM Zo Zo]at Un
    have VG:J X T2 b9=zy (c5 1 0 [] false ty z .az) 9:=by rw[UH b9 Zo Zo,VB b9 Zo Zo];exact Uc
    have VK:∀f,f<j->f∉[bz]->J X T2 f=J X h f:=λf g p=>by rw[UH f Zo (by simpa using p),VB f Zo Zo,w.T f Zo p,T4.T f g p]
    refine ho ⟨?_⟩
    refine cU (λU7 E aj=>U7.g 0=some (.ptr bz 0)/\U7.g 1=some (.Z (t:Int))/\U7.g 6=some (.ptr l 0)/\l<aj/\hc X E j aj l (t+1) 1/\eK X E bz/\iq X [bz] h j E aj) (λWY VP=> ?_) ?_
    ·by_cases U4:(VD:Int)=1
     ·have UM:decide ((VD:Int)=1)=true:=by simp only[Zc];exact U4
      have Ui:W X T2 (.ptr l 8)=some (.slice cM 0 1 1):=by rw[ba UN,Ug 8];rfl
      have WD:W X T2 (.ptr cM 0)=some (.ptr b9 0):=by rw[ba Un];rfl
      have Ur:bK 1 (.slice cM 0 1 1) (.Z 0)=some (.ptr cM 0):=mu (i:=0) .i64 Zd
      refine cP @UM @Ui @WD @Ur ⟨?_⟩
      refine(yZ C (j:=U6+13) Zo 4 b9).Zm ?_
      rintro Wi UE We ⟨rfl,Vm,Vl,WU,UQ⟩
      have WC:W X UE (.ptr l 8)=some (.slice cM 0 1 1):=by rw[UQ.cZ _ _ Zo];exact Ui
      refine cn @Ur @WC ⟨?_⟩
      refine fi (by simp[y.same]) ?_
      have WK:J X UE cM=zy [.ptr b9 0] 1:=by rw[UQ.T _ Zo];exact Un
      refine bl ⟨?_⟩
      refine VP _ _ _ ⟨aK,aK,aK,Zo,hc.FP (ty:=ty) (b9:=b9) (cM:=cM) (jI:=U6+13) (ch:=U6+13+1) (c:=Ua) T6 Zo Zo Zo Zo Zo Zo Zo TZ ?_ ?_ ?_ ⟨_,bb Zo,(dl [.ptr b9 0]).put (D:=0) (aE:=[.ptr (U6+13+1) 0]) Zs⟩ ?_ (by rw[<-VY];exact Ug) Zo,UU.T ?_,Zo,λf g p=> ?_⟩
      ·rw[aY Zo Zo,UQ.T _ Zo];exact VG
      ·rw[aY Zo Zo];exact Vm
      ·rw[aY Zo Zo];exact Vl
      ·rw[aY Zo Zo,UQ.T _ Zo];exact UN
      ·rw[aY Zo Zo,UQ.T _ Zo]
      ·rw[aY Zo Zo,UQ.T _ Zo,VK f g p]
     ·have UM:decide ((VD:Int)=1)=false:=by simp only[Zb];exact U4
      refine bG @UM ⟨?_⟩
      exact VP _ _ _ ⟨aK,aK,aK,Zo,hc.rr (b9:=b9) (cM:=cM) (c:=Ua) T6 Zo Zo Zo Zo Zo TZ VG ⟨_,Un,dl _⟩ UN (by rw[<-VY];exact Ug) Zo,UU,Zo,VK⟩
    ·rintro B Uk Wf ⟨t0,UJ,UD,Uh,U9,Vt,Vq⟩
     refine bl ⟨?_⟩
     exact T8 _ _ _ ⟨1,an t0,an UJ,an UD,cA,Uh,U9,Vt,Vq⟩
   have UF:decide (o=21)=false:=zJ
   by_cases WZ:o=23
   ·have UL:decide (o=23)=true:=zK
    refine bs @x @O @G @T3 @T9 @U2 (Za @U1 (Za @U8 (Za @UF @UL))) ⟨?_⟩
    exact T8 _ _ _ ⟨3,aK,aK,aK,cA,Zo,UB Zo Zo (.inl rfl) Zd z0 TY (dl _),T5,T4⟩
   have UL:decide (o=23)=false:=zJ
   by_cases Wa:o=24
   ·have Ub:decide (o=24)=true:=zK
    refine bs @x @O @G @T3 @T9 @U2 (Za @U1 (Za @U8 (Za @UF (Za @UL @Ub)))) ⟨?_⟩
    refine(kk C T5 (j:=l+1) Zo Zo).Zm ?_
    rintro Uj U0 UI ⟨s,rfl,U5,T0,w⟩
    have UW:=w.le
    have Uc:J X U0 l=zy (c5 o at_ [] false cm 0 .az) 9:=by rw[w.T _ Zo Zx];exact TY
    refine bl ⟨?_⟩
    refine T8 _ _ _ ⟨2,aK,aK,aK,cA,Zo,UB (nm:=s) Zo Zo (.inr U5) Zd z0 (bb Zo) ((dl (c5 o at_ [] false cm 0 .az)).put (D:=2) (aE:=[.str s]) (by simp[c5])),T0.T (aY Zo Zo),Zo,λf g p=> ?_⟩
    rw[aY Zo Zo,w.T f Zo p,T4.T f g p]
   have Ub:decide (o=24)=false:=zJ
   by_cases Wb:o=25
   ·have Um:decide (o=25)=true:=zK
    refine bs @x @O @G @T3 @T9 @U2 (Za @U1 (Za @U8 (Za @UF (Za @UL (Za @Ub @Um))))) ⟨?_⟩
    refine(eO C T5 (j:=l+1) (n:=4) Zo Zo Zo).Zm ?_
    rintro Ux Y T1 ⟨UC,rfl,VU,UA,P⟩
    have V7:=P.le
    refine bl ⟨?_⟩
    refine(kk C UA (j:=T1) Zo Zo).Zm ?_
    rintro Uj U0 UI ⟨s,rfl,U5,T0,w⟩
    have UW:=w.le
    have Uc:J X U0 l=zy (c5 o at_ [] false cm 0 .az) 9:=by rw[w.T _ Zo Zx,P.T _ Zo Zx];exact TY
    refine bl ⟨?_⟩
    refine T8 _ _ _ ⟨UC,aK,aK,aK,aK,Zo,UB (nm:=s) Zo Zo (.inr U5) Zd z0 (bb Zo) ((dl (c5 o at_ [] false cm 0 .az)).put (D:=2) (aE:=[.str s]) (by simp[c5])),T0.T (aY Zo Zo),Zo,λf g p=> ?_⟩
    rw[aY Zo Zo,w.T f Zo p,P.T f Zo p,T4.T f g p]
   have Um:decide (o=25)=false:=zJ
   by_cases Wc:o=26
   ·have Uz:decide (o=26)=true:=zK
    refine bs @x @O @G @T3 @T9 @U2 (Za @U1 (Za @U8 (Za @UF (Za @UL (Za @Ub (Za @Um @Uz)))))) ⟨?_⟩
    refine(sB C (j:=l+1+10) (h:=UK) Zo).Zm ?_
    rintro Ux Y T1 ⟨W7,V8,UP⟩
    refine(eO C (T5.T (UP.T _ Zo)) (j:=T1) (n:=8) Zo Zo Zo).Zm ?_
    rintro Vc T2 U6 ⟨VC,rfl,VA,UU,U3⟩
    have VS:=U3.le
    have VV:=W7.T (E:=T2) (λf g=>by subst g;exact U3.T _ V8 Zx)
    obtain⟨ty,WA⟩:∃ty,oc[VC]? =some ty:=⟨_,Ze VA⟩
    have Ur:=VV.cT VC VA
    have VW:=VV.row Zd (i:=VC) (r:=eS ty) (by rw[Zw,WA];rfl)
    have W9:eS ty=[.bool ty.b, .bool ty.s, .Z ty.w]:=rfl
    rw[W9]at VW
    have WJ:J X T2 l=zy (c5 o at_ [] false cm 0 .az) 9:=by rw[U3.T _ Zo Zx,UP.T _ Zo];exact TY
    refine cn @Ur @VW ⟨?_⟩
    refine T8 _ _ _ ⟨1,aK,aK,aK,cA,Zo,UB (ty:=ty) Zo Zo (.inl rfl) Zd z0 (bb Zo) ((dl (c5 o at_ [] false cm 0 .az)).put (D:=4) (aE:=[.bool ty.b, .bool ty.s, .Z ty.w]) (by simp[c5])),UU.T (aY Zo Zo),Zo,λf g p=> ?_⟩
    rw[aY Zo Zo,U3.T f Zo p,UP.T f Zo,T4.T f g p]
   have Uz:decide (o=26)=false:=zJ
   refine bs @x @O @G @T3 @T9 @U2 (Za @U1 (Za @U8 (Za @UF (Za @UL (Za @Ub (Za @Um @Uz)))))) ⟨?_⟩
   exact T8 _ _ _ ⟨2,aK,aK,aK,cA,Zo,UB Zo Zo (.inl rfl) Zd z0 TY (dl _),T5,T4⟩
  ·rintro B U0 UI ⟨many,t0,UJ,UD,UZ,Uh,U9,T0,w⟩
   have UW:=w.le
   refine bl ⟨?_⟩
   refine cQ (λUX B E aj=>∃(H:Nat),B.g 0=some (.ptr bz 0)/\B.g 1=some (.Z (t:Int))/\B.g 6=some (.ptr l 0)/\B.g 7=some (.Z (many:Int))/\B.g 8=some (.Z (H:Int))/\H+UX=many/\l<aj/\hc X E j aj l (t+1) UX/\eK X E bz/\iq X [bz] h j E aj)
    many ⟨0,an t0,an UJ,an UD,an UZ,cA,Zo,Uh,U9,T0,w⟩ ?_
   have WT:many<=3:=by obtain⟨aw,b7,d,_,_,_,e⟩:=U9.ex;omega
   clear t0 UJ UD UZ Uh U9 T0 w UW
   rintro UX B Y T1 ⟨H,t0,UJ,UD,UZ,VE,T8,Uh,U9,UA,P⟩
   have V7:=P.le
   cases UX with
   |zero=>
    have d:=zv H many
    refine cP @VE @UZ @d @UD ⟨?_⟩
    exact⟨U9.tree Zo,UA,P⟩
   |succ UX=>
    have d:=zw H many
    have Vg:=zz H
    have Vh:ah .sub (.Z (t:Int)) (.Z 1)=some (.Z ((t-1:Nat):Int)):=by rw[g4 Zo Zo,show(t:Int) -1=((t-1:Nat):Int) by omega]
    obtain⟨aw,b7,Z,US,T7,W8,WS⟩:=U9.ex
    have Ui:=US.oO T7 (i:=8) (v:=Z.ax) rfl
    have Vo:=US.arg l Z T7
    have Uf:=US.bc l Z T7
    refine bs @VE @UZ @d @UD @Ui @t0 (Za @UJ @Vh) ⟨?_⟩
    refine(V (t-1) Zo Zo Y (T1+14) UA Zo Zo).Zm ?_
    rintro Vc T2 U6 ⟨⟨Vd,WH,Ul,rfl,VJ,VM,WV,VA⟩,UU,U3⟩
    have VS:=U3.le
    have V6:∀f,f<T1->f≠bz->J X T2 f=J X Y f:=λf g p=>U3.T f Zo (by simpa using p)
    have WB:W X T2 (.ptr l 8)=some Z.ax:=zF (V6 l Zo Zo) Ui
    refine bG @WB ⟨?_⟩
    refine fi (cX.same Vo).2.2 ?_
    generalize V4:aS X T2 (T1+9) _=UE
    have Vk:J X UE (T1+9)=zy [.ptr Ul 0] 1:=by rw[<-V4,bb Zo]
    have Uu:∀f,f≠T1+9->J X UE f=J X T2 f:=λf g=>by rw[<-V4,aY Zo g]
    clear V4
    have V1:dg X UE fH (dm j T1) aw b7:=US.T λf g=>by have:=g.1;have:=g.2;rw[Uu f Zo,V6 f Zo Zo]
    have Vr:dg X UE fH (dm (T1+14) U6) Vd WH:=VJ.T λf g=>by have:=g.1;rw[Uu f Zo]
    have Uq:=V1.union Vr (λf U4 UO=>by have:=U4.2;have:=UO.1;omega)
    have Vp:=V1.arg l Z T7
    have Ug:=V1.cell l Z T7
    obtain⟨Va,Uk,VF,Vv,VX,VL,Us⟩:=Vp.append (j:=U6) (o:=1) Zd (hx Vk (dl _) rfl 1) rfl Zd rfl Zx Zo (λf g=>zu (Uf f g).1.2)
    refine eX Vv ?_
    obtain⟨WE,WF,Wg⟩:=dc.one VX
    obtain⟨Ua,Vx,Vy⟩:=Ug.2
    have VN:l∉Z.aJ:=λe=>by have:=(Uf l e).2;rw[T7]at this;cases this
    have WG:J X Uk l=some (.cells Ua 9 .own):=by rw[Us l Zo VN];exact Vx
    refine bl ⟨?_⟩
    refine cD (kt WG Zo Zo WE WF) ?_
    generalize V5:aS X Uk l _=Uy
    have Vn:J X Uy l=some (.cells (Ua.set 8 (some Va)) 9 .own):=by rw[<-V5,bb Zo]
    have Uv:∀f,f≠l->J X Uy f=J X Uk f:=λf g=>by rw[<-V5,aY Zo g]
    clear V5
    refine cn @VE @Vg ⟨?_⟩
    have Vs:aw Ul=none:=pG US λe=>by obtain⟨Vf,Vz⟩:=Yb.1 VM;have:=(VJ.cell Ul Vf Vz).1.1;have:=e.2;omega
    have VO:l∉VF:=λe=>by
     rcases VL l e with e|e
     ·omega
     ·exact VN e
    refine⟨UX,Zo,H+1,an t0,an UJ,an UD,an UZ,aK,Zo,Zo,⟨_,_,{Z with args:=Z.args++[some Ul],ax:=Va,aJ:=VF},Uq.set (E:=Uy) (b:=l) (d:=Z) (bu:=dm j (U6+1)) (by simp only[T7]) (λf g=>by rcases g with g|g<;>(have:=g.1;have:=g.2;exact⟨Zo,Zo⟩)) (jG T6) ⟨_,Vn, ?_⟩ (.inl ?_) (λf g=> ?_) (λVe e1=> ?_) (λf g U4 UO=> ?_) ?_,Zv rfl, ?_, ?_⟩,UU.T ?_,Zo,λf g p=> ?_⟩
    ·intro L
     rw[I.gn]
     by_cases V9:L=8
     ·subst V9;rw[Zv rfl];rfl
     ·rw[Zj (λl=>V9 l.symm),Vy L]
      show Z.cells[L]? =(c5 _ _ _ _ _ _ _)[L]?
      unfold dT.cells c5
      match L with
      |0=>rfl
      |1=>rfl
      |2=>rfl
      |3=>rfl
      |4=>rfl
      |5=>rfl
      |6=>rfl
      |7=>rfl
      |8=>exact absurd rfl V9
      |L+9=>rfl
    ·rw[YF]
     exact VX.T λf g=>Uv f (λe=>VO (e▸g))
    ·rcases VL f g with rfl|jr
     ·exact⟨⟨Zo,Zo⟩,pG Uq (λe=>by rcases e with e|e<;>(have:=e.2;omega)),Zo, .inr (λe=>by rcases e with e|e<;>(have:=e.2;omega))⟩
     ·have:=Uf f jr
      exact⟨⟨this.1.1,zu this.1.2⟩,(Uq.bc l Z (by simp only[T7]) f jr).2,λe=>VO (e▸g), .inl jr⟩
    ·rcases Zr.1 e1 with e1|e1
     ·exact Uq.f0 l Z Ve (by simp only[T7]) e1
     ·simp at e1
      subst e1
      simp only[Vs,T7,Z4,Ya,ZP,ZR,ZM]
      exact⟨VM,Zo⟩
    ·rw[Uv f U4,Us f (λe=>by rcases g with g|g<;>(have:=g.2;omega)) UO]
    ·have UT:=US.ok l Z T7
     exact⟨UT.bf,UT.bo,UT.nm,UT.aL,UT.aR,λa UV=>by
      rcases Zr.1 UV with UV|UV
      ·exact UT.full a UV
      ·simp at UV;subst UV;simp,Zx⟩
    ·simp only[T7,Ya,ZP];exact W8
    ·simp;omega
    ·rw[Uv _ Zo,Us _ Zo (λe=>zu (Uf _ e).1.1),Uu _ Zo]
    ·have Vu:f≠bz:=by simpa using p
     rw[Uv f Zo,Us f Zo (λe=>zu (Uf _ e).1.1),Uu f Zo,V6 f Zo Vu,P.T f g p]
end
end
end Go.Proofs.YtmipngjbcdamjaaGreatDoor

