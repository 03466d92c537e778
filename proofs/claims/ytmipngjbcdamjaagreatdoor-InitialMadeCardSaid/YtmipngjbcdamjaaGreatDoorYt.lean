/- Part of the proof of the last text; no conditions -/
import Derived.Test.YtmipngjbcdamjaaGreatDoorYs
import Derived.Shelf.LaysM
import Derived.Shelf.Strconv.Clone
set_option maxHeartbeats 8000000
set_option linter.all false
namespace Go.Proofs.YtmipngjbcdamjaaGreatDoor
open Go.S Go.a8
noncomputable section
def fs(k:List (Int×bx))(s:List aW×(Int×Int))(x:aW×Int):List aW×(Int×Int):=
 if s.2.1≠0 then s else match en k x.1 with
  |none=>(s.1,(23,x.2))
  |some o=>if o=1\/x.1∈s.1 then(s.1,(24,x.2))else(s.1++[x.1],(0,0))
def fR(k:List (Int×bx))(U:List Go.a8.Node)(o:Nat)(s:List aW×(Int×Int))(L:dO):List aW×(Int×Int):=
 if ((eN L).foldl (fs k) s).2.1≠0 then(eN L).foldl (fs k) s else(((eN L).foldl (fs k) s).1,ev (ef k U o) (dL L.right))
def im(ds:List aW)(x:Int×bx):Int×Int:=if x.1≠1/\x.2.name∉ds then(37,x.2.at_)else(0,0)
def gE(U:List Go.a8.Node)(o:Nat)(g:Go.a8.Node):Int×Int:=
 if (g.eqs.foldl (fR (bi g) U o) ([],(0,0))).2.1≠0 then(g.eqs.foldl (fR (bi g) U o) ([],(0,0))).2 else ev (im (g.eqs.foldl (fR (bi g) U o) ([],(0,0))).1) (bi g)
structure fb(s:(aW->Option Int)×(Int×Int))(t:List aW×(Int×Int)):Prop where
 f:s.2=t.2
 z:s.2.1=0->s.2=(0,0)/\∀w,0<=(s.1 w).getD 0/\(w∈t.1↔0<(s.1 w).getD 0)
def fb.left{g:Go.a8.Node}{s:(aW->Option Int)×(Int×Int)}{t:List aW×(Int×Int)}(e:fb s t)(x:aW×Int):fb (g7 (cV g) s x) (fs (bi g) t x):=by
 have i:=e.f
 by_cases d:s.2.1=0
 ·obtain⟨r,z⟩:=e.z d
  have G:t.2.1=0:=by rw[<-i];exact d
  have C:∀c a:Int,fe s.2 c a=(c,a):=λc a=>oD d c a
  have P:=z x.1
  have f:=ve g x.1
  unfold g7 fs oP
  rw[Zj Zo]
  cases O:cV g x.1 with
  |none=>
   rw[O]at f
   rw[<-f]
   simp only[YD,C]
   exact⟨rfl,λe=>absurd e (by show(23:Int)≠0;decide)⟩
  |some v=>
   rw[O]at f
   rw[<-f]
   simp only[ZJ,C]
   by_cases b:v.kind=1\/x.1∈t.1
   ·have m:v.kind=1\/1<(s.1 x.1).getD 0+1:=by
     rcases b with b|b
     ·exact .inl b
     ·have:=P.2.1 b;exact .inr Zo
    simp only[Zv b,Zv m]
    exact⟨rfl,λe=>absurd e (by show(24:Int)≠0;decide)⟩
   ·have m:¬(v.kind=1\/1<(s.1 x.1).getD 0+1):=by
     rintro(e|e)
     ·exact b (.inl e)
     ·exact b (.inr (P.2.2 Zo))
    simp only[Zj b,Zj m]
    refine⟨r,λ_=>⟨r,λw=> ?_⟩⟩
    simp only
    by_cases n:w=x.1
    ·subst n
     simp only[ZP,Y0,Zr,ZF]
     exact⟨Zo,λ_=>Zo,λ_=> .inr trivial⟩
    ·simp only[Zj n,Zr,ZF,n,or_false]
     exact z w
 ·have G:t.2.1≠0:=by rw[<-i];exact d
  have p:=yC (cV g) s x d
  have X:fs (bi g) t x=t:=by unfold fs;rw[Zv G]
  rw[X]
  exact⟨by rw[p];exact i,λe=>absurd (by rw[p]at e;exact e) d⟩
def fb.HD{g:Go.a8.Node}:∀(a:List (aW×Int)) {s:(aW->Option Int)×(Int×Int)}{t:List aW×(Int×Int)},fb s t->fb (a.foldl (g7 (cV g)) s) (a.foldl (fs (bi g)) t):=by
 intro a
 induction a with
 |nil=>intro s t e;exact e
 |cons x a V=>intro s t e;exact V (e.left x)
def fb.tC{g:Go.a8.Node}{U:List Go.a8.Node}{o:Nat}{s:(aW->Option Int)×(Int×Int)}{t:List aW×(Int×Int)}(e:fb s t)(L:dO):fb (e4 (cV g) U o s L) (fR (bi g) U o t L):=by
 have a:=e.HD (g:=g) (eN L)
 unfold e4 fR
 generalize (eN L).foldl (g7 (cV g)) s=m at a
 generalize (eN L).foldl (fs (bi g)) t=d at a
 by_cases b:m.2.1=0
 ·obtain⟨f,i⟩:=a.z b
  have c:¬d.2.1≠0:=by rw[<-a.f];omega
  rw[Zj c,f,JL]
  exact⟨rfl,λe=>⟨tM uQ _ e,i⟩⟩
 ·have c:d.2.1≠0:=by rw[<-a.f];exact b
  rw[Zv c,Ax _ _ _ _ _ b]
  exact⟨a.f,λe=>absurd e b⟩
def fb.eqns{g:Go.a8.Node}{U:List Go.a8.Node}{o:Nat}:∀(df:List dO) {s:(aW->Option Int)×(Int×Int)}{t:List aW×(Int×Int)},fb s t->fb (df.foldl (e4 (cV g) U o) s) (df.foldl (fR (bi g) U o) t):=by
 intro df
 induction df with
 |nil=>intro s t e;exact e
 |cons x a V=>intro s t e;exact V (e.tC x)
def Lp{ds:List aW}(x:Int×bx):(im ds x).1=0->im ds x=(0,0):=by
 unfold im
 split
 ·intro e;exact absurd e (by show(37:Int)≠0;decide)
 ·intro _;rfl
def FF(g:Go.a8.Node)(U:List Go.a8.Node)(o:Nat):(bi g).foldl (f8 (g.eqs.foldl (e4 (cV g) U o) (λ_=>none,(0,0))).1) (g.eqs.foldl (e4 (cV g) U o) (λ_=>none,(0,0))).2=gE U o g:=by
 have e:fb (g.eqs.foldl (e4 (cV g) U o) (λ_=>none,(0,0))) (g.eqs.foldl (fR (bi g) U o) ([],(0,0))):=fb.eqns g.eqs ⟨rfl,λ_=>⟨rfl,λw=>Zs⟩⟩
 unfold gE
 generalize g.eqs.foldl (e4 (cV g) U o) (λ_=>none,(0,0))=s at e
 generalize g.eqs.foldl (fR (bi g) U o) ([],(0,0))=t at e
 by_cases c:s.2.1=0
 ·obtain⟨i,m⟩:=e.z c
  have b:¬t.2.1≠0:=by rw[<-e.f];omega
  rw[Zj b,i]
  refine tR (λf x e=>sC _ _ _ e) (λx=> ?_) Lp _
  unfold f8 im
  have d:=m x.2.name
  by_cases a:x.1≠1/\x.2.name∉t.1
  ·have e1:x.1≠1/\(s.1 x.2.name).getD 0=0:=⟨a.1,zu (mt d.2.2 a.2)⟩
   rw[Zv a,Zv e1]
   exact oD rfl _ _
  ·have e1:¬(x.1≠1/\(s.1 x.2.name).getD 0=0):=λe=>a ⟨e.1,λn=>zu (d.2.1 n)⟩
   rw[Zj a,Zj e1]
 ·have b:t.2.1≠0:=by rw[<-e.f];exact c
  rw[Zv b,nt (λf x e=>sC _ f x e) _ _ c]
  exact e.f
def gl:List aW->List (Int×bx)->Int×Int
 |_,[]=>(0,0)
 |c9,x::k=>if x.2.name∈c9 then(24,x.2.at_)else gl (c9++[x.2.name]) k
def gw(k:List (Int×bx))(x:Int×bx):Int×Int:=if x.2.on≠[]/\en k x.2.on=none then(23,x.2.di)else(0,0)
def iY(U:List Go.a8.Node)(o:Nat)(g:Go.a8.Node):Int×Int:=
 if (((el U g.name).getD 0:Nat):Int)<(o:Int)then(24,g.at_)else if (gl [] (bi g)).1≠0 then gl [] (bi g)else if (ev (gw (bi g)) (bi g)).1≠0 then ev (gw (bi g)) (bi g)else gE U o g
def Fg:∀(k:List (Int×bx)) (F:aW->Option Int) (c9:List aW),(∀x∈k,0<x.1)->(∀w,w∈c9↔0<(F w).getD 0)->(k.foldl fL (F,(0,0))).2=gl c9 k:=by
 intro k
 induction k with
 |nil=>intro F c9 _ _;rfl
 |cons x k V=>
  intro F c9 b e
  rw[ZU,gl]
  by_cases a:x.2.name∈c9
  ·have l:(fL (F,(0,0)) x).2=(24,x.2.at_):=by
    unfold fL
    simp only[Zv ((e _).1 a)]
    exact oD rfl _ _
   rw[Zv a,rx (λs x e=>xy s x e) k _ (by rw[l];show(24:Int)≠0;decide),l]
  ·have l:fL (F,(0,0)) x=((λw=>if w=x.2.name then some x.1 else F w),(0,0)):=by
    unfold fL
    simp only[Zj (mt (e _).2 a)]
   rw[Zj a,l]
   refine V _ _ (λf d=>b f (Zi _ d)) λw=> ?_
   by_cases c:w=x.2.name
   ·have:=b x (Zl ..)
    simp[c,this]
   ·simp only[Zr,ZF,c,or_false,ZM]
    exact e w
def Fq(g:Go.a8.Node):∀x∈bi g,0<x.1:=by
 intro x a
 unfold bi at a
 rcases Zr.1 a with a|a
 ·obtain⟨d,_,rfl⟩:=ZB.1 a;show(0:Int)<1;decide
 ·rcases Zr.1 a with a|a
  ·obtain⟨d,_,rfl⟩:=ZB.1 a;show(0:Int)<2;decide
  ·obtain⟨d,_,rfl⟩:=ZB.1 a;show(0:Int)<3;decide
def yX{k:List (Int×bx)}(x:Int×bx):(gw k x).1=0->gw k x=(0,0):=by
 unfold gw
 split
 ·intro e;exact absurd e (by show(23:Int)≠0;decide)
 ·intro _;rfl
def Fj:∀(k:List (Int×bx)) (c9:List aW),(gl c9 k).1=0->gl c9 k=(0,0):=by
 intro k
 induction k with
 |nil=>intro c9 _;rfl
 |cons x k V=>
  intro c9
  rw[gl]
  split
  ·intro e;exact absurd e (by show(24:Int)≠0;decide)
  ·exact V _
def IM(g:Go.a8.Node):(bi g).foldl (g0 (cV g)) (0,0)=ev (gw (bi g)) (bi g):=by
 refine tR (λf x e=>tz _ f x e) (λx=> ?_) yX _
 unfold g0 gw
 by_cases e:x.2.on≠[]/\en (bi g) x.2.on=none
 ·rw[Zv e,Zv ⟨AW.2 e.2,e.1⟩]
  exact oD rfl _ _
 ·rw[Zj e,Zj λa=>e ⟨a.2,AW.1 a.1⟩]
def uB{g:Go.a8.Node}{U:List Go.a8.Node}{o:Nat}{F:aW->Option Int}{f:Int×Int}(e:f.1≠0):(bi g).foldl (f8 (g.eqs.foldl (e4 (cV g) U o) (F,f)).1) (g.eqs.foldl (e4 (cV g) U o) (F,f)).2=f:=by
 have a:(g.eqs.foldl (e4 (cV g) U o) (F,f)).2=f:=rx (λs x e=>Jp _ _ _ s x e) g.eqs (F,f) e
 rw[a]
 exact nt (λf x e=>sC _ f x e) _ _ e
def Ix(U:List Go.a8.Node)(o:Nat)(g:Go.a8.Node):hR U o g=iY U o g:=by
 unfold hR iY jE j3
 by_cases i:(el U g.name).getD 0<o
 ·have c:(((el U g.name).getD 0:Nat):Int)<(o:Int):=Zo
  rw[Zv c,Zv i,oD rfl]
  have b:((24,g.at_):Int×Int).1≠0:=by show(24:Int)≠0;decide
  rw[rx (λs x e=>xy s x e) (bi g) _ b,nt (λf x e=>tz _ f x e) (bi g) _ b]
  exact uB b
 ·have c:¬(((el U g.name).getD 0:Nat):Int)<(o:Int):=Zo
  rw[Zj c,Zj i,Fg (bi g) (λ_=>none) [] (Fq g) (λw=>Zs)]
  by_cases a:(gl [] (bi g)).1=0
  ·rw[Fj _ _ a,Zj Zs,IM]
   by_cases d:(ev (gw (bi g)) (bi g)).1=0
   ·rw[tM yX _ d,Zj Zs]
    exact FF g U o
   ·rw[Zv d]
    exact uB d
  ·rw[Zv a,nt (λf x e=>tz _ f x e) (bi g) _ a]
   exact uB a
def uz{k:List (Int×bx)}{w:aW}:w∈fP k↔∃x∈k,x.2.name=w:=by
 unfold fP
 rw[Iq]
 simp
def Ff:∀(k:List (Int×bx)) (c9:List aW) (i:Nat) (x:Int×bx),k[i]? =some x->(∀H d,H<i->k[H]? =some d->d.2.name∉c9/\∀z∈k.take H,z.2.name≠d.2.name)->
 (x.2.name∈c9\/∃z∈k.take i,z.2.name=x.2.name)->gl c9 k=(24,x.2.at_):=by
 intro k
 induction k with
 |nil=>intro c9 i x e;simp at e
 |cons a k V=>
  intro c9 i x g ab c
  rw[gl]
  cases i with
  |zero=>
   simp at g
   subst g
   rcases c with c|⟨z,b,_⟩
   ·rw[Zv c]
   ·simp at b
  |succ i=>
   rw[Zj (ab 0 a Zo rfl).1]
   refine V _ i x (by simpa using g) (λH d p n=> ?_) ?_
   ·have f:=ab (H+1) d Zo (by simpa using n)
    rw[ZO]at f
    refine⟨λe=> ?_,λz b=>f.2 z (Zi _ b)⟩
    rcases Zr.1 e with e|e
    ·exact f.1 e
    ·exact f.2 a (Zl ..) (ZF.1 e).symm
   ·rcases c with c|⟨z,b,m⟩
    ·exact .inl (Z2 _ c)
    ·rw[ZO]at b
     rcases Zz.1 b with rfl|b
     ·exact .inl (ZQ _ (ZF.2 m.symm))
     ·exact .inr ⟨z,b,m⟩
def Fi:∀(k:List (Int×bx)) (c9:List aW),(∀H b,k[H]? =some b->b.2.name∉c9/\∀z∈k.take H,z.2.name≠b.2.name)->gl c9 k=(0,0):=by
 intro k
 induction k with
 |nil=>intro c9 _;rfl
 |cons a k V=>
  intro c9 ab
  rw[gl,Zj (ab 0 a rfl).1]
  refine V _ λH b d=> ?_
  have c:=ab (H+1) b (by simpa using d)
  rw[ZO]at c
  refine⟨λe=> ?_,λz f=>c.2 z (Zi _ f)⟩
  rcases Zr.1 e with e|e
  ·exact c.1 e
  ·exact c.2 a (Zl ..) (ZF.1 e).symm
def Fe{k:List (Int×bx)}{i:Nat}{x:Int×bx}(f:k[i]? =some x)(ab:∀H a,H<i->k[H]? =some a->a.2.name∉fP (k.take H))(b:x.2.name∈fP (k.take i)):gl [] k=(24,x.2.at_):=
 Ff k [] i x f (λH a d g=>⟨Zs,λz m c=>ab H a d g (uz.2 ⟨z,m,c⟩)⟩) (.inr (uz.1 b))
def Fh{k:List (Int×bx)}(ab:∀H a,k[H]? =some a->a.2.name∉fP (k.take H)):gl [] k=(0,0):=
 Fi k [] λH a c=>⟨Zs,λz d b=>ab H a c (uz.2 ⟨z,d,b⟩)⟩
def xY{c α:Type}{f:c×(Int×Int)->α->c×(Int×Int)}(v:∀s x,s.2.1≠0->f s x=s){a:List α}{s d:c×(Int×Int)}{H:Nat}{x:α}(e:(a.take H).foldl f s=d)(p:a[H]? =some x)(r:(f d x).2.1≠0):a.foldl f s=f d x:=by
 have i:a=a.take H++x::a.drop (H+1):=by
  obtain⟨ak,n⟩:=Zf.1 p
  rw[<-n, <-ZY ak,List.take_append_drop]
 have m:∀(b:List α) (t:c×(Int×Int)),t.2.1≠0->b.foldl f t=t:=by
  intro b
  induction b with
  |nil=>intro t _;rfl
  |cons w b V=>intro t g;rw[ZU,v _ _ g];exact V t g
 rw[i,YX,e,ZU,m _ _ r]
def xZ{b α:Type}{f:b->α->b}{a:List α}{s c:b}{H:Nat}{x:α}(e:(a.take H).foldl f s=c)(d:a[H]? =some x):(a.take (H+1)).foldl f s=f c x:=by
 rw[ZG,d,YX,e];rfl
def yl(k:List (Int×bx))(s:List aW×(Int×Int))(x:aW×Int)(e:s.2.1≠0):fs k s x=s:=by unfold fs;rw[Zv e]
def Jn(k:List (Int×bx))(U:List Go.a8.Node)(o:Nat)(s:List aW×(Int×Int))(L:dO)(e:s.2.1≠0):fR k U o s L=s:=by
 have b:∀(a:List (aW×Int)),a.foldl (fs k) s=s:=by
  intro a
  induction a with
  |nil=>rfl
  |cons c a V=>rw[ZU,yl _ _ _ e];exact V
 unfold fR
 rw[b,Zv e]
def Hf{k:List (Int×bx)}{ds:List aW}{w:aW}{a:Int}(e:en k w=none):fs k (ds,(0,0)) (w,a)=(ds,(23,a)):=by
 unfold fs;simp[e]
def Hg{k:List (Int×bx)}{ds:List aW}{w:aW}{a o:Int}(e:en k w=some o)(b:o=1\/w∈ds):fs k (ds,(0,0)) (w,a)=(ds,(24,a)):=by
 unfold fs;simp[e,b]
def He{k:List (Int×bx)}{ds:List aW}{w:aW}{a o:Int}(e:en k w=some o)(b:¬(o=1\/w∈ds)):fs k (ds,(0,0)) (w,a)=(ds++[w],(0,0)):=by
 unfold fs;simp[e,b]
def xB{U:List Go.a8.Node}{o:Nat}{g:Go.a8.Node}{i:Nat}{L:dO}{ds:List aW}{f:Int×Int}(e:(g.eqs.take i).foldl (fR (bi g) U o) ([],(0,0))=(ds,(0,0)))(c:g.eqs[i]? =some L)
 (b:(fR (bi g) U o (ds,(0,0)) L).2=f)(a:f.1≠0):gE U o g=f:=by
 subst b
 unfold gE
 rw[xY (λs x=>Jn _ _ _ s x) e c a,Zv a]
def xC{U:List Go.a8.Node}{o:Nat}{g:Go.a8.Node}{i H:Nat}{L:dO}{ds am:List aW}{x:aW×Int}{f:Int×Int}(e:(g.eqs.take i).foldl (fR (bi g) U o) ([],(0,0))=(ds,(0,0)))(d:g.eqs[i]? =some L)
 (au:((eN L).take H).foldl (fs (bi g)) (ds,(0,0))=(am,(0,0)))(m:(eN L)[H]? =some x)(c:(fs (bi g) (am,(0,0)) x).2=f)(a:f.1≠0):gE U o g=f:=by
 subst c
 refine xB e d ?_ a
 have b:=xY (λs x=>yl (bi g) s x) au m a
 unfold fR
 rw[b,Zv a]
def Fl{U:List Go.a8.Node}{o:Nat}{g:Go.a8.Node}{i:Nat}{L:dO}{ds am:List aW}(e:(g.eqs.take i).foldl (fR (bi g) U o) ([],(0,0))=(ds,(0,0)))(a:g.eqs[i]? =some L)
 (au:(eN L).foldl (fs (bi g)) (ds,(0,0))=(am,(0,0)))(b:(ev (ef (bi g) U o) (dL L.right)).1≠0):gE U o g=ev (ef (bi g) U o) (dL L.right):=by
 refine xB e a ?_ b
 unfold fR
 rw[au,Zj Zs]
def Fk{U:List Go.a8.Node}{o:Nat}{g:Go.a8.Node}{i:Nat}{L:dO}{ds am:List aW}(e:(g.eqs.take i).foldl (fR (bi g) U o) ([],(0,0))=(ds,(0,0)))(a:g.eqs[i]? =some L)
 (au:(eN L).foldl (fs (bi g)) (ds,(0,0))=(am,(0,0)))(b:(ev (ef (bi g) U o) (dL L.right)).1=0):(g.eqs.take (i+1)).foldl (fR (bi g) U o) ([],(0,0))=(am,(0,0)):=by
 rw[xZ e a]
 unfold fR
 rw[au,Zj Zs,tM uQ _ b]
def Fm{U:List Go.a8.Node}{o:Nat}{g:Go.a8.Node}{ds:List aW}(e:g.eqs.foldl (fR (bi g) U o) ([],(0,0))=(ds,(0,0))):gE U o g=ev (im ds) (bi g):=by
 unfold gE
 rw[e,Zj Zs]
def Iy{α:Type}[DecidableEq α]:∀(ds b:List α),ds.Nodup->(∀w∈ds,w∈b)->ds.length<=b.length:=by
 intro ds
 induction ds with
 |nil=>intro b _ _;simp
 |cons a ds V=>
  intro b c d
  have f:=d a (Zl ..)
  have i:=V (b.erase a) (List.nodup_cons.1 c).2 λw g=>(List.mem_erase_of_ne (λl:w=a=>(List.nodup_cons.1 c).1 (l▸g))).2 (d w (Zi _ g))
  rw[List.length_erase_of_mem f]at i
  have:=List.length_pos_of_mem f
  simp only[ZC]
  omega
structure iK(k:List (Int×bx))(ds:List aW):Prop where
 jD:ds.Nodup
 sub:∀w∈ds,w∈k.map λx=>x.2.name
def iK.len{k:List (Int×bx)}{ds:List aW}(e:iK k ds):ds.length<=k.length:=by
 have:=Iy ds _ e.jD e.sub
 rwa[Zn]at this
def iK.nil(k:List (Int×bx)):iK k []:=⟨List.nodup_nil,Zs⟩
def iK.snoc{k:List (Int×bx)}{ds:List aW}{w:aW}{o:Int}(e:iK k ds)(d:en k w=some o)(i:w∉ds):iK k (ds++[w]):=by
 refine⟨List.nodup_append.2 ⟨e.jD,Zs,λa f b ab=> ?_⟩,λv c=> ?_⟩
 ·rw[ZF.1 ab];exact λl=>i (l▸f)
 ·rcases Zr.1 c with c|c
  ·exact e.sub v c
  ·rw[ZF.1 c]
   refine Classical.byContradiction λg=> ?_
   rw[xT λx m l=>g (ZB.2 ⟨x,m,l⟩)]at d
   cases d
section
variable{X:bU}{h E cH ay aO:I ae}{j ar aL aR bz:Nat}{bp d2 P bn:Nat->Prop}
structure lZ(X:bU)(h:I ae)(j:Nat)(row:List y)(L:Nat)(s:y)(ds:List aW)(E:I ae)(aj:Nat):Prop where
 ax:∃aJ,dc X E s 1 (ds.map y.str) aJ/\∀a∈aJ,j+2<=a/\a<aj/\a≠L
 qX:∃c,J X E j=some (.cells c 2 .own)
 node:J X E (j+1)=zy row 6
 kY:a1 X h j E aj
 le:j+2<=aj
def lZ.to{row:List y}{L dz:Nat}{s:y}{ds:List aW}(e:lZ X h j row L s ds ay aL)(a:a1 X ay aL aO aR)(n:aL<=dz\/dz<j+2\/dz=L):lZ X h j row dz s ds aO aR:=by
 obtain⟨aJ,g,f⟩:=e.ax
 have m:=a.le
 have au:=e.le
 refine⟨⟨aJ,g.T λb d=>a.T b (f b d).2.1,λb d=> ?_⟩, ?_, ?_,e.kY.trans (a.jC Zo),Zo⟩
 ·have:=f b d;omega
 ·obtain⟨c,i⟩:=e.qX;exact⟨c,by rw[a.T _ Zo];exact i⟩
 ·rw[a.T _ Zo];exact e.node
def El{row:List y}{o:Int}{rest:List y}(e:row= .Z o::rest)(c:I y):(cO c 0 row).get 0=some (.Z o):=by rw[e,iJ];simp
set_option maxRecDepth 100000 in
def FE(TZ:dU X){U:List Go.a8.Node}{g:Go.a8.Node}{rows:List (List y)}{p ax:y}{Wb o:Nat}(WC:(u X).aP<=j)(VR:gf X h P U p)(Vy:∀g∈U,∀L∈g.eqs,hD L.right)(UR:∀r,P r->r<j)(VU:U[o]? =some g)
 (M:ci X h bn Wb ax 11 rows)(UI:hj rows (bi g))(US:∀r,bn r->r<j)(Wg:(bi g).length<=3000)(Wq:g.eqs.length<=5000)(Wr:U.length<=1000)(WU:∀L∈g.eqs,(dL L.right).length<=300000):
 aN X 59 [p, .Z (o:Int),ax] h j (λN E ar=>N= .agg [.Z (gE U o g).1, .Z (gE U o g).2]/\a1 X h j E ar) zG:=by
 refine zB TZ.todX (C0 X) ?_
 rw[C1]
 unfold wu
 have Vz:=VR.prog Vy
 obtain⟨b,bH,bO,Ww,rfl,ab,a0,Vb,VY⟩:=id Vz
 have WT:=VY.wide
 have W3:=UR b ab
 have Wo:=(Zf.1 VU).1
 have Ud:=M.len
 rw[UI.len]at Ud
 refine hI ?_
 generalize Uv:aS X h j _=ay
 have UQ:∃c,J X ay j=some (.cells c 2 .own):=⟨_,by rw[<-Uv,bb WC];rfl⟩
 have Uq:a1 X h j ay (j+1):=by rw[<-Uv];exact dG
 clear Uv
 obtain⟨Ul,UQ⟩:=UQ
 have WW:∀r,P r->J X ay r=J X h r:=λr t=>Uq.T r (UR r t)
 obtain⟨row,WP,VX⟩:=VY.get o g VU
 have Vn:W X ay (.ptr b 0)=some bH:=by rw[Uq.cZ _ _ W3];exact a0
 have UG:=Vb.cT o (by rw[WT.1];omega)
 have WQ:=(Vb.T WW).row Zd WP
 have e2:=VX.cR
 obtain⟨bA,bB,UM,UN,b2,be,b6,c4,We,rfl,Wk,Wl,Wm,V1,VQ⟩:=VX
 have Ve:=VQ.wide
 have VA:=V1.len
 rw[Ve.1]at VA
 refine cz @Vn @UG @WQ ⟨?_⟩
 refine cD (e8 (o:=6) (b:=j+1) (D:=0) (n:=6) (c:=I.ofList [.str [], .Z 0, .az, .az, .az, .az] 0 .nil) (bb Zo) Zo rfl Zd Zd e2) ?_
 generalize UT:aS X _ (j+1) _=aO
 have VL:lZ X h j [.str g.name, .Z g.at_,bA,bB,UM,UN] 0 .az [] aO (j+2):=by
  refine⟨⟨[], .inl ⟨rfl,rfl,rfl⟩,Zs⟩,⟨Ul, ?_⟩, ?_,⟨Zo,λr t=> ?_⟩,Zo⟩
  ·rw[<-UT];simp(disch:=omega) only[aY];exact UQ
  ·rw[<-UT,bb Zo];rfl
  ·rw[<-UT];simp(disch:=omega) only[aY];exact Uq.T r t
 clear UT UQ
 refine cU (λB E aj=>∃(ds:List aW) (s:y),B.g 2=some ax/\B.g 6=some (.ptr j 0)/\B.g 7=some s/\g.eqs.foldl (fR (bi g) U o) ([],(0,0))=(ds,(0,0))/\iK (bi g) ds/\lZ X h j [.str g.name, .Z g.at_,bA,bB,UM,UN] 0 s ds E aj) (λWu WB=> ?_) ?_
 ·refine cQ (λm B E aj=>∃(i:Nat) (ds:List aW) (s:y),B.g 0=some (.ptr b 0)/\B.g 1=some (.Z (o:Int))/\B.g 2=some ax/\B.g 6=some (.ptr j 0)/\B.g 7=some s/\B.g 8=some (.ptr (j+1) 0)/\B.g 9=some (.Z (i:Int))/\i+m=g.eqs.length/\(g.eqs.take i).foldl (fR (bi g) U o) ([],(0,0))=(ds,(0,0))/\iK (bi g) ds/\lZ X h j [.str g.name, .Z g.at_,bA,bB,UM,UN] 0 s ds E aj)
   g.eqs.length ⟨0,[], .az,aK,aK,aK,aK,aK,aK,cA,Zo,rfl,iK.nil _,VL⟩ ?_
  clear VL
  rintro m B Uj O ⟨i,ds,s,t0,T3,z,C,Y,T2,t9,ak,U1,UV,G⟩
  have Vw:=G.le
  have UB:=G.node
  cases m with
  |zero=>
   have d:=zv i g.eqs.length
   rw[Zt Zo]at U1
   refine de @t9 @T2 (ba UB) @VA @d ⟨?_⟩
   exact WB _ _ _ ⟨ds,s,an z,an C,an Y,U1,UV,G⟩
  |succ m=>
   have d:=zw i g.eqs.length
   have Vr:=zz i
   obtain⟨L,U9⟩:=zx g.eqs i
   have WJ:=Zg U9
   obtain⟨Wy,WL,WK⟩:=VQ.get i L U9
   have UJ:∀E aj,a1 X h j E aj->∀r,P r->J X E r=J X h r:=λE aj UE r t=>UE.T r (UR r t)
   have Vh:∀E aj,a1 X h j E aj->∀r,bn r->J X E r=J X h r:=λE aj UE r t=>UE.T r (US r t)
   have W9:=V1.cT i (by rw[Ve.1];omega)
   have WR:=(V1.T (UJ _ _ G.kY)).row Zd WL
   obtain⟨Ui,Uh,Ul,Wc,dB,rfl,UH,⟨Ua,_⟩,WF,WG⟩:=WK
   have V5:=UH.len
   have WI:=UH.many
   have VZ:=Ua.len
   have WH:=Ua.many
   rw[show(dt L.left).length=L.left.length from by simp[dt]]at V5 WI
   rw[Zn]at VZ WH
   refine bs @t9 @T2 (ba UB) @VA @d @W9 @WR ⟨?_⟩
   refine cD (e8 (o:=4) (b:=O) (D:=0) (n:=4) (c:=I.ofList [.az, .az, .Z 0, .bC] 0 .nil) (bb Zo) Zo rfl Zd Zd WG) ?_
   generalize Uw:aS X _ O _=UP
   have Uo:J X UP O=zy [Ui,Uh, .Z L.at_,dB] 4:=by rw[<-Uw,bb Zo];rfl
   have Vv:a1 X Uj O UP (O+1):=⟨Zo,λr t=>by rw[<-Uw];exact zA⟩
   clear Uw
   have Ut:=G.to (dz:=O) Vv (.inl (Zp _))
   clear G UB
   refine cU (λB E aj=>∃(am:List aW) (s:y),B.g 0=some (.ptr b 0)/\B.g 1=some (.Z (o:Int))/\B.g 2=some ax/\B.g 6=some (.ptr j 0)/\B.g 7=some s/\B.g 8=some (.ptr (j+1) 0)/\B.g 9=some (.Z (i:Int))/\B.g 10=some (.ptr O 0)/\(eN L).foldl (fs (bi g)) (ds,(0,0))=(am,(0,0))/\iK (bi g) am/\lZ X h j [.str g.name, .Z g.at_,bA,bB,UM,UN] O s am E aj/\O<aj/\J X E O=zy [Ui,Uh, .Z L.at_,dB] 4) (λWs WA=> ?_) ?_
   ·refine cQ (λm B E aj=>∃(H:Nat) (am:List aW) (s:y),B.g 0=some (.ptr b 0)/\B.g 1=some (.Z (o:Int))/\B.g 2=some ax/\B.g 6=some (.ptr j 0)/\B.g 7=some s/\B.g 8=some (.ptr (j+1) 0)/\B.g 9=some (.Z (i:Int))/\B.g 10=some (.ptr O 0)/\B.g 11=some (.Z (H:Int))/\H+m=L.left.length/\((eN L).take H).foldl (fs (bi g)) (ds,(0,0))=(am,(0,0))/\iK (bi g) am/\lZ X h j [.str g.name, .Z g.at_,bA,bB,UM,UN] O s am E aj/\O<aj/\J X E O=zy [Ui,Uh, .Z L.at_,dB] 4)
     L.left.length ⟨0,ds,s,an t0,an T3,an z,an C,an Y,an T2,an t9,aK,cA,Zo,rfl,UV,Ut,Zo,Uo⟩ ?_
    clear t0 T3 z C Y T2 t9 Ut Uo
    rintro VB B UA Uf ⟨H,am,s,t0,T3,z,C,Y,T2,t9,T0,T4,Wn,U0,U8,G,V4,T9⟩
    have Vx:=G.le
    cases VB with
    |zero=>
     have d:=zv H L.left.length
     rw[Zt (by rw[yr];omega)]at U0
     refine de @T4 @T0 (ba T9) @V5 @d ⟨?_⟩
     exact WA _ _ _ ⟨am,s,an t0,an T3,an z,an C,an Y,an T2,an t9,an T0,U0,U8,G,V4,T9⟩
    |succ VB=>
     have d:=zw H L.left.length
     have Vs:=zz H
     obtain⟨w,V8⟩:=zx L.left H
     have UZ:(eN L)[H]? =some (w,(L.bw[H]?).getD 0):=yq V8
     have UX:=UH.cT H (by simp[dt];omega)
     have W4:=UH.cell H [.str w] 0 (.str w) (by unfold dt;rw[Zw,V8];rfl) rfl
     rw[ZV]at UX
     rw[ZV,ZH]at W4
     have Wi:L.left.length>0->True:=λ_=>trivial
     have U5:=G.kY
     have VO:∀E aj,a1 X h j E aj->W X E (.ptr Ul H)=some (.str w):=λE aj UE=>by
      have:=(UH.T (UJ E aj UE)).cell H [.str w] 0 (.str w) (by unfold dt;rw[Zw,V8];rfl) rfl
      rwa[ZV,ZH]at this
     refine c6 @T4 @T0 (Za (ba T9) (Za @V5 @d)) ⟨?_⟩
     refine gr ?_
     refine k4 @d ⟨?_⟩
     refine gr ?_
     refine c6 @T4 @T0 (Za (ba T9) @VZ) ⟨?_⟩
     refine cU (λT5 E aj=>T5.g 0=some (.ptr b 0)/\T5.g 1=some (.Z (o:Int))/\T5.g 2=some ax/\T5.g 6=some (.ptr j 0)/\T5.g 7=some s/\T5.g 8=some (.ptr (j+1) 0)/\T5.g 9=some (.Z (i:Int))/\T5.g 10=some (.ptr O 0)/\T5.g 11=some (.Z (H:Int))/\T5.g 12=some (.Z ((L.bw[H]?).getD 0))/\E=UA/\aj=Uf) (λWt VS=> ?_) ?_
     ·by_cases VT:H<L.bw.length
      ·have Un:=zw H L.bw.length
       have Vf:=Ua.cT H (by rw[Zn];omega)
       have VN:=(Ua.T (UJ _ _ U5)).cell H [pT L.bw[H]] 0 (pT L.bw[H]) (by rw[Zw,Ze VT];rfl) rfl
       rw[ZV]at Vf
       rw[ZV,ZH]at VN
       have V0:(L.bw[H]?).getD 0=L.bw[H]:=by rw[Ze VT];rfl
       refine c6 @T4 @T0 (Za (ba T9) (Za @Un (Za @Vf @VN))) ⟨?_⟩
       exact VS _ _ _ ⟨an t0,an T3,an z,an C,an Y,an T2,an t9,an T0,an T4,x1 @V0,rfl,rfl⟩
      ·have Un:=zv H L.bw.length
       have V0:(L.bw[H]?).getD 0=0:=by rw[Z3 Zo];rfl
       refine k4 @Un ⟨?_⟩
       exact VS _ _ _ ⟨an t0,an T3,an z,an C,an Y,an T2,an t9,an T0,an T4,x0 @V0,rfl,rfl⟩
     clear t0 T3 z C Y T2 t9 T0 T4
     generalize Wh:(L.bw[H]?).getD 0=a at UZ
     rintro B Vm WY ⟨t0,T3,z,C,Y,T2,t9,T0,T4,VC,rfl,rfl⟩
     have W5:=VO _ _ U5
     refine dw @z @T0 @T4 (ba T9) @UX @W5 ⟨?_⟩
     refine(tV TZ Zo (M.T (Vh _ _ U5)) UI (λr t=>zu (US r t))).Zm ?_
     rintro N Uk Z ⟨⟨Vj,UK,rfl,⟨rest,Vd,WO⟩,WE,W7⟩,TY⟩
     have VV:=TY.le
     have WN:(y.agg Vj).cells.length=11:=by rw[Vd];simp[y.cells,WO]
     refine bl ⟨?_⟩
     refine cD (e8 (o:=11) (b:=Z) (D:=0) (n:=11) (v:= .agg Vj) (bb Zo) Zo WN Zd Zd WE) ?_
     generalize Ux:aS X _ Z _=U2
     have Vk:W X U2 (.ptr Z 0)=some (.Z UK):=by
      rw[<-Ux,jv Zo];exact El (by rw[Vd];rfl) _
     have VK:a1 X Vm WY U2 (Z+1):=⟨Zo,λr t=>by rw[<-Ux];simp(disch:=omega) only[aY];exact TY.T r t⟩
     clear Ux
     have U6:=G.to (dz:=O) VK (.inr (.inr rfl))
     have Wf:=U6.le
     have Up:J X U2 O=zy [Ui,Uh, .Z L.at_,dB] 4:=by rw[VK.T _ V4];exact T9
     obtain⟨VF,VM⟩:=U6.qX
     have VP:=VO _ _ U6.kY
     have fin:∀(c:Int) (T7:I ae) (Ug:Nat),a1 X U2 (Z+1) T7 Ug->gE U o g=(c,a)->∃Vq,J X T7 j=some (.cells Vq 2 .own)/\∀VD:I y,a1 X h j (aS X T7 j (some (.cells VD 2 .own))) Ug:=λc T7 Ug Us T1=>by
      have Wp:=Us.le
      refine⟨VF,by rw[Us.T _ Zo];exact VM,λVD=>⟨Zo,λr t=> ?_⟩⟩
      rw[aY Zo Zo,Us.T r Zo];exact U6.kY.T r t
     cases Uz:(en (bi g) w).isSome with
     |false=>
      have W8:en (bi g) w=none:=by
       cases e:en (bi g) w with
       |none=>rfl
       |some _=>rw[e]at Uz;cases Uz
      refine bG @VC ⟨?_⟩
      refine(jn (j:=Z+1) (h:=U2) TZ 23 a Zo).Zm ?_
      rintro Vi T8 UL ⟨rfl,UF⟩
      have T1:gE U o g=(23,a):=xC U1 U9 U0 UZ (by rw[Hf W8]) (by show(23:Int)≠0;decide)
      obtain⟨VE,VJ,UD⟩:=fin 23 T8 UL UF T1
      refine cz @C @fl @fm ⟨?_⟩
      exact⟨by rw[T1],UD _⟩
     |true=>
      have V2:=W7 Uz
      have VH:(UK=1\/w∈am)->gE U o g=(24,a):=λe=>xC U1 U9 U0 UZ (by rw[Hg V2 e]) (by show(24:Int)≠0;decide)
      by_cases UY:UK=1
      ·have U3:decide (UK=1)=true:=by simp[UY]
       refine cz @Vk @U3 @VC ⟨?_⟩
       refine(jn (j:=Z+1) (h:=U2) TZ 24 a Zo).Zm ?_
       rintro Vi T8 UL ⟨rfl,UF⟩
       have T1:gE U o g=(24,a):=VH (.inl UY)
       obtain⟨VE,VJ,UD⟩:=fin 24 T8 UL UF T1
       refine cz @C @fl @fm ⟨?_⟩
       exact⟨by rw[T1],UD _⟩
      ·have U3:decide (UK=1)=false:=by simp[UY]
       obtain⟨aJ,Uc,U7⟩:=U6.ax
       obtain⟨jI,V6⟩:=ks Uc (zu U8.len) (bp:=λr=>r<Z+1) (λr t=>(U7 r t).2.1)
       refine bs @Vk @U3 @Y @T0 @T4 (ba Up) (Za @UX @VP) ⟨?_⟩
       refine(rK (j:=Z+1) (h:=U2) TZ V6).Zm ?_
       rintro u8 T7 Ug ⟨rfl,rfl,rfl⟩
       by_cases T6:w∈am
       ·have U4:decide (w∈am)=true:=by simp[T6]
        rw[U4]
        refine bG @VC ⟨?_⟩
        refine(jn (j:=Z+1) (h:=T7) TZ 24 a Zo).Zm ?_
        rintro Vi T8 UL ⟨rfl,UF⟩
        have T1:gE U o g=(24,a):=VH (.inr T6)
        obtain⟨VE,VJ,UD⟩:=fin 24 T8 UL UF T1
        refine cz @C @fl @fm ⟨?_⟩
        exact⟨by rw[T1],UD _⟩
       ·have U4:decide (w∈am)=false:=by simp[T6]
        rw[U4]
        refine dw @Y @T0 @T4 (ba Up) @UX @VP ⟨?_⟩
        generalize Uy:aS X T7 (Z+1) _=T8
        have Vt:J X T8 (Z+1)=zy [.str w] 1:=by rw[<-Uy,bb Zo]
        have Vg:∀r,r≠Z+1->J X T8 r=J X T7 r:=λr t=>by rw[<-Uy,aY Zo t]
        clear Uy
        have Wj:=U8.len
        obtain⟨WZ,Vl,Vo,W1,WS,W2,WV⟩:=(show cX X T8 s 1 (am.map y.str) aJ from .inl (Uc.T λr t=>Vg r (zu (U7 r t)))).append (j:=Z+1+1) (o:=1) Zd (hx Vt (dl _) rfl 1) rfl Zd (by rfl) Zx Zo (λr t=>zu (U7 r t))
        refine eX W1 ?_
        have Ue:∀r,r<Z+1->(j+2<=r->r=O)->J X Vl r=J X T7 r:=λr UC Vu=>by
         rw[WV r Zo (λe=>by have:=U7 r e;have:=Vu Zo;omega),Vg r Zo]
        refine cn @T4 @Vs ⟨?_⟩
        refine⟨VB,Zo,H+1,am++[w],WZ,an t0,an T3,an z,an C,aK,an T2,an t9,an T0,aK,Zo,by rw[xZ U0 UZ,He V2 (by rintro(e|e);exact UY e;exact T6 e)],U8.snoc V2 T6,⟨⟨Vo, ?_,λr t=> ?_⟩,⟨VF, ?_⟩, ?_,⟨Zo,λr t=> ?_⟩,Zo⟩,Zo, ?_⟩
        ·rw[YF];exact WS
        ·rcases W2 r t with e|e
         ·omega
         ·have:=U7 r e;omega
        ·rw[Ue _ Zo Zo];exact VM
        ·rw[Ue _ Zo Zo];exact U6.node
        ·rw[Ue _ Zo Zo];exact U6.kY.T r t
        ·rw[Ue _ Zo (λ_=>rfl)];exact Up
   ·clear t0 T3 z C Y T2 t9 Ut Uo
    rintro B UA Uf ⟨am,s,t0,T3,z,C,Y,T2,t9,T0,U0,U8,G,V4,T9⟩
    have Vx:=G.le
    have U5:=G.kY
    have WM:da X UA P L.right dB:=da.T (UJ _ _ U5) _ _ WF
    refine de @t0 @T3 @z @T0 (ba T9) ⟨?_⟩
    refine(JJ (P:=P) TZ Zo (VR.T (UJ _ _ U5) λ_ e=>e) (λr t=>zu (UR r t)) (M.T (Vh _ _ U5)) UI (λr t=>zu (US r t)) WM (WU L WJ)).Zm ?_
    rintro Wa Uk Z ⟨rfl,TY⟩
    have VV:=TY.le
    have Uu:=G.to (dz:=0) TY (.inr (.inl Zo))
    obtain⟨Wd,VI⟩:=Uu.qX
    have Va:=Fl (am:=am) U1 U9 U0
    have VW:=Fk (am:=am) U1 U9 U0
    generalize ev (ef (bi g) U o) (dL L.right)=f at Va VW
    by_cases UW:f.1=0
    ·have Um:decide (f.1≠0)=false:=by simp[UW]
     refine de @fl @fm @Um @t9 @Vr ⟨?_⟩
     exact⟨m,Zo,i+1,am,s,an t0,an T3,an z,an C,an Y,an T2,aK,Zo,VW UW,U8,Uu.to (dz:=0) dG (.inr (.inr rfl))⟩
    ·have Um:decide (f.1≠0)=true:=by simp[UW]
     have T1:=Va UW
     refine de @fl @fm @Um @C @VI ⟨?_⟩
     exact⟨by rw[T1],Zo,λr t=>by simp(disch:=omega) only[aY];exact Uu.kY.T r t⟩
 ·rintro B Uj O ⟨ds,s,z,C,Y,U1,UV,G⟩
  obtain⟨aJ,Uc,U7⟩:=G.ax
  have Vw:=G.le
  obtain⟨jI,V6⟩:=ks Uc (zu UV.len) (bp:=λr=>r<O) (λr t=>(U7 r t).2.1)
  obtain⟨Vp,UB⟩:=G.qX
  have Ur:=G.kY
  have Ub:=M.T λr t=>Ur.T r (US r t)
  have T1:=Fm U1
  refine gr ?_
  refine cQ (λm B E aj=>∃(i:Nat),B.g 2=some ax/\B.g 6=some (.ptr j 0)/\B.g 7=some s/\B.g 16=some (.Z (i:Int))/\i+m=(bi g).length/\E=Uj/\aj=O/\∀x∈(bi g).take i,(im ds x).1=0)
   (bi g).length ⟨0,an z,an C,an Y,cA,Zo,rfl,rfl,Zs⟩ ?_
  clear z C Y G
  rintro m B UP WX ⟨i,z,C,Y,UO,ak,rfl,rfl,UU⟩
  cases m with
  |zero=>
   have d:=zv i (bi g).length
   rw[Zt Zo]at UU
   refine bs @UO @z @Ud @d @C @fl @fm ⟨?_⟩
   exact⟨by rw[T1,tL UU],Zo,λr t=>by rw[aY Zo Zo];exact Ur.T r t⟩
  |succ m=>
   have d:=zw i (bi g).length
   have VG:=zz i
   obtain⟨x,V9⟩:=zx (bi g) i
   obtain⟨Wv,Wx,V7⟩:=UI.at_ i x V9
   have UG:=Ub.cT i (by rw[UI.len];omega)
   have V3:=Ub.cell i _ 0 (.Z x.1) V7 rfl
   have WD:=Ub.cell i _ 1 (.str x.2.name) V7 rfl
   have W0:=Ub.cell i _ 2 (.Z x.2.at_) V7 rfl
   rw[ZH]at V3
   have next:im ds x=(0,0)->∀r∈(bi g).take (i+1),(im ds r).1=0:=λe=>hY V9 UU (by rw[e])
   by_cases UC:x.1=1
   ·have U3:decide (x.1≠1)=false:=by simp[UC]
    refine bs @UO @z @Ud @d @UG @V3 (Za @U3 @VG) ⟨?_⟩
    exact⟨m,Zo,i+1,an z,an C,an Y,aK,Zo,rfl,rfl,next (by unfold im;rw[Zj (λe=>e.1 UC)])⟩
   ·have U3:decide (x.1≠1)=true:=by simp[UC]
    refine bs @UO @z @Y @Ud @d @UG (Za @V3 (Za @U3 @WD)) ⟨?_⟩
    refine(rK (j:=WX) (h:=UP) TZ V6).Zm ?_
    rintro Wz UA Uf ⟨rfl,rfl,rfl⟩
    by_cases T6:x.2.name∈ds
    ·have U4:decide (x.2.name∈ds)=true:=by simp[T6]
     rw[U4]
     refine cn @UO @VG ⟨?_⟩
     exact⟨m,Zo,i+1,an z,an C,an Y,aK,Zo,rfl,rfl,next (by unfold im;rw[Zj (λe=>e.2 T6)])⟩
    ·have U4:decide (x.2.name∈ds)=false:=by simp[T6]
     have Vc:im ds x=(37,x.2.at_):=by unfold im;rw[Zv ⟨UC,T6⟩]
     have W6:ev (im ds) (bi g)=(37,x.2.at_):=by rw[tK V9 UU (by rw[Vc];show(37:Int)≠0;decide),Vc]
     rw[U4]
     refine cP @UO @z @UG @W0 ⟨?_⟩
     refine(jn (j:=Uf) (h:=UA) TZ 37 x.2.at_ Zo).Zm ?_
     rintro Wa Uk Z ⟨rfl,TY⟩
     have VV:=TY.le
     have VI:J X Uk j=some (.cells Vp 2 .own):=by rw[TY.T _ Zo];exact UB
     refine cz @C @fl @fm ⟨?_⟩
     exact⟨by rw[T1,W6],Zo,λr t=>by rw[aY Zo Zo,TY.T r Zo];exact Ur.T r t⟩
end
def Il{U:List Go.a8.Node}{o:Nat}{g:Go.a8.Node}(e:(((el U g.name).getD 0:Nat):Int)<(o:Int)):iY U o g=(24,g.at_):=by unfold iY;rw[Zv e]
def Ij{U:List Go.a8.Node}{o:Nat}{g:Go.a8.Node}{f:Int×Int}(e:¬(((el U g.name).getD 0:Nat):Int)<(o:Int))(a:gl [] (bi g)=f)(b:f.1≠0):iY U o g=f:=by unfold iY;rw[Zj e,a,Zv b]
def Im{U:List Go.a8.Node}{o:Nat}{g:Go.a8.Node}{f:Int×Int}(e:¬(((el U g.name).getD 0:Nat):Int)<(o:Int))(a:gl [] (bi g)=(0,0))(c:ev (gw (bi g)) (bi g)=f)(b:f.1≠0):iY U o g=f:=by
 unfold iY;rw[Zj e,a,Zj Zs,c,Zv b]
def Ik{U:List Go.a8.Node}{o:Nat}{g:Go.a8.Node}(e:¬(((el U g.name).getD 0:Nat):Int)<(o:Int))(a:gl [] (bi g)=(0,0))(b:ev (gw (bi g)) (bi g)=(0,0)):iY U o g=gE U o g:=by
 unfold iY;rw[Zj e,a,Zj Zs,b,Zj Zs]
section
variable{X:bU}{h E cH ay aO:I ae}{j ar aL aR bz:Nat}{bp d2 P bn:Nat->Prop}
set_option maxRecDepth 100000 in
def EH(Y:dU X){U:List Go.a8.Node}{v:y}(VW:(u X).aP<=j)(US:gf X h P U v)(U5:∀a,P a->a<j)(V1:∀g∈U,hB g)(V2:U.length<=1000):
 aN X 27 [v] h j (λN E ar=>N= .agg [.Z (f6 U).1, .Z (f6 U).2]/\a1 X h j E ar) zG:=by
 refine zB Y.todX (Co X) ?_
 rw[Cp]
 unfold v2
 refine hI ?_
 generalize Ud:aS X h j _=ay
 have U3:∃c,J X ay j=some (.cells c 2 .own):=⟨_,by rw[<-Ud,bb VW];rfl⟩
 have Uv:a1 X h j ay (j+1):=by rw[<-Ud];exact dG
 clear Ud
 have Vo:∀a,P a->J X ay a=J X h a:=λa p=>Uv.T a (U5 a p)
 refine(Gd (P:=P) (j:=j+1) (h:=ay) Y Zo (US.T (bn:=P) Vo (λ_ e=>e)) (λa p=>zu (U5 a p)) V1 V2).Zm ?_
 rintro N aO aR ⟨⟨w,rfl,W3,V5⟩,Uc⟩
 have W1:=Uc.le
 obtain⟨Uu,U3⟩:=U3
 rw[<-Uc.T _ Zo]at U3
 have Uw:=Uv.trans Uc
 by_cases U4:hd U
 case neg=>
  have z:decide (w≠0)=true:=by simp only[Zc];exact λe=>U4 (V5.1 e)
  rw[u2 U4]
  refine bG @z ⟨?_⟩
  refine(jn (j:=aR) (h:=aO) Y 1 0 Zo).Zm ?_
  rintro WA UG G ⟨rfl,T3⟩
  have VT:=T3.le
  have UJ:J X UG j=some (.cells Uu 2 .own):=by rw[T3.T _ Zo];exact U3
  refine cn @fl @fm ⟨?_⟩
  exact⟨rfl,Zo,λa p=>by rw[aY Zo Zo,T3.T a Zo];exact Uw.T a p⟩
 have Vm:=V5.2 U4
 subst Vm
 rw[u3 U4]
 obtain⟨b,bH,bO,W6,rfl,ab,a0,Up,V3⟩:=id US
 have V6:=V3.wide
 have Uk:=Up.len
 rw[V6.1]at Uk
 have VK:=U5 b ab
 have z:decide ((0:Int)≠0)=false:=rfl
 have UV:∀E aj,a1 X h j E aj->∀a,P a->J X E a=J X h a:=λE aj UB a p=>UB.T a (U5 a p)
 refine bG @z ⟨?_⟩
 refine cQ (λm B E aj=>∃(H:Nat),B.g 0=some (.ptr b 0)/\B.g 2=some (.ptr j 0)/\B.g 3=some (.Z (H:Int))/\H+m=U.length/\a1 X h j E aj/\j<aj/\(∃c,J X E j=some (.cells c 2 .own))/\mb U=ng U H (U.drop H))
  U.length ⟨0,aK,aK,cA,Zo,Uw,Zo,⟨Uu,U3⟩,rfl⟩ ?_
 clear U3
 rintro m B UG G ⟨H,t0,r,t3,Vz,T3,W2,⟨UA,UJ⟩,U6⟩
 have VT:=T3.le
 have Us:W X UG (.ptr b 0)=some bH:=by rw[T3.cZ _ _ VK];exact a0
 cases m with
 |zero=>
  have d:=zv H U.length
  rw[YK Zo]at U6
  refine bs @t3 @t0 @Us @Uk @d @r (Za @fl @fm) ⟨?_⟩
  exact⟨by rw[U6];rfl,Zo,λa p=>by rw[aY Zo Zo];exact T3.T a p⟩
 |succ m=>
  have d:=zw H U.length
  have VF:=zz H
  obtain⟨g,UT⟩:=zx U H
  have V0:=Zg UT
  have Ug:=V1 g V0
  have VX:=U4.node g V0
  have Vx:(bi g).length<=256:=by rw[tA];have:=VX.vars;simp only[iD];omega
  have VL:U.drop H=g::U.drop (H+1):=by
   obtain⟨T5,p⟩:=Zf.1 UT
   rw[ZY T5,p]
  rw[VL,ng,Ix]at U6
  have ret:∀f:Int×Int,iY U H g=f->f.1≠0->mb U=f:=λf Ua Ub=>by rw[U6,Ua,Zv Ub]
  obtain⟨row,Vh,Um⟩:=V3.get H g UT
  have VR:=Up.cT H (by rw[V6.1];omega)
  have Vi:=(Up.T (UV _ _ T3)).row Zd Vh
  have e2:=Um.cR
  have Va:=Um
  obtain⟨bA,bB,V9,VA,b2,be,b6,c4,Vt,rfl,_⟩:=Um
  refine bs @t3 @t0 @Us @Uk @d @VR @Vi ⟨?_⟩
  refine cD (e8 (o:=6) (b:=G) (D:=0) (n:=6) (c:=I.ofList [.str [], .Z 0, .az, .az, .az, .az] 0 .nil) (bb Zo) Zo rfl Zd Zd e2) ?_
  generalize Ue:aS X _ G _=UH
  have UY:J X UH G=zy [.str g.name, .Z g.at_,bA,bB,V9,VA] 6:=by rw[<-Ue,bb Zo];rfl
  have V7:∀a,a<G->J X UH a=J X UG a:=λa p=>by rw[<-Ue];exact zA
  clear Ue
  have UL:a1 X h j UH (G+1):=⟨Zo,λa p=>by rw[V7 a Zo];exact T3.T a p⟩
  rw[<-V7 _ Zo]at UJ
  refine cn @t0 (ba UY) ⟨?_⟩
  refine(xO (j:=G+1) (h:=UH) Y (US.T (UV _ _ UL) λ_ e=>e)).Zm ?_
  rintro WB Uq W5 ⟨rfl,rfl,rfl⟩
  by_cases U7:(((el U g.name).getD 0:Nat):Int)<(H:Int)
  ·have aA:decide ((((el U g.name).getD 0:Nat):Int)<(H:Int))=true:=by simp only[Zc];exact U7
   refine cz @t3 @aA (ba UY) ⟨?_⟩
   refine(jn (j:=G+1) (h:=Uq) Y 24 g.at_ Zo).Zm ?_
   rintro WC O C ⟨rfl,U0⟩
   have VU:=U0.le
   have UZ:J X O j=some (.cells UA 2 .own):=by rw[U0.T _ Zo];exact UJ
   refine cz @r @fl @fm ⟨?_⟩
   exact⟨by rw[ret (24,g.at_) (Il U7) (by show(24:Int)≠0;decide)],Zo,λa p=>by rw[aY Zo Zo,U0.T a Zo];exact UL.T a p⟩
  have aA:decide ((((el U g.name).getD 0:Nat):Int)<(H:Int))=false:=by simp only[Zb];exact U7
  refine cz @t3 @aA (ba UY) ⟨?_⟩
  refine(Lv (P:=P) (j:=G+1) (h:=Uq) (row:=[.str g.name, .Z g.at_,bA,bB,V9,VA]) Y Zo (sT.to (UV _ _ UL) (λ_ e=>e) Va) (λa p=>zu (U5 a p)) Ug.ap).Zm ?_
  rintro aE O C ⟨⟨aJ,Uy,Uf⟩,U0⟩
  have VU:=U0.le
  have UM:=UL.trans U0
  obtain⟨rows,Vl,T4⟩:=id Uy
  obtain⟨VC,U8⟩:=dc.gO Vl Zd T4.wide (by rw[T4.len];omega) (P:=dm (G+1) C) Uf
  have UE:=U8.len
  rw[T4.len]at UE
  have UZ:J X O j=some (.cells UA 2 .own):=by rw[U0.T _ Zo];exact UJ
  have fin:∀(f:Int×Int) (Z:I ae) (T2:Nat),iY U H g=f->f.1≠0->a1 X O C Z T2->J X Z j=some (.cells UA 2 .own)/\mb U=f/\∀Ut:I y,a1 X h j (aS X Z j (some (.cells Ut 2 .own))) T2:=λf Z T2 Ua Ub t=>by
   have Uj:=t.le
   refine⟨by rw[t.T _ Zo];exact UZ,ret f Ua Ub,λUt=>⟨Zo,λa p=> ?_⟩⟩
   rw[aY Zo Zo,t.T a Zo]
   exact UM.T a p
  refine ho ⟨?_⟩
  refine cU (λB E aj=>B.g 0=some (.ptr b 0)/\B.g 2=some (.ptr j 0)/\B.g 3=some (.Z (H:Int))/\B.g 7=some aE/\gl [] (bi g)=(0,0)/\a1 X O C E aj) (λVn Uh=> ?_) ?_
  ·refine cQ (λm B E aj=>∃(i:Nat),B.g 0=some (.ptr b 0)/\B.g 2=some (.ptr j 0)/\B.g 3=some (.Z (H:Int))/\B.g 7=some aE/\B.g 8=some (.Z (i:Int))/\i+m=(bi g).length/\a1 X O C E aj/\∀T1 a,T1<i->(bi g)[T1]? =some a->a.2.name∉fP ((bi g).take T1))
    (bi g).length ⟨0,an t0,an r,an t3,aK,cA,Zo,a1.refl _ _,λT1 a e=>absurd e (Nat.not_lt_zero _)⟩ ?_
   clear t0 r t3
   rintro T9 B Ur V8 ⟨i,t0,r,t3,s,UW,ak,T0,T7⟩
   have Ui:=T0.le
   cases T9 with
   |zero=>
    have d:=zv i (bi g).length
    refine cP @UW @s @UE @d ⟨?_⟩
    exact Uh _ _ _ ⟨an t0,an r,an t3,an s,Fh λT1 a p=>T7 T1 a (zu (Zf.1 p).1) p,T0⟩
   |succ T9=>
    have d:=zw i (bi g).length
    have UI:=zz i
    obtain⟨x,T5⟩:=zx (bi g) i
    obtain⟨Vr,Vs,U1⟩:=T4.at_ i x T5
    have U2:=U8.cT i (by rw[T4.len];omega)
    have T8:∀E aj,a1 X O C E aj->ci X E (dm (G+1) C) VC aE 11 rows:=λE aj UB=>U8.T λa p=>UB.T a p.2
    have VY:=(T8 _ _ T0).cell i _ 1 (.str x.2.name) U1 rfl
    obtain⟨W7,jo,Vj,Vu,VO,VP⟩:=(Uy.T λa p=>T0.T a (Uf a p).2).front (i:=i) (bp:=dm (G+1) C) Zo Zo Uf
    refine bs @UW @s @UE @d @Vj @U2 @VY ⟨?_⟩
    refine(Io (j:=V8+11) (h:=Ur) Y Zo VO VP (by rw[Yq];omega) (λa p=>zu p.2)).Zm ?_
    rintro u8 Z T2 ⟨⟨ch,Vb⟩,t⟩
    have Uj:=t.le
    have UN:a1 X O C Z T2:=T0.trans (t.jC Zo)
    have VZ:=(T8 _ _ UN).cell i _ 1 (.str x.2.name) U1 rfl
    have VJ:=(T8 _ _ UN).cell i _ 2 (.Z x.2.at_) U1 rfl
    refine bG @VZ ⟨?_⟩
    refine fi (sv _) ?_
    refine(rK (j:=T2) (h:=Z) Y Vb).Zm ?_
    rintro VB U9 TY ⟨rfl,rfl,rfl⟩
    by_cases UU:x.2.name∈fP ((bi g).take i)
    ·have UX:decide (x.2.name∈fP ((bi g).take i))=true:=by simp[UU]
     rw[UX]
     refine cP @s @UW @U2 @VJ ⟨?_⟩
     refine(jn (j:=TY) (h:=U9) Y 24 x.2.at_ Zo).Zm ?_
     rintro W8 UF Vp ⟨rfl,TZ⟩
     obtain⟨Vv,UD,UQ⟩:=fin (24,x.2.at_) UF Vp (Ij U7 (Fe T5 T7 UU) (by show(24:Int)≠0;decide)) (by show(24:Int)≠0;decide) (UN.trans TZ)
     refine cz @r @fl @fm ⟨?_⟩
     exact⟨by rw[UD],UQ _⟩
    ·have UX:decide (x.2.name∈fP ((bi g).take i))=false:=by simp[UU]
     rw[UX]
     refine cn @UW @UI ⟨?_⟩
     refine⟨T9,Zo,i+1,an t0,an r,an t3,an s,aK,Zo,UN,λT1 a W0 p=> ?_⟩
     by_cases VS:T1<i
     ·exact T7 T1 a VS p
     ·have:T1=i:=Zo
      subst this
      rw[T5]at p
      cases p
      exact UU
  ·clear t0 r t3
   rintro B Ur V8 ⟨t0,r,t3,s,Uz,T0⟩
   have Ui:=T0.le
   refine ho ⟨?_⟩
   refine cU (λB E aj=>B.g 0=some (.ptr b 0)/\B.g 2=some (.ptr j 0)/\B.g 3=some (.Z (H:Int))/\B.g 7=some aE/\ev (gw (bi g)) (bi g)=(0,0)/\a1 X O C E aj) (λVn Uh=> ?_) ?_
   ·refine cQ (λm B E aj=>∃(i:Nat),B.g 0=some (.ptr b 0)/\B.g 2=some (.ptr j 0)/\B.g 3=some (.Z (H:Int))/\B.g 7=some aE/\B.g 9=some (.Z (i:Int))/\i+m=(bi g).length/\a1 X O C E aj/\∀x∈(bi g).take i,(gw (bi g) x).1=0)
     (bi g).length ⟨0,an t0,an r,an t3,an s,cA,Zo,T0,Zs⟩ ?_
    clear t0 r t3 s T0 Ui
    rintro T9 B Z T2 ⟨i,t0,r,t3,s,t9,ak,t,T7⟩
    have Uj:=t.le
    cases T9 with
    |zero=>
     have d:=zv i (bi g).length
     rw[Zt Zo]at T7
     refine cP @t9 @s @UE @d ⟨?_⟩
     exact Uh _ _ _ ⟨an t0,an r,an t3,an s,tL T7,t⟩
    |succ T9=>
     have d:=zw i (bi g).length
     have UI:=zz i
     obtain⟨x,T5⟩:=zx (bi g) i
     obtain⟨Vr,Vs,U1⟩:=T4.at_ i x T5
     have U2:=U8.cT i (by rw[T4.len];omega)
     have T8:∀E aj,a1 X O C E aj->ci X E (dm (G+1) C) VC aE 11 rows:=λE aj UB=>U8.T λa p=>UB.T a p.2
     have Un:=(T8 _ _ t).cell i _ 6 (.str x.2.on) U1 rfl
     refine dw @t9 @s @UE @d @U2 @Un ⟨?_⟩
     refine(tV (j:=T2) (h:=Z) Y Zo (T8 _ _ t) T4 (λa p=>zu p.2)).Zm ?_
     rintro VB U9 TY ⟨⟨VD,W4,rfl,⟨rest,Vk,Vg⟩,Vd,Vy⟩,UC⟩
     have VV:=UC.le
     have Vf:(y.agg VD).cells.length=11:=by rw[Vk];simp[y.cells,Vg]
     refine bl ⟨?_⟩
     refine cD (e8 (o:=11) (b:=TY) (D:=0) (n:=11) (v:= .agg VD) (bb Zo) Zo Vf Zd Zd Vd) ?_
     generalize Ux:aS X _ TY _=UF
     have TZ:a1 X O C UF (TY+1):=t.trans ⟨Zo,λa p=>by rw[<-Ux];simp(disch:=omega) only[aY];exact UC.T a p⟩
     clear Ux
     have Uo:=(T8 _ _ TZ).cell i _ 6 (.str x.2.on) U1 rfl
     have Vc:=(T8 _ _ TZ).cell i _ 7 (.Z x.2.di) U1 rfl
     have next:gw (bi g) x=(0,0)->∀a∈(bi g).take (i+1),(gw (bi g) a).1=0:=λe=>hY T5 T7 (by rw[e])
     by_cases UK:x.2.on=[]
     ·have T6:decide (x.2.on≠[])=false:=by simp[UK]
      refine dw @s @t9 @U2 @Uo @T6 @UI ⟨?_⟩
      exact⟨T9,Zo,i+1,an t0,an r,an t3,an s,aK,Zo,TZ,next (by unfold gw;rw[Zj (λe=>e.1 UK)])⟩
     ·have T6:decide (x.2.on≠[])=true:=by simp[UK]
      cases UR:(en (bi g) x.2.on).isSome with
      |true=>
       refine dw @s @t9 @U2 @Uo @T6 @UI ⟨?_⟩
       exact⟨T9,Zo,i+1,an t0,an r,an t3,an s,aK,Zo,TZ,next (by unfold gw;rw[Zj (λe=>by rw[e.2]at UR;cases UR)])⟩
      |false=>
       have VN:en (bi g) x.2.on=none:=by
        cases e:en (bi g) x.2.on with
        |none=>rfl
        |some _=>rw[e]at UR;cases UR
       have V4:gw (bi g) x=(23,x.2.di):=by unfold gw;rw[Zv ⟨UK,VN⟩]
       have VM:ev (gw (bi g)) (bi g)=(23,x.2.di):=by rw[tK T5 T7 (by rw[V4];show(23:Int)≠0;decide),V4]
       refine dw @s @t9 @U2 @Uo @Vc @T6 ⟨?_⟩
       refine(jn (j:=TY+1) (h:=UF) Y 23 x.2.di Zo).Zm ?_
       rintro W9 VE Vq ⟨rfl,VH⟩
       obtain⟨Vw,UD,UQ⟩:=fin (23,x.2.di) VE Vq (Im U7 Uz VM (by show(23:Int)≠0;decide)) (by show(23:Int)≠0;decide) (TZ.trans VH)
       refine cz @r @fl @fm ⟨?_⟩
       exact⟨by rw[UD],UQ _⟩
   ·clear t0 r t3 s T0 Ui
    rintro B Z T2 ⟨t0,r,t3,s,Un,t⟩
    have Uj:=t.le
    have VI:=UM.trans t
    refine cz @t0 @t3 @s ⟨?_⟩
    refine(FE (P:=P) (bn:=dm (G+1) C) (j:=T2) (h:=Z) Y Zo (US.T (UV _ _ VI) λ_ e=>e) U4.qk (λa p=>zu (U5 a p)) UT (U8.T λa p=>t.T a p.2) T4 (λa p=>zu p.2) Zo (zu Ug.ap.2.2.2) V2 (λL Ve=>ZD (Ug.ee L Ve) Zd)).Zm ?_
    rintro VB U9 TY ⟨rfl,UC⟩
    have VV:=UC.le
    have UO:=t.trans UC
    have Ul:=Ik U7 Uz Un
    generalize gE U H g=f at Ul
    by_cases UP:f.1=0
    ·have T6:decide (f.1≠0)=false:=by simp[UP]
     have VQ:J X U9 j=some (.cells UA 2 .own):=by rw[UO.T _ Zo];exact UZ
     rw[Ul,Zj (by simp[UP])]at U6
     refine de @fl @fm @T6 @t3 @VF ⟨?_⟩
     exact⟨m,Zo,H+1,an t0,an r,aK,Zo,UM.trans (UO.trans dG),Zo,⟨UA,by simp(disch:=omega) only[aY];exact VQ⟩,U6⟩
    ·have T6:decide (f.1≠0)=true:=by simp[UP]
     obtain⟨VG,UD,UQ⟩:=fin f U9 TY Ul UP UO
     refine de @fl @fm @T6 @r @VG ⟨?_⟩
     exact⟨by rw[UD],Zo,λa p=>by simp(disch:=omega) only[aY];exact(UM.trans UO).T a p⟩
end
end
open Go.S
set_option maxRecDepth 100000
set_option maxHeartbeats 4000000
noncomputable section
variable (X : bU) (a : I ae) (b : Nat) (R af : bh) (a0 aH aZ a3 a4 a5 dY d3 dE : y)
def wa:Za0:=λa b c d e f g=>aN a 5 [b,c] d e (λb c d=>aN a 12 [b] c d (λc d e=>aN a 6 [b] d e (λb d e=>aN a 13 [b] d e (λb d e=>q (ce a d .eql 31 false c b) λb=>al (λa c d=>bS (λa=>f a c d) λc=>aD b (c a) (c .zF)) λc=>ag true b (aN a 14 [] d e (λa b d=>c a b d) g) (c S.undef d e)) g) g) g) g
def CN:co X 4 [a0,aH]=wa X a0 aH:=Zk
def CM:cb X 4 2=true:=Zk
def so(a:aC)(b:bh):db:=λc d e=>hW a [.cell 2 29, .cell 3 31] b c c.aA d e
def y9(a:aC)(b c:bh):iM:=λd e f g=>kn a [.cell 2 29, .cell 3 31] b c d e d.aA f g
def wF:Za1:=λa b c d e f=>q (cu [.bC] d) λg=>b4 a c d g.1 g.2 λc d g=>q (cu [.Z 0,.Z 0] g) λh=>b4 a d g h.1 h.2 λd g h=>aN a 24 [b] g h (λg h i=>q (cu [.Z 0,.Z 0] i) λj=>b4 a h i j.1 j.2 λh i j=>q (bj a i 2 h g) λg=>q (aq 0 h) λi=>q (W a g i) λi=>q (ah .neq i (.Z 0)) λi=>av (λb c d=>Q (b 2) λg=>Q (b 3) λh=>tr (.func (.func 25) [] [g,h]) [] b λb=>b4 a c d (.map d) (.map [] 0) λc d g=>q (cr [.fF] [(0,1,c)]) λc=>eU a d g c λc d g=>Q (b 2) λh=>q (bj a d 1 h c) λc=>Q (b 2) λd=>q (W a c d) λd=>Q (b 0) λh=>q (cr [.bC, .bC, .bC] [(0,1,d),(1,1,h)]) λd=>eU a c g d λc d g=>Q (b 0) λh=>q (a2 h) λh=>q (aq 0 h) λh=>q (W a d h) λh=>q (bL h) λi=>av (λb c d=>Q (b 2) λf=>q (W a c f) λf=>q (cr [.Z 0,.Z 0] []) λg=>Q (b 2) λh=>q (bj a c 1 h f) λc=>Q (b 3) λf=>q (bj a c 2 f g) λc=>so a e b c d) λj=>cC (λb c d g=>Q (c 27) λh=>Q (c 26) λi=>q (ah .lss h i) λh=>av (λc d g=>av (λa c d=>Q (a 27) λe=>q (ah .add e (.Z 1)) λe=>b (K a 27 e) c d) λb=>Q (c 25) λh=>Q (c 27) λi=>q (bK 6 h i) λh=>q (br a d 6 h) λh=>q (cu [.str [],.Z 0, .az, .az, .az, .az] g) λi=>b4 a d g i.1 i.2 λd g i=>q (bj a g 6 d h) λg=>Q (c 5) λh=>q (br a g 6 d) λj=>aN a 26 [h,j] g i (λ_ a e=>b (K c 7 d) a e) (y9 a e f (ed [31,32,33] (K c 7 d)))) λa=>aD h (a (K c 28 h) d g) (j (K c 28 h) d g)) (zE b 5 c 25 h 26 i 27 (.Z 0)) d g) λf=>aD i (dx (j+3) λf=>q (br a g 2 h) λj=>q (bj a g 1 c .bC) λg=>q (br a g 2 h) λk=>eR k (some j) (q (bj a g 2 d j) λg=>so a e (zE (bR [b]) 2 c 3 d 4 h 12 i) g f)) (f (zE (bR [b]) 2 c 3 d 4 h 12 i) g j)) (y9 a e f (ed [8,9,4] (zC (bR [b]) 2 c 3 d)))
def DD:ns X 8 [a0] a b R af=wF X a0 a b R af:=Zk
def DC:cb X 8 1=true:=Zk
def wN:Za1:=λa b c d e f=>q (cu [.Z 0,.Z 0] d) λg=>b4 a c d g.1 g.2 λc d g=>aN a 27 [b] d g (λd g h=>q (cu [.Z 0,.Z 0] h) λi=>b4 a g h i.1 i.2 λg h i=>q (bj a h 2 g d) λd=>q (aq 0 g) λh=>q (W a d h) λh=>q (ah .neq h (.Z 0)) λh=>av (λb c d=>av (λb c d=>q (cr [.Z 0,.Z 0] []) λf=>Q (b 2) λg=>q (bj a c 2 g f) λc=>Q (b 2) λb=>q (br a c 2 b) λa=>e a c d) λg=>cC (λb c d h=>Q (c 4) λi=>Q (c 0) λj=>q (a2 j) λj=>q (aq 0 j) λj=>q (W a d j) λj=>q (bL j) λj=>q (ah .lss i j) λi=>av (λc d g=>av (λa c d=>Q (a 4) λe=>q (ah .add e (.Z 1)) λe=>b (K a 4 e) c d) λb=>Q (c 0) λh=>Q (c 0) λi=>q (a2 i) λi=>q (aq 0 i) λi=>q (W a d i) λi=>Q (c 4) λj=>q (bK 6 i j) λi=>q (br a d 6 i) λi=>aN a 28 [h,i] d g (λd f g=>Q (c 3) λh=>q (bj a f 2 h d) λd=>Q (c 3) λf=>q (aq 0 f) λf=>q (W a d f) λf=>q (ah .neq f (.Z 0)) λf=>av b λb=>aD f (Q (c 3) λb=>q (br a d 2 b) λb=>Q (c 2) λf=>q (bj a d 2 f b) λb=>Q (c 2) λc=>q (br a b 2 c) λa=>e a b g) (b (K c 31 f) d g)) f) λa=>aD i (a (K c 17 i) d h) (g (K c 17 i) d h)) (K b 4 (.Z 0)) c d) λf=>aD h (q (br a d 2 g) λb=>q (bj a d 2 c b) λb=>q (br a b 2 c) λa=>e a b i) (f (zD (bR [b]) 2 c 3 g 9 h) d i)) f
def DJ:co X 9 [a0]=wN X a0:=Zk
def DI:cb X 9 1=true:=Zk
def vG:Za1:=λa b c d e f=>q (cu [.Z 0,.Z 0] d) λg=>b4 a c d g.1 g.2 λc d g=>aN a 8 [b] d g (λd g h=>q (dD 0 d) λ_=>q (dD 1 d) λd=>q (cu [.Z 0,.Z 0] h) λi=>b4 a g h i.1 i.2 λg h i=>q (bj a h 2 g d) λd=>q (aq 0 g) λh=>q (W a d h) λh=>q (ah .neq h (.Z 0)) λh=>av (λb c d=>Q (b 0) λg=>q (a2 g) λg=>q (aq 0 g) λg=>q (W a c g) λg=>q (bL g) λh=>av (λb c d=>q (cr [.Z 0,.Z 0] []) λf=>Q (b 2) λg=>q (bj a c 2 g f) λc=>Q (b 2) λb=>q (br a c 2 b) λa=>e a c d) λi=>cC (λb c d g=>Q (c 25) λh=>Q (c 24) λj=>q (ah .lss h j) λh=>av (λc d g=>av (λa c d=>Q (a 25) λe=>q (ah .add e (.Z 1)) λe=>b (K a 25 e) c d) λb=>Q (c 23) λh=>Q (c 25) λi=>q (bK 6 h i) λh=>q (br a d 6 h) λh=>q (cu [.str [],.Z 0, .az, .az, .az, .az] g) λi=>b4 a d g i.1 i.2 λd g i=>q (bj a g 6 d h) λg=>q (aq 5 d) λh=>q (W a g h) λh=>q (bL h) λj=>av b λb=>cC (λc d g h=>Q (d 32) λi=>Q (d 31) λj=>q (ah .lss i j) λi=>av (λb d g=>av (λa b d=>Q (a 32) λe=>q (ah .add e (.Z 1)) λe=>c (K a 32 e) b d) λc=>Q (b 30) λh=>Q (b 32) λi=>q (bK 4 h i) λh=>q (br a d 4 h) λh=>q (cu [.az, .az,.Z 0, .bC] g) λi=>b4 a d g i.1 i.2 λd g i=>q (bj a g 4 d h) λg=>q (cu [.bC] i) λh=>b4 a g i h.1 h.2 λg h i=>q (aq 3 d) λj=>q (W a h j) λj=>aN a 33 [j,(.func (.func 34) [] [g])] h i (λf h i=>av c λc=>q (W a h g) λj=>q (ce a h .neq 59 true j .bC) λj=>av c λc=>aD j (q (W a h g) λc=>q (a2 c) λc=>q (aq 1 c) λc=>q (W a h c) λc=>q (cr [.Z 0,.Z 0] [(0,1,(.Z 28)),(1,1,c)]) λc=>Q (b 2) λd=>q (bj a h 2 d c) λc=>Q (b 2) λb=>q (br a c 2 b) λa=>e a c i) (q (ah .gtr f (.Z 0)) λk=>av c λc=>aD k (q (aq 2 d) λc=>q (W a h c) λc=>q (cr [.Z 0,.Z 0] [(0,1,(.Z 28)),(1,1,c)]) λc=>Q (b 2) λd=>q (bj a h 2 d c) λc=>Q (b 2) λb=>q (br a c 2 b) λa=>e a c i) (c (K (zE b 8 d 9 g 10 f 40 j) 48 k) h i))) f) λa=>aD i (a (K d 33 i) g h) (b (K d 33 i) g h)) (zE c 6 d 30 h 31 j 32 (.Z 0)) g i) λa=>aD h (a (K c 26 h) d g) (i (K c 26 h) d g)) (zD b 23 g 24 h 25 (.Z 0)) c d) λf=>aD h (q (br a d 2 g) λb=>q (bj a d 2 c b) λb=>q (br a b 2 c) λa=>e a b i) (f (zD (bR [b]) 2 c 4 g 18 h) d i)) f
def BR:co X 12 [a0]=vG X a0:=Zk
def BQ:cb X 12 1=true:=Zk
def vJ:Za1:=λa b c d e f=>q (cu [.Z 0,.Z 0] d) λg=>b4 a c d g.1 g.2 λc d g=>aN a 9 [b] d g (λd g h=>q (cu [.Z 0,.Z 0] h) λi=>b4 a g h i.1 i.2 λg h i=>q (bj a h 2 g d) λd=>q (aq 0 g) λh=>q (W a d h) λh=>q (ah .neq h (.Z 0)) λh=>av (λb c d=>av (λb c d=>q (cr [.Z 0,.Z 0] []) λf=>Q (b 2) λg=>q (bj a c 2 g f) λc=>Q (b 2) λb=>q (br a c 2 b) λa=>e a c d) λg=>cC (λb c d h=>Q (c 4) λi=>Q (c 0) λj=>q (a2 j) λj=>q (aq 0 j) λj=>q (W a d j) λj=>q (bL j) λj=>q (ah .lss i j) λi=>av (λc d g=>av (λa c d=>Q (a 4) λe=>q (ah .add e (.Z 1)) λe=>b (K a 4 e) c d) λb=>av b λb=>cC (λc d g h=>Q (d 5) λi=>Q (d 0) λj=>q (a2 j) λj=>q (aq 0 j) λj=>q (W a g j) λj=>Q (d 4) λk=>q (bK 6 j k) λj=>q (aq 5 j) λj=>q (W a g j) λj=>q (bL j) λj=>q (ah .lss i j) λi=>av (λb d g=>av (λa b d=>Q (a 5) λe=>q (ah .add e (.Z 1)) λe=>c (K a 5 e) b d) λc=>Q (b 0) λh=>q (a2 h) λh=>q (aq 0 h) λh=>q (W a d h) λh=>Q (b 4) λi=>q (bK 6 h i) λh=>q (aq 5 h) λh=>q (W a d h) λh=>Q (b 5) λi=>q (bK 4 h i) λh=>q (br a d 4 h) λh=>q (cu [.az, .az,.Z 0, .bC] g) λi=>b4 a d g i.1 i.2 λd g i=>q (bj a g 4 d h) λg=>q (aq 3 d) λh=>q (W a g h) λh=>aN a 35 [h] g i (λf g h=>q (dD 0 f) λi=>q (dD 1 f) λj=>q (dD 2 f) λf=>q (c0 .not j) λk=>av (λb d f=>Q (b 7) λg=>q (ah .gtr g (.Z 0)) λg=>av c λc=>aD g (Q (b 6) λc=>q (aq 2 c) λc=>q (W a d c) λc=>q (cr [.Z 0,.Z 0] [(0,1,(.Z 28)),(1,1,c)]) λc=>Q (b 2) λg=>q (bj a d 2 g c) λc=>Q (b 2) λb=>q (br a c 2 b) λa=>e a c f) (c (K b 61 g) d f)) λc=>aD k (q (cr [.Z 0,.Z 0] [(0,1,(.Z 28)),(1,1,f)]) λc=>Q (b 2) λd=>q (bj a g 2 d c) λc=>Q (b 2) λb=>q (br a c 2 b) λa=>e a c h) (c (K (zE b 6 d 7 i 8 j 9 f) 57 k) g h)) f) λa=>aD i (a (K d 35 i) g h) (b (K d 35 i) g h)) (K c 5 (.Z 0)) d g) λa=>aD i (a (K c 22 i) d h) (g (K c 22 i) d h)) (K b 4 (.Z 0)) c d) λf=>aD h (q (br a d 2 g) λb=>q (bj a d 2 c b) λb=>q (br a b 2 c) λa=>e a b i) (f (zD (bR [b]) 2 c 3 g 14 h) d i)) f
def BV:co X 13 [a0]=vJ X a0:=Zk
def BU:cb X 13 1=true:=Zk
end
end Go.Proofs.YtmipngjbcdamjaaGreatDoor

namespace Go.Proofs.YtmipngjbcdamjaaGreatDoor
open Go.S
noncomputable section
end
open Go.S Go.a8
noncomputable section
section
variable{X:bU}{h E cH ay aO:I ae}{j ar aL aR bz:Nat}{bp d2 P bn:Nat->Prop}
def HM(p:y):iO X h 29 p=W X h p:=Zk
def HN(p:y):iO X h 31 p=br X h 2 p:=Zk
def Fv(a b c d:Int):fW X h 50 31 (.agg [.Z a, .Z b]) (.agg [.Z c, .Z d])=(match some (js a c)with|some true=>(match some (js b d)with|some true=>some true|some false=>some false|none=>none)|some false=>some false|none=>none):=Zk
def Fu(a b:Int):ce X h .eql 31 false (.agg [.Z a, .Z b]) (.agg [.Z a, .Z b])=some .zT:=by
 have e:ce X h .eql 31 false (.agg [.Z a, .Z b]) (.agg [.Z a, .Z b])=(match fW X h 50 31 (.agg [.Z a, .Z b]) (.agg [.Z a, .Z b])with|some b=>gY b|none=>none):=Zk
 rw[e,Fv,mq,mq]
 simp
def JG{R:bh}{B:ca}{p L v w:y}(c:B.aA=[])(a:B.g 2=some p)(b:B.g 3=some L)(d:W X h p=some v)(f:br X h 2 L=some w)(e:R (.tuple [v,w]) h j):so X R B h j:=by
 unfold so
 rw[c]
 show Q (B.g 2) (λp=>q (iO X h 29 p) λv=>Q (B.g 3) λp=>q (iO X h 31 p) λw=>R (.tuple [v,w]) h j)
 rw[a,b]
 refine iZ ?_
 rw[HM,d]
 refine i1 ?_
 refine iZ ?_
 rw[HN,f]
 exact i1 e
def D6(a b:Int):y.same 30 (.agg [.Z a, .Z b]) (.agg [.Z a, .Z b])=true:=by simp[y.same,jx,o3]
def Lo(t:dU X)(T1:jQ X){U:List Go.a8.Node}{v:y}(T6:(u X).aP<=j)(T2:gf X h P U v)(x:∀a,P a->a<j)(C:∀g∈U,hB g)(T3:U.length<=1000):
 aN X 8 [v] h j (λN E ar=>N= .tuple [.bC, .agg [.Z (f6 U).1, .Z (f6 U).2]]/\a1 X h j E ar) zG:=by
 refine q3 (DC X) (t.none _ _ rfl) ?_
 rw[DD]
 unfold wF
 refine bl ⟨?_⟩
 refine l9 (λay=>J X ay j=zy [.bC] 1/\J X ay (j+1)=zy [.Z 0, .Z 0] 2/\a1 X h j ay (j+1+1)) ⟨by exact zL,by rw[bb Zo];rfl,dG⟩ ?_
 rintro ay ⟨r,s,m⟩
 refine(J9 (P:=P) (j:=j+1+1) (h:=ay) t T1 Zo (T2.T (bn:=P) (λa n=>m.T a (x a n)) (λ_ e=>e)) (λa n=>zu (x a n)) C T3).Zm ?_
 rintro N aO aR ⟨rfl,b⟩
 have T5:=b.le
 have O:J X aO j=zy [.bC] 1:=by rw[b.T _ Zo];exact r
 have Y:J X aO (j+1)=zy [.Z 0, .Z 0] 2:=by rw[b.T _ Zo];exact s
 have T0:=m.trans b
 clear r s m b
 have z:=sw C
 generalize f6 U=f at z ⊢
 obtain⟨cc,p⟩:=f
 have d:decide (cc≠0)=true:=by simpa using z
 refine cn @d @O ⟨?_⟩
 refine fi (D6 _ _) ?_
 refine bG @Y ⟨?_⟩
 generalize c:Go.S.aS X _ (j+1) _=i
 have T4:J X i j=some (.cells (cO (I.ofList [.bC] 0 .nil) 0 [.bC]) 1 .own):=by rw[<-c];exact zL
 have G:J X i (j+1)=some (.cells (cO (I.ofList [.Z 0, .Z 0] 0 .nil) 0 [.Z cc, .Z p]) 2 .own):=by rw[<-c,bb Zo];rfl
 have z3:∀a,a<j->J X i a=J X h a:=λa Z=>by rw[<-c];simp(disch:=omega) only[aY];exact T0.T a Z
 clear c
 exact JG (v:= .bC) (w:= .agg [.Z cc, .Z p]) rfl (cA) (cA) (by rw[ba T4,iJ];rfl) (by rw[jw,ba G,ba G,iJ,iJ];rfl) ⟨rfl,Zo,z3⟩
def Jw(r:dU X){U:List Go.a8.Node}{v:y}(G:(u X).aP<=j)(z:gf X h P U v)(s:∀a,P a->a<j)(w:∀g∈U,hB g)(C:U.length<=1000):
 aN X 9 [v] h j (λN E ar=>N= .agg [.Z (f6 U).1, .Z (f6 U).2]/\a1 X h j E ar) zG:=by
 refine zB r.todX (DI X) ?_
 rw[DJ]
 unfold wN
 refine hI ?_
 generalize n:aS X h j _=ay
 have i:∃c,J X ay j=some (.cells c 2 .own):=⟨_,by rw[<-n,bb G];rfl⟩
 have p:a1 X h j ay (j+1):=by rw[<-n];exact dG
 clear n
 obtain⟨O,i⟩:=i
 refine(EH (P:=P) (j:=j+1) (h:=ay) r Zo (z.T (bn:=P) (λa b=>p.T a (s a b)) (λ_ e=>e)) (λa b=>zu (s a b)) w C).Zm ?_
 rintro N aO aR ⟨rfl,m⟩
 have Z:=m.le
 rw[<-m.T _ Zo]at i
 have x:=p.trans m
 have t:=sw w
 generalize f6 U=f at t ⊢
 obtain⟨cc,Y⟩:=f
 have d:decide (cc≠0)=true:=by simpa using t
 refine cP @d @i @fl @fm ⟨?_⟩
 exact⟨rfl,Zo,λa b=>by simp(disch:=omega) only[aY];exact x.T a b⟩
def GQ(r:dU X)(z:jQ X){U:List Go.a8.Node}{v:y}(O:(u X).aP<=j)(C:gf X h P U v)(s:∀a,P a->a<j)(w:∀g∈U,hB g)(G:U.length<=1000):
 aN X 12 [v] h j (λN E ar=>N= .agg [.Z (f6 U).1, .Z (f6 U).2]/\a1 X h j E ar) zG:=by
 refine zB r.todX (BQ X) ?_
 rw[BR]
 unfold vG
 refine hI ?_
 generalize n:aS X h j _=ay
 have i:∃c,J X ay j=some (.cells c 2 .own):=⟨_,by rw[<-n,bb O];rfl⟩
 have p:a1 X h j ay (j+1):=by rw[<-n];exact dG
 clear n
 obtain⟨Y,i⟩:=i
 refine(Lo (P:=P) (j:=j+1) (h:=ay) r z Zo (C.T (bn:=P) (λa b=>p.T a (s a b)) (λ_ e=>e)) (λa b=>zu (s a b)) w G).Zm ?_
 rintro N aO aR ⟨rfl,m⟩
 have T0:=m.le
 rw[<-m.T _ Zo]at i
 have x:=p.trans m
 have t:=sw w
 generalize f6 U=f at t ⊢
 obtain⟨cc,Z⟩:=f
 have d:decide (cc≠0)=true:=by simpa using t
 refine cP @d @i @fl @fm ⟨?_⟩
 exact⟨rfl,Zo,λa b=>by simp(disch:=omega) only[aY];exact x.T a b⟩
def Jx(r:dU X){U:List Go.a8.Node}{v:y}(G:(u X).aP<=j)(z:gf X h P U v)(s:∀a,P a->a<j)(w:∀g∈U,hB g)(C:U.length<=1000):
 aN X 13 [v] h j (λN E ar=>N= .agg [.Z (f6 U).1, .Z (f6 U).2]/\a1 X h j E ar) zG:=by
 refine zB r.todX (BU X) ?_
 rw[BV]
 unfold vJ
 refine hI ?_
 generalize n:aS X h j _=ay
 have i:∃c,J X ay j=some (.cells c 2 .own):=⟨_,by rw[<-n,bb G];rfl⟩
 have p:a1 X h j ay (j+1):=by rw[<-n];exact dG
 clear n
 obtain⟨O,i⟩:=i
 refine(Jw (P:=P) (j:=j+1) (h:=ay) r Zo (z.T (bn:=P) (λa b=>p.T a (s a b)) (λ_ e=>e)) (λa b=>zu (s a b)) w C).Zm ?_
 rintro N aO aR ⟨rfl,m⟩
 have Z:=m.le
 rw[<-m.T _ Zo]at i
 have x:=p.trans m
 have t:=sw w
 generalize f6 U=f at t ⊢
 obtain⟨cc,Y⟩:=f
 have d:decide (cc≠0)=true:=by simpa using t
 refine cP @d @i @fl @fm ⟨?_⟩
 exact⟨rfl,Zo,λa b=>by simp(disch:=omega) only[aY];exact x.T a b⟩
end
section
variable{X:bU}{h E cH ay aO:I ae}{j ar aL aR bz:Nat}{bp d2 P bn:Nat->Prop}
set_option maxRecDepth 100000 in
def Hr(c:dU X)(O:jQ X)(T4:(u X).dy 14 []=some .zT)(t:(u X).aP<=j){a0 aH:y}{p:Int}{n:Nat}(Z:bL a0=some (.Z p))(T2:∀E,il X E 1 a0 none (some (.Z (min p 400))) none=some aH)(T0:bL aH=some (.Z (n:Int)))(T1:n<=400)(C:sU X aH n){r:Nat}(T3:r<256):
 aN X 4 [a0, .int .u8 (r:Int)] h j (λN E ar=>N= .zT/\j<=ar) zG:=by
 refine zB c.todX (CM X) ?_
 rw[CN]
 unfold wa
 refine(HV c.todX t Z T2 T0 T1 C T3).Zm ?_
 rintro v ay aL ⟨⟨U,m,f,d⟩,T7⟩
 refine(GQ (j:=aL) (h:=ay) c O Zo m (λa b=>b.2) d f).Zm ?_
 rintro N aO aR ⟨rfl,i⟩
 have T8:=i.le
 have G:=m.T (bn:=λa=>j<=a/\a<aL) (λa b=>i.T a b.2) λ_ e=>e
 refine(Bp (j:=aR) (h:=aO) c.todX Zo G (λa b=>zu b.2) f λg Y=>(d g Y).ap).Zm ?_
 rintro w s T5 ⟨P,x⟩
 have T9:=x.le
 refine(Jx (j:=T5) (h:=s) c Zo P (λa b=>Zo) d f).Zm ?_
 rintro N T6 TZ ⟨rfl,z⟩
 have TY:=z.le
 refine bG @Fu ⟨?_⟩
 refine th T4 ?_
 refine bl ⟨?_⟩
 exact⟨rfl,Zo⟩
end
structure oe(X:bU):Prop where
 aP:X.aP=23
 get:∀b,b<22->X.G.get b=dH.get b
section
variable{X:bU}{h:I ae}
def oe.J(e:oe X){b:Nat}(ab:b<22):J X h b=dH.get b:=by
 have l:Nat.blt b (u X).aP=true:=by
  show Nat.blt b X.aP=true
  rw[e.aP];simp[Nat.blt];omega
 unfold Go.S.J
 rw[l,cS]
 exact e.get b ab
def oe.oO(e:oe X){b n:Nat}(ab:b<22){c:I y}{st:h5}(a:dH.get b=some (.cells c n st))(D:Nat):W X h (.ptr b D)=c.get D:=ba (by rw[e.J ab];exact a) D
def FB(a b:Int):fW X h 20 3 (.int .i64 a) (.int .i64 b)=some (js a b):=Zk
def IG(a:Int):fX X 20 3 (.int .i64 a)=true:=Zk
def HO(w:Int):∀a:List (Int×y),(a.map Prod.fst).Nodup->hQ X h 3 (.int .i64 w) (a.map λl=>(y.int .i64 l.1,l.2))=some ((a.find? λl=>decide (l.1=w)).map Prod.snd):=by
 intro a
 induction a with
 |nil=>intro _;rfl
 |cons l a V=>
  intro b
  rw[ZS,List.nodup_cons]at b
  simp only[ZS,hQ,V b.2,FB,mq,List.find?_cons]
  by_cases e:l.1=w
  ·have d:a.find? (λl=>decide (l.1=w))=none:=by
    rw[zl]
    intro x g f
    have:x.1=w:=by simpa using f
    exact b.1 (by rw[e, <-this];exact List.mem_map_of_mem g)
   simp[e,d]
  ·have c:¬w=l.1:=λL=>e L.symm
   simp[e,c]
noncomputable def o6:List (Int×(Int×Bool×Bool×Bool)):=[1,2,3,4,5,6,19,20,23,24,25,26].map λo:Int=>(o,(jJ o).getD (0,false,false,false))
def GB:dH.get 15=some (.look ((o6.map λl=>(l.1,y.agg (hX l.2))).map λl=>(y.int .i64 l.1,l.2))):=Zk
def Kl(o:Int):(o6.find? λl=>decide (l.1=o)).map Prod.snd=jJ o:=by
 by_cases a:o=1\/o=2\/o=3\/o=4\/o=5\/o=6\/o=19\/o=20\/o=23\/o=24\/o=25\/o=26
 ·rcases a with rfl|rfl|rfl|rfl|rfl|rfl|rfl|rfl|rfl|rfl|rfl|rfl<;>decide
 ·have d:jJ o=none:=by
   unfold jJ
   rw[Zj Zo,Zj Zo,Zj Zo,Zj Zo,Zj Zo,Zj Zo,Zj Zo,Zj Zo,Zj Zo]
  rw[d]
  have:o6.find? (λl=>decide (l.1=o))=none:=by
   rw[zl]
   intro x g f
   have b:x.1=o:=by simpa using f
   obtain⟨i,c,rfl⟩:=ZB.1 g
   simp only at b
   subst b
   simp only[Zz,List.not_mem_nil,or_false]at c
   exact a c
  rw[this];rfl
def Gl(e:oe X):jQ X:=⟨λh=>⟨.map 15,by rw[e.oO Zd GC];rfl,λo=>by
 have a:J X h 15=_:=(e.J Zd).trans GB
 have c:((o6.map λl=>(l.1,y.agg (hX l.2))).map Prod.fst).Nodup:=by decide
 simp only[gs,a,IG,cS,HO o _ c]
 have b:((o6.map λl=>(l.1,y.agg (hX l.2))).find? λl=>decide (l.1=o)).map Prod.snd=(jJ o).map λs=>y.agg (hX s):=by
  rw[<-Kl o,List.find?_map]
  have:((λl:Int×y=>decide (l.1=o))∘λl:Int×(Int×Bool×Bool×Bool)=>(l.1,y.agg (hX l.2)))=λl=>decide (l.1=o):=rfl
  rw[this]
  cases o6.find? (λl=>decide (l.1=o))<;>rfl
 rw[b]
 cases jJ o with
 |none=>rfl
 |some s=>rfl⟩⟩
end
end
end Go.Proofs.YtmipngjbcdamjaaGreatDoor

namespace Go.Proofs
open Go.Shelf
def Tryz.Hz:Go.Shelf.Ren:=⟨fun|316=>173|n=>n,fun|9=>9|3=>3|4=>4|37=>147|0=>0|127=>268|5=>5|n=>n,fun|n=>n⟩
def Tryz.Hy:Go.Proofs.LaysM.n316 Tryz.prog Tryz.Hz:={
 mixed:=Zk
 f316:=Tryz.func173.trans (congrArg some Zk)
 t0:=Tryz.underlying0
 a0:=Tryz.isAgg0
 z0:=Tryz.sizeOf0
 v0:=Tryz.zeroValue0
 t3:=Tryz.underlying3
 a3:=Tryz.isAgg3
 z3:=Tryz.sizeOf3
 v3:=Tryz.zeroValue3
 t4:=Tryz.underlying4
 a4:=Tryz.isAgg4
 z4:=Tryz.sizeOf4
 v4:=Tryz.zeroValue4
 t9:=Tryz.underlying9
 a9:=Tryz.isAgg9
 z9:=Tryz.sizeOf9
 v9:=Tryz.zeroValue9
 t37:=Tryz.underlying147
 a37:=Tryz.isAgg147
 z37:=Tryz.sizeOf147
 v37:=Tryz.zeroValue147
 t127:=Tryz.underlying268
 a127:=Tryz.isAgg268
 z127:=Tryz.sizeOf268
 v127:=Tryz.zeroValue268
 t5:=Tryz.underlying5
 a5:=Tryz.isAgg5
 z5:=Tryz.sizeOf5
 v5:=Tryz.zeroValue5
 i0:=Zk
 i3:=Zk
 i4:=Zk
 i5:=Zk
 i9:=Zk
 i37:=Zk
 i127:=by kernel_rfl}
open Go.RowKit in
def Tryz.stringslite_Clone(s:ByteArray)(w:World)(a:s.size<=281474976710656):
 Calls Tryz.prog 173 #[.string s] w λl aM=>l= .returned (.string s)/\Below w.heap.size w aM:=Any.stringslite_Clone Tryz.Hy s w a
end Go.Proofs

