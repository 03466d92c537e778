/- Part of the proof of the last text; no conditions -/
import Derived.Test.YtmipngjbcdamjaaGreatDoorYn
import Derived.Test.YtmipngjbcdamjaaGreatDoorRows
import Derived.ProofKit
set_option maxHeartbeats 8000000
set_option linter.all false
namespace Go.Proofs.YtmipngjbcdamjaaGreatDoor
open Go.Q Go.a6
noncomputable section
def fo(h:List (Int×bv))(s:List aT×(Int×Int))(x:aT×Int):List aT×(Int×Int):=
 if s.2.1≠0 then s else match ei h x.1 with
  |none=>(s.1,(23,x.2))
  |some k=>if k=1\/x.1∈s.1 then(s.1,(24,x.2))else(s.1++[x.1],(0,0))
def fP(h:List (Int×bv))(T:List Go.a6.Node)(k:Nat)(s:List aT×(Int×Int))(J:dL):List aT×(Int×Int):=
 if ((eL J).foldl (fo h) s).2.1≠0 then(eL J).foldl (fo h) s else(((eL J).foldl (fo h) s).1,es (eb h T k) (dH J.right))
def ij(ds:List aT)(x:Int×bv):Int×Int:=if x.1≠1/\x.2.name∉ds then(37,x.2.at_)else(0,0)
def gB(T:List Go.a6.Node)(k:Nat)(g:Go.a6.Node):Int×Int:=
 if (g.eqs.foldl (fP (bf g) T k) ([],(0,0))).2.1≠0 then(g.eqs.foldl (fP (bf g) T k) ([],(0,0))).2 else es (ij (g.eqs.foldl (fP (bf g) T k) ([],(0,0))).1) (bf g)
structure fb(s:(aT->Option Int)×(Int×Int))(t:List aT×(Int×Int)):Prop where
 f:s.2=t.2
 z:s.2.1=0->s.2=(0,0)/\∀w,0<=(s.1 w).getD 0/\(w∈t.1↔0<(s.1 w).getD 0)
def fb.left{g:Go.a6.Node}{s:(aT->Option Int)×(Int×Int)}{t:List aT×(Int×Int)}(e:fb s t)(x:aT×Int):fb (g2 (cR g) s x) (fo (bf g) t x):=by
 have i:=e.f
 by_cases d:s.2.1=0
 ·obtain⟨r,z⟩:=e.z d
  have G:t.2.1=0:=by rw[<-i];exact d
  have C:∀c a:Int,fe s.2 c a=(c,a):=λc a=>oB d c a
  have P:=z x.1
  have f:=vd g x.1
  unfold g2 fo oN
  rw[Zj Zo]
  cases O:cR g x.1 with
  |none=>
   rw[O]at f
   rw[<-f]
   simp only[YD,C]
   exact⟨rfl,λe=>absurd e (by show(23:Int)≠0;decide)⟩
  |some v=>
   rw[O]at f
   rw[<-f]
   simp only[ZJ,C]
   by_cases b:v.kind=1\/x.1∈t.1
   ·have m:v.kind=1\/1<(s.1 x.1).getD 0+1:=by
     rcases b with b|b
     ·exact .inl b
     ·have:=P.2.1 b;exact .inr Zo
    simp only[Zv b,Zv m]
    exact⟨rfl,λe=>absurd e (by show(24:Int)≠0;decide)⟩
   ·have m:¬(v.kind=1\/1<(s.1 x.1).getD 0+1):=by
     rintro(e|e)
     ·exact b (.inl e)
     ·exact b (.inr (P.2.2 Zo))
    simp only[Zj b,Zj m]
    refine⟨r,λ_=>⟨r,λw=> ?_⟩⟩
    simp only
    by_cases n:w=x.1
    ·subst n
     simp only[ZP,Y0,Zr,ZF]
     exact⟨Zo,λ_=>Zo,λ_=> .inr trivial⟩
    ·simp only[Zj n,Zr,ZF,n,or_false]
     exact z w
 ·have G:t.2.1≠0:=by rw[<-i];exact d
  have p:=yD (cR g) s x d
  have S:fo (bf g) t x=t:=by unfold fo;rw[Zv G]
  rw[S]
  exact⟨by rw[p];exact i,λe=>absurd (by rw[p]at e;exact e) d⟩
def fb.HE{g:Go.a6.Node}:∀(a:List (aT×Int)) {s:(aT->Option Int)×(Int×Int)}{t:List aT×(Int×Int)},fb s t->fb (a.foldl (g2 (cR g)) s) (a.foldl (fo (bf g)) t):=by
 intro a
 induction a with
 |nil=>intro s t e;exact e
 |cons x a U=>intro s t e;exact U (e.left x)
def fb.tB{g:Go.a6.Node}{T:List Go.a6.Node}{k:Nat}{s:(aT->Option Int)×(Int×Int)}{t:List aT×(Int×Int)}(e:fb s t)(J:dL):fb (e4 (cR g) T k s J) (fP (bf g) T k t J):=by
 have a:=e.HE (g:=g) (eL J)
 unfold e4 fP
 generalize (eL J).foldl (g2 (cR g)) s=m at a
 generalize (eL J).foldl (fo (bf g)) t=d at a
 by_cases b:m.2.1=0
 ·obtain⟨f,i⟩:=a.z b
  have c:¬d.2.1≠0:=by rw[<-a.f];omega
  rw[Zj c,f,JO]
  exact⟨rfl,λe=>⟨tL uO _ e,i⟩⟩
 ·have c:d.2.1≠0:=by rw[<-a.f];exact b
  rw[Zv c,Az _ _ _ _ _ b]
  exact⟨a.f,λe=>absurd e b⟩
def fb.eqns{g:Go.a6.Node}{T:List Go.a6.Node}{k:Nat}:∀(dc:List dL) {s:(aT->Option Int)×(Int×Int)}{t:List aT×(Int×Int)},fb s t->fb (dc.foldl (e4 (cR g) T k) s) (dc.foldl (fP (bf g) T k) t):=by
 intro dc
 induction dc with
 |nil=>intro s t e;exact e
 |cons x a U=>intro s t e;exact U (e.tB x)
def Lo{ds:List aT}(x:Int×bv):(ij ds x).1=0->ij ds x=(0,0):=by
 unfold ij
 split
 ·intro e;exact absurd e (by show(37:Int)≠0;decide)
 ·intro _;rfl
def FI(g:Go.a6.Node)(T:List Go.a6.Node)(k:Nat):(bf g).foldl (f5 (g.eqs.foldl (e4 (cR g) T k) (λ_=>none,(0,0))).1) (g.eqs.foldl (e4 (cR g) T k) (λ_=>none,(0,0))).2=gB T k g:=by
 have e:fb (g.eqs.foldl (e4 (cR g) T k) (λ_=>none,(0,0))) (g.eqs.foldl (fP (bf g) T k) ([],(0,0))):=fb.eqns g.eqs ⟨rfl,λ_=>⟨rfl,λw=>Zs⟩⟩
 unfold gB
 generalize g.eqs.foldl (e4 (cR g) T k) (λ_=>none,(0,0))=s at e
 generalize g.eqs.foldl (fP (bf g) T k) ([],(0,0))=t at e
 by_cases c:s.2.1=0
 ·obtain⟨i,m⟩:=e.z c
  have b:¬t.2.1≠0:=by rw[<-e.f];omega
  rw[Zj b,i]
  refine tQ (λf x e=>sB _ _ _ e) (λx=> ?_) Lo _
  unfold f5 ij
  have d:=m x.2.name
  by_cases a:x.1≠1/\x.2.name∉t.1
  ·have e1:x.1≠1/\(s.1 x.2.name).getD 0=0:=⟨a.1,zu (mt d.2.2 a.2)⟩
   rw[Zv a,Zv e1]
   exact oB rfl _ _
  ·have e1:¬(x.1≠1/\(s.1 x.2.name).getD 0=0):=λe=>a ⟨e.1,λn=>zu (d.2.1 n)⟩
   rw[Zj a,Zj e1]
 ·have b:t.2.1≠0:=by rw[<-e.f];exact c
  rw[Zv b,nn (λf x e=>sB _ f x e) _ _ c]
  exact e.f
def gh:List aT->List (Int×bv)->Int×Int
 |_,[]=>(0,0)
 |c6,x::h=>if x.2.name∈c6 then(24,x.2.at_)else gh (c6++[x.2.name]) h
def gs(h:List (Int×bv))(x:Int×bv):Int×Int:=if x.2.on≠[]/\ei h x.2.on=none then(23,x.2.dg)else(0,0)
def iW(T:List Go.a6.Node)(k:Nat)(g:Go.a6.Node):Int×Int:=
 if (((eh T g.name).getD 0:Nat):Int)<(k:Int)then(24,g.at_)else if (gh [] (bf g)).1≠0 then gh [] (bf g)else if (es (gs (bf g)) (bf g)).1≠0 then es (gs (bf g)) (bf g)else gB T k g
def Fk:∀(h:List (Int×bv)) (D:aT->Option Int) (c6:List aT),(∀x∈h,0<x.1)->(∀w,w∈c6↔0<(D w).getD 0)->(h.foldl fJ (D,(0,0))).2=gh c6 h:=by
 intro h
 induction h with
 |nil=>intro D c6 _ _;rfl
 |cons x h U=>
  intro D c6 b e
  rw[ZU,gh]
  by_cases a:x.2.name∈c6
  ·have j:(fJ (D,(0,0)) x).2=(24,x.2.at_):=by
    unfold fJ
    simp only[Zv ((e _).1 a)]
    exact oB rfl _ _
   rw[Zv a,rx (λs x e=>xx s x e) h _ (by rw[j];show(24:Int)≠0;decide),j]
  ·have j:fJ (D,(0,0)) x=((λw=>if w=x.2.name then some x.1 else D w),(0,0)):=by
    unfold fJ
    simp only[Zj (mt (e _).2 a)]
   rw[Zj a,j]
   refine U _ _ (λf d=>b f (Zi _ d)) λw=> ?_
   by_cases c:w=x.2.name
   ·have:=b x (Zl ..)
    simp[c,this]
   ·simp only[Zr,ZF,c,or_false,ZM]
    exact e w
def Fu(g:Go.a6.Node):∀x∈bf g,0<x.1:=by
 intro x a
 unfold bf at a
 rcases Zr.1 a with a|a
 ·obtain⟨d,_,rfl⟩:=ZB.1 a;show(0:Int)<1;decide
 ·rcases Zr.1 a with a|a
  ·obtain⟨d,_,rfl⟩:=ZB.1 a;show(0:Int)<2;decide
  ·obtain⟨d,_,rfl⟩:=ZB.1 a;show(0:Int)<3;decide
def yY{h:List (Int×bv)}(x:Int×bv):(gs h x).1=0->gs h x=(0,0):=by
 unfold gs
 split
 ·intro e;exact absurd e (by show(23:Int)≠0;decide)
 ·intro _;rfl
def Fo:∀(h:List (Int×bv)) (c6:List aT),(gh c6 h).1=0->gh c6 h=(0,0):=by
 intro h
 induction h with
 |nil=>intro c6 _;rfl
 |cons x h U=>
  intro c6
  rw[gh]
  split
  ·intro e;exact absurd e (by show(24:Int)≠0;decide)
  ·exact U _
def IS(g:Go.a6.Node):(bf g).foldl (gW (cR g)) (0,0)=es (gs (bf g)) (bf g):=by
 refine tQ (λf x e=>tx _ f x e) (λx=> ?_) yY _
 unfold gW gs
 by_cases e:x.2.on≠[]/\ei (bf g) x.2.on=none
 ·rw[Zv e,Zv ⟨AZ.2 e.2,e.1⟩]
  exact oB rfl _ _
 ·rw[Zj e,Zj λa=>e ⟨a.2,AZ.1 a.1⟩]
def uz{g:Go.a6.Node}{T:List Go.a6.Node}{k:Nat}{D:aT->Option Int}{f:Int×Int}(e:f.1≠0):(bf g).foldl (f5 (g.eqs.foldl (e4 (cR g) T k) (D,f)).1) (g.eqs.foldl (e4 (cR g) T k) (D,f)).2=f:=by
 have a:(g.eqs.foldl (e4 (cR g) T k) (D,f)).2=f:=rx (λs x e=>Ju _ _ _ s x e) g.eqs (D,f) e
 rw[a]
 exact nn (λf x e=>sB _ f x e) _ _ e
def IC(T:List Go.a6.Node)(k:Nat)(g:Go.a6.Node):hM T k g=iW T k g:=by
 unfold hM iW jB j0
 by_cases i:(eh T g.name).getD 0<k
 ·have c:(((eh T g.name).getD 0:Nat):Int)<(k:Int):=Zo
  rw[Zv c,Zv i,oB rfl]
  have b:((24,g.at_):Int×Int).1≠0:=by show(24:Int)≠0;decide
  rw[rx (λs x e=>xx s x e) (bf g) _ b,nn (λf x e=>tx _ f x e) (bf g) _ b]
  exact uz b
 ·have c:¬(((eh T g.name).getD 0:Nat):Int)<(k:Int):=Zo
  rw[Zj c,Zj i,Fk (bf g) (λ_=>none) [] (Fu g) (λw=>Zs)]
  by_cases a:(gh [] (bf g)).1=0
  ·rw[Fo _ _ a,Zj Zs,IS]
   by_cases d:(es (gs (bf g)) (bf g)).1=0
   ·rw[tL yY _ d,Zj Zs]
    exact FI g T k
   ·rw[Zv d]
    exact uz d
  ·rw[Zv a,nn (λf x e=>tx _ f x e) (bf g) _ a]
   exact uz a
def ux{h:List (Int×bv)}{w:aT}:w∈fN h↔∃x∈h,x.2.name=w:=by
 unfold fN
 rw[It]
 simp
def Fj:∀(h:List (Int×bv)) (c6:List aT) (i:Nat) (x:Int×bv),h[i]? =some x->(∀E d,E<i->h[E]? =some d->d.2.name∉c6/\∀z∈h.take E,z.2.name≠d.2.name)->
 (x.2.name∈c6\/∃z∈h.take i,z.2.name=x.2.name)->gh c6 h=(24,x.2.at_):=by
 intro h
 induction h with
 |nil=>intro c6 i x e;simp at e
 |cons a h U=>
  intro c6 i x g Y c
  rw[gh]
  cases i with
  |zero=>
   simp at g
   subst g
   rcases c with c|⟨z,b,_⟩
   ·rw[Zv c]
   ·simp at b
  |succ i=>
   rw[Zj (Y 0 a Zo rfl).1]
   refine U _ i x (by simpa using g) (λE d p n=> ?_) ?_
   ·have f:=Y (E+1) d Zo (by simpa using n)
    rw[ZO]at f
    refine⟨λe=> ?_,λz b=>f.2 z (Zi _ b)⟩
    rcases Zr.1 e with e|e
    ·exact f.1 e
    ·exact f.2 a (Zl ..) (ZF.1 e).symm
   ·rcases c with c|⟨z,b,m⟩
    ·exact .inl (Z2 _ c)
    ·rw[ZO]at b
     rcases Zz.1 b with rfl|b
     ·exact .inl (ZQ _ (ZF.2 m.symm))
     ·exact .inr ⟨z,b,m⟩
def Fm:∀(h:List (Int×bv)) (c6:List aT),(∀E b,h[E]? =some b->b.2.name∉c6/\∀z∈h.take E,z.2.name≠b.2.name)->gh c6 h=(0,0):=by
 intro h
 induction h with
 |nil=>intro c6 _;rfl
 |cons a h U=>
  intro c6 Y
  rw[gh,Zj (Y 0 a rfl).1]
  refine U _ λE b d=> ?_
  have c:=Y (E+1) b (by simpa using d)
  rw[ZO]at c
  refine⟨λe=> ?_,λz f=>c.2 z (Zi _ f)⟩
  rcases Zr.1 e with e|e
  ·exact c.1 e
  ·exact c.2 a (Zl ..) (ZF.1 e).symm
def Fi{h:List (Int×bv)}{i:Nat}{x:Int×bv}(f:h[i]? =some x)(Y:∀E a,E<i->h[E]? =some a->a.2.name∉fN (h.take E))(b:x.2.name∈fN (h.take i)):gh [] h=(24,x.2.at_):=
 Fj h [] i x f (λE a d g=>⟨Zs,λz m c=>Y E a d g (ux.2 ⟨z,m,c⟩)⟩) (.inr (ux.1 b))
def Fl{h:List (Int×bv)}(Y:∀E a,h[E]? =some a->a.2.name∉fN (h.take E)):gh [] h=(0,0):=
 Fm h [] λE a c=>⟨Zs,λz d b=>Y E a c (ux.2 ⟨z,d,b⟩)⟩
def xY{c α:Type}{f:c×(Int×Int)->α->c×(Int×Int)}(v:∀s x,s.2.1≠0->f s x=s){a:List α}{s d:c×(Int×Int)}{E:Nat}{x:α}(e:(a.take E).foldl f s=d)(p:a[E]? =some x)(r:(f d x).2.1≠0):a.foldl f s=f d x:=by
 have i:a=a.take E++x::a.drop (E+1):=by
  obtain⟨ai,n⟩:=Zf.1 p
  rw[<-n, <-ZY ai,List.take_append_drop]
 have m:∀(b:List α) (t:c×(Int×Int)),t.2.1≠0->b.foldl f t=t:=by
  intro b
  induction b with
  |nil=>intro t _;rfl
  |cons w b U=>intro t g;rw[ZU,v _ _ g];exact U t g
 rw[i,YX,e,ZU,m _ _ r]
def xZ{b α:Type}{f:b->α->b}{a:List α}{s c:b}{E:Nat}{x:α}(e:(a.take E).foldl f s=c)(d:a[E]? =some x):(a.take (E+1)).foldl f s=f c x:=by
 rw[ZG,d,YX,e];rfl
def ym(h:List (Int×bv))(s:List aT×(Int×Int))(x:aT×Int)(e:s.2.1≠0):fo h s x=s:=by unfold fo;rw[Zv e]
def Js(h:List (Int×bv))(T:List Go.a6.Node)(k:Nat)(s:List aT×(Int×Int))(J:dL)(e:s.2.1≠0):fP h T k s J=s:=by
 have b:∀(a:List (aT×Int)),a.foldl (fo h) s=s:=by
  intro a
  induction a with
  |nil=>rfl
  |cons c a U=>rw[ZU,ym _ _ _ e];exact U
 unfold fP
 rw[b,Zv e]
def Hg{h:List (Int×bv)}{ds:List aT}{w:aT}{a:Int}(e:ei h w=none):fo h (ds,(0,0)) (w,a)=(ds,(23,a)):=by
 unfold fo;simp[e]
def Hh{h:List (Int×bv)}{ds:List aT}{w:aT}{a k:Int}(e:ei h w=some k)(b:k=1\/w∈ds):fo h (ds,(0,0)) (w,a)=(ds,(24,a)):=by
 unfold fo;simp[e,b]
def Hf{h:List (Int×bv)}{ds:List aT}{w:aT}{a k:Int}(e:ei h w=some k)(b:¬(k=1\/w∈ds)):fo h (ds,(0,0)) (w,a)=(ds++[w],(0,0)):=by
 unfold fo;simp[e,b]
def xA{T:List Go.a6.Node}{k:Nat}{g:Go.a6.Node}{i:Nat}{J:dL}{ds:List aT}{f:Int×Int}(e:(g.eqs.take i).foldl (fP (bf g) T k) ([],(0,0))=(ds,(0,0)))(c:g.eqs[i]? =some J)
 (b:(fP (bf g) T k (ds,(0,0)) J).2=f)(a:f.1≠0):gB T k g=f:=by
 subst b
 unfold gB
 rw[xY (λs x=>Js _ _ _ s x) e c a,Zv a]
def xB{T:List Go.a6.Node}{k:Nat}{g:Go.a6.Node}{i E:Nat}{J:dL}{ds ak:List aT}{x:aT×Int}{f:Int×Int}(e:(g.eqs.take i).foldl (fP (bf g) T k) ([],(0,0))=(ds,(0,0)))(d:g.eqs[i]? =some J)
 (ap:((eL J).take E).foldl (fo (bf g)) (ds,(0,0))=(ak,(0,0)))(m:(eL J)[E]? =some x)(c:(fo (bf g) (ak,(0,0)) x).2=f)(a:f.1≠0):gB T k g=f:=by
 subst c
 refine xA e d ?_ a
 have b:=xY (λs x=>ym (bf g) s x) ap m a
 unfold fP
 rw[b,Zv a]
def Fq{T:List Go.a6.Node}{k:Nat}{g:Go.a6.Node}{i:Nat}{J:dL}{ds ak:List aT}(e:(g.eqs.take i).foldl (fP (bf g) T k) ([],(0,0))=(ds,(0,0)))(a:g.eqs[i]? =some J)
 (ap:(eL J).foldl (fo (bf g)) (ds,(0,0))=(ak,(0,0)))(b:(es (eb (bf g) T k) (dH J.right)).1≠0):gB T k g=es (eb (bf g) T k) (dH J.right):=by
 refine xA e a ?_ b
 unfold fP
 rw[ap,Zj Zs]
def Fp{T:List Go.a6.Node}{k:Nat}{g:Go.a6.Node}{i:Nat}{J:dL}{ds ak:List aT}(e:(g.eqs.take i).foldl (fP (bf g) T k) ([],(0,0))=(ds,(0,0)))(a:g.eqs[i]? =some J)
 (ap:(eL J).foldl (fo (bf g)) (ds,(0,0))=(ak,(0,0)))(b:(es (eb (bf g) T k) (dH J.right)).1=0):(g.eqs.take (i+1)).foldl (fP (bf g) T k) ([],(0,0))=(ak,(0,0)):=by
 rw[xZ e a]
 unfold fP
 rw[ap,Zj Zs,tL uO _ b]
def Fr{T:List Go.a6.Node}{k:Nat}{g:Go.a6.Node}{ds:List aT}(e:g.eqs.foldl (fP (bf g) T k) ([],(0,0))=(ds,(0,0))):gB T k g=es (ij ds) (bf g):=by
 unfold gB
 rw[e,Zj Zs]
def ID{α:Type}[DecidableEq α]:∀(ds b:List α),ds.Nodup->(∀w∈ds,w∈b)->ds.length<=b.length:=by
 intro ds
 induction ds with
 |nil=>intro b _ _;simp
 |cons a ds U=>
  intro b c d
  have f:=d a (Zl ..)
  have i:=U (b.erase a) (List.nodup_cons.1 c).2 λw g=>(List.mem_erase_of_ne (λj:w=a=>(List.nodup_cons.1 c).1 (j▸g))).2 (d w (Zi _ g))
  rw[List.length_erase_of_mem f]at i
  have:=List.length_pos_of_mem f
  simp only[ZC]
  omega
structure iI(h:List (Int×bv))(ds:List aT):Prop where
 jA:ds.Nodup
 sub:∀w∈ds,w∈h.map λx=>x.2.name
def iI.len{h:List (Int×bv)}{ds:List aT}(e:iI h ds):ds.length<=h.length:=by
 have:=ID ds _ e.jA e.sub
 rwa[Zn]at this
def iI.nil(h:List (Int×bv)):iI h []:=⟨List.nodup_nil,Zs⟩
def iI.snoc{h:List (Int×bv)}{ds:List aT}{w:aT}{k:Int}(e:iI h ds)(d:ei h w=some k)(i:w∉ds):iI h (ds++[w]):=by
 refine⟨List.nodup_append.2 ⟨e.jA,Zs,λa f b Y=> ?_⟩,λv c=> ?_⟩
 ·rw[ZF.1 Y];exact λj=>i (j▸f)
 ·rcases Zr.1 c with c|c
  ·exact e.sub v c
  ·rw[ZF.1 c]
   refine Classical.byContradiction λg=> ?_
   rw[xT λx m j=>g (ZB.2 ⟨x,m,j⟩)]at d
   cases d
section
variable{X:bQ}{S B cE ay aM:F ac}{nx nx' aG aL bw:Nat}{bm d0 P bi:Nat->Prop}
structure lX(X:bQ)(S:F ac)(nx:Nat)(row:List q)(J:Nat)(s:q)(ds:List aT)(B:F ac)(ah:Nat):Prop where
 au:∃aH,c9 X B s 1 (ds.map q.str) aH/\∀a∈aH,nx+2<=a/\a<ah/\a≠J
 qV:∃c,H X B nx=some (.cells c 2 .own)
 node:H X B (nx+1)=zy row 6
 kW:aX X S nx B ah
 le:nx+2<=ah
def lX.to{row:List q}{J dw:Nat}{s:q}{ds:List aT}(e:lX X S nx row J s ds ay aG)(a:aX X ay aG aM aL)(n:aG<=dw\/dw<nx+2\/dw=J):lX X S nx row dw s ds aM aL:=by
 obtain⟨aH,g,f⟩:=e.au
 have m:=a.le
 have ap:=e.le
 refine⟨⟨aH,g.R λb d=>a.R b (f b d).2.1,λb d=> ?_⟩, ?_, ?_,e.kW.trans (a.jz Zo),Zo⟩
 ·have:=f b d;omega
 ·obtain⟨c,i⟩:=e.qV;exact⟨c,by rw[a.R _ Zo];exact i⟩
 ·rw[a.R _ Zo];exact e.node
def Eo{row:List q}{k:Int}{rest:List q}(e:row= .Z k::rest)(c:F q):(cL c 0 row).get 0=some (.Z k):=by rw[e,iH];simp
set_option maxRecDepth 100000 in
def FH(U0:dR X){T:List Go.a6.Node}{g:Go.a6.Node}{rows:List (List q)}{p au:q}{Wc k:Nat}(WD:(o X).aN<=nx)(VS:fT X S P T p)(Vz:∀g∈T,∀J∈g.eqs,hz J.right)(US:∀r,P r->r<nx)(VV:T[k]? =some g)
 (K:cg X S bi Wc au 11 rows)(UJ:hg rows (bf g))(UT:∀r,bi r->r<nx)(Wh:(bf g).length<=3000)(Wr:g.eqs.length<=5000)(Ws:T.length<=1000)(WV:∀J∈g.eqs,(dH J.right).length<=300000):
 aJ X 59 [p, .Z (k:Int),au] S nx (λL B nx'=>L= .agg [.Z (gB T k g).1, .Z (gB T k g).2]/\aX X S nx B nx') zG:=by
 refine zB U0.todV (C4 X) ?_
 rw[C5]
 unfold ws
 have W0:=VS.prog Vz
 obtain⟨b,bE,bL,Wx,rfl,Y,a0,Vc,VZ⟩:=id W0
 have WU:=VZ.wide
 have W4:=US b Y
 have Wp:=(Zf.1 VV).1
 have Ue:=K.len
 rw[UJ.len]at Ue
 refine it ?_
 generalize Uw:aP X S nx _=ay
 have UR:∃c,H X ay nx=some (.cells c 2 .own):=⟨_,by rw[<-Uw,a7 WD];rfl⟩
 have Ur:aX X S nx ay (nx+1):=by rw[<-Uw];exact dJ
 clear Uw
 obtain⟨Um,UR⟩:=UR
 have WX:∀r,P r->H X ay r=H X S r:=λr t=>Ur.R r (US r t)
 obtain⟨row,WQ,VY⟩:=VZ.get k g VV
 have Vo:W X ay (.ptr b 0)=some bE:=by rw[Ur.cW _ _ W4];exact a0
 have UH:=Vc.cP k (by rw[WU.1];omega)
 have WR:=(Vc.R WX).row Zd WQ
 have e2:=VY.cN
 obtain⟨bx,bz,UN,UO,b0,bb,b4,c1,Wf,rfl,Wl,Wm,Wn,V2,VR⟩:=VY
 have Vf:=VR.wide
 have VB:=V2.len
 rw[Vf.1]at VB
 refine cw @Vo @UH @WR ⟨?_⟩
 refine cz (e8 (k:=6) (b:=nx+1) (A:=0) (n:=6) (c:=F.ofList [.str [], .Z 0, .aw, .aw, .aw, .aw] 0 .nil) (a7 Zo) Zo rfl Zd Zd e2) ?_
 generalize UU:aP X _ (nx+1) _=aM
 have VM:lX X S nx [.str g.name, .Z g.at_,bx,bz,UN,UO] 0 .aw [] aM (nx+2):=by
  refine⟨⟨[], .inl ⟨rfl,rfl,rfl⟩,Zs⟩,⟨Um, ?_⟩, ?_,⟨Zo,λr t=> ?_⟩,Zo⟩
  ·rw[<-UU];simp(disch:=omega) only[aV];exact UR
  ·rw[<-UU,a7 Zo];rfl
  ·rw[<-UU];simp(disch:=omega) only[aV];exact Ur.R r t
 clear UU UR
 refine cQ (λy B ah=>∃(ds:List aT) (s:q),y.g 2=some au/\y.g 6=some (.ptr nx 0)/\y.g 7=some s/\g.eqs.foldl (fP (bf g) T k) ([],(0,0))=(ds,(0,0))/\iI (bf g) ds/\lX X S nx [.str g.name, .Z g.at_,bx,bz,UN,UO] 0 s ds B ah) (λWv WC=> ?_) ?_
 ·refine cM (λm y B ah=>∃(i:Nat) (ds:List aT) (s:q),y.g 0=some (.ptr b 0)/\y.g 1=some (.Z (k:Int))/\y.g 2=some au/\y.g 6=some (.ptr nx 0)/\y.g 7=some s/\y.g 8=some (.ptr (nx+1) 0)/\y.g 9=some (.Z (i:Int))/\i+m=g.eqs.length/\(g.eqs.take i).foldl (fP (bf g) T k) ([],(0,0))=(ds,(0,0))/\iI (bf g) ds/\lX X S nx [.str g.name, .Z g.at_,bx,bz,UN,UO] 0 s ds B ah)
   g.eqs.length ⟨0,[], .aw,aI,aI,aI,aI,aI,aI,cx,Zo,rfl,iI.nil _,VM⟩ ?_
  clear VM
  rintro m y Uk O ⟨i,ds,s,t0,T4,z,C,Z,T3,t9,ai,U2,UW,G⟩
  have Vx:=G.le
  have UC:=G.node
  cases m with
  |zero=>
   have d:=zv i g.eqs.length
   rw[Zt Zo]at U2
   refine db @t9 @T3 (aZ UC) @VB @d ⟨?_⟩
   exact WC _ _ _ ⟨ds,s,al z,al C,al Z,U2,UW,G⟩
  |succ m=>
   have d:=zw i g.eqs.length
   have Vs:=zz i
   obtain⟨J,UA⟩:=zx g.eqs i
   have WK:=Zg UA
   obtain⟨Wz,WM,WL⟩:=VR.get i J UA
   have UK:∀B ah,aX X S nx B ah->∀r,P r->H X B r=H X S r:=λB ah UF r t=>UF.R r (US r t)
   have Vi:∀B ah,aX X S nx B ah->∀r,bi r->H X B r=H X S r:=λB ah UF r t=>UF.R r (UT r t)
   have WA:=V2.cP i (by rw[Vf.1];omega)
   have WS:=(V2.R (UK _ _ G.kW)).row Zd WM
   obtain⟨Uj,Ui,Um,Wd,dy,rfl,UI,⟨Ub,_⟩,WG,WH⟩:=WL
   have V6:=UI.len
   have WJ:=UI.many
   have Va:=Ub.len
   have WI:=Ub.many
   rw[show(dr J.left).length=J.left.length from by simp[dr]]at V6 WJ
   rw[Zn]at Va WI
   refine bo @t9 @T3 (aZ UC) @VB @d @WA @WS ⟨?_⟩
   refine cz (e8 (k:=4) (b:=O) (A:=0) (n:=4) (c:=F.ofList [.aw, .aw, .Z 0, .bt] 0 .nil) (a7 Zo) Zo rfl Zd Zd WH) ?_
   generalize Ux:aP X _ O _=UQ
   have Up:H X UQ O=zy [Uj,Ui, .Z J.at_,dy] 4:=by rw[<-Ux,a7 Zo];rfl
   have Vw:aX X Uk O UQ (O+1):=⟨Zo,λr t=>by rw[<-Ux];exact zA⟩
   clear Ux
   have Uu:=G.to (dw:=O) Vw (.inl (Zp _))
   clear G UC
   refine cQ (λy B ah=>∃(ak:List aT) (s:q),y.g 0=some (.ptr b 0)/\y.g 1=some (.Z (k:Int))/\y.g 2=some au/\y.g 6=some (.ptr nx 0)/\y.g 7=some s/\y.g 8=some (.ptr (nx+1) 0)/\y.g 9=some (.Z (i:Int))/\y.g 10=some (.ptr O 0)/\(eL J).foldl (fo (bf g)) (ds,(0,0))=(ak,(0,0))/\iI (bf g) ak/\lX X S nx [.str g.name, .Z g.at_,bx,bz,UN,UO] O s ak B ah/\O<ah/\H X B O=zy [Uj,Ui, .Z J.at_,dy] 4) (λWt WB=> ?_) ?_
   ·refine cM (λm y B ah=>∃(E:Nat) (ak:List aT) (s:q),y.g 0=some (.ptr b 0)/\y.g 1=some (.Z (k:Int))/\y.g 2=some au/\y.g 6=some (.ptr nx 0)/\y.g 7=some s/\y.g 8=some (.ptr (nx+1) 0)/\y.g 9=some (.Z (i:Int))/\y.g 10=some (.ptr O 0)/\y.g 11=some (.Z (E:Int))/\E+m=J.left.length/\((eL J).take E).foldl (fo (bf g)) (ds,(0,0))=(ak,(0,0))/\iI (bf g) ak/\lX X S nx [.str g.name, .Z g.at_,bx,bz,UN,UO] O s ak B ah/\O<ah/\H X B O=zy [Uj,Ui, .Z J.at_,dy] 4)
     J.left.length ⟨0,ds,s,al t0,al T4,al z,al C,al Z,al T3,al t9,aI,cx,Zo,rfl,UW,Uu,Zo,Up⟩ ?_
    clear t0 T4 z C Z T3 t9 Uu Up
    rintro VC y UB Ug ⟨E,ak,s,t0,T4,z,C,Z,T3,t9,T1,T5,Wo,U1,U9,G,V5,TY⟩
    have Vy:=G.le
    cases VC with
    |zero=>
     have d:=zv E J.left.length
     rw[Zt (by rw[ys];omega)]at U1
     refine db @T5 @T1 (aZ TY) @V6 @d ⟨?_⟩
     exact WB _ _ _ ⟨ak,s,al t0,al T4,al z,al C,al Z,al T3,al t9,al T1,U1,U9,G,V5,TY⟩
    |succ VC=>
     have d:=zw E J.left.length
     have Vt:=zz E
     obtain⟨w,V9⟩:=zx J.left E
     have Ua:(eL J)[E]? =some (w,(J.bu[E]?).getD 0):=yr V9
     have UY:=UI.cP E (by simp[dr];omega)
     have W5:=UI.cell E [.str w] 0 (.str w) (by unfold dr;rw[Zw,V9];rfl) rfl
     rw[ZV]at UY
     rw[ZV,ZH]at W5
     have Wj:J.left.length>0->True:=λ_=>trivial
     have U6:=G.kW
     have VP:∀B ah,aX X S nx B ah->W X B (.ptr Um E)=some (.str w):=λB ah UF=>by
      have:=(UI.R (UK B ah UF)).cell E [.str w] 0 (.str w) (by unfold dr;rw[Zw,V9];rfl) rfl
      rwa[ZV,ZH]at this
     refine c3 @T5 @T1 (Za (aZ TY) (Za @V6 @d)) ⟨?_⟩
     refine gm ?_
     refine k2 @d ⟨?_⟩
     refine gm ?_
     refine c3 @T5 @T1 (Za (aZ TY) @Va) ⟨?_⟩
     refine cQ (λT6 B ah=>T6.g 0=some (.ptr b 0)/\T6.g 1=some (.Z (k:Int))/\T6.g 2=some au/\T6.g 6=some (.ptr nx 0)/\T6.g 7=some s/\T6.g 8=some (.ptr (nx+1) 0)/\T6.g 9=some (.Z (i:Int))/\T6.g 10=some (.ptr O 0)/\T6.g 11=some (.Z (E:Int))/\T6.g 12=some (.Z ((J.bu[E]?).getD 0))/\B=UB/\ah=Ug) (λWu VT=> ?_) ?_
     ·by_cases VU:E<J.bu.length
      ·have Uo:=zw E J.bu.length
       have Vg:=Ub.cP E (by rw[Zn];omega)
       have VO:=(Ub.R (UK _ _ U6)).cell E [pR J.bu[E]] 0 (pR J.bu[E]) (by rw[Zw,Ze VU];rfl) rfl
       rw[ZV]at Vg
       rw[ZV,ZH]at VO
       have V1:(J.bu[E]?).getD 0=J.bu[E]:=by rw[Ze VU];rfl
       refine c3 @T5 @T1 (Za (aZ TY) (Za @Uo (Za @Vg @VO))) ⟨?_⟩
       exact VT _ _ _ ⟨al t0,al T4,al z,al C,al Z,al T3,al t9,al T1,al T5,x2 @V1,rfl,rfl⟩
      ·have Uo:=zv E J.bu.length
       have V1:(J.bu[E]?).getD 0=0:=by rw[Z3 Zo];rfl
       refine k2 @Uo ⟨?_⟩
       exact VT _ _ _ ⟨al t0,al T4,al z,al C,al Z,al T3,al t9,al T1,al T5,x1 @V1,rfl,rfl⟩
     clear t0 T4 z C Z T3 t9 T1 T5
     generalize Wi:(J.bu[E]?).getD 0=a at Ua
     rintro y Vn WZ ⟨t0,T4,z,C,Z,T3,t9,T1,T5,VD,rfl,rfl⟩
     have W6:=VP _ _ U6
     refine dp @z @T1 @T5 (aZ TY) @UY @W6 ⟨?_⟩
     refine(tU U0 Zo (K.R (Vi _ _ U6)) UJ (λr t=>zu (UT r t))).Zm ?_
     rintro L Ul T0 ⟨⟨Vk,UL,rfl,⟨rest,Ve,WP⟩,WF,W8⟩,TZ⟩
     have VW:=TZ.le
     have WO:(q.agg Vk).cells.length=11:=by rw[Ve];simp[q.cells,WP]
     refine bh ⟨?_⟩
     refine cz (e8 (k:=11) (b:=T0) (A:=0) (n:=11) (v:= .agg Vk) (a7 Zo) Zo WO Zd Zd WF) ?_
     generalize Uy:aP X _ T0 _=U3
     have Vl:W X U3 (.ptr T0 0)=some (.Z UL):=by
      rw[<-Uy,jt Zo];exact Eo (by rw[Ve];rfl) _
     have VL:aX X Vn WZ U3 (T0+1):=⟨Zo,λr t=>by rw[<-Uy];simp(disch:=omega) only[aV];exact TZ.R r t⟩
     clear Uy
     have U7:=G.to (dw:=O) VL (.inr (.inr rfl))
     have Wg:=U7.le
     have Uq:H X U3 O=zy [Uj,Ui, .Z J.at_,dy] 4:=by rw[VL.R _ V5];exact TY
     obtain⟨VG,VN⟩:=U7.qV
     have VQ:=VP _ _ U7.kW
     have fin:∀(c:Int) (T8:F ac) (Uh:Nat),aX X U3 (T0+1) T8 Uh->gB T k g=(c,a)->∃Vr,H X T8 nx=some (.cells Vr 2 .own)/\∀VE:F q,aX X S nx (aP X T8 nx (some (.cells VE 2 .own))) Uh:=λc T8 Uh Ut T2=>by
      have Wq:=Ut.le
      refine⟨VG,by rw[Ut.R _ Zo];exact VN,λVE=>⟨Zo,λr t=> ?_⟩⟩
      rw[aV Zo Zo,Ut.R r Zo];exact U7.kW.R r t
     cases V0:(ei (bf g) w).isSome with
     |false=>
      have W9:ei (bf g) w=none:=by
       cases e:ei (bf g) w with
       |none=>rfl
       |some _=>rw[e]at V0;cases V0
      refine bB @VD ⟨?_⟩
      refine(jl (nx:=T0+1) (S:=U3) U0 23 a Zo).Zm ?_
      rintro Vj T9 UM ⟨rfl,UG⟩
      have T2:gB T k g=(23,a):=xB U2 UA U1 Ua (by rw[Hg W9]) (by show(23:Int)≠0;decide)
      obtain⟨VF,VK,UE⟩:=fin 23 T9 UM UG T2
      refine cw @C @eX @eY ⟨?_⟩
      exact⟨by rw[T2],UE _⟩
     |true=>
      have V3:=W8 V0
      have VI:(UL=1\/w∈ak)->gB T k g=(24,a):=λe=>xB U2 UA U1 Ua (by rw[Hh V3 e]) (by show(24:Int)≠0;decide)
      by_cases UZ:UL=1
      ·have U4:decide (UL=1)=true:=by simp[UZ]
       refine cw @Vl @U4 @VD ⟨?_⟩
       refine(jl (nx:=T0+1) (S:=U3) U0 24 a Zo).Zm ?_
       rintro Vj T9 UM ⟨rfl,UG⟩
       have T2:gB T k g=(24,a):=VI (.inl UZ)
       obtain⟨VF,VK,UE⟩:=fin 24 T9 UM UG T2
       refine cw @C @eX @eY ⟨?_⟩
       exact⟨by rw[T2],UE _⟩
      ·have U4:decide (UL=1)=false:=by simp[UZ]
       obtain⟨aH,Ud,U8⟩:=U7.au
       obtain⟨jF,V7⟩:=kq Ud (zu U9.len) (bm:=λr=>r<T0+1) (λr t=>(U8 r t).2.1)
       refine bo @Vl @U4 @Z @T1 @T5 (aZ Uq) (Za @UY @VQ) ⟨?_⟩
       refine(rK (nx:=T0+1) (S:=U3) U0 V7).Zm ?_
       rintro u8 T8 Uh ⟨rfl,rfl,rfl⟩
       by_cases T7:w∈ak
       ·have U5:decide (w∈ak)=true:=by simp[T7]
        rw[U5]
        refine bB @VD ⟨?_⟩
        refine(jl (nx:=T0+1) (S:=T8) U0 24 a Zo).Zm ?_
        rintro Vj T9 UM ⟨rfl,UG⟩
        have T2:gB T k g=(24,a):=VI (.inr T7)
        obtain⟨VF,VK,UE⟩:=fin 24 T9 UM UG T2
        refine cw @C @eX @eY ⟨?_⟩
        exact⟨by rw[T2],UE _⟩
       ·have U5:decide (w∈ak)=false:=by simp[T7]
        rw[U5]
        refine dp @Z @T1 @T5 (aZ Uq) @UY @VQ ⟨?_⟩
        generalize Uz:aP X T8 (T0+1) _=T9
        have Vu:H X T9 (T0+1)=zy [.str w] 1:=by rw[<-Uz,a7 Zo]
        have Vh:∀r,r≠T0+1->H X T9 r=H X T8 r:=λr t=>by rw[<-Uz,aV Zo t]
        clear Uz
        have Wk:=U9.len
        obtain⟨Wa,Vm,Vp,W2,WT,W3,WW⟩:=(show cT X T9 s 1 (ak.map q.str) aH from .inl (Ud.R λr t=>Vh r (zu (U8 r t)))).append (nx:=T0+1+1) (k:=1) Zd (hu Vu (dj _) rfl 1) rfl Zd (by rfl) Zx Zo (λr t=>zu (U8 r t))
        refine eU W2 ?_
        have Uf:∀r,r<T0+1->(nx+2<=r->r=O)->H X Vm r=H X T8 r:=λr UD Vv=>by
         rw[WW r Zo (λe=>by have:=U8 r e;have:=Vv Zo;omega),Vh r Zo]
        refine ci @T5 @Vt ⟨?_⟩
        refine⟨VC,Zo,E+1,ak++[w],Wa,al t0,al T4,al z,al C,aI,al T3,al t9,al T1,aI,Zo,by rw[xZ U1 Ua,Hf V3 (by rintro(e|e);exact UZ e;exact T7 e)],U9.snoc V3 T7,⟨⟨Vp, ?_,λr t=> ?_⟩,⟨VG, ?_⟩, ?_,⟨Zo,λr t=> ?_⟩,Zo⟩,Zo, ?_⟩
        ·rw[YF];exact WT
        ·rcases W3 r t with e|e
         ·omega
         ·have:=U8 r e;omega
        ·rw[Uf _ Zo Zo];exact VN
        ·rw[Uf _ Zo Zo];exact U7.node
        ·rw[Uf _ Zo Zo];exact U7.kW.R r t
        ·rw[Uf _ Zo (λ_=>rfl)];exact Uq
   ·clear t0 T4 z C Z T3 t9 Uu Up
    rintro y UB Ug ⟨ak,s,t0,T4,z,C,Z,T3,t9,T1,U1,U9,G,V5,TY⟩
    have Vy:=G.le
    have U6:=G.kW
    have WN:c7 X UB P J.right dy:=c7.R (UK _ _ U6) _ _ WG
    refine db @t0 @T4 @z @T1 (aZ TY) ⟨?_⟩
    refine(JM (P:=P) U0 Zo (VS.R (UK _ _ U6) λ_ e=>e) (λr t=>zu (US r t)) (K.R (Vi _ _ U6)) UJ (λr t=>zu (UT r t)) WN (WV J WK)).Zm ?_
    rintro Wb Ul T0 ⟨rfl,TZ⟩
    have VW:=TZ.le
    have Uv:=G.to (dw:=0) TZ (.inr (.inl Zo))
    obtain⟨We,VJ⟩:=Uv.qV
    have Vb:=Fq (ak:=ak) U2 UA U1
    have VX:=Fp (ak:=ak) U2 UA U1
    generalize es (eb (bf g) T k) (dH J.right)=f at Vb VX
    by_cases UX:f.1=0
    ·have Un:decide (f.1≠0)=false:=by simp[UX]
     refine db @eX @eY @Un @t9 @Vs ⟨?_⟩
     exact⟨m,Zo,i+1,ak,s,al t0,al T4,al z,al C,al Z,al T3,aI,Zo,VX UX,U9,Uv.to (dw:=0) dJ (.inr (.inr rfl))⟩
    ·have Un:decide (f.1≠0)=true:=by simp[UX]
     have T2:=Vb UX
     refine db @eX @eY @Un @C @VJ ⟨?_⟩
     exact⟨by rw[T2],Zo,λr t=>by simp(disch:=omega) only[aV];exact Uv.kW.R r t⟩
 ·rintro y Uk O ⟨ds,s,z,C,Z,U2,UW,G⟩
  obtain⟨aH,Ud,U8⟩:=G.au
  have Vx:=G.le
  obtain⟨jF,V7⟩:=kq Ud (zu UW.len) (bm:=λr=>r<O) (λr t=>(U8 r t).2.1)
  obtain⟨Vq,UC⟩:=G.qV
  have Us:=G.kW
  have Uc:=K.R λr t=>Us.R r (UT r t)
  have T2:=Fr U2
  refine gm ?_
  refine cM (λm y B ah=>∃(i:Nat),y.g 2=some au/\y.g 6=some (.ptr nx 0)/\y.g 7=some s/\y.g 16=some (.Z (i:Int))/\i+m=(bf g).length/\B=Uk/\ah=O/\∀x∈(bf g).take i,(ij ds x).1=0)
   (bf g).length ⟨0,al z,al C,al Z,cx,Zo,rfl,rfl,Zs⟩ ?_
  clear z C Z G
  rintro m y UQ WY ⟨i,z,C,Z,UP,ai,rfl,rfl,UV⟩
  cases m with
  |zero=>
   have d:=zv i (bf g).length
   rw[Zt Zo]at UV
   refine bo @UP @z @Ue @d @C @eX @eY ⟨?_⟩
   exact⟨by rw[T2,tK UV],Zo,λr t=>by rw[aV Zo Zo];exact Us.R r t⟩
  |succ m=>
   have d:=zw i (bf g).length
   have VH:=zz i
   obtain⟨x,VA⟩:=zx (bf g) i
   obtain⟨Ww,Wy,V8⟩:=UJ.at_ i x VA
   have UH:=Uc.cP i (by rw[UJ.len];omega)
   have V4:=Uc.cell i _ 0 (.Z x.1) V8 rfl
   have WE:=Uc.cell i _ 1 (.str x.2.name) V8 rfl
   have W1:=Uc.cell i _ 2 (.Z x.2.at_) V8 rfl
   rw[ZH]at V4
   have next:ij ds x=(0,0)->∀r∈(bf g).take (i+1),(ij ds r).1=0:=λe=>hT VA UV (by rw[e])
   by_cases UD:x.1=1
   ·have U4:decide (x.1≠1)=false:=by simp[UD]
    refine bo @UP @z @Ue @d @UH @V4 (Za @U4 @VH) ⟨?_⟩
    exact⟨m,Zo,i+1,al z,al C,al Z,aI,Zo,rfl,rfl,next (by unfold ij;rw[Zj (λe=>e.1 UD)])⟩
   ·have U4:decide (x.1≠1)=true:=by simp[UD]
    refine bo @UP @z @Z @Ue @d @UH (Za @V4 (Za @U4 @WE)) ⟨?_⟩
    refine(rK (nx:=WY) (S:=UQ) U0 V7).Zm ?_
    rintro X0 UB Ug ⟨rfl,rfl,rfl⟩
    by_cases T7:x.2.name∈ds
    ·have U5:decide (x.2.name∈ds)=true:=by simp[T7]
     rw[U5]
     refine ci @UP @VH ⟨?_⟩
     exact⟨m,Zo,i+1,al z,al C,al Z,aI,Zo,rfl,rfl,next (by unfold ij;rw[Zj (λe=>e.2 T7)])⟩
    ·have U5:decide (x.2.name∈ds)=false:=by simp[T7]
     have Vd:ij ds x=(37,x.2.at_):=by unfold ij;rw[Zv ⟨UD,T7⟩]
     have W7:es (ij ds) (bf g)=(37,x.2.at_):=by rw[tJ VA UV (by rw[Vd];show(37:Int)≠0;decide),Vd]
     rw[U5]
     refine cV @UP @z @UH @W1 ⟨?_⟩
     refine(jl (nx:=Ug) (S:=UB) U0 37 x.2.at_ Zo).Zm ?_
     rintro Wb Ul T0 ⟨rfl,TZ⟩
     have VW:=TZ.le
     have VJ:H X Ul nx=some (.cells Vq 2 .own):=by rw[TZ.R _ Zo];exact UC
     refine cw @C @eX @eY ⟨?_⟩
     exact⟨by rw[T2,W7],Zo,λr t=>by rw[aV Zo Zo,TZ.R r Zo];exact Us.R r t⟩
end
def Io{T:List Go.a6.Node}{k:Nat}{g:Go.a6.Node}(e:(((eh T g.name).getD 0:Nat):Int)<(k:Int)):iW T k g=(24,g.at_):=by unfold iW;rw[Zv e]
def Im{T:List Go.a6.Node}{k:Nat}{g:Go.a6.Node}{f:Int×Int}(e:¬(((eh T g.name).getD 0:Nat):Int)<(k:Int))(a:gh [] (bf g)=f)(b:f.1≠0):iW T k g=f:=by unfold iW;rw[Zj e,a,Zv b]
def Ip{T:List Go.a6.Node}{k:Nat}{g:Go.a6.Node}{f:Int×Int}(e:¬(((eh T g.name).getD 0:Nat):Int)<(k:Int))(a:gh [] (bf g)=(0,0))(c:es (gs (bf g)) (bf g)=f)(b:f.1≠0):iW T k g=f:=by
 unfold iW;rw[Zj e,a,Zj Zs,c,Zv b]
def In{T:List Go.a6.Node}{k:Nat}{g:Go.a6.Node}(e:¬(((eh T g.name).getD 0:Nat):Int)<(k:Int))(a:gh [] (bf g)=(0,0))(b:es (gs (bf g)) (bf g)=(0,0)):iW T k g=gB T k g:=by
 unfold iW;rw[Zj e,a,Zj Zs,b,Zj Zs]
section
variable{X:bQ}{S B cE ay aM:F ac}{nx nx' aG aL bw:Nat}{bm d0 P bi:Nat->Prop}
set_option maxRecDepth 100000 in
def EK(Z:dR X){T:List Go.a6.Node}{v:q}(VX:(o X).aN<=nx)(UT:fT X S P T v)(U6:∀a,P a->a<nx)(V2:∀g∈T,h0 g)(V3:T.length<=1000):
 aJ X 27 [v] S nx (λL B nx'=>L= .agg [.Z (g6 T).1, .Z (g6 T).2]/\aX X S nx B nx') zG:=by
 refine zB Z.todV (Cq X) ?_
 rw[Cr]
 unfold vZ
 refine it ?_
 generalize Ue:aP X S nx _=ay
 have U4:∃c,H X ay nx=some (.cells c 2 .own):=⟨_,by rw[<-Ue,a7 VX];rfl⟩
 have Uw:aX X S nx ay (nx+1):=by rw[<-Ue];exact dJ
 clear Ue
 have Vp:∀a,P a->H X ay a=H X S a:=λa p=>Uw.R a (U6 a p)
 refine(Gg (P:=P) (nx:=nx+1) (S:=ay) Z Zo (UT.R (bi:=P) Vp (λ_ e=>e)) (λa p=>zu (U6 a p)) V2 V3).Zm ?_
 rintro L aM aL ⟨⟨w,rfl,W4,V6⟩,Ud⟩
 have W2:=Ud.le
 obtain⟨Uv,U4⟩:=U4
 rw[<-Ud.R _ Zo]at U4
 have Ux:=Uw.trans Ud
 by_cases U5:ha T
 case neg=>
  have z:decide (w≠0)=true:=by simp only[Zc];exact λe=>U5 (V6.1 e)
  rw[u1 U5]
  refine bB @z ⟨?_⟩
  refine(jl (nx:=aL) (S:=aM) Z 1 0 Zo).Zm ?_
  rintro WB UH G ⟨rfl,T4⟩
  have VU:=T4.le
  have UK:H X UH nx=some (.cells Uv 2 .own):=by rw[T4.R _ Zo];exact U4
  refine ci @eX @eY ⟨?_⟩
  exact⟨rfl,Zo,λa p=>by rw[aV Zo Zo,T4.R a Zo];exact Ux.R a p⟩
 have Vn:=V6.2 U5
 subst Vn
 rw[u2 U5]
 obtain⟨b,bE,bL,W7,rfl,Y,a0,Uq,V4⟩:=id UT
 have V7:=V4.wide
 have Ul:=Uq.len
 rw[V7.1]at Ul
 have VL:=U6 b Y
 have z:decide ((0:Int)≠0)=false:=rfl
 have UW:∀B ah,aX X S nx B ah->∀a,P a->H X B a=H X S a:=λB ah UC a p=>UC.R a (U6 a p)
 refine bB @z ⟨?_⟩
 refine cM (λm y B ah=>∃(E:Nat),y.g 0=some (.ptr b 0)/\y.g 2=some (.ptr nx 0)/\y.g 3=some (.Z (E:Int))/\E+m=T.length/\aX X S nx B ah/\nx<ah/\(∃c,H X B nx=some (.cells c 2 .own))/\l9 T=na T E (T.drop E))
  T.length ⟨0,aI,aI,cx,Zo,Ux,Zo,⟨Uv,U4⟩,rfl⟩ ?_
 clear U4
 rintro m y UH G ⟨E,t0,r,t3,W0,T4,W3,⟨UB,UK⟩,U7⟩
 have VU:=T4.le
 have Ut:W X UH (.ptr b 0)=some bE:=by rw[T4.cW _ _ VL];exact a0
 cases m with
 |zero=>
  have d:=zv E T.length
  rw[YK Zo]at U7
  refine bo @t3 @t0 @Ut @Ul @d @r (Za @eX @eY) ⟨?_⟩
  exact⟨by rw[U7];rfl,Zo,λa p=>by rw[aV Zo Zo];exact T4.R a p⟩
 |succ m=>
  have d:=zw E T.length
  have VG:=zz E
  obtain⟨g,UU⟩:=zx T E
  have V1:=Zg UU
  have Uh:=V2 g V1
  have VY:=U5.node g V1
  have Vy:(bf g).length<=256:=by rw[tz];have:=VY.vars;simp only[iB];omega
  have VM:T.drop E=g::T.drop (E+1):=by
   obtain⟨T6,p⟩:=Zf.1 UU
   rw[ZY T6,p]
  rw[VM,na,IC]at U7
  have ret:∀f:Int×Int,iW T E g=f->f.1≠0->l9 T=f:=λf Ub Uc=>by rw[U7,Ub,Zv Uc]
  obtain⟨row,Vi,Un⟩:=V4.get E g UU
  have VS:=Uq.cP E (by rw[V7.1];omega)
  have Vj:=(Uq.R (UW _ _ T4)).row Zd Vi
  have e2:=Un.cN
  have Vb:=Un
  obtain⟨bx,bz,VA,VB,b0,bb,b4,c1,Vu,rfl,_⟩:=Un
  refine bo @t3 @t0 @Ut @Ul @d @VS @Vj ⟨?_⟩
  refine cz (e8 (k:=6) (b:=G) (A:=0) (n:=6) (c:=F.ofList [.str [], .Z 0, .aw, .aw, .aw, .aw] 0 .nil) (a7 Zo) Zo rfl Zd Zd e2) ?_
  generalize Uf:aP X _ G _=UI
  have UZ:H X UI G=zy [.str g.name, .Z g.at_,bx,bz,VA,VB] 6:=by rw[<-Uf,a7 Zo];rfl
  have V8:∀a,a<G->H X UI a=H X UH a:=λa p=>by rw[<-Uf];exact zA
  clear Uf
  have UM:aX X S nx UI (G+1):=⟨Zo,λa p=>by rw[V8 a Zo];exact T4.R a p⟩
  rw[<-V8 _ Zo]at UK
  refine ci @t0 (aZ UZ) ⟨?_⟩
  refine(xO (nx:=G+1) (S:=UI) Z (UT.R (UW _ _ UM) λ_ e=>e)).Zm ?_
  rintro WC Ur W6 ⟨rfl,rfl,rfl⟩
  by_cases U8:(((eh T g.name).getD 0:Nat):Int)<(E:Int)
  ·have av:decide ((((eh T g.name).getD 0:Nat):Int)<(E:Int))=true:=by simp only[Zc];exact U8
   refine cw @t3 @av (aZ UZ) ⟨?_⟩
   refine(jl (nx:=G+1) (S:=Ur) Z 24 g.at_ Zo).Zm ?_
   rintro WD O C ⟨rfl,U1⟩
   have VV:=U1.le
   have Ua:H X O nx=some (.cells UB 2 .own):=by rw[U1.R _ Zo];exact UK
   refine cw @r @eX @eY ⟨?_⟩
   exact⟨by rw[ret (24,g.at_) (Io U8) (by show(24:Int)≠0;decide)],Zo,λa p=>by rw[aV Zo Zo,U1.R a Zo];exact UM.R a p⟩
  have av:decide ((((eh T g.name).getD 0:Nat):Int)<(E:Int))=false:=by simp only[Zb];exact U8
  refine cw @t3 @av (aZ UZ) ⟨?_⟩
  refine(Lu (P:=P) (nx:=G+1) (S:=Ur) (row:=[.str g.name, .Z g.at_,bx,bz,VA,VB]) Z Zo (sS.to (UW _ _ UM) (λ_ e=>e) Vb) (λa p=>zu (U6 a p)) Uh.an).Zm ?_
  rintro aB O C ⟨⟨aH,Uz,Ug⟩,U1⟩
  have VV:=U1.le
  have UN:=UM.trans U1
  obtain⟨rows,Vm,T5⟩:=id Uz
  obtain⟨VD,U9⟩:=c9.gM Vm Zd T5.wide (by rw[T5.len];omega) (P:=dk (G+1) C) Ug
  have UF:=U9.len
  rw[T5.len]at UF
  have Ua:H X O nx=some (.cells UB 2 .own):=by rw[U1.R _ Zo];exact UK
  have fin:∀(f:Int×Int) (T0:F ac) (T3:Nat),iW T E g=f->f.1≠0->aX X O C T0 T3->H X T0 nx=some (.cells UB 2 .own)/\l9 T=f/\∀Uu:F q,aX X S nx (aP X T0 nx (some (.cells Uu 2 .own))) T3:=λf T0 T3 Ub Uc t=>by
   have Uk:=t.le
   refine⟨by rw[t.R _ Zo];exact Ua,ret f Ub Uc,λUu=>⟨Zo,λa p=> ?_⟩⟩
   rw[aV Zo Zo,t.R a Zo]
   exact UN.R a p
  refine hl ⟨?_⟩
  refine cQ (λy B ah=>y.g 0=some (.ptr b 0)/\y.g 2=some (.ptr nx 0)/\y.g 3=some (.Z (E:Int))/\y.g 7=some aB/\gh [] (bf g)=(0,0)/\aX X O C B ah) (λVo Ui=> ?_) ?_
  ·refine cM (λm y B ah=>∃(i:Nat),y.g 0=some (.ptr b 0)/\y.g 2=some (.ptr nx 0)/\y.g 3=some (.Z (E:Int))/\y.g 7=some aB/\y.g 8=some (.Z (i:Int))/\i+m=(bf g).length/\aX X O C B ah/\∀T2 a,T2<i->(bf g)[T2]? =some a->a.2.name∉fN ((bf g).take T2))
    (bf g).length ⟨0,al t0,al r,al t3,aI,cx,Zo,aX.refl _ _,λT2 a e=>absurd e (Nat.not_lt_zero _)⟩ ?_
   clear t0 r t3
   rintro TY y Us V9 ⟨i,t0,r,t3,s,UX,ai,T1,T8⟩
   have Uj:=T1.le
   cases TY with
   |zero=>
    have d:=zv i (bf g).length
    refine cV @UX @s @UF @d ⟨?_⟩
    exact Ui _ _ _ ⟨al t0,al r,al t3,al s,Fl λT2 a p=>T8 T2 a (zu (Zf.1 p).1) p,T1⟩
   |succ TY=>
    have d:=zw i (bf g).length
    have UJ:=zz i
    obtain⟨x,T6⟩:=zx (bf g) i
    obtain⟨Vs,Vt,U2⟩:=T5.at_ i x T6
    have U3:=U9.cP i (by rw[T5.len];omega)
    have T9:∀B ah,aX X O C B ah->cg X B (dk (G+1) C) VD aB 11 rows:=λB ah UC=>U9.R λa p=>UC.R a p.2
    have VZ:=(T9 _ _ T1).cell i _ 1 (.str x.2.name) U2 rfl
    obtain⟨W8,jm,Vk,Vv,VP,VQ⟩:=(Uz.R λa p=>T1.R a (Ug a p).2).front (i:=i) (bm:=dk (G+1) C) Zo Zo Ug
    refine bo @UX @s @UF @d @Vk @U3 @VZ ⟨?_⟩
    refine(Ir (nx:=V9+11) (S:=Us) Z Zo VP VQ (by rw[Yq];omega) (λa p=>zu p.2)).Zm ?_
    rintro u8 T0 T3 ⟨⟨cf,Vc⟩,t⟩
    have Uk:=t.le
    have UO:aX X O C T0 T3:=T1.trans (t.jz Zo)
    have Va:=(T9 _ _ UO).cell i _ 1 (.str x.2.name) U2 rfl
    have VK:=(T9 _ _ UO).cell i _ 2 (.Z x.2.at_) U2 rfl
    refine bB @Va ⟨?_⟩
    refine eV (sv _) ?_
    refine(rK (nx:=T3) (S:=T0) Z Vc).Zm ?_
    rintro VC UA TZ ⟨rfl,rfl,rfl⟩
    by_cases UV:x.2.name∈fN ((bf g).take i)
    ·have UY:decide (x.2.name∈fN ((bf g).take i))=true:=by simp[UV]
     rw[UY]
     refine cV @s @UX @U3 @VK ⟨?_⟩
     refine(jl (nx:=TZ) (S:=UA) Z 24 x.2.at_ Zo).Zm ?_
     rintro W9 UG Vq ⟨rfl,U0⟩
     obtain⟨Vw,UE,UR⟩:=fin (24,x.2.at_) UG Vq (Im U8 (Fi T6 T8 UV) (by show(24:Int)≠0;decide)) (by show(24:Int)≠0;decide) (UO.trans U0)
     refine cw @r @eX @eY ⟨?_⟩
     exact⟨by rw[UE],UR _⟩
    ·have UY:decide (x.2.name∈fN ((bf g).take i))=false:=by simp[UV]
     rw[UY]
     refine ci @UX @UJ ⟨?_⟩
     refine⟨TY,Zo,i+1,al t0,al r,al t3,al s,aI,Zo,UO,λT2 a W1 p=> ?_⟩
     by_cases VT:T2<i
     ·exact T8 T2 a VT p
     ·have:T2=i:=Zo
      subst this
      rw[T6]at p
      cases p
      exact UV
  ·clear t0 r t3
   rintro y Us V9 ⟨t0,r,t3,s,V0,T1⟩
   have Uj:=T1.le
   refine hl ⟨?_⟩
   refine cQ (λy B ah=>y.g 0=some (.ptr b 0)/\y.g 2=some (.ptr nx 0)/\y.g 3=some (.Z (E:Int))/\y.g 7=some aB/\es (gs (bf g)) (bf g)=(0,0)/\aX X O C B ah) (λVo Ui=> ?_) ?_
   ·refine cM (λm y B ah=>∃(i:Nat),y.g 0=some (.ptr b 0)/\y.g 2=some (.ptr nx 0)/\y.g 3=some (.Z (E:Int))/\y.g 7=some aB/\y.g 9=some (.Z (i:Int))/\i+m=(bf g).length/\aX X O C B ah/\∀x∈(bf g).take i,(gs (bf g) x).1=0)
     (bf g).length ⟨0,al t0,al r,al t3,al s,cx,Zo,T1,Zs⟩ ?_
    clear t0 r t3 s T1 Uj
    rintro TY y T0 T3 ⟨i,t0,r,t3,s,t9,ai,t,T8⟩
    have Uk:=t.le
    cases TY with
    |zero=>
     have d:=zv i (bf g).length
     rw[Zt Zo]at T8
     refine cV @t9 @s @UF @d ⟨?_⟩
     exact Ui _ _ _ ⟨al t0,al r,al t3,al s,tK T8,t⟩
    |succ TY=>
     have d:=zw i (bf g).length
     have UJ:=zz i
     obtain⟨x,T6⟩:=zx (bf g) i
     obtain⟨Vs,Vt,U2⟩:=T5.at_ i x T6
     have U3:=U9.cP i (by rw[T5.len];omega)
     have T9:∀B ah,aX X O C B ah->cg X B (dk (G+1) C) VD aB 11 rows:=λB ah UC=>U9.R λa p=>UC.R a p.2
     have Uo:=(T9 _ _ t).cell i _ 6 (.str x.2.on) U2 rfl
     refine dp @t9 @s @UF @d @U3 @Uo ⟨?_⟩
     refine(tU (nx:=T3) (S:=T0) Z Zo (T9 _ _ t) T5 (λa p=>zu p.2)).Zm ?_
     rintro VC UA TZ ⟨⟨VE,W5,rfl,⟨rest,Vl,Vh⟩,Ve,Vz⟩,UD⟩
     have VW:=UD.le
     have Vg:(q.agg VE).cells.length=11:=by rw[Vl];simp[q.cells,Vh]
     refine bh ⟨?_⟩
     refine cz (e8 (k:=11) (b:=TZ) (A:=0) (n:=11) (v:= .agg VE) (a7 Zo) Zo Vg Zd Zd Ve) ?_
     generalize Uy:aP X _ TZ _=UG
     have U0:aX X O C UG (TZ+1):=t.trans ⟨Zo,λa p=>by rw[<-Uy];simp(disch:=omega) only[aV];exact UD.R a p⟩
     clear Uy
     have Up:=(T9 _ _ U0).cell i _ 6 (.str x.2.on) U2 rfl
     have Vd:=(T9 _ _ U0).cell i _ 7 (.Z x.2.dg) U2 rfl
     have next:gs (bf g) x=(0,0)->∀a∈(bf g).take (i+1),(gs (bf g) a).1=0:=λe=>hT T6 T8 (by rw[e])
     by_cases UL:x.2.on=[]
     ·have T7:decide (x.2.on≠[])=false:=by simp[UL]
      refine dp @s @t9 @U3 @Up @T7 @UJ ⟨?_⟩
      exact⟨TY,Zo,i+1,al t0,al r,al t3,al s,aI,Zo,U0,next (by unfold gs;rw[Zj (λe=>e.1 UL)])⟩
     ·have T7:decide (x.2.on≠[])=true:=by simp[UL]
      cases US:(ei (bf g) x.2.on).isSome with
      |true=>
       refine dp @s @t9 @U3 @Up @T7 @UJ ⟨?_⟩
       exact⟨TY,Zo,i+1,al t0,al r,al t3,al s,aI,Zo,U0,next (by unfold gs;rw[Zj (λe=>by rw[e.2]at US;cases US)])⟩
      |false=>
       have VO:ei (bf g) x.2.on=none:=by
        cases e:ei (bf g) x.2.on with
        |none=>rfl
        |some _=>rw[e]at US;cases US
       have V5:gs (bf g) x=(23,x.2.dg):=by unfold gs;rw[Zv ⟨UL,VO⟩]
       have VN:es (gs (bf g)) (bf g)=(23,x.2.dg):=by rw[tJ T6 T8 (by rw[V5];show(23:Int)≠0;decide),V5]
       refine dp @s @t9 @U3 @Up @Vd @T7 ⟨?_⟩
       refine(jl (nx:=TZ+1) (S:=UG) Z 23 x.2.dg Zo).Zm ?_
       rintro WA VF Vr ⟨rfl,VI⟩
       obtain⟨Vx,UE,UR⟩:=fin (23,x.2.dg) VF Vr (Ip U8 V0 VN (by show(23:Int)≠0;decide)) (by show(23:Int)≠0;decide) (U0.trans VI)
       refine cw @r @eX @eY ⟨?_⟩
       exact⟨by rw[UE],UR _⟩
   ·clear t0 r t3 s T1 Uj
    rintro y T0 T3 ⟨t0,r,t3,s,Uo,t⟩
    have Uk:=t.le
    have VJ:=UN.trans t
    refine cw @t0 @t3 @s ⟨?_⟩
    refine(FH (P:=P) (bi:=dk (G+1) C) (nx:=T3) (S:=T0) Z Zo (UT.R (UW _ _ VJ) λ_ e=>e) U5.qi (λa p=>zu (U6 a p)) UU (U9.R λa p=>t.R a p.2) T5 (λa p=>zu p.2) Zo (zu Uh.an.2.2.2) V3 (λJ Vf=>ZD (Uh.ea J Vf) Zd)).Zm ?_
    rintro VC UA TZ ⟨rfl,UD⟩
    have VW:=UD.le
    have UP:=t.trans UD
    have Um:=In U8 V0 Uo
    generalize gB T E g=f at Um
    by_cases UQ:f.1=0
    ·have T7:decide (f.1≠0)=false:=by simp[UQ]
     have VR:H X UA nx=some (.cells UB 2 .own):=by rw[UP.R _ Zo];exact Ua
     rw[Um,Zj (by simp[UQ])]at U7
     refine db @eX @eY @T7 @t3 @VG ⟨?_⟩
     exact⟨m,Zo,E+1,al t0,al r,aI,Zo,UN.trans (UP.trans dJ),Zo,⟨UB,by simp(disch:=omega) only[aV];exact VR⟩,U7⟩
    ·have T7:decide (f.1≠0)=true:=by simp[UQ]
     obtain⟨VH,UE,UR⟩:=fin f UA TZ Um UQ UP
     refine db @eX @eY @T7 @r @VH ⟨?_⟩
     exact⟨by rw[UE],Zo,λa p=>by simp(disch:=omega) only[aV];exact(UN.trans UP).R a p⟩
end
end
open Go.Q
set_option maxRecDepth 100000
set_option maxHeartbeats 4000000
noncomputable section
variable (X : bQ) (a : F ac) (b : Nat) (M ad : be) (a0 aE aW a3 a4 a5 dS dW dA : q)
def v1:Za0:=λa b c d e f g=>aJ a 5 [b,c] d e (λd e h=>aJ a 6 [d] e h (λe h i=>aJ a 7 [d] h i (λh i j=>l (ag .neq h (.Z 0)) λh=>aq (λb c d=>N (b 5) λe=>N (b 6) λb=>aJ a 11 [e,b] c d (λb c d=>aj (λa c d=>bM (λa=>f a c d) λc=>aA b (c a) (c .zF)) λe=>ae true b (aJ a 10 [] c d (λa b c=>e a b c) g) (e Q.undef c d)) g) λk=>aA h (aJ a 8 [d] i j (λb c d=>l (dE 0 b) λh=>l (dE 1 b) λb=>l (cv [.Z 0,.Z 0] d) λi=>cb a c d i.1 i.2 λc d i=>l (bj a d 2 c b) λb=>df (i+12) λd=>l (bZ a b .eql 29 true h .bt) λh=>b1 (λb i=>b1 (λe i=>aj (λd e i=>b1 (λd e=>bM (λd=>rM (aj (λa b c=>bM (λa=>f a b c) λb=>aA d (b a) (b .zF)) λb=>ae true d (aJ a 10 [] e i (λa c d=>b a c d) g) (b Q.undef e i)) λd=>ae true h (l (br a e 2 c) λa=>ez a (some b) d) d) λa=>aA h (a d) (a .zF)) λc=>ae true h (l (bZ a e .eql 31 false b d) λa=>c a e) (c Q.undef e)) λb=>ae true h (aJ a 9 [e] i d (λa c d=>b a c d) g) (b Q.undef i d)) λa=>ae true h (a e i) (a Q.undef i)) λd=>ae true h (l (br a b 2 c) λa=>d a b) (d Q.undef b)) g) (k (zE (bN [b,c]) 4 .zF 5 d 6 e 16 h) i j)) g) g) g
def CB:cl X 3 [a0,aE]=v1 X a0 aE:=Zk
def CA:b9 X 3 2=true:=Zk
def sp(a:ax)(b:be):c8:=λc d e=>hR a [.cell 2 29, .cell 3 31] b c c.av d e
def Aa(a:ax)(b c:be):iK:=λd e f g=>kl a [.cell 2 29, .cell 3 31] b c d e d.av f g
def wE:Za1:=λa b c d e f=>l (cv [.bt] d) λg=>cb a c d g.1 g.2 λc d g=>l (cv [.Z 0,.Z 0] g) λh=>cb a d g h.1 h.2 λd g h=>aJ a 24 [b] g h (λg h i=>l (cv [.Z 0,.Z 0] i) λj=>cb a h i j.1 j.2 λh i j=>l (bj a i 2 h g) λg=>l (ao 0 h) λi=>l (W a g i) λi=>l (ag .neq i (.Z 0)) λi=>aq (λb c d=>N (b 2) λg=>N (b 3) λh=>tq (.func (.func 25) [] [g,h]) [] b λb=>cb a c d (.map d) (.map [] 0) λc d g=>l (cq [.fq] [(0,1,c)]) λc=>eR a d g c λc d g=>N (b 2) λh=>l (bj a d 1 h c) λc=>N (b 2) λd=>l (W a c d) λd=>N (b 0) λh=>l (cq [.bt, .bt, .bt] [(0,1,d),(1,1,h)]) λd=>eR a c g d λc d g=>N (b 0) λh=>l (aY h) λh=>l (ao 0 h) λh=>l (W a d h) λh=>l (bK h) λi=>aq (λb c d=>N (b 2) λf=>l (W a c f) λf=>l (cq [.Z 0,.Z 0] []) λg=>N (b 2) λh=>l (bj a c 1 h f) λc=>N (b 3) λf=>l (bj a c 2 f g) λc=>sp a e b c d) λj=>cC (λb c d g=>N (c 27) λh=>N (c 26) λi=>l (ag .lss h i) λh=>aq (λc d g=>aq (λa c d=>N (a 27) λe=>l (ag .add e (.Z 1)) λe=>b (I a 27 e) c d) λb=>N (c 25) λh=>N (c 27) λi=>l (bH 6 h i) λh=>l (br a d 6 h) λh=>l (cv [.str [],.Z 0, .aw, .aw, .aw, .aw] g) λi=>cb a d g i.1 i.2 λd g i=>l (bj a g 6 d h) λg=>N (c 5) λh=>l (br a g 6 d) λj=>aJ a 26 [h,j] g i (λ_ a e=>b (I c 7 d) a e) (Aa a e f (d9 [31,32,33] (I c 7 d)))) λa=>aA h (a (I c 28 h) d g) (j (I c 28 h) d g)) (zE b 5 c 25 h 26 i 27 (.Z 0)) d g) λf=>aA i (df (j+3) λf=>l (br a g 2 h) λj=>l (bj a g 1 c .bt) λg=>l (br a g 2 h) λk=>ez k (some j) (l (bj a g 2 d j) λg=>sp a e (zE (bN [b]) 2 c 3 d 4 h 12 i) g f)) (f (zE (bN [b]) 2 c 3 d 4 h 12 i) g j)) (Aa a e f (d9 [8,9,4] (zC (bN [b]) 2 c 3 d)))
def DH:nl X 8 [a0] a b M ad=wE X a0 a b M ad:=Zk
def DG:b9 X 8 1=true:=Zk
def wM:Za1:=λa b c d e f=>l (cv [.Z 0,.Z 0] d) λg=>cb a c d g.1 g.2 λc d g=>aJ a 27 [b] d g (λd g h=>l (cv [.Z 0,.Z 0] h) λi=>cb a g h i.1 i.2 λg h i=>l (bj a h 2 g d) λd=>l (ao 0 g) λh=>l (W a d h) λh=>l (ag .neq h (.Z 0)) λh=>aq (λb c d=>aq (λb c d=>l (cq [.Z 0,.Z 0] []) λf=>N (b 2) λg=>l (bj a c 2 g f) λc=>N (b 2) λb=>l (br a c 2 b) λa=>e a c d) λg=>cC (λb c d h=>N (c 4) λi=>N (c 0) λj=>l (aY j) λj=>l (ao 0 j) λj=>l (W a d j) λj=>l (bK j) λj=>l (ag .lss i j) λi=>aq (λc d g=>aq (λa c d=>N (a 4) λe=>l (ag .add e (.Z 1)) λe=>b (I a 4 e) c d) λb=>N (c 0) λh=>N (c 0) λi=>l (aY i) λi=>l (ao 0 i) λi=>l (W a d i) λi=>N (c 4) λj=>l (bH 6 i j) λi=>l (br a d 6 i) λi=>aJ a 28 [h,i] d g (λd f g=>N (c 3) λh=>l (bj a f 2 h d) λd=>N (c 3) λf=>l (ao 0 f) λf=>l (W a d f) λf=>l (ag .neq f (.Z 0)) λf=>aq b λb=>aA f (N (c 3) λb=>l (br a d 2 b) λb=>N (c 2) λf=>l (bj a d 2 f b) λb=>N (c 2) λc=>l (br a b 2 c) λa=>e a b g) (b (I c 31 f) d g)) f) λa=>aA i (a (I c 17 i) d h) (g (I c 17 i) d h)) (I b 4 (.Z 0)) c d) λf=>aA h (l (br a d 2 g) λb=>l (bj a d 2 c b) λb=>l (br a b 2 c) λa=>e a b i) (f (zD (bN [b]) 2 c 3 g 9 h) d i)) f
def DN:cl X 9 [a0]=wM X a0:=Zk
def DM:b9 X 9 1=true:=Zk
def vA:Za0:=λa b c d e f g=>aJ a 8 [b] d e (λd e h=>l (dE 0 d) λi=>l (dE 1 d) λd=>l (cv [.Z 0,.Z 0] h) λj=>cb a e h j.1 j.2 λe h j=>l (bj a h 2 e d) λd=>df (j+12) λh=>l (br a d 2 e) λj=>aJ a 9 [c] d h (λd h k=>l (bZ a h .neq 31 false j d) λd=>b1 (λh m=>b1 (λh m=>b1 (λm n=>b1 (λm n=>b1 (λm n=>b1 (λh m=>bM (λd=>l (br a m 2 e) λh=>ez h (some j) (aq (λb c d=>N (b 5) λe=>l (bZ a c .eql 29 true e .bt) λe=>aq (λb c d=>N (b 0) λe=>l (aY e) λe=>l (ao 0 e) λe=>l (W a c e) λe=>l (bK e) λh=>aq (λb c d=>N (b 5) λe=>aJ a 30 [e] c d (λa c d=>N (b 7) λb=>l (ag .eql a b) λa=>f a c d) g) λi=>cC (λb c d e=>N (c 40) λh=>N (c 39) λj=>l (ag .lss h j) λh=>aq (λc d e=>aq (λa c d=>N (a 40) λe=>l (ag .add e (.Z 1)) λe=>b (I a 40 e) c d) λb=>N (c 40) λh=>N (c 38) λi=>N (c 40) λj=>l (bH 6 i j) λi=>l (br a d 6 i) λi=>l (cv [.str [],.Z 0, .aw, .aw, .aw, .aw] e) λj=>cb a d e j.1 j.2 λd e j=>l (bj a e 6 d i) λe=>N (c 1) λi=>l (aY i) λi=>l (ao 0 i) λi=>l (W a e i) λi=>l (bH 6 i h) λi=>l (br a e 6 i) λi=>aJ a 31 [i] e j (λe i j=>l (ao 5 d) λk=>l (W a i k) λk=>l (bK k) λk=>aq b λb=>cC (λc d e h=>N (d 56) λi=>N (d 55) λj=>l (ag .lss i j) λi=>aq (λb d e=>aq (λa b d=>N (a 56) λe=>l (ag .add e (.Z 1)) λe=>c (I a 56 e) b d) λc=>N (b 56) λh=>df (e+23) λe=>N (b 5) λi=>N (b 9) λj=>l (ao 5 j) λj=>l (W a d j) λj=>l (bH 4 j h) λj=>l (ao 3 j) λj=>l (W a d j) λj=>N (b 1) λk=>N (b 10) λm=>N (b 1) λn=>l (aY n) λn=>l (ao 0 n) λn=>l (W a d n) λn=>N (b 8) λo=>l (bH 6 n o) λn=>l (ao 5 n) λn=>l (W a d n) λn=>l (bH 4 n h) λn=>l (ao 3 n) λn=>l (W a d n) λn=>aJ a 32 [i,j,k,m,n] d e (λa d e=>l (ag .lss a (.Z 0)) λg=>aq (λa b d=>N (a 7) λe=>N (a 12) λf=>l (ag .add e f) λe=>c (I a 7 e) b d) λc=>aA g (f .zF d e) (c (zD b 11 h 12 a 82 g) d e)) g) λa=>aA i (a (I d 57 i) e h) (b (I d 57 i) e h)) (I (zE c 9 d 8 h 10 e 55 k) 56 (.Z 0)) i j) g) λa=>aA h (a (I c 41 h) d e) (i (I c 41 h) d e)) (zE b 7 (.Z 0) 38 e 39 h 40 (.Z 0)) c d) λh=>aA e (N (b 5) λb=>aJ a 30 [b] c d (λa b c=>l (ag .eql a (.Z 0)) λa=>f a b c) g) (h (I b 31 e) c d)) λa=>aA d (f .zF m k) (a (zE (bN [b,c]) 4 .zF 6 e 5 i 29 d) m k))) λa=>aA d (a .zT) (a h)) λb=>ae false d (l (bZ a n .neq 4 false h m) λa=>b a n) (b Q.undef n)) λa=>ae false d (l (ag .neq m (.Z 0)) λb=>a b n) (a Q.undef n)) λb=>ae false d (l (W a n m) λa=>b a n) (b Q.undef n)) λa=>ae false d (l (ao 0 e) λb=>a b m) (a Q.undef m)) λb=>ae false d (l (bZ a m .eql 29 true h .bt) λa=>b a m) (b Q.undef m)) λa=>ae false d (a i h) (a Q.undef h)) g) g
def BR:cl X 11 [a0,aE]=vA X a0 aE:=Zk
def BQ:b9 X 11 2=true:=Zk
end
end Go.Proofs.YtmipngjbcdamjaaGreatDoor

namespace Go.Proofs.YtmipngjbcdamjaaGreatDoor
open Go.Q
noncomputable section
variable (X : bQ) (S : F ac) (nx : Nat) (M ad : be) (a0 aE aW a3 a4 a5 dS dW dA : q)
def v2:Za1:=λa b c d e _=>l (bZ a c .eql 29 true b .bt) λf=>aq (λb c d=>N (b 0) λb=>l (aY b) λb=>l (ao 0 b) λb=>l (W a c b) λb=>l (HH a c b) λa=>e a c d) λa=>aA f (e (.Z 0) c d) (a (zC (bN [b]) 2 (.Z 0) 4 f) c d)
def Ct:cl X 30 [a0]=v2 X a0:=Zk
def Cs:b9 X 30 1=true:=Zk
end
open Go.Q Go.a6
noncomputable section
section
variable{X:bQ}{S B cE ay aM:F ac}{nx nx' aG aL bw:Nat}{bm d0 P bi:Nat->Prop}
def HP(p:q):iM X S 29 p=W X S p:=Zk
def HQ(p:q):iM X S 31 p=br X S 2 p:=Zk
def xE(a b c d:Int):fG X S 50 31 (.agg [.Z a, .Z b]) (.agg [.Z c, .Z d])=(match some (jq a c)with|some true=>(match some (jq b d)with|some true=>some true|some false=>some false|none=>none)|some false=>some false|none=>none):=Zk
def Fy(a b:Int):bZ X S .eql 31 false (.agg [.Z a, .Z b]) (.agg [.Z a, .Z b])=some .zT:=by
 have e:bZ X S .eql 31 false (.agg [.Z a, .Z b]) (.agg [.Z a, .Z b])=(match fG X S 50 31 (.agg [.Z a, .Z b]) (.agg [.Z a, .Z b])with|some b=>gz b|none=>none):=Zk
 rw[e,xE,ke,ke]
 simp
def Iw(a b:Int):bZ X S .neq 31 false (.agg [.Z a, .Z b]) (.agg [.Z a, .Z b])=some .zF:=by
 have e:bZ X S .neq 31 false (.agg [.Z a, .Z b]) (.agg [.Z a, .Z b])=(match fG X S 50 31 (.agg [.Z a, .Z b]) (.agg [.Z a, .Z b])with|some b=>gz (!b)|none=>none):=Zk
 rw[e,xE,ke,ke]
 simp
def rn:bZ X S .eql 29 true .bt .bt=some .zT:=Zk
def Ix:bZ X S .neq 4 false .zT .zT=some .zF:=Zk
def JJ{M:be}{y:b8}{p J v w:q}(c:y.av=[])(a:y.g 2=some p)(b:y.g 3=some J)(d:W X S p=some v)(f:br X S 2 J=some w)(e:M (.tuple [v,w]) S nx):sp X M y S nx:=by
 unfold sp
 rw[c]
 show N (y.g 2) (λp=>l (iM X S 29 p) λv=>N (y.g 3) λp=>l (iM X S 31 p) λw=>M (.tuple [v,w]) S nx)
 rw[a,b]
 refine iX ?_
 rw[HP,d]
 refine iY ?_
 refine iX ?_
 rw[HQ,f]
 exact iY e
def s3(a b:Int):q.same 30 (.agg [.Z a, .Z b]) (.agg [.Z a, .Z b])=true:=by simp[q.same,ju,o1]
def A5(t:dR X)(T2:jN X){T:List Go.a6.Node}{v:q}(T7:(o X).aN<=nx)(T3:fT X S P T v)(x:∀a,P a->a<nx)(C:∀g∈T,h0 g)(T4:T.length<=1000):
 aJ X 8 [v] S nx (λL B nx'=>L= .tuple [.bt, .agg [.Z (g6 T).1, .Z (g6 T).2]]/\aX X S nx B nx') zG:=by
 refine q1 (DG X) (t.none _ _ rfl) ?_
 rw[DH]
 unfold wE
 refine bh ⟨?_⟩
 refine l7 (λay=>H X ay nx=zy [.bt] 1/\H X ay (nx+1)=zy [.Z 0, .Z 0] 2/\aX X S nx ay (nx+1+1)) ⟨by exact zL,by rw[a7 Zo];rfl,dJ⟩ ?_
 rintro ay ⟨r,s,m⟩
 refine(Ka (P:=P) (nx:=nx+1+1) (S:=ay) t T2 Zo (T3.R (bi:=P) (λa n=>m.R a (x a n)) (λ_ e=>e)) (λa n=>zu (x a n)) C T4).Zm ?_
 rintro L aM aL ⟨rfl,b⟩
 have T6:=b.le
 have O:H X aM nx=zy [.bt] 1:=by rw[b.R _ Zo];exact r
 have Z:H X aM (nx+1)=zy [.Z 0, .Z 0] 2:=by rw[b.R _ Zo];exact s
 have T1:=m.trans b
 clear r s m b
 have z:=u0 C
 generalize g6 T=f at z ⊢
 obtain⟨cc,p⟩:=f
 have d:decide (cc≠0)=true:=by simpa using z
 refine ci @d @O ⟨?_⟩
 refine eV (s3 _ _) ?_
 refine bB @Z ⟨?_⟩
 generalize c:Go.Q.aP X _ (nx+1) _=i
 have T5:H X i nx=some (.cells (cL (F.ofList [.bt] 0 .nil) 0 [.bt]) 1 .own):=by rw[<-c];exact zL
 have G:H X i (nx+1)=some (.cells (cL (F.ofList [.Z 0, .Z 0] 0 .nil) 0 [.Z cc, .Z p]) 2 .own):=by rw[<-c,a7 Zo];rfl
 have z3:∀a,a<nx->H X i a=H X S a:=λa T0=>by rw[<-c];simp(disch:=omega) only[aV];exact T1.R a T0
 clear c
 exact JJ (v:= .bt) (w:= .agg [.Z cc, .Z p]) rfl (cx) (cx) (by rw[aZ T5,iH];rfl) (by rw[h7,aZ G,aZ G,iH,iH];rfl) ⟨rfl,Zo,z3⟩
def Au(r:dR X){T:List Go.a6.Node}{v:q}(G:(o X).aN<=nx)(z:fT X S P T v)(s:∀a,P a->a<nx)(w:∀g∈T,h0 g)(C:T.length<=1000):
 aJ X 9 [v] S nx (λL B nx'=>L= .agg [.Z (g6 T).1, .Z (g6 T).2]/\aX X S nx B nx') zG:=by
 refine zB r.todV (DM X) ?_
 rw[DN]
 unfold wM
 refine it ?_
 generalize n:aP X S nx _=ay
 have i:∃c,H X ay nx=some (.cells c 2 .own):=⟨_,by rw[<-n,a7 G];rfl⟩
 have p:aX X S nx ay (nx+1):=by rw[<-n];exact dJ
 clear n
 obtain⟨O,i⟩:=i
 refine(EK (P:=P) (nx:=nx+1) (S:=ay) r Zo (z.R (bi:=P) (λa b=>p.R a (s a b)) (λ_ e=>e)) (λa b=>zu (s a b)) w C).Zm ?_
 rintro L aM aL ⟨rfl,m⟩
 have T0:=m.le
 rw[<-m.R _ Zo]at i
 have x:=p.trans m
 have t:=u0 w
 generalize g6 T=f at t ⊢
 obtain⟨cc,Z⟩:=f
 have d:decide (cc≠0)=true:=by simpa using t
 refine cV @d @i @eX @eY ⟨?_⟩
 exact⟨rfl,Zo,λa b=>by simp(disch:=omega) only[aV];exact x.R a b⟩
def HI(a:dR X):aJ X 30 [.bt] S nx (λL B nx'=>L= .Z 0/\B=S/\nx'=nx) zG:=by
 refine zB a.todV (Cs X) ?_
 rw[Ct]
 unfold v2
 refine bB @rn ⟨?_⟩
 exact⟨rfl,rfl,rfl⟩
def EM(m:dR X)(T8:jN X){T:List Go.a6.Node}{v w:q}(G:(o X).aN<=nx)(z:fT X S P T v)(t:∀a,P a->a<nx)(T9:fT X S bi T w)(T3:∀a,bi a->a<nx)(C:∀g∈T,h0 g)(T5:T.length<=1000):
 aJ X 11 [v,w] S nx (λL B nx'=>L= .zT/\aX X S nx B nx') zG:=by
 refine zB m.todV (BQ X) ?_
 rw[BR]
 unfold vA
 refine(A5 (P:=P) (nx:=nx) (S:=S) m T8 G z t C T5).Zm ?_
 rintro L aM aL ⟨rfl,T1⟩
 have U2:=T1.le
 have T4:=u0 C
 have T0:=λ{S:F ac}{nx:Nat} (G:(o X).aN<=nx) (z:fT X S bi T w) (t:∀a,bi a->a<nx)=>Au (S:=S) (nx:=nx) m G z t C T5
 generalize g6 T=f at T4 T0 ⊢
 obtain⟨cc,Z⟩:=f
 have d:decide (cc≠0)=true:=by simpa using T4
 refine ci @eX @eY ⟨?_⟩
 generalize x:Go.Q.aP X _ aL _=n
 have p:∃c,H X n aL=some (.cells c 2 .own)/\c.get 0=some (.Z cc)/\c.get 1=some (.Z Z):=⟨_,by rw[<-x,a7 Zo];rfl,by exact eX _ _ _,by exact eY _ _ _⟩
 have T2:aX X S nx n (aL+1+12):=⟨Zo,λa b=>by rw[<-T1.R a b, <-x];exact zA⟩
 clear x
 obtain⟨T6,p,O,T7⟩:=p
 refine(T0 (nx:=aL+1+12) (S:=n) Zo (T9.R (λa b=>T2.R a (T3 a b)) λ_ e=>e) (λa b=>zu (T3 a b))).Zm ?_
 rintro L i U0 ⟨rfl,s⟩
 have U3:=s.le
 have r:H X i aL=some (.cells T6 2 .own):=by rw[s.R _ Zo];exact p
 have TZ:W X i (.ptr aL 0)=some (.Z cc):=by rw[aZ r];exact O
 have TY:br X i 2 (.ptr aL 0)=some (.agg [.Z cc, .Z Z]):=by rw[h7,aZ r,aZ r,O,T7];rfl
 refine dp @Iw @rn @TZ @d @Ix @TY ⟨?_⟩
 refine eV (s3 _ _) ?_
 refine bB @rn ⟨?_⟩
 refine(HI (X:=X) (S:=i) (nx:=U0) m).Zm ?_
 rintro L U1 U4 ⟨rfl,rfl,rfl⟩
 refine bh ⟨?_⟩
 exact⟨rfl,T2.trans s⟩
end
section
variable{X:bQ}{S B cE ay aM:F ac}{nx nx' aG aL bw:Nat}{bm d0 P bi:Nat->Prop}
set_option maxRecDepth 100000 in
def Hs(m:dR X)(O:jN X)(U3:(o X).dv 10 []=some .zT)(U8:(o X).aN<=nx){a0 aE:q}{U4:Int}{n:Nat}(UC:bK a0=some (.Z U4))(UF:∀B,ii X B 1 a0 none (some (.Z (min U4 400))) none=some aE)(UD:bK aE=some (.Z (n:Int)))(T0:n<=400)(U9:sT X aE n){U6:Nat}(UG:U6<256):
 aJ X 3 [a0, .int .u8 (U6:Int)] S nx (λL B nx'=>L= .zT/\nx<=nx') zG:=by
 refine zB m.todV (CA X) ?_
 rw[CB]
 unfold v1
 refine(HY m.todV U8 UC UF UD T0 U9 UG).Zm ?_
 rintro v ay aG ⟨⟨T,TY,s,r⟩,UK⟩
 refine(Bt (nx:=aG) (S:=ay) m.todV Zo TY (λa b=>b.2) s λg Z=>(r g Z).an).Zm ?_
 rintro w aM aL ⟨UB,T8⟩
 have UL:=T8.le
 have TZ:=TY.R (bi:=λa=>nx<=a/\a<aG) (λa b=>T8.R a b.2) λ_ e=>e
 have z:∀a,((nx<=a/\a<aG)\/(aG<=a/\a<aL))->a<aL:=λa b=>Zo
 refine(x0 (nx:=aL) (S:=aM) m O Zo TZ (λa b=>zu b.2) r s).Zm ?_
 rintro L T1 U5 ⟨⟨c,rfl,_,_⟩,G⟩
 have UM:=G.le
 have U0:=TZ.R (bi:=λa=>nx<=a/\a<aG) (λa b=>G.R a (zu b.2)) λ_ e=>e
 have U1:=UB.R (bi:=λa=>(nx<=a/\a<aG)\/(aG<=a/\a<aL)) (λa b=>G.R a (z a b)) λ_ e=>e
 by_cases U2:c=0
 ·have d:decide (c≠0)=false:=by simp[U2]
  refine bB @d ⟨?_⟩
  refine(EM (nx:=U5) (S:=T1) m O Zo U0 (λa b=>zu b.2) U1 (λa b=>zu (z a b)) r s).Zm ?_
  rintro L T2 i ⟨rfl,x⟩
  have UE:=x.le
  refine bh ⟨?_⟩
  refine q2 U3 ?_
  refine bh ⟨?_⟩
  exact⟨rfl,Zo⟩
 ·have d:decide (c≠0)=true:=by simp[U2]
  refine bB @d ⟨?_⟩
  refine(A5 (nx:=U5) (S:=T1) m O Zo U0 (λa b=>zu b.2) r s).Zm ?_
  rintro L T2 i ⟨rfl,x⟩
  have UE:=x.le
  have T7:=λ{S:F ac}{nx':Nat} (T0:(o X).aN<=nx') (Z:fT X S (λa=>(nx<=a/\a<aG)\/(aG<=a/\a<aL)) T w) (UA:∀a,((nx<=a/\a<aG)\/(aG<=a/\a<aL))->a<nx')=>Au (S:=S) (nx:=nx') m T0 Z UA r s
  generalize g6 T=f at T7 ⊢
  obtain⟨cc,C⟩:=f
  refine ci @eX @eY ⟨?_⟩
  generalize P:Go.Q.aP X _ i _=t
  have p:∃c,H X t i=some (.cells c 2 .own)/\c.get 0=some (.Z cc)/\c.get 1=some (.Z C):=⟨_,by rw[<-P,a7 Zo];rfl,by exact eX _ _ _,by exact eY _ _ _⟩
  have UH:∀a,a<i->H X t a=H X T2 a:=λa b=>by rw[<-P];exact zA
  clear P
  obtain⟨U7,p,T4,T5⟩:=p
  have UI:br X t 2 (.ptr i 0)=some (.agg [.Z cc, .Z C]):=by rw[h7,aZ p,aZ p,T4,T5];rfl
  refine ci @rn @UI ⟨?_⟩
  refine(T7 (nx':=i+1+12) (S:=t) Zo (U1.R (λa b=>by have:=z a b;rw[UH a Zo,x.R a Zo]) λ_ e=>e) (λa b=>zu (z a b))).Zm ?_
  rintro L T3 UO ⟨rfl,T9⟩
  have UN:=T9.le
  have UJ:br X T3 2 (.ptr i 0)=some (.agg [.Z cc, .Z C]):=by
   have T6:H X T3 i=some (.cells U7 2 .own):=by rw[T9.R _ Zo];exact p
   rw[h7,aZ T6,aZ T6,T4,T5];rfl
  refine ci @Fy @UJ ⟨?_⟩
  refine eV (s3 _ _) ?_
  refine bh ⟨?_⟩
  refine q2 U3 ?_
  refine bh ⟨?_⟩
  exact⟨rfl,Zo⟩
end
end
end Go.Proofs.YtmipngjbcdamjaaGreatDoor

namespace Go.Q
noncomputable section
open Go.RowKit (Below)
def vr(h:List q):Prop:=∀v∈h,(∀u a,af u v=af a v)/\∀D,ba D v
def n3(w:World)(v:Value)(an:Nat)(h:List q):Prop:=
 (v= .slice none 0 0/\h=[])\/∃a8 off len cap a2 ty fr,v= .slice (some ⟨a8,off,none⟩) len cap/\len<=cap/\h.length=len*an/\vr h/\
  (0<h.length->w.heap[a8]? =some (.cells a2 ty fr)/\off+h.length<=a2.size/\∀i x,h[i]? =some x->a2[off+i]? =some (af (λ_=>default) x))
def Bn(C:ax)(a:q)(b an:Nat)(h:List q):Prop:=
 (a= .aw/\h=[])\/∃len cap,a= .slice b 0 len cap/\len<=cap/\h.length=len*an/\(0<h.length->H C .nil b=some (.cells (F.ofList h 0 .nil) h.length .eA))
def kk(h:List q)(G:F ac)(b:Nat):F ac:=if 0<h.length then G.set b (some (.cells (F.ofList h 0 .nil) h.length .eA))else G
def n3.pl{w:World}{v:Value}{an:Nat}{h:List q}(e:n3 w v an h)(b:Nat):∃(a:q) (pl:fS),(∀u:bC,u b=pl->af u a=v)/\(∀D:Nat->Prop,D b->ba D a)/\
 ((a= .aw/\h=[])\/∃len cap,a= .slice b 0 len cap/\len<=cap/\h.length=len*an)/\(0<h.length->∀C u D,eD C u D (.cells (F.ofList h 0 .nil) h.length .eA) pl w):=by
 rcases e with ⟨rfl,rfl⟩|⟨a8,off,len,cap,a2,ty,fr,rfl,g,m,n,p⟩
 ·exact⟨.aw,default,λ_ _=>rfl,λ_ _=>trivial, .inl ⟨rfl,rfl⟩,λe=>by simp at e⟩
 ·refine⟨.slice b 0 len cap,⟨a8,off,h.length⟩,λu r=>by simp[af,r],λD d=>d, .inr ⟨len,cap,rfl,g,m⟩,λe C u D=> ?_⟩
  obtain⟨bc,bl,s⟩:=p e
  obtain⟨aC,ai⟩:=fr
  refine⟨a2,ty,aC,ai,bc,⟨trivial,Zp _,bl⟩,bl,λi x c=> ?_⟩
  rw[fD]at c
  have f:=n x (Zg c)
  exact⟨by rw[f.1 u (λ_=>default)];exact s i x c,f.2 D⟩
section
variable{P:Program}{w:World}
def Hr{nm:List (String×Nat)}(T2:lU P nm){laid:List (String×DataW Unit)}{dv:Nat->List q->Option q}(e:laidMet P laid w){aN:Nat}{os:List (Nat×ac)}(ap:dq P nm laid P.globals.size=(aN,os)){v0:Value}{O:Nat}{m:List q}(Z:n3 w v0 O m):
 ∃u D a0,bA ⟨P,kk m (f9 os .nil) aN,aN+1,dv,P.globals.size⟩ u D .nil (aN+1) w.heap.size w/\ip ⟨P,kk m (f9 os .nil) aN,aN+1,dv,P.globals.size⟩ u D/\ca D [a0]/\aR u [a0]=[v0]/\
  Bn ⟨P,kk m (f9 os .nil) aN,aN+1,dv,P.globals.size⟩ a0 aN O m:=by
 obtain⟨a0,t,S,X,t0,fs⟩:=Z.pl aN
 obtain⟨bE,T0,_,G⟩:=e
 have T3:io w bE:=λb off Y=>(G b off Y).1
 obtain⟨aE,aW,f,a3⟩:=yp (C:=⟨P,kk m (f9 os .nil) aN,aN+1,dv,P.globals.size⟩) T2 laid P.globals.size bE rfl T0 T3 (λb off Y=>(G b off Y).2)
 rw[ap]at aE aW a3
 simp only at aE aW a3
 have s:∀b A,H ⟨P,kk m (f9 os .nil) aN,aN+1,dv,P.globals.size⟩ .nil b=some A->((b,A)∈os/\b<aN)\/(b=aN/\0<m.length/\A= .cells (F.ofList m 0 .nil) m.length .eA):=by
  intro b A a
  unfold H at a
  rw[cK]at a
  split at a
  ·rename_i Y
   have Y:=e0 Y
   unfold kk at a
   split at a
   ·rename_i r
    rw[F.gj]at a
    split at a
    ·rename_i j;cases a;exact .inr ⟨j.symm▸rfl,r,rfl⟩
    ·rcases u3 b A os .nil a with J|J
     ·exact .inl ⟨J,by have x:b<P.globals.size\/b<aN:=(aW (b,A) J).2.1;have:P.globals.size<=aN:=aE;omega⟩
     ·simp at J
   ·rcases u3 b A os .nil a with J|J
    ·exact .inl ⟨J,by have x:b<P.globals.size\/b<aN:=(aW (b,A) J).2.1;have:P.globals.size<=aN:=aE;omega⟩
    ·simp at J
  ·simp at a
 refine⟨λb=>if b<P.globals.size then⟨b,0,0⟩else if b=aN then t else f b,λb=>b<aN+1,a0,⟨Zp _,λ_ e=>e,λb A a=> ?_, ?_, ?_, ?_, ?_⟩, ?_, ?_, ?_, ?_⟩
 ·rcases s b A a with e|e
  ·omega
  ·omega
 ·intro b A a _
  rcases s b A a with e|⟨rfl,r,rfl⟩
  ·exact a3 (λb=>if b<P.globals.size then⟨b,0,0⟩else if b=aN then t else f b) (λb=>b<aN+1) (λb T7 T8=>⟨by rw[Zj Zo,Zj Zo],Zo⟩) (λg p=>⟨by rw[Zv p],by have:P.globals.size<=aN:=aE;omega⟩) (b,A) e.1
  ·show eD _ _ _ _ (if b<P.globals.size then(⟨b,0,0⟩:fS)else if b=b then t else f b) w
   rw[Zj (by have:P.globals.size<=b:=aE;omega),Zv rfl]
   exact fs r _ _ _
 ·intro b T6 A o' _ _ d _ _ Y
  exact absurd d (zn.2 Y)
 ·intro b A Y _ d
  exact absurd d (zn.2 Y)
 ·intro b A a _
  rcases s b A a with e|⟨rfl,r,rfl⟩
  ·exact(aW (b,A) e.1).2.2 _ _
  ·refine⟨λc n h ap=>(by cases ap),λc n st T1 i v z=> ?_⟩
   cases T1
   rw[fD]at z
   exact(Zf.1 z).1
 ·intro g p
  have p:g<P.globals.size:=p
  exact⟨Zo,by simp[p],by simp[p]⟩
 ·exact⟨X _ Zo,trivial⟩
 ·simp only[aR]
  rw[S _ (by rw[Zj Zo,Zv rfl])]
 ·rcases t0 with e|⟨len,cap,T4,x,T5⟩
  ·exact .inl e
  ·refine .inr ⟨len,cap,T4,x,T5,λe=> ?_⟩
   unfold H kk
   have:Nat.blt aN (aN+1)=true:=by simp[Nat.blt]
   rw[this,cO,Zv e,F.gj,Zv rfl]
end
end
end Go.Q

namespace Go.Proofs.YtmipngjbcdamjaaGreatDoor
open Go.Q Go.a6
noncomputable section
def nm:List (String×Nat):=[((Tryz.prog.typeName? 3 269).getD "",269)]
def aa:Nat×List (Nat×ac):=dq Tryz.prog nm Rows.typesMadeRow.laid Tryz.prog.globals.size
def rY:aa.1=22:=Zk
def dC:F ac:=f9 aa.2 .nil
def GF:dC.get 1=zy [.map 15] 1:=Zk
structure ob(X:bQ):Prop where
 aN:X.aN=23
 get:∀b,b<22->X.G.get b=dC.get b
section
variable{X:bQ}{S:F ac}
def ob.H(e:ob X){b:Nat}(Y:b<22):H X S b=dC.get b:=by
 have j:Nat.blt b (o X).aN=true:=by
  show Nat.blt b X.aN=true
  rw[e.aN];simp[Nat.blt];omega
 unfold Go.Q.H
 rw[j,cO]
 exact e.get b Y
def ob.oM(e:ob X){b n:Nat}(Y:b<22){c:F q}{st:h1}(a:dC.get b=some (.cells c n st))(A:Nat):W X S (.ptr b A)=c.get A:=aZ (by rw[e.H Y];exact a) A
def FE(a b:Int):fG X S 20 3 (.int .i64 a) (.int .i64 b)=some (jq a b):=Zk
def IL(a:Int):fV X 20 3 (.int .i64 a)=true:=Zk
def HR(w:Int):∀a:List (Int×q),(a.map Prod.fst).Nodup->hL X S 3 (.int .i64 w) (a.map λj=>(q.int .i64 j.1,j.2))=some ((a.find? λj=>decide (j.1=w)).map Prod.snd):=by
 intro a
 induction a with
 |nil=>intro _;rfl
 |cons j a U=>
  intro b
  rw[ZS,List.nodup_cons]at b
  simp only[ZS,hL,U b.2,FE,ke,List.find?_cons]
  by_cases e:j.1=w
  ·have d:a.find? (λj=>decide (j.1=w))=none:=by
    rw[zl]
    intro x g f
    have:x.1=w:=by simpa using f
    exact b.1 (by rw[e, <-this];exact List.mem_map_of_mem g)
   simp[e,d]
  ·have c:¬w=j.1:=λJ=>e J.symm
   simp[e,c]
noncomputable def o4:List (Int×(Int×Bool×Bool×Bool)):=[1,2,3,4,5,6,19,20,23,24,25,26].map λk:Int=>(k,(jG k).getD (0,false,false,false))
def GD:dC.get 15=some (.look ((o4.map λj=>(j.1,q.agg (hS j.2))).map λj=>(q.int .i64 j.1,j.2))):=Zk
def Km(k:Int):(o4.find? λj=>decide (j.1=k)).map Prod.snd=jG k:=by
 by_cases a:k=1\/k=2\/k=3\/k=4\/k=5\/k=6\/k=19\/k=20\/k=23\/k=24\/k=25\/k=26
 ·rcases a with rfl|rfl|rfl|rfl|rfl|rfl|rfl|rfl|rfl|rfl|rfl|rfl<;>decide
 ·have d:jG k=none:=by
   unfold jG
   rw[Zj Zo,Zj Zo,Zj Zo,Zj Zo,Zj Zo,Zj Zo,Zj Zo,Zj Zo,Zj Zo]
  rw[d]
  have:o4.find? (λj=>decide (j.1=k))=none:=by
   rw[zl]
   intro x g f
   have b:x.1=k:=by simpa using f
   obtain⟨i,c,rfl⟩:=ZB.1 g
   simp only at b
   subst b
   simp only[Zz,List.not_mem_nil,or_false]at c
   exact a c
  rw[this];rfl
def Gn(e:ob X):jN X:=⟨λS=>⟨.map 15,by rw[e.oM Zd GF];rfl,λk=>by
 have a:H X S 15=_:=(e.H Zd).trans GD
 have c:((o4.map λj=>(j.1,q.agg (hS j.2))).map Prod.fst).Nodup:=by decide
 simp only[gn,a,IL,cO,HR k _ c]
 have b:((o4.map λj=>(j.1,q.agg (hS j.2))).find? λj=>decide (j.1=k)).map Prod.snd=(jG k).map λs=>q.agg (hS s):=by
  rw[<-Km k,List.find?_map]
  have:((λj:Int×q=>decide (j.1=k))∘λj:Int×(Int×Bool×Bool×Bool)=>(j.1,q.agg (hS j.2)))=λj=>decide (j.1=k):=rfl
  rw[this]
  cases o4.find? (λj=>decide (j.1=k))<;>rfl
 rw[b]
 cases jG k with
 |none=>rfl
 |some s=>rfl⟩⟩
end
end
end Go.Proofs.YtmipngjbcdamjaaGreatDoor

