/- Part of the proof of the last text; no conditions -/
import Derived.Test.YtmipngjbcdamjaaGreatDoorYe
import Derived.Lib.Bytealg
import Derived.LaidLaws
set_option maxHeartbeats 8000000
set_option linter.all false
namespace Go.Q
noncomputable section
open Go.RowKit (Below)
section
variable{C:ax}{P:Program}{w:World}
def th{a:Addr}{v:Value}(e:w.cell? a=some v):a.spot=none/\∃a2 ty b,w.heap[a.block]? =some (.cells a2 ty b)/\a2[a.off]? =some v:=by
 unfold World.cell? at e
 split at e
 ·rename_i c ty b Y
  split at e
  ·cases e
  ·rename_i d
   refine⟨?_,c,ty,b,Y,e⟩
   cases f:a.spot with
   |none=>rfl
   |some x=>rw[f]at d;exact absurd rfl d
 ·cases e
def s2(a:Addr)(E:Nat):(a.add E).block=a.block:=by unfold Addr.add;split<;>rfl
def wV(a:Addr)(E:Nat):(a.add E).off=a.off+E:=by unfold Addr.add;split<;>simp_all
def tj{a:Addr}{k:Nat}{g:List Value}{a2:Array Value}{ty:TypeId}{n:Nat×Nat}(Y:w.heap[a.block]? =some (.cells a2 ty n))(e:w.cells? 0 a k=some g):g=(a2.toList.drop a.off).take k/\g.length=k:=by
 unfold World.cells? at e
 rw[Zv (zc _)]at e
 obtain⟨c,m⟩:=nz e
 rw[List.length_range]at c
 have key:∀E,E<k->a2[a.off+E]? =g[E]? :=by
  intro E b
  have d:g[E]? =some g[E]:=Ze Zo
  have:=m E E g[E] (by simp[b]) d
  obtain⟨_,l3,r,p,f,i⟩:=th this
  rw[s2,Y]at f
  cases f
  rw[wV]at i
  rw[i,d]
 refine⟨Y9 λE=> ?_,c⟩
 by_cases b:E<k
 ·rw[YA b,Yz, <-key E b];simp
 ·rw[Z3 Zo,Z3 Zx]
def uD(h:List q):n5 (o0 h):=λ_ _=>⟨λ_ _ _ e=>(by cases e),λ_ _ _ e=>(by cases e;exact oT)⟩
def IR(h:List (q×q)):n5 (.look h):=λ_ _=>⟨λ_ _ _ e=>(by cases e),λ_ _ _ e=>(by cases e)⟩
def uX{u:bC}{D:Nat->Prop}{h:List q}{pl:fS}{a2:Array Value}{ty:TypeId}(Y:w.heap[pl.a8]? =some (.cells a2 ty (0,0)))(ap:(a2.toList.drop pl.b3).take h.length=aR u h)(g:ca D h)(c:0<h.length):eD C u D (o0 h) pl w:=by
 have b:h.length<=a2.size-pl.b3:=by
  have:=congrArg List.length ap
  rw[eF]at this
  simp at this
  omega
 refine⟨a2,ty,0,0,Y,rfl,Zo,λi v a=> ?_⟩
 rw[fD]at a
 have ai:i<h.length:=(Zf.1 a).1
 refine⟨?_,mj g a⟩
 have:=congrArg (λx:List Value=>x[i]?) ap
 simp only[YA ai,Yz,ZK,mb,a,ZJ]at this
 exact this
def Lays.block{n aG:Nat}{os:List (Nat×ac)}{cs:List Value}{h:List q}{L:q}{x:Value}{bJ:ac}(pl:fS)(e:Lays C w (n+1) cs (h,aG,os))(t:n5 bJ)
 (v:∀u D,u n=pl->D n->cs=aR u h->ca D h->eD C u D bJ pl w/\x=af u L/\ba D L):Lays C w n [x] ([L],aG,(n,bJ)::os):=by
 obtain⟨aE,aW,f,a3⟩:=e
 have aE:n+1<=aG:=aE
 refine⟨by simp only;omega, ?_,λb=>if b=n then pl else f b, ?_⟩
 ·intro d a
  rcases Zz.1 a with rfl|a
  ·exact⟨Zp _,by simp only;omega,t⟩
  ·obtain⟨Z,z,G⟩:=aW d a
   exact⟨Zo,z,G⟩
 ·intro u D g
  have c:=g n (Zp _) (by simp only;omega)
  simp only[ZP]at c
  obtain⟨i,m,p⟩:=a3 u D (λb X r=>by
   have:=g b Zo r
   have s:b≠n:=Zo
   simp only[Zj s]at this
   exact this)
  obtain⟨O,P,S⟩:=v u D c.1 c.2 i m
  refine⟨by simp[aR,P],⟨S,trivial⟩, ?_⟩
  intro d a
  rcases Zz.1 a with rfl|a
  ·simp only[c.1];exact O
  ·exact p d a
def Af{α i:Type}{f:α->i}{a m:List i}(e:a.Perm m):∀h:List α,h.map f=a->∃b:List α,b.Perm h/\b.map f=m:=by
 induction e with
 |nil=>intro h e;simp at e;subst e;exact⟨[], .refl _,rfl⟩
 |cons x _ U=>
  intro h e
  cases h with
  |nil=>simp at e
  |cons g h=>
   simp at e
   obtain⟨b,c,d⟩:=U h e.2
   exact⟨g::b,c.cons g,by simp[e.1,d]⟩
 |swap x g z=>
  intro h e
  cases h with
  |nil=>simp at e
  |cons p h=>
   cases h with
   |nil=>simp at e
   |cons J h=>
    simp at e
    obtain⟨rfl,rfl,rfl⟩:=e
    exact⟨J::p::h, .swap _ _ _,Zs⟩
 |trans _ _ s t=>
  intro h e
  obtain⟨v,c,d⟩:=s h e
  obtain⟨w,n,r⟩:=t v d
  exact⟨w,n.trans c,r⟩
def insert_perm{a:Type}(x:Lit×DataW a):∀h,(DataW.insert x h).Perm (x::h):=by
 intro h
 induction h with
 |nil=>exact .refl _
 |cons b h U=>
  simp only[DataW.insert]
  split
  ·exact .refl _
  ·exact(U.cons b).trans (.swap _ _ _)
def sorted_perm{a:Type}:∀h:List (Lit×DataW a),(h.foldr DataW.insert []).Perm h:=by
 intro h
 induction h with
 |nil=>exact .refl _
 |cons x h U=>exact(insert_perm x _).trans (U.cons x)
def Ha{k:Nat}{v:Value}{key:Lit}{d:q}(c:sj P k=true)(e:keyOf P k v=some key)(a:pW key=some d)(u:bC)(D:Nat->Prop):v=af u d/\ba D d:=by
 unfold sj at c
 unfold keyOf at e
 have j:mapKey P k v=some key:=by
  cases f:P.underlying k with
  |none=>rw[f]at c;cases c
  |some L=>rw[f]at e c;cases L<;>first|exact e|cases c
 unfold mapKey at j
 split at j
 ·simp at j;subst j;simp[pW]at a;subst a;exact⟨rfl,trivial⟩
 ·split at j
  ·rename_i J dw n _ i
   simp at j;subst j;simp[pW]at a;subst a
   exact⟨by rw[i.1];rfl,trivial⟩
  ·cases j
 ·split at j
  ·rename_i s _ _
   simp at j;subst j;simp[pW]at a;subst a
   refine⟨by simp only[af];rw[tc], ?_⟩
   intro x g
   simp at g
   obtain⟨b,_,rfl⟩:=g
   exact b.toNat_lt
  ·cases j
 ·cases j
def Lt{j:Nat}{v:Value}{h:List q}{L:q}{u:bC}{D:Nat->Prop}(c:v.formed P j=true)(a:uk P j h=some L)(b:v.cells.toList=aR u h)(g:ca D h):v=af u L/\ba D L:=by
 unfold uk at a
 unfold Value.formed at c
 cases d:P.underlying j with
 |none=>rw[d]at a;cases a
 |some m=>
  rw[d]at a c
  have agg:(∃cs,v= .agg cs)->L= .agg h->v=af u L/\ba D L:=by
   rintro⟨cs,rfl⟩ rfl
   refine⟨?_,g⟩
   simp only[Value.cells]at b
   simp only[af, <-b]
  have i:v.cells= #[v]->(∃x,h=[x]/\L=x)->v=af u L/\ba D L:=by
   rintro f ⟨x,rfl,rfl⟩
   rw[f]at b
   simp[aR]at b
   exact⟨b,g.1⟩
  cases v<;>cases m<;>simp only at c a<;>first
   |(cases c;done)
   |(simp at a;exact agg ⟨_,rfl⟩ a.symm)
   |(
     split at a
     ·simp at a;exact i rfl ⟨_,rfl,a.symm⟩
     ·cases a)
end
end
noncomputable section
open Go.RowKit (Below)
section
variable{C:ax}{P:Program}{w:World}
variable{next:Nat->DataW Unit->Nat->fb}{dh:TypeId->List Value->Option (DataW Unit×List MemPlace)}
def Hw(U3:qI C w next dh){k j:Nat}(g:sj P k=true):∀(ak:List (Lit×DataW Unit)) (n:Nat) (r:List (q×q)×Nat×List (Nat×ac)),p3 P next j ak n=some r->
 ∀bm:List (MapEntry×((Lit×DataW Unit)×List MemPlace)),bm.map (·.2.1)=ak->(∀z∈bm,keyOf P k z.1.key=some z.2.1.1/\z.1.val.formed P j=true/\dh j z.1.val.cells.toList=some (z.2.1.2,z.2.2)/\io w z.2.2)->
 n<=r.2.1/\(∀x∈r.2.2,n<=x.1/\x.1<r.2.1/\n5 x.2)/\r.1.length=bm.length/\∃f:Nat->fS,∀u D,(∀b,n<=b->b<r.2.1->u b=f b/\D b)->
  bm.map (·.1)=(List.zipWith (λ(p:q×q) (z:MapEntry×((Lit×DataW Unit)×List MemPlace))=>(p.1,p.2,z.1.born)) r.1 bm).map (cG u)/\(∀p∈r.1,ba D p.1/\ba D p.2)/\∀x∈r.2.2,eD C u D x.2 (u x.1) w:=by
 intro ak
 induction ak with
 |nil=>
  intro n r e bm c _
  simp[p3]at e;subst e
  simp at c;subst c
  exact⟨Zp _,Zs,rfl,λ_=>default,λu D _=>⟨rfl,Zs,Zs⟩⟩
 |cons a ak U=>
  obtain⟨key,d⟩:=a
  intro n r e bm c Z
  simp only[p3]at e
  split at e
  ·rename_i UB h aG os U4 U5
   split at e
   ·rename_i v UD aL UC U6 K
    simp at e;subst e
    cases bm with
    |nil=>simp at c
    |cons z bm=>
     simp at c
     obtain⟨U8,U9⟩:=c
     obtain⟨S,TZ,X,U0⟩:=Z z (Zl ..)
     rw[U8]at S X
     obtain⟨aE,aW,T9,a3⟩:=U3 _ _ _ _ U5 _ _ X U0
     obtain⟨b0,bb,T2,TY,b4⟩:=U aG _ K bm U9 (λz U7=>Z z (Zi _ U7))
     have aE:n<=aG:=aE
     have b0:aG<=aL:=b0
     refine⟨ZD aE b0, ?_,by simpa using T2,λb=>if b<aG then T9 b else TY b, ?_⟩
     ·intro x s
      rcases Zr.1 s with J|J
      ·obtain⟨t,G,O⟩:=aW x J
       exact⟨t,Z5 G b0,O⟩
      ·obtain⟨t,G,O⟩:=bb x J
       exact⟨ZD aE t,G,O⟩
     ·intro u D T0
      obtain⟨T3,T4,T5⟩:=a3 u D (λb i m=>by
       have U2:b<aG:=m
       have:=T0 b i (Z5 m b0)
       simp only[Zv U2]at this
       exact this)
      obtain⟨T6,T7,T8⟩:=b4 u D (λb i m=>by
       have U1:¬b<aG:=zn.2 i
       have:=T0 b (ZD aE i) m
       simp only[Zj U1]at this
       exact this)
      obtain⟨bc,bl⟩:=Ha g S U4 u D
      obtain⟨T1,UA⟩:=Lt TZ U6 T3 T4
      refine⟨?_, ?_, ?_⟩
      ·simp only[ZS,List.zipWith_cons_cons,T6]
       congr 1
       obtain⟨⟨UF,UG,UE⟩,_⟩:=z
       simp only[cG]at bc T1 ⊢
       rw[<-bc, <-T1]
      ·intro p g
       rcases Zz.1 g with rfl|g
       ·exact⟨bl,UA⟩
       ·exact T7 p g
      ·intro x s
       rcases Zr.1 s with J|J
       ·exact T5 x J
       ·exact T8 x J
   ·simp at e
  ·simp at e
def Bm{bm:List (MapEntry×((Lit×DataW Unit)×List MemPlace))}:∀(r:List (q×q)) (bm:List (MapEntry×((Lit×DataW Unit)×List MemPlace))),r.length=bm.length->
 (List.zipWith (λ(p:q×q) (z:MapEntry×((Lit×DataW Unit)×List MemPlace))=>(p.1,p.2,z.1.born)) r bm).map (λj=>(j.1,j.2.1))=r:=by
 intro r
 induction r with
 |nil=>intro bm _;simp
 |cons p r U=>
  intro bm e
  cases bm with
  |nil=>simp at e
  |cons z bm=>simp[U bm (by simpa using e)]
def H7{α c:Type}{f g:α->Option c}:∀{h:List α},(∀x∈h,f x=g x)->h.mapM f=h.mapM g:=by
 intro h
 induction h with
 |nil=>intro _;rfl
 |cons a h U=>intro e;simp[zb,e a Zs,U λx b=>e x (by simp[b])]
def F6{α c:Type}{f g:α->List c}:∀{h:List α},(∀x∈h,f x=g x)->h.flatMap f=h.flatMap g:=by
 intro h
 induction h with
 |nil=>intro _;rfl
 |cons a h U=>intro e;simp[za,e a Zs,U λx b=>e x (by simp[b])]
end
end
noncomputable section
open Go.RowKit (Below)
section
variable{C:ax}{P:Program}{w:World}
abbrev rd(P:Program)(w:World)(J:Nat):TypeId->List Value->Option (DataW Unit×List MemPlace):=DataW.trod (λ_=>()) P w 0 (λ_=>true) false J
def sr{a:Addr}{k:Nat}(e:0<k):MemPlace.cell a.block a.off∈MemPlace.row a k:=by
 unfold MemPlace.row
 exact ZB.2 ⟨0,by simp[e],Zs⟩
def yq:∀(m J:Nat),qI C w (kg P m) (rd P w J):=by
 intro m
 induction m with
 |zero=>intro J t d n r e;simp[kg]at e
 |succ m U=>
  intro J t d n r e cs bE K T2
  cases J with
  |zero=>simp[rd,DataW.trod]at K
  |succ J=>
   have TY:=U J
   simp only[kg]at e
   split at e
   ·
    rename_i b v
    simp at e;subst e
    match cs with
    |[]=>simp[rd,DataW.trod,v]at K
    |_::_::_=>simp[rd,DataW.trod,v]at K
    |[c]=>
     cases c<;>simp[rd,DataW.trod,v]at K
     obtain⟨rfl,rfl⟩:=K
     exact .plain λu D=>⟨rfl,trivial,trivial⟩
   ·
    rename_i co k i v
    simp at e;subst e
    match cs with
    |[]=>simp[rd,DataW.trod,v]at K
    |_::_::_=>simp[rd,DataW.trod,v]at K
    |[c]=>
     cases c<;>simp[rd,DataW.trod,v]at K
     obtain⟨⟨rfl,_⟩,⟨rfl,rfl⟩,rfl⟩:=K
     exact .plain λu D=>⟨rfl,trivial,trivial⟩
   ·
    rename_i s v
    simp at e;subst e
    match cs with
    |[]=>simp[rd,DataW.trod,v]at K
    |_::_::_=>simp[rd,DataW.trod,v]at K
    |[c]=>
     cases c<;>simp[rd,DataW.trod,v]at K
     obtain⟨_,rfl,rfl⟩:=K
     refine .plain λu D=>⟨by simp only[aR,af];rw[tc], ?_,trivial⟩
     intro x O
     simp at O
     obtain⟨b,_,rfl⟩:=O
     exact b.toNat_lt
   ·
    rename_i j v
    simp at e;subst e
    match cs with
    |[]=>simp[rd,DataW.trod,v]at K
    |_::_::_=>simp[rd,DataW.trod,v]at K
    |[c]=>
     cases c<;>simp[rd,DataW.trod,v]at K
     rename_i a
     cases a with
     |none=>exact .plain λu D=>⟨rfl,trivial,trivial⟩
     |some a=>simp[ZX]at K
   ·
    rename_i j d v
    split at e
    ·rename_i h aG os ap
     simp only[ce,Zq,Zu]at e
     obtain⟨⟨X,Z⟩,rfl⟩:=e
     have X:=Zh X
     have Z:=e0 Z
     match cs with
     |[]=>simp[rd,DataW.trod,v]at K
     |_::_::_=>simp[rd,DataW.trod,v]at K
     |[c]=>
      cases c<;>simp[rd,DataW.trod,v]at K
      rename_i A
      cases A with
      |none=>simp at K
      |some a=>
       simp only[ZX,Function.comp,Yu,Y5,DataW.ptr.injEq]at K
       obtain⟨bG,U1,x,O,rfl,rfl⟩:=K
       obtain⟨a2,ty,Y⟩:=T2 a.block a.off (Zr.2 (.inl (sr Zo)))
       obtain⟨U6,Uo⟩:=tj Y U1
       have T5:a.spot=none:=by
        unfold World.cells? at U1
        rw[Zv (zc _)]at U1
        obtain⟨bc,bl⟩:=nz U1
        have:=bl 0 0 bG[0] (by rw[List.getElem?_range Zo]) (Ze Zo)
        exact(th (show w.cell? a=some _ from this)).1
       have Uj:=TY _ _ _ _ ap bG x.2 O (T2.of λT3 S=>Zr.2 (.inr S))
       refine Lays.block ⟨a.block,a.off,0⟩ Uj (uD h) λu D T6 U7 U9 UA=>⟨uX Y ?_ UA Z, ?_,U7⟩
       ·simp only
        rw[X, <-U6,U9]
       ·simp only[af,T6]
        obtain⟨cJ,UO,U4⟩:=a
        have T5:U4=none:=T5
        subst T5
        rfl
    ·simp at e
   ·
    rename_i j v
    simp at e;subst e
    match cs with
    |[]=>simp[rd,DataW.trod,v]at K
    |_::_::_=>simp[rd,DataW.trod,v]at K
    |[c]=>
     cases c<;>(try(simp[rd,DataW.trod,v]at K;done))
     rename_i a len cap
     cases a with
     |none=>
      simp only[rd,DataW.trod,v]at K
      split at K<;>simp_all
      exact .plain λu D=>⟨rfl,trivial,trivial⟩
     |some a=>
      simp[rd,DataW.trod,v,ZX]at K
   ·
    rename_i j ak Ut v
    split at e
    ·split at e
     ·rename_i h aG os ap
      simp only[ce,Zu]at e
      obtain⟨Z,rfl⟩:=e
      have Z:=e0 Z
      match cs with
      |[]=>simp[rd,DataW.trod,v]at K
      |_::_::_=>simp[rd,DataW.trod,v]at K
      |[c]=>
       cases c<;>(try(simp[rd,DataW.trod,v]at K;done))
       rename_i A len cap
       cases A with
       |none=>
        simp only[rd,DataW.trod,v]at K
        split at K<;>simp_all
       |some a=>
        simp only[rd,DataW.trod,v]at K
        split at K
        ·rename_i Up
         simp only[ZX,Yu,Y5,DataW.slice.injEq,ZP]at K
         obtain⟨U5,UJ,rest,Ug,⟨UF,UT⟩,rfl⟩:=K
         have Uh:rest=[]:=by simpa using UT
         subst Uh
         obtain⟨bc,_⟩:=nz Ug
         obtain⟨bl,UL⟩:=nz UJ
         simp at bc bl
         have UZ:cap=len:=Zo
         subst UZ
         have T4:ak.length=cap:=by rw[<-UF];simp[bl]
         simp only[Z0,ZH,List.append_nil]at T2
         obtain⟨TZ,U0⟩:=yo (C:=C) (w:=w) TY (j:=j) (g:=λi=>(w.cells? 0 (a.add (i*P.cellsOf j)) (P.cellsOf j)).getD []) ak 0 (n+1) _ ap U5
          (by
           rw[T4, <-List.range_eq_range']
           rw[<-UJ]
           have U8:∀i∈List.range cap,(w.cells? 0 (a.add (i*P.cellsOf j)) (P.cellsOf j)).isSome=true:=by
            intro i ai
            have T9:i<cap:=by simpa using ai
            have:=UL i i U5[i] (by simp[T9]) (Ze Zo)
            simp only[ZX]at this
            obtain⟨T1,G,_⟩:=this
            rw[G];rfl
           exact H7 λi ai=>by
            have:=U8 i ai
            cases Uf:w.cells? 0 (a.add (i*P.cellsOf j)) (P.cellsOf j)with
            |none=>rw[Uf]at this;cases this
            |some T1=>simp)
          UF (T2.of λT3 S=>Zr.2 (.inr S))
         simp only at U0
         have UC:0<cap*P.cellsOf j:=by rw[<-T4, <-U0];exact Z
         obtain⟨a2,ty,Y⟩:=T2 a.block a.off (Zr.2 (.inl (sr (by rw[bl];exact UC))))
         have Uq:0<P.cellsOf j:=Nat.pos_of_mul_pos_left UC
         have UY:0<cap:=Nat.pos_of_mul_pos_right UC
         have H:∀i,i<cap->∃T1,w.cells? 0 (a.add (i*P.cellsOf j)) (P.cellsOf j)=some T1:=by
          intro i T9
          have:=UL i i U5[i] (by simp[T9]) (Ze Zo)
          simp only[ZX]at this
          obtain⟨T1,G,_⟩:=this
          exact⟨T1,G⟩
         have T5:a.spot=none:=by
          obtain⟨T1,G⟩:=H 0 UY
          have Ur:=(tj (a:=a.add (0*P.cellsOf j)) (by rw[s2];exact Y) G).2
          unfold World.cells? at G
          rw[Zv (zc _)]at G
          obtain⟨_,bl⟩:=nz G
          have:=bl 0 0 T1[0] (by rw[List.getElem?_range Zo]) (Ze Zo)
          have UV:(a.add (0*P.cellsOf j)).add 0=a:=by simp[Addr.add]
          rw[UV]at this
          exact(th this).1
         have Uc:(List.range' 0 ak.length).flatMap (λi=>(w.cells? 0 (a.add (i*P.cellsOf j)) (P.cellsOf j)).getD [])=(a2.toList.drop a.off).take (cap*P.cellsOf j):=by
          rw[T4]
          have:∀i∈List.range' 0 cap,(w.cells? 0 (a.add (i*P.cellsOf j)) (P.cellsOf j)).getD []=((a2.toList.drop a.off).drop (i*P.cellsOf j)).take (P.cellsOf j):=by
           intro i ai
           have T9:i<cap:=by simpa using ai
           obtain⟨T1,G⟩:=H i T9
           obtain⟨U6,_⟩:=tj (a:=a.add (i*P.cellsOf j)) (by rw[s2];exact Y) G
           rw[G,Y0,U6,wV,List.drop_drop]
          rw[F6 this,xV,Y4,Yf]
         rw[Uc]at TZ
         refine Lays.block ⟨a.block,a.off,0⟩ TZ (uD h) λu D T6 U7 U9 UA=>⟨uX Y ?_ UA Z, ?_,U7⟩
         ·simp only
          rw[U0,T4];exact U9
         ·simp only[af,T6,T4]
          obtain⟨cJ,UO,U4⟩:=a
          have T5:U4=none:=T5
          subst T5
          rfl
        ·simp at K
     ·simp at e
    ·simp at e
   ·
    rename_i eJ ds v
    split at e
    ·rename_i h aG os ap
     simp only[ce,Zu]at e
     obtain⟨X,rfl⟩:=e
     have X:=Zh X
     have UD:rd P w (J+1) t cs=(if cs.length=P.cellsOf t then(eJ.toList.mapM λf=>rd P w J f.type ((cs.drop f.offset).take (P.cellsOf f.type))).map λT0=>(.agg (T0.map (·.1)),T0.flatMap (·.2))else none):=by
      simp only[rd]
      rw[DataW.trod_step]
      unfold DataW.trodStep
      rw[v]
     rw[UD]at K
     split at K
     case isFalse=>cases K
     rename_i T4
     simp only[Yu,Y5,DataW.agg.injEq]at K
     obtain⟨T0,O,U2,rfl⟩:=K
     have:=Hx (C:=C) (w:=w) TY (cs:=cs) eJ.toList ds 0 n _ ap T0 O U2 T2
     simp only[Yf]at this
     rw[Zt Zo]at this
     exact this
    ·simp at e
   ·
    rename_i k j ds v
    split at e
    ·rename_i h aG os ap
     simp only[ce,Zu]at e
     obtain⟨X,rfl⟩:=e
     have X:=Zh X
     have UD:rd P w (J+1) t cs=(if cs.length=P.cellsOf t then((List.range k).mapM λi=>rd P w J j ((cs.drop (i*P.cellsOf j)).take (P.cellsOf j))).map λT0=>(.agg (T0.map (·.1)),T0.flatMap (·.2))else none):=by
      simp only[rd]
      rw[DataW.trod_step]
      unfold DataW.trodStep
      rw[v]
     rw[UD]at K
     split at K
     case isFalse=>cases K
     rename_i T4
     simp only[Yu,Y5,DataW.agg.injEq]at K
     obtain⟨T0,O,U2,rfl⟩:=K
     have Ua:ds.length=k:=by
      have:=(nz O).1
      rw[<-U2];simpa using this
     obtain⟨TZ,U0⟩:=yo (C:=C) (w:=w) TY (j:=j) (g:=λi=>(cs.drop (i*P.cellsOf j)).take (P.cellsOf j)) ds 0 n _ ap T0 (by rw[Ua, <-List.range_eq_range'];exact O) U2 T2
     rw[xV,Y4,Yf,Zt (by simp only at U0;omega)]at TZ
     exact TZ
    ·simp at e
   ·
    rename_i j v
    simp at e;subst e
    match cs with
    |[]=>simp[rd,DataW.trod,v]at K
    |_::_::_=>simp[rd,DataW.trod,v]at K
    |[c]=>
     cases c<;>simp[rd,DataW.trod,v]at K
     all_goals first
      |exact .plain λu D=>⟨rfl,trivial,trivial⟩
      |(split at K<;>simp_all)
   ·
    rename_i k j v
    simp at e;subst e
    match cs with
    |[]=>simp[rd,DataW.trod,v]at K
    |_::_::_=>simp[rd,DataW.trod,v]at K
    |[c]=>
     cases c<;>simp[rd,DataW.trod,v]at K
     rename_i b
     cases b with
     |none=>exact .plain λu D=>⟨rfl,trivial,trivial⟩
     |some b=>
      simp only at K
      split at K
      ·split at K
       ·simp only[ZX]at K
        obtain⟨bk,_,UG⟩:=K
        split at UG<;>simp at UG
       ·cases K
      ·cases K
   ·
    rename_i k j ak v
    simp only[ce]at e
    obtain⟨UB,e⟩:=e
    split at e
    ·rename_i Un aG os ap
     simp at e;subst e
     match cs with
     |[]=>simp[rd,DataW.trod,v]at K
     |_::_::_=>simp[rd,DataW.trod,v]at K
     |[c]=>
      cases c<;>(try(simp[rd,DataW.trod,v]at K;done))
      rename_i b
      cases b with
      |none=>simp[rd,DataW.trod,v]at K
      |some b=>
       simp only[rd,DataW.trod,v]at K
       split at K
       ·rename_i T8 US Y
        split at K
        ·simp only[ZX]at K
         obtain⟨bk,UW,K⟩:=K
         split at K
         ·simp only[Zu,Y5,DataW.map.injEq]at K
          obtain⟨Ui,rfl⟩:=K
          obtain⟨bc,bl⟩:=nz UW
          have Us:bk.length=T8.toList.length:=bc
          have UX:(T8.toList.zip bk).map (·.2.1)=bk.map (·.1):=by
           have UU:(λx:MapEntry×((Lit×DataW Unit)×List MemPlace)=>x.2.1)=(λT3:(Lit×DataW Unit)×List MemPlace=>T3.1)∘Prod.snd:=rfl
           rw[UU, <-YH,List.map_snd_zip Zo]
          obtain⟨bm,UH,UI⟩:=Af (sorted_perm (bk.map (·.1))).symm (T8.toList.zip bk) UX
          rw[Ui]at UI
          have U8:∀z∈bm,keyOf P k z.1.key=some z.2.1.1/\z.1.val.formed P j=true/\rd P w J j z.1.val.cells.toList=some (z.2.1.2,z.2.2)/\io w z.2.2:=by
           intro z Uk
           have Ul:=UH.mem_iff.1 Uk
           obtain⟨i,ai⟩:=ZZ.1 Ul
           rw[List.getElem?_zip_eq_some]at ai
           have:=bl i _ _ ai.1 ai.2
           simp only[ZX]at this
           obtain⟨key,G,T7⟩:=this
           split at T7
           ·rename_i Ub
            simp only[Yu]at T7
            obtain⟨T3,UE,UN⟩:=T7
            rw[<-UN]
            refine⟨G,Ub,UE,T2.of λp UB=> ?_⟩
            refine Zi _ (List.mem_flatMap.2 ⟨z.2,Zg ai.2, ?_⟩)
            rw[<-UN];exact UB
           ·cases T7
          obtain⟨aE,aW,a0,f,a3⟩:=Hw (C:=C) (w:=w) TY UB ak (n+1) _ ap bm UI U8
          have aE:n+1<=aG:=aE
          refine⟨by simp only;omega, ?_,λx=>if x=n then⟨b,0,0⟩else f x, ?_⟩
          ·intro T3 S
           rcases Zz.1 S with rfl|S
           ·exact⟨Zp _,by simp only;omega,IR _⟩
           ·obtain⟨G,T7,UE⟩:=aW T3 S
            exact⟨Zo,T7,UE⟩
          ·intro u D T6
           have U3:=T6 n (Zp _) (by simp only;omega)
           simp only[ZP]at U3
           obtain⟨UP,UQ,UR⟩:=a3 u D (λx X Z=>by
            have:=T6 x Zo Z
            have Ue:x≠n:=Zo
            simp only[Zj Ue]at this
            exact this)
           refine⟨by simp[aR,af,U3.1],⟨U3.2,trivial⟩, ?_⟩
           intro T3 S
           rcases Zz.1 S with rfl|S
           ·simp only[U3.1]
            have UK:(bm.map (·.1)).Perm T8.toList:=by
             have:=UH.map (·.1)
             rwa[List.map_fst_zip Zo]at this
            rw[UP]at UK
            obtain⟨er,UM,Um⟩:=Af UK _ rfl
            refine⟨T8,US,er,Y,Um.symm, ?_, ?_⟩
            ·have:=UM.map (λj=>(j.1,j.2.1))
             rwa[Bm (bm:=bm) _ bm a0]at this
            ·intro x O
             have iU:=UM.mem_iff.1 O
             have Ud:(x.1,x.2.1)∈Un:=by
              have:=List.mem_map_of_mem (f:=λj:q×q×Nat=>(j.1,j.2.1)) iU
              rwa[Bm (bm:=bm) _ bm a0]at this
             exact UQ _ Ud
           ·exact UR T3 S
         ·simp at K
        ·simp at K
       ·simp at K
    ·simp at e
   ·simp at e
end
end
noncomputable section
open Go.RowKit (Below)
def f9:List (Nat×ac)->F ac->F ac
 |[],y=>y
 |(b,A)::h,y=>f9 h (y.set b (some A))
section
variable{C:ax}{P:Program}{w:World}
def u3(b:Nat)(A:ac):∀(h:List (Nat×ac)) (y:F ac),(f9 h y).get b=some A->(b,A)∈h\/y.get b=some A:=by
 intro h
 induction h with
 |nil=>intro y e;exact .inr e
 |cons x h U=>
  obtain⟨a,o'⟩:=x
  intro y e
  rcases U _ e with e|e
  ·exact .inl (Zi _ e)
  ·rw[F.gj]at e
   by_cases j:a=b
   ·subst j;simp at e;subst e;exact .inl (Zl ..)
   ·simp[j]at e;exact .inr e
def A7{nm:String}{g:Nat}{cs:Array Value}(b:P.globalNamed nm=some g)(e:w.var? P nm=some cs):∃ty a,w.heap[g]? =some (.cells cs ty a):=by
 unfold World.var? at e
 rw[b]at e
 simp only[ZL]at e
 split at e
 ·rename_i c ty a Y
  simp at e;subst e
  exact⟨ty,a,Y⟩
 ·cases e
def vp(C:ax)(w:World)(cI n:Nat)(r:Nat×List (Nat×ac)):Prop:=
 n<=r.1/\(∀x∈r.2,(x.1<cI\/n<=x.1)/\(x.1<cI\/x.1<r.1)/\n5 x.2)/\
  ∃f:Nat->fS,∀u D,(∀b,n<=b->b<r.1->u b=f b/\D b)->(∀g,g<cI->u g=⟨g,0,0⟩/\D g)->∀x∈r.2,eD C u D x.2 (u x.1) w
end
end
noncomputable section
open Go.RowKit (Below)
def og:List Nat->Bool
 |[]=>true
 |x::s=>Nat.blt x 256&&og s
def ns:List Nat->Nat->Nat->Int
 |[],_,_=> .negSucc 0
 |x::s,c,i=>aQ (Nat.beq x c) (.ofNat i) (ns s c (i+1))
def oW(ar:Nat)(f:Nat)(args:List q):Option q:=
 aQ (Nat.beq f ar) (match args with
  |[.str s, .int .u8 (.ofNat c)]=>aQ (og s&&Nat.blt c 256) (some (.int .i64 (ns s c 0))) none
  |_=>none) none
section
variable{C:ax}{P:Program}{w:World}
def s4:∀{s:List Nat},og s=true->∀x∈s,x<256:=by
 intro s
 induction s with
 |nil=>intro _ x e;cases e
 |cons a s U=>
  intro e x b
  simp only[og,Zq]at e
  rcases Zz.1 b with rfl|b
  ·exact e0 e.1
  ·exact U e.2 x b
def GZ:∀(s:List Nat) (c i:Nat),(∀x∈s,x<256)->c<256->ns s c i=(if Lib.indexByte (s.map UInt8.ofNat) (UInt8.ofNat c)= -1 then -1 else Lib.indexByte (s.map UInt8.ofNat) (UInt8.ofNat c)+i):=by
 intro s
 induction s with
 |nil=>intro c i _ _;simp[ns,Lib.indexByte]
 |cons a s U=>
  intro c i d b
  have f:=d a (Zl ..)
  have ai:=U c (i+1) (λx m=>d x (Zi _ m)) b
  simp only[ns,ZS,Lib.indexByte,d2]
  by_cases j:a=c
  ·subst j;simp
  ·have g:(UInt8.ofNat a==UInt8.ofNat c)=false:=by
    rw[beq_eq_false_iff_ne]
    intro J
    have:=congrArg UInt8.toNat J
    simp at this
    rw[YM f,YM b]at this
    exact j this
   rw[Zj j,ai,g]
   have ml:=Lib.indexByte_ge (s.map UInt8.ofNat) (UInt8.ofNat c)
   by_cases J:Lib.indexByte (s.map UInt8.ofNat) (UInt8.ofNat c)= -1
   ·simp[J]
   ·simp only[J,ZM]
    have:¬(Lib.indexByte (s.map UInt8.ofNat) (UInt8.ofNat c)+1= -1):=Zo
    simp[J,this]
    omega
def y3{ar f:Nat}{args:List q}{v:q}(e:oW ar f args=some v):f=ar/\∃s c,args=[.str s, .int .u8 (.ofNat c)]/\v= .int .i64 (ns s c 0)/\(∀x∈s,x<256)/\c<256:=by
 unfold oW at e
 rw[d2]at e
 split at e
 ·rename_i j
  split at e
  ·rename_i s c
   simp only[ce,Zq,Zu]at e
   exact⟨j,s,c,rfl,e.2.symm,s4 e.1.1,e0 e.1.2⟩
  ·simp at e
 ·simp at e
def IZ{ar:Nat}{fn:Func}(n:P.funcs[ar]? =some fn)(p:(fn.name== "runtime.NumGoroutine")=false)(Y:fn.body=none)(d:Extern.findNext fn=none)(g:Extern.find fn=some Extern.BytealgIndexByte.indexByte)
 {f:Nat}{args:List q}{v:q}(e:oW ar f args=some v)(u:bC)(w:World):(callFunc f (aR u args).toArray).run P w= .ok (.value (af u v)) w:=by
 obtain⟨rfl,s,c,rfl,rfl,x,i⟩:=y3 e
 have b:=Lib.run_indexByteString (P:=P) (cF s) (Int.ofNat c) w
 have j:Lib.indexByte (cF s).data.toList (Int.ofNat c).toNat.toUInt8=ns s c 0:=by
  rw[GZ s c 0 x i]
  have:(cF s).data.toList=s.map UInt8.ofNat:=by simp[cF]
  rw[this]
  have ml:=Lib.indexByte_ge (s.map UInt8.ofNat) (UInt8.ofNat c)
  show Lib.indexByte (s.map UInt8.ofNat) (UInt8.ofNat c)=_
  split
  ·rename_i J;exact J
  ·simp
 rw[j]at b
 have m:(aR u [.str s, .int .u8 (.ofNat c)]).toArray= #[.string (cF s), .int .u8 (Int.ofNat c)]:=rfl
 rw[m]
 have t:¬fn.name= "runtime.NumGoroutine":=by simpa using p
 simp only[callFunc,Sem.run_bind]
 simp[n,t,Y,d,g,af]
 exact congrArg (λr=>Result.andThen r (λa aK=>Result.ok (Next.value a) aK)) b
end
end
noncomputable section
open Go.RowKit (Below)
mutual
def hP:q->Bool
 | .bool _=>true
 | .int _ _=>true
 | .str s=>og s
 | .bt=>true
 | .aw=>true
 | .fq=>true
 | .nilFunc=>true
 | .nilIface=>true
 | .iface _ v=>hP v
 | .agg h=>mG h
 | .tuple h=>mG h
 |_=>false
def mG:List q->Bool
 |[]=>true
 |v::h=>hP v&&mG h
end
mutual
def sk:∀v,hP v=true->ba (λ_=>False) v
 | .bool _,_=>trivial
 | .int _ _,_=>trivial
 | .str s,e=>s4 (by simpa[hP]using e)
 | .bt,_=>trivial
 | .aw,_=>trivial
 | .fq,_=>trivial
 | .nilFunc,_=>trivial
 | .nilIface,_=>trivial
 | .iface _ v,e=>by
   have:=sk v (by simpa[hP]using e)
   simpa[ba]using this
 | .agg h,e=>qn h (by simpa[hP]using e)
 | .tuple h,e=>qn h (by simpa[hP]using e)
 | .ptr _ _,e=>by simp[hP]at e
 | .slice ..,e=>by simp[hP]at e
 | .cH ..,e=>by simp[hP]at e
 | .map _,e=>by simp[hP]at e
 | .func ..,e=>by simp[hP]at e
def qn:∀h,mG h=true->ca (λ_=>False) h
 |[],_=>trivial
 |v::h,e=>by
  simp only[mG,Zq]at e
  exact⟨sk v e.1,qn h e.2⟩
end
def Ag{v:q}(e:hP v=true):(∀u a,af u v=af a v)/\∀D,ba D v:=
 ⟨λ_ _=>hF (λ_ e=>e.elim) (sk v e),λ_=>gZ (λ_ e=>e.elim) v (sk v e)⟩
def uL{h:List q}(e:mG h=true):(∀u a,aR u h=aR a h)/\∀D,ca D h:=
 ⟨λ_ _=>kM (λ_ e=>e.elim) (qn h e),λ_=>h5 (λ_ e=>e.elim) h (qn h e)⟩
def Ah{a b:q}(e:si a b=true):a=b:=by
 unfold si at e
 split at e
 ·simp only[Ew,Y3]at e;rw[e]
 ·simp only[Zq,yk,ke,Zc]at e;rw[e.1,e.2]
 ·rw[(qf _ _).1 e]
 ·rfl
 ·rfl
 ·rfl
 ·cases e
def Jb:∀{a b:List q},nO a b=true->a=b:=by
 intro a
 induction a with
 |nil=>intro b e;cases b<;>simp[nO]at e;rfl
 |cons x a U=>
  intro b e
  cases b with
  |nil=>simp[nO]at e
  |cons c b=>
   simp only[nO,Zq]at e
   rw[Ah e.1,U e.2]
def tp(x c:q):Bool:=match x,c with
 | .agg a, .agg b=>nO a b
 |x,c=>si x c
def E3{a b:q}(e:tp a b=true):a=b:=by
 unfold tp at e
 split at e
 ·rw[Jb e]
 ·exact Ah e
def ow:List q->List q->Bool
 |[],[]=>true
 |a::x,b::c=>tp a b&&ow x c
 |_,_=>false
def E4:∀{a b:List q},ow a b=true->a=b:=by
 intro a
 induction a with
 |nil=>intro b e;cases b<;>simp[ow]at e;rfl
 |cons x a U=>
  intro b e
  cases b with
  |nil=>simp[ow]at e
  |cons c b=>
   simp only[ow,Zq]at e
   rw[E3 e.1,U e.2]
def js(f:Nat)(args:List q):List (Nat×List q×q)->Option q
 |[]=>none
 |(g,a,v)::h=>aQ (Nat.beq f g) (aQ (ow args a) (some v)<|js f args h) (js f args h)
def yl{f:Nat}{args:List q}{v:q}:∀{h:List (Nat×List q×q)},js f args h=some v->(f,args,v)∈h:=by
 intro h
 induction h with
 |nil=>intro e;simp[js]at e
 |cons x h U=>
  obtain⟨g,b,L⟩:=x
  intro e
  simp only[js]at e
  rw[cK]at e
  split at e
  ·rename_i J
   rw[cK]at e
   split at e
   ·rename_i a
    simp at e;subst e
    rw[Zh J,E4 a]
    exact Zl ..
   ·exact Zi _ (U e)
  ·exact Zi _ (U e)
def hr(A:Nat->List q->Option q)(h:List (Nat×List q×q))(f:Nat)(args:List q):Option q:=
 match js f args h with|some v=>some v|none=>A f args
def qw:List (Nat×List q×q)->Bool
 |[]=>true
 |x::h=>(mG x.2.1&&hP x.2.2)&&qw h
def AY:∀{h:List (Nat×List q×q)},qw h=true->∀x∈h,mG x.2.1=true/\hP x.2.2=true:=by
 intro h
 induction h with
 |nil=>intro _ x e;cases e
 |cons a h U=>
  intro e x b
  simp only[qw,Zq]at e
  rcases Zz.1 b with rfl|b
  ·exact e.1
  ·exact U e.2 x b
section
variable{P:Program}{w:World}
def Fw{U:dG}{C:ax}{f:Nat}{args:List q}{b:Bool}{cs:List dn}{S:F ac}{nx:Nat}{v:q}(e:hi U C f args b cs S nx=some v):∃fn c,C.P.funcs[f]? =some fn/\fn.body=some c:=by
 unfold hi at e
 split at e
 ·rename_i fn d
  split at e
  ·rename_i c a;exact⟨fn,c,d,a⟩
  ·simp at e
 ·simp at e
def y5{G:F ac}{aN cI:Nat}{A:Nat->List q->Option q}{bV:bC}{b6:Nat->Prop}{h:List (Nat×List q×q)}(b:Env ⟨P,G,aN,A,cI⟩ w bV b6)(t:qw h=true)
 (z:∀x∈h,∃m,g5 ⟨P,G,aN,A,cI⟩ m x.1 x.2.1=some x.2.2):sU ⟨P,G,aN,hr A h,cI⟩ w:=by
 refine⟨λf args v a=> ?_,λf args v a u T0 Y=> ?_⟩
 ·have a:hr A h f args=some v:=a
  unfold hr at a
  split at a
  ·rename_i L i
   simp at a;subst a
   obtain⟨d,g⟩:=AY t _ (yl i)
   exact⟨Ag g,uL d⟩
  ·exact b.dv.val f args v a
 ·have a:hr A h f args=some v:=a
  unfold hr at a
  split at a
  ·rename_i L i
   simp at a;subst a
   have r:=yl i
   obtain⟨d,g⟩:=AY t _ r
   obtain⟨m,s⟩:=z _ r
   obtain⟨fn,c,p,n⟩:=Fw s
   right
   have Z:fn.name≠ "runtime.NumGoroutine":=by simpa using b.eO.num f fn p (by simp[n])
   refine⟨?_, ?_⟩
   ·have X:P.funcs[f]? =some fn:=p
    simp[callFunc,X,Z,n]
   ·have S:=b.later Y
    have:=J3 S (f:=f) (args:=args) ((uL d).2 b6) s
    rw[(uL d).1 u bV]
    exact this.mono λj aK ⟨⟨T1,O⟩,C⟩=>⟨by rw[O,(Ag g).1 T1 u],C⟩
  ·exact b.dv.ok f args v a u T0 Y
end
end
noncomputable section
open Go.RowKit (Below)
def pm:List (String×Nat)->String->Option Nat
 |[],_=>none
 |(a,L)::h,s=>aQ (a==s) (some L) (pm h s)
def rQ(P:Program)(nm:List (String×Nat))(t:Nat)(d:DataW Unit)(n:Nat):fb:=match P.underlying t,d with
 |some (.interface _), .iface s (.ptr a)=>(match pm nm s with
  |some L=>(match P.underlying L with
   |some (.pointer _)=>(match kg P 39 L (.ptr a) n with
    |some ([x],aG,os)=>some ([.iface L x],aG,os)
    |_=>none)
   |_=>none)
  |none=>none)
 |_,_=>kg P 40 t d n
def dq(P:Program)(nm:List (String×Nat)):List (String×DataW Unit)->Nat->Nat×List (Nat×ac)
 |[],n=>(n,[])
 |(v,d)::r,n=>match P.globalNamed v with
  |some g=>(match P.globals[g]? with
   |some a=>(match rQ P nm a.type d n with
    |some (h,aG,os)=>aQ (Nat.blt 0 h.length) (match dq P nm r aG with|(aL,b)=>(aL,(g,o0 h)::(os++b))) (dq P nm r n)
    |none=>dq P nm r n)
   |none=>dq P nm r n)
  |none=>dq P nm r n
def lU(P:Program)(nm:List (String×Nat)):Prop:=∀x∈nm,∀L,P.typeName? 3 L=some x.1->L=x.2
section
variable{C:ax}{P:Program}{w:World}
def Em{s:String}{L:Nat}:∀{h:List (String×Nat)},pm h s=some L->(s,L)∈h:=by
 intro h
 induction h with
 |nil=>intro e;simp[pm]at e
 |cons x h U=>
  obtain⟨a,b⟩:=x
  intro e
  simp only[pm]at e
  rw[cK]at e
  split at e
  ·rename_i J
   simp at e J;subst e;subst J
   exact Zl ..
  ·exact Zi _ (U e)
def Hy{nm:List (String×Nat)}(X:lU P nm){t:Nat}{d:DataW Unit}{n:Nat}{r:List q×Nat×List (Nat×ac)}(e:rQ P nm t d n=some r){J:Nat}{cs:List Value}{bE:List MemPlace}(K:rd P w J t cs=some (d,bE))(m:io w bE)
 (Z:∀L v,cs=[.iface L v]->Value.okWide P w .any 0 L v):Lays C w n cs r:=by
 unfold rQ at e
 split at e
 ·rename_i T6 s T4 ai
  split at e
  ·rename_i L T0
   split at e
   ·rename_i j b
    split at e
    ·rename_i x aG os ap
     simp at e;subst e
     obtain⟨G,T3,v,rfl,S,g⟩:=iface_of_trod ai K
     obtain rfl:=X _ (Em T0) T3 S
     obtain⟨T5,a,bG,dw,i,_,_,_⟩:=ptr_of_trod b g
     have ok:=Z _ _ rfl
     have T1:v= .pointer (some a):=by
      unfold Value.okWide at ok
      simp only[b]at ok
      unfold Cell.okWide at ok
      cases v<;>simp[Value.cells,Cell.ok,b]at ok i
      subst i
      rfl
     have O:=yq (C:=C) (w:=w) 39 G _ _ _ _ ap _ _ g m
     obtain⟨aE,aW,f,a3⟩:=O
     refine⟨aE,aW,f,λu D T2=> ?_⟩
     obtain⟨c,p,z⟩:=a3 u D T2
     refine⟨?_,⟨p.1,trivial⟩,z⟩
     subst T1
     have j:Value.pointer (some a)=af u x:=by
      simp[Value.cells,aR]at c
      exact c
     simp only[aR,af,j]
    ·simp at e
   ·simp at e
  ·simp at e
 ·exact yq (C:=C) (w:=w) 40 J _ _ _ _ e cs bE K m
def yp{nm:List (String×Nat)}(UC:lU P nm){cI:Nat}:∀(laid:List (String×DataW Unit)) (n:Nat) (bE:List MemPlace),P.globals.size=cI->DataW.LaidVars P w laid bE->io w bE->
 (∀b off,MemPlace.cell b off∈bE->∀L v,w.cell? ⟨b,off,none⟩=some (.iface L v)->Value.okWide P w .any 0 L v)->vp C w cI n (dq P nm laid n):=by
 intro laid
 induction laid with
 |nil=>
  intro n bE _ _ _ _
  exact⟨Zp _,by simp[dq],λ_=>default,λu D _ _=>by simp[dq]⟩
 |cons a r U=>
  obtain⟨v0,d⟩:=a
  intro n bE O U9 X T5
  obtain⟨g,t,cs,fuel,p,J,f,T7,T8,UA,K,rfl⟩:=U9
  have T9:io w J:=X.of λUK S=>Zr.2 (.inr S)
  have T6:∀b off,MemPlace.cell b off∈J->∀L v,w.cell? ⟨b,off,none⟩=some (.iface L v)->Value.okWide P w .any 0 L v:=λb off Y=>T5 b off (Zr.2 (.inr Y))
  have skip:dq P nm ((v0,d)::r) n=dq P nm r n->vp C w cI n (dq P nm ((v0,d)::r) n):=λj=>by rw[j];exact U n J O K T9 T6
  simp only[Yu]at T7
  obtain⟨U5,s,rfl⟩:=T7
  have G:g<cI:=by rw[<-O];exact(ZI.1 s).1
  have UD:∀L v,cs.toList=[.iface L v]->Value.okWide P w .any 0 L v:=by
   intro L v T4
   obtain⟨ty,TZ,Y⟩:=A7 f T8
   have UG:cs.size=1:=by have:=congrArg List.length T4;simpa using this
   refine T5 g 0 (Zr.2 (.inl (Zr.2 (.inl (sr (a:=⟨g,0,none⟩) (k:=cs.size) Zo))))) L v ?_
   have U6:cs[0]? =some (.iface L v):=by rw[<-ZK,T4];rfl
   simp[World.cell?,Y,U6]
  cases ap:rQ P nm U5.type d n with
  |none=>exact skip (by simp[dq,f,s,ap])
  |some UJ=>
   obtain⟨h,aG,os⟩:=UJ
   by_cases UE:0<h.length
   ·have UB:dq P nm ((v0,d)::r) n=((dq P nm r aG).1,(g,o0 h)::(os++(dq P nm r aG).2)):=by
     have:Nat.blt 0 h.length=true:=by simp[Nat.blt];omega
     simp[dq,f,s,ap,this]
    obtain⟨aE,aW,U3,a3⟩:=Hy (C:=C) (w:=w) UC ap (cs:=cs.toList) (bE:=p) UA (X.of λUK S=>Zr.2 (.inl (Zr.2 (.inr S)))) UD
    obtain⟨b0,bb,U4,b4⟩:=U aG J O K T9 T6
    have aE:n<=aG:=aE
    rw[UB]
    refine⟨ZD aE b0, ?_,λb=>if b<aG then U3 b else U4 b, ?_⟩
    ·intro x c
     rcases Zz.1 c with rfl|c
     ·exact⟨.inl G, .inl G,uD h⟩
     ·rcases Zr.1 c with J|J
      ·obtain⟨Z,T0,T1⟩:=aW x J
       exact⟨.inr Z, .inr (Z5 T0 b0),T1⟩
      ·obtain⟨Z,T0,T1⟩:=bb x J
       exact⟨Z.imp id (λe=>ZD aE e),T0,T1⟩
    ·intro u D TY T3
     obtain⟨T2,U0,U1⟩:=a3 u D (λb i m=>by
      have U8:b<aG:=m
      have:=TY b i (Z5 m b0)
      simp only[Zv U8]at this
      exact this)
     have U2:=b4 u D (λb i m=>by
      have U7:¬b<aG:=zn.2 i
      have:=TY b (ZD aE i) m
      simp only[Zj U7]at this
      exact this) T3
     intro x c
     rcases Zz.1 c with rfl|c
     ·obtain⟨UI,UM⟩:=T3 g G
      obtain⟨ty,TZ,Y⟩:=A7 f T8
      have UG:cs.size=h.length:=by
       have:=congrArg List.length T2
       rw[eF]at this
       simpa using this
      obtain⟨UL,UN,z⟩:=X g 0 (Zr.2 (.inl (Zr.2 (.inl (sr (a:=⟨g,0,none⟩) (k:=cs.size) Zo)))))
      rw[Y]at z
      have UF:TZ=(0,0):=by
       simp only[Zu,Obj.cells.injEq]at z
       exact z.2.2
      rw[UF]at Y
      simp only[UI]
      refine uX (pl:=⟨g,0,0⟩) Y ?_ U0 UE
      simp only[Yf]
      rw[Zt Zx]
      exact T2
     ·rcases Zr.1 c with J|J
      ·exact U1 x J
      ·exact U2 x J
   ·exact skip (by
     have UH:h.length=0:=Zo
     have:Nat.blt 0 h.length=false:=by rw[UH];rfl
     simp[dq,f,s,ap,this])
def ui{nm:List (String×Nat)}(s:lU P nm){laid:List (String×DataW Unit)}{dv:Nat->List q->Option q}(e:laidMet P laid w):
 ∃u D,bA ⟨P,f9 (dq P nm laid P.globals.size).2 .nil,(dq P nm laid P.globals.size).1,dv,P.globals.size⟩ u D .nil (dq P nm laid P.globals.size).1 w.heap.size w/\
  ip ⟨P,f9 (dq P nm laid P.globals.size).2 .nil,(dq P nm laid P.globals.size).1,dv,P.globals.size⟩ u D:=by
 obtain⟨bE,p,_,m⟩:=e
 have t:io w bE:=λb off Y=>(m b off Y).1
 obtain⟨aE,aW,f,a3⟩:=yp (C:=⟨P,f9 (dq P nm laid P.globals.size).2 .nil,(dq P nm laid P.globals.size).1,dv,P.globals.size⟩) s laid P.globals.size bE rfl p t (λb off Y=>(m b off Y).2)
 generalize z:dq P nm laid P.globals.size=r at aE aW a3 ⊢
 obtain⟨aN,os⟩:=r
 simp only at aE aW a3 ⊢
 have i:∀b A,H ⟨P,f9 os .nil,aN,dv,P.globals.size⟩ .nil b=some A->(b,A)∈os/\b<aN:=by
  intro b A a
  unfold H at a
  rw[cK]at a
  split at a
  ·rename_i Y
   rcases u3 b A os .nil a with J|J
   ·exact⟨J,e0 Y⟩
   ·simp at J
  ·simp at a
 refine⟨λb=>if b<P.globals.size then⟨b,0,0⟩else f b,λb=>b<aN,⟨Zp _,λ_ e=>e,λb A a=>(i b A a).2, ?_, ?_, ?_, ?_⟩, ?_⟩
 ·intro b A a _
  have:=a3 (λb=>if b<P.globals.size then⟨b,0,0⟩else f b) (λb=>b<aN) (λb x n=>⟨by rw[Zj Zo],n⟩) (λg c=>⟨by rw[Zv c],Zo⟩) (b,A) (i b A a).1
  exact this
 ·intro b v A o' _ _ d _ _ Y
  exact absurd d (zn.2 Y)
 ·intro b A Y _ d
  exact absurd d (zn.2 Y)
 ·intro b A a _
  exact(aW (b,A) (i b A a).1).2.2 _ _
 ·intro g c
  have c:g<P.globals.size:=c
  exact⟨Zo,by simp[c],by simp[c]⟩
def Env.Hp{nm:List (String×Nat)}(p:lU P nm){laid:List (String×DataW Unit)}{ar:Nat}{fn:Func}(eO:kB P)(m:P.funcs[ar]? =some fn)(n:(fn.name== "runtime.NumGoroutine")=false)(Y:fn.body=none)(b:Extern.findNext fn=none)
 (d:Extern.find fn=some Extern.BytealgIndexByte.indexByte)(e:laidMet P laid w):
 ∃u D,Env ⟨P,f9 (dq P nm laid P.globals.size).2 .nil,(dq P nm laid P.globals.size).1,oW ar,P.globals.size⟩ w u D:=by
 obtain⟨u,D,g,i⟩:=ui (dv:=oW ar) p e
 refine⟨u,D,eO,⟨λf args v a=> ?_,λf args v a u w _=> .inl (IZ m n Y b d a u w)⟩,g,i⟩
 obtain⟨rfl,s,c,rfl,rfl,r,t⟩:=y3 a
 exact⟨⟨λ_ _=>rfl,λ_=>trivial⟩,λ_ _=>rfl,λ_=>⟨r,trivial,trivial⟩⟩
end
end
noncomputable section
open Go.RowKit (Below)
def qk(ar:Nat)(A:Nat->List q->Option q)(f:Nat)(args:List q):Option q:=
 aQ (Nat.beq f ar) (match args with
  |[.str s]=>aQ (og s&&Nat.ble s.length 281474976710656) (some (.str s)) none
  |_=>none) (A f args)
section
variable{P:Program}{w:World}
def y2{ar f:Nat}{A:Nat->List q->Option q}{args:List q}{v:q}(e:qk ar A f args=some v):
 (f=ar/\∃s,args=[.str s]/\v= .str s/\(∀x∈s,x<256)/\s.length<=281474976710656)\/A f args=some v:=by
 unfold qk at e
 rw[d2]at e
 split at e
 ·rename_i j
  split at e
  ·rename_i s
   simp only[ce,Zq,Zu]at e
   exact .inl ⟨j,s,rfl,e.2.symm,s4 e.1.1,ep e.1.2⟩
  ·simp at e
 ·exact .inr e
def Env.Ho{nm:List (String×Nat)}(z:lU P nm){laid:List (String×DataW Unit)}{A:Nat->List q->Option q}{ar:Nat}{fn:Func}{c:Code}(r:P.funcs[ar]? =some fn)(t:(fn.name== "runtime.NumGoroutine")=false)(Y:fn.body=some c)
 (n:∀(s:ByteArray) (w:World),s.size<=281474976710656->Calls P ar #[.string s] w λj aK=>j= .returned (.string s)/\Below w.heap.size w aK)(e:laidMet P laid w){bV:bC}{b6:Nat->Prop}
 (b:Env ⟨P,f9 (dq P nm laid P.globals.size).2 .nil,(dq P nm laid P.globals.size).1,A,P.globals.size⟩ w bV b6):
 ∃u D,Env ⟨P,f9 (dq P nm laid P.globals.size).2 .nil,(dq P nm laid P.globals.size).1,qk ar A,P.globals.size⟩ w u D:=by
 obtain⟨u,D,i,m⟩:=ui (dv:=qk ar A) z e
 refine⟨u,D,b.eO,⟨λf args v a=> ?_,λf args v a u g p=> ?_⟩,i,m⟩
 ·rcases y2 a with ⟨rfl,s,rfl,rfl,d,_⟩|a
  ·exact⟨⟨λ_ _=>rfl,λ_=>d⟩,λ_ _=>rfl,λ_=>⟨d,trivial⟩⟩
  ·exact b.dv.val f args v a
 ·rcases y2 a with ⟨rfl,s,rfl,rfl,d,ap⟩|a
  ·right
   have x:¬fn.name= "runtime.NumGoroutine":=by simpa using t
   refine⟨by simp[callFunc,r,x,Y], ?_⟩
   have:=n (cF s) g (by simpa[cF,ByteArray.size]using ap)
   exact this
  ·exact b.dv.ok f args v a u g p
end
end
noncomputable section
open Go.RowKit (Below)
def AH(C:ax):List (Nat×ac)->F ac->F ac
 |[],y=>y
 |(b,A)::h,y=>AH C h (aP C y b (some A))
def pick(C:ax)(S:F ac):List Nat->List (Nat×ac)
 |[]=>[]
 |b::h=>match H C S b with|some A=>(b,A)::pick C S h|none=>pick C S h
def xz(C:ax):List Nat->Bool
 |[]=>true
 |b::h=>eS C b&&xz C h
def G7(C:ax)(a:List Nat)(S:F ac):F ac:=AH C (pick C S a) .nil
def Ja(todo:List bS):Bool:=match todo with| .drawn .. ::_=>false|_=>true
def yV:List dn->Bool
 |[]=>true
 |c::h=>(match c with|⟨_,_,_,_,todo,_,_,_,_⟩=>(match todo with| .lE .. ::_=>false|_=>true))&&yV h
def np(C:ax)(a:List Nat)(b:dG):dG:=λaS todo ar y S nx=>match ar with
 |⟨fn,n,aa,av,am,ro,cs⟩=>aQ (Ja todo&&yV cs&&xz C a) (b aS todo ⟨fn,n,aa,av,am,ro,cs⟩ y (G7 C a S) nx) none
section
variable{C:ax}{u bV:bC}{D b6:Nat->Prop}{S B:F ac}{nx az:Nat}{w:World}
variable{aF:World}{aO:Nat}{aU:List Frame}{v:q}{b:dG}
def gP(C:ax)(aF:World)(aO:Nat)(aU:List Frame)(aS:fa)(todo:List bS)(ar:dZ)(y:F q)(S:F ac)(nx:Nat)(v:q):Prop:=
 ∀u D w bs tmps aD T,m0 C aF aO aU aS todo ar.fn ar.n ar.aa ar.av ar.am ar.ro ar.cs y S nx u D w bs tmps aD T->Ends C aF aO aU v (lone (bd u ar.fn ar.av ar.am ar.ro tmps aD (de u aS)) T w)
open Classical in
def only(lk:fa)(c:List bS)(a:dZ)(iL:F q)(ay:F ac)(b:Nat)(v:q):dG:=λaS todo ar y S nx=>
 if aS=lk/\todo=c/\ar=a/\y=iL/\S=ay/\nx=b then some v else none
end
end
noncomputable section
open Go.RowKit (Below)
def low(D:Nat->Prop)(bT:Nat)(b:Nat):Prop:=D b/\b<bT
section
variable{D:Nat->Prop}{bT:Nat}
end
end
noncomputable section
open Go.RowKit (Below)
section
variable{C:ax}{u bV:bC}{D b6:Nat->Prop}{S B:F ac}{nx az bT:Nat}{w:World}
variable{aF:World}{aO g:Nat}{aU:List Frame}{v:q}{b:dG}
open Classical in
def cU(C:ax)(aF:World)(aO:Nat)(aU:List Frame)(v:q):dG:=λaS todo ar y S nx=>if gP C aF aO aU aS todo ar y S nx v then some v else none
def wY:gc C aF aO aU (cU C aF aO aU v):=by
 intro aS todo fn n aa av am ro cs y S nx L a u D w bs tmps aD T b
 unfold cU at a
 split at a
 ·rename_i e
  simp at a;subst a
  exact e u D w bs tmps aD T b
 ·cases a
def d8{aS:fa}{todo:List bS}{ar:dZ}{y:F q}(e:gP C aF aO aU aS todo ar y S nx v):cU C aF aO aU v aS todo ar y S nx=some v:=by
 unfold cU
 rw[Zv e]
def Gb{f:bS}{k:List bS}{ar:dZ}{y:F q}(g:q.same 30 v v=true):∀h:List (q×F ac),h≠[]->(∀L B,(L,B)∈h->∃a,gX f L=some a/\gP C aF aO aU .run (a::k) ar y B nx v)->
 k1 (cU C aF aO aU v) f k ar y nx h=some v:=by
 intro h
 induction h with
 |nil=>intro e;exact absurd rfl e
 |cons p h i=>
  obtain⟨L,B⟩:=p
  intro _ d
  obtain⟨a,b,c⟩:=d L B (Zl ..)
  cases h with
  |nil=>simp only[k1,b];exact d8 c
  |cons J h=>
   have U:=i Zs (λL B e=>d L B (Zi _ e))
   simp only[k1,b,d8 c]
   rw[U]
   simp only[g,cO]
end
end
noncomputable section
open Go.RowKit (Below)
abbrev be:=q->F ac->Nat->Prop
abbrev Za0:=ax->q->q->F ac->Nat->be->be->Prop
abbrev Za1:=ax->q->F ac->Nat->be->be->Prop
abbrev Za2:=ax->q->q->q->F ac->Nat->be->be->Prop
abbrev Za3:=ax->q->q->q->q->F ac->Nat->be->be->Prop
abbrev Za4:=ax->F ac->Nat->be->be->Prop
abbrev zG:be:=λ_ _ _=>False
structure b8 where
 g:Nat->Option q
 av:List dI:=[]
 rc:Bool:=false
instance:CoeFun b8 (λ_=>Nat->Option q):=⟨b8.g⟩
def I(y:b8)(d:Nat)(v:q):b8:=⟨λn=>aQ (Nat.beq d n) (some v) (y.g n),y.av,y.rc⟩
def d9(h:List Nat)(y:b8):b8:=⟨λn=>aQ (h9 n h) none (y.g n),y.av,y.rc⟩
def oY(y:b8)(d:dI):b8:=⟨y.g,d::y.av,y.rc⟩
def AI(y:b8):b8:=⟨y.g,y.av,true⟩
abbrev c8:=b8->F ac->Nat->Prop
abbrev iK:=b8->be
structure jc where
 rd:Bool
 av:Bool
 iE:Option (Option q)
def N{α:Type}(A:Option α)(M:α->Prop):Prop:=Option.rec (motive:=λ_=>Prop) False (λa=>M a) A
def IX{α:Type}{A:Option α}{M:α->Prop}{a:α}(e:A=some a)(k:M a):N A M:=by subst e;exact k
def iD{α:Type}{A:Option α}{M:α->Prop}:N A M↔∃a,A=some a/\M a:=by
 cases A with
 |none=>simp[N]
 |some a=>simp[N]
structure l{α:Type}(A:Option α)(M:α->Prop):Prop where
 out:N A M
def IY{α:Type}(A:Option α)(M:α->Prop):l A M=N A M:=propext ⟨λe=>e.out,λe=>⟨e⟩⟩
def cz{α:Type}{A:Option α}{M:α->Prop}{a:α}(e:A=some a)(k:M a):l A M:=⟨IX e k⟩
def e3{α:Type}{A:Option α}{M:α->Prop}:l A M↔∃a,A=some a/\M a:=by rw[IY];exact iD
def Ev(v:q)(a b:Prop):Prop:=q.rec (motive_1:=λ_=>Prop) (motive_2:=λ_=>Prop)
 (λt=>(t=true->a)/\(t=false->b)) (λ_ _=>False) (λ_=>False) (λ_ _=>False) False (λ_ _ _ _=>False) (λ_ _ _ _=>False) False (λ_=>False) False
 (λ_ _ _ _ _=>False) False (λ_ _ _=>False) False (λ_ _=>False) (λ_ _=>False) False (λ_ _ _ _=>False) v
structure aA(v:q)(a b:Prop):Prop where
 out:Ev v a b
def w9{v:q}{a b:Prop}(e:aA v a b):∃t,v= .bool t/\(t=true->a)/\(t=false->b):=by
 have e:=e.out
 cases v with
 |bool t=>exact⟨t,rfl,e⟩
 |_=>exact e.elim
def GB(c:Bool)(v:q)(a b:Prop):Prop:=q.rec (motive_1:=λ_=>Prop) (motive_2:=λ_=>Prop)
 (λt=>(t=c->a)/\(t=(!c)->b)) (λ_ _=>b) (λ_=>b) (λ_ _=>b) b (λ_ _ _ _=>b) (λ_ _ _ _=>b) b (λ_=>b) b
 (λ_ _ _ _ _=>b) b (λ_ _ _=>b) b (λ_ _=>b) (λ_ _=>b) b (λ_ _ _ _=>b) v
structure ae(c:Bool)(v:q)(a b:Prop):Prop where
 out:GB c v a b
structure aj(a:be)(body:be->Prop):Prop where
 out:body a
def G5(a:be)(body:be->Prop):aj a body=body a:=propext ⟨λe=>e.out,λe=>⟨e⟩⟩
structure aq(a:c8)(body:c8->Prop):Prop where
 out:body a
structure bM(a:q->Prop)(body:(q->Prop)->Prop):Prop where
 out:body a
structure b1(a:q->F ac->Prop)(body:(q->F ac->Prop)->Prop):Prop where
 out:body a
def G3(a:q->F ac->Prop)(body:(q->F ac->Prop)->Prop):b1 a body=body a:=propext ⟨λe=>e.out,λe=>⟨e⟩⟩
structure rM(a:Prop)(body:Prop->Prop):Prop where
 out:body a
def G4(a:Prop)(body:Prop->Prop):rM a body=body a:=propext ⟨λe=>e.out,λe=>⟨e⟩⟩
def cQ{a:c8}{body:c8->Prop}(b:c8)(c:∀E:c8,(∀y S nx,b y S nx->E y S nx)->body E)(d:∀y S nx,b y S nx->a y S nx):aq a body:=⟨c a d⟩
structure df(n:Nat)(M:Nat->Prop):Prop where
 out:M n
structure cb(C:ax)(S:F ac)(nx:Nat)(v:q)(bJ:ac)(M:be):Prop where
 out:M v (aP C S nx (some bJ)) (nx+1)
structure fM(C:ax)(S:F ac)(b:Nat)(v:q)(bJ:ac)(M:q->F ac->Prop):Prop where
 out:M v (aP C S b (some bJ))
structure tb(C:ax)(S:F ac)(b:Nat)(a:q)(M:q->F ac->Prop):Prop where
 out:M (.ptr b 0) (aP C S b (some (.cells (F.ofList a.cells 0 .nil) a.cells.length .own)))
structure eR(C:ax)(S:F ac)(nx:Nat)(a:q)(M:be):Prop where
 out:M (.ptr nx 0) (aP C S nx (some (.cells (F.ofList a.cells 0 .nil) a.cells.length .own))) (nx+1)
section
variable(C:ax)(aF:World)(aO:Nat)(aU:List Frame)(v:q)
def sN(cs:List dn):be:=λL S nx=>jg (cU C aF aO aU v) false cs L S nx=some v
def qH(cs:List dn):be:=λL S nx=>match cs with
 |c::rest=>Ap (cU C aF aO aU v) c rest [⟨L,false⟩] S nx=some v
 |[]=>False
end
def i7(C:ax)(f:Nat)(args:List q)(S:F ac)(nx:Nat)(bi dh:be):Prop:=
 ∀(aF:World) (bV:bC) (b6:Nat->Prop) (_:Env C aF bV b6) (aO:Nat) (aU:List Frame) (v:q) (_:q.same 30 v v=true) (cs:List dn),
  (∀L B nx',bi L B nx'->sN C aF aO aU v cs L B nx')->(∀L B nx',dh L B nx'->qH C aF aO aU v cs L B nx')->
  hi (cU C aF aO aU v) C f args false cs S nx=some v
def i7.mono{C:ax}{f:Nat}{args:List q}{S:F ac}{nx:Nat}{bi dh a b:be}(e:i7 C f args S nx bi dh)(i:∀L S nx,bi L S nx->a L S nx)(m:∀L S nx,dh L S nx->b L S nx):
 i7 C f args S nx a b:=
 λaF bV b6 c aO aU v n cs d g=>e aF bV b6 c aO aU v n cs (λL S nx J=>d L S nx (i L S nx J)) (λL S nx J=>g L S nx (m L S nx J))
def sq(U:dG)(C:ax)(h:Nat)(args:List q)(cs:List dn)(S:F ac)(nx:Nat):b2:=match H C S h with
 |some (.loop _ _ fn n aa a params assign body _)=>(match ko n params args a with
  |some a=>U .run [.code assign, .beginRound, .code body] ⟨fn,n,aa,[],false,some h,cs⟩ a S nx
  |none=>none)
 |_=>none
def lY(C:ax)(h:Nat)(args:List q)(S:F ac)(nx:Nat)(bi dh:be):Prop:=
 ∀(aF:World) (bV:bC) (b6:Nat->Prop) (_:Env C aF bV b6) (aO:Nat) (aU:List Frame) (v:q) (_:q.same 30 v v=true) (cs:List dn),
  (∀L B nx',bi L B nx'->sN C aF aO aU v cs L B nx')->(∀L B nx',dh L B nx'->qH C aF aO aU v cs L B nx')->
  sq (cU C aF aO aU v) C h args cs S nx=some v
def lY.mono{C:ax}{h:Nat}{args:List q}{S:F ac}{nx:Nat}{bi dh a b:be}(e:lY C h args S nx bi dh)(g:∀L S nx,bi L S nx->a L S nx)(i:∀L S nx,dh L S nx->b L S nx):
 lY C h args S nx a b:=
 λaF bV b6 c aO aU v m cs d f=>e aF bV b6 c aO aU v m cs (λL S nx J=>d L S nx (g L S nx J)) (λL S nx J=>f L S nx (i L S nx J))
def Bp(C:ax)(f:Nat)(args:List q)(iE:Option q)(S:F ac)(nx:Nat)(bi:Bool->F ac->Nat->Prop):Prop:=
 ∀(aF:World) (bV:bC) (b6:Nat->Prop) (_:Env C aF bV b6) (aO:Nat) (aU:List Frame) (v:q) (_:q.same 30 v v=true) (fn n aa:Nat) (y:F q) (todo:List bS) (ds:List dI) (am:Bool) (ro:Option Nat) (cs:List dn),
  (∀b B nx',bi b B nx'->cU C aF aO aU v (match iE,b with|none,_=> .returning|some _,true=> .returning|some L,false=> .panicking [⟨L,false⟩]) todo ⟨fn,n,aa,ds,am,ro,cs⟩ y B nx'=some v)->
  hi (cU C aF aO aU v) C f args true (⟨fn,n,aa,y,todo,ds,(match iE with|none=> .returning|some L=> .panicking [⟨L,false⟩]),am,ro⟩::cs) S nx=some v
structure aJ(C:ax)(f:Nat)(args:List q)(S:F ac)(nx:Nat)(M ad:be):Prop where
 out:(∃L,C.dv f args=some L/\M L S nx)\/(C.dv f args=none/\(∃fn c,C.P.funcs[f]? =some fn/\fn.body=some c)/\i7 C f args S nx M ad)
structure dx(A:Option bY)(S:F ac)(nx:Nat)(M:be):Prop where
 out:match A with
 |some (.val v)=>M v S nx
 |some (.cu v B nx')=>M v B nx'
 |_=>False
def JF(A:Option bY)(S:F ac)(nx:Nat)(M:be):dx A S nx M=(match A with
 |some (.val v)=>M v S nx
 |some (.cu v B nx')=>M v B nx'
 |_=>False):=propext ⟨λe=>e.out,λe=>⟨e⟩⟩
def JG{A:Option bY}{S:F ac}{nx:Nat}{M:be}{v:q}(e:A=some (.val v))(k:M v S nx):dx A S nx M:=by subst e;exact⟨k⟩
def eU{A:Option bY}{S B:F ac}{nx nx':Nat}{M:be}{v:q}(e:A=some (.cu v B nx'))(k:M v B nx'):dx A S nx M:=by subst e;exact⟨k⟩
structure tS(A:Option bY)(S:F ac)(nx:Nat)(M:be):Prop where
 out:match A with
 |some (.val v)=>M v S nx
 |some (.cu v B nx')=>M v B nx'
 |some (.fork h)=>h≠[]/\∀L B,(L,B)∈h->M L B nx
 |_=>False
def Gd(A:Option bY)(S:F ac)(nx:Nat)(M:be):tS A S nx M=(match A with
 |some (.val v)=>M v S nx
 |some (.cu v B nx')=>M v B nx'
 |some (.fork h)=>h≠[]/\∀L B,(L,B)∈h->M L B nx
 |_=>False):=propext ⟨λe=>e.out,λe=>⟨e⟩⟩
def m5(C:ax)(rd:Bool)(A:Option bY)(S:F ac)(nx:Nat)(M ad:be):Prop:=match A with
 |some (.val v)=>M v S nx
 |some (.cu v B nx')=>M v B nx'
 |some (.enter f args)=>i7 C f args S nx M ad
 |some (.round h args)=>lY C h args S nx M ad
 |some (.known _ _ v)=>M v S nx
 |some (.panic v)=>aQ rd False (ad v S nx)
 |some (.fork h)=>h≠[]/\∀L B,(L,B)∈h->M L B nx
 |_=>False
def ey(x:eQ)(V:List (Nat×q))(y:b8)(M:q->Prop):Prop:=
 eQ.rec (motive:=λ_=>Prop) (λE=>N (cd V E) M) (λn=>N (y n) M) (λa=>M a) x
def rp(V:List (Nat×q))(y:b8)(h:List eQ):(List q->Prop)->Prop:=
 List.rec (motive:=λ_=>(List q->Prop)->Prop) (λM=>M []) (λx _ U M=>ey x V y λa=>U λr=>M (a::r)) h
def cm(a1:List (Nat×Nat))(V:List (Nat×q))(y:b8)(A:Operand)(M:q->Prop):Prop:=match A with
 | .tmp t=>(match cd a1 t with|some E=>N (cd V E) M|none=>N (y t) M)
 | .const v=>N (nG v) M
 | .global g=>M (.ptr g 0)
 | .func f=>M (.func (.func f) [] [])
def iC(a1:List (Nat×Nat))(V:List (Nat×q))(y:b8)(h:List Operand):(List q->Prop)->Prop:=
 List.rec (motive:=λ_=>(List q->Prop)->Prop) (λM=>M []) (λx _ U M=>cm a1 V y x λa=>U λr=>M (a::r)) h
def mE(a1:List (Nat×Nat))(V:List (Nat×q))(y:b8)(h:List (Nat×Operand)):(List (Nat×q)->Prop)->Prop:=
 List.rec (motive:=λ_=>(List (Nat×q)->Prop)->Prop) (λM=>M []) (λx _ U M=>cm a1 V y x.2 λa=>U λr=>M ((x.1,a)::r)) h
def sb(a1:List (Nat×Nat))(V:List (Nat×q))(y:b8)(A:Option Operand)(M:Option q->Prop):Prop:=match A with
 |none=>M none
 |some x=>cm a1 V y x λa=>M (some a)
def fs:Operand:= .global 0
def eN:Operand:= .global 1
def lp:Operand:= .global 2
def fO(a:q):Operand->Option q:=λ_=>some a
def nZ(a b:q):Operand->Option q:=λA=>match A with| .global 0=>some a|_=>some b
def A1(a b c:q):Operand->Option q:=λA=>match A with| .global 0=>some a| .global 1=>some b|_=>some c
def t2(n an:Nat)(a i:q):Option q:=match f1 i with|some i=>sI n an a i|none=>none
def bH(an:Nat)(a i:q):Option q:=match f1 i with|some i=>mP an a i|none=>none
def xL(C:ax)(t f:Nat)(a:q):Option q:=p0 C t fs f .nil (fO a)
def xl(C:ax)(S:F ac)(s d:Nat)(a:q):Option q:=pY C s d fs S (fO a)
def yd(C:ax)(t:Nat)(a:q):Option q:=p1 C t fs .nil (fO a)
def w6(C:ax)(t:Nat)(ok:Bool)(a:q):Option q:=pX C fs t ok .nil (fO a)
def xD(C:ax)(S:F ac)(a:q):Option q:=pZ C fs S (fO a)
def jX(C:ax)(S:F ac)(b:Builtin)(bu:List TypeId)(aB:List q):Option q:=match b,aB with
 | .len,[x]=>(match bu with|t::_=>qR C S t x|_=>none)
 | .cap,[x]=>(match bu with|t::_=>qK C t x|_=>none)
 | .max,x::h=>hC true x h
 | .min,x::h=>hC false x h
 |_,_=>none
def bj(C:ax)(S:F ac)(s:Nat)(a v:q):Option (F ac):=match a with
 | .ptr b A=>aQ (Nat.beq v.cells.length s&&Nat.blt 0 s) (gU C S b A v.cells) none
 |_=>none
def oG(C:ax)(S:F ac)(nx:Nat)(b:Builtin)(bu:List TypeId)(aB:List q):Option bY:=match b,aB with
 | .append,[s,x]=>(match bu with
   |st::d4::_=>(match C.P.underlying d4 with
    |some (.int _)=>(match f1 x with|some n=>qO C S nx st s n|none=>none)
    |some (.slice _)=>oc C S nx st s x
    |some .string=>oc C S nx st s x
    |_=>none)
   |_=>none)
 | .copy,[d,x]=>(match bu with|st::_=>qM C S nx st d x|_=>none)
 | .clear,[x]=>(match bu with|t::_=>qL C S nx t x|_=>none)
 | .delete,[m,k]=>(match bu with|t::_=>qN C S nx t m k|_=>none)
 |_,_=>none
structure k9(C:ax)(c:q)(a:List q)(S:F ac)(nx:Nat)(M ad:be):Prop where
 out:match c with
 | .func fn first b=>(match fn with| .func f=>aJ C f ((first++a)++b) S nx M ad| .yield h=>lY C h (first++a) S nx M ad|_=>False)
 |_=>False
def sx(C:ax)(t len:Nat)(bE:List (Nat×q))(b:Nat):Option (q×ac):=match C.P.underlying t with
 |some (.slice bW)=>(match d6 C bW,hW C bW with
  |some s,some z=>aQ (Nat.ble (len*s) 16777216&&Nat.beq z.cells.length s) ((match me (λi=>some (i*s,s)) (ew len z.cells) bE with
    |some cs=>some (q.slice b 0 len len,ac.cells (F.ofList cs 0 .nil) cs.length .own)
    |none=>none))<|none
  |_,_=>none)
 |_=>none
structure sg(ad:be)(a:q)(S:F ac)(nx:Nat):Prop where
 out:match a with| .iface t v=>ad (.iface t v) S nx|_=>False
def I6(ad:be)(a:q)(S:F ac)(nx:Nat):sg ad a S nx=(match a with| .iface t v=>ad (.iface t v) S nx|_=>False):=propext ⟨λe=>e.out,λe=>⟨e⟩⟩
structure yO(C:ax)(rd:Bool)(dy:q)(name:String)(a:List q)(S:F ac)(nx:Nat)(M ad:be):Prop where
 out:match dy with
 | .iface t v=>m5 C rd (od C S t v name a) S nx M ad
 |_=>False
def Ig(C:ax)(rd:Bool)(dy:q)(name:String)(a:List q)(S:F ac)(nx:Nat)(M ad:be):yO C rd dy name a S nx M ad=(match dy with
 | .iface t v=>m5 C rd (od C S t v name a) S nx M ad
 |_=>False):=propext ⟨λe=>e.out,λe=>⟨e⟩⟩
def yx(a1:List (Nat×Nat))(A:Op):ax->F ac->List (Nat×q)->b8->(q->Prop)->Prop:=match A with
 | .build t parts=>λC _ V y M=>mE a1 V y parts.toList λbE=>l (qJ C t bE) M
 | .binOp op t x g _=>λC S V y M=>cm a1 V y x λa=>cm a1 V y g λb=>l (bZ C S op t (hJ x||hJ g) a b) M
 | .unOp op _ x=>λ_ _ V y M=>cm a1 V y x λa=>l (cY op a) M
 | .convert s d x=>λC S V y M=>cm a1 V y x λa=>l (xl C S s d a) M
 | .makeInterface t x=>λC _ V y M=>cm a1 V y x λa=>l (yd C t a) M
 | .makeFunc fn first n=>λ_ _ V y M=>(match fn with
   | .func f=>iC a1 V y first.toList λa=>iC a1 V y n.toList λb=>M (.func (.func f) a b)
   |_=>False)
 | .slice t x aC ai r=>λC S V y M=>cm a1 V y x λa=>sb a1 V y aC λh=>sb a1 V y ai λe=>sb a1 V y r λm=>l (qT C S t a h e m) M
 | .field t x f=>λC _ V y M=>cm a1 V y x λa=>l (xL C t f a) M
 | .index t x i=>λC _ V y M=>cm a1 V y x λa=>cm a1 V y i λb=>l (qP C t a b) M
 | .lookup t m k ok=>λC S V y M=>cm a1 V y m λa=>cm a1 V y k λb=>l (qS C S t a b ok) M
 | .typeAssert x _ t ok=>λC _ V y M=>cm a1 V y x λa=>l (w6 C t ok a) M
 | .entry p=>λC S V y M=>cm a1 V y p λa=>l (xD C S a) M
 | .call c=>λC S V y M=>(match c with
   |⟨.builtin b,args,bu⟩=>iC a1 V y args.toList λaB=>l (jX C S b bu.toList aB) M
   |_=>False)
 |_=>λ_ _ _ _ _=>False
def oO(op:eB):ax->F ac->List (Nat×q)->b8->(q->Prop)->Prop:=match op with
 | .nB x=>λ_ _ V y M=>ey x V y M
 | .pick c a b=>λ_ _ V y M=>ey c V y λc=>bM M λM=>aA c (ey a V y M) (ey b V y M)
 | .cW a=>λC S V y M=>ey a V y λa=>l (W C S a) M
 | .ms n a=>λC S V y M=>ey a V y λa=>l (br C S n a) M
 | .off d x=>λ_ _ V y M=>ey x V y λa=>l (ao d a) M
 | .mn n an x i=>λ_ _ V y M=>ey x V y λa=>ey i V y λi=>l (t2 n an a i) M
 | .mo an x i=>λ_ _ V y M=>ey x V y λa=>ey i V y λi=>l (bH an a i) M
 | .nE x=>λ_ _ V y M=>ey x V y λa=>l (aY a) M
 | .pP op x f=>λ_ _ V y M=>ey x V y λa=>ey f V y λb=>l (ag op a b) M
 | .ext i x=>λ_ _ V y M=>ey x V y λa=>l (dE i a) M
 | .dT a1 A=>yx a1 A
 |_=>λ_ _ _ _ _=>False
def yF(op:eB):ax->F ac->Nat->List (Nat×q)->b8->be->Prop:=match op with
 | .make a1 A=>(match A with
   | .alloc t=>λC S b _ _ M=>l (ny C t (fO undef) b) λr=>cb C S b r.1 r.2 M
   | .box _ x=>λC S b V y M=>cm a1 V y x λa=>eR C S b a M
   | .buildSlice t len parts=>λC S b V y M=>mE a1 V y parts.toList λbE=>l (sx C t len bE b) λr=>cb C S b r.1 r.2 M
   | .makeMap _ none=>λC S b _ _ M=>cb C S b (.map b) (.map [] 0) M
   |_=>λ_ _ _ _ _ _=>False)
 |_=>λ_ _ _ _ _ _=>False
def us(op:eB):ax->F ac->Nat->List (Nat×q)->b8->(q->F ac->Prop)->Prop:=match op with
 | .make a1 A=>(match A with
   | .alloc t=>λC S b _ _ M=>l (ny C t (fO undef) b) λr=>fM C S b r.1 r.2 M
   | .box _ x=>λC S b V y M=>cm a1 V y x λa=>tb C S b a M
   | .buildSlice t len parts=>λC S b V y M=>mE a1 V y parts.toList λbE=>l (sx C t len bE b) λr=>fM C S b r.1 r.2 M
   | .makeMap _ none=>λC S b _ _ M=>fM C S b (.map b) (.map [] 0) M
   |_=>λ_ _ _ _ _ _=>False)
 |_=>λ_ _ _ _ _ _=>False
def t1(rd:Bool)(op:eB):ax->F ac->Nat->List (Nat×q)->b8->be->be->Prop:=match op with
 | .st n a v=>λC S nx V y M _=>ey a V y λa=>ey v V y λv=>l (bj C S n a v) λS=>M undef S nx
 | .call f args=>λC S nx V y M ad=>rp V y args λg=>aJ C f g S nx M ad
 | .cy a1 A=>(match A with
   | .mapUpdate t m k x=>λC S nx V y M _=>cm a1 V y m λa=>cm a1 V y k λb=>cm a1 V y x λc=>dx (pe C S nx t a b c) S nx M
   | .insert t m k x=>λC S nx V y M _=>cm a1 V y m λa=>cm a1 V y k λb=>cm a1 V y x λc=>dx (pe C S nx t a b c) S nx M
   | .mapEntry t m k=>λC S nx V y M _=>cm a1 V y m λa=>cm a1 V y k λb=>dx (pK C t fs eN S nx (nZ a b)) S nx M
   | .entryStore _ m s x=>λC S nx V y M _=>cm a1 V y m λa=>cm a1 V y s λb=>cm a1 V y x λc=>dx (pH C fs eN lp S nx (A1 a b c)) S nx M
   | .makeSlice t h c=>λC S nx V y M _=>cm a1 V y h λa=>cm a1 V y c λb=>dx (pJ C t fs eN S nx (nZ a b)) S nx M
   | .makeMap t (some r)=>λC S nx V y M _=>cm a1 V y r λa=>dx (pI C t fs S nx (fO a)) S nx M
   | .convert s d x=>λC S nx V y M _=>cm a1 V y x λa=>dx (pN C s d fs S nx (fO a)) S nx M
   | .range t x=>λC S nx V y M _=>cm a1 V y x λa=>dx (pM C t fs S nx (fO a)) S nx M
   | .next w p=>λC S nx V y M _=>cm a1 V y w λa=>tS (pL C fs p S nx (fO a)) S nx M
   | .panic x=>λ_ S nx V y _ ad=>aQ rd False (cm a1 V y x λa=>sg ad a S nx)
   | .call c=>λC S nx V y M ad=>(match c with
     |⟨.value f,args,_⟩=>cm a1 V y f λi=>iC a1 V y args.toList λg=>k9 C i g S nx M ad
     |⟨.builtin b,args,bu⟩=>iC a1 V y args.toList λaB=>dx (oG C S nx b bu.toList aB) S nx M
     |⟨.invoke r name,args,_⟩=>cm a1 V y r λdy=>iC a1 V y args.toList λg=>yO C rd dy name g S nx M ad)
   |_=>λ_ _ _ _ _ _ _=>False)
 |_=>λ_ _ _ _ _ _ _=>False
def uG(rd:Bool)(op:eB)(C:ax)(S:F ac)(nx:Nat)(V:List (Nat×q))(y:b8)(M ad:be):Prop:=match fZ op with
 | .dT=>oO op C S V y λv=>M v S nx
 | .make=>yF op C S nx V y M
 | .cy=>t1 rd op C S nx V y M ad
inductive Spec where
 |no
 |defer (a1:List (Nat×Nat)) (f:Operand) (args:List Operand)
 |recover
def nW(op:eB):Spec:=match op with
 | .cy a1 A=>(match A with
   | .defer c=>(match c with|⟨.value f,args,_⟩=> .defer a1 f args.toList|_=> .no)
   | .call c=>(match c with|⟨.builtin b,args,_⟩=>(match b,args.toList with| .recover,[]=> .recover|_,_=> .no)|_=> .no)
   |_=> .no)
 |_=> .no
def tq(c:q)(a:List q)(y:b8)(M:b8->Prop):Prop:=match c with
 | .func fn first b=>M (oY y ⟨.fn fn b,first++a⟩)
 |_=>False
def so(iE:Option (Option q))(y:b8)(M:q->b8->Prop):Prop:=match iE with
 |none=>False
 |some none=>M .nilIface y
 |some (some L)=>aQ y.rc (M .nilIface y) (M L (AI y))
def sD(g:Option (Nat×Bool))(V:List (Nat×q))(a b:Prop):Prop:=match g with
 |none=>a
 |some (E,c)=>N (cd V E) λv=>ae c v a b
def sF(g:Option (Nat×Bool))(V:List (Nat×q))(b:be->Prop)(a:be)(S:F ac)(nx:Nat):Prop:=match g with
 |none=>b a
 |some (E,c)=>aj a λM=>N (cd V E) λv=>ae c v (b M) (M undef S nx)
def vi(g:Option (Nat×Bool))(V:List (Nat×q))(b:(q->F ac->Prop)->Prop)(a:q->F ac->Prop)(S:F ac):Prop:=match g with
 |none=>b a
 |some (E,c)=>b1 a λM=>N (cd V E) λv=>ae c v (b M) (M undef S)
def vj(g:Option (Nat×Bool))(V:List (Nat×q))(b:Prop->Prop)(a:Prop):Prop:=match g with
 |none=>b a
 |some (E,c)=>rM a λM=>N (cd V E) λv=>ae c v (b M) M
def Bd(g:Option (Nat×Bool))(V:List (Nat×q))(b:be->Prop)(a:be)(S:F ac)(nx:Nat):sF g V b a S nx=sD g V (b a) (a undef S nx):=by
 cases g with
 |none=>rfl
 |some p=>exact G5 _ _
def Lz(g:Option (Nat×Bool))(V:List (Nat×q))(b:(q->F ac->Prop)->Prop)(a:q->F ac->Prop)(S:F ac):vi g V b a S=sD g V (b a) (a undef S):=by
 cases g with
 |none=>rfl
 |some p=>exact G3 _ _
def LA(g:Option (Nat×Bool))(V:List (Nat×q))(b:Prop->Prop)(a:Prop):vj g V b a=sD g V (b a) a:=by
 cases g with
 |none=>rfl
 |some p=>exact G4 _ _
def pD(h:List (Nat×Nat)):List (Nat×q)->b8->(b8->Prop)->Prop:=
 List.rec (motive:=λ_=>List (Nat×q)->b8->(b8->Prop)->Prop) (λ_ y M=>M y)
  (λp _ U V y M=>N (cd V p.1) λv=>U V (I y p.2 v) M) h
def mL(C:ax)(aS:jc)(fin:List (Nat×Nat))(M:c8)(ad:iK)(rest:List cA):List (Nat×q)->b8->F ac->Nat->Prop:=
 List.rec (motive:=λ_=>List (Nat×q)->b8->F ac->Nat->Prop) (λV y S nx=>pD fin V y λy=>M y S nx)
  (λx _ U V y S nx=>match nW x.op with
   | .no=>sF x.g V (λM=>uG aS.rd x.op C S nx V y M (ad y)) (λv S nx=>U ((x.i,v)::V) y S nx) S nx
   | .defer a1 f args=>aQ (x.g.isNone&&aS.av) (cm a1 V y f λb=>iC a1 V y args λa=>tq b a y λy=>U ((x.i,undef)::V) y S nx) False
   | .recover=>aQ (x.g.isNone&& !aS.rd) (so aS.iE y λv y=>U ((x.i,v)::V) y S nx) False) rest
def rV(C:ax)(base:Nat)(y:b8)(h:List cA):List (Nat×q)->F ac->(List (Nat×q)->F ac->Prop)->Prop:=
 List.rec (motive:=λ_=>List (Nat×q)->F ac->(List (Nat×q)->F ac->Prop)->Prop) (λV S M=>M V S)
  (λx _ U V S M=>vi x.g V (λE=>match fZ x.op with
   | .make=>us x.op C S (base+x.i) V y E
   |_=>oO x.op C S V y λv=>E v S) (λv S=>U ((x.i,v)::V) S M) S) h
structure ez(x:q)(A:Option q)(M:Prop):Prop where
 out:N A λL=>q.same 30 x L=true/\M
def uQ(C:ax)(y:b8)(V:List (Nat×q))(S:F ac)(h:List cA):Prop->Prop:=
 List.rec (motive:=λ_=>Prop->Prop) (λM=>M) (λx _ U M=>vj x.g V (λJ=>oO x.op C S V y λv=>ez v (cd V x.i) J) (U M)) h
def tt(C:ax)(rd:Bool)(base:Nat)(fin:List (Nat×Nat))(y:b8)(M:c8)(ad:be)(fi:List jS):List (Nat×q)->F ac->Nat->Prop:=
 List.rec (motive:=λ_=>List (Nat×q)->F ac->Nat->Prop) (λ_ _ _=>False)
  (λs _ U V S nx=>rV C base y s.iV V S λV S=>uQ C y V S s.uP (match s.cy with
   |none=>pD fin V y λy=>M y S nx
   |some e=>sF e.g V (λM=>t1 rd e.op C S nx V y M ad) (λv S nx=>U ((e.i,v)::V) S nx) S nx)) fi
structure cC(body:c8->c8)(y:b8)(S:F ac)(nx:Nat):Prop where
 out:∃a:Nat->c8,(∃m,a m y S nx)/\∀m y S nx,a m y S nx->body (λy S nx=>∃b,b<m/\a b y S nx) y S nx
def ni(id:Nat)(M:c8)(j:Nat->c8):Nat->c8:=λa=>aQ (Nat.beq id a) M (j a)
def tD(A:Operand)(y:b8)(M:q->Prop):Prop:=cm [] [] y A M
def JB(C:ax)(n aa:Nat)(aS:jc)(ad:iK)(ab:Array Oper)(a:Bool)(M:c8):c8:=λy S nx=>Bool.rec (motive:=λ_=>Prop)
 (N (qd C n ab aa) λr=>mL C aS r.fin M (λy=>ad (d9 (dstsOf ab.toList) y)) r.rest [] y S nx)
 (N (qa C n ab aa) λr=>df (nx+ab.size) λnx'=>tt C aS.rd nx r.fin y M (ad (d9 (dstsOf ab.toList) y)) r.fi [] S nx') a
def o3(n:Nat):List Nat->List q->b8->(b8->Prop)->Prop
 |[],[],y,M=>M y
 |p::bE,a::b,y,M=>aQ (Nat.blt p n) (o3 n bE b (I y p a) M) False
 |_,_,_,_=>False
structure Ep(C:ax)(h:Nat)(mk:LoopState->Option Code->ac)(S:F ac)(k:Prop):Prop where
 here:H C S h=some (mk .ready none)
 go:k
structure rk(C:ax)(h:Nat)(mk:LoopState->Option Code->ac)(st:LoopState)(p:Option Code)(b:Bool)(M:be)(S:F ac)(nx:Nat):Prop where
 here:∃c a,H C S h=some (mk c a)
 go:M (.bool b) (aP C S h (some (mk st p))) nx
abbrev qG:=jc->iK->c8->(Nat->c8)->c8->c8
def mx:jc:=⟨true,false,none⟩
def iF(C:ax)(a az:qG)(h:Nat)(mk:LoopState->Option Code->ac)(M ad:be):c8:=λy S nx=>
 a mx (λ_=>ad) (λy S nx=>Ep C h mk S (az mx (λ_=>ad) (λ_ S nx=>rk C h mk .ready none true M S nx) (λid _ S nx=>rk C h mk .done (some (.exit id)) false M S nx)
   (λ_ S nx=>rk C h mk .done (some .ret) false M S nx) y (aP C S h (some (mk .busy none))) nx)) (λ_ _ _ _=>False) (λ_ _ _=>False) y S nx
def Ad(p:Option Code)(M:c8)(j:Nat->c8)(r:c8):c8:=match p with
 |none=>M
 |some c=>(match c with| .exit id=>j id| .ret=>r|_=>λ_ _ _=>False)
def jw(y:b8)(nx:Nat):b8:=oY y ⟨.collected nx,[]⟩
structure nR(C:ax)(n:Nat)(d:q)(params:List Nat)(dh:Nat->(LoopState->Option Code->ac)->be->be->c8)(M:c8)(j:Nat->c8)(r:c8)(ad:iK)(y:b8)(S:F ac)(nx:Nat):Prop where
 low:C.aN<=nx
 out:match d with
  | .func fn first c=>(match fn with
    | .func g=>∀mk:LoopState->Option Code->ac,
       (∀args B nx' a b,H C B (nx+1)=some (mk .ready none)->o3 n params args y (λiL=>dh (nx+1) mk a b iL B nx')->lY C (nx+1) args B nx' a b)->
       i7 C g (first++[.func (.yield (nx+1)) [] []]++c) (aP C (aP C S nx (some (.deferred (some [])))) (nx+1) (some (mk .ready none))) (nx+2)
        (λ_ B nx'=>∃st p,st≠ .busy/\H C B (nx+1)=some (mk st p)/\Ad p M j r (jw y nx) (aP C B (nx+1) (some (mk .exhausted p))) nx')
        (ad (jw y nx))
    |_=>False)
  |_=>False
def kL(C:ax)(n aa:Nat)(c:Code):qG:=
 Code.rec (motive:=λ_=>qG)
  (λ_ _ M _ _=>M)
  (λ_ ab d aS ad M _ _=>JB C n aa aS ad ab d M)
  (λ_ _ b a aS ad M j r=>b aS ad (a aS ad M j r) j r)
  (λc _ _ b a aS ad M j r y S nx=>tD c y λv=>aq M λM=>aA v (b aS ad M j r y S nx) (a aS ad M j r y S nx))
  (λid _ a aS ad M j r y S nx=>aq M λM=>a aS ad M (ni id M j) r y S nx)
  (λ_ a aS ad _ j r=>cC λg=>a aS ad g j r)
  (λf params _ _ b a aS ad M j r y S nx=>aQ aS.av (tD f y λi=>nR C n i params.toList (iF C b a) M j r ad y S nx) False)
  (λid _ _ _ j _=>j id)
  (λ_ a aS ad M j r=>a aS ad M j r)
  (λ_ _ _ M _ _=>M)
  (λ_ _ _ _ _ _ _ _ _=>False)
  (λ_ _ _ _ r=>r)
  (λ_ _ _ _ _ _ _ _ _=>False) c
def i2(C:ax)(S:F ac)(y:b8)(h:List ResultVar):(List q->Prop)->Prop:=
 List.rec (motive:=λ_=>(List q->Prop)->Prop) (λM=>M [])
  (λx _ U M=>ResultVar.rec (motive:=λ_=>Prop) (λt=>N (y t) λv=>U λr=>M (v::r)) (λa t=>N (y a) λp=>l (iM C S t p) λv=>U λr=>M (v::r)) x) h
def bN(h:List q):b8:=⟨λn=>hN h n,[],false⟩
structure q8(C:ax)(fn:Fn)(a:List q)(iE:Option q)(S:F ac)(nx:Nat)(bi:Bool->F ac->Nat->Prop):Prop where
 out:match fn with
  | .func f=>C.dv f a=none/\(∃fn c,C.P.funcs[f]? =some fn/\fn.body=some c)/\Bp C f a iE S nx bi
  |_=>False
structure r6(C:ax)(r:Nat)(S:F ac)(k:Prop):Prop where
 low:C.aN<=r
 here:H C S r=some (.deferred (some []))
 go:k
def hR(C:ax)(a:List ResultVar)(bi:be)(y:b8)(ds:List dI):F ac->Nat->Prop:=
 List.rec (motive:=λ_=>F ac->Nat->Prop) (λS nx=>i2 C S y a λaB=>bi (one aB) S nx)
  (λd _ U S nx=>match d.target with
   | .collected r=>r6 C r S (U (aP C S r (some (.deferred none))) nx)
   | .fn fn cap=>q8 C fn (d.args++cap) none S nx λ_ S nx=>U S nx) ds
def kl(C:ax)(a:List ResultVar)(bi dh:be)(y:b8)(L:q):List dI->F ac->Nat->Prop
 |[],S,nx=>dh L S nx
 |d::ds,S,nx=>match d.target with
   | .collected r=>r6 C r S (kl C a bi dh y L ds (aP C S r (some (.deferred none))) nx)
   | .fn fn cap=>q8 C fn (d.args++cap) (some L) S nx λb S nx=>aQ b (hR C a bi y ds S nx) (kl C a bi dh y L ds S nx)
def oR:jc:=⟨false,false,none⟩
def lk:jc:=⟨false,true,none⟩
def nl(C:ax)(f:Nat)(args:List q)(S:F ac)(nx:Nat)(bi dh:be):Prop:=match C.P.funcs[f]? with
 |some fn=>(match fn.body with
  |some c=>kL C fn.ntmps (Nat.lor (fp c) (hQ fn.results.toList)) c lk (λy L S nx=>kl C fn.results.toList bi dh y L y.av S nx) (λy S nx=>hR C fn.results.toList bi y y.av S nx) (λ_ _ _ _=>False)
    (λy S nx=>hR C fn.results.toList bi y y.av S nx) (bN args) S nx
  |none=>False)
 |none=>False
def cl(C:ax)(f:Nat)(args:List q)(S:F ac)(nx:Nat)(bi dh:be):Prop:=match C.P.funcs[f]? with
 |some fn=>(match fn.body with
  |some c=>kL C fn.ntmps (Nat.lor (fp c) (hQ fn.results.toList)) c oR (λ_=>dh) (λy S nx=>i2 C S y fn.results.toList λaB=>bi (one aB) S nx) (λ_ _ _ _=>False)
    (λy S nx=>i2 C S y fn.results.toList λaB=>bi (one aB) S nx) (bN args) S nx
  |none=>False)
 |none=>False
def b9(C:ax)(f a:Nat):Bool:=match C.P.funcs[f]? with
 |some fn=>(match fn.body with
  |some c=>Nat.ble a fn.ntmps&&fA C (Nat.lor (fp c) (hQ fn.results.toList)) c&&lv (Nat.lor (fp c) (hQ fn.results.toList)) fn.results.toList
  |none=>false)
 |none=>false
end
end Go.Q

