/- Part of the proof of the last text; no conditions -/
import Derived.Test.YtmipngjbcdamjaaGreatDoorYe
import Derived.Lib.Bytealg
import Derived.LaidLaws
set_option maxHeartbeats 8000000
set_option linter.all false
namespace Go.S
noncomputable section
open Go.RowKit (Below)
section
variable{C:aC}{P:Program}{w:World}
def ti{a:Addr}{v:Value}(e:w.cell? a=some v):a.spot=none/\∃a7 ty b,w.heap[a.block]? =some (.cells a7 ty b)/\a7[a.off]? =some v:=by
 unfold World.cell? at e
 split at e
 ·rename_i c ty b ab
  split at e
  ·cases e
  ·rename_i d
   refine⟨?_,c,ty,b,ab,e⟩
   cases f:a.spot with
   |none=>rfl
   |some x=>rw[f]at d;exact absurd rfl d
 ·cases e
def s3(a:Addr)(H:Nat):(a.add H).block=a.block:=by unfold Addr.add;split<;>rfl
def wW(a:Addr)(H:Nat):(a.add H).off=a.off+H:=by unfold Addr.add;split<;>simp_all
def tk{a:Addr}{o:Nat}{g:List Value}{a7:Array Value}{ty:TypeId}{n:Nat×Nat}(ab:w.heap[a.block]? =some (.cells a7 ty n))(e:w.cells? 0 a o=some g):g=(a7.toList.drop a.off).take o/\g.length=o:=by
 unfold World.cells? at e
 rw[Zv (zc _)]at e
 obtain⟨c,m⟩:=nC e
 rw[List.length_range]at c
 have key:∀H,H<o->a7[a.off+H]? =g[H]? :=by
  intro H b
  have d:g[H]? =some g[H]:=Ze Zo
  have:=m H H g[H] (by simp[b]) d
  obtain⟨_,l5,r,p,f,i⟩:=ti this
  rw[s3,ab]at f
  cases f
  rw[wW]at i
  rw[i,d]
 refine⟨Y9 λH=> ?_,c⟩
 by_cases b:H<o
 ·rw[YA b,Yz, <-key H b];simp
 ·rw[Z3 Zo,Z3 Zx]
def uF(k:List y):n8 (o2 k):=λ_ _=>⟨λ_ _ _ e=>(by cases e),λ_ _ _ e=>(by cases e;exact oV)⟩
def IL(k:List (y×y)):n8 (.look k):=λ_ _=>⟨λ_ _ _ e=>(by cases e),λ_ _ _ e=>(by cases e)⟩
def uZ{A:bE}{F:Nat->Prop}{k:List y}{pl:fU}{a7:Array Value}{ty:TypeId}(ab:w.heap[pl.bc]? =some (.cells a7 ty (0,0)))(au:(a7.toList.drop pl.b5).take k.length=aU A k)(g:cd F k)(c:0<k.length):eF C A F (o2 k) pl w:=by
 have b:k.length<=a7.size-pl.b5:=by
  have:=congrArg List.length au
  rw[eH]at this
  simp at this
  omega
 refine⟨a7,ty,0,0,ab,rfl,Zo,λi v a=> ?_⟩
 rw[fG]at a
 have ak:i<k.length:=(Zf.1 a).1
 refine⟨?_,mm g a⟩
 have:=congrArg (λx:List Value=>x[i]?) au
 simp only[YA ak,Yz,ZK,md,a,ZJ]at this
 exact this
def Lays.block{n aL:Nat}{os:List (Nat×ae)}{cs:List Value}{k:List y}{N:y}{x:Value}{bN:ae}(pl:fU)(e:Lays C w (n+1) cs (k,aL,os))(t:n8 bN)
 (v:∀A F,A n=pl->F n->cs=aU A k->cd F k->eF C A F bN pl w/\x=ai A N/\bd F N):Lays C w n [x] ([N],aL,(n,bN)::os):=by
 obtain⟨aH,aZ,f,a3⟩:=e
 have aH:n+1<=aL:=aH
 refine⟨by simp only;omega, ?_,λb=>if b=n then pl else f b, ?_⟩
 ·intro d a
  rcases Zz.1 a with rfl|a
  ·exact⟨Zp _,by simp only;omega,t⟩
  ·obtain⟨Z,z,G⟩:=aZ d a
   exact⟨Zo,z,G⟩
 ·intro A F g
  have c:=g n (Zp _) (by simp only;omega)
  simp only[ZP]at c
  obtain⟨i,m,p⟩:=a3 A F (λb Y r=>by
   have:=g b Zo r
   have s:b≠n:=Zo
   simp only[Zj s]at this
   exact this)
  obtain⟨O,P,X⟩:=v A F c.1 c.2 i m
  refine⟨by simp[aU,P],⟨X,trivial⟩, ?_⟩
  intro d a
  rcases Zz.1 a with rfl|a
  ·simp only[c.1];exact O
  ·exact p d a
def Ae{α i:Type}{f:α->i}{a m:List i}(e:a.Perm m):∀k:List α,k.map f=a->∃b:List α,b.Perm k/\b.map f=m:=by
 induction e with
 |nil=>intro k e;simp at e;subst e;exact⟨[], .refl _,rfl⟩
 |cons x _ V=>
  intro k e
  cases k with
  |nil=>simp at e
  |cons g k=>
   simp at e
   obtain⟨b,c,d⟩:=V k e.2
   exact⟨g::b,c.cons g,by simp[e.1,d]⟩
 |swap x g z=>
  intro k e
  cases k with
  |nil=>simp at e
  |cons p k=>
   cases k with
   |nil=>simp at e
   |cons L k=>
    simp at e
    obtain⟨rfl,rfl,rfl⟩:=e
    exact⟨L::p::k, .swap _ _ _,Zs⟩
 |trans _ _ s t=>
  intro k e
  obtain⟨v,c,d⟩:=s k e
  obtain⟨w,n,r⟩:=t v d
  exact⟨w,n.trans c,r⟩
def insert_perm{a:Type}(x:Lit×DataW a):∀k,(DataW.insert x k).Perm (x::k):=by
 intro k
 induction k with
 |nil=>exact .refl _
 |cons b k V=>
  simp only[DataW.insert]
  split
  ·exact .refl _
  ·exact(V.cons b).trans (.swap _ _ _)
def sorted_perm{a:Type}:∀k:List (Lit×DataW a),(k.foldr DataW.insert []).Perm k:=by
 intro k
 induction k with
 |nil=>exact .refl _
 |cons x k V=>exact(insert_perm x _).trans (V.cons x)
def G9{o:Nat}{v:Value}{key:Lit}{d:y}(c:si P o=true)(e:keyOf P o v=some key)(a:pY key=some d)(A:bE)(F:Nat->Prop):v=ai A d/\bd F d:=by
 unfold si at c
 unfold keyOf at e
 have l:mapKey P o v=some key:=by
  cases f:P.underlying o with
  |none=>rw[f]at c;cases c
  |some N=>rw[f]at e c;cases N<;>first|exact e|cases c
 unfold mapKey at l
 split at l
 ·simp at l;subst l;simp[pY]at a;subst a;exact⟨rfl,trivial⟩
 ·split at l
  ·rename_i L dz n _ i
   simp at l;subst l;simp[pY]at a;subst a
   exact⟨by rw[i.1];rfl,trivial⟩
  ·cases l
 ·split at l
  ·rename_i s _ _
   simp at l;subst l;simp[pY]at a;subst a
   refine⟨by simp only[ai];rw[tc], ?_⟩
   intro x g
   simp at g
   obtain⟨b,_,rfl⟩:=g
   exact b.toNat_lt
  ·cases l
 ·cases l
def Lu{l:Nat}{v:Value}{k:List y}{N:y}{A:bE}{F:Nat->Prop}(c:v.formed P l=true)(a:um P l k=some N)(b:v.cells.toList=aU A k)(g:cd F k):v=ai A N/\bd F N:=by
 unfold um at a
 unfold Value.formed at c
 cases d:P.underlying l with
 |none=>rw[d]at a;cases a
 |some m=>
  rw[d]at a c
  have agg:(∃cs,v= .agg cs)->N= .agg k->v=ai A N/\bd F N:=by
   rintro⟨cs,rfl⟩ rfl
   refine⟨?_,g⟩
   simp only[Value.cells]at b
   simp only[ai, <-b]
  have i:v.cells= #[v]->(∃x,k=[x]/\N=x)->v=ai A N/\bd F N:=by
   rintro f ⟨x,rfl,rfl⟩
   rw[f]at b
   simp[aU]at b
   exact⟨b,g.1⟩
  cases v<;>cases m<;>simp only at c a<;>first
   |(cases c;done)
   |(simp at a;exact agg ⟨_,rfl⟩ a.symm)
   |(
     split at a
     ·simp at a;exact i rfl ⟨_,rfl,a.symm⟩
     ·cases a)
end
end
noncomputable section
open Go.RowKit (Below)
section
variable{C:aC}{P:Program}{w:World}
variable{next:Nat->DataW Unit->Nat->fb}{dj:TypeId->List Value->Option (DataW Unit×List MemPlace)}
def Hv(U3:qK C w next dj){o l:Nat}(g:si P o=true):∀(am:List (Lit×DataW Unit)) (n:Nat) (r:List (y×y)×Nat×List (Nat×ae)),p5 P next l am n=some r->
 ∀bp:List (MapEntry×((Lit×DataW Unit)×List MemPlace)),bp.map (·.2.1)=am->(∀z∈bp,keyOf P o z.1.key=some z.2.1.1/\z.1.val.formed P l=true/\dj l z.1.val.cells.toList=some (z.2.1.2,z.2.2)/\ir w z.2.2)->
 n<=r.2.1/\(∀x∈r.2.2,n<=x.1/\x.1<r.2.1/\n8 x.2)/\r.1.length=bp.length/\∃f:Nat->fU,∀A F,(∀b,n<=b->b<r.2.1->A b=f b/\F b)->
  bp.map (·.1)=(List.zipWith (λ(p:y×y) (z:MapEntry×((Lit×DataW Unit)×List MemPlace))=>(p.1,p.2,z.1.born)) r.1 bp).map (cJ A)/\(∀p∈r.1,bd F p.1/\bd F p.2)/\∀x∈r.2.2,eF C A F x.2 (A x.1) w:=by
 intro am
 induction am with
 |nil=>
  intro n r e bp c _
  simp[p5]at e;subst e
  simp at c;subst c
  exact⟨Zp _,Zs,rfl,λ_=>default,λA F _=>⟨rfl,Zs,Zs⟩⟩
 |cons a am V=>
  obtain⟨key,d⟩:=a
  intro n r e bp c Z
  simp only[p5]at e
  split at e
  ·rename_i UB k aL os U4 U5
   split at e
   ·rename_i v UD aR UC U6 M
    simp at e;subst e
    cases bp with
    |nil=>simp at c
    |cons z bp=>
     simp at c
     obtain⟨U8,U9⟩:=c
     obtain⟨X,TZ,Y,U0⟩:=Z z (Zl ..)
     rw[U8]at X Y
     obtain⟨aH,aZ,T9,a3⟩:=U3 _ _ _ _ U5 _ _ Y U0
     obtain⟨b2,be,T2,TY,b6⟩:=V aL _ M bp U9 (λz U7=>Z z (Zi _ U7))
     have aH:n<=aL:=aH
     have b2:aL<=aR:=b2
     refine⟨ZD aH b2, ?_,by simpa using T2,λb=>if b<aL then T9 b else TY b, ?_⟩
     ·intro x s
      rcases Zr.1 s with L|L
      ·obtain⟨t,G,O⟩:=aZ x L
       exact⟨t,Z5 G b2,O⟩
      ·obtain⟨t,G,O⟩:=be x L
       exact⟨ZD aH t,G,O⟩
     ·intro A F T0
      obtain⟨T3,T4,T5⟩:=a3 A F (λb i m=>by
       have U2:b<aL:=m
       have:=T0 b i (Z5 m b2)
       simp only[Zv U2]at this
       exact this)
      obtain⟨T6,T7,T8⟩:=b6 A F (λb i m=>by
       have U1:¬b<aL:=zn.2 i
       have:=T0 b (ZD aH i) m
       simp only[Zj U1]at this
       exact this)
      obtain⟨bf,bo⟩:=G9 g X U4 A F
      obtain⟨T1,UA⟩:=Lu TZ U6 T3 T4
      refine⟨?_, ?_, ?_⟩
      ·simp only[ZS,List.zipWith_cons_cons,T6]
       congr 1
       obtain⟨⟨UF,UG,UE⟩,_⟩:=z
       simp only[cJ]at bf T1 ⊢
       rw[<-bf, <-T1]
      ·intro p g
       rcases Zz.1 g with rfl|g
       ·exact⟨bo,UA⟩
       ·exact T7 p g
      ·intro x s
       rcases Zr.1 s with L|L
       ·exact T5 x L
       ·exact T8 x L
   ·simp at e
  ·simp at e
def Bi{bp:List (MapEntry×((Lit×DataW Unit)×List MemPlace))}:∀(r:List (y×y)) (bp:List (MapEntry×((Lit×DataW Unit)×List MemPlace))),r.length=bp.length->
 (List.zipWith (λ(p:y×y) (z:MapEntry×((Lit×DataW Unit)×List MemPlace))=>(p.1,p.2,z.1.born)) r bp).map (λl=>(l.1,l.2.1))=r:=by
 intro r
 induction r with
 |nil=>intro bp _;simp
 |cons p r V=>
  intro bp e
  cases bp with
  |nil=>simp at e
  |cons z bp=>simp[V bp (by simpa using e)]
def H4{α c:Type}{f g:α->Option c}:∀{k:List α},(∀x∈k,f x=g x)->k.mapM f=k.mapM g:=by
 intro k
 induction k with
 |nil=>intro _;rfl
 |cons a k V=>intro e;simp[zb,e a Zs,V λx b=>e x (by simp[b])]
def F3{α c:Type}{f g:α->List c}:∀{k:List α},(∀x∈k,f x=g x)->k.flatMap f=k.flatMap g:=by
 intro k
 induction k with
 |nil=>intro _;rfl
 |cons a k V=>intro e;simp[za,e a Zs,V λx b=>e x (by simp[b])]
end
end
noncomputable section
open Go.RowKit (Below)
section
variable{C:aC}{P:Program}{w:World}
abbrev rd(P:Program)(w:World)(L:Nat):TypeId->List Value->Option (DataW Unit×List MemPlace):=DataW.trod (λ_=>()) P w 0 (λ_=>true) false L
def sr{a:Addr}{o:Nat}(e:0<o):MemPlace.cell a.block a.off∈MemPlace.row a o:=by
 unfold MemPlace.row
 exact ZB.2 ⟨0,by simp[e],Zs⟩
def yp:∀(m L:Nat),qK C w (ki P m) (rd P w L):=by
 intro m
 induction m with
 |zero=>intro L t d n r e;simp[ki]at e
 |succ m V=>
  intro L t d n r e cs bH M T2
  cases L with
  |zero=>simp[rd,DataW.trod]at M
  |succ L=>
   have TY:=V L
   simp only[ki]at e
   split at e
   ·
    rename_i b v
    simp at e;subst e
    match cs with
    |[]=>simp[rd,DataW.trod,v]at M
    |_::_::_=>simp[rd,DataW.trod,v]at M
    |[c]=>
     cases c<;>simp[rd,DataW.trod,v]at M
     obtain⟨rfl,rfl⟩:=M
     exact .plain λA F=>⟨rfl,trivial,trivial⟩
   ·
    rename_i ct o i v
    simp at e;subst e
    match cs with
    |[]=>simp[rd,DataW.trod,v]at M
    |_::_::_=>simp[rd,DataW.trod,v]at M
    |[c]=>
     cases c<;>simp[rd,DataW.trod,v]at M
     obtain⟨⟨rfl,_⟩,⟨rfl,rfl⟩,rfl⟩:=M
     exact .plain λA F=>⟨rfl,trivial,trivial⟩
   ·
    rename_i s v
    simp at e;subst e
    match cs with
    |[]=>simp[rd,DataW.trod,v]at M
    |_::_::_=>simp[rd,DataW.trod,v]at M
    |[c]=>
     cases c<;>simp[rd,DataW.trod,v]at M
     obtain⟨_,rfl,rfl⟩:=M
     refine .plain λA F=>⟨by simp only[aU,ai];rw[tc], ?_,trivial⟩
     intro x O
     simp at O
     obtain⟨b,_,rfl⟩:=O
     exact b.toNat_lt
   ·
    rename_i l v
    simp at e;subst e
    match cs with
    |[]=>simp[rd,DataW.trod,v]at M
    |_::_::_=>simp[rd,DataW.trod,v]at M
    |[c]=>
     cases c<;>simp[rd,DataW.trod,v]at M
     rename_i a
     cases a with
     |none=>exact .plain λA F=>⟨rfl,trivial,trivial⟩
     |some a=>simp[ZX]at M
   ·
    rename_i l d v
    split at e
    ·rename_i k aL os au
     simp only[cg,Zq,Zu]at e
     obtain⟨⟨Y,Z⟩,rfl⟩:=e
     have Y:=Zh Y
     have Z:=e0 Z
     match cs with
     |[]=>simp[rd,DataW.trod,v]at M
     |_::_::_=>simp[rd,DataW.trod,v]at M
     |[c]=>
      cases c<;>simp[rd,DataW.trod,v]at M
      rename_i D
      cases D with
      |none=>simp at M
      |some a=>
       simp only[ZX,Function.comp,Yu,Y5,DataW.ptr.injEq]at M
       obtain⟨bJ,U1,x,O,rfl,rfl⟩:=M
       obtain⟨a7,ty,ab⟩:=T2 a.block a.off (Zr.2 (.inl (sr Zo)))
       obtain⟨U6,Uo⟩:=tk ab U1
       have T5:a.spot=none:=by
        unfold World.cells? at U1
        rw[Zv (zc _)]at U1
        obtain⟨bf,bo⟩:=nC U1
        have:=bo 0 0 bJ[0] (by rw[List.getElem?_range Zo]) (Ze Zo)
        exact(ti (show w.cell? a=some _ from this)).1
       have Uj:=TY _ _ _ _ au bJ x.2 O (T2.of λT3 X=>Zr.2 (.inr X))
       refine Lays.block ⟨a.block,a.off,0⟩ Uj (uF k) λA F T6 U7 U9 UA=>⟨uZ ab ?_ UA Z, ?_,U7⟩
       ·simp only
        rw[Y, <-U6,U9]
       ·simp only[ai,T6]
        obtain⟨cM,UO,U4⟩:=a
        have T5:U4=none:=T5
        subst T5
        rfl
    ·simp at e
   ·
    rename_i l v
    simp at e;subst e
    match cs with
    |[]=>simp[rd,DataW.trod,v]at M
    |_::_::_=>simp[rd,DataW.trod,v]at M
    |[c]=>
     cases c<;>(try(simp[rd,DataW.trod,v]at M;done))
     rename_i a len cap
     cases a with
     |none=>
      simp only[rd,DataW.trod,v]at M
      split at M<;>simp_all
      exact .plain λA F=>⟨rfl,trivial,trivial⟩
     |some a=>
      simp[rd,DataW.trod,v,ZX]at M
   ·
    rename_i l am Ut v
    split at e
    ·split at e
     ·rename_i k aL os au
      simp only[cg,Zu]at e
      obtain⟨Z,rfl⟩:=e
      have Z:=e0 Z
      match cs with
      |[]=>simp[rd,DataW.trod,v]at M
      |_::_::_=>simp[rd,DataW.trod,v]at M
      |[c]=>
       cases c<;>(try(simp[rd,DataW.trod,v]at M;done))
       rename_i D len cap
       cases D with
       |none=>
        simp only[rd,DataW.trod,v]at M
        split at M<;>simp_all
       |some a=>
        simp only[rd,DataW.trod,v]at M
        split at M
        ·rename_i Up
         simp only[ZX,Yu,Y5,DataW.slice.injEq,ZP]at M
         obtain⟨U5,UJ,rest,Ug,⟨UF,UT⟩,rfl⟩:=M
         have Uh:rest=[]:=by simpa using UT
         subst Uh
         obtain⟨bf,_⟩:=nC Ug
         obtain⟨bo,UL⟩:=nC UJ
         simp at bf bo
         have UZ:cap=len:=Zo
         subst UZ
         have T4:am.length=cap:=by rw[<-UF];simp[bo]
         simp only[Z0,ZH,List.append_nil]at T2
         obtain⟨TZ,U0⟩:=yn (C:=C) (w:=w) TY (l:=l) (g:=λi=>(w.cells? 0 (a.add (i*P.cellsOf l)) (P.cellsOf l)).getD []) am 0 (n+1) _ au U5
          (by
           rw[T4, <-List.range_eq_range']
           rw[<-UJ]
           have U8:∀i∈List.range cap,(w.cells? 0 (a.add (i*P.cellsOf l)) (P.cellsOf l)).isSome=true:=by
            intro i ak
            have T9:i<cap:=by simpa using ak
            have:=UL i i U5[i] (by simp[T9]) (Ze Zo)
            simp only[ZX]at this
            obtain⟨T1,G,_⟩:=this
            rw[G];rfl
           exact H4 λi ak=>by
            have:=U8 i ak
            cases Uf:w.cells? 0 (a.add (i*P.cellsOf l)) (P.cellsOf l)with
            |none=>rw[Uf]at this;cases this
            |some T1=>simp)
          UF (T2.of λT3 X=>Zr.2 (.inr X))
         simp only at U0
         have UC:0<cap*P.cellsOf l:=by rw[<-T4, <-U0];exact Z
         obtain⟨a7,ty,ab⟩:=T2 a.block a.off (Zr.2 (.inl (sr (by rw[bo];exact UC))))
         have Uq:0<P.cellsOf l:=Nat.pos_of_mul_pos_left UC
         have UY:0<cap:=Nat.pos_of_mul_pos_right UC
         have J:∀i,i<cap->∃T1,w.cells? 0 (a.add (i*P.cellsOf l)) (P.cellsOf l)=some T1:=by
          intro i T9
          have:=UL i i U5[i] (by simp[T9]) (Ze Zo)
          simp only[ZX]at this
          obtain⟨T1,G,_⟩:=this
          exact⟨T1,G⟩
         have T5:a.spot=none:=by
          obtain⟨T1,G⟩:=J 0 UY
          have Ur:=(tk (a:=a.add (0*P.cellsOf l)) (by rw[s3];exact ab) G).2
          unfold World.cells? at G
          rw[Zv (zc _)]at G
          obtain⟨_,bo⟩:=nC G
          have:=bo 0 0 T1[0] (by rw[List.getElem?_range Zo]) (Ze Zo)
          have UV:(a.add (0*P.cellsOf l)).add 0=a:=by simp[Addr.add]
          rw[UV]at this
          exact(ti this).1
         have Uc:(List.range' 0 am.length).flatMap (λi=>(w.cells? 0 (a.add (i*P.cellsOf l)) (P.cellsOf l)).getD [])=(a7.toList.drop a.off).take (cap*P.cellsOf l):=by
          rw[T4]
          have:∀i∈List.range' 0 cap,(w.cells? 0 (a.add (i*P.cellsOf l)) (P.cellsOf l)).getD []=((a7.toList.drop a.off).drop (i*P.cellsOf l)).take (P.cellsOf l):=by
           intro i ak
           have T9:i<cap:=by simpa using ak
           obtain⟨T1,G⟩:=J i T9
           obtain⟨U6,_⟩:=tk (a:=a.add (i*P.cellsOf l)) (by rw[s3];exact ab) G
           rw[G,Y0,U6,wW,List.drop_drop]
          rw[F3 this,xV,Y4,Yf]
         rw[Uc]at TZ
         refine Lays.block ⟨a.block,a.off,0⟩ TZ (uF k) λA F T6 U7 U9 UA=>⟨uZ ab ?_ UA Z, ?_,U7⟩
         ·simp only
          rw[U0,T4];exact U9
         ·simp only[ai,T6,T4]
          obtain⟨cM,UO,U4⟩:=a
          have T5:U4=none:=T5
          subst T5
          rfl
        ·simp at M
     ·simp at e
    ·simp at e
   ·
    rename_i eL ds v
    split at e
    ·rename_i k aL os au
     simp only[cg,Zu]at e
     obtain⟨Y,rfl⟩:=e
     have Y:=Zh Y
     have UD:rd P w (L+1) t cs=(if cs.length=P.cellsOf t then(eL.toList.mapM λf=>rd P w L f.type ((cs.drop f.offset).take (P.cellsOf f.type))).map λT0=>(.agg (T0.map (·.1)),T0.flatMap (·.2))else none):=by
      simp only[rd]
      rw[DataW.trod_step]
      unfold DataW.trodStep
      rw[v]
     rw[UD]at M
     split at M
     case isFalse=>cases M
     rename_i T4
     simp only[Yu,Y5,DataW.agg.injEq]at M
     obtain⟨T0,O,U2,rfl⟩:=M
     have:=Hw (C:=C) (w:=w) TY (cs:=cs) eL.toList ds 0 n _ au T0 O U2 T2
     simp only[Yf]at this
     rw[Zt Zo]at this
     exact this
    ·simp at e
   ·
    rename_i o l ds v
    split at e
    ·rename_i k aL os au
     simp only[cg,Zu]at e
     obtain⟨Y,rfl⟩:=e
     have Y:=Zh Y
     have UD:rd P w (L+1) t cs=(if cs.length=P.cellsOf t then((List.range o).mapM λi=>rd P w L l ((cs.drop (i*P.cellsOf l)).take (P.cellsOf l))).map λT0=>(.agg (T0.map (·.1)),T0.flatMap (·.2))else none):=by
      simp only[rd]
      rw[DataW.trod_step]
      unfold DataW.trodStep
      rw[v]
     rw[UD]at M
     split at M
     case isFalse=>cases M
     rename_i T4
     simp only[Yu,Y5,DataW.agg.injEq]at M
     obtain⟨T0,O,U2,rfl⟩:=M
     have Ua:ds.length=o:=by
      have:=(nC O).1
      rw[<-U2];simpa using this
     obtain⟨TZ,U0⟩:=yn (C:=C) (w:=w) TY (l:=l) (g:=λi=>(cs.drop (i*P.cellsOf l)).take (P.cellsOf l)) ds 0 n _ au T0 (by rw[Ua, <-List.range_eq_range'];exact O) U2 T2
     rw[xV,Y4,Yf,Zt (by simp only at U0;omega)]at TZ
     exact TZ
    ·simp at e
   ·
    rename_i l v
    simp at e;subst e
    match cs with
    |[]=>simp[rd,DataW.trod,v]at M
    |_::_::_=>simp[rd,DataW.trod,v]at M
    |[c]=>
     cases c<;>simp[rd,DataW.trod,v]at M
     all_goals first
      |exact .plain λA F=>⟨rfl,trivial,trivial⟩
      |(split at M<;>simp_all)
   ·
    rename_i o l v
    simp at e;subst e
    match cs with
    |[]=>simp[rd,DataW.trod,v]at M
    |_::_::_=>simp[rd,DataW.trod,v]at M
    |[c]=>
     cases c<;>simp[rd,DataW.trod,v]at M
     rename_i b
     cases b with
     |none=>exact .plain λA F=>⟨rfl,trivial,trivial⟩
     |some b=>
      simp only at M
      split at M
      ·split at M
       ·simp only[ZX]at M
        obtain⟨bm,_,UG⟩:=M
        split at UG<;>simp at UG
       ·cases M
      ·cases M
   ·
    rename_i o l am v
    simp only[cg]at e
    obtain⟨UB,e⟩:=e
    split at e
    ·rename_i Un aL os au
     simp at e;subst e
     match cs with
     |[]=>simp[rd,DataW.trod,v]at M
     |_::_::_=>simp[rd,DataW.trod,v]at M
     |[c]=>
      cases c<;>(try(simp[rd,DataW.trod,v]at M;done))
      rename_i b
      cases b with
      |none=>simp[rd,DataW.trod,v]at M
      |some b=>
       simp only[rd,DataW.trod,v]at M
       split at M
       ·rename_i T8 US ab
        split at M
        ·simp only[ZX]at M
         obtain⟨bm,UW,M⟩:=M
         split at M
         ·simp only[Zu,Y5,DataW.map.injEq]at M
          obtain⟨Ui,rfl⟩:=M
          obtain⟨bf,bo⟩:=nC UW
          have Us:bm.length=T8.toList.length:=bf
          have UX:(T8.toList.zip bm).map (·.2.1)=bm.map (·.1):=by
           have UU:(λx:MapEntry×((Lit×DataW Unit)×List MemPlace)=>x.2.1)=(λT3:(Lit×DataW Unit)×List MemPlace=>T3.1)∘Prod.snd:=rfl
           rw[UU, <-YH,List.map_snd_zip Zo]
          obtain⟨bp,UH,UI⟩:=Ae (sorted_perm (bm.map (·.1))).symm (T8.toList.zip bm) UX
          rw[Ui]at UI
          have U8:∀z∈bp,keyOf P o z.1.key=some z.2.1.1/\z.1.val.formed P l=true/\rd P w L l z.1.val.cells.toList=some (z.2.1.2,z.2.2)/\ir w z.2.2:=by
           intro z Uk
           have Ul:=UH.mem_iff.1 Uk
           obtain⟨i,ak⟩:=ZZ.1 Ul
           rw[List.getElem?_zip_eq_some]at ak
           have:=bo i _ _ ak.1 ak.2
           simp only[ZX]at this
           obtain⟨key,G,T7⟩:=this
           split at T7
           ·rename_i Ub
            simp only[Yu]at T7
            obtain⟨T3,UE,UN⟩:=T7
            rw[<-UN]
            refine⟨G,Ub,UE,T2.of λp UB=> ?_⟩
            refine Zi _ (List.mem_flatMap.2 ⟨z.2,Zg ak.2, ?_⟩)
            rw[<-UN];exact UB
           ·cases T7
          obtain⟨aH,aZ,a0,f,a3⟩:=Hv (C:=C) (w:=w) TY UB am (n+1) _ au bp UI U8
          have aH:n+1<=aL:=aH
          refine⟨by simp only;omega, ?_,λx=>if x=n then⟨b,0,0⟩else f x, ?_⟩
          ·intro T3 X
           rcases Zz.1 X with rfl|X
           ·exact⟨Zp _,by simp only;omega,IL _⟩
           ·obtain⟨G,T7,UE⟩:=aZ T3 X
            exact⟨Zo,T7,UE⟩
          ·intro A F T6
           have U3:=T6 n (Zp _) (by simp only;omega)
           simp only[ZP]at U3
           obtain⟨UP,UQ,UR⟩:=a3 A F (λx Y Z=>by
            have:=T6 x Zo Z
            have Ue:x≠n:=Zo
            simp only[Zj Ue]at this
            exact this)
           refine⟨by simp[aU,ai,U3.1],⟨U3.2,trivial⟩, ?_⟩
           intro T3 X
           rcases Zz.1 X with rfl|X
           ·simp only[U3.1]
            have UK:(bp.map (·.1)).Perm T8.toList:=by
             have:=UH.map (·.1)
             rwa[List.map_fst_zip Zo]at this
            rw[UP]at UK
            obtain⟨eu,UM,Um⟩:=Ae UK _ rfl
            refine⟨T8,US,eu,ab,Um.symm, ?_, ?_⟩
            ·have:=UM.map (λl=>(l.1,l.2.1))
             rwa[Bi (bp:=bp) _ bp a0]at this
            ·intro x O
             have iW:=UM.mem_iff.1 O
             have Ud:(x.1,x.2.1)∈Un:=by
              have:=List.mem_map_of_mem (f:=λl:y×y×Nat=>(l.1,l.2.1)) iW
              rwa[Bi (bp:=bp) _ bp a0]at this
             exact UQ _ Ud
           ·exact UR T3 X
         ·simp at M
        ·simp at M
       ·simp at M
    ·simp at e
   ·simp at e
end
end
noncomputable section
open Go.RowKit (Below)
def gc:List (Nat×ae)->I ae->I ae
 |[],B=>B
 |(b,D)::k,B=>gc k (B.set b (some D))
section
variable{C:aC}{P:Program}{w:World}
def u4(b:Nat)(D:ae):∀(k:List (Nat×ae)) (B:I ae),(gc k B).get b=some D->(b,D)∈k\/B.get b=some D:=by
 intro k
 induction k with
 |nil=>intro B e;exact .inr e
 |cons x k V=>
  obtain⟨a,o'⟩:=x
  intro B e
  rcases V _ e with e|e
  ·exact .inl (Zi _ e)
  ·rw[I.gn]at e
   by_cases l:a=b
   ·subst l;simp at e;subst e;exact .inl (Zl ..)
   ·simp[l]at e;exact .inr e
def A3{nm:String}{g:Nat}{cs:Array Value}(b:P.globalNamed nm=some g)(e:w.var? P nm=some cs):∃ty a,w.heap[g]? =some (.cells cs ty a):=by
 unfold World.var? at e
 rw[b]at e
 simp only[ZL]at e
 split at e
 ·rename_i c ty a ab
  simp at e;subst e
  exact⟨ty,a,ab⟩
 ·cases e
def vq(C:aC)(w:World)(cL n:Nat)(r:Nat×List (Nat×ae)):Prop:=
 n<=r.1/\(∀x∈r.2,(x.1<cL\/n<=x.1)/\(x.1<cL\/x.1<r.1)/\n8 x.2)/\
  ∃f:Nat->fU,∀A F,(∀b,n<=b->b<r.1->A b=f b/\F b)->(∀g,g<cL->A g=⟨g,0,0⟩/\F g)->∀x∈r.2,eF C A F x.2 (A x.1) w
end
end
noncomputable section
open Go.RowKit (Below)
def oj:List Nat->Bool
 |[]=>true
 |x::s=>Nat.blt x 256&&oj s
def nx:List Nat->Nat->Nat->Int
 |[],_,_=> .negSucc 0
 |x::s,c,i=>aT (Nat.beq x c) (.ofNat i) (nx s c (i+1))
def oY(aw:Nat)(f:Nat)(args:List y):Option y:=
 aT (Nat.beq f aw) (match args with
  |[.str s, .int .u8 (.ofNat c)]=>aT (oj s&&Nat.blt c 256) (some (.int .i64 (nx s c 0))) none
  |_=>none) none
section
variable{C:aC}{P:Program}{w:World}
def s4:∀{s:List Nat},oj s=true->∀x∈s,x<256:=by
 intro s
 induction s with
 |nil=>intro _ x e;cases e
 |cons a s V=>
  intro e x b
  simp only[oj,Zq]at e
  rcases Zz.1 b with rfl|b
  ·exact e0 e.1
  ·exact V e.2 x b
def GY:∀(s:List Nat) (c i:Nat),(∀x∈s,x<256)->c<256->nx s c i=(if Lib.indexByte (s.map UInt8.ofNat) (UInt8.ofNat c)= -1 then -1 else Lib.indexByte (s.map UInt8.ofNat) (UInt8.ofNat c)+i):=by
 intro s
 induction s with
 |nil=>intro c i _ _;simp[nx,Lib.indexByte]
 |cons a s V=>
  intro c i d b
  have f:=d a (Zl ..)
  have ak:=V c (i+1) (λx m=>d x (Zi _ m)) b
  simp only[nx,ZS,Lib.indexByte,d5]
  by_cases l:a=c
  ·subst l;simp
  ·have g:(UInt8.ofNat a==UInt8.ofNat c)=false:=by
    rw[beq_eq_false_iff_ne]
    intro L
    have:=congrArg UInt8.toNat L
    simp at this
    rw[YM f,YM b]at this
    exact l this
   rw[Zj l,ak,g]
   have mn:=Lib.indexByte_ge (s.map UInt8.ofNat) (UInt8.ofNat c)
   by_cases L:Lib.indexByte (s.map UInt8.ofNat) (UInt8.ofNat c)= -1
   ·simp[L]
   ·simp only[L,ZM]
    have:¬(Lib.indexByte (s.map UInt8.ofNat) (UInt8.ofNat c)+1= -1):=Zo
    simp[L,this]
    omega
def y2{aw f:Nat}{args:List y}{v:y}(e:oY aw f args=some v):f=aw/\∃s c,args=[.str s, .int .u8 (.ofNat c)]/\v= .int .i64 (nx s c 0)/\(∀x∈s,x<256)/\c<256:=by
 unfold oY at e
 rw[d5]at e
 split at e
 ·rename_i l
  split at e
  ·rename_i s c
   simp only[cg,Zq,Zu]at e
   exact⟨l,s,c,rfl,e.2.symm,s4 e.1.1,e0 e.1.2⟩
  ·simp at e
 ·simp at e
def IU{aw:Nat}{fn:Func}(n:P.funcs[aw]? =some fn)(p:(fn.name== "runtime.NumGoroutine")=false)(ab:fn.body=none)(d:Extern.findNext fn=none)(g:Extern.find fn=some Extern.BytealgIndexByte.indexByte)
 {f:Nat}{args:List y}{v:y}(e:oY aw f args=some v)(A:bE)(w:World):(callFunc f (aU A args).toArray).run P w= .ok (.value (ai A v)) w:=by
 obtain⟨rfl,s,c,rfl,rfl,x,i⟩:=y2 e
 have b:=Lib.run_indexByteString (P:=P) (cI s) (Int.ofNat c) w
 have l:Lib.indexByte (cI s).data.toList (Int.ofNat c).toNat.toUInt8=nx s c 0:=by
  rw[GY s c 0 x i]
  have:(cI s).data.toList=s.map UInt8.ofNat:=by simp[cI]
  rw[this]
  have mn:=Lib.indexByte_ge (s.map UInt8.ofNat) (UInt8.ofNat c)
  show Lib.indexByte (s.map UInt8.ofNat) (UInt8.ofNat c)=_
  split
  ·rename_i L;exact L
  ·simp
 rw[l]at b
 have m:(aU A [.str s, .int .u8 (.ofNat c)]).toArray= #[.string (cI s), .int .u8 (Int.ofNat c)]:=rfl
 rw[m]
 have t:¬fn.name= "runtime.NumGoroutine":=by simpa using p
 simp only[callFunc,Sem.run_bind]
 simp[n,t,ab,d,g,ai]
 exact congrArg (λr=>Result.andThen r (λa aM=>Result.ok (Next.value a) aM)) b
end
end
noncomputable section
open Go.RowKit (Below)
mutual
def hU:y->Bool
 | .bool _=>true
 | .int _ _=>true
 | .str s=>oj s
 | .bC=>true
 | .az=>true
 | .fF=>true
 | .nilFunc=>true
 | .nilIface=>true
 | .iface _ v=>hU v
 | .agg k=>mK k
 | .tuple k=>mK k
 |_=>false
def mK:List y->Bool
 |[]=>true
 |v::k=>hU v&&mK k
end
mutual
def sj:∀v,hU v=true->bd (λ_=>False) v
 | .bool _,_=>trivial
 | .int _ _,_=>trivial
 | .str s,e=>s4 (by simpa[hU]using e)
 | .bC,_=>trivial
 | .az,_=>trivial
 | .fF,_=>trivial
 | .nilFunc,_=>trivial
 | .nilIface,_=>trivial
 | .iface _ v,e=>by
   have:=sj v (by simpa[hU]using e)
   simpa[bd]using this
 | .agg k,e=>qp k (by simpa[hU]using e)
 | .tuple k,e=>qp k (by simpa[hU]using e)
 | .ptr _ _,e=>by simp[hU]at e
 | .slice ..,e=>by simp[hU]at e
 | .cK ..,e=>by simp[hU]at e
 | .map _,e=>by simp[hU]at e
 | .func ..,e=>by simp[hU]at e
def qp:∀k,mK k=true->cd (λ_=>False) k
 |[],_=>trivial
 |v::k,e=>by
  simp only[mK,Zq]at e
  exact⟨sj v e.1,qp k e.2⟩
end
def Af{v:y}(e:hU v=true):(∀A a,ai A v=ai a v)/\∀F,bd F v:=
 ⟨λ_ _=>hK (λ_ e=>e.elim) (sj v e),λ_=>g3 (λ_ e=>e.elim) v (sj v e)⟩
def uN{k:List y}(e:mK k=true):(∀A a,aU A k=aU a k)/\∀F,cd F k:=
 ⟨λ_ _=>kO (λ_ e=>e.elim) (qp k e),λ_=>h9 (λ_ e=>e.elim) k (qp k e)⟩
def Ag{a b:y}(e:sh a b=true):a=b:=by
 unfold sh at e
 split at e
 ·simp only[Et,Y3]at e;rw[e]
 ·simp only[Zq,yj,mq,Zc]at e;rw[e.1,e.2]
 ·rw[(qh _ _).1 e]
 ·rfl
 ·rfl
 ·rfl
 ·cases e
def I6:∀{a b:List y},nR a b=true->a=b:=by
 intro a
 induction a with
 |nil=>intro b e;cases b<;>simp[nR]at e;rfl
 |cons x a V=>
  intro b e
  cases b with
  |nil=>simp[nR]at e
  |cons c b=>
   simp only[nR,Zq]at e
   rw[Ag e.1,V e.2]
def tq(x c:y):Bool:=match x,c with
 | .agg a, .agg b=>nR a b
 |x,c=>sh x c
def EZ{a b:y}(e:tq a b=true):a=b:=by
 unfold tq at e
 split at e
 ·rw[I6 e]
 ·exact Ag e
def oy:List y->List y->Bool
 |[],[]=>true
 |a::x,b::c=>tq a b&&oy x c
 |_,_=>false
def E0:∀{a b:List y},oy a b=true->a=b:=by
 intro a
 induction a with
 |nil=>intro b e;cases b<;>simp[oy]at e;rfl
 |cons x a V=>
  intro b e
  cases b with
  |nil=>simp[oy]at e
  |cons c b=>
   simp only[oy,Zq]at e
   rw[EZ e.1,V e.2]
def ju(f:Nat)(args:List y):List (Nat×List y×y)->Option y
 |[]=>none
 |(g,a,v)::k=>aT (Nat.beq f g) (aT (oy args a) (some v)<|ju f args k) (ju f args k)
def yk{f:Nat}{args:List y}{v:y}:∀{k:List (Nat×List y×y)},ju f args k=some v->(f,args,v)∈k:=by
 intro k
 induction k with
 |nil=>intro e;simp[ju]at e
 |cons x k V=>
  obtain⟨g,b,N⟩:=x
  intro e
  simp only[ju]at e
  rw[cN]at e
  split at e
  ·rename_i L
   rw[cN]at e
   split at e
   ·rename_i a
    simp at e;subst e
    rw[Zh L,E0 a]
    exact Zl ..
   ·exact Zi _ (V e)
  ·exact Zi _ (V e)
def hu(D:Nat->List y->Option y)(k:List (Nat×List y×y))(f:Nat)(args:List y):Option y:=
 match ju f args k with|some v=>some v|none=>D f args
def qy:List (Nat×List y×y)->Bool
 |[]=>true
 |x::k=>(mK x.2.1&&hU x.2.2)&&qy k
def AV:∀{k:List (Nat×List y×y)},qy k=true->∀x∈k,mK x.2.1=true/\hU x.2.2=true:=by
 intro k
 induction k with
 |nil=>intro _ x e;cases e
 |cons a k V=>
  intro e x b
  simp only[qy,Zq]at e
  rcases Zz.1 b with rfl|b
  ·exact e.1
  ·exact V e.2 x b
section
variable{P:Program}{w:World}
def Fs{V:dK}{C:aC}{f:Nat}{args:List y}{b:Bool}{cs:List dq}{h:I ae}{j:Nat}{v:y}(e:hl V C f args b cs h j=some v):∃fn c,C.P.funcs[f]? =some fn/\fn.body=some c:=by
 unfold hl at e
 split at e
 ·rename_i fn d
  split at e
  ·rename_i c a;exact⟨fn,c,d,a⟩
  ·simp at e
 ·simp at e
def y4{G:I ae}{aP cL:Nat}{D:Nat->List y->Option y}{bY:bE}{b8:Nat->Prop}{k:List (Nat×List y×y)}(b:Env ⟨P,G,aP,D,cL⟩ w bY b8)(t:qy k=true)
 (z:∀x∈k,∃m,gP ⟨P,G,aP,D,cL⟩ m x.1 x.2.1=some x.2.2):sV ⟨P,G,aP,hu D k,cL⟩ w:=by
 refine⟨λf args v a=> ?_,λf args v a A T0 ab=> ?_⟩
 ·have a:hu D k f args=some v:=a
  unfold hu at a
  split at a
  ·rename_i N i
   simp at a;subst a
   obtain⟨d,g⟩:=AV t _ (yk i)
   exact⟨Af g,uN d⟩
  ·exact b.dy.val f args v a
 ·have a:hu D k f args=some v:=a
  unfold hu at a
  split at a
  ·rename_i N i
   simp at a;subst a
   have r:=yk i
   obtain⟨d,g⟩:=AV t _ r
   obtain⟨m,s⟩:=z _ r
   obtain⟨fn,c,p,n⟩:=Fs s
   right
   have Z:fn.name≠ "runtime.NumGoroutine":=by simpa using b.eQ.num f fn p (by simp[n])
   refine⟨?_, ?_⟩
   ·have Y:P.funcs[f]? =some fn:=p
    simp[callFunc,Y,Z,n]
   ·have X:=b.later ab
    have:=J2 X (f:=f) (args:=args) ((uN d).2 b8) s
    rw[(uN d).1 A bY]
    exact this.mono λl aM ⟨⟨T1,O⟩,C⟩=>⟨by rw[O,(Af g).1 T1 A],C⟩
  ·exact b.dy.ok f args v a A T0 ab
end
end
noncomputable section
open Go.RowKit (Below)
def po:List (String×Nat)->String->Option Nat
 |[],_=>none
 |(a,N)::k,s=>aT (a==s) (some N) (po k s)
def rP(P:Program)(nm:List (String×Nat))(t:Nat)(d:DataW Unit)(n:Nat):fb:=match P.underlying t,d with
 |some (.interface _), .iface s (.ptr a)=>(match po nm s with
  |some N=>(match P.underlying N with
   |some (.pointer _)=>(match ki P 39 N (.ptr a) n with
    |some ([x],aL,os)=>some ([.iface N x],aL,os)
    |_=>none)
   |_=>none)
  |none=>none)
 |_,_=>ki P 40 t d n
def dr(P:Program)(nm:List (String×Nat)):List (String×DataW Unit)->Nat->Nat×List (Nat×ae)
 |[],n=>(n,[])
 |(v,d)::r,n=>match P.globalNamed v with
  |some g=>(match P.globals[g]? with
   |some a=>(match rP P nm a.type d n with
    |some (k,aL,os)=>aT (Nat.blt 0 k.length) (match dr P nm r aL with|(aR,b)=>(aR,(g,o2 k)::(os++b))) (dr P nm r n)
    |none=>dr P nm r n)
   |none=>dr P nm r n)
  |none=>dr P nm r n
def lW(P:Program)(nm:List (String×Nat)):Prop:=∀x∈nm,∀N,P.typeName? 3 N=some x.1->N=x.2
section
variable{C:aC}{P:Program}{w:World}
def Ej{s:String}{N:Nat}:∀{k:List (String×Nat)},po k s=some N->(s,N)∈k:=by
 intro k
 induction k with
 |nil=>intro e;simp[po]at e
 |cons x k V=>
  obtain⟨a,b⟩:=x
  intro e
  simp only[po]at e
  rw[cN]at e
  split at e
  ·rename_i L
   simp at e L;subst e;subst L
   exact Zl ..
  ·exact Zi _ (V e)
def Hx{nm:List (String×Nat)}(Y:lW P nm){t:Nat}{d:DataW Unit}{n:Nat}{r:List y×Nat×List (Nat×ae)}(e:rP P nm t d n=some r){L:Nat}{cs:List Value}{bH:List MemPlace}(M:rd P w L t cs=some (d,bH))(m:ir w bH)
 (Z:∀N v,cs=[.iface N v]->Value.okWide P w .any 0 N v):Lays C w n cs r:=by
 unfold rP at e
 split at e
 ·rename_i T6 s T4 ak
  split at e
  ·rename_i N T0
   split at e
   ·rename_i l b
    split at e
    ·rename_i x aL os au
     simp at e;subst e
     obtain⟨G,T3,v,rfl,X,g⟩:=iface_of_trod ak M
     obtain rfl:=Y _ (Ej T0) T3 X
     obtain⟨T5,a,bJ,dz,i,_,_,_⟩:=ptr_of_trod b g
     have ok:=Z _ _ rfl
     have T1:v= .pointer (some a):=by
      unfold Value.okWide at ok
      simp only[b]at ok
      unfold Cell.okWide at ok
      cases v<;>simp[Value.cells,Cell.ok,b]at ok i
      subst i
      rfl
     have O:=yp (C:=C) (w:=w) 39 G _ _ _ _ au _ _ g m
     obtain⟨aH,aZ,f,a3⟩:=O
     refine⟨aH,aZ,f,λA F T2=> ?_⟩
     obtain⟨c,p,z⟩:=a3 A F T2
     refine⟨?_,⟨p.1,trivial⟩,z⟩
     subst T1
     have l:Value.pointer (some a)=ai A x:=by
      simp[Value.cells,aU]at c
      exact c
     simp only[aU,ai,l]
    ·simp at e
   ·simp at e
  ·simp at e
 ·exact yp (C:=C) (w:=w) 40 L _ _ _ _ e cs bH M m
def yo{nm:List (String×Nat)}(UC:lW P nm){cL:Nat}:∀(laid:List (String×DataW Unit)) (n:Nat) (bH:List MemPlace),P.globals.size=cL->DataW.LaidVars P w laid bH->ir w bH->
 (∀b off,MemPlace.cell b off∈bH->∀N v,w.cell? ⟨b,off,none⟩=some (.iface N v)->Value.okWide P w .any 0 N v)->vq C w cL n (dr P nm laid n):=by
 intro laid
 induction laid with
 |nil=>
  intro n bH _ _ _ _
  exact⟨Zp _,by simp[dr],λ_=>default,λA F _ _=>by simp[dr]⟩
 |cons a r V=>
  obtain⟨v0,d⟩:=a
  intro n bH O U9 Y T5
  obtain⟨g,t,cs,fuel,p,L,f,T7,T8,UA,M,rfl⟩:=U9
  have T9:ir w L:=Y.of λUK X=>Zr.2 (.inr X)
  have T6:∀b off,MemPlace.cell b off∈L->∀N v,w.cell? ⟨b,off,none⟩=some (.iface N v)->Value.okWide P w .any 0 N v:=λb off ab=>T5 b off (Zr.2 (.inr ab))
  have skip:dr P nm ((v0,d)::r) n=dr P nm r n->vq C w cL n (dr P nm ((v0,d)::r) n):=λl=>by rw[l];exact V n L O M T9 T6
  simp only[Yu]at T7
  obtain⟨U5,s,rfl⟩:=T7
  have G:g<cL:=by rw[<-O];exact(ZI.1 s).1
  have UD:∀N v,cs.toList=[.iface N v]->Value.okWide P w .any 0 N v:=by
   intro N v T4
   obtain⟨ty,TZ,ab⟩:=A3 f T8
   have UG:cs.size=1:=by have:=congrArg List.length T4;simpa using this
   refine T5 g 0 (Zr.2 (.inl (Zr.2 (.inl (sr (a:=⟨g,0,none⟩) (o:=cs.size) Zo))))) N v ?_
   have U6:cs[0]? =some (.iface N v):=by rw[<-ZK,T4];rfl
   simp[World.cell?,ab,U6]
  cases au:rP P nm U5.type d n with
  |none=>exact skip (by simp[dr,f,s,au])
  |some UJ=>
   obtain⟨k,aL,os⟩:=UJ
   by_cases UE:0<k.length
   ·have UB:dr P nm ((v0,d)::r) n=((dr P nm r aL).1,(g,o2 k)::(os++(dr P nm r aL).2)):=by
     have:Nat.blt 0 k.length=true:=by simp[Nat.blt];omega
     simp[dr,f,s,au,this]
    obtain⟨aH,aZ,U3,a3⟩:=Hx (C:=C) (w:=w) UC au (cs:=cs.toList) (bH:=p) UA (Y.of λUK X=>Zr.2 (.inl (Zr.2 (.inr X)))) UD
    obtain⟨b2,be,U4,b6⟩:=V aL L O M T9 T6
    have aH:n<=aL:=aH
    rw[UB]
    refine⟨ZD aH b2, ?_,λb=>if b<aL then U3 b else U4 b, ?_⟩
    ·intro x c
     rcases Zz.1 c with rfl|c
     ·exact⟨.inl G, .inl G,uF k⟩
     ·rcases Zr.1 c with L|L
      ·obtain⟨Z,T0,T1⟩:=aZ x L
       exact⟨.inr Z, .inr (Z5 T0 b2),T1⟩
      ·obtain⟨Z,T0,T1⟩:=be x L
       exact⟨Z.imp id (λe=>ZD aH e),T0,T1⟩
    ·intro A F TY T3
     obtain⟨T2,U0,U1⟩:=a3 A F (λb i m=>by
      have U8:b<aL:=m
      have:=TY b i (Z5 m b2)
      simp only[Zv U8]at this
      exact this)
     have U2:=b6 A F (λb i m=>by
      have U7:¬b<aL:=zn.2 i
      have:=TY b (ZD aH i) m
      simp only[Zj U7]at this
      exact this) T3
     intro x c
     rcases Zz.1 c with rfl|c
     ·obtain⟨UI,UM⟩:=T3 g G
      obtain⟨ty,TZ,ab⟩:=A3 f T8
      have UG:cs.size=k.length:=by
       have:=congrArg List.length T2
       rw[eH]at this
       simpa using this
      obtain⟨UL,UN,z⟩:=Y g 0 (Zr.2 (.inl (Zr.2 (.inl (sr (a:=⟨g,0,none⟩) (o:=cs.size) Zo)))))
      rw[ab]at z
      have UF:TZ=(0,0):=by
       simp only[Zu,Obj.cells.injEq]at z
       exact z.2.2
      rw[UF]at ab
      simp only[UI]
      refine uZ (pl:=⟨g,0,0⟩) ab ?_ U0 UE
      simp only[Yf]
      rw[Zt Zx]
      exact T2
     ·rcases Zr.1 c with L|L
      ·exact U1 x L
      ·exact U2 x L
   ·exact skip (by
     have UH:k.length=0:=Zo
     have:Nat.blt 0 k.length=false:=by rw[UH];rfl
     simp[dr,f,s,au,this])
def uk{nm:List (String×Nat)}(s:lW P nm){laid:List (String×DataW Unit)}{dy:Nat->List y->Option y}(e:laidMet P laid w):
 ∃A F,bD ⟨P,gc (dr P nm laid P.globals.size).2 .nil,(dr P nm laid P.globals.size).1,dy,P.globals.size⟩ A F .nil (dr P nm laid P.globals.size).1 w.heap.size w/\
  is ⟨P,gc (dr P nm laid P.globals.size).2 .nil,(dr P nm laid P.globals.size).1,dy,P.globals.size⟩ A F:=by
 obtain⟨bH,p,_,m⟩:=e
 have t:ir w bH:=λb off ab=>(m b off ab).1
 obtain⟨aH,aZ,f,a3⟩:=yo (C:=⟨P,gc (dr P nm laid P.globals.size).2 .nil,(dr P nm laid P.globals.size).1,dy,P.globals.size⟩) s laid P.globals.size bH rfl p t (λb off ab=>(m b off ab).2)
 generalize z:dr P nm laid P.globals.size=r at aH aZ a3 ⊢
 obtain⟨aP,os⟩:=r
 simp only at aH aZ a3 ⊢
 have i:∀b D,J ⟨P,gc os .nil,aP,dy,P.globals.size⟩ .nil b=some D->(b,D)∈os/\b<aP:=by
  intro b D a
  unfold J at a
  rw[cN]at a
  split at a
  ·rename_i ab
   rcases u4 b D os .nil a with L|L
   ·exact⟨L,e0 ab⟩
   ·simp at L
  ·simp at a
 refine⟨λb=>if b<P.globals.size then⟨b,0,0⟩else f b,λb=>b<aP,⟨Zp _,λ_ e=>e,λb D a=>(i b D a).2, ?_, ?_, ?_, ?_⟩, ?_⟩
 ·intro b D a _
  have:=a3 (λb=>if b<P.globals.size then⟨b,0,0⟩else f b) (λb=>b<aP) (λb x n=>⟨by rw[Zj Zo],n⟩) (λg c=>⟨by rw[Zv c],Zo⟩) (b,D) (i b D a).1
  exact this
 ·intro b v D o' _ _ d _ _ ab
  exact absurd d (zn.2 ab)
 ·intro b D ab _ d
  exact absurd d (zn.2 ab)
 ·intro b D a _
  exact(aZ (b,D) (i b D a).1).2.2 _ _
 ·intro g c
  have c:g<P.globals.size:=c
  exact⟨Zo,by simp[c],by simp[c]⟩
def Env.Ho{nm:List (String×Nat)}(p:lW P nm){laid:List (String×DataW Unit)}{aw:Nat}{fn:Func}(eQ:kD P)(m:P.funcs[aw]? =some fn)(n:(fn.name== "runtime.NumGoroutine")=false)(ab:fn.body=none)(b:Extern.findNext fn=none)
 (d:Extern.find fn=some Extern.BytealgIndexByte.indexByte)(e:laidMet P laid w):
 ∃A F,Env ⟨P,gc (dr P nm laid P.globals.size).2 .nil,(dr P nm laid P.globals.size).1,oY aw,P.globals.size⟩ w A F:=by
 obtain⟨A,F,g,i⟩:=uk (dy:=oY aw) p e
 refine⟨A,F,eQ,⟨λf args v a=> ?_,λf args v a A w _=> .inl (IU m n ab b d a A w)⟩,g,i⟩
 obtain⟨rfl,s,c,rfl,rfl,r,t⟩:=y2 a
 exact⟨⟨λ_ _=>rfl,λ_=>trivial⟩,λ_ _=>rfl,λ_=>⟨r,trivial,trivial⟩⟩
end
end
noncomputable section
open Go.RowKit (Below)
def qm(aw:Nat)(D:Nat->List y->Option y)(f:Nat)(args:List y):Option y:=
 aT (Nat.beq f aw) (match args with
  |[.str s]=>aT (oj s&&Nat.ble s.length 281474976710656) (some (.str s)) none
  |_=>none) (D f args)
section
variable{P:Program}{w:World}
def y1{aw f:Nat}{D:Nat->List y->Option y}{args:List y}{v:y}(e:qm aw D f args=some v):
 (f=aw/\∃s,args=[.str s]/\v= .str s/\(∀x∈s,x<256)/\s.length<=281474976710656)\/D f args=some v:=by
 unfold qm at e
 rw[d5]at e
 split at e
 ·rename_i l
  split at e
  ·rename_i s
   simp only[cg,Zq,Zu]at e
   exact .inl ⟨l,s,rfl,e.2.symm,s4 e.1.1,et e.1.2⟩
  ·simp at e
 ·exact .inr e
def Env.Hn{nm:List (String×Nat)}(z:lW P nm){laid:List (String×DataW Unit)}{D:Nat->List y->Option y}{aw:Nat}{fn:Func}{c:Code}(r:P.funcs[aw]? =some fn)(t:(fn.name== "runtime.NumGoroutine")=false)(ab:fn.body=some c)
 (n:∀(s:ByteArray) (w:World),s.size<=281474976710656->Calls P aw #[.string s] w λl aM=>l= .returned (.string s)/\Below w.heap.size w aM)(e:laidMet P laid w){bY:bE}{b8:Nat->Prop}
 (b:Env ⟨P,gc (dr P nm laid P.globals.size).2 .nil,(dr P nm laid P.globals.size).1,D,P.globals.size⟩ w bY b8):
 ∃A F,Env ⟨P,gc (dr P nm laid P.globals.size).2 .nil,(dr P nm laid P.globals.size).1,qm aw D,P.globals.size⟩ w A F:=by
 obtain⟨A,F,i,m⟩:=uk (dy:=qm aw D) z e
 refine⟨A,F,b.eQ,⟨λf args v a=> ?_,λf args v a A g p=> ?_⟩,i,m⟩
 ·rcases y1 a with ⟨rfl,s,rfl,rfl,d,_⟩|a
  ·exact⟨⟨λ_ _=>rfl,λ_=>d⟩,λ_ _=>rfl,λ_=>⟨d,trivial⟩⟩
  ·exact b.dy.val f args v a
 ·rcases y1 a with ⟨rfl,s,rfl,rfl,d,au⟩|a
  ·right
   have x:¬fn.name= "runtime.NumGoroutine":=by simpa using t
   refine⟨by simp[callFunc,r,x,ab], ?_⟩
   have:=n (cI s) g (by simpa[cI,ByteArray.size]using au)
   exact this
  ·exact b.dy.ok f args v a A g p
end
end
noncomputable section
open Go.RowKit (Below)
def AE(C:aC):List (Nat×ae)->I ae->I ae
 |[],B=>B
 |(b,D)::k,B=>AE C k (aS C B b (some D))
def pick(C:aC)(h:I ae):List Nat->List (Nat×ae)
 |[]=>[]
 |b::k=>match J C h b with|some D=>(b,D)::pick C h k|none=>pick C h k
def xA(C:aC):List Nat->Bool
 |[]=>true
 |b::k=>eV C b&&xA C k
def G6(C:aC)(a:List Nat)(h:I ae):I ae:=AE C (pick C h a) .nil
def I5(todo:List bV):Bool:=match todo with| .drawn .. ::_=>false|_=>true
def yU:List dq->Bool
 |[]=>true
 |c::k=>(match c with|⟨_,_,_,_,todo,_,_,_,_⟩=>(match todo with| .lG .. ::_=>false|_=>true))&&yU k
def nu(C:aC)(a:List Nat)(b:dK):dK:=λaV todo aw B h j=>match aw with
 |⟨fn,n,ac,aA,ao,ro,cs⟩=>aT (I5 todo&&yU cs&&xA C a) (b aV todo ⟨fn,n,ac,aA,ao,ro,cs⟩ B (G6 C a h) j) none
section
variable{C:aC}{A bY:bE}{F b8:Nat->Prop}{h E:I ae}{j aB:Nat}{w:World}
variable{aI:World}{aQ:Nat}{aX:List Frame}{v:y}{b:dK}
def gS(C:aC)(aI:World)(aQ:Nat)(aX:List Frame)(aV:fa)(todo:List bV)(aw:d1)(B:I y)(h:I ae)(j:Nat)(v:y):Prop:=
 ∀A F w bv tmps aG U,m4 C aI aQ aX aV todo aw.fn aw.n aw.ac aw.aA aw.ao aw.ro aw.cs B h j A F w bv tmps aG U->Ends C aI aQ aX v (lone (bg A aw.fn aw.aA aw.ao aw.ro tmps aG (dh A aV)) U w)
open Classical in
def only(lm:fa)(c:List bV)(a:d1)(iN:I y)(ay:I ae)(b:Nat)(v:y):dK:=λaV todo aw B h j=>
 if aV=lm/\todo=c/\aw=a/\B=iN/\h=ay/\j=b then some v else none
end
end
noncomputable section
open Go.RowKit (Below)
def low(F:Nat->Prop)(bW:Nat)(b:Nat):Prop:=F b/\b<bW
section
variable{F:Nat->Prop}{bW:Nat}
end
end
noncomputable section
open Go.RowKit (Below)
section
variable{C:aC}{A bY:bE}{F b8:Nat->Prop}{h E:I ae}{j aB bW:Nat}{w:World}
variable{aI:World}{aQ g:Nat}{aX:List Frame}{v:y}{b:dK}
open Classical in
def cY(C:aC)(aI:World)(aQ:Nat)(aX:List Frame)(v:y):dK:=λaV todo aw B h j=>if gS C aI aQ aX aV todo aw B h j v then some v else none
def wZ:gg C aI aQ aX (cY C aI aQ aX v):=by
 intro aV todo fn n ac aA ao ro cs B h j N a A F w bv tmps aG U b
 unfold cY at a
 split at a
 ·rename_i e
  simp at a;subst a
  exact e A F w bv tmps aG U b
 ·cases a
def ec{aV:fa}{todo:List bV}{aw:d1}{B:I y}(e:gS C aI aQ aX aV todo aw B h j v):cY C aI aQ aX v aV todo aw B h j=some v:=by
 unfold cY
 rw[Zv e]
def F8{f:bV}{o:List bV}{aw:d1}{B:I y}(g:y.same 30 v v=true):∀k:List (y×I ae),k≠[]->(∀N E,(N,E)∈k->∃a,g1 f N=some a/\gS C aI aQ aX .run (a::o) aw B E j v)->
 k3 (cY C aI aQ aX v) f o aw B j k=some v:=by
 intro k
 induction k with
 |nil=>intro e;exact absurd rfl e
 |cons p k i=>
  obtain⟨N,E⟩:=p
  intro _ d
  obtain⟨a,b,c⟩:=d N E (Zl ..)
  cases k with
  |nil=>simp only[k3,b];exact ec c
  |cons L k=>
   have V:=i Zs (λN E e=>d N E (Zi _ e))
   simp only[k3,b,ec c]
   rw[V]
   simp only[g,cS]
end
end
noncomputable section
open Go.RowKit (Below)
abbrev bh:=y->I ae->Nat->Prop
abbrev Za0:=aC->y->y->I ae->Nat->bh->bh->Prop
abbrev Za1:=aC->y->I ae->Nat->bh->bh->Prop
abbrev Za2:=aC->y->y->y->I ae->Nat->bh->bh->Prop
abbrev Za3:=aC->y->y->y->y->I ae->Nat->bh->bh->Prop
abbrev Za4:=aC->I ae->Nat->bh->bh->Prop
abbrev zG:bh:=λ_ _ _=>False
structure ca where
 g:Nat->Option y
 aA:List dM:=[]
 rc:Bool:=false
instance:CoeFun ca (λ_=>Nat->Option y):=⟨ca.g⟩
def K(B:ca)(d:Nat)(v:y):ca:=⟨λn=>aT (Nat.beq d n) (some v) (B.g n),B.aA,B.rc⟩
def ed(k:List Nat)(B:ca):ca:=⟨λn=>aT (ic n k) none (B.g n),B.aA,B.rc⟩
def o0(B:ca)(d:dM):ca:=⟨B.g,d::B.aA,B.rc⟩
def AF(B:ca):ca:=⟨B.g,B.aA,true⟩
abbrev db:=ca->I ae->Nat->Prop
abbrev iM:=ca->bh
structure je where
 rd:Bool
 aA:Bool
 iG:Option (Option y)
def Q{α:Type}(D:Option α)(R:α->Prop):Prop:=Option.rec (motive:=λ_=>Prop) False (λa=>R a) D
def IS{α:Type}{D:Option α}{R:α->Prop}{a:α}(e:D=some a)(o:R a):Q D R:=by subst e;exact o
def iF{α:Type}{D:Option α}{R:α->Prop}:Q D R↔∃a,D=some a/\R a:=by
 cases D with
 |none=>simp[Q]
 |some a=>simp[Q]
structure q{α:Type}(D:Option α)(R:α->Prop):Prop where
 out:Q D R
def IT{α:Type}(D:Option α)(R:α->Prop):q D R=Q D R:=propext ⟨λe=>e.out,λe=>⟨e⟩⟩
def cD{α:Type}{D:Option α}{R:α->Prop}{a:α}(e:D=some a)(o:R a):q D R:=⟨IS e o⟩
def e3{α:Type}{D:Option α}{R:α->Prop}:q D R↔∃a,D=some a/\R a:=by rw[IT];exact iF
def Es(v:y)(a b:Prop):Prop:=y.rec (motive_1:=λ_=>Prop) (motive_2:=λ_=>Prop)
 (λt=>(t=true->a)/\(t=false->b)) (λ_ _=>False) (λ_=>False) (λ_ _=>False) False (λ_ _ _ _=>False) (λ_ _ _ _=>False) False (λ_=>False) False
 (λ_ _ _ _ _=>False) False (λ_ _ _=>False) False (λ_ _=>False) (λ_ _=>False) False (λ_ _ _ _=>False) v
structure aD(v:y)(a b:Prop):Prop where
 out:Es v a b
def xa{v:y}{a b:Prop}(e:aD v a b):∃t,v= .bool t/\(t=true->a)/\(t=false->b):=by
 have e:=e.out
 cases v with
 |bool t=>exact⟨t,rfl,e⟩
 |_=>exact e.elim
def Gz(c:Bool)(v:y)(a b:Prop):Prop:=y.rec (motive_1:=λ_=>Prop) (motive_2:=λ_=>Prop)
 (λt=>(t=c->a)/\(t=(!c)->b)) (λ_ _=>b) (λ_=>b) (λ_ _=>b) b (λ_ _ _ _=>b) (λ_ _ _ _=>b) b (λ_=>b) b
 (λ_ _ _ _ _=>b) b (λ_ _ _=>b) b (λ_ _=>b) (λ_ _=>b) b (λ_ _ _ _=>b) v
structure ag(c:Bool)(v:y)(a b:Prop):Prop where
 out:Gz c v a b
structure al(a:bh)(body:bh->Prop):Prop where
 out:body a
def G4(a:bh)(body:bh->Prop):al a body=body a:=propext ⟨λe=>e.out,λe=>⟨e⟩⟩
structure av(a:db)(body:db->Prop):Prop where
 out:body a
structure bS(a:y->Prop)(body:(y->Prop)->Prop):Prop where
 out:body a
structure ck(a:y->I ae->Prop)(body:(y->I ae->Prop)->Prop):Prop where
 out:body a
def G2(a:y->I ae->Prop)(body:(y->I ae->Prop)->Prop):ck a body=body a:=propext ⟨λe=>e.out,λe=>⟨e⟩⟩
structure t8(a:Prop)(body:Prop->Prop):Prop where
 out:body a
def G3(a:Prop)(body:Prop->Prop):t8 a body=body a:=propext ⟨λe=>e.out,λe=>⟨e⟩⟩
def cU{a:db}{body:db->Prop}(b:db)(c:∀H:db,(∀B h j,b B h j->H B h j)->body H)(d:∀B h j,b B h j->a B h j):av a body:=⟨c a d⟩
structure dx(n:Nat)(R:Nat->Prop):Prop where
 out:R n
structure b4(C:aC)(h:I ae)(j:Nat)(v:y)(bN:ae)(R:bh):Prop where
 out:R v (aS C h j (some bN)) (j+1)
structure fO(C:aC)(h:I ae)(b:Nat)(v:y)(bN:ae)(R:y->I ae->Prop):Prop where
 out:R v (aS C h b (some bN))
structure tb(C:aC)(h:I ae)(b:Nat)(a:y)(R:y->I ae->Prop):Prop where
 out:R (.ptr b 0) (aS C h b (some (.cells (I.ofList a.cells 0 .nil) a.cells.length .own)))
structure eU(C:aC)(h:I ae)(j:Nat)(a:y)(R:bh):Prop where
 out:R (.ptr j 0) (aS C h j (some (.cells (I.ofList a.cells 0 .nil) a.cells.length .own))) (j+1)
section
variable(C:aC)(aI:World)(aQ:Nat)(aX:List Frame)(v:y)
def sO(cs:List dq):bh:=λN h j=>ji (cY C aI aQ aX v) false cs N h j=some v
def qJ(cs:List dq):bh:=λN h j=>match cs with
 |c::rest=>Ao (cY C aI aQ aX v) c rest [⟨N,false⟩] h j=some v
 |[]=>False
end
def jb(C:aC)(f:Nat)(args:List y)(h:I ae)(j:Nat)(bn dj:bh):Prop:=
 ∀(aI:World) (bY:bE) (b8:Nat->Prop) (_:Env C aI bY b8) (aQ:Nat) (aX:List Frame) (v:y) (_:y.same 30 v v=true) (cs:List dq),
  (∀N E ar,bn N E ar->sO C aI aQ aX v cs N E ar)->(∀N E ar,dj N E ar->qJ C aI aQ aX v cs N E ar)->
  hl (cY C aI aQ aX v) C f args false cs h j=some v
def jb.mono{C:aC}{f:Nat}{args:List y}{h:I ae}{j:Nat}{bn dj a b:bh}(e:jb C f args h j bn dj)(i:∀N h j,bn N h j->a N h j)(m:∀N h j,dj N h j->b N h j):
 jb C f args h j a b:=
 λaI bY b8 c aQ aX v n cs d g=>e aI bY b8 c aQ aX v n cs (λN h j L=>d N h j (i N h j L)) (λN h j L=>g N h j (m N h j L))
def sq(V:dK)(C:aC)(k:Nat)(args:List y)(cs:List dq)(h:I ae)(j:Nat):b3:=match J C h k with
 |some (.loop _ _ fn n ac a params assign body _)=>(match kq n params args a with
  |some a=>V .run [.code assign, .beginRound, .code body] ⟨fn,n,ac,[],false,some k,cs⟩ a h j
  |none=>none)
 |_=>none
def l0(C:aC)(k:Nat)(args:List y)(h:I ae)(j:Nat)(bn dj:bh):Prop:=
 ∀(aI:World) (bY:bE) (b8:Nat->Prop) (_:Env C aI bY b8) (aQ:Nat) (aX:List Frame) (v:y) (_:y.same 30 v v=true) (cs:List dq),
  (∀N E ar,bn N E ar->sO C aI aQ aX v cs N E ar)->(∀N E ar,dj N E ar->qJ C aI aQ aX v cs N E ar)->
  sq (cY C aI aQ aX v) C k args cs h j=some v
def l0.mono{C:aC}{k:Nat}{args:List y}{h:I ae}{j:Nat}{bn dj a b:bh}(e:l0 C k args h j bn dj)(g:∀N h j,bn N h j->a N h j)(i:∀N h j,dj N h j->b N h j):
 l0 C k args h j a b:=
 λaI bY b8 c aQ aX v m cs d f=>e aI bY b8 c aQ aX v m cs (λN h j L=>d N h j (g N h j L)) (λN h j L=>f N h j (i N h j L))
def Bl(C:aC)(f:Nat)(args:List y)(iG:Option y)(h:I ae)(j:Nat)(bn:Bool->I ae->Nat->Prop):Prop:=
 ∀(aI:World) (bY:bE) (b8:Nat->Prop) (_:Env C aI bY b8) (aQ:Nat) (aX:List Frame) (v:y) (_:y.same 30 v v=true) (fn n ac:Nat) (B:I y) (todo:List bV) (ds:List dM) (ao:Bool) (ro:Option Nat) (cs:List dq),
  (∀b E ar,bn b E ar->cY C aI aQ aX v (match iG,b with|none,_=> .returning|some _,true=> .returning|some N,false=> .panicking [⟨N,false⟩]) todo ⟨fn,n,ac,ds,ao,ro,cs⟩ B E ar=some v)->
  hl (cY C aI aQ aX v) C f args true (⟨fn,n,ac,B,todo,ds,(match iG with|none=> .returning|some N=> .panicking [⟨N,false⟩]),ao,ro⟩::cs) h j=some v
structure aN(C:aC)(f:Nat)(args:List y)(h:I ae)(j:Nat)(R af:bh):Prop where
 out:(∃N,C.dy f args=some N/\R N h j)\/(C.dy f args=none/\(∃fn c,C.P.funcs[f]? =some fn/\fn.body=some c)/\jb C f args h j R af)
structure dA(D:Option b1)(h:I ae)(j:Nat)(R:bh):Prop where
 out:match D with
 |some (.val v)=>R v h j
 |some (.cy v E ar)=>R v E ar
 |_=>False
def JC(D:Option b1)(h:I ae)(j:Nat)(R:bh):dA D h j R=(match D with
 |some (.val v)=>R v h j
 |some (.cy v E ar)=>R v E ar
 |_=>False):=propext ⟨λe=>e.out,λe=>⟨e⟩⟩
def JD{D:Option b1}{h:I ae}{j:Nat}{R:bh}{v:y}(e:D=some (.val v))(o:R v h j):dA D h j R:=by subst e;exact⟨o⟩
def eX{D:Option b1}{h E:I ae}{j ar:Nat}{R:bh}{v:y}(e:D=some (.cy v E ar))(o:R v E ar):dA D h j R:=by subst e;exact⟨o⟩
structure tT(D:Option b1)(h:I ae)(j:Nat)(R:bh):Prop where
 out:match D with
 |some (.val v)=>R v h j
 |some (.cy v E ar)=>R v E ar
 |some (.fork k)=>k≠[]/\∀N E,(N,E)∈k->R N E j
 |_=>False
def Ga(D:Option b1)(h:I ae)(j:Nat)(R:bh):tT D h j R=(match D with
 |some (.val v)=>R v h j
 |some (.cy v E ar)=>R v E ar
 |some (.fork k)=>k≠[]/\∀N E,(N,E)∈k->R N E j
 |_=>False):=propext ⟨λe=>e.out,λe=>⟨e⟩⟩
def m9(C:aC)(rd:Bool)(D:Option b1)(h:I ae)(j:Nat)(R af:bh):Prop:=match D with
 |some (.val v)=>R v h j
 |some (.cy v E ar)=>R v E ar
 |some (.enter f args)=>jb C f args h j R af
 |some (.round k args)=>l0 C k args h j R af
 |some (.known _ _ v)=>R v h j
 |some (.panic v)=>aT rd False (af v h j)
 |some (.fork k)=>k≠[]/\∀N E,(N,E)∈k->R N E j
 |_=>False
def eB(x:eT)(aa:List (Nat×y))(B:ca)(R:y->Prop):Prop:=
 eT.rec (motive:=λ_=>Prop) (λH=>Q (cf aa H) R) (λn=>Q (B n) R) (λa=>R a) x
def rp(aa:List (Nat×y))(B:ca)(k:List eT):(List y->Prop)->Prop:=
 List.rec (motive:=λ_=>(List y->Prop)->Prop) (λR=>R []) (λx _ V R=>eB x aa B λa=>V λr=>R (a::r)) k
def cp(a6:List (Nat×Nat))(aa:List (Nat×y))(B:ca)(D:Operand)(R:y->Prop):Prop:=match D with
 | .tmp t=>(match cf a6 t with|some H=>Q (cf aa H) R|none=>Q (B t) R)
 | .const v=>Q (nJ v) R
 | .global g=>R (.ptr g 0)
 | .func f=>R (.func (.func f) [] [])
def iE(a6:List (Nat×Nat))(aa:List (Nat×y))(B:ca)(k:List Operand):(List y->Prop)->Prop:=
 List.rec (motive:=λ_=>(List y->Prop)->Prop) (λR=>R []) (λx _ V R=>cp a6 aa B x λa=>V λr=>R (a::r)) k
def mI(a6:List (Nat×Nat))(aa:List (Nat×y))(B:ca)(k:List (Nat×Operand)):(List (Nat×y)->Prop)->Prop:=
 List.rec (motive:=λ_=>(List (Nat×y)->Prop)->Prop) (λR=>R []) (λx _ V R=>cp a6 aa B x.2 λa=>V λr=>R ((x.1,a)::r)) k
def sa(a6:List (Nat×Nat))(aa:List (Nat×y))(B:ca)(D:Option Operand)(R:Option y->Prop):Prop:=match D with
 |none=>R none
 |some x=>cp a6 aa B x λa=>R (some a)
def fu:Operand:= .global 0
def eP:Operand:= .global 1
def lr:Operand:= .global 2
def fQ(a:y):Operand->Option y:=λ_=>some a
def n2(a b:y):Operand->Option y:=λD=>match D with| .global 0=>some a|_=>some b
def AY(a b c:y):Operand->Option y:=λD=>match D with| .global 0=>some a| .global 1=>some b|_=>some c
def t6(n ap:Nat)(a i:y):Option y:=match f3 i with|some i=>sJ n ap a i|none=>none
def bK(ap:Nat)(a i:y):Option y:=match f3 i with|some i=>mT ap a i|none=>none
def xL(C:aC)(t f:Nat)(a:y):Option y:=p2 C t fu f .nil (fQ a)
def xm(C:aC)(h:I ae)(s d:Nat)(a:y):Option y:=p0 C s d fu h (fQ a)
def yc(C:aC)(t:Nat)(a:y):Option y:=p3 C t fu .nil (fQ a)
def w7(C:aC)(t:Nat)(ok:Bool)(a:y):Option y:=pZ C fu t ok .nil (fQ a)
def xE(C:aC)(h:I ae)(a:y):Option y:=p1 C fu h (fQ a)
def j0(C:aC)(h:I ae)(b:Builtin)(bw:List TypeId)(aE:List y):Option y:=match b,aE with
 | .len,[x]=>(match bw with|t::_=>qT C h t x|_=>none)
 | .cap,[x]=>(match bw with|t::_=>qM C t x|_=>none)
 | .max,x::k=>hG true x k
 | .min,x::k=>hG false x k
 |_,_=>none
def bj(C:aC)(h:I ae)(s:Nat)(a v:y):Option (I ae):=match a with
 | .ptr b D=>aT (Nat.beq v.cells.length s&&Nat.blt 0 s) (gX C h b D v.cells) none
 |_=>none
def oI(C:aC)(h:I ae)(j:Nat)(b:Builtin)(bw:List TypeId)(aE:List y):Option b1:=match b,aE with
 | .append,[s,x]=>(match bw with
   |st::d7::_=>(match C.P.underlying d7 with
    |some (.int _)=>(match f3 x with|some n=>qQ C h j st s n|none=>none)
    |some (.slice _)=>og C h j st s x
    |some .string=>og C h j st s x
    |_=>none)
   |_=>none)
 | .copy,[d,x]=>(match bw with|st::_=>qO C h j st d x|_=>none)
 | .clear,[x]=>(match bw with|t::_=>qN C h j t x|_=>none)
 | .delete,[m,o]=>(match bw with|t::_=>qP C h j t m o|_=>none)
 |_,_=>none
structure lb(C:aC)(c:y)(a:List y)(h:I ae)(j:Nat)(R af:bh):Prop where
 out:match c with
 | .func fn first b=>(match fn with| .func f=>aN C f ((first++a)++b) h j R af| .yield k=>l0 C k (first++a) h j R af|_=>False)
 |_=>False
def sy(C:aC)(t len:Nat)(bH:List (Nat×y))(b:Nat):Option (y×ae):=match C.P.underlying t with
 |some (.slice bZ)=>(match ea C bZ,h1 C bZ with
  |some s,some z=>aT (Nat.ble (len*s) 16777216&&Nat.beq z.cells.length s) ((match mg (λi=>some (i*s,s)) (eA len z.cells) bH with
    |some cs=>some (y.slice b 0 len len,ae.cells (I.ofList cs 0 .nil) cs.length .own)
    |none=>none))<|none
  |_,_=>none)
 |_=>none
structure sf(af:bh)(a:y)(h:I ae)(j:Nat):Prop where
 out:match a with| .iface t v=>af (.iface t v) h j|_=>False
def I1(af:bh)(a:y)(h:I ae)(j:Nat):sf af a h j=(match a with| .iface t v=>af (.iface t v) h j|_=>False):=propext ⟨λe=>e.out,λe=>⟨e⟩⟩
structure yN(C:aC)(rd:Bool)(dB:y)(name:String)(a:List y)(h:I ae)(j:Nat)(R af:bh):Prop where
 out:match dB with
 | .iface t v=>m9 C rd (oh C h t v name a) h j R af
 |_=>False
def Ic(C:aC)(rd:Bool)(dB:y)(name:String)(a:List y)(h:I ae)(j:Nat)(R af:bh):yN C rd dB name a h j R af=(match dB with
 | .iface t v=>m9 C rd (oh C h t v name a) h j R af
 |_=>False):=propext ⟨λe=>e.out,λe=>⟨e⟩⟩
def yw(a6:List (Nat×Nat))(D:Op):aC->I ae->List (Nat×y)->ca->(y->Prop)->Prop:=match D with
 | .build t parts=>λC _ aa B R=>mI a6 aa B parts.toList λbH=>q (qL C t bH) R
 | .binOp op t x g _=>λC h aa B R=>cp a6 aa B x λa=>cp a6 aa B g λb=>q (ce C h op t (hO x||hO g) a b) R
 | .unOp op _ x=>λ_ _ aa B R=>cp a6 aa B x λa=>q (c0 op a) R
 | .convert s d x=>λC h aa B R=>cp a6 aa B x λa=>q (xm C h s d a) R
 | .makeInterface t x=>λC _ aa B R=>cp a6 aa B x λa=>q (yc C t a) R
 | .makeFunc fn first n=>λ_ _ aa B R=>(match fn with
   | .func f=>iE a6 aa B first.toList λa=>iE a6 aa B n.toList λb=>R (.func (.func f) a b)
   |_=>False)
 | .slice t x aF ak r=>λC h aa B R=>cp a6 aa B x λa=>sa a6 aa B aF λk=>sa a6 aa B ak λe=>sa a6 aa B r λm=>q (qV C h t a k e m) R
 | .field t x f=>λC _ aa B R=>cp a6 aa B x λa=>q (xL C t f a) R
 | .index t x i=>λC _ aa B R=>cp a6 aa B x λa=>cp a6 aa B i λb=>q (qR C t a b) R
 | .lookup t m o ok=>λC h aa B R=>cp a6 aa B m λa=>cp a6 aa B o λb=>q (qU C h t a b ok) R
 | .typeAssert x _ t ok=>λC _ aa B R=>cp a6 aa B x λa=>q (w7 C t ok a) R
 | .entry p=>λC h aa B R=>cp a6 aa B p λa=>q (xE C h a) R
 | .call c=>λC h aa B R=>(match c with
   |⟨.builtin b,args,bw⟩=>iE a6 aa B args.toList λaE=>q (j0 C h b bw.toList aE) R
   |_=>False)
 |_=>λ_ _ _ _ _=>False
def oQ(op:eD):aC->I ae->List (Nat×y)->ca->(y->Prop)->Prop:=match op with
 | .nE x=>λ_ _ aa B R=>eB x aa B R
 | .pick c a b=>λ_ _ aa B R=>eB c aa B λc=>bS R λR=>aD c (eB a aa B R) (eB b aa B R)
 | .cZ a=>λC h aa B R=>eB a aa B λa=>q (W C h a) R
 | .mx n a=>λC h aa B R=>eB a aa B λa=>q (br C h n a) R
 | .off d x=>λ_ _ aa B R=>eB x aa B λa=>q (aq d a) R
 | .mr n ap x i=>λ_ _ aa B R=>eB x aa B λa=>eB i aa B λi=>q (t6 n ap a i) R
 | .ms ap x i=>λ_ _ aa B R=>eB x aa B λa=>eB i aa B λi=>q (bK ap a i) R
 | .nH x=>λ_ _ aa B R=>eB x aa B λa=>q (a2 a) R
 | .pR op x f=>λ_ _ aa B R=>eB x aa B λa=>eB f aa B λb=>q (ah op a b) R
 | .ext i x=>λ_ _ aa B R=>eB x aa B λa=>q (dD i a) R
 | .dV a6 D=>yw a6 D
 |_=>λ_ _ _ _ _=>False
def yE(op:eD):aC->I ae->Nat->List (Nat×y)->ca->bh->Prop:=match op with
 | .make a6 D=>(match D with
   | .alloc t=>λC h b _ _ R=>q (nB C t (fQ undef) b) λr=>b4 C h b r.1 r.2 R
   | .box _ x=>λC h b aa B R=>cp a6 aa B x λa=>eU C h b a R
   | .buildSlice t len parts=>λC h b aa B R=>mI a6 aa B parts.toList λbH=>q (sy C t len bH b) λr=>b4 C h b r.1 r.2 R
   | .makeMap _ none=>λC h b _ _ R=>b4 C h b (.map b) (.map [] 0) R
   |_=>λ_ _ _ _ _ _=>False)
 |_=>λ_ _ _ _ _ _=>False
def uu(op:eD):aC->I ae->Nat->List (Nat×y)->ca->(y->I ae->Prop)->Prop:=match op with
 | .make a6 D=>(match D with
   | .alloc t=>λC h b _ _ R=>q (nB C t (fQ undef) b) λr=>fO C h b r.1 r.2 R
   | .box _ x=>λC h b aa B R=>cp a6 aa B x λa=>tb C h b a R
   | .buildSlice t len parts=>λC h b aa B R=>mI a6 aa B parts.toList λbH=>q (sy C t len bH b) λr=>fO C h b r.1 r.2 R
   | .makeMap _ none=>λC h b _ _ R=>fO C h b (.map b) (.map [] 0) R
   |_=>λ_ _ _ _ _ _=>False)
 |_=>λ_ _ _ _ _ _=>False
def t2(rd:Bool)(op:eD):aC->I ae->Nat->List (Nat×y)->ca->bh->bh->Prop:=match op with
 | .st n a v=>λC h j aa B R _=>eB a aa B λa=>eB v aa B λv=>q (bj C h n a v) λh=>R undef h j
 | .call f args=>λC h j aa B R af=>rp aa B args λg=>aN C f g h j R af
 | .cB a6 D=>(match D with
   | .mapUpdate t m o x=>λC h j aa B R _=>cp a6 aa B m λa=>cp a6 aa B o λb=>cp a6 aa B x λc=>dA (pg C h j t a b c) h j R
   | .insert t m o x=>λC h j aa B R _=>cp a6 aa B m λa=>cp a6 aa B o λb=>cp a6 aa B x λc=>dA (pg C h j t a b c) h j R
   | .mapEntry t m o=>λC h j aa B R _=>cp a6 aa B m λa=>cp a6 aa B o λb=>dA (pM C t fu eP h j (n2 a b)) h j R
   | .entryStore _ m s x=>λC h j aa B R _=>cp a6 aa B m λa=>cp a6 aa B s λb=>cp a6 aa B x λc=>dA (pJ C fu eP lr h j (AY a b c)) h j R
   | .makeSlice t k c=>λC h j aa B R _=>cp a6 aa B k λa=>cp a6 aa B c λb=>dA (pL C t fu eP h j (n2 a b)) h j R
   | .makeMap t (some r)=>λC h j aa B R _=>cp a6 aa B r λa=>dA (pK C t fu h j (fQ a)) h j R
   | .convert s d x=>λC h j aa B R _=>cp a6 aa B x λa=>dA (pP C s d fu h j (fQ a)) h j R
   | .range t x=>λC h j aa B R _=>cp a6 aa B x λa=>dA (pO C t fu h j (fQ a)) h j R
   | .next w p=>λC h j aa B R _=>cp a6 aa B w λa=>tT (pN C fu p h j (fQ a)) h j R
   | .panic x=>λ_ h j aa B _ af=>aT rd False (cp a6 aa B x λa=>sf af a h j)
   | .call c=>λC h j aa B R af=>(match c with
     |⟨.value f,args,_⟩=>cp a6 aa B f λi=>iE a6 aa B args.toList λg=>lb C i g h j R af
     |⟨.builtin b,args,bw⟩=>iE a6 aa B args.toList λaE=>dA (oI C h j b bw.toList aE) h j R
     |⟨.invoke r name,args,_⟩=>cp a6 aa B r λdB=>iE a6 aa B args.toList λg=>yN C rd dB name g h j R af)
   |_=>λ_ _ _ _ _ _ _=>False)
 |_=>λ_ _ _ _ _ _ _=>False
def uI(rd:Bool)(op:eD)(C:aC)(h:I ae)(j:Nat)(aa:List (Nat×y))(B:ca)(R af:bh):Prop:=match f1 op with
 | .dV=>oQ op C h aa B λv=>R v h j
 | .make=>yE op C h j aa B R
 | .cB=>t2 rd op C h j aa B R af
inductive Spec where
 |no
 |defer (a6:List (Nat×Nat)) (f:Operand) (args:List Operand)
 |recover
def nZ(op:eD):Spec:=match op with
 | .cB a6 D=>(match D with
   | .defer c=>(match c with|⟨.value f,args,_⟩=> .defer a6 f args.toList|_=> .no)
   | .call c=>(match c with|⟨.builtin b,args,_⟩=>(match b,args.toList with| .recover,[]=> .recover|_,_=> .no)|_=> .no)
   |_=> .no)
 |_=> .no
def tr(c:y)(a:List y)(B:ca)(R:ca->Prop):Prop:=match c with
 | .func fn first b=>R (o0 B ⟨.fn fn b,first++a⟩)
 |_=>False
def sn(iG:Option (Option y))(B:ca)(R:y->ca->Prop):Prop:=match iG with
 |none=>False
 |some none=>R .nilIface B
 |some (some N)=>aT B.rc (R .nilIface B) (R N (AF B))
def sE(g:Option (Nat×Bool))(aa:List (Nat×y))(a b:Prop):Prop:=match g with
 |none=>a
 |some (H,c)=>Q (cf aa H) λv=>ag c v a b
def sG(g:Option (Nat×Bool))(aa:List (Nat×y))(b:bh->Prop)(a:bh)(h:I ae)(j:Nat):Prop:=match g with
 |none=>b a
 |some (H,c)=>al a λR=>Q (cf aa H) λv=>ag c v (b R) (R undef h j)
def vj(g:Option (Nat×Bool))(aa:List (Nat×y))(b:(y->I ae->Prop)->Prop)(a:y->I ae->Prop)(h:I ae):Prop:=match g with
 |none=>b a
 |some (H,c)=>ck a λR=>Q (cf aa H) λv=>ag c v (b R) (R undef h)
def vk(g:Option (Nat×Bool))(aa:List (Nat×y))(b:Prop->Prop)(a:Prop):Prop:=match g with
 |none=>b a
 |some (H,c)=>t8 a λR=>Q (cf aa H) λv=>ag c v (b R) R
def A9(g:Option (Nat×Bool))(aa:List (Nat×y))(b:bh->Prop)(a:bh)(h:I ae)(j:Nat):sG g aa b a h j=sE g aa (b a) (a undef h j):=by
 cases g with
 |none=>rfl
 |some p=>exact G4 _ _
def LA(g:Option (Nat×Bool))(aa:List (Nat×y))(b:(y->I ae->Prop)->Prop)(a:y->I ae->Prop)(h:I ae):vj g aa b a h=sE g aa (b a) (a undef h):=by
 cases g with
 |none=>rfl
 |some p=>exact G2 _ _
def LB(g:Option (Nat×Bool))(aa:List (Nat×y))(b:Prop->Prop)(a:Prop):vk g aa b a=sE g aa (b a) a:=by
 cases g with
 |none=>rfl
 |some p=>exact G3 _ _
def pF(k:List (Nat×Nat)):List (Nat×y)->ca->(ca->Prop)->Prop:=
 List.rec (motive:=λ_=>List (Nat×y)->ca->(ca->Prop)->Prop) (λ_ B R=>R B)
  (λp _ V aa B R=>Q (cf aa p.1) λv=>V aa (K B p.2 v) R) k
def mP(C:aC)(aV:je)(fin:List (Nat×Nat))(R:db)(af:iM)(rest:List cE):List (Nat×y)->ca->I ae->Nat->Prop:=
 List.rec (motive:=λ_=>List (Nat×y)->ca->I ae->Nat->Prop) (λaa B h j=>pF fin aa B λB=>R B h j)
  (λx _ V aa B h j=>match nZ x.op with
   | .no=>sG x.g aa (λR=>uI aV.rd x.op C h j aa B R (af B)) (λv h j=>V ((x.i,v)::aa) B h j) h j
   | .defer a6 f args=>aT (x.g.isNone&&aV.aA) (cp a6 aa B f λb=>iE a6 aa B args λa=>tr b a B λB=>V ((x.i,undef)::aa) B h j) False
   | .recover=>aT (x.g.isNone&& !aV.rd) (sn aV.iG B λv B=>V ((x.i,v)::aa) B h j) False) rest
def rU(C:aC)(base:Nat)(B:ca)(k:List cE):List (Nat×y)->I ae->(List (Nat×y)->I ae->Prop)->Prop:=
 List.rec (motive:=λ_=>List (Nat×y)->I ae->(List (Nat×y)->I ae->Prop)->Prop) (λaa h R=>R aa h)
  (λx _ V aa h R=>vj x.g aa (λH=>match f1 x.op with
   | .make=>uu x.op C h (base+x.i) aa B H
   |_=>oQ x.op C h aa B λv=>H v h) (λv h=>V ((x.i,v)::aa) h R) h) k
structure eR(x:y)(D:Option y)(R:Prop):Prop where
 out:Q D λN=>y.same 30 x N=true/\R
def uS(C:aC)(B:ca)(aa:List (Nat×y))(h:I ae)(k:List cE):Prop->Prop:=
 List.rec (motive:=λ_=>Prop->Prop) (λR=>R) (λx _ V R=>vk x.g aa (λL=>oQ x.op C h aa B λv=>eR v (cf aa x.i) L) (V R)) k
def tu(C:aC)(rd:Bool)(base:Nat)(fin:List (Nat×Nat))(B:ca)(R:db)(af:bh)(fj:List jV):List (Nat×y)->I ae->Nat->Prop:=
 List.rec (motive:=λ_=>List (Nat×y)->I ae->Nat->Prop) (λ_ _ _=>False)
  (λs _ V aa h j=>rU C base B s.iX aa h λaa h=>uS C B aa h s.uR (match s.cB with
   |none=>pF fin aa B λB=>R B h j
   |some e=>sG e.g aa (λR=>t2 rd e.op C h j aa B R af) (λv h j=>V ((e.i,v)::aa) h j) h j)) fj
structure cC(body:db->db)(B:ca)(h:I ae)(j:Nat):Prop where
 out:∃a:Nat->db,(∃m,a m B h j)/\∀m B h j,a m B h j->body (λB h j=>∃b,b<m/\a b B h j) B h j
def np(id:Nat)(R:db)(l:Nat->db):Nat->db:=λa=>aT (Nat.beq id a) R (l a)
def tE(D:Operand)(B:ca)(R:y->Prop):Prop:=cp [] [] B D R
def Jy(C:aC)(n ac:Nat)(aV:je)(af:iM)(ad:Array Oper)(a:Bool)(R:db):db:=λB h j=>Bool.rec (motive:=λ_=>Prop)
 (Q (qf C n ad ac) λr=>mP C aV r.fin R (λB=>af (ed (dstsOf ad.toList) B)) r.rest [] B h j)
 (Q (qc C n ad ac) λr=>dx (j+ad.size) λar=>tu C aV.rd j r.fin B R (af (ed (dstsOf ad.toList) B)) r.fj [] h ar) a
def o5(n:Nat):List Nat->List y->ca->(ca->Prop)->Prop
 |[],[],B,R=>R B
 |p::bH,a::b,B,R=>aT (Nat.blt p n) (o5 n bH b (K B p a) R) False
 |_,_,_,_=>False
structure Em(C:aC)(k:Nat)(mk:LoopState->Option Code->ae)(h:I ae)(o:Prop):Prop where
 here:J C h k=some (mk .ready none)
 go:o
structure rl(C:aC)(k:Nat)(mk:LoopState->Option Code->ae)(st:LoopState)(p:Option Code)(b:Bool)(R:bh)(h:I ae)(j:Nat):Prop where
 here:∃c a,J C h k=some (mk c a)
 go:R (.bool b) (aS C h k (some (mk st p))) j
abbrev qI:=je->iM->db->(Nat->db)->db->db
def mB:je:=⟨true,false,none⟩
def iH(C:aC)(a aB:qI)(k:Nat)(mk:LoopState->Option Code->ae)(R af:bh):db:=λB h j=>
 a mB (λ_=>af) (λB h j=>Em C k mk h (aB mB (λ_=>af) (λ_ h j=>rl C k mk .ready none true R h j) (λid _ h j=>rl C k mk .done (some (.exit id)) false R h j)
   (λ_ h j=>rl C k mk .done (some .ret) false R h j) B (aS C h k (some (mk .busy none))) j)) (λ_ _ _ _=>False) (λ_ _ _=>False) B h j
def Ac(p:Option Code)(R:db)(l:Nat->db)(r:db):db:=match p with
 |none=>R
 |some c=>(match c with| .exit id=>l id| .ret=>r|_=>λ_ _ _=>False)
def jz(B:ca)(j:Nat):ca:=o0 B ⟨.collected j,[]⟩
structure nU(C:aC)(n:Nat)(d:y)(params:List Nat)(dj:Nat->(LoopState->Option Code->ae)->bh->bh->db)(R:db)(l:Nat->db)(r:db)(af:iM)(B:ca)(h:I ae)(j:Nat):Prop where
 low:C.aP<=j
 out:match d with
  | .func fn first c=>(match fn with
    | .func g=>∀mk:LoopState->Option Code->ae,
       (∀args E ar a b,J C E (j+1)=some (mk .ready none)->o5 n params args B (λiN=>dj (j+1) mk a b iN E ar)->l0 C (j+1) args E ar a b)->
       jb C g (first++[.func (.yield (j+1)) [] []]++c) (aS C (aS C h j (some (.deferred (some [])))) (j+1) (some (mk .ready none))) (j+2)
        (λ_ E ar=>∃st p,st≠ .busy/\J C E (j+1)=some (mk st p)/\Ac p R l r (jz B j) (aS C E (j+1) (some (mk .exhausted p))) ar)
        (af (jz B j))
    |_=>False)
  |_=>False
def kN(C:aC)(n ac:Nat)(c:Code):qI:=
 Code.rec (motive:=λ_=>qI)
  (λ_ _ R _ _=>R)
  (λ_ ad d aV af R _ _=>Jy C n ac aV af ad d R)
  (λ_ _ b a aV af R l r=>b aV af (a aV af R l r) l r)
  (λc _ _ b a aV af R l r B h j=>tE c B λv=>av R λR=>aD v (b aV af R l r B h j) (a aV af R l r B h j))
  (λid _ a aV af R l r B h j=>av R λR=>a aV af R (np id R l) r B h j)
  (λ_ a aV af _ l r=>cC λg=>a aV af g l r)
  (λf params _ _ b a aV af R l r B h j=>aT aV.aA (tE f B λi=>nU C n i params.toList (iH C b a) R l r af B h j) False)
  (λid _ _ _ l _=>l id)
  (λ_ a aV af R l r=>a aV af R l r)
  (λ_ _ _ R _ _=>R)
  (λ_ _ _ _ _ _ _ _ _=>False)
  (λ_ _ _ _ r=>r)
  (λ_ _ _ _ _ _ _ _ _=>False) c
def i7(C:aC)(h:I ae)(B:ca)(k:List ResultVar):(List y->Prop)->Prop:=
 List.rec (motive:=λ_=>(List y->Prop)->Prop) (λR=>R [])
  (λx _ V R=>ResultVar.rec (motive:=λ_=>Prop) (λt=>Q (B t) λv=>V λr=>R (v::r)) (λa t=>Q (B a) λp=>q (iO C h t p) λv=>V λr=>R (v::r)) x) k
def bR(k:List y):ca:=⟨λn=>hS k n,[],false⟩
structure q9(C:aC)(fn:Fn)(a:List y)(iG:Option y)(h:I ae)(j:Nat)(bn:Bool->I ae->Nat->Prop):Prop where
 out:match fn with
  | .func f=>C.dy f a=none/\(∃fn c,C.P.funcs[f]? =some fn/\fn.body=some c)/\Bl C f a iG h j bn
  |_=>False
structure r5(C:aC)(r:Nat)(h:I ae)(o:Prop):Prop where
 low:C.aP<=r
 here:J C h r=some (.deferred (some []))
 go:o
def hW(C:aC)(a:List ResultVar)(bn:bh)(B:ca)(ds:List dM):I ae->Nat->Prop:=
 List.rec (motive:=λ_=>I ae->Nat->Prop) (λh j=>i7 C h B a λaE=>bn (one aE) h j)
  (λd _ V h j=>match d.target with
   | .collected r=>r5 C r h (V (aS C h r (some (.deferred none))) j)
   | .fn fn cap=>q9 C fn (d.args++cap) none h j λ_ h j=>V h j) ds
def kn(C:aC)(a:List ResultVar)(bn dj:bh)(B:ca)(N:y):List dM->I ae->Nat->Prop
 |[],h,j=>dj N h j
 |d::ds,h,j=>match d.target with
   | .collected r=>r5 C r h (kn C a bn dj B N ds (aS C h r (some (.deferred none))) j)
   | .fn fn cap=>q9 C fn (d.args++cap) (some N) h j λb h j=>aT b (hW C a bn B ds h j) (kn C a bn dj B N ds h j)
def oT:je:=⟨false,false,none⟩
def lm:je:=⟨false,true,none⟩
def ns(C:aC)(f:Nat)(args:List y)(h:I ae)(j:Nat)(bn dj:bh):Prop:=match C.P.funcs[f]? with
 |some fn=>(match fn.body with
  |some c=>kN C fn.ntmps (Nat.lor (ft c) (hV fn.results.toList)) c lm (λB N h j=>kn C fn.results.toList bn dj B N B.aA h j) (λB h j=>hW C fn.results.toList bn B B.aA h j) (λ_ _ _ _=>False)
    (λB h j=>hW C fn.results.toList bn B B.aA h j) (bR args) h j
  |none=>False)
 |none=>False
def co(C:aC)(f:Nat)(args:List y)(h:I ae)(j:Nat)(bn dj:bh):Prop:=match C.P.funcs[f]? with
 |some fn=>(match fn.body with
  |some c=>kN C fn.ntmps (Nat.lor (ft c) (hV fn.results.toList)) c oT (λ_=>dj) (λB h j=>i7 C h B fn.results.toList λaE=>bn (one aE) h j) (λ_ _ _ _=>False)
    (λB h j=>i7 C h B fn.results.toList λaE=>bn (one aE) h j) (bR args) h j
  |none=>False)
 |none=>False
def cb(C:aC)(f a:Nat):Bool:=match C.P.funcs[f]? with
 |some fn=>(match fn.body with
  |some c=>Nat.ble a fn.ntmps&&fC C (Nat.lor (ft c) (hV fn.results.toList)) c&&lx (Nat.lor (ft c) (hV fn.results.toList)) fn.results.toList
  |none=>false)
 |none=>false
end
end Go.S

