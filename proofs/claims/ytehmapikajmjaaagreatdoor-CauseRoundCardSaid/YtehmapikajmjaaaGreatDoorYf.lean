/- Part of the proof of the last text; no conditions -/
import Derived.Test.YtehmapikajmjaaaGreatDoorYe
import Derived.LaidLaws
set_option maxHeartbeats 8000000
set_option linter.all false
namespace Go.aF
noncomputable section
open Go.RowKit (Below)
def tS:List (String×Nat)->String->Option Nat
 |[],_=>none|(a,R)::l,s=>ba (a==s) (some R) (tS l s)
def wU(P:Program)(nm:List (String×Nat))(t:Nat)(d:DataW Unit)(n:Nat):mF:=match P.underlying t,d with
 |some (.interface _),.iface s (.ptr a)=>(match tS nm s with
  |some R=>(match P.underlying R with
   |some (.pointer _)=>(match m7 P 39 R (.ptr a) n with
    |some ([x],ap,os)=>some ([.iface R x],ap,os)|_=>none)
   |_=>none)
  |none=>none)
 |_,_=>m7 P 40 t d n
def ei(P:Program)(nm:List (String×Nat)):List (String×DataW Unit)->Nat->Nat×List (Nat×S)
 |[],n=>(n,[])|(v,d)::r,n=>match P.globalNamed v with
  |some g=>(match P.globals[g]? with
   |some a=>(match wU P nm a.type d n with
    |some (l,ap,os)=>ba (Nat.blt 0 l.length) (match ei P nm r ap with|(aw,b)=>(aw,(g,tl l)::(os++b))) (ei P nm r n)|none=>ei P nm r n)
   |none=>ei P nm r n)
  |none=>ei P nm r n
def oD(P:Program)(nm:List (String×Nat)):Prop:=∀x∈nm,∀R,P.typeName? 3 R=some x.1->R=x.2
section
variable{C:al}{P:Program}{w:World}
def Oc{s:String}{R:Nat}:∀{l:List (String×Nat)},tS l s=some R->(s,R)∈l:=by intro l;induction l with|nil=>intro h;simp[tS]at h|cons x l U=>intro h;simp only[tS]at h;rw[cY]at h;grind
def Sj{nm:List (String×Nat)}(A:oD P nm){t:Nat}{d:DataW Unit}{n:Nat}{r:List z×Nat×List (Nat×S)}(h:wU P nm t d n=some r){V:Nat}{cs:List Value}{b4:List MemPlace}(K:rd P w V t cs=some (d,b4))(i:l2 w b4)
 (G:∀R v,cs=[.iface R v]->Value.okWide P w .any 0 R v):Lays C w n cs r:=by
 unfold wU at h;split at h
 ·rename_i T2 s T0 ag;split at h
  ·rename_i R L;split at h
   ·rename_i e c;split at h
    ·rename_i x ap os m;simp at h;subst h;obtain⟨k,X,v,rfl,p,b⟩:=iface_of_trod ag K;obtain rfl:=A _ (Oc L) X p;obtain⟨T1,a,b1,T3,g,_,_,_⟩:=ptr_of_trod c b;have ok:=G _ _ rfl;have N:v=.pointer (some a):=(by unfold Value.okWide at ok;unfold Cell.okWide at ok;cases v<;>simp[Value.cells,Cell.ok,c]at ok g;subst g;rfl);have l:=Gy (C:=C) 39 k _ _ _ _ m _ _ b i;obtain⟨aL,bt,f,a3⟩:=l;refine⟨aL,bt,f,λF Q O=> ?_⟩;obtain⟨bV,b0,j⟩:=a3 F Q O;refine⟨?_,⟨b0.1,trivial⟩,j⟩;subst N;have e:Value.pointer (some a)=aq F x:=(by simp[Value.cells,bf]at bV;exact bV);simp only[bf,aq,e]
    ·simp at h
   ·simp at h
  ·simp at h
 ·exact Gy (w:=w) 40 V _ _ _ _ h cs b4 K i
def Gx{nm:List (String×Nat)}(U9:oD P nm){i2:Nat}:∀(laid:List (String×DataW Unit)) (n:Nat) (b4:List MemPlace),P.globals.size=i2->DataW.LaidVars P w laid b4->l2 w b4->
 (∀b off,MemPlace.cell b off∈b4->∀R v,w.cell? ⟨b,off,none⟩=some (.iface R v)->Value.okWide P w .any 0 R v)->Cg C w i2 n (ei P nm laid n):=by
 intro laid;induction laid with
 |nil=>intro n b4 _ _ _ _;exact⟨Zg _,by simp[ei],λ_=>default,λF Q _ _=>by simp[ei]⟩|cons a r U=>
  obtain⟨v0,d⟩:=a;intro n b4 T5 U7 N T3;obtain⟨g,t,cs,fuel,p,V,f,T6,T7,ai,K,rfl⟩:=U7;have T8:=N.of λo L=>Zp.2 (.inr L);have T4:=λb off W=>T3 b off (Zp.2 (.inr W));have skip:ei P nm ((v0,d)::r) n=ei P nm r n->Cg C w i2 n (ei P nm ((v0,d)::r) n):=λe=>by rw[e];exact U n V T5 K T8 T4
  simp only[Yn]at T6;obtain⟨U3,A,rfl⟩:=T6;have G:g<i2:=by grind
  have UA:∀R v,cs.toList=[.iface R v]->Value.okWide P w .any 0 R v:=by intro R v T2;obtain⟨ty,TY,W⟩:=IE f T7;have UD:cs.size=1:=(by have:=congrArg List.length T2;simpa using this);refine T3 g 0 (Zp.2 (.inl (Zp.2 (.inl (xz (a:=⟨g,0,none⟩) (k:=cs.size) Zo))))) R v ?_;have U4:cs[0]? =some (.iface R v):=(by rw[<-Z2,T2];rfl);simp[World.cell?,W,U4]
  cases m:wU P nm U3.type d n with
  |none=>exact skip (by simp[ei,f,A,m])|some UG=>
   obtain⟨l,ap,os⟩:=UG;by_cases UB:0<l.length
   ·have U8:ei P nm ((v0,d)::r) n=((ei P nm r ap).1,(g,tl l)::(os++(ei P nm r ap).2)):=by
     have:Nat.blt 0 l.length=true:=by simp;omega
     simp[ei,f,A,m,this]
    obtain⟨aL,bt,U1,a3⟩:=Sj (C:=C) (w:=w) U9 m (cs:=cs.toList) (b4:=p) ai (N.of λo L=>Zp.2 (.inl (Zp.2 (.inr L)))) UA;obtain⟨bc,bp,U2,bG⟩:=U ap V T5 K T8 T4;have aL:=aL;rw[U8];refine⟨ZE aL bc, ?_,λb=>if b<ap then U1 b else U2 b, ?_⟩
    ·intro x c;rcases Zq.1 c with rfl|c
     ·exact⟨.inl G,.inl G,Bq l⟩
     ·rcases Zp.1 c with V|V
      ·obtain⟨O,X,T0⟩:=bt x V;exact⟨.inr O,.inr (ZV X bc),T0⟩
      ·obtain⟨O,X,T0⟩:=bp x V;exact⟨O.imp id (λh=>ZE aL h),X,T0⟩
    ·intro F Q T9 T1;obtain⟨bV,b0,TZ⟩:=a3 F Q (λb i j=>by
      have U6:=j;have:=T9 b i (ZV j bc);simp only[Zv U6]at this;exact this)
     have U0:=bG F Q (λb i j=>by
      have U5:=zH.2 i;have:=T9 b (ZE aL i) j;simp only[Zi U5]at this;exact this) T1
     intro x c;rcases Zq.1 c with rfl|c
     ·obtain⟨UF,UI⟩:=T1 g G;obtain⟨ty,TY,W⟩:=IE f T7;have UD:cs.size=l.length:=(by have:=congrArg List.length bV;rw[fI]at this;simpa using this);obtain⟨UH,eu,s⟩:=N g 0 (Zp.2 (.inl (Zp.2 (.inl (xz (a:=⟨g,0,none⟩) (k:=cs.size) Zo)))));rw[W]at s;have UC:TY=(0,0):=(by simp only[Zh,Obj.cells.injEq]at s;exact s.2.2);rw[UC]at W;simp only[UF];refine BK (pl:=⟨g,0,0⟩) W ?_ b0 UB;simp only[Yk];rw[Zy Zx];exact bV
     ·rcases Zp.1 c with V|V
      ·exact TZ x V
      ·exact U0 x V
   ·exact skip (by
     have UE:l.length=0:=Zo
     have:Nat.blt 0 l.length=false:=by rw[UE];rfl
     simp[ei,f,A,m,this])
def AT{nm:List (String×Nat)}(l:oD P nm){laid:List (String×DataW Unit)}{eC:Nat->List z->Option z}(h:laidMet P laid w):
 ∃F Q,bW ⟨P,hX (ei P nm laid P.globals.size).2 .nil,(ei P nm laid P.globals.size).1,eC,P.globals.size⟩ F Q .nil (ei P nm laid P.globals.size).1 w.heap.size w/\
  kT ⟨P,hX (ei P nm laid P.globals.size).2 .nil,(ei P nm laid P.globals.size).1,eC,P.globals.size⟩ F Q:=by
 obtain⟨b4,k,_,i⟩:=h;have m:=λb off W=>(i b off W).1;obtain⟨aL,bt,f,a3⟩:=Gx (C:=⟨P,hX (ei P nm laid P.globals.size).2 .nil,(ei P nm laid P.globals.size).1,eC,P.globals.size⟩) l laid P.globals.size b4 rfl k m (λb off W=>(i b off W).2);generalize s:ei P nm laid P.globals.size=r at aL bt a3 ⊢;obtain⟨aB,os⟩:=r;have e:∀b I,H ⟨P,hX os .nil,aB,eC,P.globals.size⟩ .nil b=some I->(b,I)∈os/\b<aB:=by
  intro b I a;unfold H at a;rw[cY]at a;split at a
  ·rename_i W;rcases BN b I os .nil a with V|V
   ·grind
   ·simp_all
  ·simp_all
 refine⟨λb=>if b<P.globals.size then⟨b,0,0⟩else f b,λb=>b<aB,⟨Zg _,λ_ h=>h,λb I a=>(e b I a).2, ?_, ?_, ?_, ?_⟩, ?_⟩
 ·intro b I a _;have:=a3 (λb=>if b<P.globals.size then⟨b,0,0⟩else f b) (λb=>b<aB) (λb p j=>⟨by rw[Zi Zo],j⟩) (λg c=>⟨by rw[Zv c],Zo⟩) (b,I) (e b I a).1;exact this
 ·intro b n I dG _ _ d _ _ W;exact absurd d (zH.2 W)
 ·intro b I W _ d;exact absurd d (zH.2 W)
 ·intro b I a _;exact(bt (b,I) (e b I a).1).2.2 _ _
 ·intro g c;have c:g<P.globals.size:=c;exact⟨Zo,by simp[c],by simp[c]⟩
def Env.R9{nm:List (String×Nat)}(l:oD P nm){laid:List (String×DataW Unit)}{bm:Nat}{fn:Func}(ge:nx P)(j:tF P w)(i:P.funcs[bm]? =some fn)(k:(fn.name== "runtime.NumGoroutine")=false)(W:fn.body=none)(b:Extern.findNext fn=none)
 (d:Extern.find fn=some Extern.BytealgIndexByte.indexByte)(h:laidMet P laid w):
 ∃F Q,Env ⟨P,hX (ei P nm laid P.globals.size).2 .nil,(ei P nm laid P.globals.size).1,n4 bm,P.globals.size⟩ w F Q:=by
 obtain⟨F,Q,e,g⟩:=AT l h;refine⟨F,Q,ge,⟨λf args v a=> ?_,λf args v a F w _=> .inl (ξ i k W b d a F w)⟩,e,g,j⟩;obtain⟨rfl,s,c,rfl,rfl,m,n⟩:=Hx a;exact⟨⟨λ_ _=>rfl,λ_=>trivial⟩,λ_ _=>rfl,λ_=>⟨m,trivial,trivial⟩⟩
end
open Go.RowKit (Below)
def n3(bm:Nat)(I:Nat->List z->Option z)(f:Nat)(args:List z):Option z:=
 ba (Nat.beq f bm) (match args with
  |[.str s]=>ba (nB s&&Nat.ble s.length 281474976710656) (some (.str s)) none|_=>none) (I f args)
section
variable{P:Program}{w:World}
def Hw{bm f:Nat}{I:Nat->List z->Option z}{args:List z}{v:z}(h:n3 bm I f args=some v):
 (f=bm/\∃s,args=[.str s]/\v=.str s/\(∀x∈s,x<256)/\s.length<=281474976710656)\/I f args=some v:=by
 unfold n3 at h;rw[ee]at h;split at h
 ·rename_i e;split at h
  ·rename_i s;simp only[cO,Zu,Zh]at h;exact .inl ⟨e,s,rfl,h.2.symm,yG h.1.1,e7 h.1.2⟩
  ·grind
 ·grind
def Env.R8{nm:List (String×Nat)}(r:oD P nm){laid:List (String×DataW Unit)}{I:Nat->List z->Option z}{bm:Nat}{fn:Func}{c:Code}(m:P.funcs[bm]? =some fn)(t:(fn.name== "runtime.NumGoroutine")=false)(W:fn.body=some c)
 (k:∀(s:ByteArray) (w:World),s.size<=281474976710656->Calls P bm #[.string s] w λe a2=>e=.returned (.string s)/\Below w.heap.size w a2)(h:laidMet P laid w){cv:bX}{cw:Nat->Prop}
 (b:Env ⟨P,hX (ei P nm laid P.globals.size).2 .nil,(ei P nm laid P.globals.size).1,I,P.globals.size⟩ w cv cw):
 ∃F Q,Env ⟨P,hX (ei P nm laid P.globals.size).2 .nil,(ei P nm laid P.globals.size).1,n3 bm I,P.globals.size⟩ w F Q:=by
 obtain⟨F,Q,i,j⟩:=AT r h;refine⟨F,Q,b.ge,⟨λf args v a=> ?_,λf args v a F g l=> ?_⟩,i,j,b.mem⟩
 ·rcases Hw a with ⟨rfl,s,rfl,rfl,d,_⟩|a
  ·exact⟨⟨λ_ _=>rfl,λ_=>d⟩,λ_ _=>rfl,λ_=>⟨d,trivial⟩⟩
  ·exact b.eC.val f args v a
 ·rcases Hw a with ⟨rfl,s,rfl,rfl,d,n⟩|a
  ·right;have p:¬fn.name= "runtime.NumGoroutine":=(by grind);refine⟨by simp[callFunc,m,p,W], ?_⟩;have:=k (dz s) g (by simpa[dz,ByteArray.size]using n);exact this
  ·exact b.eC.ok f args v a F g l
end
open Go.RowKit (Below)
def H7(C:al):List (Nat×S)->E S->E S
 |[],B=>B|(b,I)::l,B=>H7 C l (aH C B b (some I))
def pick(C:al)(q:E S):List Nat->List (Nat×S)
 |[]=>[]|b::l=>match H C q b with|some I=>(b,I)::pick C q l|none=>pick C q l
def FB(C:al):List Nat->Bool
 |[]=>true|b::l=>eB C b&&FB C l
def RS(C:al)(L:List Nat)(q:E S):E S:=H7 C (pick C q L) .nil
def aao(todo:List co):Bool:=match todo with| .drawn .. ::_=>false|_=>true
def Hm:List d1->Bool
 |[]=>true|c::l=>(match c with|⟨_,_,_,_,todo,_,_,_,_⟩=>(match todo with| .od .. ::_=>false|_=>true))&&Hm l
def wB(C:al)(L:List Nat)(b:eA):eA:=λbh todo bm B q u=>match bm with
 |⟨fn,n,ac,aP,ar,ro,cs⟩=>ba (aao todo&&Hm cs&&FB C L) (b bh todo ⟨fn,n,ac,aP,ar,ro,cs⟩ B (RS C L q) u) none
section
variable{C:al}{F cv:bX}{Q cw:Nat->Prop}{q D:E S}{u aO:Nat}{w:World}
variable{aS:World}{a1:Nat}{bg:List Frame}{v:z}{b:eA}
def ir(C:al)(aS:World)(a1:Nat)(bg:List Frame)(bh:gA)(todo:List co)(bm:ff)(B:E z)(q:E S)(u:Nat)(v:z):Prop:=
 ∀F Q w bQ tmps aQ Y,p1 C aS a1 bg bh todo bm.fn bm.n bm.ac bm.aP bm.ar bm.ro bm.cs B q u F Q w bQ tmps aQ Y->Ends C aS a1 bg v (lone (bD F bm.fn bm.aP bm.ar bm.ro tmps aQ (d5 F bh)) Y w)
open Classical in
def only(pp:gA)(c:List co)(a:ff)(kn:E z)(au:E S)(b:Nat)(v:z):eA:=λbh todo bm B q u=>
 if bh=pp/\todo=c/\bm=a/\B=kn/\q=au/\u=b then some v else none
end
open Go.RowKit (Below)
def low(Q:Nat->Prop)(N:Nat)(b:Nat):Prop:=Q b/\b<N
section
variable{Q:Nat->Prop}{N:Nat}
end
open Go.RowKit (Below)
section
variable{C:al}{F cv:bX}{Q cw:Nat->Prop}{q D:E S}{u aO N:Nat}{w:World}
variable{aS:World}{a1 g:Nat}{bg:List Frame}{v:z}{b:eA}
open Classical in
def dx(C:al)(aS:World)(a1:Nat)(bg:List Frame)(v:z):eA:=λbh todo bm B q u=>if ir C aS a1 bg bh todo bm B q u v then some v else none
def EK:h3 C aS a1 bg (dx C aS a1 bg v):=by
 intro bh todo fn n ac aP ar ro cs B q u R a F Q w bQ tmps aQ Y b;unfold dx at a;split at a
 ·rename_i h;simp at a;subst a;exact h F Q w bQ tmps aQ Y b
 ·cases a
def eU{bh:gA}{todo:List co}{bm:ff}{B:E z}(h:ir C aS a1 bg bh todo bm B q u v):dx C aS a1 bg v bh todo bm B q u=some v:=by unfold dx;rw[Zv h]
def Qn{e:co}{k:List co}{bm:ff}{B:E z}(f:z.same 30 v v=true):∀l:List (z×E S),l≠[]->(∀R D,(R,D)∈l->∃a,iC e R=some a/\ir C aS a1 bg .run (a::k) bm B D u v)->
 qw (dx C aS a1 bg v) e k bm B u l=some v:=by
 intro l;induction l with|nil=>intro h;exact absurd rfl h|cons p l g=>obtain⟨R,D⟩:=p;intro _ d;obtain⟨a,b,c⟩:=d R D (Zr ..);cases l with|nil=>simp only[qw,b];exact eU c|cons V l=>have U:=g Zs (λR D h=>d R D (Zw _ h));simp only[qw,b,eU c];rw[U];simp only[f,cI]
end
open Go.RowKit (Below)
abbrev aY:=z->E S->Nat->Prop
abbrev Za0:=al->z->E S->Nat->aY->aY->Prop
abbrev Za1:=al->z->z->E S->Nat->aY->aY->Prop
abbrev Za2:=al->z->z->z->E S->Nat->aY->aY->Prop
abbrev Za3:=al->z->z->z->z->E S->Nat->aY->aY->Prop
abbrev Za4:=al->z->z->z->z->z->E S->Nat->aY->aY->Prop
abbrev zX:aY:=λ_ _ _=>False
structure bS where
 g:Nat->Option z
 aP:List eD:=[]
 rc:Bool:=false
instance:CoeFun bS (λ_=>Nat->Option z):=⟨bS.g⟩
def J(B:bS)(d:Nat)(v:z):bS:=⟨λn=>ba (Nat.beq d n) (some v) (B.g n),B.aP,B.rc⟩
def eI(l:List Nat)(B:bS):bS:=⟨λn=>ba (gN n l) none (B.g n),B.aP,B.rc⟩
def n6(B:bS)(d:eD):bS:=⟨B.g,d::B.aP,B.rc⟩
def xH(B:bS):bS:=⟨B.g,B.aP,true⟩
abbrev ds:=bS->E S->Nat->Prop
abbrev kY:=bS->aY
structure l3 where
 rd:Bool
 aP:Bool
 f4:Option (Option z)
def bu{α:Type}(I:Option α)(T:α->Prop):Prop:=Option.rec (motive:=λ_=>Prop) False (λa=>T a) I
def μ{α:Type}{I:Option α}{T:α->Prop}{a:α}(h:I=some a)(k:T a):bu I T:=by subst h;exact k
def ll{α:Type}{I:Option α}{T:α->Prop}:bu I T↔∃a,I=some a/\T a:=by cases I with|none=>simp[bu]|some a=>simp[bu]
structure aa{α:Type}(I:Option α)(T:α->Prop):Prop where
 out:bu I T
def ν{α:Type}(I:Option α)(T:α->Prop):aa I T=bu I T:=propext ⟨λh=>h.out,λh=>⟨h⟩⟩
def dg{α:Type}{I:Option α}{T:α->Prop}{a:α}(h:I=some a)(k:T a):aa I T:=⟨μ h k⟩
def gy{α:Type}{I:Option α}{T:α->Prop}:aa I T↔∃a,I=some a/\T a:=by rw[ν];exact ll
def Ol(v:z)(a b:Prop):Prop:=z.rec (motive_1:=λ_=>Prop) (motive_2:=λ_=>Prop)
 (λt=>(t=true->a)/\(t=false->b)) (λ_ _=>False) (λ_=>False) (λ_ _=>False) False (λ_ _ _ _=>False) (λ_ _ _ _=>False) False (λ_=>False) False
 (λ_ _ _ _ _=>False) False (λ_ _ _=>False) False (λ_ _=>False) (λ_ _=>False) (λ_ _ _ _=>False) False (λ_ _ _ _=>False) v
structure av(v:z)(a b:Prop):Prop where
 out:Ol v a b
def E5{v:z}{a b:Prop}(h:av v a b):∃t,v=.bool t/\(t=true->a)/\(t=false->b):=by have h:=h.out;cases v with|bool t=>exact⟨t,rfl,h⟩|_=>exact h.elim
def QV(want:Bool)(v:z)(a b:Prop):Prop:=z.rec (motive_1:=λ_=>Prop) (motive_2:=λ_=>Prop)
 (λt=>(t=want->a)/\(t=(!want)->b)) (λ_ _=>b) (λ_=>b) (λ_ _=>b) b (λ_ _ _ _=>b) (λ_ _ _ _=>b) b (λ_=>b) b
 (λ_ _ _ _ _=>b) b (λ_ _ _=>b) b (λ_ _=>b) (λ_ _=>b) (λ_ _ _ _=>b) b (λ_ _ _ _=>b) v
structure e8(want:Bool)(v:z)(a b:Prop):Prop where
 out:QV want v a b
structure iY(a:aY)(body:aY->Prop):Prop where
 out:body a
def RQ(a:aY)(body:aY->Prop):iY a body=body a:=propext ⟨λh=>h.out,λh=>⟨h⟩⟩
structure aJ(a:ds)(body:ds->Prop):Prop where
 out:body a
structure bT(a:z->Prop)(body:(z->Prop)->Prop):Prop where
 out:body a
structure mi(a:z->E S->Prop)(body:(z->E S->Prop)->Prop):Prop where
 out:body a
def RO(a:z->E S->Prop)(body:(z->E S->Prop)->Prop):mi a body=body a:=propext ⟨λh=>h.out,λh=>⟨h⟩⟩
structure AE(a:Prop)(body:Prop->Prop):Prop where
 out:body a
def RP(a:Prop)(body:Prop->Prop):AE a body=body a:=propext ⟨λh=>h.out,λh=>⟨h⟩⟩
def eO{a:ds}{body:ds->Prop}(b:ds)(c:∀j:ds,(∀B q u,b B q u->j B q u)->body j)(d:∀B q u,b B q u->a B q u):aJ a body:=⟨c a d⟩
structure cU(n:Nat)(T:Nat->Prop):Prop where
 out:T n
structure dQ(C:al)(q:E S)(u:Nat)(v:z)(bU:S)(T:aY):Prop where
 out:T v (aH C q u (some bU)) (u+1)
structure hb(C:al)(q:E S)(b:Nat)(v:z)(bU:S)(T:z->E S->Prop):Prop where
 out:T v (aH C q b (some bU))
structure nF(C:al)(q:E S)(b:Nat)(a:z)(T:z->E S->Prop):Prop where
 out:T (.ptr b 0) (aH C q b (some (.cells (E.ofList a.cells 0 .nil) a.cells.length .own)))
structure eW(C:al)(q:E S)(u:Nat)(a:z)(T:aY):Prop where
 out:T (.ptr u 0) (aH C q u (some (.cells (E.ofList a.cells 0 .nil) a.cells.length .own))) (u+1)
section
variable(C:al)(aS:World)(a1:Nat)(bg:List Frame)(v:z)
def yh(cs:List d1):aY:=λR q u=>lE (dx C aS a1 bg v) false cs R q u=some v
def vI(cs:List d1):aY:=λR q u=>match cs with
 |c::rest=>HU (dx C aS a1 bg v) c rest [⟨R,false⟩] q u=some v|[]=>False
end
def l0(C:al)(f:Nat)(args:List z)(q:E S)(u:Nat)(aI cK:aY):Prop:=
 ∀(aS:World) (cv:bX) (cw:Nat->Prop) (_:Env C aS cv cw) (a1:Nat) (bg:List Frame) (v:z) (_:z.same 30 v v=true) (cs:List d1),
  (∀R D Z,aI R D Z->yh C aS a1 bg v cs R D Z)->(∀R D Z,cK R D Z->vI C aS a1 bg v cs R D Z)->
  iz (dx C aS a1 bg v) C f args false cs q u=some v
def l0.mono{C:al}{f:Nat}{args:List z}{q:E S}{u:Nat}{aI cK a b:aY}(h:l0 C f args q u aI cK)(g:∀R q u,aI R q u->a R q u)(i:∀R q u,cK R q u->b R q u):
 l0 C f args q u a b:=
 λaS cv cw c a1 bg v j cs d e=>h aS cv cw c a1 bg v j cs (λR q u V=>d R q u (g R q u V)) (λR q u V=>e R q u (i R q u V))
def xx(U:eA)(C:al)(l:Nat)(args:List z)(cs:List d1)(q:E S)(u:Nat):cE:=match H C q l with
 |some (.loop _ _ fn n ac a params assign body _)=>(match nh n params args a with
  |some a=>U .run [.code assign,.beginRound,.code body] ⟨fn,n,ac,[],false,some l,cs⟩ a q u|none=>none)
 |_=>none
def mI(C:al)(l:Nat)(args:List z)(q:E S)(u:Nat)(aI cK:aY):Prop:=
 ∀(aS:World) (cv:bX) (cw:Nat->Prop) (_:Env C aS cv cw) (a1:Nat) (bg:List Frame) (v:z) (_:z.same 30 v v=true) (cs:List d1),
  (∀R D Z,aI R D Z->yh C aS a1 bg v cs R D Z)->(∀R D Z,cK R D Z->vI C aS a1 bg v cs R D Z)->
  xx (dx C aS a1 bg v) C l args cs q u=some v
def mI.mono{C:al}{l:Nat}{args:List z}{q:E S}{u:Nat}{aI cK a b:aY}(h:mI C l args q u aI cK)(f:∀R q u,aI R q u->a R q u)(g:∀R q u,cK R q u->b R q u):
 mI C l args q u a b:=
 λaS cv cw c a1 bg v i cs d e=>h aS cv cw c a1 bg v i cs (λR q u V=>d R q u (f R q u V)) (λR q u V=>e R q u (g R q u V))
def Ce(C:al)(f:Nat)(args:List z)(f4:Option z)(q:E S)(u:Nat)(aI:Bool->E S->Nat->Prop):Prop:=
 ∀(aS:World) (cv:bX) (cw:Nat->Prop) (_:Env C aS cv cw) (a1:Nat) (bg:List Frame) (v:z) (_:z.same 30 v v=true) (fn n ac:Nat) (B:E z) (todo:List co) (bb:List eD) (ar:Bool) (ro:Option Nat) (cs:List d1),
  (∀b D Z,aI b D Z->dx C aS a1 bg v (match f4,b with|none,_=> .returning|some _,true=> .returning|some R,false=> .panicking [⟨R,false⟩]) todo ⟨fn,n,ac,bb,ar,ro,cs⟩ B D Z=some v)->
  iz (dx C aS a1 bg v) C f args true (⟨fn,n,ac,B,todo,bb,(match f4 with|none=> .returning|some R=> .panicking [⟨R,false⟩]),ar,ro⟩::cs) q u=some v
structure aD(C:al)(f:Nat)(args:List z)(q:E S)(u:Nat)(T ab:aY):Prop where
 out:(∃R,C.eC f args=some R/\T R q u)\/(C.eC f args=none/\(∃fn c,C.P.funcs[f]? =some fn/\fn.body=some c)/\l0 C f args q u T ab)
structure Bf(C:al)(q:E S)(a:List z)(u:Nat)(T:aY):Prop where
 out:∃D,p7 C q a=some D/\T (.tuple []) D u
structure ek(I:Option ck)(q:E S)(u:Nat)(T:aY):Prop where
 out:match I with
 |some (.val v)=>T v q u|some (.cJ v D Z)=>T v D Z|_=>False
def aaW(I:Option ck)(q:E S)(u:Nat)(T:aY):ek I q u T=(match I with
 |some (.val v)=>T v q u|some (.cJ v D Z)=>T v D Z|_=>False):=propext ⟨λh=>h.out,λh=>⟨h⟩⟩
def xv{I:Option ck}{q:E S}{u:Nat}{T:aY}{v:z}(h:I=some (.val v))(k:T v q u):ek I q u T:=by subst h;exact⟨k⟩
def d8{I:Option ck}{q D:E S}{u Z:Nat}{T:aY}{v:z}(h:I=some (.cJ v D Z))(k:T v D Z):ek I q u T:=by subst h;exact⟨k⟩
structure o5(I:Option ck)(q:E S)(u:Nat)(T:aY):Prop where
 out:match I with
 |some (.val v)=>T v q u|some (.cJ v D Z)=>T v D Z|some (.fork l)=>l≠[]/\∀R D,(R,D)∈l->T R D u|_=>False
def Qp(I:Option ck)(q:E S)(u:Nat)(T:aY):o5 I q u T=(match I with
 |some (.val v)=>T v q u|some (.cJ v D Z)=>T v D Z|some (.fork l)=>l≠[]/\∀R D,(R,D)∈l->T R D u|_=>False):=propext ⟨λh=>h.out,λh=>⟨h⟩⟩
def oO(C:al)(rd:Bool)(I:Option ck)(q:E S)(u:Nat)(T ab:aY):Prop:=match I with
 |some (.val v)=>T v q u|some (.cJ v D Z)=>T v D Z|some (.enter f args)=>l0 C f args q u T ab|some (.round l args)=>mI C l args q u T ab|some (.known _ _ v)=>T v q u|some (.wrote _ _ D)=>T (.tuple []) D u|some (.panic v)=>ba rd False (ab v q u)|some (.fork l)=>l≠[]/\∀R D,(R,D)∈l->T R D u|_=>False
def fK(x:gh)(ad:List (Nat×z))(B:bS)(T:z->Prop):Prop:=
 gh.rec (motive:=λ_=>Prop) (λj=>bu (cL ad j) T) (λn=>bu (B n) T) (λa=>T a) x
def wp(ad:List (Nat×z))(B:bS)(l:List gh):(List z->Prop)->Prop:=
 List.rec (motive:=λ_=>(List z->Prop)->Prop) (λT=>T []) (λx _ U T=>fK x ad B λa=>U λr=>T (a::r)) l
def cV(bk:List (Nat×Nat))(ad:List (Nat×z))(B:bS)(I:Operand)(T:z->Prop):Prop:=match I with
 | .tmp t=>(match cL bk t with|some j=>bu (cL ad j) T|none=>bu (B t) T)| .const v=>bu (ra v) T| .global g=>T (.ptr g 0)| .func f=>T (.func (.func f) [] [])
def lk(bk:List (Nat×Nat))(ad:List (Nat×z))(B:bS)(l:List Operand):(List z->Prop)->Prop:=
 List.rec (motive:=λ_=>(List z->Prop)->Prop) (λT=>T []) (λx _ U T=>cV bk ad B x λa=>U λr=>T (a::r)) l
def pz(bk:List (Nat×Nat))(ad:List (Nat×z))(B:bS)(l:List (Nat×Operand)):(List (Nat×z)->Prop)->Prop:=
 List.rec (motive:=λ_=>(List (Nat×z)->Prop)->Prop) (λT=>T []) (λx _ U T=>cV bk ad B x.2 λa=>U λr=>T ((x.1,a)::r)) l
def xi(bk:List (Nat×Nat))(ad:List (Nat×z))(B:bS)(I:Option Operand)(T:Option z->Prop):Prop:=match I with
 |none=>T none|some x=>cV bk ad B x λa=>T (some a)
def fO:Operand:=.global 0
def dH:Operand:=.global 1
def gd:Operand:=.global 2
def fc(a:z):Operand->Option z:=λ_=>some a
def two(a b:z):Operand->Option z:=λI=>match I with| .global 0=>some a|_=>some b
def Ir(a b c:z):Operand->Option z:=λI=>match I with| .global 0=>some a| .global 1=>some b|_=>some c
def sQ(n aN:Nat)(a i:z):Option z:=match hc i with|some i=>vo n aN a i|none=>none
def c8(aN:Nat)(a i:z):Option z:=match hc i with|some i=>pL aN a i|none=>none
def FS(C:al)(t f:Nat)(a:z):Option z:=uG C t fO f .nil (fc a)
def Fm(C:al)(q:E S)(s d:Nat)(a:z):Option z:=uF C s d fO q (fc a)
def Gi(C:al)(t:Nat)(a:z):Option z:=uH C t fO .nil (fc a)
def EV(C:al)(t:Nat)(ok:Bool)(a:z):Option z:=uE C fO t ok .nil (fc a)
def sA(C:al)(q:E S)(a:z):Option z:=sU C fO q (fc a)
def jn(C:al)(q:E S)(b:Builtin)(bM:List TypeId)(aG:List z):Option z:=match b,aG with
 | .len,[x]=>(match bM with|t::_=>vP C q t x|_=>none)| .cap,[x]=>(match bM with|t::_=>vM C t x|_=>none)| .max,x::l=>h5 true x l| .min,x::l=>h5 false x l|_,_=>none
def cW(C:al)(q:E S)(s:Nat)(a v:z):Option (E S):=match a with
 | .ptr b I=>ba (Nat.beq v.cells.length s&&Nat.blt 0 s) (g5 C q b I v.cells) none|_=>none
def k7(C:al)(q:E S)(u:Nat)(b:Builtin)(bM:List TypeId)(aG:List z):Option ck:=match b,aG with
 | .append,[s,x]=>(match bM with
   |st::eF::_=>(match C.P.underlying eF with
    |some (.int _)=>(match hc x with|some n=>vN C q u st s n|none=>none)|some (.slice _)=>si C q u st s x|some .string=>si C q u st s x|_=>none)
   |_=>none)
 | .clear,[x]=>(match bM with|t::_=>tK C q u t x|_=>none)| .delete,[m,k]=>(match bM with|t::_=>sj C q u t m k|_=>none)|_,_=>none
structure e9(C:al)(c:z)(a:List z)(q:E S)(u:Nat)(T ab:aY):Prop where
 out:match c with
 | .func fn first b=>(match fn with| .func f=>aD C f ((first++a)++b) q u T ab| .yield l=>mI C l (first++a) q u T ab|_=>False)|_=>False
def xK(C:al)(t len:Nat)(b4:List (Nat×z))(b:Nat):Option (z×S):=match C.P.underlying t with
 |some (.slice ct)=>(match fk C ct,kg C ct with
  |some s,some aj=>ba (Nat.ble (len*s) 16777216&&Nat.beq aj.cells.length s) ((match o1 (λi=>some (i*s,s)) (fj len aj.cells) b4 with
    |some cs=>some (z.slice b 0 len len,S.cells (E.ofList cs 0 .nil) cs.length .own)|none=>none))<|none
  |_,_=>none)
 |_=>none
structure ms(ab:aY)(a:z)(q:E S)(u:Nat):Prop where
 out:match a with| .iface t v=>ab (.iface t v) q u|_=>False
def χ(ab:aY)(a:z)(q:E S)(u:Nat):ms ab a q u=(match a with| .iface t v=>ab (.iface t v) q u|_=>False):=propext ⟨λh=>h.out,λh=>⟨h⟩⟩
structure jy(C:al)(rd:Bool)(b:z)(name:String)(a:List z)(q:E S)(u:Nat)(T ab:aY):Prop where
 out:match b with
 | .iface t v=>oO C rd (jl C q t v name a) q u T ab|_=>False
def S5(C:al)(rd:Bool)(b:z)(name:String)(a:List z)(q:E S)(u:Nat)(T ab:aY):jy C rd b name a q u T ab=(match b with
 | .iface t v=>oO C rd (jl C q t v name a) q u T ab|_=>False):=propext ⟨λh=>h.out,λh=>⟨h⟩⟩
def GD(bk:List (Nat×Nat))(I:Op):al->E S->List (Nat×z)->bS->(z->Prop)->Prop:=match I with
 | .build t n=>λC _ ad B T=>pz bk ad B n.toList λb4=>aa (vL C t b4) T| .binOp op t x o _=>λC q ad B T=>cV bk ad B x λa=>cV bk ad B o λb=>aa (b7 C q op t (j4 x||j4 o) a b) T| .unOp op _ x=>λ_ _ ad B T=>cV bk ad B x λa=>aa (dX op a) T| .convert s d x=>λC q ad B T=>cV bk ad B x λa=>aa (Fm C q s d a) T| .makeInterface t x=>λC _ ad B T=>cV bk ad B x λa=>aa (Gi C t a) T| .makeFunc fn first e=>λ_ _ ad B T=>(match fn with
   | .func f=>lk bk ad B first.toList λa=>lk bk ad B e.toList λb=>T (.func (.func f) a b)|_=>False)
 | .slice t x aT ag j=>λC q ad B T=>cV bk ad B x λa=>xi bk ad B aT λl=>xi bk ad B ag λh=>xi bk ad B j λm=>aa (vR C q t a l h m) T| .field t x f=>λC _ ad B T=>cV bk ad B x λa=>aa (FS C t f a) T| .index t x i=>λC _ ad B T=>cV bk ad B x λa=>cV bk ad B i λb=>aa (vO C t a b) T| .lookup t m k ok=>λC q ad B T=>cV bk ad B m λa=>cV bk ad B k λb=>aa (vQ C q t a b ok) T| .typeAssert x _ t ok=>λC _ ad B T=>cV bk ad B x λa=>aa (EV C t ok a) T| .entry g=>λC q ad B T=>cV bk ad B g λa=>aa (sA C q a) T| .call c=>λC q ad B T=>(match c with
   |⟨.builtin b,args,bM⟩=>lk bk ad B args.toList λaG=>aa (jn C q b bM.toList aG) T|_=>False)
 |_=>λ_ _ _ _ _=>False
def sX(op:fT):al->E S->List (Nat×z)->bS->(z->Prop)->Prop:=match op with
 | .q0 x=>λ_ _ ad B T=>fK x ad B T| .pick c a b=>λ_ _ ad B T=>fK c ad B λc=>bT T λT=>av c (fK a ad B T) (fK b ad B T)| .dn a=>λC q ad B T=>fK a ad B λa=>aa (ay C q a) T| .ph n a=>λC q ad B T=>fK a ad B λa=>aa (ca C q n a) T| .off d x=>λ_ _ ad B T=>fK x ad B λa=>aa (es d a) T| .pc n aN x i=>λ_ _ ad B T=>fK x ad B λa=>fK i ad B λi=>aa (sQ n aN a i) T| .pd aN x i=>λ_ _ ad B T=>fK x ad B λa=>fK i ad B λi=>aa (c8 aN a i) T| .q5 x=>λ_ _ ad B T=>fK x ad B λa=>aa (ht a) T| .uy op x o=>λ_ _ ad B T=>fK x ad B λa=>fK o ad B λb=>aa (aK op a b) T| .ext i x=>λ_ _ ad B T=>fK x ad B λa=>aa (hZ i a) T| .eP bk I=>GD bk I|_=>λ_ _ _ _ _=>False
def GP(op:fT):al->E S->Nat->List (Nat×z)->bS->aY->Prop:=match op with
 | .make bk I=>(match I with
   | .alloc t=>λC q b _ _ T=>aa (qV C t (fc undef) b) λr=>dQ C q b r.1 r.2 T| .box _ x=>λC q b ad B T=>cV bk ad B x λa=>eW C q b a T| .buildSlice t len c=>λC q b ad B T=>pz bk ad B c.toList λb4=>aa (xK C t len b4 b) λr=>dQ C q b r.1 r.2 T| .makeMap _ none=>λC q b _ _ T=>dQ C q b (.map b) (.map [] 0) T|_=>λ_ _ _ _ _ _=>False)
 |_=>λ_ _ _ _ _ _=>False
def Be(op:fT):al->E S->Nat->List (Nat×z)->bS->(z->E S->Prop)->Prop:=match op with
 | .make bk I=>(match I with
   | .alloc t=>λC q b _ _ T=>aa (qV C t (fc undef) b) λr=>hb C q b r.1 r.2 T| .box _ x=>λC q b ad B T=>cV bk ad B x λa=>nF C q b a T| .buildSlice t len c=>λC q b ad B T=>pz bk ad B c.toList λb4=>aa (xK C t len b4 b) λr=>hb C q b r.1 r.2 T| .makeMap _ none=>λC q b _ _ T=>hb C q b (.map b) (.map [] 0) T|_=>λ_ _ _ _ _ _=>False)
 |_=>λ_ _ _ _ _ _=>False
def Ax(rd:Bool)(op:fT):al->E S->Nat->List (Nat×z)->bS->aY->aY->Prop:=match op with
 | .st n a v=>λC q u ad B T _=>fK a ad B λa=>fK v ad B λv=>aa (cW C q n a v) λq=>T undef q u| .call f args=>λC q u ad B T ab=>wp ad B args λe=>ba (sO C f) (Bf C q e u T) (aD C f e q u T ab)| .db bk I=>(match I with
   | .mapUpdate t m k x=>λC q u ad B T _=>cV bk ad B m λa=>cV bk ad B k λb=>cV bk ad B x λc=>ek (tL C q u t a b c) q u T| .insert t m k x=>λC q u ad B T _=>cV bk ad B m λa=>cV bk ad B k λb=>cV bk ad B x λc=>ek (tL C q u t a b c) q u T| .mapEntry t m k=>λC q u ad B T _=>cV bk ad B m λa=>cV bk ad B k λb=>ek (ut C t fO dH q u (two a b)) q u T| .entryStore _ m s x=>λC q u ad B T _=>cV bk ad B m λa=>cV bk ad B s λb=>cV bk ad B x λc=>ek (uq C fO dH gd q u (Ir a b c)) q u T| .makeSlice t l c=>λC q u ad B T _=>cV bk ad B l λa=>cV bk ad B c λb=>ek (us C t fO dH q u (two a b)) q u T| .makeMap t (some r)=>λC q u ad B T _=>cV bk ad B r λa=>ek (ur C t fO q u (fc a)) q u T| .convert s d x=>λC q u ad B T _=>cV bk ad B x λa=>ek (uv C s d fO q u (fc a)) q u T| .range t x=>λC q u ad B T _=>cV bk ad B x λa=>ek (uu C t fO q u (fc a)) q u T| .next i h=>λC q u ad B T _=>cV bk ad B i λa=>o5 (jt C fO h q u (fc a)) q u T| .panic x=>λ_ q u ad B _ ab=>ba rd False (cV bk ad B x λa=>ms ab a q u)| .call c=>λC q u ad B T ab=>(match c with
     |⟨.value f,args,_⟩=>cV bk ad B f λg=>lk bk ad B args.toList λe=>e9 C g e q u T ab|⟨.builtin b,args,bM⟩=>lk bk ad B args.toList λaG=>ek (k7 C q u b bM.toList aG) q u T|⟨.invoke r name,args,_⟩=>cV bk ad B r λj=>lk bk ad B args.toList λe=>jy C rd j name e q u T ab)
   |_=>λ_ _ _ _ _ _ _=>False)
 |_=>λ_ _ _ _ _ _ _=>False
def Bt(rd:Bool)(op:fT)(C:al)(q:E S)(u:Nat)(ad:List (Nat×z))(B:bS)(T ab:aY):Prop:=match hF op with
 | .eP=>sX op C q ad B λv=>T v q u| .make=>GP op C q u ad B T| .db=>Ax rd op C q u ad B T ab
inductive Spec where
 |no|defer (bk:List (Nat×Nat)) (f:Operand) (args:List Operand)|recover
def rA(op:fT):Spec:=match op with
 | .db bk I=>(match I with
   | .defer c=>(match c with|⟨.value f,args,_⟩=> .defer bk f args.toList|_=> .no)| .call c=>(match c with|⟨.builtin b,args,_⟩=>(match b,args.toList with| .recover,[]=> .recover|_,_=> .no)|_=> .no)|_=> .no)
 |_=> .no
def t7(c:z)(a:List z)(B:bS)(T:bS->Prop):Prop:=match c with
 | .func fn first b=>T (n6 B ⟨.fn fn b,first++a⟩)|_=>False
def u6(f4:Option (Option z))(B:bS)(T:z->bS->Prop):Prop:=match f4 with
 |none=>False|some none=>T .nilIface B|some (some R)=>ba B.rc (T .nilIface B) (T R (xH B))
def xV(g:Option (Nat×Bool))(ad:List (Nat×z))(a b:Prop):Prop:=match g with
 |none=>a|some (j,want)=>bu (cL ad j) λv=>e8 want v a b
def xX(g:Option (Nat×Bool))(ad:List (Nat×z))(b:aY->Prop)(a:aY)(q:E S)(u:Nat):Prop:=match g with
 |none=>b a|some (j,want)=>iY a λT=>bu (cL ad j) λv=>e8 want v (b T) (T undef q u)
def kI(g:Option (Nat×Bool))(ad:List (Nat×z))(b:(z->E S->Prop)->Prop)(a:z->E S->Prop)(q:E S):Prop:=match g with
 |none=>b a|some (j,want)=>mi a λT=>bu (cL ad j) λv=>e8 want v (b T) (T undef q)
def B5(g:Option (Nat×Bool))(ad:List (Nat×z))(b:Prop->Prop)(a:Prop):Prop:=match g with
 |none=>b a|some (j,want)=>AE a λT=>bu (cL ad j) λv=>e8 want v (b T) T
def IK(g:Option (Nat×Bool))(ad:List (Nat×z))(b:aY->Prop)(a:aY)(q:E S)(u:Nat):xX g ad b a q u=xV g ad (b a) (a undef q u):=by cases g with|none=>rfl|some p=>exact RQ _ _
def adb(g:Option (Nat×Bool))(ad:List (Nat×z))(b:(z->E S->Prop)->Prop)(a:z->E S->Prop)(q:E S):kI g ad b a q=xV g ad (b a) (a undef q):=by cases g with|none=>rfl|some p=>exact RO _ _
def adc(g:Option (Nat×Bool))(ad:List (Nat×z))(b:Prop->Prop)(a:Prop):B5 g ad b a=xV g ad (b a) a:=by cases g with|none=>rfl|some p=>exact RP _ _
def uh(l:List (Nat×Nat)):List (Nat×z)->bS->(bS->Prop)->Prop:=
 List.rec (motive:=λ_=>List (Nat×z)->bS->(bS->Prop)->Prop) (λ_ B T=>T B)
  (λp _ U ad B T=>bu (cL ad p.1) λv=>U ad (J B p.2 v) T) l
def rv(C:al)(bh:l3)(fin:List (Nat×Nat))(T:ds)(ab:kY)(rest:List dd):List (Nat×z)->bS->E S->Nat->Prop:=
 List.rec (motive:=λ_=>List (Nat×z)->bS->E S->Nat->Prop) (λad B q u=>uh fin ad B λB=>T B q u)
  (λx _ U ad B q u=>match rA x.op with
   | .no=>xX x.g ad (λT=>Bt bh.rd x.op C q u ad B T (ab B)) (λv q u=>U ((x.i,v)::ad) B q u) q u| .defer bk f args=>ba (x.g.isNone&&bh.aP) (cV bk ad B f λb=>lk bk ad B args λa=>t7 b a B λB=>U ((x.i,undef)::ad) B q u) False| .recover=>ba (x.g.isNone&& !bh.rd) (u6 bh.f4 B λv B=>U ((x.i,v)::ad) B q u) False) rest
def wX(C:al)(base:Nat)(B:bS)(l:List dd):List (Nat×z)->E S->(List (Nat×z)->E S->Prop)->Prop:=
 List.rec (motive:=λ_=>List (Nat×z)->E S->(List (Nat×z)->E S->Prop)->Prop) (λad q T=>T ad q)
  (λx _ U ad q T=>kI x.g ad (λj=>match hF x.op with
   | .make=>Be x.op C q (base+x.i) ad B j|_=>sX x.op C q ad B λv=>j v q) (λv q=>U ((x.i,v)::ad) q T) q) l
structure d3(x:z)(I:Option z)(T:Prop):Prop where
 out:bu I λR=>z.same 30 x R=true/\T
def BA(C:al)(B:bS)(ad:List (Nat×z))(q:E S)(l:List dd):Prop->Prop:=
 List.rec (motive:=λ_=>Prop->Prop) (λT=>T) (λx _ U T=>B5 x.g ad (λV=>sX x.op C q ad B λv=>d3 v (cL ad x.i) V) (U T)) l
def Ac(C:al)(rd:Bool)(base:Nat)(fin:List (Nat×Nat))(B:bS)(T:ds)(ab:aY)(g1:List mK):List (Nat×z)->E S->Nat->Prop:=
 List.rec (motive:=λ_=>List (Nat×z)->E S->Nat->Prop) (λ_ _ _=>False)
  (λs _ U ad q u=>wX C base B s.lO ad q λad q=>BA C B ad q s.Bz (match s.db with
   |none=>uh fin ad B λB=>T B q u|some h=>xX h.g ad (λT=>Ax rd h.op C q u ad B T ab) (λv q u=>U ((h.i,v)::ad) q u) q u)) g1
structure cF(body:ds->ds)(B:bS)(q:E S)(u:Nat):Prop where
 out:∃a:Nat->ds,(∃m,a m B q u)/\∀m B q u,a m B q u->body (λB q u=>∃b,b<m/\a b B q u) B q u
def qq(id:Nat)(T:ds)(e:Nat->ds):Nat->ds:=λa=>ba (Nat.beq id a) T (e a)
def Ae(I:Operand)(B:bS)(T:z->Prop):Prop:=cV [] [] B I T
def aaS(C:al)(n ac:Nat)(bh:l3)(ab:kY)(ae:Array Oper)(a:Bool)(T:ds):ds:=λB q u=>Bool.rec (motive:=λ_=>Prop)
 (bu (uT C n ae ac) λr=>rv C bh r.fin T (λB=>ab (eI (dstsOf ae.toList) B)) r.rest [] B q u)
 (bu (uS C n ae ac) λr=>cU (u+ae.size) λZ=>Ac C bh.rd u r.fin B T (ab (eI (dstsOf ae.toList) B)) r.g1 [] q Z) a
def to(n:Nat):List Nat->List z->bS->(bS->Prop)->Prop
 |[],[],B,T=>T B|p::b4,a::b,B,T=>ba (Nat.blt p n) (to n b4 b (J B p a) T) False|_,_,_,_=>False
structure Og(C:al)(l:Nat)(mk:LoopState->Option Code->S)(q:E S)(k:Prop):Prop where
 here:H C q l=some (mk .ready none)
 go:k
structure wl(C:al)(l:Nat)(mk:LoopState->Option Code->S)(st:LoopState)(p:Option Code)(b:Bool)(T:aY)(q:E S)(u:Nat):Prop where
 here:∃c a,H C q l=some (mk c a)
 go:T (.bool b) (aH C q l (some (mk st p))) u
abbrev vC:=l3->kY->ds->(Nat->ds)->ds->ds
def pq:l3:=⟨true,false,none⟩
def lo(C:al)(A aO:vC)(l:Nat)(mk:LoopState->Option Code->S)(T ab:aY):ds:=λB q u=>
 A pq (λ_=>ab) (λB q u=>Og C l mk q (aO pq (λ_=>ab) (λ_ q u=>wl C l mk .ready none true T q u) (λid _ q u=>wl C l mk .done (some (.exit id)) false T q u)
   (λ_ q u=>wl C l mk .done (some .ret) false T q u) B (aH C q l (some (mk .busy none))) u)) (λ_ _ _ _=>False) (λ_ _ _=>False) B q u
def HK(p:Option Code)(T:ds)(e:Nat->ds)(r:ds):ds:=match p with
 |none=>T|some c=>(match c with| .exit id=>e id| .ret=>r|_=>λ_ _ _=>False)
def nY(B:bS)(u:Nat):bS:=n6 B ⟨.collected u,[]⟩
structure rs(C:al)(n:Nat)(d:z)(params:List Nat)(cK:Nat->(LoopState->Option Code->S)->aY->aY->ds)(T:ds)(e:Nat->ds)(r:ds)(ab:kY)(B:bS)(q:E S)(u:Nat):Prop where
 low:C.aB<=u
 out:match d with
  | .func fn first c=>(match fn with
    | .func g=>∀mk:LoopState->Option Code->S,
       (∀args D Z a b,H C D (u+1)=some (mk .ready none)->to n params args B (λkn=>cK (u+1) mk a b kn D Z)->mI C (u+1) args D Z a b)->
       l0 C g (first++[.func (.yield (u+1)) [] []]++c) (aH C (aH C q u (some (.deferred (some [])))) (u+1) (some (mk .ready none))) (u+2)
        (λ_ D Z=>∃st p,st≠ .busy/\H C D (u+1)=some (mk st p)/\HK p T e r (nY B u) (aH C D (u+1) (some (mk .exhausted p))) Z)
        (ab (nY B u))
    |_=>False)
  |_=>False
def mT(C:al)(n ac:Nat)(c:Code):vC:=
 Code.rec (motive:=λ_=>vC)
  (λ_ _ T _ _=>T)
  (λ_ ae d bh ab T _ _=>aaS C n ac bh ab ae d T)
  (λ_ _ b a bh ab T e r=>b bh ab (a bh ab T e r) e r)
  (λc _ _ b a bh ab T e r B q u=>Ae c B λv=>aJ T λT=>av v (b bh ab T e r B q u) (a bh ab T e r B q u))
  (λid _ a bh ab T e r B q u=>aJ T λT=>a bh ab T (qq id T e) r B q u)
  (λ_ a bh ab _ e r=>cF λg=>a bh ab g e r)
  (λf params _ _ b a bh ab T e r B q u=>ba bh.aP (Ae f B λh=>rs C n h params.toList (lo C b a) T e r ab B q u) False)
  (λid _ _ _ e _=>e id)
  (λ_ a bh ab T e r=>a bh ab T e r)
  (λ_ _ _ T _ _=>T)
  (λ_ _ _ _ _ _ _ _ _=>False)
  (λ_ _ _ _ r=>r)
  (λ_ _ _ _ _ _ _ _ _=>False) c
def kc(C:al)(q:E S)(B:bS)(l:List ResultVar):(List z->Prop)->Prop:=
 List.rec (motive:=λ_=>(List z->Prop)->Prop) (λT=>T [])
  (λx _ U T=>ResultVar.rec (motive:=λ_=>Prop) (λt=>bu (B t) λv=>U λr=>T (v::r)) (λa t=>bu (B a) λp=>aa (g4 C q t p) λv=>U λr=>T (v::r)) x) l
def bN(l:List z):bS:=⟨λn=>kF l n,[],false⟩
structure lI(C:al)(fn:Fn)(a:List z)(f4:Option z)(q:E S)(u:Nat)(aI:Bool->E S->Nat->Prop):Prop where
 out:match fn with
  | .func f=>C.eC f a=none/\(∃fn c,C.P.funcs[f]? =some fn/\fn.body=some c)/\Ce C f a f4 q u aI|_=>False
structure Ho(C:al)(r:Nat)(q:E S)(k:Prop):Prop where
 low:C.aB<=r
 here:H C q r=some (.deferred (some []))
 go:k
def ig(C:al)(a:List ResultVar)(aI:aY)(B:bS)(bb:List eD):E S->Nat->Prop:=
 List.rec (motive:=λ_=>E S->Nat->Prop) (λq u=>kc C q B a λaG=>aI (one aG) q u)
  (λd _ U q u=>match d.target with
   | .collected r=>Ho C r q (U (aH C q r (some (.deferred none))) u)| .fn fn cap=>lI C fn (d.args++cap) none q u λ_ q u=>U q u) bb
def nb(C:al)(a:List ResultVar)(aI cK:aY)(B:bS)(R:z):List eD->E S->Nat->Prop
 |[],q,u=>cK R q u|d::bb,q,u=>match d.target with
   | .collected r=>Ho C r q (nb C a aI cK B R bb (aH C q r (some (.deferred none))) u)| .fn fn cap=>lI C fn (d.args++cap) (some R) q u λb q u=>ba b (ig C a aI B bb q u) (nb C a aI cK B R bb q u)
def s3:l3:=⟨false,false,none⟩
def pp:l3:=⟨false,true,none⟩
def o2(C:al)(f:Nat)(args:List z)(q:E S)(u:Nat)(aI cK:aY):Prop:=match C.P.funcs[f]? with
 |some fn=>(match fn.body with
  |some c=>mT C fn.ntmps (Nat.lor (gY c) (kb fn.results.toList)) c pp (λB R q u=>nb C fn.results.toList aI cK B R B.aP q u) (λB q u=>ig C fn.results.toList aI B B.aP q u) (λ_ _ _ _=>False)
    (λB q u=>ig C fn.results.toList aI B B.aP q u) (bN args) q u
  |none=>False)
 |none=>False
def nT(C:al)(f:Nat)(args:List z)(f4:Option z)(q:E S)(u:Nat)(aI:Bool->E S->Nat->Prop):Prop:=match C.P.funcs[f]? with
 |some fn=>(match fn.body with
  |some c=>mT C fn.ntmps (Nat.lor (gY c) (kb fn.results.toList)) c ⟨false,false,some f4⟩ (λ_ _ _ _=>False) (λB q u=>kc C q B fn.results.toList λ_=>aI B.rc q u) (λ_ _ _ _=>False)
    (λB q u=>kc C q B fn.results.toList λ_=>aI B.rc q u) (bN args) q u
  |none=>False)
 |none=>False
def bP(C:al)(f:Nat)(args:List z)(q:E S)(u:Nat)(aI cK:aY):Prop:=match C.P.funcs[f]? with
 |some fn=>(match fn.body with
  |some c=>mT C fn.ntmps (Nat.lor (gY c) (kb fn.results.toList)) c s3 (λ_=>cK) (λB q u=>kc C q B fn.results.toList λaG=>aI (one aG) q u) (λ_ _ _ _=>False)
    (λB q u=>kc C q B fn.results.toList λaG=>aI (one aG) q u) (bN args) q u
  |none=>False)
 |none=>False
def bJ(C:al)(f a:Nat):Bool:=match C.P.funcs[f]? with
 |some fn=>(match fn.body with
  |some c=>Nat.ble a fn.ntmps&&g7 C (Nat.lor (gY c) (kb fn.results.toList)) c&&n7 (Nat.lor (gY c) (kb fn.results.toList)) fn.results.toList|none=>false)
 |none=>false
def dV(z1:al)(z2:Nat)(z3:List z)(GE:E S->Nat->aY->aY->Prop):Prop:=bJ z1 z2 z3.length=true/\bP z1 z2 z3=GE
open Go.RowKit (Below)
def eo(B:bS)(t:E z):Prop:=∀n v,B.g n=some v->t.get n=some v
section
variable{C:al}{q:E S}{u:Nat}{ad:List (Nat×z)}{B:bS}{t:E z}
def iA(h:eo B t){x:gh}{T:z->Prop}(b:fK x ad B T):∃a,gJ x ad t=some a/\T a:=by
 cases x with
 |v j=>exact ll.1 b|t n=>obtain⟨a,d,e⟩:=ll.1 (show bu (B n) T from b);exact⟨a,h n a d,e⟩
 |c a=>exact⟨a,rfl,b⟩
def P1(h:eo B t):∀{l:List gh}{T:List z->Prop},wp ad B l T->∃c,oY ad t l=some c/\T c:=by intro l;induction l with|nil=>intro T b;exact⟨[],rfl,b⟩|cons x l U=>intro T b;obtain⟨a,d,e⟩:=iA h (show fK x ad B (λa=>wp ad B l λr=>T (a::r)) from b);obtain⟨r,f,g⟩:=U e;exact⟨a::r,by simp[oY,d,f],g⟩
def ey(h:eo B t){bk:List (Nat×Nat)}{I:Operand}{T:z->Prop}(b:cV bk ad B I T):∃a,fA bk ad t I=some a/\T a:=by
 cases I with
 |tmp n=>
  simp only[cV]at b;simp only[fA];cases c:cL bk n with
  |some j=>simp only[c]at b ⊢;exact ll.1 b|none=>simp only[c]at b ⊢;obtain⟨a,d,e⟩:=ll.1 b;exact⟨a,h n a d,e⟩
 |const v=>exact ll.1 b|global g=>exact⟨_,rfl,b⟩|func f=>exact⟨_,rfl,b⟩
def rj(h:eo B t){bk:List (Nat×Nat)}:∀{l:List Operand}{T:List z->Prop},lk bk ad B l T->∃c,jZ (fA bk ad t) l=some c/\T c:=by intro l;induction l with|nil=>intro T b;exact⟨[],rfl,b⟩|cons x l U=>intro T b;obtain⟨a,d,e⟩:=ey h (show cV bk ad B x (λa=>lk bk ad B l λr=>T (a::r)) from b);obtain⟨r,f,g⟩:=U e;exact⟨a::r,by simp[jZ,d,f],g⟩
def Bw(h:eo B t){bk:List (Nat×Nat)}:∀{l:List (Nat×Operand)}{T:List (Nat×z)->Prop},pz bk ad B l T->∃c,nO (fA bk ad t) l=some c/\T c:=by intro l;induction l with|nil=>intro T b;exact⟨[],rfl,b⟩|cons x l U=>intro T b;obtain⟨i,I⟩:=x;obtain⟨a,d,e⟩:=ey h (show cV bk ad B I (λa=>pz bk ad B l λr=>T ((i,a)::r)) from b);obtain⟨r,f,g⟩:=U e;exact⟨(i,a)::r,by simp[nO,d,f],g⟩
def Br(h:eo B t){bk:List (Nat×Nat)}{I:Option Operand}{T:Option z->Prop}(b:xi bk ad B I T):∃a,py (fA bk ad t) I=some a/\T a:=by cases I with|none=>exact⟨none,rfl,b⟩|some x=>obtain⟨a,c,d⟩:=ey h (show cV bk ad B x (λa=>T (some a)) from b);exact⟨some a,by simp[py,c],d⟩
def Su(h:eo B t){bk:List (Nat×Nat)}{I:Op}{T:z->Prop}(r:GD bk I C q ad B T):∃v,iw I C q (fA bk ad t)=some v/\T v:=by
 cases I with
 |build ty X=>obtain⟨b4,g,j⟩:=Bw h (show pz bk ad B X.toList _ from r);obtain⟨v,n,p⟩:=(gy.1 j);exact⟨v,by simp[iw,AL,g,n],p⟩
 |binOp op ty x o T3=>obtain⟨a,g,j⟩:=ey h (show cV bk ad B x _ from r);obtain⟨b,n,p⟩:=ey h j;obtain⟨v,w,A⟩:=(gy.1 p);exact⟨v,by simp[iw,wT,g,n,w],A⟩
 |unOp op ty x=>obtain⟨a,g,j⟩:=ey h (show cV bk ad B x _ from r);obtain⟨v,n,p⟩:=(gy.1 j);exact⟨v,by simp[iw,AS,g,n],p⟩
 |convert s d x=>obtain⟨a,g,j⟩:=ey h (show cV bk ad B x _ from r);obtain⟨v,n,p⟩:=(gy.1 j);exact⟨v,by simpa[iw,uF,Fm,fc,g]using n,p⟩
 |makeInterface ty x=>obtain⟨a,g,j⟩:=ey h (show cV bk ad B x _ from r);obtain⟨v,n,p⟩:=(gy.1 j);exact⟨v,by simpa[iw,uH,Gi,fc,g]using n,p⟩
 |makeFunc fn first T1=>
  cases fn with
  |func f=>obtain⟨a,g,j⟩:=rj h (show lk bk ad B first.toList _ from r);obtain⟨b,n,p⟩:=rj h j;exact⟨_,by simp[iw,AO,g,n],p⟩
  |_=>exact r.elim
 |slice ty x aT ag T2=>obtain⟨a,g,j⟩:=ey h (show cV bk ad B x _ from r);obtain⟨l,n,p⟩:=Br h j;obtain⟨b,w,A⟩:=Br h p;obtain⟨m,L,N⟩:=Br h A;obtain⟨v,O,G⟩:=(gy.1 N);exact⟨v,by simp[iw,AR,g,n,w,L,O],G⟩
 |field ty x f=>obtain⟨a,g,j⟩:=ey h (show cV bk ad B x _ from r);obtain⟨v,n,p⟩:=(gy.1 j);exact⟨v,by simpa[iw,uG,FS,fc,g]using n,p⟩
 |index ty x i=>obtain⟨a,g,j⟩:=ey h (show cV bk ad B x _ from r);obtain⟨b,n,p⟩:=ey h j;obtain⟨v,w,A⟩:=(gy.1 p);exact⟨v,by simp[iw,AP,g,n,w],A⟩
 |lookup ty m k ok=>obtain⟨a,g,j⟩:=ey h (show cV bk ad B m _ from r);obtain⟨b,n,p⟩:=ey h j;obtain⟨v,w,A⟩:=(gy.1 p);exact⟨v,by simp[iw,AQ,g,n,w],A⟩
 |typeAssert x ty T0 ok=>obtain⟨a,g,j⟩:=ey h (show cV bk ad B x _ from r);obtain⟨v,n,p⟩:=(gy.1 j);exact⟨v,by simpa[iw,uE,EV,fc,g]using n,p⟩
 |entry P=>obtain⟨a,g,j⟩:=ey h (show cV bk ad B P _ from r);obtain⟨v,n,p⟩:=(gy.1 j);exact⟨v,by simpa[iw,sU,sA,fc,g]using n,p⟩
 |call c=>
  obtain⟨callee,args,bM⟩:=c;cases callee with
  |builtin b=>
   obtain⟨aG,g,j⟩:=rj h (show lk bk ad B args.toList _ from r);obtain⟨v,n,p⟩:=(gy.1 j);refine⟨v, ?_,p⟩;have e:iw (.call ⟨.builtin b,args,bM⟩) C q (fA bk ad t)=jn C q b bM.toList aG:=by
    simp only[iw,AN,AM,g,jn]
    repeat' split
    all_goals first|rfl|simp_all
   rw[e];exact n
  |_=>exact r.elim
 |_=>exact r.elim
def wV(h:eo B t){op:fT}{T:z->Prop}(k:sX op C q ad B T):∃v,d6 op C q ad t=some v/\T v:=by
 cases op with
 |q0 x=>exact iA h k|pick c a b=>
  obtain⟨w,g,e⟩:=iA h (show fK c ad B _ from k);obtain⟨s,rfl,j,f⟩:=E5 e.out;cases s with
  |true=>obtain⟨v,l,m⟩:=iA h (j rfl);exact⟨v,by simp[d6,g,x1,l],m⟩
  |false=>obtain⟨v,l,m⟩:=iA h (f rfl);exact⟨v,by simp[d6,g,x1,l],m⟩
 |dn a=>obtain⟨p,g,e⟩:=iA h (show fK a ad B _ from k);obtain⟨v,j,f⟩:=(gy.1 e);exact⟨v,by simp[d6,g,j],f⟩
 |ph n a=>obtain⟨p,g,e⟩:=iA h (show fK a ad B _ from k);obtain⟨v,j,f⟩:=(gy.1 e);exact⟨v,by simp[d6,g,j],f⟩
 |off d x=>obtain⟨p,g,e⟩:=iA h (show fK x ad B _ from k);obtain⟨v,j,f⟩:=(gy.1 e);exact⟨v,by simp[d6,g,j],f⟩
 |pc n aN x i=>obtain⟨p,g,e⟩:=iA h (show fK x ad B _ from k);obtain⟨r,j,f⟩:=iA h e;obtain⟨v,l,m⟩:=(gy.1 f);exact⟨v,by simp only[d6];unfold sQ at l;cases ag:hc r<;>simp_all,m⟩
 |pd aN x i=>obtain⟨p,g,e⟩:=iA h (show fK x ad B _ from k);obtain⟨r,j,f⟩:=iA h e;obtain⟨v,l,m⟩:=(gy.1 f);exact⟨v,by simp only[d6];unfold c8 at l;cases ag:hc r<;>simp_all,m⟩
 |q5 x=>obtain⟨p,g,e⟩:=iA h (show fK x ad B _ from k);obtain⟨v,j,f⟩:=(gy.1 e);exact⟨v,by simp[d6,g,j],f⟩
 |uy op x o=>obtain⟨p,g,e⟩:=iA h (show fK x ad B _ from k);obtain⟨r,j,f⟩:=iA h e;obtain⟨v,l,m⟩:=(gy.1 f);exact⟨v,by simp[d6,g,j,l],m⟩
 |ext i x=>obtain⟨p,g,e⟩:=iA h (show fK x ad B _ from k);obtain⟨v,j,f⟩:=(gy.1 e);exact⟨v,by simp[d6,g,j],f⟩
 |eP bk I=>exact Su h k|_=>exact k.elim
def SU(h:eo B t){op:fT}{b:Nat}{T:aY}(c:GP op C q b ad B T):∃v bU,iB op C b ad t=some (v,bU)/\T v (aH C q b (some bU)) (b+1):=by
 cases op with
 |make bk I=>
  cases I with
  |alloc ty=>obtain⟨⟨v,bU⟩,d,e⟩:=gy.1 (show aa (qV C ty (fc undef) b) _ from c);exact⟨v,bU,d,e.out⟩
  |box ty x=>obtain⟨a,d,e⟩:=ey h (show cV bk ad B x _ from c);exact⟨_,_,by simp only[iB,jS,uM,d],e.out⟩
  |buildSlice ty len j=>
   obtain⟨b4,d,e⟩:=Bw h (show pz bk ad B j.toList _ from c);obtain⟨⟨v,bU⟩,f,g⟩:=(gy.1 e);refine⟨v,bU, ?_,g.out⟩;simp only[iB,jS,uN,d];unfold xK at f;split at f
   ·rename_i i;simp only[i];exact f
   ·cases f
  |makeMap ty r=>
   cases r with
   |none=>exact⟨_,_,rfl,(show dQ C q b _ _ T from c).out⟩|some r=>exact c.elim
  |_=>exact c.elim
 |_=>exact c.elim
def SR(h:eo B t){op:fT}{b:Nat}{T:z->E S->Prop}(c:Be op C q b ad B T):∃v bU,iB op C b ad t=some (v,bU)/\T v (aH C q b (some bU)):=by
 cases op with
 |make bk I=>
  cases I with
  |alloc ty=>obtain⟨⟨v,bU⟩,d,e⟩:=gy.1 (show aa (qV C ty (fc undef) b) _ from c);exact⟨v,bU,d,e.out⟩
  |box ty x=>obtain⟨a,d,e⟩:=ey h (show cV bk ad B x _ from c);exact⟨_,_,by simp only[iB,jS,uM,d],e.out⟩
  |buildSlice ty len i=>obtain⟨b4,d,e⟩:=Bw h (show pz bk ad B i.toList _ from c);obtain⟨⟨v,bU⟩,f,g⟩:=(gy.1 e);refine⟨v,bU, ?_,g.out⟩;simp only[iB,jS,uN,d];unfold xK at f;grind
  |makeMap ty r=>
   cases r with
   |none=>exact⟨_,_,rfl,(show hb C q b _ _ T from c).out⟩|some r=>exact c.elim
  |_=>exact c.elim
 |_=>exact c.elim
def yS{rd:Bool}{f:Nat}{a:List z}{T ab:aY}(h:aD C f a q u T ab):∃r,hi C f a=some r/\oO C rd (some r) q u T ab:=by
 rcases h.out with ⟨R,b,d⟩|⟨b,⟨fn,c,d,e⟩,g⟩
 ·exact⟨.known f a R,by simp[hi,b],d⟩
 ·exact⟨.enter f a,by simp[hi,b,d,e],g⟩
def n8{rd:Bool}{I:Option ck}{T ab:aY}(h:ek I q u T):∃r,I=some r/\oO C rd (some r) q u T ab:=by
 rw[aaW]at h;split at h
 ·exact⟨_,rfl,h⟩
 ·exact⟨_,rfl,h⟩
 ·grind
def Qo{rd:Bool}{I:Option ck}{T ab:aY}(h:o5 I q u T):∃r,I=some r/\oO C rd (some r) q u T ab:=by
 rw[Qp]at h;split at h
 ·exact⟨_,rfl,h⟩
 ·exact⟨_,rfl,h⟩
 ·exact⟨_,rfl,h⟩
 ·grind
def Gc(h:eo B t){rd:Bool}{op:fT}{T ab:aY}(G:Ax rd op C q u ad B T ab):∃r,eE op C q u ad t=some r/\oO C rd (some r) q u T ab:=by
 cases op with
 |st n a v=>
  obtain⟨T4,j,g⟩:=iA h (show fK a ad B _ from G);obtain⟨T8,p,i⟩:=iA h g;obtain⟨D,L,N⟩:=(gy.1 i);refine⟨.cJ undef D u, ?_,N⟩;simp only[eE,j,p];unfold cW at L;split at L
  ·simp only[cO]at L;simp[xM,L.2,L.1]
  ·cases L
 |call f args=>
  obtain⟨O,j,g⟩:=P1 h (show wp ad B args _ from G);cases P:sO C f with
  |true=>rw[P]at g;obtain⟨D,p,i⟩:=(show Bf C q O u T from g).out;exact⟨.wrote f O D,by simp[eE,j,P,p],i⟩
  |false=>rw[P]at g;obtain⟨r,p,i⟩:=yS (rd:=rd) (show aD C f O q u T ab from g);exact⟨r,by simp[eE,j,p,P],i⟩
 |db bk I=>
  cases I with
  |mapUpdate ty m k x=>obtain⟨a,j,g⟩:=ey h (show cV bk ad B m _ from G);obtain⟨b,p,i⟩:=ey h g;obtain⟨c,L,N⟩:=ey h i;obtain⟨r,w,A⟩:=n8 (C:=C) (ab:=ab) (rd:=rd) N;exact⟨r,by simp[eE,h4,sL,j,p,L,w],A⟩
  |insert ty m k x=>obtain⟨a,j,g⟩:=ey h (show cV bk ad B m _ from G);obtain⟨b,p,i⟩:=ey h g;obtain⟨c,L,N⟩:=ey h i;obtain⟨r,w,A⟩:=n8 (C:=C) (ab:=ab) (rd:=rd) N;exact⟨r,by simp[eE,h4,sL,j,p,L,w],A⟩
  |mapEntry ty m k=>obtain⟨a,j,g⟩:=ey h (show cV bk ad B m _ from G);obtain⟨b,p,i⟩:=ey h g;obtain⟨r,w,A⟩:=n8 (C:=C) (ab:=ab) (rd:=rd) i;exact⟨r,by simpa[eE,h4,ut,two,Go.aF.fO,Go.aF.dH,j,p]using w,A⟩
  |entryStore ty m s x=>obtain⟨a,j,g⟩:=ey h (show cV bk ad B m _ from G);obtain⟨b,p,i⟩:=ey h g;obtain⟨c,L,N⟩:=ey h i;obtain⟨r,w,A⟩:=n8 (C:=C) (ab:=ab) (rd:=rd) N;exact⟨r,by simpa[eE,h4,uq,Ir,Go.aF.fO,Go.aF.dH,Go.aF.gd,j,p,L]using w,A⟩
  |makeSlice ty l c=>obtain⟨a,j,g⟩:=ey h (show cV bk ad B l _ from G);obtain⟨b,p,i⟩:=ey h g;obtain⟨r,w,A⟩:=n8 (C:=C) (ab:=ab) (rd:=rd) i;exact⟨r,by simpa[eE,h4,us,two,Go.aF.fO,Go.aF.dH,j,p]using w,A⟩
  |makeMap ty T1=>
   cases T1 with
   |none=>exact G.elim|some x=>obtain⟨a,j,g⟩:=ey h (show cV bk ad B x _ from G);obtain⟨r,w,A⟩:=n8 (C:=C) (ab:=ab) (rd:=rd) g;exact⟨r,by simpa[eE,h4,ur,fc,j]using w,A⟩
  |convert s d x=>obtain⟨a,j,g⟩:=ey h (show cV bk ad B x _ from G);obtain⟨r,w,A⟩:=n8 (C:=C) (ab:=ab) (rd:=rd) g;exact⟨r,by simpa[eE,h4,uv,fc,j]using w,A⟩
  |range ty x=>obtain⟨a,j,g⟩:=ey h (show cV bk ad B x _ from G);obtain⟨r,w,A⟩:=n8 (C:=C) (ab:=ab) (rd:=rd) g;exact⟨r,by simpa[eE,h4,uu,fc,j]using w,A⟩
  |next T0 T6=>obtain⟨a,j,g⟩:=ey h (show cV bk ad B T0 _ from G);obtain⟨r,w,A⟩:=Qo (C:=C) (ab:=ab) (rd:=rd) g;exact⟨r,by simpa[eE,h4,jt,fc,j]using w,A⟩
  |panic x=>
   cases rd with
   |true=>exact(show False from G).elim|false=>
    obtain⟨a,j,g⟩:=ey h (show cV bk ad B x _ from G);rw[χ]at g;split at g
    ·rename_i T2 T3;exact⟨.panic (.iface T2 T3),by simp[eE,h4,Aw,j],g⟩
    ·exact g.elim
  |call c=>
   obtain⟨callee,args,bM⟩:=c;cases callee with
   |value f=>
    obtain⟨T5,j,g⟩:=ey h (show cV bk ad B f _ from G);obtain⟨O,p,i⟩:=rj h g;have i:=i.out;split at i
    ·split at i
     ·obtain⟨r,L,N⟩:=yS (rd:=rd) i;exact⟨r,by simp[eE,h4,qA,j,p,oK];simpa using L,N⟩
     ·exact⟨.round _ _,by simp only[eE,h4,qA,j,p,oK],i⟩
     ·exact i.elim
    ·exact i.elim
   |builtin b=>obtain⟨aG,j,g⟩:=rj h (show lk bk ad B args.toList _ from G);obtain⟨r,w,A⟩:=n8 (C:=C) (ab:=ab) (rd:=rd) g;refine⟨r, ?_,A⟩;have e:∀r,k7 C q u b bM.toList aG=some r->eE (.db bk (.call ⟨.builtin b,args,bM⟩)) C q u ad t=some r:=(by intro r K;simp only[eE,h4,qA,uo,j];unfold k7 at K;split at K;all_goals first|exact K|cases K);exact e r w
   |invoke x name=>
    obtain⟨T7,j,g⟩:=ey h (show cV bk ad B x _ from G);obtain⟨O,p,i⟩:=rj h g;rw[S5]at i;split at i
    ·cases X:jl C q _ _ name O with|none=>rw[X]at i;exact i.elim|some r=>rw[X]at i;exact⟨r,by simp[eE,h4,qA,j,p,X],i⟩
    ·exact i.elim
  |_=>exact G.elim
 |_=>exact G.elim
def QW{want:Bool}{v:z}{a b:Prop}(h:e8 want v a b):∃w,(match v with| .bool b=>some (b==want)|_=>some false)=some w/\(w=true->a)/\(w=false->b):=by
 have h:=h.out;cases v with
 |bool t=>obtain⟨c,d⟩:=h;cases t<;>cases want<;>simp_all
 |_=>exact⟨false,rfl,Zs,λ_=>h⟩
def xW{g:Option (Nat×Bool)}{a b:Prop}(h:xV g ad a b):∃w,jJ g ad=some w/\(w=true->a)/\(w=false->b):=by cases g with|none=>exact⟨true,rfl,λ_=>h,Zs⟩|some p=>obtain⟨j,want⟩:=p;obtain⟨v,c,d⟩:=ll.1 (show bu (cL ad j) _ from h);obtain⟨w,e,f⟩:=QW d;exact⟨w,by simp only[jJ,c];exact e,f⟩
def H8(h:eo B t)(d:Nat)(v:z):eo (J B d v) (t.set d (some v)):=by
 intro n R a;have a:=(show ba (Nat.beq d n) (some v) (B.g n)=some R from a);rw[ee]at a;rw[E.e0];split at a
 ·grind
 ·rename_i e;rw[Zi e];exact h n R a
def FT:∀{l:List (Nat×Nat)}{B:bS}{t:E z}{T:bS->Prop},eo B t->uh l ad B T->∃a eu,nS ad l t=some eu/\eo a eu/\(a.aP=B.aP/\a.rc=B.rc)/\T a:=by intro l;induction l with|nil=>intro B t T h b;exact⟨B,t,rfl,h,⟨rfl,rfl⟩,b⟩|cons p l U=>intro B t T h b;obtain⟨i,d⟩:=p;obtain⟨v,c,e⟩:=ll.1 (show bu (cL ad i) (λv=>uh l ad (J B d v) T) from b);obtain⟨a,eu,f,g,j⟩:=U (H8 h d v) e;exact⟨a,eu,by simp[nS,c,f],g,j⟩
def abZ{op:fT}{bk:List (Nat×Nat)}{f:Operand}{args:List Operand}(h:rA op=.defer bk f args):∃c:Array Operand×Array TypeId,args=c.1.toList/\op=.db bk (.defer ⟨.value f,c.1,c.2⟩):=by
 unfold rA at h;split at h
 ·split at h
  ·split at h
   ·simp_all
   ·cases h
  ·split at h
   ·grind
   ·cases h
  ·cases h
 ·cases h
def ab0{op:fT}(h:rA op=.recover):∃bk bM args,op=.db bk (.call ⟨.builtin .recover,args,bM⟩)/\args.toList=[]:=by unfold rA at h;grind
def aaZ(h:eo B t):∀{l:List ResultVar}{T:List z->Prop},kc C q B l T->∃aG,nf C q t l=some aG/\T aG:=by
 intro l;induction l with
 |nil=>intro T b;exact⟨[],rfl,b⟩|cons x l U=>
  intro T b;cases x with
  |tmp n=>obtain⟨v,c,d⟩:=ll.1 (show bu (B n) (λv=>kc C q B l λr=>T (v::r)) from b);obtain⟨r,e,f⟩:=U d;exact⟨v::r,by simp[nf,h n v c,e],f⟩
  |cell a ty=>obtain⟨p,c,d⟩:=ll.1 (show bu (B a) (λp=>aa (g4 C q ty p) λv=>kc C q B l λr=>T (v::r)) from b);obtain⟨v,e,f⟩:=(gy.1 d);obtain⟨r,g,i⟩:=U f;exact⟨v::r,by simp[nf,h a p c,e,g],i⟩
def Sw(h:eo B t){base:Nat}:∀{l:List dd}{ad:List (Nat×z)}{q:E S}{T:List (Nat×z)->E S->Prop},wX C base B l ad q T->∃f D,nK C base t l ad q=some (f,D)/\T f D:=by
 intro l;induction l with
 |nil=>intro ad q T e;exact⟨ad,q,rfl,e⟩|cons x l U=>
  intro ad q T e;obtain⟨w,g,i,k⟩:=xW ((adb ..).mp (show kI x.g ad (λj=>match hF x.op with
   | .make=>Be x.op C q (base+x.i) ad B j|_=>sX x.op C q ad B λv=>j v q) (λv q=>wX C base B l ((x.i,v)::ad) q T) q from e))
  simp only[nK,g];cases w with
  |false=>grind|true=>
   have a:=i rfl;cases d:hF x.op with
   |make=>simp only[d]at a;obtain⟨v,bU,b,c⟩:=SR h a;simp_all
   |eP=>simp only[d]at a;obtain⟨v,b,c⟩:=wV h a;grind
   |db=>simp only[d]at a;obtain⟨v,b,c⟩:=wV h a;simp only[b];exact U c
def aaN(h:eo B t):∀{l:List dd}{T:Prop},BA C B ad q l T->qm C t ad q l=true/\T:=by intro l;induction l with|nil=>intro T a;exact⟨rfl,a⟩|cons x l U=>intro T a;obtain⟨w,b,c,e⟩:=xW ((adc ..).mp (show B5 x.g ad (λV=>sX x.op C q ad B λv=>d3 v (cL ad x.i) V) (BA C B ad q l T) from a));simp only[qm,b];cases w with|false=>grind|true=>obtain⟨v,f,d⟩:=wV h (c rfl);obtain⟨R,g,i,j⟩:=ll.1 d.out;grind
variable{cv:bX}{cw:Nat->Prop}{aS:World}{a1:Nat}{bg:List Frame}{v:z}
variable{fn n ac:Nat}{bh:l3}{ar:Bool}{ro:Option Nat}{cs b1:List d1}
def gt(a:Env C aS cv cw){bh:gA}{todo:List co}{bm:ff}{B:E z}{q:E S}{u:Nat}(h:BU (dx C aS a1 bg v) C bh todo bm B q u=some v):ir C aS a1 bg bh todo bm B q u v:=
 λF Q w bQ tmps aQ Y b=>Ii a EK _ _ _ _ _ _ _ _ _ _ _ _ v h F Q w bQ tmps aQ Y b
def dr(bh:l3)(fn n ac:Nat)(ar:Bool)(ro:Option Nat)(cs b1:List d1)(B:bS):ff:=⟨fn,n,ac,ba bh.aP B.aP [],ar,ro,ba B.rc b1 cs⟩
structure oC(bh:l3)(ar:Bool)(ro:Option Nat)(cs b1:List d1):Prop where
 rd:bh.rd=false->ro=none
 aP:bh.aP=true->ro=none
 none:bh.f4=some none->b1=cs/\pJ ar cs=some (.nilIface,cs)
 some:∀R,bh.f4=some (some R)->pJ ar cs=some (R,b1)/\pJ ar b1=some (.nilIface,b1)
def adD{U:eA}{C:al}{l:Nat}{args:List z}{a:co}{k:List co}{bm:ff}{B:E z}{q:E S}{u:Nat}:jm (.round l args) U C a k bm B q u=xx U C l args (rF a k bm B) q u:=rfl
def Fx{B:bS}{t:E z}(h:eo B t)(l:List Nat):eo (eI l B) (mW l t):=by
 intro n v b;rw[wg];by_cases a:n∈l
 ·simp[eI,uQ,a]at b
 ·simp[eI,uQ,a]at b;rw[Zi a];exact h n v b
def yK{a b:Nat}(h:a<=b):Nat.ble a b=true:=by simp_all
def EI(e:z.same 30 v v=true)(d:oC bh ar ro cs b1){b:co}{k:List co}{a:bS}{B:E z}{q:E S}{u:Nat}{T ab:aY}(i:Env C aS cv cw)
 (j:∀R q u,T R q u->∃c,iC b R=some c/\ir C aS a1 bg .run (c::k) (dr bh fn n ac ar ro cs b1 a) B q u v)
 (g:∀R q u todo,ab R q u->ir C aS a1 bg (.panicking [⟨R,false⟩]) todo (dr bh fn n ac ar ro cs b1 a) (mV (b::k) B) q u v){r:ck}(h:oO C bh.rd (some r) q u T ab):
 jm r (dx C aS a1 bg v) C b k (dr bh fn n ac ar ro cs b1 a) B q u=some v:=by
 have fill:∀R q u,T R q u->(match iC b R with|some c=>dx C aS a1 bg v .run (c::k) (dr bh fn n ac ar ro cs b1 a) B q u|none=>none)=some v:=by intro R q u s;obtain⟨c,m,p⟩:=j R q u s;rw[m];exact eU p
 cases r with
 |val R=>exact fill R q u h|cJ R D Z=>exact fill R D Z h|enter f args=>
  refine h aS cv cw i a1 bg v e (rF b k (dr bh fn n ac ar ro cs b1 a) B) (λR D Z V=> ?_) (λR D Z V=> ?_)
  ·exact fill R D Z V
  ·exact eU (g R D Z _ V)
 |round l args=>
  refine h aS cv cw i a1 bg v e (rF b k (dr bh fn n ac ar ro cs b1 a) B) (λR D Z V=> ?_) (λR D Z V=> ?_)
  ·exact fill R D Z V
  ·exact eU (g R D Z _ V)
 |known f args R=>exact fill R q u h|wrote f args au=>exact fill (.tuple []) au u h|panic R=>
  cases K:bh.rd with
  |true=>rw[K]at h;exact h.elim|false=>rw[K]at h;have e1:=d.rd K;subst e1;exact eU (g R q u _ h)
 |fork l=>exact Qn e l h.1 λR D d=>j R D u (h.2 R D d)|_=>exact h.elim
def Pj{ae:Array Oper}{ad:List (Nat×z)}{i:Nat}{rest:List dd}{fin:List (Nat×Nat)}{k:List co}{B:E z}:mV (.lu ae ad i rest fin::k) B=mW (dstsOf ae.toList) B:=rfl
def Ph{ae:Array Oper}{ad:List (Nat×z)}{b i:Nat}{rest:List mK}{fin:List (Nat×Nat)}{k:List co}{B:E z}:mV (.od ae b ad i rest fin::k) B=mW (dstsOf ae.toList) B:=rfl
def abx(T0:Env C aS cv cw)(TZ:z.same 30 v v=true)(P:oC bh ar ro cs b1){ae:Array Oper}{fin:List (Nat×Nat)}{k:List co}{t:E z}{T:ds}{ab:kY}
 (U1:∀B t q u,eo B t->T B q u->ir C aS a1 bg .run k (dr bh fn n ac ar ro cs b1 B) t q u v)
 (U2:∀B t R q u todo,eo B t->ab B R q u->ir C aS a1 bg (.panicking [⟨R,false⟩]) todo (dr bh fn n ac ar ro cs b1 B) t q u v):
 ∀(rest:List dd) (ad:List (Nat×z)) (B:bS) (q:E S) (u:Nat),eo B t->rv C bh fin T (λB=>ab (eI (dstsOf ae.toList) B)) rest ad B q u->pH rest ⟨dx C aS a1 bg v,ae,fin,k,dr bh fn n ac ar ro cs b1 B⟩ C t ad q u=some v:=by
 intro rest;induction rest with
 |nil=>
  intro ad B q u a h;obtain⟨l,eu,d,j,s,b⟩:=FT a (show uh fin ad B (λB=>T B q u) from h);show ud ⟨dx C aS a1 bg v,ae,fin,k,dr bh fn n ac ar ro cs b1 B⟩ C t ad q u=some v;simp only[ud,ws,d];have e:dr bh fn n ac ar ro cs b1 B=dr bh fn n ac ar ro cs b1 l:=by unfold dr;rw[s.1,s.2]
  rw[e];exact eU (U1 _ _ _ _ j b)
 |cons x rest U=>
  intro ad B q u a h;obtain⟨i,g,op⟩:=x;show ri i g op rest (pH rest) ⟨dx C aS a1 bg v,ae,fin,k,dr bh fn n ac ar ro cs b1 B⟩ C t ad q u=some v;have h:=(show(match rA op with
   | .no=>xX g ad (λT=>Bt bh.rd op C q u ad B T (ab (eI (dstsOf ae.toList) B))) (λv q u=>rv C bh fin T (λB=>ab (eI (dstsOf ae.toList) B)) rest ((i,v)::ad) B q u) q u| .defer bk f args=>ba (g.isNone&&bh.aP) (cV bk ad B f λT3=>lk bk ad B args λm=>t7 T3 m B λB=>rv C bh fin T (λB=>ab (eI (dstsOf ae.toList) B)) rest ((i,undef)::ad) B q u) False| .recover=>ba (g.isNone&& !bh.rd) (u6 bh.f4 B λv B=>rv C bh fin T (λB=>ab (eI (dstsOf ae.toList) B)) rest ((i,v)::ad) B q u) False) from h)
  cases X:rA op with
  |no=>
   rw[X]at h;obtain⟨w,d,j,s⟩:=xW ((IK ..).mp h);simp only[ri,xU,d,mr];cases w with
   |false=>simp only[ZA];exact U _ _ _ _ a (s rfl)|true=>
    simp only[ZL];have b:=j rfl;rw[xj];unfold Bt at b;cases O:hF op with
    |eP=>simp only[O]at b ⊢;obtain⟨R,L,A⟩:=wV a b;rw[L];exact U _ _ _ _ a A
    |make=>simp only[O]at b ⊢;obtain⟨R,bU,L,A⟩:=SU a b;simp only[wZ,gi,L,du];exact U _ _ _ _ a A
    |db=>
     simp only[O]at b ⊢;obtain⟨r,L,A⟩:=Gc a b;rw[L];have T8:jm r (dx C aS a1 bg v) C (.lu ae ad i rest fin) k (dr bh fn n ac ar ro cs b1 B) t q u=some v:=by
      refine EI TZ P T0 (λR q u V=>⟨_,rfl, ?_⟩) (λR q u todo V=> ?_) A
      ·exact gt T0 (U _ _ _ _ a V)
      ·rw[Pj];exact U2 (eI (dstsOf ae.toList) B) _ _ _ _ _ (Fx a _) V
     cases r with
     |val R=>exact U _ _ _ _ a A|cJ R D Z=>exact U _ _ _ _ a A|_=>exact T8
  |defer bk f args=>
   rw[X]at h;obtain⟨c,rfl,rfl⟩:=abZ X;have h:=(show ba (g.isNone&&bh.aP) _ False from h);cases g with
   |some g=>exact h.elim|none=>
    cases N:bh.aP with
    |false=>rw[N]at h;exact h.elim|true=>
     rw[N]at h;obtain⟨T3,d,j⟩:=ey a (show cV bk ad B f _ from h);obtain⟨m,s,b⟩:=rj a j;have e1:=P.aP N;subst e1;cases T3 with
     |func g first G=>
      simp only[ri,xU];rw[xj];have O:hF (.db bk (.defer ⟨.value f,c.1,c.2⟩))=.db:=rfl;have T6:eE (.db bk (.defer ⟨.value f,c.1,c.2⟩)) C q u ad t=some (.defer ⟨.fn g G,first++m⟩):=by simp only[eE,h4,Av,d,s]
      simp only[T6];have T4:dr bh fn n ac ar none cs b1 B=⟨fn,n,ac,B.aP,ar,none,ba B.rc b1 cs⟩:=by unfold dr;rw[N];rfl
      show jm (.defer ⟨.fn g G,first++m⟩) (dx C aS a1 bg v) C (.lu ae ad i rest fin) k (dr bh fn n ac ar none cs b1 B) t q u=some v;rw[T4];show dx C aS a1 bg v .run (.tm ae ((i,undef)::ad) rest fin::k) ⟨fn,n,ac,⟨.fn g G,first++m⟩::B.aP,ar,none,ba B.rc b1 cs⟩ t q u=some v;have T9:(⟨fn,n,ac,⟨.fn g G,first++m⟩::B.aP,ar,none,ba B.rc b1 cs⟩:ff)=dr bh fn n ac ar none cs b1 (n6 B ⟨.fn g G,first++m⟩):=by unfold dr;rw[N];rfl
      rw[T9];exact eU (gt T0 (U _ (n6 B ⟨.fn g G,first++m⟩) _ _ a b))
     |_=>exact b.elim
  |recover=>
   rw[X]at h;obtain⟨bk,bM,args,rfl,TY⟩:=ab0 X;have h:=(show ba (g.isNone&& !bh.rd) _ False from h);cases g with
   |some g=>exact h.elim|none=>
    cases T5:bh.rd with
    |true=>rw[T5]at h;exact h.elim|false=>
     rw[T5]at h;have e1:=P.rd T5;subst e1;have h:=h;simp only[ri,xU,jJ];rw[xj];have O:hF (.db bk (.call ⟨.builtin .recover,args,bM⟩))=.db:=rfl;have T6:eE (.db bk (.call ⟨.builtin .recover,args,bM⟩)) C q u ad t=some .recover:=(by simp only[eE,h4,qA,uo,TY,jZ]);simp only[T6];show jm .recover (dx C aS a1 bg v) C (.lu ae ad i rest fin) k (dr bh fn n ac ar none cs b1 B) t q u=some v;have key:∀R l,eo l t->pJ ar (ba B.rc b1 cs)=some (R,ba l.rc b1 cs)->l.aP=B.aP->rv C bh fin T (λB=>ab (eI (dstsOf ae.toList) B)) rest ((i,R)::ad) l q u->jm .recover (dx C aS a1 bg v) C (.lu ae ad i rest fin) k (dr bh fn n ac ar none cs b1 B) t q u=some v:=by
      intro R l U0 d j s;show(match pJ ar (ba B.rc b1 cs)with
       |some (U4,T7)=>(match iC (.lu ae ad i rest fin) U4 with|some U3=>dx C aS a1 bg v .run (U3::k) ⟨fn,n,ac,ba bh.aP B.aP [],ar,none,T7⟩ t q u|none=>none)|none=>none)=some v
      rw[d];show dx C aS a1 bg v .run (.tm ae ((i,R)::ad) rest fin::k) ⟨fn,n,ac,ba bh.aP B.aP [],ar,none,ba l.rc b1 cs⟩ t q u=some v;have T4:(⟨fn,n,ac,ba bh.aP B.aP [],ar,none,ba l.rc b1 cs⟩:ff)=dr bh fn n ac ar none cs b1 l:=(by unfold dr;rw[j]);rw[T4];exact eU (gt T0 (U _ _ _ _ U0 s))
     unfold u6 at h;cases T1:bh.f4 with
     |none=>rw[T1]at h;exact h.elim|some p=>
      rw[T1]at h;cases p with
      |none=>obtain⟨d,j⟩:=P.none T1;subst d;refine key _ B a ?_ rfl h;cases B.rc<;>exact j
      |some R=>obtain⟨d,j⟩:=P.some R T1;cases T2:B.rc with|true=>simp only[T2]at h;refine key _ B a ?_ rfl h;simp only[T2];exact j|false=>simp only[T2]at h;refine key R (xH B) a ?_ rfl h;simp only[T2];exact d
def Pg(d:Env C aS cv cw)(L:z.same 30 v v=true)(G:oC bh ar ro cs b1){ae:Array Oper}{base:Nat}{fin:List (Nat×Nat)}{k:List co}{B:bS}{t:E z}(a:eo B t){T:ds}{ab:kY}
 (N:∀B t q u,eo B t->T B q u->ir C aS a1 bg .run k (dr bh fn n ac ar ro cs b1 B) t q u v)
 (O:∀B t R q u todo,eo B t->ab B R q u->ir C aS a1 bg (.panicking [⟨R,false⟩]) todo (dr bh fn n ac ar ro cs b1 B) t q u v):
 ∀(g1:List mK) (ad:List (Nat×z)) (q:E S) (u:Nat),Ac C bh.rd base fin B T (ab (eI (dstsOf ae.toList) B)) g1 ad q u->oW (dx C aS a1 bg v) C ae base ad g1 fin k (dr bh fn n ac ar ro cs b1 B) t q u=some v:=by
 intro g1;induction g1 with
 |nil=>intro ad q u h;exact h.elim|cons s rest U=>
  intro ad q u h;obtain⟨P,D,m,p⟩:=Sw a (show wX C base B s.lO ad q _ from h);obtain⟨x,b⟩:=aaN a p;simp only[oW,m,x];cases j:s.db with
  |none=>simp only[j]at b;obtain⟨l,eu,f,g,c,i⟩:=FT a b;simp only[ws,f];have e:dr bh fn n ac ar ro cs b1 B=dr bh fn n ac ar ro cs b1 l:=(by unfold dr;rw[c.1,c.2]);rw[e];exact eU (N _ _ _ _ g i)
  |some X=>
   simp only[j]at b;obtain⟨w,f,g,c⟩:=xW ((IK ..).mp b);simp only[f];cases w with
   |false=>simp;exact eU (gt d (U _ _ _ (c rfl)))|true=>
    obtain⟨r,i,A⟩:=Gc a (g rfl);simp only[cI,i];refine EI L G d (λR q u V=>⟨_,rfl, ?_⟩) (λR q u todo V=> ?_) A
    ·exact gt d (U _ _ _ V)
    ·rw[Ph];exact O (eI (dstsOf ae.toList) B) _ _ _ _ _ (Fx a _) V
def Jh(C:al)(aS:World)(a1:Nat)(bg:List Frame)(v:z)(br:bS->ff)(k:List co)(id:Nat):ds:=λB q u=>∀t,eo B t->oZ id (dx C aS a1 bg v) C k (br B) t q u=some v
def wq{id:Nat}{U:eA}{C:al}{b:co}{k:List co}{bh:l3}{cs b1:List d1}{a:bS}{B:E z}{q:E S}{u:Nat}(h:exitTo id (b::k)=exitTo id k):
 oZ id U C (b::k) (dr bh fn n ac ar ro cs b1 a) B q u=oZ id U C k (dr bh fn n ac ar ro cs b1 a) B q u:=by
 unfold oZ;rw[h];rfl
def yl(C:al)(fn n ac:Nat)(c:Code):Prop:=
 ∀{aS:World}{cv:bX}{cw:Nat->Prop}(_:Env C aS cv cw) {a1:Nat}{bg:List Frame}{v:z}(_:z.same 30 v v=true) (bh:l3) (ar:Bool) (ro:Option Nat) (cs b1:List d1) (ab:kY) (k:List co) (T:ds) (e:Nat->ds) (r:ds) (B:bS) (t:E z) (q:E S) (u:Nat),oC bh ar ro cs b1->
  (∀B t R q u todo,eo B t->ab B R q u->ir C aS a1 bg (.panicking [⟨R,false⟩]) todo (dr bh fn n ac ar ro cs b1 B) t q u v)->
  (∀B t q u,eo B t->T B q u->ir C aS a1 bg .run k (dr bh fn n ac ar ro cs b1 B) t q u v)->
  (∀id B q u,e id B q u->Jh C aS a1 bg v (dr bh fn n ac ar ro cs b1) k id B q u)->
  (∀B t q u todo,eo B t->r B q u->jv (some .ret) (dx C aS a1 bg v) C todo (dr bh fn n ac ar ro cs b1 B) t q u=some v)->
  eo B t->mT C n ac c bh ab T e r B q u->l8 c (dx C aS a1 bg v) C k (dr bh fn n ac ar ro cs b1 B) t q u=some v
def abD{n:Nat}:∀(b4:List Nat) (b:List z) (B:bS) (t:E z) (T:bS->Prop),eo B t->to n b4 b B T->∃c eu,nh n b4 b t=some eu/\eo c eu/\T c:=by
 intro b4;induction b4 with
 |nil=>
  intro b B t T d h;cases b with
  |nil=>exact⟨B,t,rfl,d,h⟩|cons a b=>exact h.elim
 |cons p b4 U=>intro b B t T d h;cases b with|nil=>exact h.elim|cons a b=>have h:=(show ba (Nat.blt p n) (to n b4 b (J B p a) T) False from h);cases W:Nat.blt p n with|false=>simp_all|true=>rw[W]at h;obtain⟨c,eu,e,f,g⟩:=U b _ _ T (H8 d p a) h;exact⟨c,eu,by simp only[nh,W,cI,e],f,g⟩
def pR(fn n ac:Nat)(ro:Option Nat)(cs:List d1)(B:bS):dr pq fn n ac false ro cs cs B=⟨fn,n,ac,[],false,ro,cs⟩:=by unfold dr pq;cases B.rc<;>rfl
def AV{U:eA}{C:al}{l fn n ac:Nat}{t0:E z}{params:List Nat}{assign body:Code}{c:Nat}{a:Option Code}{st:LoopState}{b:Bool}{T:aY}{todo:List co}{cs:List d1}{t:E z}{q:E S}{u:Nat}{v:z}
 (ai:eB C l=true)(g:HJ a=true)(i:st=ba a.isNone .ready .done)(W:b=a.isNone)(h:wl C l (λst p=> .loop st p fn n ac t0 params assign body c) st a b T q u)
 (f:∀R q u,T R q u->lE U false cs R q u=some v):jv a U C todo ⟨fn,n,ac,[],false,some l,cs⟩ t q u=some v:=by
 obtain⟨⟨k,j,d⟩,e⟩:=h;subst i W;have:=f _ _ _ e;simp only[jv,d,ai,g,du];simp_all
def abj{C:al}{fn n ac:Nat}{assign body:Code}(m:yl C fn n ac assign)(cx:yl C fn n ac body){aS:World}{cv:bX}{cw:Nat->Prop}(b:Env C aS cv cw){a1:Nat}{bg:List Frame}{v:z}(g:z.same 30 v v=true){l:Nat}{t:E z}{params:List Nat}{e:Nat}{cs:List d1}
 {B:bS}{q:E S}{u:Nat}{args:List z}{T ab:aY}(s:H C q l=some (.loop .ready none fn n ac t params assign body e))(ai:eB C l=true)(a:eo B t)
 (d:∀R D Z,T R D Z->yh C aS a1 bg v cs R D Z)(r:∀R D Z,ab R D Z->vI C aS a1 bg v cs R D Z)
 (h:to n params args B λkn=>lo C (mT C n ac assign) (mT C n ac body) l (λst p=> .loop st p fn n ac t params assign body e) T ab kn q u):
 xx (dx C aS a1 bg v) C l args cs q u=some v:=by
 obtain⟨kn,t1,j,w,k⟩:=abD _ _ _ _ _ a h;unfold xx;rw[s];simp only[j];have f:oC pq false (some l) cs cs:=⟨λh=>(by cases h),λh=>(by cases h),λh=>(by cases h),λR h=>(by cases h)⟩;have i:∀(B:bS) (t:E z) (R:z) (q:E S) (u:Nat) (todo:List co),eo B t->ab R q u->ir C aS a1 bg (.panicking [⟨R,false⟩]) todo (dr pq fn n ac false (some l) cs cs B) t q u v:=by intro B t R q u todo a V;rw[pR];refine gt b ?_;have:=r R q u V;cases cs with|nil=>exact this.elim|cons c rest=>exact this
 refine eU (gt b ?_);rw[<-pR fn n ac (some l) cs kn];refine m b g pq false (some l) cs cs (λ_=>ab) [.beginRound,.code body] _ _ _ kn t1 q u f i (λB t q u a V=> ?_) (λid B q u V=>V.elim) (λB t q u todo a V=>V.elim) w k;obtain⟨x,A⟩:=V;refine gt b ?_;rw[pR];show tT (dx C aS a1 bg v) C [.code body] ⟨fn,n,ac,[],false,some l,cs⟩ t q u=some v;unfold tT;simp only[x,ai,du];refine eU (gt b ?_);rw[<-pR fn n ac (some l) cs B];refine cx b g pq false (some l) cs cs (λ_=>ab) [] _ _ _ B t _ u f i (λB t q u a V=> ?_) (λid B q u V t a=> ?_) (λB t q u todo a V=> ?_) a A
 ·refine gt b ?_;rw[pR];show jv none (dx C aS a1 bg v) C [] ⟨fn,n,ac,[],false,some l,cs⟩ t q u=some v;exact AV ai rfl rfl rfl V d
 ·rw[pR];show jv (some (.exit id)) (dx C aS a1 bg v) C (.code (.exit id)::[]) ⟨fn,n,ac,[],false,some l,cs⟩ t q u=some v;exact AV ai rfl rfl rfl V d
 ·rw[pR];exact AV ai rfl rfl rfl V d
def yY:∀c:Code,yl C fn n ac c:=by
 intro c;induction c with
 |skip=>intro aS cv cw j a1 bg v A bh ar ro cs b1 ab k T e r B t q u x G w L K i h;exact eU (w _ _ _ _ i h)|region id ae d=>
  intro aS cv cw j a1 bg v A bh ar ro cs b1 ab k T e r B t q u x G w L K i h;cases d with
  |false=>obtain⟨V,O,P⟩:=ll.1 (show bu (uT C n ae ac) (λr=>rv C bh r.fin T (λB=>ab (eI (dstsOf ae.toList) B)) r.rest [] B q u) from h);show fv (uT C n ae ac) (λr=>yj.rec (λrest fin=>pH rest ⟨dx C aS a1 bg v,ae,fin,k,dr bh fn n ac ar ro cs b1 B⟩ C t [] q u) r)=some v;rw[O];exact abx j A x w G _ _ _ _ _ i P
  |true=>obtain⟨V,O,P⟩:=ll.1 (show bu (uS C n ae ac) (λr=>cU (u+ae.size) λZ=>Ac C bh.rd u r.fin B T (ab (eI (dstsOf ae.toList) B)) r.g1 [] q Z) from h);show fv (uS C n ae ac) (λr=>yi.rec (λg1 fin=>kw u λu=>oW (dx C aS a1 bg v) C ae u [] g1 fin k (dr bh fn n ac ar ro cs b1 B) t q (u+ae.size)) r)=some v;rw[O];show kw u (λu=>oW (dx C aS a1 bg v) C ae u [] V.g1 V.fin k (dr bh fn n ac ar ro cs b1 B) t q (u+ae.size))=some v;rw[gi];exact Pg j A x i w G _ _ _ _ P.out
 |seq a b T0 N=>
  intro aS cv cw j a1 bg v A bh ar ro cs b1 ab k T e r B t q u x G w L K i h;refine T0 j A bh ar ro cs b1 ab (.code b::k) (mT C n ac b bh ab T e r) e r B t q u x G (λB t q u i h=> ?_) (λid B q u h t i=> ?_) K i h
  ·exact gt j (N j A bh ar ro cs b1 ab k T e r B t q u x G w L K i h)
  ·rw[wq (by simp[exitTo])];exact L id B q u h t i
 |cond c a b T0 N=>
  intro aS cv cw j a1 bg v A bh ar ro cs b1 ab k T e r B t q u x G w L K i h;obtain⟨R,O,P⟩:=ey (bk:=[]) i (show cV [] [] B c _ from h);obtain⟨U1,rfl,U5,U6⟩:=E5 P.out;have T6:nP t c=some (.bool U1):=by cases c<;>first|(simp[fA]at O;done)|simpa[fA,nP]using O
  show t2 c t (l8 a (dx C aS a1 bg v) C k (dr bh fn n ac ar ro cs b1 B) t q u) (l8 b (dx C aS a1 bg v) C k (dr bh fn n ac ar ro cs b1 B) t q u)=some v;simp only[t2,T6];cases U1 with
  |true=>exact T0 j A bh ar ro cs b1 ab k T e r B t q u x G w L K i (U5 rfl)|false=>exact N j A bh ar ro cs b1 ab k T e r B t q u x G w L K i (U6 rfl)
 |block id b N=>
  intro aS cv cw j a1 bg v A bh ar ro cs b1 ab k T e r B t q u x G w L K i h;refine N j A bh ar ro cs b1 ab (.inBlock id::k) T (qq id T e) r B t q u x G (λB t q u i h=>gt j (eU (w B t q u i h))) (λTZ B q u h t i=> ?_) K i h.out;unfold qq at h;rw[ee]at h;by_cases T4:id=TZ
  ·rw[Zv T4]at h;have T5:exitTo TZ (.inBlock id::k)=some k:=(by simp[exitTo,T4]);unfold oZ;rw[T5];exact eU (w B t q u i h)
  ·rw[Zi T4]at h;rw[wq (by simp[exitTo,ee,T4])];exact L TZ B q u h t i
 |loop b N=>
  intro aS cv cw j a1 bg v A bh ar ro cs b1 ab k T e r B t q u x G w L K i h;obtain⟨U2,⟨m,T9⟩,U8⟩:=(show cF (λU3=>mT C n ac b bh ab U3 e r) B q u from h).out;have UH:∀m B t q u,U2 m B q u->eo B t->l8 b (dx C aS a1 bg v) C (.inLoop b::k) (dr bh fn n ac ar ro cs b1 B) t q u=some v:=by
   intro m;induction m using Nat.strongRecOn with
   |ind m UE=>
    intro B t q u T9 i;refine N j A bh ar ro cs b1 ab (.inLoop b::k) _ e r B t q u x G (λB t q u i h=> ?_) (λid B q u h t i=> ?_) K i (U8 m B q u T9)
    ·obtain⟨UG,UC,UD⟩:=h;exact gt j (UE UG UC B t q u UD i)
    ·rw[wq (by simp[exitTo])];exact L id B q u h t i
  exact UH m B t q u T9 i
 |rangeFunc f params assign body T0 N=>
  intro aS cv cw j a1 bg v A bh ar ro cs b1 ab k T e r B t q u x G w L K i h;have h:=(show ba bh.aP (Ae f B λT2=>rs C n T2 params.toList (lo C (mT C n ac assign) (mT C n ac body)) T e r ab B q u) False from h);cases T3:bh.aP with
  |false=>rw[T3]at h;exact h.elim|true=>
   rw[T3]at h;have e1:=x.aP T3;subst e1;obtain⟨T2,O,P⟩:=ey (bk:=[]) i (show cV [] [] B f _ from h);have T6:nP t f=some T2:=(by cases f<;>first|(simpa[fA,nP]using O)|(simp[fA]at O;subst O;rfl));have UP:=P.low;have X:=P.out;have T7:∀B:bS,dr bh fn n ac ar none cs b1 B=⟨fn,n,ac,B.aP,ar,none,ba B.rc b1 cs⟩:=λB=>(by unfold dr;rw[T3];rfl);have U0:eB C (u+1)=true:=yK Zo;show u3 f params assign body (dx C aS a1 bg v) C k (dr bh fn n ac ar none cs b1 B) t q u=some v;rw[T7];unfold u3;rw[T6];cases T2 with
   |func g first UL=>
    cases g with
    |func g=>
     simp only[gi];have X:=X (λst p=> .loop st p fn n ac t params.toList assign body u) ?_
     ·refine X aS cv cw j a1 bg v A _ (λR D Z V=> ?_) (λR D Z V=> ?_)
      ·obtain⟨st,p,UI,UJ,T1⟩:=V;show(match iC (.inRangeFunc (u+1)) R with
        |some UF=>dx C aS a1 bg v .run (UF::k) ⟨fn,n,ac,⟨.collected u,[]⟩::B.aP,ar,none,ba B.rc b1 cs⟩ t D Z|none=>none)=some v
       refine eU (gt j ?_);show sy (u+1) (dx C aS a1 bg v) C k ⟨fn,n,ac,⟨.collected u,[]⟩::B.aP,ar,none,ba B.rc b1 cs⟩ t D Z=some v;have T5:sy (u+1) (dx C aS a1 bg v) C k ⟨fn,n,ac,⟨.collected u,[]⟩::B.aP,ar,none,ba B.rc b1 cs⟩ t D Z=dx C aS a1 bg v .run ((p.map co.code).toList++k) ⟨fn,n,ac,⟨.collected u,[]⟩::B.aP,ar,none,ba B.rc b1 cs⟩ t (aH C D (u+1) (some (.loop .exhausted p fn n ac t params.toList assign body u))) Z:=by unfold sy;rw[UJ];cases st with|busy=>exact absurd rfl UI|_=>simp only[U0,cI,du]
       rw[T5];have U7:=T7 (nY B u);have T8:(⟨fn,n,ac,⟨.collected u,[]⟩::B.aP,ar,none,ba B.rc b1 cs⟩:ff)=dr bh fn n ac ar none cs b1 (nY B u):=U7.symm;rw[T8];have TY:=i;cases p with|none=>exact eU (w _ _ _ _ TY T1)|some c=>refine eU (gt j ?_);unfold HK at T1;cases c with|exit id=>exact L id _ _ _ T1 t TY|ret=>exact K _ _ _ _ _ TY T1|_=>exact T1.elim
      ·refine eU ?_;have T8:=(T7 (nY B u)).symm;have:=G (nY B u) t R D Z (.inRangeFunc (u+1)::k) i V;rw[<-T8]at this;exact this
     ·
      intro args au UQ US UT UB aH dS UU UK U4 UO UM UR gu UN U9 UA;exact abj T0 N U4 gu UB U0 i U9 UA aH
    |_=>exact X.elim
   |_=>exact X.elim
 |exit id=>intro aS cv cw j a1 bg v A bh ar ro cs b1 ab k T e r B t q u x G w L K i h;exact L id B q u h t i|scope b N=>intro aS cv cw j a1 bg v A bh ar ro cs b1 ab k T e r B t q u x G w L K i h;refine N j A bh ar ro cs b1 ab (.inScope b::k) T e r B t q u x G (λB t q u i h=>gt j (eU (w B t q u i h))) (λid B q u h t i=> ?_) K i h;rw[wq (by simp[exitTo])];exact L id B q u h t i|label l=>intro aS cv cw j a1 bg v A bh ar ro cs b1 ab k T e r B t q u x G w L K i h;exact eU (w _ _ _ _ i h)|goto l=>intro aS cv cw j a1 bg v A bh ar ro cs b1 ab k T e r B t q u x G w L K i h;exact h.elim|ret=>intro aS cv cw j a1 bg v A bh ar ro cs b1 ab k T e r B t q u x G w L K i h;exact K _ _ _ _ _ i h|refuse s=>intro aS cv cw j a1 bg v A bh ar ro cs b1 ab k T e r B t q u x G w L K i h;exact h.elim
def yI(args:List z):eo (bN args) (E.ofList args 0 .nil):=by intro n v h;rw[g0];simpa[bN]using h
variable{o3:Func}
def xw(a:Env C aS cv cw)(s:z.same 30 v v=true)(p:C.P.funcs[fn]? =some o3){aI:aY}(A:∀R q u,aI R q u->lE (dx C aS a1 bg v) ar cs R q u=some v){B:bS}{t:E z}(w:eo B t):
 ∀(bb:List eD) (q:E S) (u:Nat) (todo:List co),ig C o3.results.toList aI B bb q u->ir C aS a1 bg .returning todo ⟨fn,n,ac,bb,ar,none,cs⟩ t q u v:=by
 intro bb;induction bb with
 |nil=>intro q u todo h;obtain⟨aG,e,j⟩:=aaZ w (show kc C q B o3.results.toList (λaG=>aI (one aG) q u) from h);refine gt a ?_;show vb todo (dx C aS a1 bg v) C ⟨fn,n,ac,[],ar,none,cs⟩ t q u=some v;simp only[vb,p,e];grind
 |cons d bb U=>
  intro q u todo h;obtain⟨k,i⟩:=d;refine gt a ?_;show nj ⟨k,i⟩ bb .returning todo (dx C aS a1 bg v) C ⟨fn,n,ac,[],ar,none,cs⟩ t q u=some v;cases k with
  |collected r=>simp only[nj,h.here,show eB C r=true from yK h.low,du];exact eU (U _ _ _ h.go)|fn g cap=>
   have h:=(show lI C g (i++cap) none q u (λ_ q u=>ig C o3.results.toList aI B bb q u) from h).out;split at h
   ·rename_i f;obtain⟨e,⟨x,c,j,l⟩,m⟩:=h;simp only[nj,oK,hi,e,j,l];exact m aS cv cw a a1 bg v s fn n ac t todo bb ar none cs λb D Z V=>eU (U _ _ _ V)
   ·exact h.elim
def HG(a:Env C aS cv cw)(i:z.same 30 v v=true)(x:C.P.funcs[fn]? =some o3){aI cK:aY}(s:∀R q u,aI R q u->lE (dx C aS a1 bg v) ar cs R q u=some v)(w:∀R q u,cK R q u->vI C aS a1 bg v cs R q u){B:bS}{t:E z}(A:eo B t)(R:z):
 ∀(bb:List eD) (q:E S) (u:Nat) (todo:List co),nb C o3.results.toList aI cK B R bb q u->ir C aS a1 bg (.panicking [⟨R,false⟩]) todo ⟨fn,n,ac,bb,ar,none,cs⟩ t q u v:=by
 intro bb;induction bb with
 |nil=>
  intro q u todo h;refine gt a ?_;have:=w R q u h;cases cs with
  |nil=>exact this.elim|cons c rest=>exact this
 |cons d bb U=>
  intro q u todo h;obtain⟨j,e⟩:=d;refine gt a ?_;show nj ⟨j,e⟩ bb (.panicking [⟨R,false⟩]) todo (dx C aS a1 bg v) C ⟨fn,n,ac,[],ar,none,cs⟩ t q u=some v;cases j with
  |collected r=>simp only[nj,h.here,show eB C r=true from yK h.low,du];exact eU (U _ _ _ h.go)|fn g cap=>
   have h:=(show lI C g (e++cap) (some R) q u (λb q u=>ba b (ig C o3.results.toList aI B bb q u) (nb C o3.results.toList aI cK B R bb q u)) from h).out;split at h
   ·rename_i f;obtain⟨k,⟨G,c,l,m⟩,p⟩:=h;simp only[nj,oK,hi,k,l,m];refine p aS cv cw a a1 bg v i fn n ac t todo bb ar none cs λb D Z V=> ?_;cases b with|true=>exact eU (xw a i x s A bb D Z todo V)|false=>exact eU (U _ _ _ V)
   ·grind
def Aq{C:al}{f a:Nat}(b:bJ C f a=true):∃fn c,C.P.funcs[f]? =some fn/\fn.body=some c/\(Nat.ble a fn.ntmps&&g7 C (Nat.lor (gY c) (kb fn.results.toList)) c&&n7 (Nat.lor (gY c) (kb fn.results.toList)) fn.results.toList)=true:=by unfold bJ at b;grind
def adB{U:eA}{C:al}{fn n ac:Nat}{aP:List eD}{ar:Bool}{cs:List d1}{todo:List co}{B:E z}{q:E S}{u:Nat}{j:Option Code}(a:AH j=true):jv j U C todo ⟨fn,n,ac,aP,ar,none,cs⟩ B q u=U .returning todo ⟨fn,n,ac,aP,ar,none,cs⟩ B q u:=by simp only[jv,a,cI]
def vE(fn n ac:Nat)(ar:Bool)(ro:Option Nat)(cs:List d1)(B:bS):dr s3 fn n ac ar ro cs cs B=⟨fn,n,ac,[],ar,ro,cs⟩:=by unfold dr s3;cases B.rc<;>rfl
def vF(fn n ac:Nat)(ar:Bool)(ro:Option Nat)(cs:List d1)(B:bS):dr pp fn n ac ar ro cs cs B=⟨fn,n,ac,B.aP,ar,ro,cs⟩:=by unfold dr pp;cases B.rc<;>rfl
def Qj{C:al}{f:Nat}{args:List z}{q:E S}{u:Nat}{aI cK:aY}(k:bJ C f args.length=true)(h:bP C f args q u aI cK):l0 C f args q u aI cK:=by
 intro aS cv cw b a1 bg v e cs g j;obtain⟨fn,c,d,W,l⟩:=Aq k;unfold bP at h;simp only[d,W]at h;unfold iz;simp only[d,W,gi,l];have m:oC s3 false none cs cs:=⟨λ_=>rfl,λh=>(by cases h),λh=>(by cases h),λR h=>(by cases h)⟩;have i:∀B t q u todo,eo B t->kc C q B fn.results.toList (λaG=>aI (one aG) q u)->
  ir C aS a1 bg .returning todo (dr s3 f fn.ntmps (Nat.lor (gY c) (kb fn.results.toList)) false none cs cs B) t q u v:=by
  intro B t q u todo a h;rw[vE];exact xw b e d (λR q u V=>g R q u V) a [] q u todo h
 refine eU (gt b ?_);refine yY c b e s3 false none cs cs _ [] _ _ _ _ _ q u m (λB t R q u todo a h=> ?_) (λB t q u a h=> ?_) (λid B q u h=>h.elim) (λB t q u todo a h=> ?_) (yI args) h
 ·rw[vE];exact HG (aI:=aI) b e d (λR q u V=>g R q u V) (λR q u V=>j R q u V) a R [] q u todo h
 ·refine gt b ?_;have:=i B t q u [] a h;rw[vE]at this ⊢;show jv none (dx C aS a1 bg v) C [] ⟨f,fn.ntmps,Nat.lor (gY c) (kb fn.results.toList),[],false,none,cs⟩ t q u=some v;exact eU this
 ·have:=i B t q u todo a h;rw[vE]at this ⊢;exact eU this
def Qk{C:al}{f:Nat}{args:List z}{q:E S}{u:Nat}{aI cK:aY}(k:bJ C f args.length=true)(h:o2 C f args q u aI cK):l0 C f args q u aI cK:=by
 intro aS cv cw b a1 bg v e cs g j;obtain⟨fn,c,d,W,l⟩:=Aq k;unfold o2 at h;simp only[d,W]at h;unfold iz;simp only[d,W,gi,l];have m:oC pp false none cs cs:=⟨λ_=>rfl,λ_=>rfl,λh=>(by cases h),λR h=>(by cases h)⟩;have i:∀B t q u todo,eo B t->ig C fn.results.toList aI B B.aP q u->
  ir C aS a1 bg .returning todo (dr pp f fn.ntmps (Nat.lor (gY c) (kb fn.results.toList)) false none cs cs B) t q u v:=by
  intro B t q u todo a h;rw[vF];exact xw b e d (λR q u V=>g R q u V) a B.aP q u todo h
 refine eU (gt b ?_);refine yY c b e pp false none cs cs _ [] _ _ _ _ _ q u m (λB t R q u todo a h=> ?_) (λB t q u a h=> ?_) (λid B q u h=>h.elim) (λB t q u todo a h=> ?_) (yI args) h
 ·rw[vF];exact HG (aI:=aI) b e d (λR q u V=>g R q u V) (λR q u V=>j R q u V) a R B.aP q u todo h
 ·refine gt b ?_;have:=i B t q u [] a h;rw[vF]at this ⊢;show jv none (dx C aS a1 bg v) C [] ⟨f,fn.ntmps,Nat.lor (gY c) (kb fn.results.toList),B.aP,false,none,cs⟩ t q u=some v;exact eU this
 ·have:=i B t q u todo a h;rw[vF]at this ⊢;exact eU this
def FZ{C:al}{f:Nat}{args:List z}{f4:Option z}{q:E S}{u:Nat}{aI:Bool->E S->Nat->Prop}(k:bJ C f args.length=true)(h:nT C f args f4 q u aI)
 {aS:World}{cv:bX}{cw:Nat->Prop}(d:Env C aS cv cw){a1:Nat}{bg:List Frame}{v:z}(i:z.same 30 v v=true){cs b1:List d1}(m:oC ⟨false,false,some f4⟩ true none cs b1)
 (j:∀b R q u,aI b q u->lE (dx C aS a1 bg v) true (ba b b1 cs) R q u=some v):iz (dx C aS a1 bg v) C f args true cs q u=some v:=by
 obtain⟨fn,c,e,W,l⟩:=Aq k;unfold nT at h;simp only[e,W]at h;unfold iz;simp only[e,W,gi,l];have g:∀B t q u todo,eo B t->kc C q B fn.results.toList (λ_=>aI B.rc q u)->
  ir C aS a1 bg .returning todo (dr ⟨false,false,some f4⟩ f fn.ntmps (Nat.lor (gY c) (kb fn.results.toList)) true none cs b1 B) t q u v:=by
  intro B t q u todo a h;exact xw d i e (λR q u V=>j B.rc R q u V) a [] q u todo h
 refine eU (gt d ?_);refine yY c d i ⟨false,false,some f4⟩ true none cs b1 _ [] _ _ _ (bN args) _ q u m (λB t R q u todo a h=>h.elim) (λB t q u a h=> ?_) (λid B q u h=>h.elim) (λB t q u todo a h=> ?_) (yI args) h
 ·refine gt d ?_;show jv none (dx C aS a1 bg v) C [] ⟨f,fn.ntmps,Nat.lor (gY c) (kb fn.results.toList),[],true,none,ba B.rc b1 cs⟩ t q u=some v;exact eU (g B t q u [] a h)
 ·show jv (some .ret) (dx C aS a1 bg v) C todo ⟨f,fn.ntmps,Nat.lor (gY c) (kb fn.results.toList),[],true,none,ba B.rc b1 cs⟩ t q u=some v;exact eU (g B t q u todo a h)
def wz{C:al}{f:Nat}{args:List z}{f4:Option z}{q:E S}{u:Nat}{aI:Bool->E S->Nat->Prop}(d:bJ C f args.length=true)(h:nT C f args f4 q u aI):Ce C f args f4 q u aI:=by
 intro aS cv cw a a1 bg v e k ap s2 kn m j i l g c;cases f4 with
 |none=>refine FZ d h a e ⟨λ_=>rfl,λh=>(by cases h),λh=>⟨rfl,rfl⟩,λR h=>(by cases h)⟩ (λb R q u V=> ?_);have:=c b q u V;cases b<;>exact this|some p=>
  refine FZ d h a e (b1:=(⟨k,ap,s2,kn,m,j,.panicking [⟨p,true⟩],i,l⟩:d1)::g) ⟨λ_=>rfl,λh=>(by cases h),λh=>(by cases h),λR h=> ?_⟩ (λb R q u V=> ?_)
  ·simp only[Zh]at h;subst h;exact⟨rfl,rfl⟩
  ·have:=c b q u V;cases b<;>exact this
def Ox{C:al}{aS:World}{cv:bX}{cw:Nat->Prop}(a:Env C aS cv cw){f:Nat}{args:List z}{v:z}(l:z.same 30 v v=true)(j:cz cw args)
 (h:l0 C f args .nil C.aB (λR _ _=>R=v) (λ_ _ _=>False)):Calls C.P f (bf cv args).toArray aS λe a2=>(∃F,e=.returned (aq F v))/\Below aS.heap.size aS a2:=by
 intro b;have k:=
  wm EK a.base (Below.refl _ _) a.eK (Zg _) .nil (λ_=>rfl) j
   (h aS cv cw a f b v l [] (λR D Z e=>by subst e;rfl) (λR D Z e=>e.elim))
 obtain⟨F,a2,fr,c,d,g,i⟩:=k;exact⟨.returned (aq F v),a2,fr,⟨⟨F,rfl⟩,i⟩,c,g,d⟩
end
end
end Go.aF
