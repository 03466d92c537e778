/- Part of the last text; no conditions -/
import Derived.Test.YtehmapikajmjaaaGreatDoorYe
import Derived.LaidLaws
set_option maxHeartbeats 8000000
set_option linter.all false
namespace Go.aC
noncomputable section
open Go.RowKit (Below)
def tR:List (String×Nat)->String->Option Nat
 |[],_=>none|(a,M)::l,s=>a8 (a==s) (some M) (tR l s)
def wI(P:Program)(nm:List (String×Nat))(t:Nat)(d:DataW Unit)(n:Nat):mH:=match P.underlying t,d with
 |some (.interface _),.iface s (.ptr a)=>(match tR nm s with
  |some M=>(match P.underlying M with
   |some (.pointer _)=>(match m8 P 39 M (.ptr a) n with
    |some ([x],ak,os)=>some ([.iface M x],ak,os)|_=>none)
   |_=>none)
  |none=>none)
 |_,_=>m8 P 40 t d n
def eg(P:Program)(nm:List (String×Nat)):List (String×DataW Unit)->Nat->Nat×List (Nat×R)
 |[],n=>(n,[])|(v,d)::r,n=>match P.globalNamed v with
  |some g=>(match P.globals[g]? with
   |some a=>(match wI P nm a.type d n with
    |some (l,ak,os)=>a8 (Nat.blt 0 l.length) (match eg P nm r ak with|(ar,b)=>(ar,(g,th l)::(os++b))) (eg P nm r n)|none=>eg P nm r n)
   |none=>eg P nm r n)
  |none=>eg P nm r n
def oJ(P:Program)(nm:List (String×Nat)):Prop:=∀x∈nm,∀M,P.typeName? 3 M=some x.1->M=x.2
section
variable{C:ai}{P:Program}{w:World}
def Od{s:String}{M:Nat}:∀{l:List (String×Nat)},tR l s=some M->(s,M)∈l:=by intro l;induction l with|nil=>intro e;simp[tR]at e|cons x l U=>intro e;simp only[tR]at e;rw[c3]at e;grind
def Sh{nm:List (String×Nat)}(L:oJ P nm){t:Nat}{d:DataW Unit}{n:Nat}{r:List y×Nat×List (Nat×R)}(e:wI P nm t d n=some r){V:Nat}{cs:List Value}{b2:List MemPlace}(I:rd P w V t cs=some (d,b2))(i:lV w b2)
 (N:∀M v,cs=[.iface M v]->Value.okWide P w .any 0 M v):Lays C w n cs r:=by
 unfold wI at e;split at e
 ·rename_i T4 s T2 af;split at e
  ·rename_i M O;split at e
   ·rename_i u c;split at e
    ·rename_i x ak os A;simp at e;subst e;obtain⟨m,T1,v,rfl,G,b⟩:=iface_of_trod af I;obtain rfl:=L _ (Od O) T1 G;obtain⟨T3,a,bY,T5,g,_,_,_⟩:=ptr_of_trod c b;have ok:=N _ _ rfl;have X:v=.pointer (some a):=(by unfold Value.okWide at ok;unfold Cell.okWide at ok;cases v<;>simp[Value.cells,Cell.ok,c]at ok g;subst g;rfl);have p:=Gq (C:=C) 39 m _ _ _ _ A _ _ b i;obtain⟨aL,bs,f,a3⟩:=p;refine⟨aL,bs,f,λD Q T0=> ?_⟩;obtain⟨bS,bU,l⟩:=a3 D Q T0;refine⟨?_,⟨bU.1,trivial⟩,l⟩;subst X;have u:Value.pointer (some a)=aq D x:=(by simp[Value.cells,bd]at bS;exact bS);simp only[bd,aq,u]
    ·simp at e
   ·simp at e
  ·simp at e
 ·exact Gq (w:=w) 40 V _ _ _ _ e cs b2 I i
def Gp{nm:List (String×Nat)}(UA:oJ P nm){i6:Nat}:∀(laid:List (String×DataW Unit)) (n:Nat) (b2:List MemPlace),P.globals.size=i6->DataW.LaidVars P w laid b2->lV w b2->
 (∀b off,MemPlace.cell b off∈b2->∀M v,w.cell? ⟨b,off,none⟩=some (.iface M v)->Value.okWide P w .any 0 M v)->BZ C w i6 n (eg P nm laid n):=by
 intro laid;induction laid with
 |nil=>intro n b2 _ _ _ _;exact⟨Zg _,by simp[eg],λ_=>default,λD Q _ _=>by simp[eg]⟩|cons a r U=>
  obtain⟨v0,d⟩:=a;intro n b2 T6 U8 O T4;obtain⟨g,t,cs,fuel,p,V,f,T7,T8,al,I,rfl⟩:=U8;have T9:=O.of λh N=>Zv.2 (.inr N);have T5:=λb off T=>T4 b off (Zv.2 (.inr T));have skip:eg P nm ((v0,d)::r) n=eg P nm r n->BZ C w i6 n (eg P nm ((v0,d)::r) n):=λu=>by rw[u];exact U n V T6 I T9 T5
  simp only[Yr]at T7;obtain⟨U4,G,rfl⟩:=T7;have L:g<i6:=by grind
  have UB:∀M v,cs.toList=[.iface M v]->Value.okWide P w .any 0 M v:=by intro M v T3;obtain⟨ty,TZ,T⟩:=IC f T8;have UE:cs.size=1:=(by have:=congrArg List.length T3;simpa using this);refine T4 g 0 (Zv.2 (.inl (Zv.2 (.inl (xo (a:=⟨g,0,none⟩) (q:=cs.size) Zo))))) M v ?_;have U5:cs[0]? =some (.iface M v):=(by rw[<-Z5,T3];rfl);simp[World.cell?,T,U5]
  cases s:wI P nm U4.type d n with
  |none=>exact skip (by simp[eg,f,G,s])|some UH=>
   obtain⟨l,ak,os⟩:=UH;by_cases UC:0<l.length
   ·have U9:eg P nm ((v0,d)::r) n=((eg P nm r ak).1,(g,th l)::(os++(eg P nm r ak).2)):=(by have:Nat.blt 0 l.length=true:=(by simp;omega);simp[eg,f,G,s,this]);obtain⟨aL,bs,U2,a3⟩:=Sh (C:=C) (w:=w) UA s (cs:=cs.toList) (b2:=p) al (O.of λh N=>Zv.2 (.inl (Zv.2 (.inr N)))) UB;obtain⟨bb,bn,U3,bH⟩:=U ak V T6 I T9 T5;have aL:=aL;rw[U9];refine⟨ZD aL bb, ?_,λb=>if b<ak then U2 b else U3 b, ?_⟩
    ·intro x c;rcases Zq.1 c with rfl|c
     ·exact⟨.inl L,.inl L,A8 l⟩
     ·rcases Zv.1 c with V|V
      ·obtain⟨X,T0,T1⟩:=bs x V;exact⟨.inr X,.inr (ZX T0 bb),T1⟩
      ·obtain⟨X,T0,T1⟩:=bn x V;exact⟨X.imp id (λe=>ZD aL e),T0,T1⟩
    ·intro D Q TY T2;obtain⟨bS,bU,U0⟩:=a3 D Q (λb i m=>by
      have U7:=m;have:=TY b i (ZX m bb);simp only[Zu U7]at this;exact this)
     have U1:=bH D Q (λb i m=>by
      have U6:=zG.2 i;have:=TY b (ZD aL i) m;simp only[Zi U6]at this;exact this) T2
     intro x c;rcases Zq.1 c with rfl|c
     ·obtain⟨UG,UJ⟩:=T2 g L;obtain⟨ty,TZ,T⟩:=IC f T8;have UE:cs.size=l.length:=(by have:=congrArg List.length bS;rw[fH]at this;simpa using this);obtain⟨UI,es,A⟩:=O g 0 (Zv.2 (.inl (Zv.2 (.inl (xo (a:=⟨g,0,none⟩) (q:=cs.size) Zo)))));rw[T]at A;have UD:TZ=(0,0):=(by simp only[Zh,Obj.cells.injEq]at A;exact A.2.2);rw[UD]at T;simp only[UG];refine Bs (pl:=⟨g,0,0⟩) T ?_ bU UC;simp only[Ym];rw[Zy Zx];exact bS
     ·rcases Zv.1 c with V|V
      ·exact U0 x V
      ·exact U1 x V
   ·exact skip (by
     have UF:l.length=0:=Zo;have:Nat.blt 0 l.length=false:=(by rw[UF];rfl);simp[eg,f,G,s,this])
def AD{nm:List (String×Nat)}(p:oJ P nm){laid:List (String×DataW Unit)}{ez:Nat->List y->Option y}(e:laidMet P laid w):
 ∃D Q,bV ⟨P,hX (eg P nm laid P.globals.size).2 .nil,(eg P nm laid P.globals.size).1,ez,P.globals.size⟩ D Q .nil (eg P nm laid P.globals.size).1 w.heap.size w/\
  kT ⟨P,hX (eg P nm laid P.globals.size).2 .nil,(eg P nm laid P.globals.size).1,ez,P.globals.size⟩ D Q:=by
 obtain⟨b2,n,_,l⟩:=e;have s:=λb off T=>(l b off T).1;obtain⟨aL,bs,f,a3⟩:=Gp (C:=⟨P,hX (eg P nm laid P.globals.size).2 .nil,(eg P nm laid P.globals.size).1,ez,P.globals.size⟩) p laid P.globals.size b2 rfl n s (λb off T=>(l b off T).2);generalize x:eg P nm laid P.globals.size=r at aL bs a3 ⊢;obtain⟨aD,os⟩:=r;have i:∀b J,F ⟨P,hX os .nil,aD,ez,P.globals.size⟩ .nil b=some J->(b,J)∈os/\b<aD:=by
  intro b J a;unfold F at a;rw[c3]at a;split at a
  ·rename_i T;rcases Bv b J os .nil a with V|V
   ·grind
   ·simp_all
  ·simp_all
 refine⟨λb=>if b<P.globals.size then⟨b,0,0⟩else f b,λb=>b<aD,⟨Zg _,λ_ e=>e,λb J a=>(i b J a).2, ?_, ?_, ?_, ?_⟩, ?_⟩
 ·intro b J a _;have:=a3 (λb=>if b<P.globals.size then⟨b,0,0⟩else f b) (λb=>b<aD) (λb v m=>⟨by rw[Zi Zo],m⟩) (λg c=>⟨by rw[Zu c],Zo⟩) (b,J) (i b J a).1;exact this
 ·intro b t J dH _ _ d _ _ T;exact absurd d (zG.2 T)
 ·intro b J T _ d;exact absurd d (zG.2 T)
 ·intro b J a _;exact(bs (b,J) (i b J a).1).2.2 _ _
 ·intro g c;have c:g<P.globals.size:=c;exact⟨Zo,by simp[c],by simp[c]⟩
def Env.R7{nm:List (String×Nat)}(p:oJ P nm){laid:List (String×DataW Unit)}{bj:Nat}{fn:Func}(f8:nD P)(m:tD P w)(l:P.funcs[bj]? =some fn)(n:(fn.name== "runtime.NumGoroutine")=false)(T:fn.body=none)(b:Extern.findNext fn=none)
 (d:Extern.find fn=some Extern.BytealgIndexByte.indexByte)(e:laidMet P laid w):
 ∃D Q,Env ⟨P,hX (eg P nm laid P.globals.size).2 .nil,(eg P nm laid P.globals.size).1,oc bj,P.globals.size⟩ w D Q:=by
 obtain⟨D,Q,g,i⟩:=AD p e;refine⟨D,Q,f8,⟨λf args v a=> ?_,λf args v a D w _=> .inl (θ l n T b d a D w)⟩,g,i,m⟩;obtain⟨rfl,s,c,rfl,rfl,r,t⟩:=Hr a;exact⟨⟨λ_ _=>rfl,λ_=>trivial⟩,λ_ _=>rfl,λ_=>⟨r,trivial,trivial⟩⟩
end
open Go.RowKit (Below)
def ob(bj:Nat)(J:Nat->List y->Option y)(f:Nat)(args:List y):Option y:=
 a8 (Nat.beq f bj) (match args with
  |[.str s]=>a8 (nI s&&Nat.ble s.length 281474976710656) (some (.str s)) none|_=>none) (J f args)
section
variable{P:Program}{w:World}
def Hq{bj f:Nat}{J:Nat->List y->Option y}{args:List y}{v:y}(e:ob bj J f args=some v):
 (f=bj/\∃s,args=[.str s]/\v=.str s/\(∀x∈s,x<256)/\s.length<=281474976710656)\/J f args=some v:=by
 unfold ob at e;rw[er]at e;split at e
 ·rename_i u;split at e
  ·rename_i s;simp only[cL,Zt,Zh]at e;exact .inl ⟨u,s,rfl,e.2.symm,yq e.1.1,fu e.1.2⟩
  ·grind
 ·grind
def Env.R6{nm:List (String×Nat)}(x:oJ P nm){laid:List (String×DataW Unit)}{J:Nat->List y->Option y}{bj:Nat}{fn:Func}{c:Code}(p:P.funcs[bj]? =some fn)(A:(fn.name== "runtime.NumGoroutine")=false)(T:fn.body=some c)
 (m:∀(s:ByteArray) (w:World),s.size<=281474976710656->Calls P bj #[.string s] w λu a6=>u=.returned (.string s)/\Below w.heap.size w a6)(e:laidMet P laid w){cn:bT}{co:Nat->Prop}
 (b:Env ⟨P,hX (eg P nm laid P.globals.size).2 .nil,(eg P nm laid P.globals.size).1,J,P.globals.size⟩ w cn co):
 ∃D Q,Env ⟨P,hX (eg P nm laid P.globals.size).2 .nil,(eg P nm laid P.globals.size).1,ob bj J,P.globals.size⟩ w D Q:=by
 obtain⟨D,Q,i,l⟩:=AD x e;refine⟨D,Q,b.f8,⟨λf args v a=> ?_,λf args v a D g n=> ?_⟩,i,l,b.mem⟩
 ·rcases Hq a with ⟨rfl,s,rfl,rfl,d,_⟩|a
  ·exact⟨⟨λ_ _=>rfl,λ_=>d⟩,λ_ _=>rfl,λ_=>⟨d,trivial⟩⟩
  ·exact b.ez.val f args v a
 ·rcases Hq a with ⟨rfl,s,rfl,rfl,d,r⟩|a
  ·right;have t:¬fn.name= "runtime.NumGoroutine":=(by grind);refine⟨by simp[callFunc,p,t,T], ?_⟩;have:=m (dz s) g (by simpa[dz,ByteArray.size]using r);exact this
  ·exact b.ez.ok f args v a D g n
end
open Go.RowKit (Below)
def H3(C:ai):List (Nat×R)->B R->B R
 |[],z=>z|(b,J)::l,z=>H3 C l (aI C z b (some J))
def pick(C:ai)(j:B R):List Nat->List (Nat×R)
 |[]=>[]|b::l=>match F C j b with|some J=>(b,J)::pick C j l|none=>pick C j l
def Fo(C:ai):List Nat->Bool
 |[]=>true|b::l=>eN C b&&Fo C l
def RR(C:ai)(L:List Nat)(j:B R):B R:=H3 C (pick C j L) .nil
def aak(todo:List ci):Bool:=match todo with| .drawn .. ::_=>false|_=>true
def Hd:List d3->Bool
 |[]=>true|c::l=>(match c with|⟨_,_,_,_,todo,_,_,_,_⟩=>(match todo with| .oq .. ::_=>false|_=>true))&&Hd l
def wq(C:ai)(L:List Nat)(b:ey):ey:=λbe todo bj z j k=>match bj with
 |⟨fn,n,ac,aP,ap,ro,cs⟩=>a8 (aak todo&&Hd cs&&Fo C L) (b be todo ⟨fn,n,ac,aP,ap,ro,cs⟩ z (RR C L j) k) none
section
variable{C:ai}{D cn:bT}{Q co:Nat->Prop}{j S':B R}{k aN:Nat}{w:World}
variable{aS:World}{a2:Nat}{bc:List Frame}{v:y}{b:ey}
def io(C:ai)(aS:World)(a2:Nat)(bc:List Frame)(be:gw)(todo:List ci)(bj:e8)(z:B y)(j:B R)(k:Nat)(v:y):Prop:=
 ∀D Q w bP tmps aM aa,p1 C aS a2 bc be todo bj.fn bj.n bj.ac bj.aP bj.ap bj.ro bj.cs z j k D Q w bP tmps aM aa->Ends C aS a2 bc v (lone (bC D bj.fn bj.aP bj.ap bj.ro tmps aM (ea D be)) aa w)
open Classical in
def only(ps:gw)(c:List ci)(a:e8)(iu:B y)(am:B R)(b:Nat)(v:y):ey:=λbe todo bj z j k=>
 if be=ps/\todo=c/\bj=a/\z=iu/\j=am/\k=b then some v else none
end
open Go.RowKit (Below)
def low(Q:Nat->Prop)(N:Nat)(b:Nat):Prop:=Q b/\b<N
section
variable{Q:Nat->Prop}{N:Nat}
end
open Go.RowKit (Below)
section
variable{C:ai}{D cn:bT}{Q co:Nat->Prop}{j S':B R}{k aN N:Nat}{w:World}
variable{aS:World}{a2 g:Nat}{bc:List Frame}{v:y}{b:ey}
open Classical in
def dw(C:ai)(aS:World)(a2:Nat)(bc:List Frame)(v:y):ey:=λbe todo bj z j k=>if io C aS a2 bc be todo bj z j k v then some v else none
def Ey:h0 C aS a2 bc (dw C aS a2 bc v):=by
 intro be todo fn n ac aP ap ro cs z j k M a D Q w bP tmps aM aa b;unfold dw at a;split at a
 ·rename_i e;simp at a;subst a;exact e D Q w bP tmps aM aa b
 ·cases a
def eS{be:gw}{todo:List ci}{bj:e8}{z:B y}(e:io C aS a2 bc be todo bj z j k v):dw C aS a2 bc v be todo bj z j k=some v:=by unfold dw;rw[Zu e]
def Qm{f:ci}{q:List ci}{bj:e8}{z:B y}(g:y.same 30 v v=true):∀l:List (y×B R),l≠[]->(∀M S',(M,S')∈l->∃a,iE f M=some a/\io C aS a2 bc .run (a::q) bj z S' k v)->
 qA (dw C aS a2 bc v) f q bj z k l=some v:=by
 intro l;induction l with|nil=>intro e;exact absurd rfl e|cons p l i=>obtain⟨M,S'⟩:=p;intro _ d;obtain⟨a,b,c⟩:=d M S' (Zp ..);cases l with|nil=>simp only[qA,b];exact eS c|cons V l=>have U:=i Zs (λM S' e=>d M S' (Zw _ e));simp only[qA,b,eS c];rw[U];simp only[g,cE]
end
open Go.RowKit (Below)
abbrev aY:=y->B R->Nat->Prop
abbrev Za0:=ai->y->B R->Nat->aY->aY->Prop
abbrev Za1:=ai->y->y->B R->Nat->aY->aY->Prop
abbrev Za2:=ai->y->y->y->B R->Nat->aY->aY->Prop
abbrev Za3:=ai->y->y->y->y->B R->Nat->aY->aY->Prop
abbrev Za4:=ai->y->y->y->y->y->B R->Nat->aY->aY->Prop
abbrev zW:aY:=λ_ _ _=>False
structure bO where
 g:Nat->Option y
 aP:List eA:=[]
 rc:Bool:=false
instance:CoeFun bO (λ_=>Nat->Option y):=⟨bO.g⟩
def H(z:bO)(d:Nat)(v:y):bO:=⟨λn=>a8 (Nat.beq d n) (some v) (z.g n),z.aP,z.rc⟩
def eH(l:List Nat)(z:bO):bO:=⟨λn=>a8 (gH n l) none (z.g n),z.aP,z.rc⟩
def og(z:bO)(d:eA):bO:=⟨z.g,d::z.aP,z.rc⟩
def xw(z:bO):bO:=⟨z.g,z.aP,true⟩
abbrev dm:=bO->B R->Nat->Prop
abbrev kY:=bO->aY
structure lX where
 rd:Bool
 aP:Bool
 fX:Option (Option y)
def bt{α:Type}(J:Option α)(S:α->Prop):Prop:=Option.rec (motive:=λ_=>Prop) False (λa=>S a) J
def ζ{α:Type}{J:Option α}{S:α->Prop}{a:α}(e:J=some a)(q:S a):bt J S:=by subst e;exact q
def lh{α:Type}{J:Option α}{S:α->Prop}:bt J S↔∃a,J=some a/\S a:=by cases J with|none=>simp[bt]|some a=>simp[bt]
structure Z{α:Type}(J:Option α)(S:α->Prop):Prop where
 out:bt J S
def η{α:Type}(J:Option α)(S:α->Prop):Z J S=bt J S:=propext ⟨λe=>e.out,λe=>⟨e⟩⟩
def dh{α:Type}{J:Option α}{S:α->Prop}{a:α}(e:J=some a)(q:S a):Z J S:=⟨ζ e q⟩
def gu{α:Type}{J:Option α}{S:α->Prop}:Z J S↔∃a,J=some a/\S a:=by rw[η];exact lh
def Ol(v:y)(a b:Prop):Prop:=y.rec (motive_1:=λ_=>Prop) (motive_2:=λ_=>Prop)
 (λt=>(t=true->a)/\(t=false->b)) (λ_ _=>False) (λ_=>False) (λ_ _=>False) False (λ_ _ _ _=>False) (λ_ _ _ _=>False) False (λ_=>False) False
 (λ_ _ _ _ _=>False) False (λ_ _ _=>False) False (λ_ _=>False) (λ_ _=>False) False (λ_ _ _ _=>False) v
structure ao(v:y)(a b:Prop):Prop where
 out:Ol v a b
def ER{v:y}{a b:Prop}(e:ao v a b):∃t,v=.bool t/\(t=true->a)/\(t=false->b):=by have e:=e.out;cases v with|bool t=>exact⟨t,rfl,e⟩|_=>exact e.elim
def QT(want:Bool)(v:y)(a b:Prop):Prop:=y.rec (motive_1:=λ_=>Prop) (motive_2:=λ_=>Prop)
 (λt=>(t=want->a)/\(t=(!want)->b)) (λ_ _=>b) (λ_=>b) (λ_ _=>b) b (λ_ _ _ _=>b) (λ_ _ _ _=>b) b (λ_=>b) b
 (λ_ _ _ _ _=>b) b (λ_ _ _=>b) b (λ_ _=>b) (λ_ _=>b) b (λ_ _ _ _=>b) v
structure e4(want:Bool)(v:y)(a b:Prop):Prop where
 out:QT want v a b
structure iZ(a:aY)(body:aY->Prop):Prop where
 out:body a
def RP(a:aY)(body:aY->Prop):iZ a body=body a:=propext ⟨λe=>e.out,λe=>⟨e⟩⟩
structure aG(a:dm)(body:dm->Prop):Prop where
 out:body a
structure bJ(a:y->Prop)(body:(y->Prop)->Prop):Prop where
 out:body a
structure mi(a:y->B R->Prop)(body:(y->B R->Prop)->Prop):Prop where
 out:body a
def RN(a:y->B R->Prop)(body:(y->B R->Prop)->Prop):mi a body=body a:=propext ⟨λe=>e.out,λe=>⟨e⟩⟩
structure Ap(a:Prop)(body:Prop->Prop):Prop where
 out:body a
def RO(a:Prop)(body:Prop->Prop):Ap a body=body a:=propext ⟨λe=>e.out,λe=>⟨e⟩⟩
def dW{a:dm}{body:dm->Prop}(b:dm)(c:∀E:dm,(∀z j k,b z j k->E z j k)->body E)(d:∀z j k,b z j k->a z j k):aG a body:=⟨c a d⟩
structure cO(n:Nat)(S:Nat->Prop):Prop where
 out:S n
structure dG(C:ai)(j:B R)(k:Nat)(v:y)(bQ:R)(S:aY):Prop where
 out:S v (aI C j k (some bQ)) (k+1)
structure g3(C:ai)(j:B R)(b:Nat)(v:y)(bQ:R)(S:y->B R->Prop):Prop where
 out:S v (aI C j b (some bQ))
structure nM(C:ai)(j:B R)(b:Nat)(a:y)(S:y->B R->Prop):Prop where
 out:S (.ptr b 0) (aI C j b (some (.cells (B.ofList a.cells 0 .nil) a.cells.length .own)))
structure eM(C:ai)(j:B R)(k:Nat)(a:y)(S:aY):Prop where
 out:S (.ptr k 0) (aI C j k (some (.cells (B.ofList a.cells 0 .nil) a.cells.length .own))) (k+1)
section
variable(C:ai)(aS:World)(a2:Nat)(bc:List Frame)(v:y)
def x2(cs:List d3):aY:=λM j k=>lA (dw C aS a2 bc v) false cs M j k=some v
def vC(cs:List d3):aY:=λM j k=>match cs with
 |c::rest=>HO (dw C aS a2 bc v) c rest [⟨M,false⟩] j k=some v|[]=>False
end
def lT(C:ai)(f:Nat)(args:List y)(j:B R)(k:Nat)(aK b7:aY):Prop:=
 ∀(aS:World) (cn:bT) (co:Nat->Prop) (_:Env C aS cn co) (a2:Nat) (bc:List Frame) (v:y) (_:y.same 30 v v=true) (cs:List d3),
  (∀M S' W,aK M S' W->x2 C aS a2 bc v cs M S' W)->(∀M S' W,b7 M S' W->vC C aS a2 bc v cs M S' W)->
  iB (dw C aS a2 bc v) C f args false cs j k=some v
def lT.mono{C:ai}{f:Nat}{args:List y}{j:B R}{k:Nat}{aK b7 a b:aY}(e:lT C f args j k aK b7)(i:∀M j k,aK M j k->a M j k)(l:∀M j k,b7 M j k->b M j k):
 lT C f args j k a b:=
 λaS cn co c a2 bc v m cs d g=>e aS cn co c a2 bc v m cs (λM j k V=>d M j k (i M j k V)) (λM j k V=>g M j k (l M j k V))
def xm(U:ey)(C:ai)(l:Nat)(args:List y)(cs:List d3)(j:B R)(k:Nat):cA:=match F C j l with
 |some (.loop _ _ fn n ac a params assign body _)=>(match nj n params args a with
  |some a=>U .run [.code assign,.beginRound,.code body] ⟨fn,n,ac,[],false,some l,cs⟩ a j k|none=>none)
 |_=>none
def mL(C:ai)(l:Nat)(args:List y)(j:B R)(k:Nat)(aK b7:aY):Prop:=
 ∀(aS:World) (cn:bT) (co:Nat->Prop) (_:Env C aS cn co) (a2:Nat) (bc:List Frame) (v:y) (_:y.same 30 v v=true) (cs:List d3),
  (∀M S' W,aK M S' W->x2 C aS a2 bc v cs M S' W)->(∀M S' W,b7 M S' W->vC C aS a2 bc v cs M S' W)->
  xm (dw C aS a2 bc v) C l args cs j k=some v
def mL.mono{C:ai}{l:Nat}{args:List y}{j:B R}{k:Nat}{aK b7 a b:aY}(e:mL C l args j k aK b7)(g:∀M j k,aK M j k->a M j k)(i:∀M j k,b7 M j k->b M j k):
 mL C l args j k a b:=
 λaS cn co c a2 bc v m cs d f=>e aS cn co c a2 bc v m cs (λM j k V=>d M j k (g M j k V)) (λM j k V=>f M j k (i M j k V))
def BX(C:ai)(f:Nat)(args:List y)(fX:Option y)(j:B R)(k:Nat)(aK:Bool->B R->Nat->Prop):Prop:=
 ∀(aS:World) (cn:bT) (co:Nat->Prop) (_:Env C aS cn co) (a2:Nat) (bc:List Frame) (v:y) (_:y.same 30 v v=true) (fn n ac:Nat) (z:B y) (todo:List ci) (a:List eA) (ap:Bool) (ro:Option Nat) (cs:List d3),
  (∀b S' W,aK b S' W->dw C aS a2 bc v (match fX,b with|none,_=> .returning|some _,true=> .returning|some M,false=> .panicking [⟨M,false⟩]) todo ⟨fn,n,ac,a,ap,ro,cs⟩ z S' W=some v)->
  iB (dw C aS a2 bc v) C f args true (⟨fn,n,ac,z,todo,a,(match fX with|none=> .returning|some M=> .panicking [⟨M,false⟩]),ap,ro⟩::cs) j k=some v
structure az(C:ai)(f:Nat)(args:List y)(j:B R)(k:Nat)(S ab:aY):Prop where
 out:(∃M,C.ez f args=some M/\S M j k)\/(C.ez f args=none/\(∃fn c,C.P.funcs[f]? =some fn/\fn.body=some c)/\lT C f args j k S ab)
structure AY(C:ai)(j:B R)(a:List y)(k:Nat)(S:aY):Prop where
 out:∃S',p7 C j a=some S'/\S (.tuple []) S' k
structure d6(J:Option cj)(j:B R)(k:Nat)(S:aY):Prop where
 out:match J with
 |some (.val v)=>S v j k|some (.cJ v S' W)=>S v S' W|_=>False
def aaR(J:Option cj)(j:B R)(k:Nat)(S:aY):d6 J j k S=(match J with
 |some (.val v)=>S v j k|some (.cJ v S' W)=>S v S' W|_=>False):=propext ⟨λe=>e.out,λe=>⟨e⟩⟩
def HT{J:Option cj}{j:B R}{k:Nat}{S:aY}{v:y}(e:J=some (.val v))(q:S v j k):d6 J j k S:=by subst e;exact⟨q⟩
def d7{J:Option cj}{j S':B R}{k W:Nat}{S:aY}{v:y}(e:J=some (.cJ v S' W))(q:S v S' W):d6 J j k S:=by subst e;exact⟨q⟩
structure n0(J:Option cj)(j:B R)(k:Nat)(S:aY):Prop where
 out:match J with
 |some (.val v)=>S v j k|some (.cJ v S' W)=>S v S' W|some (.fork l)=>l≠[]/\∀M S',(M,S')∈l->S M S' k|_=>False
def Qo(J:Option cj)(j:B R)(k:Nat)(S:aY):n0 J j k S=(match J with
 |some (.val v)=>S v j k|some (.cJ v S' W)=>S v S' W|some (.fork l)=>l≠[]/\∀M S',(M,S')∈l->S M S' k|_=>False):=propext ⟨λe=>e.out,λe=>⟨e⟩⟩
def oS(C:ai)(rd:Bool)(J:Option cj)(j:B R)(k:Nat)(S ab:aY):Prop:=match J with
 |some (.val v)=>S v j k|some (.cJ v S' W)=>S v S' W|some (.enter f args)=>lT C f args j k S ab|some (.round l args)=>mL C l args j k S ab|some (.known _ _ v)=>S v j k|some (.wrote _ _ S')=>S (.tuple []) S' k|some (.panic v)=>a8 rd False (ab v j k)|some (.fork l)=>l≠[]/\∀M S',(M,S')∈l->S M S' k|_=>False
def fI(x:gc)(ad:List (Nat×y))(z:bO)(S:y->Prop):Prop:=
 gc.rec (motive:=λ_=>Prop) (λE=>bt (cH ad E) S) (λn=>bt (z n) S) (λa=>S a) x
def wg(ad:List (Nat×y))(z:bO)(l:List gc):(List y->Prop)->Prop:=
 List.rec (motive:=λ_=>(List y->Prop)->Prop) (λS=>S []) (λx _ U S=>fI x ad z λa=>U λr=>S (a::r)) l
def cP(bi:List (Nat×Nat))(ad:List (Nat×y))(z:bO)(J:Operand)(S:y->Prop):Prop:=match J with
 | .tmp t=>(match cH bi t with|some E=>bt (cH ad E) S|none=>bt (z t) S)| .const v=>bt (rf v) S| .global g=>S (.ptr g 0)| .func f=>S (.func (.func f) [] [])
def lg(bi:List (Nat×Nat))(ad:List (Nat×y))(z:bO)(l:List Operand):(List y->Prop)->Prop:=
 List.rec (motive:=λ_=>(List y->Prop)->Prop) (λS=>S []) (λx _ U S=>cP bi ad z x λa=>U λr=>S (a::r)) l
def pB(bi:List (Nat×Nat))(ad:List (Nat×y))(z:bO)(l:List (Nat×Operand)):(List (Nat×y)->Prop)->Prop:=
 List.rec (motive:=λ_=>(List (Nat×y)->Prop)->Prop) (λS=>S []) (λx _ U S=>cP bi ad z x.2 λa=>U λr=>S ((x.1,a)::r)) l
def w5(bi:List (Nat×Nat))(ad:List (Nat×y))(z:bO)(J:Option Operand)(S:Option y->Prop):Prop:=match J with
 |none=>S none|some x=>cP bi ad z x λa=>S (some a)
def fB:Operand:=.global 0
def dI:Operand:=.global 1
def f7:Operand:=.global 2
def eY(a:y):Operand->Option y:=λ_=>some a
def two(a b:y):Operand->Option y:=λJ=>match J with| .global 0=>some a|_=>some b
def Io(a b c:y):Operand->Option y:=λJ=>match J with| .global 0=>some a| .global 1=>some b|_=>some c
def sL(n aO:Nat)(a i:y):Option y:=match hg i with|some i=>vh n aO a i|none=>none
def da(aO:Nat)(a i:y):Option y:=match hg i with|some i=>pM aO a i|none=>none
def FG(C:ai)(t f:Nat)(a:y):Option y:=uD C t fB f .nil (eY a)
def E8(C:ai)(j:B R)(s d:Nat)(a:y):Option y:=uC C s d fB j (eY a)
def Gb(C:ai)(t:Nat)(a:y):Option y:=uE C t fB .nil (eY a)
def EH(C:ai)(t:Nat)(ok:Bool)(a:y):Option y:=uB C fB t ok .nil (eY a)
def qu(C:ai)(j:B R)(a:y):Option y:=sO C fB j (eY a)
def jo(C:ai)(j:B R)(b:Builtin)(bN:List TypeId)(aF:List y):Option y:=match b,aF with
 | .len,[x]=>(match bN with|t::_=>vJ C j t x|_=>none)| .cap,[x]=>(match bN with|t::_=>vG C t x|_=>none)| .max,x::l=>h2 true x l| .min,x::l=>h2 false x l|_,_=>none
def cN(C:ai)(j:B R)(s:Nat)(a v:y):Option (B R):=match a with
 | .ptr b J=>a8 (Nat.beq v.cells.length s&&Nat.blt 0 s) (gX C j b J v.cells) none|_=>none
def kx(C:ai)(j:B R)(k:Nat)(b:Builtin)(bN:List TypeId)(aF:List y):Option cj:=match b,aF with
 | .append,[s,x]=>(match bN with
   |st::e1::_=>(match C.P.underlying e1 with
    |some (.int _)=>(match hg x with|some n=>vH C j k st s n|none=>none)|some (.slice _)=>sg C j k st s x|some .string=>sg C j k st s x|_=>none)
   |_=>none)
 | .clear,[x]=>(match bN with|t::_=>tI C j k t x|_=>none)| .delete,[m,q]=>(match bN with|t::_=>sh C j k t m q|_=>none)|_,_=>none
structure e5(C:ai)(c:y)(a:List y)(j:B R)(k:Nat)(S ab:aY):Prop where
 out:match c with
 | .func fn first b=>(match fn with| .func f=>az C f ((first++a)++b) j k S ab| .yield l=>mL C l (first++a) j k S ab|_=>False)|_=>False
def xy(C:ai)(t len:Nat)(b2:List (Nat×y))(b:Nat):Option (y×R):=match C.P.underlying t with
 |some (.slice cp)=>(match fd C cp,kf C cp with
  |some s,some aw=>a8 (Nat.ble (len*s) 16777216&&Nat.beq aw.cells.length s) ((match o4 (λi=>some (i*s,s)) (fc len aw.cells) b2 with
    |some cs=>some (y.slice b 0 len len,R.cells (B.ofList cs 0 .nil) cs.length .own)|none=>none))<|none
  |_,_=>none)
 |_=>none
structure ms(ab:aY)(a:y)(j:B R)(k:Nat):Prop where
 out:match a with| .iface t v=>ab (.iface t v) j k|_=>False
def τ(ab:aY)(a:y)(j:B R)(k:Nat):ms ab a j k=(match a with| .iface t v=>ab (.iface t v) j k|_=>False):=propext ⟨λe=>e.out,λe=>⟨e⟩⟩
structure jA(C:ai)(rd:Bool)(b:y)(name:String)(a:List y)(j:B R)(k:Nat)(S ab:aY):Prop where
 out:match b with
 | .iface t v=>oS C rd (jm C j t v name a) j k S ab|_=>False
def S3(C:ai)(rd:Bool)(b:y)(name:String)(a:List y)(j:B R)(k:Nat)(S ab:aY):jA C rd b name a j k S ab=(match b with
 | .iface t v=>oS C rd (jm C j t v name a) j k S ab|_=>False):=propext ⟨λe=>e.out,λe=>⟨e⟩⟩
def Gw(bi:List (Nat×Nat))(J:Op):ai->B R->List (Nat×y)->bO->(y->Prop)->Prop:=match J with
 | .build t r=>λC _ ad z S=>pB bi ad z r.toList λb2=>Z (vF C t b2) S| .binOp op t x h _=>λC j ad z S=>cP bi ad z x λa=>cP bi ad z h λb=>Z (b0 C j op t (j0 x||j0 h) a b) S| .unOp op _ x=>λ_ _ ad z S=>cP bi ad z x λa=>Z (dP op a) S| .convert s d x=>λC j ad z S=>cP bi ad z x λa=>Z (E8 C j s d a) S| .makeInterface t x=>λC _ ad z S=>cP bi ad z x λa=>Z (Gb C t a) S| .makeFunc fn first g=>λ_ _ ad z S=>(match fn with
   | .func f=>lg bi ad z first.toList λa=>lg bi ad z g.toList λb=>S (.func (.func f) a b)|_=>False)
 | .slice t x aW af p=>λC j ad z S=>cP bi ad z x λa=>w5 bi ad z aW λl=>w5 bi ad z af λe=>w5 bi ad z p λm=>Z (vL C j t a l e m) S| .field t x f=>λC _ ad z S=>cP bi ad z x λa=>Z (FG C t f a) S| .index t x i=>λC _ ad z S=>cP bi ad z x λa=>cP bi ad z i λb=>Z (vI C t a b) S| .lookup t m q ok=>λC j ad z S=>cP bi ad z m λa=>cP bi ad z q λb=>Z (vK C j t a b ok) S| .typeAssert x _ t ok=>λC _ ad z S=>cP bi ad z x λa=>Z (EH C t ok a) S| .entry n=>λC j ad z S=>cP bi ad z n λa=>Z (qu C j a) S| .call c=>λC j ad z S=>(match c with
   |⟨.builtin b,args,bN⟩=>lg bi ad z args.toList λaF=>Z (jo C j b bN.toList aF) S|_=>False)
 |_=>λ_ _ _ _ _=>False
def sR(op:fM):ai->B R->List (Nat×y)->bO->(y->Prop)->Prop:=match op with
 | .q5 x=>λ_ _ ad z S=>fI x ad z S| .pick c a b=>λ_ _ ad z S=>fI c ad z λc=>bJ S λS=>ao c (fI a ad z S) (fI b ad z S)| .df a=>λC j ad z S=>fI a ad z λa=>Z (ay C j a) S| .pk n a=>λC j ad z S=>fI a ad z λa=>Z (b4 C j n a) S| .off d x=>λ_ _ ad z S=>fI x ad z λa=>Z (d2 d a) S| .pf n aO x i=>λ_ _ ad z S=>fI x ad z λa=>fI i ad z λi=>Z (sL n aO a i) S| .pg aO x i=>λ_ _ ad z S=>fI x ad z λa=>fI i ad z λi=>Z (da aO a i) S| .q8 x=>λ_ _ ad z S=>fI x ad z λa=>Z (hm a) S| .uv op x h=>λ_ _ ad z S=>fI x ad z λa=>fI h ad z λb=>Z (aH op a b) S| .ext i x=>λ_ _ ad z S=>fI x ad z λa=>Z (hH i a) S| .eP bi J=>Gw bi J|_=>λ_ _ _ _ _=>False
def GH(op:fM):ai->B R->Nat->List (Nat×y)->bO->aY->Prop:=match op with
 | .make bi J=>(match J with
   | .alloc t=>λC j b _ _ S=>Z (qZ C t (eY undef) b) λr=>dG C j b r.1 r.2 S| .box _ x=>λC j b ad z S=>cP bi ad z x λa=>eM C j b a S| .buildSlice t len c=>λC j b ad z S=>pB bi ad z c.toList λb2=>Z (xy C t len b2 b) λr=>dG C j b r.1 r.2 S| .makeMap _ none=>λC j b _ _ S=>dG C j b (.map b) (.map [] 0) S|_=>λ_ _ _ _ _ _=>False)
 |_=>λ_ _ _ _ _ _=>False
def AW(op:fM):ai->B R->Nat->List (Nat×y)->bO->(y->B R->Prop)->Prop:=match op with
 | .make bi J=>(match J with
   | .alloc t=>λC j b _ _ S=>Z (qZ C t (eY undef) b) λr=>g3 C j b r.1 r.2 S| .box _ x=>λC j b ad z S=>cP bi ad z x λa=>nM C j b a S| .buildSlice t len c=>λC j b ad z S=>pB bi ad z c.toList λb2=>Z (xy C t len b2 b) λr=>g3 C j b r.1 r.2 S| .makeMap _ none=>λC j b _ _ S=>g3 C j b (.map b) (.map [] 0) S|_=>λ_ _ _ _ _ _=>False)
 |_=>λ_ _ _ _ _ _=>False
def Ah(rd:Bool)(op:fM):ai->B R->Nat->List (Nat×y)->bO->aY->aY->Prop:=match op with
 | .st n a v=>λC j k ad z S _=>fI a ad z λa=>fI v ad z λv=>Z (cN C j n a v) λj=>S undef j k| .call f args=>λC j k ad z S ab=>wg ad z args λg=>a8 (sJ C f) (AY C j g k S) (az C f g j k S ab)| .dc bi J=>(match J with
   | .mapUpdate t m q x=>λC j k ad z S _=>cP bi ad z m λa=>cP bi ad z q λb=>cP bi ad z x λc=>d6 (tJ C j k t a b c) j k S| .insert t m q x=>λC j k ad z S _=>cP bi ad z m λa=>cP bi ad z q λb=>cP bi ad z x λc=>d6 (tJ C j k t a b c) j k S| .mapEntry t m q=>λC j k ad z S _=>cP bi ad z m λa=>cP bi ad z q λb=>d6 (uq C t fB dI j k (two a b)) j k S| .entryStore _ m s x=>λC j k ad z S _=>cP bi ad z m λa=>cP bi ad z s λb=>cP bi ad z x λc=>d6 (un C fB dI f7 j k (Io a b c)) j k S| .makeSlice t l c=>λC j k ad z S _=>cP bi ad z l λa=>cP bi ad z c λb=>d6 (up C t fB dI j k (two a b)) j k S| .makeMap t (some r)=>λC j k ad z S _=>cP bi ad z r λa=>d6 (uo C t fB j k (eY a)) j k S| .convert s d x=>λC j k ad z S _=>cP bi ad z x λa=>d6 (us C s d fB j k (eY a)) j k S| .range t x=>λC j k ad z S _=>cP bi ad z x λa=>d6 (ur C t fB j k (eY a)) j k S| .next w p=>λC j k ad z S _=>cP bi ad z w λa=>n0 (iW C fB p j k (eY a)) j k S| .panic x=>λ_ j k ad z _ ab=>a8 rd False (cP bi ad z x λa=>ms ab a j k)| .call c=>λC j k ad z S ab=>(match c with
     |⟨.value f,args,_⟩=>cP bi ad z f λi=>lg bi ad z args.toList λg=>e5 C i g j k S ab|⟨.builtin b,args,bN⟩=>lg bi ad z args.toList λaF=>d6 (kx C j k b bN.toList aF) j k S|⟨.invoke r name,args,_⟩=>cP bi ad z r λA=>lg bi ad z args.toList λg=>jA C rd A name g j k S ab)
   |_=>λ_ _ _ _ _ _ _=>False)
 |_=>λ_ _ _ _ _ _ _=>False
def Bc(rd:Bool)(op:fM)(C:ai)(j:B R)(k:Nat)(ad:List (Nat×y))(z:bO)(S ab:aY):Prop:=match hz op with
 | .eP=>sR op C j ad z λv=>S v j k| .make=>GH op C j k ad z S| .dc=>Ah rd op C j k ad z S ab
inductive Spec where
 |no|defer (bi:List (Nat×Nat)) (f:Operand) (args:List Operand)|recover
def rC(op:fM):Spec:=match op with
 | .dc bi J=>(match J with
   | .defer c=>(match c with|⟨.value f,args,_⟩=> .defer bi f args.toList|_=> .no)| .call c=>(match c with|⟨.builtin b,args,_⟩=>(match b,args.toList with| .recover,[]=> .recover|_,_=> .no)|_=> .no)|_=> .no)
 |_=> .no
def t6(c:y)(a:List y)(z:bO)(S:bO->Prop):Prop:=match c with
 | .func fn first b=>S (og z ⟨.fn fn b,first++a⟩)|_=>False
def u4(fX:Option (Option y))(z:bO)(S:y->bO->Prop):Prop:=match fX with
 |none=>False|some none=>S .nilIface z|some (some M)=>a8 z.rc (S .nilIface z) (S M (xw z))
def xI(g:Option (Nat×Bool))(ad:List (Nat×y))(a b:Prop):Prop:=match g with
 |none=>a|some (E,want)=>bt (cH ad E) λv=>e4 want v a b
def xK(g:Option (Nat×Bool))(ad:List (Nat×y))(b:aY->Prop)(a:aY)(j:B R)(k:Nat):Prop:=match g with
 |none=>b a|some (E,want)=>iZ a λS=>bt (cH ad E) λv=>e4 want v (b S) (S undef j k)
def kJ(g:Option (Nat×Bool))(ad:List (Nat×y))(b:(y->B R->Prop)->Prop)(a:y->B R->Prop)(j:B R):Prop:=match g with
 |none=>b a|some (E,want)=>mi a λS=>bt (cH ad E) λv=>e4 want v (b S) (S undef j)
def BO(g:Option (Nat×Bool))(ad:List (Nat×y))(b:Prop->Prop)(a:Prop):Prop:=match g with
 |none=>b a|some (E,want)=>Ap a λS=>bt (cH ad E) λv=>e4 want v (b S) S
def IG(g:Option (Nat×Bool))(ad:List (Nat×y))(b:aY->Prop)(a:aY)(j:B R)(k:Nat):xK g ad b a j k=xI g ad (b a) (a undef j k):=by cases g with|none=>rfl|some p=>exact RP _ _
def acZ(g:Option (Nat×Bool))(ad:List (Nat×y))(b:(y->B R->Prop)->Prop)(a:y->B R->Prop)(j:B R):kJ g ad b a j=xI g ad (b a) (a undef j):=by cases g with|none=>rfl|some p=>exact RN _ _
def ac0(g:Option (Nat×Bool))(ad:List (Nat×y))(b:Prop->Prop)(a:Prop):BO g ad b a=xI g ad (b a) a:=by cases g with|none=>rfl|some p=>exact RO _ _
def ug(l:List (Nat×Nat)):List (Nat×y)->bO->(bO->Prop)->Prop:=
 List.rec (motive:=λ_=>List (Nat×y)->bO->(bO->Prop)->Prop) (λ_ z S=>S z)
  (λp _ U ad z S=>bt (cH ad p.1) λv=>U ad (H z p.2 v) S) l
def ry(C:ai)(be:lX)(fin:List (Nat×Nat))(S:dm)(ab:kY)(rest:List de):List (Nat×y)->bO->B R->Nat->Prop:=
 List.rec (motive:=λ_=>List (Nat×y)->bO->B R->Nat->Prop) (λad z j k=>ug fin ad z λz=>S z j k)
  (λx _ U ad z j k=>match rC x.op with
   | .no=>xK x.g ad (λS=>Bc be.rd x.op C j k ad z S (ab z)) (λv j k=>U ((x.i,v)::ad) z j k) j k| .defer bi f args=>a8 (x.g.isNone&&be.aP) (cP bi ad z f λb=>lg bi ad z args λa=>t6 b a z λz=>U ((x.i,undef)::ad) z j k) False| .recover=>a8 (x.g.isNone&& !be.rd) (u4 be.fX z λv z=>U ((x.i,v)::ad) z j k) False) rest
def wL(C:ai)(base:Nat)(z:bO)(l:List de):List (Nat×y)->B R->(List (Nat×y)->B R->Prop)->Prop:=
 List.rec (motive:=λ_=>List (Nat×y)->B R->(List (Nat×y)->B R->Prop)->Prop) (λad j S=>S ad j)
  (λx _ U ad j S=>kJ x.g ad (λE=>match hz x.op with
   | .make=>AW x.op C j (base+x.i) ad z E|_=>sR x.op C j ad z λv=>E v j) (λv j=>U ((x.i,v)::ad) j S) j) l
structure d8(x:y)(J:Option y)(S:Prop):Prop where
 out:bt J λM=>y.same 30 x M=true/\S
def Bj(C:ai)(z:bO)(ad:List (Nat×y))(j:B R)(l:List de):Prop->Prop:=
 List.rec (motive:=λ_=>Prop->Prop) (λS=>S) (λx _ U S=>BO x.g ad (λV=>sR x.op C j ad z λv=>d8 v (cH ad x.i) V) (U S)) l
def yW(C:ai)(rd:Bool)(base:Nat)(fin:List (Nat×Nat))(z:bO)(S:dm)(ab:aY)(gT:List mN):List (Nat×y)->B R->Nat->Prop:=
 List.rec (motive:=λ_=>List (Nat×y)->B R->Nat->Prop) (λ_ _ _=>False)
  (λs _ U ad j k=>wL C base z s.lK ad j λad j=>Bj C z ad j s.Bi (match s.dc with
   |none=>ug fin ad z λz=>S z j k|some e=>xK e.g ad (λS=>Ah rd e.op C j k ad z S ab) (λv j k=>U ((e.i,v)::ad) j k) j k)) gT
structure cx(body:dm->dm)(z:bO)(j:B R)(k:Nat):Prop where
 out:∃a:Nat->dm,(∃m,a m z j k)/\∀m z j k,a m z j k->body (λz j k=>∃b,b<m/\a b z j k) z j k
def qv(id:Nat)(S:dm)(u:Nat->dm):Nat->dm:=λa=>a8 (Nat.beq id a) S (u a)
def yZ(J:Operand)(z:bO)(S:y->Prop):Prop:=cP [] [] z J S
def aaO(C:ai)(n ac:Nat)(be:lX)(ab:kY)(ae:Array Oper)(a:Bool)(S:dm):dm:=λz j k=>Bool.rec (motive:=λ_=>Prop)
 (bt (uP C n ae ac) λr=>ry C be r.fin S (λz=>ab (eH (dstsOf ae.toList) z)) r.rest [] z j k)
 (bt (uO C n ae ac) λr=>cO (k+ae.size) λW=>yW C be.rd k r.fin z S (ab (eH (dstsOf ae.toList) z)) r.gT [] j W) a
def tl(n:Nat):List Nat->List y->bO->(bO->Prop)->Prop
 |[],[],z,S=>S z|p::b2,a::b,z,S=>a8 (Nat.blt p n) (tl n b2 b (H z p a) S) False|_,_,_,_=>False
structure Oh(C:ai)(l:Nat)(mk:LoopState->Option Code->R)(j:B R)(q:Prop):Prop where
 here:F C j l=some (mk .ready none)
 go:q
structure wb(C:ai)(l:Nat)(mk:LoopState->Option Code->R)(st:LoopState)(p:Option Code)(b:Bool)(S:aY)(j:B R)(k:Nat):Prop where
 here:∃c a,F C j l=some (mk c a)
 go:S (.bool b) (aI C j l (some (mk st p))) k
abbrev vw:=lX->kY->dm->(Nat->dm)->dm->dm
def pt:lX:=⟨true,false,none⟩
def ll(C:ai)(A aN:vw)(l:Nat)(mk:LoopState->Option Code->R)(S ab:aY):dm:=λz j k=>
 A pt (λ_=>ab) (λz j k=>Oh C l mk j (aN pt (λ_=>ab) (λ_ j k=>wb C l mk .ready none true S j k) (λid _ j k=>wb C l mk .done (some (.exit id)) false S j k)
   (λ_ j k=>wb C l mk .done (some .ret) false S j k) z (aI C j l (some (mk .busy none))) k)) (λ_ _ _ _=>False) (λ_ _ _=>False) z j k
def HE(p:Option Code)(S:dm)(u:Nat->dm)(r:dm):dm:=match p with
 |none=>S|some c=>(match c with| .exit id=>u id| .ret=>r|_=>λ_ _ _=>False)
def n7(z:bO)(k:Nat):bO:=og z ⟨.collected k,[]⟩
structure ru(C:ai)(n:Nat)(d:y)(params:List Nat)(b7:Nat->(LoopState->Option Code->R)->aY->aY->dm)(S:dm)(u:Nat->dm)(r:dm)(ab:kY)(z:bO)(j:B R)(k:Nat):Prop where
 low:C.aD<=k
 out:match d with
  | .func fn first c=>(match fn with
    | .func g=>∀mk:LoopState->Option Code->R,
       (∀args S' W a b,F C S' (k+1)=some (mk .ready none)->tl n params args z (λiu=>b7 (k+1) mk a b iu S' W)->mL C (k+1) args S' W a b)->
       lT C g (first++[.func (.yield (k+1)) [] []]++c) (aI C (aI C j k (some (.deferred (some [])))) (k+1) (some (mk .ready none))) (k+2)
        (λ_ S' W=>∃st p,st≠ .busy/\F C S' (k+1)=some (mk st p)/\HE p S u r (n7 z k) (aI C S' (k+1) (some (mk .exhausted p))) W)
        (ab (n7 z k))
    |_=>False)
  |_=>False
def mT(C:ai)(n ac:Nat)(c:Code):vw:=
 Code.rec (motive:=λ_=>vw)
  (λ_ _ S _ _=>S)
  (λ_ ae d be ab S _ _=>aaO C n ac be ab ae d S)
  (λ_ _ b a be ab S u r=>b be ab (a be ab S u r) u r)
  (λc _ _ b a be ab S u r z j k=>yZ c z λv=>aG S λS=>ao v (b be ab S u r z j k) (a be ab S u r z j k))
  (λid _ a be ab S u r z j k=>aG S λS=>a be ab S (qv id S u) r z j k)
  (λ_ a be ab _ u r=>cx λg=>a be ab g u r)
  (λf params _ _ b a be ab S u r z j k=>a8 be.aP (yZ f z λi=>ru C n i params.toList (ll C b a) S u r ab z j k) False)
  (λid _ _ _ u _=>u id)
  (λ_ a be ab S u r=>a be ab S u r)
  (λ_ _ _ S _ _=>S)
  (λ_ _ _ _ _ _ _ _ _=>False)
  (λ_ _ _ _ r=>r)
  (λ_ _ _ _ _ _ _ _ _=>False) c
def j8(C:ai)(j:B R)(z:bO)(l:List ResultVar):(List y->Prop)->Prop:=
 List.rec (motive:=λ_=>(List y->Prop)->Prop) (λS=>S [])
  (λx _ U S=>ResultVar.rec (motive:=λ_=>Prop) (λt=>bt (z t) λv=>U λr=>S (v::r)) (λa t=>bt (z a) λp=>Z (gW C j t p) λv=>U λr=>S (v::r)) x) l
def bI(l:List y):bO:=⟨λn=>kE l n,[],false⟩
structure lD(C:ai)(fn:Fn)(a:List y)(fX:Option y)(j:B R)(k:Nat)(aK:Bool->B R->Nat->Prop):Prop where
 out:match fn with
  | .func f=>C.ez f a=none/\(∃fn c,C.P.funcs[f]? =some fn/\fn.body=some c)/\BX C f a fX j k aK|_=>False
structure He(C:ai)(r:Nat)(j:B R)(q:Prop):Prop where
 low:C.aD<=r
 here:F C j r=some (.deferred (some []))
 go:q
def ic(C:ai)(b:List ResultVar)(aK:aY)(z:bO)(a:List eA):B R->Nat->Prop:=
 List.rec (motive:=λ_=>B R->Nat->Prop) (λj k=>j8 C j z b λaF=>aK (one aF) j k)
  (λd _ U j k=>match d.target with
   | .collected r=>He C r j (U (aI C j r (some (.deferred none))) k)| .fn fn cap=>lD C fn (d.args++cap) none j k λ_ j k=>U j k) a
def nc(C:ai)(c:List ResultVar)(aK b7:aY)(z:bO)(M:y):List eA->B R->Nat->Prop
 |[],j,k=>b7 M j k|d::a,j,k=>match d.target with
   | .collected r=>He C r j (nc C c aK b7 z M a (aI C j r (some (.deferred none))) k)| .fn fn cap=>lD C fn (d.args++cap) (some M) j k λb j k=>a8 b (ic C c aK z a j k) (nc C c aK b7 z M a j k)
def sY:lX:=⟨false,false,none⟩
def ps:lX:=⟨false,true,none⟩
def o5(C:ai)(f:Nat)(args:List y)(j:B R)(k:Nat)(aK b7:aY):Prop:=match C.P.funcs[f]? with
 |some fn=>(match fn.body with
  |some c=>mT C fn.ntmps (Nat.lor (gR c) (j7 fn.results.toList)) c ps (λz M j k=>nc C fn.results.toList aK b7 z M z.aP j k) (λz j k=>ic C fn.results.toList aK z z.aP j k) (λ_ _ _ _=>False)
    (λz j k=>ic C fn.results.toList aK z z.aP j k) (bI args) j k
  |none=>False)
 |none=>False
def nZ(C:ai)(f:Nat)(args:List y)(fX:Option y)(j:B R)(k:Nat)(aK:Bool->B R->Nat->Prop):Prop:=match C.P.funcs[f]? with
 |some fn=>(match fn.body with
  |some c=>mT C fn.ntmps (Nat.lor (gR c) (j7 fn.results.toList)) c ⟨false,false,some fX⟩ (λ_ _ _ _=>False) (λz j k=>j8 C j z fn.results.toList λ_=>aK z.rc j k) (λ_ _ _ _=>False)
    (λz j k=>j8 C j z fn.results.toList λ_=>aK z.rc j k) (bI args) j k
  |none=>False)
 |none=>False
def bL(C:ai)(f:Nat)(args:List y)(j:B R)(k:Nat)(aK b7:aY):Prop:=match C.P.funcs[f]? with
 |some fn=>(match fn.body with
  |some c=>mT C fn.ntmps (Nat.lor (gR c) (j7 fn.results.toList)) c sY (λ_=>b7) (λz j k=>j8 C j z fn.results.toList λaF=>aK (one aF) j k) (λ_ _ _ _=>False)
    (λz j k=>j8 C j z fn.results.toList λaF=>aK (one aF) j k) (bI args) j k
  |none=>False)
 |none=>False
def bD(C:ai)(f a:Nat):Bool:=match C.P.funcs[f]? with
 |some fn=>(match fn.body with
  |some c=>Nat.ble a fn.ntmps&&gZ C (Nat.lor (gR c) (j7 fn.results.toList)) c&&oh (Nat.lor (gR c) (j7 fn.results.toList)) fn.results.toList|none=>false)
 |none=>false
def dM(z1:ai)(z2:Nat)(z3:List y)(Fd:B R->Nat->aY->aY->Prop):Prop:=bD z1 z2 z3.length=true/\bL z1 z2 z3=Fd
open Go.RowKit (Below)
def eo(z:bO)(t:B y):Prop:=∀n v,z.g n=some v->t.get n=some v
section
variable{C:ai}{j:B R}{k:Nat}{ad:List (Nat×y)}{z:bO}{t:B y}
def iC(e:eo z t){x:gc}{S:y->Prop}(b:fI x ad z S):∃a,gD x ad t=some a/\S a:=by
 cases x with
 |v E=>exact lh.1 b|t n=>obtain⟨a,d,f⟩:=lh.1 (show bt (z n) S from b);exact⟨a,e n a d,f⟩
 |c a=>exact⟨a,rfl,b⟩
def PZ(e:eo z t):∀{l:List gc}{S:List y->Prop},wg ad z l S->∃c,o1 ad t l=some c/\S c:=by intro l;induction l with|nil=>intro S b;exact⟨[],rfl,b⟩|cons x l U=>intro S b;obtain⟨a,d,f⟩:=iC e (show fI x ad z (λa=>wg ad z l λr=>S (a::r)) from b);obtain⟨r,g,i⟩:=U f;exact⟨a::r,by simp[o1,d,g],i⟩
def ev(e:eo z t){bi:List (Nat×Nat)}{J:Operand}{S:y->Prop}(b:cP bi ad z J S):∃a,fw bi ad t J=some a/\S a:=by
 cases J with
 |tmp n=>
  simp only[cP]at b;simp only[fw];cases c:cH bi n with
  |some E=>simp only[c]at b ⊢;exact lh.1 b|none=>simp only[c]at b ⊢;obtain⟨a,d,i⟩:=lh.1 b;exact⟨a,e n a d,i⟩
 |const v=>exact lh.1 b|global g=>exact⟨_,rfl,b⟩|func f=>exact⟨_,rfl,b⟩
def rl(e:eo z t){bi:List (Nat×Nat)}:∀{l:List Operand}{S:List y->Prop},lg bi ad z l S->∃c,jT (fw bi ad t) l=some c/\S c:=by intro l;induction l with|nil=>intro S b;exact⟨[],rfl,b⟩|cons x l U=>intro S b;obtain⟨a,d,f⟩:=ev e (show cP bi ad z x (λa=>lg bi ad z l λr=>S (a::r)) from b);obtain⟨r,g,i⟩:=U f;exact⟨a::r,by simp[jT,d,g],i⟩
def Bf(e:eo z t){bi:List (Nat×Nat)}:∀{l:List (Nat×Operand)}{S:List (Nat×y)->Prop},pB bi ad z l S->∃c,nW (fw bi ad t) l=some c/\S c:=by intro l;induction l with|nil=>intro S b;exact⟨[],rfl,b⟩|cons x l U=>intro S b;obtain⟨i,J⟩:=x;obtain⟨a,d,f⟩:=ev e (show cP bi ad z J (λa=>pB bi ad z l λr=>S ((i,a)::r)) from b);obtain⟨r,g,m⟩:=U f;exact⟨(i,a)::r,by simp[nW,d,g],m⟩
def Ba(e:eo z t){bi:List (Nat×Nat)}{J:Option Operand}{S:Option y->Prop}(b:w5 bi ad z J S):∃a,pA (fw bi ad t) J=some a/\S a:=by cases J with|none=>exact⟨none,rfl,b⟩|some x=>obtain⟨a,c,d⟩:=ev e (show cP bi ad z x (λa=>S (some a)) from b);exact⟨some a,by simp[pA,c],d⟩
def St(e:eo z t){bi:List (Nat×Nat)}{J:Op}{S:y->Prop}(w:Gw bi J C j ad z S):∃v,ix J C j (fw bi ad t)=some v/\S v:=by
 cases J with
 |build ty T0=>obtain⟨b2,g,n⟩:=Bf e (show pB bi ad z T0.toList _ from w);obtain⟨v,p,r⟩:=(gu.1 n);exact⟨v,by simp[ix,Av,g,p],r⟩
 |binOp op ty x h T4=>obtain⟨a,g,n⟩:=ev e (show cP bi ad z x _ from w);obtain⟨b,p,r⟩:=ev e n;obtain⟨v,A,G⟩:=(gu.1 r);exact⟨v,by simp[ix,wH,g,p,A],G⟩
 |unOp op ty x=>obtain⟨a,g,n⟩:=ev e (show cP bi ad z x _ from w);obtain⟨v,p,r⟩:=(gu.1 n);exact⟨v,by simp[ix,AC,g,p],r⟩
 |convert s d x=>obtain⟨a,g,n⟩:=ev e (show cP bi ad z x _ from w);obtain⟨v,p,r⟩:=(gu.1 n);exact⟨v,by simpa[ix,uC,E8,eY,g]using p,r⟩
 |makeInterface ty x=>obtain⟨a,g,n⟩:=ev e (show cP bi ad z x _ from w);obtain⟨v,p,r⟩:=(gu.1 n);exact⟨v,by simpa[ix,uE,Gb,eY,g]using p,r⟩
 |makeFunc fn first T2=>
  cases fn with
  |func f=>obtain⟨a,g,n⟩:=rl e (show lg bi ad z first.toList _ from w);obtain⟨b,p,r⟩:=rl e n;exact⟨_,by simp[ix,Ay,g,p],r⟩
  |_=>exact w.elim
 |slice ty x aW af T3=>obtain⟨a,g,n⟩:=ev e (show cP bi ad z x _ from w);obtain⟨l,p,r⟩:=Ba e n;obtain⟨b,A,G⟩:=Ba e r;obtain⟨m,N,O⟩:=Ba e G;obtain⟨v,P,L⟩:=(gu.1 O);exact⟨v,by simp[ix,AB,g,p,A,N,P],L⟩
 |field ty x f=>obtain⟨a,g,n⟩:=ev e (show cP bi ad z x _ from w);obtain⟨v,p,r⟩:=(gu.1 n);exact⟨v,by simpa[ix,uD,FG,eY,g]using p,r⟩
 |index ty x i=>obtain⟨a,g,n⟩:=ev e (show cP bi ad z x _ from w);obtain⟨b,p,r⟩:=ev e n;obtain⟨v,A,G⟩:=(gu.1 r);exact⟨v,by simp[ix,Az,g,p,A],G⟩
 |lookup ty m q ok=>obtain⟨a,g,n⟩:=ev e (show cP bi ad z m _ from w);obtain⟨b,p,r⟩:=ev e n;obtain⟨v,A,G⟩:=(gu.1 r);exact⟨v,by simp[ix,AA,g,p,A],G⟩
 |typeAssert x ty T1 ok=>obtain⟨a,g,n⟩:=ev e (show cP bi ad z x _ from w);obtain⟨v,p,r⟩:=(gu.1 n);exact⟨v,by simpa[ix,uB,EH,eY,g]using p,r⟩
 |entry X=>obtain⟨a,g,n⟩:=ev e (show cP bi ad z X _ from w);obtain⟨v,p,r⟩:=(gu.1 n);exact⟨v,by simpa[ix,sO,qu,eY,g]using p,r⟩
 |call c=>
  obtain⟨callee,args,bN⟩:=c;cases callee with
  |builtin b=>
   obtain⟨aF,g,n⟩:=rl e (show lg bi ad z args.toList _ from w);obtain⟨v,p,r⟩:=(gu.1 n);refine⟨v, ?_,r⟩;have u:ix (.call ⟨.builtin b,args,bN⟩) C j (fw bi ad t)=jo C j b bN.toList aF:=by
    simp only[ix,Ax,Aw,g,jo]
    repeat' split
    all_goals first|rfl|simp_all
   rw[u];exact p
  |_=>exact w.elim
 |_=>exact w.elim
def wJ(e:eo z t){op:fM}{S:y->Prop}(p:sR op C j ad z S):∃v,eb op C j ad t=some v/\S v:=by
 cases op with
 |q5 x=>exact iC e p|pick c a b=>
  obtain⟨L,l,f⟩:=iC e (show fI c ad z _ from p);obtain⟨G,rfl,m,g⟩:=ER f.out;cases G with
  |true=>obtain⟨v,r,s⟩:=iC e (m rfl);exact⟨v,by simp[eb,l,xO,r],s⟩
  |false=>obtain⟨v,r,s⟩:=iC e (g rfl);exact⟨v,by simp[eb,l,xO,r],s⟩
 |df a=>obtain⟨w,l,f⟩:=iC e (show fI a ad z _ from p);obtain⟨v,m,g⟩:=(gu.1 f);exact⟨v,by simp[eb,l,m],g⟩
 |pk n a=>obtain⟨w,l,f⟩:=iC e (show fI a ad z _ from p);obtain⟨v,m,g⟩:=(gu.1 f);exact⟨v,by simp[eb,l,m],g⟩
 |off d x=>obtain⟨w,l,f⟩:=iC e (show fI x ad z _ from p);obtain⟨v,m,g⟩:=(gu.1 f);exact⟨v,by simp[eb,l,m],g⟩
 |pf n aO x i=>obtain⟨w,l,f⟩:=iC e (show fI x ad z _ from p);obtain⟨A,m,g⟩:=iC e f;obtain⟨v,r,s⟩:=(gu.1 g);exact⟨v,by simp only[eb];unfold sL at r;cases af:hg A<;>simp_all,s⟩
 |pg aO x i=>obtain⟨w,l,f⟩:=iC e (show fI x ad z _ from p);obtain⟨A,m,g⟩:=iC e f;obtain⟨v,r,s⟩:=(gu.1 g);exact⟨v,by simp only[eb];unfold da at r;cases af:hg A<;>simp_all,s⟩
 |q8 x=>obtain⟨w,l,f⟩:=iC e (show fI x ad z _ from p);obtain⟨v,m,g⟩:=(gu.1 f);exact⟨v,by simp[eb,l,m],g⟩
 |uv op x h=>obtain⟨w,l,f⟩:=iC e (show fI x ad z _ from p);obtain⟨A,m,g⟩:=iC e f;obtain⟨v,r,s⟩:=(gu.1 g);exact⟨v,by simp[eb,l,m,r],s⟩
 |ext i x=>obtain⟨w,l,f⟩:=iC e (show fI x ad z _ from p);obtain⟨v,m,g⟩:=(gu.1 f);exact⟨v,by simp[eb,l,m],g⟩
 |eP bi J=>exact St e p|_=>exact p.elim
def SS(e:eo z t){op:fM}{b:Nat}{S:aY}(c:GH op C j b ad z S):∃v bQ,iD op C b ad t=some (v,bQ)/\S v (aI C j b (some bQ)) (b+1):=by
 cases op with
 |make bi J=>
  cases J with
  |alloc ty=>obtain⟨⟨v,bQ⟩,d,f⟩:=gu.1 (show Z (qZ C ty (eY undef) b) _ from c);exact⟨v,bQ,d,f.out⟩
  |box ty x=>obtain⟨a,d,f⟩:=ev e (show cP bi ad z x _ from c);exact⟨_,_,by simp only[iD,jN,uJ,d],f.out⟩
  |buildSlice ty len m=>
   obtain⟨b2,d,f⟩:=Bf e (show pB bi ad z m.toList _ from c);obtain⟨⟨v,bQ⟩,g,i⟩:=(gu.1 f);refine⟨v,bQ, ?_,i.out⟩;simp only[iD,jN,uK,d];unfold xy at g;split at g
   ·rename_i l;simp only[l];exact g
   ·cases g
  |makeMap ty r=>
   cases r with
   |none=>exact⟨_,_,rfl,(show dG C j b _ _ S from c).out⟩|some r=>exact c.elim
  |_=>exact c.elim
 |_=>exact c.elim
def SQ(e:eo z t){op:fM}{b:Nat}{S:y->B R->Prop}(c:AW op C j b ad z S):∃v bQ,iD op C b ad t=some (v,bQ)/\S v (aI C j b (some bQ)):=by
 cases op with
 |make bi J=>
  cases J with
  |alloc ty=>obtain⟨⟨v,bQ⟩,d,f⟩:=gu.1 (show Z (qZ C ty (eY undef) b) _ from c);exact⟨v,bQ,d,f.out⟩
  |box ty x=>obtain⟨a,d,f⟩:=ev e (show cP bi ad z x _ from c);exact⟨_,_,by simp only[iD,jN,uJ,d],f.out⟩
  |buildSlice ty len l=>obtain⟨b2,d,f⟩:=Bf e (show pB bi ad z l.toList _ from c);obtain⟨⟨v,bQ⟩,g,i⟩:=(gu.1 f);refine⟨v,bQ, ?_,i.out⟩;simp only[iD,jN,uK,d];unfold xy at g;grind
  |makeMap ty r=>
   cases r with
   |none=>exact⟨_,_,rfl,(show g3 C j b _ _ S from c).out⟩|some r=>exact c.elim
  |_=>exact c.elim
 |_=>exact c.elim
def yE{rd:Bool}{f:Nat}{a:List y}{S ab:aY}(e:az C f a j k S ab):∃r,g9 C f a=some r/\oS C rd (some r) j k S ab:=by
 rcases e.out with ⟨M,b,d⟩|⟨b,⟨fn,c,d,g⟩,i⟩
 ·exact⟨.known f a M,by simp[g9,b],d⟩
 ·exact⟨.enter f a,by simp[g9,b,d,g],i⟩
def oi{rd:Bool}{J:Option cj}{S ab:aY}(e:d6 J j k S):∃r,J=some r/\oS C rd (some r) j k S ab:=by
 rw[aaR]at e;split at e
 ·exact⟨_,rfl,e⟩
 ·exact⟨_,rfl,e⟩
 ·grind
def Qn{rd:Bool}{J:Option cj}{S ab:aY}(e:n0 J j k S):∃r,J=some r/\oS C rd (some r) j k S ab:=by
 rw[Qo]at e;split at e
 ·exact⟨_,rfl,e⟩
 ·exact⟨_,rfl,e⟩
 ·exact⟨_,rfl,e⟩
 ·grind
def F4(e:eo z t){rd:Bool}{op:fM}{S ab:aY}(L:Ah rd op C j k ad z S ab):∃r,eB op C j k ad t=some r/\oS C rd (some r) j k S ab:=by
 cases op with
 |st n a v=>
  obtain⟨T5,p,g⟩:=iC e (show fI a ad z _ from L);obtain⟨T9,w,i⟩:=iC e g;obtain⟨S',N,O⟩:=(gu.1 i);refine⟨.cJ undef S' k, ?_,O⟩;simp only[eB,p,w];unfold cN at N;split at N
  ·simp only[cL]at N;simp[xA,N.2,N.1]
  ·cases N
 |call f args=>
  obtain⟨P,p,g⟩:=PZ e (show wg ad z args _ from L);cases X:sJ C f with
  |true=>rw[X]at g;obtain⟨S',w,i⟩:=(show AY C j P k S from g).out;exact⟨.wrote f P S',by simp[eB,p,X,w],i⟩
  |false=>rw[X]at g;obtain⟨r,w,i⟩:=yE (rd:=rd) (show az C f P j k S ab from g);exact⟨r,by simp[eB,p,w,X],i⟩
 |dc bi J=>
  cases J with
  |mapUpdate ty m q x=>obtain⟨a,p,g⟩:=ev e (show cP bi ad z m _ from L);obtain⟨b,w,i⟩:=ev e g;obtain⟨c,N,O⟩:=ev e i;obtain⟨r,A,G⟩:=oi (C:=C) (ab:=ab) (rd:=rd) O;exact⟨r,by simp[eB,h1,sG,p,w,N,A],G⟩
  |insert ty m q x=>obtain⟨a,p,g⟩:=ev e (show cP bi ad z m _ from L);obtain⟨b,w,i⟩:=ev e g;obtain⟨c,N,O⟩:=ev e i;obtain⟨r,A,G⟩:=oi (C:=C) (ab:=ab) (rd:=rd) O;exact⟨r,by simp[eB,h1,sG,p,w,N,A],G⟩
  |mapEntry ty m q=>obtain⟨a,p,g⟩:=ev e (show cP bi ad z m _ from L);obtain⟨b,w,i⟩:=ev e g;obtain⟨r,A,G⟩:=oi (C:=C) (ab:=ab) (rd:=rd) i;exact⟨r,by simpa[eB,h1,uq,two,Go.aC.fB,Go.aC.dI,p,w]using A,G⟩
  |entryStore ty m s x=>obtain⟨a,p,g⟩:=ev e (show cP bi ad z m _ from L);obtain⟨b,w,i⟩:=ev e g;obtain⟨c,N,O⟩:=ev e i;obtain⟨r,A,G⟩:=oi (C:=C) (ab:=ab) (rd:=rd) O;exact⟨r,by simpa[eB,h1,un,Io,Go.aC.fB,Go.aC.dI,Go.aC.f7,p,w,N]using A,G⟩
  |makeSlice ty l c=>obtain⟨a,p,g⟩:=ev e (show cP bi ad z l _ from L);obtain⟨b,w,i⟩:=ev e g;obtain⟨r,A,G⟩:=oi (C:=C) (ab:=ab) (rd:=rd) i;exact⟨r,by simpa[eB,h1,up,two,Go.aC.fB,Go.aC.dI,p,w]using A,G⟩
  |makeMap ty T2=>
   cases T2 with
   |none=>exact L.elim|some x=>obtain⟨a,p,g⟩:=ev e (show cP bi ad z x _ from L);obtain⟨r,A,G⟩:=oi (C:=C) (ab:=ab) (rd:=rd) g;exact⟨r,by simpa[eB,h1,uo,eY,p]using A,G⟩
  |convert s d x=>obtain⟨a,p,g⟩:=ev e (show cP bi ad z x _ from L);obtain⟨r,A,G⟩:=oi (C:=C) (ab:=ab) (rd:=rd) g;exact⟨r,by simpa[eB,h1,us,eY,p]using A,G⟩
  |range ty x=>obtain⟨a,p,g⟩:=ev e (show cP bi ad z x _ from L);obtain⟨r,A,G⟩:=oi (C:=C) (ab:=ab) (rd:=rd) g;exact⟨r,by simpa[eB,h1,ur,eY,p]using A,G⟩
  |next T1 T7=>obtain⟨a,p,g⟩:=ev e (show cP bi ad z T1 _ from L);obtain⟨r,A,G⟩:=Qn (C:=C) (ab:=ab) (rd:=rd) g;exact⟨r,by simpa[eB,h1,iW,eY,p]using A,G⟩
  |panic x=>
   cases rd with
   |true=>exact(show False from L).elim|false=>
    obtain⟨a,p,g⟩:=ev e (show cP bi ad z x _ from L);rw[τ]at g;split at g
    ·rename_i T3 T4;exact⟨.panic (.iface T3 T4),by simp[eB,h1,Ag,p],g⟩
    ·exact g.elim
  |call c=>
   obtain⟨callee,args,bN⟩:=c;cases callee with
   |value f=>
    obtain⟨T6,p,g⟩:=ev e (show cP bi ad z f _ from L);obtain⟨P,w,i⟩:=rl e g;have i:=i.out;split at i
    ·split at i
     ·obtain⟨r,N,O⟩:=yE (rd:=rd) i;exact⟨r,by simp[eB,h1,qE,p,w,oO];simpa using N,O⟩
     ·exact⟨.round _ _,by simp only[eB,h1,qE,p,w,oO],i⟩
     ·exact i.elim
    ·exact i.elim
   |builtin b=>obtain⟨aF,p,g⟩:=rl e (show lg bi ad z args.toList _ from L);obtain⟨r,A,G⟩:=oi (C:=C) (ab:=ab) (rd:=rd) g;refine⟨r, ?_,G⟩;have u:∀r,kx C j k b bN.toList aF=some r->eB (.dc bi (.call ⟨.builtin b,args,bN⟩)) C j k ad t=some r:=(by intro r I;simp only[eB,h1,qE,um,p];unfold kx at I;split at I;all_goals first|exact I|cases I);exact u r A
   |invoke x name=>
    obtain⟨T8,p,g⟩:=ev e (show cP bi ad z x _ from L);obtain⟨P,w,i⟩:=rl e g;rw[S3]at i;split at i
    ·cases T0:jm C j _ _ name P with|none=>rw[T0]at i;exact i.elim|some r=>rw[T0]at i;exact⟨r,by simp[eB,h1,qE,p,w,T0],i⟩
    ·exact i.elim
  |_=>exact L.elim
 |_=>exact L.elim
def QU{want:Bool}{v:y}{a b:Prop}(e:e4 want v a b):∃w,(match v with| .bool b=>some (b==want)|_=>some false)=some w/\(w=true->a)/\(w=false->b):=by
 have e:=e.out;cases v with
 |bool t=>obtain⟨c,d⟩:=e;cases t<;>cases want<;>simp_all
 |_=>exact⟨false,rfl,Zs,λ_=>e⟩
def xJ{g:Option (Nat×Bool)}{a b:Prop}(e:xI g ad a b):∃w,jI g ad=some w/\(w=true->a)/\(w=false->b):=by cases g with|none=>exact⟨true,rfl,λ_=>e,Zs⟩|some p=>obtain⟨E,want⟩:=p;obtain⟨v,c,d⟩:=lh.1 (show bt (cH ad E) _ from e);obtain⟨w,f,i⟩:=QU d;exact⟨w,by simp only[jI,c];exact f,i⟩
def H4(e:eo z t)(d:Nat)(v:y):eo (H z d v) (t.set d (some v)):=by
 intro n M a;have a:=(show a8 (Nat.beq d n) (some v) (z.g n)=some M from a);rw[er]at a;rw[B.eX];split at a
 ·grind
 ·rename_i u;rw[Zi u];exact e n M a
def FH:∀{l:List (Nat×Nat)}{z:bO}{t:B y}{S:bO->Prop},eo z t->ug l ad z S->∃a es,nY ad l t=some es/\eo a es/\(a.aP=z.aP/\a.rc=z.rc)/\S a:=by intro l;induction l with|nil=>intro z t S e b;exact⟨z,t,rfl,e,⟨rfl,rfl⟩,b⟩|cons p l U=>intro z t S e b;obtain⟨i,d⟩:=p;obtain⟨v,c,f⟩:=lh.1 (show bt (cH ad i) (λv=>ug l ad (H z d v) S) from b);obtain⟨a,es,g,m,n⟩:=U (H4 e d v) f;exact⟨a,es,by simp[nY,c,g],m,n⟩
def abQ{op:fM}{bi:List (Nat×Nat)}{f:Operand}{args:List Operand}(e:rC op=.defer bi f args):∃c:Array Operand×Array TypeId,args=c.1.toList/\op=.dc bi (.defer ⟨.value f,c.1,c.2⟩):=by
 unfold rC at e;split at e
 ·split at e
  ·split at e
   ·simp_all
   ·cases e
  ·split at e
   ·grind
   ·cases e
  ·cases e
 ·cases e
def abR{op:fM}(e:rC op=.recover):∃bi bN args,op=.dc bi (.call ⟨.builtin .recover,args,bN⟩)/\args.toList=[]:=by unfold rC at e;grind
def aaU(e:eo z t):∀{l:List ResultVar}{S:List y->Prop},j8 C j z l S->∃aF,ng C j t l=some aF/\S aF:=by
 intro l;induction l with
 |nil=>intro S b;exact⟨[],rfl,b⟩|cons x l U=>
  intro S b;cases x with
  |tmp n=>obtain⟨v,c,d⟩:=lh.1 (show bt (z n) (λv=>j8 C j z l λr=>S (v::r)) from b);obtain⟨r,f,g⟩:=U d;exact⟨v::r,by simp[ng,e n v c,f],g⟩
  |cell a ty=>obtain⟨p,c,d⟩:=lh.1 (show bt (z a) (λp=>Z (gW C j ty p) λv=>j8 C j z l λr=>S (v::r)) from b);obtain⟨v,f,g⟩:=(gu.1 d);obtain⟨r,i,m⟩:=U g;exact⟨v::r,by simp[ng,e a p c,f,i],m⟩
def Sv(e:eo z t){base:Nat}:∀{l:List de}{ad:List (Nat×y)}{j:B R}{S:List (Nat×y)->B R->Prop},wL C base z l ad j S->∃g S',nS C base t l ad j=some (g,S')/\S g S':=by
 intro l;induction l with
 |nil=>intro ad j S f;exact⟨ad,j,rfl,f⟩|cons x l U=>
  intro ad j S f;obtain⟨w,i,m,n⟩:=xJ ((acZ ..).mp (show kJ x.g ad (λE=>match hz x.op with
   | .make=>AW x.op C j (base+x.i) ad z E|_=>sR x.op C j ad z λv=>E v j) (λv j=>wL C base z l ((x.i,v)::ad) j S) j from f))
  simp only[nS,i];cases w with
  |false=>grind|true=>
   have a:=m rfl;cases d:hz x.op with
   |make=>simp only[d]at a;obtain⟨v,bQ,b,c⟩:=SQ e a;simp_all
   |eP=>simp only[d]at a;obtain⟨v,b,c⟩:=wJ e a;grind
   |dc=>simp only[d]at a;obtain⟨v,b,c⟩:=wJ e a;simp only[b];exact U c
def aaJ(e:eo z t):∀{l:List de}{S:Prop},Bj C z ad j l S->qp C t ad j l=true/\S:=by intro l;induction l with|nil=>intro S a;exact⟨rfl,a⟩|cons x l U=>intro S a;obtain⟨w,b,c,f⟩:=xJ ((ac0 ..).mp (show BO x.g ad (λV=>sR x.op C j ad z λv=>d8 v (cH ad x.i) V) (Bj C z ad j l S) from a));simp only[qp,b];cases w with|false=>grind|true=>obtain⟨v,g,d⟩:=wJ e (c rfl);obtain⟨M,i,m,n⟩:=lh.1 d.out;grind
variable{cn:bT}{co:Nat->Prop}{aS:World}{a2:Nat}{bc:List Frame}{v:y}
variable{fn n ac:Nat}{be:lX}{ap:Bool}{ro:Option Nat}{cs bY:List d3}
def gm(a:Env C aS cn co){be:gw}{todo:List ci}{bj:e8}{z:B y}{j:B R}{k:Nat}(e:BC (dw C aS a2 bc v) C be todo bj z j k=some v):io C aS a2 bc be todo bj z j k v:=
 λD Q w bP tmps aM aa b=>Ie a Ey _ _ _ _ _ _ _ _ _ _ _ _ v e D Q w bP tmps aM aa b
def dl(be:lX)(fn n ac:Nat)(ap:Bool)(ro:Option Nat)(cs bY:List d3)(z:bO):e8:=⟨fn,n,ac,a8 be.aP z.aP [],ap,ro,a8 z.rc bY cs⟩
structure oI(be:lX)(ap:Bool)(ro:Option Nat)(cs bY:List d3):Prop where
 rd:be.rd=false->ro=none
 aP:be.aP=true->ro=none
 none:be.fX=some none->bY=cs/\pJ ap cs=some (.nilIface,cs)
 some:∀M,be.fX=some (some M)->pJ ap cs=some (M,bY)/\pJ ap bY=some (.nilIface,bY)
def adr{U:ey}{C:ai}{l:Nat}{args:List y}{a:ci}{q:List ci}{bj:e8}{z:B y}{j:B R}{k:Nat}:jn (.round l args) U C a q bj z j k=xm U C l args (rG a q bj z) j k:=rfl
def Fj{z:bO}{t:B y}(e:eo z t)(l:List Nat):eo (eH l z) (mX l t):=by
 intro n v b;rw[v2];by_cases a:n∈l
 ·simp[eH,uM,a]at b
 ·simp[eH,uM,a]at b;rw[Zi a];exact e n v b
def yw{a b:Nat}(e:a<=b):Nat.ble a b=true:=by simp_all
def Ew(g:y.same 30 v v=true)(d:oI be ap ro cs bY){b:ci}{q:List ci}{a:bO}{z:B y}{j:B R}{k:Nat}{S ab:aY}(m:Env C aS cn co)
 (p:∀M j k,S M j k->∃c,iE b M=some c/\io C aS a2 bc .run (c::q) (dl be fn n ac ap ro cs bY a) z j k v)
 (i:∀M j k todo,ab M j k->io C aS a2 bc (.panicking [⟨M,false⟩]) todo (dl be fn n ac ap ro cs bY a) (mW (b::q) z) j k v){r:cj}(e:oS C be.rd (some r) j k S ab):
 jn r (dw C aS a2 bc v) C b q (dl be fn n ac ap ro cs bY a) z j k=some v:=by
 have fill:∀M j k,S M j k->(match iE b M with|some c=>dw C aS a2 bc v .run (c::q) (dl be fn n ac ap ro cs bY a) z j k|none=>none)=some v:=by intro M j k w;obtain⟨c,s,t⟩:=p M j k w;rw[s];exact eS t
 cases r with
 |val M=>exact fill M j k e|cJ M S' W=>exact fill M S' W e|enter f args=>
  refine e aS cn co m a2 bc v g (rG b q (dl be fn n ac ap ro cs bY a) z) (λM S' W V=> ?_) (λM S' W V=> ?_)
  ·exact fill M S' W V
  ·exact eS (i M S' W _ V)
 |round l args=>
  refine e aS cn co m a2 bc v g (rG b q (dl be fn n ac ap ro cs bY a) z) (λM S' W V=> ?_) (λM S' W V=> ?_)
  ·exact fill M S' W V
  ·exact eS (i M S' W _ V)
 |known f args M=>exact fill M j k e|wrote f args am=>exact fill (.tuple []) am k e|panic M=>
  cases I:be.rd with
  |true=>rw[I]at e;exact e.elim|false=>rw[I]at e;have dF:=d.rd I;subst dF;exact eS (i M j k _ e)
 |fork l=>exact Qm g l e.1 λM S' d=>p M S' k (e.2 M S' d)|_=>exact e.elim
def Pg{ae:Array Oper}{ad:List (Nat×y)}{i:Nat}{rest:List de}{fin:List (Nat×Nat)}{q:List ci}{z:B y}:mW (.lp ae ad i rest fin::q) z=mX (dstsOf ae.toList) z:=rfl
def Pf{ae:Array Oper}{ad:List (Nat×y)}{b i:Nat}{rest:List mN}{fin:List (Nat×Nat)}{q:List ci}{z:B y}:mW (.oq ae b ad i rest fin::q) z=mX (dstsOf ae.toList) z:=rfl
def abo(T1:Env C aS cn co)(U0:y.same 30 v v=true)(X:oI be ap ro cs bY){ae:Array Oper}{fin:List (Nat×Nat)}{q:List ci}{t:B y}{S:dm}{ab:kY}
 (U2:∀z t j k,eo z t->S z j k->io C aS a2 bc .run q (dl be fn n ac ap ro cs bY z) t j k v)
 (U3:∀z t M j k todo,eo z t->ab z M j k->io C aS a2 bc (.panicking [⟨M,false⟩]) todo (dl be fn n ac ap ro cs bY z) t j k v):
 ∀(rest:List de) (ad:List (Nat×y)) (z:bO) (j:B R) (k:Nat),eo z t->ry C be fin S (λz=>ab (eH (dstsOf ae.toList) z)) rest ad z j k->pH rest ⟨dw C aS a2 bc v,ae,fin,q,dl be fn n ac ap ro cs bY z⟩ C t ad j k=some v:=by
 intro rest;induction rest with
 |nil=>
  intro ad z j k a e;obtain⟨m,es,d,l,A,b⟩:=FH a (show ug fin ad z (λz=>S z j k) from e);show uc ⟨dw C aS a2 bc v,ae,fin,q,dl be fn n ac ap ro cs bY z⟩ C t ad j k=some v;simp only[uc,wi,d];have u:dl be fn n ac ap ro cs bY z=dl be fn n ac ap ro cs bY m:=by unfold dl;rw[A.1,A.2]
  rw[u];exact eS (U2 _ _ _ _ l b)
 |cons x rest U=>
  intro ad z j k a e;obtain⟨i,g,op⟩:=x;show rk i g op rest (pH rest) ⟨dw C aS a2 bc v,ae,fin,q,dl be fn n ac ap ro cs bY z⟩ C t ad j k=some v;have e:=(show(match rC op with
   | .no=>xK g ad (λS=>Bc be.rd op C j k ad z S (ab (eH (dstsOf ae.toList) z))) (λv j k=>ry C be fin S (λz=>ab (eH (dstsOf ae.toList) z)) rest ((i,v)::ad) z j k) j k| .defer bi f args=>a8 (g.isNone&&be.aP) (cP bi ad z f λT4=>lg bi ad z args λs=>t6 T4 s z λz=>ry C be fin S (λz=>ab (eH (dstsOf ae.toList) z)) rest ((i,undef)::ad) z j k) False| .recover=>a8 (g.isNone&& !be.rd) (u4 be.fX z λv z=>ry C be fin S (λz=>ab (eH (dstsOf ae.toList) z)) rest ((i,v)::ad) z j k) False) from e)
  cases T0:rC op with
  |no=>
   rw[T0]at e;obtain⟨w,d,l,A⟩:=xJ ((IG ..).mp e);simp only[rk,xH,d,mr];cases w with
   |false=>simp only[ZA];exact U _ _ _ _ a (A rfl)|true=>
    simp only[ZK];have b:=l rfl;rw[w6];unfold Bc at b;cases P:hz op with
    |eP=>simp only[P]at b ⊢;obtain⟨M,N,G⟩:=wJ a b;rw[N];exact U _ _ _ _ a G
    |make=>simp only[P]at b ⊢;obtain⟨M,bQ,N,G⟩:=SS a b;simp only[wO,gQ,N,dD];exact U _ _ _ _ a G
    |dc=>
     simp only[P]at b ⊢;obtain⟨r,N,G⟩:=F4 a b;rw[N];have T9:jn r (dw C aS a2 bc v) C (.lp ae ad i rest fin) q (dl be fn n ac ap ro cs bY z) t j k=some v:=by
      refine Ew U0 X T1 (λM j k V=>⟨_,rfl, ?_⟩) (λM j k todo V=> ?_) G
      ·exact gm T1 (U _ _ _ _ a V)
      ·rw[Pg];exact U3 (eH (dstsOf ae.toList) z) _ _ _ _ _ (Fj a _) V
     cases r with
     |val M=>exact U _ _ _ _ a G|cJ M S' W=>exact U _ _ _ _ a G|_=>exact T9
  |defer bi f args=>
   rw[T0]at e;obtain⟨c,rfl,rfl⟩:=abQ T0;have e:=(show a8 (g.isNone&&be.aP) _ False from e);cases g with
   |some g=>exact e.elim|none=>
    cases O:be.aP with
    |false=>rw[O]at e;exact e.elim|true=>
     rw[O]at e;obtain⟨T4,d,l⟩:=ev a (show cP bi ad z f _ from e);obtain⟨s,A,b⟩:=rl a l;have dF:=X.aP O;subst dF;cases T4 with
     |func g first L=>
      simp only[rk,xH];rw[w6];have P:hz (.dc bi (.defer ⟨.value f,c.1,c.2⟩))=.dc:=rfl;have T7:eB (.dc bi (.defer ⟨.value f,c.1,c.2⟩)) C j k ad t=some (.defer ⟨.fn g L,first++s⟩):=by simp only[eB,h1,Af,d,A]
      simp only[T7];have T5:dl be fn n ac ap none cs bY z=⟨fn,n,ac,z.aP,ap,none,a8 z.rc bY cs⟩:=by unfold dl;rw[O];rfl
      show jn (.defer ⟨.fn g L,first++s⟩) (dw C aS a2 bc v) C (.lp ae ad i rest fin) q (dl be fn n ac ap none cs bY z) t j k=some v;rw[T5];show dw C aS a2 bc v .run (.tj ae ((i,undef)::ad) rest fin::q) ⟨fn,n,ac,⟨.fn g L,first++s⟩::z.aP,ap,none,a8 z.rc bY cs⟩ t j k=some v;have TY:(⟨fn,n,ac,⟨.fn g L,first++s⟩::z.aP,ap,none,a8 z.rc bY cs⟩:e8)=dl be fn n ac ap none cs bY (og z ⟨.fn g L,first++s⟩):=by unfold dl;rw[O];rfl
      rw[TY];exact eS (gm T1 (U _ (og z ⟨.fn g L,first++s⟩) _ _ a b))
     |_=>exact b.elim
  |recover=>
   rw[T0]at e;obtain⟨bi,bN,args,rfl,TZ⟩:=abR T0;have e:=(show a8 (g.isNone&& !be.rd) _ False from e);cases g with
   |some g=>exact e.elim|none=>
    cases T6:be.rd with
    |true=>rw[T6]at e;exact e.elim|false=>
     rw[T6]at e;have dF:=X.rd T6;subst dF;have e:=e;simp only[rk,xH,jI];rw[w6];have P:hz (.dc bi (.call ⟨.builtin .recover,args,bN⟩))=.dc:=rfl;have T7:eB (.dc bi (.call ⟨.builtin .recover,args,bN⟩)) C j k ad t=some .recover:=(by simp only[eB,h1,qE,um,TZ,jT]);simp only[T7];show jn .recover (dw C aS a2 bc v) C (.lp ae ad i rest fin) q (dl be fn n ac ap none cs bY z) t j k=some v;have key:∀M m,eo m t->pJ ap (a8 z.rc bY cs)=some (M,a8 m.rc bY cs)->m.aP=z.aP->ry C be fin S (λz=>ab (eH (dstsOf ae.toList) z)) rest ((i,M)::ad) m j k->jn .recover (dw C aS a2 bc v) C (.lp ae ad i rest fin) q (dl be fn n ac ap none cs bY z) t j k=some v:=by
      intro M m U1 d l A;show(match pJ ap (a8 z.rc bY cs)with
       |some (U5,T8)=>(match iE (.lp ae ad i rest fin) U5 with|some U4=>dw C aS a2 bc v .run (U4::q) ⟨fn,n,ac,a8 be.aP z.aP [],ap,none,T8⟩ t j k|none=>none)|none=>none)=some v
      rw[d];show dw C aS a2 bc v .run (.tj ae ((i,M)::ad) rest fin::q) ⟨fn,n,ac,a8 be.aP z.aP [],ap,none,a8 m.rc bY cs⟩ t j k=some v;have T5:(⟨fn,n,ac,a8 be.aP z.aP [],ap,none,a8 m.rc bY cs⟩:e8)=dl be fn n ac ap none cs bY m:=(by unfold dl;rw[l]);rw[T5];exact eS (gm T1 (U _ _ _ _ U1 A))
     unfold u4 at e;cases T2:be.fX with
     |none=>rw[T2]at e;exact e.elim|some p=>
      rw[T2]at e;cases p with
      |none=>obtain⟨d,l⟩:=X.none T2;subst d;refine key _ z a ?_ rfl e;cases z.rc<;>exact l
      |some M=>obtain⟨d,l⟩:=X.some M T2;cases T3:z.rc with|true=>simp only[T3]at e;refine key _ z a ?_ rfl e;simp only[T3];exact l|false=>simp only[T3]at e;refine key M (xw z) a ?_ rfl e;simp only[T3];exact d
def Pe(d:Env C aS cn co)(N:y.same 30 v v=true)(L:oI be ap ro cs bY){ae:Array Oper}{base:Nat}{fin:List (Nat×Nat)}{q:List ci}{z:bO}{t:B y}(a:eo z t){S:dm}{ab:kY}
 (O:∀z t j k,eo z t->S z j k->io C aS a2 bc .run q (dl be fn n ac ap ro cs bY z) t j k v)
 (P:∀z t M j k todo,eo z t->ab z M j k->io C aS a2 bc (.panicking [⟨M,false⟩]) todo (dl be fn n ac ap ro cs bY z) t j k v):
 ∀(gT:List mN) (ad:List (Nat×y)) (j:B R) (k:Nat),yW C be.rd base fin z S (ab (eH (dstsOf ae.toList) z)) gT ad j k->o0 (dw C aS a2 bc v) C ae base ad gT fin q (dl be fn n ac ap ro cs bY z) t j k=some v:=by
 intro gT;induction gT with
 |nil=>intro ad j k e;exact e.elim|cons s rest U=>
  intro ad j k e;obtain⟨X,S',p,x⟩:=Sv a (show wL C base z s.lK ad j _ from e);obtain⟨A,b⟩:=aaJ a x;simp only[o0,p,A];cases l:s.dc with
  |none=>simp only[l]at b;obtain⟨m,es,f,g,c,i⟩:=FH a b;simp only[wi,f];have u:dl be fn n ac ap ro cs bY z=dl be fn n ac ap ro cs bY m:=(by unfold dl;rw[c.1,c.2]);rw[u];exact eS (O _ _ _ _ g i)
  |some T0=>
   simp only[l]at b;obtain⟨w,f,g,c⟩:=xJ ((IG ..).mp b);simp only[f];cases w with
   |false=>simp;exact eS (gm d (U _ _ _ (c rfl)))|true=>
    obtain⟨r,i,G⟩:=F4 a (g rfl);simp only[cE,i];refine Ew N L d (λM j k V=>⟨_,rfl, ?_⟩) (λM j k todo V=> ?_) G
    ·exact gm d (U _ _ _ V)
    ·rw[Pf];exact P (eH (dstsOf ae.toList) z) _ _ _ _ _ (Fj a _) V
def Je(C:ai)(aS:World)(a2:Nat)(bc:List Frame)(v:y)(bo:bO->e8)(q:List ci)(id:Nat):dm:=λz j k=>∀t,eo z t->o2 id (dw C aS a2 bc v) C q (bo z) t j k=some v
def wh{id:Nat}{U:ey}{C:ai}{b:ci}{q:List ci}{be:lX}{cs bY:List d3}{a:bO}{z:B y}{j:B R}{k:Nat}(e:exitTo id (b::q)=exitTo id q):
 o2 id U C (b::q) (dl be fn n ac ap ro cs bY a) z j k=o2 id U C q (dl be fn n ac ap ro cs bY a) z j k:=by
 unfold o2;rw[e];rfl
def x5(C:ai)(fn n ac:Nat)(c:Code):Prop:=
 ∀{aS:World}{cn:bT}{co:Nat->Prop}(_:Env C aS cn co) {a2:Nat}{bc:List Frame}{v:y}(_:y.same 30 v v=true) (be:lX) (ap:Bool) (ro:Option Nat) (cs bY:List d3) (ab:kY) (q:List ci) (S:dm) (u:Nat->dm) (r:dm) (z:bO) (t:B y) (j:B R) (k:Nat),oI be ap ro cs bY->
  (∀z t M j k todo,eo z t->ab z M j k->io C aS a2 bc (.panicking [⟨M,false⟩]) todo (dl be fn n ac ap ro cs bY z) t j k v)->
  (∀z t j k,eo z t->S z j k->io C aS a2 bc .run q (dl be fn n ac ap ro cs bY z) t j k v)->
  (∀id z j k,u id z j k->Je C aS a2 bc v (dl be fn n ac ap ro cs bY) q id z j k)->
  (∀z t j k todo,eo z t->r z j k->jx (some .ret) (dw C aS a2 bc v) C todo (dl be fn n ac ap ro cs bY z) t j k=some v)->
  eo z t->mT C n ac c be ab S u r z j k->l4 c (dw C aS a2 bc v) C q (dl be fn n ac ap ro cs bY z) t j k=some v
def abu{n:Nat}:∀(b2:List Nat) (b:List y) (z:bO) (t:B y) (S:bO->Prop),eo z t->tl n b2 b z S->∃c es,nj n b2 b t=some es/\eo c es/\S c:=by
 intro b2;induction b2 with
 |nil=>
  intro b z t S d e;cases b with
  |nil=>exact⟨z,t,rfl,d,e⟩|cons a b=>exact e.elim
 |cons p b2 U=>intro b z t S d e;cases b with|nil=>exact e.elim|cons a b=>have e:=(show a8 (Nat.blt p n) (tl n b2 b (H z p a) S) False from e);cases T:Nat.blt p n with|false=>simp_all|true=>rw[T]at e;obtain⟨c,es,f,g,i⟩:=U b _ _ S (H4 d p a) e;exact⟨c,es,by simp only[nj,T,cE,f],g,i⟩
def pT(fn n ac:Nat)(ro:Option Nat)(cs:List d3)(z:bO):dl pt fn n ac false ro cs cs z=⟨fn,n,ac,[],false,ro,cs⟩:=by unfold dl pt;cases z.rc<;>rfl
def AF{U:ey}{C:ai}{l fn n ac:Nat}{t0:B y}{params:List Nat}{assign body:Code}{c:Nat}{a:Option Code}{st:LoopState}{b:Bool}{S:aY}{todo:List ci}{cs:List d3}{t:B y}{j:B R}{k:Nat}{v:y}
 (al:eN C l=true)(i:HD a=true)(m:st=a8 a.isNone .ready .done)(T:b=a.isNone)(e:wb C l (λst p=> .loop st p fn n ac t0 params assign body c) st a b S j k)
 (g:∀M j k,S M j k->lA U false cs M j k=some v):jx a U C todo ⟨fn,n,ac,[],false,some l,cs⟩ t j k=some v:=by
 obtain⟨⟨s,r,d⟩,f⟩:=e;subst m T;have:=g _ _ _ f;simp only[jx,d,al,i,dD];simp_all
def abb{C:ai}{fn n ac:Nat}{assign body:Code}(w:x5 C fn n ac assign)(cB:x5 C fn n ac body){aS:World}{cn:bT}{co:Nat->Prop}(b:Env C aS cn co){a2:Nat}{bc:List Frame}{v:y}(i:y.same 30 v v=true){l:Nat}{t:B y}{params:List Nat}{f:Nat}{cs:List d3}
 {z:bO}{j:B R}{k:Nat}{args:List y}{S ab:aY}(A:F C j l=some (.loop .ready none fn n ac t params assign body f))(al:eN C l=true)(a:eo z t)
 (d:∀M S' W,S M S' W->x2 C aS a2 bc v cs M S' W)(x:∀M S' W,ab M S' W->vC C aS a2 bc v cs M S' W)
 (e:tl n params args z λiu=>ll C (mT C n ac assign) (mT C n ac body) l (λst p=> .loop st p fn n ac t params assign body f) S ab iu j k):
 xm (dw C aS a2 bc v) C l args cs j k=some v:=by
 obtain⟨iu,t1,r,G,s⟩:=abu _ _ _ _ _ a e;unfold xm;rw[A];simp only[r];have g:oI pt false (some l) cs cs:=⟨λe=>(by cases e),λe=>(by cases e),λe=>(by cases e),λM e=>(by cases e)⟩;have m:∀(z:bO) (t:B y) (M:y) (j:B R) (k:Nat) (todo:List ci),eo z t->ab M j k->io C aS a2 bc (.panicking [⟨M,false⟩]) todo (dl pt fn n ac false (some l) cs cs z) t j k v:=by intro z t M j k todo a V;rw[pT];refine gm b ?_;have:=x M j k V;cases cs with|nil=>exact this.elim|cons c rest=>exact this
 refine eS (gm b ?_);rw[<-pT fn n ac (some l) cs iu];refine w b i pt false (some l) cs cs (λ_=>ab) [.beginRound,.code body] _ _ _ iu t1 j k g m (λz t j k a V=> ?_) (λid z j k V=>V.elim) (λz t j k todo a V=>V.elim) G s;obtain⟨L,N⟩:=V;refine gm b ?_;rw[pT];show tS (dw C aS a2 bc v) C [.code body] ⟨fn,n,ac,[],false,some l,cs⟩ t j k=some v;unfold tS;simp only[L,al,dD];refine eS (gm b ?_);rw[<-pT fn n ac (some l) cs z];refine cB b i pt false (some l) cs cs (λ_=>ab) [] _ _ _ z t _ k g m (λz t j k a V=> ?_) (λid z j k V t a=> ?_) (λz t j k todo a V=> ?_) a N
 ·refine gm b ?_;rw[pT];show jx none (dw C aS a2 bc v) C [] ⟨fn,n,ac,[],false,some l,cs⟩ t j k=some v;exact AF al rfl rfl rfl V d
 ·rw[pT];show jx (some (.exit id)) (dw C aS a2 bc v) C (.code (.exit id)::[]) ⟨fn,n,ac,[],false,some l,cs⟩ t j k=some v;exact AF al rfl rfl rfl V d
 ·rw[pT];exact AF al rfl rfl rfl V d
def yK:∀c:Code,x5 C fn n ac c:=by
 intro c;induction c with
 |skip=>intro aS cn co w a2 bc v G be ap ro cs bY ab q S u r z t j k A L x N I i e;exact eS (x _ _ _ _ i e)|region id ae d=>
  intro aS cn co w a2 bc v G be ap ro cs bY ab q S u r z t j k A L x N I i e;cases d with
  |false=>obtain⟨V,P,X⟩:=lh.1 (show bt (uP C n ae ac) (λr=>ry C be r.fin S (λz=>ab (eH (dstsOf ae.toList) z)) r.rest [] z j k) from e);show fo (uP C n ae ac) (λr=>x4.rec (λrest fin=>pH rest ⟨dw C aS a2 bc v,ae,fin,q,dl be fn n ac ap ro cs bY z⟩ C t [] j k) r)=some v;rw[P];exact abo w G A x L _ _ _ _ _ i X
  |true=>obtain⟨V,P,X⟩:=lh.1 (show bt (uO C n ae ac) (λr=>cO (k+ae.size) λW=>yW C be.rd k r.fin z S (ab (eH (dstsOf ae.toList) z)) r.gT [] j W) from e);show fo (uO C n ae ac) (λr=>x3.rec (λgT fin=>kv k λk=>o0 (dw C aS a2 bc v) C ae k [] gT fin q (dl be fn n ac ap ro cs bY z) t j (k+ae.size)) r)=some v;rw[P];show kv k (λk=>o0 (dw C aS a2 bc v) C ae k [] V.gT V.fin q (dl be fn n ac ap ro cs bY z) t j (k+ae.size))=some v;rw[gQ];exact Pe w G A i x L _ _ _ _ X.out
 |seq a b T1 O=>
  intro aS cn co w a2 bc v G be ap ro cs bY ab q S u r z t j k A L x N I i e;refine T1 w G be ap ro cs bY ab (.code b::q) (mT C n ac b be ab S u r) u r z t j k A L (λz t j k i e=> ?_) (λid z j k e t i=> ?_) I i e
  ·exact gm w (O w G be ap ro cs bY ab q S u r z t j k A L x N I i e)
  ·rw[wh (by simp[exitTo])];exact N id z j k e t i
 |cond c a b T1 O=>
  intro aS cn co w a2 bc v G be ap ro cs bY ab q S u r z t j k A L x N I i e;obtain⟨M,P,X⟩:=ev (bi:=[]) i (show cP [] [] z c _ from e);obtain⟨U2,rfl,U6,U7⟩:=ER X.out;have T7:nX t c=some (.bool U2):=by cases c<;>first|(simp[fw]at P;done)|simpa[fw,nX]using P
  show tZ c t (l4 a (dw C aS a2 bc v) C q (dl be fn n ac ap ro cs bY z) t j k) (l4 b (dw C aS a2 bc v) C q (dl be fn n ac ap ro cs bY z) t j k)=some v;simp only[tZ,T7];cases U2 with
  |true=>exact T1 w G be ap ro cs bY ab q S u r z t j k A L x N I i (U6 rfl)|false=>exact O w G be ap ro cs bY ab q S u r z t j k A L x N I i (U7 rfl)
 |block id b O=>
  intro aS cn co w a2 bc v G be ap ro cs bY ab q S u r z t j k A L x N I i e;refine O w G be ap ro cs bY ab (.inBlock id::q) S (qv id S u) r z t j k A L (λz t j k i e=>gm w (eS (x z t j k i e))) (λU0 z j k e t i=> ?_) I i e.out;unfold qv at e;rw[er]at e;by_cases T5:id=U0
  ·rw[Zu T5]at e;have T6:exitTo U0 (.inBlock id::q)=some q:=(by simp[exitTo,T5]);unfold o2;rw[T6];exact eS (x z t j k i e)
  ·rw[Zi T5]at e;rw[wh (by simp[exitTo,er,T5])];exact N U0 z j k e t i
 |loop b O=>
  intro aS cn co w a2 bc v G be ap ro cs bY ab q S u r z t j k A L x N I i e;obtain⟨U3,⟨m,TY⟩,U9⟩:=(show cx (λU4=>mT C n ac b be ab U4 u r) z j k from e).out;have UI:∀m z t j k,U3 m z j k->eo z t->l4 b (dw C aS a2 bc v) C (.inLoop b::q) (dl be fn n ac ap ro cs bY z) t j k=some v:=by
   intro m;induction m using Nat.strongRecOn with
   |ind m UF=>
    intro z t j k TY i;refine O w G be ap ro cs bY ab (.inLoop b::q) _ u r z t j k A L (λz t j k i e=> ?_) (λid z j k e t i=> ?_) I i (U9 m z j k TY)
    ·obtain⟨UH,UD,UE⟩:=e;exact gm w (UF UH UD z t j k UE i)
    ·rw[wh (by simp[exitTo])];exact N id z j k e t i
  exact UI m z t j k TY i
 |rangeFunc f params assign body T1 O=>
  intro aS cn co w a2 bc v G be ap ro cs bY ab q S u r z t j k A L x N I i e;have e:=(show a8 be.aP (yZ f z λT3=>ru C n T3 params.toList (ll C (mT C n ac assign) (mT C n ac body)) S u r ab z j k) False from e);cases T4:be.aP with
  |false=>rw[T4]at e;exact e.elim|true=>
   rw[T4]at e;have dF:=A.aP T4;subst dF;obtain⟨T3,P,X⟩:=ev (bi:=[]) i (show cP [] [] z f _ from e);have T7:nX t f=some T3:=(by cases f<;>first|(simpa[fw,nX]using P)|(simp[fw]at P;subst P;rfl));have UQ:=X.low;have T0:=X.out;have T8:∀z:bO,dl be fn n ac ap none cs bY z=⟨fn,n,ac,z.aP,ap,none,a8 z.rc bY cs⟩:=λz=>(by unfold dl;rw[T4];rfl);have U1:eN C (k+1)=true:=yw Zo;show u1 f params assign body (dw C aS a2 bc v) C q (dl be fn n ac ap none cs bY z) t j k=some v;rw[T8];unfold u1;rw[T7];cases T3 with
   |func g first UM=>
    cases g with
    |func g=>
     simp only[gQ];have T0:=T0 (λst p=> .loop st p fn n ac t params.toList assign body k) ?_
     ·refine T0 aS cn co w a2 bc v G _ (λM S' W V=> ?_) (λM S' W V=> ?_)
      ·obtain⟨st,p,UJ,UK,T2⟩:=V;show(match iE (.inRangeFunc (k+1)) M with
        |some UG=>dw C aS a2 bc v .run (UG::q) ⟨fn,n,ac,⟨.collected k,[]⟩::z.aP,ap,none,a8 z.rc bY cs⟩ t S' W|none=>none)=some v
       refine eS (gm w ?_);show su (k+1) (dw C aS a2 bc v) C q ⟨fn,n,ac,⟨.collected k,[]⟩::z.aP,ap,none,a8 z.rc bY cs⟩ t S' W=some v;have T6:su (k+1) (dw C aS a2 bc v) C q ⟨fn,n,ac,⟨.collected k,[]⟩::z.aP,ap,none,a8 z.rc bY cs⟩ t S' W=dw C aS a2 bc v .run ((p.map ci.code).toList++q) ⟨fn,n,ac,⟨.collected k,[]⟩::z.aP,ap,none,a8 z.rc bY cs⟩ t (aI C S' (k+1) (some (.loop .exhausted p fn n ac t params.toList assign body k))) W:=by unfold su;rw[UK];cases st with|busy=>exact absurd rfl UJ|_=>simp only[U1,cE,dD]
       rw[T6];have U8:=T8 (n7 z k);have T9:(⟨fn,n,ac,⟨.collected k,[]⟩::z.aP,ap,none,a8 z.rc bY cs⟩:e8)=dl be fn n ac ap none cs bY (n7 z k):=U8.symm;rw[T9];have TZ:=i;cases p with|none=>exact eS (x _ _ _ _ TZ T2)|some c=>refine eS (gm w ?_);unfold HE at T2;cases c with|exit id=>exact N id _ _ _ T2 t TZ|ret=>exact I _ _ _ _ _ TZ T2|_=>exact T2.elim
      ·refine eS ?_;have T9:=(T8 (n7 z k)).symm;have:=L (n7 z k) t M S' W (.inRangeFunc (k+1)::q) i V;rw[<-T9]at this;exact this
     ·
      intro args am UR UT UU UC aI dT UV UL U5 UP UN US gn UO UA UB;exact abb T1 O U5 gn UC U1 i UA UB aI
    |_=>exact T0.elim
   |_=>exact T0.elim
 |exit id=>intro aS cn co w a2 bc v G be ap ro cs bY ab q S u r z t j k A L x N I i e;exact N id z j k e t i|scope b O=>intro aS cn co w a2 bc v G be ap ro cs bY ab q S u r z t j k A L x N I i e;refine O w G be ap ro cs bY ab (.inScope b::q) S u r z t j k A L (λz t j k i e=>gm w (eS (x z t j k i e))) (λid z j k e t i=> ?_) I i e;rw[wh (by simp[exitTo])];exact N id z j k e t i|label l=>intro aS cn co w a2 bc v G be ap ro cs bY ab q S u r z t j k A L x N I i e;exact eS (x _ _ _ _ i e)|goto l=>intro aS cn co w a2 bc v G be ap ro cs bY ab q S u r z t j k A L x N I i e;exact e.elim|ret=>intro aS cn co w a2 bc v G be ap ro cs bY ab q S u r z t j k A L x N I i e;exact I _ _ _ _ _ i e|refuse s=>intro aS cn co w a2 bc v G be ap ro cs bY ab q S u r z t j k A L x N I i e;exact e.elim
def yt(args:List y):eo (bI args) (B.ofList args 0 .nil):=by intro n v e;rw[g5];simpa[bI]using e
variable{o6:Func}
def xj(i:Env C aS cn co)(G:y.same 30 v v=true)(A:C.P.funcs[fn]? =some o6){aK:aY}(O:∀M j k,aK M j k->lA (dw C aS a2 bc v) ap cs M j k=some v){z:bO}{t:B y}(L:eo z t):
 ∀(a:List eA) (j:B R) (k:Nat) (todo:List ci),ic C o6.results.toList aK z a j k->io C aS a2 bc .returning todo ⟨fn,n,ac,a,ap,none,cs⟩ t j k v:=by
 intro a;induction a with
 |nil=>intro j k todo e;obtain⟨aF,l,p⟩:=aaU L (show j8 C j z o6.results.toList (λaF=>aK (one aF) j k) from e);refine gm i ?_;show u6 todo (dw C aS a2 bc v) C ⟨fn,n,ac,[],ap,none,cs⟩ t j k=some v;simp only[u6,A,l];grind
 |cons d a U=>
  intro j k todo e;obtain⟨s,m⟩:=d;refine gm i ?_;show nl ⟨s,m⟩ a .returning todo (dw C aS a2 bc v) C ⟨fn,n,ac,[],ap,none,cs⟩ t j k=some v;cases s with
  |collected r=>simp only[nl,e.here,show eN C r=true from yw e.low,dD];exact eS (U _ _ _ e.go)|fn g cap=>
   have e:=(show lD C g (m++cap) none j k (λ_ j k=>ic C o6.results.toList aK z a j k) from e).out;split at e
   ·rename_i f;obtain⟨l,⟨N,c,p,w⟩,x⟩:=e;simp only[nl,oO,g9,l,p,w];exact x aS cn co i a2 bc v G fn n ac t todo a ap none cs λb S' W V=>eS (U _ _ _ V)
   ·exact e.elim
def HA(i:Env C aS cn co)(m:y.same 30 v v=true)(N:C.P.funcs[fn]? =some o6){aK b7:aY}(G:∀M j k,aK M j k->lA (dw C aS a2 bc v) ap cs M j k=some v)(L:∀M j k,b7 M j k->vC C aS a2 bc v cs M j k){z:bO}{t:B y}(O:eo z t)(M:y):
 ∀(a:List eA) (j:B R) (k:Nat) (todo:List ci),nc C o6.results.toList aK b7 z M a j k->io C aS a2 bc (.panicking [⟨M,false⟩]) todo ⟨fn,n,ac,a,ap,none,cs⟩ t j k v:=by
 intro a;induction a with
 |nil=>
  intro j k todo e;refine gm i ?_;have:=L M j k e;cases cs with
  |nil=>exact this.elim|cons c rest=>exact this
 |cons d a U=>
  intro j k todo e;obtain⟨p,l⟩:=d;refine gm i ?_;show nl ⟨p,l⟩ a (.panicking [⟨M,false⟩]) todo (dw C aS a2 bc v) C ⟨fn,n,ac,[],ap,none,cs⟩ t j k=some v;cases p with
  |collected r=>simp only[nl,e.here,show eN C r=true from yw e.low,dD];exact eS (U _ _ _ e.go)|fn g cap=>
   have e:=(show lD C g (l++cap) (some M) j k (λb j k=>a8 b (ic C o6.results.toList aK z a j k) (nc C o6.results.toList aK b7 z M a j k)) from e).out;split at e
   ·rename_i f;obtain⟨s,⟨P,c,w,x⟩,A⟩:=e;simp only[nl,oO,g9,s,w,x];refine A aS cn co i a2 bc v m fn n ac t todo a ap none cs λb S' W V=> ?_;cases b with|true=>exact eS (xj i m N G O a S' W todo V)|false=>exact eS (U _ _ _ V)
   ·grind
def Aa{C:ai}{f a:Nat}(b:bD C f a=true):∃fn c,C.P.funcs[f]? =some fn/\fn.body=some c/\(Nat.ble a fn.ntmps&&gZ C (Nat.lor (gR c) (j7 fn.results.toList)) c&&oh (Nat.lor (gR c) (j7 fn.results.toList)) fn.results.toList)=true:=by unfold bD at b;grind
def adp{U:ey}{C:ai}{fn n ac:Nat}{aP:List eA}{ap:Bool}{cs:List d3}{todo:List ci}{z:B y}{j:B R}{k:Nat}{E:Option Code}(a:As E=true):jx E U C todo ⟨fn,n,ac,aP,ap,none,cs⟩ z j k=U .returning todo ⟨fn,n,ac,aP,ap,none,cs⟩ z j k:=by simp only[jx,a,cE]
def vy(fn n ac:Nat)(ap:Bool)(ro:Option Nat)(cs:List d3)(z:bO):dl sY fn n ac ap ro cs cs z=⟨fn,n,ac,[],ap,ro,cs⟩:=by unfold dl sY;cases z.rc<;>rfl
def vz(fn n ac:Nat)(ap:Bool)(ro:Option Nat)(cs:List d3)(z:bO):dl ps fn n ac ap ro cs cs z=⟨fn,n,ac,z.aP,ap,ro,cs⟩:=by unfold dl ps;cases z.rc<;>rfl
def Qi{C:ai}{f:Nat}{args:List y}{j:B R}{k:Nat}{aK b7:aY}(n:bD C f args.length=true)(e:bL C f args j k aK b7):lT C f args j k aK b7:=by
 intro aS cn co b a2 bc v g cs i m;obtain⟨fn,c,d,T,p⟩:=Aa n;unfold bL at e;simp only[d,T]at e;unfold iB;simp only[d,T,gQ,p];have r:oI sY false none cs cs:=⟨λ_=>rfl,λe=>(by cases e),λe=>(by cases e),λM e=>(by cases e)⟩;have l:∀z t j k todo,eo z t->j8 C j z fn.results.toList (λaF=>aK (one aF) j k)->
  io C aS a2 bc .returning todo (dl sY f fn.ntmps (Nat.lor (gR c) (j7 fn.results.toList)) false none cs cs z) t j k v:=by
  intro z t j k todo a e;rw[vy];exact xj b g d (λM j k V=>i M j k V) a [] j k todo e
 refine eS (gm b ?_);refine yK c b g sY false none cs cs _ [] _ _ _ _ _ j k r (λz t M j k todo a e=> ?_) (λz t j k a e=> ?_) (λid z j k e=>e.elim) (λz t j k todo a e=> ?_) (yt args) e
 ·rw[vy];exact HA (aK:=aK) b g d (λM j k V=>i M j k V) (λM j k V=>m M j k V) a M [] j k todo e
 ·refine gm b ?_;have:=l z t j k [] a e;rw[vy]at this ⊢;show jx none (dw C aS a2 bc v) C [] ⟨f,fn.ntmps,Nat.lor (gR c) (j7 fn.results.toList),[],false,none,cs⟩ t j k=some v;exact eS this
 ·have:=l z t j k todo a e;rw[vy]at this ⊢;exact eS this
def Qj{C:ai}{f:Nat}{args:List y}{j:B R}{k:Nat}{aK b7:aY}(n:bD C f args.length=true)(e:o5 C f args j k aK b7):lT C f args j k aK b7:=by
 intro aS cn co b a2 bc v g cs i m;obtain⟨fn,c,d,T,p⟩:=Aa n;unfold o5 at e;simp only[d,T]at e;unfold iB;simp only[d,T,gQ,p];have r:oI ps false none cs cs:=⟨λ_=>rfl,λ_=>rfl,λe=>(by cases e),λM e=>(by cases e)⟩;have l:∀z t j k todo,eo z t->ic C fn.results.toList aK z z.aP j k->
  io C aS a2 bc .returning todo (dl ps f fn.ntmps (Nat.lor (gR c) (j7 fn.results.toList)) false none cs cs z) t j k v:=by
  intro z t j k todo a e;rw[vz];exact xj b g d (λM j k V=>i M j k V) a z.aP j k todo e
 refine eS (gm b ?_);refine yK c b g ps false none cs cs _ [] _ _ _ _ _ j k r (λz t M j k todo a e=> ?_) (λz t j k a e=> ?_) (λid z j k e=>e.elim) (λz t j k todo a e=> ?_) (yt args) e
 ·rw[vz];exact HA (aK:=aK) b g d (λM j k V=>i M j k V) (λM j k V=>m M j k V) a M z.aP j k todo e
 ·refine gm b ?_;have:=l z t j k [] a e;rw[vz]at this ⊢;show jx none (dw C aS a2 bc v) C [] ⟨f,fn.ntmps,Nat.lor (gR c) (j7 fn.results.toList),z.aP,false,none,cs⟩ t j k=some v;exact eS this
 ·have:=l z t j k todo a e;rw[vz]at this ⊢;exact eS this
def FO{C:ai}{f:Nat}{args:List y}{fX:Option y}{j:B R}{k:Nat}{aK:Bool->B R->Nat->Prop}(n:bD C f args.length=true)(e:nZ C f args fX j k aK)
 {aS:World}{cn:bT}{co:Nat->Prop}(d:Env C aS cn co){a2:Nat}{bc:List Frame}{v:y}(l:y.same 30 v v=true){cs bY:List d3}(r:oI ⟨false,false,some fX⟩ true none cs bY)
 (m:∀b M j k,aK b j k->lA (dw C aS a2 bc v) true (a8 b bY cs) M j k=some v):iB (dw C aS a2 bc v) C f args true cs j k=some v:=by
 obtain⟨fn,c,g,T,p⟩:=Aa n;unfold nZ at e;simp only[g,T]at e;unfold iB;simp only[g,T,gQ,p];have i:∀z t j k todo,eo z t->j8 C j z fn.results.toList (λ_=>aK z.rc j k)->
  io C aS a2 bc .returning todo (dl ⟨false,false,some fX⟩ f fn.ntmps (Nat.lor (gR c) (j7 fn.results.toList)) true none cs bY z) t j k v:=by
  intro z t j k todo a e;exact xj d l g (λM j k V=>m z.rc M j k V) a [] j k todo e
 refine eS (gm d ?_);refine yK c d l ⟨false,false,some fX⟩ true none cs bY _ [] _ _ _ (bI args) _ j k r (λz t M j k todo a e=>e.elim) (λz t j k a e=> ?_) (λid z j k e=>e.elim) (λz t j k todo a e=> ?_) (yt args) e
 ·refine gm d ?_;show jx none (dw C aS a2 bc v) C [] ⟨f,fn.ntmps,Nat.lor (gR c) (j7 fn.results.toList),[],true,none,a8 z.rc bY cs⟩ t j k=some v;exact eS (i z t j k [] a e)
 ·show jx (some .ret) (dw C aS a2 bc v) C todo ⟨f,fn.ntmps,Nat.lor (gR c) (j7 fn.results.toList),[],true,none,a8 z.rc bY cs⟩ t j k=some v;exact eS (i z t j k todo a e)
def wo{C:ai}{f:Nat}{args:List y}{fX:Option y}{j:B R}{k:Nat}{aK:Bool->B R->Nat->Prop}(d:bD C f args.length=true)(e:nZ C f args fX j k aK):BX C f args fX j k aK:=by
 intro aS cn co a a2 bc v g n ak sX iu s m l r i c;cases fX with
 |none=>refine FO d e a g ⟨λ_=>rfl,λe=>(by cases e),λe=>⟨rfl,rfl⟩,λM e=>(by cases e)⟩ (λb M j k V=> ?_);have:=c b j k V;cases b<;>exact this|some p=>
  refine FO d e a g (bY:=(⟨n,ak,sX,iu,s,m,.panicking [⟨p,true⟩],l,r⟩:d3)::i) ⟨λ_=>rfl,λe=>(by cases e),λe=>(by cases e),λM e=> ?_⟩ (λb M j k V=> ?_)
  ·simp only[Zh]at e;subst e;exact⟨rfl,rfl⟩
  ·have:=c b j k V;cases b<;>exact this
def Ox{C:ai}{aS:World}{cn:bT}{co:Nat->Prop}(a:Env C aS cn co){f:Nat}{args:List y}{v:y}(n:y.same 30 v v=true)(l:cu co args)
 (e:lT C f args .nil C.aD (λM _ _=>M=v) (λ_ _ _=>False)):Calls C.P f (bd cn args).toArray aS λu a6=>(∃D,u=.returned (aq D v))/\Below aS.heap.size aS a6:=by
 intro b;have m:=
  wc Ey a.base (Below.refl _ _) a.ec (Zg _) .nil (λ_=>rfl) l
   (e aS cn co a f b v n [] (λM S' W u=>by subst u;rfl) (λM S' W u=>u.elim))
 obtain⟨D,a6,fr,c,d,g,i⟩:=m;exact⟨.returned (aq D v),a6,fr,⟨⟨D,rfl⟩,i⟩,c,g,d⟩
end
end
end Go.aC
