/- Part of the proof of the last text; no conditions -/
import Derived.Test.YtehmapikajmjaaaGreatDoorYb
import Derived.Laws.RangeString
set_option maxHeartbeats 8000000
set_option linter.all false
namespace Go.aF
open Go.RowKit (Below)
section
variable{P:Program}{w a2:World}{bM:Array TypeId}{ty st eF ct:TypeId}{i:TypeInfo}{cb:TypeDesc}{base:Option Addr}{d2 gz n:Nat}{X aj:Value}{he new:Array Value}
def yg(P:Program)(w:World)(cb:TypeDesc)(X:Value)(i:TypeInfo):Prop:=
 ((cb=.string\/∃e,cb=.slice e)/\(Builtin.lenOf X).run P w=.ok 0 w/\(Builtin.firstCells i.size 0 X).run P w=.ok #[] w)\/((∃V,cb=.int V)/\∃k,X=.int k 0)
def vU(a:bM[0]? =some st)(b:bM[1]? =some eF)(d:P.underlying st=some (.slice ct))(e:P.underlying eF=some cb)(ag:P.info? ct=some i)
 (f:yg P w cb X i)(c:d2<=gz):(Builtin.append_ bM ty #[.slice base d2 gz,X]).run P w=.ok (.slice base d2 gz) w:=by
 rcases f with ⟨j,l,m⟩|⟨⟨V,rfl⟩,k,rfl⟩
 ·rcases j with rfl|⟨_,rfl⟩<;>cases base<;>simp[Builtin.append_,a,b,run_underlying d,run_underlying e,sizeOf,typeInfo,ag,l,c,m,storeCells]
 ·have h:IntKind.i64.wrap 0=0:=by decide
  have g:¬((2:Int)^48<0):=by decide
  cases base<;>simp[Builtin.append_,a,b,run_underlying d,run_underlying e,sizeOf,typeInfo,ag,asInt,asIntOf,h,g,c,storeCells]
variable{C:al}{F bY:bX}{Q b9:Nat->Prop}{q D:E S}{u Z aO:Nat}
def N6{cb:TypeDesc}{X aj:Value}{i:TypeInfo}(h:lZ C.P w cb X i aj 0 (bf F []).toArray):yg C.P w cb X i:=by
 rcases h with ⟨a,b,c,_⟩|⟨_,_,_,_,d,_⟩
 ·exact .inl ⟨a,b,c⟩
 ·grind
def QU{b I len aN n:Nat}(K:bW C F Q q u aO w)(W:Q b)(h:ii C q b=some n)(a:0<aN)(c:I+len*aN<=n):len<=((F b).room-I)/aN:=by have:=Ia K W h;rw[zk a];omega
def ER(K:bW C F Q q u aO w){bM:Array TypeId}{ty st eF ct:TypeId}{i:TypeInfo}{cb:TypeDesc}{s:z}{X:Value}{res:ck}
 (a:bM[0]? =some st)(b:bM[1]? =some eF)(d:C.P.underlying st=some (.slice ct))(e:C.P.underlying eF=some cb)(ag:C.P.info? ct=some i)(k:0<i.size)
 (c:yg C.P w cb X i)(Y:bs Q s)(h:mM C q i.size s=some res):∃v,res=.val v/\bs Q v/\(Builtin.append_ bM ty #[aq F s,X]).run C.P w=.ok (aq F v) w:=by
 unfold mM at h;split at h
 ·simp at h;subst h;exact⟨_,rfl,trivial,by simp only[aq];exact vU a b d e ag c (Zg _)⟩
 ·simp only[cO,Zh]at h;obtain⟨g,rfl⟩:=h;exact⟨_,rfl,Y,by simp only[aq];exact vU a b d e ag c (e7 g)⟩
 ·simp only[cO]at h;obtain⟨f,h⟩:=h;have f:=Zn f;subst f;split at h
  ·rename_i n j;simp only[cO,Zh]at h;obtain⟨g,rfl⟩:=h;exact⟨_,rfl,Y,by simp only[aq];exact vU a b d e ag c (QU K Y j k (e7 g))⟩
  ·simp at h
 ·simp only[Zh]at h;subst h;exact⟨_,rfl,Y,by simp only[aq];exact vU a b d e ag c (zB _)⟩
 ·simp at h
def r4(C:al)(F:bX)(Q:Nat->Prop)(q:E S)(u aO:Nat)(w:World)(s:Sem Value)(res:ck):Prop:=
 ∃v D Z,res=.cJ v D Z/\∃bY b9 a2,s.run C.P w=.ok (aq bY v) a2/\bs b9 v/\bW C bY b9 D Z aO a2/\eH C u F Q q aO w bY b9 D a2/\u<=Z
def j7(K:bW C F Q q u aO w):¬Q u:=λh=>zL (K.lt u h)
def Oh(cx:aO<=w.heap.size)(I:Obj):Below aO w (w.drew.alloc I):=(Below.drew (Below.refl aO w)).trans (Below.alloc (Below.refl aO w.drew) cx I)
def Ag(K:bW C F Q q u aO w){pl:hv}(cx:aO<=w.heap.size)(I:Obj)(a:∀x,x≠u->¬Q x->H C D x=H C q x):eH C u F Q q aO w (dR F u pl) (add Q u) D (w.drew.alloc I):=
 ⟨ke (j7 K),λ_ h=> .inl h,λx h=>h.elim .inl (λh=> .inr Zo),λx b c=>a x Zo b,Oh cx I⟩
def Gb{l:List z}{rest:Array Value}{cap aN:Nat}(g:cz Q l)(d:¬Q u)(f:l.length+rest.size=cap*aN)(ct:TypeId)(b:List Nat):
 f7 C (dR F u ⟨w.heap.size,0,cap*aN⟩) (add Q u) (.cells (E.ofList l 0 .nil) l.length (.grow b)) ⟨w.heap.size,0,cap*aN⟩ (w.drew.alloc (.cells ((bf F l).toArray++rest) ct)):=by
 have e:=ke (F:=F) (pl:=⟨w.heap.size,0,cap*aN⟩) d;refine⟨_,ct,0,0,mf w.drew _,⟨.inl rfl,by simp only;omega, ?_⟩, ?_,λi v a=> ?_⟩
 ·simp only[YQ,Yi,fI];omega
 ·simp only[YQ,Yi,fI];omega
 ·rw[g0]at a;have dj:=pa g a;have c:=(Ze.1 a).1;refine⟨?_,iV (λ_ h=> .inl h) v dj⟩;rw[jW e dj,Yu (by simpa[fI]using c)];simp[oU,a]
def I3(zero:Array Value)(n:Nat):(Builtin.zeroCells zero n).size=n*zero.size:=by simp[Builtin.zeroCells]
variable{l:List z}
def At(K:bW C F Q q u aO w)(cx:aO<=w.heap.size){s:z}{base:Option Addr}{d2 gz:Nat}{aT:List z}(T7:aj.cells.size=i.size)
 (k:bM[0]? =some st)(m:bM[1]? =some eF)(T2:C.P.underlying st=some (.slice ct))(T5:C.P.underlying eF=some cb)(ag:C.P.info? ct=some i)(T6:i.zero=some aj)(T4:0<i.size)(G:i.bytes<=65536)
 (A:lZ C.P w cb X i aj n (bf F l).toArray)(g:cz Q l)(TY:l.length=n*i.size)(j:cz Q aT)(TZ:aT.length=d2*i.size)(O:¬(d2+n<=gz))(T1:aq F s=.slice base d2 gz)
 (T0:(Builtin.firstCells i.size d2 (.slice base d2 gz)).run C.P w.drew=.ok (bf F aT).toArray w.drew)(P:d2+n<=1048576){au:E S}(a:List Nat)
 (p:H C au u=some (.cells (E.ofList (aT++l) 0 .nil) (aT++l).length (.grow a)))(r:bW C F Q D u aO w)(t:∀x,x≠u->H C au x=H C D x\/H C au x=none)
 (v:∀x,x≠u->¬Q x->H C au x=H C q x)(b:∀x∈a,Q x/\C.aB<=x):
 ∃bY b9 a2,(Builtin.append_ bM ty #[aq F s,X]).run C.P w=.ok (aq bY (.cq u 0 (d2+n) i.size)) a2/\bs b9 (.cq u 0 (d2+n) i.size)/\bW C bY b9 au (u+1) aO a2/\eH C u F Q q aO w bY b9 au a2:=by
 obtain⟨cap,T9,d⟩:=ET k m T2 T5 ag T6 A O G P T0;have N:(aT++l).length=(d2+n)*i.size:=by grind
 have T3:(aT++l).length+(Builtin.zeroCells aj.cells (cap-(d2+n))).size=cap*i.size:=by rw[I3,T7,N, <-Yj];congr 1;omega
 have e:(bf F aT).toArray++(bf F l).toArray=(bf F (aT++l)).toArray:=by rw[qh];simp
 rw[e]at d;have L:=Gb (C:=C) (F:=F) (w:=w) (o9 j g) (j7 K) T3 ct a;refine⟨dR F u ⟨w.heap.size,0,cap*i.size⟩,add Q u,w.drew.alloc (.cells ((bf F (aT++l)).toArray++Builtin.zeroCells aj.cells (cap-(d2+n))) ct), ?_,.inr rfl, ?_, ?_⟩
 ·rw[T1,d];simp only[aq,gT,zf];rw[Nat.mul_div_cancel _ T4]
 ·exact r.drew.alloc K.aB (Yr _) (Yb _) (j7 K) cx rfl p t L ⟨λc T8 U0 h=>(by cases h;exact λx f=>⟨.inl (b x f).1,(b x f).2⟩),λc T8 st h=>(by cases h;exact s9)⟩
 ·exact Ag K cx _ v
def F9{n aN:Nat}{res:ck}(h:k6 C q u n aN l=some res):n<=1048576/\res=.cJ (.cq u 0 n aN) (aH C q u (some (.cells (E.ofList l 0 .nil) l.length (.grow [])))) (u+1):=by unfold k6 fE at h;simp_all
def Qg{b I len cap aN:Nat}{dk:List z}(K:bW C F Q q u aO w)(W:Q b)(h:gq C q b I (len*aN)=some dk):
 (Builtin.firstCells aN len (.slice (some ⟨(F b).bA,(F b).cn+I,none⟩) len cap)).run C.P w.drew=.ok (bf F dk).toArray w.drew/\cz Q dk:=by
 obtain⟨a,c⟩:=sq K.drew W h;exact⟨by simp[Builtin.firstCells,a],c⟩
def acC{bj:Array Value}{cn I p:Nat}{c:E z}{dk l:List z}{k:Nat}(i:p=cn+I+dk.length)(f:p+l.length<=bj.size)(b:cz Q dk)(d:cz Q l)
 (e:∀j v,dk[j]? =some v->bj[cn+I+j]? =some (aq F v)):
 ∀j v,(dk++l)[j]? =some v->(fP bj p (bf F l))[cn+I+j]? =some (aq F v)/\bs Q v:=by
 intro j v a;rw[xG _ _ _ _ (by rw[fI];exact f),fI];by_cases g:j<dk.length
 ·rw[ZQ g]at a;rw[Zi Zo];exact⟨e j v a,pa b a⟩
 ·rw[ZW Zo]at a;have h:=(Ze.1 a).1;rw[Zv Zo,oU,show cn+I+j-p=j-dk.length by omega,a];exact⟨rfl,pa d a⟩
def ES(K:bW C F Q q u aO w)(cx:aO<=w.heap.size)(UQ:aj.cells.size=i.size){b I len size:Nat}{c:E z}{b3:List Nat}{dk:List z}
 (T0:bM[0]? =some st)(T1:bM[1]? =some eF)(U2:C.P.underlying st=some (.slice ct))(U3:C.P.underlying eF=some cb)(ag:C.P.info? ct=some i)(U4:i.zero=some aj)(G:0<i.size)(U8:i.bytes<=65536)
 (T2:lZ C.P w cb X i aj n (bf F l).toArray)(P:cz Q l)(TZ:l.length=n*i.size)(ai:Q b)(Ud:0<n)(d:H C q b=some (.cells c size (.grow b3)))(W:C.aB<=b)(g:c.gs I (len*i.size)=some dk)(UE:len+n<=1048576)(UH:dU l=true):
 r4 C F Q q u aO w (Builtin.append_ bM ty #[aq F (.cq b I len i.size),X]) (.cJ (.cq u 0 (len+n) i.size) (aH C (aH C (fi C b3 q) b none) u (some (.cells (E.ofList (dk++l) 0 .nil) (dk++l).length (.grow [])))) (u+1)):=by
 obtain⟨bj,cd,aT,r,aL,bt,a3,a4⟩:=K.obj b _ d ai;obtain⟨T7,Ug,UY⟩:=bt;have T3:=K.base b _ W d ai;have U1:=(K.b3 b _ d ai).1 _ _ _ rfl;have Ue:b≠u:=λe=>zL (K.lt b ai);have UD:=j7 K;have UI:∀v∈bf F l,v.oneCell'=true:=xh UH;have Ua:(len+n)*i.size=len*i.size+n*i.size:=Yj ..;have U0:dk.length=len*i.size:=GB g;have T4:cellsOf C q b=some c:=by simp[cellsOf,d]
 have t:∀x,x≠b->H C (aH C (fi C b3 q) b none) x=if x∈b3 then none else H C q x:=λx a=>by rw[dm _ W,Zi a,Ay _ _ _ λo UP=>(U1 o UP).2]
 have TY:H C (aH C (fi C b3 q) b none) b=none:=by rw[dm _ W,Zv rfl]
 have T6:bW C F Q (aH C (fi C b3 q) b none) u aO w:=K.Ah λx=>by
  by_cases e:x=b
  ·subst e;exact .inr TY
  ·rw[t x e];split
   ·exact .inr rfl
   ·exact .inl rfl
 have T9:∀x,¬Q x->H C (aH C (fi C b3 q) b none) x=H C q x:=λx a=>by have L:x≠b:=λe=>a (by rw[e];exact ai);rw[t x L,Zi λA=>a (U1 x A).1]
 have UL:H C (aH C (aH C (fi C b3 q) b none) u (some (.cells (E.ofList (dk++l) 0 .nil) (dk++l).length (.grow [])))) u=some (.cells (E.ofList (dk++l) 0 .nil) (dk++l).length (.grow [])):=by rw[dm _ K.aB,Zv rfl]
 have T5:∀x,x≠u->H C (aH C (aH C (fi C b3 q) b none) u (some (.cells (E.ofList (dk++l) 0 .nil) (dk++l).length (.grow [])))) x=H C (aH C (fi C b3 q) b none) x:=λx a=>by rw[dm _ K.aB,Zi a]
 obtain⟨UZ,T8⟩:=v6 K ai T4 g;by_cases m:len+n<=((F b).room-I)/i.size
 ·
  have Uf:0<(len+n)*i.size:=Nat.mul_pos Zo G;have Uh:I+(len+n)*i.size<=(F b).room:=by have UX:=(zk G).1 m;omega
  have UM:=xD C.P (F b).bA ((F b).cn+(I+len*i.size)) cd aT r (bf F l) 0 bj w aL (T7.imp (λe=>zq e.symm) id) (by rw[fI];omega) UI;have UN:∀k,k≠(F b).bA->(w.setRow (F b).bA (fP bj ((F b).cn+(I+len*i.size)+0) (bf F l))).heap[k]? =w.heap[k]? :=λk UC=>setRow_other w _ k _ UC;have UK:=setRow_heap w (F b).bA bj (fP bj ((F b).cn+(I+len*i.size)+0) (bf F l)) cd (aT,r) aL;have U5:=ke (F:=F) (pl:=⟨(F b).bA,(F b).cn+I,(F b).room-I⟩) UD;have Ub:(dk++l).length=(len+n)*i.size:=by rw[ZH,U0,TZ,Yj]
  have UF:f7 C (dR F u ⟨(F b).bA,(F b).cn+I,(F b).room-I⟩) (add Q u) (.cells (E.ofList (dk++l) 0 .nil) (dk++l).length (.grow [])) ⟨(F b).bA,(F b).cn+I,(F b).room-I⟩ (w.setRow (F b).bA (fP bj ((F b).cn+(I+len*i.size)+0) (bf F l))):=by
   refine⟨_,cd,aT,r,UK,⟨by rw[ng];exact T7,by simp only;omega,by rw[ng];simp only;omega⟩,by rw[ng];simp only;omega,λj v f=> ?_⟩;rw[g0]at f;obtain⟨U7,O⟩:=acC (F:=F) (Q:=Q) (bj:=bj) (cn:=(F b).cn) (I:=I) (p:=(F b).cn+(I+len*i.size)+0) (c:=c) (k:=0) Zo Zo T8 P (λj v f=>by
    have UB:j<len*i.size:=zL (Ze.1 f).1;have:=(E.wE _ _ _ _ g).2 j UB;rw[f]at this;have:=(a4 _ _ this).1;rw[<-Ye]at this;exact this) j v f
   exact⟨by rw[jW U5 O];exact U7,iV (λ_ h=> .inl h) v O⟩
  have UJ:=T6.share (a2:=w.setRow (F b).bA (fP bj ((F b).cn+(I+len*i.size)+0) (bf F l))) (pl:=⟨(F b).bA,(F b).cn+I,(F b).room-I⟩) (bU:=.cells (E.ofList (dk++l) 0 .nil) (dk++l).length (.grow [])) T3 rfl UN UF
   ⟨λN U6 UR h=>(by cases h;simp),λN U6 fF h=>(by cases h;exact s9)⟩
   (λx US a cb L=>by
    exfalso;by_cases e:x=b
    ·subst e;rw[TY]at a;cases a
    ·rw[t x e]at a;split at a
     ·cases a
     ·rename_i UG;rcases(K.sep b x _ US d a ai cb (λV=>e V.symm) W L.symm).1 with ⟨_,_,_,_,V,_⟩|⟨_,_,UR,N,U6,V,_,A,_⟩|⟨_,_,_,_,_,_,V,_⟩
      ·cases V
      ·cases V;exact UG A
      ·cases V)
  refine⟨_,_,_,rfl,dR F u ⟨(F b).bA,(F b).cn+I,(F b).room-I⟩,add Q u,_, ?_,.inr rfl,UJ,⟨U5,λ_ h=> .inl h,λx h=>h.elim .inl (λh=> .inr Zo),λx a Uc=> ?_,yJ T3 _ _⟩,Yb _⟩
  ·simp only[aq,gT,ZN,zf];refine vT T0 T1 U2 U3 ag U4 T2 m ?_;rw[jT,Ye];exact UM
  ·rw[dm _ K.aB,Zi Zo,T9 x a]
 ·have U9:(Builtin.firstCells i.size len (.slice (some ⟨(F b).bA,(F b).cn+I,none⟩) len (((F b).room-I)/i.size))).run C.P w.drew=.ok (bf F dk).toArray w.drew:=by obtain⟨UA,_⟩:=v6 K.drew ai T4 g;simp[Builtin.firstCells,UA]
  obtain⟨bY,b9,a2,UT,UU,UV,UW⟩:=At (ty:=ty) K cx (s:=.cq b I len i.size) (aT:=dk) UQ T0 T1 U2 U3 ag U4 G U8 T2 P TZ T8 U0 m rfl U9 UE []
   UL T6 (λx a=> .inl (T5 x a)) (λx a UO=>by rw[T5 x a,T9 x UO]) Zs
  exact⟨_,_,_,rfl,bY,b9,a2,UT,UU,UV,UW,Yb _⟩
def N4(K:bW C F Q q u aO w)(cx:aO<=w.heap.size)(T0:aj.cells.size=i.size){b I k:Nat}{res:ck}
 (f:bM[0]? =some st)(g:bM[1]? =some eF)(L:C.P.underlying st=some (.slice ct))(O:C.P.underlying eF=some cb)(ag:C.P.info? ct=some i)(P:i.zero=some aj)(N:0<i.size)(m:i.bytes<=65536)
 (j:lZ C.P w cb X i aj n (bf F l).toArray)(d:cz Q l)(t:l.length=n*i.size)(ai:Q b)(T9:0<n)(h:vS C q u b i.size n l=some res):
 r4 C F Q q u aO w (Builtin.append_ bM ty #[aq F (.gf b I k i.size),X]) res:=by
 unfold vS at h;split at h
 ·rename_i c size b3 A;simp only[cO,Zu]at h;obtain⟨T4,⟨v,TY⟩,h⟩:=h;have W:C.aB<=b:=e7 T4;have v:=e7 v;simp only[fE,gi,du,Zh]at h;subst h;by_cases V:((F b).room-I)/i.size=k
  ·have G:=(K.b3 b _ A ai).1 _ _ _ rfl;have U5:b≠u:=λe=>zL (K.lt b ai);have T7:H C (aH C (fi C b3 q) b none) b=none:=(by rw[dm _ W,Zv rfl]);have r:∀x,x≠b->H C (aH C (fi C b3 q) b none) x=if x∈b3 then none else H C q x:=λx a=>(by rw[dm _ W,Zi a,Ay _ _ _ λo U2=>(G o U2).2]);have T5:bW C F Q (aH C (fi C b3 q) b none) u aO w:=K.Ah λx=>by
    by_cases e:x=b
    ·subst e;exact .inr T7
    ·rw[r x e];split
     ·exact .inr rfl
     ·exact .inl rfl
   have T6:∀x,¬Q x->H C (aH C (fi C b3 q) b none) x=H C q x:=λx a=>(by have U0:x≠b:=λe=>a (by rw[e];exact ai);rw[r x U0,Zi λT8=>a (G x T8).1]);have TZ:H C (aH C (aH C (fi C b3 q) b none) u (some (.cells (E.ofList ([]++l) 0 .nil) ([]++l).length (.grow [])))) u=some (.cells (E.ofList ([]++l) 0 .nil) ([]++l).length (.grow [])):=(by rw[dm _ K.aB,Zv rfl]);have p:∀x,x≠u->H C (aH C (aH C (fi C b3 q) b none) u (some (.cells (E.ofList ([]++l) 0 .nil) ([]++l).length (.grow [])))) x=H C (aH C (fi C b3 q) b none) x:=λx a=>(by rw[dm _ K.aB,Zi a]);obtain⟨bY,b9,a2,T1,T2,U3,U4⟩:=At (ty:=ty) K cx (s:=.gf b I k i.size) (aT:=[]) (d2:=0) (gz:=0) (base:=some ⟨(F b).bA,(F b).cn+I,none⟩) T0 f g L O ag P N m j d t trivial Zs Zo (by simp only[aq,V,ZL,Nat.sub_self])
    (by simp[Builtin.firstCells,loadCells,loadCellsFrom,bf]) Zo [] TZ T5 (λx a=> .inl (p x a)) (λx a U1=>by rw[p x a,T6 x U1]) Zs
   rw[ZK]at T1 T2;exact⟨_,_,_,rfl,bY,b9,a2,T1,T2,U3,U4,Yb _⟩
  ·have e:aq F (.gf b I k i.size)=aq F (.cq b (I+k*i.size) 0 i.size):=(by have T3:((F b).room-(I+k*i.size))/i.size=((F b).room-I)/i.size-k:=(by rw[<-Nat.sub_sub,zD k i.size,Nat.sub_mul_div]);simp only[aq,V,ZJ,T3]);rw[e];have:=ES (ty:=ty) K cx T0 f g L O ag P N m j d t ai T9 A W (I:=I+k*i.size) (len:=0) (dk:=[]) (by simp[E.gs]) Zo TY;rw[ZK]at this;exact this
 ·simp at h
def N5(K:bW C F Q q u aO w)(cx:aO<=w.heap.size)(UF:aj.cells.size=i.size){b I len:Nat}{res:ck}
 (T0:bM[0]? =some st)(T1:bM[1]? =some eF)(T8:C.P.underlying st=some (.slice ct))(TY:C.P.underlying eF=some cb)(ag:C.P.info? ct=some i)(TZ:i.zero=some aj)(T9:0<i.size)(U6:i.bytes<=65536)
 (T2:lZ C.P w cb X i aj n (bf F l).toArray)(O:cz Q l)(U9:l.length=n*i.size)(ai:Q b)(UQ:0<n)(h:oM C q u b I len i.size n l=some res):
 r4 C F Q q u aO w (Builtin.append_ bM ty #[aq F (.cq b I len i.size),X]) res:=by
 unfold oM at h;split at h
 ·rename_i c size b3 r;simp only[cO]at h;obtain⟨UM,h⟩:=h;have W:C.aB<=b:=e7 UM;obtain⟨bj,cd,aT,G,aL,bt,a3,a4⟩:=K.obj b _ r ai;obtain⟨U8,Ue,UN⟩:=bt;have U5:=K.base b _ W r ai;have T6:=(K.b3 b _ r ai).1 _ _ _ rfl;have U0:=(K.b3 b _ r ai).2 _ _ _ rfl;have Ud:b≠u:=λe=>zL (K.lt b ai);have U2:=j7 K;rw[cY]at h;split at h
  ·
   rename_i U7;have U7:I+(len+n)*i.size<=size:=e7 U7;split at h
   ·rename_i D UW;simp at h;subst h;obtain⟨a2,a7,bl,UZ⟩:=tP K (bQ:=u) ai O UW;have A:len+n<=((F b).room-I)/i.size:=(by rw[zk T9];omega);refine⟨_,_,_,rfl,F,Q,a2, ?_,ai,bl,UZ,Zg _⟩;simp only[aq];refine vT T0 T1 T8 TY ag TZ T2 A ?_;rw[jT,Ye];exact a7
   ·simp at h
  ·simp only[cO,Zu]at h;obtain⟨⟨T5,UC⟩,h⟩:=h;have T5:=e7 T5;have US:∀v∈bf F l,v.oneCell'=true:=xh UC;have Ub:(len+n)*i.size=len*i.size+n*i.size:=Yj ..;rw[cY]at h;split at h
   ·
    rename_i U1;simp only[Zu]at U1;have N:I+len*i.size=size:=Zn U1.1;have UK:I=0:=Zn U1.2;subst UK;have N:len*i.size=size:=Zo;simp only[du,fE,gi,Zh]at h;subst h;have T7:=K.aa6 W ai r;by_cases A:len+n<=((F b).room-0)/i.size
    ·
     have Uf:(len+n)*i.size<=(F b).room:=(by have:=(zk T9).1 A;omega);have UU:=xD C.P (F b).bA ((F b).cn+size) cd aT G (bf F l) 0 bj w aL (U8.imp (λe=>zq e.symm) id) (by rw[fI];omega)
     ·have UV:=UU US;have UX:∀k,k≠(F b).bA->(w.setRow (F b).bA (fP bj ((F b).cn+size+0) (bf F l))).heap[k]? =w.heap[k]? :=λk UO=>setRow_other w _ k _ UO;have UD:=setRow_heap w (F b).bA bj (fP bj ((F b).cn+size+0) (bf F l)) cd (aT,G) aL;have L:=ke (F:=F) (pl:=F b) U2;have U3:f7 C (dR F u (F b)) (add Q u) (.cells (cj c size l) (size+l.length) (.grow (b::b3))) (F b) (w.setRow (F b).bA (fP bj ((F b).cn+size+0) (bf F l))):=(by refine⟨_,cd,aT,G,UD,⟨by rw[ng];exact U8,Zo,by rw[ng];exact UN⟩,by rw[ng];omega,λj v d=> ?_⟩;obtain⟨t,p⟩:=IY (F:=F) (Q:=Q) (c:=c) (bj:=bj) (cn:=(F b).cn) (I:=size) (n:=size+l.length) O Zo Zo a4 j v d;exact⟨by rw[jW L p];exact t,iV (λ_ h=> .inl h) v p⟩);have UT:=T7.share (u:=u) (a2:=w.setRow (F b).bA (fP bj ((F b).cn+size+0) (bf F l))) (pl:=F b) (bU:=.cells (cj c size l) (size+l.length) (.grow (b::b3))) U5 rfl UX U3
       ⟨λm g UH h=>(by
        cases h;intro x a;rcases Zq.1 a with rfl|a
        ·exact⟨.inl ai,W⟩
        ·exact⟨.inl (T6 x a).1,(T6 x a).2⟩),
        λm g fF h=>(by cases h;exact xZ (Zg _) λj v d=>ZV (U0 j v d) (zs _ _))⟩
       (λx U4 a cb s=>by
        have UG:∀m g,U4=.cells m g .fG->g<=size->(F x).cn=(F b).cn->f7 C F Q U4 (F x) (w.setRow (F b).bA (fP bj ((F b).cn+size+0) (bf F l))):=(by intro m g e Uc Ug;subst e;have UA:=(T7.b3 x _ a cb).2 _ _ _ rfl;obtain⟨qb,Uj,Ui,gb,bc,bp,bG,UJ⟩:=T7.obj x _ a cb;rw[s,aL]at bc;cases bc;refine⟨_,cd,aT,G,by rw[s];exact UD,by rw[ng];exact bp,by rw[ng];exact bG,λj v d=> ?_⟩;obtain⟨t,p⟩:=UJ j v d;have:=UA j v d;refine⟨?_,p⟩;rw[xG _ _ _ _ (by rw[fI];omega),Zi Zo];exact t);by_cases e:x=b
        ·subst e;rw[dm _ W,Zv rfl]at a;cases a;exact⟨UG c size rfl (Zg _) rfl,.inr (.inl ⟨_,_,_,_,_,rfl,rfl,Zs,Zo⟩),.inr (.inr ⟨_,_,_,_,_,rfl,rfl,Zs,Zo⟩),rfl⟩
        ·rw[dm _ W,Zi e]at a;obtain⟨gu,hB⟩:=K.sep b x _ U4 r a ai cb (λV=>e V.symm) W s.symm;rcases gu with ⟨_,_,_,_,V,_⟩|⟨_,_,UH,m,g,V,rfl,UB,UP⟩|⟨_,_,_,_,_,_,V,_⟩
         ·cases V
         ·cases V;refine⟨UG m g rfl UP hB.symm,.inr (.inl ⟨_,_,_,_,_,rfl,rfl,Zw _ UB,Zo⟩),.inr (.inr ⟨_,_,_,_,_,rfl,rfl,Zw _ UB,Zo⟩),hB⟩
         ·cases V)
      refine⟨_,_,_,rfl,dR F u (F b),add Q u,_, ?_,.inr rfl,UT,⟨L,λ_ h=> .inl h,λx h=>h.elim .inl (λh=> .inr Zo),λx a UA=> ?_,yJ U5 _ _⟩,Yb _⟩
      ·simp only[aq,gT];rw[ZN];refine vT T0 T1 T8 TY ag TZ T2 A ?_;rw[jT,N];exact UV
      ·have s:x≠b:=λe=>a (by rw[e];exact ai);rw[dm _ K.aB,Zi Zo,dm _ W,Zi s]
    ·
     have UR:(Builtin.firstCells i.size len (.slice (some ⟨(F b).bA,(F b).cn+0,none⟩) len (((F b).room-0)/i.size))).run C.P w.drew=.ok ((bj.toList.drop (F b).cn).take size).toArray w.drew:=by
      have T4:=run_loadCells_list (P:=C.P) w.drew ⟨(F b).bA,(F b).cn+0,none⟩ ((bj.toList.drop (F b).cn).take size) (λj v d=>by
       rw[jT];have T3:j<size:=(by have:=(Ze.1 d).1;simp at this;omega);rw[zb T3,zg]at d;have UI:w.drew.heap[(F b).bA]? =some (.cells bj cd (aT,G)):=aL;simp only[World.cell?,UI];simpa[Z2]using d)
      have f:((bj.toList.drop (F b).cn).take size).length=size:=(by simp;omega);rw[f]at T4;simp only[Builtin.firstCells,N];exact T4
     obtain⟨cap,Ua,UE⟩:=ET (ty:=ty) T0 T1 T8 TY ag TZ T2 A U6 T5 UR;have f:((bj.toList.drop (F b).cn).take size).length=size:=(by simp;omega);have Uh:size+l.length+(Builtin.zeroCells aj.cells (cap-(len+n))).size=cap*i.size:=(by rw[I3,UF,U9, <-N, <-Yj, <-Yj];congr 1;omega);have L:=ke (F:=F) (pl:=⟨w.heap.size,0,cap*i.size⟩) U2;have U3:f7 C (dR F u ⟨w.heap.size,0,cap*i.size⟩) (add Q u) (.cells (cj c size l) (size+l.length) (.grow (b::b3))) ⟨w.heap.size,0,cap*i.size⟩
      (w.drew.alloc (.cells (((bj.toList.drop (F b).cn).take size).toArray++(bf F l).toArray++Builtin.zeroCells aj.cells (cap-(len+n))) ct)):=by
      refine⟨_,ct,0,0,mf w.drew _,⟨.inl rfl,by simp only;omega, ?_⟩, ?_,λj v d=> ?_⟩
      ·simp only[YQ,Yi,fI,f];omega
      ·simp only[YQ,Yi,fI,f];omega
      ·rw[B9,E.wF]at d;simp only[ZK];split at d
       ·rename_i T3;have dj:=pa O d;refine⟨?_,iV (λ_ h=> .inl h) v dj⟩;rw[jW L dj,Yu (by simp only[YQ,Yi,fI,f];omega),Array.getElem?_append_right (by simp only[Yi,f];omega)];simp only[Yi,f,zj,oU,d,ZX]
       ·have T3:=U0 j v d;obtain⟨t,p⟩:=a4 j v d;refine⟨?_,iV (λ_ h=> .inl h) v p⟩;rw[jW L p,Yu (by simp only[YQ,Yi,fI,f];omega),Yu (by simp only[Yi,f];omega)];rw[zj,zb T3,zg,Z2];exact t
     have UL:H C (aH C (aH C q b (some (.cells c size .fG))) u (some (.cells (cj c size l) (size+l.length) (.grow (b::b3))))) u=some (.cells (cj c size l) (size+l.length) (.grow (b::b3))):=(by rw[dm _ K.aB,Zv rfl]);refine⟨_,_,_,rfl,dR F u ⟨w.heap.size,0,cap*i.size⟩,add Q u,_, ?_,.inr rfl,T7.drew.alloc K.aB (Yr _) (Yb _) U2 cx rfl UL (λx a=> .inl ?_) U3 ?_,Ag K cx _ (λx a UY=> ?_),Yb _⟩
     ·simp only[aq,gT,ZK,zf];simp only[ZN,zf]at UE ⊢;rw[UE,Nat.mul_div_cancel _ T9]
     ·rw[dm _ K.aB,Zi a]
     ·exact⟨λm g UH h=>(by
           cases h;intro x a;rcases Zq.1 a with rfl|a
           ·exact⟨.inl ai,W⟩
           ·exact⟨.inl (T6 x a).1,(T6 x a).2⟩),
       λm g fF h=>(by cases h;exact xZ (Zg _) λj v d=>ZV (U0 j v d) (zs _ _))⟩
     ·have s:x≠b:=λe=>UY (by rw[e];exact ai);rw[dm _ K.aB,Zi a,dm _ W,Zi s]
   ·
    split at h
    ·rename_i dk T4;simp only[fE,gi,du,Zh]at h;subst h;exact ES (ty:=ty) K cx UF T0 T1 T8 TY ag TZ T9 U6 T2 O U9 ai UQ r W T4 T5 UC
    ·simp at h
 ·simp at h
def Ga(K:bW C F Q q u aO w)(cx:aO<=w.heap.size){s:z}{base:Option Addr}{d2 gz:Nat}{aT:List z}{res:ck}(N:aj.cells.size=i.size)
 (d:bM[0]? =some st)(e:bM[1]? =some eF)(v:C.P.underlying st=some (.slice ct))(G:C.P.underlying eF=some cb)(ag:C.P.info? ct=some i)(L:i.zero=some aj)(A:0<i.size)(g:i.bytes<=65536)
 (f:lZ C.P w cb X i aj n (bf F l).toArray)(b:cz Q l)(j:l.length=n*i.size)(c:cz Q aT)(k:aT.length=d2*i.size)(m:¬(d2+n<=gz))(t:aq F s=.slice base d2 gz)
 (r:(Builtin.firstCells i.size d2 (.slice base d2 gz)).run C.P w.drew=.ok (bf F aT).toArray w.drew)(h:k6 C q u (d2+n) i.size (aT++l)=some res):
 r4 C F Q q u aO w (Builtin.append_ bM ty #[aq F s,X]) res:=by
 obtain⟨p,rfl⟩:=F9 h;obtain⟨bY,b9,a2,O,P,T0,T1⟩:=At K cx N d e v G ag L A g f b j c k m t r p (au:=aH C q u (some (.cells (E.ofList (aT++l) 0 .nil) (aT++l).length (.grow [])))) []
  (by rw[dm _ K.aB,Zv rfl]) K (λx a=> .inl (by rw[dm _ K.aB,Zi a])) (λx a _=>by rw[dm _ K.aB,Zi a]) Zs
 exact⟨_,_,_,rfl,bY,b9,a2,O,P,T0,T1,Yb _⟩
def EQ(K:bW C F Q q u aO w)(cx:aO<=w.heap.size)(v:aj.cells.size=i.size){s:z}{res:ck}
 (e:bM[0]? =some st)(f:bM[1]? =some eF)(j:C.P.underlying st=some (.slice ct))(k:C.P.underlying eF=some cb)(ag:C.P.info? ct=some i)(m:i.zero=some aj)(t:0<i.size)(p:i.bytes<=65536)
 (g:lZ C.P w cb X i aj n (bf F l).toArray)(d:cz Q l)(r:l.length=n*i.size)(Y:bs Q s)(A:0<n)(h:jU C q u i.size n l s=some res):
 r4 C F Q q u aO w (Builtin.append_ bM ty #[aq F s,X]) res:=by
 unfold jU at h;split at h
 ·refine Ga (d2:=0) (gz:=0) (aT:=[]) (base:=none) K cx v e f j k ag m t p g d r trivial Zs Zo rfl ?_ (by simpa using h);simp[Builtin.firstCells,bf]
 ·rename_i b I len cap;rw[cY]at h;split at h
  ·rename_i a;have a:=e7 a;split at h
   ·rename_i D G;simp at h;subst h;obtain⟨a2,a7,bl,L⟩:=tP K (bQ:=u) Y d G;refine⟨_,_,_,rfl,F,Q,a2, ?_,Y,bl,L,Zg _⟩;simp only[aq];refine vT e f j k ag m g a ?_;rw[jT,Ye];exact a7
   ·simp at h
  ·rename_i a;have a:¬(len+n<=cap):=λV=>a (by simpa using V);split at h
   ·rename_i dk x;obtain⟨a7,bl⟩:=Qg (aN:=i.size) (cap:=cap) K Y x;exact Ga K cx v e f j k ag m t p g d r bl (yU x) a rfl a7 h
   ·simp at h
 ·rename_i b I len N;simp only[cO]at h;obtain⟨c,h⟩:=h;have c:=Zn c;subst c;exact N5 K cx v e f j k ag m t p g d r Y A h
 ·rename_i b I len N;simp only[cO]at h;obtain⟨c,h⟩:=h;have c:=Zn c;subst c;exact N4 K cx v e f j k ag m t p g d r Y A h
 ·simp at h
def yf(C:al)(F:bX)(Q:Nat->Prop)(q:E S)(u aO:Nat)(w:World)(s:Sem Value)(res:ck):Prop:=
 r4 C F Q q u aO w s res\/∃v,res=.val v/\bs Q v/\s.run C.P w=.ok (aq F v) w
def EB(K:bW C F Q q u aO w)(cx:aO<=w.heap.size){bM:Array TypeId}{ty st eF:TypeId}{cb:TypeDesc}{s x:z}{res:ck}
 (c:bM[0]? =some st)(d:bM[1]? =some eF)(k:C.P.underlying eF=some cb)(t:cb=.string\/∃e,cb=.slice e)(Y:bs Q s)(r:bs Q x)(h:si C q u st s x=some res):
 yf C F Q q u aO w (Builtin.append_ bM ty #[aq F s,aq F x]) res:=by
 unfold si at h;split at h
 ·rename_i ct j;split at h
  ·rename_i i ag;split at h
   ·rename_i n l G;simp only[cO,Zu]at h;obtain⟨⟨⟨a,b⟩,m⟩,h⟩:=h;have a:=hy a;have b:=e7 b;obtain⟨aj,L,N⟩:∃aj,i.zero=some aj/\aj.cells.size=i.size:=by
     unfold I4 at m;split at m
     ·simp_all
     ·grind
    obtain⟨f,p,g⟩:=ab2 K r t G;rw[ee]at h;split at h
    ·rename_i A;subst A
     have:l=[]:=YP.1 (by rw[g];simp)
     subst this;obtain⟨v,O,P,X⟩:=ER K c d j k ag a (N6 f) Y h;exact .inr ⟨v,O,P,X⟩
    ·exact .inl (EQ K cx N c d j k ag L a b f p g Y Zo h)
   ·simp at h
  ·simp at h
 ·simp at h
def NC(K:bW C F Q q u aO w)(cx:aO<=w.heap.size){bM:Array TypeId}{ty st eF:TypeId}{V:IntKind}{s x:z}{n:Nat}{res:ck}
 (l:bM[0]? =some st)(m:bM[1]? =some eF)(r:C.P.underlying eF=some (.int V))(Y:bs Q s)(L:hc x=some n)(h:vN C q u st s n=some res):
 yf C F Q q u aO w (Builtin.append_ bM ty #[aq F s,aq F x]) res:=by
 obtain⟨k,rfl⟩:=q1 L;unfold vN at h;split at h
 ·rename_i ct p;split at h
  ·rename_i i aj ag b;simp only[cO,Zu]at h;obtain⟨⟨⟨⟨a,c⟩,d⟩,j⟩,h⟩:=h;have a:=hy a;have c:=e7 c;have j:=e7 j;have d:=Zn d;have t:i.zero=some (aq F aj)/\bs Q aj:=by
    unfold kg at b;rw[ag]at b;simp only at b;split at b
    ·rename_i R G;obtain⟨e,g⟩:=xc (Q:=Q) b;exact⟨by rw[G,e],g⟩
    ·grind
   rw[ee]at h;split at h
   ·rename_i f;subst f;obtain⟨v,N,O,P⟩:=ER K l m p r ag a (.inr ⟨⟨V,rfl⟩,k,rfl⟩) Y h;exact .inr ⟨v,N,O,P⟩
   ·rename_i f;have A:lZ C.P w (.int V) (aq F (.int k (Int.ofNat n))) i (aq F aj) n (bf F (fj n aj.cells)).toArray:=
     .inr ⟨⟨V,rfl⟩,⟨k,rfl⟩,j,c,zL (Nat.mul_pos (Nat.pos_of_ne_zero f) a),(I2 F aj n).symm⟩
    exact .inl (EQ K cx (by rw[l6];simp[fI,d]) l m p r ag t.1 a c A (wI (lF t.2) n) (by rw[ru,d]) Y Zo h)
  ·simp at h
 ·simp at h
def gE(C:al)(F:bX)(Q:Nat->Prop)(q:E S)(u aO:Nat)(w:World)(s:Sem Value)(v:z)(D:E S)(Z:Nat):Prop:=
 ∃bY b9 a2,s.run C.P w=.ok (aq bY v) a2/\bs b9 v/\bW C bY b9 D Z aO a2/\eH C u F Q q aO w bY b9 D a2/\u<=Z
def gE.done{s:Sem Value}{v:z}(h:gE C F Q q u aO w s v D Z):oy C F Q q u aO w (do pure (.value (<-s))) v D Z:=by obtain⟨bY,b9,a2,a,b,c,d,e⟩:=h;exact⟨bY,b9,a2,.value (aq bY v),by simp[a],.inl rfl,b,c,d,e⟩
def gE.same(K:bW C F Q q u aO w){s:Sem Value}{v:z}(h:s.run C.P w=.ok (aq F v) w)(g:bs Q v):gE C F Q q u aO w s v q u:=
 ⟨F,Q,w,h,g,K,.refl,Zg _⟩
def uX(K:bW C F Q q u aO w)(cx:aO<=w.heap.size){s:Sem Value}{v:z}{bU:S}{I:Obj}(d:s.run C.P w=.ok (aq (dR F u ⟨w.heap.size,0,0⟩) v) (w.alloc I))(dj:bs (add Q u) v)
 (b:f7 C (dR F u ⟨w.heap.size,0,0⟩) (add Q u) bU ⟨w.heap.size,0,0⟩ (w.alloc I))(c:mH C (add Q u) bU):gE C F Q q u aO w s v (aH C q u (some bU)) (u+1):=by
 have W:=K.aB;refine⟨_,_,_,d,dj,K.alloc W (Yr _) (Yb _) (j7 K) cx rfl (by rw[dm _ W,Zv rfl]) (λx a=> .inl (by rw[dm _ W,Zi a])) b c, ?_,Yb _⟩;exact⟨ke (j7 K),λ_ h=> .inl h,λx h=>h.elim .inl (λh=> .inr Zo),λx a e=>by rw[dm _ W,Zi Zo],Below.alloc (Below.refl aO w) cx I⟩
def uW{I:S}{k:Nat->z}{res:ck}(h:fE C q u I k=some res):res=.cJ (k u) (aH C q u (some I)) (u+1):=by unfold fE at h;simp_all
def adC(K:bW C F Q q u aO w){t:Nat}{m k:Operand}{ab:Operand->Value}{a:Operand->Option z}{res:ck}(b:fx F Q ab a [m,k])(h:ut C t m k q u a=some res):
 ∃v D,res=.cJ v D u/\gE C F Q q u aO w (Instr.mapEntry t (ab m) (ab k)) v D u:=by
 simp[ut]at h
def adw(K:bW C F Q q u aO w){t:Nat}{m s x:Operand}{ab:Operand->Value}{a:Operand->Option z}{res:ck}(b:fx F Q ab a [m,s,x])(h:uq C m s x q u a=some res):
 ∃D a2,res=.cJ undef D u/\(Instr.entryStore t (ab m) (ab s) (ab x)).run C.P w=.ok () a2/\bW C F Q D u aO a2/\eH C u F Q q aO w F Q D a2:=by
 simp[uq]at h
def SZ{α cr:Type}(g:α->cr):∀(l:List α) (i:Nat),(l.map g).eraseIdx i=(l.eraseIdx i).map g:=by intro l;induction l with|nil=>grind|cons a l U=>intro i;cases i with|zero=>rfl|succ i=>grind
def O9(K:bW C F Q q u aO w){t:Nat}{m k:z}{res:ck}{bM:Array TypeId}{ty:TypeId}(n:bM[0]? =some t)(f:bs Q m)(d:bs Q k)(h:sj C q u t m k=some res):
 ∃v D,res=.cJ v D u/\gE C F Q q u aO w (Builtin.delete_ bM ty #[aq F m,aq F k]) v D u:=by
 unfold sj at h;split at h
 ·rename_i dY G r A;split at h
  ·rename_i c bz j;simp only[cO]at h;obtain⟨x,h⟩:=h;obtain⟨N,s⟩:=AI x;obtain⟨bj,aL,bt,a3,a4⟩:=m9 K f j;have p:=yE (C:=C) (F:=F) (Q:=Q) (w:=w) (e:=bj.isEmpty) 20 10000 dY k Zd d x;split at h
   ·rename_i i R b;have g:=uj K s d a4 b;obtain⟨rfl,W⟩:=tn h;obtain⟨_,e,a,rfl⟩:=Al c 0 i R b;simp only[zf]at a;have L:i<bj.size:=(by have:=(Ze.1 a).1;rw[<-Array.length_toList,a3,Zj];exact this);obtain⟨a2,a7,bl,l⟩:=xs K (bQ:=u) W f j (nI:=bz) (gW:=c.eraseIdx i) (qb:=bj.eraseIdxIfInBounds i) (by rw[Array.toList_eraseIdxIfInBounds,a3,SZ])
     (λe a=>a4 e (List.mem_of_mem_eraseIdx a))
    refine⟨_,_,rfl,F,Q,a2, ?_,trivial,bl,l,Zg _⟩;simp[Builtin.delete_,n,run_underlying A,aq,bf,aL,p,a3,g,k1,a7]
   ·rename_i b;have g:=uj K s d a4 b;obtain⟨rfl,W⟩:=tn h;obtain⟨a2,a7,bl,l⟩:=xs K (bQ:=u) W f j (nI:=bz) (gW:=c) a3 a4;refine⟨_,_,rfl,F,Q,a2, ?_,trivial,bl,l,Zg _⟩;simp[Builtin.delete_,n,run_underlying A,aq,bf,aL,p,a3,g,k1,a7]
   ·simp at h
  ·simp at h
 ·simp at h
def SV(K:bW C F Q q u aO w)(cx:aO<=w.heap.size){t:Nat}{l c:Operand}{ab:Operand->Value}{O:Operand->Option z}{res:ck}(L:fx F Q ab O [l,c])(h:us C t l c q u O=some res):
 ∃v D Z,res=.cJ v D Z/\gE C F Q q u aO w (Instr.makeSlice t (ab l) (ab c)) v D Z:=by
 unfold us at h;split at h
 ·rename_i ct T9 T8 G T2 T0;obtain⟨X,_⟩:=L l Zs _ T2;obtain⟨P,_⟩:=L c Zs _ T0;rw[X,P];split at h
  ·rename_i k a i aj T3 T1 ag T5;obtain⟨TY,rfl⟩:=q1 T3;obtain⟨TZ,rfl⟩:=q1 T1;simp only[cO,Zu]at h;obtain⟨⟨⟨⟨⟨m,d⟩,j⟩,p⟩,b⟩,h⟩:=h;have m:=e7 m;have d:=e7 d;have j:=e7 j;have p:=hy p;have b:=Zn b;have:=uW h;subst this;obtain⟨T6,T7⟩:=pF T5 F Q w;refine⟨_,_,_,rfl,uX K cx (I:=.cells (bf F (fj a aj.cells)).toArray ct) ?_ (.inr rfl) ?_ ⟨λ_ _ _ h=>(by cases h),λ_ _ _ h=>(by cases h;rw[<-b, <-ru];exact s9)⟩⟩
   ·have dS:=wrap_small (n:=k) Zo;have N:=wrap_small d;have r:¬((281474976710656:Int)<(i.bytes:Int)*(a:Int)):=(by rw[Int.mul_comm];exact yO d j);have s:¬((a:Int)<0):=Zo;have x:¬((k:Int)<0):=Zo;have A:¬((a:Int)<(k:Int)):=Zo;have e:=HW F aj.cells i.size a b (if a*i.size=0 then #[]else(aq F aj).cells) (λT4=>by rw[Zi T4,l6]);by_cases f:a*i.size=0
    ·rw[Zv f]at e;rw[<-e];simp[Instr.makeSlice,run_underlying G,aq,asInt,asIntOf,typeInfo,ag,dS,N,r,s,x,A,sizeOf,f,newRow,gT]
    ·rw[Zi f]at e;rw[<-e];simp[Instr.makeSlice,run_underlying G,aq,asInt,asIntOf,typeInfo,ag,dS,N,r,s,x,A,sizeOf,f,newRow,gT,T6]
   ·have g:=wI (lF T7) a;have:=v2 (C:=C) (F:=dR F u ⟨w.heap.size,0,0⟩) (Q:=add Q u) (kx (λ_ h=> .inl h) _ g) ct 0 w;rw[nJ (ke (j7 K)) g,ru,b]at this;exact this
  ·simp at h
 ·simp at h
def SS(K:bW C F Q q u aO w)(cx:aO<=w.heap.size){t:Nat}{r:Operand}{ab:Operand->Value}{a:Operand->Option z}{res:ck}(d:fx F Q ab a [r])(h:ur C t r q u a=some res):
 ∃v D Z,res=.cJ v D Z/\gE C F Q q u aO w (Instr.makeMap t (some (ab r))) v D Z:=by
 unfold ur at h;split at h
 ·rename_i dY f V n b c;obtain⟨e,_⟩:=d r Zs _ c;have:=uW h;subst this;refine⟨_,_,_,rfl,uX K cx ?_ (.inr rfl) ⟨#[],mf _ _,rfl,Zs⟩ ⟨λ_ _ _ h=>(by cases h),λ_ _ _ h=>(by cases h)⟩⟩;simp[Instr.makeMap,run_underlying b,e,aq,asInt,asIntOf,gT]
 ·grind
def aaI(K:bW C F Q q u aO w)(cx:aO<=w.heap.size){t:Nat}{x:Operand}{ab:Operand->Value}{f:Operand->Option z}{res:ck}(d:fx F Q ab f [x])(h:uu C t x q u f=some res):
 ∃v D Z,res=.cJ v D Z/\gE C F Q q u aO w (Instr.range t (ab x)) v D Z:=by
 have k:=ke (F:=F) (pl:=⟨w.heap.size,0,0⟩) (j7 K);unfold uu at h;split at h
 ·rename_i s a c;obtain⟨e,g⟩:=d x Zs _ c;have:=uW h;subst this;refine⟨_,_,_,rfl,uX K cx (I:=.stringIter (dz s) 0) ?_ (.inr rfl) ⟨rfl,mf _ _,g⟩ ⟨λ_ _ _ h=>(by cases h),λ_ _ _ h=>(by cases h)⟩⟩;simp[Instr.range,run_underlying a,e,aq,gT]
 ·rename_i dY i a c;obtain⟨e,g⟩:=d x Zs _ c;have:=uW h;subst this;refine⟨_,_,_,rfl,uX K cx (I:=.mapIter none 0 #[] 0) ?_ (.inr rfl) ⟨rfl,mf _ _,Zs⟩ ⟨λ_ _ _ h=>(by cases h),λ_ _ _ h=>(by cases h)⟩⟩;simp[Instr.range,run_underlying a,e,aq,gT]
 ·rename_i dY i r a c;obtain⟨e,g⟩:=d x Zs _ c;split at h
  ·rename_i l bz j;have:=uW h;subst this;obtain⟨bj,aL,bt,a3,a4⟩:=m9 K g j;refine⟨_,_,_,rfl,uX K cx (I:=.mapIter (some (F r).bA) bz #[] bz) ?_ (.inr rfl) ⟨rfl, ?_,λb W=>by cases W;exact .inl g⟩ ⟨λ_ _ _ h=>(by cases h),λ_ _ _ h=>(by cases h)⟩⟩
   ·simp[Instr.range,run_underlying a,e,aq,gT,aL]
   ·rw[mf];simp only[ZX,k r g]
  ·simp at h
 ·simp at h
def uQ(n:Nat):∀l,gN n l=l.contains n:=by intro l;induction l with|nil=>rfl|cons a l U=>simp only[gN];congr 1;rw[Yh,zz];exact⟨Zn,λh=>by rw[h];exact YW _⟩
def IB(seen:List Nat):∀a:List (z×z×Nat),(a.map (dP F)).filter (λe=> !seen.contains e.born)=(fl seen a).map (dP F):=by intro a;induction a with|nil=>rfl|cons e a U=>have W:(dP F e).born=e.2.2:=rfl;simp only[ZG,YM,fl, <-uQ,W];simp only[<-uQ]at U;cases gN e.2.2 seen<;>simp[U]
def B2(seen:List Nat):∀(b:List (z×z×Nat)) e,e∈fl seen b->e∈b:=by
 intro b;induction b with
 |nil=>intro e h;simp[fl]at h|cons a b U=>
  intro e h;simp only[fl]at h;cases c:gN a.2.2 seen<;>simp only[c]at h
  ·rcases Zq.1 h with h|h
   ·simp[h]
   ·grind
  ·simp_all
def EL(d:Nat):∀b:List (z×z×Nat),nC d b=true->∀e∈b,e.2.2<d:=by
 intro b;induction b with
 |nil=>grind|cons a b U=>
  intro h e c;simp only[nC,Zu]at h;rcases Zq.1 c with rfl|c
  ·simp_all
  ·grind
def EO(c:Nat):∀b:List (z×z×Nat),l5 c b=true->∃e∈b,e.2.2<c:=by
 intro b;induction b with
 |nil=>intro h;simp[l5]at h|cons a b U=>
  intro h;simp only[l5,Y5]at h;rcases h with h|h
  ·simp_all
  ·grind
def EU{bj:Array MapEntry}{a:List (z×z×Nat)}(h:bj.toList=a.map (dP F)):bj=(a.map (dP F)).toArray:=by grind
def Hj(K:bW C F Q q u aO w){bQ r m c g bz:Nat}{seen:List Nat}{a:List (z×z×Nat)}{ty:TypeId}(W:C.aB<=r)(ai:Q r)(L:H C q r=some (.fD (some m) c seen g))
 (T5:H C q m=some (.map a bz))(n:nC c a=true)(iD:l5 g a=true)(G:fl seen a≠[]):
 ∃e,e∈fl seen a/\∃a2,(Instr.next (.pointer (some ⟨(F r).bA,0,none⟩)) false ty).run C.P w=.ok (.tuple #[.bool true,aq F e.1,aq F e.2.1]) a2/\
  bW C F Q (aH C q r (some (.fD (some m) c (seen++[e.2.2]) bz))) u aO a2/\eH C bQ F Q q aO w F Q (aH C q r (some (.fD (some m) c (seen++[e.2.2]) bz))) a2/\bs Q e.1/\bs Q e.2.1:=by
 obtain⟨TY,k,l⟩:=K.obj r _ L ai;have T1:=l m rfl;obtain⟨bj,aL,bt,a3,a4⟩:=m9 K T1 T5;have p:=EU a3;have H:(getObj (F r).bA).run C.P w=.ok (.mapIter (some (F m).bA) c seen.toArray g) w:=by simp[getObj,Sem.run,k]
 have T7:(bj.all λe=>decide (e.born>=g))=false:=by obtain⟨e,d,U0⟩:=EO g a iD;rw[p,List.all_toArray];rw[List.all_eq_false];exact⟨dP F e,ZC.2 ⟨e,d,rfl⟩,by simp[dP];omega⟩
 have T4:(bj.filter λe=> !seen.toArray.contains e.born)=((fl seen a).map (dP F)).toArray:=by rw[p,zw];congr 1;rw[<-IB];apply List.filter_congr;intro x _;simp
 have T8:((fl seen a).map (dP F)).toArray.filter (λe=>decide (e.born<c))=((fl seen a).map (dP F)).toArray:=by rw[zw];congr 1;rw[List.filter_eq_self];intro x i;obtain⟨e,d,rfl⟩:=ZC.1 i;simp only[Zf];exact EL c a n e (B2 seen a e d)
 have T6:((fl seen a).map (dP F)).toArray.filter (λe=>decide (e.born>=c))= #[]:=by
  rw[zw]
  have:((fl seen a).map (dP F)).filter (λe=>decide (e.born>=c))=[]:=by rw[List.filter_eq_nil_iff];intro x i;obtain⟨e,d,rfl⟩:=ZC.1 i;have:=EL c a n e (B2 seen a e d);simp[dP];omega
  rw[this]
 have T2:((fl seen a).map (dP F)).toArray.isEmpty=false:=by simpa using G
 have v:=ZP.2 G;have key:∀(j:Nat) (dS:World),j<(fl seen a).length->dS.heap=w.heap->bW C F Q q u aO dS->Below aO w dS->(choose (.mapNext (fl seen a).length)).run C.P w=.ok j dS->
  ∃e,e∈fl seen a/\∃a2,(Instr.next (.pointer (some ⟨(F r).bA,0,none⟩)) false ty).run C.P w=.ok (.tuple #[.bool true,aq F e.1,aq F e.2.1]) a2/\
   bW C F Q (aH C q r (some (.fD (some m) c (seen++[e.2.2]) bz))) u aO a2/\eH C bQ F Q q aO w F Q (aH C q r (some (.fD (some m) c (seen++[e.2.2]) bz))) a2/\bs Q e.1/\bs Q e.2.1:=by
  intro j dS t T3 T9 O T0;have d:=Zb t;have A:=YY t;have s:=a4 _ (B2 seen a _ A);obtain⟨a2,a7,bl,f⟩:=putObj T9 (bQ:=bQ) (ic:=.fD (some m) c (seen++[(fl seen a)[j].2.2]) bz) (dG:=.mapIter (some (F m).bA) c (seen.toArray.push (fl seen a)[j].2.2) bz) W ai L ⟨Zs,Zs⟩
   (by rw[T3];exact k) Zs (λa2 TZ=>⟨TY,by rw[TZ];simp,λb W=>l b W⟩) ⟨λ_ _ _ h=>(by cases h),λ_ _ _ h=>(by cases h)⟩
  refine⟨(fl seen a)[j],A,a2, ?_,bl,⟨f.e2,f.fz,f.new,f.M,O.trans f.below⟩,s.1,s.2⟩;have X:(((fl seen a).map (dP F)).toArray++(#[]:Array MapEntry)).map some=((fl seen a).map (λe=>some (dP F e))).toArray:=by simp
  simp only[Instr.next,Sem.run_bind,H,Result.andThen_ok,aL,T7,Bool.and_false,ZA,ZJ,T4,T8,T6,T2];rw[Array.empty_append,X];simp only[Yi,Zj,T0,Result.andThen_ok,zj,Zt,d,ZX];have P:(dP F (fl seen a)[j]).born=(fl seen a)[j].2.2:=rfl;simp only[P,Sem.run_bind,a7,Result.andThen_ok,Sem.run_pure];rfl
 by_cases N:(fl seen a).length<=1
 ·refine key 0 w v rfl K (Below.refl _ _) ?_;simp[Question.forced,N]
 ·refine key ((w.tape w.drawn (.mapNext (fl seen a).length))%(fl seen a).length) w.drew (Nat.mod_lt _ v) rfl K.drew (Below.drew (Below.refl _ _)) ?_;simp[Question.forced,N,Question.cut]
def Qs{r m b bz:Nat}{seen:List Nat}:∀(l:List (z×z×Nat)) e,e∈l->(z.tuple [.bool true,e.1,e.2.1],aH C q r (some (.fD (some m) b (seen++[e.2.2]) bz)))∈qx C q r m b bz seen l:=by
 intro l;induction l with
 |nil=>grind|cons a l U=>
  intro e h;rcases Zq.1 h with rfl|h
  ·exact Zr ..
  ·exact Zw _ (U e h)
def tH(C:al)(F:bX)(Q:Nat->Prop)(q:E S)(u aO:Nat)(w:World)(s:Sem Value)(res:ck):Prop:=match res with
 | .val v=>gE C F Q q u aO w s v q u| .cJ v D Z=>gE C F Q q u aO w s v D Z| .fork l=>∃v D,(v,D)∈l/\gE C F Q q u aO w s v D u|_=>False
def Tl(K:bW C F Q q u aO w){G:Operand}{T7:Bool}{ty:TypeId}{ab:Operand->Value}{T8:Operand->Option z}{res:ck}(U5:fx F Q ab T8 [G])(h:jt C G T7 q u T8=some res):
 tH C F Q q u aO w (Instr.next (ab G) T7 ty) res:=by
 unfold jt at h;split at h
 ·rename_i r U4;obtain⟨e,gr⟩:=U5 G Zs _ U4;simp only[cO]at h;obtain⟨T9,h⟩:=h;have W:C.aB<=r:=e7 T9;rw[e];split at h
  ·rename_i s pos f;obtain⟨d,g,p⟩:=K.obj r _ f gr;have H:(getObj (F r).bA).run C.P w=.ok (.stringIter (dz s) pos) w:=(by simp[getObj,Sem.run,g]);have T2:(dz s).size=s.length:=(by simp[dz,ByteArray.size]);rw[cY]at h;split at h
   ·rename_i a;have a:=hy a;rw[jz]at h;split at h
    ·rename_i c T5;simp only[cO]at h;obtain⟨X,h⟩:=h;have X:=hy X;obtain⟨rfl,_⟩:=tn h;obtain⟨a2,a7,bl,n⟩:=putObj K (bQ:=u) (ic:=.iH s (pos+1)) (dG:=.stringIter (dz s) (pos+1)) W gr f ⟨Zs,Zs⟩ g Zs (λa2 U3=>⟨d,U3,p⟩) ⟨λ_ _ _ h=>(by cases h),λ_ _ _ h=>(by cases h)⟩;refine⟨F,Q,a2, ?_,⟨trivial,trivial,trivial,trivial⟩,bl,n,Zg _⟩;have T0:pos<(dz s).size:=(by rw[T2];exact a);have T4:((dz s)[pos]'T0).toNat=c:=(by show((dz s).data[pos]).toNat=c;have U2:s[pos]=c:=(by rw[Zb a]at T5;exact Y6 T5);simp[dz,U2];omega);have T6:=decode_ascii (dz s) pos T0 (by rw[T4];exact X);rw[T4]at T6;simp[Instr.next,aq,bf,d,H,T2,a,T6,a7,goInt]
    ·simp at h
   ·rename_i a;have a:¬pos<s.length:=λV=>a (by simp[Nat.blt];omega);simp at h;subst h;refine gE.same K ?_ ⟨trivial,trivial⟩;simp[Instr.next,aq,bf,d,H,T2,a]
  ·rename_i T3 seen j f;obtain⟨d,g,p⟩:=K.obj r _ f gr;have H:(getObj (F r).bA).run C.P w=.ok (.mapIter none T3 seen.toArray j) w:=(by simp[getObj,Sem.run,g]);simp at h;subst h;refine gE.same K ?_ ⟨trivial,trivial⟩;simp[Instr.next,aq,bf,d,H]
  ·rename_i m T3 seen j f;have U1:=K.obj r _ f gr;obtain⟨d,g,p⟩:=U1;split at h
   ·rename_i L bz T1;split at h
    ·
     rename_i A;simp only[cO,Y5,Zh]at h;obtain⟨t,iD,rfl⟩:=h;obtain⟨bj,aL,bt,a3,a4⟩:=m9 K (p m rfl) T1;have P:=EU a3;have H:(getObj (F r).bA).run C.P w=.ok (.mapIter (some (F m).bA) T3 seen.toArray j) w:=(by simp[getObj,Sem.run,g]);have TY:(bj.filter λe=> !seen.toArray.contains e.born)= #[]:=(by rw[P,zw];have:=IB (F:=F) seen L;rw[A]at this;congr 1;rw[List.map_nil]at this;rw[<-this];apply List.filter_congr;intro x _;simp);have U0:(!seen.toArray.isEmpty&& !bj.isEmpty&&bj.all λe=>decide (e.born>=j))=false:=by
      rcases iD with (iD|iD)|iD
      ·obtain⟨e,i,T0⟩:=EO j L iD
       have:(bj.all λe=>decide (e.born>=j))=false:=by rw[P,List.all_toArray,List.all_eq_false];exact⟨dP F e,ZC.2 ⟨e,i,rfl⟩,by simp[dP];omega⟩
       rw[this];simp
      ·have:seen=[]:=by simpa using iD
       simp[this]
      ·have:L=[]:=by simpa using iD
       simp[P,this]
     refine gE.same K ?_ ⟨trivial,trivial⟩;simp only[aq,bf,d,ZK,Instr.next,Sem.run_bind,H,Result.andThen_ok,aL,U0,ZA,ZJ,TY];simp[Question.forced]
    ·rename_i k v b A;simp only[cO,Zu]at h;obtain⟨⟨t,iD⟩,h⟩:=h;obtain⟨rfl,_⟩:=tn h;obtain⟨e,i,a2,a7,bl,n,N,O⟩:=Hj K (bQ:=u) (ty:=ty) W gr f T1 t iD (by rw[A];simp);rw[A]at i
     have:e=(k,v,b):=by simpa using i
     subst this;refine⟨F,Q,a2, ?_,⟨trivial,N,O,trivial⟩,bl,n,Zg _⟩;simp only[aq,bf,d,ZK];exact a7
    ·rename_i l TZ U6;simp only[cO,Zu,Zh]at h;obtain⟨⟨t,iD⟩,rfl⟩:=h;obtain⟨e,i,a2,a7,bl,n,N,O⟩:=Hj K (bQ:=u) (ty:=ty) W gr f T1 t iD TZ;refine⟨_,_,Qs _ e i,F,Q,a2, ?_,⟨trivial,N,O,trivial⟩,bl,n,Zg _⟩;simp only[aq,bf,d,ZK];exact a7
   ·simp at h
  ·simp at h
 ·simp at h
def OM(K:bW C F Q q u aO w){t:Nat}{x:z}{res:ck}{bM:Array TypeId}{ty:TypeId}(c:bM[0]? =some t)(e:bs Q x)(h:tK C q u t x=some res):
 tH C F Q q u aO w (Builtin.clear_ bM ty #[aq F x]) res:=by
 unfold tK at h;split at h
 ·rename_i ct d;split at h
  ·rename_i aN aj r i;obtain⟨m,n⟩:=pF i F Q w;simp only[cO]at h;obtain⟨p,h⟩:=h;have Gn:∀(b I len cap:Nat),Q b->ba (Nat.beq len 0) (some (ck.val (.tuple []))) (match g5 C q b I (fj len aj.cells)with|some q=>some (.cJ (.tuple []) q u)|none=>none)=some res->
    tH C F Q q u aO w (Builtin.clear_ bM ty #[.slice (some ⟨(F b).bA,(F b).cn+I,none⟩) len cap]) res:=by
    intro b I len cap W a;rw[ee]at a;split at a
    ·rename_i f;subst f;simp at a;subst a;refine gE.same K ?_ trivial;simp[Builtin.clear_,c,run_underlying d,aq,bf]
    ·rename_i f;obtain⟨len,rfl⟩:∃k,len=k+1:=⟨len-1,Zo⟩;split at a
     ·rename_i D g;simp at a;subst a;obtain⟨a2,a7,bl,l⟩:=tP K (bQ:=u) W (wI (lF n) _) g;refine⟨F,Q,a2, ?_,trivial,bl,l,Zg _⟩;have j:=I2 F aj (len+1);simp[Builtin.clear_,c,run_underlying d,aq,bf,m,j,a7]
     ·simp at a
   split at h
   ·simp at h;subst h;refine gE.same K ?_ trivial;simp[Builtin.clear_,c,run_underlying d,aq,bf]
   ·exact Gn _ _ _ _ e h
   ·exact Gn _ _ _ _ e h
   ·simp at h
  ·simp at h
 ·simp at h
def Qw(w:World)(bj:Array Value)(e:TypeId)(n:Nat):(w.alloc (.cells bj e)).freeze ⟨w.heap.size,n,none⟩ 1=w.alloc (.cells bj e (n,n+1)):=by unfold World.freeze;show({w with heap:=(w.heap.push (.cells bj e)).modify w.heap.size _}:World)={w with heap:=w.heap.push (.cells bj e (n,n+1))};congr 1;grind
def Qv{p:Nat}{bj:Array Value}{ty:TypeId}{aT ag:Nat}(h:w.heap[p]? =some (.cells bj ty (aT,ag)))(n:Nat):
 (w.freeze ⟨p,n,none⟩ 1).heap[p]? =some (.cells bj ty (if aT==ag then(n,n+1)else(min aT n,max ag (n+1))))/\(∀k,k≠p->(w.freeze ⟨p,n,none⟩ 1).heap[k]? =w.heap[k]?):=by
 unfold World.freeze;grind
def acu(K:bW C F Q q u aO w)(cx:aO<=w.heap.size){s d:Nat}{x:Operand}{ab:Operand->Value}{T2:Operand->Option z}{res:ck}(T1:fx F Q ab T2 [x])(h:uv C s d x q u T2=some res):
 tH C F Q q u aO w (convert s d (ab x)) res:=by
 unfold uv at h;split at h
 ·rename_i e l i ai a;obtain⟨ex,g⟩:=T1 x Zs _ a;split at h
  ·rename_i p;obtain⟨UF,rfl⟩:=F9 h;rw[ex];have U8:(dz l).size=l.length:=(by simp[dz,ByteArray.size]);have UG:(dz l).data.size=l.length:=(by simp[dz]);have TY:=Ij F l g;have T6:cz Q (l.map λn=>z.int .u8 (Int.ofNat n)):=(by rw[md];intro v UA;obtain⟨o,_,rfl⟩:=ZC.1 UA;trivial);obtain⟨cap,UE,TZ⟩:∃cap,l.length<=cap/\(choose (.appendCap l.length 0 e)).run C.P w=.ok cap w.drew:=
    ⟨l.length+(w.tape w.drawn (.appendCap l.length 0 e))%(2^63-l.length),Zo,by simp[Question.forced,Question.cut]⟩
   have U7:(l.map λn=>z.int .u8 (Int.ofNat n)).length+(Array.replicate (cap-l.length) (Value.int .u8 0)).size=cap*1:=(by simp;omega);have U0:=Gb (C:=C) (F:=F) (w:=w) (u:=u) T6 (j7 K) U7 e [];have U5:f7 C (dR F u ⟨w.heap.size,0,cap*1⟩) (add Q u) (.cells (E.ofList (l.map λn=>z.int .u8 (Int.ofNat n)) 0 .nil) (l.map λn=>z.int .u8 (Int.ofNat n)).length (.grow [])) ⟨w.heap.size,0,cap*1⟩
    (w.drew.alloc (.cells ((bf F (l.map λn=>z.int .u8 (Int.ofNat n))).toArray++Array.replicate (cap-l.length) (Value.int .u8 0)) e (cap,cap+1))):=by
    obtain⟨bj,ty,aT,ag,bc,bp,bG,T3⟩:=U0;have G:=mf w.drew (.cells ((bf F (l.map λn=>z.int .u8 (Int.ofNat n))).toArray++Array.replicate (cap-l.length) (Value.int .u8 0)) e);have U9:w.drew.heap.size=w.heap.size:=rfl;rw[U9]at G;rw[G]at bc;cases bc;refine⟨_,e,cap,cap+1,mf w.drew _,⟨.inr ?_,bp.2.1,bp.2.2⟩,bG,T3⟩;simp[fI];omega
   refine⟨dR F u ⟨w.heap.size,0,cap*1⟩,add Q u,_, ?_,.inr rfl,K.drew.alloc K.aB (Yr _) (Yb _) (j7 K) cx rfl (by rw[dm _ K.aB,Zv rfl]) (λx a=> .inl (by rw[dm _ K.aB,Zi a])) U5
    ⟨λ_ _ _ h=>(by cases h;simp),λ_ _ _ h=>(by cases h;exact s9)⟩,Ag K cx _ (λx a _=>by rw[dm _ K.aB,Zi a]),Yb _⟩
   have U6:((bf F (l.map λn=>z.int .u8 (Int.ofNat n))).toArray++Array.replicate (cap-l.length) (Value.int .u8 0)).size=cap:=(by simp[fI];omega);have O:=Qw w.drew ((bf F (l.map λn=>z.int .u8 (Int.ofNat n))).toArray++Array.replicate (cap-l.length) (Value.int .u8 0)) e cap;have r:w.drew.heap.size=w.heap.size:=rfl;rw[r]at O;have A:(w.drew.alloc (.cells ((bf F (l.map λn=>z.int .u8 (Int.ofNat n))).toArray++Array.replicate (cap-l.length) (Value.int .u8 0)) e)).shape? w.heap.size=some (e,cap):=(by have:=mf w.drew (.cells ((bf F (l.map λn=>z.int .u8 (Int.ofNat n))).toArray++Array.replicate (cap-l.length) (Value.int .u8 0)) e);rw[r]at this;simp only[World.shape?,this,U6]);simp only[convert,Sem.run_bind,run_underlying i,run_underlying ai,run_underlying p,Result.andThen_ok,aq,Conv.stringToBytes,U8,TZ,TY,newRow,run_newObj_alloc,r,Sem.run_pure,markStringish,run_shape,A,run_freeze,O,
    gT,ZK,zf,ZF,zI]
  ·simp at h
 ·rename_i UC e b I len cap i ai a;obtain⟨ex,g⟩:=T1 x Zs _ a;split at h
  ·rename_i p;simp only[cO,Zu]at h;obtain⟨⟨t,U1⟩,h⟩:=h;have t:=Zn t;subst t;have W:=e7 U1;rw[ex];have fin:∀(c:E z) (n:Nat) (st:iu),H C q b=some (.cells c n st)->(st=.own\/st=.marked)->∀D,H C D b=some (.cells c n .marked)->(∀x,x≠b->H C D x=H C q x)->
    gE C F Q q u aO w (convert s s (aq F (.slice b I len cap))) (.slice b I len cap) D u:=by
    intro c n st f T0 D T7 m;obtain⟨bj,ty,aT,ag,aL,bt,a3,a4⟩:=K.obj b _ f g;have T8:vz (.cells c n st):=(by rcases T0 with rfl|rfl<;>exact⟨Zs,Zs⟩);have U3:aT=ag\/bj.size<=aT:=(by rcases T0 with rfl|rfl;exact .inl bt;exact bt);obtain⟨L,N⟩:=Qv aL bj.size;have UD:=K.base b _ W f g;have U4:∃j gb,(if aT==ag then(bj.size,bj.size+1)else(min aT bj.size,max ag (bj.size+1)))=(j,gb)/\bj.size<=j:=by
     by_cases V:aT=ag
     ·exact⟨_,_,by rw[Zv (by simpa using V)],Zg _⟩
     ·refine⟨_,_,by rw[Zi (by simpa using V)], ?_⟩;have:=U3.resolve_left V;omega
    obtain⟨j,gb,T4,T5⟩:=U4;rw[T4]at L;refine⟨F,Q,w.freeze ⟨(F b).bA,bj.size,none⟩ 1, ?_,g,K.put W g f T7 (λx a=> .inl (m x a)) (λk P=>N k P) ?_ ⟨bj,ty,j,gb,L,.inr T5,a3,a4⟩ ⟨λ_ _ _ h=>(by cases h),λ_ _ _ h=>(by cases h;exact(K.b3 b _ f g).2 _ _ _ rfl)⟩, ?_,Zg _⟩
    ·have A:=BL aL;have T9:(s==s)=true:=(by simp);simp only[convert,Sem.run_bind,run_underlying i,Result.andThen_ok,aq];rw[i]at ai;cases ai;simp only[T9,run_underlying p,Sem.run_bind,Result.andThen_ok,markStringish,run_shape,A,run_freeze,Sem.run_pure]
    ·intro x UB X a cb U2;rw[m x X]at a;exact K.alone W g f T8 x UB X a cb U2
    ·refine⟨λ_ _=>rfl,λ_ h=>h,λ_ h=> .inl h,λx a _=>m x (λe=>a (by rw[e];exact g)), ?_⟩;refine⟨?_, ?_, ?_, ?_,λk P=>N k Zo⟩<;>simp[World.freeze]
   split at h
   ·rename_i c n f;simp only[du,Zh]at h;subst h;exact fin c n .own f (.inl rfl) _ (by rw[dm _ W,Zv rfl]) (λx a=>by rw[dm _ W,Zi a])
   ·rename_i c n f;simp only[Zh]at h;subst h;exact fin c n .marked f (.inr rfl) q f (λ_ _=>rfl)
   ·simp at h
  ·simp at h
 ·simp at h
def eY(C:al)(F:bX)(Q:Nat->Prop)(q:E S)(u aO:Nat)(w:World)(s:Sem Next)(res:ck):Prop:=match res with
 | .val v=>oy C F Q q u aO w s v q u| .cJ v D Z=>oy C F Q q u aO w s v D Z| .fork l=>∃v D,(v,D)∈l/\oy C F Q q u aO w s v D u| .enter f args=>s.run C.P w=.ok (.enter f (bf F args).toArray) w/\cz Q args| .known f args v=>C.eC f args=some v/\s.run C.P w=(callFunc f (bf F args).toArray).run C.P w/\cz Q args| .wrote f args D=>(sO C f=true/\p7 C q args=some D)/\s.run C.P w=(callFunc f (bf F args).toArray).run C.P w/\cz Q args| .round l args=>s.run C.P w=(Instr.yield (F l).bA (bf F args).toArray).run C.P w/\cz Q args/\Q l| .defer d=>s.run C.P w=.ok (.defer (hm F d)) w/\o8 Q d| .recover=>s.run C.P w=.ok .recover w| .panic v=>s.run C.P w=.halt (.panic (aq F v)) w/\bs Q v
def eY.one{s:Sem Value}{res:ck}(h:tH C F Q q u aO w s res):eY C F Q q u aO w (do pure (.value (<-s))) res:=by
 cases res with
 |val v=>exact gE.done h|cJ v D Z=>exact gE.done h|fork l=>obtain⟨v,D,a,b⟩:=h;exact⟨v,D,a,b.done⟩
 |_=>exact h.elim
def eY.cJ{s:Sem Value}{res:ck}(h:∃v D Z,res=.cJ v D Z/\gE C F Q q u aO w s v D Z):eY C F Q q u aO w (do pure (.value (<-s))) res:=by obtain⟨v,D,Z,rfl,h⟩:=h;exact h.done
def eY.app(K:bW C F Q q u aO w){s:Sem Value}{res:ck}(h:yf C F Q q u aO w s res):eY C F Q q u aO w (do pure (.value (<-s))) res:=by
 rcases h with ⟨v,D,Z,rfl,bY,b9,a2,a,b,c,d,e⟩|⟨v,rfl,a,b⟩
 ·exact gE.done ⟨bY,b9,a2,a,b,c,d,e⟩
 ·exact gE.done (.same K b a)
def eY.unit{s:Sem Unit}{res:ck}(h:∃D a2,res=.cJ undef D u/\s.run C.P w=.ok () a2/\bW C F Q D u aO a2/\eH C u F Q q aO w F Q D a2):
 eY C F Q q u aO w (do s;pure .skip) res:=by
 obtain⟨D,a2,rfl,a,b,c⟩:=h;exact⟨F,Q,a2,.skip,by simp[a],.inr ⟨rfl,rfl⟩,by trivial,b,c,Zg _⟩
def eY.congr{s a:Sem Next}{res:ck}(h:s.run C.P w=a.run C.P w)(k:eY C F Q q u aO w a res):eY C F Q q u aO w s res:=by cases res<;>simp only[eY,oy]at k ⊢ <;>rw[h]<;>exact k
def yR(ge:nx C.P){f:Nat}{args:List z}{res:ck}(g:cz Q args)(h:hi C f args=some res):eY C F Q q u aO w (callFunc f (bf F args).toArray) res:=by
 unfold hi at h;split at h
 ·rename_i v d;simp at h;subst h;exact⟨d,rfl,g⟩
 ·split at h
  ·rename_i fn a;split at h
   ·rename_i c W;simp at h;subst h;refine⟨?_,g⟩;have b:fn.name≠ "runtime.NumGoroutine":=(by simpa using ge.num f fn a (by simp[W]));simp[callFunc,a,b,W]
   ·grind
  ·grind
def Gp(ge:nx C.P){fn:Fn}{a args:List z}{res:ck}(c:wH Q fn)(wB:cz Q a)(b:cz Q args)(h:oK C fn a args=some res):
 eY C F Q q u aO w (invoke (.fn (hQ F fn) (bf F a).toArray) (bf F args).toArray) res:=by
 unfold oK at h;split at h
 ·rename_i f;have e:invoke (.fn (hQ F (.func f)) (bf F a).toArray) (bf F args).toArray=callFunc f (bf F (args++a)).toArray:=by simp[invoke,hQ,qh]
  rw[e];exact yR ge (o9 b wB) h
 ·rename_i l;simp at h;subst h;exact⟨rfl,b,c⟩
 ·grind
def S6(K:bW C F Q q u aO w)(ge:nx C.P){t:Nat}{v:z}{name:String}{args:List z}{res:ck}(dj:bs Q v)(s:cz Q args)(h:jl C q t v name args=some res):
 eY C F Q q u aO w (callMethod (.iface t (aq F v)) name (bf F args).toArray) res:=by
 obtain⟨k,N⟩:∃k,C.P.types.size+Made.depth=k+1:=⟨C.P.types.size+99,rfl⟩;have go:∀(f:Nat) (x:z),bs Q x->(method (k+1) t (aq F v) name).run C.P w=.ok (f,aq F x) w->hi C f (x::args)=some res->eY C F Q q u aO w (callMethod (.iface t (aq F v)) name (bf F args).toArray) res:=by intro f x A g L;refine(yR (F:=F) (q:=q) (u:=u) (aO:=aO) (w:=w) ge (args:=x::args) (show bs Q x/\cz Q args from⟨A,s⟩) L).congr ?_;simp[callMethod,N,g,bf]
 unfold jl at h;split at h
 ·rename_i i ag;split at h
  ·rename_i m g;simp only[cO]at h;obtain⟨p,h⟩:=h;have r:m.path.toList=[]:=(by simpa using p);split at h
   ·rename_i f e c j;refine go f v dj ?_ h;simp[method,typeInfo,ag,g,r,follow,c,receiverAt,run_underlying j,Place.get]
   ·rename_i f e c j;split at h
    ·rename_i x l;obtain⟨n,G⟩:=EF K dj l;refine go f x G ?_ h;cases v with|ptr b I=>simp only[Instr.loadAt,Instr.sureAddr,aq,Sem.run_bind,Sem.run_pure,Result.andThen_ok]at n;have X:∀(eF:TypeId) (a:Addr) (nm:String),Builtin.ssaWrapNilChk_ #[eF] eF #[.pointer (some a),strVal "",strVal nm]=pure (.pointer (some a)):=λ_ _ _=>rfl;have P:m.path= #[]:=(by simpa using p);simp[method,typeInfo,ag,g,P,follow,c,receiverAt,run_underlying j,Place.get,aq,X,asAddr,n]|_=>simp[g4,ca,ay]at l;split at l<;>simp at l
    ·simp at h
   ·rename_i f d O c j;refine go f v dj ?_ h;cases d<;>first
     |exact(O _ rfl).elim|simp[method,typeInfo,ag,g,r,follow,c,receiverAt,run_underlying j,Place.get]
   ·simp at h
  ·simp at h
 ·simp at h
def Oq(K:bW C F Q q u aO w)(cx:aO<=w.heap.size)(ge:nx C.P){b:Builtin}{args:Array Operand}{bM:Array TypeId}{ty:TypeId}{l:Array Bool}{ab:Operand->Value}{j:Operand->Option z}{res:ck}
 (i:fx F Q ab j args.toList)(h:uo C b args bM q u j=some res):eY C F Q q u aO w (builtin b bM ty l (args.map ab)) res:=by
 have d:∀{t:Nat}{rest:List Nat},bM.toList=t::rest->bM[0]? =some t:=λa=>by rw[<-Z2,a];rfl
 have g:∀{t R:Nat}{rest:List Nat},bM.toList=t::R::rest->bM[1]? =some R:=λa=>by rw[<-Z2,a];rfl
 unfold uo at h;split at h
 ·rename_i s x c;obtain⟨aL,bt⟩:=lB i c;rw[aL];split at h
  ·rename_i st eF rest a;split at h
   ·rename_i V f;split at h
    ·rename_i n p;exact eY.app K (NC (ty:=ty) K cx (d a) (g a) f bt.1 p h)
    ·simp at h
   ·rename_i e f;exact eY.app K (EB (ty:=ty) K cx (d a) (g a) f (.inr ⟨e,rfl⟩) bt.1 bt.2.1 h)
   ·rename_i f;exact eY.app K (EB (ty:=ty) K cx (d a) (g a) f (.inl rfl) bt.1 bt.2.1 h)
   ·simp at h
  ·simp at h
 ·rename_i c;simp at h;subst h;exact rfl
 ·rename_i x c;obtain⟨aL,bt⟩:=lB i c;rw[aL];split at h
  ·rename_i t rest a;exact eY.one (OM (ty:=ty) K (d a) bt.1 h)
  ·simp at h
 ·rename_i m k c;obtain⟨aL,bt⟩:=lB i c;rw[aL];split at h
  ·rename_i t rest a;obtain⟨v,D,rfl,ai⟩:=O9 (ty:=ty) K (d a) bt.1 bt.2.1 h;exact gE.done ai
  ·simp at h
 ·simp at h
def ND(K:bW C F Q q u aO w)(cx:aO<=w.heap.size)(ge:nx C.P){oper:Oper}{ab:Operand->Value}{n:Operand->Option z}{res:ck}(i:fx F Q ab n oper.op.operands.toList)
 (h:h4 oper.op C q u n=some res):eY C F Q q u aO w (execOp ab oper) res:=by
 obtain⟨dst,op,type,pos,after,guard⟩:=oper;have G:∀t m k x,fx F Q ab n [m,k,x]->sL C t m k x q u n=some res->eY C F Q q u aO w (do Instr.mapUpdate t (ab m) (ab k) (ab x);pure .skip) res:=by
  intro t m k x i h;unfold sL at h;split at h
  ·rename_i a b c T6 W T7;obtain⟨N,X⟩:=i m Zs a T6;obtain⟨O,T0⟩:=i k Zs b W;obtain⟨P,T1⟩:=i x Zs c T7;obtain⟨D,a2,T2,T3,T4,T5⟩:=NJ K X T0 T1 h;rw[N,O,P];exact eY.unit ⟨D,a2,T2,T3,T4,T5⟩
  ·simp at h
 cases op<;>simp only[h4]at h<;>(try(cases h;done))<;>simp only[execOp]<;>simp only[Op.operands]at i;case mapUpdate t m k x=>exact G t m k x (by simpa using i) h
 case insert t m k x=>exact G t m k x (by simpa using i) h
 case makeSlice t l c=>exact eY.cJ (SV K cx (by simpa using i) h)
 case makeMap t r=>
  cases r with|none=>simp at h|some r=>exact eY.cJ (SS K cx (by simpa using i) h)
 case convert s d x=>exact eY.one (acu K cx (by simpa using i) h)
 case range t x=>exact eY.cJ (aaI K cx (by simpa using i) h)
 case next T9 s=>exact eY.one (Tl K (by simpa using i) h)
 case panic x=>
  unfold Aw at h;split at h
  ·rename_i t v j;simp at h;subst h;obtain⟨e,g⟩:=i x Zs _ j;refine⟨?_,g⟩;simp[Instr.panic,e,aq]
  ·simp at h
 case defer c=>
  unfold Av at h;split at h
  ·rename_i f args bM;split at h
   ·rename_i fn first L A p has
    simp at h;subst h;simp only[Call.operands]at i;obtain⟨e,g⟩:=i f Zs _ p;obtain⟨aL,bt⟩:=lB (i.mono (by simp;intro x j;exact .inr j)) has;refine⟨?_,⟨g.1,g.2.2⟩,o9 g.2.1 bt⟩;simp[resolve,e,aq,Deferred.ofValue,aL,hm,qd,qh]
   ·simp at h
  ·simp at h
 case call c=>
  unfold qA at h;split at h
  ·rename_i f args bM;split at h
   ·rename_i fn first L A p has
    simp only[Call.operands]at i;obtain⟨e,g⟩:=i f Zs _ p;obtain⟨aL,bt⟩:=lB (i.mono (by simp;intro x j;exact .inr j)) has;refine(Gp (F:=F) (q:=q) (u:=u) (aO:=aO) (w:=w) ge g.1 g.2.2 (o9 g.2.1 bt) h).congr ?_;simp[resolve,e,aq,Deferred.ofValue,aL,qh]
   ·simp at h
  ·rename_i b args bM;simp only[Call.operands]at i;show eY C F Q q u aO w (builtin b bM type _ (args.map ab)) res;exact Oq K cx ge (i.mono Zs) h
  ·rename_i r name args bM;split at h
   ·rename_i t v A T8 has;simp only[Call.operands]at i;obtain⟨e,g⟩:=i r Zs _ T8;obtain⟨aL,bt⟩:=lB (i.mono (by simp;intro x j;exact .inr j)) has;refine(S6 (v:=v) K ge g bt h).congr ?_;simp[resolve,e,aq,invoke,aL]
   ·simp at h
end
noncomputable section
abbrev cE:=Option z
structure ff where
 fn:Nat
 n:Nat
 ac:Nat
 aP:List eD
 ar:Bool
 ro:Option Nat
 cs:List d1
abbrev eA:=gA->List co->ff->E z->E S->Nat->cE
def jJ(g:Option (Nat×Bool))(ad:List (Nat×z)):Option Bool:=
 match g with
 |none=>some true|some (j,want)=>(match cL ad j with
  |some v=>(match v with| .bool b=>some (b==want)|_=>some false)|none=>none)
def iE(f:z->z->Bool):List z->List z->Bool
 |[],[]=>true|a::l,b::m=>f a b&&iE f l m|_,_=>false
def z.same:Nat->z->z->Bool
 |0,_,_=>false|d+1,x,o=>match x,o with
  | .bool a,.bool b=>a==b| .int k a,.int m b=>decide (k=m)&&decide (a=b)| .str a,.str b=>hH a b| .ptr a b,.ptr g h=>Nat.beq a g&&Nat.beq b h| .bH,.bH=>true| .slice a b c e,.slice g h i j=>Nat.beq a g&&Nat.beq b h&&Nat.beq c i&&Nat.beq e j| .cq a b c e,.cq g h i j=>Nat.beq a g&&Nat.beq b h&&Nat.beq c i&&Nat.beq e j| .ax,.ax=>true| .map a,.map b=>Nat.beq a b| .gO,.gO=>true| .func f a b,.func l g h=>decide (f=l)&&iE (z.same d) a g&&iE (z.same d) b h| .nilFunc,.nilFunc=>true| .iface t v,.iface eu n=>Nat.beq t eu&&z.same d v n| .nilIface,.nilIface=>true| .agg a,.agg b=>iE (z.same d) a b| .tuple a,.tuple b=>iE (z.same d) a b| .gf a b c e,.gf g h i j=>Nat.beq a g&&Nat.beq b h&&Nat.beq c i&&Nat.beq e j|_,_=>false
def nK(C:al)(base:Nat)(B:E z):List dd->List (Nat×z)->E S->Option (List (Nat×z)×E S)
 |[],ad,q=>some (ad,q)|x::l,ad,q=>(match jJ x.g ad with
  |none=>none|some false=>nK C base B l ((x.i,undef)::ad) q|some true=>(match hF x.op with
   | .make=>(match iB x.op C (base+x.i) ad B with
     |some (v,bU)=>fB (aH C q (base+x.i) (some bU)) λq=>nK C base B l ((x.i,v)::ad) q|none=>none)
   |_=>(match d6 x.op C q ad B with
    |some v=>nK C base B l ((x.i,v)::ad) q|none=>none)))
def qm(C:al)(B:E z)(ad:List (Nat×z))(q:E S):List dd->Bool
 |[]=>true|x::l=>(match jJ x.g ad with
  |none=>false|some false=>qm C B ad q l|some true=>(match d6 x.op C q ad B,cL ad x.i with
   |some v,some R=>z.same 30 v R&&qm C B ad q l|_,_=>false))
def nS(ad:List (Nat×z)):List (Nat×Nat)->E z->Option (E z)
 |[],B=>some B|(i,d)::l,B=>(match cL ad i with|some v=>fB (B.set d (some v)) λB=>nS ad l B|none=>none)
def exitTo(id:Nat):List co->Option (List co)
 |[]=>none| .inBlock a::k=>ba (Nat.beq a id) (some k)<|exitTo id k
 |_::k=>exitTo id k
def fv{α:Type}(I:Option α)(k:α->cE):cE:=Option.rec (motive:=λ_=>cE) none (λa=>k a) I
def tR(l:List (Nat×z)):Nat->(z->cE)->cE:=
 List.rec (motive:=λ_=>Nat->(z->cE)->cE) (λ_ _=>none)
  (λp _ U j k=>Prod.rec (motive:=λ_=>cE) (λa b=>Bool.rec (motive:=λ_=>cE) (U j k) (k b) (Nat.beq a j)) p) l
def wC(t:E z):Nat->(z->cE)->cE:=
 E.rec (motive:=λ_=>Nat->(z->cE)->cE) (λ_ _=>none)
  (λv _ _ b c i k=>Nat.rec (motive:=λ_=>cE) (Option.rec (motive:=λ_=>cE) none (λa=>k a) v)
   (λj _=>Bool.rec (motive:=λ_=>cE) (c (Nat.div j 2) k) (b (Nat.div j 2) k) (Nat.beq (Nat.mod j 2) 0)) i) t
def nN(x:gh):List (Nat×z)->E z->(z->cE)->cE:=
 gh.rec (motive:=λ_=>List (Nat×z)->E z->(z->cE)->cE) (λj ad _ k=>tR ad j k) (λn _ B k=>wC B n k) (λa _ _ k=>k a) x
def IJ(g:Option (Nat×Bool)):List (Nat×z)->cE->cE->cE:=
 Option.rec (motive:=λ_=>List (Nat×z)->cE->cE->cE) (λ_ a _=>a)
  (λp ad a b=>fv (jJ (some p) ad) λw=>Bool.rec (motive:=λ_=>cE) b a w) g
def ug(l:List (Nat×Nat)):List (Nat×z)->E z->(E z->cE)->cE:=
 List.rec (motive:=λ_=>List (Nat×z)->E z->(E z->cE)->cE) (λ_ B k=>k B)
  (λp _ U ad B k=>Prod.rec (motive:=λ_=>cE) (λi d=>tR ad i λv=>fB (E.set B d (some v)) λB=>U ad B k) p) l
def rF(a:co)(k:List co)(bm:ff)(B:E z):List d1:=
 ff.rec (motive:=λ_=>List d1) (λfn n ac aP ar ro cs=>⟨fn,n,ac,B,a::k,aP,.run,ar,ro⟩::cs) bm
def iz(U:eA)(C:al)(f:Nat)(args:List z)(deferred:Bool)(cs:List d1)(q:E S)(u:Nat):cE:=
 match C.P.funcs[f]? with
 |some fn=>(match fn.body with
  |some c=>kw (Nat.lor (gY c) (kb fn.results.toList)) λac=>ba (Nat.ble args.length fn.ntmps&&g7 C ac c&&n7 ac fn.results.toList) (U .run [.code c] ⟨f,fn.ntmps,ac,[],deferred,none,cs⟩ (E.ofList args 0 .nil) q u)<|none
  |none=>none)
 |none=>none
def nh(n:Nat):List Nat->List z->E z->Option (E z)
 |[],[],B=>some B|p::b4,a::b,B=>ba (Nat.blt p n) (nh n b4 b (B.set p (some a)))<|none
 |_,_,_=>none
def iC(a:co)(v:z):Option co:=match a with
 | .lu ae ad h rest fin=>some (.tm ae ((h,v)::ad) rest fin)| .od ae base ad h g1 fin=>some (.drawn ae base ((h,v)::ad) g1 fin)| .inRangeFunc l=>some (.endRangeFunc l)|_=>none
def BG(U:eA)(todo:List co)(bm:ff)(v:z)(B:E z)(q:E S)(u:Nat):cE:=
 match todo with
 |[]=>none|a::k=>(match iC a v with|some b=>U .run (b::k) bm B q u|none=>none)
def mW:List Nat->E z->E z
 |[],B=>B|d::l,B=>mW l (B.set d none)
def mV(todo:List co)(B:E z):E z:=match todo with
 | .lu ae _ _ _ _::_=>mW (dstsOf ae.toList) B| .od ae _ _ _ _ _::_=>mW (dstsOf ae.toList) B|_=>B
def th(chain:List kK)(bh:gA):gA:=match bh with
 | .panicking he=> .panicking (chain++he)|_=> .panicking chain
def HU(U:eA)(c:d1)(cs:List d1)(chain:List kK)(q:E S)(u:Nat):cE:=
 match c with
 |⟨fn,n,ac,B,todo,aP,bh,ar,ro⟩=>U (th chain bh) todo ⟨fn,n,ac,aP,ar,ro,cs⟩ (mV todo B) q u
def pJ(ar:Bool)(cs:List d1):Option (z×List d1):=
 ba (ar) ((match cs with
  |c::rest=>(match c with
   |⟨fn,n,ac,B,todo,aP,bh,a,ro⟩=>(match bh with
    | .panicking (⟨v,false⟩::b)=>some (v,⟨fn,n,ac,B,todo,aP,.panicking (⟨v,true⟩::b),a,ro⟩::rest)|_=>some (.nilIface,cs)))
  |[]=>none))<|some (.nilIface,cs)
def qw(U:eA)(c:co)(k:List co)(bm:ff)(B:E z)(u:Nat):List (z×E S)->cE
 |[]=>none|[(v,q)]=>(match iC c v with|some d=>U .run (d::k) bm B q u|none=>none)|(v,q)::l=>(match iC c v with
  |some d=>(match U .run (d::k) bm B q u,qw U c k bm B u l with
   |some a,some b=>ba (z.same 30 a b) (some a) none|_,_=>none)
  |none=>none)
def jm(r:ck)(U:eA)(C:al)(a:co)(k:List co)(bm:ff)(B:E z)(q:E S)(u:Nat):cE:=
 match r with
 | .val v=>(match iC a v with|some b=>U .run (b::k) bm B q u|none=>none)| .cJ v q u=>(match iC a v with|some b=>U .run (b::k) bm B q u|none=>none)| .enter f args=>iz U C f args false (rF a k bm B) q u| .known _ _ v=>(match iC a v with|some b=>U .run (b::k) bm B q u|none=>none)| .wrote _ _ q=>(match iC a (.tuple [])with|some b=>U .run (b::k) bm B q u|none=>none)| .round l args=>(match H C q l with
   |some (.loop _ _ fn n ac c params assign body _)=>(match nh n params args c with
    |some c=>U .run [.code assign,.beginRound,.code body] ⟨fn,n,ac,[],false,some l,rF a k bm B⟩ c q u|none=>none)
   |_=>none)
 | .defer d=>(match bm with
   |⟨fn,n,ac,aP,ar,ro,cs⟩=>(match ro with
    |none=>(match iC a undef with|some b=>U .run (b::k) ⟨fn,n,ac,d::aP,ar,none,cs⟩ B q u|none=>none)|some _=>none))
 | .recover=>(match bm with
   |⟨fn,n,ac,aP,ar,ro,cs⟩=>(match ro with
    |none=>(match pJ ar cs with
     |some (v,b1)=>(match iC a v with|some b=>U .run (b::k) ⟨fn,n,ac,aP,ar,none,b1⟩ B q u|none=>none)|none=>none)
    |some _=>none))
 | .panic v=>(match bm with
   |⟨fn,n,ac,aP,ar,ro,cs⟩=>(match ro with
    |none=>U (.panicking [⟨v,false⟩]) (a::k) ⟨fn,n,ac,aP,ar,none,cs⟩ (mV (a::k) B) q u|some _=>none))
 | .fork l=>qw U a k bm B u l
def Bs(op:fT):al->E S->Nat->List (Nat×z)->E z->(z->E S->Nat->cE)->(ck->cE)->cE:=
 match op with
 | .q0 x=>λ_ q u ad B T _=>nN x ad B λv=>T v q u| .pick c a b=>λ_ q u ad B T _=>fv (d6 (.pick c a b) ⟨default,.nil,0,λ_ _=>none,0⟩ q ad B) λv=>T v q u| .dn a=>λC q u ad B T _=>nN a ad B λa=>fv (ay C q a) λv=>T v q u| .ph n a=>λC q u ad B T _=>nN a ad B λa=>fv (ca C q n a) λv=>T v q u| .off d x=>λ_ q u ad B T _=>nN x ad B λa=>fv (es d a) λv=>T v q u| .pc n aN x i=>λC q u ad B T _=>fv (d6 (.pc n aN x i) C q ad B) λv=>T v q u| .pd aN x i=>λC q u ad B T _=>fv (d6 (.pd aN x i) C q ad B) λv=>T v q u| .q5 x=>λ_ q u ad B T _=>nN x ad B λa=>fv (ht a) λv=>T v q u| .uy op x o=>λ_ q u ad B T _=>nN x ad B λa=>nN o ad B λb=>fv (aK op a b) λv=>T v q u| .ext i x=>λ_ q u ad B T _=>nN x ad B λa=>fv (hZ i a) λv=>T v q u| .eP bk I=>λC q u ad B T _=>fv (d6 (.eP bk I) C q ad B) λv=>T v q u| .make bk I=>λC q u ad B _ e=>fv (wZ (.make bk I) C q u ad B) e| .st n a v=>λC q u ad B _ e=>fv (eE (.st n a v) C q u ad B) e| .call f args=>λC q u ad B _ e=>fv (eE (.call f args) C q u ad B) e| .db bk I=>λC q u ad B _ e=>fv (eE (.db bk I) C q u ad B) e
structure dW where
 U:eA
 ae:Array Oper
 fin:List (Nat×Nat)
 k:List co
 bm:ff
def PY(X:dW)(C:al)(B:E z)(ad:List (Nat×z))(i:Nat)(rest:List dd)(r:ck)(q:E S)(u:Nat):cE:=
 match X with|⟨U,ae,fin,k,bm⟩=>jm r U C (.lu ae ad i rest fin) k bm B q u
abbrev ST:=dW->al->E z->List (Nat×z)->E S->Nat->cE
def aaB(a:ST)(X:dW)(C:al)(B:E z)(ad:List (Nat×z))(i:Nat)(v:z)(q:E S)(u:Nat):cE:=a X C B ((i,v)::ad) q u
def Q8(a:ST)(X:dW)(C:al)(B:E z)(ad:List (Nat×z))(i:Nat)(rest:List dd)(q:E S)(u:Nat)(r:ck):cE:=
 match r with
 | .val v=>a X C B ((i,v)::ad) q u| .cJ v q u=>a X C B ((i,v)::ad) q u|r=>PY X C B ad i rest r q u
def ud(X:dW)(_:al)(B:E z)(ad:List (Nat×z))(q:E S)(u:Nat):cE:=
 dW.rec (motive:=λ_=>cE) (λU _ fin k bm=>ug fin ad B λB=>U .run k bm B q u) X
def ri(i:Nat)(g:Option (Nat×Bool))(op:fT)(rest:List dd)(a:ST)(X:dW)(C:al)(B:E z)(ad:List (Nat×z))(q:E S)(u:Nat):cE:=
 IJ g ad (Bs op C q u ad B (aaB a X C B ad i) (Q8 a X C B ad i rest q u)) (a X C B ((i,undef)::ad) q u)
def pH(rest:List dd):ST:=
 List.rec (motive:=λ_=>ST) ud (λx rest a=>dd.rec (motive:=λ_=>ST) (λi g op=>ri i g op rest a) x) rest
def oW(U:eA)(C:al)(ae:Array Oper)(base:Nat)(ad:List (Nat×z))(g1:List mK)(fin:List (Nat×Nat))(k:List co)(bm:ff)(B:E z)(q:E S)(u:Nat):cE:=
 match g1 with
 |[]=>none|s::rest=>(match nK C base B s.lO ad q with
  |none=>none|some (ad,q)=>ba (qm C B ad q s.Bz) ((match s.db with
    |none=>ug fin ad B λB=>U .run k bm B q u|some h=>(match jJ h.g ad with
     |none=>none|some w=>ba (w) ((match eE h.op C q u ad B with
       |some r=>jm r U C (.od ae base ad h.i rest fin) k bm B q u|none=>none))<|U .run (.drawn ae base ((h.i,undef)::ad) rest fin::k) bm B q u)))<|none)
def pK(a:List kK):gA:=match a with|⟨_,true⟩::_=> .returning|_=> .panicking a
def lE(U:eA)(ar:Bool)(cs:List d1)(v:z)(q:E S)(u:Nat):cE:=
 match cs with
 |c::rest=>(match c with
  |⟨fn,n,ac,B,todo,aP,bh,a,ro⟩=>(match bh with
   | .run=>ba ar none (BG U todo ⟨fn,n,ac,aP,a,ro,rest⟩ v B q u)| .returning=>ba ar (U .returning todo ⟨fn,n,ac,aP,a,ro,rest⟩ B q u) none| .panicking b=>ba ar (U (pK b) todo ⟨fn,n,ac,aP,a,ro,rest⟩ B q u) none))
 |[]=>ba ar none (some v)
def AH(a:Option Code):Bool:=match a with|none=>true|some .ret=>true|_=>false
def HJ(a:Option Code):Bool:=match a with|none=>true|some .ret=>true|some (.exit _)=>true|_=>false
def jv(a:Option Code)(U:eA)(C:al)(todo:List co)(bm:ff)(B:E z)(q:E S)(u:Nat):cE:=
 match bm with
 |⟨fn,n,ac,aP,ar,ro,cs⟩=>(match ro with
  |none=>ba (AH a) (U .returning todo ⟨fn,n,ac,aP,ar,none,cs⟩ B q u)<|none
  |some l=>(match H C q l with
   |some (.loop _ _ fn n ac B params assign body defers)=>
    ba ((eB C l&&HJ a)&& !ar) (fB (aH C q l (some (.loop (ba a.isNone .ready .done) a fn n ac B params assign body defers))) λq=>lE U ar cs (.bool a.isNone) q u)<|none
   |_=>none))
def nf(C:al)(q:E S)(B:E z):List ResultVar->Option (List z)
 |[]=>some []| .tmp t::l=>(match B.get t,nf C q B l with|some v,some r=>some (v::r)|_,_=>none)| .cell a t::l=>(match B.get a with
   |some p=>(match g4 C q t p,nf C q B l with|some v,some r=>some (v::r)|_,_=>none)|none=>none)
def nP(B:E z)(I:Operand):Option z:=match I with
 | .tmp t=>B.get t| .const v=>ra v| .global g=>some (.ptr g 0)| .func f=>some (.func (.func f) [] [])
def u3(f:Operand)(params:Array Nat)(assign body:Code)(U:eA)(C:al)(k:List co)(bm:ff)(B:E z)(q:E S)(u:Nat):cE:=
 match nP B f,bm with
 |some (.func (.func g) first a),⟨fn,n,ac,aP,ar,ro,cs⟩=>
  (
   match ro with
   |none=>kw u λu=>
    iz U C g (first++[.func (.yield (u+1)) [] []]++a) false (⟨fn,n,ac,B,.inRangeFunc (u+1)::k,⟨.collected u,[]⟩::aP,.run,ar,none⟩::cs)
     (aH C (aH C q u (some (.deferred (some [])))) (u+1) (some (.loop .ready none fn n ac B params.toList assign body u))) (u+2)
   |some l=>(match H C q l with
    |some (.loop _ _ _ _ _ _ _ _ _ defers)=>kw u λu=>
     iz U C g (first++[.func (.yield u) [] []]++a) false (⟨fn,n,ac,B,.inRangeFunc u::k,aP,.run,ar,some l⟩::cs)
      (aH C q u (some (.loop .ready none fn n ac B params.toList assign body defers))) (u+1)
    |_=>none))
 |_,_=>none
def oZ(id:Nat)(U:eA)(C:al)(k:List co)(bm:ff)(B:E z)(q:E S)(u:Nat):cE:=
 match exitTo id k with
 |some a=>U .run a bm B q u|none=>jv (some (.exit id)) U C (.code (.exit id)::k) bm B q u
def t2(c:Operand)(B:E z)(a b:cE):cE:=fv (nP B c) λv=>match v with
 | .bool t=>Bool.rec (motive:=λ_=>cE) b a t|_=>none
def BC(n ac:Nat)(ae:Array Oper)(U:eA)(C:al)(k:List co)(bm:ff)(B:E z)(q:E S)(u:Nat):cE:=
 fv (uT C n ae ac) λr=>yj.rec (motive:=λ_=>cE) (λrest fin=>pH rest ⟨U,ae,fin,k,bm⟩ C B [] q u) r
def BB(n ac:Nat)(ae:Array Oper)(U:eA)(C:al)(k:List co)(bm:ff)(B:E z)(q:E S)(u:Nat):cE:=
 fv (uS C n ae ac) λr=>yi.rec (motive:=λ_=>cE) (λg1 fin=>kw u λu=>oW U C ae u [] g1 fin k bm B q (u+ae.size)) r
def HX(ae:Array Oper)(a:Bool)(U:eA)(C:al)(k:List co)(bm:ff)(B:E z)(q:E S)(u:Nat):cE:=
 ff.rec (motive:=λ_=>cE) (λfn n ac aP ar ro cs=>Bool.rec (motive:=λ_=>cE)
  (BC n ac ae U C k ⟨fn,n,ac,aP,ar,ro,cs⟩ B q u) (BB n ac ae U C k ⟨fn,n,ac,aP,ar,ro,cs⟩ B q u) a) bm
abbrev ov:=eA->al->List co->ff->E z->E S->Nat->cE
def wG:ov:=λU _ k bm B q u=>U .run k bm B q u
def q6:ov:=λ_ _ _ _ _ _ _=>none
def l8(c:Code):ov:=
 Code.rec (motive:=λ_=>ov) wG
  (λ_ ae d=>HX ae d)
  (λ_ b e _ U C k=>e U C (.code b::k))
  (λc _ _ e a U C k bm B q u=>t2 c B (e U C k bm B q u) (a U C k bm B q u))
  (λid _ a U C k=>a U C (.inBlock id::k))
  (λb a U C k=>a U C (.inLoop b::k))
  (λf params assign body _ _=>u3 f params assign body)
  (λid=>oZ id)
  (λb a U C k=>a U C (.inScope b::k))
  (λ_=>wG)
  (λ_=>q6)
  (λU C k=>jv (some .ret) U C (.code .ret::k))
  (λ_=>q6) c
def sy(l:Nat):ov:=λU C k bm B q u=>match H C q l with
 |some (.loop state pending b d c a params assign body defers)=>
  (
   match state with
   | .busy=>none|_=>ba (eB C l) (fB (aH C q l (some (.loop .exhausted pending b d c a params assign body defers))) λq=>U .run ((pending.map co.code).toList++k) bm B q u)<|none)
 |_=>none
def tT:ov:=λU C k bm B q u=>match bm with
 |⟨fn,n,ac,aP,ar,ro,cs⟩=>match ro with
  |some l=>(match H C q l with
   |some (.loop .ready pending b d c a params assign body defers)=>
    ba (eB C l) (fB (aH C q l (some (.loop .busy pending b d c a params assign body defers))) λq=>U .run k ⟨fn,n,ac,aP,ar,some l,cs⟩ B q u)<|none
   |_=>none)
  |none=>none
def RG(a:co):ov:=
 co.rec (motive:=λ_=>ov) (λc=>l8 c) (λ_=>wG) (λb U C k=>l8 b U C (.inLoop b::k)) (λ_=>wG)
  (λae ad rest fin U C k bm B q u=>pH rest ⟨U,ae,fin,k,bm⟩ C B ad q u)
  (λae base ad g1 fin U C k bm B q u=>oW U C ae base ad g1 fin k bm B q u)
  (λ_ _ _ _ _=>q6) (λ_ _ _ _ _ _=>q6) (λ_=>q6) (λl=>sy l) tT a
def acs(todo:List co)(U:eA)(C:al)(bm:ff)(B:E z)(q:E S)(u:Nat):cE:=
 List.rec (motive:=λ_=>cE) (jv none U C [] bm B q u) (λa k _=>RG a U C k bm B q u) todo
def nj(d:eD)(bb:List eD)(bh:gA)(todo:List co)(U:eA)(C:al)(bm:ff)(B:E z)(q:E S)(u:Nat):cE:=
 match bm with
 |⟨fn,n,ac,_,ar,ro,cs⟩=>(match d with
  |⟨.collected r,_⟩=>(match H C q r with
   |some (.deferred (some b))=>ba (eB C r) (fB (aH C q r (some (.deferred none))) λq=>U bh todo ⟨fn,n,ac,b++bb,ar,ro,cs⟩ B q u)<|none
   |_=>none)
  |⟨.fn f c,args⟩=>(match oK C f c args with
   |some (.enter f a)=>iz U C f a true (⟨fn,n,ac,B,todo,bb,bh,ar,ro⟩::cs) q u|_=>none))
def one(aG:List z):z:=match aG with|[v]=>v|aG=> .tuple aG
def vb(todo:List co)(U:eA)(C:al)(bm:ff)(B:E z)(q:E S)(u:Nat):cE:=
 match bm with
 |⟨fn,n,ac,aP,ar,ro,cs⟩=>match aP with
  |d::bb=>nj d bb .returning todo U C ⟨fn,n,ac,[],ar,ro,cs⟩ B q u|[]=>(match C.P.funcs[fn]? with
   |some f=>(match nf C q B f.results.toList with
    |some aG=>lE U ar cs (one aG) q u|none=>none)
   |none=>none)
def BV(chain:List kK)(todo:List co)(U:eA)(C:al)(bm:ff)(B:E z)(q:E S)(u:Nat):cE:=
 match bm with
 |⟨fn,n,ac,aP,ar,ro,cs⟩=>match aP with
  |d::bb=>nj d bb (.panicking chain) todo U C ⟨fn,n,ac,[],ar,ro,cs⟩ B q u|[]=>(match cs with
   |c::rest=>HU U c rest chain q u|[]=>none)
def BU(U:eA)(C:al)(bh:gA)(todo:List co)(bm:ff)(B:E z)(q:E S)(u:Nat):cE:=
 gA.rec (motive:=λ_=>cE) (acs todo U C bm B q u) (vb todo U C bm B q u) (λa=>BV a todo U C bm B q u) bh
def run(C:al)(n:Nat):eA:=
 Nat.rec (motive:=λ_=>eA) (λ_ _ _ _ _ _=>none) (λ_ U bh todo bm B q u=>BU U C bh todo bm B q u) n
def n9(C:al)(n:Nat)(f:Nat)(args:List z):cE:=iz (run C n) C f args false [] .nil C.aB
section
variable{C:al}{F bY:bX}{Q b9:Nat->Prop}{q D:E S}{u Z aO:Nat}{w a2:World}
def Gd(K:bW C F Q q u aO w)(cx:aO<=w.heap.size)(ge:nx C.P){oper:Oper}{ab:Operand->Value}{wr:List (Nat×Nat)}{ad:List (Nat×z)}{B:E z}{c:fT}{res:ck}
 (k:fx F Q ab (fA wr ad B) oper.op.operands.toList)(j:g6 C wr oper.op=some c)(h:eE c C q u ad B=some res):eY C F Q q u aO w (execOp ab oper) res:=by
 have rest:∀I,oper.op=I->c=.db wr I->eY C F Q q u aO w (execOp ab oper) res:=by intro I T5 T3;subst T3;subst T5;exact ND K cx ge k h
 have l:∀I,c=.eP wr I->eY C F Q q u aO w (execOp ab oper) res:=by intro I e;subst e;simp[eE]at h
 have L:∀I,c=.make wr I->eY C F Q q u aO w (execOp ab oper) res:=by intro I e;subst e;simp[eE]at h
 obtain⟨dst,op,type,pos,after,guard⟩:=oper;cases op<;>simp only[g6]at j<;>simp only[Op.operands]at k;case store t a x=>
  split at j
  ·rename_i U1 U3 s T2 p T6;simp at j;subst j;simp only[eE,h7 T2,h7 p]at h;split at h
   ·rename_i R n;split at h
    ·rename_i v T7;obtain⟨O,T0⟩:=k a Zs R n;obtain⟨P,T1⟩:=k x Zs v T7;obtain⟨D,rfl,ai⟩:=act K T6 T0 T1 h;simp only[execOp,O,P];exact ai _ (λa2 T9=>by simp[T9])
    ·simp at h
   ·simp at h
  ·simp at j
 case call N=>
  obtain⟨callee,args,bM⟩:=N;cases callee with
  |builtin b=>
   cases b<;>simp[g6]at j<;>first
    |exact rest _ rfl j.symm|exact l _ j.symm
  |value f=>
   cases f with
   |func g=>
    simp only at j;split at j
    ·rename_i U2 has;simp at j;subst j;simp only[eE]at h;split at h
     ·rename_i aG T8;simp only[Call.operands]at k;obtain⟨bw,TZ⟩:=P2 ad B has T8;have TY:fx F Q ab (fA wr ad B) args.toList:=k.mono (by simp;intro x p;exact .inr p);obtain⟨U0,G⟩:=GV TY bw TZ;obtain⟨X,_⟩:=k (.func g) Zs (.func (.func g) [] []) rfl;have e:args.map ab=(bf F aG).toArray:=(by apply Array.ext';simp[U0]);have A:(execOp ab ⟨dst,.call ⟨.value (.func g),args,bM⟩,type,pos,after,guard⟩).run C.P w=(callFunc g (bf F aG).toArray).run C.P w:=(by simp[execOp,resolve,X,aq,hQ,bf,Deferred.ofValue,invoke,e]);rw[cY]at h;split at h
      ·rename_i T4;split at h
       ·rename_i R n;cases h;exact⟨⟨T4,n⟩,A,G⟩
       ·cases h
      ·exact(yR (F:=F) (q:=q) (u:=u) (aO:=aO) (w:=w) ge G h).congr A
     ·simp at h
    ·simp at j
   |tmp t=>simp at j;exact rest _ rfl j.symm|const v=>simp at j;exact rest _ rfl j.symm|global g=>simp at j;exact rest _ rfl j.symm
  |invoke r m=>simp[g6]at j;exact rest _ rfl j.symm
 case convert s d x=>
  rw[cY]at j;split at j
  ·simp at j;exact rest _ rfl j.symm
  ·simp at j;exact l _ j.symm
 case makeMap t r=>cases r<;>simp[g6]at j<;>first|exact rest _ rfl j.symm|exact L _ j.symm
 case binOp op t x o U4=>
  rw[cY]at j;split at j
  ·split at j
   ·simp at j;subst j;simp[eE]at h
   ·simp at j
  ·simp at j;exact l _ j.symm
 case fieldAddr s x f=>
  split at j
  ·rw[jz]at j;split at j
   ·split at j
    ·simp only[ss,Zh]at j;obtain⟨_,rfl⟩:=j;simp[eE]at h
    ·simp at j
   ·simp at j
  ·simp at j
 case indexAddr t x i=>
  split at j
  ·split at j
   ·simp at j;subst j;simp[eE]at h
   ·simp at j
  ·split at j
   ·simp at j;subst j;simp[eE]at h
   ·simp at j
  ·simp at j
 all_goals first
  |(simp at j;first|exact rest _ rfl j.symm|exact l _ j.symm|exact L _ j.symm)|(split at j<;>first
    |(simp at j;subst j;simp[eE]at h;done)|(simp at j;done))
def w0{oper:Oper}{wr:List (Nat×Nat)}{c:fT}(a:g6 C wr oper.op=some c){b:Nat}{ad:List (Nat×z)}{B:E z}{r:z×S}(h:iB c C b ad B=some r):jS oper.op C (fA wr ad B) b=some r:=by
 have rest:∀I,oper.op=I->c=.make wr I->jS oper.op C (fA wr ad B) b=some r:=by intro I p n;subst n;subst p;exact h
 have k:∀I,c=.eP wr I->jS oper.op C (fA wr ad B) b=some r:=by intro I e;subst e;simp[iB]at h
 have j:∀I,c=.db wr I->jS oper.op C (fA wr ad B) b=some r:=by intro I e;subst e;simp[iB]at h
 obtain⟨dst,op,type,pos,after,guard⟩:=oper;cases op<;>simp only[g6]at a;case call l=>
  obtain⟨callee,args,bM⟩:=l;cases callee with
  |builtin b=>cases b<;>simp[g6]at a<;>first|exact j _ a.symm|exact k _ a.symm
  |value f=>
   cases f with
   |func g=>
    simp[g6]at a;split at a
    ·simp at a;subst a;simp[iB]at h
    ·simp at a
   |tmp t=>simp[g6]at a;exact j _ a.symm|const v=>simp[g6]at a;exact j _ a.symm|global g=>simp[g6]at a;exact j _ a.symm
  |invoke r m=>simp[g6]at a;exact j _ a.symm
 case convert s d x=>
  rw[cY]at a;split at a
  ·simp at a;exact j _ a.symm
  ·simp at a;exact k _ a.symm
 case makeMap t r=>cases r<;>simp[g6]at a<;>first|exact rest _ rfl a.symm|exact j _ a.symm
 case binOp op t x o w=>
  rw[cY]at a;split at a
  ·split at a
   ·simp at a;subst a;simp[iB]at h
   ·simp at a
  ·simp at a;exact k _ a.symm
 case fieldAddr s x f=>
  split at a
  ·rw[jz]at a;split at a
   ·split at a
    ·simp only[ss,Zh]at a;obtain⟨_,rfl⟩:=a;simp[iB]at h
    ·simp at a
   ·simp at a
  ·simp at a
 case indexAddr t x i=>
  split at a
  ·split at a
   ·simp at a;subst a;simp[iB]at h
   ·simp at a
  ·split at a
   ·simp at a;subst a;simp[iB]at h
   ·simp at a
  ·simp at a
 all_goals first
  |(simp at a;first|exact rest _ rfl a.symm|exact k _ a.symm|exact j _ a.symm)|(split at a<;>first
    |(simp at a;subst a;simp[iB]at h;done)|(simp at a;done))
def mr{α:Type}(I:Option α)(k:α->cE):fv I k=match I with|some a=>k a|none=>none:=by cases I<;>rfl
def EW(l:List (Nat×z))(j:Nat)(k:z->cE):tR l j k=fv (cL l j) k:=by induction l with|nil=>rfl|cons p l U=>obtain⟨a,b⟩:=p;show(Bool.rec (tR l j k) (k b) (Nat.beq a j))=fv (ba (Nat.beq a j) (some b) (cL l j)) k;rw[U];cases Nat.beq a j<;>rfl
def QK(t:E z):∀(i:Nat) (k:z->cE),wC t i k=fv (t.get i) k:=by induction t with|nil=>intro i k;rfl|node v l r a b=>intro i k;cases i with|zero=>rfl|succ j=>show(Bool.rec (wC r (Nat.div j 2) k) (wC l (Nat.div j 2) k) (Nat.beq (Nat.mod j 2) 0))=fv (ba (Nat.beq (Nat.mod j 2) 0) (l.get (Nat.div j 2)) (r.get (Nat.div j 2))) k;rw[a,b];cases Nat.beq (Nat.mod j 2) 0<;>rfl
def PZ(x:gh)(ad:List (Nat×z))(B:E z)(k:z->cE):nN x ad B k=fv (gJ x ad B) k:=by cases x with|v j=>exact EW ad j k|t n=>exact QK B n k|c a=>rfl
def ws:∀(l:List (Nat×Nat)) (ad:List (Nat×z)) (B:E z) (k:E z->cE),ug l ad B k=fv (nS ad l B) k:=by intro l;induction l with|nil=>intro ad B k;rfl|cons p l U=>intro ad B k;obtain⟨i,d⟩:=p;show tR ad i (λv=>fB (E.set B d (some v)) λB=>ug l ad B k)=_;rw[EW];simp only[nS];cases cL ad i with|none=>rfl|some v=>simp;exact U _ _ _
def xU(g:Option (Nat×Bool))(ad:List (Nat×z))(a b:cE):IJ g ad a b=fv (jJ g ad) λw=>if w=true then a else b:=by cases g with|none=>rfl|some p=>show fv (jJ (some p) ad) (λw=>Bool.rec b a w)=_;congr 1;funext w;cases w<;>rfl
def xj(op:fT)(q:E S)(u:Nat)(ad:List (Nat×z))(B:E z)(T:z->E S->Nat->cE)(a:ck->cE):
 Bs op C q u ad B T a=match hF op with
  | .eP=>fv (d6 op C q ad B) λv=>T v q u| .make=>fv (wZ op C q u ad B) a| .db=>fv (eE op C q u ad B) a:=by
 cases op<;>simp only[Bs,hF,PZ,d6,mr]<;>(try rfl);all_goals(split<;>first|rfl|(split<;>simp_all))
def oe:List Oper->Nat->List (Nat×Nat)->List (Nat×Nat)
 |[],_,wr=>wr|I::l,i,wr=>oe l (i+1) (nA I i wr)
def e4(ae:Array Oper)(i:Nat):List (Nat×Nat):=oe (ae.toList.take i) 0 []
def ado(a:List Oper):∀(b:List Oper) (i:Nat) (wr:List (Nat×Nat)),oe (a++b) i wr=oe b (i+a.length) (oe a i wr):=by induction a with|nil=>intro b i wr;rfl|cons I a U=>intro b i wr;simp only[Yw,oe,U,ZI];grind
def vm{ae:Array Oper}{i:Nat}{I:Oper}(h:ae[i]? =some I):e4 ae (i+1)=nA I i (e4 ae i):=by
 have a:ae.toList[i]? =some I:=by grind
 have b:=(Ze.1 a).1;unfold e4;rw[ZD,a,ado]
 have:(ae.toList.take i).length=i:=by simp at b ⊢;omega
 rw[this];simp[oe]
def B8(ae:Array Oper):e4 ae 0=[]:=rfl
def k3(ae:Array Oper)(j:Nat):Option Nat:=(ae[j]?).bind (·.dst)
def uc{ae:Array Oper}{i:Nat}{I:Oper}(h:ae[i]? =some I):k3 ae i=I.dst:=by simp[k3,h]
def NS{I:Oper}{i j:Nat}{wr:List (Nat×Nat)}:mX j (nA I i wr)=if i=j/\I.dst.isSome then I.dst else mX j wr:=by
 unfold nA;split
 ·rename_i d ai;simp only[mX,ee,ai];grind
 ·grind
def sl{I:Oper}{i t:Nat}{wr:List (Nat×Nat)}:cL (nA I i wr) t=if I.dst=some t then some i else cL wr t:=by
 unfold nA;split
 ·rename_i d ai;rw[kr,ai];grind
 ·grind
def vn(ae:Array Oper):∀i,i<=ae.size->(∀j t,mX j (e4 ae i)=some t->k3 ae j=some t)/\
 (∀t j,cL (e4 ae i) t=some j->j<i/\k3 ae j=some t/\∀k,j<k->k<i->k3 ae k≠some t)/\(∀t,cL (e4 ae i) t=none->∀k,k<i->k3 ae k≠some t):=by
 intro i;induction i with
 |zero=>intro _;rw[B8];exact⟨λj t h=>by simp[mX]at h,λt j h=>by simp at h,λt _ k c=>Zo⟩|succ i U=>
  intro ag;obtain⟨d,f,b⟩:=U Zo;have a:ae[i]? =some ae[i]:=Y3 Zo;rw[vm a];have ai:=uc a;refine⟨λj t h=> ?_,λt j h=> ?_,λt h k c=> ?_⟩
  ·rw[NS]at h;grind
  ·rw[sl]at h;grind
  ·rw[sl]at h;split at h
   ·cases h
   ·rename_i e;by_cases V:k=i
    ·subst V;rw[ai];exact e
    ·exact b t h k Zo
def gR(tmps:Array Value):Operand->Value
 | .tmp t=>tmps.getD t Go.undef| .const v=>v| .global g=> .pointer (some ⟨g,0,none⟩)| .func f=> .func (.func f) #[] #[]
def FO(fr:Frame):fr.eval=gR fr.tmps:=by rfl
def iQ(F:bX)(Q:Nat->Prop)(ac:Nat)(X:Nat->Prop)(wr:List (Nat×Nat))(ad:List (Nat×z))(B:E z)(tmps:Array Value):Prop:=
 ∀t v,X t->(match cL wr t with|some j=>cL ad j=some v|none=>dq ac t=true/\B.get t=some v)->tmps[t]? =some (aq F v)/\bs Q v
def kT(C:al)(F:bX)(Q:Nat->Prop):Prop:=∀g,g<C.i2->Q g/\(F g).bA=g/\(F g).cn=0
def TR{ac:Nat}{wr:List (Nat×Nat)}:∀{l:List Operand},rf C ac wr l=true->∀x∈l,ta C ac wr x=true:=by intro l;induction l with|nil=>grind|cons a l U=>intro h x b;simp only[rf,Zu]at h;grind
def FL{ac:Nat}{X:Nat->Prop}{wr:List (Nat×Nat)}{ad:List (Nat×z)}{B:E z}{tmps:Array Value}(p:iQ F Q ac X wr ad B tmps){l:List Operand}(k:∀t,Operand.tmp t∈l->X t)(n:rf C ac wr l=true)
 (j:kT C F Q):fx F Q (gR tmps) (fA wr ad B) l:=by
 intro x b v h;have a:=TR n x b;cases x with
 |tmp t=>
  have:=p t v (k t b) (by
   simp only[fA]at h;simp only[ta]at a;split at h
   ·grind
   ·rename_i m;rw[m]at a ⊢;exact⟨a,h⟩)
  exact⟨by simp[gR,this.1],this.2⟩
 |const c=>exact xc h|global g=>simp[fA]at h;subst h;obtain⟨d,e,i⟩:=j g (hy a);exact⟨by simp[gR,aq,e,i],d⟩
 |func f=>simp[fA]at h;subst h;exact⟨by simp[gR,aq,hQ,bf],trivial,trivial,trivial⟩
end
end
end Go.aF
