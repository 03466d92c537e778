/- Part of the proof of the last text; no conditions -/
import Derived.Test.YtmipngjbcdamjaaGreatDoorYb
import Derived.Laws.RangeString
set_option maxHeartbeats 8000000
set_option linter.all false
namespace Go.Q
open Go.RowKit (Below)
structure kB(P:Program):Prop where
 mixed:P.follows .mixedOrders=true
 num:∀(f:Nat) fn,P.funcs[f]? =some fn->fn.body.isSome=true->(fn.name== "runtime.NumGoroutine")=false
section
variable{C:ax}{u bD:bC}{D bq:Nat->Prop}{S B:F ac}{nx nx' az:Nat}{w aK:World}
def bA.same(K:bA C u D S nx az w)(a:aK.heap=w.heap):bA C u D S nx az aK:=
 ⟨K.aN,K.lt,K.jC,λb A e d=>(K.obj b A e d).R (λ_ _=>rfl) (λ_ e=>e) (by rw[a]),K.sep,K.base,K.ch⟩
def bA.drew(K:bA C u D S nx az w):bA C u D S nx az w.drew:=K.same rfl
def bA.JL(K:bA C u D S nx az w){b:Nat}{c:F q}{n:Nat}{ch:List Nat}(Y:C.aN<=b)(v:D b)(s:H C S b=some (.cells c n (.grow ch))):
 bA C u D (aP C S b (some (.cells c n .eA))) nx az w:=by
 have G:H C (aP C S b (some (.cells c n .eA))) b=some (.cells c n .eA):=by rw[cr _ Y,Zv rfl]
 have f:∀x,x≠b->H C (aP C S b (some (.cells c n .eA))) x=H C S x:=λx a=>by rw[cr _ Y,Zj a]
 refine⟨K.aN,K.lt, ?_, ?_, ?_, ?_, ?_⟩
 ·intro x d a
  by_cases j:x=b
  ·subst j;exact K.lt x v
  ·exact K.jC x d (by rw[<-f x j,a])
 ·intro x d a bP
  by_cases j:x=b
  ·subst j
   rw[G]at a;cases a
   obtain⟨a2,ty,aC,ai,p,r,T1,T2⟩:=K.obj x _ s v
   exact⟨a2,ty,aC,ai,p,⟨trivial,r.2⟩,T1,T2⟩
  ·exact K.obj x d (by rw[<-f x j,a]) bP
 ·intro x m d T0 a i bP O z g P
  by_cases j:x=b
  ·subst j
   rw[G]at a;cases a
   rw[f m λJ=>z J.symm]at i
   obtain⟨p,r⟩:=K.sep x m _ T0 s i bP O z g P
   refine⟨?_,r⟩
   rcases p with ⟨_,_,_,_,J,_⟩|⟨_,_,h,t,ah,J,X,ap⟩|⟨_,_,_,_,_,_,J,_⟩
   ·cases J
   ·exact .inl ⟨c,n,t,ah,rfl,X⟩
   ·cases J
  ·rw[f x j]at a
   by_cases Z:m=b
   ·subst Z
    rw[G]at i;cases i
    obtain⟨p,r⟩:=K.sep x m d _ a s bP O z g P
    refine⟨?_,r⟩
    rcases p with ⟨_,_,_,_,_,J⟩|⟨_,_,h,t,ah,_,J,ap⟩|⟨t,ah,_,_,_,J,X,_⟩
    ·cases J
    ·cases J
    ·exact .inl ⟨t,ah,c,n,X,rfl⟩
   ·rw[f m Z]at i
    exact K.sep x m d T0 a i bP O z g P
 ·intro x d g a bP
  by_cases j:x=b
  ·subst j;exact K.base x _ g s v
  ·exact K.base x d g (by rw[<-f x j,a]) bP
 ·intro x d a bP
  by_cases j:x=b
  ·subst j
   rw[G]at a;cases a
   have:=(K.ch x _ s v).2 _ _ _ rfl
   exact⟨λ_ _ _ e=>(by cases e),λ_ _ _ e=>(by cases e;exact this)⟩
  ·exact K.ch x d (by rw[<-f x j,a]) bP
def bA.share(K:bA C u D S nx az w){a8:Nat}{pl:fS}{bJ:ac}(cp:az<=a8)(X:pl.a8=a8)(T7:∀k,k≠a8->aK.heap[k]? =w.heap[k]?)
 (T5:eD C (cZ u nx pl) (add D nx) bJ pl aK)(T6:je C (add D nx) bJ)
 (r:∀x a,H C S x=some a->D x->(u x).a8=a8->eD C u D a (u x) aK/\sZ bJ a nx x/\sZ a bJ x nx/\pl.b3=(u x).b3):
 bA C (cZ u nx pl) (add D nx) (aP C S nx (some bJ)) (nx+1) az aK:=by
 have Y:=K.aN
 have T4:¬D nx:=λe=>zu (K.lt nx e)
 have d:=hU (u:=u) (pl:=pl) T4
 have v:H C (aP C S nx (some bJ)) nx=some bJ:=by rw[cr _ Y,Zv rfl]
 have f:∀x,x≠nx->H C (aP C S nx (some bJ)) x=H C S x:=λx r=>by rw[cr _ Y,Zj r]
 have am:∀x,add D nx x->x≠nx->D x:=λx e t=>e.resolve_right t
 refine⟨Zo, ?_, ?_, ?_, ?_, ?_, ?_⟩
 ·intro x e
  rcases e with e|e
  ·have:=K.lt x e;omega
  ·omega
 ·intro x a e
  by_cases j:x=nx
  ·omega
  ·have:=K.jC x a (by rw[<-f x j,e]);omega
 ·intro x a e bP
  by_cases j:x=nx
  ·subst j;rw[v]at e;cases e;rw[fj];exact T5
  ·rw[f x j]at e
   have bP:=am x bP j
   rw[d x bP]
   by_cases J:(u x).a8=a8
   ·exact(r x a e bP J).1.R d (λ_ e=> .inl e) rfl
   ·exact(K.obj x a e bP).R d (λ_ e=> .inl e) (T7 _ J)
 ·intro x b a T1 p g bP m t Z i
  by_cases j:x=nx
  ·subst j
   rw[v]at p;cases p
   have z:b≠x:=λJ=>t J.symm
   rw[f b z]at g
   have m:=am b m z
   rw[fj,d b m]at i ⊢
   obtain⟨_,O,_,P⟩:=r b T1 g m (by rw[<-i,X])
   exact⟨O,P⟩
  ·rw[f x j]at p
   have s:=am x bP j
   by_cases G:b=nx
   ·subst G
    rw[v]at g;cases g
    rw[fj,d x s]at i ⊢
    obtain⟨_,_,T3,P⟩:=r x a p s (by rw[i,X])
    exact⟨T3,P.symm⟩
   ·rw[f b G]at g
    have T0:=am b m G
    rw[d x s,d b T0]at i ⊢
    exact K.sep x b a T1 p g s T0 t Z i
 ·intro x a Z e bP
  by_cases j:x=nx
  ·subst j;rw[fj,X];exact cp
  ·rw[f x j]at e
   have bP:=am x bP j
   rw[d x bP]
   exact K.base x a Z e bP
 ·intro x a e bP
  by_cases j:x=nx
  ·subst j;rw[v]at e;cases e;exact T6
  ·rw[f x j]at e
   have bP:=am x bP j
   refine⟨λc n h ap b z=> ?_,(K.ch x a e bP).2⟩
   obtain⟨T2,O⟩:=(K.ch x a e bP).1 c n h ap b z
   exact⟨.inl T2,O⟩
def yu{c:F q}{A n:Nat}{h:List q}(e:c.eK A n=some h):h.length=n:=(F.rC _ _ _ _ e).1
def ti{b A n:Nat}{h:List q}(e:fW C S b A n=some h):h.length=n:=by
 unfold fW at e
 split at e
 ·exact yu e
 ·simp only[ce,Zu]at e
  have:n=0:=Zh e.1
  rw[<-e.2,this];rfl
def Bj(u:bC)(z:q)(n:Nat):Builtin.zeroCells (af u z).cells n=(aR u (ew n z.cells)).toArray:=by
 rw[jh, <-Aq]
 simp[Builtin.zeroCells,eF]
def va(u:bC)(s:List Nat)(a:∀x∈s,x<256):((cF s).data.map λb=>Value.int .u8 b.toNat)=(aR u (s.map λn=>q.int .u8 (Int.ofNat n))).toArray:=by
 apply YC
 simp only[cF,hh,YH]
 simp only[List.map_toArray,YH]
 apply Yw
 intro x c
 simp[af,YM (a x c)]
def Kx(K:bA C u D S nx az w){x:q}{i:TypeInfo}{z:Value}{bP:TypeDesc}{n:Nat}{h:List q}(c:ba D x)(d:bP= .string\/∃j,bP= .slice j)(e:gu C S i.size x=some (n,h)):
 ky C.P w bP (af u x) i z n (aR u h).toArray/\ca D h/\h.length=n*i.size:=by
 unfold gu at e
 split at e
 ·simp at e;obtain⟨rfl,rfl⟩:=e
  refine⟨.inl ⟨d, ?_, ?_, ?_⟩,trivial,Zs⟩<;>simp[af,Builtin.lenOf,Builtin.firstCells,aR]
 ·rename_i b A len cap
  split at e
  ·rename_i G ap
   simp at e;obtain⟨rfl,rfl⟩:=e
   obtain⟨a,f⟩:=l8 K c ap
   obtain⟨g,_⟩:=l8 K.drew c ap
   refine⟨.inl ⟨d, ?_, ?_, ?_⟩,f,ti ap⟩<;>simp[af,Builtin.lenOf,Builtin.firstCells,a,g]
  ·simp at e
 ·rename_i b A len cap
  split at e
  ·rename_i G ap
   simp at e;obtain⟨rfl,rfl⟩:=e
   obtain⟨a,f⟩:=l8 K c ap
   obtain⟨g,_⟩:=l8 K.drew c ap
   refine⟨.inl ⟨d, ?_, ?_, ?_⟩,f,ti ap⟩<;>simp[af,Builtin.lenOf,Builtin.firstCells,a,g]
  ·simp at e
 ·rename_i s
  simp only[ce]at e
  obtain⟨a,e⟩:=e
  have a:i.size=1:=Zh a
  simp at e;obtain⟨rfl,rfl⟩:=e
  have r:(cF s).size=s.length:=by simp[cF,ByteArray.size]
  have p:(cF s).extract 0 s.length=cF s:=by
   rw[<-r];exact ByteArray.extract_zero_size
  have m:=va u s c
  refine⟨.inl ⟨d, ?_, ?_, ?_⟩, ?_,by simp[a]⟩
  ·simp[af,Builtin.lenOf,r]
  ·simp only[af,Builtin.firstCells,p,Sem.run_pure];rw[m];simp
  ·simp only[af,Builtin.firstCells,p,Sem.run_pure];rw[m];simp
  ·rw[iS]
   intro v t
   obtain⟨O,_,rfl⟩:=ZB.1 t
   trivial
 ·simp at e
end
section
variable{P:Program}{w aK:World}{bu:Array TypeId}{ty st d4 bW:TypeId}{i:TypeInfo}{bP:TypeDesc}{base:Option Addr}{dl fh n:Nat}{X z:Value}{hq new:Array Value}
def sM(P:Program)(w:World)(bP:TypeDesc)(X:Value)(i:TypeInfo):Prop:=
 ((bP= .string\/∃j,bP= .slice j)/\(Builtin.lenOf X).run P w= .ok 0 w/\(Builtin.firstCells i.size 0 X).run P w= .ok #[] w)\/((∃J,bP= .int J)/\∃k,X= .int k 0)
def s6(a:bu[0]? =some st)(b:bu[1]? =some d4)(d:P.underlying st=some (.slice bW))(f:P.underlying d4=some bP)(ai:P.info? bW=some i)
 (g:sM P w bP X i)(c:dl<=fh):(Builtin.append_ bu ty #[.slice base dl fh,X]).run P w= .ok (.slice base dl fh) w:=by
 rcases g with ⟨p,r,s⟩|⟨⟨J,rfl⟩,k,rfl⟩
 ·rcases p with rfl|⟨_,rfl⟩<;>cases base<;>simp[Builtin.append_,a,b,run_underlying d,run_underlying f,sizeOf,typeInfo,ai,r,c,s,storeCells]
 ·have n:IntKind.i64.wrap 0=0:=by decide
  have m:¬((2:Int)^48<0):=by decide
  cases base<;>simp[Builtin.append_,a,b,run_underlying d,run_underlying f,sizeOf,typeInfo,ai,asInt,asIntOf,n,m,c,storeCells]
end
section
variable{C:ax}{u bD:bC}{D bq:Nat->Prop}{S B:F ac}{nx nx' az:Nat}{w aK:World}
def Ee{bP:TypeDesc}{X z:Value}{i:TypeInfo}(e:ky C.P w bP X i z 0 (aR u []).toArray):sM C.P w bP X i:=by
 rcases e with ⟨a,b,c,_⟩|⟨_,_,_,_,d,_⟩
 ·exact .inl ⟨a,b,c⟩
 ·simp at d
def GA{b A len an n:Nat}(K:bA C u D S nx az w)(Y:D b)(e:jH C S b=some n)(a:0<an)(ap:A+len*an<=n):len<=((u b).room-A)/an:=by
 have:=AN K Y e
 rw[Y7 a]
 omega
def w1(K:bA C u D S nx az w){bu:Array TypeId}{ty st d4 bW:TypeId}{i:TypeInfo}{bP:TypeDesc}{s:q}{X:Value}{m:bY}
 (a:bu[0]? =some st)(b:bu[1]? =some d4)(f:C.P.underlying st=some (.slice bW))(g:C.P.underlying d4=some bP)(ai:C.P.info? bW=some i)(r:0<i.size)
 (c:sM C.P w bP X i)(T:ba D s)(e:oh C S i.size s=some m):∃v,m= .val v/\ba D v/\(Builtin.append_ bu ty #[af u s,X]).run C.P w= .ok (af u v) w:=by
 unfold oh at e
 split at e
 ·simp at e;subst e
  exact⟨_,rfl,trivial,by simp only[af];exact s6 a b f g ai c (Zp _)⟩
 ·simp only[ce,Zu]at e
  obtain⟨ap,rfl⟩:=e
  exact⟨_,rfl,T,by simp only[af];exact s6 a b f g ai c (ep ap)⟩
 ·simp only[ce]at e
  obtain⟨d,e⟩:=e
  have d:=Zh d
  subst d
  split at e
  ·rename_i n p
   simp only[ce,Zu]at e
   obtain⟨ap,rfl⟩:=e
   exact⟨_,rfl,T,by simp only[af];exact s6 a b f g ai c (GA K T p r (ep ap))⟩
  ·simp at e
 ·simp at e
def qE(C:ax)(u:bC)(D:Nat->Prop)(S:F ac)(nx az:Nat)(w:World)(s:Sem Value)(a:bY):Prop:=
 ∃v B nx',a= .cu v B nx'/\∃bD bq aK,s.run C.P w= .ok (af bD v) aK/\ba bq v/\bA C bD bq B nx' az aK/\dU C nx u D S az w bD bq B aK/\nx<=nx'
def ib(K:bA C u D S nx az w):¬D nx:=λe=>zu (K.lt nx e)
def Es(cp:az<=w.heap.size)(A:Obj):Below az w (w.drew.alloc A):=(Below.drew (Below.refl az w)).trans (Below.alloc (Below.refl az w.drew) cp A)
def tG(K:bA C u D S nx az w){pl:fS}(cp:az<=w.heap.size)(A:Obj)(a:∀x,x≠nx->¬D x->H C B x=H C S x):dU C nx u D S az w (cZ u nx pl) (add D nx) B (w.drew.alloc A):=
 ⟨hU (ib K),λ_ e=> .inl e,λx e=>e.elim .inl (λe=> .inr Zo),λx b ap=>a x Zo b,Es cp A⟩
def x8{h:List q}{rest:Array Value}{cap an:Nat}(g:ca D h)(d:¬D nx)(ap:h.length+rest.size=cap*an)(bW:TypeId)(b:List Nat):
 eD C (cZ u nx ⟨w.heap.size,0,cap*an⟩) (add D nx) (.cells (F.ofList h 0 .nil) h.length (.grow b)) ⟨w.heap.size,0,cap*an⟩ (w.drew.alloc (.cells ((aR u h).toArray++rest) bW)):=by
 have f:=hU (u:=u) (pl:=⟨w.heap.size,0,cap*an⟩) d
 refine⟨_,bW,0,0,jn w.drew _,⟨.inl rfl,by simp only;omega, ?_⟩, ?_,λi v a=> ?_⟩
 ·simp only[YT,Yk,eF];omega
 ·simp only[YT,Yk,eF];omega
 ·rw[fD]at a
  have dC:=mj g a
  have c:i<h.length:=(Zf.1 a).1
  refine⟨?_,gZ (λ_ e=> .inl e) v dC⟩
  rw[hF f dC,ZE,Ys (by simpa[eF]using c)]
  simp[mb,a]
def Bk(zero:Array Value)(n:Nat):(Builtin.zeroCells zero n).size=n*zero.size:=by simp[Builtin.zeroCells]
section
variable{bu:Array TypeId}{ty st d4 bW:TypeId}{i:TypeInfo}{bP:TypeDesc}{X z:Value}{n:Nat}{h:List q}
def x6(K:bA C u D S nx az w)(cp:az<=w.heap.size){s:q}{base:Option Addr}{dl fh:Nat}{aC:List q}(U0:z.cells.size=i.size)
 (p:bu[0]? =some st)(r:bu[1]? =some d4)(T7:C.P.underlying st=some (.slice bW))(TY:C.P.underlying d4=some bP)(ai:C.P.info? bW=some i)(TZ:i.zero=some z)(T9:0<i.size)(Z:i.bytes<=65536)
 (P:ky C.P w bP X i z n (aR u h).toArray)(g:ca D h)(ap:h.length=n*i.size)(m:ca D aC)(T2:aC.length=dl*i.size)(T3:¬(dl+n<=fh))(T6:af u s= .slice base dl fh)
 (T5:(Builtin.firstCells i.size dl (.slice base dl fh)).run C.P w.drew= .ok (aR u aC).toArray w.drew)(T4:dl+n<=1048576){ay:F ac}(a:List Nat)
 (t:H C ay nx=some (.cells (F.ofList (aC++h) 0 .nil) (aC++h).length (.grow a)))(v:bA C u D B nx az w)(G:∀x,x≠nx->H C ay x=H C B x\/H C ay x=none)
 (O:∀x,x≠nx->¬D x->H C ay x=H C S x)(b:∀x∈a,D x/\C.aN<=x):
 ∃bD bq aK,(Builtin.append_ bu ty #[af u s,X]).run C.P w= .ok (af bD (.cH nx 0 (dl+n) i.size)) aK/\ba bq (.cH nx 0 (dl+n) i.size)/\bA C bD bq ay (nx+1) az aK/\dU C nx u D S az w bD bq ay aK:=by
 obtain⟨cap,U1,d⟩:=w2 (ty:=ty) p r T7 TY ai TZ P T3 Z T4 T5
 have T1:(aC++h).length=(dl+n)*i.size:=by rw[ZT,T2,ap,Z7]
 have T8:(aC++h).length+(Builtin.zeroCells z.cells (cap-(dl+n))).size=cap*i.size:=by
  rw[Bk,U0,T1, <-Z7]
  congr 1;omega
 have j:(aR u aC).toArray++(aR u h).toArray=(aR u (aC++h)).toArray:=by rw[nb];simp
 rw[j]at d
 have T0:=x8 (C:=C) (u:=u) (w:=w) (mi m g) (ib K) T8 bW a
 refine⟨cZ u nx ⟨w.heap.size,0,cap*i.size⟩,add D nx,w.drew.alloc (.cells ((aR u (aC++h)).toArray++Builtin.zeroCells z.cells (cap-(dl+n))) bW), ?_, .inr rfl, ?_, ?_⟩
 ·rw[T6,d]
  simp only[af,fj,ZE,YI]
  rw[Nat.mul_div_cancel _ T9]
 ·exact v.drew.alloc K.aN (Yo _) (Ye _) (ib K) cp rfl t G T0 ⟨λc ah U2 e=>(by cases e;exact λx f=>⟨.inl (b x f).1,(b x f).2⟩),λc ah st e=>(by cases e;exact oT)⟩
 ·exact tG K cp _ O
def x5{n an:Nat}{a:bY}(e:j8 C S nx n an h=some a):n<=1048576/\a= .cu (.cH nx 0 n an) (aP C S nx (some (.cells (F.ofList h 0 .nil) h.length (.grow [])))) (nx+1):=by
 unfold j8 gp at e
 simp only[fX,dB,ce,Zu]at e
 exact⟨ep e.1,e.2.symm⟩
def F2{b A len cap an:Nat}{a:List q}(K:bA C u D S nx az w)(Y:D b)(e:fW C S b A (len*an)=some a):
 (Builtin.firstCells an len (.slice (some ⟨(u b).a8,(u b).b3+A,none⟩) len cap)).run C.P w.drew= .ok (aR u a).toArray w.drew/\ca D a:=by
 obtain⟨c,d⟩:=l8 K.drew Y e
 exact⟨by simp[Builtin.firstCells,c],d⟩
def K4{a2:Array Value}{b3 A p:Nat}{c:F q}{b h:List q}{k:Nat}(r:p=b3+A+b.length)(i:p+h.length<=a2.size)(d:ca D b)(f:ca D h)
 (g:∀E v,b[E]? =some v->a2[b3+A+E]? =some (af u v)):
 ∀E v,(b++h)[E]? =some v->(e6 a2 p (aR u h))[b3+A+E]? =some (af u v)/\ba D v:=by
 intro E v a
 rw[u4 _ _ _ _ (by rw[eF];exact i),eF]
 by_cases m:E<b.length
 ·rw[ZA m]at a
  rw[Zj Zo]
  exact⟨g E v a,mj d a⟩
 ·rw[Zy Zo]at a
  have n:E-b.length<h.length:=(Zf.1 a).1
  rw[Zv Zo,mb,show b3+A+E-p=E-b.length by omega,a]
  exact⟨rfl,mj f a⟩
section
variable{bu:Array TypeId}{ty st d4 bW:TypeId}{i:TypeInfo}{bP:TypeDesc}{X z:Value}{n:Nat}{h:List q}
def Ed(K:bA C u D S nx az w)(cp:az<=w.heap.size)(UX:z.cells.size=i.size){b A len:Nat}{UZ:bY}
 (T8:bu[0]? =some st)(T9:bu[1]? =some d4)(U0:C.P.underlying st=some (.slice bW))(U1:C.P.underlying d4=some bP)(ai:C.P.info? bW=some i)(U2:i.zero=some z)(T6:0<i.size)(UM:i.bytes<=65536)
 (TY:ky C.P w bP X i z n (aR u h).toArray)(T7:ca D h)(ap:h.length=n*i.size)(f:D b)(V5:0<n)(e:pj C S nx b A len i.size n h=some UZ):
 qE C u D S nx az w (Builtin.append_ bu ty #[af u (.cH b A len i.size),X]) UZ:=by
 unfold pj at e
 split at e
 ·rename_i c size ch T0
  simp only[ce]at e
  obtain⟨Ud,e⟩:=e
  have Y:C.aN<=b:=ep Ud
  obtain⟨a2,ck,aC,Z,aE,aW,a3,a4⟩:=K.obj b _ T0 f
  obtain⟨U6,V8,Uf⟩:=aW
  have U5:=K.base b _ Y T0 f
  have T5:=(K.ch b _ T0 f).1 _ _ _ rfl
  have UD:=(K.ch b _ T0 f).2 _ _ _ rfl
  have V6:b≠nx:=λj=>zu (K.lt b f)
  have U8:=ib K
  rw[cK]at e
  split at e
  ·
   rename_i UQ
   have UQ:A+(len+n)*i.size<=size:=ep UQ
   split at e
   ·rename_i B Uq
    simp at e;subst e
    obtain⟨aK,bc,bl,Us⟩:=ph K (bs:=nx) f T7 Uq
    have G:len+n<=((u b).room-A)/i.size:=by
     rw[Y7 T6];omega
    refine⟨_,_,_,rfl,u,D,aK, ?_,f,bl,Us,Zp _⟩
    simp only[af]
    refine qW T8 T9 U0 U1 ai U2 TY G ?_
    rw[h2,Z1]
    exact bc
   ·simp at e
  ·simp only[ce,Zq]at e
   obtain⟨⟨U9,Ul⟩,e⟩:=e
   have U9:=ep U9
   have UU:∀v∈aR u h,v.oneCell'=true:=y1 Ul
   have V2:(len+n)*i.size=len*i.size+n*i.size:=Z7 ..
   rw[cK]at e
   split at e
   ·
    rename_i UE
    simp only[Zq]at UE
    have U4:A+len*i.size=size:=Zh UE.1
    have Ub:A=0:=Zh UE.2
    subst Ub
    have U4:len*i.size=size:=Zo
    simp only[dB,gp,fX,Zu]at e
    subst e
    have UA:=K.JL Y f T0
    by_cases G:len+n<=((u b).room-0)/i.size
    ·
     have Um:(len+n)*i.size<=(u b).room:=by
      have:=(Y7 T6).1 G;omega
     have Up:=uZ C.P (u b).a8 ((u b).b3+size) ck aC Z (aR u h) 0 a2 w aE (U6.imp (λj=>zf j.symm) id) (by rw[eF];omega)
     ·have UJ:=Up UU
      have UK:∀k,k≠(u b).a8->(w.setRow (u b).a8 (e6 a2 ((u b).b3+size+0) (aR u h))).heap[k]? =w.heap[k]? :=λk UF=>setRow_other w _ k _ UF
      have UB:=setRow_heap w (u b).a8 a2 (e6 a2 ((u b).b3+size+0) (aR u h)) ck (aC,Z) aE
      have T1:=hU (u:=u) (pl:=u b) U8
      have TZ:eD C (cZ u nx (u b)) (add D nx) (.cells (cL c size h) (size+h.length) (.grow (b::ch))) (u b) (w.setRow (u b).a8 (e6 a2 ((u b).b3+size+0) (aR u h))):=by
       refine⟨_,ck,aC,Z,UB,⟨by rw[kn];exact U6,Zo,by rw[kn];exact Uf⟩,by rw[kn];omega,λE v d=> ?_⟩
       obtain⟨T2,t⟩:=Bi (u:=u) (D:=D) (c:=c) (a2:=a2) (b3:=(u b).b3) (A:=size) (n:=size+h.length) T7 Zo Zo a4 E v d
       exact⟨by rw[hF T1 t];exact T2,gZ (λ_ e=> .inl e) v t⟩
      have UI:=UA.share (nx:=nx) (aK:=w.setRow (u b).a8 (e6 a2 ((u b).b3+size+0) (aR u h))) (pl:=u b) (bJ:= .cells (cL c size h) (size+h.length) (.grow (b::ch))) U5 rfl UK TZ
       ⟨λm ah UC e=>(by
        cases e
        intro x a
        rcases Zz.1 a with rfl|a
        ·exact⟨.inl f,Y⟩
        ·exact⟨.inl (T5 x a).1,(T5 x a).2⟩),
        λm ah e7 e=>(by cases e;exact sH (Zp _) λE v d=>Z5 (UD E v d) (zh _ _))⟩
       (λx U3 a bP r=>by
        have UY:∀m ah,U3= .cells m ah .eA->ah<=size->(u x).b3=(u b).b3->eD C u D U3 (u x) (w.setRow (u b).a8 (e6 a2 ((u b).b3+size+0) (aR u h))):=by
         intro m ah j V4 V9
         subst j
         have UH:=(UA.ch x _ a bP).2 _ _ _ rfl
         obtain⟨l3,VC,VB,V1,b0,bb,b4,c1⟩:=UA.obj x _ a bP
         rw[r,aE]at b0
         cases b0
         refine⟨_,ck,aC,Z,by rw[r];exact UB,by rw[kn];exact bb,by rw[kn];exact b4,λE v d=> ?_⟩
         obtain⟨T2,t⟩:=c1 E v d
         have:=UH E v d
         refine⟨?_,t⟩
         rw[u4 _ _ _ _ (by rw[eF];omega),Zj Zo]
         exact T2
        by_cases j:x=b
        ·subst j
         rw[cr _ Y,Zv rfl]at a;cases a
         exact⟨UY c size rfl (Zp _) rfl, .inr (.inl ⟨_,_,_,_,_,rfl,rfl,Zs,Zo⟩), .inr (.inr ⟨_,_,_,_,_,rfl,rfl,Zs,Zo⟩),rfl⟩
        ·rw[cr _ Y,Zj j]at a
         obtain⟨Un,UW⟩:=K.sep b x _ U3 T0 a f bP (λJ=>j J.symm) Y r.symm
         rcases Un with ⟨_,_,_,_,J,_⟩|⟨_,_,UC,m,ah,J,rfl,T4,Ui⟩|⟨_,_,_,_,_,_,J,_⟩
         ·cases J
         ·cases J
          refine⟨UY m ah rfl Ui UW.symm, .inr (.inl ⟨_,_,_,_,_,rfl,rfl,Zi _ T4,Zo⟩), .inr (.inr ⟨_,_,_,_,_,rfl,rfl,Zi _ T4,Zo⟩),UW⟩
         ·cases J)
      refine⟨_,_,_,rfl,cZ u nx (u b),add D nx,_, ?_, .inr rfl,UI,⟨T1,λ_ e=> .inl e,λx e=>e.elim .inl (λe=> .inr Zo),λx a UH=> ?_,s8 U5 _ _⟩,Ye _⟩
      ·simp only[af,fj]
       rw[ZH]
       refine qW T8 T9 U0 U1 ai U2 TY G ?_
       rw[h2,U4]
       exact UJ
      ·have r:x≠b:=λj=>a (by rw[j];exact f)
       rw[cr _ K.aN,Zj Zo,cr _ Y,Zj r]
    ·
     have Uk:(Builtin.firstCells i.size len (.slice (some ⟨(u b).a8,(u b).b3+0,none⟩) len (((u b).room-0)/i.size))).run C.P w.drew= .ok ((a2.toList.drop (u b).b3).take size).toArray w.drew:=by
      have T3:=run_loadCells_list (P:=C.P) w.drew ⟨(u b).a8,(u b).b3+0,none⟩ ((a2.toList.drop (u b).b3).take size) (λE v d=>by
       rw[h2]
       have U7:E<size:=by
        have:=(Zf.1 d).1
        simp at this;omega
       rw[YA U7,Yz]at d
       have Ua:w.drew.heap[(u b).a8]? =some (.cells a2 ck (aC,Z)):=aE
       simp only[World.cell?,Ua]
       simpa[ZK]using d)
      have O:((a2.toList.drop (u b).b3).take size).length=size:=by simp;omega
      rw[O]at T3
      simp only[Builtin.firstCells,U4]
      exact T3
     obtain⟨cap,Uz,UV⟩:=w2 (ty:=ty) T8 T9 U0 U1 ai U2 TY G UM U9 Uk
     have O:((a2.toList.drop (u b).b3).take size).length=size:=by simp;omega
     have VA:size+h.length+(Builtin.zeroCells z.cells (cap-(len+n))).size=cap*i.size:=by
      rw[Bk,UX,ap, <-U4, <-Z7, <-Z7]
      congr 1;omega
     have T1:=hU (u:=u) (pl:=⟨w.heap.size,0,cap*i.size⟩) U8
     have TZ:eD C (cZ u nx ⟨w.heap.size,0,cap*i.size⟩) (add D nx) (.cells (cL c size h) (size+h.length) (.grow (b::ch))) ⟨w.heap.size,0,cap*i.size⟩
      (w.drew.alloc (.cells (((a2.toList.drop (u b).b3).take size).toArray++(aR u h).toArray++Builtin.zeroCells z.cells (cap-(len+n))) bW)):=by
      refine⟨_,bW,0,0,jn w.drew _,⟨.inl rfl,by simp only;omega, ?_⟩, ?_,λE v d=> ?_⟩
      ·simp only[YT,Yk,eF,O];omega
      ·simp only[YT,Yk,eF,O];omega
      ·rw[vk,F.rD]at d
       simp only[ZE]
       split at d
       ·rename_i U7
        have dC:=mj T7 d
        refine⟨?_,gZ (λ_ e=> .inl e) v dC⟩
        rw[hF T1 dC,Ys (by simp only[YT,Yk,eF,O];omega),Array.getElem?_append_right (by simp only[Yk,O];omega)]
        simp only[Yk,O,YO,mb,d,ZJ]
       ·have U7:=UD E v d
        obtain⟨T2,t⟩:=a4 E v d
        refine⟨?_,gZ (λ_ e=> .inl e) v t⟩
        rw[hF T1 t,Ys (by simp only[YT,Yk,eF,O];omega),Ys (by simp only[Yk,O];omega)]
        rw[YO,YA U7,Yz,ZK]
        exact T2
     have Uc:H C (aP C (aP C S b (some (.cells c size .eA))) nx (some (.cells (cL c size h) (size+h.length) (.grow (b::ch))))) nx=some (.cells (cL c size h) (size+h.length) (.grow (b::ch))):=by
      rw[cr _ K.aN,Zv rfl]
     refine⟨_,_,_,rfl,cZ u nx ⟨w.heap.size,0,cap*i.size⟩,add D nx,_, ?_, .inr rfl,UA.drew.alloc K.aN (Yo _) (Ye _) U8 cp rfl Uc (λx a=> .inl ?_) TZ ?_,tG K cp _ (λx a UL=> ?_),Ye _⟩
     ·simp only[af,fj,ZE,YI]
      simp only[ZH,YI]at UV ⊢
      rw[UV,Nat.mul_div_cancel _ T6]
     ·rw[cr _ K.aN,Zj a]
     ·exact⟨λm ah UC e=>(by
           cases e
           intro x a
           rcases Zz.1 a with rfl|a
           ·exact⟨.inl f,Y⟩
           ·exact⟨.inl (T5 x a).1,(T5 x a).2⟩),
       λm ah e7 e=>(by cases e;exact sH (Zp _) λE v d=>Z5 (UD E v d) (zh _ _))⟩
     ·have r:x≠b:=λj=>UL (by rw[j];exact f)
      rw[cr _ K.aN,Zj a,cr _ Y,Zj r]
   ·
    split at e
    ·rename_i g T3
     simp only[gp,fX,dB,Zu]at e
     subst e
     have UT:g.length=len*i.size:=yu T3
     have UN:cellsOf C S b=some c:=by simp[cellsOf,T0]
     have UG:∀x,x≠b->H C (aP C (fL C ch S) b none) x=if x∈ch then none else H C S x:=λx a=>by
      rw[cr _ Y,Zj a,yb _ _ _ λUx Ur=>(T5 Ux Ur).2]
     have US:H C (aP C (fL C ch S) b none) b=none:=by rw[cr _ Y,Zv rfl]
     have UP:bA C u D (aP C (fL C ch S) b none) nx az w:=K.xK λx=>by
      by_cases j:x=b
      ·subst j;exact .inr US
      ·rw[UG x j];split
       ·exact .inr rfl
       ·exact .inl rfl
     have UR:∀x,¬D x->H C (aP C (fL C ch S) b none) x=H C S x:=λx a=>by
      have r:x≠b:=λj=>a (by rw[j];exact f)
      rw[UG x r,Zj λT4=>a (T5 x T4).1]
     have Uo:H C (aP C (aP C (fL C ch S) b none) nx (some (.cells (F.ofList (g++h) 0 .nil) (g++h).length (.grow [])))) nx=some (.cells (F.ofList (g++h) 0 .nil) (g++h).length (.grow [])):=by
      rw[cr _ K.aN,Zv rfl]
     have UO:∀x,x≠nx->H C (aP C (aP C (fL C ch S) b none) nx (some (.cells (F.ofList (g++h) 0 .nil) (g++h).length (.grow [])))) x=H C (aP C (fL C ch S) b none) x:=λx a=>by
      rw[cr _ K.aN,Zj a]
     obtain⟨V0,gk⟩:=q4 K f UN T3
     by_cases G:len+n<=((u b).room-A)/i.size
     ·
      have V7:0<(len+n)*i.size:=Nat.mul_pos Zo T6
      have Um:A+(len+n)*i.size<=(u b).room:=by
       have Uy:=(Y7 T6).1 G
       omega
      have UJ:=uZ C.P (u b).a8 ((u b).b3+(A+len*i.size)) ck aC Z (aR u h) 0 a2 w aE (U6.imp (λj=>zf j.symm) id) (by rw[eF];omega) UU
      have UK:∀k,k≠(u b).a8->(w.setRow (u b).a8 (e6 a2 ((u b).b3+(A+len*i.size)+0) (aR u h))).heap[k]? =w.heap[k]? :=λk UF=>setRow_other w _ k _ UF
      have UB:=setRow_heap w (u b).a8 a2 (e6 a2 ((u b).b3+(A+len*i.size)+0) (aR u h)) ck (aC,Z) aE
      have T1:=hU (u:=u) (pl:=⟨(u b).a8,(u b).b3+A,(u b).room-A⟩) U8
      have V3:(g++h).length=(len+n)*i.size:=by rw[ZT,UT,ap,Z7]
      have TZ:eD C (cZ u nx ⟨(u b).a8,(u b).b3+A,(u b).room-A⟩) (add D nx) (.cells (F.ofList (g++h) 0 .nil) (g++h).length (.grow [])) ⟨(u b).a8,(u b).b3+A,(u b).room-A⟩ (w.setRow (u b).a8 (e6 a2 ((u b).b3+(A+len*i.size)+0) (aR u h))):=by
       refine⟨_,ck,aC,Z,UB,⟨by rw[kn];exact U6,by simp only;omega,by rw[kn];simp only;omega⟩,by rw[kn];simp only;omega,λE v d=> ?_⟩
       rw[fD]at d
       obtain⟨T2,t⟩:=K4 (u:=u) (D:=D) (a2:=a2) (b3:=(u b).b3) (A:=A) (p:=(u b).b3+(A+len*i.size)+0) (c:=c) (k:=0) Zo Zo gk T7 (λE v d=>by
        have Uh:E<len*i.size:=zu (Zf.1 d).1
        have:=(F.rC _ _ _ _ T3).2 E Uh
        rw[d]at this
        have:=(a4 _ _ this).1
        rw[<-Z1]at this
        exact this) E v d
       exact⟨by rw[hF T1 t];exact T2,gZ (λ_ e=> .inl e) v t⟩
      have UI:=UP.share (aK:=w.setRow (u b).a8 (e6 a2 ((u b).b3+(A+len*i.size)+0) (aR u h))) (pl:=⟨(u b).a8,(u b).b3+A,(u b).room-A⟩) (bJ:= .cells (F.ofList (g++h) 0 .nil) (g++h).length (.grow [])) U5 rfl UK TZ
       ⟨λm ah UC e=>(by cases e;simp),λm ah e7 e=>(by cases e;exact oT)⟩
       (λx U3 a bP r=>by
        exfalso
        by_cases j:x=b
        ·subst j;rw[US]at a;cases a
        ·rw[UG x j]at a
         split at a
         ·cases a
         ·rename_i Uj
          rcases(K.sep b x _ U3 T0 a f bP (λJ=>j J.symm) Y r.symm).1 with ⟨_,_,_,_,J,_⟩|⟨_,_,UC,m,ah,J,_,T4,_⟩|⟨_,_,_,_,_,_,J,_⟩
          ·cases J
          ·cases J;exact Uj T4
          ·cases J)
      refine⟨_,_,_,rfl,cZ u nx ⟨(u b).a8,(u b).b3+A,(u b).room-A⟩,add D nx,_, ?_, .inr rfl,UI,⟨T1,λ_ e=> .inl e,λx e=>e.elim .inl (λe=> .inr Zo),λx a UH=> ?_,s8 U5 _ _⟩,Ye _⟩
      ·simp only[af,fj,ZH,YI]
       refine qW T8 T9 U0 U1 ai U2 TY G ?_
       rw[h2,Z1]
       exact UJ
      ·rw[cr _ K.aN,Zj Zo,UR x a]
     ·have Ue:(Builtin.firstCells i.size len (.slice (some ⟨(u b).a8,(u b).b3+A,none⟩) len (((u b).room-A)/i.size))).run C.P w.drew= .ok (aR u g).toArray w.drew:=by
       obtain⟨Ug,_⟩:=q4 K.drew f UN T3
       simp[Builtin.firstCells,Ug]
      obtain⟨bD,bq,aK,Ut,Uu,Uv,Uw⟩:=x6 (ty:=ty) K cp (s:= .cH b A len i.size) (aC:=g) UX T8 T9 U0 U1 ai U2 T6 UM TY T7 ap gk UT G rfl Ue U9 []
       Uo UP (λx a=> .inl (UO x a)) (λx a UL=>by rw[UO x a,UR x UL]) Zs
      exact⟨_,_,_,rfl,bD,bq,aK,Ut,Uu,Uv,Uw,Ye _⟩
    ·simp at e
 ·simp at e
end
end
end
section
variable{C:ax}{u bD:bC}{D bq:Nat->Prop}{S B:F ac}{nx nx' az:Nat}{w aK:World}
section
variable{bu:Array TypeId}{ty st d4 bW:TypeId}{i:TypeInfo}{bP:TypeDesc}{X z:Value}{n:Nat}{h:List q}
def x7(K:bA C u D S nx az w)(cp:az<=w.heap.size){s:q}{base:Option Addr}{dl fh:Nat}{aC:List q}{b:bY}(T2:z.cells.size=i.size)
 (f:bu[0]? =some st)(g:bu[1]? =some d4)(P:C.P.underlying st=some (.slice bW))(T0:C.P.underlying d4=some bP)(ai:C.P.info? bW=some i)(T1:i.zero=some z)(Z:0<i.size)(p:i.bytes<=65536)
 (m:ky C.P w bP X i z n (aR u h).toArray)(c:ca D h)(ap:h.length=n*i.size)(d:ca D aC)(r:aC.length=dl*i.size)(t:¬(dl+n<=fh))(O:af u s= .slice base dl fh)
 (G:(Builtin.firstCells i.size dl (.slice base dl fh)).run C.P w.drew= .ok (aR u aC).toArray w.drew)(e:j8 C S nx (dl+n) i.size (aC++h)=some b):
 qE C u D S nx az w (Builtin.append_ bu ty #[af u s,X]) b:=by
 obtain⟨v,rfl⟩:=x5 e
 obtain⟨bD,bq,aK,T3,T4,T5,T6⟩:=x6 (ty:=ty) K cp (B:=S) T2 f g P T0 ai T1 Z p m c ap d r t O G v (ay:=aP C S nx (some (.cells (F.ofList (aC++h) 0 .nil) (aC++h).length (.grow [])))) []
  (by rw[cr _ K.aN,Zv rfl]) K (λx a=> .inl (by rw[cr _ K.aN,Zj a])) (λx a _=>by rw[cr _ K.aN,Zj a]) Zs
 exact⟨_,_,_,rfl,bD,bq,aK,T3,T4,T5,T6,Ye _⟩
def w0(K:bA C u D S nx az w)(cp:az<=w.heap.size)(G:z.cells.size=i.size){s:q}{P:bY}
 (d:bu[0]? =some st)(f:bu[1]? =some d4)(m:C.P.underlying st=some (.slice bW))(p:C.P.underlying d4=some bP)(ai:C.P.info? bW=some i)(r:i.zero=some z)(x:0<i.size)(t:i.bytes<=65536)
 (g:ky C.P w bP X i z n (aR u h).toArray)(c:ca D h)(ap:h.length=n*i.size)(T:ba D s)(Z:0<n)(e:kG C S nx i.size n h s=some P):
 qE C u D S nx az w (Builtin.append_ bu ty #[af u s,X]) P:=by
 unfold kG at e
 split at e
 ·refine x7 (dl:=0) (fh:=0) (aC:=[]) (base:=none) K cp G d f m p ai r x t g c ap trivial Zs Zo rfl ?_ (by simpa using e)
  simp[Builtin.firstCells,aR]
 ·rename_i b A len cap
  rw[cK]at e
  split at e
  ·rename_i a
   have a:=ep a
   split at e
   ·rename_i B T0
    simp at e;subst e
    obtain⟨aK,bc,bl,T1⟩:=ph K (bs:=nx) T c T0
    refine⟨_,_,_,rfl,u,D,aK, ?_,T,bl,T1,Zp _⟩
    simp only[af]
    refine qW d f m p ai r g a ?_
    rw[h2,Z1]
    exact bc
   ·simp at e
  ·rename_i a
   have a:¬(len+n<=cap):=λJ=>a (by simpa using J)
   split at e
   ·rename_i T2 O
    obtain⟨bc,bl⟩:=F2 (an:=i.size) (cap:=cap) K T O
    exact x7 K cp G d f m p ai r x t g c ap bl (ti O) a rfl bc e
   ·simp at e
 ·rename_i b A len T3
  simp only[ce]at e
  obtain⟨v,e⟩:=e
  have v:=Zh v
  subst v
  exact Ed K cp G d f m p ai r x t g c ap T Z e
 ·simp at e
end
def sL(C:ax)(u:bC)(D:Nat->Prop)(S:F ac)(nx az:Nat)(w:World)(s:Sem Value)(a:bY):Prop:=
 qE C u D S nx az w s a\/∃v,a= .val v/\ba D v/\s.run C.P w= .ok (af u v) w
def wQ(K:bA C u D S nx az w)(cp:az<=w.heap.size){bu:Array TypeId}{ty st d4:TypeId}{bP:TypeDesc}{s x:q}{t:bY}
 (f:bu[0]? =some st)(g:bu[1]? =some d4)(r:C.P.underlying d4=some bP)(P:bP= .string\/∃j,bP= .slice j)(T:ba D s)(O:ba D x)(e:oc C S nx st s x=some t):
 sL C u D S nx az w (Builtin.append_ bu ty #[af u s,af u x]) t:=by
 unfold oc at e
 split at e
 ·rename_i bW p
  split at e
  ·rename_i i ai
   split at e
   ·rename_i n h Z
    simp only[ce,Zq]at e
    obtain⟨⟨⟨a,c⟩,b⟩,e⟩:=e
    have a:=e0 a
    have c:=ep c
    obtain⟨z,d,T0⟩:∃z,i.zero=some z/\z.cells.size=i.size:=by
     unfold Bl at b
     split at b
     ·rename_i z d
      exact⟨z,d,Zh b⟩
     ·simp at b
    obtain⟨m,G,ap⟩:=Kx (z:=z) K O P Z
    rw[d2]at e
    split at e
    ·rename_i X
     subst X
     have:h=[]:=YB.1 (by rw[ap];simp)
     subst this
     obtain⟨v,T1,T2,T3⟩:=w1 (ty:=ty) K f g p r ai a (Ee m) T e
     exact .inr ⟨v,T1,T2,T3⟩
    ·exact .inl (w0 K cp T0 f g p r ai d a c m G ap T Zo e)
   ·simp at e
  ·simp at e
 ·simp at e
def DU(K:bA C u D S nx az w)(cp:az<=w.heap.size){bu:Array TypeId}{ty st d4:TypeId}{J:IntKind}{s x:q}{n:Nat}{P:bY}
 (p:bu[0]? =some st)(r:bu[1]? =some d4)(G:C.P.underlying d4=some (.int J))(T:ba D s)(T0:f1 x=some n)(e:qO C S nx st s n=some P):
 sL C u D S nx az w (Builtin.append_ bu ty #[af u s,af u x]) P:=by
 obtain⟨k,rfl⟩:=nD T0
 unfold qO at e
 split at e
 ·rename_i bW t
  split at e
  ·rename_i i z ai a
   simp only[ce,Zq]at e
   obtain⟨⟨⟨⟨b,c⟩,d⟩,m⟩,e⟩:=e
   have b:=e0 b
   have c:=ep c
   have m:=ep m
   have d:z.cells.length=i.size:=Zh d
   have O:i.zero=some (af u z)/\ba D z:=by
    unfold hW at a
    rw[ai]at a
    simp only at a
    split at a
    ·rename_i L Z
     obtain⟨j,g⟩:=r7 (u:=u) (D:=D) a
     exact⟨by rw[Z,j],g⟩
    ·simp at a
   rw[d2]at e
   split at e
   ·rename_i f
    subst f
    obtain⟨v,T1,T2,T3⟩:=w1 (ty:=ty) K p r t G ai b (.inr ⟨⟨J,rfl⟩,k,rfl⟩) T e
    exact .inr ⟨v,T1,T2,T3⟩
   ·rename_i f
    have X:ky C.P w (.int J) (af u (.int k (Int.ofNat n))) i (af u z) n (aR u (ew n z.cells)).toArray:=
     .inr ⟨⟨J,rfl⟩,⟨k,rfl⟩,m,c,zu (Nat.mul_pos (Nat.pos_of_ne_zero f) b),(Bj u z n).symm⟩
    exact .inl (w0 K cp (by rw[jh];simp[eF,d]) p r t G ai O.1 b c X (rH (iP O.2) n) (by rw[nT,d]) T Zo e)
  ·simp at e
 ·simp at e
end
section
variable{C:ax}{u bD:bC}{D bq:Nat->Prop}{S B:F ac}{nx nx' az:Nat}{w aK:World}
def eC(C:ax)(u:bC)(D:Nat->Prop)(S:F ac)(nx az:Nat)(w:World)(s:Sem Value)(v:q)(B:F ac)(nx':Nat):Prop:=
 ∃bD bq aK,s.run C.P w= .ok (af bD v) aK/\ba bq v/\bA C bD bq B nx' az aK/\dU C nx u D S az w bD bq B aK/\nx<=nx'
def eC.done{s:Sem Value}{v:q}(e:eC C u D S nx az w s v B nx'):lT C u D S nx az w (do pure (.value (<-s))) v B nx':=by
 obtain⟨bD,bq,aK,a,b,c,d,f⟩:=e
 exact⟨bD,bq,aK, .value (af bD v),by simp[a], .inl rfl,b,c,d,f⟩
def eC.same(K:bA C u D S nx az w){s:Sem Value}{v:q}(e:s.run C.P w= .ok (af u v) w)(g:ba D v):eC C u D S nx az w s v S nx:=
 ⟨u,D,w,e,g,K, .refl,Zp _⟩
def qh(K:bA C u D S nx az w)(cp:az<=w.heap.size){s:Sem Value}{v:q}{bJ:ac}{A:Obj}(d:s.run C.P w= .ok (af (cZ u nx ⟨w.heap.size,0,0⟩) v) (w.alloc A))(dC:ba (add D nx) v)
 (b:eD C (cZ u nx ⟨w.heap.size,0,0⟩) (add D nx) bJ ⟨w.heap.size,0,0⟩ (w.alloc A))(c:je C (add D nx) bJ):eC C u D S nx az w s v (aP C S nx (some bJ)) (nx+1):=by
 have Y:=K.aN
 refine⟨_,_,_,d,dC,K.alloc Y (Yo _) (Ye _) (ib K) cp rfl (by rw[cr _ Y,Zv rfl]) (λx a=> .inl (by rw[cr _ Y,Zj a])) b c, ?_,Ye _⟩
 exact⟨hU (ib K),λ_ e=> .inl e,λx e=>e.elim .inl (λe=> .inr Zo),λx a ap=>by rw[cr _ Y,Zj Zo],Below.alloc (Below.refl az w) cp A⟩
def qg{A:ac}{k:Nat->q}{a:bY}(e:gp C S nx A k=some a):a= .cu (k nx) (aP C S nx (some A)) (nx+1):=by
 unfold gp at e
 simp only[fX,dB,Zu]at e
 exact e.symm
def H6(K:bA C u D S nx az w){t:Nat}{m k:Operand}{ad:Operand->Value}{T2:Operand->Option q}{T0:bY}(Z:ee u D ad T2 [m,k])(e:pK C t m k S nx T2=some T0):
 ∃v B,T0= .cu v B nx/\eC C u D S nx az w (Instr.mapEntry t (ad m) (ad k)) v B nx:=by
 unfold pK at e
 split at e
 ·rename_i T8 TZ r c X T6 T4
  obtain⟨em,g⟩:=Z m Zs _ T6
  obtain⟨T3,b⟩:=Z k Zs _ T4
  rw[em,T3]
  split at e
  ·rename_i ak d s
   simp only[ce]at e
   obtain⟨P,e⟩:=e
   obtain⟨U0,O⟩:=rN P
   obtain⟨a2,aE,aW,a3,a4⟩:=iA K g s
   have G:=qQ (C:=C) (u:=u) (D:=D) (w:=w) (j:=false) 20 10000 T8 c Zd b P
   split at e
   ·rename_i i L f
    have n:=nk K O b a4 f
    obtain⟨_,j,a,rfl⟩:=rt ak 0 i L f
    simp only[YI]at a
    rw[ic,a]at e
    obtain⟨co,T9,born⟩:=j
    simp only[ce]at e
    obtain⟨T5,e⟩:=e
    obtain⟨rfl,Y⟩:=lz e
    have p:=a4 _ (Zg a)
    obtain⟨aK,bc,bl,x⟩:=nQ K (bs:=nx) Y g s (jZ:=d) (er:=ak.set i (c,T9,born)) (uv (λj=>{j with key:=af u c}) a3 a rfl) (tX a4 ⟨b,p.2⟩)
    refine⟨_,_,rfl,u,D,aK, ?_,⟨p.2,trivial,trivial⟩,bl,x,Zp _⟩
    simp[Instr.mapEntry,run_underlying X,af,aR,aE,G,a3,n,hE,tA a3 a,cG,yi p.1 b T5,bc,goInt]
   ·rename_i f
    have n:=nk K O b a4 f
    split at e
    ·rename_i z T7
     obtain⟨TY,T1⟩:=lx T7 u D w
     obtain⟨rfl,Y⟩:=lz e
     obtain⟨aK,bc,bl,x⟩:=nQ K (bs:=nx) Y g s (jZ:=d+1) (er:=ak++[(c,z,d)]) (l3:=a2.push {key:=af u c,val:=af u z,born:=d}) (by simp[a3,cG])
      (λj a=>(Zr.1 a).elim (a4 j) (λa=>by simp at a;subst a;exact⟨b,T1⟩))
     refine⟨_,_,rfl,u,D,aK, ?_,⟨T1,trivial,trivial⟩,bl,x,Zp _⟩
     simp[Instr.mapEntry,run_underlying X,af,aR,aE,G,a3,n,hE,TY,bc,goInt]
    ·simp at e
   ·simp at e
  ·simp at e
 ·simp at e
def F0{
 born:Nat}:∀(ak:List (q×q×Nat)),(ak.map (cG u)).findIdx? (λj=>((j.born:Int)==(Int.ofNat born)))=ak.findIdx? (λj=>Nat.beq j.2.2 born):=by
 intro ak
 induction ak with
 |nil=>rfl
 |cons j ak U=>
  simp only[ZS,List.findIdx?_cons,U,cG]
  have:(((j.2.2:Nat):Int)==Int.ofNat born)=Nat.beq j.2.2 born:=by
   rw[Z8,Y3]
   exact⟨λe=>by
    have:j.2.2=born:=Int.ofNat.inj e
    rw[this];exact Y2 _,λe=>by rw[Zh e];rfl⟩
  rw[this]
def Fx(K:bA C u D S nx az w){t:Nat}{m s x:Operand}{ad:Operand->Value}{n:Operand->Option q}{g:bY}(a:ee u D ad n [m,s,x])(e:pH C m s x S nx n=some g):
 ∃B aK,g= .cu undef B nx/\(Instr.entryStore t (ad m) (ad s) (ad x)).run C.P w= .ok () aK/\bA C u D B nx az aK/\dU C nx u D S az w u D B aK:=by
 unfold pH at e
 split at e
 ·rename_i r J born v X Z T0
  obtain⟨em,c⟩:=a m Zs _ X
  obtain⟨er,_⟩:=a s Zs _ Z
  obtain⟨ex,z⟩:=a x Zs _ T0
  rw[em,er,ex]
  split at e
  ·rename_i ak p f
   obtain⟨a2,aE,aW,a3,a4⟩:=iA K c f
   split at e
   ·rename_i i ai
    rw[ic]at e
    split at e
    ·rename_i k L b d
     obtain⟨rfl,Y⟩:=lz e
     have O:=a4 _ (Zg d)
     obtain⟨aK,bc,bl,T1⟩:=nQ K (bs:=nx) Y c f (jZ:=p) (er:=ak.set i (k,v,b)) (uv (λj=>{j with val:=af u v}) a3 d rfl) (tX a4 ⟨O.1,z⟩)
     refine⟨_,aK,rfl, ?_,bl,T1⟩
     have P:a2.findIdx? (λj=>((j.born:Int)==(born:Int)))=some i:=by
      have G:a2=(ak.map (cG u)).toArray:=by apply YC;simpa using a3
      rw[G,List.findIdx?_toArray, <-ai]
      exact F0 ak
     simp[Instr.entryStore,af,aE,asInt,asIntOf,P,bc]
    ·simp at e
   ·simp at e
  ·simp at e
 ·simp at e
def H9{α b:Type}(g:α->b):∀(h:List α) (i:Nat),(h.map g).eraseIdx i=(h.eraseIdx i).map g:=by
 intro h
 induction h with
 |nil=>intro i;rfl
 |cons a h U=>intro i;cases i with
  |zero=>rfl
  |succ i=>simp[U]
def E5(K:bA C u D S nx az w){t:Nat}{m k:q}{P:bY}{bu:Array TypeId}{ty:TypeId}(s:bu[0]? =some t)(d:ba D m)(c:ba D k)(e:qN C S nx t m k=some P):
 ∃v B,P= .cu v B nx/\eC C u D S nx az w (Builtin.delete_ bu ty #[af u m,af u k]) v B nx:=by
 unfold qN at e
 split at e
 ·rename_i X Z r O
  split at e
  ·rename_i ak p g
   simp only[ce]at e
   obtain⟨G,e⟩:=e
   obtain⟨T1,z⟩:=rN G
   obtain⟨a2,aE,aW,a3,a4⟩:=iA K d g
   have x:=qQ (C:=C) (u:=u) (D:=D) (w:=w) (j:=a2.isEmpty) 20 10000 X k Zd c G
   split at e
   ·rename_i i L b
    have f:=nk K z c a4 b
    obtain⟨rfl,Y⟩:=lz e
    obtain⟨_,j,a,rfl⟩:=rt ak 0 i L b
    simp only[YI]at a
    have T0:i<a2.size:=by
     have:=(Zf.1 a).1
     rw[<-Array.length_toList,a3,Zn];exact this
    obtain⟨aK,bc,bl,n⟩:=nQ K (bs:=nx) Y d g (jZ:=p) (er:=ak.eraseIdx i) (l3:=a2.eraseIdxIfInBounds i) (by rw[Array.toList_eraseIdxIfInBounds,a3,H9])
     (λj a=>a4 j (List.mem_of_mem_eraseIdx a))
    refine⟨_,_,rfl,u,D,aK, ?_,trivial,bl,n,Zp _⟩
    simp[Builtin.delete_,s,run_underlying O,af,aR,aE,x,a3,f,hE,bc]
   ·rename_i b
    have f:=nk K z c a4 b
    obtain⟨rfl,Y⟩:=lz e
    obtain⟨aK,bc,bl,n⟩:=nQ K (bs:=nx) Y d g (jZ:=p) (er:=ak) a3 a4
    refine⟨_,_,rfl,u,D,aK, ?_,trivial,bl,n,Zp _⟩
    simp[Builtin.delete_,s,run_underlying O,af,aR,aE,x,a3,f,hE,bc]
   ·simp at e
  ·simp at e
 ·simp at e
def H4(K:bA C u D S nx az w)(cp:az<=w.heap.size){t:Nat}{h c:Operand}{ad:Operand->Value}{T4:Operand->Option q}{T1:bY}(T0:ee u D ad T4 [h,c])(e:pJ C t h c S nx T4=some T1):
 ∃v B nx',T1= .cu v B nx'/\eC C u D S nx az w (Instr.makeSlice t (ad h) (ad c)) v B nx':=by
 unfold pJ at e
 split at e
 ·rename_i bW U3 U2 Z ap T7
  obtain⟨T6,_⟩:=T0 h Zs _ ap
  obtain⟨T5,_⟩:=T0 c Zs _ T7
  rw[T6,T5]
  split at e
  ·rename_i r a i z T9 T8 ai TZ
   obtain⟨U4,rfl⟩:=nD T9
   obtain⟨U5,rfl⟩:=nD T8
   simp only[ce,Zq]at e
   obtain⟨⟨⟨⟨⟨s,d⟩,p⟩,x⟩,b⟩,e⟩:=e
   have s:=ep s
   have d:=ep d
   have p:=ep p
   have x:=e0 x
   have b:z.cells.length=i.size:=Zh b
   have:=qg e;subst this
   obtain⟨U0,U1⟩:=lx TZ u D w
   refine⟨_,_,_,rfl,qh K cp (A:= .cells (aR u (ew a z.cells)).toArray bW) ?_ (.inr rfl) ?_ ⟨λ_ _ _ e=>(by cases e),λ_ _ _ e=>(by cases e;rw[<-b, <-nT];exact oT)⟩⟩
   ·have T2:=wrap_small (n:=r) Zo
    have T3:=wrap_small d
    have G:¬((281474976710656:Int)<(i.bytes:Int)*(a:Int)):=by
     rw[Int.mul_comm];exact td d p
    have O:¬((a:Int)<0):=Zo
    have P:¬((r:Int)<0):=Zo
    have X:¬((a:Int)<(r:Int)):=Zo
    have f:=Ar u z.cells i.size a b (if a*i.size=0 then #[]else(af u z).cells) (λTY=>by rw[Zj TY,jh])
    by_cases m:a*i.size=0
    ·rw[Zv m]at f
     rw[<-f]
     simp[Instr.makeSlice,run_underlying Z,af,asInt,asIntOf,typeInfo,ai,T2,T3,G,O,P,X,sizeOf,m,newRow,fj]
    ·rw[Zj m]at f
     rw[<-f]
     simp[Instr.makeSlice,run_underlying Z,af,asInt,asIntOf,typeInfo,ai,T2,T3,G,O,P,X,sizeOf,m,newRow,fj,U0]
   ·have g:=rH (iP U1) a
    have:=q3 (C:=C) (u:=cZ u nx ⟨w.heap.size,0,0⟩) (D:=add D nx) (h5 (λ_ e=> .inl e) _ g) bW 0 w
    rw[kM (hU (ib K)) g,nT,b]at this
    exact this
  ·simp at e
 ·simp at e
def H2(K:bA C u D S nx az w)(cp:az<=w.heap.size){t:Nat}{r:Operand}{ad:Operand->Value}{b:Operand->Option q}{a:bY}(f:ee u D ad b [r])(e:pI C t r S nx b=some a):
 ∃v B nx',a= .cu v B nx'/\eC C u D S nx az w (Instr.makeMap t (some (ad r))) v B nx':=by
 unfold pI at e
 split at e
 ·rename_i i g J n c d
  obtain⟨j,_⟩:=f r Zs _ d
  have:=qg e;subst this
  refine⟨_,_,_,rfl,qh K cp (A:= .map #[] 0) ?_ (.inr rfl) ⟨#[],jn _ _,rfl,Zs⟩ ⟨λ_ _ _ e=>(by cases e),λ_ _ _ e=>(by cases e)⟩⟩
  simp[Instr.makeMap,run_underlying c,j,af,asInt,asIntOf,fj]
 ·simp at e
def Jw(K:bA C u D S nx az w)(cp:az<=w.heap.size){t:Nat}{x:Operand}{ad:Operand->Value}{m:Operand->Option q}{i:bY}(d:ee u D ad m [x])(e:pM C t x S nx m=some i):
 ∃v B nx',i= .cu v B nx'/\eC C u D S nx az w (Instr.range t (ad x)) v B nx':=by
 have z:=hU (u:=u) (pl:=⟨w.heap.size,0,0⟩) (ib K)
 unfold pM at e
 split at e
 ·rename_i s a c
  obtain⟨j,g⟩:=d x Zs _ c
  have:=qg e;subst this
  refine⟨_,_,_,rfl,qh K cp (A:= .stringIter (cF s) 0) ?_ (.inr rfl) ⟨rfl,jn _ _,g⟩ ⟨λ_ _ _ e=>(by cases e),λ_ _ _ e=>(by cases e)⟩⟩
  simp[Instr.range,run_underlying a,j,af,fj]
 ·rename_i G n a c
  obtain⟨j,g⟩:=d x Zs _ c
  have:=qg e;subst this
  refine⟨_,_,_,rfl,qh K cp (A:= .mapIter none 0 #[] 0) ?_ (.inr rfl) ⟨rfl,jn _ _,Zs⟩ ⟨λ_ _ _ e=>(by cases e),λ_ _ _ e=>(by cases e)⟩⟩
  simp[Instr.range,run_underlying a,j,af,fj]
 ·rename_i G n r a c
  obtain⟨j,g⟩:=d x Zs _ c
  split at e
  ·rename_i ak f p
   have:=qg e;subst this
   obtain⟨a2,aE,aW,a3,a4⟩:=iA K g p
   refine⟨_,_,_,rfl,qh K cp (A:= .mapIter (some (u r).a8) f #[] f) ?_ (.inr rfl) ⟨rfl, ?_,λb Y=>by cases Y;exact .inl g⟩ ⟨λ_ _ _ e=>(by cases e),λ_ _ _ e=>(by cases e)⟩⟩
   ·simp[Instr.range,run_underlying a,j,af,fj,aE]
   ·rw[jn];simp only[ZJ,z r g]
  ·simp at e
 ·simp at e
end
section
variable{C:ax}{u bD:bC}{D bq:Nat->Prop}{S B:F ac}{nx nx' az:Nat}{w aK:World}
def nA(n:Nat):∀h,h9 n h=h.contains n:=by
 intro h
 induction h with
 |nil=>rfl
 |cons a h U=>simp only[h9,List.contains_cons,U];congr 1;rw[Z8,Y3];exact⟨Zh,λe=>by rw[e];exact Y2 _⟩
def vf(seen:List Nat):∀ak:List (q×q×Nat),(ak.map (cG u)).filter (λj=> !seen.contains j.born)=(dK seen ak).map (cG u):=by
 intro ak
 induction ak with
 |nil=>rfl
 |cons j ak U=>
  have Y:(cG u j).born=j.2.2:=rfl
  simp only[ZS,Yp,dK, <-nA,Y]
  simp only[<-nA]at U
  cases h9 j.2.2 seen<;>simp[U]
def qx(seen:List Nat):∀(ak:List (q×q×Nat)) j,j∈dK seen ak->j∈ak:=by
 intro ak
 induction ak with
 |nil=>intro j e;simp[dK]at e
 |cons a ak U=>
  intro j e
  simp only[dK]at e
  cases b:h9 a.2.2 seen<;>simp only[b,cO,fz]at e
  ·rcases Zz.1 e with e|e
   ·simp[e]
   ·exact Zi _ (U j e)
  ·exact Zi _ (U j e)
def wZ(c:Nat):∀ak:List (q×q×Nat),l1 c ak=true->∀j∈ak,j.2.2<c:=by
 intro ak
 induction ak with
 |nil=>intro _ j e;simp at e
 |cons a ak U=>
  intro e j b
  simp only[l1,Zq]at e
  rcases Zz.1 b with rfl|b
  ·exact e0 e.1
  ·exact U e.2 j b
def s5(b:Nat):∀ak:List (q×q×Nat),kF b ak=true->∃j∈ak,j.2.2<b:=by
 intro ak
 induction ak with
 |nil=>intro e;simp[kF]at e
 |cons a ak U=>
  intro e
  simp only[kF,Yx]at e
  rcases e with e|e
  ·exact⟨a,Zs,e0 e⟩
  ·obtain⟨j,c,e⟩:=U e;exact⟨j,by simp[c],e⟩
def s7{a2:Array MapEntry}{ak:List (q×q×Nat)}(e:a2.toList=ak.map (cG u)):a2=(ak.map (cG u)).toArray:=by apply YC;simpa using e
def uy(K:bA C u D S nx az w){bs r m a g c:Nat}{seen:List Nat}{ak:List (q×q×Nat)}{ty:TypeId}(Y:C.aN<=r)(z:D r)(T0:H C S r=some (.eT (some m) a seen g))
 (TY:H C S m=some (.map ak c))(t:l1 a ak=true)(gG:kF g ak=true)(Z:dK seen ak≠[]):
 ∃j,j∈dK seen ak/\∃aK,(Instr.next (.pointer (some ⟨(u r).a8,0,none⟩)) false ty).run C.P w= .ok (.tuple #[.bool true,af u j.1,af u j.2.1]) aK/\
  bA C u D (aP C S r (some (.eT (some m) a (seen++[j.2.2]) c))) nx az aK/\dU C bs u D S az w u D (aP C S r (some (.eT (some m) a (seen++[j.2.2]) c))) aK/\ba D j.1/\ba D j.2.1:=by
 obtain⟨U3,p,s⟩:=K.obj r _ T0 z
 have T6:=s m rfl
 obtain⟨a2,aE,aW,a3,a4⟩:=iA K T6 TY
 have v:=s7 a3
 have H:(getObj (u r).a8).run C.P w= .ok (.mapIter (some (u m).a8) a seen.toArray g) w:=by simp[getObj,Sem.run,p]
 have U0:(a2.all λj=>decide (j.born>=g))=false:=by
  obtain⟨j,d,U5⟩:=s5 g ak gG
  rw[v,List.all_toArray]
  rw[List.all_eq_false]
  exact⟨cG u j,ZB.2 ⟨j,d,rfl⟩,by simp[cG];omega⟩
 have T9:(a2.filter λj=> !seen.toArray.contains j.born)=((dK seen ak).map (cG u)).toArray:=by
  rw[v,YY]
  congr 1
  rw[<-vf]
  apply List.filter_congr
  intro x _
  simp
 have U1:((dK seen ak).map (cG u)).toArray.filter (λj=>decide (j.born<a))=((dK seen ak).map (cG u)).toArray:=by
  rw[YY]
  congr 1
  rw[List.filter_eq_self]
  intro x n
  obtain⟨j,d,rfl⟩:=ZB.1 n
  simp only[Zc]
  exact wZ a ak t j (qx seen ak j d)
 have TZ:((dK seen ak).map (cG u)).toArray.filter (λj=>decide (j.born>=a))= #[]:=by
  rw[YY]
  have:((dK seen ak).map (cG u)).filter (λj=>decide (j.born>=a))=[]:=by
   rw[List.filter_eq_nil_iff]
   intro x n
   obtain⟨j,d,rfl⟩:=ZB.1 n
   have:=wZ a ak t j (qx seen ak j d)
   simp[cG];omega
  rw[this]
 have T7:((dK seen ak).map (cG u)).toArray.isEmpty=false:=by simpa using Z
 have P:0<(dK seen ak).length:=Z6.2 Z
 have key:∀(E:Nat) (i:World),E<(dK seen ak).length->i.heap=w.heap->bA C u D S nx az i->Below az w i->(choose (.mapNext (dK seen ak).length)).run C.P w= .ok E i->
  ∃j,j∈dK seen ak/\∃aK,(Instr.next (.pointer (some ⟨(u r).a8,0,none⟩)) false ty).run C.P w= .ok (.tuple #[.bool true,af u j.1,af u j.2.1]) aK/\
   bA C u D (aP C S r (some (.eT (some m) a (seen++[j.2.2]) c))) nx az aK/\dU C bs u D S az w u D (aP C S r (some (.eT (some m) a (seen++[j.2.2]) c))) aK/\ba D j.1/\ba D j.2.1:=by
  intro E i O T8 U2 T2 T5
  have d:=Ze O
  have X:(dK seen ak)[E]∈dK seen ak:=List.getElem_mem O
  have G:=a4 _ (qx seen ak _ X)
  obtain⟨aK,bc,bl,f⟩:=putObj U2 (bs:=bs) (ft:= .eT (some m) a (seen++[(dK seen ak)[E].2.2]) c) (o':= .mapIter (some (u m).a8) a (seen.toArray.push (dK seen ak)[E].2.2) c) Y z T0 ⟨Zs,Zs⟩
   (by rw[T8];exact p) Zs (λaK U4=>⟨U3,by rw[U4];simp,λb Y=>s b Y⟩) ⟨λ_ _ _ e=>(by cases e),λ_ _ _ e=>(by cases e)⟩
  refine⟨(dK seen ak)[E],X,aK, ?_,bl,⟨f.dX,f.ef,f.new,f.R,T2.trans f.below⟩,G.1,G.2⟩
  have T4:(((dK seen ak).map (cG u)).toArray++(#[]:Array MapEntry)).map some=((dK seen ak).map (λj=>some (cG u j))).toArray:=by simp
  simp only[Instr.next,Sem.run_bind,H,Result.andThen_ok,aE,U0,Bool.and_false,ZR,ZM,T9,U1,TZ,T7]
  rw[Array.empty_append,T4]
  simp only[Yk,Zn,T5,Result.andThen_ok,YO,Zw,d,ZJ]
  have T3:(cG u (dK seen ak)[E]).born=(dK seen ak)[E].2.2:=rfl
  simp only[T3,Sem.run_bind,bc,Result.andThen_ok,Sem.run_pure]
  rfl
 by_cases T1:(dK seen ak).length<=1
 ·refine key 0 w P rfl K (Below.refl _ _) ?_
  simp[Question.forced,T1]
 ·refine key ((w.tape w.drawn (.mapNext (dK seen ak).length))%(dK seen ak).length) w.drew (zt _ P) rfl K.drew (Below.drew (Below.refl _ _)) ?_
  simp[Question.forced,T1,Question.cut]
def Gf{r m d c:Nat}{seen:List Nat}:∀(h:List (q×q×Nat)) j,j∈h->(q.tuple [.bool true,j.1,j.2.1],aP C S r (some (.eT (some m) d (seen++[j.2.2]) c)))∈rz C S r m d c seen h:=by
 intro h
 induction h with
 |nil=>intro j e;simp at e
 |cons a h U=>
  intro j e
  obtain⟨k,v,b⟩:=a
  simp only[rz]
  rcases Zz.1 e with rfl|e
  ·exact Zl ..
  ·exact Zi _ (U j e)
def mY(C:ax)(u:bC)(D:Nat->Prop)(S:F ac)(nx az:Nat)(w:World)(s:Sem Value)(a:bY):Prop:=match a with
 | .val v=>eC C u D S nx az w s v S nx
 | .cu v B nx'=>eC C u D S nx az w s v B nx'
 | .fork h=>∃v B,(v,B)∈h/\eC C u D S nx az w s v B nx
 |_=>False
def EO{r:Nat}{A:Option Nat->ac}:∀(h:List (q×q×Nat)) j,j∈h->(q.tuple [.bool true,j.1,j.2.1],aP C S r (some (A (some j.2.2))))∈q5 C S r A h:=by
 intro h
 induction h with
 |nil=>intro j e;simp at e
 |cons a h U=>
  intro j e
  obtain⟨k,v,b⟩:=a
  simp only[q5]
  rcases Zz.1 e with rfl|e
  ·exact Zl ..
  ·exact Zi _ (U j e)
def EB:∀(ak:List (q×q×Nat)) (bL:List Nat),om ak bL=true->bL=ak.map (·.2.2):=by
 intro ak
 induction ak with
 |nil=>intro bL e;cases bL<;>simp[om]at e;rfl
 |cons j ak U=>
  intro bL e
  cases bL with
  |nil=>simp[om]at e
  |cons b bL=>
   simp only[om,Zq]at e
   rw[ZS, <-U bL e.2,Zh e.1]
def A6(seen:List Nat):∀ak:List (q×q×Nat),((ak.map (·.2.2)).filter λb=> !seen.contains b).length=(dK seen ak).length:=by
 intro ak
 induction ak with
 |nil=>rfl
 |cons j ak U=>
  simp only[ZS,Yp,dK, <-nA]
  simp only[<-nA]at U
  cases h9 j.2.2 seen<;>simp[U]
def FV{p J:Nat->Bool}(e:∀x,J x=true->p x=true):∀bL:List Nat,(bL.filter J).length<=(bL.filter p).length:=by
 intro bL
 induction bL with
 |nil=>simp
 |cons a bL U=>
  cases b:J a with
  |true=>simp[Yp,b,e a b];exact U
  |false=>cases c:p a<;>simp[Yp,b,c]<;>omega
def FX{p J:Nat->Bool}(e:∀x,J x=true->p x=true){b:Nat}(f:p b=true)(i:J b=false):∀bL:List Nat,b∈bL->(bL.filter J).length<(bL.filter p).length:=by
 intro bL
 induction bL with
 |nil=>intro Y;cases Y
 |cons a bL U=>
  intro Y
  by_cases j:a=b
  ·subst j
   have:=FV e bL
   simp[Yp,i,f];omega
  ·have d:b∈bL:=by
    rcases Zz.1 Y with J|J
    ·exact absurd J.symm j
    ·exact J
   have:=U d
   cases c:J a with
   |true=>simp[Yp,c,e a c];exact this
   |false=>cases g:p a<;>simp[Yp,c,g]<;>omega
def FW{seen:List Nat}{b:Nat}(bL:List Nat)(Y:b∈bL)(c:seen.contains b=false):(bL.filter λx=> !(seen++[b]).contains x).length<(bL.filter λx=> !seen.contains x).length:=by
 refine FX (p:=λx=> !seen.contains x) (J:=λx=> !(seen++[b]).contains x) (λx a=> ?_) (by rw[c];rfl) Zs bL Y
 simp at a ⊢
 exact a.1
def Lq(seen:List Nat):∀(ak:List (q×q×Nat)) j,j∈dK seen ak->seen.contains j.2.2=false:=by
 intro ak
 induction ak with
 |nil=>intro j e;simp[dK]at e
 |cons a ak U=>
  intro j e
  simp only[dK]at e
  cases b:h9 a.2.2 seen<;>simp only[b,cO,fz]at e
  ·rcases Zz.1 e with e|e
   ·rw[e, <-nA];exact b
   ·exact U j e
  ·exact U j e
def bA.At(K:bA C u D S nx az w){b:Nat}{bJ ft:ac}(Y:C.aN<=b)(d:D b)(g:H C S b=some bJ)(m:n2 bJ)(i:H C B b=some ft)(c:∀x,x≠b->H C B x=H C S x)(p:eD C u D ft (u b) w)(r:je C D ft):bA C u D B nx az w:=
 K.put Y d g i (λx a=> .inl (c x a)) (λ_ _=>rfl) (λx s f a bP n=>by rw[c x f]at a;exact K.alone Y d g m x s f a bP n) p r
def Iy(K:bA C u D S nx az w){T5:Operand}{U8:Bool}{ty:TypeId}{ad:Operand->Value}{UA:Operand->Option q}{U9:bY}(UL:ee u D ad UA [T5])(e:pL C T5 U8 S nx UA=some U9):
 mY C u D S nx az w (Instr.next (ad T5) U8 ty) U9:=by
 unfold pL at e
 split at e
 ·rename_i r O
  obtain⟨j,f⟩:=UL T5 Zs _ O
  simp only[ce]at e
  obtain⟨UD,e⟩:=e
  have Y:C.aN<=r:=ep UD
  rw[j]
  split at e
  ·rename_i s pos i
   obtain⟨d,t,X⟩:=K.obj r _ i f
   have H:(getObj (u r).a8).run C.P w= .ok (.stringIter (cF s) pos) w:=by simp[getObj,Sem.run,t]
   have U1:(cF s).size=s.length:=by simp[cF,ByteArray.size]
   rw[cK]at e
   split at e
   ·rename_i z
    have z:=e0 z
    rw[ic]at e
    split at e
    ·rename_i c U3
     simp only[ce]at e
     obtain⟨T7,e⟩:=e
     have T7:=e0 T7
     obtain⟨rfl,_⟩:=lz e
     obtain⟨aK,bc,bl,p⟩:=putObj K (bs:=nx) (ft:= .kp s (pos+1)) (o':= .stringIter (cF s) (pos+1)) Y f i ⟨Zs,Zs⟩ t Zs (λaK UK=>⟨d,UK,X⟩) ⟨λ_ _ _ e=>(by cases e),λ_ _ _ e=>(by cases e)⟩
     refine⟨u,D,aK, ?_,⟨trivial,trivial,trivial,trivial⟩,bl,p,Zp _⟩
     have Z:pos<(cF s).size:=by rw[U1];exact z
     have U2:((cF s)[pos]'Z).toNat=c:=by
      show((cF s).data[pos]).toNat=c
      have UJ:s[pos]=c:=by
       rw[Ze z]at U3
       exact Yd U3
      simp[cF,UJ];omega
     have U4:=decode_ascii (cF s) pos Z (by rw[U2];exact T7)
     rw[U2]at U4
     simp[Instr.next,af,aR,d,H,U1,z,U4,bc,goInt]
    ·simp at e
   ·rename_i z
    have z:¬pos<s.length:=λJ=>z (by simp[Nat.blt];omega)
    simp at e;subst e
    refine eC.same K ?_ ⟨trivial,trivial⟩
    simp[Instr.next,af,aR,d,H,U1,z]
  ·rename_i a seen T2 i
   obtain⟨d,t,X⟩:=K.obj r _ i f
   have H:(getObj (u r).a8).run C.P w= .ok (.mapIter none a seen.toArray T2) w:=by simp[getObj,Sem.run,t]
   simp at e;subst e
   refine eC.same K ?_ ⟨trivial,trivial⟩
   simp[Instr.next,af,aR,d,H]
  ·rename_i m a seen T2 i
   have UH:=K.obj r _ i f
   obtain⟨d,t,X⟩:=UH
   split at e
   ·rename_i ak UB P
    split at e
    ·
     rename_i G
     simp only[ce,Yx,Zu]at e
     obtain⟨T0,gG,rfl⟩:=e
     obtain⟨a2,aE,aW,a3,a4⟩:=iA K (X m rfl) P
     have T1:=s7 a3
     have H:(getObj (u r).a8).run C.P w= .ok (.mapIter (some (u m).a8) a seen.toArray T2) w:=by simp[getObj,Sem.run,t]
     have TY:(a2.filter λj=> !seen.toArray.contains j.born)= #[]:=by
      rw[T1,YY]
      have:=vf (u:=u) seen ak
      rw[G]at this
      congr 1
      rw[List.map_nil]at this
      rw[<-this]
      apply List.filter_congr
      intro x _
      simp
     have TZ:(!seen.toArray.isEmpty&& !a2.isEmpty&&a2.all λj=>decide (j.born>=T2))=false:=by
      rcases gG with (gG|gG)|gG
      ·obtain⟨j,g,Z⟩:=s5 T2 ak gG
       have:(a2.all λj=>decide (j.born>=T2))=false:=by
        rw[T1,List.all_toArray,List.all_eq_false]
        exact⟨cG u j,ZB.2 ⟨j,g,rfl⟩,by simp[cG];omega⟩
       rw[this];simp
      ·have:seen=[]:=by simpa using gG
       simp[this]
      ·have:ak=[]:=by simpa using gG
       simp[T1,this]
     refine eC.same K ?_ ⟨trivial,trivial⟩
     simp only[af,aR,d,ZE,Instr.next,Sem.run_bind,H,Result.andThen_ok,aE,TZ,ZR,ZM,TY]
     simp[Question.forced]
    ·rename_i k v b G
     simp only[ce,Zq]at e
     obtain⟨⟨T0,gG⟩,e⟩:=e
     obtain⟨rfl,_⟩:=lz e
     obtain⟨j,g,aK,bc,bl,p,T3,T4⟩:=uy K (bs:=nx) (ty:=ty) Y f i P T0 gG (by rw[G];simp)
     rw[G]at g
     have:j=(k,v,b):=by simpa using g
     subst this
     refine⟨u,D,aK, ?_,⟨trivial,T3,T4,trivial⟩,bl,p,Zp _⟩
     simp only[af,aR,d,ZE]
     exact bc
    ·rename_i h UF UP
     simp only[ce,Zq,Zu]at e
     obtain⟨⟨T0,gG⟩,rfl⟩:=e
     obtain⟨j,g,aK,bc,bl,p,T3,T4⟩:=uy K (bs:=nx) (ty:=ty) Y f i P T0 gG UF
     refine⟨_,_,Gf _ j g,u,D,aK, ?_,⟨trivial,T3,T4,trivial⟩,bl,p,Zp _⟩
     simp only[af,aR,d,ZE]
     exact bc
   ·simp at e
  ·rename_i m a n bL st UO i
   obtain⟨d,T8,seen,t,X,_⟩:=K.obj r _ i f
   split at e
   ·rename_i ak UB P
    simp only[ce,Zq]at e
    obtain⟨⟨⟨T6,U0⟩,T0,gG⟩,e⟩:=e
    have U0:=Zh U0
    subst U0
    have T6:=EB ak bL T6
    subst T6
    rw[A6]at X
    have UE:m≠r:=λj=>by rw[j,i]at P;cases P
    have UC:∀c,n2 (.jy m a n (ak.map (·.2.2)) st c):=λc=>⟨Zs,Zs⟩
    have U7:H C (aP C S r (some (.eT (some m) a seen st))) r=some (.eT (some m) a seen st):=by rw[cr _ Y,Zv rfl]
    have T9:∀x,x≠r->H C (aP C S r (some (.eT (some m) a seen st))) x=H C S x:=λx O=>by rw[cr _ Y,Zj O]
    have UI:bA C u D (aP C S r (some (.eT (some m) a seen st))) nx az w:=
     K.At Y f i (UC _) U7 T9 ⟨d,by rw[t];rfl,λb Y=>by cases Y;exact T8⟩ ⟨λ_ _ _ e=>(by cases e),λ_ _ _ e=>(by cases e)⟩
    have U5:dK seen ak=[]->eC C u D S nx az w (Instr.next (af u (.ptr r 0)) false ty) (.tuple [.bool false]) S nx:=by
     intro G
     obtain⟨a2,aE,aW,a3,a4⟩:=iA K T8 P
     have T1:=s7 a3
     have H:(getObj (u r).a8).run C.P w= .ok (.mapIter (some (u m).a8) a seen.toArray st) w:=by simp[getObj,Sem.run,t]
     have TY:(a2.filter λj=> !seen.toArray.contains j.born)= #[]:=by
      rw[T1,YY]
      have:=vf (u:=u) seen ak
      rw[G]at this
      congr 1
      rw[List.map_nil]at this
      rw[<-this]
      apply List.filter_congr
      intro x _
      simp
     have TZ:(!seen.toArray.isEmpty&& !a2.isEmpty&&a2.all λj=>decide (j.born>=st))=false:=by
      obtain⟨j,g,Z⟩:=s5 st ak gG
      have:(a2.all λj=>decide (j.born>=st))=false:=by
       rw[T1,List.all_toArray,List.all_eq_false]
       exact⟨cG u j,ZB.2 ⟨j,g,rfl⟩,by simp[cG];omega⟩
      rw[this];simp
     refine eC.same K ?_ ⟨trivial,trivial⟩
     simp only[af,aR,d,ZE,Instr.next,Sem.run_bind,H,Result.andThen_ok,aE,TZ,ZR,ZM,TY]
     simp[Question.forced]
    split at e
    ·simp at e;subst e
     exact U5 (YB.1 Zo)
    ·rename_i n
     simp at e;subst e
     by_cases G:dK seen ak=[]
     ·exact⟨_,_,Zl ..,U5 G⟩
     ·obtain⟨j,g,aK,bc,bl,p,T3,T4⟩:=uy UI (bs:=nx) (ty:=ty) Y f U7 (by rw[T9 m UE];exact P) T0 gG G
      refine⟨_,_,Zi _ (EO ak j (qx seen ak j g)),u,D,aK, ?_,⟨trivial,T3,T4,trivial⟩, ?_, ?_,Zp _⟩
      ·simp only[af,aR,d,ZE]
       exact bc
      ·have U6:H C (aP C (aP C S r (some (.eT (some m) a seen st))) r (some (.eT (some m) a (seen++[j.2.2]) st))) r=some (.eT (some m) a (seen++[j.2.2]) st):=by rw[cr _ Y,Zv rfl]
       obtain⟨UM,UN,UQ⟩:=bl.obj r _ U6 f
       refine bl.At (ft:= .jy m a n (ak.map (·.2.2)) st (some j.2.2)) Y f U6 ⟨Zs,Zs⟩ (by rw[cr _ Y,Zv rfl]) (λx O=>by rw[cr _ Y,Zj O,cr _ Y,Zj O,T9 x O]) ⟨UM,T8,seen++[j.2.2],by rw[UN];rfl, ?_,λb Y=>by cases Y;rw[uj];simp⟩ ⟨λ_ _ _ e=>(by cases e),λ_ _ _ e=>(by cases e)⟩
       have Z:=FW (seen:=seen) (b:=j.2.2) (ak.map (·.2.2)) (ZB.2 ⟨j,qx seen ak j g,rfl⟩) (Lq seen ak j g)
       rw[A6 seen]at Z
       exact Nat.le_of_lt_succ (Z5 Z X)
      ·refine⟨p.dX,p.ef,p.new,λx O ap=> ?_,p.below⟩
       have UG:x≠r:=λJ=>O (J▸f)
       rw[cr _ Y,Zj UG]
   ·simp at e
  ·simp at e
 ·simp at e
end
section
variable{C:ax}{u bD:bC}{D bq:Nat->Prop}{S B:F ac}{nx nx' az:Nat}{w aK:World}
def Gr(t:F q):∀(n A:Nat) (h:List q),h.length=n->(∀i,i<n->t.get (A+i)=h[i]?)->t.eK A n=some h:=by
 intro n
 induction n with
 |zero=>intro A h e _;cases h with
  |nil=>rfl
  |cons _ _=>simp at e
 |succ n U=>
  intro A h e c
  cases h with
  |nil=>simp at e
  |cons a h=>
   have b:=c 0 Zo
   simp at b
   have:=U (A+1) h (by simpa using e) (λi ai=>by
    have:=c (i+1) Zo
    rw[show A+1+i=A+(i+1) by omega,this];simp)
   simp[F.eK,b,this]
def xe{b A n m:Nat}{h:List q}(e:fW C S b A n=some h)(g:m<=n):fW C S b A m=some (h.take m):=by
 unfold fW at e ⊢
 split at e
 ·rename_i c f
  show F.eK _ A m=_
  obtain⟨d,a⟩:=F.rC _ _ _ _ e
  refine Gr c m A _ Zx λi ai=> ?_
  rw[a i Zo,YA ai]
 ·simp only[ce,Zu]at e
  have p:n=0:=Zh e.1
  have:m=0:=Zo
  subst this
  simp[aQ]
def xS(K:bA C u D S nx az w){x:q}{an n m:Nat}{h:List q}(c:ba D x)(e:gu C S an x=some (n,h))(f:m<=n):
 (Builtin.lenOf (af u x)).run C.P w= .ok n w/\(Builtin.firstCells an m (af u x)).run C.P w= .ok (aR u (h.take (m*an))).toArray w/\ca D (h.take (m*an)):=by
 unfold gu at e
 split at e
 ·simp at e;obtain⟨rfl,rfl⟩:=e
  simp[af,Builtin.lenOf,Builtin.firstCells,aR,ca]
 ·rename_i b A len cap
  split at e
  ·rename_i G ap
   simp at e;obtain⟨rfl,rfl⟩:=e
   obtain⟨a,d⟩:=l8 K c (xe ap (zd an f))
   refine⟨?_, ?_,d⟩<;>simp[af,Builtin.lenOf,Builtin.firstCells,a]
  ·simp at e
 ·rename_i b A len cap
  split at e
  ·rename_i G ap
   simp at e;obtain⟨rfl,rfl⟩:=e
   obtain⟨a,d⟩:=l8 K c (xe ap (zd an f))
   refine⟨?_, ?_,d⟩<;>simp[af,Builtin.lenOf,Builtin.firstCells,a]
  ·simp at e
 ·rename_i s
  simp only[ce]at e
  obtain⟨a,e⟩:=e
  have a:an=1:=Zh a
  subst a
  simp at e;obtain⟨rfl,rfl⟩:=e
  have r:(cF s).size=s.length:=by simp[cF,ByteArray.size]
  have g:∀x∈s.take m,x<256:=λx z=>c x (YS z)
  have p:(cF s).extract 0 m=cF (s.take m):=by
   apply ByteArray.ext
   rw[ByteArray.data_extract]
   apply YC
   simp[cF]
  have i:=va u (s.take m) g
  refine⟨by simp[af,Builtin.lenOf,r], ?_, ?_⟩
  ·simp only[af,Builtin.firstCells,p,Sem.run_pure]
   rw[i]
   simp[List.map_take]
  ·rw[iS]
   intro v t
   have:=YS t
   obtain⟨O,_,rfl⟩:=ZB.1 this
   trivial
 ·simp at e
def ET(K:bA C u D S nx az w){st:Nat}{d x:q}{i:bY}{bu:Array TypeId}{ty:TypeId}(p:bu[0]? =some st)(t:ba D d)(v:ba D x)(e:qM C S nx st d x=some i):
 mY C u D S nx az w (Builtin.copy_ bu ty #[af u d,af u x]) i:=by
 unfold qM at e
 split at e
 ·rename_i bW s
  split at e
  ·rename_i an r
   split at e
   ·rename_i n h O
    have P:∀(b A len cap:Nat),D b->q6 C S nx b A (min n len) (h.take (min n len*an))=some i->
     mY C u D S nx az w (Builtin.copy_ bu ty #[.slice (some ⟨(u b).a8,(u b).b3+A,none⟩) len cap,af u x]) i:=by
     intro b A len cap Y a
     obtain⟨f,c,z⟩:=xS (m:=min n len) K v O (Nat.min_le_left _ _)
     have g:Nat.min n len=min n len:=rfl
     unfold q6 at a
     rw[d2]at a
     split at a
     ·rename_i G
      simp at a;subst a
      refine eC.same K ?_ trivial
      rw[G]at c
      simp[Builtin.copy_,p,run_underlying s,f,g,G,f8 r,c,aR,storeCells,goInt,af]
     ·split at a
      ·rename_i B X
       simp at a;subst a
       obtain⟨aK,bc,bl,T0⟩:=ph K (bs:=nx) Y z X
       refine⟨u,D,aK, ?_,trivial,bl,T0,Zp _⟩
       have Z:(storeCells ⟨(u b).a8,(u b).b3+A,none⟩ (aR u (h.take (min n len*an))).toArray.toList).run C.P w= .ok () aK:=bc
       simp only[Builtin.copy_,p,YO,ZW,ZN,Sem.run_bind,run_underlying s,Result.andThen_ok,f,g,f8 r,c,Z,Sem.run_pure,goInt,af]
      ·simp at a
    split at e
    ·simp at e;subst e
     obtain⟨f,c,z⟩:=xS (m:=0) K v O (zc _)
     refine eC.same K ?_ trivial
     have g:Nat.min n 0=0:=Nat.min_zero n
     simp only[Y4,Yt]at c
     simp[Builtin.copy_,p,run_underlying s,f,g,f8 r,c,aR,goInt,af]
    ·exact P _ _ _ _ t e
    ·exact P _ _ _ _ t e
    ·simp at e
   ·simp at e
  ·simp at e
 ·simp at e
def EQ(K:bA C u D S nx az w){t:Nat}{x:q}{c:bY}{bu:Array TypeId}{ty:TypeId}(d:bu[0]? =some t)(g:ba D x)(e:qL C S nx t x=some c):
 mY C u D S nx az w (Builtin.clear_ bu ty #[af u x]) c:=by
 unfold qL at e
 split at e
 ·rename_i bW f
  split at e
  ·rename_i an z O n
   obtain⟨s,v⟩:=lx n u D w
   simp only[ce]at e
   obtain⟨G,e⟩:=e
   have i:∀(b A len cap:Nat),D b->aQ (Nat.beq len 0) (some (bY.val (.tuple []))) (match gU C S b A (ew len z.cells)with|some S=>some (.cu (.tuple []) S nx)|none=>none)=some c->
    mY C u D S nx az w (Builtin.clear_ bu ty #[.slice (some ⟨(u b).a8,(u b).b3+A,none⟩) len cap]) c:=by
    intro b A len cap Y a
    rw[d2]at a
    split at a
    ·rename_i ap
     subst ap
     simp at a;subst a
     refine eC.same K ?_ trivial
     simp[Builtin.clear_,d,run_underlying f,af,aR]
    ·rename_i ap
     obtain⟨len,rfl⟩:∃k,len=k+1:=⟨len-1,Zo⟩
     split at a
     ·rename_i B m
      simp at a;subst a
      obtain⟨aK,bc,bl,r⟩:=ph K (bs:=nx) Y (rH (iP v) _) m
      refine⟨u,D,aK, ?_,trivial,bl,r,Zp _⟩
      have p:=Bj u z (len+1)
      simp[Builtin.clear_,d,run_underlying f,af,aR,s,p,bc]
     ·simp at a
   split at e
   ·simp at e;subst e
    refine eC.same K ?_ trivial
    simp[Builtin.clear_,d,run_underlying f,af,aR]
   ·exact i _ _ _ _ g e
   ·exact i _ _ _ _ g e
   ·simp at e
  ·simp at e
 ·simp at e
def Gk(w:World)(a2:Array Value)(j:TypeId)(n:Nat):(w.alloc (.cells a2 j)).freeze ⟨w.heap.size,n,none⟩ 1=w.alloc (.cells a2 j (n,n+1)):=by
 unfold World.freeze
 rw[Zj Zd]
 show({w with heap:=(w.heap.push (.cells a2 j)).modify w.heap.size _}:World)={w with heap:=w.heap.push (.cells a2 j (n,n+1))}
 congr 1
 apply Array.ext_getElem?
 intro k
 rw[Y6,Array.getElem?_push,Array.getElem?_push]
 by_cases a:w.heap.size=k
 ·subst a;simp
 ·rw[Zj a,Zj (λj=>a j.symm),Zj (λj=>a j.symm)]
def Gj{p:Nat}{a2:Array Value}{ty:TypeId}{aC ai:Nat}(e:w.heap[p]? =some (.cells a2 ty (aC,ai)))(n:Nat):
 (w.freeze ⟨p,n,none⟩ 1).heap[p]? =some (.cells a2 ty (if aC==ai then(n,n+1)else(min aC n,max ai (n+1))))/\(∀k,k≠p->(w.freeze ⟨p,n,none⟩ 1).heap[k]? =w.heap[k]?):=by
 unfold World.freeze
 rw[Zj Zd]
 constructor
 ·simp only[Y6,ZP,e,ZJ]
 ·intro k a
  simp only[Y6]
  rw[Zj (λj=>a j.symm)]
def KY(K:bA C u D S nx az w)(cp:az<=w.heap.size){s d:Nat}{x:Operand}{ad:Operand->Value}{T7:Operand->Option q}{T6:bY}(T5:ee u D ad T7 [x])(e:pN C s d x S nx T7=some T6):
 mY C u D S nx az w (convert s d (ad x)) T6:=by
 unfold pN at e
 split at e
 ·rename_i j h m i a
  obtain⟨ex,g⟩:=T5 x Zs _ a
  split at e
  ·rename_i t
   obtain⟨UJ,rfl⟩:=x5 e
   rw[ex]
   have UC:(cF h).size=h.length:=by simp[cF,ByteArray.size]
   have UK:(cF h).data.size=h.length:=by simp[cF]
   have U2:=va u h g
   have TY:ca D (h.map λn=>q.int .u8 (Int.ofNat n)):=by
    rw[iS];intro v UE;obtain⟨UL,_,rfl⟩:=ZB.1 UE;trivial
   obtain⟨cap,UI,U3⟩:∃cap,h.length<=cap/\(choose (.appendCap h.length 0 j)).run C.P w= .ok cap w.drew:=
    ⟨h.length+(w.tape w.drawn (.appendCap h.length 0 j))%(2^63-h.length),Zo,by simp[Question.forced,Question.cut]⟩
   have UB:(h.map λn=>q.int .u8 (Int.ofNat n)).length+(Array.replicate (cap-h.length) (Value.int .u8 0)).size=cap*1:=by simp;omega
   have U4:=x8 (C:=C) (u:=u) (w:=w) (nx:=nx) TY (ib K) UB j []
   have U9:eD C (cZ u nx ⟨w.heap.size,0,cap*1⟩) (add D nx) (.cells (F.ofList (h.map λn=>q.int .u8 (Int.ofNat n)) 0 .nil) (h.map λn=>q.int .u8 (Int.ofNat n)).length (.grow [])) ⟨w.heap.size,0,cap*1⟩
    (w.drew.alloc (.cells ((aR u (h.map λn=>q.int .u8 (Int.ofNat n))).toArray++Array.replicate (cap-h.length) (Value.int .u8 0)) j (cap,cap+1))):=by
    obtain⟨a2,ty,aC,ai,b0,bb,b4,c1⟩:=U4
    have X:=jn w.drew (.cells ((aR u (h.map λn=>q.int .u8 (Int.ofNat n))).toArray++Array.replicate (cap-h.length) (Value.int .u8 0)) j)
    have UD:w.drew.heap.size=w.heap.size:=rfl
    rw[UD]at X
    rw[X]at b0
    cases b0
    refine⟨_,j,cap,cap+1,jn w.drew _,⟨.inr ?_,bb.2.1,bb.2.2⟩,b4,c1⟩
    simp[eF];omega
   refine⟨cZ u nx ⟨w.heap.size,0,cap*1⟩,add D nx,_, ?_, .inr rfl,K.drew.alloc K.aN (Yo _) (Ye _) (ib K) cp rfl (by rw[cr _ K.aN,Zv rfl]) (λx a=> .inl (by rw[cr _ K.aN,Zj a])) U9
    ⟨λ_ _ _ e=>(by cases e;simp),λ_ _ _ e=>(by cases e;exact oT)⟩,tG K cp _ (λx a _=>by rw[cr _ K.aN,Zj a]),Ye _⟩
   have UA:((aR u (h.map λn=>q.int .u8 (Int.ofNat n))).toArray++Array.replicate (cap-h.length) (Value.int .u8 0)).size=cap:=by simp[eF];omega
   have T1:=Gk w.drew ((aR u (h.map λn=>q.int .u8 (Int.ofNat n))).toArray++Array.replicate (cap-h.length) (Value.int .u8 0)) j cap
   have z:w.drew.heap.size=w.heap.size:=rfl
   rw[z]at T1
   have P:(w.drew.alloc (.cells ((aR u (h.map λn=>q.int .u8 (Int.ofNat n))).toArray++Array.replicate (cap-h.length) (Value.int .u8 0)) j)).shape? w.heap.size=some (j,cap):=by
    have:=jn w.drew (.cells ((aR u (h.map λn=>q.int .u8 (Int.ofNat n))).toArray++Array.replicate (cap-h.length) (Value.int .u8 0)) j)
    rw[z]at this
    simp only[World.shape?,this,UA]
   simp only[convert,Sem.run_bind,run_underlying m,run_underlying i,run_underlying t,Result.andThen_ok,af,Conv.stringToBytes,UC,U3,U2,newRow,run_newObj_alloc,z,Sem.run_pure,markStringish,run_shape,P,run_freeze,T1,
    fj,ZE,YI,ZV,Nat.div_one]
  ·simp at e
 ·rename_i UG j b A len cap m i a
  obtain⟨ex,g⟩:=T5 x Zs _ a
  split at e
  ·rename_i t
   simp only[ce,Zq]at e
   obtain⟨⟨O,U5⟩,e⟩:=e
   have O:s=d:=Zh O
   subst O
   have Y:C.aN<=b:=ep U5
   rw[ex]
   have fin:∀(c:F q) (n:Nat) (st:h1),H C S b=some (.cells c n st)->(st= .own\/st= .marked)->∀B,H C B b=some (.cells c n .marked)->(∀x,x≠b->H C B x=H C S x)->
    eC C u D S nx az w (convert s s (af u (.slice b A len cap))) (.slice b A len cap) B nx:=by
    intro c n st f T4 B TZ r
    obtain⟨a2,ty,aC,ai,aE,aW,a3,a4⟩:=K.obj b _ f g
    have U0:n2 (.cells c n st):=by rcases T4 with rfl|rfl<;>exact⟨Zs,Zs⟩
    have U7:aC=ai\/a2.size<=aC:=by rcases T4 with rfl|rfl;exact .inl aW;exact aW
    obtain⟨Z,T0⟩:=Gj aE a2.size
    have UH:=K.base b _ Y f g
    have U8:∃p G,(if aC==ai then(a2.size,a2.size+1)else(min aC a2.size,max ai (a2.size+1)))=(p,G)/\a2.size<=p:=by
     by_cases J:aC=ai
     ·exact⟨_,_,by rw[Zv (by simpa using J)],Zp _⟩
     ·refine⟨_,_,by rw[Zj (by simpa using J)], ?_⟩
      have:=U7.resolve_left J
      omega
    obtain⟨p,G,T8,T9⟩:=U8
    rw[T8]at Z
    refine⟨u,D,w.freeze ⟨(u b).a8,a2.size,none⟩ 1, ?_,g,K.put Y g f TZ (λx a=> .inl (r x a)) (λk T2=>T0 k T2) ?_ ⟨a2,ty,p,G,Z, .inr T9,a3,a4⟩ ⟨λ_ _ _ e=>(by cases e),λ_ _ _ e=>(by cases e;exact(K.ch b _ f g).2 _ _ _ rfl)⟩, ?_,Zp _⟩
    ·have P:w.shape? (u b).a8=some (ty,a2.size):=uY aE
     have U1:(s==s)=true:=by simp
     simp only[convert,Sem.run_bind,run_underlying m,Result.andThen_ok,af]
     rw[m]at i
     cases i
     simp only[U1,run_underlying t,Sem.run_bind,Result.andThen_ok,markStringish,run_shape,P,run_freeze,Sem.run_pure]
    ·intro x UF T3 a bP U6
     rw[r x T3]at a
     exact K.alone Y g f U0 x UF T3 a bP U6
    ·refine⟨λ_ _=>rfl,λ_ e=>e,λ_ e=> .inl e,λx a _=>r x (λj=>a (by rw[j];exact g)), ?_⟩
     refine⟨?_, ?_, ?_, ?_,λk T2=>T0 k Zo⟩<;>simp[World.freeze]
   split at e
   ·rename_i c n f
    simp only[dB,Zu]at e
    subst e
    exact fin c n .own f (.inl rfl) _ (by rw[cr _ Y,Zv rfl]) (λx a=>by rw[cr _ Y,Zj a])
   ·rename_i c n f
    simp only[Zu]at e
    subst e
    exact fin c n .marked f (.inr rfl) S f (λ_ _=>rfl)
   ·simp at e
  ·simp at e
 ·simp at e
end
def dM(C:ax)(u:bC)(D:Nat->Prop)(S:F ac)(nx az:Nat)(w:World)(s:Sem Next)(a:bY):Prop:=match a with
 | .val v=>lT C u D S nx az w s v S nx
 | .cu v B nx'=>lT C u D S nx az w s v B nx'
 | .fork h=>∃v B,(v,B)∈h/\lT C u D S nx az w s v B nx
 | .enter f args=>s.run C.P w= .ok (.enter f (aR u args).toArray) w/\ca D args
 | .known f args v=>C.dv f args=some v/\s.run C.P w=(callFunc f (aR u args).toArray).run C.P w/\ca D args
 | .round h args=>s.run C.P w=(Instr.yield (u h).a8 (aR u args).toArray).run C.P w/\ca D args/\D h
 | .defer d=>s.run C.P w= .ok (.defer (fx u d)) w/\j7 D d
 | .recover=>s.run C.P w= .ok .recover w
 | .panic v=>s.run C.P w= .halt (.panic (af u v)) w/\ba D v
section
variable{C:ax}{u bD:bC}{D bq:Nat->Prop}{S B:F ac}{nx nx' az:Nat}{w aK:World}
def dM.one{s:Sem Value}{a:bY}(e:mY C u D S nx az w s a):dM C u D S nx az w (do pure (.value (<-s))) a:=by
 cases a with
 |val v=>exact eC.done e
 |cu v B nx'=>exact eC.done e
 |fork h=>obtain⟨v,B,b,c⟩:=e;exact⟨v,B,b,c.done⟩
 |_=>exact e.elim
def dM.cu{s:Sem Value}{a:bY}(e:∃v B nx',a= .cu v B nx'/\eC C u D S nx az w s v B nx'):dM C u D S nx az w (do pure (.value (<-s))) a:=by
 obtain⟨v,B,nx',rfl,e⟩:=e
 exact e.done
def dM.app(K:bA C u D S nx az w){s:Sem Value}{c:bY}(e:sL C u D S nx az w s c):dM C u D S nx az w (do pure (.value (<-s))) c:=by
 rcases e with ⟨v,B,nx',rfl,bD,bq,aK,a,b,d,f,g⟩|⟨v,rfl,a,b⟩
 ·exact eC.done ⟨bD,bq,aK,a,b,d,f,g⟩
 ·exact eC.done (.same K b a)
def dM.unit{s:Sem Unit}{a:bY}(e:∃B aK,a= .cu undef B nx/\s.run C.P w= .ok () aK/\bA C u D B nx az aK/\dU C nx u D S az w u D B aK):
 dM C u D S nx az w (do s;pure .skip) a:=by
 obtain⟨B,aK,rfl,b,c,d⟩:=e
 exact⟨u,D,aK, .skip,by simp[b], .inr ⟨rfl,rfl⟩,by trivial,c,d,Zp _⟩
def dM.congr{s b:Sem Next}{a:bY}(e:s.run C.P w=b.run C.P w)(k:dM C u D S nx az w b a):dM C u D S nx az w s a:=by
 cases a<;>simp only[dM,lT]at k ⊢ <;>rw[e]<;>exact k
def tg(eO:kB C.P){f:Nat}{args:List q}{b:bY}(g:ca D args)(e:is C f args=some b):dM C u D S nx az w (callFunc f (aR u args).toArray) b:=by
 unfold is at e
 split at e
 ·rename_i v i
  simp at e;subst e
  exact⟨i,rfl,g⟩
 ·split at e
  ·rename_i fn a
   split at e
   ·rename_i c Y
    simp at e;subst e
    refine⟨?_,g⟩
    have d:fn.name≠ "runtime.NumGoroutine":=by simpa using eO.num f fn a (by simp[Y])
    simp[callFunc,a,d,Y]
   ·simp at e
  ·simp at e
def yf(eO:kB C.P){fn:Fn}{a args:List q}{c:bY}(d:rF D fn)(np:ca D a)(b:ca D args)(e:l0 C fn a args=some c):
 dM C u D S nx az w (invoke (.fn (f7 u fn) (aR u a).toArray) (aR u args).toArray) c:=by
 unfold l0 at e
 split at e
 ·rename_i f
  have j:invoke (.fn (f7 u (.func f)) (aR u a).toArray) (aR u args).toArray=callFunc f (aR u (args++a)).toArray:=by
   simp[invoke,f7,nb]
  rw[j]
  exact tg eO (mi b np) e
 ·rename_i h
  simp at e;subst e
  exact⟨rfl,b,d⟩
 ·simp at e
def Ih(K:bA C u D S nx az w)(eO:kB C.P){t:Nat}{v:q}{name:String}{args:List q}{r:bY}(dC:ba D v)(O:ca D args)(e:od C S t v name args=some r):
 dM C u D S nx az w (callMethod (.iface t (af u v)) name (aR u args).toArray) r:=by
 obtain⟨k,T0⟩:∃k,C.P.types.size+Made.depth=k+1:=⟨C.P.types.size+99,rfl⟩
 have go:∀(f:Nat) (x:q),ba D x->(method (k+1) t (af u v) name).run C.P w= .ok (f,af u x) w->is C f (x::args)=some r->dM C u D S nx az w (callMethod (.iface t (af u v)) name (aR u args).toArray) r:=by
  intro f x P g Z
  refine(tg (u:=u) (S:=S) (nx:=nx) (az:=az) (w:=w) eO (args:=x::args) (show ba D x/\ca D args from⟨P,O⟩) Z).congr ?_
  simp[callMethod,T0,g,aR]
 unfold od at e
 split at e
 ·rename_i i ai
  split at e
  ·rename_i m g
   simp only[ce]at e
   obtain⟨z,e⟩:=e
   have G:m.path.toList=[]:=by simpa using z
   split at e
   ·rename_i f j c n
    refine go f v dC ?_ e
    simp[method,typeInfo,ai,g,G,follow,c,receiverAt,run_underlying n,Place.get]
   ·rename_i f j c n
    split at e
    ·rename_i x p
     obtain⟨s,X⟩:=wU K dC p
     refine go f x X ?_ e
     cases v with
     |ptr b A=>
      simp only[Instr.loadAt,Instr.sureAddr,af,Sem.run_bind,Sem.run_pure,Result.andThen_ok]at s
      have T3:∀(d4:TypeId) (a:Addr) (nm:String),Builtin.ssaWrapNilChk_ #[d4] d4 #[.pointer (some a),strVal "",strVal nm]=pure (.pointer (some a)):=λ_ _ _=>rfl
      have T2:m.path= #[]:=by simpa using z
      simp[method,typeInfo,ai,g,T2,follow,c,receiverAt,run_underlying n,Place.get,af,T3,asAddr,s]
     |_=>simp[iM,br,W]at p;split at p<;>simp at p
    ·simp at e
   ·rename_i f d T1 c n
    refine go f v dC ?_ e
    cases d<;>first
     |exact(T1 _ rfl).elim
     |simp[method,typeInfo,ai,g,G,follow,c,receiverAt,run_underlying n,Place.get]
   ·simp at e
  ·simp at e
 ·simp at e
def EC(K:bA C u D S nx az w)(cp:az<=w.heap.size)(eO:kB C.P){b:Builtin}{args:Array Operand}{bu:Array TypeId}{ty:TypeId}{G:Array Bool}{ad:Operand->Value}{z:Operand->Option q}{r:bY}
 (i:ee u D ad z args.toList)(e:pG C b args bu S nx z=some r):dM C u D S nx az w (builtin b bu ty G (args.map ad)) r:=by
 have f:∀{t:Nat}{rest:List Nat},bu.toList=t::rest->bu[0]? =some t:=λa=>by rw[<-ZK,a];rfl
 have p:∀{t L:Nat}{rest:List Nat},bu.toList=t::L::rest->bu[1]? =some L:=λa=>by rw[<-ZK,a];rfl
 unfold pG at e
 split at e
 ·rename_i s x c
  obtain⟨aE,aW⟩:=iu i c
  rw[aE]
  split at e
  ·rename_i st d4 rest a
   split at e
   ·rename_i J g
    split at e
    ·rename_i n P
     exact dM.app K (DU (ty:=ty) K cp (f a) (p a) g aW.1 P e)
    ·simp at e
   ·rename_i j g
    exact dM.app K (wQ (ty:=ty) K cp (f a) (p a) g (.inr ⟨j,rfl⟩) aW.1 aW.2.1 e)
   ·rename_i g
    exact dM.app K (wQ (ty:=ty) K cp (f a) (p a) g (.inl rfl) aW.1 aW.2.1 e)
   ·simp at e
  ·simp at e
 ·rename_i d x c
  obtain⟨aE,aW⟩:=iu i c
  rw[aE]
  split at e
  ·rename_i st rest a
   exact dM.one (ET (ty:=ty) K (f a) aW.1 aW.2.1 e)
  ·simp at e
 ·rename_i c
  simp at e;subst e
  exact rfl
 ·rename_i x c
  obtain⟨aE,aW⟩:=iu i c
  rw[aE]
  split at e
  ·rename_i t rest a
   exact dM.one (EQ (ty:=ty) K (f a) aW.1 e)
  ·simp at e
 ·rename_i m k c
  obtain⟨aE,aW⟩:=iu i c
  rw[aE]
  split at e
  ·rename_i t rest a
   obtain⟨v,B,rfl,O⟩:=E5 (ty:=ty) K (f a) aW.1 aW.2.1 e
   exact eC.done O
  ·simp at e
 ·simp at e
def DV(K:bA C u D S nx az w)(cp:az<=w.heap.size)(eO:kB C.P){oper:Oper}{ad:Operand->Value}{z:Operand->Option q}{p:bY}(i:ee u D ad z oper.op.operands.toList)
 (e:ge oper.op C S nx z=some p):dM C u D S nx az w (execOp ad oper) p:=by
 obtain⟨dst,op,type,pos,after,guard⟩:=oper
 have Z:∀t m k x,ee u D ad z [m,k,x]->oF C t m k x S nx z=some p->dM C u D S nx az w (do Instr.mapUpdate t (ad m) (ad k) (ad x);pure .skip) p:=by
  intro t m k x i e
  unfold oF at e
  split at e
  ·rename_i a b c T9 Y TY
   obtain⟨T1,T4⟩:=i m Zs a T9
   obtain⟨T2,T5⟩:=i k Zs b Y
   obtain⟨T3,T6⟩:=i x Zs c TY
   obtain⟨B,aK,G,O,T7,T8⟩:=D1 K T4 T5 T6 e
   rw[T1,T2,T3]
   exact dM.unit ⟨B,aK,G,O,T7,T8⟩
  ·simp at e
 cases op<;>simp only[ge]at e<;>(try(cases e;done))<;>simp only[execOp]<;>simp only[Op.operands]at i
 case mapUpdate t m k x=>exact Z t m k x (by simpa using i) e
 case insert t m k x=>exact Z t m k x (by simpa using i) e
 case mapEntry t m k=>
  obtain⟨v,B,G,O⟩:=H6 K (by simpa using i) e
  exact dM.cu ⟨v,B,nx,G,O⟩
 case entryStore t m s x=>exact dM.unit (Fx K (by simpa using i) e)
 case makeSlice t h c=>exact dM.cu (H4 K cp (by simpa using i) e)
 case makeMap t r=>
  cases r with
  |none=>simp at e
  |some r=>exact dM.cu (H2 K cp (by simpa using i) e)
 case convert s d x=>exact dM.one (KY K cp (by simpa using i) e)
 case range t x=>exact dM.cu (Jw K cp (by simpa using i) e)
 case next U0 s=>exact dM.one (Iy K (by simpa using i) e)
 case panic x=>
  unfold tZ at e
  split at e
  ·rename_i t v n
   simp at e;subst e
   obtain⟨j,g⟩:=i x Zs _ n
   refine⟨?_,g⟩
   simp[Instr.panic,j,af]
  ·simp at e
 case defer c=>
  unfold tY at e
  split at e
  ·rename_i f args bu
   split at e
   ·rename_i fn first T0 X P has
    simp at e;subst e
    simp only[Call.operands]at i
    obtain⟨j,g⟩:=i f Zs _ P
    obtain⟨aE,aW⟩:=iu (i.mono (by simp;intro x n;exact .inr n)) has
    refine⟨?_,⟨g.1,g.2.2⟩,mi g.2.1 aW⟩
    simp[resolve,j,af,Deferred.ofValue,aE,fx,m9,nb]
   ·simp at e
  ·simp at e
 case call c=>
  unfold nq at e
  split at e
  ·rename_i f args bu
   split at e
   ·rename_i fn first T0 X P has
    simp only[Call.operands]at i
    obtain⟨j,g⟩:=i f Zs _ P
    obtain⟨aE,aW⟩:=iu (i.mono (by simp;intro x n;exact .inr n)) has
    refine(yf (u:=u) (S:=S) (nx:=nx) (az:=az) (w:=w) eO g.1 g.2.2 (mi g.2.1 aW) e).congr ?_
    simp[resolve,j,af,Deferred.ofValue,aE,nb]
   ·simp at e
  ·rename_i b args bu
   simp only[Call.operands]at i
   show dM C u D S nx az w (builtin b bu type _ (args.map ad)) p
   exact EC K cp eO (i.mono Zs) e
  ·rename_i r name args bu
   split at e
   ·rename_i t v X TZ has
    simp only[Call.operands]at i
    obtain⟨j,g⟩:=i r Zs _ TZ
    obtain⟨aE,aW⟩:=iu (i.mono (by simp;intro x n;exact .inr n)) has
    refine(Ih (v:=v) K eO g aW e).congr ?_
    simp[resolve,j,af,invoke,aE]
   ·simp at e
end
end Go.Q

