/- Part of the proof of the last text; no conditions -/
import Derived.Test.YtmipngjbcdamjaaGreatDoorYb
import Derived.Laws.RangeString
set_option maxHeartbeats 8000000
set_option linter.all false
namespace Go.S
open Go.RowKit (Below)
structure kD(P:Program):Prop where
 mixed:P.follows .mixedOrders=true
 num:∀(f:Nat) fn,P.funcs[f]? =some fn->fn.body.isSome=true->(fn.name== "runtime.NumGoroutine")=false
section
variable{C:aC}{A bF:bE}{F bu:Nat->Prop}{h E:I ae}{j ar aB:Nat}{w aM:World}
def bD.same(M:bD C A F h j aB w)(a:aM.heap=w.heap):bD C A F h j aB aM:=
 ⟨M.aP,M.lt,M.jF,λb D e d=>(M.obj b D e d).T (λ_ _=>rfl) (λ_ e=>e) (by rw[a]),M.sep,M.base,M.cj⟩
def bD.drew(M:bD C A F h j aB w):bD C A F h j aB w.drew:=M.same rfl
def bD.JI(M:bD C A F h j aB w){b:Nat}{c:I y}{n:Nat}{cj:List Nat}(ab:C.aP<=b)(v:F b)(s:J C h b=some (.cells c n (.grow cj))):
 bD C A F (aS C h b (some (.cells c n .eC))) j aB w:=by
 have G:J C (aS C h b (some (.cells c n .eC))) b=some (.cells c n .eC):=by rw[cw _ ab,Zv rfl]
 have f:∀x,x≠b->J C (aS C h b (some (.cells c n .eC))) x=J C h x:=λx a=>by rw[cw _ ab,Zj a]
 refine⟨M.aP,M.lt, ?_, ?_, ?_, ?_, ?_⟩
 ·intro x d a
  by_cases l:x=b
  ·subst l;exact M.lt x v
  ·exact M.jF x d (by rw[<-f x l,a])
 ·intro x d a bQ
  by_cases l:x=b
  ·subst l
   rw[G]at a;cases a
   obtain⟨a7,ty,aF,ak,p,r,T0,T1⟩:=M.obj x _ s v
   exact⟨a7,ty,aF,ak,p,⟨trivial,r.2⟩,T0,T1⟩
  ·exact M.obj x d (by rw[<-f x l,a]) bQ
 ·intro x m d Z a i bQ O z g P
  by_cases l:x=b
  ·subst l
   rw[G]at a;cases a
   rw[f m λL=>z L.symm]at i
   obtain⟨p,r⟩:=M.sep x m _ Z s i bQ O z g P
   refine⟨?_,r⟩
   rcases p with ⟨_,_,_,_,L,_⟩|⟨_,_,k,t,aj,L,X,au⟩|⟨_,_,_,_,_,_,L,_⟩
   ·cases L
   ·exact .inl ⟨c,n,t,aj,rfl,X⟩
   ·cases L
  ·rw[f x l]at a
   by_cases Y:m=b
   ·subst Y
    rw[G]at i;cases i
    obtain⟨p,r⟩:=M.sep x m d _ a s bQ O z g P
    refine⟨?_,r⟩
    rcases p with ⟨_,_,_,_,_,L⟩|⟨_,_,k,t,aj,_,L,au⟩|⟨t,aj,_,_,_,L,X,_⟩
    ·cases L
    ·cases L
    ·exact .inl ⟨t,aj,c,n,X,rfl⟩
   ·rw[f m Y]at i
    exact M.sep x m d Z a i bQ O z g P
 ·intro x d g a bQ
  by_cases l:x=b
  ·subst l;exact M.base x _ g s v
  ·exact M.base x d g (by rw[<-f x l,a]) bQ
 ·intro x d a bQ
  by_cases l:x=b
  ·subst l
   rw[G]at a;cases a
   have:=(M.cj x _ s v).2 _ _ _ rfl
   exact⟨λ_ _ _ e=>(by cases e),λ_ _ _ e=>(by cases e;exact this)⟩
  ·exact M.cj x d (by rw[<-f x l,a]) bQ
def bD.share(M:bD C A F h j aB w){bc:Nat}{pl:fU}{bN:ae}(cv:aB<=bc)(X:pl.bc=bc)(T6:∀o,o≠bc->aM.heap[o]? =w.heap[o]?)
 (T4:eF C (c2 A j pl) (add F j) bN pl aM)(T5:jg C (add F j) bN)
 (r:∀x a,J C h x=some a->F x->(A x).bc=bc->eF C A F a (A x) aM/\s0 bN a j x/\s0 a bN x j/\pl.b5=(A x).b5):
 bD C (c2 A j pl) (add F j) (aS C h j (some bN)) (j+1) aB aM:=by
 have ab:=M.aP
 have T3:¬F j:=λe=>zu (M.lt j e)
 have d:=hZ (A:=A) (pl:=pl) T3
 have v:J C (aS C h j (some bN)) j=some bN:=by rw[cw _ ab,Zv rfl]
 have f:∀x,x≠j->J C (aS C h j (some bN)) x=J C h x:=λx r=>by rw[cw _ ab,Zj r]
 have ao:∀x,add F j x->x≠j->F x:=λx e t=>e.resolve_right t
 refine⟨Zo, ?_, ?_, ?_, ?_, ?_, ?_⟩
 ·intro x e
  rcases e with e|e
  ·have:=M.lt x e;omega
  ·omega
 ·intro x a e
  by_cases l:x=j
  ·omega
  ·have:=M.jF x a (by rw[<-f x l,e]);omega
 ·intro x a e bQ
  by_cases l:x=j
  ·subst l;rw[v]at e;cases e;rw[fk];exact T4
  ·rw[f x l]at e
   have bQ:=ao x bQ l
   rw[d x bQ]
   by_cases L:(A x).bc=bc
   ·exact(r x a e bQ L).1.T d (λ_ e=> .inl e) rfl
   ·exact(M.obj x a e bQ).T d (λ_ e=> .inl e) (T6 _ L)
 ·intro x b a T0 p g bQ m t Y i
  by_cases l:x=j
  ·subst l
   rw[v]at p;cases p
   have z:b≠x:=λL=>t L.symm
   rw[f b z]at g
   have m:=ao b m z
   rw[fk,d b m]at i ⊢
   obtain⟨_,O,_,P⟩:=r b T0 g m (by rw[<-i,X])
   exact⟨O,P⟩
  ·rw[f x l]at p
   have s:=ao x bQ l
   by_cases G:b=j
   ·subst G
    rw[v]at g;cases g
    rw[fk,d x s]at i ⊢
    obtain⟨_,_,T2,P⟩:=r x a p s (by rw[i,X])
    exact⟨T2,P.symm⟩
   ·rw[f b G]at g
    have Z:=ao b m G
    rw[d x s,d b Z]at i ⊢
    exact M.sep x b a T0 p g s Z t Y i
 ·intro x a Y e bQ
  by_cases l:x=j
  ·subst l;rw[fk,X];exact cv
  ·rw[f x l]at e
   have bQ:=ao x bQ l
   rw[d x bQ]
   exact M.base x a Y e bQ
 ·intro x a e bQ
  by_cases l:x=j
  ·subst l;rw[v]at e;cases e;exact T5
  ·rw[f x l]at e
   have bQ:=ao x bQ l
   refine⟨λc n k au b z=> ?_,(M.cj x a e bQ).2⟩
   obtain⟨T1,O⟩:=(M.cj x a e bQ).1 c n k au b z
   exact⟨.inl T1,O⟩
def yt{c:I y}{D n:Nat}{k:List y}(e:c.eM D n=some k):k.length=n:=(I.rC _ _ _ _ e).1
def tj{b D n:Nat}{k:List y}(e:fY C h b D n=some k):k.length=n:=by
 unfold fY at e
 split at e
 ·exact yt e
 ·simp only[cg,Zu]at e
  have:n=0:=Zh e.1
  rw[<-e.2,this];rfl
def Bf(A:bE)(z:y)(n:Nat):Builtin.zeroCells (ai A z).cells n=(aU A (eA n z.cells)).toArray:=by
 rw[jj, <-Ap]
 simp[Builtin.zeroCells,eH]
def vb(A:bE)(s:List Nat)(a:∀x∈s,x<256):((cI s).data.map λb=>Value.int .u8 b.toNat)=(aU A (s.map λn=>y.int .u8 (Int.ofNat n))).toArray:=by
 apply YC
 simp only[cI,hk,YH]
 simp only[List.map_toArray,YH]
 apply Yw
 intro x c
 simp[ai,YM (a x c)]
def Kw(M:bD C A F h j aB w){x:y}{i:TypeInfo}{z:Value}{bQ:TypeDesc}{n:Nat}{k:List y}(c:bd F x)(d:bQ= .string\/∃l,bQ= .slice l)(e:gy C h i.size x=some (n,k)):
 kA C.P w bQ (ai A x) i z n (aU A k).toArray/\cd F k/\k.length=n*i.size:=by
 unfold gy at e
 split at e
 ·simp at e;obtain⟨rfl,rfl⟩:=e
  refine⟨.inl ⟨d, ?_, ?_, ?_⟩,trivial,Zs⟩<;>simp[ai,Builtin.lenOf,Builtin.firstCells,aU]
 ·rename_i b D len cap
  split at e
  ·rename_i G au
   simp at e;obtain⟨rfl,rfl⟩:=e
   obtain⟨a,f⟩:=ma M c au
   obtain⟨g,_⟩:=ma M.drew c au
   refine⟨.inl ⟨d, ?_, ?_, ?_⟩,f,tj au⟩<;>simp[ai,Builtin.lenOf,Builtin.firstCells,a,g]
  ·simp at e
 ·rename_i b D len cap
  split at e
  ·rename_i G au
   simp at e;obtain⟨rfl,rfl⟩:=e
   obtain⟨a,f⟩:=ma M c au
   obtain⟨g,_⟩:=ma M.drew c au
   refine⟨.inl ⟨d, ?_, ?_, ?_⟩,f,tj au⟩<;>simp[ai,Builtin.lenOf,Builtin.firstCells,a,g]
  ·simp at e
 ·rename_i s
  simp only[cg]at e
  obtain⟨a,e⟩:=e
  have a:i.size=1:=Zh a
  simp at e;obtain⟨rfl,rfl⟩:=e
  have r:(cI s).size=s.length:=by simp[cI,ByteArray.size]
  have p:(cI s).extract 0 s.length=cI s:=by
   rw[<-r];exact ByteArray.extract_zero_size
  have m:=vb A s c
  refine⟨.inl ⟨d, ?_, ?_, ?_⟩, ?_,by simp[a]⟩
  ·simp[ai,Builtin.lenOf,r]
  ·simp only[ai,Builtin.firstCells,p,Sem.run_pure];rw[m];simp
  ·simp only[ai,Builtin.firstCells,p,Sem.run_pure];rw[m];simp
  ·rw[iU]
   intro v t
   obtain⟨O,_,rfl⟩:=ZB.1 t
   trivial
 ·simp at e
end
section
variable{P:Program}{w aM:World}{bw:Array TypeId}{ty st d7 bZ:TypeId}{i:TypeInfo}{bQ:TypeDesc}{base:Option Addr}{dn fh n:Nat}{X z:Value}{ht new:Array Value}
def sN(P:Program)(w:World)(bQ:TypeDesc)(X:Value)(i:TypeInfo):Prop:=
 ((bQ= .string\/∃l,bQ= .slice l)/\(Builtin.lenOf X).run P w= .ok 0 w/\(Builtin.firstCells i.size 0 X).run P w= .ok #[] w)\/((∃L,bQ= .int L)/\∃o,X= .int o 0)
def s6(a:bw[0]? =some st)(b:bw[1]? =some d7)(d:P.underlying st=some (.slice bZ))(f:P.underlying d7=some bQ)(ak:P.info? bZ=some i)
 (g:sN P w bQ X i)(c:dn<=fh):(Builtin.append_ bw ty #[.slice base dn fh,X]).run P w= .ok (.slice base dn fh) w:=by
 rcases g with ⟨p,r,s⟩|⟨⟨L,rfl⟩,o,rfl⟩
 ·rcases p with rfl|⟨_,rfl⟩<;>cases base<;>simp[Builtin.append_,a,b,run_underlying d,run_underlying f,sizeOf,typeInfo,ak,r,c,s,storeCells]
 ·have n:IntKind.i64.wrap 0=0:=by decide
  have m:¬((2:Int)^48<0):=by decide
  cases base<;>simp[Builtin.append_,a,b,run_underlying d,run_underlying f,sizeOf,typeInfo,ak,asInt,asIntOf,n,m,c,storeCells]
end
section
variable{C:aC}{A bF:bE}{F bu:Nat->Prop}{h E:I ae}{j ar aB:Nat}{w aM:World}
def Eb{bQ:TypeDesc}{X z:Value}{i:TypeInfo}(e:kA C.P w bQ X i z 0 (aU A []).toArray):sN C.P w bQ X i:=by
 rcases e with ⟨a,b,c,_⟩|⟨_,_,_,_,d,_⟩
 ·exact .inl ⟨a,b,c⟩
 ·simp at d
def Gy{b D len ap n:Nat}(M:bD C A F h j aB w)(ab:F b)(e:jK C h b=some n)(a:0<ap)(au:D+len*ap<=n):len<=((A b).room-D)/ap:=by
 have:=AK M ab e
 rw[Y7 a]
 omega
def w2(M:bD C A F h j aB w){bw:Array TypeId}{ty st d7 bZ:TypeId}{i:TypeInfo}{bQ:TypeDesc}{s:y}{X:Value}{m:b1}
 (a:bw[0]? =some st)(b:bw[1]? =some d7)(f:C.P.underlying st=some (.slice bZ))(g:C.P.underlying d7=some bQ)(ak:C.P.info? bZ=some i)(r:0<i.size)
 (c:sN C.P w bQ X i)(U:bd F s)(e:ol C h i.size s=some m):∃v,m= .val v/\bd F v/\(Builtin.append_ bw ty #[ai A s,X]).run C.P w= .ok (ai A v) w:=by
 unfold ol at e
 split at e
 ·simp at e;subst e
  exact⟨_,rfl,trivial,by simp only[ai];exact s6 a b f g ak c (Zp _)⟩
 ·simp only[cg,Zu]at e
  obtain⟨au,rfl⟩:=e
  exact⟨_,rfl,U,by simp only[ai];exact s6 a b f g ak c (et au)⟩
 ·simp only[cg]at e
  obtain⟨d,e⟩:=e
  have d:=Zh d
  subst d
  split at e
  ·rename_i n p
   simp only[cg,Zu]at e
   obtain⟨au,rfl⟩:=e
   exact⟨_,rfl,U,by simp only[ai];exact s6 a b f g ak c (Gy M U p r (et au))⟩
  ·simp at e
 ·simp at e
def qG(C:aC)(A:bE)(F:Nat->Prop)(h:I ae)(j aB:Nat)(w:World)(s:Sem Value)(a:b1):Prop:=
 ∃v E ar,a= .cy v E ar/\∃bF bu aM,s.run C.P w= .ok (ai bF v) aM/\bd bu v/\bD C bF bu E ar aB aM/\dW C j A F h aB w bF bu E aM/\j<=ar
def ig(M:bD C A F h j aB w):¬F j:=λe=>zu (M.lt j e)
def Eo(cv:aB<=w.heap.size)(D:Obj):Below aB w (w.drew.alloc D):=(Below.drew (Below.refl aB w)).trans (Below.alloc (Below.refl aB w.drew) cv D)
def tH(M:bD C A F h j aB w){pl:fU}(cv:aB<=w.heap.size)(D:Obj)(a:∀x,x≠j->¬F x->J C E x=J C h x):dW C j A F h aB w (c2 A j pl) (add F j) E (w.drew.alloc D):=
 ⟨hZ (ig M),λ_ e=> .inl e,λx e=>e.elim .inl (λe=> .inr Zo),λx b au=>a x Zo b,Eo cv D⟩
def x7{k:List y}{rest:Array Value}{cap ap:Nat}(g:cd F k)(d:¬F j)(au:k.length+rest.size=cap*ap)(bZ:TypeId)(b:List Nat):
 eF C (c2 A j ⟨w.heap.size,0,cap*ap⟩) (add F j) (.cells (I.ofList k 0 .nil) k.length (.grow b)) ⟨w.heap.size,0,cap*ap⟩ (w.drew.alloc (.cells ((aU A k).toArray++rest) bZ)):=by
 have f:=hZ (A:=A) (pl:=⟨w.heap.size,0,cap*ap⟩) d
 refine⟨_,bZ,0,0,jp w.drew _,⟨.inl rfl,by simp only;omega, ?_⟩, ?_,λi v a=> ?_⟩
 ·simp only[YT,Yk,eH];omega
 ·simp only[YT,Yk,eH];omega
 ·rw[fG]at a
  have dH:=mm g a
  have c:i<k.length:=(Zf.1 a).1
  refine⟨?_,g3 (λ_ e=> .inl e) v dH⟩
  rw[hK f dH,ZE,Ys (by simpa[eH]using c)]
  simp[md,a]
def Bg(zero:Array Value)(n:Nat):(Builtin.zeroCells zero n).size=n*zero.size:=by simp[Builtin.zeroCells]
section
variable{bw:Array TypeId}{ty st d7 bZ:TypeId}{i:TypeInfo}{bQ:TypeDesc}{X z:Value}{n:Nat}{k:List y}
def x5(M:bD C A F h j aB w)(cv:aB<=w.heap.size){s:y}{base:Option Addr}{dn fh:Nat}{aF:List y}(TZ:z.cells.size=i.size)
 (p:bw[0]? =some st)(r:bw[1]? =some d7)(T6:C.P.underlying st=some (.slice bZ))(T9:C.P.underlying d7=some bQ)(ak:C.P.info? bZ=some i)(TY:i.zero=some z)(T8:0<i.size)(Y:i.bytes<=65536)
 (P:kA C.P w bQ X i z n (aU A k).toArray)(g:cd F k)(au:k.length=n*i.size)(m:cd F aF)(T1:aF.length=dn*i.size)(T2:¬(dn+n<=fh))(T5:ai A s= .slice base dn fh)
 (T4:(Builtin.firstCells i.size dn (.slice base dn fh)).run C.P w.drew= .ok (aU A aF).toArray w.drew)(T3:dn+n<=1048576){ay:I ae}(a:List Nat)
 (t:J C ay j=some (.cells (I.ofList (aF++k) 0 .nil) (aF++k).length (.grow a)))(v:bD C A F E j aB w)(G:∀x,x≠j->J C ay x=J C E x\/J C ay x=none)
 (O:∀x,x≠j->¬F x->J C ay x=J C h x)(b:∀x∈a,F x/\C.aP<=x):
 ∃bF bu aM,(Builtin.append_ bw ty #[ai A s,X]).run C.P w= .ok (ai bF (.cK j 0 (dn+n) i.size)) aM/\bd bu (.cK j 0 (dn+n) i.size)/\bD C bF bu ay (j+1) aB aM/\dW C j A F h aB w bF bu ay aM:=by
 obtain⟨cap,U0,d⟩:=w3 (ty:=ty) p r T6 T9 ak TY P T2 Y T3 T4
 have T0:(aF++k).length=(dn+n)*i.size:=by rw[ZT,T1,au,Z7]
 have T7:(aF++k).length+(Builtin.zeroCells z.cells (cap-(dn+n))).size=cap*i.size:=by
  rw[Bg,TZ,T0, <-Z7]
  congr 1;omega
 have l:(aU A aF).toArray++(aU A k).toArray=(aU A (aF++k)).toArray:=by rw[nh];simp
 rw[l]at d
 have Z:=x7 (C:=C) (A:=A) (w:=w) (ml m g) (ig M) T7 bZ a
 refine⟨c2 A j ⟨w.heap.size,0,cap*i.size⟩,add F j,w.drew.alloc (.cells ((aU A (aF++k)).toArray++Builtin.zeroCells z.cells (cap-(dn+n))) bZ), ?_, .inr rfl, ?_, ?_⟩
 ·rw[T5,d]
  simp only[ai,fk,ZE,YI]
  rw[Nat.mul_div_cancel _ T8]
 ·exact v.drew.alloc M.aP (Yo _) (Ye _) (ig M) cv rfl t G Z ⟨λc aj U1 e=>(by cases e;exact λx f=>⟨.inl (b x f).1,(b x f).2⟩),λc aj st e=>(by cases e;exact oV)⟩
 ·exact tH M cv _ O
def x4{n ap:Nat}{a:b1}(e:kb C h j n ap k=some a):n<=1048576/\a= .cy (.cK j 0 n ap) (aS C h j (some (.cells (I.ofList k 0 .nil) k.length (.grow [])))) (j+1):=by
 unfold kb gt at e
 simp only[fZ,dF,cg,Zu]at e
 exact⟨et e.1,e.2.symm⟩
def FZ{b D len cap ap:Nat}{a:List y}(M:bD C A F h j aB w)(ab:F b)(e:fY C h b D (len*ap)=some a):
 (Builtin.firstCells ap len (.slice (some ⟨(A b).bc,(A b).b5+D,none⟩) len cap)).run C.P w.drew= .ok (aU A a).toArray w.drew/\cd F a:=by
 obtain⟨c,d⟩:=ma M.drew ab e
 exact⟨by simp[Builtin.firstCells,c],d⟩
def K3{a7:Array Value}{b5 D p:Nat}{c:I y}{b k:List y}{o:Nat}(r:p=b5+D+b.length)(i:p+k.length<=a7.size)(d:cd F b)(f:cd F k)
 (g:∀H v,b[H]? =some v->a7[b5+D+H]? =some (ai A v)):
 ∀H v,(b++k)[H]? =some v->(e6 a7 p (aU A k))[b5+D+H]? =some (ai A v)/\bd F v:=by
 intro H v a
 rw[u5 _ _ _ _ (by rw[eH];exact i),eH]
 by_cases m:H<b.length
 ·rw[ZA m]at a
  rw[Zj Zo]
  exact⟨g H v a,mm d a⟩
 ·rw[Zy Zo]at a
  have n:H-b.length<k.length:=(Zf.1 a).1
  rw[Zv Zo,md,show b5+D+H-p=H-b.length by omega,a]
  exact⟨rfl,mm f a⟩
section
variable{bw:Array TypeId}{ty st d7 bZ:TypeId}{i:TypeInfo}{bQ:TypeDesc}{X z:Value}{n:Nat}{k:List y}
def Ea(M:bD C A F h j aB w)(cv:aB<=w.heap.size)(UW:z.cells.size=i.size){b D len:Nat}{UY:b1}
 (T7:bw[0]? =some st)(T8:bw[1]? =some d7)(TZ:C.P.underlying st=some (.slice bZ))(U0:C.P.underlying d7=some bQ)(ak:C.P.info? bZ=some i)(U1:i.zero=some z)(T5:0<i.size)(UL:i.bytes<=65536)
 (T9:kA C.P w bQ X i z n (aU A k).toArray)(T6:cd F k)(au:k.length=n*i.size)(f:F b)(V4:0<n)(e:pm C h j b D len i.size n k=some UY):
 qG C A F h j aB w (Builtin.append_ bw ty #[ai A (.cK b D len i.size),X]) UY:=by
 unfold pm at e
 split at e
 ·rename_i c size cj Z
  simp only[cg]at e
  obtain⟨Uc,e⟩:=e
  have ab:C.aP<=b:=et Uc
  obtain⟨a7,cm,aF,Y,aH,aZ,a3,a4⟩:=M.obj b _ Z f
  obtain⟨U5,V7,Ue⟩:=aZ
  have U4:=M.base b _ ab Z f
  have T4:=(M.cj b _ Z f).1 _ _ _ rfl
  have UC:=(M.cj b _ Z f).2 _ _ _ rfl
  have V5:b≠j:=λl=>zu (M.lt b f)
  have U7:=ig M
  rw[cN]at e
  split at e
  ·
   rename_i UP
   have UP:D+(len+n)*i.size<=size:=et UP
   split at e
   ·rename_i E Up
    simp at e;subst e
    obtain⟨aM,bf,bo,Ur⟩:=pj M (bv:=j) f T6 Up
    have G:len+n<=((A b).room-D)/i.size:=by
     rw[Y7 T5];omega
    refine⟨_,_,_,rfl,A,F,aM, ?_,f,bo,Ur,Zp _⟩
    simp only[ai]
    refine qY T7 T8 TZ U0 ak U1 T9 G ?_
    rw[h6,Z1]
    exact bf
   ·simp at e
  ·simp only[cg,Zq]at e
   obtain⟨⟨U8,Uk⟩,e⟩:=e
   have U8:=et U8
   have UT:∀v∈aU A k,v.oneCell'=true:=y0 Uk
   have V1:(len+n)*i.size=len*i.size+n*i.size:=Z7 ..
   rw[cN]at e
   split at e
   ·
    rename_i UD
    simp only[Zq]at UD
    have U3:D+len*i.size=size:=Zh UD.1
    have Ua:D=0:=Zh UD.2
    subst Ua
    have U3:len*i.size=size:=Zo
    simp only[dF,gt,fZ,Zu]at e
    subst e
    have U9:=M.JI ab f Z
    by_cases G:len+n<=((A b).room-0)/i.size
    ·
     have Ul:(len+n)*i.size<=(A b).room:=by
      have:=(Y7 T5).1 G;omega
     have Uo:=u1 C.P (A b).bc ((A b).b5+size) cm aF Y (aU A k) 0 a7 w aH (U5.imp (λl=>zf l.symm) id) (by rw[eH];omega)
     ·have UI:=Uo UT
      have UJ:∀o,o≠(A b).bc->(w.setRow (A b).bc (e6 a7 ((A b).b5+size+0) (aU A k))).heap[o]? =w.heap[o]? :=λo UE=>setRow_other w _ o _ UE
      have UA:=setRow_heap w (A b).bc a7 (e6 a7 ((A b).b5+size+0) (aU A k)) cm (aF,Y) aH
      have T0:=hZ (A:=A) (pl:=A b) U7
      have TY:eF C (c2 A j (A b)) (add F j) (.cells (cO c size k) (size+k.length) (.grow (b::cj))) (A b) (w.setRow (A b).bc (e6 a7 ((A b).b5+size+0) (aU A k))):=by
       refine⟨_,cm,aF,Y,UA,⟨by rw[kp];exact U5,Zo,by rw[kp];exact Ue⟩,by rw[kp];omega,λH v d=> ?_⟩
       obtain⟨T1,t⟩:=Be (A:=A) (F:=F) (c:=c) (a7:=a7) (b5:=(A b).b5) (D:=size) (n:=size+k.length) T6 Zo Zo a4 H v d
       exact⟨by rw[hK T0 t];exact T1,g3 (λ_ e=> .inl e) v t⟩
      have UH:=U9.share (j:=j) (aM:=w.setRow (A b).bc (e6 a7 ((A b).b5+size+0) (aU A k))) (pl:=A b) (bN:= .cells (cO c size k) (size+k.length) (.grow (b::cj))) U4 rfl UJ TY
       ⟨λm aj UB e=>(by
        cases e
        intro x a
        rcases Zz.1 a with rfl|a
        ·exact⟨.inl f,ab⟩
        ·exact⟨.inl (T4 x a).1,(T4 x a).2⟩),
        λm aj e7 e=>(by cases e;exact sI (Zp _) λH v d=>Z5 (UC H v d) (zh _ _))⟩
       (λx U2 a bQ r=>by
        have UX:∀m aj,U2= .cells m aj .eC->aj<=size->(A x).b5=(A b).b5->eF C A F U2 (A x) (w.setRow (A b).bc (e6 a7 ((A b).b5+size+0) (aU A k))):=by
         intro m aj l V3 V8
         subst l
         have UG:=(U9.cj x _ a bQ).2 _ _ _ rfl
         obtain⟨l5,VB,VA,V0,b2,be,b6,c4⟩:=U9.obj x _ a bQ
         rw[r,aH]at b2
         cases b2
         refine⟨_,cm,aF,Y,by rw[r];exact UA,by rw[kp];exact be,by rw[kp];exact b6,λH v d=> ?_⟩
         obtain⟨T1,t⟩:=c4 H v d
         have:=UG H v d
         refine⟨?_,t⟩
         rw[u5 _ _ _ _ (by rw[eH];omega),Zj Zo]
         exact T1
        by_cases l:x=b
        ·subst l
         rw[cw _ ab,Zv rfl]at a;cases a
         exact⟨UX c size rfl (Zp _) rfl, .inr (.inl ⟨_,_,_,_,_,rfl,rfl,Zs,Zo⟩), .inr (.inr ⟨_,_,_,_,_,rfl,rfl,Zs,Zo⟩),rfl⟩
        ·rw[cw _ ab,Zj l]at a
         obtain⟨Um,UV⟩:=M.sep b x _ U2 Z a f bQ (λL=>l L.symm) ab r.symm
         rcases Um with ⟨_,_,_,_,L,_⟩|⟨_,_,UB,m,aj,L,rfl,T3,Uh⟩|⟨_,_,_,_,_,_,L,_⟩
         ·cases L
         ·cases L
          refine⟨UX m aj rfl Uh UV.symm, .inr (.inl ⟨_,_,_,_,_,rfl,rfl,Zi _ T3,Zo⟩), .inr (.inr ⟨_,_,_,_,_,rfl,rfl,Zi _ T3,Zo⟩),UV⟩
         ·cases L)
      refine⟨_,_,_,rfl,c2 A j (A b),add F j,_, ?_, .inr rfl,UH,⟨T0,λ_ e=> .inl e,λx e=>e.elim .inl (λe=> .inr Zo),λx a UG=> ?_,s8 U4 _ _⟩,Ye _⟩
      ·simp only[ai,fk]
       rw[ZH]
       refine qY T7 T8 TZ U0 ak U1 T9 G ?_
       rw[h6,U3]
       exact UI
      ·have r:x≠b:=λl=>a (by rw[l];exact f)
       rw[cw _ M.aP,Zj Zo,cw _ ab,Zj r]
    ·
     have Uj:(Builtin.firstCells i.size len (.slice (some ⟨(A b).bc,(A b).b5+0,none⟩) len (((A b).room-0)/i.size))).run C.P w.drew= .ok ((a7.toList.drop (A b).b5).take size).toArray w.drew:=by
      have T2:=run_loadCells_list (P:=C.P) w.drew ⟨(A b).bc,(A b).b5+0,none⟩ ((a7.toList.drop (A b).b5).take size) (λH v d=>by
       rw[h6]
       have U6:H<size:=by
        have:=(Zf.1 d).1
        simp at this;omega
       rw[YA U6,Yz]at d
       have UZ:w.drew.heap[(A b).bc]? =some (.cells a7 cm (aF,Y)):=aH
       simp only[World.cell?,UZ]
       simpa[ZK]using d)
      have O:((a7.toList.drop (A b).b5).take size).length=size:=by simp;omega
      rw[O]at T2
      simp only[Builtin.firstCells,U3]
      exact T2
     obtain⟨cap,Uy,UU⟩:=w3 (ty:=ty) T7 T8 TZ U0 ak U1 T9 G UL U8 Uj
     have O:((a7.toList.drop (A b).b5).take size).length=size:=by simp;omega
     have V9:size+k.length+(Builtin.zeroCells z.cells (cap-(len+n))).size=cap*i.size:=by
      rw[Bg,UW,au, <-U3, <-Z7, <-Z7]
      congr 1;omega
     have T0:=hZ (A:=A) (pl:=⟨w.heap.size,0,cap*i.size⟩) U7
     have TY:eF C (c2 A j ⟨w.heap.size,0,cap*i.size⟩) (add F j) (.cells (cO c size k) (size+k.length) (.grow (b::cj))) ⟨w.heap.size,0,cap*i.size⟩
      (w.drew.alloc (.cells (((a7.toList.drop (A b).b5).take size).toArray++(aU A k).toArray++Builtin.zeroCells z.cells (cap-(len+n))) bZ)):=by
      refine⟨_,bZ,0,0,jp w.drew _,⟨.inl rfl,by simp only;omega, ?_⟩, ?_,λH v d=> ?_⟩
      ·simp only[YT,Yk,eH,O];omega
      ·simp only[YT,Yk,eH,O];omega
      ·rw[vl,I.rD]at d
       simp only[ZE]
       split at d
       ·rename_i U6
        have dH:=mm T6 d
        refine⟨?_,g3 (λ_ e=> .inl e) v dH⟩
        rw[hK T0 dH,Ys (by simp only[YT,Yk,eH,O];omega),Array.getElem?_append_right (by simp only[Yk,O];omega)]
        simp only[Yk,O,YO,md,d,ZJ]
       ·have U6:=UC H v d
        obtain⟨T1,t⟩:=a4 H v d
        refine⟨?_,g3 (λ_ e=> .inl e) v t⟩
        rw[hK T0 t,Ys (by simp only[YT,Yk,eH,O];omega),Ys (by simp only[Yk,O];omega)]
        rw[YO,YA U6,Yz,ZK]
        exact T1
     have Ub:J C (aS C (aS C h b (some (.cells c size .eC))) j (some (.cells (cO c size k) (size+k.length) (.grow (b::cj))))) j=some (.cells (cO c size k) (size+k.length) (.grow (b::cj))):=by
      rw[cw _ M.aP,Zv rfl]
     refine⟨_,_,_,rfl,c2 A j ⟨w.heap.size,0,cap*i.size⟩,add F j,_, ?_, .inr rfl,U9.drew.alloc M.aP (Yo _) (Ye _) U7 cv rfl Ub (λx a=> .inl ?_) TY ?_,tH M cv _ (λx a UK=> ?_),Ye _⟩
     ·simp only[ai,fk,ZE,YI]
      simp only[ZH,YI]at UU ⊢
      rw[UU,Nat.mul_div_cancel _ T5]
     ·rw[cw _ M.aP,Zj a]
     ·exact⟨λm aj UB e=>(by
           cases e
           intro x a
           rcases Zz.1 a with rfl|a
           ·exact⟨.inl f,ab⟩
           ·exact⟨.inl (T4 x a).1,(T4 x a).2⟩),
       λm aj e7 e=>(by cases e;exact sI (Zp _) λH v d=>Z5 (UC H v d) (zh _ _))⟩
     ·have r:x≠b:=λl=>UK (by rw[l];exact f)
      rw[cw _ M.aP,Zj a,cw _ ab,Zj r]
   ·
    split at e
    ·rename_i g T2
     simp only[gt,fZ,dF,Zu]at e
     subst e
     have US:g.length=len*i.size:=yt T2
     have UM:cellsOf C h b=some c:=by simp[cellsOf,Z]
     have UF:∀x,x≠b->J C (aS C (fN C cj h) b none) x=if x∈cj then none else J C h x:=λx a=>by
      rw[cw _ ab,Zj a,ya _ _ _ λUw Uq=>(T4 Uw Uq).2]
     have UR:J C (aS C (fN C cj h) b none) b=none:=by rw[cw _ ab,Zv rfl]
     have UO:bD C A F (aS C (fN C cj h) b none) j aB w:=M.xK λx=>by
      by_cases l:x=b
      ·subst l;exact .inr UR
      ·rw[UF x l];split
       ·exact .inr rfl
       ·exact .inl rfl
     have UQ:∀x,¬F x->J C (aS C (fN C cj h) b none) x=J C h x:=λx a=>by
      have r:x≠b:=λl=>a (by rw[l];exact f)
      rw[UF x r,Zj λT3=>a (T4 x T3).1]
     have Un:J C (aS C (aS C (fN C cj h) b none) j (some (.cells (I.ofList (g++k) 0 .nil) (g++k).length (.grow [])))) j=some (.cells (I.ofList (g++k) 0 .nil) (g++k).length (.grow [])):=by
      rw[cw _ M.aP,Zv rfl]
     have UN:∀x,x≠j->J C (aS C (aS C (fN C cj h) b none) j (some (.cells (I.ofList (g++k) 0 .nil) (g++k).length (.grow [])))) x=J C (aS C (fN C cj h) b none) x:=λx a=>by
      rw[cw _ M.aP,Zj a]
     obtain⟨Uz,gp⟩:=q5 M f UM T2
     by_cases G:len+n<=((A b).room-D)/i.size
     ·
      have V6:0<(len+n)*i.size:=Nat.mul_pos Zo T5
      have Ul:D+(len+n)*i.size<=(A b).room:=by
       have Ux:=(Y7 T5).1 G
       omega
      have UI:=u1 C.P (A b).bc ((A b).b5+(D+len*i.size)) cm aF Y (aU A k) 0 a7 w aH (U5.imp (λl=>zf l.symm) id) (by rw[eH];omega) UT
      have UJ:∀o,o≠(A b).bc->(w.setRow (A b).bc (e6 a7 ((A b).b5+(D+len*i.size)+0) (aU A k))).heap[o]? =w.heap[o]? :=λo UE=>setRow_other w _ o _ UE
      have UA:=setRow_heap w (A b).bc a7 (e6 a7 ((A b).b5+(D+len*i.size)+0) (aU A k)) cm (aF,Y) aH
      have T0:=hZ (A:=A) (pl:=⟨(A b).bc,(A b).b5+D,(A b).room-D⟩) U7
      have V2:(g++k).length=(len+n)*i.size:=by rw[ZT,US,au,Z7]
      have TY:eF C (c2 A j ⟨(A b).bc,(A b).b5+D,(A b).room-D⟩) (add F j) (.cells (I.ofList (g++k) 0 .nil) (g++k).length (.grow [])) ⟨(A b).bc,(A b).b5+D,(A b).room-D⟩ (w.setRow (A b).bc (e6 a7 ((A b).b5+(D+len*i.size)+0) (aU A k))):=by
       refine⟨_,cm,aF,Y,UA,⟨by rw[kp];exact U5,by simp only;omega,by rw[kp];simp only;omega⟩,by rw[kp];simp only;omega,λH v d=> ?_⟩
       rw[fG]at d
       obtain⟨T1,t⟩:=K3 (A:=A) (F:=F) (a7:=a7) (b5:=(A b).b5) (D:=D) (p:=(A b).b5+(D+len*i.size)+0) (c:=c) (o:=0) Zo Zo gp T6 (λH v d=>by
        have Ug:H<len*i.size:=zu (Zf.1 d).1
        have:=(I.rC _ _ _ _ T2).2 H Ug
        rw[d]at this
        have:=(a4 _ _ this).1
        rw[<-Z1]at this
        exact this) H v d
       exact⟨by rw[hK T0 t];exact T1,g3 (λ_ e=> .inl e) v t⟩
      have UH:=UO.share (aM:=w.setRow (A b).bc (e6 a7 ((A b).b5+(D+len*i.size)+0) (aU A k))) (pl:=⟨(A b).bc,(A b).b5+D,(A b).room-D⟩) (bN:= .cells (I.ofList (g++k) 0 .nil) (g++k).length (.grow [])) U4 rfl UJ TY
       ⟨λm aj UB e=>(by cases e;simp),λm aj e7 e=>(by cases e;exact oV)⟩
       (λx U2 a bQ r=>by
        exfalso
        by_cases l:x=b
        ·subst l;rw[UR]at a;cases a
        ·rw[UF x l]at a
         split at a
         ·cases a
         ·rename_i Ui
          rcases(M.sep b x _ U2 Z a f bQ (λL=>l L.symm) ab r.symm).1 with ⟨_,_,_,_,L,_⟩|⟨_,_,UB,m,aj,L,_,T3,_⟩|⟨_,_,_,_,_,_,L,_⟩
          ·cases L
          ·cases L;exact Ui T3
          ·cases L)
      refine⟨_,_,_,rfl,c2 A j ⟨(A b).bc,(A b).b5+D,(A b).room-D⟩,add F j,_, ?_, .inr rfl,UH,⟨T0,λ_ e=> .inl e,λx e=>e.elim .inl (λe=> .inr Zo),λx a UG=> ?_,s8 U4 _ _⟩,Ye _⟩
      ·simp only[ai,fk,ZH,YI]
       refine qY T7 T8 TZ U0 ak U1 T9 G ?_
       rw[h6,Z1]
       exact UI
      ·rw[cw _ M.aP,Zj Zo,UQ x a]
     ·have Ud:(Builtin.firstCells i.size len (.slice (some ⟨(A b).bc,(A b).b5+D,none⟩) len (((A b).room-D)/i.size))).run C.P w.drew= .ok (aU A g).toArray w.drew:=by
       obtain⟨Uf,_⟩:=q5 M.drew f UM T2
       simp[Builtin.firstCells,Uf]
      obtain⟨bF,bu,aM,Us,Ut,Uu,Uv⟩:=x5 (ty:=ty) M cv (s:= .cK b D len i.size) (aF:=g) UW T7 T8 TZ U0 ak U1 T5 UL T9 T6 au gp US G rfl Ud U8 []
       Un UO (λx a=> .inl (UN x a)) (λx a UK=>by rw[UN x a,UQ x UK]) Zs
      exact⟨_,_,_,rfl,bF,bu,aM,Us,Ut,Uu,Uv,Ye _⟩
    ·simp at e
 ·simp at e
end
end
end
section
variable{C:aC}{A bF:bE}{F bu:Nat->Prop}{h E:I ae}{j ar aB:Nat}{w aM:World}
section
variable{bw:Array TypeId}{ty st d7 bZ:TypeId}{i:TypeInfo}{bQ:TypeDesc}{X z:Value}{n:Nat}{k:List y}
def x6(M:bD C A F h j aB w)(cv:aB<=w.heap.size){s:y}{base:Option Addr}{dn fh:Nat}{aF:List y}{b:b1}(T1:z.cells.size=i.size)
 (f:bw[0]? =some st)(g:bw[1]? =some d7)(P:C.P.underlying st=some (.slice bZ))(Z:C.P.underlying d7=some bQ)(ak:C.P.info? bZ=some i)(T0:i.zero=some z)(Y:0<i.size)(p:i.bytes<=65536)
 (m:kA C.P w bQ X i z n (aU A k).toArray)(c:cd F k)(au:k.length=n*i.size)(d:cd F aF)(r:aF.length=dn*i.size)(t:¬(dn+n<=fh))(O:ai A s= .slice base dn fh)
 (G:(Builtin.firstCells i.size dn (.slice base dn fh)).run C.P w.drew= .ok (aU A aF).toArray w.drew)(e:kb C h j (dn+n) i.size (aF++k)=some b):
 qG C A F h j aB w (Builtin.append_ bw ty #[ai A s,X]) b:=by
 obtain⟨v,rfl⟩:=x4 e
 obtain⟨bF,bu,aM,T2,T3,T4,T5⟩:=x5 (ty:=ty) M cv (E:=h) T1 f g P Z ak T0 Y p m c au d r t O G v (ay:=aS C h j (some (.cells (I.ofList (aF++k) 0 .nil) (aF++k).length (.grow [])))) []
  (by rw[cw _ M.aP,Zv rfl]) M (λx a=> .inl (by rw[cw _ M.aP,Zj a])) (λx a _=>by rw[cw _ M.aP,Zj a]) Zs
 exact⟨_,_,_,rfl,bF,bu,aM,T2,T3,T4,T5,Ye _⟩
def w1(M:bD C A F h j aB w)(cv:aB<=w.heap.size)(G:z.cells.size=i.size){s:y}{P:b1}
 (d:bw[0]? =some st)(f:bw[1]? =some d7)(m:C.P.underlying st=some (.slice bZ))(p:C.P.underlying d7=some bQ)(ak:C.P.info? bZ=some i)(r:i.zero=some z)(x:0<i.size)(t:i.bytes<=65536)
 (g:kA C.P w bQ X i z n (aU A k).toArray)(c:cd F k)(au:k.length=n*i.size)(U:bd F s)(Y:0<n)(e:kI C h j i.size n k s=some P):
 qG C A F h j aB w (Builtin.append_ bw ty #[ai A s,X]) P:=by
 unfold kI at e
 split at e
 ·refine x6 (dn:=0) (fh:=0) (aF:=[]) (base:=none) M cv G d f m p ak r x t g c au trivial Zs Zo rfl ?_ (by simpa using e)
  simp[Builtin.firstCells,aU]
 ·rename_i b D len cap
  rw[cN]at e
  split at e
  ·rename_i a
   have a:=et a
   split at e
   ·rename_i E Z
    simp at e;subst e
    obtain⟨aM,bf,bo,T0⟩:=pj M (bv:=j) U c Z
    refine⟨_,_,_,rfl,A,F,aM, ?_,U,bo,T0,Zp _⟩
    simp only[ai]
    refine qY d f m p ak r g a ?_
    rw[h6,Z1]
    exact bf
   ·simp at e
  ·rename_i a
   have a:¬(len+n<=cap):=λL=>a (by simpa using L)
   split at e
   ·rename_i T1 O
    obtain⟨bf,bo⟩:=FZ (ap:=i.size) (cap:=cap) M U O
    exact x6 M cv G d f m p ak r x t g c au bo (tj O) a rfl bf e
   ·simp at e
 ·rename_i b D len T2
  simp only[cg]at e
  obtain⟨v,e⟩:=e
  have v:=Zh v
  subst v
  exact Ea M cv G d f m p ak r x t g c au U Y e
 ·simp at e
end
def sM(C:aC)(A:bE)(F:Nat->Prop)(h:I ae)(j aB:Nat)(w:World)(s:Sem Value)(a:b1):Prop:=
 qG C A F h j aB w s a\/∃v,a= .val v/\bd F v/\s.run C.P w= .ok (ai A v) w
def wR(M:bD C A F h j aB w)(cv:aB<=w.heap.size){bw:Array TypeId}{ty st d7:TypeId}{bQ:TypeDesc}{s x:y}{t:b1}
 (f:bw[0]? =some st)(g:bw[1]? =some d7)(r:C.P.underlying d7=some bQ)(P:bQ= .string\/∃l,bQ= .slice l)(U:bd F s)(O:bd F x)(e:og C h j st s x=some t):
 sM C A F h j aB w (Builtin.append_ bw ty #[ai A s,ai A x]) t:=by
 unfold og at e
 split at e
 ·rename_i bZ p
  split at e
  ·rename_i i ak
   split at e
   ·rename_i n k Y
    simp only[cg,Zq]at e
    obtain⟨⟨⟨a,c⟩,b⟩,e⟩:=e
    have a:=e0 a
    have c:=et c
    obtain⟨z,d,Z⟩:∃z,i.zero=some z/\z.cells.size=i.size:=by
     unfold Bh at b
     split at b
     ·rename_i z d
      exact⟨z,d,Zh b⟩
     ·simp at b
    obtain⟨m,G,au⟩:=Kw (z:=z) M O P Y
    rw[d5]at e
    split at e
    ·rename_i X
     subst X
     have:k=[]:=YB.1 (by rw[au];simp)
     subst this
     obtain⟨v,T0,T1,T2⟩:=w2 (ty:=ty) M f g p r ak a (Eb m) U e
     exact .inr ⟨v,T0,T1,T2⟩
    ·exact .inl (w1 M cv Z f g p r ak d a c m G au U Zo e)
   ·simp at e
  ·simp at e
 ·simp at e
def DQ(M:bD C A F h j aB w)(cv:aB<=w.heap.size){bw:Array TypeId}{ty st d7:TypeId}{L:IntKind}{s x:y}{n:Nat}{P:b1}
 (p:bw[0]? =some st)(r:bw[1]? =some d7)(G:C.P.underlying d7=some (.int L))(U:bd F s)(Z:f3 x=some n)(e:qQ C h j st s n=some P):
 sM C A F h j aB w (Builtin.append_ bw ty #[ai A s,ai A x]) P:=by
 obtain⟨o,rfl⟩:=nG Z
 unfold qQ at e
 split at e
 ·rename_i bZ t
  split at e
  ·rename_i i z ak a
   simp only[cg,Zq]at e
   obtain⟨⟨⟨⟨b,c⟩,d⟩,m⟩,e⟩:=e
   have b:=e0 b
   have c:=et c
   have m:=et m
   have d:z.cells.length=i.size:=Zh d
   have O:i.zero=some (ai A z)/\bd F z:=by
    unfold h1 at a
    rw[ak]at a
    simp only at a
    split at a
    ·rename_i N Y
     obtain⟨l,g⟩:=r6 (A:=A) (F:=F) a
     exact⟨by rw[Y,l],g⟩
    ·simp at a
   rw[d5]at e
   split at e
   ·rename_i f
    subst f
    obtain⟨v,T0,T1,T2⟩:=w2 (ty:=ty) M p r t G ak b (.inr ⟨⟨L,rfl⟩,o,rfl⟩) U e
    exact .inr ⟨v,T0,T1,T2⟩
   ·rename_i f
    have X:kA C.P w (.int L) (ai A (.int o (Int.ofNat n))) i (ai A z) n (aU A (eA n z.cells)).toArray:=
     .inr ⟨⟨L,rfl⟩,⟨o,rfl⟩,m,c,zu (Nat.mul_pos (Nat.pos_of_ne_zero f) b),(Bf A z n).symm⟩
    exact .inl (w1 M cv (by rw[jj];simp[eH,d]) p r t G ak O.1 b c X (rH (iR O.2) n) (by rw[nW,d]) U Zo e)
  ·simp at e
 ·simp at e
end
section
variable{C:aC}{A bF:bE}{F bu:Nat->Prop}{h E:I ae}{j ar aB:Nat}{w aM:World}
def eE(C:aC)(A:bE)(F:Nat->Prop)(h:I ae)(j aB:Nat)(w:World)(s:Sem Value)(v:y)(E:I ae)(ar:Nat):Prop:=
 ∃bF bu aM,s.run C.P w= .ok (ai bF v) aM/\bd bu v/\bD C bF bu E ar aB aM/\dW C j A F h aB w bF bu E aM/\j<=ar
def eE.done{s:Sem Value}{v:y}(e:eE C A F h j aB w s v E ar):lV C A F h j aB w (do pure (.value (<-s))) v E ar:=by
 obtain⟨bF,bu,aM,a,b,c,d,f⟩:=e
 exact⟨bF,bu,aM, .value (ai bF v),by simp[a], .inl rfl,b,c,d,f⟩
def eE.same(M:bD C A F h j aB w){s:Sem Value}{v:y}(e:s.run C.P w= .ok (ai A v) w)(g:bd F v):eE C A F h j aB w s v h j:=
 ⟨A,F,w,e,g,M, .refl,Zp _⟩
def qj(M:bD C A F h j aB w)(cv:aB<=w.heap.size){s:Sem Value}{v:y}{bN:ae}{D:Obj}(d:s.run C.P w= .ok (ai (c2 A j ⟨w.heap.size,0,0⟩) v) (w.alloc D))(dH:bd (add F j) v)
 (b:eF C (c2 A j ⟨w.heap.size,0,0⟩) (add F j) bN ⟨w.heap.size,0,0⟩ (w.alloc D))(c:jg C (add F j) bN):eE C A F h j aB w s v (aS C h j (some bN)) (j+1):=by
 have ab:=M.aP
 refine⟨_,_,_,d,dH,M.alloc ab (Yo _) (Ye _) (ig M) cv rfl (by rw[cw _ ab,Zv rfl]) (λx a=> .inl (by rw[cw _ ab,Zj a])) b c, ?_,Ye _⟩
 exact⟨hZ (ig M),λ_ e=> .inl e,λx e=>e.elim .inl (λe=> .inr Zo),λx a au=>by rw[cw _ ab,Zj Zo],Below.alloc (Below.refl aB w) cv D⟩
def qi{D:ae}{o:Nat->y}{a:b1}(e:gt C h j D o=some a):a= .cy (o j) (aS C h j (some D)) (j+1):=by
 unfold gt at e
 simp only[fZ,dF,Zu]at e
 exact e.symm
def H3(M:bD C A F h j aB w){t:Nat}{m o:Operand}{af:Operand->Value}{T1:Operand->Option y}{Z:b1}(Y:ei A F af T1 [m,o])(e:pM C t m o h j T1=some Z):
 ∃v E,Z= .cy v E j/\eE C A F h j aB w (Instr.mapEntry t (af m) (af o)) v E j:=by
 unfold pM at e
 split at e
 ·rename_i T7 TY r c X T5 T3
  obtain⟨em,g⟩:=Y m Zs _ T5
  obtain⟨T2,b⟩:=Y o Zs _ T3
  rw[em,T2]
  split at e
  ·rename_i am d s
   simp only[cg]at e
   obtain⟨P,e⟩:=e
   obtain⟨TZ,O⟩:=rM P
   obtain⟨a7,aH,aZ,a3,a4⟩:=iC M g s
   have G:=qS (C:=C) (A:=A) (F:=F) (w:=w) (l:=false) 20 10000 T7 c Zd b P
   split at e
   ·rename_i i N f
    have n:=nr M O b a4 f
    obtain⟨_,l,a,rfl⟩:=rt am 0 i N f
    simp only[YI]at a
    rw[ih,a]at e
    obtain⟨ct,T8,born⟩:=l
    simp only[cg]at e
    obtain⟨T4,e⟩:=e
    obtain⟨rfl,ab⟩:=lB e
    have p:=a4 _ (Zg a)
    obtain⟨aM,bf,bo,x⟩:=nT M (bv:=j) ab g s (j2:=d) (eu:=am.set i (c,T8,born)) (ux (λl=>{l with key:=ai A c}) a3 a rfl) (tY a4 ⟨b,p.2⟩)
    refine⟨_,_,rfl,A,F,aM, ?_,⟨p.2,trivial,trivial⟩,bo,x,Zp _⟩
    simp[Instr.mapEntry,run_underlying X,ai,aU,aH,G,a3,n,hJ,tB a3 a,cJ,yh p.1 b T4,bf,goInt]
   ·rename_i f
    have n:=nr M O b a4 f
    split at e
    ·rename_i z T6
     obtain⟨T9,T0⟩:=lz T6 A F w
     obtain⟨rfl,ab⟩:=lB e
     obtain⟨aM,bf,bo,x⟩:=nT M (bv:=j) ab g s (j2:=d+1) (eu:=am++[(c,z,d)]) (l5:=a7.push {key:=ai A c,val:=ai A z,born:=d}) (by simp[a3,cJ])
      (λl a=>(Zr.1 a).elim (a4 l) (λa=>by simp at a;subst a;exact⟨b,T0⟩))
     refine⟨_,_,rfl,A,F,aM, ?_,⟨T0,trivial,trivial⟩,bo,x,Zp _⟩
     simp[Instr.mapEntry,run_underlying X,ai,aU,aH,G,a3,n,hJ,T9,bf,goInt]
    ·simp at e
   ·simp at e
  ·simp at e
 ·simp at e
def FX{
 born:Nat}:∀(am:List (y×y×Nat)),(am.map (cJ A)).findIdx? (λl=>((l.born:Int)==(Int.ofNat born)))=am.findIdx? (λl=>Nat.beq l.2.2 born):=by
 intro am
 induction am with
 |nil=>rfl
 |cons l am V=>
  simp only[ZS,List.findIdx?_cons,V,cJ]
  have:(((l.2.2:Nat):Int)==Int.ofNat born)=Nat.beq l.2.2 born:=by
   rw[Z8,Y3]
   exact⟨λe=>by
    have:l.2.2=born:=Int.ofNat.inj e
    rw[this];exact Y2 _,λe=>by rw[Zh e];rfl⟩
  rw[this]
def Ft(M:bD C A F h j aB w){t:Nat}{m s x:Operand}{af:Operand->Value}{n:Operand->Option y}{g:b1}(a:ei A F af n [m,s,x])(e:pJ C m s x h j n=some g):
 ∃E aM,g= .cy undef E j/\(Instr.entryStore t (af m) (af s) (af x)).run C.P w= .ok () aM/\bD C A F E j aB aM/\dW C j A F h aB w A F E aM:=by
 unfold pJ at e
 split at e
 ·rename_i r L born v X Y Z
  obtain⟨em,c⟩:=a m Zs _ X
  obtain⟨eu,_⟩:=a s Zs _ Y
  obtain⟨ex,z⟩:=a x Zs _ Z
  rw[em,eu,ex]
  split at e
  ·rename_i am p f
   obtain⟨a7,aH,aZ,a3,a4⟩:=iC M c f
   split at e
   ·rename_i i ak
    rw[ih]at e
    split at e
    ·rename_i o N b d
     obtain⟨rfl,ab⟩:=lB e
     have O:=a4 _ (Zg d)
     obtain⟨aM,bf,bo,T0⟩:=nT M (bv:=j) ab c f (j2:=p) (eu:=am.set i (o,v,b)) (ux (λl=>{l with val:=ai A v}) a3 d rfl) (tY a4 ⟨O.1,z⟩)
     refine⟨_,aM,rfl, ?_,bo,T0⟩
     have P:a7.findIdx? (λl=>((l.born:Int)==(born:Int)))=some i:=by
      have G:a7=(am.map (cJ A)).toArray:=by apply YC;simpa using a3
      rw[G,List.findIdx?_toArray, <-ak]
      exact FX am
     simp[Instr.entryStore,ai,aH,asInt,asIntOf,P,bf]
    ·simp at e
   ·simp at e
  ·simp at e
 ·simp at e
def H6{α b:Type}(g:α->b):∀(k:List α) (i:Nat),(k.map g).eraseIdx i=(k.eraseIdx i).map g:=by
 intro k
 induction k with
 |nil=>intro i;rfl
 |cons a k V=>intro i;cases i with
  |zero=>rfl
  |succ i=>simp[V]
def E1(M:bD C A F h j aB w){t:Nat}{m o:y}{P:b1}{bw:Array TypeId}{ty:TypeId}(s:bw[0]? =some t)(d:bd F m)(c:bd F o)(e:qP C h j t m o=some P):
 ∃v E,P= .cy v E j/\eE C A F h j aB w (Builtin.delete_ bw ty #[ai A m,ai A o]) v E j:=by
 unfold qP at e
 split at e
 ·rename_i X Y r O
  split at e
  ·rename_i am p g
   simp only[cg]at e
   obtain⟨G,e⟩:=e
   obtain⟨T0,z⟩:=rM G
   obtain⟨a7,aH,aZ,a3,a4⟩:=iC M d g
   have x:=qS (C:=C) (A:=A) (F:=F) (w:=w) (l:=a7.isEmpty) 20 10000 X o Zd c G
   split at e
   ·rename_i i N b
    have f:=nr M z c a4 b
    obtain⟨rfl,ab⟩:=lB e
    obtain⟨_,l,a,rfl⟩:=rt am 0 i N b
    simp only[YI]at a
    have Z:i<a7.size:=by
     have:=(Zf.1 a).1
     rw[<-Array.length_toList,a3,Zn];exact this
    obtain⟨aM,bf,bo,n⟩:=nT M (bv:=j) ab d g (j2:=p) (eu:=am.eraseIdx i) (l5:=a7.eraseIdxIfInBounds i) (by rw[Array.toList_eraseIdxIfInBounds,a3,H6])
     (λl a=>a4 l (List.mem_of_mem_eraseIdx a))
    refine⟨_,_,rfl,A,F,aM, ?_,trivial,bo,n,Zp _⟩
    simp[Builtin.delete_,s,run_underlying O,ai,aU,aH,x,a3,f,hJ,bf]
   ·rename_i b
    have f:=nr M z c a4 b
    obtain⟨rfl,ab⟩:=lB e
    obtain⟨aM,bf,bo,n⟩:=nT M (bv:=j) ab d g (j2:=p) (eu:=am) a3 a4
    refine⟨_,_,rfl,A,F,aM, ?_,trivial,bo,n,Zp _⟩
    simp[Builtin.delete_,s,run_underlying O,ai,aU,aH,x,a3,f,hJ,bf]
   ·simp at e
  ·simp at e
 ·simp at e
def H1(M:bD C A F h j aB w)(cv:aB<=w.heap.size){t:Nat}{k c:Operand}{af:Operand->Value}{T3:Operand->Option y}{T0:b1}(Z:ei A F af T3 [k,c])(e:pL C t k c h j T3=some T0):
 ∃v E ar,T0= .cy v E ar/\eE C A F h j aB w (Instr.makeSlice t (af k) (af c)) v E ar:=by
 unfold pL at e
 split at e
 ·rename_i bZ U2 U1 Y au T6
  obtain⟨T5,_⟩:=Z k Zs _ au
  obtain⟨T4,_⟩:=Z c Zs _ T6
  rw[T5,T4]
  split at e
  ·rename_i r a i z T8 T7 ak TY
   obtain⟨U3,rfl⟩:=nG T8
   obtain⟨U4,rfl⟩:=nG T7
   simp only[cg,Zq]at e
   obtain⟨⟨⟨⟨⟨s,d⟩,p⟩,x⟩,b⟩,e⟩:=e
   have s:=et s
   have d:=et d
   have p:=et p
   have x:=e0 x
   have b:z.cells.length=i.size:=Zh b
   have:=qi e;subst this
   obtain⟨TZ,U0⟩:=lz TY A F w
   refine⟨_,_,_,rfl,qj M cv (D:= .cells (aU A (eA a z.cells)).toArray bZ) ?_ (.inr rfl) ?_ ⟨λ_ _ _ e=>(by cases e),λ_ _ _ e=>(by cases e;rw[<-b, <-nW];exact oV)⟩⟩
   ·have T1:=wrap_small (n:=r) Zo
    have T2:=wrap_small d
    have G:¬((281474976710656:Int)<(i.bytes:Int)*(a:Int)):=by
     rw[Int.mul_comm];exact td d p
    have O:¬((a:Int)<0):=Zo
    have P:¬((r:Int)<0):=Zo
    have X:¬((a:Int)<(r:Int)):=Zo
    have f:=Aq A z.cells i.size a b (if a*i.size=0 then #[]else(ai A z).cells) (λT9=>by rw[Zj T9,jj])
    by_cases m:a*i.size=0
    ·rw[Zv m]at f
     rw[<-f]
     simp[Instr.makeSlice,run_underlying Y,ai,asInt,asIntOf,typeInfo,ak,T1,T2,G,O,P,X,sizeOf,m,newRow,fk]
    ·rw[Zj m]at f
     rw[<-f]
     simp[Instr.makeSlice,run_underlying Y,ai,asInt,asIntOf,typeInfo,ak,T1,T2,G,O,P,X,sizeOf,m,newRow,fk,TZ]
   ·have g:=rH (iR U0) a
    have:=q4 (C:=C) (A:=c2 A j ⟨w.heap.size,0,0⟩) (F:=add F j) (h9 (λ_ e=> .inl e) _ g) bZ 0 w
    rw[kO (hZ (ig M)) g,nW,b]at this
    exact this
  ·simp at e
 ·simp at e
def HZ(M:bD C A F h j aB w)(cv:aB<=w.heap.size){t:Nat}{r:Operand}{af:Operand->Value}{b:Operand->Option y}{a:b1}(f:ei A F af b [r])(e:pK C t r h j b=some a):
 ∃v E ar,a= .cy v E ar/\eE C A F h j aB w (Instr.makeMap t (some (af r))) v E ar:=by
 unfold pK at e
 split at e
 ·rename_i i g L n c d
  obtain⟨l,_⟩:=f r Zs _ d
  have:=qi e;subst this
  refine⟨_,_,_,rfl,qj M cv (D:= .map #[] 0) ?_ (.inr rfl) ⟨#[],jp _ _,rfl,Zs⟩ ⟨λ_ _ _ e=>(by cases e),λ_ _ _ e=>(by cases e)⟩⟩
  simp[Instr.makeMap,run_underlying c,l,ai,asInt,asIntOf,fk]
 ·simp at e
def Jr(M:bD C A F h j aB w)(cv:aB<=w.heap.size){t:Nat}{x:Operand}{af:Operand->Value}{m:Operand->Option y}{i:b1}(d:ei A F af m [x])(e:pO C t x h j m=some i):
 ∃v E ar,i= .cy v E ar/\eE C A F h j aB w (Instr.range t (af x)) v E ar:=by
 have z:=hZ (A:=A) (pl:=⟨w.heap.size,0,0⟩) (ig M)
 unfold pO at e
 split at e
 ·rename_i s a c
  obtain⟨l,g⟩:=d x Zs _ c
  have:=qi e;subst this
  refine⟨_,_,_,rfl,qj M cv (D:= .stringIter (cI s) 0) ?_ (.inr rfl) ⟨rfl,jp _ _,g⟩ ⟨λ_ _ _ e=>(by cases e),λ_ _ _ e=>(by cases e)⟩⟩
  simp[Instr.range,run_underlying a,l,ai,fk]
 ·rename_i G n a c
  obtain⟨l,g⟩:=d x Zs _ c
  have:=qi e;subst this
  refine⟨_,_,_,rfl,qj M cv (D:= .mapIter none 0 #[] 0) ?_ (.inr rfl) ⟨rfl,jp _ _,Zs⟩ ⟨λ_ _ _ e=>(by cases e),λ_ _ _ e=>(by cases e)⟩⟩
  simp[Instr.range,run_underlying a,l,ai,fk]
 ·rename_i G n r a c
  obtain⟨l,g⟩:=d x Zs _ c
  split at e
  ·rename_i am f p
   have:=qi e;subst this
   obtain⟨a7,aH,aZ,a3,a4⟩:=iC M g p
   refine⟨_,_,_,rfl,qj M cv (D:= .mapIter (some (A r).bc) f #[] f) ?_ (.inr rfl) ⟨rfl, ?_,λb ab=>by cases ab;exact .inl g⟩ ⟨λ_ _ _ e=>(by cases e),λ_ _ _ e=>(by cases e)⟩⟩
   ·simp[Instr.range,run_underlying a,l,ai,fk,aH]
   ·rw[jp];simp only[ZJ,z r g]
  ·simp at e
 ·simp at e
end
section
variable{C:aC}{A bF:bE}{F bu:Nat->Prop}{h E:I ae}{j ar aB:Nat}{w aM:World}
def nD(n:Nat):∀k,ic n k=k.contains n:=by
 intro k
 induction k with
 |nil=>rfl
 |cons a k V=>simp only[ic,List.contains_cons,V];congr 1;rw[Z8,Y3];exact⟨Zh,λe=>by rw[e];exact Y2 _⟩
def vg(seen:List Nat):∀am:List (y×y×Nat),(am.map (cJ A)).filter (λl=> !seen.contains l.born)=(dN seen am).map (cJ A):=by
 intro am
 induction am with
 |nil=>rfl
 |cons l am V=>
  have ab:(cJ A l).born=l.2.2:=rfl
  simp only[ZS,Yp,dN, <-nD,ab]
  simp only[<-nD]at V
  cases ic l.2.2 seen<;>simp[V]
def qz(seen:List Nat):∀(am:List (y×y×Nat)) l,l∈dN seen am->l∈am:=by
 intro am
 induction am with
 |nil=>intro l e;simp[dN]at e
 |cons a am V=>
  intro l e
  simp only[dN]at e
  cases b:ic a.2.2 seen<;>simp only[b,cS,fB]at e
  ·rcases Zz.1 e with e|e
   ·simp[e]
   ·exact Zi _ (V l e)
  ·exact Zi _ (V l e)
def w0(c:Nat):∀am:List (y×y×Nat),l3 c am=true->∀l∈am,l.2.2<c:=by
 intro am
 induction am with
 |nil=>intro _ l e;simp at e
 |cons a am V=>
  intro e l b
  simp only[l3,Zq]at e
  rcases Zz.1 b with rfl|b
  ·exact e0 e.1
  ·exact V e.2 l b
def s5(b:Nat):∀am:List (y×y×Nat),kH b am=true->∃l∈am,l.2.2<b:=by
 intro am
 induction am with
 |nil=>intro e;simp[kH]at e
 |cons a am V=>
  intro e
  simp only[kH,Yx]at e
  rcases e with e|e
  ·exact⟨a,Zs,e0 e⟩
  ·obtain⟨l,c,e⟩:=V e;exact⟨l,by simp[c],e⟩
def s7{a7:Array MapEntry}{am:List (y×y×Nat)}(e:a7.toList=am.map (cJ A)):a7=(am.map (cJ A)).toArray:=by apply YC;simpa using e
def uA(M:bD C A F h j aB w){bv r m a g c:Nat}{seen:List Nat}{am:List (y×y×Nat)}{ty:TypeId}(ab:C.aP<=r)(z:F r)(Z:J C h r=some (.eW (some m) a seen g))
 (T9:J C h m=some (.map am c))(t:l3 a am=true)(gJ:kH g am=true)(Y:dN seen am≠[]):
 ∃l,l∈dN seen am/\∃aM,(Instr.next (.pointer (some ⟨(A r).bc,0,none⟩)) false ty).run C.P w= .ok (.tuple #[.bool true,ai A l.1,ai A l.2.1]) aM/\
  bD C A F (aS C h r (some (.eW (some m) a (seen++[l.2.2]) c))) j aB aM/\dW C bv A F h aB w A F (aS C h r (some (.eW (some m) a (seen++[l.2.2]) c))) aM/\bd F l.1/\bd F l.2.1:=by
 obtain⟨U2,p,s⟩:=M.obj r _ Z z
 have T5:=s m rfl
 obtain⟨a7,aH,aZ,a3,a4⟩:=iC M T5 T9
 have v:=s7 a3
 have J:(getObj (A r).bc).run C.P w= .ok (.mapIter (some (A m).bc) a seen.toArray g) w:=by simp[getObj,Sem.run,p]
 have TZ:(a7.all λl=>decide (l.born>=g))=false:=by
  obtain⟨l,d,U4⟩:=s5 g am gJ
  rw[v,List.all_toArray]
  rw[List.all_eq_false]
  exact⟨cJ A l,ZB.2 ⟨l,d,rfl⟩,by simp[cJ];omega⟩
 have T8:(a7.filter λl=> !seen.toArray.contains l.born)=((dN seen am).map (cJ A)).toArray:=by
  rw[v,YY]
  congr 1
  rw[<-vg]
  apply List.filter_congr
  intro x _
  simp
 have U0:((dN seen am).map (cJ A)).toArray.filter (λl=>decide (l.born<a))=((dN seen am).map (cJ A)).toArray:=by
  rw[YY]
  congr 1
  rw[List.filter_eq_self]
  intro x n
  obtain⟨l,d,rfl⟩:=ZB.1 n
  simp only[Zc]
  exact w0 a am t l (qz seen am l d)
 have TY:((dN seen am).map (cJ A)).toArray.filter (λl=>decide (l.born>=a))= #[]:=by
  rw[YY]
  have:((dN seen am).map (cJ A)).filter (λl=>decide (l.born>=a))=[]:=by
   rw[List.filter_eq_nil_iff]
   intro x n
   obtain⟨l,d,rfl⟩:=ZB.1 n
   have:=w0 a am t l (qz seen am l d)
   simp[cJ];omega
  rw[this]
 have T6:((dN seen am).map (cJ A)).toArray.isEmpty=false:=by simpa using Y
 have P:0<(dN seen am).length:=Z6.2 Y
 have key:∀(H:Nat) (i:World),H<(dN seen am).length->i.heap=w.heap->bD C A F h j aB i->Below aB w i->(choose (.mapNext (dN seen am).length)).run C.P w= .ok H i->
  ∃l,l∈dN seen am/\∃aM,(Instr.next (.pointer (some ⟨(A r).bc,0,none⟩)) false ty).run C.P w= .ok (.tuple #[.bool true,ai A l.1,ai A l.2.1]) aM/\
   bD C A F (aS C h r (some (.eW (some m) a (seen++[l.2.2]) c))) j aB aM/\dW C bv A F h aB w A F (aS C h r (some (.eW (some m) a (seen++[l.2.2]) c))) aM/\bd F l.1/\bd F l.2.1:=by
  intro H i O T7 U1 T1 T4
  have d:=Ze O
  have X:(dN seen am)[H]∈dN seen am:=List.getElem_mem O
  have G:=a4 _ (qz seen am _ X)
  obtain⟨aM,bf,bo,f⟩:=putObj U1 (bv:=bv) (fv:= .eW (some m) a (seen++[(dN seen am)[H].2.2]) c) (o':= .mapIter (some (A m).bc) a (seen.toArray.push (dN seen am)[H].2.2) c) ab z Z ⟨Zs,Zs⟩
   (by rw[T7];exact p) Zs (λaM U3=>⟨U2,by rw[U3];simp,λb ab=>s b ab⟩) ⟨λ_ _ _ e=>(by cases e),λ_ _ _ e=>(by cases e)⟩
  refine⟨(dN seen am)[H],X,aM, ?_,bo,⟨f.dZ,f.ej,f.new,f.T,T1.trans f.below⟩,G.1,G.2⟩
  have T3:(((dN seen am).map (cJ A)).toArray++(#[]:Array MapEntry)).map some=((dN seen am).map (λl=>some (cJ A l))).toArray:=by simp
  simp only[Instr.next,Sem.run_bind,J,Result.andThen_ok,aH,TZ,Bool.and_false,ZR,ZM,T8,U0,TY,T6]
  rw[Array.empty_append,T3]
  simp only[Yk,Zn,T4,Result.andThen_ok,YO,Zw,d,ZJ]
  have T2:(cJ A (dN seen am)[H]).born=(dN seen am)[H].2.2:=rfl
  simp only[T2,Sem.run_bind,bf,Result.andThen_ok,Sem.run_pure]
  rfl
 by_cases T0:(dN seen am).length<=1
 ·refine key 0 w P rfl M (Below.refl _ _) ?_
  simp[Question.forced,T0]
 ·refine key ((w.tape w.drawn (.mapNext (dN seen am).length))%(dN seen am).length) w.drew (zt _ P) rfl M.drew (Below.drew (Below.refl _ _)) ?_
  simp[Question.forced,T0,Question.cut]
def Gc{r m d c:Nat}{seen:List Nat}:∀(k:List (y×y×Nat)) l,l∈k->(y.tuple [.bool true,l.1,l.2.1],aS C h r (some (.eW (some m) d (seen++[l.2.2]) c)))∈rz C h r m d c seen k:=by
 intro k
 induction k with
 |nil=>intro l e;simp at e
 |cons a k V=>
  intro l e
  obtain⟨o,v,b⟩:=a
  simp only[rz]
  rcases Zz.1 e with rfl|e
  ·exact Zl ..
  ·exact Zi _ (V l e)
def m2(C:aC)(A:bE)(F:Nat->Prop)(h:I ae)(j aB:Nat)(w:World)(s:Sem Value)(a:b1):Prop:=match a with
 | .val v=>eE C A F h j aB w s v h j
 | .cy v E ar=>eE C A F h j aB w s v E ar
 | .fork k=>∃v E,(v,E)∈k/\eE C A F h j aB w s v E j
 |_=>False
def EK{r:Nat}{D:Option Nat->ae}:∀(k:List (y×y×Nat)) l,l∈k->(y.tuple [.bool true,l.1,l.2.1],aS C h r (some (D (some l.2.2))))∈q6 C h r D k:=by
 intro k
 induction k with
 |nil=>intro l e;simp at e
 |cons a k V=>
  intro l e
  obtain⟨o,v,b⟩:=a
  simp only[q6]
  rcases Zz.1 e with rfl|e
  ·exact Zl ..
  ·exact Zi _ (V l e)
def Ey:∀(am:List (y×y×Nat)) (bO:List Nat),ot am bO=true->bO=am.map (·.2.2):=by
 intro am
 induction am with
 |nil=>intro bO e;cases bO<;>simp[ot]at e;rfl
 |cons l am V=>
  intro bO e
  cases bO with
  |nil=>simp[ot]at e
  |cons b bO=>
   simp only[ot,Zq]at e
   rw[ZS, <-V bO e.2,Zh e.1]
def A2(seen:List Nat):∀am:List (y×y×Nat),((am.map (·.2.2)).filter λb=> !seen.contains b).length=(dN seen am).length:=by
 intro am
 induction am with
 |nil=>rfl
 |cons l am V=>
  simp only[ZS,Yp,dN, <-nD]
  simp only[<-nD]at V
  cases ic l.2.2 seen<;>simp[V]
def FS{p L:Nat->Bool}(e:∀x,L x=true->p x=true):∀bO:List Nat,(bO.filter L).length<=(bO.filter p).length:=by
 intro bO
 induction bO with
 |nil=>simp
 |cons a bO V=>
  cases b:L a with
  |true=>simp[Yp,b,e a b];exact V
  |false=>cases c:p a<;>simp[Yp,b,c]<;>omega
def FU{p L:Nat->Bool}(e:∀x,L x=true->p x=true){b:Nat}(f:p b=true)(i:L b=false):∀bO:List Nat,b∈bO->(bO.filter L).length<(bO.filter p).length:=by
 intro bO
 induction bO with
 |nil=>intro ab;cases ab
 |cons a bO V=>
  intro ab
  by_cases l:a=b
  ·subst l
   have:=FS e bO
   simp[Yp,i,f];omega
  ·have d:b∈bO:=by
    rcases Zz.1 ab with L|L
    ·exact absurd L.symm l
    ·exact L
   have:=V d
   cases c:L a with
   |true=>simp[Yp,c,e a c];exact this
   |false=>cases g:p a<;>simp[Yp,c,g]<;>omega
def FT{seen:List Nat}{b:Nat}(bO:List Nat)(ab:b∈bO)(c:seen.contains b=false):(bO.filter λx=> !(seen++[b]).contains x).length<(bO.filter λx=> !seen.contains x).length:=by
 refine FU (p:=λx=> !seen.contains x) (L:=λx=> !(seen++[b]).contains x) (λx a=> ?_) (by rw[c];rfl) Zs bO ab
 simp at a ⊢
 exact a.1
def Lr(seen:List Nat):∀(am:List (y×y×Nat)) l,l∈dN seen am->seen.contains l.2.2=false:=by
 intro am
 induction am with
 |nil=>intro l e;simp[dN]at e
 |cons a am V=>
  intro l e
  simp only[dN]at e
  cases b:ic a.2.2 seen<;>simp only[b,cS,fB]at e
  ·rcases Zz.1 e with e|e
   ·rw[e, <-nD];exact b
   ·exact V l e
  ·exact V l e
def bD.As(M:bD C A F h j aB w){b:Nat}{bN fv:ae}(ab:C.aP<=b)(d:F b)(g:J C h b=some bN)(m:n5 bN)(i:J C E b=some fv)(c:∀x,x≠b->J C E x=J C h x)(p:eF C A F fv (A b) w)(r:jg C F fv):bD C A F E j aB w:=
 M.put ab d g i (λx a=> .inl (c x a)) (λ_ _=>rfl) (λx s f a bQ n=>by rw[c x f]at a;exact M.alone ab d g m x s f a bQ n) p r
def It(M:bD C A F h j aB w){T4:Operand}{U7:Bool}{ty:TypeId}{af:Operand->Value}{U9:Operand->Option y}{U8:b1}(UK:ei A F af U9 [T4])(e:pN C T4 U7 h j U9=some U8):
 m2 C A F h j aB w (Instr.next (af T4) U7 ty) U8:=by
 unfold pN at e
 split at e
 ·rename_i r O
  obtain⟨l,f⟩:=UK T4 Zs _ O
  simp only[cg]at e
  obtain⟨UC,e⟩:=e
  have ab:C.aP<=r:=et UC
  rw[l]
  split at e
  ·rename_i s pos i
   obtain⟨d,t,X⟩:=M.obj r _ i f
   have J:(getObj (A r).bc).run C.P w= .ok (.stringIter (cI s) pos) w:=by simp[getObj,Sem.run,t]
   have U0:(cI s).size=s.length:=by simp[cI,ByteArray.size]
   rw[cN]at e
   split at e
   ·rename_i z
    have z:=e0 z
    rw[ih]at e
    split at e
    ·rename_i c U2
     simp only[cg]at e
     obtain⟨T6,e⟩:=e
     have T6:=e0 T6
     obtain⟨rfl,_⟩:=lB e
     obtain⟨aM,bf,bo,p⟩:=putObj M (bv:=j) (fv:= .kr s (pos+1)) (o':= .stringIter (cI s) (pos+1)) ab f i ⟨Zs,Zs⟩ t Zs (λaM UJ=>⟨d,UJ,X⟩) ⟨λ_ _ _ e=>(by cases e),λ_ _ _ e=>(by cases e)⟩
     refine⟨A,F,aM, ?_,⟨trivial,trivial,trivial,trivial⟩,bo,p,Zp _⟩
     have Y:pos<(cI s).size:=by rw[U0];exact z
     have U1:((cI s)[pos]'Y).toNat=c:=by
      show((cI s).data[pos]).toNat=c
      have UI:s[pos]=c:=by
       rw[Ze z]at U2
       exact Yd U2
      simp[cI,UI];omega
     have U3:=decode_ascii (cI s) pos Y (by rw[U1];exact T6)
     rw[U1]at U3
     simp[Instr.next,ai,aU,d,J,U0,z,U3,bf,goInt]
    ·simp at e
   ·rename_i z
    have z:¬pos<s.length:=λL=>z (by simp[Nat.blt];omega)
    simp at e;subst e
    refine eE.same M ?_ ⟨trivial,trivial⟩
    simp[Instr.next,ai,aU,d,J,U0,z]
  ·rename_i a seen T1 i
   obtain⟨d,t,X⟩:=M.obj r _ i f
   have J:(getObj (A r).bc).run C.P w= .ok (.mapIter none a seen.toArray T1) w:=by simp[getObj,Sem.run,t]
   simp at e;subst e
   refine eE.same M ?_ ⟨trivial,trivial⟩
   simp[Instr.next,ai,aU,d,J]
  ·rename_i m a seen T1 i
   have UG:=M.obj r _ i f
   obtain⟨d,t,X⟩:=UG
   split at e
   ·rename_i am UA P
    split at e
    ·
     rename_i G
     simp only[cg,Yx,Zu]at e
     obtain⟨Z,gJ,rfl⟩:=e
     obtain⟨a7,aH,aZ,a3,a4⟩:=iC M (X m rfl) P
     have T0:=s7 a3
     have J:(getObj (A r).bc).run C.P w= .ok (.mapIter (some (A m).bc) a seen.toArray T1) w:=by simp[getObj,Sem.run,t]
     have T9:(a7.filter λl=> !seen.toArray.contains l.born)= #[]:=by
      rw[T0,YY]
      have:=vg (A:=A) seen am
      rw[G]at this
      congr 1
      rw[List.map_nil]at this
      rw[<-this]
      apply List.filter_congr
      intro x _
      simp
     have TY:(!seen.toArray.isEmpty&& !a7.isEmpty&&a7.all λl=>decide (l.born>=T1))=false:=by
      rcases gJ with (gJ|gJ)|gJ
      ·obtain⟨l,g,Y⟩:=s5 T1 am gJ
       have:(a7.all λl=>decide (l.born>=T1))=false:=by
        rw[T0,List.all_toArray,List.all_eq_false]
        exact⟨cJ A l,ZB.2 ⟨l,g,rfl⟩,by simp[cJ];omega⟩
       rw[this];simp
      ·have:seen=[]:=by simpa using gJ
       simp[this]
      ·have:am=[]:=by simpa using gJ
       simp[T0,this]
     refine eE.same M ?_ ⟨trivial,trivial⟩
     simp only[ai,aU,d,ZE,Instr.next,Sem.run_bind,J,Result.andThen_ok,aH,TY,ZR,ZM,T9]
     simp[Question.forced]
    ·rename_i o v b G
     simp only[cg,Zq]at e
     obtain⟨⟨Z,gJ⟩,e⟩:=e
     obtain⟨rfl,_⟩:=lB e
     obtain⟨l,g,aM,bf,bo,p,T2,T3⟩:=uA M (bv:=j) (ty:=ty) ab f i P Z gJ (by rw[G];simp)
     rw[G]at g
     have:l=(o,v,b):=by simpa using g
     subst this
     refine⟨A,F,aM, ?_,⟨trivial,T2,T3,trivial⟩,bo,p,Zp _⟩
     simp only[ai,aU,d,ZE]
     exact bf
    ·rename_i k UE UO
     simp only[cg,Zq,Zu]at e
     obtain⟨⟨Z,gJ⟩,rfl⟩:=e
     obtain⟨l,g,aM,bf,bo,p,T2,T3⟩:=uA M (bv:=j) (ty:=ty) ab f i P Z gJ UE
     refine⟨_,_,Gc _ l g,A,F,aM, ?_,⟨trivial,T2,T3,trivial⟩,bo,p,Zp _⟩
     simp only[ai,aU,d,ZE]
     exact bf
   ·simp at e
  ·rename_i m a n bO st UN i
   obtain⟨d,T7,seen,t,X,_⟩:=M.obj r _ i f
   split at e
   ·rename_i am UA P
    simp only[cg,Zq]at e
    obtain⟨⟨⟨T5,TZ⟩,Z,gJ⟩,e⟩:=e
    have TZ:=Zh TZ
    subst TZ
    have T5:=Ey am bO T5
    subst T5
    rw[A2]at X
    have UD:m≠r:=λl=>by rw[l,i]at P;cases P
    have UB:∀c,n5 (.jB m a n (am.map (·.2.2)) st c):=λc=>⟨Zs,Zs⟩
    have U6:J C (aS C h r (some (.eW (some m) a seen st))) r=some (.eW (some m) a seen st):=by rw[cw _ ab,Zv rfl]
    have T8:∀x,x≠r->J C (aS C h r (some (.eW (some m) a seen st))) x=J C h x:=λx O=>by rw[cw _ ab,Zj O]
    have UH:bD C A F (aS C h r (some (.eW (some m) a seen st))) j aB w:=
     M.As ab f i (UB _) U6 T8 ⟨d,by rw[t];rfl,λb ab=>by cases ab;exact T7⟩ ⟨λ_ _ _ e=>(by cases e),λ_ _ _ e=>(by cases e)⟩
    have U4:dN seen am=[]->eE C A F h j aB w (Instr.next (ai A (.ptr r 0)) false ty) (.tuple [.bool false]) h j:=by
     intro G
     obtain⟨a7,aH,aZ,a3,a4⟩:=iC M T7 P
     have T0:=s7 a3
     have J:(getObj (A r).bc).run C.P w= .ok (.mapIter (some (A m).bc) a seen.toArray st) w:=by simp[getObj,Sem.run,t]
     have T9:(a7.filter λl=> !seen.toArray.contains l.born)= #[]:=by
      rw[T0,YY]
      have:=vg (A:=A) seen am
      rw[G]at this
      congr 1
      rw[List.map_nil]at this
      rw[<-this]
      apply List.filter_congr
      intro x _
      simp
     have TY:(!seen.toArray.isEmpty&& !a7.isEmpty&&a7.all λl=>decide (l.born>=st))=false:=by
      obtain⟨l,g,Y⟩:=s5 st am gJ
      have:(a7.all λl=>decide (l.born>=st))=false:=by
       rw[T0,List.all_toArray,List.all_eq_false]
       exact⟨cJ A l,ZB.2 ⟨l,g,rfl⟩,by simp[cJ];omega⟩
      rw[this];simp
     refine eE.same M ?_ ⟨trivial,trivial⟩
     simp only[ai,aU,d,ZE,Instr.next,Sem.run_bind,J,Result.andThen_ok,aH,TY,ZR,ZM,T9]
     simp[Question.forced]
    split at e
    ·simp at e;subst e
     exact U4 (YB.1 Zo)
    ·rename_i n
     simp at e;subst e
     by_cases G:dN seen am=[]
     ·exact⟨_,_,Zl ..,U4 G⟩
     ·obtain⟨l,g,aM,bf,bo,p,T2,T3⟩:=uA UH (bv:=j) (ty:=ty) ab f U6 (by rw[T8 m UD];exact P) Z gJ G
      refine⟨_,_,Zi _ (EK am l (qz seen am l g)),A,F,aM, ?_,⟨trivial,T2,T3,trivial⟩, ?_, ?_,Zp _⟩
      ·simp only[ai,aU,d,ZE]
       exact bf
      ·have U5:J C (aS C (aS C h r (some (.eW (some m) a seen st))) r (some (.eW (some m) a (seen++[l.2.2]) st))) r=some (.eW (some m) a (seen++[l.2.2]) st):=by rw[cw _ ab,Zv rfl]
       obtain⟨UL,UM,UP⟩:=bo.obj r _ U5 f
       refine bo.As (fv:= .jB m a n (am.map (·.2.2)) st (some l.2.2)) ab f U5 ⟨Zs,Zs⟩ (by rw[cw _ ab,Zv rfl]) (λx O=>by rw[cw _ ab,Zj O,cw _ ab,Zj O,T8 x O]) ⟨UL,T7,seen++[l.2.2],by rw[UM];rfl, ?_,λb ab=>by cases ab;rw[ul];simp⟩ ⟨λ_ _ _ e=>(by cases e),λ_ _ _ e=>(by cases e)⟩
       have Y:=FT (seen:=seen) (b:=l.2.2) (am.map (·.2.2)) (ZB.2 ⟨l,qz seen am l g,rfl⟩) (Lr seen am l g)
       rw[A2 seen]at Y
       exact Nat.le_of_lt_succ (Z5 Y X)
      ·refine⟨p.dZ,p.ej,p.new,λx O au=> ?_,p.below⟩
       have UF:x≠r:=λL=>O (L▸f)
       rw[cw _ ab,Zj UF]
   ·simp at e
  ·simp at e
 ·simp at e
end
section
variable{C:aC}{A bF:bE}{F bu:Nat->Prop}{h E:I ae}{j ar aB:Nat}{w aM:World}
def Gp(t:I y):∀(n D:Nat) (k:List y),k.length=n->(∀i,i<n->t.get (D+i)=k[i]?)->t.eM D n=some k:=by
 intro n
 induction n with
 |zero=>intro D k e _;cases k with
  |nil=>rfl
  |cons _ _=>simp at e
 |succ n V=>
  intro D k e c
  cases k with
  |nil=>simp at e
  |cons a k=>
   have b:=c 0 Zo
   simp at b
   have:=V (D+1) k (by simpa using e) (λi ak=>by
    have:=c (i+1) Zo
    rw[show D+1+i=D+(i+1) by omega,this];simp)
   simp[I.eM,b,this]
def xf{b D n m:Nat}{k:List y}(e:fY C h b D n=some k)(g:m<=n):fY C h b D m=some (k.take m):=by
 unfold fY at e ⊢
 split at e
 ·rename_i c f
  show I.eM _ D m=_
  obtain⟨d,a⟩:=I.rC _ _ _ _ e
  refine Gp c m D _ Zx λi ak=> ?_
  rw[a i Zo,YA ak]
 ·simp only[cg,Zu]at e
  have p:n=0:=Zh e.1
  have:m=0:=Zo
  subst this
  simp[aT]
def xS(M:bD C A F h j aB w){x:y}{ap n m:Nat}{k:List y}(c:bd F x)(e:gy C h ap x=some (n,k))(f:m<=n):
 (Builtin.lenOf (ai A x)).run C.P w= .ok n w/\(Builtin.firstCells ap m (ai A x)).run C.P w= .ok (aU A (k.take (m*ap))).toArray w/\cd F (k.take (m*ap)):=by
 unfold gy at e
 split at e
 ·simp at e;obtain⟨rfl,rfl⟩:=e
  simp[ai,Builtin.lenOf,Builtin.firstCells,aU,cd]
 ·rename_i b D len cap
  split at e
  ·rename_i G au
   simp at e;obtain⟨rfl,rfl⟩:=e
   obtain⟨a,d⟩:=ma M c (xf au (zd ap f))
   refine⟨?_, ?_,d⟩<;>simp[ai,Builtin.lenOf,Builtin.firstCells,a]
  ·simp at e
 ·rename_i b D len cap
  split at e
  ·rename_i G au
   simp at e;obtain⟨rfl,rfl⟩:=e
   obtain⟨a,d⟩:=ma M c (xf au (zd ap f))
   refine⟨?_, ?_,d⟩<;>simp[ai,Builtin.lenOf,Builtin.firstCells,a]
  ·simp at e
 ·rename_i s
  simp only[cg]at e
  obtain⟨a,e⟩:=e
  have a:ap=1:=Zh a
  subst a
  simp at e;obtain⟨rfl,rfl⟩:=e
  have r:(cI s).size=s.length:=by simp[cI,ByteArray.size]
  have g:∀x∈s.take m,x<256:=λx z=>c x (YS z)
  have p:(cI s).extract 0 m=cI (s.take m):=by
   apply ByteArray.ext
   rw[ByteArray.data_extract]
   apply YC
   simp[cI]
  have i:=vb A (s.take m) g
  refine⟨by simp[ai,Builtin.lenOf,r], ?_, ?_⟩
  ·simp only[ai,Builtin.firstCells,p,Sem.run_pure]
   rw[i]
   simp[List.map_take]
  ·rw[iU]
   intro v t
   have:=YS t
   obtain⟨O,_,rfl⟩:=ZB.1 this
   trivial
 ·simp at e
def EP(M:bD C A F h j aB w){st:Nat}{d x:y}{i:b1}{bw:Array TypeId}{ty:TypeId}(p:bw[0]? =some st)(t:bd F d)(v:bd F x)(e:qO C h j st d x=some i):
 m2 C A F h j aB w (Builtin.copy_ bw ty #[ai A d,ai A x]) i:=by
 unfold qO at e
 split at e
 ·rename_i bZ s
  split at e
  ·rename_i ap r
   split at e
   ·rename_i n k O
    have P:∀(b D len cap:Nat),F b->q7 C h j b D (min n len) (k.take (min n len*ap))=some i->
     m2 C A F h j aB w (Builtin.copy_ bw ty #[.slice (some ⟨(A b).bc,(A b).b5+D,none⟩) len cap,ai A x]) i:=by
     intro b D len cap ab a
     obtain⟨f,c,z⟩:=xS (m:=min n len) M v O (Nat.min_le_left _ _)
     have g:Nat.min n len=min n len:=rfl
     unfold q7 at a
     rw[d5]at a
     split at a
     ·rename_i G
      simp at a;subst a
      refine eE.same M ?_ trivial
      rw[G]at c
      simp[Builtin.copy_,p,run_underlying s,f,g,G,gb r,c,aU,storeCells,goInt,ai]
     ·split at a
      ·rename_i E X
       simp at a;subst a
       obtain⟨aM,bf,bo,Z⟩:=pj M (bv:=j) ab z X
       refine⟨A,F,aM, ?_,trivial,bo,Z,Zp _⟩
       have Y:(storeCells ⟨(A b).bc,(A b).b5+D,none⟩ (aU A (k.take (min n len*ap))).toArray.toList).run C.P w= .ok () aM:=bf
       simp only[Builtin.copy_,p,YO,ZW,ZN,Sem.run_bind,run_underlying s,Result.andThen_ok,f,g,gb r,c,Y,Sem.run_pure,goInt,ai]
      ·simp at a
    split at e
    ·simp at e;subst e
     obtain⟨f,c,z⟩:=xS (m:=0) M v O (zc _)
     refine eE.same M ?_ trivial
     have g:Nat.min n 0=0:=Nat.min_zero n
     simp only[Y4,Yt]at c
     simp[Builtin.copy_,p,run_underlying s,f,g,gb r,c,aU,goInt,ai]
    ·exact P _ _ _ _ t e
    ·exact P _ _ _ _ t e
    ·simp at e
   ·simp at e
  ·simp at e
 ·simp at e
def EM(M:bD C A F h j aB w){t:Nat}{x:y}{c:b1}{bw:Array TypeId}{ty:TypeId}(d:bw[0]? =some t)(g:bd F x)(e:qN C h j t x=some c):
 m2 C A F h j aB w (Builtin.clear_ bw ty #[ai A x]) c:=by
 unfold qN at e
 split at e
 ·rename_i bZ f
  split at e
  ·rename_i ap z O n
   obtain⟨s,v⟩:=lz n A F w
   simp only[cg]at e
   obtain⟨G,e⟩:=e
   have i:∀(b D len cap:Nat),F b->aT (Nat.beq len 0) (some (b1.val (.tuple []))) (match gX C h b D (eA len z.cells)with|some h=>some (.cy (.tuple []) h j)|none=>none)=some c->
    m2 C A F h j aB w (Builtin.clear_ bw ty #[.slice (some ⟨(A b).bc,(A b).b5+D,none⟩) len cap]) c:=by
    intro b D len cap ab a
    rw[d5]at a
    split at a
    ·rename_i au
     subst au
     simp at a;subst a
     refine eE.same M ?_ trivial
     simp[Builtin.clear_,d,run_underlying f,ai,aU]
    ·rename_i au
     obtain⟨len,rfl⟩:∃o,len=o+1:=⟨len-1,Zo⟩
     split at a
     ·rename_i E m
      simp at a;subst a
      obtain⟨aM,bf,bo,r⟩:=pj M (bv:=j) ab (rH (iR v) _) m
      refine⟨A,F,aM, ?_,trivial,bo,r,Zp _⟩
      have p:=Bf A z (len+1)
      simp[Builtin.clear_,d,run_underlying f,ai,aU,s,p,bf]
     ·simp at a
   split at e
   ·simp at e;subst e
    refine eE.same M ?_ trivial
    simp[Builtin.clear_,d,run_underlying f,ai,aU]
   ·exact i _ _ _ _ g e
   ·exact i _ _ _ _ g e
   ·simp at e
  ·simp at e
 ·simp at e
def Gi(w:World)(a7:Array Value)(l:TypeId)(n:Nat):(w.alloc (.cells a7 l)).freeze ⟨w.heap.size,n,none⟩ 1=w.alloc (.cells a7 l (n,n+1)):=by
 unfold World.freeze
 rw[Zj Zd]
 show({w with heap:=(w.heap.push (.cells a7 l)).modify w.heap.size _}:World)={w with heap:=w.heap.push (.cells a7 l (n,n+1))}
 congr 1
 apply Array.ext_getElem?
 intro o
 rw[Y6,Array.getElem?_push,Array.getElem?_push]
 by_cases a:w.heap.size=o
 ·subst a;simp
 ·rw[Zj a,Zj (λl=>a l.symm),Zj (λl=>a l.symm)]
def Gh{p:Nat}{a7:Array Value}{ty:TypeId}{aF ak:Nat}(e:w.heap[p]? =some (.cells a7 ty (aF,ak)))(n:Nat):
 (w.freeze ⟨p,n,none⟩ 1).heap[p]? =some (.cells a7 ty (if aF==ak then(n,n+1)else(min aF n,max ak (n+1))))/\(∀o,o≠p->(w.freeze ⟨p,n,none⟩ 1).heap[o]? =w.heap[o]?):=by
 unfold World.freeze
 rw[Zj Zd]
 constructor
 ·simp only[Y6,ZP,e,ZJ]
 ·intro o a
  simp only[Y6]
  rw[Zj (λl=>a l.symm)]
def KX(M:bD C A F h j aB w)(cv:aB<=w.heap.size){s d:Nat}{x:Operand}{af:Operand->Value}{T6:Operand->Option y}{T5:b1}(T4:ei A F af T6 [x])(e:pP C s d x h j T6=some T5):
 m2 C A F h j aB w (convert s d (af x)) T5:=by
 unfold pP at e
 split at e
 ·rename_i l k m i a
  obtain⟨ex,g⟩:=T4 x Zs _ a
  split at e
  ·rename_i t
   obtain⟨UI,rfl⟩:=x4 e
   rw[ex]
   have UB:(cI k).size=k.length:=by simp[cI,ByteArray.size]
   have UJ:(cI k).data.size=k.length:=by simp[cI]
   have U1:=vb A k g
   have T9:cd F (k.map λn=>y.int .u8 (Int.ofNat n)):=by
    rw[iU];intro v UD;obtain⟨UK,_,rfl⟩:=ZB.1 UD;trivial
   obtain⟨cap,UH,U2⟩:∃cap,k.length<=cap/\(choose (.appendCap k.length 0 l)).run C.P w= .ok cap w.drew:=
    ⟨k.length+(w.tape w.drawn (.appendCap k.length 0 l))%(2^63-k.length),Zo,by simp[Question.forced,Question.cut]⟩
   have UA:(k.map λn=>y.int .u8 (Int.ofNat n)).length+(Array.replicate (cap-k.length) (Value.int .u8 0)).size=cap*1:=by simp;omega
   have U3:=x7 (C:=C) (A:=A) (w:=w) (j:=j) T9 (ig M) UA l []
   have U8:eF C (c2 A j ⟨w.heap.size,0,cap*1⟩) (add F j) (.cells (I.ofList (k.map λn=>y.int .u8 (Int.ofNat n)) 0 .nil) (k.map λn=>y.int .u8 (Int.ofNat n)).length (.grow [])) ⟨w.heap.size,0,cap*1⟩
    (w.drew.alloc (.cells ((aU A (k.map λn=>y.int .u8 (Int.ofNat n))).toArray++Array.replicate (cap-k.length) (Value.int .u8 0)) l (cap,cap+1))):=by
    obtain⟨a7,ty,aF,ak,b2,be,b6,c4⟩:=U3
    have X:=jp w.drew (.cells ((aU A (k.map λn=>y.int .u8 (Int.ofNat n))).toArray++Array.replicate (cap-k.length) (Value.int .u8 0)) l)
    have UC:w.drew.heap.size=w.heap.size:=rfl
    rw[UC]at X
    rw[X]at b2
    cases b2
    refine⟨_,l,cap,cap+1,jp w.drew _,⟨.inr ?_,be.2.1,be.2.2⟩,b6,c4⟩
    simp[eH];omega
   refine⟨c2 A j ⟨w.heap.size,0,cap*1⟩,add F j,_, ?_, .inr rfl,M.drew.alloc M.aP (Yo _) (Ye _) (ig M) cv rfl (by rw[cw _ M.aP,Zv rfl]) (λx a=> .inl (by rw[cw _ M.aP,Zj a])) U8
    ⟨λ_ _ _ e=>(by cases e;simp),λ_ _ _ e=>(by cases e;exact oV)⟩,tH M cv _ (λx a _=>by rw[cw _ M.aP,Zj a]),Ye _⟩
   have U9:((aU A (k.map λn=>y.int .u8 (Int.ofNat n))).toArray++Array.replicate (cap-k.length) (Value.int .u8 0)).size=cap:=by simp[eH];omega
   have T0:=Gi w.drew ((aU A (k.map λn=>y.int .u8 (Int.ofNat n))).toArray++Array.replicate (cap-k.length) (Value.int .u8 0)) l cap
   have z:w.drew.heap.size=w.heap.size:=rfl
   rw[z]at T0
   have P:(w.drew.alloc (.cells ((aU A (k.map λn=>y.int .u8 (Int.ofNat n))).toArray++Array.replicate (cap-k.length) (Value.int .u8 0)) l)).shape? w.heap.size=some (l,cap):=by
    have:=jp w.drew (.cells ((aU A (k.map λn=>y.int .u8 (Int.ofNat n))).toArray++Array.replicate (cap-k.length) (Value.int .u8 0)) l)
    rw[z]at this
    simp only[World.shape?,this,U9]
   simp only[convert,Sem.run_bind,run_underlying m,run_underlying i,run_underlying t,Result.andThen_ok,ai,Conv.stringToBytes,UB,U2,U1,newRow,run_newObj_alloc,z,Sem.run_pure,markStringish,run_shape,P,run_freeze,T0,
    fk,ZE,YI,ZV,Nat.div_one]
  ·simp at e
 ·rename_i UF l b D len cap m i a
  obtain⟨ex,g⟩:=T4 x Zs _ a
  split at e
  ·rename_i t
   simp only[cg,Zq]at e
   obtain⟨⟨O,U4⟩,e⟩:=e
   have O:s=d:=Zh O
   subst O
   have ab:C.aP<=b:=et U4
   rw[ex]
   have fin:∀(c:I y) (n:Nat) (st:h5),J C h b=some (.cells c n st)->(st= .own\/st= .marked)->∀E,J C E b=some (.cells c n .marked)->(∀x,x≠b->J C E x=J C h x)->
    eE C A F h j aB w (convert s s (ai A (.slice b D len cap))) (.slice b D len cap) E j:=by
    intro c n st f T3 E TY r
    obtain⟨a7,ty,aF,ak,aH,aZ,a3,a4⟩:=M.obj b _ f g
    have TZ:n5 (.cells c n st):=by rcases T3 with rfl|rfl<;>exact⟨Zs,Zs⟩
    have U6:aF=ak\/a7.size<=aF:=by rcases T3 with rfl|rfl;exact .inl aZ;exact aZ
    obtain⟨Y,Z⟩:=Gh aH a7.size
    have UG:=M.base b _ ab f g
    have U7:∃p G,(if aF==ak then(a7.size,a7.size+1)else(min aF a7.size,max ak (a7.size+1)))=(p,G)/\a7.size<=p:=by
     by_cases L:aF=ak
     ·exact⟨_,_,by rw[Zv (by simpa using L)],Zp _⟩
     ·refine⟨_,_,by rw[Zj (by simpa using L)], ?_⟩
      have:=U6.resolve_left L
      omega
    obtain⟨p,G,T7,T8⟩:=U7
    rw[T7]at Y
    refine⟨A,F,w.freeze ⟨(A b).bc,a7.size,none⟩ 1, ?_,g,M.put ab g f TY (λx a=> .inl (r x a)) (λo T1=>Z o T1) ?_ ⟨a7,ty,p,G,Y, .inr T8,a3,a4⟩ ⟨λ_ _ _ e=>(by cases e),λ_ _ _ e=>(by cases e;exact(M.cj b _ f g).2 _ _ _ rfl)⟩, ?_,Zp _⟩
    ·have P:w.shape? (A b).bc=some (ty,a7.size):=u0 aH
     have U0:(s==s)=true:=by simp
     simp only[convert,Sem.run_bind,run_underlying m,Result.andThen_ok,ai]
     rw[m]at i
     cases i
     simp only[U0,run_underlying t,Sem.run_bind,Result.andThen_ok,markStringish,run_shape,P,run_freeze,Sem.run_pure]
    ·intro x UE T2 a bQ U5
     rw[r x T2]at a
     exact M.alone ab g f TZ x UE T2 a bQ U5
    ·refine⟨λ_ _=>rfl,λ_ e=>e,λ_ e=> .inl e,λx a _=>r x (λl=>a (by rw[l];exact g)), ?_⟩
     refine⟨?_, ?_, ?_, ?_,λo T1=>Z o Zo⟩<;>simp[World.freeze]
   split at e
   ·rename_i c n f
    simp only[dF,Zu]at e
    subst e
    exact fin c n .own f (.inl rfl) _ (by rw[cw _ ab,Zv rfl]) (λx a=>by rw[cw _ ab,Zj a])
   ·rename_i c n f
    simp only[Zu]at e
    subst e
    exact fin c n .marked f (.inr rfl) h f (λ_ _=>rfl)
   ·simp at e
  ·simp at e
 ·simp at e
end
def dP(C:aC)(A:bE)(F:Nat->Prop)(h:I ae)(j aB:Nat)(w:World)(s:Sem Next)(a:b1):Prop:=match a with
 | .val v=>lV C A F h j aB w s v h j
 | .cy v E ar=>lV C A F h j aB w s v E ar
 | .fork k=>∃v E,(v,E)∈k/\lV C A F h j aB w s v E j
 | .enter f args=>s.run C.P w= .ok (.enter f (aU A args).toArray) w/\cd F args
 | .known f args v=>C.dy f args=some v/\s.run C.P w=(callFunc f (aU A args).toArray).run C.P w/\cd F args
 | .round k args=>s.run C.P w=(Instr.yield (A k).bc (aU A args).toArray).run C.P w/\cd F args/\F k
 | .defer d=>s.run C.P w= .ok (.defer (fz A d)) w/\ka F d
 | .recover=>s.run C.P w= .ok .recover w
 | .panic v=>s.run C.P w= .halt (.panic (ai A v)) w/\bd F v
section
variable{C:aC}{A bF:bE}{F bu:Nat->Prop}{h E:I ae}{j ar aB:Nat}{w aM:World}
def dP.one{s:Sem Value}{a:b1}(e:m2 C A F h j aB w s a):dP C A F h j aB w (do pure (.value (<-s))) a:=by
 cases a with
 |val v=>exact eE.done e
 |cy v E ar=>exact eE.done e
 |fork k=>obtain⟨v,E,b,c⟩:=e;exact⟨v,E,b,c.done⟩
 |_=>exact e.elim
def dP.cy{s:Sem Value}{a:b1}(e:∃v E ar,a= .cy v E ar/\eE C A F h j aB w s v E ar):dP C A F h j aB w (do pure (.value (<-s))) a:=by
 obtain⟨v,E,ar,rfl,e⟩:=e
 exact e.done
def dP.app(M:bD C A F h j aB w){s:Sem Value}{c:b1}(e:sM C A F h j aB w s c):dP C A F h j aB w (do pure (.value (<-s))) c:=by
 rcases e with ⟨v,E,ar,rfl,bF,bu,aM,a,b,d,f,g⟩|⟨v,rfl,a,b⟩
 ·exact eE.done ⟨bF,bu,aM,a,b,d,f,g⟩
 ·exact eE.done (.same M b a)
def dP.unit{s:Sem Unit}{a:b1}(e:∃E aM,a= .cy undef E j/\s.run C.P w= .ok () aM/\bD C A F E j aB aM/\dW C j A F h aB w A F E aM):
 dP C A F h j aB w (do s;pure .skip) a:=by
 obtain⟨E,aM,rfl,b,c,d⟩:=e
 exact⟨A,F,aM, .skip,by simp[b], .inr ⟨rfl,rfl⟩,by trivial,c,d,Zp _⟩
def dP.congr{s b:Sem Next}{a:b1}(e:s.run C.P w=b.run C.P w)(o:dP C A F h j aB w b a):dP C A F h j aB w s a:=by
 cases a<;>simp only[dP,lV]at o ⊢ <;>rw[e]<;>exact o
def tg(eQ:kD C.P){f:Nat}{args:List y}{b:b1}(g:cd F args)(e:iv C f args=some b):dP C A F h j aB w (callFunc f (aU A args).toArray) b:=by
 unfold iv at e
 split at e
 ·rename_i v i
  simp at e;subst e
  exact⟨i,rfl,g⟩
 ·split at e
  ·rename_i fn a
   split at e
   ·rename_i c ab
    simp at e;subst e
    refine⟨?_,g⟩
    have d:fn.name≠ "runtime.NumGoroutine":=by simpa using eQ.num f fn a (by simp[ab])
    simp[callFunc,a,d,ab]
   ·simp at e
  ·simp at e
def ye(eQ:kD C.P){fn:Fn}{a args:List y}{c:b1}(d:rF F fn)(nu:cd F a)(b:cd F args)(e:l2 C fn a args=some c):
 dP C A F h j aB w (invoke (.fn (ga A fn) (aU A a).toArray) (aU A args).toArray) c:=by
 unfold l2 at e
 split at e
 ·rename_i f
  have l:invoke (.fn (ga A (.func f)) (aU A a).toArray) (aU A args).toArray=callFunc f (aU A (args++a)).toArray:=by
   simp[invoke,ga,nh]
  rw[l]
  exact tg eQ (ml b nu) e
 ·rename_i k
  simp at e;subst e
  exact⟨rfl,b,d⟩
 ·simp at e
def Ie(M:bD C A F h j aB w)(eQ:kD C.P){t:Nat}{v:y}{name:String}{args:List y}{r:b1}(dH:bd F v)(O:cd F args)(e:oh C h t v name args=some r):
 dP C A F h j aB w (callMethod (.iface t (ai A v)) name (aU A args).toArray) r:=by
 obtain⟨o,Z⟩:∃o,C.P.types.size+Made.depth=o+1:=⟨C.P.types.size+99,rfl⟩
 have go:∀(f:Nat) (x:y),bd F x->(method (o+1) t (ai A v) name).run C.P w= .ok (f,ai A x) w->iv C f (x::args)=some r->dP C A F h j aB w (callMethod (.iface t (ai A v)) name (aU A args).toArray) r:=by
  intro f x P g Y
  refine(tg (A:=A) (h:=h) (j:=j) (aB:=aB) (w:=w) eQ (args:=x::args) (show bd F x/\cd F args from⟨P,O⟩) Y).congr ?_
  simp[callMethod,Z,g,aU]
 unfold oh at e
 split at e
 ·rename_i i ak
  split at e
  ·rename_i m g
   simp only[cg]at e
   obtain⟨z,e⟩:=e
   have G:m.path.toList=[]:=by simpa using z
   split at e
   ·rename_i f l c n
    refine go f v dH ?_ e
    simp[method,typeInfo,ak,g,G,follow,c,receiverAt,run_underlying n,Place.get]
   ·rename_i f l c n
    split at e
    ·rename_i x p
     obtain⟨s,X⟩:=wV M dH p
     refine go f x X ?_ e
     cases v with
     |ptr b D=>
      simp only[Instr.loadAt,Instr.sureAddr,ai,Sem.run_bind,Sem.run_pure,Result.andThen_ok]at s
      have T2:∀(d7:TypeId) (a:Addr) (nm:String),Builtin.ssaWrapNilChk_ #[d7] d7 #[.pointer (some a),strVal "",strVal nm]=pure (.pointer (some a)):=λ_ _ _=>rfl
      have T1:m.path= #[]:=by simpa using z
      simp[method,typeInfo,ak,g,T1,follow,c,receiverAt,run_underlying n,Place.get,ai,T2,asAddr,s]
     |_=>simp[iO,br,W]at p;split at p<;>simp at p
    ·simp at e
   ·rename_i f d T0 c n
    refine go f v dH ?_ e
    cases d<;>first
     |exact(T0 _ rfl).elim
     |simp[method,typeInfo,ak,g,G,follow,c,receiverAt,run_underlying n,Place.get]
   ·simp at e
  ·simp at e
 ·simp at e
def Ez(M:bD C A F h j aB w)(cv:aB<=w.heap.size)(eQ:kD C.P){b:Builtin}{args:Array Operand}{bw:Array TypeId}{ty:TypeId}{G:Array Bool}{af:Operand->Value}{z:Operand->Option y}{r:b1}
 (i:ei A F af z args.toList)(e:pI C b args bw h j z=some r):dP C A F h j aB w (builtin b bw ty G (args.map af)) r:=by
 have f:∀{t:Nat}{rest:List Nat},bw.toList=t::rest->bw[0]? =some t:=λa=>by rw[<-ZK,a];rfl
 have p:∀{t N:Nat}{rest:List Nat},bw.toList=t::N::rest->bw[1]? =some N:=λa=>by rw[<-ZK,a];rfl
 unfold pI at e
 split at e
 ·rename_i s x c
  obtain⟨aH,aZ⟩:=iw i c
  rw[aH]
  split at e
  ·rename_i st d7 rest a
   split at e
   ·rename_i L g
    split at e
    ·rename_i n P
     exact dP.app M (DQ (ty:=ty) M cv (f a) (p a) g aZ.1 P e)
    ·simp at e
   ·rename_i l g
    exact dP.app M (wR (ty:=ty) M cv (f a) (p a) g (.inr ⟨l,rfl⟩) aZ.1 aZ.2.1 e)
   ·rename_i g
    exact dP.app M (wR (ty:=ty) M cv (f a) (p a) g (.inl rfl) aZ.1 aZ.2.1 e)
   ·simp at e
  ·simp at e
 ·rename_i d x c
  obtain⟨aH,aZ⟩:=iw i c
  rw[aH]
  split at e
  ·rename_i st rest a
   exact dP.one (EP (ty:=ty) M (f a) aZ.1 aZ.2.1 e)
  ·simp at e
 ·rename_i c
  simp at e;subst e
  exact rfl
 ·rename_i x c
  obtain⟨aH,aZ⟩:=iw i c
  rw[aH]
  split at e
  ·rename_i t rest a
   exact dP.one (EM (ty:=ty) M (f a) aZ.1 e)
  ·simp at e
 ·rename_i m o c
  obtain⟨aH,aZ⟩:=iw i c
  rw[aH]
  split at e
  ·rename_i t rest a
   obtain⟨v,E,rfl,O⟩:=E1 (ty:=ty) M (f a) aZ.1 aZ.2.1 e
   exact eE.done O
  ·simp at e
 ·simp at e
def DR(M:bD C A F h j aB w)(cv:aB<=w.heap.size)(eQ:kD C.P){oper:Oper}{af:Operand->Value}{z:Operand->Option y}{p:b1}(i:ei A F af z oper.op.operands.toList)
 (e:gi oper.op C h j z=some p):dP C A F h j aB w (execOp af oper) p:=by
 obtain⟨dst,op,type,pos,after,guard⟩:=oper
 have Y:∀t m o x,ei A F af z [m,o,x]->oH C t m o x h j z=some p->dP C A F h j aB w (do Instr.mapUpdate t (af m) (af o) (af x);pure .skip) p:=by
  intro t m o x i e
  unfold oH at e
  split at e
  ·rename_i a b c T8 ab T9
   obtain⟨T0,T3⟩:=i m Zs a T8
   obtain⟨T1,T4⟩:=i o Zs b ab
   obtain⟨T2,T5⟩:=i x Zs c T9
   obtain⟨E,aM,G,O,T6,T7⟩:=DX M T3 T4 T5 e
   rw[T0,T1,T2]
   exact dP.unit ⟨E,aM,G,O,T6,T7⟩
  ·simp at e
 cases op<;>simp only[gi]at e<;>(try(cases e;done))<;>simp only[execOp]<;>simp only[Op.operands]at i
 case mapUpdate t m o x=>exact Y t m o x (by simpa using i) e
 case insert t m o x=>exact Y t m o x (by simpa using i) e
 case mapEntry t m o=>
  obtain⟨v,E,G,O⟩:=H3 M (by simpa using i) e
  exact dP.cy ⟨v,E,j,G,O⟩
 case entryStore t m s x=>exact dP.unit (Ft M (by simpa using i) e)
 case makeSlice t k c=>exact dP.cy (H1 M cv (by simpa using i) e)
 case makeMap t r=>
  cases r with
  |none=>simp at e
  |some r=>exact dP.cy (HZ M cv (by simpa using i) e)
 case convert s d x=>exact dP.one (KX M cv (by simpa using i) e)
 case range t x=>exact dP.cy (Jr M cv (by simpa using i) e)
 case next TZ s=>exact dP.one (It M (by simpa using i) e)
 case panic x=>
  unfold t1 at e
  split at e
  ·rename_i t v n
   simp at e;subst e
   obtain⟨l,g⟩:=i x Zs _ n
   refine⟨?_,g⟩
   simp[Instr.panic,l,ai]
  ·simp at e
 case defer c=>
  unfold tZ at e
  split at e
  ·rename_i f args bw
   split at e
   ·rename_i fn first Z X P has
    simp at e;subst e
    simp only[Call.operands]at i
    obtain⟨l,g⟩:=i f Zs _ P
    obtain⟨aH,aZ⟩:=iw (i.mono (by simp;intro x n;exact .inr n)) has
    refine⟨?_,⟨g.1,g.2.2⟩,ml g.2.1 aZ⟩
    simp[resolve,l,ai,Deferred.ofValue,aH,fz,nd,nh]
   ·simp at e
  ·simp at e
 case call c=>
  unfold nv at e
  split at e
  ·rename_i f args bw
   split at e
   ·rename_i fn first Z X P has
    simp only[Call.operands]at i
    obtain⟨l,g⟩:=i f Zs _ P
    obtain⟨aH,aZ⟩:=iw (i.mono (by simp;intro x n;exact .inr n)) has
    refine(ye (A:=A) (h:=h) (j:=j) (aB:=aB) (w:=w) eQ g.1 g.2.2 (ml g.2.1 aZ) e).congr ?_
    simp[resolve,l,ai,Deferred.ofValue,aH,nh]
   ·simp at e
  ·rename_i b args bw
   simp only[Call.operands]at i
   show dP C A F h j aB w (builtin b bw type _ (args.map af)) p
   exact Ez M cv eQ (i.mono Zs) e
  ·rename_i r name args bw
   split at e
   ·rename_i t v X TY has
    simp only[Call.operands]at i
    obtain⟨l,g⟩:=i r Zs _ TY
    obtain⟨aH,aZ⟩:=iw (i.mono (by simp;intro x n;exact .inr n)) has
    refine(Ie (v:=v) M eQ g aZ e).congr ?_
    simp[resolve,l,ai,invoke,aH]
   ·simp at e
end
end Go.S

