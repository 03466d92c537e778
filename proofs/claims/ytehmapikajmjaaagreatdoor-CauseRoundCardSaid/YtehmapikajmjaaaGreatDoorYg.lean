/- Part of the proof of the last text; no conditions -/
import Derived.Test.YtehmapikajmjaaaGreatDoorYf
set_option maxHeartbeats 8000000
set_option linter.all false
namespace Go.aF
noncomputable section
section
variable{C:al}{q:E S}{u:Nat}
def aM{b:Nat}{I:Option S}(h:C.aB<=b):H C (aH C q b I) b=I:=by rw[dm _ h,Zv rfl]
def ah{b x:Nat}{I:Option S}(h:C.aB<=b)(a:x≠b):H C (aH C q b I) x=H C q x:=by rw[dm _ h,Zi a]
def z6{p:Prop}(h:p:=by simp(disch:=omega) only[ah,aM]<;>rfl):p:=h
def bB(b I:Nat):ay C q (.ptr b I)=match H C q b with|some (.cells c _ _)=>c.get I|_=>none:=by simp only[ay,cellsOf];grind
def lf(n b I:Nat):ca C q n (.ptr b I)=match H C q b with|some (.cells c _ _)=>(c.gs I n).map z.agg|_=>none:=by simp only[ca,cellsOf];grind
def F7(c:E z)(I:Nat):c.gs I 0=some []:=rfl
def fR:∀(l:List z) (c:E z) (I i:Nat),(cj c I l).get i=if I<=i/\i<I+l.length then l[i-I]? else c.get i:=by intro l;induction l with|nil=>intro c I i;simp[cj];intro b d;omega|cons a l U=>intro c I i;simp only[cj,du];rw[U,E.e0];grind
def pg{b I n:Nat}{c:E z}{st:iu}(h:C.aB<=b):ay C (aH C q b (some (.cells c n st))) (.ptr b I)=c.get I:=by rw[bB,aM h]
def qM{b x I:Nat}{bU:Option S}(h:C.aB<=b)(a:x≠b):ay C (aH C q b bU) (.ptr x I)=ay C q (.ptr x I):=by rw[bB,bB,ah h a]
def ld(C:al)(q:E S)(b:Nat):Nat->Nat->Option (List z)
 |_,0=>some []|I,n+1=>(ay C q (.ptr b I)).bind λa=>(ld C q b (I+1) n).bind λl=>some (a::l)
def qN{b I n:Nat}:ca C q (n+1) (.ptr b I)=(ld C q b I (n+1)).bind λl=>some (.agg l):=by
 have h:∀(c:E z) (m:Nat) (st:iu),H C q b=some (.cells c m st)->∀n I,ld C q b I n=c.gs I n:=by intro c m st W n;induction n with|zero=>intro I;rfl|succ n U=>intro I;simp only[ld,E.gs,bB,W,U];grind
 rw[lf];cases W:H C q b with|none=>simp[ld,bB,W]|some bU=>cases bU with|cells c m st=>simp only[h c m st W];cases c.gs I (n+1)<;>rfl|_=>simp[ld,bB,W]
structure aU(C:al)(q:E S)(u:Nat)(D:E S)(Z:Nat):Prop where
 le:u<=Z
 M:∀b,b<u->H C D b=H C q b
def aU.refl(q:E S)(u:Nat):aU C q u q u:=⟨Zg _,λ_ _=>rfl⟩
def aU.trans{au am a:E S}{ap aw c:Nat}(h:aU C au ap am aw)(k:aU C am aw a c):aU C au ap a c:=
 ⟨ZE h.le k.le,λb W=>(k.M b (ZV W h.le)).trans (h.M b W)⟩
def aU.dn{D:E S}{Z:Nat}(h:aU C q u D Z)(b I:Nat)(W:b<u):ay C D (.ptr b I)=ay C q (.ptr b I):=by rw[bB,bB,h.M b W]
def aU.fresh(h:C.aB<=u)(bU:Option S):aU C q u (aH C q u bU) (u+1):=
 ⟨Yb _,λb W=>ah h Zo⟩
def aU.more{D:E S}{Z n:Nat}(k:aU C q u D Z)(h:Z<=n):aU C q u D n:=⟨ZE k.le h,k.M⟩
def aU.gx{D:E S}{Z bQ:Nat}(k:aU C q u D Z)(h:bQ<=u):aU C q bQ D Z:=⟨ZE h k.le,λb W=>k.M b (ZV W h)⟩
def jF{b I n:Nat}{c:E z}{v:z}(h:H C q b=some (.cells c n .own))(W:C.aB<=b)(g:I+1<=n)(f:v.cells=[v])(e:hI v=true):
 cW C q 1 (.ptr b I) v=some (aH C q b (some (.cells (c.set I (some v)) n .own))):=by
 have a:Nat.ble (I+1) n=true:=by simp_all
 have d:Nat.ble C.aB b=true:=by simp_all
 simp[cW,f,g5,h,eB,dU,e,a,d,cj]
def qt:List z->List (Nat×Nat×z)->Option (List z)
 |cells,[]=>some cells|cells,(off,size,v)::rest=>ba (Nat.beq v.cells.length size&&Nat.ble (off+size) cells.length) (qt (ih cells off v.cells) rest) none
def dl(ao:List z)(b4:List (Nat×Nat×z)):Option z:=match qt ao b4 with|some cs=>some (.agg cs)|none=>none
def fX(ao:List z)(b:Nat):Option (z×S):=some (.ptr b 0,.cells (E.ofList ao 0 .nil) ao.length .own)
def ea(len:Nat)(ao:List z)(b4:List (Nat×Nat×z))(b:Nat):Option (z×S):=match qt ao b4 with
 |some cs=>some (.slice b 0 len len,.cells (E.ofList cs 0 .nil) cs.length .own)|none=>none
def kv(agg:Bool)(off size:Nat)(v:z):Option z:=match v with| .agg cs=>ba agg (some (.agg ((cs.drop off).take size))) (kF cs off)|_=>none
def c0(v:z):Option z:=match v with| .slice _ _ n _=>hC .i64 (Int.ofNat n)| .cq _ _ n _=>hC .i64 (Int.ofNat n)| .ax=>some (.int .i64 0)| .gf .. =>some (.int .i64 0)|_=>none
def hG(v:z):Option z:=match v with| .str s=>hC .i64 (Int.ofNat s.length)|_=>none
def AY(C:al)(q:E S)(v:z):Option z:=match v with
 | .gO=>some (.int .i64 0)| .map r=>(match H C q r with|some (.map a _)=>hC .i64 (Int.ofNat a.length)|_=>none)|_=>none
def hA(k:IntKind)(v:z):Option z:=match (match v with| .int _ n=>gj k n|_=>none)with|some v=>some v|none=>none
def O2(v:z):Option z:=match (match v with| .str s=>some (z.str s)|_=>none)with|some v=>some v|none=>none
def oV(C:al)(q:E S)(v:z):Option z:=match (match v with| .str s=>some (z.str s)|_=>none)with|some v=>some v|none=>sk C q v
def lC(t:Nat)(aj:z)(ok:Bool)(v:z):Option z:=match v with
 | .nilIface=>ba ok (some (.tuple [aj,.bool false])) none| .iface eu w=>ba (Nat.beq eu t) (some (ba ok (.tuple [w,.bool true]) w)) (ba ok (some (.tuple [aj,.bool false])) none)|_=>none
def fb(C:al)(q:E S)(dY:Nat)(aj m k:z)(ok:Bool):Option z:=
 match (match m with
  | .gO=>ba (hj C 20 dY k) (some none) none| .map r=>(match H C q r with|some (.map a _)=>ba (hj C 20 dY k) (findKey C q dY k a 0) none|some (.look a)=>ba (hj C 20 dY k) (s0 (jx C q dY k a)) none|_=>none)|_=>none)with
  |none=>none|some none=>some (ba ok (.tuple [aj,.bool false]) aj)|some (some (_,v))=>some (ba ok (.tuple [v,.bool true]) v)
def eV(C:al)(q:E S)(u aN:Nat)(s x:z):Option ck:=match fQ C q aN x with
 |some (n,l)=>ba (Nat.beq n 0) (mM C q aN s) (jU C q u aN n l s)|none=>none
def ib(C:al)(q:E S)(u dY:Nat)(m k v:z):Option ck:=match m with
 | .map r=>(match H C q r with
   |some (.map a bz)=>ba (hj C 20 dY k) (match findKey C q dY k a 0 with
    |some (some (i,_))=>(match kF a i with
     |some (b,_,born)=>ba (hS 20 b k) (setObj C q u r (.map (a.set i (k,v,born)) bz) undef) none|none=>none)
    |some none=>setObj C q u r (.map (a++[(k,v,bz)]) (bz+1)) undef|none=>none) none
   |_=>none)
 |_=>none
def ky(agg:Bool)(n aN:Nat)(v i:z):Option z:=match hc i with
 |none=>none|some i=>match v with
  | .agg cs=>ba (Nat.blt i n) (ba agg (some (.agg ((cs.drop (i*aN)).take aN))) (kF cs (i*aN))) none|_=>none
def ia(v i:z):Option z:=match hc i with
 |none=>none|some i=>match v with
  | .str s=>(match kF s i with|some c=>some (.int .u8 (Int.ofNat c))|none=>none)|_=>none
def hJ(v:z)(aT ag:Option z):Option z:=match v with
 | .str s=>(match fW s.length s.length aT ag none with
    |some (l,h,_)=>some (.str ((s.drop l).take (h-l)))|none=>none)
 |_=>none
def fw(C:al)(q:E S)(aN:Nat)(x:z)(aT ag c:Option z):Option z:=match x with
 | .slice b I len cap=>(match fW len cap aT ag c with
   |some (l,h,m)=>some (.slice b (ba (Nat.beq m l) I (I+l*aN)) (h-l) (m-l))|_=>none)
 | .ax=>(match fW 0 0 aT ag c with
   |some _=>some .ax|_=>none)
 | .cq b I len a=>(match ii C q b with
   |some n=>ba (Nat.beq a aN&&Nat.blt 0 a) (match fW len ((n-I)/a) aT ag c with
     |some (l,h,m)=>(match c with
      |some _=>some (.slice b (ba (Nat.beq m l) I (I+l*a)) (h-l) (m-l))|none=>ba (Nat.blt l ((n-I)/a)||Nat.beq l 0) (some (.cq b (I+l*a) (h-l) a)) (ba (Nat.beq h l) (some (.gf b I l a)) none))
     |none=>none) none
   |_=>none)
 |_=>none
def BO(n aN:Nat)(x:z)(aT ag a:Option z):Option z:=match x with
 | .ptr b I=>(match fW n n aT ag a with
   |some (l,h,m)=>some (.slice b (ba (Nat.beq m l) I (I+l*aN)) (h-l) (m-l))|_=>none)
 |_=>none
def BJ(C:al)(q:E S)(u:Nat)(v:z):Option ck:=match v with
 | .str s=>fE C q u (.iH s 0) λb=> .ptr b 0|_=>none
def BI(C:al)(q:E S)(u:Nat)(v:z):Option ck:=match v with
 | .gO=>fE C q u (.fD none 0 [] 0) λb=> .ptr b 0| .map r=>(match H C q r with
   |some (.map _ bz)=>fE C q u (.fD (some r) bz [] bz) λb=> .ptr b 0|_=>none)
 |_=>none
def xF(C:al)(q:E S)(u:Nat)(v:z):Option ck:=match v with
 | .str l=>k6 C q u l.length 1 (l.map λn=>z.int .u8 (Int.ofNat n))|_=>none
def w4(C:al)(q:E S)(u aN:Nat)(aj:List z)(l c:z):Option ck:=match hc l,hc c with
 |some l,some c=>ba (Nat.ble l c&&Nat.ble c 1048576&&true&&true&&true) (fE C q u (.cells (E.ofList (fj c aj) 0 .nil) (c*aN) .own) λb=> .slice b 0 l c) none|_,_=>none
def hq{α:Type}{a:α}{T:α->Prop}(h:T a):aa (some a) T:=⟨h⟩
def iF{α:Type}{a:α}{T:α->Prop}(h:T a):bu (some a) T:=h
def mQ{a:z}{T:aY}(h:T (.ptr u 0) (aH C q u (some (.cells (E.ofList a.cells 0 .nil) a.cells.length .own))) (u+1)):eW C q u a T:=⟨h⟩
def Bi{v:z}{bU:S}{T:aY}(h:T v (aH C q u (some bU)) (u+1)):dQ C q u v bU T:=⟨h⟩
def Bj{v:z}{bU:S}{T:aY}(h:T v (aH C q u (some bU)) (u+1)):dQ C q u (Prod.mk v bU).1 (Prod.mk v bU).2 T:=⟨h⟩
def Bh{b:Nat}{v:z}{bU:S}{T:z->E S->Prop}(h:T v (aH C q b (some bU))):hb C q b (Prod.mk v bU).1 (Prod.mk v bU).2 T:=⟨h⟩
def yM{b:Nat}{a:z}{T:z->E S->Prop}(h:T (.ptr b 0) (aH C q b (some (.cells (E.ofList a.cells 0 .nil) a.cells.length .own)))):nF C q b a T:=⟨h⟩
def Bg{b:Nat}{v:z}{bU:S}{T:z->E S->Prop}(h:T v (aH C q b (some bU))):hb C q b v bU T:=⟨h⟩
def dN{a:ds}{body:ds->Prop}(h:body a):aJ a body:=⟨h⟩
def AG{a:aY}{body:aY->Prop}(h:body a):iY a body:=⟨h⟩
def AC{a:z->Prop}{body:(z->Prop)->Prop}(h:body a):bT a body:=⟨h⟩
def AD{a:z->E S->Prop}{body:(z->E S->Prop)->Prop}(h:body a):mi a body:=⟨h⟩
def AF{a:Prop}{body:Prop->Prop}(h:body a):AE a body:=⟨h⟩
def AZ{n:Nat}{T:Nat->Prop}(h:T n):cU n T:=⟨h⟩
def BE{v:z}{D:E S}{Z:Nat}{T:aY}(h:T v D Z):ek (some (.cJ v D Z)) q u T:=⟨h⟩
def BF{v:z}{T:aY}(h:T v q u):ek (some (.val v)) q u T:=⟨h⟩
def mP{a b:Prop}(h:a):av (.bool true) a b:=⟨⟨λ_=>h,λe=>(by cases e)⟩⟩
def mO{a b:Prop}(h:b):av (.bool false) a b:=⟨⟨λe=>(by cases e),λ_=>h⟩⟩
def sJ{a b:Prop}(h:a):e8 true (.bool true) a b:=⟨⟨λ_=>h,λe=>(by cases e)⟩⟩
def sI{a b:Prop}(h:b):e8 true (.bool false) a b:=⟨⟨λe=>(by cases e),λ_=>h⟩⟩
def sH{a b:Prop}(h:b):e8 false (.bool true) a b:=⟨⟨λe=>(by cases e),λ_=>h⟩⟩
def sG{a b:Prop}(h:a):e8 false (.bool false) a b:=⟨⟨λ_=>h,λe=>(by cases e)⟩⟩
def uA{f:Nat}{a c b:List z}{T ab:aY}(h:aD C f ((a++c)++b) q u T ab):e9 C (.func (.func f) a b) c q u T ab:=⟨h⟩
def d9{x o:z}{T:Prop}(h:z.same 30 x o=true)(k:T):d3 x (some o) T:=⟨⟨h,k⟩⟩
@[congr] def adt{v c:z}{a b:Prop}(h:v=c):av v a b=av c a b:=by rw[h]
@[congr] def adz{w:Bool}{v c:z}{a b:Prop}(h:v=c):e8 w v a b=e8 w c a b:=by rw[h]
@[congr] def adu{f:Nat}{a b:List z}{T ab:aY}(h:a=b):aD C f a q u T ab=aD C f b q u T ab:=by rw[h]
def aD.mono{f:Nat}{c:List z}{T ab e g:aY}(h:aD C f c q u T ab)(d:∀R D Z,T R D Z->e R D Z)(j:∀R D Z,ab R D Z->g R D Z):aD C f c q u e g:=by
 rcases h.out with ⟨R,a,b⟩|⟨a,b,i⟩
 ·exact⟨.inl ⟨R,a,d _ _ _ b⟩⟩
 ·exact⟨.inr ⟨a,b,i.mono d j⟩⟩
def wy{f a:Nat}(h:bJ C f a=true):∃fn c,C.P.funcs[f]? =some fn/\fn.body=some c:=by unfold bJ at h;grind
def bL{f:Nat}{a:List z}{T ab:aY}(b:bJ C f a.length=true)(c:C.eC f a=none)(h:bP C f a q u T ab):aD C f a q u T ab:=
 ⟨.inr ⟨c,wy b,Qj b h⟩⟩
def qe{f:Nat}{a:List z}{T ab:aY}{R:z}(b:C.eC f a=some R)(h:T R q u):aD C f a q u T ab:=⟨.inl ⟨R,b,h⟩⟩
def oa(B:bS)(d n:Nat)(v:z):(J B d v).g n=if d=n then some v else B.g n:=by show ba (Nat.beq d n) (some v) (B.g n)=_;rw[ee]
def ni(B:bS)(d:Nat)(v:z):(J B d v).aP=B.aP:=rfl
def rx(B:bS)(d:Nat)(v:z):(J B d v).rc=B.rc:=rfl
def p9(l:List z)(n:Nat):(bN l).g n=l[n]? :=by simp[bN]
def oP(l:List z):(bN l).aP=[]:=rfl
def qa(l:List z):(bN l).rc=false:=rfl
def ma(l:List Nat)(B:bS)(n:Nat):(eI l B).g n=ba (gN n l) none (B.g n):=rfl
def rr(B:bS)(d:eD)(n:Nat):(n6 B d).g n=B.g n:=rfl
def rq(B:bS)(d:eD):(n6 B d).aP=d::B.aP:=rfl
def qU(B:bS)(d n:Nat):(nY B d).g n=B.g n:=rfl
def nZ(B:bS)(d:Nat):(nY B d).aP=⟨.collected d,[]⟩::B.aP:=rfl
def tX{f:Nat}{a:List z}{T ab:aY}(b:bJ C f a.length=true)(c:C.eC f a=none)(h:o2 C f a q u T ab):aD C f a q u T ab:=
 ⟨.inr ⟨c,wy b,Qk b h⟩⟩
def E8{f:Nat}{a:List z}{T ab:aY}(e:C.eC f a=none)(h:aD C f a q u T ab):l0 C f a q u T ab:=by
 rcases h.out with ⟨R,b,c⟩|⟨b,c,d⟩
 ·grind
 ·grind
def sp{p:Prop}[Decidable p]{a b:Prop}(c:p->a)(d:¬p->b):av (.bool (decide p)) a b:=⟨λe=>c (by simpa using e),λe=>d (by simpa using e)⟩
def kz(b I:Nat):ca C q 2 (.ptr b I)=(ay C q (.ptr b I)).bind λa=>(ay C q (.ptr b (I+1))).bind λc=>some (.agg [a,c]):=by rw[qN];simp only[ld,YS,Z5]
def mn(b I:Nat):ca C q 3 (.ptr b I)=(ay C q (.ptr b I)).bind λa=>(ay C q (.ptr b (I+1))).bind λc=>(ay C q (.ptr b (I+2))).bind λd=>some (.agg [a,c,d]):=by rw[qN];simp only[ld,YS,Z5]
def pi(b I:Nat):ca C q 4 (.ptr b I)=(ay C q (.ptr b I)).bind λa=>(ay C q (.ptr b (I+1))).bind λc=>(ay C q (.ptr b (I+2))).bind λd=>(ay C q (.ptr b (I+3))).bind λe=>some (.agg [a,c,d,e]):=by rw[qN];simp only[ld,YS,Z5]
def mo(b I:Nat):ca C q 6 (.ptr b I)=(ay C q (.ptr b I)).bind λa=>(ay C q (.ptr b (I+1))).bind λc=>(ay C q (.ptr b (I+2))).bind λd=>(ay C q (.ptr b (I+3))).bind λe=>(ay C q (.ptr b (I+4))).bind λf=>(ay C q (.ptr b (I+5))).bind λg=>some (.agg [a,c,d,e,f,g]):=by rw[qN];simp only[ld,YS,Z5]
def qP(b I:Nat):ca C q 7 (.ptr b I)=(ay C q (.ptr b I)).bind λa=>(ay C q (.ptr b (I+1))).bind λc=>(ay C q (.ptr b (I+2))).bind λd=>(ay C q (.ptr b (I+3))).bind λe=>(ay C q (.ptr b (I+4))).bind λf=>(ay C q (.ptr b (I+5))).bind λg=>(ay C q (.ptr b (I+6))).bind λh=>some (.agg [a,c,d,e,f,g,h]):=by rw[qN];simp only[ld,YS,Z5]
def qQ(b I:Nat):ca C q 8 (.ptr b I)=(ay C q (.ptr b I)).bind λa=>(ay C q (.ptr b (I+1))).bind λc=>(ay C q (.ptr b (I+2))).bind λd=>(ay C q (.ptr b (I+3))).bind λe=>(ay C q (.ptr b (I+4))).bind λf=>(ay C q (.ptr b (I+5))).bind λg=>(ay C q (.ptr b (I+6))).bind λh=>(ay C q (.ptr b (I+7))).bind λi=>some (.agg [a,c,d,e,f,g,h,i]):=by rw[qN];simp only[ld,YS,Z5]
def qO(b I:Nat):ca C q 11 (.ptr b I)=(ay C q (.ptr b I)).bind λa=>(ay C q (.ptr b (I+1))).bind λc=>(ay C q (.ptr b (I+2))).bind λe=>(ay C q (.ptr b (I+3))).bind λf=>(ay C q (.ptr b (I+4))).bind λg=>(ay C q (.ptr b (I+5))).bind λh=>(ay C q (.ptr b (I+6))).bind λi=>(ay C q (.ptr b (I+7))).bind λj=>(ay C q (.ptr b (I+8))).bind λk=>(ay C q (.ptr b (I+9))).bind λl=>(ay C q (.ptr b (I+10))).bind λd=>some (.agg [a,c,e,f,g,h,i,j,k,l,d]):=by rw[qN];simp only[ld,YS,Z5]
def rJ(z0 a0:z):cj (E.ofList [z0] 0 .nil) 0 [a0]=E.ofList [a0] 0 .nil:=by rfl
def rL(z0 a a0 aL:z):cj (E.ofList [z0,a] 0 .nil) 0 [a0,aL]=E.ofList [a0,aL] 0 .nil:=by rfl
def rM(z0 a b a0 aL bt:z):cj (E.ofList [z0,a,b] 0 .nil) 0 [a0,aL,bt]=E.ofList [a0,aL,bt] 0 .nil:=by rfl
def rN(z0 a b z3 a0 aL bt a3:z):cj (E.ofList [z0,a,b,z3] 0 .nil) 0 [a0,aL,bt,a3]=E.ofList [a0,aL,bt,a3] 0 .nil:=by rfl
def rO(z0 a b z3 z4 z5 a0 aL bt a3 a4 a5:z):cj (E.ofList [z0,a,b,z3,z4,z5] 0 .nil) 0 [a0,aL,bt,a3,a4,a5]=E.ofList [a0,aL,bt,a3,a4,a5] 0 .nil:=by rfl
def rP(z0 a b z3 z4 z5 c a0 aL bt a3 a4 a5 fq:z):cj (E.ofList [z0,a,b,z3,z4,z5,c] 0 .nil) 0 [a0,aL,bt,a3,a4,a5,fq]=E.ofList [a0,aL,bt,a3,a4,a5,fq] 0 .nil:=by rfl
def rQ(z0 a b z3 z4 z5 c d a0 aL bt a3 a4 a5 fq fV:z):cj (E.ofList [z0,a,b,z3,z4,z5,c,d] 0 .nil) 0 [a0,aL,bt,a3,a4,a5,fq,fV]=E.ofList [a0,aL,bt,a3,a4,a5,fq,fV] 0 .nil:=by rfl
def rK(z0 b d z3 z4 z5 e f g z9 c a0 aL bt a3 a4 a5 fq fV f9 a9 a:z):cj (E.ofList [z0,b,d,z3,z4,z5,e,f,g,z9,c] 0 .nil) 0 [a0,aL,bt,a3,a4,a5,fq,fV,f9,a9,a]=E.ofList [a0,aL,bt,a3,a4,a5,fq,fV,f9,a9,a] 0 .nil:=by rfl
def nq(c:E z)(I:Nat)(v:z):(cj c I [v]).get I=some v:=by rw[fR];simp
def rI{c:E z}{I i:Nat}{v:z}(h:i≠I):(cj c I [v]).get i=c.get i:=by rw[fR,Zi Zx]
def eS{b I k n:Nat}{c:E z}{v:z}(h:H C q b=some (.cells c n .own))(W:C.aB<=b)(i:v.cells.length=k)(j:0<k)(l:I+k<=n)(g:dU v.cells=true):
 cW C q k (.ptr b I) v=some (aH C q b (some (.cells (cj c I v.cells) n .own))):=by
 subst i;have d:Nat.blt 0 v.cells.length=true:=by simp_all
 have e:Nat.beq v.cells.length v.cells.length=true:=by simp
 have a:Nat.ble (I+v.cells.length) n=true:=by simp_all
 have f:Nat.ble C.aB b=true:=by simp_all
 simp only[cW,g5,h,eB,f,a,d,e,g,ZZ,cI,du]
def hV(k:IntKind)(n:Nat):hc (.int k (n:Int))=some n:=rfl
def Tj(k:IntKind):hc (.int k 0)=some 0:=rfl
def qG(k:IntKind)(x o:Int):aK .lss (.int k x) (.int k o)=some (.bool (decide (x<o))):=by cases k<;>simp[aK,gL,gH]<;>(rw[Yh];simp)
def qE(k:IntKind)(x o:Int):aK .gtr (.int k x) (.int k o)=some (.bool (decide (o<x))):=by cases k<;>simp[aK,gL,gH]<;>(rw[Yh];simp)
def qF(k:IntKind)(x o:Int):aK .leq (.int k x) (.int k o)=some (.bool (decide (x<=o))):=by cases k<;>simp[aK,gL,gH]<;>(rw[Yh];simp)
def qD(k:IntKind)(x o:Int):aK .geq (.int k x) (.int k o)=some (.bool (decide (o<=x))):=by cases k<;>simp[aK,gL,gH]<;>(rw[Yh];simp)
def qC(k:IntKind)(x o:Int):aK .eql (.int k x) (.int k o)=some (.bool (decide (x=o))):=by cases k<;>simp[aK,gL,gH]
def qH(k:IntKind)(x o:Int):aK .neq (.int k x) (.int k o)=some (.bool (decide (x≠o))):=by cases k<;>simp[aK,gL,gH]
def wrap64{n:Int}(a: -9223372036854775808<=n)(b:n<9223372036854775808):iq .i64 n=n:=by simp only[iq,cY,Zf];grind
def cp{x o:Int}(a: -9223372036854775808<=x+o)(b:x+o<9223372036854775808):aK .add (.int .i64 x) (.int .i64 o)=some (.int .i64 (x+o)):=by simp[aK,gL,gH,gj,wrap64 a b]
def ju{x o:Int}(a: -9223372036854775808<=x-o)(b:x-o<9223372036854775808):aK .sub (.int .i64 x) (.int .i64 o)=some (.int .i64 (x-o)):=by simp[aK,gL,gH,gj,wrap64 a b]
def Gf(x o:Int):aK .add (.int .u64 x) (.int .u64 o)=some (.int .u64 ((x+o)%18446744073709551616)):=by simp[aK,gL,gH,gj,iq]
def nW{aN b I len cap i:Nat}(k:IntKind)(h:i<len):c8 aN (.slice b I len cap) (.int k (i:Int))=some (.ptr b (I+i*aN)):=by simp[c8,hV,pL];omega
def m4{aN b I len cap i:Nat}(k:IntKind)(h:i<len):c8 aN (.cq b I len cap) (.int k (i:Int))=some (.ptr b (I+i*aN)):=by simp[c8,hV,pL];omega
def rT(d b I:Nat):es d (.ptr b I)=some (.ptr b (I+d)):=rfl
def rR(i:Nat)(l:List z):hZ i (.tuple l)=l[i]? :=by simp[hZ]
def rS(b I:Nat):ht (.ptr b I)=some (.ptr b I):=rfl
def q8(b:Bool):dX .not (.bool b)=some (.bool (!b)):=by simp[dX]
def kU(c:E z)(l:List z):Prop:=∀i,c.get i=l[i]?
def gv(l:List z):kU (E.ofList l 0 .nil) l:=λi=>g0 l i
def kU.app{c:E z}{l:List z}(h:kU c l)(m:List z):kU (cj c l.length m) (l++m):=by
 intro i;rw[fR];by_cases a:l.length<=i/\i<l.length+m.length
 ·grind
 ·rw[Zi a,h i];grind
def de{a b:Nat}(h:a<=b):Nat.ble a b=true:=by simp_all
def tU{a b:Nat}(h:a<b):Nat.blt a b=true:=by simp_all
def AJ:∀(l:List Nat) (q:E S) (o:Nat),(∀x∈l,C.aB<=x)->o∉l->H C (fi C l q) o=H C q o:=by intro l;induction l with|nil=>intro q o _ _;rfl|cons a l U=>intro q o c b;simp only[Zq,YT]at b;simp only[fi];rw[U _ _ (λx d=>c x (Zw _ d)) b.2,ah (c a (Zr ..)) b.1]
def et(C:al)(q:E S)(s:z)(aN:Nat)(l:List z)(aW:List Nat):Prop:=
 (s=.ax/\l=[]/\aW=[])\/∃b b3 n c,s=.cq b 0 n aN/\l.length=n*aN/\aW=b::b3/\(∀x∈aW,C.aB<=x)/\b∉b3/\H C q b=some (.cells c (n*aN) (.grow b3))/\kU c l
def et.M{D:E S}{s:z}{aN:Nat}{l:List z}{aW:List Nat}(h:et C q s aN l aW)(k:∀o∈aW,H C D o=H C q o):et C D s aN l aW:=by
 rcases h with h|⟨b,b3,n,c,d,e,a,f,g,i,j⟩
 ·exact .inl h
 ·exact .inr ⟨b,b3,n,c,d,e,a,f,g,by rw[k b (by rw[a];exact Zr ..)];exact i,j⟩
def nd(l:List z)(I:Nat)(aG:List z):List z:=l.take I++(aG++l.drop (I+aG.length))
def aaD{l aG:List z}{I:Nat}(h:I+aG.length<=l.length):(nd l I aG).length=l.length:=by simp[nd];omega
def aaC{l aG:List z}{I:Nat}(h:I+aG.length<=l.length)(i:Nat):(nd l I aG)[i]? =if I<=i/\i<I+aG.length then aG[i-I]? else l[i]? :=by unfold nd;grind
def kU.put{c:E z}{l:List z}(h:kU c l){I:Nat}{aG:List z}(a:I+aG.length<=l.length):kU (cj c I aG) (nd l I aG):=by intro i;rw[fR,aaC a,h i]
def et.put{aN:Nat}{s:z}{l aG:List z}{aW:List Nat}{b I:Nat}{v:z}(h:et C q s aN l aW)(W:aW.head?=some b)(G:v.cells=aG)(m:0<aG.length)(p:dU aG=true)(g:I+aG.length<=l.length):
 ∃D,cW C q aG.length (.ptr b I) v=some D/\et C D s aN (nd l I aG) [b]/\∀o,o∉aW->H C D o=H C q o:=by
 rcases h with ⟨rfl,rfl,rfl⟩|⟨d,b3,n,c,rfl,r,rfl,f,N,t,w⟩
 ·grind
 ·simp only[List.head?_cons,Zh]at W;subst W;have a:=f d (Zr ..);have A:=λx L=>f x (Zw _ L);refine⟨aH C (fi C b3 q) d (some (.cells (cj c I aG) (n*aN) (.grow []))), ?_,.inr ⟨d,[],n,cj c I aG,rfl,by rw[aaD g];exact r,rfl,by simpa using a,Zs,aM a,w.put g⟩,λo e=> ?_⟩
  ·have i:Nat.ble (I+aG.length) (n*aN)=true:=de Zo;subst G;have j:=tU m;have k:Nat.beq v.cells.length v.cells.length=true:=(by simp);simp only[cW,g5,t,eB,de a,i,j,k,p,ZZ,cI,du]
  ·simp only[Zq,YT]at e;rw[ah a e.1,AJ _ _ _ A e.2]
def hY{aN k b n:Nat}{l:List z}{c:E z}{st:iu}(h:H C q b=some (.cells c n st))(d:kU c l)(f:l.length=k*aN)(cap:Nat):fQ C q aN (.slice b 0 k cap)=some (k,l):=by
 have e:∀(m I:Nat),I+m<=l.length->c.gs I m=some ((l.drop I).take m):=by intro m;induction m with|zero=>intro I _;simp[E.gs]|succ m U=>intro I g;have a:c.get I=some l[I]:=(by rw[d I,Zb Zo]);simp only[E.gs,a,U (I+1) Zo];rw[Zz (by omega:I<l.length),Yf]
 simp only[fQ,gq,cellsOf,h];rw[e (k*aN) 0 Zo];simp[<-f]
def cM{b:ds->ds}{B:bS}{q:E S}{u:Nat}(a:Nat->ds)(m:Nat)(d:a m B q u)(h:∀m B q u,a m B q u->b (λB q u=>∃c,c<m/\a c B q u) B q u):cF b B q u:=⟨⟨a,⟨m,d⟩,h⟩⟩
def F6{c:E z}{l:List z}(b:kU c l):∀(m I:Nat),I+m<=l.length->c.gs I m=some ((l.drop I).take m):=by
 intro m;induction m with
 |zero=>intro I _;simp[E.gs]|succ m U=>
  intro I d;have a:c.get I=some l[I]:=by rw[b I,Zb Zo]
  simp only[E.gs,a,U (I+1) Zo];rw[Zz (by omega:I<l.length),Yf]
def mc{aN:Nat}:∀{aR:List (List z)},(∀r∈aR,r.length=aN)->aR.flatten.length=aR.length*aN:=by intro aR;induction aR with|nil=>grind|cons a l U=>grind
abbrev zP(l:List z)(n:Nat):Option S:=some (.cells (E.ofList l 0 .nil) n .own)
def zQ(i:Nat)(h:i<1000000000:=by omega):aK .add (.Z i) (.Z 1)=some (.Z (i+1:Nat)):=by rw[cp (by omega) (by omega)];rfl
def zR{p:Prop}(h:p:=by simp(disch:=omega) only[ah]):p:=h
def zW{z7:al}{z8 z9:E S}{b o:Nat}{v:Option z}(h:H z7 z9 b=H z7 z8 b)(k:ay z7 z8 (.ptr b o)=v):ay z7 z9 (.ptr b o)=v:=by rw[bB,h,<-bB];exact k
abbrev zT(T_:bS)(a_:Nat)(x_:z)(b_:Nat)(y_:z):bS:=J (J T_ a_ x_) b_ y_
abbrev zU(T_:bS)(a_:Nat)(x_:z)(b_:Nat)(y_:z)(c_:Nat)(z_:z):bS:=J (zT T_ a_ x_ b_ y_) c_ z_
abbrev zV(T_:bS)(a_:Nat)(x_:z)(b_:Nat)(y_:z)(c_:Nat)(w_:z)(d_:Nat)(u_:z):bS:=zT (zT T_ a_ x_ b_ y_) c_ w_ d_ u_
end
end
end Go.aF
namespace Go.ak
abbrev aA:=List Nat
structure cH where
 b:Bool
 s:Bool
 w:Int
 deriving DecidableEq
structure Tok where
 kind:Int
 text:aA
 at_:Int
 n:Int
 ty:cH
inductive aX where
 |mk (kind at_:Int) (name:aA) (no:Bool) (ty:cH) (n:Int) (args:List aX)
structure cG where
 name:aA
 at_:Int
 ty:cH
 on:aA
 cC:Int
 no:Bool
structure cA where
 left:List aA
 bM:List Int
 at_:Int
 right:aX
structure Node where
 name:aA
 at_:Int
 cm:List cG
 out:List cG
 loc:List cG
 eqs:List cA
abbrev GT:=Go.ak.Node
def cd:cH:=⟨false,false,0⟩
def aX.kind:aX->Int| .mk k _ _ _ _ _ _=>k
def aX.args:aX->List aX| .mk _ _ _ _ _ _ l=>l
abbrev di(α:Type):=Option (Except Int (α×List Tok))
def ok{α:Type}(a:α)(l:List Tok):di α:=some (.ok (a,l))
def bad{α:Type}(at_:Int):di α:=some (.error at_)
def andThen{α cr:Type}(x:di α)(f:α->List Tok->di cr):di cr:=match x with
 |none=>none|some (.error a)=>some (.error a)|some (.ok (a,l))=>f a l
def d4(x:Tok)(s:aA):Bool:=(x.kind=2||x.kind=6)&&x.text=s
def f5(s:aA):List Tok->Option (Option Tok×List Tok)
 |[]=>none|x::l=>if d4 x s then some (some x,l)else some (none,x::l)
def el{cr:Type}(s:aA)(l:List Tok)(f:Option Tok->List Tok->di cr):di cr:=match f5 s l with
 |none=>none|some (x,l)=>f x l
def ce(s:aA):List Tok->di Tok
 |[]=>none|x::l=>if d4 x s then ok x l else bad x.at_
def ew(k:Int):List Tok->di Tok
 |[]=>none|x::l=>if x.kind=k then ok x l else bad x.at_
def ae:Nat->List (aA×Int)
 |0=>[([111,114],7),([120,111,114],8)]|1=>[([97,110,100],9)]|2=>[([61],10),([60,62],11),([60,61],13),([62,61],15),([60],12),([62],14)]|3=>[([43],16),([45],17)]|4=>[([42],18)]|_=>[]
def gV:List (aA×Int)->List Tok->Option (Option aX×List Tok)
 |[],l=>some (none,l)|(s,k)::os,l=>match f5 s l with
  |none=>none|some (some x,l)=>some (some (.mk k x.at_ [] false cd 0 []),l)|some (none,l)=>gV os l
def aX.at_:aX->Int| .mk _ a _ _ _ _ _=>a
def kD(e:aX):Option Bool:=if e.kind=1 then some true else if e.kind=4 then(match e.args with|[]=>none|a::_=>some (decide (a.kind=1)))else some false
def aX.name:aX->aA| .mk _ _ s _ _ _ _=>s
def aX.no:aX->Bool| .mk _ _ _ b _ _ _=>b
def aX.ty:aX->cH| .mk _ _ _ _ t _ _=>t
def aX.n:aX->Int| .mk _ _ _ _ _ n _=>n
def two(e:aX)(a b:aX):aX:=.mk e.kind e.at_ [] false cd 0 [a,b]
def n5:List (aA×Int):=[([110,111,116],3),([45],4),([112,114,101],5)]
mutual
def level:Nat->Nat->List Tok->di aX
 |0,_,_=>none|n+1,k,l=>if k=5 then shift n l else andThen (level n (k+1) l) λleft l=>g9 n k left l
def g9:Nat->Nat->aX->List Tok->di aX
 |0,_,_,_=>none|n+1,k,left,l=>match gV (ae k) l with
  |none=>none|some (none,l)=>ok left l|some (some e,l)=>andThen (level n (k+1) l) λr l=>if k=2 then ok (two e left r) l else g9 n k (two e left r) l
def shift:Nat->List Tok->di aX
 |0,_=>none|n+1,l=>andThen (jC n l) λleft l=>hr n left l
def hr:Nat->aX->List Tok->di aX
 |0,_,_=>none|n+1,left,l=>el [60,60] l λx l=>match x with
  |some x=>hs n 19 x left l|none=>el [62,62] l λx l=>match x with
   |some x=>hs n 20 x left l|none=>ok left l
def hs:Nat->Int->Tok->aX->List Tok->di aX
 |0,_,_,_,_=>none|n+1,k,x,left,l=>andThen (ew 4 l) λm l=>if 63<m.n then bad m.at_ else hr n (.mk k x.at_ [] false cd m.n [left]) l
def jC:Nat->List Tok->di aX
 |0,_=>none|n+1,l=>match gV n5 l with
  |none=>none|some (some e,l)=>andThen (jC n l) λa l=>ok (.mk e.kind e.at_ [] false cd 0 [a]) l|some (none,l)=>andThen (part n l) λleft l=>gU n left l
def gU:Nat->aX->List Tok->di aX
 |0,_,_=>none|n+1,left,l=>el [119,104,101,110] l λx l=>match x with
  |none=>ok left l|some x=>el [110,111,116] l λno l=>andThen (ew 1 l) λc l=>gU n (.mk 6 x.at_ c.text no.isSome cd 0 [left]) l
def part:Nat->List Tok->di aX
 |0,_=>none|_+1,[]=>none|n+1,x::l=>
  if x.kind=5 then ok (.mk 1 x.at_ [] false x.ty x.n []) l
  else if x.kind=2&&(x.text=[116,114,117,101]||x.text=[102,97,108,115,101])then ok (.mk 1 x.at_ [] false ⟨true,false,1⟩ (if x.text=[116,114,117,101]then 1 else 0) []) l
  else if x.kind=1 then el [40] l λo l=>match o with
   |none=>ok (.mk 2 x.at_ x.text false cd 0 []) l|some _=>andThen (list n l) λd l=>ok (.mk 25 x.at_ x.text false cd 0 d) l
  else if x.kind=3 then andThen (ce [40] l) λ_ l=>andThen (arrow n l) λe l=>andThen (ce [41] l) λ_ l=>ok (.mk 26 x.at_ [] false x.ty 0 [e]) l
  else if x.kind=6&&x.text=[40]then andThen (arrow n l) λe l=>andThen (ce [41] l) λ_ l=>ok e l
  else if x.kind=2&&x.text=[105,102]then andThen (arrow n l) λc l=>andThen (ce [116,104,101,110] l) λ_ l=>andThen (arrow n l) λa l=>andThen (ce [101,108,115,101] l) λ_ l=>andThen (arrow n l) λb l=>ok (.mk 23 x.at_ [] false cd 0 [c,a,b]) l
  else if x.kind=2&&x.text=[109,101,114,103,101]then andThen (ew 1 l) λc l=>andThen (part n l) λa l=>andThen (part n l) λb l=>ok (.mk 24 x.at_ c.text false cd 0 [a,b]) l
  else bad x.at_
def list:Nat->List Tok->di (List aX)
 |0,_=>none|n+1,l=>el [41] l λo l=>match o with
  |some _=>ok [] l|none=>andThen (arrow n l) λe l=>ha n [e] l
def ha:Nat->List aX->List Tok->di (List aX)
 |0,_,_=>none|n+1,d,l=>el [44] l λo l=>match o with
  |none=>andThen (ce [41] l) λ_ l=>ok d l|some _=>andThen (arrow n l) λe l=>ha n (d++[e]) l
def fZ:Nat->List Tok->di aX
 |0,_=>none|n+1,l=>andThen (level n 0 l) λleft l=>el [102,98,121] l λx l=>match x with
  |none=>ok left l|some x=>match kD left with
   |none=>none|some true=>andThen (fZ n l) λr l=>ok (.mk 21 x.at_ [] false cd 0 [left,r]) l|some false=>bad x.at_
def arrow:Nat->List Tok->di aX
 |0,_=>none|n+1,l=>andThen (fZ n l) λleft l=>el [45,62] l λx l=>match x with
  |none=>ok left l|some x=>andThen (arrow n l) λr l=>ok (.mk 22 x.at_ [] false cd 0 [left,r]) l
end
def i1:Nat->List Tok->List Tok->di (List Tok)
 |0,_,_=>none|n+1,a,l=>andThen (ew 1 l) λx l=>el [44] l λo l=>match o with
  |none=>ok (a++[x]) l|some _=>i1 n (a++[x]) l
def iS(ty:cH)(on:aA)(cC:Int)(no:Bool)(x:Tok):cG:=⟨x.text,x.at_,ty,on,cC,no⟩
def oc:Nat->List Tok->Option aA
 |_,[]=>none|0,x::_=>some x.text|i+1,_::l=>oc i l
def ks(loc:Bool)(k:List cG->List Tok->di (List cG))(bb:List cG)(l:List Tok):di (List cG):=match oc 0 l with
 |none=>none|some s=>if s=[59]then(if loc then(match oc 1 l with
   |none=>none|some s=>if s=[108,101,116]then ok bb l else k bb (l.drop 1))else k bb (l.drop 1))
  else ok bb l
def lH(w:Option Tok)(l:List Tok):di (aA×Int×Bool):=match w with
 |none=>ok ([],0,false) l|some _=>el [110,111,116] l λno l=>andThen (ew 1 l) λon l=>ok (on.text,on.at_,no.isSome) l
def sv(loc:Bool)(k:List cG->List Tok->di (List cG))(bb:List cG)(a:List Tok)(l:List Tok):di (List cG):=
 andThen (ce [58] l) λ_ l=>andThen (ew 3 l) λt l=>el [119,104,101,110] l λw l=>
 andThen (lH w l) λr l=>ks loc k (bb++a.map (iS t.ty r.1 r.2.1 r.2.2)) l
def ep:Nat->Bool->List cG->List Tok->di (List cG)
 |0,_,_,_=>none|n+1,loc,bb,l=>andThen (i1 n [] l) λa l=>sv loc (ep n loc) bb a l
def lJ(n:Nat)(l:List Tok):di cA:=el [40] l λo l=>
 andThen (match o with
  |some _=>andThen (ew 1 l) λx l=>andThen (ce [44] l) λ_ l=>andThen (i1 n [x] l) λa l=>andThen (ce [41] l) λ_ l=>ok a l|none=>andThen (ew 1 l) λx l=>ok [x] l) λa l=>
 andThen (ce [61] l) λe l=>andThen (arrow n l) λr l=>andThen (ce [59] l) λ_ l=>ok ⟨a.map Tok.text,a.map Tok.at_,e.at_,r⟩ l
def fJ:Nat->List cA->List Tok->di (List cA)
 |0,_,_=>none|n+1,a,l=>el [116,101,108] l λo l=>match o with
  |some _=>ok a l|none=>andThen (lJ n l) λV l=>fJ n (a++[V]) l
def node(n:Nat)(l:List Tok):di Node:=
 andThen (ce [110,111,100,101] l) λ_ l=>andThen (ew 1 l) λx l=>andThen (ce [40] l) λ_ l=>el [41] l λo l=>
 andThen (match o with
  |some _=>ok [] l|none=>andThen (ep n false [] l) λbb l=>andThen (ce [41] l) λ_ l=>ok bb l) λcm l=>
 andThen (ce [114,101,116,117,114,110,115] l) λ_ l=>andThen (ce [40] l) λ_ l=>andThen (ep n false [] l) λout l=>andThen (ce [41] l) λ_ l=>
 el [118,97,114] l λo l=>andThen (match o with
  |some _=>andThen (ep n true [] l) λbb l=>andThen (ce [59] l) λ_ l=>ok bb l|none=>ok [] l) λloc l=>
 andThen (ce [108,101,116] l) λ_ l=>andThen (fJ n [] l) λa l=>ok ⟨x.text,x.at_,cm,out,loc,a⟩ l
def nodes:Nat->List Node->List Tok->di (List Node)
 |0,_,_=>none|n+1,Y,l=>andThen (node n l) λg l=>match l with
  |[]=>none|x::_=>if x.kind=7 then ok (Y++[g]) l else nodes n (Y++[g]) l
end Go.ak
namespace Go.aF
noncomputable section
open Go.ak
section
variable{C:al}{q D au:E S}{u Z ap:Nat}
def k0{ao:List z}{T:aY}(h:T (.ptr u 0) (aH C q u (zP ao ao.length)) (u+1)):aa (fX ao u) λr=>dQ C q u r.1 r.2 T:=⟨⟨h⟩⟩
def yH{b:Nat}{ao:List z}{T:z->E S->Prop}(h:T (.ptr b 0) (aH C q b (zP ao ao.length))):aa (fX ao b) λr=>hb C q b r.1 r.2 T:=⟨⟨h⟩⟩
def lL(cs:List z):qt cs []=some cs:=rfl
def k4(cs:List z)(off size:Nat)(v:z)(b4:List (Nat×Nat×z)):qt cs ((off,size,v)::b4)=if v.cells.length=size/\off+size<=cs.length then qt (ih cs off v.cells) b4 else none:=by have e:∀a b:Nat,(Nat.beq a b=true)=(a=b):=λa b=>propext ⟨Zn,λh=>by subst h;exact YW a⟩;simp only[qt,cY,Zu,e,Nat.ble_eq]
def je(c:E z)(I:Nat)(v:z):cj c I [v]=c.set I (some v):=by simp[cj]
def a8{b n:Nat}{c:E z}{st:iu}(h:H C q b=some (.cells c n st))(I:Nat):ay C q (.ptr b I)=c.get I:=by rw[bB,h]
def Au{w:Bool}{a b:Prop}(h:b):e8 w aF.undef a b:=⟨h⟩
def kB(b I n c:Nat):c0 (.slice b I n c)=some (.Z n):=by simp[c0,hC]
def lg(b I n c:Nat):c0 (.cq b I n c)=some (.Z n):=by simp[c0,hC]
def pj:c0 .ax=some (.Z 0):=rfl
def nX(s:List Nat):hG (.str s)=some (.Z s.length):=by simp[hG,hC]
def q2:∀a b:List Nat,hH a b=decide (a=b):=by intro a;induction a with|nil=>intro b;cases b<;>simp[hH]|cons x a U=>intro b;cases b with|nil=>simp[hH]|cons o b=>simp only[hH,U];by_cases h:x=o<;>simp[h]
def rD(t:Nat)(c:Bool)(a b:List Nat):b7 C q .eql t c (.str a) (.str b)=some (.bool (decide (a=b))):=by simp[b7,oL,yL,q2]
def rE(t:Nat)(c:Bool)(a b:List Nat):b7 C q .neq t c (.str a) (.str b)=some (.bool (decide (a≠b))):=by simp[b7,oL,yL,q2]
def qv(off aN:Nat)(cs:List z):kv false off aN (.agg cs)=cs[off]? :=by simp[kv,cY]
def qu(off aN:Nat)(cs:List z):kv true off aN (.agg cs)=some (.agg ((cs.drop off).take aN)):=by simp[kv,cY]
def nE(t:Nat)(aj v:z):lC t aj true (.iface t v)=some (.tuple [v,.zV]):=by simp[lC,cY]
def qj(k:IntKind)(x:Int):hA .u64 (.int k x)=some (.int .u64 (x%18446744073709551616)):=by simp[hA,gj,iq]
def Fo{k:IntKind}{x:Int}(a: -9223372036854775808<=x)(b:x<9223372036854775808):hA .i64 (.int k x)=some (.Z x):=by simp[hA,gj,wrap64 a b]
def qk(s:List Nat):O2 (.str s)=some (.str s):=rfl
structure br(C:al)(X:List Nat)(q:E S)(u:Nat)(D:E S)(Z:Nat):Prop where
 le:u<=Z
 M:∀b,b<u->b∉X->H C D b=H C q b
def br.refl(X:List Nat)(q:E S)(u:Nat):br C X q u q u:=⟨Zg _,λ_ _ _=>rfl⟩
def br.trans{X:List Nat}{au am a:E S}{ap aw d:Nat}(h:br C X au ap am aw)(k:br C X am aw a d):br C X au ap a d:=
 ⟨ZE h.le k.le,λb W c=>(k.M b (ZV W h.le) c).trans (h.M b W c)⟩
def br.of{X:List Nat}(h:aU C q u D Z):br C X q u D Z:=⟨h.le,λb W _=>h.M b W⟩
def br.dn{X:List Nat}(h:br C X q u D Z)(b I:Nat)(W:b<u)(a:b∉X):ay C D (.ptr b I)=ay C q (.ptr b I):=by rw[bB,bB,h.M b W a]
def br.down{X cX:List Nat}{aB:Nat}(h:br C X q u D Z)(a:aB<=u)(c:∀b∈X,b∈cX\/aB<=b):br C cX q aB D Z:=
 ⟨ZE a h.le,λb W d=>h.M b Zo (λe=>by rcases c b e with h|h;exact d h;omega)⟩
structure cl(C:al)(q:E S)(P:Nat->Prop)(b:Nat)(aE:z)(aN:Nat)(aR:List (List z)):Prop where
 W:aR≠[]->P b
 many:aR.length<=300000
 wide:∀r∈aR,r.length=aN
 len:c0 aE=some (.Z aR.length)
 c4:∀(i:Nat),i<aR.length->c8 aN aE (.Z i)=some (.ptr b (i*aN))
 cell:∀(i:Nat) r (j:Nat) v,aR[i]? =some r->r[j]? =some v->ay C q (.ptr b (i*aN+j))=some v
def cl.M{P:Nat->Prop}{b aN:Nat}{aE:z}{aR:List (List z)}(h:cl C q P b aE aN aR)(k:∀o,P o->H C D o=H C q o):cl C D P b aE aN aR:=
 ⟨h.W,h.many,h.wide,h.len,h.c4,λi r j v ag a=>by
  have c:=k b (h.W (λe=>by rw[e]at ag;cases ag));rw[bB,c, <-bB];exact h.cell i r j v ag a⟩
def cl.lift{P aI:Nat->Prop}{b aN:Nat}{aE:z}{aR:List (List z)}(h:cl C q P b aE aN aR)(k:∀o,P o->aI o):cl C q aI b aE aN aR:=
 ⟨λe=>k _ (h.W e),h.many,h.wide,h.len,h.c4,h.cell⟩
def wD{c:E z}:∀(r:List z) (I:Nat),(∀j v,r[j]? =some v->c.get (I+j)=some v)->c.gs I r.length=some r:=by intro r;induction r with|nil=>intro I _;rfl|cons a r U=>intro I h;have b:=h 0 a rfl;rw[ZN]at b;have d:=U (I+1) (λj v e=>by have:=h (j+1) v (by simpa using e);rw[Nat.add_right_comm];simpa[Ye,Nat.add_comm,Nat.add_left_comm]using this);simp[E.gs,b,d]
def cl.row{P:Nat->Prop}{b aN:Nat}{aE:z}{aR:List (List z)}(h:cl C q P b aE aN aR)(m:0<aN){i:Nat}{r:List z}(ag:aR[i]? =some r):ca C q aN (.ptr b (i*aN))=some (.agg r):=by
 have e:=h.wide r (Zl ag);have f:∃v,r[0]? =some v:=by cases r with|nil=>simp at e;omega|cons a l=>exact⟨a,rfl⟩
 obtain⟨v,k⟩:=f;have d:=h.cell i r 0 v ag k;rw[bB]at d;rw[lf];split at d
 ·rename_i c _ _ W;have:=wD (c:=c) r (i*aN) (λj v g=>by
   have:=h.cell i r j v ag g;rw[bB,W]at this;exact this)
  rw[e]at this;rw[this];rfl
 ·cases d
def Ap{aN:Nat}:∀(aR:List (List z)),(∀r∈aR,r.length=aN)->∀(i:Nat) r (j:Nat) v,aR[i]? =some r->r[j]? =some v->aR.flatten[i*aN+j]? =some v:=by
 intro aR;induction aR with
 |nil=>intro _ i r j v ag;simp at ag|cons a l U=>
  intro K i r j v ag b;have c:=K a (Zr ..);have e:j<r.length:=(Ze.1 b).1;cases i with
  |zero=>simp at ag;subst ag;rw[YA,zu,ZK,ZQ Zo];exact b|succ i=>
   simp at ag;rw[YA,ZW (by rw[c,Yj];omega),c]
   have:(i+1)*aN+j-aN=i*aN+j:=by rw[Yj];omega
   rw[this];exact U (λr d=>K r (Zw _ d)) i r j v ag b
def et.kG{aN:Nat}{s:z}{aR:List (List z)}{aW:List Nat}(h:et C q s aN aR.flatten aW)(O:0<aN)(K:∀r∈aR,r.length=aN)(G:aR.length<=300000){P:Nat->Prop}(A:∀o∈aW,P o):∃b,cl C q P b s aN aR:=by
 have k:=mc K;have H:∀(aR:List (List z)),(∀r∈aR,r.length=aN)->∀(i:Nat) r (j:Nat) v,aR[i]? =some r->r[j]? =some v->aR.flatten[i*aN+j]? =some v:=by
  intro aR;induction aR with
  |nil=>intro _ i r j v ag;simp at ag|cons a l U=>
   intro K i r j v ag d;have t:=K a (Zr ..);have T1:j<r.length:=(Ze.1 d).1;cases i with
   |zero=>simp at ag;subst ag;rw[YA,zu,ZK,ZQ Zo];exact d|succ i=>
    simp at ag;rw[YA,ZW (by rw[t,Yj];omega),t]
    have:(i+1)*aN+j-aN=i*aN+j:=by rw[Yj];omega
    rw[this];exact U (λr N=>K r (Zw _ N)) i r j v ag d
 rcases h with ⟨f,g,p⟩|⟨b,b3,n,c,f,g,p,X,T0,w,x⟩
 ·have m:aR.length=0:=by
   rw[g,ZT]at k;rcases Nat.mul_eq_zero.1 k.symm with h|h
   ·exact h
   ·omega
  have m:aR=[]:=YP.1 m;subst m f;exact⟨0,λe=>absurd rfl e,Zs,K,rfl,λi ag=>by simp at ag,λi r j v ag=>by simp at ag⟩
 ·have L:n=aR.length:=YZ O (by rw[<-g,k]);subst L f;refine⟨b,λ_=>A b (by rw[p];exact Zr ..),G,K,lg ..,λi ag=>by rw[m4 _ ag,ZK],λi r j v ag d=> ?_⟩;rw[bB,w];exact(x _).trans (H aR K i r j v ag d)
def u4{b aN k cap:Nat}{aR:List (List z)}{st:iu}(W:H C q b=some (.cells (E.ofList aR.flatten 0 .nil) (k*aN) st))(e:aR.length=k)(K:∀r∈aR,r.length=aN)(f:k<=300000){P:Nat->Prop}(aV:P b):cl C q P b (.slice b 0 k cap) aN aR:=by
 subst e;have H:∀(aR:List (List z)),(∀r∈aR,r.length=aN)->∀(i:Nat) r (j:Nat) v,aR[i]? =some r->r[j]? =some v->aR.flatten[i*aN+j]? =some v:=by
  intro aR;induction aR with
  |nil=>intro _ i r j v ag;simp at ag|cons a l U=>
   intro K i r j v ag c;have d:=K a (Zr ..);have h:j<r.length:=(Ze.1 c).1;cases i with
   |zero=>simp at ag;subst ag;rw[YA,zu,ZK,ZQ Zo];exact c|succ i=>
    simp at ag;rw[YA,ZW (by rw[d,Yj];omega),d]
    have:(i+1)*aN+j-aN=i*aN+j:=by rw[Yj];omega
    rw[this];exact U (λr g=>K r (Zw _ g)) i r j v ag c
 refine⟨λ_=>aV,f,K,kB ..,λi ag=>by rw[nW _ ag,ZK],λi r j v ag c=> ?_⟩;rw[bB,W];exact(g0 _ _).trans (H aR K i r j v ag c)
def cP(t:cH):List z:=[.bool t.b,.bool t.s,.Z t.w]
def jk(C:al)(q:E S)(b:Nat):Prop:=∃c n,H C q b=some (.cells c n .own)/\8<n
def tI(C:al)(q:E S)(b k:Nat):Prop:=C.aB<=b/\∃c n,H C q b=some (.cells c n .own)/\k<=n
def sd(C:al)(q:E S)(aE:z)(b k:Nat):Prop:=tI C q b k/\∃c,aE=.slice b 0 k c/\k<=c
def tI.M{b k:Nat}(h:tI C q b k)(V:H C D b=H C q b):tI C D b k:=by unfold tI;rw[V];exact h
def sd.M{aE:z}{b k:Nat}(h:sd C q aE b k)(V:H C D b=H C q b):sd C D aE b k:=⟨h.1.M V,h.2⟩
def jk.M{b:Nat}(h:jk C q b)(k:H C D b=H C q b):jk C D b:=by unfold jk;rw[k];exact h
mutual
def bF(C:al)(q:E S):(Nat->Prop)->aX->z->Prop
 |P,.mk kind at_ name no ty n args,v=>∃b,v=.ptr b 0/\P b/\jk C q b/\ay C q (.ptr b 0)=some (.Z kind)/\ay C q (.ptr b 1)=some (.Z at_)/\ay C q (.ptr b 2)=some (.str name)/\ay C q (.ptr b 3)=some (.bool no)
   /\ay C q (.ptr b 4)=some (.bool ty.b)/\ay C q (.ptr b 5)=some (.bool ty.s)/\ay C q (.ptr b 6)=some (.Z ty.w)/\ay C q (.ptr b 7)=some (.int .u64 n)
   /\∃aE bC aG,ay C q (.ptr b 8)=some aE/\cl C q P bC aE 1 (aG.map λv=>[v])/\(aG≠[]->bC≠b/\(kind≠25/\kind≠23->sd C q aE bC aG.length))/\b5 C q (λo=>P o/\o≠b/\o≠bC) args aG
def b5(C:al)(q:E S):(Nat->Prop)->List aX->List z->Prop
 |_,[],aG=>aG=[]|P,e::c,aG=>∃v a aI,aG=v::a/\(∀o,aI o->P o)/\bF C q aI e v/\b5 C q (λo=>P o/\¬aI o) c a
end
mutual
def bF.M{P:Nat->Prop}(k:∀o,P o->H C D o=H C q o):∀(e:aX) (v:z),bF C q P e v->bF C D P e v
 | .mk kind at_ name no ty n args,v,h=>by unfold bF at h ⊢;obtain⟨b,f,aV,X,g,i,w,x,A,G,L,N,aE,bC,aG,s,l,m,t⟩:=h;have a:∀I,ay C D (.ptr b I)=ay C q (.ptr b I):=λI=>(by rw[bB,bB,k b aV]);exact⟨b,f,aV,X.M (k b aV),by rw[a];exact g,by rw[a];exact i,by rw[a];exact w,by rw[a];exact x,by rw[a];exact A,by rw[a];exact G,by rw[a];exact L,by rw[a];exact N,aE,bC,aG,by rw[a];exact s,l.M k,(λj=>⟨(m j).1,λO=>((m j).2 O).M (k bC (l.W (by simpa using j)))⟩),b5.M (λo c=>k o c.1) args aG t⟩
def b5.M{P:Nat->Prop}(k:∀o,P o->H C D o=H C q o):∀(d:List aX) (aG:List z),b5 C q P d aG->b5 C D P d aG
 |[],aG,h=>by unfold b5 at h ⊢;exact h|e::d,aG,h=>by unfold b5 at h ⊢;obtain⟨v,r,aI,f,p,g,i⟩:=h;exact⟨v,r,aI,f,p,bF.M (λo c=>k o (p o c)) e v g,b5.M (λo c=>k o c.1) d r i⟩
end
mutual
def bF.lift{P aI:Nat->Prop}(k:∀o,P o->aI o):∀(e:aX) (v:z),bF C q P e v->bF C q aI e v
 | .mk kind at_ name no ty n args,v,h=>by unfold bF at h ⊢;obtain⟨b,d,aV,G,f,g,p,r,s,t,w,x,aE,bC,aG,j,l,A,m⟩:=h;exact⟨b,d,k b aV,G,f,g,p,r,s,t,w,x,aE,bC,aG,j,l.lift k,A,b5.lift (λo a=>⟨k o a.1,a.2⟩) args aG m⟩
def b5.lift{P aI:Nat->Prop}(k:∀o,P o->aI o):∀(c:List aX) (aG:List z),b5 C q P c aG->b5 C q aI c aG
 |[],aG,h=>by unfold b5 at h ⊢;exact h|e::c,aG,h=>by unfold b5 at h ⊢;obtain⟨v,i,cK,d,L,f,g⟩:=h;exact⟨v,i,cK,d,λo a=>k o (L o a),f,b5.lift (λo a=>⟨k o a.1,a.2⟩) c i g⟩
end
def b5.nil{P:Nat->Prop}:b5 C q P [] []:=by unfold b5;rfl
def er(kind at_:Int)(name:aA)(no:Bool)(ty:cH)(n:Int)(aE:z):List z:=[.Z kind,.Z at_,.str name,.bool no,.bool ty.b,.bool ty.s,.Z ty.w,.int .u64 n,aE]
def Bb:8<9:=by decide
def bF.of{P:Nat->Prop}{b bC:Nat}{kind at_ n:Int}{name:aA}{no:Bool}{ty:cH}{aE:z}{m:Nat}{st:iu}{args:List aX}{aG:List z}(W:H C q b=some (.cells (E.ofList (er kind at_ name no ty n aE) 0 .nil) m st))(aV:P b)
 (i:cl C q P bC aE 1 (aG.map λv=>[v]))(d:aG≠[]->bC≠b)(c:b5 C q (λo=>P o/\o≠b/\o≠bC) args aG)(g:st=.own:=by rfl)(f:8<m:=by exact Bb)(j:kind≠25/\kind≠23->aG≠[]->sd C q aE bC aG.length:=by exact λh=>absurd h Zd):bF C q P (.mk kind at_ name no ty n args) (.ptr b 0):=by
 unfold bF;refine⟨b,rfl,aV,⟨_,_,g▸W,f⟩, ?_, ?_, ?_, ?_, ?_, ?_, ?_, ?_,aE,bC,aG, ?_,i,(λa=>⟨d a,λe=>j e a⟩),c⟩<;>(rw[a8 W,g0];rfl)
def cl.nil(P:Nat->Prop)(aN:Nat):cl C q P 0 .ax aN []:=⟨λe=>absurd rfl e,Zs,Zs,rfl,λi ag=>by simp at ag,λi r j v ag=>by simp at ag⟩
def bF.leaf{P:Nat->Prop}{b:Nat}{kind at_ n:Int}{name:aA}{no:Bool}{ty:cH}{m:Nat}{st:iu}(W:H C q b=some (.cells (E.ofList (er kind at_ name no ty n .ax) 0 .nil) m st))(aV:P b)(c:st=.own:=by rfl)(a:8<m:=by exact Bb):bF C q P (.mk kind at_ name no ty n []) (.ptr b 0):=
 bF.of (aG:=[]) W aV (cl.nil P 1) (λh=>absurd rfl h) b5.nil c a (λ_ h=>absurd rfl h)
def ww:∀aG:List z,(aG.map λv=>[v]).flatten=aG:=by intro aG;induction aG with|nil=>rfl|cons a l U=>simp[U]
def bF.lit{P:Nat->Prop}{b bC k cap:Nat}{kind at_ n:Int}{name:aA}{no:Bool}{ty:cH}{m:Nat}{st fF:iu}{args:List aX}{aG:List z}(W:H C q b=some (.cells (E.ofList (er kind at_ name no ty n (.slice bC 0 k cap)) 0 .nil) m st))(aV:P b)
 (a:H C q bC=some (.cells (E.ofList aG 0 .nil) k fF))(d:P bC)(c:aG.length=k)(dB:k<=1000)(f:bC≠b)(e:b5 C q (λo=>P o/\o≠b/\o≠bC) args aG)(i:st=.own:=by rfl)(g:8<m:=by exact Bb)(j:fF=.own:=by rfl)(h:C.aB<=bC:=by(omega))(l:k<=cap:=by(omega)):bF C q P (.mk kind at_ name no ty n args) (.ptr b 0):=
 bF.of W aV (u4 (aR:=aG.map λv=>[v]) (by rw[ww,ZF];exact a) (by simpa using c) Zs Zo d) (λ_=>f) e i g (λ_ _=>⟨⟨h,_,_,j▸a,Zo⟩,cap,by rw[c],Zo⟩)
def b5.one{P aI:Nat->Prop}{e:aX}{v:z}(h:bF C q aI e v)(a:∀o,aI o->P o):b5 C q P [e] [v]:=by unfold b5;exact⟨v,[],aI,rfl,a,h,b5.nil⟩
def b5.two{P aI cK:Nat->Prop}{e f:aX}{v w:z}(h:bF C q aI e v)(k:bF C q cK f w)(a:∀o,aI o->P o)(K:∀o,cK o->P o/\¬aI o):b5 C q P [e,f] [v,w]:=by unfold b5;exact⟨v,[w],aI,rfl,a,h,b5.one k K⟩
def b5.snoc{aI:Nat->Prop}{e:aX}{v:z}(k:bF C q aI e v):∀{f:List aX}{aG:List z}{c P:Nat->Prop},b5 C q c f aG->(∀o,c o->P o)->(∀o,aI o->P o/\¬c o)->b5 C q P (f++[e]) (aG++[v]):=by intro f;induction f with|nil=>intro aG c P h g d;unfold b5 at h;subst h;exact b5.one k (λo b=>(d o b).1)|cons a l U=>intro aG c P h g d;unfold b5 at h;obtain⟨w,j,cK,rfl,i,m,n⟩:=h;show b5 C q P (a::(l++[e])) (w::(j++[v]));unfold b5;exact⟨w,j++[v],cK,rfl,λo b=>g o (i o b),m,U n (λo b=>⟨g o b.1,b.2⟩) (λo b=>⟨⟨(d o b).1,λp=>(d o b).2 (i o p)⟩,λr=>(d o b).2 r.1⟩)⟩
def bF.ptr{P:Nat->Prop}:∀{e:aX}{v:z},bF C q P e v->∃b,v=.ptr b 0/\P b/\ay C q (.ptr b 0)=some (.Z e.kind)
 | .mk ..,_,h=>by unfold bF at h;obtain⟨b,a,aV,_,c,_⟩:=h;exact⟨b,a,aV,c⟩
def bF.open{P:Nat->Prop}:∀{e:aX}{v:z},bF C q P e v->∃b aE bC aG,v=.ptr b 0/\P b/\ay C q (.ptr b 0)=some (.Z e.kind)/\ay C q (.ptr b 1)=some (.Z e.at_)/\ay C q (.ptr b 2)=some (.str e.name)/\ay C q (.ptr b 3)=some (.bool e.no)
 /\ay C q (.ptr b 4)=some (.bool e.ty.b)/\ay C q (.ptr b 5)=some (.bool e.ty.s)/\ay C q (.ptr b 6)=some (.Z e.ty.w)/\ay C q (.ptr b 7)=some (.int .u64 e.n)
 /\ay C q (.ptr b 8)=some aE/\cl C q P bC aE 1 (aG.map λv=>[v])/\b5 C q P e.args aG
 | .mk ..,_,h=>by unfold bF at h;obtain⟨b,a,aV,t,g,i,j,k,l,m,n,p,aE,bC,aG,c,d,s,f⟩:=h;exact⟨b,aE,bC,aG,a,aV,g,i,j,k,l,m,n,p,c,d,b5.lift (λo r=>r.1) _ _ f⟩
def b5.len:∀{b:List aX}{aG:List z}{P:Nat->Prop},b5 C q P b aG->aG.length=b.length:=by intro b;induction b with|nil=>intro aG P h;unfold b5 at h;subst h;rfl|cons a l U=>intro aG P h;unfold b5 at h;obtain⟨w,f,aI,rfl,e,d,c⟩:=h;simp[U c]
def b5.get:∀{c:List aX}{aG:List z}{P:Nat->Prop},b5 C q P c aG->∀(i:Nat) e,c[i]? =some e->∃v,aG[i]? =some v/\bF C q P e v:=by intro c;induction c with|nil=>intro aG P h i e b;simp at b|cons a l U=>intro aG P h i e b;unfold b5 at h;obtain⟨w,n,aI,rfl,k,d,f⟩:=h;cases i with|zero=>simp at b;subst b;exact⟨w,rfl,bF.lift k _ _ d⟩|succ i=>obtain⟨v,g,j⟩:=U f i e (by simpa using b);exact⟨v,by simpa using g,bF.lift (λo m=>m.1) _ _ j⟩
def cl.one{P:Nat->Prop}{b:Nat}{aE:z}{aG:List z}(h:cl C q P b aE 1 (aG.map λv=>[v])){i:Nat}{v:z}(ag:aG[i]? =some v):c8 1 aE (.Z i)=some (.ptr b i)/\ay C q (.ptr b i)=some v/\P b:=by have d:=(Ze.1 ag).1;have a:=h.c4 i (by simpa using d);have c:=h.cell i [v] 0 v (by rw[Zt,ag];rfl) rfl;rw[ZF]at a;rw[ZF,ZN]at c;exact⟨a,c,h.W (λe=>by simp at e;subst e;simp at ag)⟩
def EP{aN k:Nat}{x:z}{m:List z}(a:fQ C q aN x=some (k,m))(b:0<k)(W:k<=1048576):
 eV C q u aN .ax x=some (.cJ (.cq u 0 k aN) (aH C q u (some (.cells (E.ofList m 0 .nil) m.length (.grow [])))) (u+1)):=by
 simp only[eV,a];rw[ee,Zi Zo];simp[jU,k6,de W,fE]
def N2{aN k b n:Nat}{x:z}{m:List z}{c:E z}{b3:List Nat}(l:0<aN)(j:fQ C q aN x=some (k,m))(e:0<k)(W:n+k<=1048576)(a:dU m=true)
 (g:C.aB<=b)(h:H C q b=some (.cells c (n*aN) (.grow b3))):
 eV C q u aN (.cq b 0 n aN) x=some (.cJ (.cq u 0 (n+k) aN) (aH C (aH C q b (some (.cells c (n*aN) .fG))) u (some (.cells (cj c (n*aN) m) (n*aN+m.length) (.grow (b::b3))))) (u+1)):=by
 simp only[eV,j];rw[ee,Zi Zo];have f:¬(0+(n+k)*aN<=n*aN):=by
  have:0<k*aN:=Nat.mul_pos e l
  rw[Yj];omega
 have d:Nat.ble (0+(n+k)*aN) (n*aN)=false:=by
  cases i:Nat.ble (0+(n+k)*aN) (n*aN)with
  |false=>rfl|true=>exact absurd (e7 i) f
 simp only[jU,oM,h,eB,de g,de W,a,d];simp[cY,fE]
def N3{aN k b n:Nat}{x:z}{m l:List z}{c:E z}{st:iu}{V:Nat}(p:0<aN)(i:fQ C q aN x=some (k,m))(j:0<k)(W:n+k<=1048576)
 (g:H C q b=some (.cells c V st))(d:kU c l)(f:l.length=n*aN):
 eV C q u aN (.slice b 0 n n) x=some (.cJ (.cq u 0 (n+k) aN) (aH C q u (some (.cells (E.ofList (l++m) 0 .nil) (l++m).length (.grow [])))) (u+1)):=by
 simp only[eV,i];rw[ee,Zi Zo];have a:Nat.ble (n+k) n=false:=by cases h:Nat.ble (n+k) n with|false=>rfl|true=>exact absurd (e7 h) Zo
 have e:gq C q b 0 (n*aN)=some l:=by simp only[gq,cellsOf,g];rw[F6 d _ _ Zo];simp[<-f]
 simp only[jU,a,ga,e,k6,de W,cI,fE,gi,du]
def da(C:al)(q:E S)(s:z)(aN:Nat)(l:List z)(aW:List Nat):Prop:=
 et C q s aN l aW\/∃b n c st,s=.slice b 0 n n/\l.length=n*aN/\aW=[b]/\H C q b=some (.cells c (n*aN) st)/\kU c l/\st=.own/\C.aB<=b
def da.M{s:z}{aN:Nat}{l:List z}{aW:List Nat}(h:da C q s aN l aW)(d:∀o∈aW,H C D o=H C q o):da C D s aN l aW:=by
 rcases h with h|⟨b,n,c,st,e,f,a,g,i⟩
 ·exact .inl (h.M d)
 ·exact .inr ⟨b,n,c,st,e,f,a,by rw[d b (by rw[a];exact Zr ..)];exact g,i⟩
def da.append{aN k:Nat}{s x:z}{l m:List z}{aW:List Nat}(h:da C q s aN l aW)(i:0<aN)(p:fQ C q aN x=some (k,m))(f:m.length=k*aN)(j:0<k)(G:dU m=true)
 (W:l.length+m.length<=1048576)(d:C.aB<=u)(v:∀o∈aW,o<u):
 ∃A D r,eV C q u aN s x=some (.cJ A D (u+1))/\et C D A aN (l++m) r/\(∀o∈r,o=u\/o∈aW)/\∀o,o≠u->o∉aW->H C D o=H C q o:=by
 have T0:k<=k*aN:=ze k i;rcases h with (⟨rfl,rfl,rfl⟩|⟨b,b3,n,c,rfl,e,rfl,g,t,L,N⟩)|⟨b,n,c,st,rfl,e,rfl,g,t,_⟩
 ·refine⟨_,_,[u],EP p j (by simp at W;omega),.inr ⟨u,[],k,_,rfl,by simpa using f,rfl,by simpa using d,Zs,by rw[aM d,f], ?_⟩,Zs,λo a _=>ah d a⟩;simpa using gv m
 ·have P:n<=n*aN:=ze n i;have X:b<u:=v b (Zr ..);refine⟨_,_,u::b::b3,N2 i p j Zo G (g b (Zr ..)) L,.inr ⟨u,b::b3,n+k,cj c (n*aN) m,rfl,by rw[ZH,e,f,Yj],rfl, ?_, ?_, ?_, ?_⟩, ?_,λo a w=> ?_⟩
  ·intro o a;rcases Zq.1 a with rfl|a
   ·exact d
   ·exact g o a
  ·intro O;have:=v u O;omega
  ·rw[aM d,f,Yj]
  ·rw[<-e];exact N.app m
  ·intro o a;rcases Zq.1 a with rfl|a
   ·exact .inl rfl
   ·exact .inr a
  ·simp only[Zq,YT]at w;rw[ah d a,ah (g b (Zr ..)) w.1]
 ·have P:n<=n*aN:=ze n i;refine⟨_,_,[u],N3 i p j Zo g t e,.inr ⟨u,[],n+k,_,rfl,by rw[ZH,e,f,Yj],rfl,by simpa using d,Zs,by rw[aM d,ZH,e,f,Yj],gv _⟩,Zs,λo a _=>ah d a⟩
def da.kG{aN:Nat}{s:z}{aR:List (List z)}{aW:List Nat}(h:da C q s aN aR.flatten aW)(e:0<aN)(K:∀r∈aR,r.length=aN)(d:aR.length<=300000){P:Nat->Prop}(a:∀o∈aW,P o):∃b,cl C q P b s aN aR:=by
 rcases h with h|⟨b,n,c,st,rfl,f,rfl,g,k,_⟩
 ·exact h.kG e K d a
 ·have l:=mc K;have p:n=aR.length:=YZ e (by rw[<-f,l]);subst p;refine⟨b,λ_=>a b (Zr ..),d,K,kB ..,λi ag=>by rw[nW _ ag,ZK],λi r j v ag m=> ?_⟩;rw[bB,g];exact(k _).trans (Ap aR K i r j v ag m)
def da.pC{s:z}{aG:List z}{aW:List Nat}(h:da C q s 1 aG aW){P:Nat->Prop}(d:aG.length<=300000)(c:∀o∈aW,P o):∃b,cl C q P b s 1 (aG.map λv=>[v]):=by
 have a:da C q s 1 (aG.map λv=>[v]).flatten aW:=by rw[ww];exact h
 exact a.kG Zd Zs (by simpa using d) c
structure f8(C:al)(q:E S)(cZ:Nat->Prop)(b:Nat)(aE:z)(aN:Nat)(aR:List (List z)):Prop where
 rd:cl C q cZ b aE aN aR
 wr:aR≠[]->C.aB<=b/\∃c n st,H C q b=some (.cells c n st)/\aR.length*aN<=n/\(st=.own\/∃b3,st=.grow b3/\b∉b3/\∀o∈b3,cZ o/\C.aB<=o)
def f8.M{cZ:Nat->Prop}{b aN:Nat}{aE:z}{aR:List (List z)}(h:f8 C q cZ b aE aN aR)(k:∀o,cZ o->H C D o=H C q o):f8 C D cZ b aE aN aR:=
 ⟨h.rd.M k,λK=>by rw[k b (h.rd.W K)];exact h.wr K⟩
def f8.lift{cZ aI:Nat->Prop}{b aN:Nat}{aE:z}{aR:List (List z)}(h:f8 C q cZ b aE aN aR)(k:∀o,cZ o->aI o):f8 C q aI b aE aN aR:=
 ⟨h.rd.lift k,λK=>by
  obtain⟨f,c,n,st,g,i,j⟩:=h.wr K;exact⟨f,c,n,st,g,i,j.imp id λ⟨b3,e,W,d⟩=>⟨b3,e,W,λo a=>⟨k o (d o a).1,(d o a).2⟩⟩⟩⟩
def f8.nil(cZ:Nat->Prop)(aN:Nat):f8 C q cZ 0 .ax aN []:=⟨cl.nil cZ aN,λh=>absurd rfl h⟩
def da.xu{aN:Nat}{s:z}{aR:List (List z)}{aW:List Nat}(h:da C q s aN aR.flatten aW)(k:0<aN)(K:∀r∈aR,r.length=aN)(x:aR.length<=300000){cZ:Nat->Prop}(m:∀o∈aW,cZ o):∃b,f8 C q cZ b s aN aR:=by
 have g:=mc K;obtain⟨b,i⟩:=h.kG k K x m;rcases h with (⟨rfl,d,rfl⟩|⟨t,b3,n,c,rfl,d,rfl,f,l,w,G⟩)|⟨t,n,c,st,rfl,d,rfl,f,l,rfl,v⟩
 ·rw[d,ZT]at g
  have:aR=[]:=YP.1 (by rcases Nat.mul_eq_zero.1 g.symm with h|h<;>omega)
  subst this;exact⟨0,f8.nil cZ aN⟩
 ·refine⟨b,i,λe=> ?_⟩;have a:=i.c4 0 (ZP.2 e);have j:n=aR.length:=YZ k (by rw[<-d,g]);have A:=ZP.2 e;rw[m4 _ Zo]at a;simp only[Zh,z.ptr.injEq]at a;obtain⟨rfl,_⟩:=a;exact⟨f _ (Zr ..),c,_,_,w,by rw[j];omega,.inr ⟨b3,rfl,l,λo p=>⟨m o (Zw _ p),f o (Zw _ p)⟩⟩⟩
 ·refine⟨b,i,λe=> ?_⟩;have a:=i.c4 0 (ZP.2 e);have j:n=aR.length:=YZ k (by rw[<-d,g]);have A:=ZP.2 e;rw[nW _ Zo]at a;simp only[Zh,z.ptr.injEq]at a;obtain⟨rfl,_⟩:=a;exact⟨v,c,_,_,f,by rw[j];omega,.inl rfl⟩
def da.aaL{s:z}{aG:List z}{aW:List Nat}(h:da C q s 1 aG aW){cZ:Nat->Prop}(d:aG.length<=300000)(c:∀o∈aW,cZ o):∃b,f8 C q cZ b s 1 (aG.map λv=>[v]):=by
 have a:da C q s 1 (aG.map λv=>[v]).flatten aW:=by rw[ww];exact h
 exact a.xu Zd Zs (by simpa using d) c
structure fo(G:Prop):Prop where
 I:G
def As{bm A:Prop}(f:bm)(h:bm->A:=by intro f;(simp(disch:=omega) only[oa,ni,rx,p9,oP,qa,rr,rq,qU,nZ,ma,pg,qM,kz,mn,pi,mo,qP,qQ,qO,rJ,rL,rM,rN,rO,rP,rQ,rK,nq,rI,g0,z.cells,rT,rS,rR,q8,qG,qE,qF,qD,qC,qH,rD,rE,qv,qu,nE,qj,qk,kB,lg,pj,nX,dl,lL,k4,ih,zJ,Ym,zK,YD,YE,zv,Z9,Yd,ZI,ZT,Yz,Yk,Yf,Z8,Z5,ZK,ZN,ZL,ZJ,reduceIte,Nat.reduceEqDiff,Nat.reduceAdd,Nat.reduceMul,Nat.reduceLT,Nat.reduceBEq,YG,Yo,YN,YK,cI,ga,YJ,ZZ,YL,Nat.reduceLeDiff,Nat.reduceSub,ea,f])):A:=h f
def QI{bm A:Prop}(f:bm)(h:bm->A:=by intro f;(simp(disch:=omega) only[oa,ni,rx,p9,oP,qa,rr,rq,qU,nZ,ma,pg,qM,kz,mn,pi,mo,qP,qQ,qO,rJ,rL,rM,rN,rO,rP,rQ,rK,nq,rI,g0,z.cells,rT,rS,rR,q8,qG,qE,qF,qD,qC,qH,rD,rE,qv,qu,nE,qj,qk,kB,lg,pj,nX,dl,lL,k4,ih,zJ,Ym,zK,YD,YE,zv,Z9,Yd,ZI,ZT,Yz,Yk,Yf,Z8,Z5,ZK,ZN,ZL,ZJ,reduceIte,Nat.reduceEqDiff,Nat.reduceAdd,Nat.reduceMul,Nat.reduceLT,Nat.reduceBEq,YG,Yo,YN,YK,cI,ga,YJ,ZZ,YL,Nat.reduceLeDiff,Nat.reduceSub,ea,f]);rfl):A:=h f
def QJ{bm A aO:Prop}(f:bm)(t:aO)(h:bm->aO->A:=by intro f t;(simp(disch:=omega) only[oa,ni,rx,p9,oP,qa,rr,rq,qU,nZ,ma,pg,qM,kz,mn,pi,mo,qP,qQ,qO,rJ,rL,rM,rN,rO,rP,rQ,rK,nq,rI,g0,z.cells,rT,rS,rR,q8,qG,qE,qF,qD,qC,qH,rD,rE,qv,qu,nE,qj,qk,kB,lg,pj,nX,dl,lL,k4,ih,zJ,Ym,zK,YD,YE,zv,Z9,Yd,ZI,ZT,Yz,Yk,Yf,Z8,Z5,ZK,ZN,ZL,ZJ,reduceIte,Nat.reduceEqDiff,Nat.reduceAdd,Nat.reduceMul,Nat.reduceLT,Nat.reduceBEq,YG,Yo,YN,YK,cI,ga,YJ,ZZ,YL,Nat.reduceLeDiff,Nat.reduceSub,ea,f]);exact t):A:=h f t
def QB{bm A aO:Prop}(f:bm)(k:fo aO)(h:bm->fo aO->A:=by intro f k;(simp(disch:=omega) only[oa,ni,rx,p9,oP,qa,rr,rq,qU,nZ,ma,pg,qM,kz,mn,pi,mo,qP,qQ,qO,rJ,rL,rM,rN,rO,rP,rQ,rK,nq,rI,g0,z.cells,rT,rS,rR,q8,qG,qE,qF,qD,qC,qH,rD,rE,qv,qu,nE,qj,qk,kB,lg,pj,nX,dl,lL,k4,ih,zJ,Ym,zK,YD,YE,zv,Z9,Yd,ZI,ZT,Yz,Yk,Yf,Z8,Z5,ZK,ZN,ZL,ZJ,reduceIte,Nat.reduceEqDiff,Nat.reduceAdd,Nat.reduceMul,Nat.reduceLT,Nat.reduceBEq,YG,Yo,YN,YK,cI,ga,YJ,ZZ,YL,Nat.reduceLeDiff,Nat.reduceSub,ea,f]);exact k.I):A:=h f k
def bo{bm A aO:Prop}(f:bm)(k:fo aO)(h:bm->fo aO->A:=by intro f k;(repeat(with_reducible first|refine dN ?_ |refine hq ?_ |refine iF ?_ |refine k0 ?_ |refine yH ?_ |refine mQ ?_ |refine Bj ?_ |refine Bi ?_ |refine AD ?_ |refine AG ?_ |refine AC ?_ |refine AF ?_ |refine AZ ?_ |refine yM ?_ |refine Bh ?_ |refine Bg ?_ |refine sJ ?_ |refine sI ?_ |refine sH ?_ |refine sG ?_ |refine Au ?_ |refine mP ?_ |refine mO ?_ |refine uA ?_ |refine BE ?_ |refine BF ?_ |(refine dg (eS (by(first|assumption|(simp(disch:=omega) only[aM,ah,f]<;>rfl)|(simp(disch:=omega) only[aM,ah,f]))) Zo rfl Zd Zd rfl) ?_)|((conv=>whnf;arg 1;simp(disch:=omega) only[oa,ni,rx,p9,oP,qa,rr,rq,qU,nZ,ma,pg,qM,kz,mn,pi,mo,qP,qQ,qO,rJ,rL,rM,rN,rO,rP,rQ,rK,nq,rI,g0,z.cells,rT,rS,rR,q8,qG,qE,qF,qD,qC,qH,rD,rE,qv,qu,nE,qj,qk,kB,lg,pj,nX,dl,lL,k4,ih,zJ,Ym,zK,YD,YE,zv,Z9,Yd,ZI,ZT,Yz,Yk,Yf,Z8,Z5,ZK,ZN,ZL,ZJ,reduceIte,Nat.reduceEqDiff,Nat.reduceAdd,Nat.reduceMul,Nat.reduceLT,Nat.reduceBEq,YG,Yo,YN,YK,cI,ga,YJ,ZZ,YL,Nat.reduceLeDiff,Nat.reduceSub,ea,f]);(first|refine hq ?_ |refine iF ?_ |refine mP ?_ |refine mO ?_ |refine sJ ?_ |refine sI ?_ |refine sH ?_ |refine sG ?_))|dsimp only));exact k.I):A:=h f k
def js{bm A aO:Prop}(f:bm)(k:fo aO)(h:bm->fo aO->A:=by intro f k;(repeat(with_reducible first|refine hq ?_ |refine iF ?_ |refine k0 ?_ |refine yH ?_ |refine mQ ?_ |refine Bj ?_ |refine Bi ?_ |refine AD ?_ |refine AG ?_ |refine AC ?_ |refine AF ?_ |refine AZ ?_ |refine yM ?_ |refine Bh ?_ |refine Bg ?_ |refine sJ ?_ |refine sI ?_ |refine sH ?_ |refine sG ?_ |refine Au ?_ |refine mP ?_ |refine mO ?_ |refine uA ?_ |refine BE ?_ |refine BF ?_ |(refine dg (eS (by(first|assumption|(simp(disch:=omega) only[aM,ah,f]<;>rfl)|(simp(disch:=omega) only[aM,ah,f]))) Zo rfl Zd Zd rfl) ?_)|((conv=>whnf;arg 1;simp(disch:=omega) only[oa,ni,rx,p9,oP,qa,rr,rq,qU,nZ,ma,pg,qM,kz,mn,pi,mo,qP,qQ,qO,rJ,rL,rM,rN,rO,rP,rQ,rK,nq,rI,g0,z.cells,rT,rS,rR,q8,qG,qE,qF,qD,qC,qH,rD,rE,qv,qu,nE,qj,qk,kB,lg,pj,nX,dl,lL,k4,ih,zJ,Ym,zK,YD,YE,zv,Z9,Yd,ZI,ZT,Yz,Yk,Yf,Z8,Z5,ZK,ZN,ZL,ZJ,reduceIte,Nat.reduceEqDiff,Nat.reduceAdd,Nat.reduceMul,Nat.reduceLT,Nat.reduceBEq,YG,Yo,YN,YK,cI,ga,YJ,ZZ,YL,Nat.reduceLeDiff,Nat.reduceSub,ea,f]);(first|refine hq ?_ |refine iF ?_ |refine mP ?_ |refine mO ?_ |refine sJ ?_ |refine sI ?_ |refine sH ?_ |refine sG ?_))|dsimp only));exact k.I):A:=h f k
def k5{bm A aO:Prop}(f:bm)(k:fo aO)(h:bm->fo aO->A:=by intro f k;(with_reducible first|refine dN ?_ |refine hq ?_ |refine iF ?_ |refine k0 ?_ |refine yH ?_ |refine mQ ?_ |refine Bj ?_ |refine Bi ?_ |refine AD ?_ |refine AG ?_ |refine AC ?_ |refine AF ?_ |refine AZ ?_ |refine yM ?_ |refine Bh ?_ |refine Bg ?_ |refine sJ ?_ |refine sI ?_ |refine sH ?_ |refine sG ?_ |refine Au ?_ |refine mP ?_ |refine mO ?_ |refine uA ?_ |refine BE ?_ |refine BF ?_ |(refine dg (eS (by(first|assumption|(simp(disch:=omega) only[aM,ah,f]<;>rfl)|(simp(disch:=omega) only[aM,ah,f]))) Zo rfl Zd Zd rfl) ?_)|((conv=>whnf;arg 1;simp(disch:=omega) only[oa,ni,rx,p9,oP,qa,rr,rq,qU,nZ,ma,pg,qM,kz,mn,pi,mo,qP,qQ,qO,rJ,rL,rM,rN,rO,rP,rQ,rK,nq,rI,g0,z.cells,rT,rS,rR,q8,qG,qE,qF,qD,qC,qH,rD,rE,qv,qu,nE,qj,qk,kB,lg,pj,nX,dl,lL,k4,ih,zJ,Ym,zK,YD,YE,zv,Z9,Yd,ZI,ZT,Yz,Yk,Yf,Z8,Z5,ZK,ZN,ZL,ZJ,reduceIte,Nat.reduceEqDiff,Nat.reduceAdd,Nat.reduceMul,Nat.reduceLT,Nat.reduceBEq,YG,Yo,YN,YK,cI,ga,YJ,ZZ,YL,Nat.reduceLeDiff,Nat.reduceSub,ea,f]);(first|refine hq ?_ |refine iF ?_ |refine mP ?_ |refine mO ?_ |refine sJ ?_ |refine sI ?_ |refine sH ?_ |refine sG ?_))|dsimp only);exact k.I):A:=h f k
def aC{A:Prop}(h:A:=by exact As trivial):A:=h
def cT{A:Prop}(h:A:=by exact QI trivial):A:=h
def af{A aO:Prop}(t:aO)(h:aO->A:=by intro t;exact QJ trivial t):A:=h t
def o6{A aO:Prop}(k:fo aO)(h:fo aO->A:=by intro k;refine QB trivial ⟨?_⟩;exact k.I):A:=h k
def bx{A aO:Prop}(k:fo aO)(h:fo aO->A:=by intro k;refine bo trivial ⟨?_⟩;exact k.I):A:=h k
def h8{A aO:Prop}(k:fo aO)(h:fo aO->A:=by intro k;refine js trivial ⟨?_⟩;exact k.I):A:=h k
def eN{A aO:Prop}(k:fo aO)(h:fo aO->A:=by intro k;refine k5 trivial ⟨?_⟩;exact k.I):A:=h k
def cf{A:Prop}(h:A:=by exact⟨Zo,λb W=>zR⟩):A:=h
def bE{A aO b c:Prop}(a1:b)(a:c)(k:fo aO)(h:b->c->fo aO->A:=by intro a1 a k;refine bo (Za @a1 @a) ⟨?_⟩;exact k.I):A:=h @a1 @a k
def cg{A aO c d e:Prop}(a1:c)(a:d)(b:e)(k:fo aO)(h:c->d->e->fo aO->A:=by intro a1 a b k;refine bo (Za @a1 (Za @a @b)) ⟨?_⟩;exact k.I):A:=h @a1 @a @b k
def df{A aO c d e f:Prop}(a1:c)(a:d)(b:e)(f3:f)(k:fo aO)(h:c->d->e->f->fo aO->A:=by intro a1 a b f3 k;refine bo (Za @a1 (Za @a (Za @b @f3))) ⟨?_⟩;exact k.I):A:=h @a1 @a @b @f3 k
def dA{A aO d e f g i:Prop}(a1:d)(a:e)(b:f)(f3:g)(c:i)(k:fo aO)(h:d->e->f->g->i->fo aO->A:=by intro a1 a b f3 c k;refine bo (Za @a1 (Za @a (Za @b (Za @f3 @c)))) ⟨?_⟩;exact k.I):A:=h @a1 @a @b @f3 @c k
def eg{A aO e f g i j l:Prop}(a1:e)(a:f)(b:g)(f3:i)(c:j)(d:l)(k:fo aO)(h:e->f->g->i->j->l->fo aO->A:=by intro a1 a b f3 c d k;refine bo (Za @a1 (Za @a (Za @b (Za @f3 (Za @c @d))))) ⟨?_⟩;exact k.I):A:=h @a1 @a @b @f3 @c @d k
def cu{A aO f g i j l m n:Prop}(a1:f)(a:g)(b:i)(f3:j)(c:l)(d:m)(e:n)(k:fo aO)(h:f->g->i->j->l->m->n->fo aO->A:=by intro a1 a b f3 c d e k;refine bo (Za @a1 (Za @a (Za @b (Za @f3 (Za @c (Za @d @e)))))) ⟨?_⟩;exact k.I):A:=h @a1 @a @b @f3 @c @d @e k
def m0{A aO b c:Prop}(a1:b)(a:c)(k:fo aO)(h:b->c->fo aO->A:=by intro a1 a k;refine js (Za @a1 @a) ⟨?_⟩;exact k.I):A:=h @a1 @a k
def dF{A aO c d e:Prop}(a1:c)(a:d)(b:e)(k:fo aO)(h:c->d->e->fo aO->A:=by intro a1 a b k;refine js (Za @a1 (Za @a @b)) ⟨?_⟩;exact k.I):A:=h @a1 @a @b k
def aD.Zm{C:al}{f:Nat}{a:List z}{q:E S}{u:Nat}{T c ab:aY}(h:aD C f a q u T zX)(k:∀R D b,T R D b->c R D b):aD C f a q u c ab:=h.mono k (λ_ _ _ h=>h.elim)
end
end
end Go.aF
namespace Go.ak
def ez:List Tok->Prop
 |[]=>False|x::l=>x.kind=7/\x.text=[]\/ez l
def ez.hf{x:Tok}{l:List Tok}(h:ez (x::l))(a:x.kind≠7):ez l:=h.resolve_left λk=>a k.1
def cy{α:Type}(b:Nat)(aI:α->Prop)(x:di α):Prop:=∃r,x=some r/\∀a c,r=.ok (a,c)->ez c/\c.length<b/\aI a
def jR(e:aX):Prop:=e.kind=4->e.args≠[]
def cy.mono{α:Type}{b d:Nat}{aI c:α->Prop}{x:di α}(h:cy b aI x)(W:b<=d)(i:∀a,aI a->c a):cy d c x:=by obtain⟨r,f,g⟩:=h;exact⟨r,f,λa k e=>by obtain⟨a7,bl,j⟩:=g a k e;exact⟨a7,Zo,i a j⟩⟩
def cy.ok{α:Type}{b:Nat}{aI:α->Prop}{a:α}{l:List Tok}(c:ez l)(d:l.length<b)(f:aI a):cy b aI (ak.ok a l):=⟨_,rfl,λg h e=>by cases e;exact⟨c,d,f⟩⟩
def cy.bad{α:Type}{b:Nat}{aI:α->Prop}(a:Int):cy b aI (ak.bad a:di α):=⟨_,rfl,λc d e=>by cases e⟩
def cy.andThen{α cr:Type}{b g:Nat}{aI:α->Prop}{d:cr->Prop}{x:di α}{f:α->List Tok->di cr}(h:cy b aI x)(k:∀a c,ez c->c.length<b->aI a->cy g d (f a c)):cy g d (ak.andThen x f):=by obtain⟨r,rfl,i⟩:=h;cases r with|error a=>exact⟨_,rfl,λl c e=>by cases e⟩|ok p=>obtain⟨a,c⟩:=p;obtain⟨a7,bl,j⟩:=i a c rfl;exact k a c a7 bl j
def BM{x:Tok}{s:aA}(h:d4 x s=true):x.kind≠7:=by intro e;simp[d4,e]at h
def il{s:aA}{l:List Tok}(h:ez l):cy l.length (λ_=>True) (ce s l):=by
 cases l with
 |nil=>exact h.elim|cons x l=>
  simp only[ce];split
  ·rename_i a;exact cy.ok (h.hf (BM a)) Zs trivial
  ·exact cy.bad _
def mj{k:Int}(a:k≠7){l:List Tok}(h:ez l):cy l.length (λx:Tok=>True) (ew k l):=by
 cases l with
 |nil=>exact h.elim|cons x l=>
  simp only[ew];split
  ·rename_i b;exact cy.ok (h.hf Zo) Zs trivial
  ·exact cy.bad _
def jG{cr:Type}{s:aA}{l:List Tok}{f:Option Tok->List Tok->di cr}{b:Nat}{aI:cr->Prop}(h:ez l)(d:∀x a,ez a->a.length+1=l.length->cy b aI (f (some x) a))(e:cy b aI (f none l)):cy b aI (el s l f):=by
 cases l with
 |nil=>exact h.elim|cons x l=>
  unfold el f5;by_cases c:d4 x s=true
  ·simp only[c];exact d x l (h.hf (BM c)) Zs
  ·grind
def E0{l:List Tok}(h:ez l):∀os:List (aA×Int),∃e a,gV os l=some (e,a)/\(e=none/\a=l\/∃x,e=some x/\ez a/\a.length+1=l.length):=by
 cases l with
 |nil=>exact h.elim|cons x l=>
  intro os;induction os with
  |nil=>exact⟨_,_,rfl,.inl ⟨rfl,rfl⟩⟩|cons I os U=>
   obtain⟨s,k⟩:=I;unfold gV f5;by_cases b:d4 x s=true
   ·simp only[b];exact⟨_,_,rfl,.inr ⟨_,rfl,h.hf (BM b),Zs⟩⟩
   ·grind
structure I8(n:Nat):Prop where
 level:∀k l,k<=5->ez l->13*l.length+9-k<=n->cy l.length jR (level n k l)
 g9:∀k e l,k<=4->ez l->jR e->13*l.length+1<=n->cy (l.length+1) jR (g9 n k e l)
 shift:∀l,ez l->13*l.length+3<=n->cy l.length jR (shift n l)
 hr:∀e l,ez l->jR e->13*l.length+1<=n->cy (l.length+1) jR (hr n e l)
 hs:∀k x e l,k≠4->ez l->13*l.length+1<=n->cy l.length jR (hs n k x e l)
 lS:∀l,ez l->13*l.length+2<=n->cy l.length jR (jC n l)
 gU:∀e l,ez l->jR e->13*l.length+1<=n->cy (l.length+1) jR (gU n e l)
 part:∀l,ez l->13*l.length+1<=n->cy l.length jR (part n l)
 list:∀l,ez l->13*l.length+12<=n->cy l.length (λ_=>True) (list n l)
 ha:∀a l,ez l->13*l.length+1<=n->cy l.length (λ_=>True) (ha n a l)
 fZ:∀l,ez l->13*l.length+10<=n->cy l.length jR (fZ n l)
 arrow:∀l,ez l->13*l.length+11<=n->cy l.length jR (arrow n l)
def lW{e:aX}(h:e.kind≠4):jR e:=λk=>absurd k h
def B7{e:aX}(h:e.args≠[]):jR e:=λ_=>h
def ez.pos{l:List Tok}(h:ez l):0<l.length:=by cases l with
 |nil=>exact h.elim|cons x l=>simp
def NU:∀n,I8 n:=by
 intro n;induction n with
 |zero=>constructor<;>(intros;rename_i h _ _;omega)|succ n U=>
  constructor;case level=>
   intro k l N b p;rw[level];split
   ·exact U.shift l b Zo
   ·refine(U.level (k+1) l Zo b Zo).andThen λe f d g A=> ?_;exact(U.g9 k e f Zo d A Zo).mono Zo λ_ h=>h
  case g9=>
   intro k e l N b L p;have:=b.pos;rw[g9];obtain⟨I,f,d,g⟩:=E0 b (ae k);rw[d];rcases g with ⟨rfl,rfl⟩|⟨x,rfl,A,P⟩
   ·exact cy.ok b Zo L
   ·simp only[];refine(U.level (k+1) f Zo A Zo).andThen λr i a7 bl v=> ?_;split
    ·exact cy.ok a7 Zo (B7 (by simp[two,aX.args]))
    ·exact(U.g9 k _ i N a7 (B7 (by simp[two,aX.args])) Zo).mono Zo λ_ h=>h
  case shift=>
   intro l b p;have:=b.pos;rw[shift];refine(U.lS l b Zo).andThen λe f d g A=> ?_;exact(U.hr e f d A Zo).mono Zo λ_ h=>h
  case hr=>
   intro e l b L p;have:=b.pos;rw[hr];refine jG b (λx f d g=>(U.hs 19 x e f Zd d Zo).mono Zo λ_ h=>h) ?_;refine jG b (λx f d g=>(U.hs 20 x e f Zd d Zo).mono Zo λ_ h=>h) ?_;exact cy.ok b Zo L
  case hs=>
   intro k x e l N b p;have:=b.pos;rw[hs];refine(mj Zd b).andThen λm f d g A=> ?_;split
   ·exact cy.bad _
   ·exact(U.hr _ f d (lW (by simpa[aX.kind]using N)) Zo).mono Zo λ_ h=>h
  case lS=>
   intro l b p;have:=b.pos;rw[jC];obtain⟨I,f,d,g⟩:=E0 b n5;rw[d];rcases g with ⟨rfl,rfl⟩|⟨x,rfl,A,P⟩
   ·simp only[];refine(U.part f b Zo).andThen λe i a7 bl v=> ?_;exact(U.gU e i a7 v Zo).mono Zo λ_ h=>h
   ·simp only[];refine(U.lS f A Zo).andThen λe i a7 bl v=> ?_;exact cy.ok a7 Zo (B7 (by simp[aX.args]))
  case gU=>
   intro e l b L p;have:=b.pos;rw[gU];refine jG b (λx f d g=> ?_) (cy.ok b Zo L);have:=d.pos;refine jG d (λo i a7 bl=> ?_) ?_
   ·refine(mj Zd a7).andThen λm s j C w=> ?_;exact(U.gU _ s j (lW (by simp[aX.kind])) Zo).mono Zo λ_ h=>h
   ·refine(mj Zd d).andThen λm s j C w=> ?_;exact(U.gU _ s j (lW (by simp[aX.kind])) Zo).mono Zo λ_ h=>h
  case list=>
   intro l b p;have:=b.pos;rw[list];refine jG b (λx f d g=>cy.ok d Zo trivial) ?_;refine(U.arrow l b Zo).andThen λe i a7 bl v=> ?_;exact(U.ha _ i a7 Zo).mono Zo λ_ h=>h
  case ha=>
   intro T2 l b p;have:=b.pos;rw[ha];refine jG b (λx f d g=> ?_) ?_
   ·refine(U.arrow f d Zo).andThen λe i a7 bl v=> ?_;exact(U.ha _ i a7 Zo).mono Zo λ_ h=>h
   ·exact(il b).andThen λ_ f d g _=>cy.ok d Zo trivial
  case fZ=>
   intro l b p;have:=b.pos;rw[fZ];refine(U.level 0 l Zo b Zo).andThen λe i a7 bl v=> ?_;refine jG a7 (λx f d g=> ?_) (cy.ok a7 Zo v);have T6:kD e≠none:=by
    unfold kD;split
    ·simp
    ·split
     ·rename_i P;have:=v P;cases T4:e.args with|nil=>exact absurd T4 this|cons a l=>simp
     ·simp
   simp only[];split
   ·rename_i h;exact absurd h T6
   ·refine(U.fZ f d Zo).andThen λr s j C w=> ?_;exact cy.ok j Zo (lW (by simp[aX.kind]))
   ·exact cy.bad _
  case arrow=>
   intro l b p;have:=b.pos;rw[arrow];refine(U.fZ l b Zo).andThen λe i a7 bl v=> ?_;refine jG a7 (λx f d g=> ?_) (cy.ok a7 Zo v);refine(U.arrow f d Zo).andThen λr s j C w=> ?_;exact cy.ok j Zo (lW (by simp[aX.kind]))
  case part=>
   intro l b p;cases l with|nil=>exact b.elim|cons x l=>
   simp only[ZI]at p;rw[part];have T5:(x::l).length=l.length+1:=rfl;rw[T5];by_cases T1:x.kind=5
   ·rw[Zv T1];exact cy.ok (b.hf Zo) Zo (lW (by simp[aX.kind]))
   rw[Zi T1];split
   ·rename_i h
    have:x.kind=2:=by simp at h;exact h.1
    exact cy.ok (b.hf Zo) Zo (lW (by simp[aX.kind]))
   by_cases bV:x.kind=1
   ·rw[Zv bV];have t:=b.hf Zo;refine jG t (λo i d g=> ?_) (cy.ok t Zo (lW (by simp[aX.kind])));refine(U.list i d Zo).andThen λT2 s j C w=> ?_;exact cy.ok j Zo (lW (by simp[aX.kind]))
   rw[Zi bV];by_cases T0:x.kind=3
   ·rw[Zv T0];have t:=b.hf Zo;refine(il t).andThen λ_ i d g _=> ?_;refine(U.arrow i d Zo).andThen λe s j C w=> ?_;refine(il j).andThen λ_ O G X _=> ?_;exact cy.ok G Zo (lW (by simp[aX.kind]))
   rw[Zi T0];split
   ·rename_i h
    have:x.kind=6:=by simp at h;exact h.1
    have t:=b.hf Zo;refine(U.arrow l t Zo).andThen λe s j C w=> ?_;refine(il j).andThen λ_ O G X _=> ?_;exact cy.ok G Zo w
   split
   ·rename_i h
    have:x.kind=2:=by simp at h;exact h.1
    have t:=b.hf Zo;refine(U.arrow l t Zo).andThen λe s j C w=> ?_;refine(il j).andThen λ_ O G X _=> ?_;refine(U.arrow O G Zo).andThen λT3 U0 T8 U3 U4=> ?_;refine(il T8).andThen λ_ T7 T9 U5 _=> ?_;refine(U.arrow T7 T9 Zo).andThen λTZ U1 TY U6 U7=> ?_;exact cy.ok TY Zo (lW (by simp[aX.kind]))
   split
   ·rename_i h
    have:x.kind=2:=by simp at h;exact h.1
    have t:=b.hf Zo;refine(mj Zd t).andThen λc i d g _=> ?_;refine(U.part i d Zo).andThen λe s j C w=> ?_;refine(U.part s j Zo).andThen λT3 O G X U2=> ?_;exact cy.ok G Zo (lW (by simp[aX.kind]))
   ·exact cy.bad _
def G6:∀(n:Nat) (a l:List Tok),ez l->l.length<=n->cy l.length (λ_=>True) (i1 n a l):=by intro n;induction n with|zero=>intro a l h c;have:=h.pos;omega|succ n U=>intro a l h c;refine(mj Zd h).andThen λx f b e _=> ?_;refine jG b (λo d a7 bl=>(U _ d a7 Zo).mono Zo λ_ h=>h) (cy.ok b Zo trivial)
def O5{w:Option Tok}{l:List Tok}(h:ez l):cy (l.length+1) (λ_=>True) (lH w l):=by
 cases w with
 |none=>exact cy.ok h Zo trivial|some w=>
  refine jG h (λo d a7 bl=> ?_) ?_
  ·exact(mj Zd a7).andThen λx b a c _=>cy.ok a Zo trivial
  ·exact(mj Zd h).andThen λx b a c _=>cy.ok a Zo trivial
def y4:∀(n:Nat) (loc:Bool) (bb:List cG) (l:List Tok),ez l->l.length+1<=n->cy l.length (λ_=>True) (ep n loc bb l):=by
 intro n;induction n with
 |zero=>grind|succ n U=>
  intro loc bb l h C;refine(G6 n [] l h Zo).andThen λx G m A _=> ?_;refine(il m).andThen λ_ L a7 bl _=> ?_;refine(mj Zd a7).andThen λt g j N _=> ?_;have fin:∀w a,ez a->a.length<=g.length->cy l.length (λ_=>True) (andThen (lH w a) λr l=>ks loc (ep n loc) (bb++x.map (iS t.ty r.1 r.2.1 r.2.2)) l):=by
   intro w a d v;refine(O5 d).andThen λr p b c _=> ?_;unfold ks;cases p with
   |nil=>exact b.elim|cons o i=>
    simp only[oc,ZI]at c ⊢;split
    ·rename_i f;have e:=b.resolve_left λk=>(by rw[k.2]at f;cases f);split
     ·cases i with
      |nil=>exact e.elim|cons aj s=>
       simp only[oc];split
       ·exact cy.ok b (by simp at c ⊢;omega) trivial
       ·exact(U _ _ (aj::s) e (by simp at c ⊢;omega)).mono (by simp at c ⊢;omega) λ_ h=>h
     ·exact(U _ _ i e Zo).mono Zo λ_ h=>h
    ·exact cy.ok b Zx trivial
  refine jG j (λo a d v=>fin _ a d Zo) (fin _ g j Zo)
def PN{n:Nat}{l:List Tok}(h:ez l)(v:13*l.length+12<=n):cy l.length (λ_=>True) (lJ n l):=by
 have fin:∀(x:di (List Tok)),cy (l.length+1) (λ_=>True) x->cy l.length (λ_=>True) (andThen x λa l=>andThen (ce [61] l) λe l=>andThen (arrow n l) λr l=>andThen (ce [59] l) λ_ l=>ok (⟨a.map Tok.text,a.map Tok.at_,e.at_,r⟩:cA) l):=by intro x j;refine j.andThen λa k b i _=> ?_;refine(il b).andThen λ_ c a7 bl _=> ?_;refine((NU n).arrow c a7 Zo).andThen λe g d p _=> ?_;exact(il d).andThen λ_ m f s _=>cy.ok f Zo trivial
 refine jG h (λo k b i=>fin _ ?_) (fin _ ?_)
 ·refine(mj Zd b).andThen λx c a7 bl _=> ?_;refine(il a7).andThen λ_ g d p _=> ?_;refine(G6 n _ g d Zo).andThen λa m f s _=> ?_;exact(il f).andThen λ_ w t A _=>cy.ok t Zo trivial
 ·exact(mj Zd h).andThen λx c a7 bl _=>cy.ok a7 Zo trivial
def PT:∀(n:Nat) (c:List cA) (l:List Tok),ez l->13*l.length+13<=n->cy l.length (λ_=>True) (fJ n c l):=by intro n;induction n with|zero=>grind|succ n U=>intro c l h e;refine jG h (λo b a d=>cy.ok a Zo trivial) ?_;refine(PN h Zo).andThen λV b a d _=> ?_;exact(U _ b a Zo).mono Zo λ_ h=>h
def Tv{n:Nat}{l:List Tok}(h:ez l)(O:13*l.length+13<=n):cy l.length (λ_=>True) (node n l):=by
 refine(il h).andThen λ_ P G N _=> ?_;refine(mj Zd G).andThen λx X a7 bl _=> ?_;refine(il a7).andThen λ_ j v T0 _=> ?_;have C:∀cm out a,ez a->a.length<j.length->cy l.length (λ_=>True) (el [118,97,114] a λo l=>andThen (match o with
  |some _=>andThen (ep n true [] l) λbb l=>andThen (ce [59] l) λ_ l=>ok bb l|none=>ok [] l) λloc l=>
  andThen (ce [108,101,116] l) λ_ l=>andThen (fJ n [] l) λe l=>ok (⟨x.text,x.at_,cm,out,loc,e⟩:Node) l):=by
  intro cm out a d w;have t:∀(aj:di (List cG)),cy (a.length+1) (λ_=>True) aj->cy l.length (λ_=>True) (andThen aj λloc l=>
   andThen (ce [108,101,116] l) λ_ l=>andThen (fJ n [] l) λe l=>ok (⟨x.text,x.at_,cm,out,loc,e⟩:Node) l):=by
   intro aj i;refine i.andThen λloc k g A _=> ?_;refine(il g).andThen λ_ f b p _=> ?_;refine(PT n _ f b Zo).andThen λe m c r _=> ?_;exact cy.ok c Zo trivial
  refine jG d (λo k g A=>t _ ?_) (t _ (cy.ok d Zo trivial));refine(y4 n _ _ k g Zo).andThen λbb f b p _=> ?_;exact(il b).andThen λ_ m c r _=>cy.ok c Zo trivial
 have s:∀(aj:di (List cG)),cy (j.length+1) (λ_=>True) aj->cy l.length (λ_=>True) (andThen aj λcm l=>
  andThen (ce [114,101,116,117,114,110,115] l) λ_ l=>andThen (ce [40] l) λ_ l=>andThen (ep n false [] l) λout l=>andThen (ce [41] l) λ_ l=>
  el [118,97,114] l λo l=>andThen (match o with
  |some _=>andThen (ep n true [] l) λbb l=>andThen (ce [59] l) λ_ l=>ok bb l|none=>ok [] l) λloc l=>
  andThen (ce [108,101,116] l) λ_ l=>andThen (fJ n [] l) λe l=>ok (⟨x.text,x.at_,cm,out,loc,e⟩:Node) l):=by
  intro aj i;refine i.andThen λcm a d w _=> ?_;refine(il d).andThen λ_ k g A _=> ?_;refine(il g).andThen λ_ f b p _=> ?_;refine(y4 n _ _ f b Zo).andThen λout m c r _=> ?_;refine(il c).andThen λ_ L t1 T1 _=> ?_;exact C cm out L t1 Zo
 refine jG v (λo a d w=>s _ (cy.ok d Zo trivial)) (s _ ?_);refine(y4 n _ _ j v Zo).andThen λbb f b p _=> ?_;exact(il b).andThen λ_ m c r _=>cy.ok c Zo trivial
def Tz:∀(n:Nat) (Y:List Node) (l:List Tok),ez l->13*l.length+14<=n->cy l.length (λ_=>True) (nodes n Y l):=by
 intro n;induction n with
 |zero=>grind|succ n U=>
  intro Y l h d;refine(Tv h Zo).andThen λg b a c _=> ?_;cases b with
  |nil=>exact a.elim|cons x e=>
   simp;split
   ·exact cy.ok a Zo trivial
   ·exact(U _ _ a Zo).mono Zo λ_ h=>h
mutual
def eT:aX->Nat
 | .mk _ _ _ _ _ _ args=>1+eb args
def eb:List aX->Nat
 |[]=>0|e::l=>eT e+eb l
end
def Il:∀(l:List aX) (e:aX),eb (l++[e])=eb l+eT e
 |[],e=>by rw[Yq,eb,eb,eb];omega|a::l,e=>by rw[Yw,eb,eb,Il l e];omega
def be{α:Type}(aI:α->List Tok->Prop)(x:di α):Prop:=∀a b,x=some (.ok (a,b))->aI a b
section
variable{α cr:Type}
def be.none{aI:α->List Tok->Prop}:be aI none:=λ_ _ h=>by cases h
def be.ok{aI:α->List Tok->Prop}{a:α}{l:List Tok}(V:aI a l):be aI (ak.ok a l):=λb c e=>by cases e;exact V
def be.bad{aI:α->List Tok->Prop}(a:Int):be aI (ak.bad a:di α):=λb c e=>by cases e
def be.mono{aI b:α->List Tok->Prop}{x:di α}(h:be aI x)(k:∀a l,aI a l->b a l):be b x:=λa l e=>k a l (h a l e)
def be.andThen{aI:α->List Tok->Prop}{b:cr->List Tok->Prop}{x:di α}{f:α->List Tok->di cr}(h:be aI x)(k:∀a l,aI a l->be b (f a l)):be b (ak.andThen x f):=by
 unfold ak.andThen;split
 ·exact be.none
 ·exact λ_ _ e=>by cases e
 ·rename_i a l;exact k a l (h a l rfl)
def io{s:aA}{l:List Tok}:be (λ_ a=>a.length+1=l.length) (ce s l):=by
 cases l with
 |nil=>exact be.none|cons x l=>
  simp only[ce];split
  ·exact be.ok rfl
  ·exact be.bad _
def mm{k:Int}{l:List Tok}:be (λ_ a=>a.length+1=l.length) (ew k l):=by
 cases l with
 |nil=>exact be.none|cons x l=>
  simp only[ew];split
  ·exact be.ok rfl
  ·exact be.bad _
def jI{s:aA}{l:List Tok}{f:Option Tok->List Tok->di cr}{aI:cr->List Tok->Prop}(b:∀x a,a.length+1=l.length->be aI (f (some x) a))(c:be aI (f none l)):be aI (el s l f):=by cases l with|nil=>exact be.none|cons x l=>unfold el f5;grind
def vW{l:List Tok}:∀(os:List (aA×Int)) e b,gV os l=some (e,b)->(e=Option.none/\b=l)\/(∃k a,e=some (.mk k a [] false cd 0 [])/\b.length+1=l.length):=by intro os;induction os with|nil=>intro e b c;cases c;exact .inl ⟨rfl,rfl⟩|cons I os U=>obtain⟨s,k⟩:=I;intro e b c;cases l with|nil=>simp[gV,f5]at c|cons x l=>unfold gV f5 at c;grind
def fp(N:Nat)(e:aX)(l:List Tok):Prop:=eT e+l.length<=N
def p5(N:Nat)(a:List aX)(l:List Tok):Prop:=eb a+l.length<=N
def NY:∀n:Nat,(∀k l,be (fp l.length) (level n k l))/\(∀k e l,be (fp (eT e+l.length)) (g9 n k e l))/\(∀l,be (fp l.length) (shift n l))/\(∀e l,be (fp (eT e+l.length)) (hr n e l))
 /\(∀k x e l,be (fp (eT e+l.length+1)) (hs n k x e l))/\(∀l,be (fp l.length) (jC n l))/\(∀e l,be (fp (eT e+l.length)) (gU n e l))/\(∀l,be (fp l.length) (part n l))/\(∀l,be (p5 l.length) (list n l))/\(∀s l,be (p5 (eb s+l.length)) (ha n s l))
 /\(∀l,be (fp l.length) (fZ n l))/\(∀l,be (fp l.length) (arrow n l)):=by
 intro n;induction n with
 |zero=>
  refine⟨λk l=> ?_,λk e l=> ?_,λl=> ?_,λe l=> ?_,λk x e l=> ?_,λl=> ?_,λe l=> ?_,λl=> ?_,λl=> ?_,λs l=> ?_,λl=> ?_,λl=> ?_⟩
  ·rw[level];exact be.none
  ·rw[g9];exact be.none
  ·rw[shift];exact be.none
  ·rw[hr];exact be.none
  ·rw[hs];exact be.none
  ·rw[jC];exact be.none
  ·rw[gU];exact be.none
  ·rw[part];exact be.none
  ·rw[list];exact be.none
  ·rw[ha];exact be.none
  ·rw[fZ];exact be.none
  ·rw[arrow];exact be.none
 |succ n U=>
  obtain⟨v,L,i3,i4,i5,N,w,i8,i9,C,G,p⟩:=U;refine⟨λk l=> ?_,λk e l=> ?_,λl=> ?_,λe l=> ?_,λk x e l=> ?_,λl=> ?_,λe l=> ?_,λl=> ?_,λl=> ?_,λs l=> ?_,λl=> ?_,λl=> ?_⟩
  ·rw[level];split
   ·exact i3 l
   ·exact(v _ l).andThen λa bw h=>(L k a bw).mono λb f d=>ZE d h
  ·rw[g9];split
   ·exact be.none
   ·rename_i bw W;rcases vW _ _ _ W with ⟨_,rfl⟩|⟨_,_,h,_⟩
    ·exact be.ok (Zg _)
    ·cases h
   ·rename_i I bw W;rcases vW _ _ _ W with ⟨h,_⟩|⟨T0,O,h,X⟩
    ·cases h
    ·refine(v _ bw).andThen λr f d=> ?_;unfold fp at d;have T2:eT (two I e r)=1+(eT e+eT r):=(by unfold two;rw[eT,eb,eb,eb];omega);split
     ·exact be.ok (by unfold fp;omega)
     ·exact(L k _ f).mono λb j g=>by unfold fp at g ⊢;omega
  ·rw[shift];exact(N l).andThen λa bw h=>(i4 a bw).mono λb f d=>ZE d h
  ·rw[hr];refine jI (λx bw h=>(i5 19 x e bw).mono λb f d=>by unfold fp at d ⊢;omega) (jI (λx bw h=>(i5 20 x e bw).mono λb f d=>by unfold fp at d ⊢;omega) (be.ok (Zg _)))
  ·rw[hs];refine mm.andThen λm bw h=> ?_;split
   ·exact be.bad _
   ·exact(i4 _ bw).mono λb f d=>by unfold fp at d ⊢;rw[eT,eb,eb]at d;omega
  ·rw[jC];split
   ·exact be.none
   ·rename_i I bw W;rcases vW _ _ _ W with ⟨h,_⟩|⟨T0,O,h,X⟩
    ·cases h
    ·exact(N bw).andThen λa f d=>be.ok (by unfold fp at d ⊢;rw[eT,eb,eb];omega)
   ·rename_i bw W;rcases vW _ _ _ W with ⟨_,rfl⟩|⟨_,_,h,_⟩
    ·exact(i8 _).andThen λa f d=>(w a f).mono λb j g=>ZE g d
    ·cases h
  ·rw[gU];refine jI (λx bw h=>jI (λo f d=>mm.andThen λc j g=>(w _ j).mono λb A t=> ?_) (mm.andThen λc j g=>(w _ j).mono λb A t=> ?_)) (be.ok (Zg _))
   ·unfold fp at t ⊢;rw[eT,eb,eb]at t;omega
   ·unfold fp at t ⊢;rw[eT,eb,eb]at t;omega
  ·cases l with
   |nil=>rw[part];exact be.none|cons x l=>
    rw[part];have T1:(x::l).length=l.length+1:=rfl;split
    ·exact be.ok (by unfold fp;rw[eT,eb];omega)
    split
    ·exact be.ok (by unfold fp;rw[eT,eb];omega)
    split
    ·refine jI (λo bw h=>(i9 bw).andThen λs f d=>be.ok ?_) (be.ok ?_)
     ·unfold p5 at d;unfold fp;rw[eT];omega
     ·unfold fp;rw[eT,eb];omega
    split
    ·exact io.andThen λ_ bw i=>(p bw).andThen λe f d=>io.andThen λ_ j g=>be.ok (by unfold fp at d ⊢;rw[eT,eb,eb];omega)
    split
    ·exact(p l).andThen λe f d=>io.andThen λ_ j g=>be.ok (by unfold fp at d ⊢;omega)
    split
    ·exact(p l).andThen λc bw i=>io.andThen λ_ f d=>(p f).andThen λa j g=>io.andThen λ_ A t=>(p A).andThen λb T3 P=>be.ok (by unfold fp at i g P ⊢;rw[eT,eb,eb,eb,eb];omega)
    split
    ·exact mm.andThen λc bw i=>(i8 bw).andThen λa f d=>(i8 f).andThen λb j g=>be.ok (by unfold fp at d g ⊢;rw[eT,eb,eb,eb];omega)
    ·exact be.bad _
  ·rw[list];refine jI (λo bw h=>be.ok (by unfold p5;rw[eb];omega)) ((p l).andThen λe bw i=>(C [e] bw).mono λs f d=> ?_);unfold p5 at d ⊢;unfold fp at i;rw[eb,eb]at d;omega
  ·rw[ha];refine jI (λo bw h=>(p bw).andThen λe f d=>(C _ f).mono λbC j g=> ?_) (io.andThen λ_ bw i=>be.ok ?_)
   ·unfold p5 at g ⊢;unfold fp at d;rw[Il]at g;omega
   ·unfold p5;omega
  ·rw[fZ];refine(v 0 l).andThen λa bw i=>jI (λx f d=> ?_) (be.ok i);cases kD a with|none=>exact be.none|some V=>cases V with|false=>exact be.bad _|true=>exact(G f).andThen λr j g=>be.ok (by unfold fp at i g ⊢;rw[eT,eb,eb,eb];omega)
  ·rw[arrow];exact(G l).andThen λa bw i=>jI (λx f d=>(p f).andThen λr j g=>be.ok (by unfold fp at i g ⊢;rw[eT,eb,eb,eb];omega)) (be.ok i)
end
end Go.ak
namespace Go.aF
noncomputable section
open Go.RowKit (Below)
def Bu(f0:List Nat)(I:Nat->List z->Option z)(l:List (Nat×List z×z))(f:Nat)(args:List z):Option z:=ba (gN f f0) (j8 I l f args) (I f args)
section
variable{P:Program}{w:World}
def Env.Sa{nm:List (String×Nat)}(k:oD P nm){laid:List (String×DataW Unit)}{f0:List Nat}{I:Nat->List z->Option z}{l:List (Nat×List z×z)}(h:laidMet P laid w){cv:bX}{cw:Nat->Prop}
 (b:Env ⟨P,hX (ei P nm laid P.globals.size).2 .nil,(ei P nm laid P.globals.size).1,I,P.globals.size⟩ w cv cw)(n:vc l=true)
 (j:∀x∈l,∃m,n9 ⟨P,hX (ei P nm laid P.globals.size).2 .nil,(ei P nm laid P.globals.size).1,I,P.globals.size⟩ m x.1 x.2.1=some x.2.2):
 ∃F Q,Env ⟨P,hX (ei P nm laid P.globals.size).2 .nil,(ei P nm laid P.globals.size).1,Bu f0 I l,P.globals.size⟩ w F Q:=by
 obtain⟨F,Q,g,i⟩:=AT k h;have c:=Hz b n j;refine⟨F,Q,b.ge,⟨λf args v a=> ?_,λf args v a F e d=> ?_⟩,g,i,b.mem⟩
 ·have a:ba (gN f f0) (j8 I l f args) (I f args)=some v:=a;rw[cY]at a;split at a
  ·exact c.val f args v a
  ·exact b.eC.val f args v a
 ·have a:ba (gN f f0) (j8 I l f args) (I f args)=some v:=a;rw[cY]at a;split at a
  ·exact c.ok f args v a F e d
  ·exact b.eC.ok f args v a F e d
end
end
end Go.aF
