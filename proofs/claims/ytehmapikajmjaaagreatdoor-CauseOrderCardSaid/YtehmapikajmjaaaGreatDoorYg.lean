/- Part of the last text; no conditions -/
import Derived.Test.YtehmapikajmjaaaGreatDoorYf
set_option maxHeartbeats 8000000
set_option linter.all false
namespace Go.aC
noncomputable section
section
variable{C:ai}{j:B R}{k:Nat}
def aJ{b:Nat}{J:Option R}(e:C.aD<=b):F C (aI C j b J) b=J:=by rw[dt _ e,Zu rfl]
def ag{b x:Nat}{J:Option R}(e:C.aD<=b)(a:x≠b):F C (aI C j b J) x=F C j x:=by rw[dt _ e,Zi a]
def z2{p:Prop}(h:p:=by simp(disch:=omega) only[ag,aJ]<;>rfl):p:=h
def bv(b J:Nat):ay C j (.ptr b J)=match F C j b with|some (.cells c _ _)=>c.get J|_=>none:=by simp only[ay,cellsOf];grind
def i2(n b J:Nat):b4 C j n (.ptr b J)=match F C j b with|some (.cells c _ _)=>(c.g1 J n).map y.agg|_=>none:=by simp only[b4,cellsOf];grind
def FY(c:B y)(J:Nat):c.g1 J 0=some []:=rfl
def fF:∀(l:List y) (c:B y) (J i:Nat),(ch c J l).get i=if J<=i/\i<J+l.length then l[i-J]? else c.get i:=by intro l;induction l with|nil=>intro c J i;simp[ch];intro b d;omega|cons a l U=>intro c J i;simp only[ch,dD];rw[U,B.eX];grind
def pj{b J n:Nat}{c:B y}{st:it}(e:C.aD<=b):ay C (aI C j b (some (.cells c n st))) (.ptr b J)=c.get J:=by rw[bv,aJ e]
def qR{b x J:Nat}{bQ:Option R}(e:C.aD<=b)(a:x≠b):ay C (aI C j b bQ) (.ptr x J)=ay C j (.ptr x J):=by rw[bv,bv,ag e a]
def k7(C:ai)(j:B R)(b:Nat):Nat->Nat->Option (List y)
 |_,0=>some []|J,n+1=>(ay C j (.ptr b J)).bind λa=>(k7 C j b (J+1) n).bind λl=>some (a::l)
def qS{b J n:Nat}:b4 C j (n+1) (.ptr b J)=(k7 C j b J (n+1)).bind λl=>some (.agg l):=by
 have e:∀(c:B y) (m:Nat) (st:it),F C j b=some (.cells c m st)->∀n J,k7 C j b J n=c.g1 J n:=by intro c m st T n;induction n with|zero=>intro J;rfl|succ n U=>intro J;simp only[k7,B.g1,bv,T,U];grind
 rw[i2];cases T:F C j b with|none=>simp[k7,bv,T]|some bQ=>cases bQ with|cells c m st=>simp only[e c m st T];cases c.g1 J (n+1)<;>rfl|_=>simp[k7,bv,T]
structure aT(C:ai)(j:B R)(k:Nat)(S':B R)(W:Nat):Prop where
 le:k<=W
 K:∀b,b<k->F C S' b=F C j b
def aT.refl(j:B R)(k:Nat):aT C j k j k:=⟨Zg _,λ_ _=>rfl⟩
def aT.trans{am ah a:B R}{ak ar c:Nat}(e:aT C am ak ah ar)(q:aT C ah ar a c):aT C am ak a c:=
 ⟨ZD e.le q.le,λb T=>(q.K b (ZX T e.le)).trans (e.K b T)⟩
def aT.df{S':B R}{W:Nat}(e:aT C j k S' W)(b J:Nat)(T:b<k):ay C S' (.ptr b J)=ay C j (.ptr b J):=by rw[bv,bv,e.K b T]
def aT.fresh(e:C.aD<=k)(bQ:Option R):aT C j k (aI C j k bQ) (k+1):=
 ⟨Yd _,λb T=>ag e Zo⟩
def aT.more{S':B R}{W n:Nat}(q:aT C j k S' W)(e:W<=n):aT C j k S' n:=⟨ZD q.le e,q.K⟩
def aT.gr{S':B R}{W bP:Nat}(q:aT C j k S' W)(e:bP<=k):aT C j bP S' W:=⟨ZD e q.le,λb T=>q.K b (ZX T e)⟩
def jE{b J n:Nat}{c:B y}{v:y}(e:F C j b=some (.cells c n .own))(T:C.aD<=b)(i:J+1<=n)(g:v.cells=[v])(f:hV v=true):
 cN C j 1 (.ptr b J) v=some (aI C j b (some (.cells (c.set J (some v)) n .own))):=by
 have a:Nat.ble (J+1) n=true:=by simp_all
 have d:Nat.ble C.aD b=true:=by simp_all
 simp[cN,g,gX,e,eN,ei,f,a,d,ch]
def qx:List y->List (Nat×Nat×y)->Option (List y)
 |cells,[]=>some cells|cells,(off,size,v)::rest=>a8 (Nat.beq v.cells.length size&&Nat.ble (off+size) cells.length) (qx (iH cells off v.cells) rest) none
def dp(aE:List y)(b2:List (Nat×Nat×y)):Option y:=match qx aE b2 with|some cs=>some (.agg cs)|none=>none
def fG(aE:List y)(b:Nat):Option (y×R):=some (.ptr b 0,.cells (B.ofList aE 0 .nil) aE.length .own)
def dX(len:Nat)(aE:List y)(b2:List (Nat×Nat×y))(b:Nat):Option (y×R):=match qx aE b2 with
 |some cs=>some (.slice b 0 len len,.cells (B.ofList cs 0 .nil) cs.length .own)|none=>none
def ku(agg:Bool)(off size:Nat)(v:y):Option y:=match v with| .agg cs=>a8 agg (some (.agg ((cs.drop off).take size))) (kE cs off)|_=>none
def c2(v:y):Option y:=match v with| .slice _ _ n _=>hf .i64 (Int.ofNat n)| .cy _ _ n _=>hf .i64 (Int.ofNat n)| .au=>some (.int .i64 0)|_=>none
def hB(v:y):Option y:=match v with| .str s=>hf .i64 (Int.ofNat s.length)|_=>none
def n5(C:ai)(j:B R)(v:y):Option y:=match v with
 | .gs=>some (.int .i64 0)| .map r=>(match F C j r with|some (.map a _)=>hf .i64 (Int.ofNat a.length)|_=>none)|_=>none
def hv(q:IntKind)(v:y):Option y:=match (match v with| .int _ n=>gf q n|_=>none)with|some v=>some v|none=>none
def O0(v:y):Option y:=match (match v with| .str s=>some (y.str s)|_=>none)with|some v=>some v|none=>none
def oZ(C:ai)(j:B R)(v:y):Option y:=match (match v with| .str s=>some (y.str s)|_=>none)with|some v=>some v|none=>si C j v
def ly(t:Nat)(aw:y)(ok:Bool)(v:y):Option y:=match v with
 | .nilIface=>a8 ok (some (.tuple [aw,.bool false])) none| .iface es w=>a8 (Nat.beq es t) (some (a8 ok (.tuple [w,.bool true]) w)) (a8 ok (some (.tuple [aw,.bool false])) none)|_=>none
def fb(C:ai)(j:B R)(dZ:Nat)(aw m q:y)(ok:Bool):Option y:=
 match (match m with
  | .gs=>a8 (ha C 20 dZ q) (some none) none| .map r=>(match F C j r with|some (.map a _)=>a8 (ha C 20 dZ q) (findKey C j dZ q a 0) none|some (.look a)=>a8 (ha C 20 dZ q) (sV (jz C j dZ q a)) none|_=>none)|_=>none)with
  |none=>none|some none=>some (a8 ok (.tuple [aw,.bool false]) aw)|some (some (_,v))=>some (a8 ok (.tuple [v,.bool true]) v)
def fP(C:ai)(j:B R)(k aO:Nat)(s x:y):Option cj:=match f9 C j aO x with
 |some (n,l)=>a8 (Nat.beq n 0) (oQ C j aO s) (kZ C j k aO n l s)|none=>none
def hT(C:ai)(j:B R)(k dZ:Nat)(m q v:y):Option cj:=match m with
 | .map r=>(match F C j r with
   |some (.map a bq)=>a8 (ha C 20 dZ q) (match findKey C j dZ q a 0 with
    |some (some (i,_))=>(match kE a i with
     |some (b,_,born)=>a8 (hO 20 b q) (setObj C j k r (.map (a.set i (q,v,born)) bq) undef) none|none=>none)
    |some none=>setObj C j k r (.map (a++[(q,v,bq)]) (bq+1)) undef|none=>none) none
   |_=>none)
 |_=>none
def lH(agg:Bool)(n aO:Nat)(v i:y):Option y:=match hg i with
 |none=>none|some i=>match v with
  | .agg cs=>a8 (Nat.blt i n) (a8 agg (some (.agg ((cs.drop (i*aO)).take aO))) (kE cs (i*aO))) none|_=>none
def h7(v i:y):Option y:=match hg i with
 |none=>none|some i=>match v with
  | .str s=>(match kE s i with|some c=>some (.int .u8 (Int.ofNat c))|none=>none)|_=>none
def hE(v:y)(aW af:Option y):Option y:=match v with
 | .str s=>(match gd s.length s.length aW af none with
    |some (l,e,_)=>some (.str ((s.drop l).take (e-l)))|none=>none)
 |_=>none
def fY(C:ai)(j:B R)(aO:Nat)(x:y)(aW af c:Option y):Option y:=match x with
 | .slice b J len cap=>(match gd len cap aW af c with
   |some (l,e,m)=>some (.slice b (a8 (Nat.beq m l) J (J+l*aO)) (e-l) (m-l))|_=>none)
 | .au=>(match gd 0 0 aW af c with
   |some _=>some .au|_=>none)
 | .cy b J len a=>(match j9 C j b with
   |some n=>a8 (Nat.beq a aO&&Nat.blt 0 a) (match gd len ((n-J)/a) aW af c with
     |some (l,e,m)=>(match c with
      |some _=>some (.slice b (a8 (Nat.beq m l) J (J+l*a)) (e-l) (m-l))|none=>a8 (Nat.blt l ((n-J)/a)||Nat.beq l 0) (some (.cy b (J+l*a) (e-l) a)) none)
     |none=>none) none
   |_=>none)
 |_=>none
def Bw(n aO:Nat)(x:y)(aW af a:Option y):Option y:=match x with
 | .ptr b J=>(match gd n n aW af a with
   |some (l,e,m)=>some (.slice b (a8 (Nat.beq m l) J (J+l*aO)) (e-l) (m-l))|_=>none)
 |_=>none
def Br(C:ai)(j:B R)(k:Nat)(v:y):Option cj:=match v with
 | .str s=>gg C j k (.iI s 0) λb=> .ptr b 0|_=>none
def xl(C:ai)(j:B R)(k:Nat)(v:y):Option cj:=match v with
 | .gs=>gg C j k (.e7 none 0 [] 0) λb=> .ptr b 0| .map r=>(match F C j r with
   |some (.map _ bq)=>gg C j k (.e7 (some r) bq [] bq) λb=> .ptr b 0|_=>none)
 |_=>none
def xu(C:ai)(j:B R)(k:Nat)(v:y):Option cj:=match v with
 | .str l=>k4 C j k l.length 1 (l.map λn=>y.int .u8 (Int.ofNat n))|_=>none
def wT(C:ai)(j:B R)(k aO:Nat)(aw:List y)(l c:y):Option cj:=match hg l,hg c with
 |some l,some c=>a8 (Nat.ble l c&&Nat.ble c 1048576&&true&&true&&true) (gg C j k (.cells (B.ofList (fc c aw) 0 .nil) (c*aO) .own) λb=> .slice b 0 l c) none|_,_=>none
def gt{α:Type}{a:α}{S:α->Prop}(e:S a):Z (some a) S:=⟨e⟩
def iG{α:Type}{a:α}{S:α->Prop}(e:S a):bt (some a) S:=e
def l1{a:y}{S:aY}(e:S (.ptr k 0) (aI C j k (some (.cells (B.ofList a.cells 0 .nil) a.cells.length .own))) (k+1)):eM C j k a S:=⟨e⟩
def A1{v:y}{bQ:R}{S:aY}(e:S v (aI C j k (some bQ)) (k+1)):dG C j k v bQ S:=⟨e⟩
def A2{v:y}{bQ:R}{S:aY}(e:S v (aI C j k (some bQ)) (k+1)):dG C j k (Prod.mk v bQ).1 (Prod.mk v bQ).2 S:=⟨e⟩
def A0{b:Nat}{v:y}{bQ:R}{S:y->B R->Prop}(e:S v (aI C j b (some bQ))):g3 C j b (Prod.mk v bQ).1 (Prod.mk v bQ).2 S:=⟨e⟩
def yy{b:Nat}{a:y}{S:y->B R->Prop}(e:S (.ptr b 0) (aI C j b (some (.cells (B.ofList a.cells 0 .nil) a.cells.length .own)))):nM C j b a S:=⟨e⟩
def AZ{b:Nat}{v:y}{bQ:R}{S:y->B R->Prop}(e:S v (aI C j b (some bQ))):g3 C j b v bQ S:=⟨e⟩
def dV{a:dm}{body:dm->Prop}(e:body a):aG a body:=⟨e⟩
def Ar{a:aY}{body:aY->Prop}(e:body a):iZ a body:=⟨e⟩
def An{a:y->Prop}{body:(y->Prop)->Prop}(e:body a):bJ a body:=⟨e⟩
def Ao{a:y->B R->Prop}{body:(y->B R->Prop)->Prop}(e:body a):mi a body:=⟨e⟩
def Aq{a:Prop}{body:Prop->Prop}(e:body a):Ap a body:=⟨e⟩
def AI{n:Nat}{S:Nat->Prop}(e:S n):cO n S:=⟨e⟩
def Bn{v:y}{S':B R}{W:Nat}{S:aY}(e:S v S' W):d6 (some (.cJ v S' W)) j k S:=⟨e⟩
def Bo{v:y}{S:aY}(e:S v j k):d6 (some (.val v)) j k S:=⟨e⟩
def mR{a b:Prop}(e:a):ao (.bool true) a b:=⟨⟨λ_=>e,λu=>(by cases u)⟩⟩
def mQ{a b:Prop}(e:b):ao (.bool false) a b:=⟨⟨λu=>(by cases u),λ_=>e⟩⟩
def sE{a b:Prop}(e:a):e4 true (.bool true) a b:=⟨⟨λ_=>e,λu=>(by cases u)⟩⟩
def sD{a b:Prop}(e:b):e4 true (.bool false) a b:=⟨⟨λu=>(by cases u),λ_=>e⟩⟩
def sC{a b:Prop}(e:b):e4 false (.bool true) a b:=⟨⟨λu=>(by cases u),λ_=>e⟩⟩
def sB{a b:Prop}(e:a):e4 false (.bool false) a b:=⟨⟨λ_=>e,λu=>(by cases u)⟩⟩
def uw{f:Nat}{a c b:List y}{S ab:aY}(e:az C f ((a++c)++b) j k S ab):e5 C (.func (.func f) a b) c j k S ab:=⟨e⟩
def ed{x h:y}{S:Prop}(e:y.same 30 x h=true)(q:S):d8 x (some h) S:=⟨⟨e,q⟩⟩
@[congr] def adh{v c:y}{a b:Prop}(e:v=c):ao v a b=ao c a b:=by rw[e]
@[congr] def adn{w:Bool}{v c:y}{a b:Prop}(e:v=c):e4 w v a b=e4 w c a b:=by rw[e]
@[congr] def adi{f:Nat}{a b:List y}{S ab:aY}(e:a=b):az C f a j k S ab=az C f b j k S ab:=by rw[e]
def az.mono{f:Nat}{c:List y}{S ab g i:aY}(e:az C f c j k S ab)(d:∀M S' W,S M S' W->g M S' W)(m:∀M S' W,ab M S' W->i M S' W):az C f c j k g i:=by
 rcases e.out with ⟨M,a,b⟩|⟨a,b,l⟩
 ·exact⟨.inl ⟨M,a,d _ _ _ b⟩⟩
 ·exact⟨.inr ⟨a,b,l.mono d m⟩⟩
def wn{f a:Nat}(e:bD C f a=true):∃fn c,C.P.funcs[f]? =some fn/\fn.body=some c:=by unfold bD at e;grind
def bF{f:Nat}{a:List y}{S ab:aY}(b:bD C f a.length=true)(c:C.ez f a=none)(e:bL C f a j k S ab):az C f a j k S ab:=
 ⟨.inr ⟨c,wn b,Qi b e⟩⟩
def qf{f:Nat}{a:List y}{S ab:aY}{M:y}(b:C.ez f a=some M)(e:S M j k):az C f a j k S ab:=⟨.inl ⟨M,b,e⟩⟩
def ol(z:bO)(d n:Nat)(v:y):(H z d v).g n=if d=n then some v else z.g n:=by show a8 (Nat.beq d n) (some v) (z.g n)=_;rw[er]
def nk(z:bO)(d:Nat)(v:y):(H z d v).aP=z.aP:=rfl
def rz(z:bO)(d:Nat)(v:y):(H z d v).rc=z.rc:=rfl
def qa(l:List y)(n:Nat):(bI l).g n=l[n]? :=by simp[bI]
def oT(l:List y):(bI l).aP=[]:=rfl
def qb(l:List y):(bI l).rc=false:=rfl
def l8(l:List Nat)(z:bO)(n:Nat):(eH l z).g n=a8 (gH n l) none (z.g n):=rfl
def rt(z:bO)(d:eA)(n:Nat):(og z d).g n=z.g n:=rfl
def rs(z:bO)(d:eA):(og z d).aP=d::z.aP:=rfl
def qY(z:bO)(d n:Nat):(n7 z d).g n=z.g n:=rfl
def n8(z:bO)(d:Nat):(n7 z d).aP=⟨.collected d,[]⟩::z.aP:=rfl
def tW{f:Nat}{a:List y}{S ab:aY}(b:bD C f a.length=true)(c:C.ez f a=none)(e:o5 C f a j k S ab):az C f a j k S ab:=
 ⟨.inr ⟨c,wn b,Qj b e⟩⟩
def EU{f:Nat}{a:List y}{S ab:aY}(g:C.ez f a=none)(e:az C f a j k S ab):lT C f a j k S ab:=by
 rcases e.out with ⟨M,b,c⟩|⟨b,c,d⟩
 ·grind
 ·grind
def sn{p:Prop}[Decidable p]{a b:Prop}(c:p->a)(d:¬p->b):ao (.bool (decide p)) a b:=⟨λu=>c (by simpa using u),λu=>d (by simpa using u)⟩
def jw(b J:Nat):b4 C j 2 (.ptr b J)=(ay C j (.ptr b J)).bind λa=>(ay C j (.ptr b (J+1))).bind λc=>some (.agg [a,c]):=by rw[qS];simp only[k7,YW,Z7]
def mn(b J:Nat):b4 C j 3 (.ptr b J)=(ay C j (.ptr b J)).bind λa=>(ay C j (.ptr b (J+1))).bind λc=>(ay C j (.ptr b (J+2))).bind λd=>some (.agg [a,c,d]):=by rw[qS];simp only[k7,YW,Z7]
def pm(b J:Nat):b4 C j 4 (.ptr b J)=(ay C j (.ptr b J)).bind λa=>(ay C j (.ptr b (J+1))).bind λc=>(ay C j (.ptr b (J+2))).bind λd=>(ay C j (.ptr b (J+3))).bind λf=>some (.agg [a,c,d,f]):=by rw[qS];simp only[k7,YW,Z7]
def lJ(b J:Nat):b4 C j 6 (.ptr b J)=(ay C j (.ptr b J)).bind λa=>(ay C j (.ptr b (J+1))).bind λc=>(ay C j (.ptr b (J+2))).bind λd=>(ay C j (.ptr b (J+3))).bind λf=>(ay C j (.ptr b (J+4))).bind λg=>(ay C j (.ptr b (J+5))).bind λi=>some (.agg [a,c,d,f,g,i]):=by rw[qS];simp only[k7,YW,Z7]
def qU(b J:Nat):b4 C j 7 (.ptr b J)=(ay C j (.ptr b J)).bind λa=>(ay C j (.ptr b (J+1))).bind λc=>(ay C j (.ptr b (J+2))).bind λd=>(ay C j (.ptr b (J+3))).bind λf=>(ay C j (.ptr b (J+4))).bind λg=>(ay C j (.ptr b (J+5))).bind λi=>(ay C j (.ptr b (J+6))).bind λl=>some (.agg [a,c,d,f,g,i,l]):=by rw[qS];simp only[k7,YW,Z7]
def qV(b J:Nat):b4 C j 8 (.ptr b J)=(ay C j (.ptr b J)).bind λa=>(ay C j (.ptr b (J+1))).bind λc=>(ay C j (.ptr b (J+2))).bind λd=>(ay C j (.ptr b (J+3))).bind λf=>(ay C j (.ptr b (J+4))).bind λg=>(ay C j (.ptr b (J+5))).bind λi=>(ay C j (.ptr b (J+6))).bind λl=>(ay C j (.ptr b (J+7))).bind λm=>some (.agg [a,c,d,f,g,i,l,m]):=by rw[qS];simp only[k7,YW,Z7]
def qT(b J:Nat):b4 C j 11 (.ptr b J)=(ay C j (.ptr b J)).bind λa=>(ay C j (.ptr b (J+1))).bind λc=>(ay C j (.ptr b (J+2))).bind λf=>(ay C j (.ptr b (J+3))).bind λg=>(ay C j (.ptr b (J+4))).bind λi=>(ay C j (.ptr b (J+5))).bind λl=>(ay C j (.ptr b (J+6))).bind λm=>(ay C j (.ptr b (J+7))).bind λn=>(ay C j (.ptr b (J+8))).bind λp=>(ay C j (.ptr b (J+9))).bind λr=>(ay C j (.ptr b (J+10))).bind λd=>some (.agg [a,c,f,g,i,l,m,n,p,r,d]):=by rw[qS];simp only[k7,YW,Z7]
def rM(z0 a0:y):ch (B.ofList [z0] 0 .nil) 0 [a0]=B.ofList [a0] 0 .nil:=by rfl
def rO(z0 a a0 aL:y):ch (B.ofList [z0,a] 0 .nil) 0 [a0,aL]=B.ofList [a0,aL] 0 .nil:=by rfl
def rP(z0 a b a0 aL bs:y):ch (B.ofList [z0,a,b] 0 .nil) 0 [a0,aL,bs]=B.ofList [a0,aL,bs] 0 .nil:=by rfl
def rQ(z0 a b z3 a0 aL bs a3:y):ch (B.ofList [z0,a,b,z3] 0 .nil) 0 [a0,aL,bs,a3]=B.ofList [a0,aL,bs,a3] 0 .nil:=by rfl
def rR(z0 a b z3 z4 z5 a0 aL bs a3 a4 a5:y):ch (B.ofList [z0,a,b,z3,z4,z5] 0 .nil) 0 [a0,aL,bs,a3,a4,a5]=B.ofList [a0,aL,bs,a3,a4,a5] 0 .nil:=by rfl
def rS(z0 a b z3 z4 z5 c a0 aL bs a3 a4 a5 fj:y):ch (B.ofList [z0,a,b,z3,z4,z5,c] 0 .nil) 0 [a0,aL,bs,a3,a4,a5,fj]=B.ofList [a0,aL,bs,a3,a4,a5,fj] 0 .nil:=by rfl
def rT(z0 a b z3 z4 z5 c d a0 aL bs a3 a4 a5 fj fO:y):ch (B.ofList [z0,a,b,z3,z4,z5,c,d] 0 .nil) 0 [a0,aL,bs,a3,a4,a5,fj,fO]=B.ofList [a0,aL,bs,a3,a4,a5,fj,fO] 0 .nil:=by rfl
def rN(z0 b d z3 z4 z5 f g i z9 c a0 aL bs a3 a4 a5 fj fO ft a9 a:y):ch (B.ofList [z0,b,d,z3,z4,z5,f,g,i,z9,c] 0 .nil) 0 [a0,aL,bs,a3,a4,a5,fj,fO,ft,a9,a]=B.ofList [a0,aL,bs,a3,a4,a5,fj,fO,ft,a9,a] 0 .nil:=by rfl
def nt(c:B y)(J:Nat)(v:y):(ch c J [v]).get J=some v:=by rw[fF];simp
def rL{c:B y}{J i:Nat}{v:y}(e:i≠J):(ch c J [v]).get i=c.get i:=by rw[fF,Zi Zx]
def eR{b J q n:Nat}{c:B y}{v:y}(e:F C j b=some (.cells c n .own))(T:C.aD<=b)(l:v.cells.length=q)(m:0<q)(p:J+q<=n)(i:ei v.cells=true):
 cN C j q (.ptr b J) v=some (aI C j b (some (.cells (ch c J v.cells) n .own))):=by
 subst l;have d:Nat.blt 0 v.cells.length=true:=by simp_all
 have f:Nat.beq v.cells.length v.cells.length=true:=by simp
 have a:Nat.ble (J+v.cells.length) n=true:=by simp_all
 have g:Nat.ble C.aD b=true:=by simp_all
 simp only[cN,gX,e,eN,g,a,d,f,i,Z1,cE,dD]
def hU(q:IntKind)(n:Nat):hg (.int q (n:Int))=some n:=rfl
def Th(q:IntKind):hg (.int q 0)=some 0:=rfl
def qK(q:IntKind)(x h:Int):aH .lss (.int q x) (.int q h)=some (.bool (decide (x<h))):=by cases q<;>simp[aH,gF,gB]<;>(rw[Yg];simp)
def qI(q:IntKind)(x h:Int):aH .gtr (.int q x) (.int q h)=some (.bool (decide (h<x))):=by cases q<;>simp[aH,gF,gB]<;>(rw[Yg];simp)
def qJ(q:IntKind)(x h:Int):aH .leq (.int q x) (.int q h)=some (.bool (decide (x<=h))):=by cases q<;>simp[aH,gF,gB]<;>(rw[Yg];simp)
def qH(q:IntKind)(x h:Int):aH .geq (.int q x) (.int q h)=some (.bool (decide (h<=x))):=by cases q<;>simp[aH,gF,gB]<;>(rw[Yg];simp)
def qG(q:IntKind)(x h:Int):aH .eql (.int q x) (.int q h)=some (.bool (decide (x=h))):=by cases q<;>simp[aH,gF,gB]
def qL(q:IntKind)(x h:Int):aH .neq (.int q x) (.int q h)=some (.bool (decide (x≠h))):=by cases q<;>simp[aH,gF,gB]
def wrap64{n:Int}(a: -9223372036854775808<=n)(b:n<9223372036854775808):im .i64 n=n:=by simp only[im,c3,Zf];grind
def ck{x h:Int}(a: -9223372036854775808<=x+h)(b:x+h<9223372036854775808):aH .add (.int .i64 x) (.int .i64 h)=some (.int .i64 (x+h)):=by simp[aH,gF,gB,gf,wrap64 a b]
def ju{x h:Int}(a: -9223372036854775808<=x-h)(b:x-h<9223372036854775808):aH .sub (.int .i64 x) (.int .i64 h)=some (.int .i64 (x-h)):=by simp[aH,gF,gB,gf,wrap64 a b]
def F8(x h:Int):aH .add (.int .u64 x) (.int .u64 h)=some (.int .u64 ((x+h)%18446744073709551616)):=by simp[aH,gF,gB,gf,im]
def n3{aO b J len cap i:Nat}(q:IntKind)(e:i<len):da aO (.slice b J len cap) (.int q (i:Int))=some (.ptr b (J+i*aO)):=by simp[da,hU,pM];omega
def n4{aO b J len cap i:Nat}(q:IntKind)(e:i<len):da aO (.cy b J len cap) (.int q (i:Int))=some (.ptr b (J+i*aO)):=by simp[da,hU,pM];omega
def rW(d b J:Nat):d2 d (.ptr b J)=some (.ptr b (J+d)):=rfl
def rU(i:Nat)(l:List y):hH i (.tuple l)=l[i]? :=by simp[hH]
def rV(b J:Nat):hm (.ptr b J)=some (.ptr b J):=rfl
def rb(b:Bool):dP .not (.bool b)=some (.bool (!b)):=by simp[dP]
def kU(c:B y)(l:List y):Prop:=∀i,c.get i=l[i]?
def fS(l:List y):kU (B.ofList l 0 .nil) l:=λi=>g5 l i
def kU.app{c:B y}{l:List y}(e:kU c l)(m:List y):kU (ch c l.length m) (l++m):=by
 intro i;rw[fF];by_cases a:l.length<=i/\i<l.length+m.length
 ·grind
 ·rw[Zi a,e i];grind
def ds{a b:Nat}(e:a<=b):Nat.ble a b=true:=by simp_all
def tT{a b:Nat}(e:a<b):Nat.blt a b=true:=by simp_all
def Au:∀(l:List Nat) (j:B R) (h:Nat),(∀x∈l,C.aD<=x)->h∉l->F C (hy C l j) h=F C j h:=by intro l;induction l with|nil=>intro j h _ _;rfl|cons a l U=>intro j h c b;simp only[Zq,YU]at b;simp only[hy];rw[U _ _ (λx d=>c x (Zw _ d)) b.2,ag (c a (Zp ..)) b.1]
def en(C:ai)(j:B R)(s:y)(aO:Nat)(l:List y)(aQ:List Nat):Prop:=
 (s=.au/\l=[]/\aQ=[])\/∃b cl n c,s=.cy b 0 n aO/\l.length=n*aO/\aQ=b::cl/\(∀x∈aQ,C.aD<=x)/\b∉cl/\F C j b=some (.cells c (n*aO) (.grow cl))/\kU c l
def en.K{S':B R}{s:y}{aO:Nat}{l:List y}{aQ:List Nat}(e:en C j s aO l aQ)(r:∀h∈aQ,F C S' h=F C j h):en C S' s aO l aQ:=by
 rcases e with e|⟨b,cl,n,c,d,f,a,g,i,m,p⟩
 ·exact .inl e
 ·exact .inr ⟨b,cl,n,c,d,f,a,g,i,by rw[r b (by rw[a];exact Zp ..)];exact m,p⟩
def nf(l:List y)(J:Nat)(aF:List y):List y:=l.take J++(aF++l.drop (J+aF.length))
def aaz{l aF:List y}{J:Nat}(e:J+aF.length<=l.length):(nf l J aF).length=l.length:=by simp[nf];omega
def aay{l aF:List y}{J:Nat}(e:J+aF.length<=l.length)(i:Nat):(nf l J aF)[i]? =if J<=i/\i<J+aF.length then aF[i-J]? else l[i]? :=by unfold nf;grind
def kU.put{c:B y}{l:List y}(e:kU c l){J:Nat}{aF:List y}(a:J+aF.length<=l.length):kU (ch c J aF) (nf l J aF):=by intro i;rw[fF,aay a,e i]
def en.put{aO:Nat}{s:y}{l aF:List y}{aQ:List Nat}{b J:Nat}{v:y}(e:en C j s aO l aQ)(T:aQ.head?=some b)(O:v.cells=aF)(t:0<aF.length)(w:ei aF=true)(i:J+aF.length<=l.length):
 ∃S',cN C j aF.length (.ptr b J) v=some S'/\en C S' s aO (nf l J aF) [b]/\∀h,h∉aQ->F C S' h=F C j h:=by
 rcases e with ⟨rfl,rfl,rfl⟩|⟨d,cl,n,c,rfl,A,rfl,g,X,G,L⟩
 ·grind
 ·simp only[List.head?_cons,Zh]at T;subst T;have a:=g d (Zp ..);have N:=λx P=>g x (Zw _ P);refine⟨aI C (hy C cl j) d (some (.cells (ch c J aF) (n*aO) (.grow []))), ?_,.inr ⟨d,[],n,ch c J aF,rfl,by rw[aaz i];exact A,rfl,by simpa using a,Zs,aJ a,L.put i⟩,λh f=> ?_⟩
  ·have m:Nat.ble (J+aF.length) (n*aO)=true:=ds Zo;subst O;have p:=tT t;have r:Nat.beq v.cells.length v.cells.length=true:=(by simp);simp only[cN,gX,G,eN,ds a,m,p,r,w,Z1,cE,dD]
  ·simp only[Zq,YU]at f;rw[ag a f.1,Au _ _ _ N f.2]
def g6{aO q b n:Nat}{l:List y}{c:B y}{st:it}(e:F C j b=some (.cells c n st))(d:kU c l)(g:l.length=q*aO)(cap:Nat):f9 C j aO (.slice b 0 q cap)=some (q,l):=by
 have f:∀(m J:Nat),J+m<=l.length->c.g1 J m=some ((l.drop J).take m):=by intro m;induction m with|zero=>intro J _;simp[B.g1]|succ m U=>intro J i;have a:c.get J=some l[J]:=(by rw[d J,Zb Zo]);simp only[B.g1,a,U (J+1) Zo];rw[Zz (by omega:J<l.length),Yf]
 simp only[f9,gj,cellsOf,e];rw[f (q*aO) 0 Zo];simp[<-g]
def cG{b:dm->dm}{z:bO}{j:B R}{k:Nat}(a:Nat->dm)(m:Nat)(d:a m z j k)(e:∀m z j k,a m z j k->b (λz j k=>∃c,c<m/\a c z j k) z j k):cx b z j k:=⟨⟨a,⟨m,d⟩,e⟩⟩
def FX{c:B y}{l:List y}(b:kU c l):∀(m J:Nat),J+m<=l.length->c.g1 J m=some ((l.drop J).take m):=by
 intro m;induction m with
 |zero=>intro J _;simp[B.g1]|succ m U=>
  intro J d;have a:c.get J=some l[J]:=by rw[b J,Zb Zo]
  simp only[B.g1,a,U (J+1) Zo];rw[Zz (by omega:J<l.length),Yf]
def mb{aO:Nat}:∀{aR:List (List y)},(∀r∈aR,r.length=aO)->aR.flatten.length=aR.length*aO:=by intro aR;induction aR with|nil=>grind|cons a l U=>grind
abbrev zO(l:List y)(n:Nat):Option R:=some (.cells (B.ofList l 0 .nil) n .own)
def zP(i:Nat)(h:i<1000000000:=by omega):aH .add (.Z i) (.Z 1)=some (.Z (i+1:Nat)):=by rw[ck (by omega) (by omega)];rfl
def zQ{p:Prop}(h:p:=by simp(disch:=omega) only[ag]):p:=h
def zV{z7:ai}{z8 z9:B R}{b o:Nat}{v:Option y}(h:F z7 z9 b=F z7 z8 b)(k:ay z7 z8 (.ptr b o)=v):ay z7 z9 (.ptr b o)=v:=by rw[bv,h,<-bv];exact k
abbrev zS(T_:bO)(a_:Nat)(x_:y)(b_:Nat)(y_:y):bO:=H (H T_ a_ x_) b_ y_
abbrev zT(T_:bO)(a_:Nat)(x_:y)(b_:Nat)(y_:y)(c_:Nat)(z_:y):bO:=H (zS T_ a_ x_ b_ y_) c_ z_
abbrev zU(T_:bO)(a_:Nat)(x_:y)(b_:Nat)(y_:y)(c_:Nat)(w_:y)(d_:Nat)(u_:y):bO:=zS (zS T_ a_ x_ b_ y_) c_ w_ d_ u_
end
end
end Go.aC
namespace Go.aj
abbrev ax:=List Nat
structure cD where
 b:Bool
 s:Bool
 w:Int
 deriving DecidableEq
structure Tok where
 kind:Int
 text:ax
 at_:Int
 n:Int
 ty:cD
inductive aX where
 |mk (kind at_:Int) (name:ax) (no:Bool) (ty:cD) (n:Int) (args:List aX)
structure cR where
 name:ax
 at_:Int
 ty:cD
 on:ax
 cY:Int
 no:Bool
structure cS where
 left:List ax
 bN:List Int
 at_:Int
 right:aX
structure Node where
 name:ax
 at_:Int
 cv:List cR
 out:List cR
 loc:List cR
 eqs:List cS
abbrev GE:=Go.aj.Node
def cg:cD:=⟨false,false,0⟩
def aX.kind:aX->Int| .mk q _ _ _ _ _ _=>q
def aX.args:aX->List aX| .mk _ _ _ _ _ _ l=>l
abbrev dn(α:Type):=Option (Except Int (α×List Tok))
def ok{α:Type}(a:α)(l:List Tok):dn α:=some (.ok (a,l))
def bad{α:Type}(at_:Int):dn α:=some (.error at_)
def andThen{α cz:Type}(x:dn α)(f:α->List Tok->dn cz):dn cz:=match x with
 |none=>none|some (.error a)=>some (.error a)|some (.ok (a,l))=>f a l
def ek(x:Tok)(s:ax):Bool:=(x.kind=2||x.kind=6)&&x.text=s
def gv(s:ax):List Tok->Option (Option Tok×List Tok)
 |[]=>none|x::l=>if ek x s then some (some x,l)else some (none,x::l)
def eE{cz:Type}(s:ax)(l:List Tok)(f:Option Tok->List Tok->dn cz):dn cz:=match gv s l with
 |none=>none|some (x,l)=>f x l
def cq(s:ax):List Tok->dn Tok
 |[]=>none|x::l=>if ek x s then ok x l else bad x.at_
def eT(q:Int):List Tok->dn Tok
 |[]=>none|x::l=>if x.kind=q then ok x l else bad x.at_
def ae:Nat->List (ax×Int)
 |0=>[([111,114],7),([120,111,114],8)]|1=>[([97,110,100],9)]|2=>[([61],10),([60,62],11),([60,61],13),([62,61],15),([60],12),([62],14)]|3=>[([43],16),([45],17)]|4=>[([42],18)]|_=>[]
def hM:List (ax×Int)->List Tok->Option (Option aX×List Tok)
 |[],l=>some (none,l)|(s,q)::os,l=>match gv s l with
  |none=>none|some (some x,l)=>some (some (.mk q x.at_ [] false cg 0 []),l)|some (none,l)=>hM os l
def aX.at_:aX->Int| .mk _ a _ _ _ _ _=>a
def k9(u:aX):Option Bool:=if u.kind=1 then some true else if u.kind=4 then(match u.args with|[]=>none|a::_=>some (decide (a.kind=1)))else some false
def aX.name:aX->ax| .mk _ _ s _ _ _ _=>s
def aX.no:aX->Bool| .mk _ _ _ b _ _ _=>b
def aX.ty:aX->cD| .mk _ _ _ _ t _ _=>t
def aX.n:aX->Int| .mk _ _ _ _ _ n _=>n
def two(u:aX)(a b:aX):aX:=.mk u.kind u.at_ [] false cg 0 [a,b]
def oe:List (ax×Int):=[([110,111,116],3),([45],4),([112,114,101],5)]
mutual
def level:Nat->Nat->List Tok->dn aX
 |0,_,_=>none|n+1,q,l=>if q=5 then shift n l else andThen (level n (q+1) l) λleft l=>hR n q left l
def hR:Nat->Nat->aX->List Tok->dn aX
 |0,_,_,_=>none|n+1,q,left,l=>match hM (ae q) l with
  |none=>none|some (none,l)=>ok left l|some (some u,l)=>andThen (level n (q+1) l) λr l=>if q=2 then ok (two u left r) l else hR n q (two u left r) l
def shift:Nat->List Tok->dn aX
 |0,_=>none|n+1,l=>andThen (li n l) λleft l=>ie n left l
def ie:Nat->aX->List Tok->dn aX
 |0,_,_=>none|n+1,left,l=>eE [60,60] l λx l=>match x with
  |some x=>ig n 19 x left l|none=>eE [62,62] l λx l=>match x with
   |some x=>ig n 20 x left l|none=>ok left l
def ig:Nat->Int->Tok->aX->List Tok->dn aX
 |0,_,_,_,_=>none|n+1,q,x,left,l=>andThen (eT 4 l) λm l=>if 63<m.n then bad m.at_ else ie n (.mk q x.at_ [] false cg m.n [left]) l
def li:Nat->List Tok->dn aX
 |0,_=>none|n+1,l=>match hM oe l with
  |none=>none|some (some u,l)=>andThen (li n l) λa l=>ok (.mk u.kind u.at_ [] false cg 0 [a]) l|some (none,l)=>andThen (part n l) λleft l=>hl n left l
def hl:Nat->aX->List Tok->dn aX
 |0,_,_=>none|n+1,left,l=>eE [119,104,101,110] l λx l=>match x with
  |none=>ok left l|some x=>eE [110,111,116] l λno l=>andThen (eT 1 l) λc l=>hl n (.mk 6 x.at_ c.text no.isSome cg 0 [left]) l
def part:Nat->List Tok->dn aX
 |0,_=>none|_+1,[]=>none|n+1,x::l=>
  if x.kind=5 then ok (.mk 1 x.at_ [] false x.ty x.n []) l
  else if x.kind=2&&(x.text=[116,114,117,101]||x.text=[102,97,108,115,101])then ok (.mk 1 x.at_ [] false ⟨true,false,1⟩ (if x.text=[116,114,117,101]then 1 else 0) []) l
  else if x.kind=1 then eE [40] l λh l=>match h with
   |none=>ok (.mk 2 x.at_ x.text false cg 0 []) l|some _=>andThen (list n l) λd l=>ok (.mk 25 x.at_ x.text false cg 0 d) l
  else if x.kind=3 then andThen (cq [40] l) λ_ l=>andThen (arrow n l) λu l=>andThen (cq [41] l) λ_ l=>ok (.mk 26 x.at_ [] false x.ty 0 [u]) l
  else if x.kind=6&&x.text=[40]then andThen (arrow n l) λu l=>andThen (cq [41] l) λ_ l=>ok u l
  else if x.kind=2&&x.text=[105,102]then andThen (arrow n l) λc l=>andThen (cq [116,104,101,110] l) λ_ l=>andThen (arrow n l) λa l=>andThen (cq [101,108,115,101] l) λ_ l=>andThen (arrow n l) λb l=>ok (.mk 23 x.at_ [] false cg 0 [c,a,b]) l
  else if x.kind=2&&x.text=[109,101,114,103,101]then andThen (eT 1 l) λc l=>andThen (part n l) λa l=>andThen (part n l) λb l=>ok (.mk 24 x.at_ c.text false cg 0 [a,b]) l
  else bad x.at_
def list:Nat->List Tok->dn (List aX)
 |0,_=>none|n+1,l=>eE [41] l λh l=>match h with
  |some _=>ok [] l|none=>andThen (arrow n l) λu l=>hS n [u] l
def hS:Nat->List aX->List Tok->dn (List aX)
 |0,_,_=>none|n+1,d,l=>eE [44] l λh l=>match h with
  |none=>andThen (cq [41] l) λ_ l=>ok d l|some _=>andThen (arrow n l) λu l=>hS n (d++[u]) l
def gk:Nat->List Tok->dn aX
 |0,_=>none|n+1,l=>andThen (level n 0 l) λleft l=>eE [102,98,121] l λx l=>match x with
  |none=>ok left l|some x=>match k9 left with
   |none=>none|some true=>andThen (gk n l) λr l=>ok (.mk 21 x.at_ [] false cg 0 [left,r]) l|some false=>bad x.at_
def arrow:Nat->List Tok->dn aX
 |0,_=>none|n+1,l=>andThen (gk n l) λleft l=>eE [45,62] l λx l=>match x with
  |none=>ok left l|some x=>andThen (arrow n l) λr l=>ok (.mk 22 x.at_ [] false cg 0 [left,r]) l
end
def kB:Nat->List Tok->List Tok->dn (List Tok)
 |0,_,_=>none|n+1,a,l=>andThen (eT 1 l) λx l=>eE [44] l λh l=>match h with
  |none=>ok (a++[x]) l|some _=>kB n (a++[x]) l
def jq(ty:cD)(on:ax)(cY:Int)(no:Bool)(x:Tok):cR:=⟨x.text,x.at_,ty,on,cY,no⟩
def oo:Nat->List Tok->Option ax
 |_,[]=>none|0,x::_=>some x.text|i+1,_::l=>oo i l
def l6(loc:Bool)(q:List cR->List Tok->dn (List cR))(a:List cR)(l:List Tok):dn (List cR):=match oo 0 l with
 |none=>none|some s=>if s=[59]then(if loc then(match oo 1 l with
   |none=>none|some s=>if s=[108,101,116]then ok a l else q a (l.drop 1))else q a (l.drop 1))
  else ok a l
def nR(w:Option Tok)(l:List Tok):dn (ax×Int×Bool):=match w with
 |none=>ok ([],0,false) l|some _=>eE [110,111,116] l λno l=>andThen (eT 1 l) λon l=>ok (on.text,on.at_,no.isSome) l
def t2(loc:Bool)(q:List cR->List Tok->dn (List cR))(a:List cR)(b:List Tok)(l:List Tok):dn (List cR):=
 andThen (cq [58] l) λ_ l=>andThen (eT 3 l) λt l=>eE [119,104,101,110] l λw l=>
 andThen (nR w l) λr l=>l6 loc q (a++b.map (jq t.ty r.1 r.2.1 r.2.2)) l
def eV:Nat->Bool->List cR->List Tok->dn (List cR)
 |0,_,_,_=>none|n+1,loc,a,l=>andThen (kB n [] l) λb l=>t2 loc (eV n loc) a b l
def m0(n:Nat)(l:List Tok):dn cS:=eE [40] l λh l=>
 andThen (match h with
  |some _=>andThen (eT 1 l) λx l=>andThen (cq [44] l) λ_ l=>andThen (kB n [x] l) λa l=>andThen (cq [41] l) λ_ l=>ok a l|none=>andThen (eT 1 l) λx l=>ok [x] l) λa l=>
 andThen (cq [61] l) λu l=>andThen (arrow n l) λr l=>andThen (cq [59] l) λ_ l=>ok ⟨a.map Tok.text,a.map Tok.at_,u.at_,r⟩ l
def gC:Nat->List cS->List Tok->dn (List cS)
 |0,_,_=>none|n+1,a,l=>eE [116,101,108] l λh l=>match h with
  |some _=>ok a l|none=>andThen (m0 n l) λV l=>gC n (a++[V]) l
def node(n:Nat)(l:List Tok):dn Node:=
 andThen (cq [110,111,100,101] l) λ_ l=>andThen (eT 1 l) λx l=>andThen (cq [40] l) λ_ l=>eE [41] l λh l=>
 andThen (match h with
  |some _=>ok [] l|none=>andThen (eV n false [] l) λa l=>andThen (cq [41] l) λ_ l=>ok a l) λcv l=>
 andThen (cq [114,101,116,117,114,110,115] l) λ_ l=>andThen (cq [40] l) λ_ l=>andThen (eV n false [] l) λout l=>andThen (cq [41] l) λ_ l=>
 eE [118,97,114] l λh l=>andThen (match h with
  |some _=>andThen (eV n true [] l) λa l=>andThen (cq [59] l) λ_ l=>ok a l|none=>ok [] l) λloc l=>
 andThen (cq [108,101,116] l) λ_ l=>andThen (gC n [] l) λb l=>ok ⟨x.text,x.at_,cv,out,loc,b⟩ l
def nodes:Nat->List Node->List Tok->dn (List Node)
 |0,_,_=>none|n+1,aa,l=>andThen (node n l) λg l=>match l with
  |[]=>none|x::_=>if x.kind=7 then ok (aa++[g]) l else nodes n (aa++[g]) l
end Go.aj
namespace Go.aC
noncomputable section
open Go.aj
section
variable{C:ai}{j S' am:B R}{k W ak:Nat}
def jO{aE:List y}{S:aY}(e:S (.ptr k 0) (aI C j k (zO aE aE.length)) (k+1)):Z (fG aE k) λr=>dG C j k r.1 r.2 S:=⟨⟨e⟩⟩
def yr{b:Nat}{aE:List y}{S:y->B R->Prop}(e:S (.ptr b 0) (aI C j b (zO aE aE.length))):Z (fG aE b) λr=>g3 C j b r.1 r.2 S:=⟨⟨e⟩⟩
def l9(cs:List y):qx cs []=some cs:=rfl
def lE(cs:List y)(off size:Nat)(v:y)(b2:List (Nat×Nat×y)):qx cs ((off,size,v)::b2)=if v.cells.length=size/\off+size<=cs.length then qx (iH cs off v.cells) b2 else none:=by have u:∀a b:Nat,(Nat.beq a b=true)=(a=b):=λa b=>propext ⟨Zr,λe=>by subst e;exact zd a⟩;simp only[qx,c3,Zt,u,Nat.ble_eq]
def je(c:B y)(J:Nat)(v:y):ch c J [v]=c.set J (some v):=by simp[ch]
def aZ{b n:Nat}{c:B y}{st:it}(e:F C j b=some (.cells c n st))(J:Nat):ay C j (.ptr b J)=c.get J:=by rw[bv,e]
def Ae{w:Bool}{a b:Prop}(e:b):e4 w aC.undef a b:=⟨e⟩
def kz(b J n c:Nat):c2 (.slice b J n c)=some (.Z n):=by simp[c2,hf]
def k8(b J n c:Nat):c2 (.cy b J n c)=some (.Z n):=by simp[c2,hf]
def pn:c2 .au=some (.Z 0):=rfl
def n6(s:List Nat):hB (.str s)=some (.Z s.length):=by simp[hB,hf]
def pv:∀a b:List Nat,hC a b=decide (a=b):=by intro a;induction a with|nil=>intro b;cases b<;>simp[hC]|cons x a U=>intro b;cases b with|nil=>simp[hC]|cons h b=>simp only[hC,U];by_cases e:x=h<;>simp[e]
def rE(t:Nat)(c:Bool)(a b:List Nat):b0 C j .eql t c (.str a) (.str b)=some (.bool (decide (a=b))):=by simp[b0,oP,yx,pv]
def rF(t:Nat)(c:Bool)(a b:List Nat):b0 C j .neq t c (.str a) (.str b)=some (.bool (decide (a≠b))):=by simp[b0,oP,yx,pv]
def qz(off aO:Nat)(cs:List y):ku false off aO (.agg cs)=cs[off]? :=by simp[ku,c3]
def qy(off aO:Nat)(cs:List y):ku true off aO (.agg cs)=some (.agg ((cs.drop off).take aO)):=by simp[ku,c3]
def nL(t:Nat)(aw v:y):ly t aw true (.iface t v)=some (.tuple [v,.zV]):=by simp[ly,c3]
def qm(q:IntKind)(x:Int):hv .u64 (.int q x)=some (.int .u64 (x%18446744073709551616)):=by simp[hv,gf,im]
def E9{q:IntKind}{x:Int}(a: -9223372036854775808<=x)(b:x<9223372036854775808):hv .i64 (.int q x)=some (.Z x):=by simp[hv,gf,wrap64 a b]
def qn(s:List Nat):O0 (.str s)=some (.str s):=rfl
structure bo(C:ai)(X:List Nat)(j:B R)(k:Nat)(S':B R)(W:Nat):Prop where
 le:k<=W
 K:∀b,b<k->b∉X->F C S' b=F C j b
def bo.refl(X:List Nat)(j:B R)(k:Nat):bo C X j k j k:=⟨Zg _,λ_ _ _=>rfl⟩
def bo.trans{X:List Nat}{am ah a:B R}{ak ar d:Nat}(e:bo C X am ak ah ar)(q:bo C X ah ar a d):bo C X am ak a d:=
 ⟨ZD e.le q.le,λb T c=>(q.K b (ZX T e.le) c).trans (e.K b T c)⟩
def bo.of{X:List Nat}(e:aT C j k S' W):bo C X j k S' W:=⟨e.le,λb T _=>e.K b T⟩
def bo.df{X:List Nat}(e:bo C X j k S' W)(b J:Nat)(T:b<k)(a:b∉X):ay C S' (.ptr b J)=ay C j (.ptr b J):=by rw[bv,bv,e.K b T a]
def bo.down{X cU:List Nat}{aD:Nat}(e:bo C X j k S' W)(a:aD<=k)(c:∀b∈X,b∈cU\/aD<=b):bo C cU j aD S' W:=
 ⟨ZD a e.le,λb T d=>e.K b Zo (λu=>by rcases c b u with e|e;exact d e;omega)⟩
structure ca(C:ai)(j:B R)(P:Nat->Prop)(b:Nat)(aB:y)(aO:Nat)(aR:List (List y)):Prop where
 T:aR≠[]->P b
 many:aR.length<=300000
 wide:∀r∈aR,r.length=aO
 len:c2 aB=some (.Z aR.length)
 c0:∀(i:Nat),i<aR.length->da aO aB (.Z i)=some (.ptr b (i*aO))
 cell:∀(i:Nat) r (E:Nat) v,aR[i]? =some r->r[E]? =some v->ay C j (.ptr b (i*aO+E))=some v
def ca.K{P:Nat->Prop}{b aO:Nat}{aB:y}{aR:List (List y)}(e:ca C j P b aB aO aR)(q:∀h,P h->F C S' h=F C j h):ca C S' P b aB aO aR:=
 ⟨e.T,e.many,e.wide,e.len,e.c0,λi r E v af a=>by
  have c:=q b (e.T (λu=>by rw[u]at af;cases af));rw[bv,c, <-bv];exact e.cell i r E v af a⟩
def ca.lift{P aK:Nat->Prop}{b aO:Nat}{aB:y}{aR:List (List y)}(e:ca C j P b aB aO aR)(q:∀h,P h->aK h):ca C j aK b aB aO aR:=
 ⟨λu=>q _ (e.T u),e.many,e.wide,e.len,e.c0,e.cell⟩
def Ad{c:B y}:∀(r:List y) (J:Nat),(∀E v,r[E]? =some v->c.get (J+E)=some v)->c.g1 J r.length=some r:=by intro r;induction r with|nil=>intro J _;rfl|cons a r U=>intro J e;have b:=e 0 a rfl;rw[ZL]at b;have d:=U (J+1) (λE v f=>by have:=e (E+1) v (by simpa using f);rw[Nat.add_right_comm];simpa[Yi,Nat.add_comm,Nat.add_left_comm]using this);simp[B.g1,b,d]
def ca.row{P:Nat->Prop}{b aO:Nat}{aB:y}{aR:List (List y)}(e:ca C j P b aB aO aR)(p:0<aO){i:Nat}{r:List y}(af:aR[i]? =some r):b4 C j aO (.ptr b (i*aO))=some (.agg r):=by
 have f:=e.wide r (Zl af);have g:∃v,r[0]? =some v:=by cases r with|nil=>simp at f;omega|cons a l=>exact⟨a,rfl⟩
 obtain⟨v,n⟩:=g;have d:=e.cell i r 0 v af n;rw[bv]at d;rw[i2];split at d
 ·rename_i c _ _ T;have:=Ad (c:=c) r (i*aO) (λE v m=>by
   have:=e.cell i r E v af m;rw[bv,T]at this;exact this)
  rw[f]at this;rw[this];rfl
 ·cases d
def y9{aO:Nat}:∀(aR:List (List y)),(∀r∈aR,r.length=aO)->∀(i:Nat) r (E:Nat) v,aR[i]? =some r->r[E]? =some v->aR.flatten[i*aO+E]? =some v:=by intro aR;induction aR with|nil=>intro _ i r E v af;simp at af|cons a l U=>intro I i r E v af b;have c:=I a (Zp ..);have f:E<r.length:=(Ze.1 b).1;cases i with|zero=>simp at af;subst af;rw[YD,zF,ZQ,ZO Zo];exact b|succ i=>simp at af;rw[YD,ZT (by rw[c,Yj];omega),c];have:(i+1)*aO+E-aO=i*aO+E:=(by rw[Yj];omega);rw[this];exact U (λr d=>I r (Zw _ d)) i r E v af b
def en.kG{aO:Nat}{s:y}{aR:List (List y)}{aQ:List Nat}(e:en C j s aO aR.flatten aQ)(X:0<aO)(I:∀r∈aR,r.length=aO)(L:aR.length<=300000){P:Nat->Prop}(G:∀h∈aQ,P h):∃b,ca C j P b s aO aR:=by
 have m:=mb I;have F:∀(aR:List (List y)),(∀r∈aR,r.length=aO)->∀(i:Nat) r (E:Nat) v,aR[i]? =some r->r[E]? =some v->aR.flatten[i*aO+E]? =some v:=by intro aR;induction aR with|nil=>intro _ i r E v af;simp at af|cons a l U=>intro I i r E v af d;have w:=I a (Zp ..);have T2:E<r.length:=(Ze.1 d).1;cases i with|zero=>simp at af;subst af;rw[YD,zF,ZQ,ZO Zo];exact d|succ i=>simp at af;rw[YD,ZT (by rw[w,Yj];omega),w];have:(i+1)*aO+E-aO=i*aO+E:=(by rw[Yj];omega);rw[this];exact U (λr O=>I r (Zw _ O)) i r E v af d
 rcases e with ⟨f,g,t⟩|⟨b,cl,n,c,f,g,t,T0,T1,x,A⟩
 ·have p:aR.length=0:=by
   rw[g,ZU]at m;rcases Nat.mul_eq_zero.1 m.symm with e|e
   ·exact e
   ·omega
  have p:aR=[]:=YJ.1 p;subst p f;exact⟨0,λu=>absurd rfl u,Zs,I,rfl,λi af=>by simp at af,λi r E v af=>by simp at af⟩
 ·have N:n=aR.length:=Y1 X (by rw[<-g,m]);subst N f;refine⟨b,λ_=>G b (by rw[t];exact Zp ..),L,I,k8 ..,λi af=>by rw[n4 _ af,ZQ],λi r E v af d=> ?_⟩;rw[bv,x];exact(A _).trans (F aR I i r E v af d)
def u2{b aO q cap:Nat}{aR:List (List y)}{st:it}(T:F C j b=some (.cells (B.ofList aR.flatten 0 .nil) (q*aO) st))(f:aR.length=q)(I:∀r∈aR,r.length=aO)(g:q<=300000){P:Nat->Prop}(aU:P b):ca C j P b (.slice b 0 q cap) aO aR:=by
 subst f;have F:∀(aR:List (List y)),(∀r∈aR,r.length=aO)->∀(i:Nat) r (E:Nat) v,aR[i]? =some r->r[E]? =some v->aR.flatten[i*aO+E]? =some v:=by intro aR;induction aR with|nil=>intro _ i r E v af;simp at af|cons a l U=>intro I i r E v af c;have d:=I a (Zp ..);have n:E<r.length:=(Ze.1 c).1;cases i with|zero=>simp at af;subst af;rw[YD,zF,ZQ,ZO Zo];exact c|succ i=>simp at af;rw[YD,ZT (by rw[d,Yj];omega),d];have:(i+1)*aO+E-aO=i*aO+E:=(by rw[Yj];omega);rw[this];exact U (λr m=>I r (Zw _ m)) i r E v af c
 refine⟨λ_=>aU,g,I,kz ..,λi af=>by rw[n3 _ af,ZQ],λi r E v af c=> ?_⟩;rw[bv,T];exact(g5 _ _).trans (F aR I i r E v af c)
def cI(t:cD):List y:=[.bool t.b,.bool t.s,.Z t.w]
def jl(C:ai)(j:B R)(b:Nat):Prop:=∃c n,F C j b=some (.cells c n .own)/\8<n
def tG(C:ai)(j:B R)(b q:Nat):Prop:=C.aD<=b/\∃c n,F C j b=some (.cells c n .own)/\q<=n
def sb(C:ai)(j:B R)(aB:y)(b q:Nat):Prop:=tG C j b q/\∃c,aB=.slice b 0 q c/\q<=c
def tG.K{b q:Nat}(e:tG C j b q)(V:F C S' b=F C j b):tG C S' b q:=by unfold tG;rw[V];exact e
def sb.K{aB:y}{b q:Nat}(e:sb C j aB b q)(V:F C S' b=F C j b):sb C S' aB b q:=⟨e.1.K V,e.2⟩
def jl.K{b:Nat}(e:jl C j b)(q:F C S' b=F C j b):jl C S' b:=by unfold jl;rw[q];exact e
mutual
def bB(C:ai)(j:B R):(Nat->Prop)->aX->y->Prop
 |P,.mk kind at_ name no ty n args,v=>∃b,v=.ptr b 0/\P b/\jl C j b/\ay C j (.ptr b 0)=some (.Z kind)/\ay C j (.ptr b 1)=some (.Z at_)/\ay C j (.ptr b 2)=some (.str name)/\ay C j (.ptr b 3)=some (.bool no)
   /\ay C j (.ptr b 4)=some (.bool ty.b)/\ay C j (.ptr b 5)=some (.bool ty.s)/\ay C j (.ptr b 6)=some (.Z ty.w)/\ay C j (.ptr b 7)=some (.int .u64 n)
   /\∃aB bz aF,ay C j (.ptr b 8)=some aB/\ca C j P bz aB 1 (aF.map λv=>[v])/\(aF≠[]->bz≠b/\(kind≠25/\kind≠23->sb C j aB bz aF.length))/\b3 C j (λh=>P h/\h≠b/\h≠bz) args aF
def b3(C:ai)(j:B R):(Nat->Prop)->List aX->List y->Prop
 |_,[],aF=>aF=[]|P,u::c,aF=>∃v a aK,aF=v::a/\(∀h,aK h->P h)/\bB C j aK u v/\b3 C j (λh=>P h/\¬aK h) c a
end
mutual
def bB.K{P:Nat->Prop}(q:∀h,P h->F C S' h=F C j h):∀(u:aX) (v:y),bB C j P u v->bB C S' P u v
 | .mk kind at_ name no ty n args,v,e=>by unfold bB at e ⊢;obtain⟨b,f,aU,T0,g,i,x,A,G,L,N,O,aB,bz,aF,t,m,p,w⟩:=e;have a:∀J,ay C S' (.ptr b J)=ay C j (.ptr b J):=λJ=>(by rw[bv,bv,q b aU]);exact⟨b,f,aU,T0.K (q b aU),by rw[a];exact g,by rw[a];exact i,by rw[a];exact x,by rw[a];exact A,by rw[a];exact G,by rw[a];exact L,by rw[a];exact N,by rw[a];exact O,aB,bz,aF,by rw[a];exact t,m.K q,(λl=>⟨(p l).1,λX=>((p l).2 X).K (q bz (m.T (by simpa using l)))⟩),b3.K (λh c=>q h c.1) args aF w⟩
def b3.K{P:Nat->Prop}(q:∀h,P h->F C S' h=F C j h):∀(d:List aX) (aF:List y),b3 C j P d aF->b3 C S' P d aF
 |[],aF,e=>by unfold b3 at e ⊢;exact e|u::d,aF,e=>by unfold b3 at e ⊢;obtain⟨v,s,aK,f,r,g,i⟩:=e;exact⟨v,s,aK,f,r,bB.K (λh c=>q h (r h c)) u v g,b3.K (λh c=>q h c.1) d s i⟩
end
mutual
def bB.lift{P aK:Nat->Prop}(q:∀h,P h->aK h):∀(u:aX) (v:y),bB C j P u v->bB C j aK u v
 | .mk kind at_ name no ty n args,v,e=>by unfold bB at e ⊢;obtain⟨b,d,aU,L,f,g,r,s,t,w,x,A,aB,bz,aF,l,m,G,p⟩:=e;exact⟨b,d,q b aU,L,f,g,r,s,t,w,x,A,aB,bz,aF,l,m.lift q,G,b3.lift (λh a=>⟨q h a.1,a.2⟩) args aF p⟩
def b3.lift{P aK:Nat->Prop}(q:∀h,P h->aK h):∀(c:List aX) (aF:List y),b3 C j P c aF->b3 C j aK c aF
 |[],aF,e=>by unfold b3 at e ⊢;exact e|u::c,aF,e=>by unfold b3 at e ⊢;obtain⟨v,i,b7,d,N,f,g⟩:=e;exact⟨v,i,b7,d,λh a=>q h (N h a),f,b3.lift (λh a=>⟨q h a.1,a.2⟩) c i g⟩
end
def b3.nil{P:Nat->Prop}:b3 C j P [] []:=by unfold b3;rfl
def ep(kind at_:Int)(name:ax)(no:Bool)(ty:cD)(n:Int)(aB:y):List y:=[.Z kind,.Z at_,.str name,.bool no,.bool ty.b,.bool ty.s,.Z ty.w,.int .u64 n,aB]
def AT:8<9:=by decide
def bB.of{P:Nat->Prop}{b bz:Nat}{kind at_ n:Int}{name:ax}{no:Bool}{ty:cD}{aB:y}{m:Nat}{st:it}{args:List aX}{aF:List y}(T:F C j b=some (.cells (B.ofList (ep kind at_ name no ty n aB) 0 .nil) m st))(aU:P b)
 (l:ca C j P bz aB 1 (aF.map λv=>[v]))(d:aF≠[]->bz≠b)(c:b3 C j (λh=>P h/\h≠b/\h≠bz) args aF)(i:st=.own:=by rfl)(g:8<m:=by exact AT)(p:kind≠25/\kind≠23->aF≠[]->sb C j aB bz aF.length:=by exact λe=>absurd e Zd):bB C j P (.mk kind at_ name no ty n args) (.ptr b 0):=by
 unfold bB;refine⟨b,rfl,aU,⟨_,_,i▸T,g⟩, ?_, ?_, ?_, ?_, ?_, ?_, ?_, ?_,aB,bz,aF, ?_,l,(λa=>⟨d a,λf=>p f a⟩),c⟩<;>(rw[aZ T,g5];rfl)
def ca.nil(P:Nat->Prop)(aO:Nat):ca C j P 0 .au aO []:=⟨λu=>absurd rfl u,Zs,Zs,rfl,λi af=>by simp at af,λi r E v af=>by simp at af⟩
def bB.leaf{P:Nat->Prop}{b:Nat}{kind at_ n:Int}{name:ax}{no:Bool}{ty:cD}{m:Nat}{st:it}(T:F C j b=some (.cells (B.ofList (ep kind at_ name no ty n .au) 0 .nil) m st))(aU:P b)(c:st=.own:=by rfl)(a:8<m:=by exact AT):bB C j P (.mk kind at_ name no ty n []) (.ptr b 0):=
 bB.of (aF:=[]) T aU (ca.nil P 1) (λe=>absurd rfl e) b3.nil c a (λ_ e=>absurd rfl e)
def sz:∀aF:List y,(aF.map λv=>[v]).flatten=aF:=by intro aF;induction aF with|nil=>rfl|cons a l U=>simp[U]
def bB.lit{P:Nat->Prop}{b bz q cap:Nat}{kind at_ n:Int}{name:ax}{no:Bool}{ty:cD}{m:Nat}{st fC:it}{args:List aX}{aF:List y}(T:F C j b=some (.cells (B.ofList (ep kind at_ name no ty n (.slice bz 0 q cap)) 0 .nil) m st))(aU:P b)
 (a:F C j bz=some (.cells (B.ofList aF 0 .nil) q fC))(d:P bz)(c:aF.length=q)(dx:q<=1000)(g:bz≠b)(f:b3 C j (λh=>P h/\h≠b/\h≠bz) args aF)(p:st=.own:=by rfl)(i:8<m:=by exact AT)(r:fC=.own:=by rfl)(l:C.aD<=bz:=by(omega))(s:q<=cap:=by(omega)):bB C j P (.mk kind at_ name no ty n args) (.ptr b 0):=
 bB.of T aU (u2 (aR:=aF.map λv=>[v]) (by rw[sz,ZF];exact a) (by simpa using c) Zs Zo d) (λ_=>g) f p i (λ_ _=>⟨⟨l,_,_,r▸a,Zo⟩,cap,by rw[c],Zo⟩)
def b3.one{P aK:Nat->Prop}{u:aX}{v:y}(e:bB C j aK u v)(a:∀h,aK h->P h):b3 C j P [u] [v]:=by unfold b3;exact⟨v,[],aK,rfl,a,e,b3.nil⟩
def b3.two{P aK b7:Nat->Prop}{u f:aX}{v w:y}(e:bB C j aK u v)(q:bB C j b7 f w)(a:∀h,aK h->P h)(I:∀h,b7 h->P h/\¬aK h):b3 C j P [u,f] [v,w]:=by unfold b3;exact⟨v,[w],aK,rfl,a,e,b3.one q I⟩
def b3.snoc{aK:Nat->Prop}{u:aX}{v:y}(q:bB C j aK u v):∀{f:List aX}{aF:List y}{c P:Nat->Prop},b3 C j c f aF->(∀h,c h->P h)->(∀h,aK h->P h/\¬c h)->b3 C j P (f++[u]) (aF++[v]):=by intro f;induction f with|nil=>intro aF c P e g d;unfold b3 at e;subst e;exact b3.one q (λh b=>(d h b).1)|cons a l U=>intro aF c P e g d;unfold b3 at e;obtain⟨w,m,b7,rfl,i,n,p⟩:=e;show b3 C j P (a::(l++[u])) (w::(m++[v]));unfold b3;exact⟨w,m++[v],b7,rfl,λh b=>g h (i h b),n,U p (λh b=>⟨g h b.1,b.2⟩) (λh b=>⟨⟨(d h b).1,λr=>(d h b).2 (i h r)⟩,λs=>(d h b).2 s.1⟩)⟩
def bB.ptr{P:Nat->Prop}:∀{u:aX}{v:y},bB C j P u v->∃b,v=.ptr b 0/\P b/\ay C j (.ptr b 0)=some (.Z u.kind)
 | .mk ..,_,e=>by unfold bB at e;obtain⟨b,a,aU,_,c,_⟩:=e;exact⟨b,a,aU,c⟩
def bB.open{P:Nat->Prop}:∀{u:aX}{v:y},bB C j P u v->∃b aB bz aF,v=.ptr b 0/\P b/\ay C j (.ptr b 0)=some (.Z u.kind)/\ay C j (.ptr b 1)=some (.Z u.at_)/\ay C j (.ptr b 2)=some (.str u.name)/\ay C j (.ptr b 3)=some (.bool u.no)
 /\ay C j (.ptr b 4)=some (.bool u.ty.b)/\ay C j (.ptr b 5)=some (.bool u.ty.s)/\ay C j (.ptr b 6)=some (.Z u.ty.w)/\ay C j (.ptr b 7)=some (.int .u64 u.n)
 /\ay C j (.ptr b 8)=some aB/\ca C j P bz aB 1 (aF.map λv=>[v])/\b3 C j P u.args aF
 | .mk ..,_,e=>by unfold bB at e;obtain⟨b,a,aU,x,g,i,l,m,n,p,r,s,aB,bz,aF,c,d,w,f⟩:=e;exact⟨b,aB,bz,aF,a,aU,g,i,l,m,n,p,r,s,c,d,b3.lift (λh t=>t.1) _ _ f⟩
def b3.len:∀{b:List aX}{aF:List y}{P:Nat->Prop},b3 C j P b aF->aF.length=b.length:=by intro b;induction b with|nil=>intro aF P e;unfold b3 at e;subst e;rfl|cons a l U=>intro aF P e;unfold b3 at e;obtain⟨w,g,aK,rfl,f,d,c⟩:=e;simp[U c]
def b3.get:∀{c:List aX}{aF:List y}{P:Nat->Prop},b3 C j P c aF->∀(i:Nat) u,c[i]? =some u->∃v,aF[i]? =some v/\bB C j P u v:=by intro c;induction c with|nil=>intro aF P e i u b;simp at b|cons a l U=>intro aF P e i u b;unfold b3 at e;obtain⟨w,r,aK,rfl,n,d,f⟩:=e;cases i with|zero=>simp at b;subst b;exact⟨w,rfl,bB.lift n _ _ d⟩|succ i=>obtain⟨v,g,m⟩:=U f i u (by simpa using b);exact⟨v,by simpa using g,bB.lift (λh p=>p.1) _ _ m⟩
def ca.one{P:Nat->Prop}{b:Nat}{aB:y}{aF:List y}(e:ca C j P b aB 1 (aF.map λv=>[v])){i:Nat}{v:y}(af:aF[i]? =some v):da 1 aB (.Z i)=some (.ptr b i)/\ay C j (.ptr b i)=some v/\P b:=by have d:=(Ze.1 af).1;have a:=e.c0 i (by simpa using d);have c:=e.cell i [v] 0 v (by rw[Zn,af];rfl) rfl;rw[ZF]at a;rw[ZF,ZL]at c;exact⟨a,c,e.T (λu=>by simp at u;subst u;simp at af)⟩
def N5{aO q:Nat}{x:y}{m:List y}(a:f9 C j aO x=some (q,m))(b:0<q)(T:q<=1048576):
 fP C j k aO .au x=some (.cJ (.cy k 0 q aO) (aI C j k (some (.cells (B.ofList m 0 .nil) m.length (.grow [])))) (k+1)):=by
 simp only[fP,a];rw[er,Zi Zo];simp[kZ,k4,ds T,gg]
def N3{aO q b n:Nat}{x:y}{m:List y}{c:B y}{cl:List Nat}(s:0<aO)(r:f9 C j aO x=some (q,m))(f:0<q)(T:n+q<=1048576)(a:ei m=true)
 (i:C.aD<=b)(l:F C j b=some (.cells c (n*aO) (.grow cl))):
 fP C j k aO (.cy b 0 n aO) x=some (.cJ (.cy k 0 (n+q) aO) (aI C (aI C j b (some (.cells c (n*aO) .fD))) k (some (.cells (ch c (n*aO) m) (n*aO+m.length) (.grow (b::cl))))) (k+1)):=by
 simp only[fP,r];rw[er,Zi Zo];have g:¬(0+(n+q)*aO<=n*aO):=by have:0<q*aO:=Nat.mul_pos f s;rw[Yj];omega
 have d:Nat.ble (0+(n+q)*aO) (n*aO)=false:=by
  cases p:Nat.ble (0+(n+q)*aO) (n*aO)with
  |false=>rfl|true=>exact absurd (fu p) g
 simp only[kZ,p9,l,eN,ds i,ds T,a,d];simp[c3,gg]
def N4{aO q b n:Nat}{x:y}{m l:List y}{c:B y}{st:it}{V:Nat}(t:0<aO)(r:f9 C j aO x=some (q,m))(s:0<q)(T:n+q<=1048576)
 (i:F C j b=some (.cells c V st))(d:kU c l)(g:l.length=n*aO):
 fP C j k aO (.slice b 0 n n) x=some (.cJ (.cy k 0 (n+q) aO) (aI C j k (some (.cells (B.ofList (l++m) 0 .nil) (l++m).length (.grow [])))) (k+1)):=by
 simp only[fP,r];rw[er,Zi Zo];have a:Nat.ble (n+q) n=false:=by cases p:Nat.ble (n+q) n with|false=>rfl|true=>exact absurd (fu p) Zo
 have f:gj C j b 0 (n*aO)=some l:=by simp only[gj,cellsOf,i];rw[FX d _ _ Zo];simp[<-g]
 simp only[kZ,a,ge,f,k4,ds T,cE,gg,gQ,dD]
def cT(C:ai)(j:B R)(s:y)(aO:Nat)(l:List y)(aQ:List Nat):Prop:=
 en C j s aO l aQ\/∃b n c st,s=.slice b 0 n n/\l.length=n*aO/\aQ=[b]/\F C j b=some (.cells c (n*aO) st)/\kU c l/\st=.own/\C.aD<=b
def cT.K{s:y}{aO:Nat}{l:List y}{aQ:List Nat}(e:cT C j s aO l aQ)(d:∀h∈aQ,F C S' h=F C j h):cT C S' s aO l aQ:=by
 rcases e with e|⟨b,n,c,st,f,g,a,i,m⟩
 ·exact .inl (e.K d)
 ·exact .inr ⟨b,n,c,st,f,g,a,by rw[d b (by rw[a];exact Zp ..)];exact i,m⟩
def cT.append{aO q:Nat}{s x:y}{l m:List y}{aQ:List Nat}(e:cT C j s aO l aQ)(p:0<aO)(t:f9 C j aO x=some (q,m))(g:m.length=q*aO)(r:0<q)(N:ei m=true)
 (T:l.length+m.length<=1048576)(d:C.aD<=k)(A:∀h∈aQ,h<k):
 ∃L S' v,fP C j k aO s x=some (.cJ L S' (k+1))/\en C S' L aO (l++m) v/\(∀h∈v,h=k\/h∈aQ)/\∀h,h≠k->h∉aQ->F C S' h=F C j h:=by
 have T2:q<=q*aO:=zc q p;rcases e with (⟨rfl,rfl,rfl⟩|⟨b,cl,n,c,rfl,f,rfl,i,w,O,P⟩)|⟨b,n,c,st,rfl,f,rfl,i,w,_⟩
 ·refine⟨_,_,[k],N5 t r (by simp at T;omega),.inr ⟨k,[],q,_,rfl,by simpa using g,rfl,by simpa using d,Zs,by rw[aJ d,g], ?_⟩,Zs,λh a _=>ag d a⟩;simpa using fS m
 ·have T0:n<=n*aO:=zc n p;have T1:b<k:=A b (Zp ..);refine⟨_,_,k::b::cl,N3 p t r Zo N (i b (Zp ..)) O,.inr ⟨k,b::cl,n+q,ch c (n*aO) m,rfl,by rw[ZG,f,g,Yj],rfl, ?_, ?_, ?_, ?_⟩, ?_,λh a G=> ?_⟩
  ·intro h a;rcases Zq.1 a with rfl|a
   ·exact d
   ·exact i h a
  ·intro X;have:=A k X;omega
  ·rw[aJ d,g,Yj]
  ·rw[<-f];exact P.app m
  ·intro h a;rcases Zq.1 a with rfl|a
   ·exact .inl rfl
   ·exact .inr a
  ·simp only[Zq,YU]at G;rw[ag d a,ag (i b (Zp ..)) G.1]
 ·have T0:n<=n*aO:=zc n p;refine⟨_,_,[k],N4 p t r Zo i w f,.inr ⟨k,[],n+q,_,rfl,by rw[ZG,f,g,Yj],rfl,by simpa using d,Zs,by rw[aJ d,ZG,f,g,Yj],fS _⟩,Zs,λh a _=>ag d a⟩
def cT.kG{aO:Nat}{s:y}{aR:List (List y)}{aQ:List Nat}(e:cT C j s aO aR.flatten aQ)(f:0<aO)(I:∀r∈aR,r.length=aO)(d:aR.length<=300000){P:Nat->Prop}(a:∀h∈aQ,P h):∃b,ca C j P b s aO aR:=by
 rcases e with e|⟨b,n,c,st,rfl,g,rfl,l,m,_⟩
 ·exact e.kG f I d a
 ·have p:=mb I;have w:n=aR.length:=Y1 f (by rw[<-g,p]);subst w;refine⟨b,λ_=>a b (Zp ..),d,I,kz ..,λi af=>by rw[n3 _ af,ZQ],λi r E v af t=> ?_⟩;rw[bv,l];exact(m _).trans (y9 aR I i r E v af t)
def cT.kH{s:y}{aF:List y}{aQ:List Nat}(e:cT C j s 1 aF aQ){P:Nat->Prop}(d:aF.length<=300000)(c:∀h∈aQ,P h):∃b,ca C j P b s 1 (aF.map λv=>[v]):=by
 have a:cT C j s 1 (aF.map λv=>[v]).flatten aQ:=by rw[sz];exact e
 exact a.kG Zd Zs (by simpa using d) c
structure f2(C:ai)(j:B R)(cX:Nat->Prop)(b:Nat)(aB:y)(aO:Nat)(aR:List (List y)):Prop where
 rd:ca C j cX b aB aO aR
 wr:aR≠[]->C.aD<=b/\∃c n st,F C j b=some (.cells c n st)/\aR.length*aO<=n/\(st=.own\/∃cl,st=.grow cl/\b∉cl/\∀h∈cl,cX h/\C.aD<=h)
def f2.K{cX:Nat->Prop}{b aO:Nat}{aB:y}{aR:List (List y)}(e:f2 C j cX b aB aO aR)(q:∀h,cX h->F C S' h=F C j h):f2 C S' cX b aB aO aR:=
 ⟨e.rd.K q,λI=>by rw[q b (e.rd.T I)];exact e.wr I⟩
def f2.lift{cX aK:Nat->Prop}{b aO:Nat}{aB:y}{aR:List (List y)}(e:f2 C j cX b aB aO aR)(q:∀h,cX h->aK h):f2 C j aK b aB aO aR:=
 ⟨e.rd.lift q,λI=>by
  obtain⟨f,c,n,st,g,i,l⟩:=e.wr I;exact⟨f,c,n,st,g,i,l.imp id λ⟨cl,u,T,d⟩=>⟨cl,u,T,λh a=>⟨q h (d h a).1,(d h a).2⟩⟩⟩⟩
def f2.nil(cX:Nat->Prop)(aO:Nat):f2 C j cX 0 .au aO []:=⟨ca.nil cX aO,λe=>absurd rfl e⟩
def cT.xi{aO:Nat}{s:y}{aR:List (List y)}{aQ:List Nat}(e:cT C j s aO aR.flatten aQ)(p:0<aO)(I:∀r∈aR,r.length=aO)(L:aR.length<=300000){cX:Nat->Prop}(v:∀h∈aQ,cX h):∃b,f2 C j cX b s aO aR:=by
 have i:=mb I;obtain⟨b,l⟩:=e.kG p I L v;rcases e with (⟨rfl,d,rfl⟩|⟨x,cl,n,c,rfl,d,rfl,g,t,G,O⟩)|⟨x,n,c,st,rfl,d,rfl,g,t,rfl,A⟩
 ·rw[d,ZU]at i;have:aR=[]:=YJ.1 (by rcases Nat.mul_eq_zero.1 i.symm with e|e<;>omega);subst this;exact⟨0,f2.nil cX aO⟩
 ·refine⟨b,l,λf=> ?_⟩;have a:=l.c0 0 (ZP.2 f);have m:n=aR.length:=Y1 p (by rw[<-d,i]);have N:=ZP.2 f;rw[n4 _ Zo]at a;simp only[Zh,y.ptr.injEq]at a;obtain⟨rfl,_⟩:=a;exact⟨g _ (Zp ..),c,_,_,G,by rw[m];omega,.inr ⟨cl,rfl,t,λh w=>⟨v h (Zw _ w),g h (Zw _ w)⟩⟩⟩
 ·refine⟨b,l,λf=> ?_⟩;have a:=l.c0 0 (ZP.2 f);have m:n=aR.length:=Y1 p (by rw[<-d,i]);have N:=ZP.2 f;rw[n3 _ Zo]at a;simp only[Zh,y.ptr.injEq]at a;obtain⟨rfl,_⟩:=a;exact⟨A,c,_,_,g,by rw[m];omega,.inl rfl⟩
def cT.aaH{s:y}{aF:List y}{aQ:List Nat}(e:cT C j s 1 aF aQ){cX:Nat->Prop}(d:aF.length<=300000)(c:∀h∈aQ,cX h):∃b,f2 C j cX b s 1 (aF.map λv=>[v]):=by
 have a:cT C j s 1 (aF.map λv=>[v]).flatten aQ:=by rw[sz];exact e
 exact a.xi Zd Zs (by simpa using d) c
structure fh(G:Prop):Prop where
 J:G
def Ac{bj A:Prop}(f:bj)(e:bj->A:=by intro f;(simp(disch:=omega) only[ol,nk,rz,qa,oT,qb,rt,rs,qY,n8,l8,pj,qR,jw,mn,pm,lJ,qU,qV,qT,rM,rO,rP,rQ,rR,rS,rT,rN,nt,rL,g5,y.cells,rW,rV,rU,rb,qK,qI,qJ,qH,qG,qL,rE,rF,qz,qy,nL,qm,qn,kz,k8,pn,n6,dp,l9,lE,iH,zI,Yp,zJ,YH,YI,zv,Yk,Ye,ZI,ZU,YC,Ym,Yf,Ya,Z7,ZQ,ZL,ZK,ZJ,reduceIte,Nat.reduceEqDiff,Nat.reduceAdd,Nat.reduceMul,Nat.reduceLT,Nat.reduceBEq,YK,Ys,YT,YN,cE,ge,Y0,Z1,YQ,Nat.reduceLeDiff,Nat.reduceSub,dX,f])):A:=e f
def QG{bj A:Prop}(f:bj)(e:bj->A:=by intro f;(simp(disch:=omega) only[ol,nk,rz,qa,oT,qb,rt,rs,qY,n8,l8,pj,qR,jw,mn,pm,lJ,qU,qV,qT,rM,rO,rP,rQ,rR,rS,rT,rN,nt,rL,g5,y.cells,rW,rV,rU,rb,qK,qI,qJ,qH,qG,qL,rE,rF,qz,qy,nL,qm,qn,kz,k8,pn,n6,dp,l9,lE,iH,zI,Yp,zJ,YH,YI,zv,Yk,Ye,ZI,ZU,YC,Ym,Yf,Ya,Z7,ZQ,ZL,ZK,ZJ,reduceIte,Nat.reduceEqDiff,Nat.reduceAdd,Nat.reduceMul,Nat.reduceLT,Nat.reduceBEq,YK,Ys,YT,YN,cE,ge,Y0,Z1,YQ,Nat.reduceLeDiff,Nat.reduceSub,dX,f]);rfl):A:=e f
def QH{bj A aN:Prop}(f:bj)(t:aN)(e:bj->aN->A:=by intro f t;(simp(disch:=omega) only[ol,nk,rz,qa,oT,qb,rt,rs,qY,n8,l8,pj,qR,jw,mn,pm,lJ,qU,qV,qT,rM,rO,rP,rQ,rR,rS,rT,rN,nt,rL,g5,y.cells,rW,rV,rU,rb,qK,qI,qJ,qH,qG,qL,rE,rF,qz,qy,nL,qm,qn,kz,k8,pn,n6,dp,l9,lE,iH,zI,Yp,zJ,YH,YI,zv,Yk,Ye,ZI,ZU,YC,Ym,Yf,Ya,Z7,ZQ,ZL,ZK,ZJ,reduceIte,Nat.reduceEqDiff,Nat.reduceAdd,Nat.reduceMul,Nat.reduceLT,Nat.reduceBEq,YK,Ys,YT,YN,cE,ge,Y0,Z1,YQ,Nat.reduceLeDiff,Nat.reduceSub,dX,f]);exact t):A:=e f t
def Qz{bj A aN:Prop}(f:bj)(q:fh aN)(e:bj->fh aN->A:=by intro f q;(simp(disch:=omega) only[ol,nk,rz,qa,oT,qb,rt,rs,qY,n8,l8,pj,qR,jw,mn,pm,lJ,qU,qV,qT,rM,rO,rP,rQ,rR,rS,rT,rN,nt,rL,g5,y.cells,rW,rV,rU,rb,qK,qI,qJ,qH,qG,qL,rE,rF,qz,qy,nL,qm,qn,kz,k8,pn,n6,dp,l9,lE,iH,zI,Yp,zJ,YH,YI,zv,Yk,Ye,ZI,ZU,YC,Ym,Yf,Ya,Z7,ZQ,ZL,ZK,ZJ,reduceIte,Nat.reduceEqDiff,Nat.reduceAdd,Nat.reduceMul,Nat.reduceLT,Nat.reduceBEq,YK,Ys,YT,YN,cE,ge,Y0,Z1,YQ,Nat.reduceLeDiff,Nat.reduceSub,dX,f]);exact q.J):A:=e f q
def bh{bj A aN:Prop}(f:bj)(q:fh aN)(e:bj->fh aN->A:=by intro f q;(repeat(with_reducible first|refine dV ?_ |refine gt ?_ |refine iG ?_ |refine jO ?_ |refine yr ?_ |refine l1 ?_ |refine A2 ?_ |refine A1 ?_ |refine Ao ?_ |refine Ar ?_ |refine An ?_ |refine Aq ?_ |refine AI ?_ |refine yy ?_ |refine A0 ?_ |refine AZ ?_ |refine sE ?_ |refine sD ?_ |refine sC ?_ |refine sB ?_ |refine Ae ?_ |refine mR ?_ |refine mQ ?_ |refine uw ?_ |refine Bn ?_ |refine Bo ?_ |(refine dh (eR (by(first|assumption|(simp(disch:=omega) only[aJ,ag,f]<;>rfl)|(simp(disch:=omega) only[aJ,ag,f]))) Zo rfl Zd Zd rfl) ?_)|((conv=>whnf;arg 1;simp(disch:=omega) only[ol,nk,rz,qa,oT,qb,rt,rs,qY,n8,l8,pj,qR,jw,mn,pm,lJ,qU,qV,qT,rM,rO,rP,rQ,rR,rS,rT,rN,nt,rL,g5,y.cells,rW,rV,rU,rb,qK,qI,qJ,qH,qG,qL,rE,rF,qz,qy,nL,qm,qn,kz,k8,pn,n6,dp,l9,lE,iH,zI,Yp,zJ,YH,YI,zv,Yk,Ye,ZI,ZU,YC,Ym,Yf,Ya,Z7,ZQ,ZL,ZK,ZJ,reduceIte,Nat.reduceEqDiff,Nat.reduceAdd,Nat.reduceMul,Nat.reduceLT,Nat.reduceBEq,YK,Ys,YT,YN,cE,ge,Y0,Z1,YQ,Nat.reduceLeDiff,Nat.reduceSub,dX,f]);(first|refine gt ?_ |refine iG ?_ |refine mR ?_ |refine mQ ?_ |refine sE ?_ |refine sD ?_ |refine sC ?_ |refine sB ?_))|dsimp only));exact q.J):A:=e f q
def jt{bj A aN:Prop}(f:bj)(q:fh aN)(e:bj->fh aN->A:=by intro f q;(repeat(with_reducible first|refine gt ?_ |refine iG ?_ |refine jO ?_ |refine yr ?_ |refine l1 ?_ |refine A2 ?_ |refine A1 ?_ |refine Ao ?_ |refine Ar ?_ |refine An ?_ |refine Aq ?_ |refine AI ?_ |refine yy ?_ |refine A0 ?_ |refine AZ ?_ |refine sE ?_ |refine sD ?_ |refine sC ?_ |refine sB ?_ |refine Ae ?_ |refine mR ?_ |refine mQ ?_ |refine uw ?_ |refine Bn ?_ |refine Bo ?_ |(refine dh (eR (by(first|assumption|(simp(disch:=omega) only[aJ,ag,f]<;>rfl)|(simp(disch:=omega) only[aJ,ag,f]))) Zo rfl Zd Zd rfl) ?_)|((conv=>whnf;arg 1;simp(disch:=omega) only[ol,nk,rz,qa,oT,qb,rt,rs,qY,n8,l8,pj,qR,jw,mn,pm,lJ,qU,qV,qT,rM,rO,rP,rQ,rR,rS,rT,rN,nt,rL,g5,y.cells,rW,rV,rU,rb,qK,qI,qJ,qH,qG,qL,rE,rF,qz,qy,nL,qm,qn,kz,k8,pn,n6,dp,l9,lE,iH,zI,Yp,zJ,YH,YI,zv,Yk,Ye,ZI,ZU,YC,Ym,Yf,Ya,Z7,ZQ,ZL,ZK,ZJ,reduceIte,Nat.reduceEqDiff,Nat.reduceAdd,Nat.reduceMul,Nat.reduceLT,Nat.reduceBEq,YK,Ys,YT,YN,cE,ge,Y0,Z1,YQ,Nat.reduceLeDiff,Nat.reduceSub,dX,f]);(first|refine gt ?_ |refine iG ?_ |refine mR ?_ |refine mQ ?_ |refine sE ?_ |refine sD ?_ |refine sC ?_ |refine sB ?_))|dsimp only));exact q.J):A:=e f q
def k3{bj A aN:Prop}(f:bj)(q:fh aN)(e:bj->fh aN->A:=by intro f q;(with_reducible first|refine dV ?_ |refine gt ?_ |refine iG ?_ |refine jO ?_ |refine yr ?_ |refine l1 ?_ |refine A2 ?_ |refine A1 ?_ |refine Ao ?_ |refine Ar ?_ |refine An ?_ |refine Aq ?_ |refine AI ?_ |refine yy ?_ |refine A0 ?_ |refine AZ ?_ |refine sE ?_ |refine sD ?_ |refine sC ?_ |refine sB ?_ |refine Ae ?_ |refine mR ?_ |refine mQ ?_ |refine uw ?_ |refine Bn ?_ |refine Bo ?_ |(refine dh (eR (by(first|assumption|(simp(disch:=omega) only[aJ,ag,f]<;>rfl)|(simp(disch:=omega) only[aJ,ag,f]))) Zo rfl Zd Zd rfl) ?_)|((conv=>whnf;arg 1;simp(disch:=omega) only[ol,nk,rz,qa,oT,qb,rt,rs,qY,n8,l8,pj,qR,jw,mn,pm,lJ,qU,qV,qT,rM,rO,rP,rQ,rR,rS,rT,rN,nt,rL,g5,y.cells,rW,rV,rU,rb,qK,qI,qJ,qH,qG,qL,rE,rF,qz,qy,nL,qm,qn,kz,k8,pn,n6,dp,l9,lE,iH,zI,Yp,zJ,YH,YI,zv,Yk,Ye,ZI,ZU,YC,Ym,Yf,Ya,Z7,ZQ,ZL,ZK,ZJ,reduceIte,Nat.reduceEqDiff,Nat.reduceAdd,Nat.reduceMul,Nat.reduceLT,Nat.reduceBEq,YK,Ys,YT,YN,cE,ge,Y0,Z1,YQ,Nat.reduceLeDiff,Nat.reduceSub,dX,f]);(first|refine gt ?_ |refine iG ?_ |refine mR ?_ |refine mQ ?_ |refine sE ?_ |refine sD ?_ |refine sC ?_ |refine sB ?_))|dsimp only);exact q.J):A:=e f q
def av{A:Prop}(e:A:=by exact Ac trivial):A:=e
def cW{A:Prop}(e:A:=by exact QG trivial):A:=e
def Y{A aN:Prop}(t:aN)(e:aN->A:=by intro t;exact QH trivial t):A:=e t
def o8{A aN:Prop}(q:fh aN)(e:fh aN->A:=by intro q;refine Qz trivial ⟨?_⟩;exact q.J):A:=e q
def br{A aN:Prop}(q:fh aN)(e:fh aN->A:=by intro q;refine bh trivial ⟨?_⟩;exact q.J):A:=e q
def h5{A aN:Prop}(q:fh aN)(e:fh aN->A:=by intro q;refine jt trivial ⟨?_⟩;exact q.J):A:=e q
def eO{A aN:Prop}(q:fh aN)(e:fh aN->A:=by intro q;refine k3 trivial ⟨?_⟩;exact q.J):A:=e q
def b8{A:Prop}(e:A:=by exact⟨Zo,λb T=>zQ⟩):A:=e
def bA{A aN b c:Prop}(a2:b)(a:c)(q:fh aN)(e:b->c->fh aN->A:=by intro a2 a q;refine bh (Za @a2 @a) ⟨?_⟩;exact q.J):A:=e @a2 @a q
def cb{A aN c d f:Prop}(a2:c)(a:d)(b:f)(q:fh aN)(e:c->d->f->fh aN->A:=by intro a2 a b q;refine bh (Za @a2 (Za @a @b)) ⟨?_⟩;exact q.J):A:=e @a2 @a @b q
def c9{A aN d f g i:Prop}(a2:d)(a:f)(b:g)(c:i)(q:fh aN)(e:d->f->g->i->fh aN->A:=by intro a2 a b c q;refine bh (Za @a2 (Za @a (Za @b @c))) ⟨?_⟩;exact q.J):A:=e @a2 @a @b @c q
def dE{A aN d f g i l:Prop}(a2:d)(a:f)(b:g)(c:i)(f4:l)(q:fh aN)(e:d->f->g->i->l->fh aN->A:=by intro a2 a b c f4 q;refine bh (Za @a2 (Za @a (Za @b (Za @c @f4)))) ⟨?_⟩;exact q.J):A:=e @a2 @a @b @c @f4 q
def eC{A aN f g i l m n:Prop}(a2:f)(a:g)(b:i)(c:l)(f4:m)(d:n)(q:fh aN)(e:f->g->i->l->m->n->fh aN->A:=by intro a2 a b c f4 d q;refine bh (Za @a2 (Za @a (Za @b (Za @c (Za @f4 @d))))) ⟨?_⟩;exact q.J):A:=e @a2 @a @b @c @f4 @d q
def cd{A aN g i l m n p r:Prop}(a2:g)(a:i)(b:l)(c:m)(f4:n)(d:p)(f:r)(q:fh aN)(e:g->i->l->m->n->p->r->fh aN->A:=by intro a2 a b c f4 d f q;refine bh (Za @a2 (Za @a (Za @b (Za @c (Za @f4 (Za @d @f)))))) ⟨?_⟩;exact q.J):A:=e @a2 @a @b @c @f4 @d @f q
def mc{A aN b c:Prop}(a2:b)(a:c)(q:fh aN)(e:b->c->fh aN->A:=by intro a2 a q;refine jt (Za @a2 @a) ⟨?_⟩;exact q.J):A:=e @a2 @a q
def c8{A aN c d f:Prop}(a2:c)(a:d)(b:f)(q:fh aN)(e:c->d->f->fh aN->A:=by intro a2 a b q;refine jt (Za @a2 (Za @a @b)) ⟨?_⟩;exact q.J):A:=e @a2 @a @b q
def az.Zm{C:ai}{f:Nat}{a:List y}{j:B R}{k:Nat}{S c ab:aY}(e:az C f a j k S zW)(q:∀M S' b,S M S' b->c M S' b):az C f a j k c ab:=e.mono q (λ_ _ _ e=>e.elim)
end
open Go.RowKit (Below)
def Bd(fR:List Nat)(J:Nat->List y->Option y)(l:List (Nat×List y×y))(f:Nat)(args:List y):Option y:=a8 (gH f fR) (j3 J l f args) (J f args)
section
variable{P:Program}{w:World}
def Env.R8{nm:List (String×Nat)}(r:oJ P nm){laid:List (String×DataW Unit)}{fR:List Nat}{J:Nat->List y->Option y}{l:List (Nat×List y×y)}(e:laidMet P laid w){cn:bT}{co:Nat->Prop}
 (b:Env ⟨P,hX (eg P nm laid P.globals.size).2 .nil,(eg P nm laid P.globals.size).1,J,P.globals.size⟩ w cn co)(s:u7 l=true)
 (p:∀x∈l,∃m,oj ⟨P,hX (eg P nm laid P.globals.size).2 .nil,(eg P nm laid P.globals.size).1,J,P.globals.size⟩ m x.1 x.2.1=some x.2.2):
 ∃D Q,Env ⟨P,hX (eg P nm laid P.globals.size).2 .nil,(eg P nm laid P.globals.size).1,Bd fR J l,P.globals.size⟩ w D Q:=by
 obtain⟨D,Q,i,n⟩:=AD r e;have c:=Ht b s p;refine⟨D,Q,b.f8,⟨λf args v a=> ?_,λf args v a D g d=> ?_⟩,i,n,b.mem⟩
 ·have a:a8 (gH f fR) (j3 J l f args) (J f args)=some v:=a;rw[c3]at a;split at a
  ·exact c.val f args v a
  ·exact b.ez.val f args v a
 ·have a:a8 (gH f fR) (j3 J l f args) (J f args)=some v:=a;rw[c3]at a;split at a
  ·exact c.ok f args v a D g d
  ·exact b.ez.ok f args v a D g d
end
end
end Go.aC
