/- A part of the last text's proof; no condition of its own -/
import Derived.Test.YtpfajohmofnkfaaGreatDoorYf
set_option maxHeartbeats 8000000
set_option linter.all false
namespace Go.bd
noncomputable section
section
variable{C:aL}{h:K ag}{j:Nat}
def bg{b:Nat}{U:Option ag}(a:C.a2<=b):Y C (bn C h b U) b=U:=by rw[fX _ a,Zu rfl]
def aI{b x:Nat}{U:Option ag}(a:C.a2<=b)(af:x≠b):Y C (bn C h b U) x=Y C h x:=by rw[fX _ a,Zg af]
def co(b U:Nat):aO C h (.ptr b U)=match Y C h b with|some (.cells c _ _)=>c.get U|_=>none:=by
 simp only[aO,cellsOf]
 cases Y C h b with
 |none=>rfl
 |some cY=>cases cY<;>rfl
def sq(n b U:Nat):d8 C h n (.ptr b U)=match Y C h b with|some (.cells c _ _)=>(c.kU U n).map D.agg|_=>none:=by
 simp only[d8,cellsOf]
 cases Y C h b with
 |none=>rfl
 |some cY=>
  cases cY with
  |cells c m st=>simp only[];cases c.kU U n<;>rfl
  |_=>rfl
def acU(c:K D)(U:Nat):c.kU U 0=some []:=rfl
def jd:∀(k:List D) (c:K D) (U i:Nat),(dN c U k).get i=if U<=i/\i<U+k.length then k[i-U]? else c.get i:=by
 intro k
 induction k with
 |nil=>intro c U i;simp[dN];intro I J;omega
 |cons F k al=>
  intro c U i
  simp only[dN,hk]
  rw[al,K.kI]
  by_cases I:i=U
  ·subst I
   simp
   intro a;omega
  ·by_cases J:U+1<=i/\i<U+1+k.length
   ·rw[Zu J,Zu (by simp;omega)]
    rw[show i-U=(i-(U+1))+1 by omega]
    simp
   ·rw[Zg J,Zg (λE=>I E.symm),Zg (by simp;omega)]
def u0{b U n:Nat}{c:K D}{st:ox}(a:C.a2<=b):aO C (bn C h b (some (.cells c n st))) (.ptr b U)=c.get U:=by
 rw[co,bg a]
def wy{b x U:Nat}{cY:Option ag}(a:C.a2<=b)(af:x≠b):aO C (bn C h b cY) (.ptr x U)=aO C h (.ptr x U):=by
 rw[co,co,aI a af]
def pR(C:aL)(h:K ag)(b:Nat):Nat->Nat->Option (List D)
 |_,0=>some []
 |U,n+1=>(aO C h (.ptr b U)).bind λF=>(pR C h b (U+1) n).bind λk=>some (F::k)
def wz{b U n:Nat}:d8 C h (n+1) (.ptr b U)=(pR C h b U (n+1)).bind λk=>some (.agg k):=by
 have a:∀(c:K D) (m:Nat) (st:ox),Y C h b=some (.cells c m st)->∀n U,pR C h b U n=c.kU U n:=by
  intro c m st aj n
  induction n with
  |zero=>intro U;rfl
  |succ n al=>
   intro U
   simp only[pR,K.kU,co,aj,al]
   cases c.get U with
   |none=>rfl
   |some F=>cases c.kU (U+1) n<;>rfl
 rw[sq]
 cases aj:Y C h b with
 |none=>simp[pR,co,aj]
 |some cY=>
  cases cY with
  |cells c m st=>
   simp only[a c m st aj]
   cases c.kU U (n+1)<;>rfl
  |_=>simp[pR,co,aj]
structure bo(C:aL)(h:K ag)(j:Nat)(T:K ag)(an:Nat):Prop where
 le:j<=an
 ab:∀b,b<j->Y C T b=Y C h b
def bo.refl(h:K ag)(j:Nat):bo C h j h j:=⟨Zi _,λ_ _=>rfl⟩
def bo.trans{aP aM aX:K ag}{aG a1 bf:Nat}(a:bo C aP aG aM a1)(q:bo C aM a1 aX bf):bo C aP aG aX bf:=
 ⟨ZB a.le q.le,λb aj=>(q.ab b (ZP aj a.le)).trans (a.ab b aj)⟩
def bo.fZ{T:K ag}{an:Nat}(a:bo C h j T an)(b U:Nat)(aj:b<j):aO C T (.ptr b U)=aO C h (.ptr b U):=by
 rw[co,co,a.ab b aj]
def bo.fresh(a:C.a2<=j)(cY:Option ag):bo C h j (bn C h j cY) (j+1):=
 ⟨Yf _,λb aj=>aI a Zo⟩
def bo.more{T:K ag}{an n:Nat}(q:bo C h j T an)(a:an<=n):bo C h j T n:=⟨ZB q.le a,q.ab⟩
def bo.k3{T:K ag}{an di:Nat}(q:bo C h j T an)(a:di<=j):bo C h di T an:=⟨ZB a q.le,λb aj=>q.ab b (ZP aj a)⟩
def t2{b U n:Nat}{c:K D}{v:D}(a:Y C h b=some (.cells c n .own))(aj:C.a2<=b)(bj:U+1<=n)(bD:v.cells=[v])(I:qJ v=true):
 gj C h 1 (.ptr b U) v=some (bn C h b (some (.cells (c.set U (some v)) n .own))):=by
 have bF:Nat.ble (U+1) n=true:=by simpa using bj
 have cn:Nat.ble C.a2 b=true:=by simpa using aj
 simp[gj,bD,xK,a,kH,jH,I,bF,cn,dN,fA,Nat.blt]
def Ej:List D->List (Nat×Nat×D)->Option (List D)
 |cells,[]=>some cells
 |cells,(off,size,v)::rest=>bY (Nat.beq v.cells.length size&&Nat.ble (off+size) cells.length) (Ej (lS cells off v.cells) rest) none
def e8(sJ:List D)(dr:List (Nat×Nat×D)):Option D:=match Ej sJ dr with|some cs=>some (.agg cs)|none=>none
def km(sJ:List D)(b:Nat):Option (D×ag):=some (.ptr b 0, .cells (K.ofList sJ 0 .nil) sJ.length .own)
def hi(len:Nat)(sJ:List D)(dr:List (Nat×Nat×D))(b:Nat):Option (D×ag):=match Ej sJ dr with
 |some cs=>some (.slice b 0 len len, .cells (K.ofList cs 0 .nil) cs.length .own)
 |none=>none
def r6(agg:Bool)(off size:Nat)(v:D):Option D:=match v with| .agg cs=>bY agg (some (.agg ((cs.drop off).take size))) (o6 cs off)|_=>none
def gy(v:D):Option D:=match v with| .slice _ _ n _=>qD .i64 (Int.ofNat n)| .fl _ _ n _=>qD .i64 (Int.ofNat n)| .aV=>some (.int .i64 0)|_=>none
def m8(v:D):Option D:=match v with| .str s=>qD .i64 (Int.ofNat s.length)|_=>none
def nW(q:IntKind)(v:D):Option D:=match (match v with| .int _ n=>lw q n|_=>none)with|some v=>some v|none=>none
def aoz(v:D):Option D:=match (match v with| .str s=>some (D.str s)|_=>none)with|some v=>some v|none=>none
def Cc(C:aL)(h:K ag)(v:D):Option D:=match (match v with| .str s=>some (D.str s)|_=>none)with|some v=>some v|none=>Gr C h v
def Gx(t:Nat)(bz:D)(ok:Bool)(v:D):Option D:=match v with
 | .nilIface=>bY ok (some (.tuple [bz, .bool false])) none
 | .iface ha w=>bY (Nat.beq ha t) (some (bY ok (.tuple [w, .bool true]) w)) (bY ok (some (.tuple [bz, .bool false])) none)
 |_=>none
def lO(C:aL)(h:K ag)(jV:Nat)(bz m q:D)(ok:Bool):Option D:=
 match (match m with
  | .mi=>bY (np C 20 jV q) (some none) none
  | .map r=>(match Y C h r with|some (.map bH _)=>bY (np C 20 jV q) (findKey C h jV q bH 0) none|some (.look bH)=>bY (np C 20 jV q) (Ii (pX C h jV q bH)) none|_=>none)
  |_=>none)with
  |none=>none
  |some none=>some (bY ok (.tuple [bz, .bool false]) bz)
  |some (some (_,v))=>some (bY ok (.tuple [v, .bool true]) v)
def kG(C:aL)(h:K ag)(j bl:Nat)(s x:D):Option d6:=match lA C h bl x with
 |some (n,k)=>bY (Nat.beq n 0) (Gv C h bl s) (Af C h j bl n k s)
 |none=>none
def tL(C:aL)(h:K ag)(j jV:Nat)(m q v:D):Option d6:=match m with
 | .map r=>(match Y C h r with
   |some (.map bH eR)=>bY (np C 20 jV q) (match findKey C h jV q bH 0 with
    |some (some (i,_))=>(match o6 bH i with
     |some (e5,_,born)=>bY (ob 20 e5 q) (setObj C h j r (.map (bH.set i (q,v,born)) eR) undef) none
     |none=>none)
    |some none=>setObj C h j r (.map (bH++[(q,v,eR)]) (eR+1)) undef
    |none=>none) none
   |_=>none)
 |_=>none
def uZ(agg:Bool)(n bl:Nat)(v i:D):Option D:=match nD i with
 |none=>none
 |some i=>match v with
  | .agg cs=>bY (Nat.blt i n) (bY agg (some (.agg ((cs.drop (i*bl)).take bl))) (o6 cs (i*bl))) none
  |_=>none
def n9(v i:D):Option D:=match nD i with
 |none=>none
 |some i=>match v with
  | .str s=>(match o6 s i with|some c=>some (.int .u8 (Int.ofNat c))|none=>none)
  |_=>none
def nf(v:D)(b0 aN:Option D):Option D:=match v with
 | .str s=>(match mr s.length s.length b0 aN none with
    |some (k,a,_)=>some (.str ((s.drop k).take (a-k)))
    |none=>none)
 |_=>none
def tZ(C:aL)(h:K ag)(bl:Nat)(x:D)(b0 aN g0:Option D):Option D:=match x with
 | .slice b U len cap=>(match mr len cap b0 aN g0 with
   |some (k,a,m)=>some (.slice b (bY (Nat.beq m k) U (U+k*bl)) (a-k) (m-k))
   |_=>none)
 | .aV=>(match mr 0 0 b0 aN g0 with
   |some _=>some .aV
   |_=>none)
 | .fl b U len FP=>(match yR C h b with
   |some n=>bY (Nat.beq FP bl&&Nat.blt 0 FP) (match mr len ((n-U)/FP) b0 aN g0 with
     |some (k,a,m)=>(match g0 with
      |some _=>some (.slice b (bY (Nat.beq m k) U (U+k*FP)) (a-k) (m-k))
      |none=>bY (Nat.blt k ((n-U)/FP)||Nat.beq k 0) (some (.fl b (U+k*FP) (a-k) FP)) none)
     |none=>none) none
   |_=>none)
 |_=>none
def Wf(n bl:Nat)(x:D)(b0 aN g0:Option D):Option D:=match x with
 | .ptr b U=>(match mr n n b0 aN g0 with
   |some (k,a,m)=>some (.slice b (bY (Nat.beq m k) U (U+k*bl)) (a-k) (m-k))
   |_=>none)
 |_=>none
def V2(C:aL)(h:K ag)(j:Nat)(v:D):Option d6:=match v with
 | .str s=>nE C h j (.pb s 0) λb=> .ptr b 0
 |_=>none
def Qo(C:aL)(h:K ag)(j:Nat)(v:D):Option d6:=match v with
 | .str k=>uA C h j k.length 1 (k.map λn=>D.int .u8 (Int.ofNat n))
 |_=>none
def lQ{α:Type}{F:α}{ak:α->Prop}(a:ak F):ax (some F) ak:=⟨a⟩
def lP{α:Type}{F:α}{ak:α->Prop}(a:ak F):cL (some F) ak:=a
def s6{F:D}{ak:bI}(a:ak (.ptr j 0) (bn C h j (some (.cells (K.ofList F.cells 0 .nil) F.cells.length .own))) (j+1)):iv C h j F ak:=⟨a⟩
def Iq{v:D}{cY:ag}{ak:bI}(a:ak v (bn C h j (some cY)) (j+1)):gw C h j v cY ak:=⟨a⟩
def Ir{v:D}{cY:ag}{ak:bI}(a:ak v (bn C h j (some cY)) (j+1)):gw C h j (Prod.mk v cY).1 (Prod.mk v cY).2 ak:=⟨a⟩
def Io{b:Nat}{v:D}{cY:ag}{ak:D->K ag->Prop}(a:ak v (bn C h b (some cY))):mF C h b (Prod.mk v cY).1 (Prod.mk v cY).2 ak:=⟨a⟩
def D2{b:Nat}{F:D}{ak:D->K ag->Prop}(a:ak (.ptr b 0) (bn C h b (some (.cells (K.ofList F.cells 0 .nil) F.cells.length .own)))):xP C h b F ak:=⟨a⟩
def In{b:Nat}{v:D}{cY:ag}{ak:D->K ag->Prop}(a:ak v (bn C h b (some cY))):mF C h b v cY ak:=⟨a⟩
def gZ{dW:fg}{body:fg->Prop}(a:body dW):bB dW body:=⟨a⟩
def H4{dW:bI}{body:bI->Prop}(a:body dW):pP dW body:=⟨a⟩
def H1{dW:D->Prop}{body:(D->Prop)->Prop}(a:body dW):dh dW body:=⟨a⟩
def H2{dW:D->K ag->Prop}{body:(D->K ag->Prop)->Prop}(a:body dW):ws dW body:=⟨a⟩
def H3{dW:Prop}{body:Prop->Prop}(a:body dW):UT dW body:=⟨a⟩
def Ie{n:Nat}{ak:Nat->Prop}(a:ak n):fb n ak:=⟨a⟩
def IN{v:D}{T:K ag}{an:Nat}{ak:bI}(a:ak v T an):hZ (some (.fs v T an)) h j ak:=⟨a⟩
def IP{v:D}{ak:bI}(a:ak v h j):hZ (some (.val v)) h j ak:=⟨a⟩
def qj{F b:Prop}(a:F):aZ (.bool true) F b:=⟨⟨λ_=>a,λE=>(by cases E)⟩⟩
def qi{F b:Prop}(a:b):aZ (.bool false) F b:=⟨⟨λE=>(by cases E),λ_=>a⟩⟩
def uE{F b:Prop}(a:F):iP true (.bool true) F b:=⟨⟨λ_=>a,λE=>(by cases E)⟩⟩
def uD{F b:Prop}(a:b):iP true (.bool false) F b:=⟨⟨λE=>(by cases E),λ_=>a⟩⟩
def uC{F b:Prop}(a:b):iP false (.bool true) F b:=⟨⟨λE=>(by cases E),λ_=>a⟩⟩
def uB{F b:Prop}(a:F):iP false (.bool false) F b:=⟨⟨λ_=>a,λE=>(by cases E)⟩⟩
def CU{f:Nat}{F cv b:List D}{ak av:bI}(a:aY C f ((F++cv)++b) h j ak av):iz C (.func (.func f) F b) cv h j ak av:=⟨a⟩
def g2{x e:D}{ak:Prop}(a:D.same 30 x e=true)(q:ak):gT x (some e) ak:=⟨⟨a,q⟩⟩
@[congr] def aCq{v gK:D}{F b:Prop}(a:v=gK):aZ v F b=aZ gK F b:=by rw[a]
@[congr] def aCF{w:Bool}{v gK:D}{F b:Prop}(a:v=gK):iP w v F b=iP w gK F b:=by rw[a]
@[congr] def aCw{f:Nat}{cv abd:List D}{ak av:bI}(a:cv=abd):aY C f cv h j ak av=aY C f abd h j ak av:=by rw[a]
def aY.mono{f:Nat}{cv:List D}{ak av BJ ev:bI}(a:aY C f cv h j ak av)(i7:∀ac T an,ak ac T an->BJ ac T an)(cC:∀ac T an,av ac T an->ev ac T an):aY C f cv h j BJ ev:=by
 rcases a.out with ⟨ac,I,J⟩|⟨I,J,am⟩
 ·exact⟨.inl ⟨ac,I,i7 _ _ _ J⟩⟩
 ·exact⟨.inr ⟨I,J,am.mono i7 cC⟩⟩
def NR{f d1:Nat}(a:cW C f d1=true):∃fn c,C.P.funcs[f]? =some fn/\fn.body=some c:=by
 unfold cW at a
 split at a
 ·rename_i fn ch
  split at a
  ·rename_i c aA;exact⟨fn,c,ch,aA⟩
  ·cases a
 ·cases a
def c0{f:Nat}{cv:List D}{ak av:bI}(aA:cW C f cv.length=true)(bj:C.hh f cv=none)(a:dg C f cv h j ak av):aY C f cv h j ak av:=
 ⟨.inr ⟨bj,NR aA,ap7 aA a⟩⟩
def GH{f:Nat}{cv:List D}{ak av:bI}{ac:D}(bj:C.hh f cv=some ac)(a:ak ac h j):aY C f cv h j ak av:=⟨.inl ⟨ac,bj,a⟩⟩
def tY(H:cV)(d n:Nat)(v:D):(aa H d v).g n=if d=n then some v else H.g n:=by show bY (Nat.beq d n) (some v) (H.g n)=_;rw[hK]
def sC(H:cV)(d:Nat)(v:D):(aa H d v).bc=H.bc:=rfl
def wW(H:cV)(d:Nat)(v:D):(aa H d v).rc=H.rc:=rfl
def vt(k:List D)(n:Nat):(cO k).g n=k[n]? :=by simp[cO]
def uh(k:List D):(cO k).bc=[]:=rfl
def vu(k:List D):(cO k).rc=false:=rfl
def q1(k:List Nat)(H:cV)(n:Nat):(hL k H).g n=bY (o5 n k) none (H.g n):=rfl
def wS(H:cV)(d:hI)(n:Nat):(Br H d).g n=H.g n:=rfl
def wR(H:cV)(d:hI):(Br H d).bc=d::H.bc:=rfl
def wK(H:cV)(d n:Nat):(wJ H d).g n=H.g n:=rfl
def tK(H:cV)(d:Nat):(wJ H d).bc=⟨.collected d,[]⟩::H.bc:=rfl
def JP{f:Nat}{cv:List D}{ak av:bI}(aA:cW C f cv.length=true)(bj:C.hh f cv=none)(a:Cl C f cv h j ak av):aY C f cv h j ak av:=
 ⟨.inr ⟨bj,NR aA,ap8 aA a⟩⟩
def abA{f:Nat}{cv:List D}{ak av:bI}(bj:C.hh f cv=none)(a:aY C f cv h j ak av):vm C f cv h j ak av:=by
 rcases a.out with ⟨ac,I,J⟩|⟨I,J,am⟩
 ·rw[bj]at I;cases I
 ·exact am
def GG{p:Prop}[Decidable p]{F b:Prop}(I:p->F)(J:¬p->b):aZ (.bool (decide p)) F b:=⟨λE=>I (by simpa using E),λE=>J (by simpa using E)⟩
def o1(b U:Nat):d8 C h 2 (.ptr b U)=(aO C h (.ptr b U)).bind λmo=>(aO C h (.ptr b (U+1))).bind λju=>some (.agg [mo,ju]):=by
 rw[wz]
 simp only[pR,ZJ,Nat.reduceAdd,Yo,ZF]
def rv(b U:Nat):d8 C h 3 (.ptr b U)=(aO C h (.ptr b U)).bind λmo=>(aO C h (.ptr b (U+1))).bind λju=>(aO C h (.ptr b (U+2))).bind λh0=>some (.agg [mo,ju,h0]):=by
 rw[wz]
 simp only[pR,ZJ,Nat.reduceAdd,Yo,ZF]
def u1(b U:Nat):d8 C h 4 (.ptr b U)=(aO C h (.ptr b U)).bind λmo=>(aO C h (.ptr b (U+1))).bind λju=>(aO C h (.ptr b (U+2))).bind λh0=>(aO C h (.ptr b (U+3))).bind λkA=>some (.agg [mo,ju,h0,kA]):=by
 rw[wz]
 simp only[pR,ZJ,Nat.reduceAdd,Yo,ZF]
def wD(b U:Nat):d8 C h 5 (.ptr b U)=(aO C h (.ptr b U)).bind λmo=>(aO C h (.ptr b (U+1))).bind λju=>(aO C h (.ptr b (U+2))).bind λh0=>(aO C h (.ptr b (U+3))).bind λkA=>(aO C h (.ptr b (U+4))).bind λlF=>some (.agg [mo,ju,h0,kA,lF]):=by
 rw[wz]
 simp only[pR,ZJ,Nat.reduceAdd,Yo,ZF]
def wE(b U:Nat):d8 C h 6 (.ptr b U)=(aO C h (.ptr b U)).bind λmo=>(aO C h (.ptr b (U+1))).bind λju=>(aO C h (.ptr b (U+2))).bind λh0=>(aO C h (.ptr b (U+3))).bind λkA=>(aO C h (.ptr b (U+4))).bind λlF=>(aO C h (.ptr b (U+5))).bind λua=>some (.agg [mo,ju,h0,kA,lF,ua]):=by
 rw[wz]
 simp only[pR,ZJ,Nat.reduceAdd,Yo,ZF]
def wF(b U:Nat):d8 C h 7 (.ptr b U)=(aO C h (.ptr b U)).bind λmo=>(aO C h (.ptr b (U+1))).bind λju=>(aO C h (.ptr b (U+2))).bind λh0=>(aO C h (.ptr b (U+3))).bind λkA=>(aO C h (.ptr b (U+4))).bind λlF=>(aO C h (.ptr b (U+5))).bind λua=>(aO C h (.ptr b (U+6))).bind λvj=>some (.agg [mo,ju,h0,kA,lF,ua,vj]):=by
 rw[wz]
 simp only[pR,ZJ,Nat.reduceAdd,Yo,ZF]
def wG(b U:Nat):d8 C h 8 (.ptr b U)=(aO C h (.ptr b U)).bind λmo=>(aO C h (.ptr b (U+1))).bind λju=>(aO C h (.ptr b (U+2))).bind λh0=>(aO C h (.ptr b (U+3))).bind λkA=>(aO C h (.ptr b (U+4))).bind λlF=>(aO C h (.ptr b (U+5))).bind λua=>(aO C h (.ptr b (U+6))).bind λvj=>(aO C h (.ptr b (U+7))).bind λxr=>some (.agg [mo,ju,h0,kA,lF,ua,vj,xr]):=by
 rw[wz]
 simp only[pR,ZJ,Nat.reduceAdd,Yo,ZF]
def wH(b U:Nat):d8 C h 9 (.ptr b U)=(aO C h (.ptr b U)).bind λmo=>(aO C h (.ptr b (U+1))).bind λju=>(aO C h (.ptr b (U+2))).bind λh0=>(aO C h (.ptr b (U+3))).bind λkA=>(aO C h (.ptr b (U+4))).bind λlF=>(aO C h (.ptr b (U+5))).bind λua=>(aO C h (.ptr b (U+6))).bind λvj=>(aO C h (.ptr b (U+7))).bind λxr=>(aO C h (.ptr b (U+8))).bind λBH=>some (.agg [mo,ju,h0,kA,lF,ua,vj,xr,BH]):=by
 rw[wz]
 simp only[pR,ZJ,Nat.reduceAdd,Yo,ZF]
def wA(b U:Nat):d8 C h 10 (.ptr b U)=(aO C h (.ptr b U)).bind λmo=>(aO C h (.ptr b (U+1))).bind λju=>(aO C h (.ptr b (U+2))).bind λh0=>(aO C h (.ptr b (U+3))).bind λkA=>(aO C h (.ptr b (U+4))).bind λlF=>(aO C h (.ptr b (U+5))).bind λua=>(aO C h (.ptr b (U+6))).bind λvj=>(aO C h (.ptr b (U+7))).bind λxr=>(aO C h (.ptr b (U+8))).bind λBH=>(aO C h (.ptr b (U+9))).bind λvk=>some (.agg [mo,ju,h0,kA,lF,ua,vj,xr,BH,vk]):=by
 rw[wz]
 simp only[pR,ZJ,Nat.reduceAdd,Yo,ZF]
def wB(b U:Nat):d8 C h 11 (.ptr b U)=(aO C h (.ptr b U)).bind λmo=>(aO C h (.ptr b (U+1))).bind λju=>(aO C h (.ptr b (U+2))).bind λh0=>(aO C h (.ptr b (U+3))).bind λkA=>(aO C h (.ptr b (U+4))).bind λlF=>(aO C h (.ptr b (U+5))).bind λua=>(aO C h (.ptr b (U+6))).bind λvj=>(aO C h (.ptr b (U+7))).bind λxr=>(aO C h (.ptr b (U+8))).bind λBH=>(aO C h (.ptr b (U+9))).bind λvk=>(aO C h (.ptr b (U+10))).bind λQN=>some (.agg [mo,ju,h0,kA,lF,ua,vj,xr,BH,vk,QN]):=by
 rw[wz]
 simp only[pR,ZJ,Nat.reduceAdd,Yo,ZF]
def wC(b U:Nat):d8 C h 12 (.ptr b U)=(aO C h (.ptr b U)).bind λmo=>(aO C h (.ptr b (U+1))).bind λju=>(aO C h (.ptr b (U+2))).bind λh0=>(aO C h (.ptr b (U+3))).bind λkA=>(aO C h (.ptr b (U+4))).bind λlF=>(aO C h (.ptr b (U+5))).bind λua=>(aO C h (.ptr b (U+6))).bind λvj=>(aO C h (.ptr b (U+7))).bind λxr=>(aO C h (.ptr b (U+8))).bind λBH=>(aO C h (.ptr b (U+9))).bind λvk=>(aO C h (.ptr b (U+10))).bind λQN=>(aO C h (.ptr b (U+11))).bind λaB6=>some (.agg [mo,ju,h0,kA,lF,ua,vj,xr,BH,vk,QN,aB6]):=by
 rw[wz]
 simp only[pR,ZJ,Nat.reduceAdd,Yo,ZF]
def xf(z0 a0:D):dN (K.ofList [z0] 0 .nil) 0 [a0]=K.ofList [a0] 0 .nil:=by rfl
def xj(z0 f1 a0 ba:D):dN (K.ofList [z0,f1] 0 .nil) 0 [a0,ba]=K.ofList [a0,ba] 0 .nil:=by rfl
def xk(z0 f1 fD a0 ba cj:D):dN (K.ofList [z0,f1,fD] 0 .nil) 0 [a0,ba,cj]=K.ofList [a0,ba,cj] 0 .nil:=by rfl
def xl(z0 f1 fD z3 a0 ba cj a3:D):dN (K.ofList [z0,f1,fD,z3] 0 .nil) 0 [a0,ba,cj,a3]=K.ofList [a0,ba,cj,a3] 0 .nil:=by rfl
def xm(z0 f1 fD z3 z4 a0 ba cj a3 a4:D):dN (K.ofList [z0,f1,fD,z3,z4] 0 .nil) 0 [a0,ba,cj,a3,a4]=K.ofList [a0,ba,cj,a3,a4] 0 .nil:=by rfl
def xn(z0 f1 fD z3 z4 z5 a0 ba cj a3 a4 a5:D):dN (K.ofList [z0,f1,fD,z3,z4,z5] 0 .nil) 0 [a0,ba,cj,a3,a4,a5]=K.ofList [a0,ba,cj,a3,a4,a5] 0 .nil:=by rfl
def xo(z0 f1 fD z3 z4 z5 sI a0 ba cj a3 a4 a5 hy:D):dN (K.ofList [z0,f1,fD,z3,z4,z5,sI] 0 .nil) 0 [a0,ba,cj,a3,a4,a5,hy]=K.ofList [a0,ba,cj,a3,a4,a5,hy] 0 .nil:=by rfl
def xp(z0 f1 fD z3 z4 z5 sI BI a0 ba cj a3 a4 a5 hy h3:D):dN (K.ofList [z0,f1,fD,z3,z4,z5,sI,BI] 0 .nil) 0 [a0,ba,cj,a3,a4,a5,hy,h3]=K.ofList [a0,ba,cj,a3,a4,a5,hy,h3] 0 .nil:=by rfl
def xq(z0 f1 fD z3 z4 z5 sI BI qa a0 ba cj a3 a4 a5 hy h3 h4:D):dN (K.ofList [z0,f1,fD,z3,z4,z5,sI,BI,qa] 0 .nil) 0 [a0,ba,cj,a3,a4,a5,hy,h3,h4]=K.ofList [a0,ba,cj,a3,a4,a5,hy,h3,h4] 0 .nil:=by rfl
def xg(z0 f1 fD z3 z4 z5 sI BI qa z9 a0 ba cj a3 a4 a5 hy h3 h4 a9:D):dN (K.ofList [z0,f1,fD,z3,z4,z5,sI,BI,qa,z9] 0 .nil) 0 [a0,ba,cj,a3,a4,a5,hy,h3,h4,a9]=K.ofList [a0,ba,cj,a3,a4,a5,hy,h3,h4,a9] 0 .nil:=by rfl
def xh(z0 f1 fD z3 z4 z5 sI BI qa z9 WO a0 ba cj a3 a4 a5 hy h3 h4 a9 JB:D):dN (K.ofList [z0,f1,fD,z3,z4,z5,sI,BI,qa,z9,WO] 0 .nil) 0 [a0,ba,cj,a3,a4,a5,hy,h3,h4,a9,JB]=K.ofList [a0,ba,cj,a3,a4,a5,hy,h3,h4,a9,JB] 0 .nil:=by rfl
def xi(z0 f1 fD z3 z4 z5 sI BI qa z9 WO aCe a0 ba cj a3 a4 a5 hy h3 h4 a9 JB aaR:D):dN (K.ofList [z0,f1,fD,z3,z4,z5,sI,BI,qa,z9,WO,aCe] 0 .nil) 0 [a0,ba,cj,a3,a4,a5,hy,h3,h4,a9,JB,aaR]=K.ofList [a0,ba,cj,a3,a4,a5,hy,h3,h4,a9,JB,aaR] 0 .nil:=by rfl
def sH(c:K D)(U:Nat)(v:D):(dN c U [v]).get U=some v:=by rw[jd];simp
def xd{c:K D}{U i:Nat}{v:D}(a:i≠U):(dN c U [v]).get i=c.get i:=by rw[jd,Zg (by simp;omega)]
def hF{b U q n:Nat}{c:K D}{v:D}(a:Y C h b=some (.cells c n .own))(aj:C.a2<=b)(aD:v.cells.length=q)(aS:0<q)(bj:U+q<=n)(I:jH v.cells=true):
 gj C h q (.ptr b U) v=some (bn C h b (some (.cells (dN c U v.cells) n .own))):=by
 subst aD
 have cn:Nat.blt 0 v.cells.length=true:=by simp[Nat.blt];omega
 have eU:Nat.beq v.cells.length v.cells.length=true:=by simp
 have bF:Nat.ble (U+v.cells.length) n=true:=by simpa using bj
 have iL:Nat.ble C.a2 b=true:=by simpa using aj
 simp only[gj,xK,a,kH,iL,bF,cn,eU,I,Yg,eX,hk]
def sv(q:IntKind)(n:Nat):nD (.int q (n:Int))=some n:=rfl
def axz(q:IntKind):nD (.int q 0)=some 0:=rfl
def wq(q:IntKind)(x e:Int):bq .lss (.int q x) (.int q e)=some (.bool (decide (x<e))):=by
 cases q<;>simp[bq,mg,mD,lZ,xO,tF]<;>(rw[Yh];simp)
def wo(q:IntKind)(x e:Int):bq .gtr (.int q x) (.int q e)=some (.bool (decide (e<x))):=by
 cases q<;>simp[bq,mg,mD,lZ,xO,tF]<;>(rw[Yh];simp)
def wp(q:IntKind)(x e:Int):bq .leq (.int q x) (.int q e)=some (.bool (decide (x<=e))):=by
 cases q<;>simp[bq,mg,mD,lZ,xO,tF]<;>(rw[Yh];simp)
def wn(q:IntKind)(x e:Int):bq .geq (.int q x) (.int q e)=some (.bool (decide (e<=x))):=by
 cases q<;>simp[bq,mg,mD,lZ,xO,tF]<;>(rw[Yh];simp)
def wm(q:IntKind)(x e:Int):bq .eql (.int q x) (.int q e)=some (.bool (decide (x=e))):=by
 cases q<;>simp[bq,mg,mD,lZ,xO,CT]
def wr(q:IntKind)(x e:Int):bq .neq (.int q x) (.int q e)=some (.bool (decide (x≠e))):=by
 cases q<;>simp[bq,mg,mD,lZ,xO,CT]
def wrap64{n:Int}(I: -9223372036854775808<=n)(J:n<9223372036854775808):p9 .i64 n=n:=by
 simp only[p9,fA,Zh]
 split<;>omega
def eJ{x e:Int}(I: -9223372036854775808<=x+e)(J:x+e<9223372036854775808):bq .add (.int .i64 x) (.int .i64 e)=some (.int .i64 (x+e)):=by
 simp[bq,mg,mD,lZ,lw,wrap64 I J]
def CS{x e:Int}(I: -9223372036854775808<=x-e)(J:x-e<9223372036854775808):bq .sub (.int .i64 x) (.int .i64 e)=some (.int .i64 (x-e)):=by
 simp[bq,mg,mD,lZ,lw,wrap64 I J]
def afm(x e:Int):bq .add (.int .u64 x) (.int .u64 e)=some (.int .u64 ((x+e)%18446744073709551616)):=by
 simp[bq,mg,mD,lZ,lw,p9]
def HZ{bl b U len cap i:Nat}(q:IntKind)(a:i<len):gv bl (.slice b U len cap) (.int q (i:Int))=some (.ptr b (U+i*bl)):=by
 simp[gv,sv,DA,fA,Nat.blt,a];omega
def H0{bl b U len cap i:Nat}(q:IntKind)(a:i<len):gv bl (.fl b U len cap) (.int q (i:Int))=some (.ptr b (U+i*bl)):=by
 simp[gv,sv,DA,fA,Nat.blt,a];omega
def xu(d b U:Nat):hv d (.ptr b U)=some (.ptr b (U+d)):=rfl
def xs(i:Nat)(k:List D):pg i (.tuple k)=k[i]? :=by simp[pg]
def xt(b U:Nat):rN (.ptr b U)=some (.ptr b U):=rfl
def wM(b:Bool):hp .not (.bool b)=some (.bool (!b)):=by simp[hp,xO]
def y6(c:K D)(k:List D):Prop:=∀i,c.get i=k[i]?
def n8(k:List D):y6 (K.ofList k 0 .nil) k:=λi=>k4 k i
def y6.app{c:K D}{k:List D}(a:y6 c k)(m:List D):y6 (dN c k.length m) (k++m):=by
 intro i
 rw[jd]
 by_cases I:k.length<=i/\i<k.length+m.length
 ·rw[Zu I,ZX I.1]
 ·rw[Zg I,a i]
  by_cases J:i<k.length
  ·rw[Z5 J]
  ·rw[ZQ Zo,ZQ (by simp;omega)]
end
end
end Go.bd

namespace Go.bd
noncomputable section
section
variable{C:aL}{h:K ag}{j:Nat}
def ll{F b:Nat}(a:F<=b):Nat.ble F b=true:=by simpa using a
def kS(C:aL)(h:K ag)(s:D)(bl:Nat)(k:List D)(cJ:List Nat):Prop:=
 (s= .aV/\k=[]/\cJ=[])\/∃b fv n c,s= .fl b 0 n bl/\k.length=n*bl/\cJ=b::fv/\(∀x∈cJ,C.a2<=x)/\b∉fv/\Y C h b=some (.cells c (n*bl) (.grow fv))/\y6 c k
def kS.ab{T:K ag}{s:D}{bl:Nat}{k:List D}{cJ:List Nat}(a:kS C h s bl k cJ)(aD:∀e∈cJ,Y C T e=Y C h e):kS C T s bl k cJ:=by
 rcases a with a|⟨b,fv,n,c,I,J,am,aB,bk,b6,c5⟩
 ·exact .inl a
 ·exact .inr ⟨b,fv,n,c,I,J,am,aB,bk,by rw[aD b (by rw[am];exact Zq ..)];exact b6,c5⟩
def sD{bl q b n:Nat}{k:List D}{c:K D}{st:ox}(a:Y C h b=some (.cells c n st))(aA:y6 c k)(az:k.length=q*bl)(cap:Nat):lA C h bl (.slice b 0 q cap)=some (q,k):=by
 have bU:∀(m U:Nat),U+m<=k.length->c.kU U m=some ((k.drop U).take m):=by
  intro m
  induction m with
  |zero=>intro U _;simp[K.kU]
  |succ m al=>
   intro U bj
   have I:c.get U=some k[U]:=by rw[aA U,Ze Zo]
   simp only[K.kU,I,al (U+1) Zo]
   rw[Zv (by omega:U<k.length),Z3]
 simp only[lA,ns,cellsOf,a]
 rw[bU (q*bl) 0 Zo]
 simp[<-az]
def fK{b:fg->fg}{H:cV}{h:K ag}{j:Nat}(nO:Nat->fg)(m:Nat)(aS:nO m H h j)(a:∀m H h j,nO m H h j->b (λH h j=>∃gr,gr<m/\nO gr H h j) H h j):fF b H h j:=⟨⟨nO,⟨m,aS⟩,a⟩⟩
def acT{c:K D}{k:List D}(aA:y6 c k):∀(m U:Nat),U+m<=k.length->c.kU U m=some ((k.drop U).take m):=by
 intro m
 induction m with
 |zero=>intro U _;simp[K.kU]
 |succ m al=>
  intro U bj
  have I:c.get U=some k[U]:=by rw[aA U,Ze Zo]
  simp only[K.kU,I,al (U+1) Zo]
  rw[Zv (by omega:U<k.length),Z3]
def x1{bl:Nat}:∀{br:List (List D)},(∀r∈br,r.length=bl)->br.flatten.length=br.length*bl:=by
 intro br
 induction br with
 |nil=>intro _;simp
 |cons F k al=>
  intro a
  rw[Yt,ZO,a F (Zq ..),al (λr V=>a r (Zt _ V)),ZD,Ye]
  omega
abbrev zu(l:List D)(n:Nat):Option ag:=some (.cells (K.ofList l 0 .nil) n .own)
def zv(i:Nat)(h:i<1000000000:=by omega):bq .add (.Z (i:Int)) (.Z 1)=some (.Z ((i+1:Nat):Int)):=by rw[eJ (by omega) (by omega)];rfl
def zw{p:Prop}(h:p:=by simp(disch:=omega) only[aI]):p:=h
def zB{C:aL}{S T:K ag}{b o:Nat}{v:Option D}(h:Y C T b=Y C S b)(k:aO C S (.ptr b o)=v):aO C T (.ptr b o)=v:=by rw[co,h,<-co];exact k
abbrev zy(T:cV)(a:Nat)(x:D)(b:Nat)(y:D):cV:=aa (aa T a x) b y
abbrev zz(T:cV)(a:Nat)(x:D)(b:Nat)(y:D)(c:Nat)(z:D):cV:=aa (zy T a x b y) c z
abbrev zA(T:cV)(a:Nat)(x:D)(b:Nat)(y:D)(c:Nat)(z:D)(d:Nat)(u:D):cV:=zy (zy T a x b y) c z d u
end
end
end Go.bd

namespace Go.aR
abbrev bi:=List Nat
structure de where
 b:Bool
 s:Bool
 w:Int
 deriving DecidableEq
structure Tok where
 kind:Int
 text:bi
 at_:Int
 n:Int
 ty:de
inductive be where
 |mk (kind at_:Int) (name:bi) (no:Bool) (ty:de) (n:Int) (args:List be)
structure fo where
 name:bi
 at_:Int
 ty:de
 on:bi
 fL:Int
 no:Bool
structure fc where
 left:List bi
 c7:List Int
 at_:Int
 right:be
structure Node where
 name:bi
 at_:Int
 ez:List fo
 out:List fo
 loc:List fo
 eqs:List fc
def dH:de:=⟨false,false,0⟩
def be.kind:be->Int| .mk q _ _ _ _ _ _=>q
def be.args:be->List be| .mk _ _ _ _ _ _ k=>k
abbrev ge(α:Type):=Option (Except Int (α×List Tok))
def ok{α:Type}(F:α)(k:List Tok):ge α:=some (.ok (F,k))
def bad{α:Type}(at_:Int):ge α:=some (.error at_)
def andThen{α eD:Type}(x:ge α)(f:α->List Tok->ge eD):ge eD:=match x with
 |none=>none
 |some (.error F)=>some (.error F)
 |some (.ok (F,k))=>f F k
def g9(x:Tok)(s:bi):Bool:=(x.kind=2||x.kind=6)&&x.text=s
def mm(s:bi):List Tok->Option (Option Tok×List Tok)
 |[]=>none
 |x::k=>if g9 x s then some (some x,k)else some (none,x::k)
def ir{eD:Type}(s:bi)(k:List Tok)(f:Option Tok->List Tok->ge eD):ge eD:=match mm s k with
 |none=>none
 |some (x,k)=>f x k
def eC(s:bi):List Tok->ge Tok
 |[]=>none
 |x::k=>if g9 x s then ok x k else bad x.at_
def iU(q:Int):List Tok->ge Tok
 |[]=>none
 |x::k=>if x.kind=q then ok x k else bad x.at_
def ar:Nat->List (bi×Int)
 |0=>[([111,114],7),([120,111,114],8)]
 |1=>[([97,110,100],9)]
 |2=>[([61],10),([60,62],11),([60,61],13),([62,61],15),([60],12),([62],14)]
 |3=>[([43],16),([45],17)]
 |4=>[([42],18)]
 |_=>[]
def ps:List (bi×Int)->List Tok->Option (Option be×List Tok)
 |[],k=>some (none,k)
 |(s,q)::os,k=>match mm s k with
  |none=>none
  |some (some x,k)=>some (some (.mk q x.at_ [] false dH 0 []),k)
  |some (none,k)=>ps os k
def be.at_:be->Int| .mk _ F _ _ _ _ _=>F
def u3(E:be):Option Bool:=if E.kind=1 then some true else if E.kind=4 then(match E.args with|[]=>none|F::_=>some (decide (F.kind=1)))else some false
def be.name:be->bi| .mk _ _ s _ _ _ _=>s
def be.no:be->Bool| .mk _ _ _ b _ _ _=>b
def be.ty:be->de| .mk _ _ _ _ t _ _=>t
def be.n:be->Int| .mk _ _ _ _ _ n _=>n
def two(E:be)(F b:be):be:= .mk E.kind E.at_ [] false dH 0 [F,b]
def Bp:List (bi×Int):=[([110,111,116],3),([45],4),([112,114,101],5)]
mutual
def level:Nat->Nat->List Tok->ge be
 |0,_,_=>none
 |n+1,q,k=>if q=5 then shift n k else andThen (level n (q+1) k) λleft k=>pU n q left k
def pU:Nat->Nat->be->List Tok->ge be
 |0,_,_,_=>none
 |n+1,q,left,k=>match ps (ar q) k with
  |none=>none
  |some (none,k)=>ok left k
  |some (some E,k)=>andThen (level n (q+1) k) λr k=>if q=2 then ok (two E left r) k else pU n q (two E left r) k
def shift:Nat->List Tok->ge be
 |0,_=>none
 |n+1,k=>andThen (yL n k) λleft k=>p5 n left k
def p5:Nat->be->List Tok->ge be
 |0,_,_=>none
 |n+1,left,k=>ir [60,60] k λx k=>match x with
  |some x=>p6 n 19 x left k
  |none=>ir [62,62] k λx k=>match x with
   |some x=>p6 n 20 x left k
   |none=>ok left k
def p6:Nat->Int->Tok->be->List Tok->ge be
 |0,_,_,_,_=>none
 |n+1,q,x,left,k=>andThen (iU 4 k) λm k=>if 63<m.n then bad m.at_ else p5 n (.mk q x.at_ [] false dH m.n [left]) k
def yL:Nat->List Tok->ge be
 |0,_=>none
 |n+1,k=>match ps Bp k with
  |none=>none
  |some (some E,k)=>andThen (yL n k) λF k=>ok (.mk E.kind E.at_ [] false dH 0 [F]) k
  |some (none,k)=>andThen (part n k) λleft k=>nN n left k
def nN:Nat->be->List Tok->ge be
 |0,_,_=>none
 |n+1,left,k=>ir [119,104,101,110] k λx k=>match x with
  |none=>ok left k
  |some x=>ir [110,111,116] k λno k=>andThen (iU 1 k) λc k=>nN n (.mk 6 x.at_ c.text no.isSome dH 0 [left]) k
def part:Nat->List Tok->ge be
 |0,_=>none
 |_+1,[]=>none
 |n+1,x::k=>
  if x.kind=5 then ok (.mk 1 x.at_ [] false x.ty x.n []) k
  else if x.kind=2&&(x.text=[116,114,117,101]||x.text=[102,97,108,115,101])then ok (.mk 1 x.at_ [] false ⟨true,false,1⟩ (if x.text=[116,114,117,101]then 1 else 0) []) k
  else if x.kind=1 then ir [40] k λe k=>match e with
   |none=>ok (.mk 2 x.at_ x.text false dH 0 []) k
   |some _=>andThen (list n k) λcv k=>ok (.mk 25 x.at_ x.text false dH 0 cv) k
  else if x.kind=3 then andThen (eC [40] k) λ_ k=>andThen (arrow n k) λE k=>andThen (eC [41] k) λ_ k=>ok (.mk 26 x.at_ [] false x.ty 0 [E]) k
  else if x.kind=6&&x.text=[40]then andThen (arrow n k) λE k=>andThen (eC [41] k) λ_ k=>ok E k
  else if x.kind=2&&x.text=[105,102]then andThen (arrow n k) λc k=>andThen (eC [116,104,101,110] k) λ_ k=>andThen (arrow n k) λF k=>andThen (eC [101,108,115,101] k) λ_ k=>andThen (arrow n k) λb k=>ok (.mk 23 x.at_ [] false dH 0 [c,F,b]) k
  else if x.kind=2&&x.text=[109,101,114,103,101]then andThen (iU 1 k) λc k=>andThen (part n k) λF k=>andThen (part n k) λb k=>ok (.mk 24 x.at_ c.text false dH 0 [F,b]) k
  else bad x.at_
def list:Nat->List Tok->ge (List be)
 |0,_=>none
 |n+1,k=>ir [41] k λe k=>match e with
  |some _=>ok [] k
  |none=>andThen (arrow n k) λE k=>pW n [E] k
def pW:Nat->List be->List Tok->ge (List be)
 |0,_,_=>none
 |n+1,cv,k=>ir [44] k λe k=>match e with
  |none=>andThen (eC [41] k) λ_ k=>ok cv k
  |some _=>andThen (arrow n k) λE k=>pW n (cv++[E]) k
def l9:Nat->List Tok->ge be
 |0,_=>none
 |n+1,k=>andThen (level n 0 k) λleft k=>ir [102,98,121] k λx k=>match x with
  |none=>ok left k
  |some x=>match u3 left with
   |none=>none
   |some true=>andThen (l9 n k) λr k=>ok (.mk 21 x.at_ [] false dH 0 [left,r]) k
   |some false=>bad x.at_
def arrow:Nat->List Tok->ge be
 |0,_=>none
 |n+1,k=>andThen (l9 n k) λleft k=>ir [45,62] k λx k=>match x with
  |none=>ok left k
  |some x=>andThen (arrow n k) λr k=>ok (.mk 22 x.at_ [] false dH 0 [left,r]) k
end
def su:Nat->List Tok->List Tok->ge (List Tok)
 |0,_,_=>none
 |n+1,cv,k=>andThen (iU 1 k) λx k=>ir [44] k λe k=>match e with
  |none=>ok (cv++[x]) k
  |some _=>su n (cv++[x]) k
def qn(ty:de)(on:bi)(fL:Int)(no:Bool)(x:Tok):fo:=⟨x.text,x.at_,ty,on,fL,no⟩
def BC:Nat->List Tok->Option bi
 |_,[]=>none
 |0,x::_=>some x.text
 |i+1,_::k=>BC i k
def Am(loc:Bool)(q:List fo->List Tok->ge (List fo))(ds:List fo)(k:List Tok):ge (List fo):=match BC 0 k with
 |none=>none
 |some s=>if s=[59]then(if loc then(match BC 1 k with
   |none=>none
   |some s=>if s=[108,101,116]then ok ds k else q ds (k.drop 1))else q ds (k.drop 1))
  else ok ds k
def Cd(w:Option Tok)(k:List Tok):ge (bi×Int×Bool):=match w with
 |none=>ok ([],0,false) k
 |some _=>ir [110,111,116] k λno k=>andThen (iU 1 k) λon k=>ok (on.text,on.at_,no.isSome) k
def D9(loc:Bool)(q:List fo->List Tok->ge (List fo))(ds:List fo)(cl:List Tok)(k:List Tok):ge (List fo):=
 andThen (eC [58] k) λ_ k=>andThen (iU 3 k) λt k=>ir [119,104,101,110] k λw k=>
 andThen (Cd w k) λr k=>Am loc q (ds++cl.map (qn t.ty r.1 r.2.1 r.2.2)) k
def jh:Nat->Bool->List fo->List Tok->ge (List fo)
 |0,_,_,_=>none
 |n+1,loc,ds,k=>andThen (su n [] k) λcl k=>D9 loc (jh n loc) ds cl k
def vH(n:Nat)(k:List Tok):ge fc:=ir [40] k λe k=>
 andThen (match e with
  |some _=>andThen (iU 1 k) λx k=>andThen (eC [44] k) λ_ k=>andThen (su n [x] k) λcl k=>andThen (eC [41] k) λ_ k=>ok cl k
  |none=>andThen (iU 1 k) λx k=>ok [x] k) λcl k=>
 andThen (eC [61] k) λE k=>andThen (arrow n k) λr k=>andThen (eC [59] k) λ_ k=>ok ⟨cl.map Tok.text,cl.map Tok.at_,E.at_,r⟩ k
def l8:Nat->List fc->List Tok->ge (List fc)
 |0,_,_=>none
 |n+1,cN,k=>ir [116,101,108] k λe k=>match e with
  |some _=>ok cN k
  |none=>andThen (vH n k) λah k=>l8 n (cN++[ah]) k
def node(n:Nat)(k:List Tok):ge Node:=
 andThen (eC [110,111,100,101] k) λ_ k=>andThen (iU 1 k) λx k=>andThen (eC [40] k) λ_ k=>ir [41] k λe k=>
 andThen (match e with
  |some _=>ok [] k
  |none=>andThen (jh n false [] k) λds k=>andThen (eC [41] k) λ_ k=>ok ds k) λez k=>
 andThen (eC [114,101,116,117,114,110,115] k) λ_ k=>andThen (eC [40] k) λ_ k=>andThen (jh n false [] k) λout k=>andThen (eC [41] k) λ_ k=>
 ir [118,97,114] k λe k=>andThen (match e with
  |some _=>andThen (jh n true [] k) λds k=>andThen (eC [59] k) λ_ k=>ok ds k
  |none=>ok [] k) λloc k=>
 andThen (eC [108,101,116] k) λ_ k=>andThen (l8 n [] k) λcN k=>ok ⟨x.text,x.at_,ez,out,loc,cN⟩ k
def p1:Nat->List Node->List Tok->ge (List Node)
 |0,_,_=>none
 |n+1,ai,k=>andThen (node n k) λg k=>match k with
  |[]=>none
  |x::_=>if x.kind=7 then ok (ai++[g]) k else p1 n (ai++[g]) k
end Go.aR

namespace Go.bd
noncomputable section
open Go.aR
section
variable{C:aL}{h T aP:K ag}{j an aG:Nat}
def pq{sJ:List D}{ak:bI}(a:ak (.ptr j 0) (bn C h j (zu sJ sJ.length)) (j+1)):ax (km sJ j) λr=>gw C h j r.1 r.2 ak:=⟨⟨a⟩⟩
def Gt{b:Nat}{sJ:List D}{ak:D->K ag->Prop}(a:ak (.ptr b 0) (bn C h b (zu sJ sJ.length))):ax (km sJ b) λr=>mF C h b r.1 r.2 ak:=⟨⟨a⟩⟩
def qq(cs:List D):Ej cs []=some cs:=rfl
def qp(cs:List D)(off size:Nat)(v:D)(dr:List (Nat×Nat×D)):Ej cs ((off,size,v)::dr)=if v.cells.length=size/\off+size<=cs.length then Ej (lS cs off v.cells) dr else none:=by
 have E:∀F b:Nat,(Nat.beq F b=true)=(F=b):=λF b=>propext ⟨Zl,λa=>by subst a;exact za F⟩
 simp only[Ej,fA,Zp,E,Nat.ble_eq]
def rM(c:K D)(U:Nat)(v:D):dN c U [v]=c.set U (some v):=by simp[dN]
def bO{b n:Nat}{c:K D}{st:ox}(a:Y C h b=some (.cells c n st))(U:Nat):aO C h (.ptr b U)=c.get U:=by rw[co,a]
def G4{w:Bool}{F b:Prop}(a:b):iP w bd.undef F b:=⟨a⟩
def pT(b U n c:Nat):gy (.slice b U n c)=some (.Z (n:Int)):=by simp[gy,qD]
def rx(b U n c:Nat):gy (.fl b U n c)=some (.Z (n:Int)):=by simp[gy,qD]
def tI:gy .aV=some (.Z 0):=rfl
def tJ(s:List Nat):m8 (.str s)=some (.Z (s.length:Int)):=by simp[m8,qD]
def Fo:∀F b:List Nat,na F b=decide (F=b):=by
 intro F
 induction F with
 |nil=>intro b;cases b<;>simp[na]
 |cons x F al=>
  intro b
  cases b with
  |nil=>simp[na]
  |cons e b=>
   simp only[na,al]
   by_cases a:x=e<;>simp[a]
def w1(t:Nat)(ur:Bool)(F b:List Nat):dw C h .eql t ur (.str F) (.str b)=some (.bool (decide (F=b))):=by
 simp[dw,B4,xO,Fo]
def w2(t:Nat)(ur:Bool)(F b:List Nat):dw C h .neq t ur (.str F) (.str b)=some (.bool (decide (F≠b))):=by
 simp[dw,B4,xO,Fo]
def vK(off bl:Nat)(cs:List D):r6 false off bl (.agg cs)=cs[off]? :=by simp[r6,fA]
def vJ(off bl:Nat)(cs:List D):r6 true off bl (.agg cs)=some (.agg ((cs.drop off).take bl)):=by simp[r6,fA]
def s4(t:Nat)(bz v:D):Gx t bz true (.iface t v)=some (.tuple [v, .zT]):=by simp[Gx,fA]
def vD(q:IntKind)(x:Int):nW .u64 (.int q x)=some (.int .u64 (x%18446744073709551616)):=by simp[nW,lw,p9]
def abO{q:IntKind}{x:Int}(I: -9223372036854775808<=x)(J:x<9223372036854775808):nW .i64 (.int q x)=some (.Z x):=by simp[nW,lw,wrap64 I J]
def vE(s:List Nat):aoz (.str s)=some (.str s):=rfl
structure ca(C:aL)(X:List Nat)(h:K ag)(j:Nat)(T:K ag)(an:Nat):Prop where
 le:j<=an
 ab:∀b,b<j->b∉X->Y C T b=Y C h b
def ca.refl(X:List Nat)(h:K ag)(j:Nat):ca C X h j h j:=⟨Zi _,λ_ _ _=>rfl⟩
def ca.trans{X:List Nat}{aP aM aX:K ag}{aG a1 bf:Nat}(a:ca C X aP aG aM a1)(q:ca C X aM a1 aX bf):ca C X aP aG aX bf:=
 ⟨ZB a.le q.le,λb aj af=>(q.ab b (ZP aj a.le) af).trans (a.ab b aj af)⟩
def ca.of{X:List Nat}(a:bo C h j T an):ca C X h j T an:=⟨a.le,λb aj _=>a.ab b aj⟩
def ca.fZ{X:List Nat}(a:ca C X h j T an)(b U:Nat)(aj:b<j)(af:b∉X):aO C T (.ptr b U)=aO C h (.ptr b U):=by rw[co,co,a.ab b aj af]
def ca.down{X c3:List Nat}{a2:Nat}(a:ca C X h j T an)(aE:a2<=j)(af:∀b∈X,b∈c3\/a2<=b):ca C c3 h a2 T an:=
 ⟨ZB aE a.le,λb aj z=>a.ab b Zo (λE=>by rcases af b E with a|a;exact z a;omega)⟩
structure dD(C:aL)(h:K ag)(P:Nat->Prop)(b:Nat)(aW:D)(bl:Nat)(br:List (List D)):Prop where
 aj:br≠[]->P b
 many:br.length<=300000
 wide:∀r∈br,r.length=bl
 len:gy aW=some (.Z (br.length:Int))
 f3:∀(i:Nat),i<br.length->gv bl aW (.Z (i:Int))=some (.ptr b (i*bl))
 cell:∀(i:Nat) r (W:Nat) v,br[i]? =some r->r[W]? =some v->aO C h (.ptr b (i*bl+W))=some v
def dD.ab{P:Nat->Prop}{b bl:Nat}{aW:D}{br:List (List D)}(a:dD C h P b aW bl br)(q:∀e,P e->Y C T e=Y C h e):dD C T P b aW bl br:=
 ⟨a.aj,a.many,a.wide,a.len,a.f3,λi r W v aN bK=>by
  have aD:=q b (a.aj (λE=>by rw[E]at aN;cases aN))
  rw[co,aD, <-co];exact a.cell i r W v aN bK⟩
def dD.lift{P bm:Nat->Prop}{b bl:Nat}{aW:D}{br:List (List D)}(a:dD C h P b aW bl br)(q:∀e,P e->bm e):dD C h bm b aW bl br:=
 ⟨λE=>q _ (a.aj E),a.many,a.wide,a.len,a.f3,a.cell⟩
def acS{c:K D}:∀(r:List D) (U:Nat),(∀W v,r[W]? =some v->c.get (U+W)=some v)->c.kU U r.length=some r:=by
 intro r
 induction r with
 |nil=>intro U _;rfl
 |cons F r al=>
  intro U a
  have aS:=a 0 F rfl
  rw[ZW]at aS
  have I:=al (U+1) (λW v bK=>by have:=a (W+1) v (by simpa using bK);rw[Nat.add_right_comm];simpa[ZJ,Nat.add_comm,Nat.add_left_comm]using this)
  simp[K.kU,aS,I]
def dD.row{P:Nat->Prop}{b bl:Nat}{aW:D}{br:List (List D)}(a:dD C h P b aW bl br)(aF:0<bl){i:Nat}{r:List D}(aN:br[i]? =some r):d8 C h bl (.ptr b (i*bl))=some (.agg r):=by
 have az:=a.wide r (Zj aN)
 have aS:∃v,r[0]? =some v:=by
  cases r with
  |nil=>simp at az;omega
  |cons F k=>exact⟨F,rfl⟩
 obtain⟨v,bD⟩:=aS
 have aA:=a.cell i r 0 v aN bD
 rw[co]at aA
 rw[sq]
 split at aA
 ·rename_i c _ _ aj
  have:=acS (c:=c) r (i*bl) (λW v bK=>by
   have:=a.cell i r W v aN bK
   rw[co,aj]at this
   exact this)
  rw[az]at this
  rw[this];rfl
 ·cases aA
def SB{bl:Nat}:∀(br:List (List D)),(∀r∈br,r.length=bl)->∀(i:Nat) r (W:Nat) v,br[i]? =some r->r[W]? =some v->br.flatten[i*bl+W]? =some v:=by
 intro br
 induction br with
 |nil=>intro _ i r W v aN;simp at aN
 |cons F k al=>
  intro V i r W v aN bK
  have aC:=V F (Zq ..)
  have uO:W<r.length:=(Zc.1 bK).1
  cases i with
  |zero=>
   simp at aN;subst aN
   rw[Yt,ze,ZS,Z5 Zo];exact bK
  |succ i=>
   simp at aN
   rw[Yt,ZX (by rw[aC,Ye];omega),aC]
   have:(i+1)*bl+W-bl=i*bl+W:=by rw[Ye];omega
   rw[this]
   exact al (λr kb=>V r (Zt _ kb)) i r W v aN bK
def kS.tT{bl:Nat}{s:D}{br:List (List D)}{cJ:List Nat}(a:kS C h s bl br.flatten cJ)(eO:0<bl)(V:∀r∈br,r.length=bl)(bp:br.length<=300000){P:Nat->Prop}(az:∀e∈cJ,P e):∃b,dD C h P b s bl br:=by
 have f6:=x1 V
 have Y:∀(br:List (List D)),(∀r∈br,r.length=bl)->∀(i:Nat) r (W:Nat) v,br[i]? =some r->r[W]? =some v->br.flatten[i*bl+W]? =some v:=by
  intro br
  induction br with
  |nil=>intro _ i r W v aN;simp at aN
  |cons F k al=>
   intro V i r W v aN bK
   have aC:=V F (Zq ..)
   have uO:W<r.length:=(Zc.1 bK).1
   cases i with
   |zero=>
    simp at aN;subst aN
    rw[Yt,ze,ZS,Z5 Zo];exact bK
   |succ i=>
    simp at aN
    rw[Yt,ZX (by rw[aC,Ye];omega),aC]
    have:(i+1)*bl+W-bl=i*bl+W:=by rw[Ye];omega
    rw[this]
    exact al (λr kb=>V r (Zt _ kb)) i r W v aN bK
 rcases a with ⟨I,J,am⟩|⟨b,fv,n,c,I,J,am,aB,bk,b6,c5⟩
 ·have Ud:br.length=0:=by
   rw[J,ZT]at f6
   rcases Nat.mul_eq_zero.1 f6.symm with a|a
   ·exact a
   ·omega
  have Ud:br=[]:=List.length_eq_zero_iff.1 Ud
  subst Ud I
  exact⟨0,λE=>absurd rfl E,Zs,V,rfl,λi aN=>by simp at aN,λi r W v aN=>by simp at aN⟩
 ·have aE:n=br.length:=Nat.eq_of_mul_eq_mul_right eO (by rw[<-J,f6])
  subst aE I
  refine⟨b,λ_=>az b (by rw[am];exact Zq ..),bp,V,rx ..,λi aN=>by rw[H0 _ aN,ZS],λi r W v aN bK=> ?_⟩
  rw[co,b6]
  exact(c5 _).trans (Y br V i r W v aN bK)
def FG{b bl q cap:Nat}{br:List (List D)}{st:ox}(aj:Y C h b=some (.cells (K.ofList br.flatten 0 .nil) (q*bl) st))(aD:br.length=q)(V:∀r∈br,r.length=bl)(bp:q<=300000){P:Nat->Prop}(bE:P b):dD C h P b (.slice b 0 q cap) bl br:=by
 subst aD
 have Y:∀(br:List (List D)),(∀r∈br,r.length=bl)->∀(i:Nat) r (W:Nat) v,br[i]? =some r->r[W]? =some v->br.flatten[i*bl+W]? =some v:=by
  intro br
  induction br with
  |nil=>intro _ i r W v aN;simp at aN
  |cons F k al=>
   intro V i r W v aN bK
   have aC:=V F (Zq ..)
   have uO:W<r.length:=(Zc.1 bK).1
   cases i with
   |zero=>
    simp at aN;subst aN
    rw[Yt,ze,ZS,Z5 Zo];exact bK
   |succ i=>
    simp at aN
    rw[Yt,ZX (by rw[aC,Ye];omega),aC]
    have:(i+1)*bl+W-bl=i*bl+W:=by rw[Ye];omega
    rw[this]
    exact al (λr kb=>V r (Zt _ kb)) i r W v aN bK
 refine⟨λ_=>bE,bp,V,pT ..,λi aN=>by rw[HZ _ aN,ZS],λi r W v aN bK=> ?_⟩
 rw[co,aj]
 exact(k4 _ _).trans (Y br V i r W v aN bK)
def ed(t:de):List D:=[.bool t.b, .bool t.s, .Z t.w]
def kR(C:aL)(h:K ag)(b:Nat):Prop:=∃c n,Y C h b=some (.cells c n .own)/\8<n
def kR.ab{b:Nat}(a:kR C h b)(q:Y C T b=Y C h b):kR C T b:=by unfold kR;rw[q];exact a
mutual
def cy(C:aL)(h:K ag):(Nat->Prop)->be->D->Prop
 |P, .mk kind at_ name no ty n args,v=>∃b,v= .ptr b 0/\P b/\kR C h b/\aO C h (.ptr b 0)=some (.Z kind)/\aO C h (.ptr b 1)=some (.Z at_)/\aO C h (.ptr b 2)=some (.str name)/\aO C h (.ptr b 3)=some (.bool no)
   /\aO C h (.ptr b 4)=some (.bool ty.b)/\aO C h (.ptr b 5)=some (.bool ty.s)/\aO C h (.ptr b 6)=some (.Z ty.w)/\aO C h (.ptr b 7)=some (.int .u64 n)
   /\∃aW cp a8,aO C h (.ptr b 8)=some aW/\dD C h P cp aW 1 (a8.map λv=>[v])/\(a8≠[]->cp≠b)/\dk C h (λe=>P e/\e≠b/\e≠cp) args a8
def dk(C:aL)(h:K ag):(Nat->Prop)->List be->List D->Prop
 |_,[],a8=>a8=[]
 |P,E::bH,a8=>∃v jc bm,a8=v::jc/\(∀e,bm e->P e)/\cy C h bm E v/\dk C h (λe=>P e/\¬bm e) bH jc
end
mutual
def cy.ab{P:Nat->Prop}(q:∀e,P e->Y C T e=Y C h e):∀(E:be) (v:D),cy C h P E v->cy C T P E v
 | .mk kind at_ name no ty n args,v,a=>by
   unfold cy at a ⊢
   obtain⟨b,I,bE,bj,J,am,aB,bk,b6,c5,eb,g5,aW,cp,a8,lp,tf,ti,vR⟩:=a
   have az:∀U,aO C T (.ptr b U)=aO C h (.ptr b U):=λU=>by rw[co,co,q b bE]
   exact⟨b,I,bE,bj.ab (q b bE),by rw[az];exact J,by rw[az];exact am,by rw[az];exact aB,by rw[az];exact bk,by rw[az];exact b6,by rw[az];exact c5,by rw[az];exact eb,by rw[az];exact g5,aW,cp,a8,by rw[az];exact lp,tf.ab q,ti,dk.ab (λe z=>q e z.1) args a8 vR⟩
def dk.ab{P:Nat->Prop}(q:∀e,P e->Y C T e=Y C h e):∀(bH:List be) (a8:List D),dk C h P bH a8->dk C T P bH a8
 |[],a8,a=>by unfold dk at a ⊢;exact a
 |E::bH,a8,a=>by
  unfold dk at a ⊢
  obtain⟨v,jc,bm,I,bL,J,am⟩:=a
  exact⟨v,jc,bm,I,bL,cy.ab (λe z=>q e (bL e z)) E v J,dk.ab (λe z=>q e z.1) bH jc am⟩
end
mutual
def cy.lift{P bm:Nat->Prop}(q:∀e,P e->bm e):∀(E:be) (v:D),cy C h P E v->cy C h bm E v
 | .mk kind at_ name no ty n args,v,a=>by
   unfold cy at a ⊢
   obtain⟨b,I,bE,bj,J,am,aB,bk,b6,c5,eb,g5,aW,cp,a8,lp,tf,ti,vR⟩:=a
   exact⟨b,I,q b bE,bj,J,am,aB,bk,b6,c5,eb,g5,aW,cp,a8,lp,tf.lift q,ti,dk.lift (λe z=>⟨q e z.1,z.2⟩) args a8 vR⟩
def dk.lift{P bm:Nat->Prop}(q:∀e,P e->bm e):∀(bH:List be) (a8:List D),dk C h P bH a8->dk C h bm bH a8
 |[],a8,a=>by unfold dk at a ⊢;exact a
 |E::bH,a8,a=>by
  unfold dk at a ⊢
  obtain⟨v,jc,eE,I,bL,J,am⟩:=a
  exact⟨v,jc,eE,I,λe z=>q e (bL e z),J,dk.lift (λe z=>⟨q e z.1,z.2⟩) bH jc am⟩
end
def dk.nil{P:Nat->Prop}:dk C h P [] []:=by unfold dk;rfl
def gE(kind at_:Int)(name:bi)(no:Bool)(ty:de)(n:Int)(aW:D):List D:=[.Z kind, .Z at_, .str name, .bool no, .bool ty.b, .bool ty.s, .Z ty.w, .int .u64 n,aW]
def Vt:8<9:=by decide
def cy.of{P:Nat->Prop}{b cp:Nat}{kind at_ n:Int}{name:bi}{no:Bool}{ty:de}{aW:D}{m:Nat}{st:ox}{args:List be}{a8:List D}(aj:Y C h b=some (.cells (K.ofList (gE kind at_ name no ty n aW) 0 .nil) m st))(bE:P b)
 (aF:dD C h P cp aW 1 (a8.map λv=>[v]))(ti:a8≠[]->cp≠b)(aC:dk C h (λe=>P e/\e≠b/\e≠cp) args a8)(bj:st= .own:=by rfl)(bp:8<m:=by exact Vt):cy C h P (.mk kind at_ name no ty n args) (.ptr b 0):=by
 unfold cy
 refine⟨b,rfl,bE,⟨_,_,bj▸aj,bp⟩, ?_, ?_, ?_, ?_, ?_, ?_, ?_, ?_,aW,cp,a8, ?_,aF,ti,aC⟩<;>(rw[bO aj,k4];rfl)
def dD.nil(P:Nat->Prop)(bl:Nat):dD C h P 0 .aV bl []:=⟨λE=>absurd rfl E,Zs,Zs,rfl,λi aN=>by simp at aN,λi r W v aN=>by simp at aN⟩
def cy.leaf{P:Nat->Prop}{b:Nat}{kind at_ n:Int}{name:bi}{no:Bool}{ty:de}{m:Nat}{st:ox}(aj:Y C h b=some (.cells (K.ofList (gE kind at_ name no ty n .aV) 0 .nil) m st))(bE:P b)(bj:st= .own:=by rfl)(bp:8<m:=by exact Vt):cy C h P (.mk kind at_ name no ty n []) (.ptr b 0):=
 cy.of (a8:=[]) aj bE (dD.nil P 1) (λa=>absurd rfl a) dk.nil bj bp
def acD:∀a8:List D,(a8.map λv=>[v]).flatten=a8:=by
 intro a8
 induction a8 with
 |nil=>rfl
 |cons F k al=>simp[al]
def cy.lit{P:Nat->Prop}{b cp q cap:Nat}{kind at_ n:Int}{name:bi}{no:Bool}{ty:de}{m:Nat}{st ii:ox}{args:List be}{a8:List D}(aj:Y C h b=some (.cells (K.ofList (gE kind at_ name no ty n (.slice cp 0 q cap)) 0 .nil) m st))(bE:P b)
 (Hj:Y C h cp=some (.cells (K.ofList a8 0 .nil) q ii))(ar9:P cp)(aD:a8.length=q)(i6:q<=1000)(ti:cp≠b)(aC:dk C h (λe=>P e/\e≠b/\e≠cp) args a8)(bj:st= .own:=by rfl)(bp:8<m:=by exact Vt):cy C h P (.mk kind at_ name no ty n args) (.ptr b 0):=
 cy.of aj bE (FG (br:=a8.map λv=>[v]) (by rw[acD,Yl];exact Hj) (by simpa using aD) Zs Zo ar9) (λ_=>ti) aC bj bp
def dk.one{P bm:Nat->Prop}{E:be}{v:D}(a:cy C h bm E v)(bL:∀e,bm e->P e):dk C h P [E] [v]:=by
 unfold dk;exact⟨v,[],bm,rfl,bL,a,dk.nil⟩
def dk.two{P bm eE:Nat->Prop}{E f:be}{v w:D}(a:cy C h bm E v)(q:cy C h eE f w)(bL:∀e,bm e->P e)(V:∀e,eE e->P e/\¬bm e):dk C h P [E,f] [v,w]:=by
 unfold dk;exact⟨v,[w],bm,rfl,bL,a,dk.one q V⟩
def dk.snoc{bm:Nat->Prop}{E:be}{v:D}(q:cy C h bm E v):∀{bH:List be}{a8:List D}{es P:Nat->Prop},dk C h es bH a8->(∀e,es e->P e)->(∀e,bm e->P e/\¬es e)->dk C h P (bH++[E]) (a8++[v]):=by
 intro bH
 induction bH with
 |nil=>intro a8 es P a I J;unfold dk at a;subst a;exact dk.one q (λe z=>(J e z).1)
 |cons F k al=>
  intro a8 es P a I J
  unfold dk at a
  obtain⟨w,jc,eE,rfl,bL,am,aB⟩:=a
  show dk C h P (F::(k++[E])) (w::(jc++[v]))
  unfold dk
  exact⟨w,jc++[v],eE,rfl,λe z=>I e (bL e z),am,al aB (λe z=>⟨I e z.1,z.2⟩) (λe z=>⟨⟨(J e z).1,λgO=>(J e z).2 (bL e gO)⟩,λpL=>(J e z).2 pL.1⟩)⟩
def cy.ptr{P:Nat->Prop}:∀{E:be}{v:D},cy C h P E v->∃b,v= .ptr b 0/\P b/\aO C h (.ptr b 0)=some (.Z E.kind)
 | .mk ..,_,a=>by
   unfold cy at a
   obtain⟨b,I,bE,_,J,_⟩:=a
   exact⟨b,I,bE,J⟩
def cy.open{P:Nat->Prop}:∀{E:be}{v:D},cy C h P E v->∃b aW cp a8,v= .ptr b 0/\P b/\aO C h (.ptr b 0)=some (.Z E.kind)/\aO C h (.ptr b 1)=some (.Z E.at_)/\aO C h (.ptr b 2)=some (.str E.name)/\aO C h (.ptr b 3)=some (.bool E.no)
 /\aO C h (.ptr b 4)=some (.bool E.ty.b)/\aO C h (.ptr b 5)=some (.bool E.ty.s)/\aO C h (.ptr b 6)=some (.Z E.ty.w)/\aO C h (.ptr b 7)=some (.int .u64 E.n)
 /\aO C h (.ptr b 8)=some aW/\dD C h P cp aW 1 (a8.map λv=>[v])/\dk C h P E.args a8
 | .mk ..,_,a=>by
   unfold cy at a
   obtain⟨b,I,bE,bj,J,am,aB,bk,b6,c5,eb,g5,aW,cp,a8,lp,tf,ti,vR⟩:=a
   exact⟨b,aW,cp,a8,I,bE,J,am,aB,bk,b6,c5,eb,g5,lp,tf,dk.lift (λe z=>z.1) _ _ vR⟩
def dk.len:∀{bH:List be}{a8:List D}{P:Nat->Prop},dk C h P bH a8->a8.length=bH.length:=by
 intro bH
 induction bH with
 |nil=>intro a8 P a;unfold dk at a;subst a;rfl
 |cons F k al=>
  intro a8 P a
  unfold dk at a
  obtain⟨w,jc,bm,rfl,bL,I,J⟩:=a
  simp[al J]
def dk.get:∀{bH:List be}{a8:List D}{P:Nat->Prop},dk C h P bH a8->∀(i:Nat) E,bH[i]? =some E->∃v,a8[i]? =some v/\cy C h P E v:=by
 intro bH
 induction bH with
 |nil=>intro a8 P a i E bs;simp at bs
 |cons F k al=>
  intro a8 P a i E bs
  unfold dk at a
  obtain⟨w,jc,bm,rfl,bL,I,J⟩:=a
  cases i with
  |zero=>simp at bs;subst bs;exact⟨w,rfl,cy.lift bL _ _ I⟩
  |succ i=>
   obtain⟨v,am,aB⟩:=al J i E (by simpa using bs)
   exact⟨v,by simpa using am,cy.lift (λe z=>z.1) _ _ aB⟩
def dD.one{P:Nat->Prop}{b:Nat}{aW:D}{a8:List D}(a:dD C h P b aW 1 (a8.map λv=>[v])){i:Nat}{v:D}(aN:a8[i]? =some v):gv 1 aW (.Z (i:Int))=some (.ptr b i)/\aO C h (.ptr b i)=some v/\P b:=by
 have lK:=(Zc.1 aN).1
 have I:=a.f3 i (by simpa using lK)
 have J:=a.cell i [v] 0 v (by rw[Zy,aN];rfl) rfl
 rw[Yl]at I
 rw[Yl,ZW]at J
 exact⟨I,J,a.aj (λE=>by simp at E;subst E;simp at aN)⟩
def anm{bl q:Nat}{x:D}{m:List D}(af:lA C h bl x=some (q,m))(aD:0<q)(aj:q<=1048576):
 kG C h j bl .aV x=some (.fs (.fl j 0 q bl) (bn C h j (some (.cells (K.ofList m 0 .nil) m.length (.grow [])))) (j+1)):=by
 simp only[kG,af]
 rw[hK,Zg Zo]
 simp[Af,uA,ll aj,nE]
def ank{bl q b n:Nat}{x:D}{m:List D}{c:K D}{fv:List Nat}(cr:0<bl)(af:lA C h bl x=some (q,m))(aD:0<q)(aj:n+q<=1048576)(art:jH m=true)
 (aE:C.a2<=b)(bj:Y C h b=some (.cells c (n*bl) (.grow fv))):
 kG C h j bl (.fl b 0 n bl) x=some (.fs (.fl j 0 (n+q) bl) (bn C (bn C h b (some (.cells c (n*bl) .ki))) j (some (.cells (dN c (n*bl) m) (n*bl+m.length) (.grow (b::fv))))) (j+1)):=by
 simp only[kG,af]
 rw[hK,Zg Zo]
 have c2:¬(0+(n+q)*bl<=n*bl):=by
  have:0<q*bl:=Nat.mul_pos aD cr
  rw[Ye];omega
 have Tw:Nat.ble (0+(n+q)*bl) (n*bl)=false:=by
  cases bL:Nat.ble (0+(n+q)*bl) (n*bl)with
  |false=>rfl
  |true=>exact absurd (jx bL) c2
 simp only[Af,JF,bj,kH,ll aE,ll aj,art,Tw]
 simp[fA,nE]
def anl{bl q b n:Nat}{x:D}{m k:List D}{c:K D}{st:ox}{ah:Nat}(cr:0<bl)(af:lA C h bl x=some (q,m))(aD:0<q)(aj:n+q<=1048576)
 (bj:Y C h b=some (.cells c ah st))(aA:y6 c k)(az:k.length=n*bl):
 kG C h j bl (.slice b 0 n n) x=some (.fs (.fl j 0 (n+q) bl) (bn C h j (some (.cells (K.ofList (k++m) 0 .nil) (k++m).length (.grow [])))) (j+1)):=by
 simp only[kG,af]
 rw[hK,Zg Zo]
 have Tw:Nat.ble (n+q) n=false:=by
  cases bL:Nat.ble (n+q) n with
  |false=>rfl
  |true=>exact absurd (jx bL) Zo
 have KI:ns C h b 0 (n*bl)=some k:=by
  simp only[ns,cellsOf,bj]
  rw[acT aA _ _ Zo]
  simp[<-az]
 simp only[Af,Tw,j3,KI,uA,ll aj,eX,nE,ms,hk]
def gB(C:aL)(h:K ag)(s:D)(bl:Nat)(k:List D)(cJ:List Nat):Prop:=
 kS C h s bl k cJ\/∃b n c st,s= .slice b 0 n n/\k.length=n*bl/\cJ=[b]/\Y C h b=some (.cells c (n*bl) st)/\y6 c k
def gB.ab{s:D}{bl:Nat}{k:List D}{cJ:List Nat}(a:gB C h s bl k cJ)(aD:∀e∈cJ,Y C T e=Y C h e):gB C T s bl k cJ:=by
 rcases a with a|⟨b,n,c,st,I,J,am,aB,bk⟩
 ·exact .inl (a.ab aD)
 ·exact .inr ⟨b,n,c,st,I,J,am,by rw[aD b (by rw[am];exact Zq ..)];exact aB,bk⟩
def gB.append{bl q:Nat}{s x:D}{k m:List D}{cJ:List Nat}(a:gB C h s bl k cJ)(cr:0<bl)(af:lA C h bl x=some (q,m))(bp:m.length=q*bl)(aD:0<q)(I:jH m=true)
 (aj:k.length+m.length<=1048576)(aE:C.a2<=j)(c2:∀e∈cJ,e<j):
 ∃fk T gC,kG C h j bl s x=some (.fs fk T (j+1))/\kS C T fk bl (k++m) gC/\(∀e∈gC,e=j\/e∈cJ)/\∀e,e≠j->e∉cJ->Y C T e=Y C h e:=by
 have aep:q<=q*bl:=YX q cr
 rcases a with (⟨rfl,rfl,rfl⟩|⟨b,fv,n,c,rfl,J,rfl,aB,bk,b6,c5⟩)|⟨b,n,c,st,rfl,J,rfl,aB,bk⟩
 ·refine⟨_,_,[j],anm af aD (by simp at aj;omega), .inr ⟨j,[],q,_,rfl,by simpa using bp,rfl,by simpa using aE,Zs,by rw[bg aE,bp], ?_⟩,Zs,λe z _=>aI aE z⟩
  simpa using n8 m
 ·have kK:n<=n*bl:=YX n cr
  have gn:b<j:=c2 b (Zq ..)
  refine⟨_,_,j::b::fv,ank cr af aD Zo I (aB b (Zq ..)) b6, .inr ⟨j,b::fv,n+q,dN c (n*bl) m,rfl,by rw[ZO,J,bp,Ye],rfl, ?_, ?_, ?_, ?_⟩, ?_,λe z Pp=> ?_⟩
  ·intro e z
   rcases Zr.1 z with rfl|z
   ·exact aE
   ·exact aB e z
  ·intro aA
   have:=c2 j aA
   omega
  ·rw[bg aE,bp,Ye]
  ·rw[<-J];exact c5.app m
  ·intro e z
   rcases Zr.1 z with rfl|z
   ·exact .inl rfl
   ·exact .inr z
  ·simp only[Zr,YS]at Pp
   rw[aI aE z,aI (aB b (Zq ..)) Pp.1]
 ·have kK:n<=n*bl:=YX n cr
  refine⟨_,_,[j],anl cr af aD Zo aB bk J, .inr ⟨j,[],n+q,_,rfl,by rw[ZO,J,bp,Ye],rfl,by simpa using aE,Zs,by rw[bg aE,ZO,J,bp,Ye],n8 _⟩,Zs,λe z _=>aI aE z⟩
def gB.tT{bl:Nat}{s:D}{br:List (List D)}{cJ:List Nat}(a:gB C h s bl br.flatten cJ)(eO:0<bl)(V:∀r∈br,r.length=bl)(bp:br.length<=300000){P:Nat->Prop}(az:∀e∈cJ,P e):∃b,dD C h P b s bl br:=by
 rcases a with a|⟨b,n,c,st,rfl,J,rfl,aB,bk⟩
 ·exact a.tT eO V bp az
 ·have f6:=x1 V
  have aE:n=br.length:=Nat.eq_of_mul_eq_mul_right eO (by rw[<-J,f6])
  subst aE
  refine⟨b,λ_=>az b (Zq ..),bp,V,pT ..,λi aN=>by rw[HZ _ aN,ZS],λi r W v aN bK=> ?_⟩
  rw[co,aB]
  exact(bk _).trans (SB br V i r W v aN bK)
def gB.IK{s:D}{a8:List D}{cJ:List Nat}(a:gB C h s 1 a8 cJ){P:Nat->Prop}(bp:a8.length<=300000)(az:∀e∈cJ,P e):∃b,dD C h P b s 1 (a8.map λv=>[v]):=by
 have cz:gB C h s 1 (a8.map λv=>[v]).flatten cJ:=by rw[acD];exact a
 exact cz.tT Zd Zs (by simpa using bp) az
end
end
end Go.bd

namespace Go.bd
noncomputable section
structure jM(G:Prop):Prop where
 U:G
def bw{A:Prop}(a:A:=by(simp(disch:=omega) only[tY,sC,wW,vt,uh,vu,wS,wR,wK,tK,q1,u0,wy,o1,rv,u1,wD,wE,wF,wG,wH,wA,wB,wC,xf,xj,xk,xl,xm,xn,xo,xp,xq,xg,xh,xi,sH,xd,k4,D.cells,xu,xt,xs,wM,wq,wo,wp,wn,wm,wr,w1,w2,vK,vJ,s4,vD,vE,pT,rx,tI,tJ,e8,qq,qp,lS,Y8,Ya,zh,Yb,Yc,YK,ZV,ZM,ZD,ZT,Z6,ZZ,Z3,ZI,ZF,ZS,ZW,ZC,ZA,reduceIte,Nat.reduceEqDiff,Nat.reduceAdd,Nat.reduceMul,Nat.reduceLT,Nat.reduceBEq,Ys,Yd,Yk,Yj,eX,j3,Yr,Yg,Ym,Nat.reduceLeDiff,Nat.reduceSub,hi])):A:=a
def fW{A:Prop}(a:A:=by(simp(disch:=omega) only[tY,sC,wW,vt,uh,vu,wS,wR,wK,tK,q1,u0,wy,o1,rv,u1,wD,wE,wF,wG,wH,wA,wB,wC,xf,xj,xk,xl,xm,xn,xo,xp,xq,xg,xh,xi,sH,xd,k4,D.cells,xu,xt,xs,wM,wq,wo,wp,wn,wm,wr,w1,w2,vK,vJ,s4,vD,vE,pT,rx,tI,tJ,e8,qq,qp,lS,Y8,Ya,zh,Yb,Yc,YK,ZV,ZM,ZD,ZT,Z6,ZZ,Z3,ZI,ZF,ZS,ZW,ZC,ZA,reduceIte,Nat.reduceEqDiff,Nat.reduceAdd,Nat.reduceMul,Nat.reduceLT,Nat.reduceBEq,Ys,Yd,Yk,Yj,eX,j3,Yr,Yg,Ym,Nat.reduceLeDiff,Nat.reduceSub,hi]);rfl):A:=a
def a7{A bh:Prop}(t:bh)(a:bh->A:=by intro t;(simp(disch:=omega) only[tY,sC,wW,vt,uh,vu,wS,wR,wK,tK,q1,u0,wy,o1,rv,u1,wD,wE,wF,wG,wH,wA,wB,wC,xf,xj,xk,xl,xm,xn,xo,xp,xq,xg,xh,xi,sH,xd,k4,D.cells,xu,xt,xs,wM,wq,wo,wp,wn,wm,wr,w1,w2,vK,vJ,s4,vD,vE,pT,rx,tI,tJ,e8,qq,qp,lS,Y8,Ya,zh,Yb,Yc,YK,ZV,ZM,ZD,ZT,Z6,ZZ,Z3,ZI,ZF,ZS,ZW,ZC,ZA,reduceIte,Nat.reduceEqDiff,Nat.reduceAdd,Nat.reduceMul,Nat.reduceLT,Nat.reduceBEq,Ys,Yd,Yk,Yj,eX,j3,Yr,Yg,Ym,Nat.reduceLeDiff,Nat.reduceSub,hi]);exact t):A:=a t
def acL{ce A:Prop}(f:ce)(a:ce->A:=by intro f;(simp(disch:=omega) only[tY,sC,wW,vt,uh,vu,wS,wR,wK,tK,q1,u0,wy,o1,rv,u1,wD,wE,wF,wG,wH,wA,wB,wC,xf,xj,xk,xl,xm,xn,xo,xp,xq,xg,xh,xi,sH,xd,k4,D.cells,xu,xt,xs,wM,wq,wo,wp,wn,wm,wr,w1,w2,vK,vJ,s4,vD,vE,pT,rx,tI,tJ,e8,qq,qp,lS,Y8,Ya,zh,Yb,Yc,YK,ZV,ZM,ZD,ZT,Z6,ZZ,Z3,ZI,ZF,ZS,ZW,ZC,ZA,reduceIte,Nat.reduceEqDiff,Nat.reduceAdd,Nat.reduceMul,Nat.reduceLT,Nat.reduceBEq,Ys,Yd,Yk,Yj,eX,j3,Yr,Yg,Ym,Nat.reduceLeDiff,Nat.reduceSub,hi,f])):A:=a f
def AB{A bh:Prop}(q:jM bh)(a:jM bh->A:=by intro q;(simp(disch:=omega) only[tY,sC,wW,vt,uh,vu,wS,wR,wK,tK,q1,u0,wy,o1,rv,u1,wD,wE,wF,wG,wH,wA,wB,wC,xf,xj,xk,xl,xm,xn,xo,xp,xq,xg,xh,xi,sH,xd,k4,D.cells,xu,xt,xs,wM,wq,wo,wp,wn,wm,wr,w1,w2,vK,vJ,s4,vD,vE,pT,rx,tI,tJ,e8,qq,qp,lS,Y8,Ya,zh,Yb,Yc,YK,ZV,ZM,ZD,ZT,Z6,ZZ,Z3,ZI,ZF,ZS,ZW,ZC,ZA,reduceIte,Nat.reduceEqDiff,Nat.reduceAdd,Nat.reduceMul,Nat.reduceLT,Nat.reduceBEq,Ys,Yd,Yk,Yj,eX,j3,Yr,Yg,Ym,Nat.reduceLeDiff,Nat.reduceSub,hi]);exact q.U):A:=a q
def cK{A bh:Prop}(q:jM bh)(a:jM bh->A:=by intro q;(repeat(with_reducible first|refine gZ ?_ |refine lQ ?_ |refine lP ?_ |refine pq ?_ |refine Gt ?_ |refine s6 ?_ |refine Ir ?_ |refine Iq ?_ |refine H2 ?_ |refine H4 ?_ |refine H1 ?_ |refine H3 ?_ |refine Ie ?_ |refine D2 ?_ |refine Io ?_ |refine In ?_ |refine uE ?_ |refine uD ?_ |refine uC ?_ |refine uB ?_ |refine G4 ?_ |refine qj ?_ |refine qi ?_ |refine CU ?_ |refine IN ?_ |refine IP ?_ |(refine fw (hF (by(first|assumption|(simp(disch:=omega) only[bg,aI]<;>rfl)|(simp(disch:=omega) only[bg,aI]))) Zo rfl Zd Zd rfl) ?_)|((conv=>whnf;arg 1;simp(disch:=omega) only[tY,sC,wW,vt,uh,vu,wS,wR,wK,tK,q1,u0,wy,o1,rv,u1,wD,wE,wF,wG,wH,wA,wB,wC,xf,xj,xk,xl,xm,xn,xo,xp,xq,xg,xh,xi,sH,xd,k4,D.cells,xu,xt,xs,wM,wq,wo,wp,wn,wm,wr,w1,w2,vK,vJ,s4,vD,vE,pT,rx,tI,tJ,e8,qq,qp,lS,Y8,Ya,zh,Yb,Yc,YK,ZV,ZM,ZD,ZT,Z6,ZZ,Z3,ZI,ZF,ZS,ZW,ZC,ZA,reduceIte,Nat.reduceEqDiff,Nat.reduceAdd,Nat.reduceMul,Nat.reduceLT,Nat.reduceBEq,Ys,Yd,Yk,Yj,eX,j3,Yr,Yg,Ym,Nat.reduceLeDiff,Nat.reduceSub,hi]);(first|refine lQ ?_ |refine lP ?_ |refine qj ?_ |refine qi ?_ |refine uE ?_ |refine uD ?_ |refine uC ?_ |refine uB ?_))|dsimp only));exact q.U):A:=a q
def ci{ce A bh:Prop}(f:ce)(q:jM bh)(a:ce->jM bh->A:=by intro f q;(repeat(with_reducible first|refine gZ ?_ |refine lQ ?_ |refine lP ?_ |refine pq ?_ |refine Gt ?_ |refine s6 ?_ |refine Ir ?_ |refine Iq ?_ |refine H2 ?_ |refine H4 ?_ |refine H1 ?_ |refine H3 ?_ |refine Ie ?_ |refine D2 ?_ |refine Io ?_ |refine In ?_ |refine uE ?_ |refine uD ?_ |refine uC ?_ |refine uB ?_ |refine G4 ?_ |refine qj ?_ |refine qi ?_ |refine CU ?_ |refine IN ?_ |refine IP ?_ |(refine fw (hF (by(first|assumption|(simp(disch:=omega) only[bg,aI,f]<;>rfl)|(simp(disch:=omega) only[bg,aI,f]))) Zo rfl Zd Zd rfl) ?_)|((conv=>whnf;arg 1;simp(disch:=omega) only[tY,sC,wW,vt,uh,vu,wS,wR,wK,tK,q1,u0,wy,o1,rv,u1,wD,wE,wF,wG,wH,wA,wB,wC,xf,xj,xk,xl,xm,xn,xo,xp,xq,xg,xh,xi,sH,xd,k4,D.cells,xu,xt,xs,wM,wq,wo,wp,wn,wm,wr,w1,w2,vK,vJ,s4,vD,vE,pT,rx,tI,tJ,e8,qq,qp,lS,Y8,Ya,zh,Yb,Yc,YK,ZV,ZM,ZD,ZT,Z6,ZZ,Z3,ZI,ZF,ZS,ZW,ZC,ZA,reduceIte,Nat.reduceEqDiff,Nat.reduceAdd,Nat.reduceMul,Nat.reduceLT,Nat.reduceBEq,Ys,Yd,Yk,Yj,eX,j3,Yr,Yg,Ym,Nat.reduceLeDiff,Nat.reduceSub,hi,f]);(first|refine lQ ?_ |refine lP ?_ |refine qj ?_ |refine qi ?_ |refine uE ?_ |refine uD ?_ |refine uC ?_ |refine uB ?_))|dsimp only));exact q.U):A:=a f q
def AC{A bh:Prop}(q:jM bh)(a:jM bh->A:=by intro q;(repeat(with_reducible first|refine lQ ?_ |refine lP ?_ |refine pq ?_ |refine Gt ?_ |refine s6 ?_ |refine Ir ?_ |refine Iq ?_ |refine H2 ?_ |refine H4 ?_ |refine H1 ?_ |refine H3 ?_ |refine Ie ?_ |refine D2 ?_ |refine Io ?_ |refine In ?_ |refine uE ?_ |refine uD ?_ |refine uC ?_ |refine uB ?_ |refine G4 ?_ |refine qj ?_ |refine qi ?_ |refine CU ?_ |refine IN ?_ |refine IP ?_ |(refine fw (hF (by(first|assumption|(simp(disch:=omega) only[bg,aI]<;>rfl)|(simp(disch:=omega) only[bg,aI]))) Zo rfl Zd Zd rfl) ?_)|((conv=>whnf;arg 1;simp(disch:=omega) only[tY,sC,wW,vt,uh,vu,wS,wR,wK,tK,q1,u0,wy,o1,rv,u1,wD,wE,wF,wG,wH,wA,wB,wC,xf,xj,xk,xl,xm,xn,xo,xp,xq,xg,xh,xi,sH,xd,k4,D.cells,xu,xt,xs,wM,wq,wo,wp,wn,wm,wr,w1,w2,vK,vJ,s4,vD,vE,pT,rx,tI,tJ,e8,qq,qp,lS,Y8,Ya,zh,Yb,Yc,YK,ZV,ZM,ZD,ZT,Z6,ZZ,Z3,ZI,ZF,ZS,ZW,ZC,ZA,reduceIte,Nat.reduceEqDiff,Nat.reduceAdd,Nat.reduceMul,Nat.reduceLT,Nat.reduceBEq,Ys,Yd,Yk,Yj,eX,j3,Yr,Yg,Ym,Nat.reduceLeDiff,Nat.reduceSub,hi]);(first|refine lQ ?_ |refine lP ?_ |refine qj ?_ |refine qi ?_ |refine uE ?_ |refine uD ?_ |refine uC ?_ |refine uB ?_))|dsimp only));exact q.U):A:=a q
def r7{ce A bh:Prop}(f:ce)(q:jM bh)(a:ce->jM bh->A:=by intro f q;(repeat(with_reducible first|refine lQ ?_ |refine lP ?_ |refine pq ?_ |refine Gt ?_ |refine s6 ?_ |refine Ir ?_ |refine Iq ?_ |refine H2 ?_ |refine H4 ?_ |refine H1 ?_ |refine H3 ?_ |refine Ie ?_ |refine D2 ?_ |refine Io ?_ |refine In ?_ |refine uE ?_ |refine uD ?_ |refine uC ?_ |refine uB ?_ |refine G4 ?_ |refine qj ?_ |refine qi ?_ |refine CU ?_ |refine IN ?_ |refine IP ?_ |(refine fw (hF (by(first|assumption|(simp(disch:=omega) only[bg,aI,f]<;>rfl)|(simp(disch:=omega) only[bg,aI,f]))) Zo rfl Zd Zd rfl) ?_)|((conv=>whnf;arg 1;simp(disch:=omega) only[tY,sC,wW,vt,uh,vu,wS,wR,wK,tK,q1,u0,wy,o1,rv,u1,wD,wE,wF,wG,wH,wA,wB,wC,xf,xj,xk,xl,xm,xn,xo,xp,xq,xg,xh,xi,sH,xd,k4,D.cells,xu,xt,xs,wM,wq,wo,wp,wn,wm,wr,w1,w2,vK,vJ,s4,vD,vE,pT,rx,tI,tJ,e8,qq,qp,lS,Y8,Ya,zh,Yb,Yc,YK,ZV,ZM,ZD,ZT,Z6,ZZ,Z3,ZI,ZF,ZS,ZW,ZC,ZA,reduceIte,Nat.reduceEqDiff,Nat.reduceAdd,Nat.reduceMul,Nat.reduceLT,Nat.reduceBEq,Ys,Yd,Yk,Yj,eX,j3,Yr,Yg,Ym,Nat.reduceLeDiff,Nat.reduceSub,hi,f]);(first|refine lQ ?_ |refine lP ?_ |refine qj ?_ |refine qi ?_ |refine uE ?_ |refine uD ?_ |refine uC ?_ |refine uB ?_))|dsimp only));exact q.U):A:=a f q
def h8{A bh:Prop}(q:jM bh)(a:jM bh->A:=by intro q;(with_reducible first|refine gZ ?_ |refine lQ ?_ |refine lP ?_ |refine pq ?_ |refine Gt ?_ |refine s6 ?_ |refine Ir ?_ |refine Iq ?_ |refine H2 ?_ |refine H4 ?_ |refine H1 ?_ |refine H3 ?_ |refine Ie ?_ |refine D2 ?_ |refine Io ?_ |refine In ?_ |refine uE ?_ |refine uD ?_ |refine uC ?_ |refine uB ?_ |refine G4 ?_ |refine qj ?_ |refine qi ?_ |refine CU ?_ |refine IN ?_ |refine IP ?_ |(refine fw (hF (by(first|assumption|(simp(disch:=omega) only[bg,aI]<;>rfl)|(simp(disch:=omega) only[bg,aI]))) Zo rfl Zd Zd rfl) ?_)|((conv=>whnf;arg 1;simp(disch:=omega) only[tY,sC,wW,vt,uh,vu,wS,wR,wK,tK,q1,u0,wy,o1,rv,u1,wD,wE,wF,wG,wH,wA,wB,wC,xf,xj,xk,xl,xm,xn,xo,xp,xq,xg,xh,xi,sH,xd,k4,D.cells,xu,xt,xs,wM,wq,wo,wp,wn,wm,wr,w1,w2,vK,vJ,s4,vD,vE,pT,rx,tI,tJ,e8,qq,qp,lS,Y8,Ya,zh,Yb,Yc,YK,ZV,ZM,ZD,ZT,Z6,ZZ,Z3,ZI,ZF,ZS,ZW,ZC,ZA,reduceIte,Nat.reduceEqDiff,Nat.reduceAdd,Nat.reduceMul,Nat.reduceLT,Nat.reduceBEq,Ys,Yd,Yk,Yj,eX,j3,Yr,Yg,Ym,Nat.reduceLeDiff,Nat.reduceSub,hi]);(first|refine lQ ?_ |refine lP ?_ |refine qj ?_ |refine qi ?_ |refine uE ?_ |refine uD ?_ |refine uC ?_ |refine uB ?_))|dsimp only);exact q.U):A:=a q
def uw{ce A bh:Prop}(f:ce)(q:jM bh)(a:ce->jM bh->A:=by intro f q;(with_reducible first|refine gZ ?_ |refine lQ ?_ |refine lP ?_ |refine pq ?_ |refine Gt ?_ |refine s6 ?_ |refine Ir ?_ |refine Iq ?_ |refine H2 ?_ |refine H4 ?_ |refine H1 ?_ |refine H3 ?_ |refine Ie ?_ |refine D2 ?_ |refine Io ?_ |refine In ?_ |refine uE ?_ |refine uD ?_ |refine uC ?_ |refine uB ?_ |refine G4 ?_ |refine qj ?_ |refine qi ?_ |refine CU ?_ |refine IN ?_ |refine IP ?_ |(refine fw (hF (by(first|assumption|(simp(disch:=omega) only[bg,aI,f]<;>rfl)|(simp(disch:=omega) only[bg,aI,f]))) Zo rfl Zd Zd rfl) ?_)|((conv=>whnf;arg 1;simp(disch:=omega) only[tY,sC,wW,vt,uh,vu,wS,wR,wK,tK,q1,u0,wy,o1,rv,u1,wD,wE,wF,wG,wH,wA,wB,wC,xf,xj,xk,xl,xm,xn,xo,xp,xq,xg,xh,xi,sH,xd,k4,D.cells,xu,xt,xs,wM,wq,wo,wp,wn,wm,wr,w1,w2,vK,vJ,s4,vD,vE,pT,rx,tI,tJ,e8,qq,qp,lS,Y8,Ya,zh,Yb,Yc,YK,ZV,ZM,ZD,ZT,Z6,ZZ,Z3,ZI,ZF,ZS,ZW,ZC,ZA,reduceIte,Nat.reduceEqDiff,Nat.reduceAdd,Nat.reduceMul,Nat.reduceLT,Nat.reduceBEq,Ys,Yd,Yk,Yj,eX,j3,Yr,Yg,Ym,Nat.reduceLeDiff,Nat.reduceSub,hi,f]);(first|refine lQ ?_ |refine lP ?_ |refine qj ?_ |refine qi ?_ |refine uE ?_ |refine uD ?_ |refine uC ?_ |refine uB ?_))|dsimp only);exact q.U):A:=a f q
def dM{A:Prop}(a:A:=by exact⟨Zo,λb aj=>zw⟩):A:=a
def cT{A bh lU lj:Prop}(bG:lU)(eM:lj)(q:jM bh)(a:lU->lj->jM bh->A:=by intro bG eM q;refine ci (Za @bG @eM) ⟨?_⟩;exact q.U):A:=a @bG @eM q
def et{A bh lU lj pj:Prop}(bG:lU)(eM:lj)(eV:pj)(q:jM bh)(a:lU->lj->pj->jM bh->A:=by intro bG eM eV q;refine ci (Za @bG (Za @eM @eV)) ⟨?_⟩;exact q.U):A:=a @bG @eM @eV q
def gx{A bh lU lj pj vn:Prop}(bG:lU)(eM:lj)(eV:pj)(iZ:vn)(q:jM bh)(a:lU->lj->pj->vn->jM bh->A:=by intro bG eM eV iZ q;refine ci (Za @bG (Za @eM (Za @eV @iZ))) ⟨?_⟩;exact q.U):A:=a @bG @eM @eV @iZ q
def gg{A bh lU lj pj vn BT:Prop}(bG:lU)(eM:lj)(eV:pj)(iZ:vn)(pv:BT)(q:jM bh)(a:lU->lj->pj->vn->BT->jM bh->A:=by intro bG eM eV iZ pv q;refine ci (Za @bG (Za @eM (Za @eV (Za @iZ @pv)))) ⟨?_⟩;exact q.U):A:=a @bG @eM @eV @iZ @pv q
def iM{A bh lU lj pj vn BT Jm:Prop}(bG:lU)(eM:lj)(eV:pj)(iZ:vn)(pv:BT)(Av:Jm)(q:jM bh)(a:lU->lj->pj->vn->BT->Jm->jM bh->A:=by intro bG eM eV iZ pv Av q;refine ci (Za @bG (Za @eM (Za @eV (Za @iZ (Za @pv @Av))))) ⟨?_⟩;exact q.U):A:=a @bG @eM @eV @iZ @pv @Av q
def eF{A bh lU lj pj vn BT Jm W1:Prop}(bG:lU)(eM:lj)(eV:pj)(iZ:vn)(pv:BT)(Av:Jm)(Ss:W1)(q:jM bh)(a:lU->lj->pj->vn->BT->Jm->W1->jM bh->A:=by intro bG eM eV iZ pv Av Ss q;refine ci (Za @bG (Za @eM (Za @eV (Za @iZ (Za @pv (Za @Av @Ss)))))) ⟨?_⟩;exact q.U):A:=a @bG @eM @eV @iZ @pv @Av @Ss q
def NW{A bh lU lj:Prop}(bG:lU)(eM:lj)(q:jM bh)(a:lU->lj->jM bh->A:=by intro bG eM q;refine r7 (Za @bG @eM) ⟨?_⟩;exact q.U):A:=a @bG @eM q
def he{A bh lU lj pj:Prop}(bG:lU)(eM:lj)(eV:pj)(q:jM bh)(a:lU->lj->pj->jM bh->A:=by intro bG eM eV q;refine r7 (Za @bG (Za @eM @eV)) ⟨?_⟩;exact q.U):A:=a @bG @eM @eV q
def aY.Zm{C:aL}{f:Nat}{Ah:List D}{h:K ag}{j:Nat}{ak BJ av:bI}(a:aY C f Ah h j ak (λ_ _ _=>False))(q:∀ac T aU,ak ac T aU->BJ ac T aU):aY C f Ah h j BJ av:=a.mono q (λ_ _ _ a=>a.elim)
end
end Go.bd

namespace Go.bd
noncomputable section
open Go.RowKit (Below)
def P6(jR:List Nat)(U:Nat->List D->Option D)(k:List (Nat×List D×D))(f:Nat)(args:List D):Option D:=bY (o5 f jR) (rC U k f args) (U f args)
section
variable{P:Program}{w:World}
def Env.awv{nm:List (String×Nat)}(iR:BW P nm){laid:List (String×DataW Unit)}{jR:List Nat}{U:Nat->List D->Option D}{k:List (Nat×List D×D)}(a:laidMet P laid w){dP:c9}{d4:Nat->Prop}
 (cI:Env ⟨P,nK (g7 P nm laid P.globals.size).2 .nil,(g7 P nm laid P.globals.size).1,U,P.globals.size⟩ w dP d4)(a6:Mp k=true)
 (j7:∀x∈k,∃m,tX ⟨P,nK (g7 P nm laid P.globals.size).2 .nil,(g7 P nm laid P.globals.size).1,U,P.globals.size⟩ m x.1 x.2.1=some x.2.2):
 ∃S ad,Env ⟨P,nK (g7 P nm laid P.globals.size).2 .nil,(g7 P nm laid P.globals.size).1,P6 jR U k,P.globals.size⟩ w S ad:=by
 obtain⟨S,ad,am,aB⟩:=Vc (hh:=P6 jR U k) iR a
 have e4:=agL cI a6 j7
 refine⟨S,ad,cI.kx,⟨λf args v bj=> ?_,λf args v bj S mM ny=> ?_⟩,am,aB⟩
 ·have bj:bY (o5 f jR) (rC U k f args) (U f args)=some v:=bj
  rw[fA]at bj
  split at bj
  ·exact e4.val f args v bj
  ·exact cI.hh.val f args v bj
 ·have bj:bY (o5 f jR) (rC U k f args) (U f args)=some v:=bj
  rw[fA]at bj
  split at bj
  ·exact e4.ok f args v bj S mM ny
  ·exact cI.hh.ok f args v bj S mM ny
end
end
end Go.bd

