/- A part of the proof of the claim's last text: what it is used for is said there; no condition of its own. -/
import Derived.Test.YtpfajohmofnkfaaGreatDoorYf
set_option maxHeartbeats 8000000
set_option linter.all false
namespace Go.bg
noncomputable section
section
variable{C:aW}{h:S ak}{j:Nat}
def bh{b:Nat}{W:Option ak}(a:C.a7<=b):aa C (bm C h b W) b=W:=by rw[fT _ a,Zq rfl]
def aE{b x:Nat}{W:Option ak}(a:C.a7<=b)(ag:x≠b):aa C (bm C h b W) x=aa C h x:=by rw[fT _ a,Zh ag]
def cA(b W:Nat):am C h (.ptr b W)=match aa C h b with|some (.cells c _ _)=>c.get W|_=>none:=by
 simp only[am,cellsOf]
 cases aa C h b with
 |none=>rfl
 |some cR=>cases cR<;>rfl
def so(n b W:Nat):b6 C h n (.ptr b W)=match aa C h b with|some (.cells c _ _)=>(c.ku W n).map H.agg|_=>none:=by
 simp only[b6,cellsOf]
 cases aa C h b with
 |none=>rfl
 |some cR=>
  cases cR with
  |cells c m st=>simp only[];cases c.ku W n<;>rfl
  |_=>rfl
def Xw(c:S H)(W:Nat):c.ku W 0=some []:=rfl
def kg:∀(l:List H) (c:S H) (W i:Nat),(dT c W l).get i=if W<=i/\i<W+l.length then l[i-W]? else c.get i:=by
 intro l
 induction l with
 |nil=>intro c W i;simp[dT];intro R U;omega
 |cons J l al=>
  intro c W i
  simp only[dT,he]
  rw[al,S.j1]
  by_cases R:i=W
  ·subst R
   simp
   intro a;omega
  ·by_cases U:W+1<=i/\i<W+1+l.length
   ·rw[Zq U,Zq (by simp;omega)]
    rw[show i-W=(i-(W+1))+1 by omega]
    simp
   ·rw[Zh U,Zh (λF=>R F.symm),Zh (by simp;omega)]
def tu{b W n:Nat}{c:S H}{st:nE}(a:C.a7<=b):am C (bm C h b (some (.cells c n st))) (.ptr b W)=c.get W:=by
 rw[cA,bh a]
def u5{b x W:Nat}{cR:Option ak}(a:C.a7<=b)(ag:x≠b):am C (bm C h b cR) (.ptr x W)=am C h (.ptr x W):=by
 rw[cA,cA,aE a ag]
def oU(C:aW)(h:S ak)(b:Nat):Nat->Nat->Option (List H)
 |_,0=>some []
 |W,n+1=>(am C h (.ptr b W)).bind λJ=>(oU C h b (W+1) n).bind λl=>some (J::l)
def u6{b W n:Nat}:b6 C h (n+1) (.ptr b W)=(oU C h b W (n+1)).bind λl=>some (.agg l):=by
 have a:∀(c:S H) (m:Nat) (st:nE),aa C h b=some (.cells c m st)->∀n W,oU C h b W n=c.ku W n:=by
  intro c m st ai n
  induction n with
  |zero=>intro W;rfl
  |succ n al=>
   intro W
   simp only[oU,S.ku,cA,ai,al]
   cases c.get W with
   |none=>rfl
   |some J=>cases c.ku (W+1) n<;>rfl
 rw[so]
 cases ai:aa C h b with
 |none=>simp[oU,cA,ai]
 |some cR=>
  cases cR with
  |cells c m st=>
   simp only[a c m st ai]
   cases c.ku W (n+1)<;>rfl
  |_=>simp[oU,cA,ai]
structure bj(C:aW)(h:S ak)(j:Nat)(T:S ak)(ao:Nat):Prop where
 le:j<=ao
 ac:∀b,b<j->aa C T b=aa C h b
def bj.refl(h:S ak)(j:Nat):bj C h j h j:=⟨Zi _,λ_ _=>rfl⟩
def bj.trans{aX aJ aY:S ak}{aL a6 ba:Nat}(a:bj C aX aL aJ a6)(D:bj C aJ a6 aY ba):bj C aX aL aY ba:=
 ⟨ZA a.le D.le,λb ai=>(D.ac b (ZK ai a.le)).trans (a.ac b ai)⟩
def bj.fU{T:S ak}{ao:Nat}(a:bj C h j T ao)(b W:Nat)(ai:b<j):am C T (.ptr b W)=am C h (.ptr b W):=by
 rw[cA,cA,a.ac b ai]
def bj.fresh(a:C.a7<=j)(cR:Option ak):bj C h j (bm C h j cR) (j+1):=
 ⟨Ya _,λb ai=>aE a Zo⟩
def bj.more{T:S ak}{ao n:Nat}(D:bj C h j T ao)(a:ao<=n):bj C h j T n:=⟨ZA D.le a,D.ac⟩
def bj.kB{T:S ak}{ao cX:Nat}(D:bj C h j T ao)(a:cX<=j):bj C h cX T ao:=⟨ZA a D.le,λb ai=>D.ac b (ZK ai a)⟩
def rt{b W n:Nat}{c:S H}{v:H}(a:aa C h b=some (.cells c n .own))(ai:C.a7<=b)(bf:W+1<=n)(bA:v.cells=[v])(R:pH v=true):
 b7 C h 1 (.ptr b W) v=some (bm C h b (some (.cells (c.set W (some v)) n .own))):=by
 have bB:Nat.ble (W+1) n=true:=by simpa using bf
 have cF:Nat.ble C.a7 b=true:=by simpa using ai
 simp[b7,bA,wi,a,kt,jD,R,bB,cF,dT,fo,Nat.blt]
def Cr:List H->List (Nat×Nat×H)->Option (List H)
 |cells,[]=>some cells
 |cells,(off,size,v)::rest=>bR (Nat.beq v.cells.length size&&Nat.ble (off+size) cells.length) (Cr (lW cells off v.cells) rest) none
def eA(rB:List H)(dl:List (Nat×Nat×H)):Option H:=match Cr rB dl with|some cs=>some (.agg cs)|none=>none
def dA(rB:List H)(b:Nat):Option (H×ak):=some (.ptr b 0, .cells (S.ofList rB 0 .nil) rB.length .own)
def ft(len:Nat)(rB:List H)(dl:List (Nat×Nat×H))(b:Nat):Option (H×ak):=match Cr rB dl with
 |some cs=>some (.slice b 0 len len, .cells (S.ofList cs 0 .nil) cs.length .own)
 |none=>none
def qV(agg:Bool)(off size:Nat)(v:H):Option H:=match v with| .agg cs=>bR agg (some (.agg ((cs.drop off).take size))) (n9 cs off)|_=>none
def d8(v:H):Option H:=match v with| .slice _ _ n _=>pB .i64 (Int.ofNat n)| .fu _ _ n _=>pB .i64 (Int.ofNat n)| .aT=>some (.int .i64 0)|_=>none
def lR(v:H):Option H:=match v with| .str s=>pB .i64 (Int.ofNat s.length)|_=>none
def mn(D:IntKind)(v:H):Option H:=match (match v with| .int _ n=>k1 D n|_=>none)with|some v=>some v|none=>none
def akg(v:H):Option H:=match (match v with| .str s=>some (H.str s)|_=>none)with|some v=>some v|none=>none
def As(C:aW)(h:S ak)(v:H):Option H:=match (match v with| .str s=>some (H.str s)|_=>none)with|some v=>some v|none=>Es C h v
def Ex(t:Nat)(br:H)(ok:Bool)(v:H):Option H:=match v with
 | .nilIface=>bR ok (some (.tuple [br, .bool false])) none
 | .iface hb w=>bR (Nat.beq hb t) (some (bR ok (.tuple [w, .bool true]) w)) (bR ok (some (.tuple [br, .bool false])) none)
 |_=>none
def ma(C:aW)(h:S ak)(jC:Nat)(br m D:H)(ok:Bool):Option H:=
 match (match m with
  | .lT=>bR (mR C 20 jC D) (some none) none
  | .map r=>(match aa C h r with|some (.map bF _)=>bR (mR C 20 jC D) (findKey C h jC D bF 0) none|some (.look bF)=>bR (mR C 20 jC D) (F8 (oZ C h jC D bF)) none|_=>none)
  |_=>none)with
  |none=>none
  |some none=>some (bR ok (.tuple [br, .bool false]) br)
  |some (some (_,v))=>some (bR ok (.tuple [v, .bool true]) v)
def iQ(C:aW)(h:S ak)(j bl:Nat)(s x:H):Option ea:=match k8 C h bl x with
 |some (n,l)=>bR (Nat.beq n 0) (Ev C h bl s) (xI C h j bl n l s)
 |none=>none
def vj(C:aW)(h:S ak)(j jC:Nat)(m D v:H):Option ea:=match m with
 | .map r=>(match aa C h r with
   |some (.map bF e6)=>bR (mR C 20 jC D) (match findKey C h jC D bF 0 with
    |some (some (i,_))=>(match n9 bF i with
     |some (e1,_,born)=>bR (nu 20 e1 D) (setObj C h j r (.map (bF.set i (D,v,born)) e6) undef) none
     |none=>none)
    |some none=>setObj C h j r (.map (bF++[(D,v,e6)]) (e6+1)) undef
    |none=>none) none
   |_=>none)
 |_=>none
def tt(agg:Bool)(n bl:Nat)(v i:H):Option H:=match m1 i with
 |none=>none
 |some i=>match v with
  | .agg cs=>bR (Nat.blt i n) (bR agg (some (.agg ((cs.drop (i*bl)).take bl))) (n9 cs (i*bl))) none
  |_=>none
def lo(v i:H):Option H:=match m1 i with
 |none=>none
 |some i=>match v with
  | .str s=>(match n9 s i with|some c=>some (.int .u8 (Int.ofNat c))|none=>none)
  |_=>none
def kd(v:H)(bT aM:Option H):Option H:=match v with
 | .str s=>(match lY s.length s.length bT aM none with
    |some (l,a,_)=>some (.str ((s.drop l).take (a-l)))
    |none=>none)
 |_=>none
def sG(C:aW)(h:S ak)(bl:Nat)(x:H)(bT aM gN:Option H):Option H:=match x with
 | .slice b W len cap=>(match lY len cap bT aM gN with
   |some (l,a,m)=>some (.slice b (bR (Nat.beq m l) W (W+l*bl)) (a-l) (m-l))
   |_=>none)
 | .aT=>(match lY 0 0 bT aM gN with
   |some _=>some .aT
   |_=>none)
 | .fu b W len DZ=>(match xm C h b with
   |some n=>bR (Nat.beq DZ bl&&Nat.blt 0 DZ) (match lY len ((n-W)/DZ) bT aM gN with
     |some (l,a,m)=>(match gN with
      |some _=>some (.slice b (bR (Nat.beq m l) W (W+l*DZ)) (a-l) (m-l))
      |none=>bR (Nat.blt l ((n-W)/DZ)||Nat.beq l 0) (some (.fu b (W+l*DZ) (a-l) DZ)) none)
     |none=>none) none
   |_=>none)
 |_=>none
def SP(n bl:Nat)(x:H)(bT aM gN:Option H):Option H:=match x with
 | .ptr b W=>(match lY n n bT aM gN with
   |some (l,a,m)=>some (.slice b (bR (Nat.beq m l) W (W+l*bl)) (a-l) (m-l))
   |_=>none)
 |_=>none
def SD(C:aW)(h:S ak)(j:Nat)(v:H):Option ea:=match v with
 | .str s=>m2 C h j (.od s 0) λb=> .ptr b 0
 |_=>none
def NI(C:aW)(h:S ak)(j:Nat)(v:H):Option ea:=match v with
 | .str l=>s7 C h j l.length 1 (l.map λn=>H.int .u8 (Int.ofNat n))
 |_=>none
def lr{α:Type}{J:α}{ah:α->Prop}(a:ah J):B (some J) ah:=⟨a⟩
def lq{α:Type}{J:α}{ah:α->Prop}(a:ah J):aj (some J) ah:=a
def rR{J:H}{ah:bG}(a:ah (.ptr j 0) (bm C h j (some (.cells (S.ofList J.cells 0 .nil) J.cells.length .own))) (j+1)):ia C h j J ah:=⟨a⟩
def Gg{v:H}{cR:ak}{ah:bG}(a:ah v (bm C h j (some cR)) (j+1)):cO C h j v cR ah:=⟨a⟩
def Gh{v:H}{cR:ak}{ah:bG}(a:ah v (bm C h j (some cR)) (j+1)):cO C h j (Prod.mk v cR).1 (Prod.mk v cR).2 ah:=⟨a⟩
def Ge{b:Nat}{v:H}{cR:ak}{ah:H->S ak->Prop}(a:ah v (bm C h b (some cR))):k4 C h b (Prod.mk v cR).1 (Prod.mk v cR).2 ah:=⟨a⟩
def EG{b:Nat}{J:H}{ah:H->S ak->Prop}(a:ah (.ptr b 0) (bm C h b (some (.cells (S.ofList J.cells 0 .nil) J.cells.length .own)))):xL C h b J ah:=⟨a⟩
def Gd{b:Nat}{v:H}{cR:ak}{ah:H->S ak->Prop}(a:ah v (bm C h b (some cR))):k4 C h b v cR ah:=⟨a⟩
def gM{dX:gn}{body:gn->Prop}(a:body dX):aQ dX body:=⟨a⟩
def FZ{dX:bG}{body:bG->Prop}(a:body dX):oS dX body:=⟨a⟩
def FW{dX:H->Prop}{body:(H->Prop)->Prop}(a:body dX):cW dX body:=⟨a⟩
def FX{dX:H->S ak->Prop}{body:(H->S ak->Prop)->Prop}(a:body dX):uY dX body:=⟨a⟩
def FY{dX:Prop}{body:Prop->Prop}(a:body dX):RD dX body:=⟨a⟩
def F4{n:Nat}{ah:Nat->Prop}(a:ah n):eZ n ah:=⟨a⟩
def GB{v:H}{T:S ak}{ao:Nat}{ah:bG}(a:ah v T ao):gO (some (.fv v T ao)) h j ah:=⟨a⟩
def GC{v:H}{ah:bG}(a:ah v h j):gO (some (.val v)) h j ah:=⟨a⟩
def po{J b:Prop}(a:J):aV (.bool true) J b:=⟨⟨λ_=>a,λF=>(by cases F)⟩⟩
def pn{J b:Prop}(a:b):aV (.bool false) J b:=⟨⟨λF=>(by cases F),λ_=>a⟩⟩
def tb{J b:Prop}(a:J):ix true (.bool true) J b:=⟨⟨λ_=>a,λF=>(by cases F)⟩⟩
def ta{J b:Prop}(a:b):ix true (.bool false) J b:=⟨⟨λF=>(by cases F),λ_=>a⟩⟩
def s9{J b:Prop}(a:b):ix false (.bool true) J b:=⟨⟨λF=>(by cases F),λ_=>a⟩⟩
def s8{J b:Prop}(a:J):ix false (.bool false) J b:=⟨⟨λ_=>a,λF=>(by cases F)⟩⟩
def Bd{f:Nat}{J cp b:List H}{ah aw:bG}(a:aR C f ((J++cp)++b) h j ah aw):ih C (.func (.func f) J b) cp h j ah aw:=⟨a⟩
def gQ{x e:H}{ah:Prop}(a:H.same 30 x e=true)(D:ah):gI x (some e) ah:=⟨⟨a,D⟩⟩
@[congr] def ayI{α:Type}{W o':Option α}{ah:α->Prop}(a:W=o'):B W ah=B o' ah:=by rw[a]
@[congr] def awQ{v hI:H}{J b:Prop}(a:v=hI):aV v J b=aV hI J b:=by rw[a]
@[congr] def aw5{w:Bool}{v hI:H}{J b:Prop}(a:v=hI):ix w v J b=ix w hI J b:=by rw[a]
@[congr] def awX{f:Nat}{cp VT:List H}{ah aw:bG}(a:cp=VT):aR C f cp h j ah aw=aR C f VT h j ah aw:=by rw[a]
def aR.mono{f:Nat}{cp:List H}{ah aw y9 ez:bG}(a:aR C f cp h j ah aw)(iK:∀ad T ao,ah ad T ao->y9 ad T ao)(cx:∀ad T ao,aw ad T ao->ez ad T ao):aR C f cp h j y9 ez:=by
 rcases a.out with ⟨ad,R,U⟩|⟨R,U,ar⟩
 ·exact⟨.inl ⟨ad,R,iK _ _ _ U⟩⟩
 ·exact⟨.inr ⟨R,U,ar.mono iK cx⟩⟩
def Lg{f dV:Nat}(a:cS C f dV=true):∃fn c,C.P.funcs[f]? =some fn/\fn.body=some c:=by
 unfold cS at a
 split at a
 ·rename_i fn ce
  split at a
  ·rename_i c az;exact⟨fn,c,ce,az⟩
  ·cases a
 ·cases a
def c4{f:Nat}{cp:List H}{ah aw:bG}(az:cS C f cp.length=true)(bf:C.g6 f cp=none)(a:db C f cp h j ah aw):aR C f cp h j ah aw:=
 ⟨.inr ⟨bf,Lg az,alG az a⟩⟩
def Cd{f:Nat}{cp:List H}{ah aw:bG}{ad:H}(bf:C.g6 f cp=some ad)(a:ah ad h j):aR C f cp h j ah aw:=⟨.inl ⟨ad,bf,a⟩⟩
def sF(K:dL)(d n:Nat)(v:H):(ab K d v).g n=if d=n then some v else K.g n:=by show bR (Nat.beq d n) (some v) (K.g n)=_;rw[hB]
def rr(K:dL)(d:Nat)(v:H):(ab K d v).bb=K.bb:=rfl
def vw(K:dL)(d:Nat)(v:H):(ab K d v).rc=K.rc:=rfl
def tY(l:List H)(n:Nat):(cP l).g n=l[n]? :=by simp[cP]
def sP(l:List H):(cP l).bb=[]:=rfl
def tZ(l:List H):(cP l).rc=false:=rfl
def pY(l:List Nat)(K:dL)(n:Nat):(hC l K).g n=bR (n8 n l) none (K.g n):=rfl
def vr(K:dL)(d:hy)(n:Nat):(yT K d).g n=K.g n:=rfl
def vq(K:dL)(d:hy):(yT K d).bb=d::K.bb:=rfl
def vi(K:dL)(d n:Nat):(vh K d).g n=K.g n:=rfl
def sr(K:dL)(d:Nat):(vh K d).bb=⟨.collected d,[]⟩::K.bb:=rfl
def Hs{f:Nat}{cp:List H}{ah aw:bG}(az:cS C f cp.length=true)(bf:C.g6 f cp=none)(a:AC C f cp h j ah aw):aR C f cp h j ah aw:=
 ⟨.inr ⟨bf,Lg az,alH az a⟩⟩
def Wg{f:Nat}{cp:List H}{ah aw:bG}(bf:C.g6 f cp=none)(a:aR C f cp h j ah aw):tP C f cp h j ah aw:=by
 rcases a.out with ⟨ad,R,U⟩|⟨R,U,ar⟩
 ·rw[bf]at R;cases R
 ·exact ar
def EF{p:Prop}[Decidable p]{J b:Prop}(R:p->J)(U:¬p->b):aV (.bool (decide p)) J b:=⟨λF=>R (by simpa using F),λF=>U (by simpa using F)⟩
def nv(b W:Nat):b6 C h 2 (.ptr b W)=(am C h (.ptr b W)).bind λkL=>(am C h (.ptr b (W+1))).bind λim=>some (.agg [kL,im]):=by
 rw[u6]
 simp only[oU,ZN,Nat.reduceAdd,Ym,ZF]
def qn(b W:Nat):b6 C h 3 (.ptr b W)=(am C h (.ptr b W)).bind λkL=>(am C h (.ptr b (W+1))).bind λim=>(am C h (.ptr b (W+2))).bind λhk=>some (.agg [kL,im,hk]):=by
 rw[u6]
 simp only[oU,ZN,Nat.reduceAdd,Ym,ZF]
def tv(b W:Nat):b6 C h 4 (.ptr b W)=(am C h (.ptr b W)).bind λkL=>(am C h (.ptr b (W+1))).bind λim=>(am C h (.ptr b (W+2))).bind λhk=>(am C h (.ptr b (W+3))).bind λjr=>some (.agg [kL,im,hk,jr]):=by
 rw[u6]
 simp only[oU,ZN,Nat.reduceAdd,Ym,ZF]
def vb(b W:Nat):b6 C h 5 (.ptr b W)=(am C h (.ptr b W)).bind λkL=>(am C h (.ptr b (W+1))).bind λim=>(am C h (.ptr b (W+2))).bind λhk=>(am C h (.ptr b (W+3))).bind λjr=>(am C h (.ptr b (W+4))).bind λkh=>some (.agg [kL,im,hk,jr,kh]):=by
 rw[u6]
 simp only[oU,ZN,Nat.reduceAdd,Ym,ZF]
def vc(b W:Nat):b6 C h 6 (.ptr b W)=(am C h (.ptr b W)).bind λkL=>(am C h (.ptr b (W+1))).bind λim=>(am C h (.ptr b (W+2))).bind λhk=>(am C h (.ptr b (W+3))).bind λjr=>(am C h (.ptr b (W+4))).bind λkh=>(am C h (.ptr b (W+5))).bind λpQ=>some (.agg [kL,im,hk,jr,kh,pQ]):=by
 rw[u6]
 simp only[oU,ZN,Nat.reduceAdd,Ym,ZF]
def vd(b W:Nat):b6 C h 7 (.ptr b W)=(am C h (.ptr b W)).bind λkL=>(am C h (.ptr b (W+1))).bind λim=>(am C h (.ptr b (W+2))).bind λhk=>(am C h (.ptr b (W+3))).bind λjr=>(am C h (.ptr b (W+4))).bind λkh=>(am C h (.ptr b (W+5))).bind λpQ=>(am C h (.ptr b (W+6))).bind λqE=>some (.agg [kL,im,hk,jr,kh,pQ,qE]):=by
 rw[u6]
 simp only[oU,ZN,Nat.reduceAdd,Ym,ZF]
def ve(b W:Nat):b6 C h 8 (.ptr b W)=(am C h (.ptr b W)).bind λkL=>(am C h (.ptr b (W+1))).bind λim=>(am C h (.ptr b (W+2))).bind λhk=>(am C h (.ptr b (W+3))).bind λjr=>(am C h (.ptr b (W+4))).bind λkh=>(am C h (.ptr b (W+5))).bind λpQ=>(am C h (.ptr b (W+6))).bind λqE=>(am C h (.ptr b (W+7))).bind λvY=>some (.agg [kL,im,hk,jr,kh,pQ,qE,vY]):=by
 rw[u6]
 simp only[oU,ZN,Nat.reduceAdd,Ym,ZF]
def vf(b W:Nat):b6 C h 9 (.ptr b W)=(am C h (.ptr b W)).bind λkL=>(am C h (.ptr b (W+1))).bind λim=>(am C h (.ptr b (W+2))).bind λhk=>(am C h (.ptr b (W+3))).bind λjr=>(am C h (.ptr b (W+4))).bind λkh=>(am C h (.ptr b (W+5))).bind λpQ=>(am C h (.ptr b (W+6))).bind λqE=>(am C h (.ptr b (W+7))).bind λvY=>(am C h (.ptr b (W+8))).bind λy7=>some (.agg [kL,im,hk,jr,kh,pQ,qE,vY,y7]):=by
 rw[u6]
 simp only[oU,ZN,Nat.reduceAdd,Ym,ZF]
def u7(b W:Nat):b6 C h 10 (.ptr b W)=(am C h (.ptr b W)).bind λkL=>(am C h (.ptr b (W+1))).bind λim=>(am C h (.ptr b (W+2))).bind λhk=>(am C h (.ptr b (W+3))).bind λjr=>(am C h (.ptr b (W+4))).bind λkh=>(am C h (.ptr b (W+5))).bind λpQ=>(am C h (.ptr b (W+6))).bind λqE=>(am C h (.ptr b (W+7))).bind λvY=>(am C h (.ptr b (W+8))).bind λy7=>(am C h (.ptr b (W+9))).bind λtN=>some (.agg [kL,im,hk,jr,kh,pQ,qE,vY,y7,tN]):=by
 rw[u6]
 simp only[oU,ZN,Nat.reduceAdd,Ym,ZF]
def u9(b W:Nat):b6 C h 11 (.ptr b W)=(am C h (.ptr b W)).bind λkL=>(am C h (.ptr b (W+1))).bind λim=>(am C h (.ptr b (W+2))).bind λhk=>(am C h (.ptr b (W+3))).bind λjr=>(am C h (.ptr b (W+4))).bind λkh=>(am C h (.ptr b (W+5))).bind λpQ=>(am C h (.ptr b (W+6))).bind λqE=>(am C h (.ptr b (W+7))).bind λvY=>(am C h (.ptr b (W+8))).bind λy7=>(am C h (.ptr b (W+9))).bind λtN=>(am C h (.ptr b (W+10))).bind λN4=>some (.agg [kL,im,hk,jr,kh,pQ,qE,vY,y7,tN,N4]):=by
 rw[u6]
 simp only[oU,ZN,Nat.reduceAdd,Ym,ZF]
def va(b W:Nat):b6 C h 12 (.ptr b W)=(am C h (.ptr b W)).bind λkL=>(am C h (.ptr b (W+1))).bind λim=>(am C h (.ptr b (W+2))).bind λhk=>(am C h (.ptr b (W+3))).bind λjr=>(am C h (.ptr b (W+4))).bind λkh=>(am C h (.ptr b (W+5))).bind λpQ=>(am C h (.ptr b (W+6))).bind λqE=>(am C h (.ptr b (W+7))).bind λvY=>(am C h (.ptr b (W+8))).bind λy7=>(am C h (.ptr b (W+9))).bind λtN=>(am C h (.ptr b (W+10))).bind λN4=>(am C h (.ptr b (W+11))).bind λaww=>some (.agg [kL,im,hk,jr,kh,pQ,qE,vY,y7,tN,N4,aww]):=by
 rw[u6]
 simp only[oU,ZN,Nat.reduceAdd,Ym,ZF]
def vM(z0 a0:H):dT (S.ofList [z0] 0 .nil) 0 [a0]=S.ofList [a0] 0 .nil:=by rfl
def vQ(z0 fW a0 bd:H):dT (S.ofList [z0,fW] 0 .nil) 0 [a0,bd]=S.ofList [a0,bd] 0 .nil:=by rfl
def vR(z0 fW fw a0 bd cg:H):dT (S.ofList [z0,fW,fw] 0 .nil) 0 [a0,bd,cg]=S.ofList [a0,bd,cg] 0 .nil:=by rfl
def vS(z0 fW fw z3 a0 bd cg a3:H):dT (S.ofList [z0,fW,fw,z3] 0 .nil) 0 [a0,bd,cg,a3]=S.ofList [a0,bd,cg,a3] 0 .nil:=by rfl
def vT(z0 fW fw z3 z4 a0 bd cg a3 a4:H):dT (S.ofList [z0,fW,fw,z3,z4] 0 .nil) 0 [a0,bd,cg,a3,a4]=S.ofList [a0,bd,cg,a3,a4] 0 .nil:=by rfl
def vU(z0 fW fw z3 z4 z5 a0 bd cg a3 a4 a5:H):dT (S.ofList [z0,fW,fw,z3,z4,z5] 0 .nil) 0 [a0,bd,cg,a3,a4,a5]=S.ofList [a0,bd,cg,a3,a4,a5] 0 .nil:=by rfl
def vV(z0 fW fw z3 z4 z5 rA a0 bd cg a3 a4 a5 hz:H):dT (S.ofList [z0,fW,fw,z3,z4,z5,rA] 0 .nil) 0 [a0,bd,cg,a3,a4,a5,hz]=S.ofList [a0,bd,cg,a3,a4,a5,hz] 0 .nil:=by rfl
def vW(z0 fW fw z3 z4 z5 rA y8 a0 bd cg a3 a4 a5 hz h0:H):dT (S.ofList [z0,fW,fw,z3,z4,z5,rA,y8] 0 .nil) 0 [a0,bd,cg,a3,a4,a5,hz,h0]=S.ofList [a0,bd,cg,a3,a4,a5,hz,h0] 0 .nil:=by rfl
def vX(z0 fW fw z3 z4 z5 rA y8 pf a0 bd cg a3 a4 a5 hz h0 hA:H):dT (S.ofList [z0,fW,fw,z3,z4,z5,rA,y8,pf] 0 .nil) 0 [a0,bd,cg,a3,a4,a5,hz,h0,hA]=S.ofList [a0,bd,cg,a3,a4,a5,hz,h0,hA] 0 .nil:=by rfl
def vN(z0 fW fw z3 z4 z5 rA y8 pf z9 a0 bd cg a3 a4 a5 hz h0 hA a9:H):dT (S.ofList [z0,fW,fw,z3,z4,z5,rA,y8,pf,z9] 0 .nil) 0 [a0,bd,cg,a3,a4,a5,hz,h0,hA,a9]=S.ofList [a0,bd,cg,a3,a4,a5,hz,h0,hA,a9] 0 .nil:=by rfl
def vO(z0 fW fw z3 z4 z5 rA y8 pf z9 Tk a0 bd cg a3 a4 a5 hz h0 hA a9 Hf:H):dT (S.ofList [z0,fW,fw,z3,z4,z5,rA,y8,pf,z9,Tk] 0 .nil) 0 [a0,bd,cg,a3,a4,a5,hz,h0,hA,a9,Hf]=S.ofList [a0,bd,cg,a3,a4,a5,hz,h0,hA,a9,Hf] 0 .nil:=by rfl
def vP(z0 fW fw z3 z4 z5 rA y8 pf z9 Tk awD a0 bd cg a3 a4 a5 hz h0 hA a9 Hf Vz:H):dT (S.ofList [z0,fW,fw,z3,z4,z5,rA,y8,pf,z9,Tk,awD] 0 .nil) 0 [a0,bd,cg,a3,a4,a5,hz,h0,hA,a9,Hf,Vz]=S.ofList [a0,bd,cg,a3,a4,a5,hz,h0,hA,a9,Hf,Vz] 0 .nil:=by rfl
def rz(c:S H)(W:Nat)(v:H):(dT c W [v]).get W=some v:=by rw[kg];simp
def vK{c:S H}{W i:Nat}{v:H}(a:i≠W):(dT c W [v]).get i=c.get i:=by rw[kg,Zh (by simp;omega)]
def hO{b W D n:Nat}{c:S H}{v:H}(a:aa C h b=some (.cells c n .own))(ai:C.a7<=b)(aF:v.cells.length=D)(cj:0<D)(bf:W+D<=n)(R:jD v.cells=true):
 b7 C h D (.ptr b W) v=some (bm C h b (some (.cells (dT c W v.cells) n .own))):=by
 subst aF
 have cF:Nat.blt 0 v.cells.length=true:=by simp[Nat.blt];omega
 have fp:Nat.beq v.cells.length v.cells.length=true:=by simp
 have bB:Nat.ble (W+v.cells.length) n=true:=by simpa using bf
 have jM:Nat.ble C.a7 b=true:=by simpa using ai
 simp only[b7,wi,a,kt,jM,bB,cF,fp,R,Yc,e2,he]
def rk(D:IntKind)(n:Nat):m1 (.int D (n:Int))=some n:=rfl
def asp(D:IntKind):m1 (.int D 0)=some 0:=rfl
def uV(D:IntKind)(x e:Int):aA .lss (.int D x) (.int D e)=some (.bool (decide (x<e))):=by
 cases D<;>simp[aA,lP,l8,ly,wn,sj]<;>(rw[Yf];simp)
def uT(D:IntKind)(x e:Int):aA .gtr (.int D x) (.int D e)=some (.bool (decide (e<x))):=by
 cases D<;>simp[aA,lP,l8,ly,wn,sj]<;>(rw[Yf];simp)
def uU(D:IntKind)(x e:Int):aA .leq (.int D x) (.int D e)=some (.bool (decide (x<=e))):=by
 cases D<;>simp[aA,lP,l8,ly,wn,sj]<;>(rw[Yf];simp)
def uS(D:IntKind)(x e:Int):aA .geq (.int D x) (.int D e)=some (.bool (decide (e<=x))):=by
 cases D<;>simp[aA,lP,l8,ly,wn,sj]<;>(rw[Yf];simp)
def uR(D:IntKind)(x e:Int):aA .eql (.int D x) (.int D e)=some (.bool (decide (x=e))):=by
 cases D<;>simp[aA,lP,l8,ly,wn,Bc]
def uW(D:IntKind)(x e:Int):aA .neq (.int D x) (.int D e)=some (.bool (decide (x≠e))):=by
 cases D<;>simp[aA,lP,l8,ly,wn,Bc]
def wrap64{n:Int}(R: -9223372036854775808<=n)(U:n<9223372036854775808):pe .i64 n=n:=by
 simp only[pe,fo,Zg]
 split<;>omega
def eI{x e:Int}(R: -9223372036854775808<=x+e)(U:x+e<9223372036854775808):aA .add (.int .i64 x) (.int .i64 e)=some (.int .i64 (x+e)):=by
 simp[aA,lP,l8,ly,k1,wrap64 R U]
def Bb{x e:Int}(R: -9223372036854775808<=x-e)(U:x-e<9223372036854775808):aA .sub (.int .i64 x) (.int .i64 e)=some (.int .i64 (x-e)):=by
 simp[aA,lP,l8,ly,k1,wrap64 R U]
def abB(x e:Int):aA .add (.int .u64 x) (.int .u64 e)=some (.int .u64 ((x+e)%18446744073709551616)):=by
 simp[aA,lP,l8,ly,k1,pe]
def FU{bl b W len cap i:Nat}(D:IntKind)(a:i<len):dC bl (.slice b W len cap) (.int D (i:Int))=some (.ptr b (W+i*bl)):=by
 simp[dC,rk,BT,fo,Nat.blt,a];omega
def FV{bl b W len cap i:Nat}(D:IntKind)(a:i<len):dC bl (.fu b W len cap) (.int D (i:Int))=some (.ptr b (W+i*bl)):=by
 simp[dC,rk,BT,fo,Nat.blt,a];omega
def v2(d b W:Nat):aZ d (.ptr b W)=some (.ptr b (W+d)):=rfl
def vZ(i:Nat)(l:List H):cN i (.tuple l)=l[i]? :=by simp[cN]
def v1(b W:Nat):cf (.ptr b W)=some (.ptr b W):=rfl
def vm(b:Bool):fz .not (.bool b)=some (.bool (!b)):=by simp[fz,wn]
def xz(c:S H)(l:List H):Prop:=∀i,c.get i=l[i]?
def n4(l:List H):xz (S.ofList l 0 .nil) l:=λi=>kC l i
def xz.app{c:S H}{l:List H}(a:xz c l)(m:List H):xz (dT c l.length m) (l++m):=by
 intro i
 rw[kg]
 by_cases R:l.length<=i/\i<l.length+m.length
 ·rw[Zq R,ZT R.1]
 ·rw[Zh R,a i]
  by_cases U:i<l.length
  ·rw[Z3 U]
  ·rw[Z2 Zo,Z2 (by simp;omega)]
end
end
end Go.bg

namespace Go.bg
noncomputable section
section
variable{C:aW}{h:S ak}{j:Nat}
def lg{J b:Nat}(a:J<=b):Nat.ble J b=true:=by simpa using a
def ks(C:aW)(h:S ak)(s:H)(bl:Nat)(l:List H)(cK:List Nat):Prop:=
 (s= .aT/\l=[]/\cK=[])\/∃b fk n c,s= .fu b 0 n bl/\l.length=n*bl/\cK=b::fk/\(∀x∈cK,C.a7<=x)/\b∉fk/\aa C h b=some (.cells c (n*bl) (.grow fk))/\xz c l
def ks.ac{T:S ak}{s:H}{bl:Nat}{l:List H}{cK:List Nat}(a:ks C h s bl l cK)(aF:∀e∈cK,aa C T e=aa C h e):ks C T s bl l cK:=by
 rcases a with a|⟨b,fk,n,c,R,U,ar,aO,bN,cv,dP⟩
 ·exact .inl a
 ·exact .inr ⟨b,fk,n,c,R,U,ar,aO,bN,by rw[aF b (by rw[ar];exact Zw ..)];exact cv,dP⟩
def rs{bl D b n:Nat}{l:List H}{c:S H}{st:nE}(a:aa C h b=some (.cells c n st))(az:xz c l)(aB:l.length=D*bl)(cap:Nat):k8 C h bl (.slice b 0 D cap)=some (D,l):=by
 have b0:∀(m W:Nat),W+m<=l.length->c.ku W m=some ((l.drop W).take m):=by
  intro m
  induction m with
  |zero=>intro W _;simp[S.ku]
  |succ m al=>
   intro W bf
   have R:c.get W=some l[W]:=by rw[az W,Ze Zo]
   simp only[S.ku,R,al (W+1) Zo]
   rw[Zr (by omega:W<l.length),Z0]
 simp only[k8,mT,cellsOf,a]
 rw[b0 (D*bl) 0 Zo]
 simp[<-aB]
def fD{b:gn->gn}{K:dL}{h:S ak}{j:Nat}(ol:Nat->gn)(m:Nat)(cj:ol m K h j)(a:∀m K h j,ol m K h j->b (λK h j=>∃gj,gj<m/\ol gj K h j) K h j):fj b K h j:=⟨⟨ol,⟨m,cj⟩,a⟩⟩
def Xv{c:S H}{l:List H}(az:xz c l):∀(m W:Nat),W+m<=l.length->c.ku W m=some ((l.drop W).take m):=by
 intro m
 induction m with
 |zero=>intro W _;simp[S.ku]
 |succ m al=>
  intro W bf
  have R:c.get W=some l[W]:=by rw[az W,Ze Zo]
  simp only[S.ku,R,al (W+1) Zo]
  rw[Zr (by omega:W<l.length),Z0]
def wy{bl:Nat}:∀{bC:List (List H)},(∀r∈bC,r.length=bl)->bC.flatten.length=bC.length*bl:=by
 intro bC
 induction bC with
 |nil=>intro _;simp
 |cons J l al=>
  intro a
  rw[Yp,ZP,a J (Zw ..),al (λr Z=>a r (Zu _ Z)),ZC,Z9]
  omega
end
end
end Go.bg

namespace Go.a2
abbrev bx:=List Nat
structure es where
 b:Bool
 s:Bool
 w:Int
 deriving DecidableEq
structure Tok where
 kind:Int
 text:bx
 at_:Int
 n:Int
 ty:es
inductive bz where
 |mk (kind at_:Int) (name:bx) (no:Bool) (ty:es) (n:Int) (args:List bz)
structure fP where
 name:bx
 at_:Int
 ty:es
 on:bx
 fJ:Int
 no:Bool
structure hl where
 left:List bx
 dg:List Int
 at_:Int
 right:bz
structure Node where
 name:bx
 at_:Int
 eQ:List fP
 out:List fP
 loc:List fP
 eqs:List hl
def dJ:es:=⟨false,false,0⟩
def bz.kind:bz->Int| .mk D _ _ _ _ _ _=>D
def bz.args:bz->List bz| .mk _ _ _ _ _ _ l=>l
abbrev ga(α:Type):=Option (Except Int (α×List Tok))
def ok{α:Type}(J:α)(l:List Tok):ga α:=some (.ok (J,l))
def bad{α:Type}(at_:Int):ga α:=some (.error at_)
def andThen{α eR:Type}(x:ga α)(f:α->List Tok->ga eR):ga eR:=match x with
 |none=>none
 |some (.error J)=>some (.error J)
 |some (.ok (J,l))=>f J l
def hN(x:Tok)(s:bx):Bool:=(x.kind=2||x.kind=6)&&x.text=s
def lX(s:bx):List Tok->Option (Option Tok×List Tok)
 |[]=>none
 |x::l=>if hN x s then some (some x,l)else some (none,x::l)
def h7{eR:Type}(s:bx)(l:List Tok)(f:Option Tok->List Tok->ga eR):ga eR:=match lX s l with
 |none=>none
 |some (x,l)=>f x l
def eD(s:bx):List Tok->ga Tok
 |[]=>none
 |x::l=>if hN x s then ok x l else bad x.at_
def iB(D:Int):List Tok->ga Tok
 |[]=>none
 |x::l=>if x.kind=D then ok x l else bad x.at_
def av:Nat->List (bx×Int)
 |0=>[([111,114],7),([120,111,114],8)]
 |1=>[([97,110,100],9)]
 |2=>[([61],10),([60,62],11),([60,61],13),([62,61],15),([60],12),([62],14)]
 |3=>[([43],16),([45],17)]
 |4=>[([42],18)]
 |_=>[]
def ou:List (bx×Int)->List Tok->Option (Option bz×List Tok)
 |[],l=>some (none,l)
 |(s,D)::os,l=>match lX s l with
  |none=>none
  |some (some x,l)=>some (some (.mk D x.at_ [] false dJ 0 []),l)
  |some (none,l)=>ou os l
def bz.at_:bz->Int| .mk _ J _ _ _ _ _=>J
def tz(F:bz):Option Bool:=if F.kind=1 then some true else if F.kind=4 then(match F.args with|[]=>none|J::_=>some (decide (J.kind=1)))else some false
def bz.name:bz->bx| .mk _ _ s _ _ _ _=>s
def bz.no:bz->Bool| .mk _ _ _ b _ _ _=>b
def bz.ty:bz->es| .mk _ _ _ _ t _ _=>t
def bz.n:bz->Int| .mk _ _ _ _ _ n _=>n
def two(F:bz)(J b:bz):bz:= .mk F.kind F.at_ [] false dJ 0 [J,b]
def yR:List (bx×Int):=[([110,111,116],3),([45],4),([112,114,101],5)]
mutual
def level:Nat->Nat->List Tok->ga bz
 |0,_,_=>none
 |n+1,D,l=>if D=5 then shift n l else andThen (level n (D+1) l) λleft l=>oX n D left l
def oX:Nat->Nat->bz->List Tok->ga bz
 |0,_,_,_=>none
 |n+1,D,left,l=>match ou (av D) l with
  |none=>none
  |some (none,l)=>ok left l
  |some (some F,l)=>andThen (level n (D+1) l) λr l=>if D=2 then ok (two F left r) l else oX n D (two F left r) l
def shift:Nat->List Tok->ga bz
 |0,_=>none
 |n+1,l=>andThen (xi n l) λleft l=>o8 n left l
def o8:Nat->bz->List Tok->ga bz
 |0,_,_=>none
 |n+1,left,l=>h7 [60,60] l λx l=>match x with
  |some x=>o9 n 19 x left l
  |none=>h7 [62,62] l λx l=>match x with
   |some x=>o9 n 20 x left l
   |none=>ok left l
def o9:Nat->Int->Tok->bz->List Tok->ga bz
 |0,_,_,_,_=>none
 |n+1,D,x,left,l=>andThen (iB 4 l) λm l=>if 63<m.n then bad m.at_ else o8 n (.mk D x.at_ [] false dJ m.n [left]) l
def xi:Nat->List Tok->ga bz
 |0,_=>none
 |n+1,l=>match ou yR l with
  |none=>none
  |some (some F,l)=>andThen (xi n l) λJ l=>ok (.mk F.kind F.at_ [] false dJ 0 [J]) l
  |some (none,l)=>andThen (part n l) λleft l=>na n left l
def na:Nat->bz->List Tok->ga bz
 |0,_,_=>none
 |n+1,left,l=>h7 [119,104,101,110] l λx l=>match x with
  |none=>ok left l
  |some x=>h7 [110,111,116] l λno l=>andThen (iB 1 l) λc l=>na n (.mk 6 x.at_ c.text no.isSome dJ 0 [left]) l
def part:Nat->List Tok->ga bz
 |0,_=>none
 |_+1,[]=>none
 |n+1,x::l=>
  if x.kind=5 then ok (.mk 1 x.at_ [] false x.ty x.n []) l
  else if x.kind=2&&(x.text=[116,114,117,101]||x.text=[102,97,108,115,101])then ok (.mk 1 x.at_ [] false ⟨true,false,1⟩ (if x.text=[116,114,117,101]then 1 else 0) []) l
  else if x.kind=1 then h7 [40] l λe l=>match e with
   |none=>ok (.mk 2 x.at_ x.text false dJ 0 []) l
   |some _=>andThen (list n l) λcp l=>ok (.mk 25 x.at_ x.text false dJ 0 cp) l
  else if x.kind=3 then andThen (eD [40] l) λ_ l=>andThen (arrow n l) λF l=>andThen (eD [41] l) λ_ l=>ok (.mk 26 x.at_ [] false x.ty 0 [F]) l
  else if x.kind=6&&x.text=[40]then andThen (arrow n l) λF l=>andThen (eD [41] l) λ_ l=>ok F l
  else if x.kind=2&&x.text=[105,102]then andThen (arrow n l) λc l=>andThen (eD [116,104,101,110] l) λ_ l=>andThen (arrow n l) λJ l=>andThen (eD [101,108,115,101] l) λ_ l=>andThen (arrow n l) λb l=>ok (.mk 23 x.at_ [] false dJ 0 [c,J,b]) l
  else if x.kind=2&&x.text=[109,101,114,103,101]then andThen (iB 1 l) λc l=>andThen (part n l) λJ l=>andThen (part n l) λb l=>ok (.mk 24 x.at_ c.text false dJ 0 [J,b]) l
  else bad x.at_
def list:Nat->List Tok->ga (List bz)
 |0,_=>none
 |n+1,l=>h7 [41] l λe l=>match e with
  |some _=>ok [] l
  |none=>andThen (arrow n l) λF l=>oY n [F] l
def oY:Nat->List bz->List Tok->ga (List bz)
 |0,_,_=>none
 |n+1,cp,l=>h7 [44] l λe l=>match e with
  |none=>andThen (eD [41] l) λ_ l=>ok cp l
  |some _=>andThen (arrow n l) λF l=>oY n (cp++[F]) l
def lH:Nat->List Tok->ga bz
 |0,_=>none
 |n+1,l=>andThen (level n 0 l) λleft l=>h7 [102,98,121] l λx l=>match x with
  |none=>ok left l
  |some x=>match tz left with
   |none=>none
   |some true=>andThen (lH n l) λr l=>ok (.mk 21 x.at_ [] false dJ 0 [left,r]) l
   |some false=>bad x.at_
def arrow:Nat->List Tok->ga bz
 |0,_=>none
 |n+1,l=>andThen (lH n l) λleft l=>h7 [45,62] l λx l=>match x with
  |none=>ok left l
  |some x=>andThen (arrow n l) λr l=>ok (.mk 22 x.at_ [] false dJ 0 [left,r]) l
end
def rj:Nat->List Tok->List Tok->ga (List Tok)
 |0,_,_=>none
 |n+1,cp,l=>andThen (iB 1 l) λx l=>h7 [44] l λe l=>match e with
  |none=>ok (cp++[x]) l
  |some _=>rj n (cp++[x]) l
def pr(ty:es)(on:bx)(fJ:Int)(no:Bool)(x:Tok):fP:=⟨x.text,x.at_,ty,on,fJ,no⟩
def y3:Nat->List Tok->Option bx
 |_,[]=>none
 |0,x::_=>some x.text
 |i+1,_::l=>y3 i l
def xQ(loc:Bool)(D:List fP->List Tok->ga (List fP))(ds:List fP)(l:List Tok):ga (List fP):=match y3 0 l with
 |none=>none
 |some s=>if s=[59]then(if loc then(match y3 1 l with
   |none=>none
   |some s=>if s=[108,101,116]then ok ds l else D ds (l.drop 1))else D ds (l.drop 1))
  else ok ds l
def Au(w:Option Tok)(l:List Tok):ga (bx×Int×Bool):=match w with
 |none=>ok ([],0,false) l
 |some _=>h7 [110,111,116] l λno l=>andThen (iB 1 l) λon l=>ok (on.text,on.at_,no.isSome) l
def Ci(loc:Bool)(D:List fP->List Tok->ga (List fP))(ds:List fP)(cm:List Tok)(l:List Tok):ga (List fP):=
 andThen (eD [58] l) λ_ l=>andThen (iB 3 l) λt l=>h7 [119,104,101,110] l λw l=>
 andThen (Au w l) λr l=>xQ loc D (ds++cm.map (pr t.ty r.1 r.2.1 r.2.2)) l
def iS:Nat->Bool->List fP->List Tok->ga (List fP)
 |0,_,_,_=>none
 |n+1,loc,ds,l=>andThen (rj n [] l) λcm l=>Ci loc (iS n loc) ds cm l
def ug(n:Nat)(l:List Tok):ga hl:=h7 [40] l λe l=>
 andThen (match e with
  |some _=>andThen (iB 1 l) λx l=>andThen (eD [44] l) λ_ l=>andThen (rj n [x] l) λcm l=>andThen (eD [41] l) λ_ l=>ok cm l
  |none=>andThen (iB 1 l) λx l=>ok [x] l) λcm l=>
 andThen (eD [61] l) λF l=>andThen (arrow n l) λr l=>andThen (eD [59] l) λ_ l=>ok ⟨cm.map Tok.text,cm.map Tok.at_,F.at_,r⟩ l
def lG:Nat->List hl->List Tok->ga (List hl)
 |0,_,_=>none
 |n+1,c3,l=>h7 [116,101,108] l λe l=>match e with
  |some _=>ok c3 l
  |none=>andThen (ug n l) λan l=>lG n (c3++[an]) l
def node(n:Nat)(l:List Tok):ga Node:=
 andThen (eD [110,111,100,101] l) λ_ l=>andThen (iB 1 l) λx l=>andThen (eD [40] l) λ_ l=>h7 [41] l λe l=>
 andThen (match e with
  |some _=>ok [] l
  |none=>andThen (iS n false [] l) λds l=>andThen (eD [41] l) λ_ l=>ok ds l) λeQ l=>
 andThen (eD [114,101,116,117,114,110,115] l) λ_ l=>andThen (eD [40] l) λ_ l=>andThen (iS n false [] l) λout l=>andThen (eD [41] l) λ_ l=>
 h7 [118,97,114] l λe l=>andThen (match e with
  |some _=>andThen (iS n true [] l) λds l=>andThen (eD [59] l) λ_ l=>ok ds l
  |none=>ok [] l) λloc l=>
 andThen (eD [108,101,116] l) λ_ l=>andThen (lG n [] l) λc3 l=>ok ⟨x.text,x.at_,eQ,out,loc,c3⟩ l
def o2:Nat->List Node->List Tok->ga (List Node)
 |0,_,_=>none
 |n+1,ap,l=>andThen (node n l) λg l=>match l with
  |[]=>none
  |x::_=>if x.kind=7 then ok (ap++[g]) l else o2 n (ap++[g]) l
end Go.a2

namespace Go.bg
noncomputable section
open Go.a2
section
variable{C:aW}{h T aX:S ak}{j ao aL:Nat}
def pm{rB:List H}{ah:bG}(a:ah (.ptr j 0) (bm C h j (some (.cells (S.ofList rB 0 .nil) rB.length .own))) (j+1)):B (dA rB j) λr=>cO C h j r.1 r.2 ah:=⟨⟨a⟩⟩
def Eu{b:Nat}{rB:List H}{ah:H->S ak->Prop}(a:ah (.ptr b 0) (bm C h b (some (.cells (S.ofList rB 0 .nil) rB.length .own)))):B (dA rB b) λr=>k4 C h b r.1 r.2 ah:=⟨⟨a⟩⟩
def p2(cs:List H):Cr cs []=some cs:=rfl
def p1(cs:List H)(off size:Nat)(v:H)(dl:List (Nat×Nat×H)):Cr cs ((off,size,v)::dl)=if v.cells.length=size/\off+size<=cs.length then Cr (lW cs off v.cells) dl else none:=by
 have F:∀J b:Nat,(Nat.beq J b=true)=(J=b):=λJ b=>propext ⟨Zl,λa=>by subst a;exact Y7 J⟩
 simp only[Cr,fo,Zn,F,Nat.ble_eq]
def qD(c:S H)(W:Nat)(v:H):dT c W [v]=c.set W (some v):=by simp[dT]
def bJ{b n:Nat}{c:S H}{st:nE}(a:aa C h b=some (.cells c n st))(W:Nat):am C h (.ptr b W)=c.get W:=by rw[cA,a]
def E2{w:Bool}{J b:Prop}(a:b):ix w bg.undef J b:=⟨a⟩
def oW(b W n c:Nat):d8 (.slice b W n c)=some (.Z (n:Int)):=by simp[d8,pB]
def qo(b W n c:Nat):d8 (.fu b W n c)=some (.Z (n:Int)):=by simp[d8,pB]
def tw:d8 .aT=some (.Z 0):=rfl
def sp(s:List Nat):lR (.str s)=some (.Z (s.length:Int)):=by simp[lR,pB]
def Dx:∀J b:List Nat,mE J b=decide (J=b):=by
 intro J
 induction J with
 |nil=>intro b;cases b<;>simp[mE]
 |cons x J al=>
  intro b
  cases b with
  |nil=>simp[mE]
  |cons e b=>
   simp only[mE,al]
   by_cases a:x=e<;>simp[a]
def vB(t:Nat)(sY:Bool)(J b:List Nat):dj C h .eql t sY (.str J) (.str b)=some (.bool (decide (J=b))):=by
 simp[dj,Am,wn,Dx]
def vC(t:Nat)(sY:Bool)(J b:List Nat):dj C h .neq t sY (.str J) (.str b)=some (.bool (decide (J≠b))):=by
 simp[dj,Am,wn,Dx]
def uj(off bl:Nat)(cs:List H):qV false off bl (.agg cs)=cs[off]? :=by simp[qV,fo]
def ui(off bl:Nat)(cs:List H):qV true off bl (.agg cs)=some (.agg ((cs.drop off).take bl)):=by simp[qV,fo]
def rQ(t:Nat)(br v:H):Ex t br true (.iface t v)=some (.tuple [v, .bool true]):=by simp[Ex,fo]
def ud(D:IntKind)(x:Int):mn .u64 (.int D x)=some (.int .u64 (x%18446744073709551616)):=by simp[mn,k1,pe]
def Wt{D:IntKind}{x:Int}(R: -9223372036854775808<=x)(U:x<9223372036854775808):mn .i64 (.int D x)=some (.Z x):=by simp[mn,k1,wrap64 R U]
def ue(s:List Nat):akg (.str s)=some (.str s):=rfl
structure b4(C:aW)(X:List Nat)(h:S ak)(j:Nat)(T:S ak)(ao:Nat):Prop where
 le:j<=ao
 ac:∀b,b<j->b∉X->aa C T b=aa C h b
def b4.refl(X:List Nat)(h:S ak)(j:Nat):b4 C X h j h j:=⟨Zi _,λ_ _ _=>rfl⟩
def b4.trans{X:List Nat}{aX aJ aY:S ak}{aL a6 ba:Nat}(a:b4 C X aX aL aJ a6)(D:b4 C X aJ a6 aY ba):b4 C X aX aL aY ba:=
 ⟨ZA a.le D.le,λb ai ag=>(D.ac b (ZK ai a.le) ag).trans (a.ac b ai ag)⟩
def b4.of{X:List Nat}(a:bj C h j T ao):b4 C X h j T ao:=⟨a.le,λb ai _=>a.ac b ai⟩
def b4.fU{X:List Nat}(a:b4 C X h j T ao)(b W:Nat)(ai:b<j)(ag:b∉X):am C T (.ptr b W)=am C h (.ptr b W):=by rw[cA,cA,a.ac b ai ag]
def b4.down{X eG:List Nat}{a7:Nat}(a:b4 C X h j T ao)(aK:a7<=j)(ag:∀b∈X,b∈eG\/a7<=b):b4 C eG h a7 T ao:=
 ⟨ZA aK a.le,λb ai I=>a.ac b Zo (λF=>by rcases ag b F with a|a;exact I a;omega)⟩
structure d5(C:aW)(h:S ak)(P:Nat->Prop)(b:Nat)(a8:H)(bl:Nat)(bC:List (List H)):Prop where
 ai:bC≠[]->P b
 many:bC.length<=300000
 wide:∀r∈bC,r.length=bl
 len:d8 a8=some (.Z (bC.length:Int))
 gi:∀(i:Nat),i<bC.length->dC bl a8 (.Z (i:Int))=some (.ptr b (i*bl))
 cell:∀(i:Nat) r (Y:Nat) v,bC[i]? =some r->r[Y]? =some v->am C h (.ptr b (i*bl+Y))=some v
def d5.ac{P:Nat->Prop}{b bl:Nat}{a8:H}{bC:List (List H)}(a:d5 C h P b a8 bl bC)(D:∀e,P e->aa C T e=aa C h e):d5 C T P b a8 bl bC:=
 ⟨a.ai,a.many,a.wide,a.len,a.gi,λi r Y v aM bH=>by
  have aF:=D b (a.ai (λF=>by rw[F]at aM;cases aM))
  rw[cA,aF, <-cA];exact a.cell i r Y v aM bH⟩
def d5.lift{P bs:Nat->Prop}{b bl:Nat}{a8:H}{bC:List (List H)}(a:d5 C h P b a8 bl bC)(D:∀e,P e->bs e):d5 C h bs b a8 bl bC:=
 ⟨λF=>D _ (a.ai F),a.many,a.wide,a.len,a.gi,a.cell⟩
def Xu{c:S H}:∀(r:List H) (W:Nat),(∀Y v,r[Y]? =some v->c.get (W+Y)=some v)->c.ku W r.length=some r:=by
 intro r
 induction r with
 |nil=>intro W _;rfl
 |cons J r al=>
  intro W a
  have cj:=a 0 J rfl
  rw[ZR]at cj
  have R:=al (W+1) (λY v bH=>by have:=a (Y+1) v (by simpa using bH);rw[Nat.add_right_comm];simpa[ZN,Nat.add_comm,Nat.add_left_comm]using this)
  simp[S.ku,cj,R]
def d5.row{P:Nat->Prop}{b bl:Nat}{a8:H}{bC:List (List H)}(a:d5 C h P b a8 bl bC)(aI:0<bl){i:Nat}{r:List H}(aM:bC[i]? =some r):b6 C h bl (.ptr b (i*bl))=some (.agg r):=by
 have aB:=a.wide r (Zj aM)
 have cj:∃v,r[0]? =some v:=by
  cases r with
  |nil=>simp at aB;omega
  |cons J l=>exact⟨J,rfl⟩
 obtain⟨v,bA⟩:=cj
 have az:=a.cell i r 0 v aM bA
 rw[cA]at az
 rw[so]
 split at az
 ·rename_i c _ _ ai
  have:=Xu (c:=c) r (i*bl) (λY v bH=>by
   have:=a.cell i r Y v aM bH
   rw[cA,ai]at this
   exact this)
  rw[aB]at this
  rw[this];rfl
 ·cases az
def Py{bl:Nat}:∀(bC:List (List H)),(∀r∈bC,r.length=bl)->∀(i:Nat) r (Y:Nat) v,bC[i]? =some r->r[Y]? =some v->bC.flatten[i*bl+Y]? =some v:=by
 intro bC
 induction bC with
 |nil=>intro _ i r Y v aM;simp at aM
 |cons J l al=>
  intro Z i r Y v aM bH
  have aC:=Z J (Zw ..)
  have uF:Y<r.length:=(Zc.1 bH).1
  cases i with
  |zero=>
   simp at aM;subst aM
   rw[Yp,zl,ZM,Z3 Zo];exact bH
  |succ i=>
   simp at aM
   rw[Yp,ZT (by rw[aC,Z9];omega),aC]
   have:(i+1)*bl+Y-bl=i*bl+Y:=by rw[Z9];omega
   rw[this]
   exact al (λr k0=>Z r (Zu _ k0)) i r Y v aM bH
def ks.tG{bl:Nat}{s:H}{bC:List (List H)}{cK:List Nat}(a:ks C h s bl bC.flatten cK)(eH:0<bl)(Z:∀r∈bC,r.length=bl)(bp:bC.length<=300000){P:Nat->Prop}(aB:∀e∈cK,P e):∃b,d5 C h P b s bl bC:=by
 have f0:=wy Z
 have aa:∀(bC:List (List H)),(∀r∈bC,r.length=bl)->∀(i:Nat) r (Y:Nat) v,bC[i]? =some r->r[Y]? =some v->bC.flatten[i*bl+Y]? =some v:=by
  intro bC
  induction bC with
  |nil=>intro _ i r Y v aM;simp at aM
  |cons J l al=>
   intro Z i r Y v aM bH
   have aC:=Z J (Zw ..)
   have uF:Y<r.length:=(Zc.1 bH).1
   cases i with
   |zero=>
    simp at aM;subst aM
    rw[Yp,zl,ZM,Z3 Zo];exact bH
   |succ i=>
    simp at aM
    rw[Yp,ZT (by rw[aC,Z9];omega),aC]
    have:(i+1)*bl+Y-bl=i*bl+Y:=by rw[Z9];omega
    rw[this]
    exact al (λr k0=>Z r (Zu _ k0)) i r Y v aM bH
 rcases a with ⟨R,U,ar⟩|⟨b,fk,n,c,R,U,ar,aO,bN,cv,dP⟩
 ·have QY:bC.length=0:=by
   rw[U,ZO]at f0
   rcases Nat.mul_eq_zero.1 f0.symm with a|a
   ·exact a
   ·omega
  have QY:bC=[]:=List.length_eq_zero_iff.1 QY
  subst QY R
  exact⟨0,λF=>absurd rfl F,Zs,Z,rfl,λi aM=>by simp at aM,λi r Y v aM=>by simp at aM⟩
 ·have aK:n=bC.length:=Nat.eq_of_mul_eq_mul_right eH (by rw[<-U,f0])
  subst aK R
  refine⟨b,λ_=>aB b (by rw[ar];exact Zw ..),bp,Z,qo ..,λi aM=>by rw[FV _ aM,ZM],λi r Y v aM bH=> ?_⟩
  rw[cA,cv]
  exact(dP _).trans (aa bC Z i r Y v aM bH)
def JR{b bl D cap:Nat}{bC:List (List H)}{st:nE}(ai:aa C h b=some (.cells (S.ofList bC.flatten 0 .nil) (D*bl) st))(aF:bC.length=D)(Z:∀r∈bC,r.length=bl)(bp:D<=300000){P:Nat->Prop}(bu:P b):d5 C h P b (.slice b 0 D cap) bl bC:=by
 subst aF
 have aa:∀(bC:List (List H)),(∀r∈bC,r.length=bl)->∀(i:Nat) r (Y:Nat) v,bC[i]? =some r->r[Y]? =some v->bC.flatten[i*bl+Y]? =some v:=by
  intro bC
  induction bC with
  |nil=>intro _ i r Y v aM;simp at aM
  |cons J l al=>
   intro Z i r Y v aM bH
   have aC:=Z J (Zw ..)
   have uF:Y<r.length:=(Zc.1 bH).1
   cases i with
   |zero=>
    simp at aM;subst aM
    rw[Yp,zl,ZM,Z3 Zo];exact bH
   |succ i=>
    simp at aM
    rw[Yp,ZT (by rw[aC,Z9];omega),aC]
    have:(i+1)*bl+Y-bl=i*bl+Y:=by rw[Z9];omega
    rw[this]
    exact al (λr k0=>Z r (Zu _ k0)) i r Y v aM bH
 refine⟨λ_=>bu,bp,Z,oW ..,λi aM=>by rw[FU _ aM,ZM],λi r Y v aM bH=> ?_⟩
 rw[cA,ai]
 exact(kC _ _).trans (aa bC Z i r Y v aM bH)
def eC(t:es):List H:=[.bool t.b, .bool t.s, .Z t.w]
def pS(C:aW)(h:S ak)(b:Nat):Prop:=∃c n,aa C h b=some (.cells c n .own)/\0<n
def pS.ac{b:Nat}(a:pS C h b)(D:aa C T b=aa C h b):pS C T b:=by unfold pS;rw[D];exact a
mutual
def cI(C:aW)(h:S ak):(Nat->Prop)->bz->H->Prop
 |P, .mk kind at_ name no ty n args,v=>∃b,v= .ptr b 0/\P b/\pS C h b/\am C h (.ptr b 0)=some (.Z kind)/\am C h (.ptr b 1)=some (.Z at_)/\am C h (.ptr b 2)=some (.str name)/\am C h (.ptr b 3)=some (.bool no)
   /\am C h (.ptr b 4)=some (.bool ty.b)/\am C h (.ptr b 5)=some (.bool ty.s)/\am C h (.ptr b 6)=some (.Z ty.w)/\am C h (.ptr b 7)=some (.int .u64 n)
   /\∃a8 cL bk,am C h (.ptr b 8)=some a8/\d5 C h P cL a8 1 (bk.map λv=>[v])/\(bk≠[]->cL≠b)/\dp C h (λe=>P e/\e≠b/\e≠cL) args bk
def dp(C:aW)(h:S ak):(Nat->Prop)->List bz->List H->Prop
 |_,[],bk=>bk=[]
 |P,F::bF,bk=>∃v mK bs,bk=v::mK/\(∀e,bs e->P e)/\cI C h bs F v/\dp C h (λe=>P e/\¬bs e) bF mK
end
mutual
def cI.ac{P:Nat->Prop}(D:∀e,P e->aa C T e=aa C h e):∀(F:bz) (v:H),cI C h P F v->cI C T P F v
 | .mk kind at_ name no ty n args,v,a=>by
   unfold cI at a ⊢
   obtain⟨b,R,bu,bf,U,ar,aO,bN,cv,dP,fq,j2,a8,cL,bk,rZ,up,us,yb⟩:=a
   have aB:∀W,am C T (.ptr b W)=am C h (.ptr b W):=λW=>by rw[cA,cA,D b bu]
   exact⟨b,R,bu,bf.ac (D b bu),by rw[aB];exact U,by rw[aB];exact ar,by rw[aB];exact aO,by rw[aB];exact bN,by rw[aB];exact cv,by rw[aB];exact dP,by rw[aB];exact fq,by rw[aB];exact j2,a8,cL,bk,by rw[aB];exact rZ,up.ac D,us,dp.ac (λe I=>D e I.1) args bk yb⟩
def dp.ac{P:Nat->Prop}(D:∀e,P e->aa C T e=aa C h e):∀(bF:List bz) (bk:List H),dp C h P bF bk->dp C T P bF bk
 |[],bk,a=>by unfold dp at a ⊢;exact a
 |F::bF,bk,a=>by
  unfold dp at a ⊢
  obtain⟨v,mK,bs,R,cl,U,ar⟩:=a
  exact⟨v,mK,bs,R,cl,cI.ac (λe I=>D e (cl e I)) F v U,dp.ac (λe I=>D e I.1) bF mK ar⟩
end
mutual
def cI.lift{P bs:Nat->Prop}(D:∀e,P e->bs e):∀(F:bz) (v:H),cI C h P F v->cI C h bs F v
 | .mk kind at_ name no ty n args,v,a=>by
   unfold cI at a ⊢
   obtain⟨b,R,bu,bf,U,ar,aO,bN,cv,dP,fq,j2,a8,cL,bk,rZ,up,us,yb⟩:=a
   exact⟨b,R,D b bu,bf,U,ar,aO,bN,cv,dP,fq,j2,a8,cL,bk,rZ,up.lift D,us,dp.lift (λe I=>⟨D e I.1,I.2⟩) args bk yb⟩
def dp.lift{P bs:Nat->Prop}(D:∀e,P e->bs e):∀(bF:List bz) (bk:List H),dp C h P bF bk->dp C h bs bF bk
 |[],bk,a=>by unfold dp at a ⊢;exact a
 |F::bF,bk,a=>by
  unfold dp at a ⊢
  obtain⟨v,mK,eE,R,cl,U,ar⟩:=a
  exact⟨v,mK,eE,R,λe I=>D e (cl e I),U,dp.lift (λe I=>⟨D e I.1,I.2⟩) bF mK ar⟩
end
def dp.nil{P:Nat->Prop}:dp C h P [] []:=by unfold dp;rfl
def g2(kind at_:Int)(name:bx)(no:Bool)(ty:es)(n:Int)(a8:H):List H:=[.Z kind, .Z at_, .str name, .bool no, .bool ty.b, .bool ty.s, .Z ty.w, .int .u64 n,a8]
def cI.of{P:Nat->Prop}{b cL:Nat}{kind at_ n:Int}{name:bx}{no:Bool}{ty:es}{a8:H}{m:Nat}{st:nE}{args:List bz}{bk:List H}(ai:aa C h b=some (.cells (S.ofList (g2 kind at_ name no ty n a8) 0 .nil) m st))(bu:P b)
 (aI:d5 C h P cL a8 1 (bk.map λv=>[v]))(us:bk≠[]->cL≠b)(aC:dp C h (λe=>P e/\e≠b/\e≠cL) args bk)(bf:st= .own:=by rfl)(bp:0<m:=by exact Nat.zero_lt_succ _):cI C h P (.mk kind at_ name no ty n args) (.ptr b 0):=by
 unfold cI
 refine⟨b,rfl,bu,⟨_,_,bf▸ai,bp⟩, ?_, ?_, ?_, ?_, ?_, ?_, ?_, ?_,a8,cL,bk, ?_,aI,us,aC⟩<;>(rw[bJ ai,kC];rfl)
def d5.nil(P:Nat->Prop)(bl:Nat):d5 C h P 0 .aT bl []:=⟨λF=>absurd rfl F,Zs,Zs,rfl,λi aM=>by simp at aM,λi r Y v aM=>by simp at aM⟩
def cI.leaf{P:Nat->Prop}{b:Nat}{kind at_ n:Int}{name:bx}{no:Bool}{ty:es}{m:Nat}{st:nE}(ai:aa C h b=some (.cells (S.ofList (g2 kind at_ name no ty n .aT) 0 .nil) m st))(bu:P b)(bf:st= .own:=by rfl)(bp:0<m:=by exact Nat.zero_lt_succ _):cI C h P (.mk kind at_ name no ty n []) (.ptr b 0):=
 cI.of (bk:=[]) ai bu (d5.nil P 1) (λa=>absurd rfl a) dp.nil bf bp
def Xf:∀bk:List H,(bk.map λv=>[v]).flatten=bk:=by
 intro bk
 induction bk with
 |nil=>rfl
 |cons J l al=>simp[al]
def cI.lit{P:Nat->Prop}{b cL D cap:Nat}{kind at_ n:Int}{name:bx}{no:Bool}{ty:es}{m:Nat}{st hY:nE}{args:List bz}{bk:List H}(ai:aa C h b=some (.cells (S.ofList (g2 kind at_ name no ty n (.slice cL 0 D cap)) 0 .nil) m st))(bu:P b)
 (Im:aa C h cL=some (.cells (S.ofList bk 0 .nil) D hY))(anv:P cL)(aF:bk.length=D)(jh:D<=1000)(us:cL≠b)(aC:dp C h (λe=>P e/\e≠b/\e≠cL) args bk)(bf:st= .own:=by rfl)(bp:0<m:=by exact Nat.zero_lt_succ _):cI C h P (.mk kind at_ name no ty n args) (.ptr b 0):=
 cI.of ai bu (JR (bC:=bk.map λv=>[v]) (by rw[Xf,Yj];exact Im) (by simpa using aF) Zs Zo anv) (λ_=>us) aC bf bp
def dp.one{P bs:Nat->Prop}{F:bz}{v:H}(a:cI C h bs F v)(cl:∀e,bs e->P e):dp C h P [F] [v]:=by
 unfold dp;exact⟨v,[],bs,rfl,cl,a,dp.nil⟩
def dp.two{P bs eE:Nat->Prop}{F f:bz}{v w:H}(a:cI C h bs F v)(D:cI C h eE f w)(cl:∀e,bs e->P e)(Z:∀e,eE e->P e/\¬bs e):dp C h P [F,f] [v,w]:=by
 unfold dp;exact⟨v,[w],bs,rfl,cl,a,dp.one D Z⟩
def dp.snoc{bs:Nat->Prop}{F:bz}{v:H}(D:cI C h bs F v):∀{bF:List bz}{bk:List H}{oq P:Nat->Prop},dp C h oq bF bk->(∀e,oq e->P e)->(∀e,bs e->P e/\¬oq e)->dp C h P (bF++[F]) (bk++[v]):=by
 intro bF
 induction bF with
 |nil=>intro bk oq P a R U;unfold dp at a;subst a;exact dp.one D (λe I=>(U e I).1)
 |cons J l al=>
  intro bk oq P a R U
  unfold dp at a
  obtain⟨w,mK,eE,rfl,cl,ar,aO⟩:=a
  show dp C h P (J::(l++[F])) (w::(mK++[v]))
  unfold dp
  exact⟨w,mK++[v],eE,rfl,λe I=>R e (cl e I),ar,al aO (λe I=>⟨R e I.1,I.2⟩) (λe I=>⟨⟨(U e I).1,λiI=>(U e I).2 (cl e iI)⟩,λoO=>(U e I).2 oO.1⟩)⟩
def cI.ptr{P:Nat->Prop}:∀{F:bz}{v:H},cI C h P F v->∃b,v= .ptr b 0/\P b/\am C h (.ptr b 0)=some (.Z F.kind)
 | .mk ..,_,a=>by
   unfold cI at a
   obtain⟨b,R,bu,_,U,_⟩:=a
   exact⟨b,R,bu,U⟩
def cI.open{P:Nat->Prop}:∀{F:bz}{v:H},cI C h P F v->∃b a8 cL bk,v= .ptr b 0/\P b/\am C h (.ptr b 0)=some (.Z F.kind)/\am C h (.ptr b 1)=some (.Z F.at_)/\am C h (.ptr b 2)=some (.str F.name)/\am C h (.ptr b 3)=some (.bool F.no)
 /\am C h (.ptr b 4)=some (.bool F.ty.b)/\am C h (.ptr b 5)=some (.bool F.ty.s)/\am C h (.ptr b 6)=some (.Z F.ty.w)/\am C h (.ptr b 7)=some (.int .u64 F.n)
 /\am C h (.ptr b 8)=some a8/\d5 C h P cL a8 1 (bk.map λv=>[v])/\dp C h P F.args bk
 | .mk ..,_,a=>by
   unfold cI at a
   obtain⟨b,R,bu,bf,U,ar,aO,bN,cv,dP,fq,j2,a8,cL,bk,rZ,up,us,yb⟩:=a
   exact⟨b,a8,cL,bk,R,bu,U,ar,aO,bN,cv,dP,fq,j2,rZ,up,dp.lift (λe I=>I.1) _ _ yb⟩
def dp.len:∀{bF:List bz}{bk:List H}{P:Nat->Prop},dp C h P bF bk->bk.length=bF.length:=by
 intro bF
 induction bF with
 |nil=>intro bk P a;unfold dp at a;subst a;rfl
 |cons J l al=>
  intro bk P a
  unfold dp at a
  obtain⟨w,mK,bs,rfl,cl,R,U⟩:=a
  simp[al U]
def dp.get:∀{bF:List bz}{bk:List H}{P:Nat->Prop},dp C h P bF bk->∀(i:Nat) F,bF[i]? =some F->∃v,bk[i]? =some v/\cI C h P F v:=by
 intro bF
 induction bF with
 |nil=>intro bk P a i F bt;simp at bt
 |cons J l al=>
  intro bk P a i F bt
  unfold dp at a
  obtain⟨w,mK,bs,rfl,cl,R,U⟩:=a
  cases i with
  |zero=>simp at bt;subst bt;exact⟨w,rfl,cI.lift cl _ _ R⟩
  |succ i=>
   obtain⟨v,ar,aO⟩:=al U i F (by simpa using bt)
   exact⟨v,by simpa using ar,cI.lift (λe I=>I.1) _ _ aO⟩
def d5.one{P:Nat->Prop}{b:Nat}{a8:H}{bk:List H}(a:d5 C h P b a8 1 (bk.map λv=>[v])){i:Nat}{v:H}(aM:bk[i]? =some v):dC 1 a8 (.Z (i:Int))=some (.ptr b i)/\am C h (.ptr b i)=some v/\P b:=by
 have lk:=(Zc.1 aM).1
 have R:=a.gi i (by simpa using lk)
 have U:=a.cell i [v] 0 v (by rw[Zx,aM];rfl) rfl
 rw[Yj]at R
 rw[Yj,ZR]at U
 exact⟨R,U,a.ai (λF=>by simp at F;subst F;simp at aM)⟩
def ajc{bl D:Nat}{x:H}{m:List H}(ag:k8 C h bl x=some (D,m))(aF:0<D)(ai:D<=1048576):
 iQ C h j bl .aT x=some (.fv (.fu j 0 D bl) (bm C h j (some (.cells (S.ofList m 0 .nil) m.length (.grow [])))) (j+1)):=by
 simp only[iQ,ag]
 rw[hB,Zh Zo]
 simp[xI,s7,lg ai,m2]
def aja{bl D b n:Nat}{x:H}{m:List H}{c:S H}{fk:List Nat}(ct:0<bl)(ag:k8 C h bl x=some (D,m))(aF:0<D)(ai:n+D<=1048576)(amW:jD m=true)
 (aK:C.a7<=b)(bf:aa C h b=some (.cells c (n*bl) (.grow fk))):
 iQ C h j bl (.fu b 0 n bl) x=some (.fv (.fu j 0 (n+D) bl) (bm C (bm C h b (some (.cells c (n*bl) .jV))) j (some (.cells (dT c (n*bl) m) (n*bl+m.length) (.grow (b::fk))))) (j+1)):=by
 simp only[iQ,ag]
 rw[hB,Zh Zo]
 have c2:¬(0+(n+D)*bl<=n*bl):=by
  have:0<D*bl:=Nat.mul_pos aF ct
  rw[Z9];omega
 have Ql:Nat.ble (0+(n+D)*bl) (n*bl)=false:=by
  cases cl:Nat.ble (0+(n+D)*bl) (n*bl)with
  |false=>rfl
  |true=>exact absurd (jb cl) c2
 simp only[xI,Hk,bf,kt,lg aK,lg ai,amW,Ql]
 simp[fo,m2]
def ajb{bl D b n:Nat}{x:H}{m l:List H}{c:S H}{st:nE}{an:Nat}(ct:0<bl)(ag:k8 C h bl x=some (D,m))(aF:0<D)(ai:n+D<=1048576)
 (bf:aa C h b=some (.cells c an st))(az:xz c l)(aB:l.length=n*bl):
 iQ C h j bl (.slice b 0 n n) x=some (.fv (.fu j 0 (n+D) bl) (bm C h j (some (.cells (S.ofList (l++m) 0 .nil) (l++m).length (.grow [])))) (j+1)):=by
 simp only[iQ,ag]
 rw[hB,Zh Zo]
 have Ql:Nat.ble (n+D) n=false:=by
  cases cl:Nat.ble (n+D) n with
  |false=>rfl
  |true=>exact absurd (jb cl) Zo
 have In:mT C h b 0 (n*bl)=some l:=by
  simp only[mT,cellsOf,bf]
  rw[Xv az _ _ Zo]
  simp[<-aB]
 simp only[xI,Ql,jK,In,s7,lg ai,e2,m2,l0,he]
def gD(C:aW)(h:S ak)(s:H)(bl:Nat)(l:List H)(cK:List Nat):Prop:=
 ks C h s bl l cK\/∃b n c st,s= .slice b 0 n n/\l.length=n*bl/\cK=[b]/\aa C h b=some (.cells c (n*bl) st)/\xz c l
def gD.ac{s:H}{bl:Nat}{l:List H}{cK:List Nat}(a:gD C h s bl l cK)(aF:∀e∈cK,aa C T e=aa C h e):gD C T s bl l cK:=by
 rcases a with a|⟨b,n,c,st,R,U,ar,aO,bN⟩
 ·exact .inl (a.ac aF)
 ·exact .inr ⟨b,n,c,st,R,U,ar,by rw[aF b (by rw[ar];exact Zw ..)];exact aO,bN⟩
def gD.append{bl D:Nat}{s x:H}{l m:List H}{cK:List Nat}(a:gD C h s bl l cK)(ct:0<bl)(ag:k8 C h bl x=some (D,m))(bp:m.length=D*bl)(aF:0<D)(R:jD m=true)
 (ai:l.length+m.length<=1048576)(aK:C.a7<=j)(c2:∀e∈cK,e<j):
 ∃fs T gw,iQ C h j bl s x=some (.fv fs T (j+1))/\ks C T fs bl (l++m) gw/\(∀e∈gw,e=j\/e∈cK)/\∀e,e≠j->e∉cK->aa C T e=aa C h e:=by
 have aaC:D<=D*bl:=YR D ct
 rcases a with (⟨rfl,rfl,rfl⟩|⟨b,fk,n,c,rfl,U,rfl,aO,bN,cv,dP⟩)|⟨b,n,c,st,rfl,U,rfl,aO,bN⟩
 ·refine⟨_,_,[j],ajc ag aF (by simp at ai;omega), .inr ⟨j,[],D,_,rfl,by simpa using bp,rfl,by simpa using aK,Zs,by rw[bh aK,bp], ?_⟩,Zs,λe I _=>aE aK I⟩
  simpa using n4 m
 ·have j6:n<=n*bl:=YR n ct
  have gg:b<j:=c2 b (Zw ..)
  refine⟨_,_,j::b::fk,aja ct ag aF Zo R (aO b (Zw ..)) cv, .inr ⟨j,b::fk,n+D,dT c (n*bl) m,rfl,by rw[ZP,U,bp,Z9],rfl, ?_, ?_, ?_, ?_⟩, ?_,λe I MJ=> ?_⟩
  ·intro e I
   rcases Zt.1 I with rfl|I
   ·exact aK
   ·exact aO e I
  ·intro az
   have:=c2 j az
   omega
  ·rw[bh aK,bp,Z9]
  ·rw[<-U];exact dP.app m
  ·intro e I
   rcases Zt.1 I with rfl|I
   ·exact .inl rfl
   ·exact .inr I
  ·simp only[Zt,YI]at MJ
   rw[aE aK I,aE (aO b (Zw ..)) MJ.1]
 ·have j6:n<=n*bl:=YR n ct
  refine⟨_,_,[j],ajb ct ag aF Zo aO bN U, .inr ⟨j,[],n+D,_,rfl,by rw[ZP,U,bp,Z9],rfl,by simpa using aK,Zs,by rw[bh aK,ZP,U,bp,Z9],n4 _⟩,Zs,λe I _=>aE aK I⟩
def gD.tG{bl:Nat}{s:H}{bC:List (List H)}{cK:List Nat}(a:gD C h s bl bC.flatten cK)(eH:0<bl)(Z:∀r∈bC,r.length=bl)(bp:bC.length<=300000){P:Nat->Prop}(aB:∀e∈cK,P e):∃b,d5 C h P b s bl bC:=by
 rcases a with a|⟨b,n,c,st,rfl,U,rfl,aO,bN⟩
 ·exact a.tG eH Z bp aB
 ·have f0:=wy Z
  have aK:n=bC.length:=Nat.eq_of_mul_eq_mul_right eH (by rw[<-U,f0])
  subst aK
  refine⟨b,λ_=>aB b (Zw ..),bp,Z,oW ..,λi aM=>by rw[FU _ aM,ZM],λi r Y v aM bH=> ?_⟩
  rw[cA,aO]
  exact(bN _).trans (Py bC Z i r Y v aM bH)
def gD.Gy{s:H}{bk:List H}{cK:List Nat}(a:gD C h s 1 bk cK){P:Nat->Prop}(bp:bk.length<=300000)(aB:∀e∈cK,P e):∃b,d5 C h P b s 1 (bk.map λv=>[v]):=by
 have cD:gD C h s 1 (bk.map λv=>[v]).flatten cK:=by rw[Xf];exact a
 exact cD.tG Zd Zs (by simpa using bp) aB
end
end
end Go.bg

namespace Go.bg
noncomputable section
structure js(G:Prop):Prop where
 W:G
def bn{dD:Prop}(a:dD:=by(simp(disch:=omega) only[sF,rr,vw,tY,sP,tZ,vr,vq,vi,sr,pY,tu,u5,nv,qn,tv,vb,vc,vd,ve,vf,u7,u9,va,vM,vQ,vR,vS,vT,vU,vV,vW,vX,vN,vO,vP,rz,vK,kC,H.cells,v2,v1,vZ,vm,uV,uT,uU,uS,uR,uW,vB,vC,uj,ui,rQ,ud,ue,oW,qo,tw,sp,eA,p2,p1,lW,zf,Ye,zg,Z6,Z7,YC,ZQ,ZI,ZC,ZO,Z4,ZU,Z0,Z1,ZF,ZM,ZR,ZD,ZB,reduceIte,Nat.reduceEqDiff,Nat.reduceAdd,Nat.reduceMul,Nat.reduceLT,Nat.reduceBEq,Yo,Z8,Yi,Yh,e2,jK,Yd,Yc,Yk,Nat.reduceLeDiff,Nat.reduceSub,ft])):dD:=a
def fN{dD:Prop}(a:dD:=by(simp(disch:=omega) only[sF,rr,vw,tY,sP,tZ,vr,vq,vi,sr,pY,tu,u5,nv,qn,tv,vb,vc,vd,ve,vf,u7,u9,va,vM,vQ,vR,vS,vT,vU,vV,vW,vX,vN,vO,vP,rz,vK,kC,H.cells,v2,v1,vZ,vm,uV,uT,uU,uS,uR,uW,vB,vC,uj,ui,rQ,ud,ue,oW,qo,tw,sp,eA,p2,p1,lW,zf,Ye,zg,Z6,Z7,YC,ZQ,ZI,ZC,ZO,Z4,ZU,Z0,Z1,ZF,ZM,ZR,ZD,ZB,reduceIte,Nat.reduceEqDiff,Nat.reduceAdd,Nat.reduceMul,Nat.reduceLT,Nat.reduceBEq,Yo,Z8,Yi,Yh,e2,jK,Yd,Yc,Yk,Nat.reduceLeDiff,Nat.reduceSub,ft]);rfl):dD:=a
def a1{dD bi:Prop}(t:bi)(a:bi->dD:=by intro t;(simp(disch:=omega) only[sF,rr,vw,tY,sP,tZ,vr,vq,vi,sr,pY,tu,u5,nv,qn,tv,vb,vc,vd,ve,vf,u7,u9,va,vM,vQ,vR,vS,vT,vU,vV,vW,vX,vN,vO,vP,rz,vK,kC,H.cells,v2,v1,vZ,vm,uV,uT,uU,uS,uR,uW,vB,vC,uj,ui,rQ,ud,ue,oW,qo,tw,sp,eA,p2,p1,lW,zf,Ye,zg,Z6,Z7,YC,ZQ,ZI,ZC,ZO,Z4,ZU,Z0,Z1,ZF,ZM,ZR,ZD,ZB,reduceIte,Nat.reduceEqDiff,Nat.reduceAdd,Nat.reduceMul,Nat.reduceLT,Nat.reduceBEq,Yo,Z8,Yi,Yh,e2,jK,Yd,Yc,Yk,Nat.reduceLeDiff,Nat.reduceSub,ft]);exact t):dD:=a t
def Xn{b8 dD:Prop}(f:b8)(a:b8->dD:=by intro f;(simp(disch:=omega) only[sF,rr,vw,tY,sP,tZ,vr,vq,vi,sr,pY,tu,u5,nv,qn,tv,vb,vc,vd,ve,vf,u7,u9,va,vM,vQ,vR,vS,vT,vU,vV,vW,vX,vN,vO,vP,rz,vK,kC,H.cells,v2,v1,vZ,vm,uV,uT,uU,uS,uR,uW,vB,vC,uj,ui,rQ,ud,ue,oW,qo,tw,sp,eA,p2,p1,lW,zf,Ye,zg,Z6,Z7,YC,ZQ,ZI,ZC,ZO,Z4,ZU,Z0,Z1,ZF,ZM,ZR,ZD,ZB,reduceIte,Nat.reduceEqDiff,Nat.reduceAdd,Nat.reduceMul,Nat.reduceLT,Nat.reduceBEq,Yo,Z8,Yi,Yh,e2,jK,Yd,Yc,Yk,Nat.reduceLeDiff,Nat.reduceSub,ft,f])):dD:=a f
def x5{dD bi:Prop}(D:js bi)(a:js bi->dD:=by intro D;(simp(disch:=omega) only[sF,rr,vw,tY,sP,tZ,vr,vq,vi,sr,pY,tu,u5,nv,qn,tv,vb,vc,vd,ve,vf,u7,u9,va,vM,vQ,vR,vS,vT,vU,vV,vW,vX,vN,vO,vP,rz,vK,kC,H.cells,v2,v1,vZ,vm,uV,uT,uU,uS,uR,uW,vB,vC,uj,ui,rQ,ud,ue,oW,qo,tw,sp,eA,p2,p1,lW,zf,Ye,zg,Z6,Z7,YC,ZQ,ZI,ZC,ZO,Z4,ZU,Z0,Z1,ZF,ZM,ZR,ZD,ZB,reduceIte,Nat.reduceEqDiff,Nat.reduceAdd,Nat.reduceMul,Nat.reduceLT,Nat.reduceBEq,Yo,Z8,Yi,Yh,e2,jK,Yd,Yc,Yk,Nat.reduceLeDiff,Nat.reduceSub,ft]);exact D.W):dD:=a D
def cH{dD bi:Prop}(D:js bi)(a:js bi->dD:=by intro D;(repeat(with_reducible first|refine gM ?_ |refine lr ?_ |refine lq ?_ |refine pm ?_ |refine Eu ?_ |refine rR ?_ |refine Gh ?_ |refine Gg ?_ |refine FX ?_ |refine FZ ?_ |refine FW ?_ |refine FY ?_ |refine F4 ?_ |refine EG ?_ |refine Ge ?_ |refine Gd ?_ |refine tb ?_ |refine ta ?_ |refine s9 ?_ |refine s8 ?_ |refine E2 ?_ |refine po ?_ |refine pn ?_ |refine Bd ?_ |refine GB ?_ |refine GC ?_ |(refine fE (hO (by(first|assumption|(simp(disch:=omega) only[bh,aE]<;>rfl)|(simp(disch:=omega) only[bh,aE]))) Zo rfl Zd Zd rfl) ?_)|((conv=>arg 1;simp(disch:=omega) only[sF,rr,vw,tY,sP,tZ,vr,vq,vi,sr,pY,tu,u5,nv,qn,tv,vb,vc,vd,ve,vf,u7,u9,va,vM,vQ,vR,vS,vT,vU,vV,vW,vX,vN,vO,vP,rz,vK,kC,H.cells,v2,v1,vZ,vm,uV,uT,uU,uS,uR,uW,vB,vC,uj,ui,rQ,ud,ue,oW,qo,tw,sp,eA,p2,p1,lW,zf,Ye,zg,Z6,Z7,YC,ZQ,ZI,ZC,ZO,Z4,ZU,Z0,Z1,ZF,ZM,ZR,ZD,ZB,reduceIte,Nat.reduceEqDiff,Nat.reduceAdd,Nat.reduceMul,Nat.reduceLT,Nat.reduceBEq,Yo,Z8,Yi,Yh,e2,jK,Yd,Yc,Yk,Nat.reduceLeDiff,Nat.reduceSub,ft]);(first|refine lr ?_ |refine lq ?_ |refine po ?_ |refine pn ?_ |refine tb ?_ |refine ta ?_ |refine s9 ?_ |refine s8 ?_))|dsimp only));exact D.W):dD:=a D
def ci{b8 dD bi:Prop}(f:b8)(D:js bi)(a:b8->js bi->dD:=by intro f D;(repeat(with_reducible first|refine gM ?_ |refine lr ?_ |refine lq ?_ |refine pm ?_ |refine Eu ?_ |refine rR ?_ |refine Gh ?_ |refine Gg ?_ |refine FX ?_ |refine FZ ?_ |refine FW ?_ |refine FY ?_ |refine F4 ?_ |refine EG ?_ |refine Ge ?_ |refine Gd ?_ |refine tb ?_ |refine ta ?_ |refine s9 ?_ |refine s8 ?_ |refine E2 ?_ |refine po ?_ |refine pn ?_ |refine Bd ?_ |refine GB ?_ |refine GC ?_ |(refine fE (hO (by(first|assumption|(simp(disch:=omega) only[bh,aE,f]<;>rfl)|(simp(disch:=omega) only[bh,aE,f]))) Zo rfl Zd Zd rfl) ?_)|((conv=>arg 1;simp(disch:=omega) only[sF,rr,vw,tY,sP,tZ,vr,vq,vi,sr,pY,tu,u5,nv,qn,tv,vb,vc,vd,ve,vf,u7,u9,va,vM,vQ,vR,vS,vT,vU,vV,vW,vX,vN,vO,vP,rz,vK,kC,H.cells,v2,v1,vZ,vm,uV,uT,uU,uS,uR,uW,vB,vC,uj,ui,rQ,ud,ue,oW,qo,tw,sp,eA,p2,p1,lW,zf,Ye,zg,Z6,Z7,YC,ZQ,ZI,ZC,ZO,Z4,ZU,Z0,Z1,ZF,ZM,ZR,ZD,ZB,reduceIte,Nat.reduceEqDiff,Nat.reduceAdd,Nat.reduceMul,Nat.reduceLT,Nat.reduceBEq,Yo,Z8,Yi,Yh,e2,jK,Yd,Yc,Yk,Nat.reduceLeDiff,Nat.reduceSub,ft,f]);(first|refine lr ?_ |refine lq ?_ |refine po ?_ |refine pn ?_ |refine tb ?_ |refine ta ?_ |refine s9 ?_ |refine s8 ?_))|dsimp only));exact D.W):dD:=a f D
def x6{dD bi:Prop}(D:js bi)(a:js bi->dD:=by intro D;(repeat(with_reducible first|refine lr ?_ |refine lq ?_ |refine pm ?_ |refine Eu ?_ |refine rR ?_ |refine Gh ?_ |refine Gg ?_ |refine FX ?_ |refine FZ ?_ |refine FW ?_ |refine FY ?_ |refine F4 ?_ |refine EG ?_ |refine Ge ?_ |refine Gd ?_ |refine tb ?_ |refine ta ?_ |refine s9 ?_ |refine s8 ?_ |refine E2 ?_ |refine po ?_ |refine pn ?_ |refine Bd ?_ |refine GB ?_ |refine GC ?_ |(refine fE (hO (by(first|assumption|(simp(disch:=omega) only[bh,aE]<;>rfl)|(simp(disch:=omega) only[bh,aE]))) Zo rfl Zd Zd rfl) ?_)|((conv=>arg 1;simp(disch:=omega) only[sF,rr,vw,tY,sP,tZ,vr,vq,vi,sr,pY,tu,u5,nv,qn,tv,vb,vc,vd,ve,vf,u7,u9,va,vM,vQ,vR,vS,vT,vU,vV,vW,vX,vN,vO,vP,rz,vK,kC,H.cells,v2,v1,vZ,vm,uV,uT,uU,uS,uR,uW,vB,vC,uj,ui,rQ,ud,ue,oW,qo,tw,sp,eA,p2,p1,lW,zf,Ye,zg,Z6,Z7,YC,ZQ,ZI,ZC,ZO,Z4,ZU,Z0,Z1,ZF,ZM,ZR,ZD,ZB,reduceIte,Nat.reduceEqDiff,Nat.reduceAdd,Nat.reduceMul,Nat.reduceLT,Nat.reduceBEq,Yo,Z8,Yi,Yh,e2,jK,Yd,Yc,Yk,Nat.reduceLeDiff,Nat.reduceSub,ft]);(first|refine lr ?_ |refine lq ?_ |refine po ?_ |refine pn ?_ |refine tb ?_ |refine ta ?_ |refine s9 ?_ |refine s8 ?_))|dsimp only));exact D.W):dD:=a D
def qW{b8 dD bi:Prop}(f:b8)(D:js bi)(a:b8->js bi->dD:=by intro f D;(repeat(with_reducible first|refine lr ?_ |refine lq ?_ |refine pm ?_ |refine Eu ?_ |refine rR ?_ |refine Gh ?_ |refine Gg ?_ |refine FX ?_ |refine FZ ?_ |refine FW ?_ |refine FY ?_ |refine F4 ?_ |refine EG ?_ |refine Ge ?_ |refine Gd ?_ |refine tb ?_ |refine ta ?_ |refine s9 ?_ |refine s8 ?_ |refine E2 ?_ |refine po ?_ |refine pn ?_ |refine Bd ?_ |refine GB ?_ |refine GC ?_ |(refine fE (hO (by(first|assumption|(simp(disch:=omega) only[bh,aE,f]<;>rfl)|(simp(disch:=omega) only[bh,aE,f]))) Zo rfl Zd Zd rfl) ?_)|((conv=>arg 1;simp(disch:=omega) only[sF,rr,vw,tY,sP,tZ,vr,vq,vi,sr,pY,tu,u5,nv,qn,tv,vb,vc,vd,ve,vf,u7,u9,va,vM,vQ,vR,vS,vT,vU,vV,vW,vX,vN,vO,vP,rz,vK,kC,H.cells,v2,v1,vZ,vm,uV,uT,uU,uS,uR,uW,vB,vC,uj,ui,rQ,ud,ue,oW,qo,tw,sp,eA,p2,p1,lW,zf,Ye,zg,Z6,Z7,YC,ZQ,ZI,ZC,ZO,Z4,ZU,Z0,Z1,ZF,ZM,ZR,ZD,ZB,reduceIte,Nat.reduceEqDiff,Nat.reduceAdd,Nat.reduceMul,Nat.reduceLT,Nat.reduceBEq,Yo,Z8,Yi,Yh,e2,jK,Yd,Yc,Yk,Nat.reduceLeDiff,Nat.reduceSub,ft,f]);(first|refine lr ?_ |refine lq ?_ |refine po ?_ |refine pn ?_ |refine tb ?_ |refine ta ?_ |refine s9 ?_ |refine s8 ?_))|dsimp only));exact D.W):dD:=a f D
def hR{dD bi:Prop}(D:js bi)(a:js bi->dD:=by intro D;(with_reducible first|refine gM ?_ |refine lr ?_ |refine lq ?_ |refine pm ?_ |refine Eu ?_ |refine rR ?_ |refine Gh ?_ |refine Gg ?_ |refine FX ?_ |refine FZ ?_ |refine FW ?_ |refine FY ?_ |refine F4 ?_ |refine EG ?_ |refine Ge ?_ |refine Gd ?_ |refine tb ?_ |refine ta ?_ |refine s9 ?_ |refine s8 ?_ |refine E2 ?_ |refine po ?_ |refine pn ?_ |refine Bd ?_ |refine GB ?_ |refine GC ?_ |(refine fE (hO (by(first|assumption|(simp(disch:=omega) only[bh,aE]<;>rfl)|(simp(disch:=omega) only[bh,aE]))) Zo rfl Zd Zd rfl) ?_)|((conv=>arg 1;simp(disch:=omega) only[sF,rr,vw,tY,sP,tZ,vr,vq,vi,sr,pY,tu,u5,nv,qn,tv,vb,vc,vd,ve,vf,u7,u9,va,vM,vQ,vR,vS,vT,vU,vV,vW,vX,vN,vO,vP,rz,vK,kC,H.cells,v2,v1,vZ,vm,uV,uT,uU,uS,uR,uW,vB,vC,uj,ui,rQ,ud,ue,oW,qo,tw,sp,eA,p2,p1,lW,zf,Ye,zg,Z6,Z7,YC,ZQ,ZI,ZC,ZO,Z4,ZU,Z0,Z1,ZF,ZM,ZR,ZD,ZB,reduceIte,Nat.reduceEqDiff,Nat.reduceAdd,Nat.reduceMul,Nat.reduceLT,Nat.reduceBEq,Yo,Z8,Yi,Yh,e2,jK,Yd,Yc,Yk,Nat.reduceLeDiff,Nat.reduceSub,ft]);(first|refine lr ?_ |refine lq ?_ |refine po ?_ |refine pn ?_ |refine tb ?_ |refine ta ?_ |refine s9 ?_ |refine s8 ?_))|dsimp only);exact D.W):dD:=a D
def s3{b8 dD bi:Prop}(f:b8)(D:js bi)(a:b8->js bi->dD:=by intro f D;(with_reducible first|refine gM ?_ |refine lr ?_ |refine lq ?_ |refine pm ?_ |refine Eu ?_ |refine rR ?_ |refine Gh ?_ |refine Gg ?_ |refine FX ?_ |refine FZ ?_ |refine FW ?_ |refine FY ?_ |refine F4 ?_ |refine EG ?_ |refine Ge ?_ |refine Gd ?_ |refine tb ?_ |refine ta ?_ |refine s9 ?_ |refine s8 ?_ |refine E2 ?_ |refine po ?_ |refine pn ?_ |refine Bd ?_ |refine GB ?_ |refine GC ?_ |(refine fE (hO (by(first|assumption|(simp(disch:=omega) only[bh,aE,f]<;>rfl)|(simp(disch:=omega) only[bh,aE,f]))) Zo rfl Zd Zd rfl) ?_)|((conv=>arg 1;simp(disch:=omega) only[sF,rr,vw,tY,sP,tZ,vr,vq,vi,sr,pY,tu,u5,nv,qn,tv,vb,vc,vd,ve,vf,u7,u9,va,vM,vQ,vR,vS,vT,vU,vV,vW,vX,vN,vO,vP,rz,vK,kC,H.cells,v2,v1,vZ,vm,uV,uT,uU,uS,uR,uW,vB,vC,uj,ui,rQ,ud,ue,oW,qo,tw,sp,eA,p2,p1,lW,zf,Ye,zg,Z6,Z7,YC,ZQ,ZI,ZC,ZO,Z4,ZU,Z0,Z1,ZF,ZM,ZR,ZD,ZB,reduceIte,Nat.reduceEqDiff,Nat.reduceAdd,Nat.reduceMul,Nat.reduceLT,Nat.reduceBEq,Yo,Z8,Yi,Yh,e2,jK,Yd,Yc,Yk,Nat.reduceLeDiff,Nat.reduceSub,ft,f]);(first|refine lr ?_ |refine lq ?_ |refine po ?_ |refine pn ?_ |refine tb ?_ |refine ta ?_ |refine s9 ?_ |refine s8 ?_))|dsimp only);exact D.W):dD:=a f D
def dM{dD:Prop}(a:dD:=by exact⟨Zo,λb ai=>by simp(disch:=omega) only[aE]⟩):dD:=a
def cM{dD bi lv kP:Prop}(bv:lv)(eM:kP)(D:js bi)(a:lv->kP->js bi->dD:=by intro bv eM D;refine ci (Za @bv @eM) ⟨?_⟩;exact D.W):dD:=a @bv @eM D
def eu{dD bi lv kP oj:Prop}(bv:lv)(eM:kP)(e3:oj)(D:js bi)(a:lv->kP->oj->js bi->dD:=by intro bv eM e3 D;refine ci (Za @bv (Za @eM @e3)) ⟨?_⟩;exact D.W):dD:=a @bv @eM @e3 D
def gp{dD bi lv kP oj tQ:Prop}(bv:lv)(eM:kP)(e3:oj)(jw:tQ)(D:js bi)(a:lv->kP->oj->tQ->js bi->dD:=by intro bv eM e3 jw D;refine ci (Za @bv (Za @eM (Za @e3 @jw))) ⟨?_⟩;exact D.W):dD:=a @bv @eM @e3 @jw D
def f7{dD bi lv kP oj tQ Ad:Prop}(bv:lv)(eM:kP)(e3:oj)(jw:tQ)(ox:Ad)(D:js bi)(a:lv->kP->oj->tQ->Ad->js bi->dD:=by intro bv eM e3 jw ox D;refine ci (Za @bv (Za @eM (Za @e3 (Za @jw @ox)))) ⟨?_⟩;exact D.W):dD:=a @bv @eM @e3 @jw @ox D
def hQ{dD bi lv kP oj tQ Ad G0:Prop}(bv:lv)(eM:kP)(e3:oj)(jw:tQ)(ox:Ad)(xZ:G0)(D:js bi)(a:lv->kP->oj->tQ->Ad->G0->js bi->dD:=by intro bv eM e3 jw ox xZ D;refine ci (Za @bv (Za @eM (Za @e3 (Za @jw (Za @ox @xZ))))) ⟨?_⟩;exact D.W):dD:=a @bv @eM @e3 @jw @ox @xZ D
def ev{dD bi lv kP oj tQ Ad G0 Ts:Prop}(bv:lv)(eM:kP)(e3:oj)(jw:tQ)(ox:Ad)(xZ:G0)(Ps:Ts)(D:js bi)(a:lv->kP->oj->tQ->Ad->G0->Ts->js bi->dD:=by intro bv eM e3 jw ox xZ Ps D;refine ci (Za @bv (Za @eM (Za @e3 (Za @jw (Za @ox (Za @xZ @Ps)))))) ⟨?_⟩;exact D.W):dD:=a @bv @eM @e3 @jw @ox @xZ @Ps D
def Ll{dD bi lv kP:Prop}(bv:lv)(eM:kP)(D:js bi)(a:lv->kP->js bi->dD:=by intro bv eM D;refine qW (Za @bv @eM) ⟨?_⟩;exact D.W):dD:=a @bv @eM D
def g7{dD bi lv kP oj:Prop}(bv:lv)(eM:kP)(e3:oj)(D:js bi)(a:lv->kP->oj->js bi->dD:=by intro bv eM e3 D;refine qW (Za @bv (Za @eM @e3)) ⟨?_⟩;exact D.W):dD:=a @bv @eM @e3 D
def aR.Zm{C:aW}{f:Nat}{xK:List H}{h:S ak}{j:Nat}{ah y9 aw:bG}(a:aR C f xK h j ah (λ_ _ _=>False))(D:∀ad T aS,ah ad T aS->y9 ad T aS):aR C f xK h j y9 aw:=a.mono D (λ_ _ _ a=>a.elim)
end
end Go.bg

namespace Go.bg
noncomputable section
open Go.RowKit (Below)
def Nr(jx:List Nat)(W:Nat->List H->Option H)(l:List (Nat×List H×H))(f:Nat)(args:List H):Option H:=bR (n8 f jx) (qt W l f args) (W f args)
section
variable{P:Program}{w:World}
def Env.aro{nm:List (String×Nat)}(iy:Ag P nm){laid:List (String×DataW Unit)}{jx:List Nat}{W:Nat->List H->Option H}{l:List (Nat×List H×H)}(a:laidMet P laid w){dK:c6}{d4:Nat->Prop}
 (cG:Env ⟨P,m8 (gX P nm laid P.globals.size).2 .nil,(gX P nm laid P.globals.size).1,W,P.globals.size⟩ w dK d4)(be:J6 l=true)
 (jP:∀x∈l,∃m,sD ⟨P,m8 (gX P nm laid P.globals.size).2 .nil,(gX P nm laid P.globals.size).1,W,P.globals.size⟩ m x.1 x.2.1=some x.2.2):
 ∃Q ae,Env ⟨P,m8 (gX P nm laid P.globals.size).2 .nil,(gX P nm laid P.globals.size).1,Nr jx W l,P.globals.size⟩ w Q ae:=by
 obtain⟨Q,ae,ar,aO⟩:=RT (g6:=Nr jx W l) iy a
 have h5:=acZ cG be jP
 refine⟨Q,ae,cG.kc,⟨λf args v bf=> ?_,λf args v bf Q mL nn=> ?_⟩,ar,aO⟩
 ·have bf:bR (n8 f jx) (qt W l f args) (W f args)=some v:=bf
  rw[fo]at bf
  split at bf
  ·exact h5.val f args v bf
  ·exact cG.g6.val f args v bf
 ·have bf:bR (n8 f jx) (qt W l f args) (W f args)=some v:=bf
  rw[fo]at bf
  split at bf
  ·exact h5.ok f args v bf Q mL nn
  ·exact cG.g6.ok f args v bf Q mL nn
end
end
end Go.bg

