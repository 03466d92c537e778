/- A part of the proof of the claim's last text: what it is used for is said there; no condition of its own. -/
import Derived.Test.YtpfajohmofnkfaaGreatDoorYk
set_option maxHeartbeats 8000000
set_option linter.unusedVariables false
set_option linter.unusedSimpArgs false
namespace Go.al
noncomputable section
section
variable{C:aX}{h:U an}{k:Nat}
theorem bq{b:Nat}{W:Option an}(a:C.bj<=b):ab C (bm C h b W) b=W:=by rw[e3 _ a,Zr rfl]
theorem aK{b x:Nat}{W:Option an}(a:C.bj<=b)(ag:x≠b):ab C (bm C h b W) x=ab C h x:=by rw[e3 _ a,Zg ag]
theorem c4(b W:Nat):ao C h (.ptr b W)=match ab C h b with|some (.cells c _ _)=>c.get W|_=>none:=by
 simp only[ao,cellsOf]
 cases ab C h b with
 |none=>rfl
 |some cJ=>cases cJ<;>rfl
theorem QB(n b W:Nat):cL C h n (.ptr b W)=match ab C h b with|some (.cells c _ _)=>(c.jL W n).map H.agg|_=>none:=by
 simp only[cL,cellsOf]
 cases ab C h b with
 |none=>rfl
 |some cJ=>
  cases cJ with
  |cells c m st=>simp only[];cases c.jL W n<;>rfl
  |_=>rfl
theorem V0(c:U H)(W:Nat):c.jL W 0=some []:=rfl
theorem oy:∀(l:List H) (c:U H) (W i:Nat),(d0 c W l).get i=if W<=i/\i<W+l.length then l[i-W]? else c.get i:=by
 intro l
 induction l with
 |nil=>intro c W i;simp[d0];intro M R;omega
 |cons I l ah=>
  intro c W i
  simp only[d0,gK]
  rw[ah,U.kf]
  by_cases M:i=W
  ·subst M
   simp
   intro a;omega
  ·by_cases R:W+1<=i/\i<W+1+l.length
   ·rw[Zr R,Zr (by simp;omega)]
    rw[show i-W=(i-(W+1))+1 by omega]
    simp
   ·rw[Zg R,Zg (λE=>M E.symm),Zg (by simp;omega)]
theorem pX{b W n:Nat}{c:U H}{st:oG}(a:C.bj<=b):ao C (bm C h b (some (.cells c n st))) (.ptr b W)=c.get W:=by
 rw[c4,bq a]
theorem sV{b x W:Nat}{cJ:Option an}(a:C.bj<=b)(ag:x≠b):ao C (bm C h b cJ) (.ptr x W)=ao C h (.ptr x W):=by
 rw[c4,c4,aK a ag]
def ob(C:aX)(h:U an)(b:Nat):Nat->Nat->Option (List H)
 |_,0=>some []
 |W,n+1=>(ao C h (.ptr b W)).bind λI=>(ob C h b (W+1) n).bind λl=>some (I::l)
theorem us{b W n:Nat}:cL C h (n+1) (.ptr b W)=(ob C h b W (n+1)).bind λl=>some (.agg l):=by
 have a:∀(c:U H) (m:Nat) (st:oG),ab C h b=some (.cells c m st)->∀n W,ob C h b W n=c.jL W n:=by
  intro c m st ai n
  induction n with
  |zero=>intro W;rfl
  |succ n ah=>
   intro W
   simp only[ob,U.jL,c4,ai,ah]
   cases c.get W with
   |none=>rfl
   |some I=>cases c.jL (W+1) n<;>rfl
 rw[QB]
 cases ai:ab C h b with
 |none=>simp[ob,c4,ai]
 |some cJ=>
  cases cJ with
  |cells c m st=>
   simp only[a c m st ai]
   cases c.jL W (n+1)<;>rfl
  |_=>simp[ob,c4,ai]
structure bB(C:aX)(h:U an)(k:Nat)(V:U an)(av:Nat):Prop where
 le:k<=av
 af:∀b,b<k->ab C V b=ab C h b
theorem bB.refl(h:U an)(k:Nat):bB C h k h k:=⟨Zj _,λ_ _=>rfl⟩
theorem bB.trans{bb aV bo:U an}{aQ bp bw:Nat}(a:bB C bb aQ aV bp)(B:bB C aV bp bo bw):bB C bb aQ bo bw:=
 ⟨Zz a.le B.le,λb ai=>(B.af b (ZI ai a.le)).trans (a.af b ai)⟩
theorem bB.fy{V:U an}{av:Nat}(a:bB C h k V av)(b W:Nat)(ai:b<k):ao C V (.ptr b W)=ao C h (.ptr b W):=by
 rw[c4,c4,a.af b ai]
theorem bB.fresh(a:C.bj<=k)(cJ:Option an):bB C h k (bm C h k cJ) (k+1):=
 ⟨Yc _,λb ai=>aK a Zo⟩
theorem bB.more{V:U an}{av n:Nat}(B:bB C h k V av)(a:av<=n):bB C h k V n:=⟨Zz B.le a,B.af⟩
theorem bB.s0{V:U an}{av cK:Nat}(B:bB C h k V av)(a:cK<=k):bB C h cK V av:=⟨Zz a B.le,λb ai=>B.af b (ZI ai a)⟩
theorem qO{b W n:Nat}{c:U H}{v:H}(a:ab C h b=some (.cells c n .own))(ai:C.bj<=b)(bc:W+1<=n)(bu:v.cells=[v])(M:o8 v=true):
 ce C h 1 (.ptr b W) v=some (bm C h b (some (.cells (c.set W (some v)) n .own))):=by
 have bF:Nat.ble (W+1) n=true:=by simpa using bc
 have cB:Nat.ble C.bj b=true:=by simpa using ai
 simp[ce,bu,q7,a,ke,kl,M,bF,cB,d0,fB,Nat.blt]
def Bw:List H->List (Nat×Nat×H)->Option (List H)
 |cells,[]=>some cells
 |cells,(off,size,v)::rest=>bC (Nat.beq v.cells.length size&&Nat.ble (off+size) cells.length) (Bw (lu cells off v.cells) rest) none
def ey(qW:List H)(c8:List (Nat×Nat×H)):Option H:=match Bw qW c8 with|some cs=>some (.agg cs)|none=>none
def dH(qW:List H)(b:Nat):Option (H×an):=some (.ptr b 0, .cells (U.ofList qW 0 .nil) qW.length .own)
def fE(len:Nat)(qW:List H)(c8:List (Nat×Nat×H))(b:Nat):Option (H×an):=match Bw qW c8 with
 |some cs=>some (.slice b 0 len len, .cells (U.ofList cs 0 .nil) cs.length .own)
 |none=>none
def tC(agg:Bool)(off size:Nat)(v:H):Option H:=match v with| .agg cs=>bC agg (some (.agg ((cs.drop off).take size))) (o6 cs off)|_=>none
def eF(v:H):Option H:=match v with| .slice _ _ n _=>o0 .i64 (Int.ofNat n)| .e5 _ _ n _=>o0 .i64 (Int.ofNat n)| .aU=>some (.int .i64 0)|_=>none
def lp(v:H):Option H:=match v with| .str s=>o0 .i64 (Int.ofNat s.length)|_=>none
def lQ(B:IntKind)(v:H):Option H:=match (match v with| .int _ n=>kE B n|_=>none)with|some v=>some v|none=>none
def ahP(v:H):Option H:=match (match v with| .str s=>some (H.str s)|_=>none)with|some v=>some v|none=>none
def yB(C:aX)(h:U an)(v:H):Option H:=match (match v with| .str s=>some (H.str s)|_=>none)with|some v=>some v|none=>Dk C h v
def Js(t:Nat)(bl:H)(ok:Bool)(v:H):Option H:=match v with
 | .nilIface=>bC ok (some (.tuple [bl, .bool false])) none
 | .iface gV w=>bC (Nat.beq gV t) (some (bC ok (.tuple [w, .bool true]) w)) (bC ok (some (.tuple [bl, .bool false])) none)
 |_=>none
def iZ(C:aX)(h:U an)(hd:Nat)(bl m B:H)(ok:Bool):Option H:=
 match (match m with
  | .kH=>bC (lP C 20 hd B) (some none) none
  | .map r=>(match ab C h r with|some (.map a2 _)=>bC (lP C 20 hd B) (findKey C h hd B a2 0) none|some (.look a2)=>bC (lP C 20 hd B) (EP (oe C h hd B a2)) none|_=>none)
  |_=>none)with
  |none=>none
  |some none=>some (bC ok (.tuple [bl, .bool false]) bl)
  |some (some (_,v))=>some (bC ok (.tuple [v, .bool true]) v)
def jY(C:aX)(h:U an)(k bd:Nat)(s x:H):Option dz:=match jR C h bd x with
 |some (n,l)=>bC (Nat.beq n 0) (Dn C h bd s) (wN C h k bd n l s)
 |none=>none
def qF(C:aX)(h:U an)(k hd:Nat)(m B v:H):Option dz:=match m with
 | .map r=>(match ab C h r with
   |some (.map a2 cw)=>bC (lP C 20 hd B) (match findKey C h hd B a2 0 with
    |some (some (i,_))=>(match o6 a2 i with
     |some (eA,_,born)=>bC (nz 20 eA B) (setObj C h k r (.map (a2.set i (B,v,born)) cw) undef) none
     |none=>none)
    |some none=>setObj C h k r (.map (a2++[(B,v,cw)]) (cw+1)) undef
    |none=>none) none
   |_=>none)
 |_=>none
def pV(agg:Bool)(n bd:Nat)(v i:H):Option H:=match m4 i with
 |none=>none
 |some i=>match v with
  | .agg cs=>bC (Nat.blt i n) (bC agg (some (.agg ((cs.drop (i*bd)).take bd))) (o6 cs (i*bd))) none
  |_=>none
def kW(v i:H):Option H:=match m4 i with
 |none=>none
 |some i=>match v with
  | .str s=>(match o6 s i with|some c=>some (.int .u8 (Int.ofNat c))|none=>none)
  |_=>none
def jQ(v:H)(bP aN:Option H):Option H:=match v with
 | .str s=>(match nd s.length s.length bP aN none with
    |some (l,a,_)=>some (.str ((s.drop l).take (a-l)))
    |none=>none)
 |_=>none
def x7(C:aX)(h:U an)(bd:Nat)(x:H)(bP aN gM:Option H):Option H:=match x with
 | .slice b W len cap=>(match nd len cap bP aN gM with
   |some (l,a,m)=>some (.slice b (bC (Nat.beq m l) W (W+l*bd)) (a-l) (m-l))
   |_=>none)
 | .aU=>(match nd 0 0 bP aN gM with
   |some _=>some .aU
   |_=>none)
 | .e5 b W len CX=>(match x6 C h b with
   |some n=>bC (Nat.beq CX bd&&Nat.blt 0 CX) (match nd len ((n-W)/CX) bP aN gM with
     |some (l,a,m)=>(match gM with
      |some _=>some (.slice b (bC (Nat.beq m l) W (W+l*CX)) (a-l) (m-l))
      |none=>bC (Nat.blt l ((n-W)/CX)||Nat.beq l 0) (some (.e5 b (W+l*CX) (a-l) CX)) none)
     |none=>none) none
   |_=>none)
 |_=>none
def Rz(n bd:Nat)(x:H)(bP aN gM:Option H):Option H:=match x with
 | .ptr b W=>(match nd n n bP aN gM with
   |some (l,a,m)=>some (.slice b (bC (Nat.beq m l) W (W+l*bd)) (a-l) (m-l))
   |_=>none)
 |_=>none
def Rn(C:aX)(h:U an)(k:Nat)(v:H):Option dz:=match v with
 | .str s=>lq C h k (.nJ s 0) λb=> .ptr b 0
 |_=>none
def Rm(C:aX)(h:U an)(k:Nat)(v:H):Option dz:=match v with
 | .kH=>lq C h k (.hz none 0 [] 0) λb=> .ptr b 0
 | .map r=>(match ab C h r with
   |some (.map _ cw)=>lq C h k (.hz (some r) cw [] cw) λb=> .ptr b 0
   |_=>none)
 |_=>none
def Mn(C:aX)(h:U an)(k:Nat)(v:H):Option dz:=match v with
 | .str l=>sA C h k l.length 1 (l.map λn=>H.int .u8 (Int.ofNat n))
 |_=>none
theorem nF{α:Type}{I:α}{aj:α->Prop}(a:aj I):D (some I) aj:=⟨a⟩
theorem nE{α:Type}{I:α}{aj:α->Prop}(a:aj I):am (some I) aj:=a
theorem Bi{I:H}{aj:bY}(a:aj (.ptr k 0) (bm C h k (some (.cells (U.ofList I.cells 0 .nil) I.cells.length .own))) (k+1)):j0 C h k I aj:=⟨a⟩
theorem EV{v:H}{cJ:an}{aj:bY}(a:aj v (bm C h k (some cJ)) (k+1)):cU C h k v cJ aj:=⟨a⟩
theorem EW{v:H}{cJ:an}{aj:bY}(a:aj v (bm C h k (some cJ)) (k+1)):cU C h k (Prod.mk v cJ).1 (Prod.mk v cJ).2 aj:=⟨a⟩
theorem ET{b:Nat}{v:H}{cJ:an}{aj:H->U an->Prop}(a:aj v (bm C h b (some cJ))):kG C h b (Prod.mk v cJ).1 (Prod.mk v cJ).2 aj:=⟨a⟩
theorem Du{b:Nat}{I:H}{aj:H->U an->Prop}(a:aj (.ptr b 0) (bm C h b (some (.cells (U.ofList I.cells 0 .nil) I.cells.length .own)))):wQ C h b I aj:=⟨a⟩
theorem ES{b:Nat}{v:H}{cJ:an}{aj:H->U an->Prop}(a:aj v (bm C h b (some cJ))):kG C h b v cJ aj:=⟨a⟩
theorem gh{dF:ga}{body:ga->Prop}(a:body dF):a7 dF body:=⟨a⟩
theorem EC{dF:bY}{body:bY->Prop}(a:body dF):aO dF body:=⟨a⟩
theorem Ez{dF:H->Prop}{body:(H->Prop)->Prop}(a:body dF):cW dF body:=⟨a⟩
theorem EA{dF:H->U an->Prop}{body:(H->U an->Prop)->Prop}(a:body dF):eb dF body:=⟨a⟩
theorem EB{dF:Prop}{body:Prop->Prop}(a:body dF):Qk dF body:=⟨a⟩
theorem EL{n:Nat}{aj:Nat->Prop}(a:aj n):fD n aj:=⟨a⟩
theorem Ff{v:H}{V:U an}{av:Nat}{aj:bY}(a:aj v V av):gn (some (.eW v V av)) h k aj:=⟨a⟩
theorem Fg{v:H}{aj:bY}(a:aj v h k):gn (some (.val v)) h k aj:=⟨a⟩
theorem oJ{I b:Prop}(a:I):ba (.bool true) I b:=⟨⟨λ_=>a,λE=>(by cases E)⟩⟩
theorem oI{I b:Prop}(a:b):ba (.bool false) I b:=⟨⟨λE=>(by cases E),λ_=>a⟩⟩
theorem sE{I b:Prop}(a:I):az true (.bool true) I b:=⟨⟨λ_=>a,λE=>(by cases E)⟩⟩
theorem sD{I b:Prop}(a:b):az true (.bool false) I b:=⟨⟨λE=>(by cases E),λ_=>a⟩⟩
theorem sC{I b:Prop}(a:b):az false (.bool true) I b:=⟨⟨λE=>(by cases E),λ_=>a⟩⟩
theorem sB{I b:Prop}(a:I):az false (.bool false) I b:=⟨⟨λ_=>a,λE=>(by cases E)⟩⟩
theorem Ew{f:Nat}{I cm b:List H}{aj aw:bY}(a:a6 C f ((I++cm)++b) h k aj aw):nx C (.func (.func f) I b) cm h k aj aw:=⟨a⟩
theorem jH{x j:H}{aj:Prop}(a:H.same 30 x j=true)(B:aj):h8 x (some j) aj:=⟨⟨a,B⟩⟩
@[congr] theorem avU{α:Type}{W o':Option α}{aj:α->Prop}(a:W=o'):D W aj=D o' aj:=by rw[a]
@[congr] theorem at7{v gO:H}{I b:Prop}(a:v=gO):ba v I b=ba gO I b:=by rw[a]
@[congr] theorem aub{f:Nat}{cm Ux:List H}{aj aw:bY}(a:cm=Ux):a6 C f cm h k aj aw=a6 C f Ux h k aj aw:=by rw[a]
theorem a6.mono{f:Nat}{cm:List H}{aj aw ye d5:bY}(a:a6 C f cm h k aj aw)(ix:∀ad V av,aj ad V av->ye ad V av)(cn:∀ad V av,aw ad V av->d5 ad V av):a6 C f cm h k ye d5:=by
 rcases a.out with ⟨ad,M,R⟩|⟨M,R,au⟩
 ·exact⟨.inl ⟨ad,M,ix _ _ _ R⟩⟩
 ·exact⟨.inr ⟨M,R,au.mono ix cn⟩⟩
theorem Oe{f cX:Nat}(a:da C f cX=true):∃fn c,C.P.funcs[f]? =some fn/\fn.body=some c:=by
 unfold da at a
 split at a
 ·rename_i fn b5
  split at a
  ·rename_i c ay;exact⟨fn,c,b5,ay⟩
  ·cases a
 ·cases a
theorem dj{f:Nat}{cm:List H}{aj aw:bY}(ay:da C f cm.length=true)(bc:C.hf f cm=none)(a:du C f cm h k aj aw):a6 C f cm h k aj aw:=
 ⟨.inr ⟨bc,Oe ay,ajl ay a⟩⟩
theorem Gc{f:Nat}{cm:List H}{aj aw:bY}{ad:H}(bc:C.hf f cm=some ad)(a:aj ad h k):a6 C f cm h k aj aw:=⟨.inl ⟨ad,bc,a⟩⟩
theorem lI(J:dw)(d n:Nat)(v:H):(ac J d v).g n=if d=n then some v else J.g n:=by show bC (Nat.beq d n) (some v) (J.g n)=_;rw[gX]
theorem qN(J:dw)(d:Nat)(v:H):(ac J d v).a8=J.a8:=rfl
theorem uM(J:dw)(d:Nat)(v:H):(ac J d v).rc=J.rc:=rfl
theorem tn(l:List H)(n:Nat):(c2 l).g n=l[n]? :=by simp[c2]
theorem sg(l:List H):(c2 l).a8=[]:=rfl
theorem to(l:List H):(c2 l).rc=false:=rfl
theorem rb(l:List Nat)(J:dw)(n:Nat):(hG l J).g n=bC (l9 n l) none (J.g n):=rfl
theorem uI(J:dw)(d:hj)(n:Nat):(AN J d).g n=J.g n:=rfl
theorem uH(J:dw)(d:hj):(AN J d).a8=d::J.a8:=rfl
theorem uC(J:dw)(d n:Nat):(uB J d).g n=J.g n:=rfl
theorem rN(J:dw)(d:Nat):(uB J d).a8=⟨.collected d,[]⟩::J.a8:=rfl
theorem Jz{f:Nat}{cm:List H}{aj aw:bY}(ay:da C f cm.length=true)(bc:C.hf f cm=none)(a:By C f cm h k aj aw):a6 C f cm h k aj aw:=
 ⟨.inr ⟨bc,Oe ay,ajm ay a⟩⟩
theorem US{f:Nat}{cm:List H}{aj aw:bY}(bc:C.hf f cm=none)(a:a6 C f cm h k aj aw):th C f cm h k aj aw:=by
 rcases a.out with ⟨ad,M,R⟩|⟨M,R,au⟩
 ·rw[bc]at M;cases M
 ·exact au
theorem Ds{p:Prop}[Decidable p]{I b:Prop}(M:p->I)(R:¬p->b):ba (.bool (decide p)) I b:=⟨λE=>M (by simpa using E),λE=>R (by simpa using E)⟩
theorem pY(b W:Nat):cL C h 2 (.ptr b W)=(ao C h (.ptr b W)).bind λly=>(ao C h (.ptr b (W+1))).bind λiQ=>some (.agg [ly,iQ]):=by
 rw[us]
 simp only[ob,ZO,Nat.reduceAdd,Yl,ZE]
theorem qA(b W:Nat):cL C h 3 (.ptr b W)=(ao C h (.ptr b W)).bind λly=>(ao C h (.ptr b (W+1))).bind λiQ=>(ao C h (.ptr b (W+2))).bind λhC=>some (.agg [ly,iQ,hC]):=by
 rw[us]
 simp only[ob,ZO,Nat.reduceAdd,Yl,ZE]
theorem sW(b W:Nat):cL C h 4 (.ptr b W)=(ao C h (.ptr b W)).bind λly=>(ao C h (.ptr b (W+1))).bind λiQ=>(ao C h (.ptr b (W+2))).bind λhC=>(ao C h (.ptr b (W+3))).bind λjT=>some (.agg [ly,iQ,hC,jT]):=by
 rw[us]
 simp only[ob,ZO,Nat.reduceAdd,Yl,ZE]
theorem uw(b W:Nat):cL C h 5 (.ptr b W)=(ao C h (.ptr b W)).bind λly=>(ao C h (.ptr b (W+1))).bind λiQ=>(ao C h (.ptr b (W+2))).bind λhC=>(ao C h (.ptr b (W+3))).bind λjT=>(ao C h (.ptr b (W+4))).bind λkQ=>some (.agg [ly,iQ,hC,jT,kQ]):=by
 rw[us]
 simp only[ob,ZO,Nat.reduceAdd,Yl,ZE]
theorem ux(b W:Nat):cL C h 6 (.ptr b W)=(ao C h (.ptr b W)).bind λly=>(ao C h (.ptr b (W+1))).bind λiQ=>(ao C h (.ptr b (W+2))).bind λhC=>(ao C h (.ptr b (W+3))).bind λjT=>(ao C h (.ptr b (W+4))).bind λkQ=>(ao C h (.ptr b (W+5))).bind λr8=>some (.agg [ly,iQ,hC,jT,kQ,r8]):=by
 rw[us]
 simp only[ob,ZO,Nat.reduceAdd,Yl,ZE]
theorem uy(b W:Nat):cL C h 7 (.ptr b W)=(ao C h (.ptr b W)).bind λly=>(ao C h (.ptr b (W+1))).bind λiQ=>(ao C h (.ptr b (W+2))).bind λhC=>(ao C h (.ptr b (W+3))).bind λjT=>(ao C h (.ptr b (W+4))).bind λkQ=>(ao C h (.ptr b (W+5))).bind λr8=>(ao C h (.ptr b (W+6))).bind λtf=>some (.agg [ly,iQ,hC,jT,kQ,r8,tf]):=by
 rw[us]
 simp only[ob,ZO,Nat.reduceAdd,Yl,ZE]
theorem uz(b W:Nat):cL C h 8 (.ptr b W)=(ao C h (.ptr b W)).bind λly=>(ao C h (.ptr b (W+1))).bind λiQ=>(ao C h (.ptr b (W+2))).bind λhC=>(ao C h (.ptr b (W+3))).bind λjT=>(ao C h (.ptr b (W+4))).bind λkQ=>(ao C h (.ptr b (W+5))).bind λr8=>(ao C h (.ptr b (W+6))).bind λtf=>(ao C h (.ptr b (W+7))).bind λvb=>some (.agg [ly,iQ,hC,jT,kQ,r8,tf,vb]):=by
 rw[us]
 simp only[ob,ZO,Nat.reduceAdd,Yl,ZE]
theorem uA(b W:Nat):cL C h 9 (.ptr b W)=(ao C h (.ptr b W)).bind λly=>(ao C h (.ptr b (W+1))).bind λiQ=>(ao C h (.ptr b (W+2))).bind λhC=>(ao C h (.ptr b (W+3))).bind λjT=>(ao C h (.ptr b (W+4))).bind λkQ=>(ao C h (.ptr b (W+5))).bind λr8=>(ao C h (.ptr b (W+6))).bind λtf=>(ao C h (.ptr b (W+7))).bind λvb=>(ao C h (.ptr b (W+8))).bind λyc=>some (.agg [ly,iQ,hC,jT,kQ,r8,tf,vb,yc]):=by
 rw[us]
 simp only[ob,ZO,Nat.reduceAdd,Yl,ZE]
theorem ut(b W:Nat):cL C h 10 (.ptr b W)=(ao C h (.ptr b W)).bind λly=>(ao C h (.ptr b (W+1))).bind λiQ=>(ao C h (.ptr b (W+2))).bind λhC=>(ao C h (.ptr b (W+3))).bind λjT=>(ao C h (.ptr b (W+4))).bind λkQ=>(ao C h (.ptr b (W+5))).bind λr8=>(ao C h (.ptr b (W+6))).bind λtf=>(ao C h (.ptr b (W+7))).bind λvb=>(ao C h (.ptr b (W+8))).bind λyc=>(ao C h (.ptr b (W+9))).bind λtg=>some (.agg [ly,iQ,hC,jT,kQ,r8,tf,vb,yc,tg]):=by
 rw[us]
 simp only[ob,ZO,Nat.reduceAdd,Yl,ZE]
theorem uu(b W:Nat):cL C h 11 (.ptr b W)=(ao C h (.ptr b W)).bind λly=>(ao C h (.ptr b (W+1))).bind λiQ=>(ao C h (.ptr b (W+2))).bind λhC=>(ao C h (.ptr b (W+3))).bind λjT=>(ao C h (.ptr b (W+4))).bind λkQ=>(ao C h (.ptr b (W+5))).bind λr8=>(ao C h (.ptr b (W+6))).bind λtf=>(ao C h (.ptr b (W+7))).bind λvb=>(ao C h (.ptr b (W+8))).bind λyc=>(ao C h (.ptr b (W+9))).bind λtg=>(ao C h (.ptr b (W+10))).bind λML=>some (.agg [ly,iQ,hC,jT,kQ,r8,tf,vb,yc,tg,ML]):=by
 rw[us]
 simp only[ob,ZO,Nat.reduceAdd,Yl,ZE]
theorem uv(b W:Nat):cL C h 12 (.ptr b W)=(ao C h (.ptr b W)).bind λly=>(ao C h (.ptr b (W+1))).bind λiQ=>(ao C h (.ptr b (W+2))).bind λhC=>(ao C h (.ptr b (W+3))).bind λjT=>(ao C h (.ptr b (W+4))).bind λkQ=>(ao C h (.ptr b (W+5))).bind λr8=>(ao C h (.ptr b (W+6))).bind λtf=>(ao C h (.ptr b (W+7))).bind λvb=>(ao C h (.ptr b (W+8))).bind λyc=>(ao C h (.ptr b (W+9))).bind λtg=>(ao C h (.ptr b (W+10))).bind λML=>(ao C h (.ptr b (W+11))).bind λatN=>some (.agg [ly,iQ,hC,jT,kQ,r8,tf,vb,yc,tg,ML,atN]):=by
 rw[us]
 simp only[ob,ZO,Nat.reduceAdd,Yl,ZE]
theorem uY(z0 a0:H):d0 (U.ofList [z0] 0 .nil) 0 [a0]=U.ofList [a0] 0 .nil:=by rfl
theorem u2(z0 fI a0 be:H):d0 (U.ofList [z0,fI] 0 .nil) 0 [a0,be]=U.ofList [a0,be] 0 .nil:=by rfl
theorem u3(z0 fI fs a0 be b2:H):d0 (U.ofList [z0,fI,fs] 0 .nil) 0 [a0,be,b2]=U.ofList [a0,be,b2] 0 .nil:=by rfl
theorem u4(z0 fI fs z3 a0 be b2 a3:H):d0 (U.ofList [z0,fI,fs,z3] 0 .nil) 0 [a0,be,b2,a3]=U.ofList [a0,be,b2,a3] 0 .nil:=by rfl
theorem u5(z0 fI fs z3 z4 a0 be b2 a3 a4:H):d0 (U.ofList [z0,fI,fs,z3,z4] 0 .nil) 0 [a0,be,b2,a3,a4]=U.ofList [a0,be,b2,a3,a4] 0 .nil:=by rfl
theorem u6(z0 fI fs z3 z4 z5 a0 be b2 a3 a4 a5:H):d0 (U.ofList [z0,fI,fs,z3,z4,z5] 0 .nil) 0 [a0,be,b2,a3,a4,a5]=U.ofList [a0,be,b2,a3,a4,a5] 0 .nil:=by rfl
theorem u7(z0 fI fs z3 z4 z5 qV a0 be b2 a3 a4 a5 hT:H):d0 (U.ofList [z0,fI,fs,z3,z4,z5,qV] 0 .nil) 0 [a0,be,b2,a3,a4,a5,hT]=U.ofList [a0,be,b2,a3,a4,a5,hT] 0 .nil:=by rfl
theorem u9(z0 fI fs z3 z4 z5 qV yd a0 be b2 a3 a4 a5 hT iv:H):d0 (U.ofList [z0,fI,fs,z3,z4,z5,qV,yd] 0 .nil) 0 [a0,be,b2,a3,a4,a5,hT,iv]=U.ofList [a0,be,b2,a3,a4,a5,hT,iv] 0 .nil:=by rfl
theorem va(z0 fI fs z3 z4 z5 qV yd oA a0 be b2 a3 a4 a5 hT iv kc:H):d0 (U.ofList [z0,fI,fs,z3,z4,z5,qV,yd,oA] 0 .nil) 0 [a0,be,b2,a3,a4,a5,hT,iv,kc]=U.ofList [a0,be,b2,a3,a4,a5,hT,iv,kc] 0 .nil:=by rfl
theorem uZ(z0 fI fs z3 z4 z5 qV yd oA z9 a0 be b2 a3 a4 a5 hT iv kc a9:H):d0 (U.ofList [z0,fI,fs,z3,z4,z5,qV,yd,oA,z9] 0 .nil) 0 [a0,be,b2,a3,a4,a5,hT,iv,kc,a9]=U.ofList [a0,be,b2,a3,a4,a5,hT,iv,kc,a9] 0 .nil:=by rfl
theorem u0(z0 fI fs z3 z4 z5 qV yd oA z9 Sg a0 be b2 a3 a4 a5 hT iv kc a9 FU:H):d0 (U.ofList [z0,fI,fs,z3,z4,z5,qV,yd,oA,z9,Sg] 0 .nil) 0 [a0,be,b2,a3,a4,a5,hT,iv,kc,a9,FU]=U.ofList [a0,be,b2,a3,a4,a5,hT,iv,kc,a9,FU] 0 .nil:=by rfl
theorem u1(z0 fI fs z3 z4 z5 qV yd oA z9 Sg atU a0 be b2 a3 a4 a5 hT iv kc a9 FU Ub:H):d0 (U.ofList [z0,fI,fs,z3,z4,z5,qV,yd,oA,z9,Sg,atU] 0 .nil) 0 [a0,be,b2,a3,a4,a5,hT,iv,kc,a9,FU,Ub]=U.ofList [a0,be,b2,a3,a4,a5,hT,iv,kc,a9,FU,Ub] 0 .nil:=by rfl
theorem r6(c:U H)(W:Nat)(v:H):(d0 c W [v]).get W=some v:=by rw[oy];simp
theorem uW{c:U H}{W i:Nat}{v:H}(a:i≠W):(d0 c W [v]).get i=c.get i:=by rw[oy,Zg (by simp;omega)]
theorem iO{b W B n:Nat}{c:U H}{v:H}(a:ab C h b=some (.cells c n .own))(ai:C.bj<=b)(aP:v.cells.length=B)(ci:0<B)(bc:W+B<=n)(M:kl v.cells=true):
 ce C h B (.ptr b W) v=some (bm C h b (some (.cells (d0 c W v.cells) n .own))):=by
 subst aP
 have cB:Nat.blt 0 v.cells.length=true:=by simp[Nat.blt];omega
 have fh:Nat.beq v.cells.length v.cells.length=true:=by simp
 have bF:Nat.ble (W+v.cells.length) n=true:=by simpa using bc
 have js:Nat.ble C.bj b=true:=by simpa using ai
 simp only[ce,q7,a,ke,js,bF,cB,fh,M,Z7,eB,gK]
theorem p2(B:IntKind)(n:Nat):m4 (.int B (n:Int))=some n:=rfl
theorem apG(B:IntKind):m4 (.int B 0)=some 0:=rfl
theorem um(B:IntKind)(x j:Int):aL .lss (.int B x) (.int B j)=some (.bool (decide (x<j))):=by
 cases B<;>simp[aL,ln,lE,k6,vp,sU]<;>(rw[ZY];simp)
theorem uk(B:IntKind)(x j:Int):aL .gtr (.int B x) (.int B j)=some (.bool (decide (j<x))):=by
 cases B<;>simp[aL,ln,lE,k6,vp,sU]<;>(rw[ZY];simp)
theorem ul(B:IntKind)(x j:Int):aL .leq (.int B x) (.int B j)=some (.bool (decide (x<=j))):=by
 cases B<;>simp[aL,ln,lE,k6,vp,sU]<;>(rw[ZY];simp)
theorem uj(B:IntKind)(x j:Int):aL .geq (.int B x) (.int B j)=some (.bool (decide (j<=x))):=by
 cases B<;>simp[aL,ln,lE,k6,vp,sU]<;>(rw[ZY];simp)
theorem ui(B:IntKind)(x j:Int):aL .eql (.int B x) (.int B j)=some (.bool (decide (x=j))):=by
 cases B<;>simp[aL,ln,lE,k6,vp,HQ]
theorem un(B:IntKind)(x j:Int):aL .neq (.int B x) (.int B j)=some (.bool (decide (x≠j))):=by
 cases B<;>simp[aL,ln,lE,k6,vp,HQ]
theorem wrap64{n:Int}(M: -9223372036854775808<=n)(R:n<9223372036854775808):ox .i64 n=n:=by
 simp only[ox,fB,Zh]
 split<;>omega
theorem eQ{x j:Int}(M: -9223372036854775808<=x+j)(R:x+j<9223372036854775808):aL .add (.int .i64 x) (.int .i64 j)=some (.int .i64 (x+j)):=by
 simp[aL,ln,lE,k6,kE,wrap64 M R]
theorem Ai{x j:Int}(M: -9223372036854775808<=x-j)(R:x-j<9223372036854775808):aL .sub (.int .i64 x) (.int .i64 j)=some (.int .i64 (x-j)):=by
 simp[aL,ln,lE,k6,kE,wrap64 M R]
theorem ν(x j:Int):aL .add (.int .u64 x) (.int .u64 j)=some (.int .u64 ((x+j)%18446744073709551616)):=by
 simp[aL,ln,lE,k6,kE,ox]
theorem Lr{bd b W len cap i:Nat}(B:IntKind)(a:i<len):fp bd (.slice b W len cap) (.int B (i:Int))=some (.ptr b (W+i*bd)):=by
 simp[fp,p2,A1,fB,Nat.blt,a];omega
theorem Ls{bd b W len cap i:Nat}(B:IntKind)(a:i<len):fp bd (.e5 b W len cap) (.int B (i:Int))=some (.ptr b (W+i*bd)):=by
 simp[fp,p2,A1,fB,Nat.blt,a];omega
theorem ve(d b W:Nat):bf d (.ptr b W)=some (.ptr b (W+d)):=rfl
theorem vc(i:Nat)(l:List H):c9 i (.tuple l)=l[i]? :=by simp[c9]
theorem vd(b W:Nat):cz (.ptr b W)=some (.ptr b W):=rfl
theorem uF(b:Bool):fT .not (.bool b)=some (.bool (!b)):=by simp[fT,vp]
def wF(c:U H)(l:List H):Prop:=∀i,c.get i=l[i]?
theorem o1(l:List H):wF (U.ofList l 0 .nil) l:=λi=>kk l i
theorem wF.app{c:U H}{l:List H}(a:wF c l)(m:List H):wF (d0 c l.length m) (l++m):=by
 intro i
 rw[oy]
 by_cases M:l.length<=i/\i<l.length+m.length
 ·rw[Zr M,ZU M.1]
 ·rw[Zg M,a i]
  by_cases R:i<l.length
  ·rw[Z5 R]
  ·rw[Z3 Zo,Z3 (by simp;omega)]
end
end
end Go.al

namespace Go.al
noncomputable section
section
variable{C:aX}{h:U an}{k:Nat}
theorem ml{I b:Nat}(a:I<=b):Nat.ble I b=true:=by simpa using a
def kb(C:aX)(h:U an)(s:H)(bd:Nat)(l:List H)(db:List Nat):Prop:=
 (s= .aU/\l=[]/\db=[])\/∃b fb n c,s= .e5 b 0 n bd/\l.length=n*bd/\db=b::fb/\(∀x∈db,C.bj<=x)/\b∉fb/\ab C h b=some (.cells c (n*bd) (.grow fb))/\wF c l
theorem kb.af{V:U an}{s:H}{bd:Nat}{l:List H}{db:List Nat}(a:kb C h s bd l db)(aP:∀j∈db,ab C V j=ab C h j):kb C V s bd l db:=by
 rcases a with a|⟨b,fb,n,c,M,R,au,aM,bA,cr,dM⟩
 ·exact .inl a
 ·exact .inr ⟨b,fb,n,c,M,R,au,aM,bA,by rw[aP b (by rw[au];exact Zq ..)];exact cr,dM⟩
theorem s9{bd B b n:Nat}{l:List H}{c:U H}{st:oG}(a:ab C h b=some (.cells c n st))(ay:wF c l)(aE:l.length=B*bd)(cap:Nat):jR C h bd (.slice b 0 B cap)=some (B,l):=by
 have bV:∀(m W:Nat),W+m<=l.length->c.jL W m=some ((l.drop W).take m):=by
  intro m
  induction m with
  |zero=>intro W _;simp[U.jL]
  |succ m ah=>
   intro W bc
   have M:c.get W=some l[W]:=by rw[ay W,Zf Zo]
   simp only[U.jL,M,ah (W+1) Zo]
   rw[ZA (by omega:W<l.length),ZZ]
 simp only[jR,k9,cellsOf,a]
 rw[bV (B*bd) 0 Zo]
 simp[<-aE]
theorem f8{b:ga->ga}{J:dw}{h:U an}{k:Nat}(lM:Nat->ga)(m:Nat)(ci:lM m J h k)(a:∀m J h k,lM m J h k->b (λJ h k=>∃fY,fY<m/\lM fY J h k) J h k):fO b J h k:=⟨⟨lM,⟨m,ci⟩,a⟩⟩
theorem VZ{c:U H}{l:List H}(ay:wF c l):∀(m W:Nat),W+m<=l.length->c.jL W m=some ((l.drop W).take m):=by
 intro m
 induction m with
 |zero=>intro W _;simp[U.jL]
 |succ m ah=>
  intro W bc
  have M:c.get W=some l[W]:=by rw[ay W,Zf Zo]
  simp only[U.jL,M,ah (W+1) Zo]
  rw[ZA (by omega:W<l.length),ZZ]
theorem w4{bd:Nat}:∀{b6:List (List H)},(∀r∈b6,r.length=bd)->b6.flatten.length=b6.length*bd:=by
 intro b6
 induction b6 with
 |nil=>intro _;simp
 |cons I l ah=>
  intro a
  rw[Yp,ZQ,a I (Zq ..),ah (λr S=>a r (Zn _ S)),ZC,Yb]
  omega
end
end
end Go.al

namespace Go.bh
abbrev a1:=List Nat
structure iu where
 b:Bool
 s:Bool
 w:Int
 deriving DecidableEq
structure Tok where
 kind:Int
 text:a1
 at_:Int
 n:Int
 ty:iu
inductive bM where
 |mk (kind at_:Int) (name:a1) (no:Bool) (ty:iu) (n:Int) (args:List bM)
structure el where
 name:a1
 at_:Int
 ty:iu
 on:a1
 fP:Int
 no:Bool
structure fg where
 left:List a1
 cM:List Int
 at_:Int
 right:bM
structure Node where
 name:a1
 at_:Int
 eM:List el
 out:List el
 loc:List el
 eqs:List fg
def dA:iu:=⟨false,false,0⟩
def bM.kind:bM->Int| .mk B _ _ _ _ _ _=>B
def bM.args:bM->List bM| .mk _ _ _ _ _ _ l=>l
abbrev fR(α:Type):=Option (Except Int (α×List Tok))
def ok{α:Type}(I:α)(l:List Tok):fR α:=some (.ok (I,l))
def bad{α:Type}(at_:Int):fR α:=some (.error at_)
def andThen{α er:Type}(x:fR α)(f:α->List Tok->fR er):fR er:=match x with
 |none=>none
 |some (.error I)=>some (.error I)
 |some (.ok (I,l))=>f I l
def hA(x:Tok)(s:a1):Bool:=(x.kind=2||x.kind=6)&&x.text=s
def lw(s:a1):List Tok->Option (Option Tok×List Tok)
 |[]=>none
 |x::l=>if hA x s then some (some x,l)else some (none,x::l)
def hZ{er:Type}(s:a1)(l:List Tok)(f:Option Tok->List Tok->fR er):fR er:=match lw s l with
 |none=>none
 |some (x,l)=>f x l
def ei(s:a1):List Tok->fR Tok
 |[]=>none
 |x::l=>if hA x s then ok x l else bad x.at_
def io(B:Int):List Tok->fR Tok
 |[]=>none
 |x::l=>if x.kind=B then ok x l else bad x.at_
def aq:Nat->List (a1×Int)
 |0=>[([111,114],7),([120,111,114],8)]
 |1=>[([97,110,100],9)]
 |2=>[([61],10),([60,62],11),([60,61],13),([62,61],15),([60],12),([62],14)]
 |3=>[([43],16),([45],17)]
 |4=>[([42],18)]
 |_=>[]
def nS:List (a1×Int)->List Tok->Option (Option bM×List Tok)
 |[],l=>some (none,l)
 |(s,B)::os,l=>match lw s l with
  |none=>none
  |some (some x,l)=>some (some (.mk B x.at_ [] false dA 0 []),l)
  |some (none,l)=>nS os l
def bM.at_:bM->Int| .mk _ I _ _ _ _ _=>I
def sZ(E:bM):Option Bool:=if E.kind=1 then some true else if E.kind=4 then(match E.args with|[]=>none|I::_=>some (decide (I.kind=1)))else some false
def bM.name:bM->a1| .mk _ _ s _ _ _ _=>s
def bM.no:bM->Bool| .mk _ _ _ b _ _ _=>b
def bM.ty:bM->iu| .mk _ _ _ _ t _ _=>t
def bM.n:bM->Int| .mk _ _ _ _ _ n _=>n
def two(E:bM)(I b:bM):bM:= .mk E.kind E.at_ [] false dA 0 [I,b]
def xX:List (a1×Int):=[([110,111,116],3),([45],4),([112,114,101],5)]
mutual
def level:Nat->Nat->List Tok->fR bM
 |0,_,_=>none
 |n+1,B,l=>if B=5 then shift n l else andThen (level n (B+1) l) λleft l=>oc n B left l
def oc:Nat->Nat->bM->List Tok->fR bM
 |0,_,_,_=>none
 |n+1,B,left,l=>match nS (aq B) l with
  |none=>none
  |some (none,l)=>ok left l
  |some (some E,l)=>andThen (level n (B+1) l) λr l=>if B=2 then ok (two E left r) l else oc n B (two E left r) l
def shift:Nat->List Tok->fR bM
 |0,_=>none
 |n+1,l=>andThen (wn n l) λleft l=>oq n left l
def oq:Nat->bM->List Tok->fR bM
 |0,_,_=>none
 |n+1,left,l=>hZ [60,60] l λx l=>match x with
  |some x=>ot n 19 x left l
  |none=>hZ [62,62] l λx l=>match x with
   |some x=>ot n 20 x left l
   |none=>ok left l
def ot:Nat->Int->Tok->bM->List Tok->fR bM
 |0,_,_,_,_=>none
 |n+1,B,x,left,l=>andThen (io 4 l) λm l=>if 63<m.n then bad m.at_ else oq n (.mk B x.at_ [] false dA m.n [left]) l
def wn:Nat->List Tok->fR bM
 |0,_=>none
 |n+1,l=>match nS xX l with
  |none=>none
  |some (some E,l)=>andThen (wn n l) λI l=>ok (.mk E.kind E.at_ [] false dA 0 [I]) l
  |some (none,l)=>andThen (part n l) λleft l=>mK n left l
def mK:Nat->bM->List Tok->fR bM
 |0,_,_=>none
 |n+1,left,l=>hZ [119,104,101,110] l λx l=>match x with
  |none=>ok left l
  |some x=>hZ [110,111,116] l λno l=>andThen (io 1 l) λc l=>mK n (.mk 6 x.at_ c.text no.isSome dA 0 [left]) l
def part:Nat->List Tok->fR bM
 |0,_=>none
 |_+1,[]=>none
 |n+1,x::l=>
  if x.kind=5 then ok (.mk 1 x.at_ [] false x.ty x.n []) l
  else if x.kind=2&&(x.text=[116,114,117,101]||x.text=[102,97,108,115,101])then ok (.mk 1 x.at_ [] false ⟨true,false,1⟩ (if x.text=[116,114,117,101]then 1 else 0) []) l
  else if x.kind=1 then hZ [40] l λj l=>match j with
   |none=>ok (.mk 2 x.at_ x.text false dA 0 []) l
   |some _=>andThen (list n l) λcm l=>ok (.mk 25 x.at_ x.text false dA 0 cm) l
  else if x.kind=3 then andThen (ei [40] l) λ_ l=>andThen (arrow n l) λE l=>andThen (ei [41] l) λ_ l=>ok (.mk 26 x.at_ [] false x.ty 0 [E]) l
  else if x.kind=6&&x.text=[40]then andThen (arrow n l) λE l=>andThen (ei [41] l) λ_ l=>ok E l
  else if x.kind=2&&x.text=[105,102]then andThen (arrow n l) λc l=>andThen (ei [116,104,101,110] l) λ_ l=>andThen (arrow n l) λI l=>andThen (ei [101,108,115,101] l) λ_ l=>andThen (arrow n l) λb l=>ok (.mk 23 x.at_ [] false dA 0 [c,I,b]) l
  else if x.kind=2&&x.text=[109,101,114,103,101]then andThen (io 1 l) λc l=>andThen (part n l) λI l=>andThen (part n l) λb l=>ok (.mk 24 x.at_ c.text false dA 0 [I,b]) l
  else bad x.at_
def list:Nat->List Tok->fR (List bM)
 |0,_=>none
 |n+1,l=>hZ [41] l λj l=>match j with
  |some _=>ok [] l
  |none=>andThen (arrow n l) λE l=>od n [E] l
def od:Nat->List bM->List Tok->fR (List bM)
 |0,_,_=>none
 |n+1,cm,l=>hZ [44] l λj l=>match j with
  |none=>andThen (ei [41] l) λ_ l=>ok cm l
  |some _=>andThen (arrow n l) λE l=>od n (cm++[E]) l
def lh:Nat->List Tok->fR bM
 |0,_=>none
 |n+1,l=>andThen (level n 0 l) λleft l=>hZ [102,98,121] l λx l=>match x with
  |none=>ok left l
  |some x=>match sZ left with
   |none=>none
   |some true=>andThen (lh n l) λr l=>ok (.mk 21 x.at_ [] false dA 0 [left,r]) l
   |some false=>bad x.at_
def arrow:Nat->List Tok->fR bM
 |0,_=>none
 |n+1,l=>andThen (lh n l) λleft l=>hZ [45,62] l λx l=>match x with
  |none=>ok left l
  |some x=>andThen (arrow n l) λr l=>ok (.mk 22 x.at_ [] false dA 0 [left,r]) l
end
def qG:Nat->List Tok->List Tok->fR (List Tok)
 |0,_,_=>none
 |n+1,cm,l=>andThen (io 1 l) λx l=>hZ [44] l λj l=>match j with
  |none=>ok (cm++[x]) l
  |some _=>qG n (cm++[x]) l
def oO(ty:iu)(on:a1)(fP:Int)(no:Bool)(x:Tok):el:=⟨x.text,x.at_,ty,on,fP,no⟩
def ya:Nat->List Tok->Option a1
 |_,[]=>none
 |0,x::_=>some x.text
 |i+1,_::l=>ya i l
def wV(loc:Bool)(B:List el->List Tok->fR (List el))(ds:List el)(l:List Tok):fR (List el):=match ya 0 l with
 |none=>none
 |some s=>if s=[59]then(if loc then(match ya 1 l with
   |none=>none
   |some s=>if s=[108,101,116]then ok ds l else B ds (l.drop 1))else B ds (l.drop 1))
  else ok ds l
def yC(w:Option Tok)(l:List Tok):fR (a1×Int×Bool):=match w with
 |none=>ok ([],0,false) l
 |some _=>hZ [110,111,116] l λno l=>andThen (io 1 l) λon l=>ok (on.text,on.at_,no.isSome) l
def Bp(loc:Bool)(B:List el->List Tok->fR (List el))(ds:List el)(ch:List Tok)(l:List Tok):fR (List el):=
 andThen (ei [58] l) λ_ l=>andThen (io 3 l) λt l=>hZ [119,104,101,110] l λw l=>
 andThen (yC w l) λr l=>wV loc B (ds++ch.map (oO t.ty r.1 r.2.1 r.2.2)) l
def iG:Nat->Bool->List el->List Tok->fR (List el)
 |0,_,_,_=>none
 |n+1,loc,ds,l=>andThen (qG n [] l) λch l=>Bp loc (iG n loc) ds ch l
def tz(n:Nat)(l:List Tok):fR fg:=hZ [40] l λj l=>
 andThen (match j with
  |some _=>andThen (io 1 l) λx l=>andThen (ei [44] l) λ_ l=>andThen (qG n [x] l) λch l=>andThen (ei [41] l) λ_ l=>ok ch l
  |none=>andThen (io 1 l) λx l=>ok [x] l) λch l=>
 andThen (ei [61] l) λE l=>andThen (arrow n l) λr l=>andThen (ei [59] l) λ_ l=>ok ⟨ch.map Tok.text,ch.map Tok.at_,E.at_,r⟩ l
def lf:Nat->List fg->List Tok->fR (List fg)
 |0,_,_=>none
 |n+1,de,l=>hZ [116,101,108] l λj l=>match j with
  |some _=>ok de l
  |none=>andThen (tz n l) λar l=>lf n (de++[ar]) l
def node(n:Nat)(l:List Tok):fR Node:=
 andThen (ei [110,111,100,101] l) λ_ l=>andThen (io 1 l) λx l=>andThen (ei [40] l) λ_ l=>hZ [41] l λj l=>
 andThen (match j with
  |some _=>ok [] l
  |none=>andThen (iG n false [] l) λds l=>andThen (ei [41] l) λ_ l=>ok ds l) λeM l=>
 andThen (ei [114,101,116,117,114,110,115] l) λ_ l=>andThen (ei [40] l) λ_ l=>andThen (iG n false [] l) λout l=>andThen (ei [41] l) λ_ l=>
 hZ [118,97,114] l λj l=>andThen (match j with
  |some _=>andThen (iG n true [] l) λds l=>andThen (ei [59] l) λ_ l=>ok ds l
  |none=>ok [] l) λloc l=>
 andThen (ei [108,101,116] l) λ_ l=>andThen (lf n [] l) λde l=>ok ⟨x.text,x.at_,eM,out,loc,de⟩ l
def nodes:Nat->List Node->List Tok->fR (List Node)
 |0,_,_=>none
 |n+1,aC,l=>andThen (node n l) λg l=>match l with
  |[]=>none
  |x::_=>if x.kind=7 then ok (aC++[g]) l else nodes n (aC++[g]) l
end Go.bh

namespace Go.al
noncomputable section
open Go.bh
section
variable{C:aX}{h V bb:U an}{k av aQ:Nat}
theorem qh{qW:List H}{aj:bY}(a:aj (.ptr k 0) (bm C h k (some (.cells (U.ofList qW 0 .nil) qW.length .own))) (k+1)):D (dH qW k) λr=>cU C h k r.1 r.2 aj:=⟨⟨a⟩⟩
theorem Dm{b:Nat}{qW:List H}{aj:H->U an->Prop}(a:aj (.ptr b 0) (bm C h b (some (.cells (U.ofList qW 0 .nil) qW.length .own)))):D (dH qW b) λr=>kG C h b r.1 r.2 aj:=⟨⟨a⟩⟩
theorem ps(cs:List H):Bw cs []=some cs:=rfl
theorem pr(cs:List H)(off size:Nat)(v:H)(c8:List (Nat×Nat×H)):Bw cs ((off,size,v)::c8)=if v.cells.length=size/\off+size<=cs.length then Bw (lu cs off v.cells) c8 else none:=by
 have E:∀I b:Nat,(Nat.beq I b=true)=(I=b):=λI b=>propext ⟨Zi,λa=>by subst a;exact Y6 I⟩
 simp only[Bw,fB,Zk,E,Nat.ble_eq]
theorem r7(c:U H)(W:Nat)(v:H):d0 c W [v]=c.set W (some v):=by simp[d0]
theorem bW{b n:Nat}{c:U H}{st:oG}(a:ab C h b=some (.cells c n st))(W:Nat):ao C h (.ptr b W)=c.get W:=by rw[c4,a]
theorem DM{w:Bool}{I b:Prop}(a:b):az w al.undef I b:=⟨a⟩
theorem o3(b W n c:Nat):eF (.slice b W n c)=some (.int .i64 (n:Int)):=by simp[eF,o0]
theorem qC(b W n c:Nat):eF (.e5 b W n c)=some (.int .i64 (n:Int)):=by simp[eF,o0]
theorem sX:eF .aU=some (.int .i64 0):=rfl
theorem rL(s:List Nat):lp (.str s)=some (.int .i64 (s.length:Int)):=by simp[lp,o0]
theorem Ct:∀I b:List Nat,mb I b=decide (I=b):=by
 intro I
 induction I with
 |nil=>intro b;cases b<;>simp[mb]
 |cons x I ah=>
  intro b
  cases b with
  |nil=>simp[mb]
  |cons j b=>
   simp only[mb,ah]
   by_cases a:x=j<;>simp[a]
theorem uP(t:Nat)(sp:Bool)(I b:List Nat):dn C h .eql t sp (.str I) (.str b)=some (.bool (decide (I=b))):=by
 simp[dn,ys,vp,Ct]
theorem uQ(t:Nat)(sp:Bool)(I b:List Nat):dn C h .neq t sp (.str I) (.str b)=some (.bool (decide (I≠b))):=by
 simp[dn,ys,vp,Ct]
theorem tE(off bd:Nat)(cs:List H):tC false off bd (.agg cs)=cs[off]? :=by simp[tC,fB]
theorem tD(off bd:Nat)(cs:List H):tC true off bd (.agg cs)=some (.agg ((cs.drop off).take bd)):=by simp[tC,fB]
theorem sh(t:Nat)(bl v:H):Js t bl true (.iface t v)=some (.tuple [v, .bool true]):=by simp[Js,fB]
theorem tu(B:IntKind)(x:Int):lQ .u64 (.int B x)=some (.int .u64 (x%18446744073709551616)):=by simp[lQ,kE,ox]
theorem U4{B:IntKind}{x:Int}(M: -9223372036854775808<=x)(R:x<9223372036854775808):lQ .i64 (.int B x)=some (.int .i64 x):=by simp[lQ,kE,wrap64 M R]
theorem tv(s:List Nat):ahP (.str s)=some (.str s):=rfl
structure cu(C:aX)(X:List Nat)(h:U an)(k:Nat)(V:U an)(av:Nat):Prop where
 le:k<=av
 af:∀b,b<k->b∉X->ab C V b=ab C h b
theorem cu.refl(X:List Nat)(h:U an)(k:Nat):cu C X h k h k:=⟨Zj _,λ_ _ _=>rfl⟩
theorem cu.trans{X:List Nat}{bb aV bo:U an}{aQ bp bw:Nat}(a:cu C X bb aQ aV bp)(B:cu C X aV bp bo bw):cu C X bb aQ bo bw:=
 ⟨Zz a.le B.le,λb ai ag=>(B.af b (ZI ai a.le) ag).trans (a.af b ai ag)⟩
theorem cu.of{X:List Nat}(a:bB C h k V av):cu C X h k V av:=⟨a.le,λb ai _=>a.af b ai⟩
theorem cu.fy{X:List Nat}(a:cu C X h k V av)(b W:Nat)(ai:b<k)(ag:b∉X):ao C V (.ptr b W)=ao C h (.ptr b W):=by rw[c4,c4,a.af b ai ag]
theorem cu.down{X nc:List Nat}{bj:Nat}(a:cu C X h k V av)(aS:bj<=k)(ag:∀b∈X,b∈nc\/bj<=b):cu C nc h bj V av:=
 ⟨Zz aS a.le,λb ai T=>a.af b Zo (λE=>by rcases ag b E with a|a;exact T a;omega)⟩
structure ej(C:aX)(h:U an)(P:Nat->Prop)(b:Nat)(bx:H)(bd:Nat)(b6:List (List H)):Prop where
 ai:b6≠[]->P b
 many:b6.length<=300000
 wide:∀r∈b6,r.length=bd
 len:eF bx=some (.int .i64 (b6.length:Int))
 ik:∀(i:Nat),i<b6.length->fp bd bx (.int .i64 (i:Int))=some (.ptr b (i*bd))
 cell:∀(i:Nat) r (aa:Nat) v,b6[i]? =some r->r[aa]? =some v->ao C h (.ptr b (i*bd+aa))=some v
theorem ej.af{P:Nat->Prop}{b bd:Nat}{bx:H}{b6:List (List H)}(a:ej C h P b bx bd b6)(B:∀j,P j->ab C V j=ab C h j):ej C V P b bx bd b6:=
 ⟨a.ai,a.many,a.wide,a.len,a.ik,λi r aa v aN bK=>by
  have aP:=B b (a.ai (λE=>by rw[E]at aN;cases aN))
  rw[c4,aP, <-c4];exact a.cell i r aa v aN bK⟩
theorem ej.lift{P bR:Nat->Prop}{b bd:Nat}{bx:H}{b6:List (List H)}(a:ej C h P b bx bd b6)(B:∀j,P j->bR j):ej C h bR b bx bd b6:=
 ⟨λE=>B _ (a.ai E),a.many,a.wide,a.len,a.ik,a.cell⟩
theorem VY{c:U H}:∀(r:List H) (W:Nat),(∀aa v,r[aa]? =some v->c.get (W+aa)=some v)->c.jL W r.length=some r:=by
 intro r
 induction r with
 |nil=>intro W _;rfl
 |cons I r ah=>
  intro W a
  have ci:=a 0 I rfl
  rw[ZS]at ci
  have M:=ah (W+1) (λaa v bK=>by have:=a (aa+1) v (by simpa using bK);rw[Nat.add_right_comm];simpa[ZO,Nat.add_comm,Nat.add_left_comm]using this)
  simp[U.jL,ci,M]
theorem ej.row{P:Nat->Prop}{b bd:Nat}{bx:H}{b6:List (List H)}(a:ej C h P b bx bd b6)(aH:0<bd){i:Nat}{r:List H}(aN:b6[i]? =some r):cL C h bd (.ptr b (i*bd))=some (.agg r):=by
 have aE:=a.wide r (Zp aN)
 have ci:∃v,r[0]? =some v:=by
  cases r with
  |nil=>simp at aE;omega
  |cons I l=>exact⟨I,rfl⟩
 obtain⟨v,bu⟩:=ci
 have ay:=a.cell i r 0 v aN bu
 rw[c4]at ay
 rw[QB]
 split at ay
 ·rename_i c _ _ ai
  have:=VY (c:=c) r (i*bd) (λaa v bK=>by
   have:=a.cell i r aa v aN bK
   rw[c4,ai]at this
   exact this)
  rw[aE]at this
  rw[this];rfl
 ·cases ay
theorem Oc{bd:Nat}:∀(b6:List (List H)),(∀r∈b6,r.length=bd)->∀(i:Nat) r (aa:Nat) v,b6[i]? =some r->r[aa]? =some v->b6.flatten[i*bd+aa]? =some v:=by
 intro b6
 induction b6 with
 |nil=>intro _ i r aa v aN;simp at aN
 |cons I l ah=>
  intro S i r aa v aN bK
  have aG:=S I (Zq ..)
  have rA:aa<r.length:=(Zc.1 bK).1
  cases i with
  |zero=>
   simp at aN;subst aN
   rw[Yp,zj,ZH,Z5 Zo];exact bK
  |succ i=>
   simp at aN
   rw[Yp,ZU (by rw[aG,Yb];omega),aG]
   have:(i+1)*bd+aa-bd=i*bd+aa:=by rw[Yb];omega
   rw[this]
   exact ah (λr lD=>S r (Zn _ lD)) i r aa v aN bK
theorem kb.AQ{bd:Nat}{s:H}{b6:List (List H)}{db:List Nat}(a:kb C h s bd b6.flatten db)(eg:0<bd)(S:∀r∈b6,r.length=bd)(bi:b6.length<=300000){P:Nat->Prop}(aE:∀j∈db,P j):∃b,ej C h P b s bd b6:=by
 have gz:=w4 S
 have ab:∀(b6:List (List H)),(∀r∈b6,r.length=bd)->∀(i:Nat) r (aa:Nat) v,b6[i]? =some r->r[aa]? =some v->b6.flatten[i*bd+aa]? =some v:=by
  intro b6
  induction b6 with
  |nil=>intro _ i r aa v aN;simp at aN
  |cons I l ah=>
   intro S i r aa v aN bK
   have aG:=S I (Zq ..)
   have rA:aa<r.length:=(Zc.1 bK).1
   cases i with
   |zero=>
    simp at aN;subst aN
    rw[Yp,zj,ZH,Z5 Zo];exact bK
   |succ i=>
    simp at aN
    rw[Yp,ZU (by rw[aG,Yb];omega),aG]
    have:(i+1)*bd+aa-bd=i*bd+aa:=by rw[Yb];omega
    rw[this]
    exact ah (λr lD=>S r (Zn _ lD)) i r aa v aN bK
 rcases a with ⟨M,R,au⟩|⟨b,fb,n,c,M,R,au,aM,bA,cr,dM⟩
 ·have PA:b6.length=0:=by
   rw[R,ZR]at gz
   rcases Nat.mul_eq_zero.1 gz.symm with a|a
   ·exact a
   ·omega
  have PA:b6=[]:=Y4.1 PA
  subst PA M
  exact⟨0,λE=>absurd rfl E,Zs,S,rfl,λi aN=>by simp at aN,λi r aa v aN=>by simp at aN⟩
 ·have aS:n=b6.length:=Nat.eq_of_mul_eq_mul_right eg (by rw[<-R,gz])
  subst aS M
  refine⟨b,λ_=>aE b (by rw[au];exact Zq ..),bi,S,qC ..,λi aN=>by rw[Ls _ aN,ZH],λi r aa v aN bK=> ?_⟩
  rw[c4,cr]
  exact(dM _).trans (ab b6 S i r aa v aN bK)
theorem Me{b bd B cap:Nat}{b6:List (List H)}{st:oG}(ai:ab C h b=some (.cells (U.ofList b6.flatten 0 .nil) (B*bd) st))(aP:b6.length=B)(S:∀r∈b6,r.length=bd)(bi:B<=300000){P:Nat->Prop}(co:P b):ej C h P b (.slice b 0 B cap) bd b6:=by
 subst aP
 have ab:∀(b6:List (List H)),(∀r∈b6,r.length=bd)->∀(i:Nat) r (aa:Nat) v,b6[i]? =some r->r[aa]? =some v->b6.flatten[i*bd+aa]? =some v:=by
  intro b6
  induction b6 with
  |nil=>intro _ i r aa v aN;simp at aN
  |cons I l ah=>
   intro S i r aa v aN bK
   have aG:=S I (Zq ..)
   have rA:aa<r.length:=(Zc.1 bK).1
   cases i with
   |zero=>
    simp at aN;subst aN
    rw[Yp,zj,ZH,Z5 Zo];exact bK
   |succ i=>
    simp at aN
    rw[Yp,ZU (by rw[aG,Yb];omega),aG]
    have:(i+1)*bd+aa-bd=i*bd+aa:=by rw[Yb];omega
    rw[this]
    exact ah (λr lD=>S r (Zn _ lD)) i r aa v aN bK
 refine⟨λ_=>co,bi,S,o3 ..,λi aN=>by rw[Lr _ aN,ZH],λi r aa v aN bK=> ?_⟩
 rw[c4,ai]
 exact(kk _ _).trans (ab b6 S i r aa v aN bK)
def lx(t:iu):List H:=[.bool t.b, .bool t.s, .int .i64 t.w]
def FL(C:aX)(h:U an)(b:Nat):Prop:=∃c n,ab C h b=some (.cells c n .own)/\0<n
theorem FL.af{b:Nat}(a:FL C h b)(B:ab C V b=ab C h b):FL C V b:=by unfold FL;rw[B];exact a
mutual
def cP(C:aX)(h:U an):(Nat->Prop)->bM->H->Prop
 |P, .mk kind at_ name no ty n args,v=>∃b,v= .ptr b 0/\P b/\FL C h b/\ao C h (.ptr b 0)=some (.int .i64 kind)/\ao C h (.ptr b 1)=some (.int .i64 at_)/\ao C h (.ptr b 2)=some (.str name)/\ao C h (.ptr b 3)=some (.bool no)
   /\ao C h (.ptr b 4)=some (.bool ty.b)/\ao C h (.ptr b 5)=some (.bool ty.s)/\ao C h (.ptr b 6)=some (.int .i64 ty.w)/\ao C h (.ptr b 7)=some (.int .u64 n)
   /\∃bx cN br,ao C h (.ptr b 8)=some bx/\ej C h P cN bx 1 (br.map λv=>[v])/\(br≠[]->cN≠b)/\dq C h (λj=>P j/\j≠b/\j≠cN) args br
def dq(C:aX)(h:U an):(Nat->Prop)->List bM->List H->Prop
 |_,[],br=>br=[]
 |P,E::a2,br=>∃v r3 bR,br=v::r3/\(∀j,bR j->P j)/\cP C h bR E v/\dq C h (λj=>P j/\¬bR j) a2 r3
end
mutual
theorem cP.af{P:Nat->Prop}(B:∀j,P j->ab C V j=ab C h j):∀(E:bM) (v:H),cP C h P E v->cP C V P E v
 | .mk kind at_ name no ty n args,v,a=>by
   unfold cP at a ⊢
   obtain⟨b,M,co,bc,R,au,aM,bA,cr,dM,fC,lj,bx,cN,br,tL,xb,vJ,BD⟩:=a
   have aE:∀W,ao C V (.ptr b W)=ao C h (.ptr b W):=λW=>by rw[c4,c4,B b co]
   exact⟨b,M,co,bc.af (B b co),by rw[aE];exact R,by rw[aE];exact au,by rw[aE];exact aM,by rw[aE];exact bA,by rw[aE];exact cr,by rw[aE];exact dM,by rw[aE];exact fC,by rw[aE];exact lj,bx,cN,br,by rw[aE];exact tL,xb.af B,vJ,dq.af (λj T=>B j T.1) args br BD⟩
theorem dq.af{P:Nat->Prop}(B:∀j,P j->ab C V j=ab C h j):∀(a2:List bM) (br:List H),dq C h P a2 br->dq C V P a2 br
 |[],br,a=>by unfold dq at a ⊢;exact a
 |E::a2,br,a=>by
  unfold dq at a ⊢
  obtain⟨v,r3,bR,M,cf,R,au⟩:=a
  exact⟨v,r3,bR,M,cf,cP.af (λj T=>B j (cf j T)) E v R,dq.af (λj T=>B j T.1) a2 r3 au⟩
end
mutual
theorem cP.lift{P bR:Nat->Prop}(B:∀j,P j->bR j):∀(E:bM) (v:H),cP C h P E v->cP C h bR E v
 | .mk kind at_ name no ty n args,v,a=>by
   unfold cP at a ⊢
   obtain⟨b,M,co,bc,R,au,aM,bA,cr,dM,fC,lj,bx,cN,br,tL,xb,vJ,BD⟩:=a
   exact⟨b,M,B b co,bc,R,au,aM,bA,cr,dM,fC,lj,bx,cN,br,tL,xb.lift B,vJ,dq.lift (λj T=>⟨B j T.1,T.2⟩) args br BD⟩
theorem dq.lift{P bR:Nat->Prop}(B:∀j,P j->bR j):∀(a2:List bM) (br:List H),dq C h P a2 br->dq C h bR a2 br
 |[],br,a=>by unfold dq at a ⊢;exact a
 |E::a2,br,a=>by
  unfold dq at a ⊢
  obtain⟨v,r3,eS,M,cf,R,au⟩:=a
  exact⟨v,r3,eS,M,λj T=>B j (cf j T),R,dq.lift (λj T=>⟨B j T.1,T.2⟩) a2 r3 au⟩
end
theorem dq.nil{P:Nat->Prop}:dq C h P [] []:=by unfold dq;rfl
def gJ(kind at_:Int)(name:a1)(no:Bool)(ty:iu)(n:Int)(bx:H):List H:=[.int .i64 kind, .int .i64 at_, .str name, .bool no, .bool ty.b, .bool ty.s, .int .i64 ty.w, .int .u64 n,bx]
theorem cP.of{P:Nat->Prop}{b cN:Nat}{kind at_ n:Int}{name:a1}{no:Bool}{ty:iu}{bx:H}{m:Nat}{st:oG}{args:List bM}{br:List H}(ai:ab C h b=some (.cells (U.ofList (gJ kind at_ name no ty n bx) 0 .nil) m st))(co:P b)
 (aH:ej C h P cN bx 1 (br.map λv=>[v]))(vJ:br≠[]->cN≠b)(aG:dq C h (λj=>P j/\j≠b/\j≠cN) args br)(bc:st= .own:=by rfl)(bi:0<m:=by exact Nat.zero_lt_succ _):cP C h P (.mk kind at_ name no ty n args) (.ptr b 0):=by
 unfold cP
 refine⟨b,rfl,co,⟨_,_,bc▸ai,bi⟩, ?_, ?_, ?_, ?_, ?_, ?_, ?_, ?_,bx,cN,br, ?_,aH,vJ,aG⟩<;>(rw[bW ai,kk];rfl)
theorem ej.nil(P:Nat->Prop)(bd:Nat):ej C h P 0 .aU bd []:=⟨λE=>absurd rfl E,Zs,Zs,rfl,λi aN=>by simp at aN,λi r aa v aN=>by simp at aN⟩
theorem cP.leaf{P:Nat->Prop}{b:Nat}{kind at_ n:Int}{name:a1}{no:Bool}{ty:iu}{m:Nat}{st:oG}(ai:ab C h b=some (.cells (U.ofList (gJ kind at_ name no ty n .aU) 0 .nil) m st))(co:P b)(bc:st= .own:=by rfl)(bi:0<m:=by exact Nat.zero_lt_succ _):cP C h P (.mk kind at_ name no ty n []) (.ptr b 0):=
 cP.of (br:=[]) ai co (ej.nil P 1) (λa=>absurd rfl a) dq.nil bc bi
theorem VL:∀br:List H,(br.map λv=>[v]).flatten=br:=by
 intro br
 induction br with
 |nil=>rfl
 |cons I l ah=>simp[ah]
theorem cP.lit{P:Nat->Prop}{b cN B cap:Nat}{kind at_ n:Int}{name:a1}{no:Bool}{ty:iu}{m:Nat}{st iz:oG}{args:List bM}{br:List H}(ai:ab C h b=some (.cells (U.ofList (gJ kind at_ name no ty n (.slice cN 0 B cap)) 0 .nil) m st))(co:P b)
 (xl:ab C h cN=some (.cells (U.ofList br 0 .nil) B iz))(ak3:P cN)(aP:br.length=B)(jO:B<=1000)(vJ:cN≠b)(aG:dq C h (λj=>P j/\j≠b/\j≠cN) args br)(bc:st= .own:=by rfl)(bi:0<m:=by exact Nat.zero_lt_succ _):cP C h P (.mk kind at_ name no ty n args) (.ptr b 0):=
 cP.of ai co (Me (b6:=br.map λv=>[v]) (by rw[VL,Yd];exact xl) (by simpa using aP) Zs Zo ak3) (λ_=>vJ) aG bc bi
theorem dq.one{P bR:Nat->Prop}{E:bM}{v:H}(a:cP C h bR E v)(cf:∀j,bR j->P j):dq C h P [E] [v]:=by
 unfold dq;exact⟨v,[],bR,rfl,cf,a,dq.nil⟩
theorem dq.two{P bR eS:Nat->Prop}{E f:bM}{v w:H}(a:cP C h bR E v)(B:cP C h eS f w)(cf:∀j,bR j->P j)(S:∀j,eS j->P j/\¬bR j):dq C h P [E,f] [v,w]:=by
 unfold dq;exact⟨v,[w],bR,rfl,cf,a,dq.one B S⟩
theorem dq.snoc{bR:Nat->Prop}{E:bM}{v:H}(B:cP C h bR E v):∀{a2:List bM}{br:List H}{nN P:Nat->Prop},dq C h nN a2 br->(∀j,nN j->P j)->(∀j,bR j->P j/\¬nN j)->dq C h P (a2++[E]) (br++[v]):=by
 intro a2
 induction a2 with
 |nil=>intro br nN P a M R;unfold dq at a;subst a;exact dq.one B (λj T=>(R j T).1)
 |cons I l ah=>
  intro br nN P a M R
  unfold dq at a
  obtain⟨w,r3,eS,rfl,cf,au,aM⟩:=a
  show dq C h P (I::(l++[E])) (w::(r3++[v]))
  unfold dq
  exact⟨w,r3++[v],eS,rfl,λj T=>M j (cf j T),au,ah aM (λj T=>⟨M j T.1,T.2⟩) (λj T=>⟨⟨(R j T).1,λjz=>(R j T).2 (cf j jz)⟩,λn7=>(R j T).2 n7.1⟩)⟩
theorem cP.ptr{P:Nat->Prop}:∀{E:bM}{v:H},cP C h P E v->∃b,v= .ptr b 0/\P b/\ao C h (.ptr b 0)=some (.int .i64 E.kind)
 | .mk ..,_,a=>by
   unfold cP at a
   obtain⟨b,M,co,_,R,_⟩:=a
   exact⟨b,M,co,R⟩
theorem cP.open{P:Nat->Prop}:∀{E:bM}{v:H},cP C h P E v->∃b bx cN br,v= .ptr b 0/\P b/\ao C h (.ptr b 0)=some (.int .i64 E.kind)/\ao C h (.ptr b 1)=some (.int .i64 E.at_)/\ao C h (.ptr b 2)=some (.str E.name)/\ao C h (.ptr b 3)=some (.bool E.no)
 /\ao C h (.ptr b 4)=some (.bool E.ty.b)/\ao C h (.ptr b 5)=some (.bool E.ty.s)/\ao C h (.ptr b 6)=some (.int .i64 E.ty.w)/\ao C h (.ptr b 7)=some (.int .u64 E.n)
 /\ao C h (.ptr b 8)=some bx/\ej C h P cN bx 1 (br.map λv=>[v])/\dq C h P E.args br
 | .mk ..,_,a=>by
   unfold cP at a
   obtain⟨b,M,co,bc,R,au,aM,bA,cr,dM,fC,lj,bx,cN,br,tL,xb,vJ,BD⟩:=a
   exact⟨b,bx,cN,br,M,co,R,au,aM,bA,cr,dM,fC,lj,tL,xb,dq.lift (λj T=>T.1) _ _ BD⟩
theorem dq.len:∀{a2:List bM}{br:List H}{P:Nat->Prop},dq C h P a2 br->br.length=a2.length:=by
 intro a2
 induction a2 with
 |nil=>intro br P a;unfold dq at a;subst a;rfl
 |cons I l ah=>
  intro br P a
  unfold dq at a
  obtain⟨w,r3,bR,rfl,cf,M,R⟩:=a
  simp[ah R]
theorem dq.get:∀{a2:List bM}{br:List H}{P:Nat->Prop},dq C h P a2 br->∀(i:Nat) E,a2[i]? =some E->∃v,br[i]? =some v/\cP C h P E v:=by
 intro a2
 induction a2 with
 |nil=>intro br P a i E aW;simp at aW
 |cons I l ah=>
  intro br P a i E aW
  unfold dq at a
  obtain⟨w,r3,bR,rfl,cf,M,R⟩:=a
  cases i with
  |zero=>simp at aW;subst aW;exact⟨w,rfl,cP.lift cf _ _ M⟩
  |succ i=>
   obtain⟨v,au,aM⟩:=ah R i E (by simpa using aW)
   exact⟨v,by simpa using au,cP.lift (λj T=>T.1) _ _ aM⟩
theorem ej.one{P:Nat->Prop}{b:Nat}{bx:H}{br:List H}(a:ej C h P b bx 1 (br.map λv=>[v])){i:Nat}{v:H}(aN:br[i]? =some v):fp 1 bx (.int .i64 (i:Int))=some (.ptr b i)/\ao C h (.ptr b i)=some v/\P b:=by
 have ll:=(Zc.1 aN).1
 have M:=a.ik i (by simpa using ll)
 have R:=a.cell i [v] 0 v (by rw[Zv,aN];rfl) rfl
 rw[Yd]at M
 rw[Yd,ZS]at R
 exact⟨M,R,a.ai (λE=>by simp at E;subst E;simp at aN)⟩
theorem agM{bd B:Nat}{x:H}{m:List H}(ag:jR C h bd x=some (B,m))(aP:0<B)(ai:B<=1048576):
 jY C h k bd .aU x=some (.eW (.e5 k 0 B bd) (bm C h k (some (.cells (U.ofList m 0 .nil) m.length (.grow [])))) (k+1)):=by
 simp only[jY,ag]
 rw[gX,Zg Zo]
 simp[wN,sA,ml ai,lq]
theorem agK{bd B b n:Nat}{x:H}{m:List H}{c:U H}{fb:List Nat}(cj:0<bd)(ag:jR C h bd x=some (B,m))(aP:0<B)(ai:n+B<=1048576)(aku:kl m=true)
 (aS:C.bj<=b)(bc:ab C h b=some (.cells c (n*bd) (.grow fb))):
 jY C h k bd (.e5 b 0 n bd) x=some (.eW (.e5 k 0 (n+B) bd) (bm C (bm C h b (some (.cells c (n*bd) .jJ))) k (some (.cells (d0 c (n*bd) m) (n*bd+m.length) (.grow (b::fb))))) (k+1)):=by
 simp only[jY,ag]
 rw[gX,Zg Zo]
 have cR:¬(0+(n+B)*bd<=n*bd):=by
  have:0<B*bd:=Nat.mul_pos aP cj
  rw[Yb];omega
 have O3:Nat.ble (0+(n+B)*bd) (n*bd)=false:=by
  cases cf:Nat.ble (0+(n+B)*bd) (n*bd)with
  |false=>rfl
  |true=>exact absurd (iT cf) cR
 simp only[wN,F2,bc,ke,ml aS,ml ai,aku,O3]
 simp[fB,lq]
theorem agL{bd B b n:Nat}{x:H}{m l:List H}{c:U H}{st:oG}{ar:Nat}(cj:0<bd)(ag:jR C h bd x=some (B,m))(aP:0<B)(ai:n+B<=1048576)
 (bc:ab C h b=some (.cells c ar st))(ay:wF c l)(aE:l.length=n*bd):
 jY C h k bd (.slice b 0 n n) x=some (.eW (.e5 k 0 (n+B) bd) (bm C h k (some (.cells (U.ofList (l++m) 0 .nil) (l++m).length (.grow [])))) (k+1)):=by
 simp only[jY,ag]
 rw[gX,Zg Zo]
 have O3:Nat.ble (n+B) n=false:=by
  cases cf:Nat.ble (n+B) n with
  |false=>rfl
  |true=>exact absurd (iT cf) Zo
 have G7:k9 C h b 0 (n*bd)=some l:=by
  simp only[k9,cellsOf,bc]
  rw[VZ ay _ _ Zo]
  simp[<-aE]
 simp only[wN,O3,iF,G7,sA,ml ai,eB,lq,li,gK]
def hE(C:aX)(h:U an)(s:H)(bd:Nat)(l:List H)(db:List Nat):Prop:=
 kb C h s bd l db\/∃b n c st,s= .slice b 0 n n/\l.length=n*bd/\db=[b]/\ab C h b=some (.cells c (n*bd) st)/\wF c l
theorem hE.af{s:H}{bd:Nat}{l:List H}{db:List Nat}(a:hE C h s bd l db)(aP:∀j∈db,ab C V j=ab C h j):hE C V s bd l db:=by
 rcases a with a|⟨b,n,c,st,M,R,au,aM,bA⟩
 ·exact .inl (a.af aP)
 ·exact .inr ⟨b,n,c,st,M,R,au,by rw[aP b (by rw[au];exact Zq ..)];exact aM,bA⟩
theorem hE.append{bd B:Nat}{s x:H}{l m:List H}{db:List Nat}(a:hE C h s bd l db)(cj:0<bd)(ag:jR C h bd x=some (B,m))(bi:m.length=B*bd)(aP:0<B)(M:kl m=true)
 (ai:l.length+m.length<=1048576)(aS:C.bj<=k)(cR:∀j∈db,j<k):
 ∃fZ V iE,jY C h k bd s x=some (.eW fZ V (k+1))/\kb C V fZ bd (l++m) iE/\(∀j∈iE,j=k\/j∈db)/\∀j,j≠k->j∉db->ab C V j=ab C h j:=by
 have KW:B<=B*bd:=Y5 B cj
 rcases a with (⟨rfl,rfl,rfl⟩|⟨b,fb,n,c,rfl,R,rfl,aM,bA,cr,dM⟩)|⟨b,n,c,st,rfl,R,rfl,aM,bA⟩
 ·refine⟨_,_,[k],agM ag aP (by simp at ai;omega), .inr ⟨k,[],B,_,rfl,by simpa using bi,rfl,by simpa using aS,Zs,by rw[bq aS,bi], ?_⟩,Zs,λj T _=>aK aS T⟩
  simpa using o1 m
 ·have l1:n<=n*bd:=Y5 n cj
  have fv:b<k:=cR b (Zq ..)
  refine⟨_,_,k::b::fb,agK cj ag aP Zo M (aM b (Zq ..)) cr, .inr ⟨k,b::fb,n+B,d0 c (n*bd) m,rfl,by rw[ZQ,R,bi,Yb],rfl, ?_, ?_, ?_, ?_⟩, ?_,λj T Lm=> ?_⟩
  ·intro j T
   rcases Zl.1 T with rfl|T
   ·exact aS
   ·exact aM j T
  ·intro ay
   have:=cR k ay
   omega
  ·rw[bq aS,bi,Yb]
  ·rw[<-R];exact dM.app m
  ·intro j T
   rcases Zl.1 T with rfl|T
   ·exact .inl rfl
   ·exact .inr T
  ·simp only[Zl,Y0]at Lm
   rw[aK aS T,aK (aM b (Zq ..)) Lm.1]
 ·have l1:n<=n*bd:=Y5 n cj
  refine⟨_,_,[k],agL cj ag aP Zo aM bA R, .inr ⟨k,[],n+B,_,rfl,by rw[ZQ,R,bi,Yb],rfl,by simpa using aS,Zs,by rw[bq aS,ZQ,R,bi,Yb],o1 _⟩,Zs,λj T _=>aK aS T⟩
theorem hE.AQ{bd:Nat}{s:H}{b6:List (List H)}{db:List Nat}(a:hE C h s bd b6.flatten db)(eg:0<bd)(S:∀r∈b6,r.length=bd)(bi:b6.length<=300000){P:Nat->Prop}(aE:∀j∈db,P j):∃b,ej C h P b s bd b6:=by
 rcases a with a|⟨b,n,c,st,rfl,R,rfl,aM,bA⟩
 ·exact a.AQ eg S bi aE
 ·have gz:=w4 S
  have aS:n=b6.length:=Nat.eq_of_mul_eq_mul_right eg (by rw[<-R,gz])
  subst aS
  refine⟨b,λ_=>aE b (Zq ..),bi,S,o3 ..,λi aN=>by rw[Lr _ aN,ZH],λi r aa v aN bK=> ?_⟩
  rw[c4,aM]
  exact(bA _).trans (Oc b6 S i r aa v aN bK)
theorem hE.Iz{s:H}{br:List H}{db:List Nat}(a:hE C h s 1 br db){P:Nat->Prop}(bi:br.length<=300000)(aE:∀j∈db,P j):∃b,ej C h P b s 1 (br.map λv=>[v]):=by
 have cv:hE C h s 1 (br.map λv=>[v]).flatten db:=by rw[VL];exact a
 exact cv.AQ Zd Zs (by simpa using bi) aE
end
end
end Go.al

