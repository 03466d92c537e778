/- A part of the last text's proof; no condition of its own -/
import Derived.Test.YtpfajohmofnkfaaGreatDoorYf
set_option maxHeartbeats 8000000
set_option linter.all false
namespace Go.bi
noncomputable section
section
variable{C:aZ}{h:V an}{j:Nat}
def bm{b:Nat}{Y:Option an}(a:C.a8<=b):ab C (bn C h b Y) b=Y:=by rw[fR _ a,Zq rfl]
def aI{b x:Nat}{Y:Option an}(a:C.a8<=b)(ah:x≠b):ab C (bn C h b Y) x=ab C h x:=by rw[fR _ a,Zg ah]
def cJ(b Y:Nat):ao C h (.ptr b Y)=match ab C h b with|some (.cells c _ _)=>c.get Y|_=>none:=by
 simp only[ao,cellsOf]
 cases ab C h b with
 |none=>rfl
 |some cT=>cases cT<;>rfl
def u4(n b Y:Nat):cg C h n (.ptr b Y)=match ab C h b with|some (.cells c _ _)=>(c.km Y n).map F.agg|_=>none:=by
 simp only[cg,cellsOf]
 cases ab C h b with
 |none=>rfl
 |some cT=>
  cases cT with
  |cells c m st=>simp only[];cases c.km Y n<;>rfl
  |_=>rfl
def β(c:V F)(Y:Nat):c.km Y 0=some []:=rfl
def jS:∀(l:List F) (c:V F) (Y i:Nat),(dQ c Y l).get i=if Y<=i/\i<Y+l.length then l[i-Y]? else c.get i:=by
 intro l
 induction l with
 |nil=>intro c Y i;simp[dQ];intro Q U;omega
 |cons K l ak=>
  intro c Y i
  simp only[dQ,g8]
  rw[ak,V.kc]
  by_cases Q:i=Y
  ·subst Q
   simp
   intro a;omega
  ·by_cases U:Y+1<=i/\i<Y+1+l.length
   ·rw[Zq U,Zq (by simp;omega)]
    rw[show i-Y=(i-(Y+1))+1 by omega]
    simp
   ·rw[Zg U,Zg (λJ=>Q J.symm),Zg (by simp;omega)]
def tt{b Y n:Nat}{c:V F}{st:nF}(a:C.a8<=b):ao C (bn C h b (some (.cells c n st))) (.ptr b Y)=c.get Y:=by
 rw[cJ,bm a]
def u3{b x Y:Nat}{cT:Option an}(a:C.a8<=b)(ah:x≠b):ao C (bn C h b cT) (.ptr x Y)=ao C h (.ptr x Y):=by
 rw[cJ,cJ,aI a ah]
def oV(C:aZ)(h:V an)(b:Nat):Nat->Nat->Option (List F)
 |_,0=>some []
 |Y,n+1=>(ao C h (.ptr b Y)).bind λK=>(oV C h b (Y+1) n).bind λl=>some (K::l)
def u5{b Y n:Nat}:cg C h (n+1) (.ptr b Y)=(oV C h b Y (n+1)).bind λl=>some (.agg l):=by
 have a:∀(c:V F) (m:Nat) (st:nF),ab C h b=some (.cells c m st)->∀n Y,oV C h b Y n=c.km Y n:=by
  intro c m st aj n
  induction n with
  |zero=>intro Y;rfl
  |succ n ak=>
   intro Y
   simp only[oV,V.km,cJ,aj,ak]
   cases c.get Y with
   |none=>rfl
   |some K=>cases c.km (Y+1) n<;>rfl
 rw[u4]
 cases aj:ab C h b with
 |none=>simp[oV,cJ,aj]
 |some cT=>
  cases cT with
  |cells c m st=>
   simp only[a c m st aj]
   cases c.km Y (n+1)<;>rfl
  |_=>simp[oV,cJ,aj]
structure bq(C:aZ)(h:V an)(j:Nat)(T:V an)(au:Nat):Prop where
 le:j<=au
 ad:∀b,b<j->ab C T b=ab C h b
def bq.refl(h:V an)(j:Nat):bq C h j h j:=⟨Zi _,λ_ _=>rfl⟩
def bq.trans{a2 aS bb:V an}{aO bg bs:Nat}(a:bq C a2 aO aS bg)(B:bq C aS bg bb bs):bq C a2 aO bb bs:=
 ⟨Zz a.le B.le,λb aj=>(B.ad b (ZR aj a.le)).trans (a.ad b aj)⟩
def bq.fT{T:V an}{au:Nat}(a:bq C h j T au)(b Y:Nat)(aj:b<j):ao C T (.ptr b Y)=ao C h (.ptr b Y):=by
 rw[cJ,cJ,a.ad b aj]
def bq.fresh(a:C.a8<=j)(cT:Option an):bq C h j (bn C h j cT) (j+1):=
 ⟨Yf _,λb aj=>aI a Zo⟩
def bq.more{T:V an}{au n:Nat}(B:bq C h j T au)(a:au<=n):bq C h j T n:=⟨Zz B.le a,B.ad⟩
def bq.kv{T:V an}{au de:Nat}(B:bq C h j T au)(a:de<=j):bq C h de T au:=⟨Zz a B.le,λb aj=>B.ad b (ZR aj a)⟩
def sF{b Y n:Nat}{c:V F}{v:F}(a:ab C h b=some (.cells c n .own))(aj:C.a8<=b)(bl:Y+1<=n)(bB:v.cells=[v])(Q:oc v=true):
 ce C h 1 (.ptr b Y) v=some (bn C h b (some (.cells (c.set Y (some v)) n .own))):=by
 have bD:Nat.ble (Y+1) n=true:=by simpa using bl
 have cF:Nat.ble C.a8 b=true:=by simpa using aj
 simp[ce,bB,tU,a,jV,iz,Q,bD,cF,dQ,fw,Nat.blt]
def Cr:List F->List (Nat×Nat×F)->Option (List F)
 |cells,[]=>some cells
 |cells,(off,size,v)::rest=>bP (Nat.beq v.cells.length size&&Nat.ble (off+size) cells.length) (Cr (li cells off v.cells) rest) none
def eB(rx:List F)(dq:List (Nat×Nat×F)):Option F:=match Cr rx dq with|some cs=>some (.agg cs)|none=>none
def dT(rx:List F)(b:Nat):Option (F×an):=some (.ptr b 0, .cells (V.ofList rx 0 .nil) rx.length .own)
def fg(len:Nat)(rx:List F)(dq:List (Nat×Nat×F))(b:Nat):Option (F×an):=match Cr rx dq with
 |some cs=>some (.slice b 0 len len, .cells (V.ofList cs 0 .nil) cs.length .own)
 |none=>none
def qX(agg:Bool)(off size:Nat)(v:F):Option F:=match v with| .agg cs=>bP agg (some (.agg ((cs.drop off).take size))) (rm cs off)|_=>none
def dX(v:F):Option F:=match v with| .slice _ _ n _=>n0 .i64 (Int.ofNat n)| .en _ _ n _=>n0 .i64 (Int.ofNat n)| .aP=>some (.int .i64 0)|_=>none
def lJ(v:F):Option F:=match v with| .str s=>n0 .i64 (Int.ofNat s.length)|_=>none
def Sr(C:aZ)(h:V an)(v:F):Option F:=match v with
 | .lf=>some (.int .i64 0)
 | .map r=>(match ab C h r with|some (.map cb _)=>n0 .i64 (Int.ofNat cb.length)|_=>none)
 |_=>none
def mf(B:IntKind)(v:F):Option F:=match (match v with| .int _ n=>kT B n|_=>none)with|some v=>some v|none=>none
def alv(v:F):Option F:=match (match v with| .str s=>some (F.str s)|_=>none)with|some v=>some v|none=>none
def Au(C:aZ)(h:V an)(v:F):Option F:=match (match v with| .str s=>some (F.str s)|_=>none)with|some v=>some v|none=>Eo C h v
def Eu(t:Nat)(bt:F)(ok:Bool)(v:F):Option F:=match v with
 | .nilIface=>bP ok (some (.tuple [bt, .bool false])) none
 | .iface e2 w=>bP (Nat.beq e2 t) (some (bP ok (.tuple [w, .bool true]) w)) (bP ok (some (.tuple [bt, .bool false])) none)
 |_=>none
def kr(C:aZ)(h:V an)(jA:Nat)(bt m B:F)(ok:Bool):Option F:=
 match (match m with
  | .lf=>bP (mL C 20 jA B) (some none) none
  | .map r=>(match ab C h r with|some (.map cb _)=>bP (mL C 20 jA B) (findKey C h jA B cb 0) none|some (.look cb)=>bP (mL C 20 jA B) (F6 (o1 C h jA B cb)) none|_=>none)
  |_=>none)with
  |none=>none
  |some none=>some (bP ok (.tuple [bt, .bool false]) bt)
  |some (some (_,v))=>some (bP ok (.tuple [v, .bool true]) v)
def hC(C:aZ)(h:V an)(j a1:Nat)(s x:F):Option d4:=match kX C h a1 x with
 |some (n,l)=>bP (Nat.beq n 0) (Es C h a1 s) (xM C h j a1 n l s)
 |none=>none
def sp(C:aZ)(h:V an)(j jA:Nat)(m B v:F):Option d4:=match m with
 | .map r=>(match ab C h r with
   |some (.map cb eX)=>bP (mL C 20 jA B) (match findKey C h jA B cb 0 with
    |some (some (i,_))=>(match rm cb i with
     |some (e4,_,born)=>bP (ns 20 e4 B) (setObj C h j r (.map (cb.set i (B,v,born)) eX) undef) none
     |none=>none)
    |some none=>setObj C h j r (.map (cb++[(B,v,eX)]) (eX+1)) undef
    |none=>none) none
   |_=>none)
 |_=>none
def ts(agg:Bool)(n a1:Nat)(v i:F):Option F:=match mU i with
 |none=>none
 |some i=>match v with
  | .agg cs=>bP (Nat.blt i n) (bP agg (some (.agg ((cs.drop (i*a1)).take a1))) (rm cs (i*a1))) none
  |_=>none
def la(v i:F):Option F:=match mU i with
 |none=>none
 |some i=>match v with
  | .str s=>(match rm s i with|some c=>some (.int .u8 (Int.ofNat c))|none=>none)
  |_=>none
def j7(v:F)(bS aJ:Option F):Option F:=match v with
 | .str s=>(match lQ s.length s.length bS aJ none with
    |some (l,a,_)=>some (.str ((s.drop l).take (a-l)))
    |none=>none)
 |_=>none
def sD(C:aZ)(h:V an)(a1:Nat)(x:F)(bS aJ hb:Option F):Option F:=match x with
 | .slice b Y len cap=>(match lQ len cap bS aJ hb with
   |some (l,a,m)=>some (.slice b (bP (Nat.beq m l) Y (Y+l*a1)) (a-l) (m-l))
   |_=>none)
 | .aP=>(match lQ 0 0 bS aJ hb with
   |some _=>some .aP
   |_=>none)
 | .en b Y len DW=>(match xq C h b with
   |some n=>bP (Nat.beq DW a1&&Nat.blt 0 DW) (match lQ len ((n-Y)/DW) bS aJ hb with
     |some (l,a,m)=>(match hb with
      |some _=>some (.slice b (bP (Nat.beq m l) Y (Y+l*DW)) (a-l) (m-l))
      |none=>bP (Nat.blt l ((n-Y)/DW)||Nat.beq l 0) (some (.en b (Y+l*DW) (a-l) DW)) none)
     |none=>none) none
   |_=>none)
 |_=>none
def Ts(n a1:Nat)(x:F)(bS aJ hb:Option F):Option F:=match x with
 | .ptr b Y=>(match lQ n n bS aJ hb with
   |some (l,a,m)=>some (.slice b (bP (Nat.beq m l) Y (Y+l*a1)) (a-l) (m-l))
   |_=>none)
 |_=>none
def Td(C:aZ)(h:V an)(j:Nat)(v:F):Option d4:=match v with
 | .str s=>mV C h j (.oh s 0) λb=> .ptr b 0
 |_=>none
def NS(C:aZ)(h:V an)(j:Nat)(v:F):Option d4:=match v with
 | .str l=>s7 C h j l.length 1 (l.map λn=>F.int .u8 (Int.ofNat n))
 |_=>none
def lh{α:Type}{K:α}{ai:α->Prop}(a:ai K):E (some K) ai:=⟨a⟩
def lg{α:Type}{K:α}{ai:α->Prop}(a:ai K):al (some K) ai:=a
def sT{K:F}{ai:bI}(a:ai (.ptr j 0) (bn C h j (some (.cells (V.ofList K.cells 0 .nil) K.cells.length .own))) (j+1)):ip C h j K ai:=⟨a⟩
def Ge{v:F}{cT:an}{ai:bI}(a:ai v (bn C h j (some cT)) (j+1)):cQ C h j v cT ai:=⟨a⟩
def Gf{v:F}{cT:an}{ai:bI}(a:ai v (bn C h j (some cT)) (j+1)):cQ C h j (Prod.mk v cT).1 (Prod.mk v cT).2 ai:=⟨a⟩
def Gc{b:Nat}{v:F}{cT:an}{ai:F->V an->Prop}(a:ai v (bn C h b (some cT))):kU C h b (Prod.mk v cT).1 (Prod.mk v cT).2 ai:=⟨a⟩
def ED{b:Nat}{K:F}{ai:F->V an->Prop}(a:ai (.ptr b 0) (bn C h b (some (.cells (V.ofList K.cells 0 .nil) K.cells.length .own)))):xP C h b K ai:=⟨a⟩
def Gb{b:Nat}{v:F}{cT:an}{ai:F->V an->Prop}(a:ai v (bn C h b (some cT))):kU C h b v cT ai:=⟨a⟩
def gV{d0:gs}{body:gs->Prop}(a:body d0):aY d0 body:=⟨a⟩
def FV{d0:bI}{body:bI->Prop}(a:body d0):oS d0 body:=⟨a⟩
def FS{d0:F->Prop}{body:(F->Prop)->Prop}(a:body d0):dd d0 body:=⟨a⟩
def FT{d0:F->V an->Prop}{body:(F->V an->Prop)->Prop}(a:body d0):uX d0 body:=⟨a⟩
def FU{d0:Prop}{body:Prop->Prop}(a:body d0):R5 d0 body:=⟨a⟩
def F2{n:Nat}{ai:Nat->Prop}(a:ai n):eV n ai:=⟨a⟩
def Gz{v:F}{T:V an}{au:Nat}{ai:bI}(a:ai v T au):gw (some (.fh v T au)) h j ai:=⟨a⟩
def GA{v:F}{ai:bI}(a:ai v h j):gw (some (.val v)) h j ai:=⟨a⟩
def pq{K b:Prop}(a:K):a7 (.bool true) K b:=⟨⟨λ_=>a,λJ=>(by cases J)⟩⟩
def pp{K b:Prop}(a:b):a7 (.bool false) K b:=⟨⟨λJ=>(by cases J),λ_=>a⟩⟩
def tb{K b:Prop}(a:K):it true (.bool true) K b:=⟨⟨λ_=>a,λJ=>(by cases J)⟩⟩
def ta{K b:Prop}(a:b):it true (.bool false) K b:=⟨⟨λJ=>(by cases J),λ_=>a⟩⟩
def s9{K b:Prop}(a:b):it false (.bool true) K b:=⟨⟨λJ=>(by cases J),λ_=>a⟩⟩
def s8{K b:Prop}(a:K):it false (.bool false) K b:=⟨⟨λ_=>a,λJ=>(by cases J)⟩⟩
def Ba{f:Nat}{K ct b:List F}{ai ay:bI}(a:aW C f ((K++ct)++b) h j ai ay):jn C (.func (.func f) K b) ct h j ai ay:=⟨a⟩
def gP{x e:F}{ai:Prop}(a:F.same 30 x e=true)(B:ai):gG x (some e) ai:=⟨⟨a,B⟩⟩
@[congr] def aBi{α:Type}{Y o':Option α}{ai:α->Prop}(a:Y=o'):E Y ai=E o' ai:=by rw[a]
@[congr] def ay9{v f9:F}{K b:Prop}(a:v=f9):a7 v K b=a7 f9 K b:=by rw[a]
@[congr] def azp{w:Bool}{v f9:F}{K b:Prop}(a:v=f9):it w v K b=it w f9 K b:=by rw[a]
@[congr] def azg{f:Nat}{ct Wy:List F}{ai ay:bI}(a:ct=Wy):aW C f ct h j ai ay=aW C f Wy h j ai ay:=by rw[a]
def aW.mono{f:Nat}{ct:List F}{ai ay y7 eA:bI}(a:aW C f ct h j ai ay)(iM:∀ae T au,ai ae T au->y7 ae T au)(cA:∀ae T au,ay ae T au->eA ae T au):aW C f ct h j y7 eA:=by
 rcases a.out with ⟨ae,Q,U⟩|⟨Q,U,ar⟩
 ·exact⟨.inl ⟨ae,Q,iM _ _ _ U⟩⟩
 ·exact⟨.inr ⟨Q,U,ar.mono iM cA⟩⟩
def Lh{f d2:Nat}(a:cU C f d2=true):∃fn c,C.P.funcs[f]? =some fn/\fn.body=some c:=by
 unfold cU at a
 split at a
 ·rename_i fn ch
  split at a
  ·rename_i c aB;exact⟨fn,c,ch,aB⟩
  ·cases a
 ·cases a
def c3{f:Nat}{ct:List F}{ai ay:bI}(aB:cU C f ct.length=true)(bl:C.hc f ct=none)(a:dh C f ct h j ai ay):aW C f ct h j ai ay:=
 ⟨.inr ⟨bl,Lh aB,amO aB a⟩⟩
def EF{f:Nat}{ct:List F}{ai ay:bI}{ae:F}(bl:C.hc f ct=some ae)(a:ai ae h j):aW C f ct h j ai ay:=⟨.inl ⟨ae,bl,a⟩⟩
def sC(M:dS)(d n:Nat)(v:F):(ac M d v).g n=if d=n then some v else M.g n:=by show bP (Nat.beq d n) (some v) (M.g n)=_;rw[hD]
def rr(M:dS)(d:Nat)(v:F):(ac M d v).bd=M.bd:=rfl
def vu(M:dS)(d:Nat)(v:F):(ac M d v).rc=M.rc:=rfl
def tV(l:List F)(n:Nat):(cS l).g n=l[n]? :=by simp[cS]
def sP(l:List F):(cS l).bd=[]:=rfl
def tW(l:List F):(cS l).rc=false:=rfl
def p7(l:List Nat)(M:dS)(n:Nat):(hE l M).g n=bP (oa n l) none (M.g n):=rfl
def vp(M:dS)(d:hA)(n:Nat):(yR M d).g n=M.g n:=rfl
def vo(M:dS)(d:hA):(yR M d).bd=d::M.bd:=rfl
def vh(M:dS)(d n:Nat):(vg M d).g n=M.g n:=rfl
def so(M:dS)(d:Nat):(vg M d).bd=⟨.collected d,[]⟩::M.bd:=rfl
def Hn{f:Nat}{ct:List F}{ai ay:bI}(aB:cU C f ct.length=true)(bl:C.hc f ct=none)(a:AB C f ct h j ai ay):aW C f ct h j ai ay:=
 ⟨.inr ⟨bl,Lh aB,amP aB a⟩⟩
def WT{f:Nat}{ct:List F}{ai ay:bI}(bl:C.hc f ct=none)(a:aW C f ct h j ai ay):tO C f ct h j ai ay:=by
 rcases a.out with ⟨ae,Q,U⟩|⟨Q,U,ar⟩
 ·rw[bl]at Q;cases Q
 ·exact ar
def EC{p:Prop}[Decidable p]{K b:Prop}(Q:p->K)(U:¬p->b):a7 (.bool (decide p)) K b:=⟨λJ=>Q (by simpa using J),λJ=>U (by simpa using J)⟩
def n5(b Y:Nat):cg C h 2 (.ptr b Y)=(ao C h (.ptr b Y)).bind λlN=>(ao C h (.ptr b (Y+1))).bind λjc=>some (.agg [lN,jc]):=by
 rw[u5]
 simp only[oV,ZJ,Nat.reduceAdd,Ym,ZF]
def qv(b Y:Nat):cg C h 3 (.ptr b Y)=(ao C h (.ptr b Y)).bind λlN=>(ao C h (.ptr b (Y+1))).bind λjc=>(ao C h (.ptr b (Y+2))).bind λhO=>some (.agg [lN,jc,hO]):=by
 rw[u5]
 simp only[oV,ZJ,Nat.reduceAdd,Ym,ZF]
def tu(b Y:Nat):cg C h 4 (.ptr b Y)=(ao C h (.ptr b Y)).bind λlN=>(ao C h (.ptr b (Y+1))).bind λjc=>(ao C h (.ptr b (Y+2))).bind λhO=>(ao C h (.ptr b (Y+3))).bind λj9=>some (.agg [lN,jc,hO,j9]):=by
 rw[u5]
 simp only[oV,ZJ,Nat.reduceAdd,Ym,ZF]
def va(b Y:Nat):cg C h 5 (.ptr b Y)=(ao C h (.ptr b Y)).bind λlN=>(ao C h (.ptr b (Y+1))).bind λjc=>(ao C h (.ptr b (Y+2))).bind λhO=>(ao C h (.ptr b (Y+3))).bind λj9=>(ao C h (.ptr b (Y+4))).bind λk2=>some (.agg [lN,jc,hO,j9,k2]):=by
 rw[u5]
 simp only[oV,ZJ,Nat.reduceAdd,Ym,ZF]
def vb(b Y:Nat):cg C h 6 (.ptr b Y)=(ao C h (.ptr b Y)).bind λlN=>(ao C h (.ptr b (Y+1))).bind λjc=>(ao C h (.ptr b (Y+2))).bind λhO=>(ao C h (.ptr b (Y+3))).bind λj9=>(ao C h (.ptr b (Y+4))).bind λk2=>(ao C h (.ptr b (Y+5))).bind λsK=>some (.agg [lN,jc,hO,j9,k2,sK]):=by
 rw[u5]
 simp only[oV,ZJ,Nat.reduceAdd,Ym,ZF]
def vc(b Y:Nat):cg C h 7 (.ptr b Y)=(ao C h (.ptr b Y)).bind λlN=>(ao C h (.ptr b (Y+1))).bind λjc=>(ao C h (.ptr b (Y+2))).bind λhO=>(ao C h (.ptr b (Y+3))).bind λj9=>(ao C h (.ptr b (Y+4))).bind λk2=>(ao C h (.ptr b (Y+5))).bind λsK=>(ao C h (.ptr b (Y+6))).bind λtM=>some (.agg [lN,jc,hO,j9,k2,sK,tM]):=by
 rw[u5]
 simp only[oV,ZJ,Nat.reduceAdd,Ym,ZF]
def vd(b Y:Nat):cg C h 8 (.ptr b Y)=(ao C h (.ptr b Y)).bind λlN=>(ao C h (.ptr b (Y+1))).bind λjc=>(ao C h (.ptr b (Y+2))).bind λhO=>(ao C h (.ptr b (Y+3))).bind λj9=>(ao C h (.ptr b (Y+4))).bind λk2=>(ao C h (.ptr b (Y+5))).bind λsK=>(ao C h (.ptr b (Y+6))).bind λtM=>(ao C h (.ptr b (Y+7))).bind λvT=>some (.agg [lN,jc,hO,j9,k2,sK,tM,vT]):=by
 rw[u5]
 simp only[oV,ZJ,Nat.reduceAdd,Ym,ZF]
def ve(b Y:Nat):cg C h 9 (.ptr b Y)=(ao C h (.ptr b Y)).bind λlN=>(ao C h (.ptr b (Y+1))).bind λjc=>(ao C h (.ptr b (Y+2))).bind λhO=>(ao C h (.ptr b (Y+3))).bind λj9=>(ao C h (.ptr b (Y+4))).bind λk2=>(ao C h (.ptr b (Y+5))).bind λsK=>(ao C h (.ptr b (Y+6))).bind λtM=>(ao C h (.ptr b (Y+7))).bind λvT=>(ao C h (.ptr b (Y+8))).bind λy5=>some (.agg [lN,jc,hO,j9,k2,sK,tM,vT,y5]):=by
 rw[u5]
 simp only[oV,ZJ,Nat.reduceAdd,Ym,ZF]
def u6(b Y:Nat):cg C h 10 (.ptr b Y)=(ao C h (.ptr b Y)).bind λlN=>(ao C h (.ptr b (Y+1))).bind λjc=>(ao C h (.ptr b (Y+2))).bind λhO=>(ao C h (.ptr b (Y+3))).bind λj9=>(ao C h (.ptr b (Y+4))).bind λk2=>(ao C h (.ptr b (Y+5))).bind λsK=>(ao C h (.ptr b (Y+6))).bind λtM=>(ao C h (.ptr b (Y+7))).bind λvT=>(ao C h (.ptr b (Y+8))).bind λy5=>(ao C h (.ptr b (Y+9))).bind λtN=>some (.agg [lN,jc,hO,j9,k2,sK,tM,vT,y5,tN]):=by
 rw[u5]
 simp only[oV,ZJ,Nat.reduceAdd,Ym,ZF]
def u7(b Y:Nat):cg C h 11 (.ptr b Y)=(ao C h (.ptr b Y)).bind λlN=>(ao C h (.ptr b (Y+1))).bind λjc=>(ao C h (.ptr b (Y+2))).bind λhO=>(ao C h (.ptr b (Y+3))).bind λj9=>(ao C h (.ptr b (Y+4))).bind λk2=>(ao C h (.ptr b (Y+5))).bind λsK=>(ao C h (.ptr b (Y+6))).bind λtM=>(ao C h (.ptr b (Y+7))).bind λvT=>(ao C h (.ptr b (Y+8))).bind λy5=>(ao C h (.ptr b (Y+9))).bind λtN=>(ao C h (.ptr b (Y+10))).bind λOf=>some (.agg [lN,jc,hO,j9,k2,sK,tM,vT,y5,tN,Of]):=by
 rw[u5]
 simp only[oV,ZJ,Nat.reduceAdd,Ym,ZF]
def u9(b Y:Nat):cg C h 12 (.ptr b Y)=(ao C h (.ptr b Y)).bind λlN=>(ao C h (.ptr b (Y+1))).bind λjc=>(ao C h (.ptr b (Y+2))).bind λhO=>(ao C h (.ptr b (Y+3))).bind λj9=>(ao C h (.ptr b (Y+4))).bind λk2=>(ao C h (.ptr b (Y+5))).bind λsK=>(ao C h (.ptr b (Y+6))).bind λtM=>(ao C h (.ptr b (Y+7))).bind λvT=>(ao C h (.ptr b (Y+8))).bind λy5=>(ao C h (.ptr b (Y+9))).bind λtN=>(ao C h (.ptr b (Y+10))).bind λOf=>(ao C h (.ptr b (Y+11))).bind λayH=>some (.agg [lN,jc,hO,j9,k2,sK,tM,vT,y5,tN,Of,ayH]):=by
 rw[u5]
 simp only[oV,ZJ,Nat.reduceAdd,Ym,ZF]
def vH(z0 a0:F):dQ (V.ofList [z0] 0 .nil) 0 [a0]=V.ofList [a0] 0 .nil:=by rfl
def vL(z0 fW a0 bh:F):dQ (V.ofList [z0,fW] 0 .nil) 0 [a0,bh]=V.ofList [a0,bh] 0 .nil:=by rfl
def vM(z0 fW fv a0 bh cl:F):dQ (V.ofList [z0,fW,fv] 0 .nil) 0 [a0,bh,cl]=V.ofList [a0,bh,cl] 0 .nil:=by rfl
def vN(z0 fW fv z3 a0 bh cl a3:F):dQ (V.ofList [z0,fW,fv,z3] 0 .nil) 0 [a0,bh,cl,a3]=V.ofList [a0,bh,cl,a3] 0 .nil:=by rfl
def vO(z0 fW fv z3 z4 a0 bh cl a3 a4:F):dQ (V.ofList [z0,fW,fv,z3,z4] 0 .nil) 0 [a0,bh,cl,a3,a4]=V.ofList [a0,bh,cl,a3,a4] 0 .nil:=by rfl
def vP(z0 fW fv z3 z4 z5 a0 bh cl a3 a4 a5:F):dQ (V.ofList [z0,fW,fv,z3,z4,z5] 0 .nil) 0 [a0,bh,cl,a3,a4,a5]=V.ofList [a0,bh,cl,a3,a4,a5] 0 .nil:=by rfl
def vQ(z0 fW fv z3 z4 z5 rv a0 bh cl a3 a4 a5 hB:F):dQ (V.ofList [z0,fW,fv,z3,z4,z5,rv] 0 .nil) 0 [a0,bh,cl,a3,a4,a5,hB]=V.ofList [a0,bh,cl,a3,a4,a5,hB] 0 .nil:=by rfl
def vR(z0 fW fv z3 z4 z5 rv y6 a0 bh cl a3 a4 a5 hB hY:F):dQ (V.ofList [z0,fW,fv,z3,z4,z5,rv,y6] 0 .nil) 0 [a0,bh,cl,a3,a4,a5,hB,hY]=V.ofList [a0,bh,cl,a3,a4,a5,hB,hY] 0 .nil:=by rfl
def vS(z0 fW fv z3 z4 z5 rv y6 ph a0 bh cl a3 a4 a5 hB hY iU:F):dQ (V.ofList [z0,fW,fv,z3,z4,z5,rv,y6,ph] 0 .nil) 0 [a0,bh,cl,a3,a4,a5,hB,hY,iU]=V.ofList [a0,bh,cl,a3,a4,a5,hB,hY,iU] 0 .nil:=by rfl
def vI(z0 fW fv z3 z4 z5 rv y6 ph z9 a0 bh cl a3 a4 a5 hB hY iU a9:F):dQ (V.ofList [z0,fW,fv,z3,z4,z5,rv,y6,ph,z9] 0 .nil) 0 [a0,bh,cl,a3,a4,a5,hB,hY,iU,a9]=V.ofList [a0,bh,cl,a3,a4,a5,hB,hY,iU,a9] 0 .nil:=by rfl
def vJ(z0 fW fv z3 z4 z5 rv y6 ph z9 TW a0 bh cl a3 a4 a5 hB hY iU a9 G9:F):dQ (V.ofList [z0,fW,fv,z3,z4,z5,rv,y6,ph,z9,TW] 0 .nil) 0 [a0,bh,cl,a3,a4,a5,hB,hY,iU,a9,G9]=V.ofList [a0,bh,cl,a3,a4,a5,hB,hY,iU,a9,G9] 0 .nil:=by rfl
def vK(z0 fW fv z3 z4 z5 rv y6 ph z9 TW ayP a0 bh cl a3 a4 a5 hB hY iU a9 G9 Wd:F):dQ (V.ofList [z0,fW,fv,z3,z4,z5,rv,y6,ph,z9,TW,ayP] 0 .nil) 0 [a0,bh,cl,a3,a4,a5,hB,hY,iU,a9,G9,Wd]=V.ofList [a0,bh,cl,a3,a4,a5,hB,hY,iU,a9,G9,Wd] 0 .nil:=by rfl
def ru(c:V F)(Y:Nat)(v:F):(dQ c Y [v]).get Y=some v:=by rw[jS];simp
def vF{c:V F}{Y i:Nat}{v:F}(a:i≠Y):(dQ c Y [v]).get i=c.get i:=by rw[jS,Zg (by simp;omega)]
def h6{b Y B n:Nat}{c:V F}{v:F}(a:ab C h b=some (.cells c n .own))(aj:C.a8<=b)(aN:v.cells.length=B)(b6:0<B)(bl:Y+B<=n)(Q:iz v.cells=true):
 ce C h B (.ptr b Y) v=some (bn C h b (some (.cells (dQ c Y v.cells) n .own))):=by
 subst aN
 have cF:Nat.blt 0 v.cells.length=true:=by simp[Nat.blt];omega
 have fx:Nat.beq v.cells.length v.cells.length=true:=by simp
 have bD:Nat.ble (Y+v.cells.length) n=true:=by simpa using bl
 have jh:Nat.ble C.a8 b=true:=by simpa using aj
 simp only[ce,tU,a,jV,jh,bD,cF,fx,Q,Ya,eP,g8]
def rg(B:IntKind)(n:Nat):mU (.int B (n:Int))=some n:=rfl
def aug(B:IntKind):mU (.int B 0)=some 0:=rfl
def uU(B:IntKind)(x e:Int):aF .lss (.int B x) (.int B e)=some (.bool (decide (x<e))):=by
 cases B<;>simp[aF,lG,lY,lo,wd,tr]<;>(rw[Yg];simp)
def uS(B:IntKind)(x e:Int):aF .gtr (.int B x) (.int B e)=some (.bool (decide (e<x))):=by
 cases B<;>simp[aF,lG,lY,lo,wd,tr]<;>(rw[Yg];simp)
def uT(B:IntKind)(x e:Int):aF .leq (.int B x) (.int B e)=some (.bool (decide (x<=e))):=by
 cases B<;>simp[aF,lG,lY,lo,wd,tr]<;>(rw[Yg];simp)
def uR(B:IntKind)(x e:Int):aF .geq (.int B x) (.int B e)=some (.bool (decide (e<=x))):=by
 cases B<;>simp[aF,lG,lY,lo,wd,tr]<;>(rw[Yg];simp)
def uQ(B:IntKind)(x e:Int):aF .eql (.int B x) (.int B e)=some (.bool (decide (x=e))):=by
 cases B<;>simp[aF,lG,lY,lo,wd,FO]
def uV(B:IntKind)(x e:Int):aF .neq (.int B x) (.int B e)=some (.bool (decide (x≠e))):=by
 cases B<;>simp[aF,lG,lY,lo,wd,FO]
def wrap64{n:Int}(Q: -9223372036854775808<=n)(U:n<9223372036854775808):pg .i64 n=n:=by
 simp only[pg,fw,Zh]
 split<;>omega
def eT{x e:Int}(Q: -9223372036854775808<=x+e)(U:x+e<9223372036854775808):aF .add (.int .i64 x) (.int .i64 e)=some (.int .i64 (x+e)):=by
 simp[aF,lG,lY,lo,kT,wrap64 Q U]
def w3{x e:Int}(Q: -9223372036854775808<=x-e)(U:x-e<9223372036854775808):aF .sub (.int .i64 x) (.int .i64 e)=some (.int .i64 (x-e)):=by
 simp[aF,lG,lY,lo,kT,wrap64 Q U]
def acq(x e:Int):aF .add (.int .u64 x) (.int .u64 e)=some (.int .u64 ((x+e)%18446744073709551616)):=by
 simp[aF,lG,lY,lo,kT,pg]
def FR{a1 b Y len cap i:Nat}(B:IntKind)(a:i<len):dW a1 (.slice b Y len cap) (.int B (i:Int))=some (.ptr b (Y+i*a1)):=by
 simp[dW,rg,BP,fw,Nat.blt,a];omega
def Dg{a1 b Y len cap i:Nat}(B:IntKind)(a:i<len):dW a1 (.en b Y len cap) (.int B (i:Int))=some (.ptr b (Y+i*a1)):=by
 simp[dW,rg,BP,fw,Nat.blt,a];omega
def vW(d b Y:Nat):ba d (.ptr b Y)=some (.ptr b (Y+d)):=rfl
def vU(i:Nat)(l:List F):cM i (.tuple l)=l[i]? :=by simp[cM]
def vV(b Y:Nat):cm (.ptr b Y)=some (.ptr b Y):=rfl
def vj(b:Bool):fG .not (.bool b)=some (.bool (!b)):=by simp[fG,wd]
def v1(c:V F)(l:List F):Prop:=∀i,c.get i=l[i]?
def mT(l:List F):v1 (V.ofList l 0 .nil) l:=λi=>kw l i
def v1.app{c:V F}{l:List F}(a:v1 c l)(m:List F):v1 (dQ c l.length m) (l++m):=by
 intro i
 rw[jS]
 by_cases Q:l.length<=i/\i<l.length+m.length
 ·rw[Zq Q,ZE Q.1]
 ·rw[Zg Q,a i]
  by_cases U:i<l.length
  ·rw[ZO U]
  ·rw[ZG Zo,ZG (by simp;omega)]
end
end
end Go.bi

namespace Go.bi
noncomputable section
section
variable{C:aZ}{h:V an}{j:Nat}
def kJ{K b:Nat}(a:K<=b):Nat.ble K b=true:=by simpa using a
def kk(C:aZ)(h:V an)(s:F)(a1:Nat)(l:List F)(cK:List Nat):Prop:=
 (s= .aP/\l=[]/\cK=[])\/∃b fm n c,s= .en b 0 n a1/\l.length=n*a1/\cK=b::fm/\(∀x∈cK,C.a8<=x)/\b∉fm/\ab C h b=some (.cells c (n*a1) (.grow fm))/\v1 c l
def kk.ad{T:V an}{s:F}{a1:Nat}{l:List F}{cK:List Nat}(a:kk C h s a1 l cK)(aN:∀e∈cK,ab C T e=ab C h e):kk C T s a1 l cK:=by
 rcases a with a|⟨b,fm,n,c,Q,U,ar,aK,bH,cu,dM⟩
 ·exact .inl a
 ·exact .inr ⟨b,fm,n,c,Q,U,ar,aK,bH,by rw[aN b (by rw[ar];exact Zu ..)];exact cu,dM⟩
def sE{a1 B b n:Nat}{l:List F}{c:V F}{st:nF}(a:ab C h b=some (.cells c n st))(aB:v1 c l)(aC:l.length=B*a1)(cap:Nat):kX C h a1 (.slice b 0 B cap)=some (B,l):=by
 have b5:∀(m Y:Nat),Y+m<=l.length->c.km Y m=some ((l.drop Y).take m):=by
  intro m
  induction m with
  |zero=>intro Y _;simp[V.km]
  |succ m ak=>
   intro Y bl
   have Q:c.get Y=some l[Y]:=by rw[aB Y,Ze Zo]
   simp only[V.km,Q,ak (Y+1) Zo]
   rw[Zv (by omega:Y<l.length),Z4]
 simp only[kX,mN,cellsOf,a]
 rw[b5 (B*a1) 0 Zo]
 simp[<-aC]
def fU{b:gs->gs}{M:dS}{h:V an}{j:Nat}(rE:Nat->gs)(m:Nat)(b6:rE m M h j)(a:∀m M h j,rE m M h j->b (λM h j=>∃gm,gm<m/\rE gm M h j) M h j):fJ b M h j:=⟨⟨rE,⟨m,b6⟩,a⟩⟩
def X9{c:V F}{l:List F}(aB:v1 c l):∀(m Y:Nat),Y+m<=l.length->c.km Y m=some ((l.drop Y).take m):=by
 intro m
 induction m with
 |zero=>intro Y _;simp[V.km]
 |succ m ak=>
  intro Y bl
  have Q:c.get Y=some l[Y]:=by rw[aB Y,Ze Zo]
  simp only[V.km,Q,ak (Y+1) Zo]
  rw[Zv (by omega:Y<l.length),Z4]
def uf{a1:Nat}:∀{aR:List (List F)},(∀r∈aR,r.length=a1)->aR.flatten.length=aR.length*a1:=by
 intro aR
 induction aR with
 |nil=>intro _;simp
 |cons K l ak=>
  intro a
  rw[Z6,ZM,a K (Zu ..),ak (λr Z=>a r (Zr _ Z)),ZB,Ye]
  omega
abbrev zx(l:List F)(n:Nat):Option an:=some (.cells (V.ofList l 0 .nil) n .own)
def zy(i:Nat)(h:i<1000000000:=by omega):aF .add (.Z (i:Int)) (.Z 1)=some (.Z ((i+1:Nat):Int)):=by rw[eT (by omega) (by omega)];rfl
def zz{p:Prop}(h:p:=by simp(disch:=omega) only[aI]):p:=h
def zE{C:aZ}{S T:V an}{b o:Nat}{v:Option F}(h:ab C T b=ab C S b)(k:ao C S (.ptr b o)=v):ao C T (.ptr b o)=v:=by rw[cJ,h,<-cJ];exact k
abbrev zB(T:dS)(a:Nat)(x:F)(b:Nat)(y:F):dS:=ac (ac T a x) b y
abbrev zC(T:dS)(a:Nat)(x:F)(b:Nat)(y:F)(c:Nat)(z:F):dS:=ac (zB T a x b y) c z
abbrev zD(T:dS)(a:Nat)(x:F)(b:Nat)(y:F)(c:Nat)(z:F)(d:Nat)(u:F):dS:=zB (zB T a x b y) c z d u
end
end
end Go.bi

namespace Go.aU
abbrev bk:=List Nat
structure d9 where
 b:Bool
 s:Bool
 w:Int
 deriving DecidableEq
structure Tok where
 kind:Int
 text:bk
 at_:Int
 n:Int
 ty:d9
inductive bE where
 |mk (kind at_:Int) (name:bk) (no:Bool) (ty:d9) (n:Int) (args:List bE)
structure fe where
 name:bk
 at_:Int
 ty:d9
 on:bk
 fu:Int
 no:Bool
structure e9 where
 left:List bk
 dg:List Int
 at_:Int
 right:bE
structure Node where
 name:bk
 at_:Int
 eG:List fe
 out:List fe
 loc:List fe
 eqs:List e9
def dN:d9:=⟨false,false,0⟩
def bE.kind:bE->Int| .mk B _ _ _ _ _ _=>B
def bE.args:bE->List bE| .mk _ _ _ _ _ _ l=>l
abbrev ga(α:Type):=Option (Except Int (α×List Tok))
def ok{α:Type}(K:α)(l:List Tok):ga α:=some (.ok (K,l))
def bad{α:Type}(at_:Int):ga α:=some (.error at_)
def andThen{α eO:Type}(x:ga α)(f:α->List Tok->ga eO):ga eO:=match x with
 |none=>none
 |some (.error K)=>some (.error K)
 |some (.ok (K,l))=>f K l
def g3(x:Tok)(s:bk):Bool:=(x.kind=2||x.kind=6)&&x.text=s
def lM(s:bk):List Tok->Option (Option Tok×List Tok)
 |[]=>none
 |x::l=>if g3 x s then some (some x,l)else some (none,x::l)
def h7{eO:Type}(s:bk)(l:List Tok)(f:Option Tok->List Tok->ga eO):ga eO:=match lM s l with
 |none=>none
 |some (x,l)=>f x l
def eH(s:bk):List Tok->ga Tok
 |[]=>none
 |x::l=>if g3 x s then ok x l else bad x.at_
def iy(B:Int):List Tok->ga Tok
 |[]=>none
 |x::l=>if x.kind=B then ok x l else bad x.at_
def ax:Nat->List (bk×Int)
 |0=>[([111,114],7),([120,111,114],8)]
 |1=>[([97,110,100],9)]
 |2=>[([61],10),([60,62],11),([60,61],13),([62,61],15),([60],12),([62],14)]
 |3=>[([43],16),([45],17)]
 |4=>[([42],18)]
 |_=>[]
def ow:List (bk×Int)->List Tok->Option (Option bE×List Tok)
 |[],l=>some (none,l)
 |(s,B)::os,l=>match lM s l with
  |none=>none
  |some (some x,l)=>some (some (.mk B x.at_ [] false dN 0 []),l)
  |some (none,l)=>ow os l
def bE.at_:bE->Int| .mk _ K _ _ _ _ _=>K
def tw(J:bE):Option Bool:=if J.kind=1 then some true else if J.kind=4 then(match J.args with|[]=>none|K::_=>some (decide (K.kind=1)))else some false
def bE.name:bE->bk| .mk _ _ s _ _ _ _=>s
def bE.no:bE->Bool| .mk _ _ _ b _ _ _=>b
def bE.ty:bE->d9| .mk _ _ _ _ t _ _=>t
def bE.n:bE->Int| .mk _ _ _ _ _ n _=>n
def two(J:bE)(K b:bE):bE:= .mk J.kind J.at_ [] false dN 0 [K,b]
def yQ:List (bk×Int):=[([110,111,116],3),([45],4),([112,114,101],5)]
mutual
def level:Nat->Nat->List Tok->ga bE
 |0,_,_=>none
 |n+1,B,l=>if B=5 then shift n l else andThen (level n (B+1) l) λleft l=>oY n B left l
def oY:Nat->Nat->bE->List Tok->ga bE
 |0,_,_,_=>none
 |n+1,B,left,l=>match ow (ax B) l with
  |none=>none
  |some (none,l)=>ok left l
  |some (some J,l)=>andThen (level n (B+1) l) λr l=>if B=2 then ok (two J left r) l else oY n B (two J left r) l
def shift:Nat->List Tok->ga bE
 |0,_=>none
 |n+1,l=>andThen (xk n l) λleft l=>o8 n left l
def o8:Nat->bE->List Tok->ga bE
 |0,_,_=>none
 |n+1,left,l=>h7 [60,60] l λx l=>match x with
  |some x=>o9 n 19 x left l
  |none=>h7 [62,62] l λx l=>match x with
   |some x=>o9 n 20 x left l
   |none=>ok left l
def o9:Nat->Int->Tok->bE->List Tok->ga bE
 |0,_,_,_,_=>none
 |n+1,B,x,left,l=>andThen (iy 4 l) λm l=>if 63<m.n then bad m.at_ else o8 n (.mk B x.at_ [] false dN m.n [left]) l
def xk:Nat->List Tok->ga bE
 |0,_=>none
 |n+1,l=>match ow yQ l with
  |none=>none
  |some (some J,l)=>andThen (xk n l) λK l=>ok (.mk J.kind J.at_ [] false dN 0 [K]) l
  |some (none,l)=>andThen (part n l) λleft l=>m4 n left l
def m4:Nat->bE->List Tok->ga bE
 |0,_,_=>none
 |n+1,left,l=>h7 [119,104,101,110] l λx l=>match x with
  |none=>ok left l
  |some x=>h7 [110,111,116] l λno l=>andThen (iy 1 l) λc l=>m4 n (.mk 6 x.at_ c.text no.isSome dN 0 [left]) l
def part:Nat->List Tok->ga bE
 |0,_=>none
 |_+1,[]=>none
 |n+1,x::l=>
  if x.kind=5 then ok (.mk 1 x.at_ [] false x.ty x.n []) l
  else if x.kind=2&&(x.text=[116,114,117,101]||x.text=[102,97,108,115,101])then ok (.mk 1 x.at_ [] false ⟨true,false,1⟩ (if x.text=[116,114,117,101]then 1 else 0) []) l
  else if x.kind=1 then h7 [40] l λe l=>match e with
   |none=>ok (.mk 2 x.at_ x.text false dN 0 []) l
   |some _=>andThen (list n l) λct l=>ok (.mk 25 x.at_ x.text false dN 0 ct) l
  else if x.kind=3 then andThen (eH [40] l) λ_ l=>andThen (arrow n l) λJ l=>andThen (eH [41] l) λ_ l=>ok (.mk 26 x.at_ [] false x.ty 0 [J]) l
  else if x.kind=6&&x.text=[40]then andThen (arrow n l) λJ l=>andThen (eH [41] l) λ_ l=>ok J l
  else if x.kind=2&&x.text=[105,102]then andThen (arrow n l) λc l=>andThen (eH [116,104,101,110] l) λ_ l=>andThen (arrow n l) λK l=>andThen (eH [101,108,115,101] l) λ_ l=>andThen (arrow n l) λb l=>ok (.mk 23 x.at_ [] false dN 0 [c,K,b]) l
  else if x.kind=2&&x.text=[109,101,114,103,101]then andThen (iy 1 l) λc l=>andThen (part n l) λK l=>andThen (part n l) λb l=>ok (.mk 24 x.at_ c.text false dN 0 [K,b]) l
  else bad x.at_
def list:Nat->List Tok->ga (List bE)
 |0,_=>none
 |n+1,l=>h7 [41] l λe l=>match e with
  |some _=>ok [] l
  |none=>andThen (arrow n l) λJ l=>o0 n [J] l
def o0:Nat->List bE->List Tok->ga (List bE)
 |0,_,_=>none
 |n+1,ct,l=>h7 [44] l λe l=>match e with
  |none=>andThen (eH [41] l) λ_ l=>ok ct l
  |some _=>andThen (arrow n l) λJ l=>o0 n (ct++[J]) l
def lz:Nat->List Tok->ga bE
 |0,_=>none
 |n+1,l=>andThen (level n 0 l) λleft l=>h7 [102,98,121] l λx l=>match x with
  |none=>ok left l
  |some x=>match tw left with
   |none=>none
   |some true=>andThen (lz n l) λr l=>ok (.mk 21 x.at_ [] false dN 0 [left,r]) l
   |some false=>bad x.at_
def arrow:Nat->List Tok->ga bE
 |0,_=>none
 |n+1,l=>andThen (lz n l) λleft l=>h7 [45,62] l λx l=>match x with
  |none=>ok left l
  |some x=>andThen (arrow n l) λr l=>ok (.mk 22 x.at_ [] false dN 0 [left,r]) l
end
def rf:Nat->List Tok->List Tok->ga (List Tok)
 |0,_,_=>none
 |n+1,ct,l=>andThen (iy 1 l) λx l=>h7 [44] l λe l=>match e with
  |none=>ok (ct++[x]) l
  |some _=>rf n (ct++[x]) l
def pv(ty:d9)(on:bk)(fu:Int)(no:Bool)(x:Tok):fe:=⟨x.text,x.at_,ty,on,fu,no⟩
def y0:Nat->List Tok->Option bk
 |_,[]=>none
 |0,x::_=>some x.text
 |i+1,_::l=>y0 i l
def xU(loc:Bool)(B:List fe->List Tok->ga (List fe))(ds:List fe)(l:List Tok):ga (List fe):=match y0 0 l with
 |none=>none
 |some s=>if s=[59]then(if loc then(match y0 1 l with
   |none=>none
   |some s=>if s=[108,101,116]then ok ds l else B ds (l.drop 1))else B ds (l.drop 1))
  else ok ds l
def Av(w:Option Tok)(l:List Tok):ga (bk×Int×Bool):=match w with
 |none=>ok ([],0,false) l
 |some _=>h7 [110,111,116] l λno l=>andThen (iy 1 l) λon l=>ok (on.text,on.at_,no.isSome) l
def Cg(loc:Bool)(B:List fe->List Tok->ga (List fe))(ds:List fe)(cn:List Tok)(l:List Tok):ga (List fe):=
 andThen (eH [58] l) λ_ l=>andThen (iy 3 l) λt l=>h7 [119,104,101,110] l λw l=>
 andThen (Av w l) λr l=>xU loc B (ds++cn.map (pv t.ty r.1 r.2.1 r.2.2)) l
def iW:Nat->Bool->List fe->List Tok->ga (List fe)
 |0,_,_,_=>none
 |n+1,loc,ds,l=>andThen (rf n [] l) λcn l=>Cg loc (iW n loc) ds cn l
def ue(n:Nat)(l:List Tok):ga e9:=h7 [40] l λe l=>
 andThen (match e with
  |some _=>andThen (iy 1 l) λx l=>andThen (eH [44] l) λ_ l=>andThen (rf n [x] l) λcn l=>andThen (eH [41] l) λ_ l=>ok cn l
  |none=>andThen (iy 1 l) λx l=>ok [x] l) λcn l=>
 andThen (eH [61] l) λJ l=>andThen (arrow n l) λr l=>andThen (eH [59] l) λ_ l=>ok ⟨cn.map Tok.text,cn.map Tok.at_,J.at_,r⟩ l
def ly:Nat->List e9->List Tok->ga (List e9)
 |0,_,_=>none
 |n+1,cR,l=>h7 [116,101,108] l λe l=>match e with
  |some _=>ok cR l
  |none=>andThen (ue n l) λam l=>ly n (cR++[am]) l
def node(n:Nat)(l:List Tok):ga Node:=
 andThen (eH [110,111,100,101] l) λ_ l=>andThen (iy 1 l) λx l=>andThen (eH [40] l) λ_ l=>h7 [41] l λe l=>
 andThen (match e with
  |some _=>ok [] l
  |none=>andThen (iW n false [] l) λds l=>andThen (eH [41] l) λ_ l=>ok ds l) λeG l=>
 andThen (eH [114,101,116,117,114,110,115] l) λ_ l=>andThen (eH [40] l) λ_ l=>andThen (iW n false [] l) λout l=>andThen (eH [41] l) λ_ l=>
 h7 [118,97,114] l λe l=>andThen (match e with
  |some _=>andThen (iW n true [] l) λds l=>andThen (eH [59] l) λ_ l=>ok ds l
  |none=>ok [] l) λloc l=>
 andThen (eH [108,101,116] l) λ_ l=>andThen (ly n [] l) λcR l=>ok ⟨x.text,x.at_,eG,out,loc,cR⟩ l
def o3:Nat->List Node->List Tok->ga (List Node)
 |0,_,_=>none
 |n+1,aq,l=>andThen (node n l) λg l=>match l with
  |[]=>none
  |x::_=>if x.kind=7 then ok (aq++[g]) l else o3 n (aq++[g]) l
end Go.aU

namespace Go.bi
noncomputable section
open Go.aU
section
variable{C:aZ}{h T a2:V an}{j au aO:Nat}
def p3{rx:List F}{ai:bI}(a:ai (.ptr j 0) (bn C h j (zx rx rx.length)) (j+1)):E (dT rx j) λr=>cQ C h j r.1 r.2 ai:=⟨⟨a⟩⟩
def Er{b:Nat}{rx:List F}{ai:F->V an->Prop}(a:ai (.ptr b 0) (bn C h b (zx rx rx.length))):E (dT rx b) λr=>kU C h b r.1 r.2 ai:=⟨⟨a⟩⟩
def pz(cs:List F):Cr cs []=some cs:=rfl
def py(cs:List F)(off size:Nat)(v:F)(dq:List (Nat×Nat×F)):Cr cs ((off,size,v)::dq)=if v.cells.length=size/\off+size<=cs.length then Cr (li cs off v.cells) dq else none:=by
 have J:∀K b:Nat,(Nat.beq K b=true)=(K=b):=λK b=>propext ⟨Zj,λa=>by subst a;exact zb K⟩
 simp only[Cr,fw,Zp,J,Nat.ble_eq]
def qI(c:V F)(Y:Nat)(v:F):dQ c Y [v]=c.set Y (some v):=by simp[dQ]
def bR{b n:Nat}{c:V F}{st:nF}(a:ab C h b=some (.cells c n st))(Y:Nat):ao C h (.ptr b Y)=c.get Y:=by rw[cJ,a]
def EY{w:Bool}{K b:Prop}(a:b):it w bi.undef K b:=⟨a⟩
def oX(b Y n c:Nat):dX (.slice b Y n c)=some (.Z (n:Int)):=by simp[dX,n0]
def n7(b Y n c:Nat):dX (.en b Y n c)=some (.Z (n:Int)):=by simp[dX,n0]
def qw:dX .aP=some (.Z 0):=rfl
def sn(s:List Nat):lJ (.str s)=some (.Z (s.length:Int)):=by simp[lJ,n0]
def Du:∀K b:List Nat,mx K b=decide (K=b):=by
 intro K
 induction K with
 |nil=>intro b;cases b<;>simp[mx]
 |cons x K ak=>
  intro b
  cases b with
  |nil=>simp[mx]
  |cons e b=>
   simp only[mx,ak]
   by_cases a:x=e<;>simp[a]
def vy(t:Nat)(sY:Bool)(K b:List Nat):dn C h .eql t sY (.str K) (.str b)=some (.bool (decide (K=b))):=by
 simp[dn,Am,wd,Du]
def vz(t:Nat)(sY:Bool)(K b:List Nat):dn C h .neq t sY (.str K) (.str b)=some (.bool (decide (K≠b))):=by
 simp[dn,Am,wd,Du]
def uh(off a1:Nat)(cs:List F):qX false off a1 (.agg cs)=cs[off]? :=by simp[qX,fw]
def ug(off a1:Nat)(cs:List F):qX true off a1 (.agg cs)=some (.agg ((cs.drop off).take a1)):=by simp[qX,fw]
def rM(t:Nat)(bt v:F):Eu t bt true (.iface t v)=some (.tuple [v, .bool true]):=by simp[Eu,fw]
def ub(B:IntKind)(x:Int):mf .u64 (.int B x)=some (.int .u64 (x%18446744073709551616)):=by simp[mf,kT,pg]
def W9{B:IntKind}{x:Int}(Q: -9223372036854775808<=x)(U:x<9223372036854775808):mf .i64 (.int B x)=some (.Z x):=by simp[mf,kT,wrap64 Q U]
def uc(s:List Nat):alv (.str s)=some (.str s):=rfl
structure ca(C:aZ)(X:List Nat)(h:V an)(j:Nat)(T:V an)(au:Nat):Prop where
 le:j<=au
 ad:∀b,b<j->b∉X->ab C T b=ab C h b
def ca.refl(X:List Nat)(h:V an)(j:Nat):ca C X h j h j:=⟨Zi _,λ_ _ _=>rfl⟩
def ca.trans{X:List Nat}{a2 aS bb:V an}{aO bg bs:Nat}(a:ca C X a2 aO aS bg)(B:ca C X aS bg bb bs):ca C X a2 aO bb bs:=
 ⟨Zz a.le B.le,λb aj ah=>(B.ad b (ZR aj a.le) ah).trans (a.ad b aj ah)⟩
def ca.of{X:List Nat}(a:bq C h j T au):ca C X h j T au:=⟨a.le,λb aj _=>a.ad b aj⟩
def ca.fT{X:List Nat}(a:ca C X h j T au)(b Y:Nat)(aj:b<j)(ah:b∉X):ao C T (.ptr b Y)=ao C h (.ptr b Y):=by rw[cJ,cJ,a.ad b aj ah]
def ca.down{X d6:List Nat}{a8:Nat}(a:ca C X h j T au)(aL:a8<=j)(ah:∀b∈X,b∈d6\/a8<=b):ca C d6 h a8 T au:=
 ⟨Zz aL a.le,λb aj H=>a.ad b Zo (λJ=>by rcases ah b J with a|a;exact H a;omega)⟩
structure dO(C:aZ)(h:V an)(P:Nat->Prop)(b:Nat)(a6:F)(a1:Nat)(aR:List (List F)):Prop where
 aj:aR≠[]->P b
 many:aR.length<=300000
 wide:∀r∈aR,r.length=a1
 len:dX a6=some (.Z (aR.length:Int))
 f2:∀(i:Nat),i<aR.length->dW a1 a6 (.Z (i:Int))=some (.ptr b (i*a1))
 cell:∀(i:Nat) r (aa:Nat) v,aR[i]? =some r->r[aa]? =some v->ao C h (.ptr b (i*a1+aa))=some v
def dO.ad{P:Nat->Prop}{b a1:Nat}{a6:F}{aR:List (List F)}(a:dO C h P b a6 a1 aR)(B:∀e,P e->ab C T e=ab C h e):dO C T P b a6 a1 aR:=
 ⟨a.aj,a.many,a.wide,a.len,a.f2,λi r aa v aJ bG=>by
  have aN:=B b (a.aj (λJ=>by rw[J]at aJ;cases aJ))
  rw[cJ,aN, <-cJ];exact a.cell i r aa v aJ bG⟩
def dO.lift{P bu:Nat->Prop}{b a1:Nat}{a6:F}{aR:List (List F)}(a:dO C h P b a6 a1 aR)(B:∀e,P e->bu e):dO C h bu b a6 a1 aR:=
 ⟨λJ=>B _ (a.aj J),a.many,a.wide,a.len,a.f2,a.cell⟩
def X8{c:V F}:∀(r:List F) (Y:Nat),(∀aa v,r[aa]? =some v->c.get (Y+aa)=some v)->c.km Y r.length=some r:=by
 intro r
 induction r with
 |nil=>intro Y _;rfl
 |cons K r ak=>
  intro Y a
  have b6:=a 0 K rfl
  rw[ZY]at b6
  have Q:=ak (Y+1) (λaa v bG=>by have:=a (aa+1) v (by simpa using bG);rw[Nat.add_right_comm];simpa[ZJ,Nat.add_comm,Nat.add_left_comm]using this)
  simp[V.km,b6,Q]
def dO.row{P:Nat->Prop}{b a1:Nat}{a6:F}{aR:List (List F)}(a:dO C h P b a6 a1 aR)(aD:0<a1){i:Nat}{r:List F}(aJ:aR[i]? =some r):cg C h a1 (.ptr b (i*a1))=some (.agg r):=by
 have aC:=a.wide r (Zl aJ)
 have b6:∃v,r[0]? =some v:=by
  cases r with
  |nil=>simp at aC;omega
  |cons K l=>exact⟨K,rfl⟩
 obtain⟨v,bB⟩:=b6
 have aB:=a.cell i r 0 v aJ bB
 rw[cJ]at aB
 rw[u4]
 split at aB
 ·rename_i c _ _ aj
  have:=X8 (c:=c) r (i*a1) (λaa v bG=>by
   have:=a.cell i r aa v aJ bG
   rw[cJ,aj]at this
   exact this)
  rw[aC]at this
  rw[this];rfl
 ·cases aB
def Lf{a1:Nat}:∀(aR:List (List F)),(∀r∈aR,r.length=a1)->∀(i:Nat) r (aa:Nat) v,aR[i]? =some r->r[aa]? =some v->aR.flatten[i*a1+aa]? =some v:=by
 intro aR
 induction aR with
 |nil=>intro _ i r aa v aJ;simp at aJ
 |cons K l ak=>
  intro Z i r aa v aJ bG
  have aE:=Z K (Zu ..)
  have uB:aa<r.length:=(Zb.1 bG).1
  cases i with
  |zero=>
   simp at aJ;subst aJ
   rw[Z6,zd,ZI,ZO Zo];exact bG
  |succ i=>
   simp at aJ
   rw[Z6,ZE (by rw[aE,Ye];omega),aE]
   have:(i+1)*a1+aa-a1=i*a1+aa:=by rw[Ye];omega
   rw[this]
   exact ak (λr kq=>Z r (Zr _ kq)) i r aa v aJ bG
def kk.l5{a1:Nat}{s:F}{aR:List (List F)}{cK:List Nat}(a:kk C h s a1 aR.flatten cK)(eN:0<a1)(Z:∀r∈aR,r.length=a1)(bp:aR.length<=300000){P:Nat->Prop}(aC:∀e∈cK,P e):∃b,dO C h P b s a1 aR:=by
 have gr:=uf Z
 have ab:∀(aR:List (List F)),(∀r∈aR,r.length=a1)->∀(i:Nat) r (aa:Nat) v,aR[i]? =some r->r[aa]? =some v->aR.flatten[i*a1+aa]? =some v:=by
  intro aR
  induction aR with
  |nil=>intro _ i r aa v aJ;simp at aJ
  |cons K l ak=>
   intro Z i r aa v aJ bG
   have aE:=Z K (Zu ..)
   have uB:aa<r.length:=(Zb.1 bG).1
   cases i with
   |zero=>
    simp at aJ;subst aJ
    rw[Z6,zd,ZI,ZO Zo];exact bG
   |succ i=>
    simp at aJ
    rw[Z6,ZE (by rw[aE,Ye];omega),aE]
    have:(i+1)*a1+aa-a1=i*a1+aa:=by rw[Ye];omega
    rw[this]
    exact ak (λr kq=>Z r (Zr _ kq)) i r aa v aJ bG
 rcases a with ⟨Q,U,ar⟩|⟨b,fm,n,c,Q,U,ar,aK,bH,cu,dM⟩
 ·have Rt:aR.length=0:=by
   rw[U,ZU]at gr
   rcases Nat.mul_eq_zero.1 gr.symm with a|a
   ·exact a
   ·omega
  have Rt:aR=[]:=List.length_eq_zero_iff.1 Rt
  subst Rt Q
  exact⟨0,λJ=>absurd rfl J,Zs,Z,rfl,λi aJ=>by simp at aJ,λi r aa v aJ=>by simp at aJ⟩
 ·have aL:n=aR.length:=Nat.eq_of_mul_eq_mul_right eN (by rw[<-U,gr])
  subst aL Q
  refine⟨b,λ_=>aC b (by rw[ar];exact Zu ..),bp,Z,n7 ..,λi aJ=>by rw[Dg _ aJ,ZI],λi r aa v aJ bG=> ?_⟩
  rw[cJ,cu]
  exact(dM _).trans (ab aR Z i r aa v aJ bG)
def Gw{b a1 B cap:Nat}{aR:List (List F)}{st:nF}(aj:ab C h b=some (.cells (V.ofList aR.flatten 0 .nil) (B*a1) st))(aN:aR.length=B)(Z:∀r∈aR,r.length=a1)(bp:B<=300000){P:Nat->Prop}(bC:P b):dO C h P b (.slice b 0 B cap) a1 aR:=by
 subst aN
 have ab:∀(aR:List (List F)),(∀r∈aR,r.length=a1)->∀(i:Nat) r (aa:Nat) v,aR[i]? =some r->r[aa]? =some v->aR.flatten[i*a1+aa]? =some v:=by
  intro aR
  induction aR with
  |nil=>intro _ i r aa v aJ;simp at aJ
  |cons K l ak=>
   intro Z i r aa v aJ bG
   have aE:=Z K (Zu ..)
   have uB:aa<r.length:=(Zb.1 bG).1
   cases i with
   |zero=>
    simp at aJ;subst aJ
    rw[Z6,zd,ZI,ZO Zo];exact bG
   |succ i=>
    simp at aJ
    rw[Z6,ZE (by rw[aE,Ye];omega),aE]
    have:(i+1)*a1+aa-a1=i*a1+aa:=by rw[Ye];omega
    rw[this]
    exact ak (λr kq=>Z r (Zr _ kq)) i r aa v aJ bG
 refine⟨λ_=>bC,bp,Z,oX ..,λi aJ=>by rw[FR _ aJ,ZI],λi r aa v aJ bG=> ?_⟩
 rw[cJ,aj]
 exact(kw _ _).trans (ab aR Z i r aa v aJ bG)
def eF(t:d9):List F:=[.bool t.b, .bool t.s, .Z t.w]
def nD(C:aZ)(h:V an)(b:Nat):Prop:=∃c n,ab C h b=some (.cells c n .own)/\0<n
def nD.ad{b:Nat}(a:nD C h b)(B:ab C T b=ab C h b):nD C T b:=by unfold nD;rw[B];exact a
mutual
def cO(C:aZ)(h:V an):(Nat->Prop)->bE->F->Prop
 |P, .mk kind at_ name no ty n args,v=>∃b,v= .ptr b 0/\P b/\nD C h b/\ao C h (.ptr b 0)=some (.Z kind)/\ao C h (.ptr b 1)=some (.Z at_)/\ao C h (.ptr b 2)=some (.str name)/\ao C h (.ptr b 3)=some (.bool no)
   /\ao C h (.ptr b 4)=some (.bool ty.b)/\ao C h (.ptr b 5)=some (.bool ty.s)/\ao C h (.ptr b 6)=some (.Z ty.w)/\ao C h (.ptr b 7)=some (.int .u64 n)
   /\∃a6 cH bo,ao C h (.ptr b 8)=some a6/\dO C h P cH a6 1 (bo.map λv=>[v])/\(bo≠[]->cH≠b)/\dw C h (λe=>P e/\e≠b/\e≠cH) args bo
def dw(C:aZ)(h:V an):(Nat->Prop)->List bE->List F->Prop
 |_,[],bo=>bo=[]
 |P,J::cb,bo=>∃v ma bu,bo=v::ma/\(∀e,bu e->P e)/\cO C h bu J v/\dw C h (λe=>P e/\¬bu e) cb ma
end
mutual
def cO.ad{P:Nat->Prop}(B:∀e,P e->ab C T e=ab C h e):∀(J:bE) (v:F),cO C h P J v->cO C T P J v
 | .mk kind at_ name no ty n args,v,a=>by
   unfold cO at a ⊢
   obtain⟨b,Q,bC,bl,U,ar,aK,bH,cu,dM,fs,jW,a6,cH,bo,rW,uo,r0,ye⟩:=a
   have aC:∀Y,ao C T (.ptr b Y)=ao C h (.ptr b Y):=λY=>by rw[cJ,cJ,B b bC]
   exact⟨b,Q,bC,bl.ad (B b bC),by rw[aC];exact U,by rw[aC];exact ar,by rw[aC];exact aK,by rw[aC];exact bH,by rw[aC];exact cu,by rw[aC];exact dM,by rw[aC];exact fs,by rw[aC];exact jW,a6,cH,bo,by rw[aC];exact rW,uo.ad B,r0,dw.ad (λe H=>B e H.1) args bo ye⟩
def dw.ad{P:Nat->Prop}(B:∀e,P e->ab C T e=ab C h e):∀(cb:List bE) (bo:List F),dw C h P cb bo->dw C T P cb bo
 |[],bo,a=>by unfold dw at a ⊢;exact a
 |J::cb,bo,a=>by
  unfold dw at a ⊢
  obtain⟨v,ma,bu,Q,b1,U,ar⟩:=a
  exact⟨v,ma,bu,Q,b1,cO.ad (λe H=>B e (b1 e H)) J v U,dw.ad (λe H=>B e H.1) cb ma ar⟩
end
mutual
def cO.lift{P bu:Nat->Prop}(B:∀e,P e->bu e):∀(J:bE) (v:F),cO C h P J v->cO C h bu J v
 | .mk kind at_ name no ty n args,v,a=>by
   unfold cO at a ⊢
   obtain⟨b,Q,bC,bl,U,ar,aK,bH,cu,dM,fs,jW,a6,cH,bo,rW,uo,r0,ye⟩:=a
   exact⟨b,Q,B b bC,bl,U,ar,aK,bH,cu,dM,fs,jW,a6,cH,bo,rW,uo.lift B,r0,dw.lift (λe H=>⟨B e H.1,H.2⟩) args bo ye⟩
def dw.lift{P bu:Nat->Prop}(B:∀e,P e->bu e):∀(cb:List bE) (bo:List F),dw C h P cb bo->dw C h bu cb bo
 |[],bo,a=>by unfold dw at a ⊢;exact a
 |J::cb,bo,a=>by
  unfold dw at a ⊢
  obtain⟨v,ma,eo,Q,b1,U,ar⟩:=a
  exact⟨v,ma,eo,Q,λe H=>B e (b1 e H),U,dw.lift (λe H=>⟨B e H.1,H.2⟩) cb ma ar⟩
end
def dw.nil{P:Nat->Prop}:dw C h P [] []:=by unfold dw;rfl
def g7(kind at_:Int)(name:bk)(no:Bool)(ty:d9)(n:Int)(a6:F):List F:=[.Z kind, .Z at_, .str name, .bool no, .bool ty.b, .bool ty.s, .Z ty.w, .int .u64 n,a6]
def cO.of{P:Nat->Prop}{b cH:Nat}{kind at_ n:Int}{name:bk}{no:Bool}{ty:d9}{a6:F}{m:Nat}{st:nF}{args:List bE}{bo:List F}(aj:ab C h b=some (.cells (V.ofList (g7 kind at_ name no ty n a6) 0 .nil) m st))(bC:P b)
 (aD:dO C h P cH a6 1 (bo.map λv=>[v]))(r0:bo≠[]->cH≠b)(aE:dw C h (λe=>P e/\e≠b/\e≠cH) args bo)(bl:st= .own:=by rfl)(bp:0<m:=by exact Nat.zero_lt_succ _):cO C h P (.mk kind at_ name no ty n args) (.ptr b 0):=by
 unfold cO
 refine⟨b,rfl,bC,⟨_,_,bl▸aj,bp⟩, ?_, ?_, ?_, ?_, ?_, ?_, ?_, ?_,a6,cH,bo, ?_,aD,r0,aE⟩<;>(rw[bR aj,kw];rfl)
def dO.nil(P:Nat->Prop)(a1:Nat):dO C h P 0 .aP a1 []:=⟨λJ=>absurd rfl J,Zs,Zs,rfl,λi aJ=>by simp at aJ,λi r aa v aJ=>by simp at aJ⟩
def cO.leaf{P:Nat->Prop}{b:Nat}{kind at_ n:Int}{name:bk}{no:Bool}{ty:d9}{m:Nat}{st:nF}(aj:ab C h b=some (.cells (V.ofList (g7 kind at_ name no ty n .aP) 0 .nil) m st))(bC:P b)(bl:st= .own:=by rfl)(bp:0<m:=by exact Nat.zero_lt_succ _):cO C h P (.mk kind at_ name no ty n []) (.ptr b 0):=
 cO.of (bo:=[]) aj bC (dO.nil P 1) (λa=>absurd rfl a) dw.nil bl bp
def XT:∀bo:List F,(bo.map λv=>[v]).flatten=bo:=by
 intro bo
 induction bo with
 |nil=>rfl
 |cons K l ak=>simp[ak]
def cO.lit{P:Nat->Prop}{b cH B cap:Nat}{kind at_ n:Int}{name:bk}{no:Bool}{ty:d9}{m:Nat}{st iR:nF}{args:List bE}{bo:List F}(aj:ab C h b=some (.cells (V.ofList (g7 kind at_ name no ty n (.slice cH 0 B cap)) 0 .nil) m st))(bC:P b)
 (In:ab C h cH=some (.cells (V.ofList bo 0 .nil) B iR))(aoO:P cH)(aN:bo.length=B)(h4:B<=1000)(r0:cH≠b)(aE:dw C h (λe=>P e/\e≠b/\e≠cH) args bo)(bl:st= .own:=by rfl)(bp:0<m:=by exact Nat.zero_lt_succ _):cO C h P (.mk kind at_ name no ty n args) (.ptr b 0):=
 cO.of aj bC (Gw (aR:=bo.map λv=>[v]) (by rw[XT,Yj];exact In) (by simpa using aN) Zs Zo aoO) (λ_=>r0) aE bl bp
def dw.one{P bu:Nat->Prop}{J:bE}{v:F}(a:cO C h bu J v)(b1:∀e,bu e->P e):dw C h P [J] [v]:=by
 unfold dw;exact⟨v,[],bu,rfl,b1,a,dw.nil⟩
def dw.two{P bu eo:Nat->Prop}{J f:bE}{v w:F}(a:cO C h bu J v)(B:cO C h eo f w)(b1:∀e,bu e->P e)(Z:∀e,eo e->P e/\¬bu e):dw C h P [J,f] [v,w]:=by
 unfold dw;exact⟨v,[w],bu,rfl,b1,a,dw.one B Z⟩
def dw.snoc{bu:Nat->Prop}{J:bE}{v:F}(B:cO C h bu J v):∀{cb:List bE}{bo:List F}{P0 P:Nat->Prop},dw C h P0 cb bo->(∀e,P0 e->P e)->(∀e,bu e->P e/\¬P0 e)->dw C h P (cb++[J]) (bo++[v]):=by
 intro cb
 induction cb with
 |nil=>intro bo P0 P a Q U;unfold dw at a;subst a;exact dw.one B (λe H=>(U e H).1)
 |cons K l ak=>
  intro bo P0 P a Q U
  unfold dw at a
  obtain⟨w,ma,eo,rfl,b1,ar,aK⟩:=a
  show dw C h P (K::(l++[J])) (w::(ma++[v]))
  unfold dw
  exact⟨w,ma++[v],eo,rfl,λe H=>Q e (b1 e H),ar,ak aK (λe H=>⟨Q e H.1,H.2⟩) (λe H=>⟨⟨(U e H).1,λiI=>(U e H).2 (b1 e iI)⟩,λoO=>(U e H).2 oO.1⟩)⟩
def cO.ptr{P:Nat->Prop}:∀{J:bE}{v:F},cO C h P J v->∃b,v= .ptr b 0/\P b/\ao C h (.ptr b 0)=some (.Z J.kind)
 | .mk ..,_,a=>by
   unfold cO at a
   obtain⟨b,Q,bC,_,U,_⟩:=a
   exact⟨b,Q,bC,U⟩
def cO.open{P:Nat->Prop}:∀{J:bE}{v:F},cO C h P J v->∃b a6 cH bo,v= .ptr b 0/\P b/\ao C h (.ptr b 0)=some (.Z J.kind)/\ao C h (.ptr b 1)=some (.Z J.at_)/\ao C h (.ptr b 2)=some (.str J.name)/\ao C h (.ptr b 3)=some (.bool J.no)
 /\ao C h (.ptr b 4)=some (.bool J.ty.b)/\ao C h (.ptr b 5)=some (.bool J.ty.s)/\ao C h (.ptr b 6)=some (.Z J.ty.w)/\ao C h (.ptr b 7)=some (.int .u64 J.n)
 /\ao C h (.ptr b 8)=some a6/\dO C h P cH a6 1 (bo.map λv=>[v])/\dw C h P J.args bo
 | .mk ..,_,a=>by
   unfold cO at a
   obtain⟨b,Q,bC,bl,U,ar,aK,bH,cu,dM,fs,jW,a6,cH,bo,rW,uo,r0,ye⟩:=a
   exact⟨b,a6,cH,bo,Q,bC,U,ar,aK,bH,cu,dM,fs,jW,rW,uo,dw.lift (λe H=>H.1) _ _ ye⟩
def dw.len:∀{cb:List bE}{bo:List F}{P:Nat->Prop},dw C h P cb bo->bo.length=cb.length:=by
 intro cb
 induction cb with
 |nil=>intro bo P a;unfold dw at a;subst a;rfl
 |cons K l ak=>
  intro bo P a
  unfold dw at a
  obtain⟨w,ma,bu,rfl,b1,Q,U⟩:=a
  simp[ak U]
def dw.get:∀{cb:List bE}{bo:List F}{P:Nat->Prop},dw C h P cb bo->∀(i:Nat) J,cb[i]? =some J->∃v,bo[i]? =some v/\cO C h P J v:=by
 intro cb
 induction cb with
 |nil=>intro bo P a i J bx;simp at bx
 |cons K l ak=>
  intro bo P a i J bx
  unfold dw at a
  obtain⟨w,ma,bu,rfl,b1,Q,U⟩:=a
  cases i with
  |zero=>simp at bx;subst bx;exact⟨w,rfl,cO.lift b1 _ _ Q⟩
  |succ i=>
   obtain⟨v,ar,aK⟩:=ak U i J (by simpa using bx)
   exact⟨v,by simpa using ar,cO.lift (λe H=>H.1) _ _ aK⟩
def dO.one{P:Nat->Prop}{b:Nat}{a6:F}{bo:List F}(a:dO C h P b a6 1 (bo.map λv=>[v])){i:Nat}{v:F}(aJ:bo[i]? =some v):dW 1 a6 (.Z (i:Int))=some (.ptr b i)/\ao C h (.ptr b i)=some v/\P b:=by
 have jk:=(Zb.1 aJ).1
 have Q:=a.f2 i (by simpa using jk)
 have U:=a.cell i [v] 0 v (by rw[Zx,aJ];rfl) rfl
 rw[Yj]at Q
 rw[Yj,ZY]at U
 exact⟨Q,U,a.aj (λJ=>by simp at J;subst J;simp at aJ)⟩
def akk{a1 B:Nat}{x:F}{m:List F}(ah:kX C h a1 x=some (B,m))(aN:0<B)(aj:B<=1048576):
 hC C h j a1 .aP x=some (.fh (.en j 0 B a1) (bn C h j (some (.cells (V.ofList m 0 .nil) m.length (.grow [])))) (j+1)):=by
 simp only[hC,ah]
 rw[hD,Zg Zo]
 simp[xM,s7,kJ aj,mV]
def akj{a1 B b n:Nat}{x:F}{m:List F}{c:V F}{fm:List Nat}(cv:0<a1)(ah:kX C h a1 x=some (B,m))(aN:0<B)(aj:n+B<=1048576)(an4:iz m=true)
 (aL:C.a8<=b)(bl:ab C h b=some (.cells c (n*a1) (.grow fm))):
 hC C h j a1 (.en b 0 n a1) x=some (.fh (.en j 0 (n+B) a1) (bn C (bn C h b (some (.cells c (n*a1) .jR))) j (some (.cells (dQ c (n*a1) m) (n*a1+m.length) (.grow (b::fm))))) (j+1)):=by
 simp only[hC,ah]
 rw[hD,Zg Zo]
 have c1:¬(0+(n+B)*a1<=n*a1):=by
  have:0<B*a1:=Nat.mul_pos aN cv
  rw[Ye];omega
 have QP:Nat.ble (0+(n+B)*a1) (n*a1)=false:=by
  cases b1:Nat.ble (0+(n+B)*a1) (n*a1)with
  |false=>rfl
  |true=>exact absurd (jf b1) c1
 simp only[xM,Hf,bl,jV,kJ aL,kJ aj,an4,QP]
 simp[fw,mV]
def Wt{a1 B b n:Nat}{x:F}{m l:List F}{c:V F}{st:nF}{am:Nat}(cv:0<a1)(ah:kX C h a1 x=some (B,m))(aN:0<B)(aj:n+B<=1048576)
 (bl:ab C h b=some (.cells c am st))(aB:v1 c l)(aC:l.length=n*a1):
 hC C h j a1 (.slice b 0 n n) x=some (.fh (.en j 0 (n+B) a1) (bn C h j (some (.cells (V.ofList (l++m) 0 .nil) (l++m).length (.grow [])))) (j+1)):=by
 simp only[hC,ah]
 rw[hD,Zg Zo]
 have QP:Nat.ble (n+B) n=false:=by
  cases b1:Nat.ble (n+B) n with
  |false=>rfl
  |true=>exact absurd (jf b1) Zo
 have Io:mN C h b 0 (n*a1)=some l:=by
  simp only[mN,cellsOf,bl]
  rw[X9 aB _ _ Zo]
  simp[<-aC]
 simp only[xM,QP,jF,Io,s7,kJ aj,eP,mV,lS,g8]
def gI(C:aZ)(h:V an)(s:F)(a1:Nat)(l:List F)(cK:List Nat):Prop:=
 kk C h s a1 l cK\/∃b n c st,s= .slice b 0 n n/\l.length=n*a1/\cK=[b]/\ab C h b=some (.cells c (n*a1) st)/\v1 c l
def gI.ad{s:F}{a1:Nat}{l:List F}{cK:List Nat}(a:gI C h s a1 l cK)(aN:∀e∈cK,ab C T e=ab C h e):gI C T s a1 l cK:=by
 rcases a with a|⟨b,n,c,st,Q,U,ar,aK,bH⟩
 ·exact .inl (a.ad aN)
 ·exact .inr ⟨b,n,c,st,Q,U,ar,by rw[aN b (by rw[ar];exact Zu ..)];exact aK,bH⟩
def gI.append{a1 B:Nat}{s x:F}{l m:List F}{cK:List Nat}(a:gI C h s a1 l cK)(cv:0<a1)(ah:kX C h a1 x=some (B,m))(bp:m.length=B*a1)(aN:0<B)(Q:iz m=true)
 (aj:l.length+m.length<=1048576)(aL:C.a8<=j)(c1:∀e∈cK,e<j):
 ∃fo T gR,hC C h j a1 s x=some (.fh fo T (j+1))/\kk C T fo a1 (l++m) gR/\(∀e∈gR,e=j\/e∈cK)/\∀e,e≠j->e∉cK->ab C T e=ab C h e:=by
 have abm:B<=B*a1:=YW B cv
 rcases a with (⟨rfl,rfl,rfl⟩|⟨b,fm,n,c,rfl,U,rfl,aK,bH,cu,dM⟩)|⟨b,n,c,st,rfl,U,rfl,aK,bH⟩
 ·refine⟨_,_,[j],akk ah aN (by simp at aj;omega), .inr ⟨j,[],B,_,rfl,by simpa using bp,rfl,by simpa using aL,Zs,by rw[bm aL,bp], ?_⟩,Zs,λe H _=>aI aL H⟩
  simpa using mT m
 ·have kS:n<=n*a1:=YW n cv
  have f1:b<j:=c1 b (Zu ..)
  refine⟨_,_,j::b::fm,akj cv ah aN Zo Q (aK b (Zu ..)) cu, .inr ⟨j,b::fm,n+B,dQ c (n*a1) m,rfl,by rw[ZM,U,bp,Ye],rfl, ?_, ?_, ?_, ?_⟩, ?_,λe H MP=> ?_⟩
  ·intro e H
   rcases Zt.1 H with rfl|H
   ·exact aL
   ·exact aK e H
  ·intro aB
   have:=c1 j aB
   omega
  ·rw[bm aL,bp,Ye]
  ·rw[<-U];exact dM.app m
  ·intro e H
   rcases Zt.1 H with rfl|H
   ·exact .inl rfl
   ·exact .inr H
  ·simp only[Zt,YX]at MP
   rw[aI aL H,aI (aK b (Zu ..)) MP.1]
 ·have kS:n<=n*a1:=YW n cv
  refine⟨_,_,[j],Wt cv ah aN Zo aK bH U, .inr ⟨j,[],n+B,_,rfl,by rw[ZM,U,bp,Ye],rfl,by simpa using aL,Zs,by rw[bm aL,ZM,U,bp,Ye],mT _⟩,Zs,λe H _=>aI aL H⟩
def gI.l5{a1:Nat}{s:F}{aR:List (List F)}{cK:List Nat}(a:gI C h s a1 aR.flatten cK)(eN:0<a1)(Z:∀r∈aR,r.length=a1)(bp:aR.length<=300000){P:Nat->Prop}(aC:∀e∈cK,P e):∃b,dO C h P b s a1 aR:=by
 rcases a with a|⟨b,n,c,st,rfl,U,rfl,aK,bH⟩
 ·exact a.l5 eN Z bp aC
 ·have gr:=uf Z
  have aL:n=aR.length:=Nat.eq_of_mul_eq_mul_right eN (by rw[<-U,gr])
  subst aL
  refine⟨b,λ_=>aC b (Zu ..),bp,Z,oX ..,λi aJ=>by rw[FR _ aJ,ZI],λi r aa v aJ bG=> ?_⟩
  rw[cJ,aK]
  exact(bH _).trans (Lf aR Z i r aa v aJ bG)
def gI.JS{s:F}{bo:List F}{cK:List Nat}(a:gI C h s 1 bo cK){P:Nat->Prop}(bp:bo.length<=300000)(aC:∀e∈cK,P e):∃b,dO C h P b s 1 (bo.map λv=>[v]):=by
 have cy:gI C h s 1 (bo.map λv=>[v]).flatten cK:=by rw[XT];exact a
 exact cy.l5 Zd Zs (by simpa using bp) aC
end
end
end Go.bi

namespace Go.bi
noncomputable section
structure jr(G:Prop):Prop where
 Y:G
def bw{A:Prop}(a:A:=by(simp(disch:=omega) only[sC,rr,vu,tV,sP,tW,vp,vo,vh,so,p7,tt,u3,n5,qv,tu,va,vb,vc,vd,ve,u6,u7,u9,vH,vL,vM,vN,vO,vP,vQ,vR,vS,vI,vJ,vK,ru,vF,kw,F.cells,vW,vV,vU,vj,uU,uS,uT,uR,uQ,uV,vy,vz,uh,ug,rM,ub,uc,oX,n7,qw,sn,eB,pz,py,li,zh,Yb,zi,Z7,Z8,YM,ZX,ZP,ZB,ZU,Z9,Z2,Z4,ZZ,ZF,ZI,ZY,ZD,ZA,reduceIte,Nat.reduceEqDiff,Nat.reduceAdd,Nat.reduceMul,Nat.reduceLT,Nat.reduceBEq,Yp,Yd,Yi,Yh,eP,jF,Yv,Ya,Yk,Nat.reduceLeDiff,Nat.reduceSub,fg])):A:=a
def gc{A:Prop}(a:A:=by(simp(disch:=omega) only[sC,rr,vu,tV,sP,tW,vp,vo,vh,so,p7,tt,u3,n5,qv,tu,va,vb,vc,vd,ve,u6,u7,u9,vH,vL,vM,vN,vO,vP,vQ,vR,vS,vI,vJ,vK,ru,vF,kw,F.cells,vW,vV,vU,vj,uU,uS,uT,uR,uQ,uV,vy,vz,uh,ug,rM,ub,uc,oX,n7,qw,sn,eB,pz,py,li,zh,Yb,zi,Z7,Z8,YM,ZX,ZP,ZB,ZU,Z9,Z2,Z4,ZZ,ZF,ZI,ZY,ZD,ZA,reduceIte,Nat.reduceEqDiff,Nat.reduceAdd,Nat.reduceMul,Nat.reduceLT,Nat.reduceBEq,Yp,Yd,Yi,Yh,eP,jF,Yv,Ya,Yk,Nat.reduceLeDiff,Nat.reduceSub,fg]);rfl):A:=a
def bf{A bj:Prop}(t:bj)(a:bj->A:=by intro t;(simp(disch:=omega) only[sC,rr,vu,tV,sP,tW,vp,vo,vh,so,p7,tt,u3,n5,qv,tu,va,vb,vc,vd,ve,u6,u7,u9,vH,vL,vM,vN,vO,vP,vQ,vR,vS,vI,vJ,vK,ru,vF,kw,F.cells,vW,vV,vU,vj,uU,uS,uT,uR,uQ,uV,vy,vz,uh,ug,rM,ub,uc,oX,n7,qw,sn,eB,pz,py,li,zh,Yb,zi,Z7,Z8,YM,ZX,ZP,ZB,ZU,Z9,Z2,Z4,ZZ,ZF,ZI,ZY,ZD,ZA,reduceIte,Nat.reduceEqDiff,Nat.reduceAdd,Nat.reduceMul,Nat.reduceLT,Nat.reduceBEq,Yp,Yd,Yi,Yh,eP,jF,Yv,Ya,Yk,Nat.reduceLeDiff,Nat.reduceSub,fg]);exact t):A:=a t
def X1{cd A:Prop}(f:cd)(a:cd->A:=by intro f;(simp(disch:=omega) only[sC,rr,vu,tV,sP,tW,vp,vo,vh,so,p7,tt,u3,n5,qv,tu,va,vb,vc,vd,ve,u6,u7,u9,vH,vL,vM,vN,vO,vP,vQ,vR,vS,vI,vJ,vK,ru,vF,kw,F.cells,vW,vV,vU,vj,uU,uS,uT,uR,uQ,uV,vy,vz,uh,ug,rM,ub,uc,oX,n7,qw,sn,eB,pz,py,li,zh,Yb,zi,Z7,Z8,YM,ZX,ZP,ZB,ZU,Z9,Z2,Z4,ZZ,ZF,ZI,ZY,ZD,ZA,reduceIte,Nat.reduceEqDiff,Nat.reduceAdd,Nat.reduceMul,Nat.reduceLT,Nat.reduceBEq,Yp,Yd,Yi,Yh,eP,jF,Yv,Ya,Yk,Nat.reduceLeDiff,Nat.reduceSub,fg,f])):A:=a f
def x8{A bj:Prop}(B:jr bj)(a:jr bj->A:=by intro B;(simp(disch:=omega) only[sC,rr,vu,tV,sP,tW,vp,vo,vh,so,p7,tt,u3,n5,qv,tu,va,vb,vc,vd,ve,u6,u7,u9,vH,vL,vM,vN,vO,vP,vQ,vR,vS,vI,vJ,vK,ru,vF,kw,F.cells,vW,vV,vU,vj,uU,uS,uT,uR,uQ,uV,vy,vz,uh,ug,rM,ub,uc,oX,n7,qw,sn,eB,pz,py,li,zh,Yb,zi,Z7,Z8,YM,ZX,ZP,ZB,ZU,Z9,Z2,Z4,ZZ,ZF,ZI,ZY,ZD,ZA,reduceIte,Nat.reduceEqDiff,Nat.reduceAdd,Nat.reduceMul,Nat.reduceLT,Nat.reduceBEq,Yp,Yd,Yi,Yh,eP,jF,Yv,Ya,Yk,Nat.reduceLeDiff,Nat.reduceSub,fg]);exact B.Y):A:=a B
def cL{A bj:Prop}(B:jr bj)(a:jr bj->A:=by intro B;(repeat(with_reducible first|refine gV ?_ |refine lh ?_ |refine lg ?_ |refine p3 ?_ |refine Er ?_ |refine sT ?_ |refine Gf ?_ |refine Ge ?_ |refine FT ?_ |refine FV ?_ |refine FS ?_ |refine FU ?_ |refine F2 ?_ |refine ED ?_ |refine Gc ?_ |refine Gb ?_ |refine tb ?_ |refine ta ?_ |refine s9 ?_ |refine s8 ?_ |refine EY ?_ |refine pq ?_ |refine pp ?_ |refine Ba ?_ |refine Gz ?_ |refine GA ?_ |(refine fF (h6 (by(first|assumption|(simp(disch:=omega) only[bm,aI]<;>rfl)|(simp(disch:=omega) only[bm,aI]))) Zo rfl Zd Zd rfl) ?_)|((conv=>arg 1;simp(disch:=omega) only[sC,rr,vu,tV,sP,tW,vp,vo,vh,so,p7,tt,u3,n5,qv,tu,va,vb,vc,vd,ve,u6,u7,u9,vH,vL,vM,vN,vO,vP,vQ,vR,vS,vI,vJ,vK,ru,vF,kw,F.cells,vW,vV,vU,vj,uU,uS,uT,uR,uQ,uV,vy,vz,uh,ug,rM,ub,uc,oX,n7,qw,sn,eB,pz,py,li,zh,Yb,zi,Z7,Z8,YM,ZX,ZP,ZB,ZU,Z9,Z2,Z4,ZZ,ZF,ZI,ZY,ZD,ZA,reduceIte,Nat.reduceEqDiff,Nat.reduceAdd,Nat.reduceMul,Nat.reduceLT,Nat.reduceBEq,Yp,Yd,Yi,Yh,eP,jF,Yv,Ya,Yk,Nat.reduceLeDiff,Nat.reduceSub,fg]);(first|refine lh ?_ |refine lg ?_ |refine pq ?_ |refine pp ?_ |refine tb ?_ |refine ta ?_ |refine s9 ?_ |refine s8 ?_))|dsimp only));exact B.Y):A:=a B
def ci{cd A bj:Prop}(f:cd)(B:jr bj)(a:cd->jr bj->A:=by intro f B;(repeat(with_reducible first|refine gV ?_ |refine lh ?_ |refine lg ?_ |refine p3 ?_ |refine Er ?_ |refine sT ?_ |refine Gf ?_ |refine Ge ?_ |refine FT ?_ |refine FV ?_ |refine FS ?_ |refine FU ?_ |refine F2 ?_ |refine ED ?_ |refine Gc ?_ |refine Gb ?_ |refine tb ?_ |refine ta ?_ |refine s9 ?_ |refine s8 ?_ |refine EY ?_ |refine pq ?_ |refine pp ?_ |refine Ba ?_ |refine Gz ?_ |refine GA ?_ |(refine fF (h6 (by(first|assumption|(simp(disch:=omega) only[bm,aI,f]<;>rfl)|(simp(disch:=omega) only[bm,aI,f]))) Zo rfl Zd Zd rfl) ?_)|((conv=>arg 1;simp(disch:=omega) only[sC,rr,vu,tV,sP,tW,vp,vo,vh,so,p7,tt,u3,n5,qv,tu,va,vb,vc,vd,ve,u6,u7,u9,vH,vL,vM,vN,vO,vP,vQ,vR,vS,vI,vJ,vK,ru,vF,kw,F.cells,vW,vV,vU,vj,uU,uS,uT,uR,uQ,uV,vy,vz,uh,ug,rM,ub,uc,oX,n7,qw,sn,eB,pz,py,li,zh,Yb,zi,Z7,Z8,YM,ZX,ZP,ZB,ZU,Z9,Z2,Z4,ZZ,ZF,ZI,ZY,ZD,ZA,reduceIte,Nat.reduceEqDiff,Nat.reduceAdd,Nat.reduceMul,Nat.reduceLT,Nat.reduceBEq,Yp,Yd,Yi,Yh,eP,jF,Yv,Ya,Yk,Nat.reduceLeDiff,Nat.reduceSub,fg,f]);(first|refine lh ?_ |refine lg ?_ |refine pq ?_ |refine pp ?_ |refine tb ?_ |refine ta ?_ |refine s9 ?_ |refine s8 ?_))|dsimp only));exact B.Y):A:=a f B
def x9{A bj:Prop}(B:jr bj)(a:jr bj->A:=by intro B;(repeat(with_reducible first|refine lh ?_ |refine lg ?_ |refine p3 ?_ |refine Er ?_ |refine sT ?_ |refine Gf ?_ |refine Ge ?_ |refine FT ?_ |refine FV ?_ |refine FS ?_ |refine FU ?_ |refine F2 ?_ |refine ED ?_ |refine Gc ?_ |refine Gb ?_ |refine tb ?_ |refine ta ?_ |refine s9 ?_ |refine s8 ?_ |refine EY ?_ |refine pq ?_ |refine pp ?_ |refine Ba ?_ |refine Gz ?_ |refine GA ?_ |(refine fF (h6 (by(first|assumption|(simp(disch:=omega) only[bm,aI]<;>rfl)|(simp(disch:=omega) only[bm,aI]))) Zo rfl Zd Zd rfl) ?_)|((conv=>arg 1;simp(disch:=omega) only[sC,rr,vu,tV,sP,tW,vp,vo,vh,so,p7,tt,u3,n5,qv,tu,va,vb,vc,vd,ve,u6,u7,u9,vH,vL,vM,vN,vO,vP,vQ,vR,vS,vI,vJ,vK,ru,vF,kw,F.cells,vW,vV,vU,vj,uU,uS,uT,uR,uQ,uV,vy,vz,uh,ug,rM,ub,uc,oX,n7,qw,sn,eB,pz,py,li,zh,Yb,zi,Z7,Z8,YM,ZX,ZP,ZB,ZU,Z9,Z2,Z4,ZZ,ZF,ZI,ZY,ZD,ZA,reduceIte,Nat.reduceEqDiff,Nat.reduceAdd,Nat.reduceMul,Nat.reduceLT,Nat.reduceBEq,Yp,Yd,Yi,Yh,eP,jF,Yv,Ya,Yk,Nat.reduceLeDiff,Nat.reduceSub,fg]);(first|refine lh ?_ |refine lg ?_ |refine pq ?_ |refine pp ?_ |refine tb ?_ |refine ta ?_ |refine s9 ?_ |refine s8 ?_))|dsimp only));exact B.Y):A:=a B
def rT{cd A bj:Prop}(f:cd)(B:jr bj)(a:cd->jr bj->A:=by intro f B;(repeat(with_reducible first|refine lh ?_ |refine lg ?_ |refine p3 ?_ |refine Er ?_ |refine sT ?_ |refine Gf ?_ |refine Ge ?_ |refine FT ?_ |refine FV ?_ |refine FS ?_ |refine FU ?_ |refine F2 ?_ |refine ED ?_ |refine Gc ?_ |refine Gb ?_ |refine tb ?_ |refine ta ?_ |refine s9 ?_ |refine s8 ?_ |refine EY ?_ |refine pq ?_ |refine pp ?_ |refine Ba ?_ |refine Gz ?_ |refine GA ?_ |(refine fF (h6 (by(first|assumption|(simp(disch:=omega) only[bm,aI,f]<;>rfl)|(simp(disch:=omega) only[bm,aI,f]))) Zo rfl Zd Zd rfl) ?_)|((conv=>arg 1;simp(disch:=omega) only[sC,rr,vu,tV,sP,tW,vp,vo,vh,so,p7,tt,u3,n5,qv,tu,va,vb,vc,vd,ve,u6,u7,u9,vH,vL,vM,vN,vO,vP,vQ,vR,vS,vI,vJ,vK,ru,vF,kw,F.cells,vW,vV,vU,vj,uU,uS,uT,uR,uQ,uV,vy,vz,uh,ug,rM,ub,uc,oX,n7,qw,sn,eB,pz,py,li,zh,Yb,zi,Z7,Z8,YM,ZX,ZP,ZB,ZU,Z9,Z2,Z4,ZZ,ZF,ZI,ZY,ZD,ZA,reduceIte,Nat.reduceEqDiff,Nat.reduceAdd,Nat.reduceMul,Nat.reduceLT,Nat.reduceBEq,Yp,Yd,Yi,Yh,eP,jF,Yv,Ya,Yk,Nat.reduceLeDiff,Nat.reduceSub,fg,f]);(first|refine lh ?_ |refine lg ?_ |refine pq ?_ |refine pp ?_ |refine tb ?_ |refine ta ?_ |refine s9 ?_ |refine s8 ?_))|dsimp only));exact B.Y):A:=a f B
def hR{A bj:Prop}(B:jr bj)(a:jr bj->A:=by intro B;(with_reducible first|refine gV ?_ |refine lh ?_ |refine lg ?_ |refine p3 ?_ |refine Er ?_ |refine sT ?_ |refine Gf ?_ |refine Ge ?_ |refine FT ?_ |refine FV ?_ |refine FS ?_ |refine FU ?_ |refine F2 ?_ |refine ED ?_ |refine Gc ?_ |refine Gb ?_ |refine tb ?_ |refine ta ?_ |refine s9 ?_ |refine s8 ?_ |refine EY ?_ |refine pq ?_ |refine pp ?_ |refine Ba ?_ |refine Gz ?_ |refine GA ?_ |(refine fF (h6 (by(first|assumption|(simp(disch:=omega) only[bm,aI]<;>rfl)|(simp(disch:=omega) only[bm,aI]))) Zo rfl Zd Zd rfl) ?_)|((conv=>arg 1;simp(disch:=omega) only[sC,rr,vu,tV,sP,tW,vp,vo,vh,so,p7,tt,u3,n5,qv,tu,va,vb,vc,vd,ve,u6,u7,u9,vH,vL,vM,vN,vO,vP,vQ,vR,vS,vI,vJ,vK,ru,vF,kw,F.cells,vW,vV,vU,vj,uU,uS,uT,uR,uQ,uV,vy,vz,uh,ug,rM,ub,uc,oX,n7,qw,sn,eB,pz,py,li,zh,Yb,zi,Z7,Z8,YM,ZX,ZP,ZB,ZU,Z9,Z2,Z4,ZZ,ZF,ZI,ZY,ZD,ZA,reduceIte,Nat.reduceEqDiff,Nat.reduceAdd,Nat.reduceMul,Nat.reduceLT,Nat.reduceBEq,Yp,Yd,Yi,Yh,eP,jF,Yv,Ya,Yk,Nat.reduceLeDiff,Nat.reduceSub,fg]);(first|refine lh ?_ |refine lg ?_ |refine pq ?_ |refine pp ?_ |refine tb ?_ |refine ta ?_ |refine s9 ?_ |refine s8 ?_))|dsimp only);exact B.Y):A:=a B
def s3{cd A bj:Prop}(f:cd)(B:jr bj)(a:cd->jr bj->A:=by intro f B;(with_reducible first|refine gV ?_ |refine lh ?_ |refine lg ?_ |refine p3 ?_ |refine Er ?_ |refine sT ?_ |refine Gf ?_ |refine Ge ?_ |refine FT ?_ |refine FV ?_ |refine FS ?_ |refine FU ?_ |refine F2 ?_ |refine ED ?_ |refine Gc ?_ |refine Gb ?_ |refine tb ?_ |refine ta ?_ |refine s9 ?_ |refine s8 ?_ |refine EY ?_ |refine pq ?_ |refine pp ?_ |refine Ba ?_ |refine Gz ?_ |refine GA ?_ |(refine fF (h6 (by(first|assumption|(simp(disch:=omega) only[bm,aI,f]<;>rfl)|(simp(disch:=omega) only[bm,aI,f]))) Zo rfl Zd Zd rfl) ?_)|((conv=>arg 1;simp(disch:=omega) only[sC,rr,vu,tV,sP,tW,vp,vo,vh,so,p7,tt,u3,n5,qv,tu,va,vb,vc,vd,ve,u6,u7,u9,vH,vL,vM,vN,vO,vP,vQ,vR,vS,vI,vJ,vK,ru,vF,kw,F.cells,vW,vV,vU,vj,uU,uS,uT,uR,uQ,uV,vy,vz,uh,ug,rM,ub,uc,oX,n7,qw,sn,eB,pz,py,li,zh,Yb,zi,Z7,Z8,YM,ZX,ZP,ZB,ZU,Z9,Z2,Z4,ZZ,ZF,ZI,ZY,ZD,ZA,reduceIte,Nat.reduceEqDiff,Nat.reduceAdd,Nat.reduceMul,Nat.reduceLT,Nat.reduceBEq,Yp,Yd,Yi,Yh,eP,jF,Yv,Ya,Yk,Nat.reduceLeDiff,Nat.reduceSub,fg,f]);(first|refine lh ?_ |refine lg ?_ |refine pq ?_ |refine pp ?_ |refine tb ?_ |refine ta ?_ |refine s9 ?_ |refine s8 ?_))|dsimp only);exact B.Y):A:=a f B
def dU{A:Prop}(a:A:=by exact⟨Zo,λb aj=>zz⟩):A:=a
def cV{A bj ll kF:Prop}(bz:ll)(eM:kF)(B:jr bj)(a:ll->kF->jr bj->A:=by intro bz eM B;refine ci (Za @bz @eM) ⟨?_⟩;exact B.Y):A:=a @bz @eM B
def er{A bj ll kF oq:Prop}(bz:ll)(eM:kF)(eZ:oq)(B:jr bj)(a:ll->kF->oq->jr bj->A:=by intro bz eM eZ B;refine ci (Za @bz (Za @eM @eZ)) ⟨?_⟩;exact B.Y):A:=a @bz @eM @eZ B
def gt{A bj ll kF oq tP:Prop}(bz:ll)(eM:kF)(eZ:oq)(ji:tP)(B:jr bj)(a:ll->kF->oq->tP->jr bj->A:=by intro bz eM eZ ji B;refine ci (Za @bz (Za @eM (Za @eZ @ji))) ⟨?_⟩;exact B.Y):A:=a @bz @eM @eZ @ji B
def gA{A bj ll kF oq tP Ab:Prop}(bz:ll)(eM:kF)(eZ:oq)(ji:tP)(oA:Ab)(B:jr bj)(a:ll->kF->oq->tP->Ab->jr bj->A:=by intro bz eM eZ ji oA B;refine ci (Za @bz (Za @eM (Za @eZ (Za @ji @oA)))) ⟨?_⟩;exact B.Y):A:=a @bz @eM @eZ @ji @oA B
def iZ{A bj ll kF oq tP Ab GW:Prop}(bz:ll)(eM:kF)(eZ:oq)(ji:tP)(oA:Ab)(x3:GW)(B:jr bj)(a:ll->kF->oq->tP->Ab->GW->jr bj->A:=by intro bz eM eZ ji oA x3 B;refine ci (Za @bz (Za @eM (Za @eZ (Za @ji (Za @oA @x3))))) ⟨?_⟩;exact B.Y):A:=a @bz @eM @eZ @ji @oA @x3 B
def e7{A bj ll kF oq tP Ab GW T2:Prop}(bz:ll)(eM:kF)(eZ:oq)(ji:tP)(oA:Ab)(x3:GW)(PL:T2)(B:jr bj)(a:ll->kF->oq->tP->Ab->GW->T2->jr bj->A:=by intro bz eM eZ ji oA x3 PL B;refine ci (Za @bz (Za @eM (Za @eZ (Za @ji (Za @oA (Za @x3 @PL)))))) ⟨?_⟩;exact B.Y):A:=a @bz @eM @eZ @ji @oA @x3 @PL B
def Ll{A bj ll kF:Prop}(bz:ll)(eM:kF)(B:jr bj)(a:ll->kF->jr bj->A:=by intro bz eM B;refine rT (Za @bz @eM) ⟨?_⟩;exact B.Y):A:=a @bz @eM B
def he{A bj ll kF oq:Prop}(bz:ll)(eM:kF)(eZ:oq)(B:jr bj)(a:ll->kF->oq->jr bj->A:=by intro bz eM eZ B;refine rT (Za @bz (Za @eM @eZ)) ⟨?_⟩;exact B.Y):A:=a @bz @eM @eZ B
def aW.Zm{C:aZ}{f:Nat}{xO:List F}{h:V an}{j:Nat}{ai y7 ay:bI}(a:aW C f xO h j ai (λ_ _ _=>False))(B:∀ae T aV,ai ae T aV->y7 ae T aV):aW C f xO h j y7 ay:=a.mono B (λ_ _ _ a=>a.elim)
end
end Go.bi

namespace Go.bi
noncomputable section
open Go.RowKit (Below)
def Nx(jv:List Nat)(Y:Nat->List F->Option F)(l:List (Nat×List F×F))(f:Nat)(args:List F):Option F:=bP (oa f jv) (qz Y l f args) (Y f args)
section
variable{P:Program}{w:World}
def Env.atb{nm:List (String×Nat)}(iv:Ae P nm){laid:List (String×DataW Unit)}{jv:List Nat}{Y:Nat->List F->Option F}{l:List (Nat×List F×F)}(a:laidMet P laid w){dR:c6}{d3:Nat->Prop}
 (cG:Env ⟨P,m1 (g1 P nm laid P.globals.size).2 .nil,(g1 P nm laid P.globals.size).1,Y,P.globals.size⟩ w dR d3)(bc:J5 l=true)
 (kO:∀x∈l,∃m,tE ⟨P,m1 (g1 P nm laid P.globals.size).2 .nil,(g1 P nm laid P.globals.size).1,Y,P.globals.size⟩ m x.1 x.2.1=some x.2.2):
 ∃R af,Env ⟨P,m1 (g1 P nm laid P.globals.size).2 .nil,(g1 P nm laid P.globals.size).1,Nx jv Y l,P.globals.size⟩ w R af:=by
 obtain⟨R,af,ar,aK⟩:=Sm (hc:=Nx jv Y l) iv a
 have hL:=adN cG bc kO
 refine⟨R,af,cG.j5,⟨λf args v bl=> ?_,λf args v bl R pe nh=> ?_⟩,ar,aK⟩
 ·have bl:bP (oa f jv) (qz Y l f args) (Y f args)=some v:=bl
  rw[fw]at bl
  split at bl
  ·exact hL.val f args v bl
  ·exact cG.hc.val f args v bl
 ·have bl:bP (oa f jv) (qz Y l f args) (Y f args)=some v:=bl
  rw[fw]at bl
  split at bl
  ·exact hL.ok f args v bl R pe nh
  ·exact cG.hc.ok f args v bl R pe nh
end
end
end Go.bi

