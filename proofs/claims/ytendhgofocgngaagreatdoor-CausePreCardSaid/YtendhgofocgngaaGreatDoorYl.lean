/- Part of the proof of the last text; no conditions -/
import Derived.Test.YtendhgofocgngaaGreatDoorYk
set_option maxHeartbeats 8000000
set_option linter.all false
namespace Go.bn
noncomputable section
section
variable{C:aK}{h:S ai}{j:Nat}
def bz{b:Nat}{U:Option ai}(a:C.bf<=b):Z C (bp C h b U) b=U:=by rw[e9 _ a,Zq rfl]
def aJ{b x:Nat}{U:Option ai}(a:C.bf<=b)(af:x≠b):Z C (bp C h b U) x=Z C h x:=by rw[e9 _ a,Zg af]
def da(b U:Nat):aV C h (.ptr b U)=match Z C h b with|some (.cells c _ _)=>c.get U|_=>none:=by
 simp only[aV,cellsOf]
 cases Z C h b with
 |none=>rfl
 |some cN=>cases cN<;>rfl
def DQ(n b U:Nat):ep C h n (.ptr b U)=match Z C h b with|some (.cells c _ _)=>(c.kh U n).map z.agg|_=>none:=by
 simp only[ep,cellsOf]
 cases Z C h b with
 |none=>rfl
 |some cN=>
  cases cN with
  |cells c m st=>simp only[];cases c.kh U n<;>rfl
  |_=>rfl
def abj(c:S z)(U:Nat):c.kh U 0=some []:=rfl
def mT:∀(k:List z) (c:S z) (U i:Nat),(dM c U k).get i=if U<=i/\i<U+k.length then k[i-U]? else c.get i:=by
 intro k
 induction k with
 |nil=>intro c U i;simp[dM];intro H K;omega
 |cons E k ag=>
  intro c U i
  simp only[dM,gS]
  rw[ag,S.kw]
  by_cases H:i=U
  ·subst H
   simp
   intro a;omega
  ·by_cases K:U+1<=i/\i<U+1+k.length
   ·rw[Zq K,Zq (by simp;omega)]
    rw[show i-U=(i-(U+1))+1 by omega]
    simp
   ·rw[Zg K,Zg (λB=>H B.symm),Zg (by simp;omega)]
def By{b U n:Nat}{c:S z}{st:oS}(a:C.bf<=b):aV C (bp C h b (some (.cells c n st))) (.ptr b U)=c.get U:=by
 rw[da,bz a]
def DP{b x U:Nat}{cN:Option ai}(a:C.bf<=b)(af:x≠b):aV C (bp C h b cN) (.ptr x U)=aV C h (.ptr x U):=by
 rw[da,da,aJ a af]
def pc(C:aK)(h:S ai)(b:Nat):Nat->Nat->Option (List z)
 |_,0=>some []
 |U,n+1=>(aV C h (.ptr b U)).bind λE=>(pc C h b (U+1) n).bind λk=>some (E::k)
def vf{b U n:Nat}:ep C h (n+1) (.ptr b U)=(pc C h b U (n+1)).bind λk=>some (.agg k):=by
 have a:∀(c:S z) (m:Nat) (st:oS),Z C h b=some (.cells c m st)->∀n U,pc C h b U n=c.kh U n:=by
  intro c m st ah n
  induction n with
  |zero=>intro U;rfl
  |succ n ag=>
   intro U
   simp only[pc,S.kh,da,ah,ag]
   cases c.get U with
   |none=>rfl
   |some E=>cases c.kh (U+1) n<;>rfl
 rw[DQ]
 cases ah:Z C h b with
 |none=>simp[pc,da,ah]
 |some cN=>
  cases cN with
  |cells c m st=>
   simp only[a c m st ah]
   cases c.kh U (n+1)<;>rfl
  |_=>simp[pc,da,ah]
structure bG(C:aK)(h:S ai)(j:Nat)(R:S ai)(ap:Nat):Prop where
 le:j<=ap
 ad:∀b,b<j->Z C R b=Z C h b
def bG.refl(h:S ai)(j:Nat):bG C h j h j:=⟨Zh _,λ_ _=>rfl⟩
def bG.trans{aU aQ br:S ai}{aL bc bL:Nat}(a:bG C aU aL aQ bc)(o:bG C aQ bc br bL):bG C aU aL br bL:=
 ⟨Zy a.le o.le,λb ah=>(o.ad b (ZN ah a.le)).trans (a.ad b ah)⟩
def bG.fq{R:S ai}{ap:Nat}(a:bG C h j R ap)(b U:Nat)(ah:b<j):aV C R (.ptr b U)=aV C h (.ptr b U):=by
 rw[da,da,a.ad b ah]
def bG.fresh(a:C.bf<=j)(cN:Option ai):bG C h j (bp C h j cN) (j+1):=
 ⟨Yb _,λb ah=>aJ a Zo⟩
def bG.more{R:S ai}{ap n:Nat}(o:bG C h j R ap)(a:ap<=n):bG C h j R n:=⟨Zy o.le a,o.ad⟩
def bG.rq{R:S ai}{ap cJ:Nat}(o:bG C h j R ap)(a:cJ<=j):bG C h cJ R ap:=⟨Zy a o.le,λb ah=>o.ad b (ZN ah a)⟩
def rC{b U n:Nat}{c:S z}{v:z}(a:Z C h b=some (.cells c n .own))(ah:C.bf<=b)(aS:U+1<=n)(bo:v.cells=[v])(H:oA v=true):
 eI C h 1 (.ptr b U) v=some (bp C h b (some (.cells (c.set U (some v)) n .own))):=by
 have bw:Nat.ble (U+1) n=true:=by simpa using aS
 have b3:Nat.ble C.bf b=true:=by simpa using ah
 simp[eI,bo,lJ,a,jI,hZ,H,bw,b3,dM,eR,Nat.blt]
def CO:List z->List (Nat×Nat×z)->Option (List z)
 |cells,[]=>some cells
 |cells,(off,size,v)::rest=>bI (Nat.beq v.cells.length size&&Nat.ble (off+size) cells.length) (CO (oE cells off v.cells) rest) none
def fv(bH:List z)(df:List (Nat×Nat×z)):Option z:=match CO bH df with|some cs=>some (.agg cs)|none=>none
def kK(bH:List z)(b:Nat):Option (z×ai):=some (.ptr b 0, .cells (S.ofList bH 0 .nil) bH.length .own)
def hz(len:Nat)(bH:List z)(df:List (Nat×Nat×z))(b:Nat):Option (z×ai):=match CO bH df with
 |some cs=>some (.slice b 0 len len, .cells (S.ofList cs 0 .nil) cs.length .own)
 |none=>none
def uz(agg:Bool)(off size:Nat)(v:z):Option z:=match v with| .agg cs=>bI agg (some (.agg ((cs.drop off).take size))) (pM cs off)|_=>none
def eT(v:z):Option z:=match v with| .slice _ _ n _=>o9 .i64 (Int.ofNat n)| .el _ _ n _=>o9 .i64 (Int.ofNat n)| .a2=>some (.int .i64 0)|_=>none
def mI(v:z):Option z:=match v with| .str s=>o9 .i64 (Int.ofNat s.length)|_=>none
def mw(o:IntKind)(v:z):Option z:=match (match v with| .int _ n=>kT o n|_=>none)with|some v=>some v|none=>none
def amU(v:z):Option z:=match (match v with| .str s=>some (z.str s)|_=>none)with|some v=>some v|none=>none
def AM(C:aK)(h:S ai)(v:z):Option z:=match (match v with| .str s=>some (z.str s)|_=>none)with|some v=>some v|none=>Fw C h v
def LQ(t:Nat)(aG:z)(ok:Bool)(v:z):Option z:=match v with
 | .nilIface=>bI ok (some (.tuple [aG, .bool false])) none
 | .iface g8 w=>bI (Nat.beq g8 t) (some (bI ok (.tuple [w, .bool true]) w)) (bI ok (some (.tuple [aG, .bool false])) none)
 |_=>none
def l2(C:aK)(h:S ai)(hx:Nat)(aG m o:z)(ok:Bool):Option z:=
 match (match m with
  | .mf=>bI (mv C 20 hx o) (some none) none
  | .map r=>(match Z C h r with|some (.map a1 _)=>bI (mv C 20 hx o) (findKey C h hx o a1 0) none|some (.look a1)=>bI (mv C 20 hx o) (G5 (pd C h hx o a1)) none|_=>none)
  |_=>none)with
  |none=>none
  |some none=>some (bI ok (.tuple [aG, .bool false]) aG)
  |some (some (_,v))=>some (bI ok (.tuple [v, .bool true]) v)
def lK(C:aK)(h:S ai)(j aR:Nat)(s x:z):Option dL:=match jN C h aR x with
 |some (n,k)=>bI (Nat.beq n 0) (Ay C h aR s) (xA C h j aR n k s)
 |none=>none
def BL(C:aK)(h:S ai)(j hx:Nat)(m o v:z):Option dL:=match m with
 | .map r=>(match Z C h r with
   |some (.map a1 dn)=>bI (mv C 20 hx o) (match findKey C h hx o a1 0 with
    |some (some (i,_))=>(match pM a1 i with
     |some (eA,_,born)=>bI (ov 20 eA o) (setObj C h j r (.map (a1.set i (o,v,born)) dn) undef) none
     |none=>none)
    |some none=>setObj C h j r (.map (a1++[(o,v,dn)]) (dn+1)) undef
    |none=>none) none
   |_=>none)
 |_=>none
def yD(agg:Bool)(n aR:Nat)(v i:z):Option z:=match nS i with
 |none=>none
 |some i=>match v with
  | .agg cs=>bI (Nat.blt i n) (bI agg (some (.agg ((cs.drop (i*aR)).take aR))) (pM cs (i*aR))) none
  |_=>none
def nQ(v i:z):Option z:=match nS i with
 |none=>none
 |some i=>match v with
  | .str s=>(match pM s i with|some c=>some (.int .u8 (Int.ofNat c))|none=>none)
  |_=>none
def mQ(v:z)(bC aA:Option z):Option z:=match v with
 | .str s=>(match ms s.length s.length bC aA none with
    |some (k,a,_)=>some (.str ((s.drop k).take (a-k)))
    |none=>none)
 |_=>none
def nl(C:aK)(h:S ai)(aR:Nat)(x:z)(bC aA g6:Option z):Option z:=match x with
 | .slice b U len cap=>(match ms len cap bC aA g6 with
   |some (k,a,m)=>some (.slice b (bI (Nat.beq m k) U (U+k*aR)) (a-k) (m-k))
   |_=>none)
 | .a2=>(match ms 0 0 bC aA g6 with
   |some _=>some .a2
   |_=>none)
 | .el b U len EJ=>(match tW C h b with
   |some n=>bI (Nat.beq EJ aR&&Nat.blt 0 EJ) (match ms len ((n-U)/EJ) bC aA g6 with
     |some (k,a,m)=>(match g6 with
      |some _=>some (.slice b (bI (Nat.beq m k) U (U+k*EJ)) (a-k) (m-k))
      |none=>bI (Nat.blt k ((n-U)/EJ)||Nat.beq k 0) (some (.el b (U+k*EJ) (a-k) EJ)) none)
     |none=>none) none
   |_=>none)
 |_=>none
def U6(n aR:Nat)(x:z)(bC aA g6:Option z):Option z:=match x with
 | .ptr b U=>(match ms n n bC aA g6 with
   |some (k,a,m)=>some (.slice b (bI (Nat.beq m k) U (U+k*aR)) (a-k) (m-k))
   |_=>none)
 |_=>none
def UV(C:aK)(h:S ai)(j:Nat)(v:z):Option dL:=match v with
 | .str s=>na C h j (.oF s 0) λb=> .ptr b 0
 |_=>none
def O8(C:aK)(h:S ai)(j:Nat)(v:z):Option dL:=match v with
 | .str k=>ts C h j k.length 1 (k.map λn=>z.int .u8 (Int.ofNat n))
 |_=>none
def rx{α:Type}{E:α}{aj:α->Prop}(a:aj E):ar (some E) aj:=⟨a⟩
def tS{α:Type}{E:α}{aj:α->Prop}(a:aj E):cl (some E) aj:=a
def Ij{E:z}{aj:bR}(a:aj (.ptr j 0) (bp C h j (some (.cells (S.ofList E.cells 0 .nil) E.cells.length .own))) (j+1)):kd C h j E aj:=⟨a⟩
def Ul{v:z}{cN:ai}{aj:bR}(a:aj v (bp C h j (some cN)) (j+1)):gm C h j v cN aj:=⟨a⟩
def Um{v:z}{cN:ai}{aj:bR}(a:aj v (bp C h j (some cN)) (j+1)):gm C h j (Prod.mk v cN).1 (Prod.mk v cN).2 aj:=⟨a⟩
def Uk{b:Nat}{v:z}{cN:ai}{aj:z->S ai->Prop}(a:aj v (bp C h b (some cN))):me C h b (Prod.mk v cN).1 (Prod.mk v cN).2 aj:=⟨a⟩
def Qv{b:Nat}{E:z}{aj:z->S ai->Prop}(a:aj (.ptr b 0) (bp C h b (some (.cells (S.ofList E.cells 0 .nil) E.cells.length .own)))):vR C h b E aj:=⟨a⟩
def Uj{b:Nat}{v:z}{cN:ai}{aj:z->S ai->Prop}(a:aj v (bp C h b (some cN))):me C h b v cN aj:=⟨a⟩
def gM{dA:fS}{body:fS->Prop}(a:body dA):bA dA body:=⟨a⟩
def TM{dA:bR}{body:bR->Prop}(a:body dA):pb dA body:=⟨a⟩
def TI{dA:z->Prop}{body:(z->Prop)->Prop}(a:body dA):c5 dA body:=⟨a⟩
def TJ{dA:z->S ai->Prop}{body:(z->S ai->Prop)->Prop}(a:body dA):va dA body:=⟨a⟩
def TL{dA:Prop}{body:Prop->Prop}(a:body dA):TK dA body:=⟨a⟩
def T5{n:Nat}{aj:Nat->Prop}(a:aj n):fs n aj:=⟨a⟩
def UR{v:z}{R:S ai}{ap:Nat}{aj:bR}(a:aj v R ap):iA (some (.e2 v R ap)) h j aj:=⟨a⟩
def US{v:z}{aj:bR}(a:aj v h j):iA (some (.val v)) h j aj:=⟨a⟩
def vP{E b:Prop}(a:E):bb (.bool true) E b:=⟨⟨λ_=>a,λB=>(by cases B)⟩⟩
def vO{E b:Prop}(a:b):bb (.bool false) E b:=⟨⟨λB=>(by cases B),λ_=>a⟩⟩
def F2{E b:Prop}(a:E):jk true (.bool true) E b:=⟨⟨λ_=>a,λB=>(by cases B)⟩⟩
def F1{E b:Prop}(a:b):jk true (.bool false) E b:=⟨⟨λB=>(by cases B),λ_=>a⟩⟩
def F0{E b:Prop}(a:b):jk false (.bool true) E b:=⟨⟨λB=>(by cases B),λ_=>a⟩⟩
def FZ{E b:Prop}(a:E):jk false (.bool false) E b:=⟨⟨λ_=>a,λB=>(by cases B)⟩⟩
def TF{f:Nat}{E cg b:List z}{aj au:bR}(a:ba C f ((E++cg)++b) h j aj au):ot C (.func (.func f) E b) cg h j aj au:=⟨a⟩
def ka{x e:z}{aj:Prop}(a:z.same 30 x e=true)(o:aj):iB x (some e) aj:=⟨⟨a,o⟩⟩
@[congr] def aAH{v fd:z}{E b:Prop}(a:v=fd):bb v E b=bb fd E b:=by rw[a]
@[congr] def aAP{f:Nat}{cg X6:List z}{aj au:bR}(a:cg=X6):ba C f cg h j aj au=ba C f X6 h j aj au:=by rw[a]
def ba.mono{f:Nat}{cg:List z}{aj au mU ed:bR}(a:ba C f cg h j aj au)(i2:∀ac R ap,aj ac R ap->mU ac R ap)(ct:∀ac R ap,au ac R ap->ed ac R ap):ba C f cg h j mU ed:=by
 rcases a.out with ⟨ac,H,K⟩|⟨H,K,ak⟩
 ·exact⟨.inl ⟨ac,H,i2 _ _ _ K⟩⟩
 ·exact⟨.inr ⟨H,K,ak.mono i2 ct⟩⟩
def Ri{f dP:Nat}(a:c4 C f dP=true):∃fn c,C.P.funcs[f]? =some fn/\fn.body=some c:=by
 unfold c4 at a
 split at a
 ·rename_i fn b8
  split at a
  ·rename_i c ax;exact⟨fn,c,b8,ax⟩
  ·cases a
 ·cases a
def dc{f:Nat}{cg:List z}{aj au:bR}(ax:c4 C f cg.length=true)(aS:C.g7 f cg=none)(a:dm C f cg h j aj au):ba C f cg h j aj au:=
 ⟨.inr ⟨aS,Ri ax,aov ax a⟩⟩
def FH{f:Nat}{cg:List z}{aj au:bR}{ac:z}(aS:C.g7 f cg=some ac)(a:aj ac h j):ba C f cg h j aj au:=⟨.inl ⟨ac,aS,a⟩⟩
def B8(I:db)(d n:Nat)(v:z):(ab I d v).g n=if d=n then some v else I.g n:=by show bI (Nat.beq d n) (some v) (I.g n)=_;rw[hl]
def w6(I:db)(d:Nat)(v:z):(ab I d v).bg=I.bg:=rfl
def EB(I:db)(d:Nat)(v:z):(ab I d v).rc=I.rc:=rfl
def Cw(k:List z)(n:Nat):(c0 k).g n=k[n]? :=by simp[c0]
def Az(k:List z):(c0 k).bg=[]:=rfl
def Cx(k:List z):(c0 k).rc=false:=rfl
def xL(k:List Nat)(I:db)(n:Nat):(h3 k I).g n=bI (oz n k) none (I.g n):=rfl
def Er(I:db)(d:hE)(n:Nat):(B1 I d).g n=I.g n:=rfl
def Ep(I:db)(d:hE):(B1 I d).bg=d::I.bg:=rfl
def DZ(I:db)(d n:Nat):(vi I d).g n=I.g n:=rfl
def yJ(I:db)(d:Nat):(vi I d).bg=⟨.collected d,[]⟩::I.bg:=rfl
def L2{f:Nat}{cg:List z}{aj au:bR}(ax:c4 C f cg.length=true)(aS:C.g7 f cg=none)(a:CS C f cg h j aj au):ba C f cg h j aj au:=
 ⟨.inr ⟨aS,Ri ax,aow ax a⟩⟩
def τ{f:Nat}{cg:List z}{aj au:bR}(aS:C.g7 f cg=none)(a:ba C f cg h j aj au):ud C f cg h j aj au:=by
 rcases a.out with ⟨ac,H,K⟩|⟨H,K,ak⟩
 ·rw[aS]at H;cases H
 ·exact ak
def FE{p:Prop}[Decidable p]{E b:Prop}(H:p->E)(K:¬p->b):bb (.bool (decide p)) E b:=⟨λB=>H (by simpa using B),λB=>K (by simpa using B)⟩
def sI(b U:Nat):ep C h 2 (.ptr b U)=(aV C h (.ptr b U)).bind λip=>(aV C h (.ptr b (U+1))).bind λhD=>some (.agg [ip,hD]):=by
 rw[vf]
 simp only[pc,ZV,Nat.reduceAdd,Yi,ZQ]
def wP(b U:Nat):ep C h 3 (.ptr b U)=(aV C h (.ptr b U)).bind λip=>(aV C h (.ptr b (U+1))).bind λhD=>(aV C h (.ptr b (U+2))).bind λgI=>some (.agg [ip,hD,gI]):=by
 rw[vf]
 simp only[pc,ZV,Nat.reduceAdd,Yi,ZQ]
def BA(b U:Nat):ep C h 4 (.ptr b U)=(aV C h (.ptr b U)).bind λip=>(aV C h (.ptr b (U+1))).bind λhD=>(aV C h (.ptr b (U+2))).bind λgI=>(aV C h (.ptr b (U+3))).bind λko=>some (.agg [ip,hD,gI,ko]):=by
 rw[vf]
 simp only[pc,ZV,Nat.reduceAdd,Yi,ZQ]
def DU(b U:Nat):ep C h 5 (.ptr b U)=(aV C h (.ptr b U)).bind λip=>(aV C h (.ptr b (U+1))).bind λhD=>(aV C h (.ptr b (U+2))).bind λgI=>(aV C h (.ptr b (U+3))).bind λko=>(aV C h (.ptr b (U+4))).bind λln=>some (.agg [ip,hD,gI,ko,ln]):=by
 rw[vf]
 simp only[pc,ZV,Nat.reduceAdd,Yi,ZQ]
def BB(b U:Nat):ep C h 6 (.ptr b U)=(aV C h (.ptr b U)).bind λip=>(aV C h (.ptr b (U+1))).bind λhD=>(aV C h (.ptr b (U+2))).bind λgI=>(aV C h (.ptr b (U+3))).bind λko=>(aV C h (.ptr b (U+4))).bind λln=>(aV C h (.ptr b (U+5))).bind λs1=>some (.agg [ip,hD,gI,ko,ln,s1]):=by
 rw[vf]
 simp only[pc,ZV,Nat.reduceAdd,Yi,ZQ]
def DV(b U:Nat):ep C h 7 (.ptr b U)=(aV C h (.ptr b U)).bind λip=>(aV C h (.ptr b (U+1))).bind λhD=>(aV C h (.ptr b (U+2))).bind λgI=>(aV C h (.ptr b (U+3))).bind λko=>(aV C h (.ptr b (U+4))).bind λln=>(aV C h (.ptr b (U+5))).bind λs1=>(aV C h (.ptr b (U+6))).bind λua=>some (.agg [ip,hD,gI,ko,ln,s1,ua]):=by
 rw[vf]
 simp only[pc,ZV,Nat.reduceAdd,Yi,ZQ]
def DW(b U:Nat):ep C h 8 (.ptr b U)=(aV C h (.ptr b U)).bind λip=>(aV C h (.ptr b (U+1))).bind λhD=>(aV C h (.ptr b (U+2))).bind λgI=>(aV C h (.ptr b (U+3))).bind λko=>(aV C h (.ptr b (U+4))).bind λln=>(aV C h (.ptr b (U+5))).bind λs1=>(aV C h (.ptr b (U+6))).bind λua=>(aV C h (.ptr b (U+7))).bind λvA=>some (.agg [ip,hD,gI,ko,ln,s1,ua,vA]):=by
 rw[vf]
 simp only[pc,ZV,Nat.reduceAdd,Yi,ZQ]
def DX(b U:Nat):ep C h 9 (.ptr b U)=(aV C h (.ptr b U)).bind λip=>(aV C h (.ptr b (U+1))).bind λhD=>(aV C h (.ptr b (U+2))).bind λgI=>(aV C h (.ptr b (U+3))).bind λko=>(aV C h (.ptr b (U+4))).bind λln=>(aV C h (.ptr b (U+5))).bind λs1=>(aV C h (.ptr b (U+6))).bind λua=>(aV C h (.ptr b (U+7))).bind λvA=>(aV C h (.ptr b (U+8))).bind λAb=>some (.agg [ip,hD,gI,ko,ln,s1,ua,vA,Ab]):=by
 rw[vf]
 simp only[pc,ZV,Nat.reduceAdd,Yi,ZQ]
def DR(b U:Nat):ep C h 10 (.ptr b U)=(aV C h (.ptr b U)).bind λip=>(aV C h (.ptr b (U+1))).bind λhD=>(aV C h (.ptr b (U+2))).bind λgI=>(aV C h (.ptr b (U+3))).bind λko=>(aV C h (.ptr b (U+4))).bind λln=>(aV C h (.ptr b (U+5))).bind λs1=>(aV C h (.ptr b (U+6))).bind λua=>(aV C h (.ptr b (U+7))).bind λvA=>(aV C h (.ptr b (U+8))).bind λAb=>(aV C h (.ptr b (U+9))).bind λub=>some (.agg [ip,hD,gI,ko,ln,s1,ua,vA,Ab,ub]):=by
 rw[vf]
 simp only[pc,ZV,Nat.reduceAdd,Yi,ZQ]
def DS(b U:Nat):ep C h 11 (.ptr b U)=(aV C h (.ptr b U)).bind λip=>(aV C h (.ptr b (U+1))).bind λhD=>(aV C h (.ptr b (U+2))).bind λgI=>(aV C h (.ptr b (U+3))).bind λko=>(aV C h (.ptr b (U+4))).bind λln=>(aV C h (.ptr b (U+5))).bind λs1=>(aV C h (.ptr b (U+6))).bind λua=>(aV C h (.ptr b (U+7))).bind λvA=>(aV C h (.ptr b (U+8))).bind λAb=>(aV C h (.ptr b (U+9))).bind λub=>(aV C h (.ptr b (U+10))).bind λPz=>some (.agg [ip,hD,gI,ko,ln,s1,ua,vA,Ab,ub,Pz]):=by
 rw[vf]
 simp only[pc,ZV,Nat.reduceAdd,Yi,ZQ]
def DT(b U:Nat):ep C h 12 (.ptr b U)=(aV C h (.ptr b U)).bind λip=>(aV C h (.ptr b (U+1))).bind λhD=>(aV C h (.ptr b (U+2))).bind λgI=>(aV C h (.ptr b (U+3))).bind λko=>(aV C h (.ptr b (U+4))).bind λln=>(aV C h (.ptr b (U+5))).bind λs1=>(aV C h (.ptr b (U+6))).bind λua=>(aV C h (.ptr b (U+7))).bind λvA=>(aV C h (.ptr b (U+8))).bind λAb=>(aV C h (.ptr b (U+9))).bind λub=>(aV C h (.ptr b (U+10))).bind λPz=>(aV C h (.ptr b (U+11))).bind λaAh=>some (.agg [ip,hD,gI,ko,ln,s1,ua,vA,Ab,ub,Pz,aAh]):=by
 rw[vf]
 simp only[pc,ZV,Nat.reduceAdd,Yi,ZQ]
def ER(z0 a0:z):dM (S.ofList [z0] 0 .nil) 0 [a0]=S.ofList [a0] 0 .nil:=by rfl
def EV(z0 fD a0 bd:z):dM (S.ofList [z0,fD] 0 .nil) 0 [a0,bd]=S.ofList [a0,bd] 0 .nil:=by rfl
def EW(z0 fD fE a0 bd ca:z):dM (S.ofList [z0,fD,fE] 0 .nil) 0 [a0,bd,ca]=S.ofList [a0,bd,ca] 0 .nil:=by rfl
def EX(z0 fD fE z3 a0 bd ca a3:z):dM (S.ofList [z0,fD,fE,z3] 0 .nil) 0 [a0,bd,ca,a3]=S.ofList [a0,bd,ca,a3] 0 .nil:=by rfl
def EY(z0 fD fE z3 z4 a0 bd ca a3 a4:z):dM (S.ofList [z0,fD,fE,z3,z4] 0 .nil) 0 [a0,bd,ca,a3,a4]=S.ofList [a0,bd,ca,a3,a4] 0 .nil:=by rfl
def EZ(z0 fD fE z3 z4 z5 a0 bd ca a3 a4 a5:z):dM (S.ofList [z0,fD,fE,z3,z4,z5] 0 .nil) 0 [a0,bd,ca,a3,a4,a5]=S.ofList [a0,bd,ca,a3,a4,a5] 0 .nil:=by rfl
def E0(z0 fD fE z3 z4 z5 rK a0 bd ca a3 a4 a5 h2:z):dM (S.ofList [z0,fD,fE,z3,z4,z5,rK] 0 .nil) 0 [a0,bd,ca,a3,a4,a5,h2]=S.ofList [a0,bd,ca,a3,a4,a5,h2] 0 .nil:=by rfl
def E1(z0 fD fE z3 z4 z5 rK Ac a0 bd ca a3 a4 a5 h2 ih:z):dM (S.ofList [z0,fD,fE,z3,z4,z5,rK,Ac] 0 .nil) 0 [a0,bd,ca,a3,a4,a5,h2,ih]=S.ofList [a0,bd,ca,a3,a4,a5,h2,ih] 0 .nil:=by rfl
def E2(z0 fD fE z3 z4 z5 rK Ac po a0 bd ca a3 a4 a5 h2 ih hk:z):dM (S.ofList [z0,fD,fE,z3,z4,z5,rK,Ac,po] 0 .nil) 0 [a0,bd,ca,a3,a4,a5,h2,ih,hk]=S.ofList [a0,bd,ca,a3,a4,a5,h2,ih,hk] 0 .nil:=by rfl
def ES(z0 fD fE z3 z4 z5 rK Ac po z9 a0 bd ca a3 a4 a5 h2 ih hk a9:z):dM (S.ofList [z0,fD,fE,z3,z4,z5,rK,Ac,po,z9] 0 .nil) 0 [a0,bd,ca,a3,a4,a5,h2,ih,hk,a9]=S.ofList [a0,bd,ca,a3,a4,a5,h2,ih,hk,a9] 0 .nil:=by rfl
def ET(z0 fD fE z3 z4 z5 rK Ac po z9 VG a0 bd ca a3 a4 a5 h2 ih hk a9 H3:z):dM (S.ofList [z0,fD,fE,z3,z4,z5,rK,Ac,po,z9,VG] 0 .nil) 0 [a0,bd,ca,a3,a4,a5,h2,ih,hk,a9,H3]=S.ofList [a0,bd,ca,a3,a4,a5,h2,ih,hk,a9,H3] 0 .nil:=by rfl
def EU(z0 fD fE z3 z4 z5 rK Ac po z9 VG aAp a0 bd ca a3 a4 a5 h2 ih hk a9 H3 XK:z):dM (S.ofList [z0,fD,fE,z3,z4,z5,rK,Ac,po,z9,VG,aAp] 0 .nil) 0 [a0,bd,ca,a3,a4,a5,h2,ih,hk,a9,H3,XK]=S.ofList [a0,bd,ca,a3,a4,a5,h2,ih,hk,a9,H3,XK] 0 .nil:=by rfl
def Aa(c:S z)(U:Nat)(v:z):(dM c U [v]).get U=some v:=by rw[mT];simp
def EQ{c:S z}{U i:Nat}{v:z}(a:i≠U):(dM c U [v]).get i=c.get i:=by rw[mT,Zg (by simp;omega)]
def km{b U o n:Nat}{c:S z}{v:z}(a:Z C h b=some (.cells c n .own))(ah:C.bf<=b)(aC:v.cells.length=o)(a8:0<o)(aS:U+o<=n)(H:hZ v.cells=true):
 eI C h o (.ptr b U) v=some (bp C h b (some (.cells (dM c U v.cells) n .own))):=by
 subst aC
 have b3:Nat.blt 0 v.cells.length=true:=by simp[Nat.blt];omega
 have er:Nat.beq v.cells.length v.cells.length=true:=by simp
 have bw:Nat.ble (U+v.cells.length) n=true:=by simpa using aS
 have iJ:Nat.ble C.bf b=true:=by simpa using ah
 simp only[eI,lJ,a,jI,iJ,bw,b3,er,H,Ye,eU,gS]
def pL(o:IntKind)(n:Nat):nS (.int o (n:Int))=some n:=rfl
def avS(o:IntKind):nS (.int o 0)=some 0:=rfl
def DE(o:IntKind)(x e:Int):bm .lss (.int o x) (.int o e)=some (.bool (decide (x<e))):=by
 cases o<;>simp[bm,lv,lx,lo,vQ,rj]<;>(rw[Ya];simp)
def DC(o:IntKind)(x e:Int):bm .gtr (.int o x) (.int o e)=some (.bool (decide (e<x))):=by
 cases o<;>simp[bm,lv,lx,lo,vQ,rj]<;>(rw[Ya];simp)
def DD(o:IntKind)(x e:Int):bm .leq (.int o x) (.int o e)=some (.bool (decide (x<=e))):=by
 cases o<;>simp[bm,lv,lx,lo,vQ,rj]<;>(rw[Ya];simp)
def DB(o:IntKind)(x e:Int):bm .geq (.int o x) (.int o e)=some (.bool (decide (e<=x))):=by
 cases o<;>simp[bm,lv,lx,lo,vQ,rj]<;>(rw[Ya];simp)
def DA(o:IntKind)(x e:Int):bm .eql (.int o x) (.int o e)=some (.bool (decide (x=e))):=by
 cases o<;>simp[bm,lv,lx,lo,vQ,yB]
def DF(o:IntKind)(x e:Int):bm .neq (.int o x) (.int o e)=some (.bool (decide (x≠e))):=by
 cases o<;>simp[bm,lv,lx,lo,vQ,yB]
def wrap64{n:Int}(H: -9223372036854775808<=n)(K:n<9223372036854775808):oK .i64 n=n:=by
 simp only[oK,eR,Zi]
 split<;>omega
def eG{x e:Int}(H: -9223372036854775808<=x+e)(K:x+e<9223372036854775808):bm .add (.int .i64 x) (.int .i64 e)=some (.int .i64 (x+e)):=by
 simp[bm,lv,lx,lo,kT,wrap64 H K]
def tH{x e:Int}(H: -9223372036854775808<=x-e)(K:x-e<9223372036854775808):bm .sub (.int .i64 x) (.int .i64 e)=some (.int .i64 (x-e)):=by
 simp[bm,lv,lx,lo,kT,wrap64 H K]
def ad5(x e:Int):bm .add (.int .u64 x) (.int .u64 e)=some (.int .u64 ((x+e)%18446744073709551616)):=by
 simp[bm,lv,lx,lo,kT,oK]
def GU{aR b U len cap i:Nat}(o:IntKind)(a:i<len):iv aR (.slice b U len cap) (.int o (i:Int))=some (.ptr b (U+i*aR)):=by
 simp[iv,pL,Cc,eR,Nat.blt,a];omega
def DK{aR b U len cap i:Nat}(o:IntKind)(a:i<len):iv aR (.el b U len cap) (.int o (i:Int))=some (.ptr b (U+i*aR)):=by
 simp[iv,pL,Cc,eR,Nat.blt,a];omega
def E5(d b U:Nat):iq d (.ptr b U)=some (.ptr b (U+d)):=rfl
def E3(i:Nat)(k:List z):rJ i (.tuple k)=k[i]? :=by simp[rJ]
def E4(b U:Nat):pn (.ptr b U)=some (.ptr b U):=rfl
def Ed(b:Bool):hb .not (.bool b)=some (.bool (!b)):=by simp[hb,vQ]
def rZ(c:S z)(k:List z):Prop:=∀i,c.get i=k[i]?
def mF(k:List z):rZ (S.ofList k 0 .nil) k:=λi=>mg k i
def rZ.app{c:S z}{k:List z}(a:rZ c k)(m:List z):rZ (dM c k.length m) (k++m):=by
 intro i
 rw[mT]
 by_cases H:k.length<=i/\i<k.length+m.length
 ·rw[Zq H,ZG H.1]
 ·rw[Zg H,a i]
  by_cases K:i<k.length
  ·rw[ZO K]
  ·rw[ZX Zo,ZX (by simp;omega)]
end
end
end Go.bn

namespace Go.bn
noncomputable section
section
variable{C:aK}{h:S ai}{j:Nat}
def jg{E b:Nat}(a:E<=b):Nat.ble E b=true:=by simpa using a
def LW{E b:Nat}(a:E<b):Nat.blt E b=true:=by simp[Nat.blt];omega
def aev:∀(k:List Nat) (h:S ai) (e:Nat),(∀x∈k,C.bf<=x)->e∉k->Z C (l1 C k h) e=Z C h e:=by
 intro k
 induction k with
 |nil=>intro h e _ _;rfl
 |cons E k ag=>
  intro h e aw D
  simp only[Zr,Y0]at D
  simp only[l1]
  rw[ag _ _ (λx af=>aw x (Zt _ af)) D.2,aJ (aw E (Zu ..)) D.1]
def je(C:aK)(h:S ai)(s:z)(aR:Nat)(k:List z)(cw:List Nat):Prop:=
 (s= .a2/\k=[]/\cw=[])\/∃b et n c,s= .el b 0 n aR/\k.length=n*aR/\cw=b::et/\(∀x∈cw,C.bf<=x)/\b∉et/\Z C h b=some (.cells c (n*aR) (.grow et))/\rZ c k
def je.ad{R:S ai}{s:z}{aR:Nat}{k:List z}{cw:List Nat}(a:je C h s aR k cw)(aC:∀e∈cw,Z C R e=Z C h e):je C R s aR k cw:=by
 rcases a with a|⟨b,et,n,c,H,K,ak,ay,be,bV,c9⟩
 ·exact .inl a
 ·exact .inr ⟨b,et,n,c,H,K,ak,ay,be,by rw[aC b (by rw[ak];exact Zu ..)];exact bV,c9⟩
def w1(k:List z)(U:Nat)(aY:List z):List z:=k.take U++(aY++k.drop (U+aY.length))
def axj{k aY:List z}{U:Nat}(a:U+aY.length<=k.length):(w1 k U aY).length=k.length:=by
 simp[w1];omega
def axi{k aY:List z}{U:Nat}(a:U+aY.length<=k.length)(i:Nat):(w1 k U aY)[i]? =if U<=i/\i<U+aY.length then aY[i-U]? else k[i]? :=by
 unfold w1
 have GI:(k.take U).length=U:=by simp;omega
 by_cases H:i<U
 ·rw[ZO Zo,Zg Zo,zs,Zq H]
 ·rw[ZG Zo,GI]
  by_cases K:i<U+aY.length
  ·rw[ZO Zo,Zq ⟨Zo,K⟩]
  ·rw[ZG Zo,Zg Zo,Yk]
   congr 1
   omega
def rZ.put{c:S z}{k:List z}(a:rZ c k){U:Nat}{aY:List z}(aw:U+aY.length<=k.length):rZ (dM c U aY) (w1 k U aY):=by
 intro i
 rw[mT,axi aw,a i]
def je.put{aR:Nat}{s:z}{k aY:List z}{cw:List Nat}{b U:Nat}{v:z}(a:je C h s aR k cw)(ah:cw.head?=some b)(bo:v.cells=aY)(a8:0<aY.length)(H:hZ aY=true)(aS:U+aY.length<=k.length):
 ∃R,eI C h aY.length (.ptr b U) v=some R/\je C R s aR (w1 k U aY) [b]/\∀e,e∉cw->Z C R e=Z C h e:=by
 rcases a with ⟨rfl,rfl,rfl⟩|⟨dw,et,n,c,rfl,K,rfl,ay,be,bV,c9⟩
 ·simp at ah
 ·simp only[List.head?_cons,Zf]at ah
  subst ah
  have hc:=ay dw (Zu ..)
  have mB:∀x∈et,C.bf<=x:=λx af=>ay x (Zt _ af)
  refine⟨bp C (l1 C et h) dw (some (.cells (dM c U aY) (n*aR) (.grow []))), ?_, .inr ⟨dw,[],n,dM c U aY,rfl,by rw[axj aS];exact K,rfl,by simpa using hc,Zs,bz hc,c9.put aS⟩,λe D=> ?_⟩
  ·have bw:Nat.ble (U+aY.length) (n*aR)=true:=jg Zo
   subst bo
   have b3:Nat.blt 0 v.cells.length=true:=LW a8
   have er:Nat.beq v.cells.length v.cells.length=true:=by simp
   simp only[eI,lJ,bV,jI,jg hc,bw,b3,er,H,Ye,eU,gS]
  ·simp only[Zr,Y0]at D
   rw[aJ hc D.1,aev _ _ _ mB D.2]
def qC{aR o b n:Nat}{k:List z}{c:S z}{st:oS}(a:Z C h b=some (.cells c n st))(ax:rZ c k)(aw:k.length=o*aR)(cap:Nat):jN C h aR (.slice b 0 o cap)=some (o,k):=by
 have bS:∀(m U:Nat),U+m<=k.length->c.kh U m=some ((k.drop U).take m):=by
  intro m
  induction m with
  |zero=>intro U _;simp[S.kh]
  |succ m ag=>
   intro U aS
   have H:c.get U=some k[U]:=by rw[ax U,Ze Zo]
   simp only[S.kh,H,ag (U+1) Zo]
   rw[Zz (by omega:U<k.length),Z8]
 simp only[jN,kt,cellsOf,a]
 rw[bS (o*aR) 0 Zo]
 simp[<-aw]
def fP{b:fS->fS}{I:db}{h:S ai}{j:Nat}(rY:Nat->fS)(m:Nat)(a8:rY m I h j)(a:∀m I h j,rY m I h j->b (λI h j=>∃e6,e6<m/\rY e6 I h j) I h j):fJ b I h j:=⟨⟨rY,⟨m,a8⟩,a⟩⟩
def abi{c:S z}{k:List z}(ax:rZ c k):∀(m U:Nat),U+m<=k.length->c.kh U m=some ((k.drop U).take m):=by
 intro m
 induction m with
 |zero=>intro U _;simp[S.kh]
 |succ m ag=>
  intro U aS
  have H:c.get U=some k[U]:=by rw[ax U,Ze Zo]
  simp only[S.kh,H,ag (U+1) Zo]
  rw[Zz (by omega:U<k.length),Z8]
def wb{aR:Nat}:∀{bu:List (List z)},(∀r∈bu,r.length=aR)->bu.flatten.length=bu.length*aR:=by
 intro bu
 induction bu with
 |nil=>intro _;simp
 |cons E k ag=>
  intro a
  rw[Yt,ZU,a E (Zu ..),ag (λr V=>a r (Zt _ V)),ZD,Z9]
  omega
abbrev zG(l:List z)(n:Nat):Option ai:=some (.cells (S.ofList l 0 .nil) n .own)
def zH(i:Nat)(h:i<1000000000:=by omega):bm .add (.Z (i:Int)) (.Z 1)=some (.Z ((i+1:Nat):Int)):=by rw[eG (by omega) (by omega)];rfl
def zI{p:Prop}(h:p:=by simp(disch:=omega) only[aJ]):p:=h
def zN{z7:aK}{z8 z9:S ai}{b o:Nat}{v:Option z}(h:Z z7 z9 b=Z z7 z8 b)(k:aV z7 z8 (.ptr b o)=v):aV z7 z9 (.ptr b o)=v:=by rw[da,h,<-da];exact k
abbrev zK(T_:db)(a_:Nat)(x_:z)(b_:Nat)(y_:z):db:=ab (ab T_ a_ x_) b_ y_
abbrev zL(T_:db)(a_:Nat)(x_:z)(b_:Nat)(y_:z)(c_:Nat)(z_:z):db:=ab (zK T_ a_ x_ b_ y_) c_ z_
abbrev zM(T_:db)(a_:Nat)(x_:z)(b_:Nat)(y_:z)(c_:Nat)(w_:z)(d_:Nat)(u_:z):db:=zK (zK T_ a_ x_ b_ y_) c_ w_ d_ u_
end
end
end Go.bn

namespace Go.aT
abbrev aW:=List Nat
structure ig where
 b:Bool
 s:Bool
 w:Int
 deriving DecidableEq
structure Tok where
 kind:Int
 text:aW
 at_:Int
 n:Int
 ty:ig
inductive bs where
 |mk (kind at_:Int) (name:aW) (no:Bool) (ty:ig) (n:Int) (args:List bs)
structure eP where
 name:aW
 at_:Int
 ty:ig
 on:aW
 f7:Int
 no:Bool
structure eo where
 left:List aW
 cL:List Int
 at_:Int
 right:bs
structure Node where
 name:aW
 at_:Int
 es:List eP
 out:List eP
 loc:List eP
 eqs:List eo
def dC:ig:=⟨false,false,0⟩
def bs.kind:bs->Int| .mk o _ _ _ _ _ _=>o
def bs.args:bs->List bs| .mk _ _ _ _ _ _ k=>k
abbrev ft(α:Type):=Option (Except Int (α×List Tok))
def ok{α:Type}(E:α)(k:List Tok):ft α:=some (.ok (E,k))
def bad{α:Type}(at_:Int):ft α:=some (.error at_)
def andThen{α en:Type}(x:ft α)(f:α->List Tok->ft en):ft en:=match x with
 |none=>none
 |some (.error E)=>some (.error E)
 |some (.ok (E,k))=>f E k
def gH(x:Tok)(s:aW):Bool:=(x.kind=2||x.kind=6)&&x.text=s
def kZ(s:aW):List Tok->Option (Option Tok×List Tok)
 |[]=>none
 |x::k=>if gH x s then some (some x,k)else some (none,x::k)
def hM{en:Type}(s:aW)(k:List Tok)(f:Option Tok->List Tok->ft en):ft en:=match kZ s k with
 |none=>none
 |some (x,k)=>f x k
def dX(s:aW):List Tok->ft Tok
 |[]=>none
 |x::k=>if gH x s then ok x k else bad x.at_
def il(o:Int):List Tok->ft Tok
 |[]=>none
 |x::k=>if x.kind=o then ok x k else bad x.at_
def ao:Nat->List (aW×Int)
 |0=>[([111,114],7),([120,111,114],8)]
 |1=>[([97,110,100],9)]
 |2=>[([61],10),([60,62],11),([60,61],13),([62,61],15),([60],12),([62],14)]
 |3=>[([43],16),([45],17)]
 |4=>[([42],18)]
 |_=>[]
def mX:List (aW×Int)->List Tok->Option (Option bs×List Tok)
 |[],k=>some (none,k)
 |(s,o)::os,k=>match kZ s k with
  |none=>none
  |some (some x,k)=>some (some (.mk o x.at_ [] false dC 0 []),k)
  |some (none,k)=>mX os k
def bs.at_:bs->Int| .mk _ E _ _ _ _ _=>E
def sK(B:bs):Option Bool:=if B.kind=1 then some true else if B.kind=4 then(match B.args with|[]=>none|E::_=>some (decide (E.kind=1)))else some false
def bs.name:bs->aW| .mk _ _ s _ _ _ _=>s
def bs.no:bs->Bool| .mk _ _ _ b _ _ _=>b
def bs.ty:bs->ig| .mk _ _ _ _ t _ _=>t
def bs.n:bs->Int| .mk _ _ _ _ _ n _=>n
def two(B:bs)(E b:bs):bs:= .mk B.kind B.at_ [] false dC 0 [E,b]
def yR:List (aW×Int):=[([110,111,116],3),([45],4),([112,114,101],5)]
mutual
def level:Nat->Nat->List Tok->ft bs
 |0,_,_=>none
 |n+1,o,k=>if o=5 then shift n k else andThen (level n (o+1) k) λleft k=>m7 n o left k
def m7:Nat->Nat->bs->List Tok->ft bs
 |0,_,_,_=>none
 |n+1,o,left,k=>match mX (ao o) k with
  |none=>none
  |some (none,k)=>ok left k
  |some (some B,k)=>andThen (level n (o+1) k) λr k=>if o=2 then ok (two B left r) k else m7 n o (two B left r) k
def shift:Nat->List Tok->ft bs
 |0,_=>none
 |n+1,k=>andThen (sR n k) λleft k=>nj n left k
def nj:Nat->bs->List Tok->ft bs
 |0,_,_=>none
 |n+1,left,k=>hM [60,60] k λx k=>match x with
  |some x=>nk n 19 x left k
  |none=>hM [62,62] k λx k=>match x with
   |some x=>nk n 20 x left k
   |none=>ok left k
def nk:Nat->Int->Tok->bs->List Tok->ft bs
 |0,_,_,_,_=>none
 |n+1,o,x,left,k=>andThen (il 4 k) λm k=>if 63<m.n then bad m.at_ else nj n (.mk o x.at_ [] false dC m.n [left]) k
def sR:Nat->List Tok->ft bs
 |0,_=>none
 |n+1,k=>match mX yR k with
  |none=>none
  |some (some B,k)=>andThen (sR n k) λE k=>ok (.mk B.kind B.at_ [] false dC 0 [E]) k
  |some (none,k)=>andThen (part n k) λleft k=>l4 n left k
def l4:Nat->bs->List Tok->ft bs
 |0,_,_=>none
 |n+1,left,k=>hM [119,104,101,110] k λx k=>match x with
  |none=>ok left k
  |some x=>hM [110,111,116] k λno k=>andThen (il 1 k) λc k=>l4 n (.mk 6 x.at_ c.text no.isSome dC 0 [left]) k
def part:Nat->List Tok->ft bs
 |0,_=>none
 |_+1,[]=>none
 |n+1,x::k=>
  if x.kind=5 then ok (.mk 1 x.at_ [] false x.ty x.n []) k
  else if x.kind=2&&(x.text=[116,114,117,101]||x.text=[102,97,108,115,101])then ok (.mk 1 x.at_ [] false ⟨true,false,1⟩ (if x.text=[116,114,117,101]then 1 else 0) []) k
  else if x.kind=1 then hM [40] k λe k=>match e with
   |none=>ok (.mk 2 x.at_ x.text false dC 0 []) k
   |some _=>andThen (list n k) λcg k=>ok (.mk 25 x.at_ x.text false dC 0 cg) k
  else if x.kind=3 then andThen (dX [40] k) λ_ k=>andThen (arrow n k) λB k=>andThen (dX [41] k) λ_ k=>ok (.mk 26 x.at_ [] false x.ty 0 [B]) k
  else if x.kind=6&&x.text=[40]then andThen (arrow n k) λB k=>andThen (dX [41] k) λ_ k=>ok B k
  else if x.kind=2&&x.text=[105,102]then andThen (arrow n k) λc k=>andThen (dX [116,104,101,110] k) λ_ k=>andThen (arrow n k) λE k=>andThen (dX [101,108,115,101] k) λ_ k=>andThen (arrow n k) λb k=>ok (.mk 23 x.at_ [] false dC 0 [c,E,b]) k
  else if x.kind=2&&x.text=[109,101,114,103,101]then andThen (il 1 k) λc k=>andThen (part n k) λE k=>andThen (part n k) λb k=>ok (.mk 24 x.at_ c.text false dC 0 [E,b]) k
  else bad x.at_
def list:Nat->List Tok->ft (List bs)
 |0,_=>none
 |n+1,k=>hM [41] k λe k=>match e with
  |some _=>ok [] k
  |none=>andThen (arrow n k) λB k=>m8 n [B] k
def m8:Nat->List bs->List Tok->ft (List bs)
 |0,_,_=>none
 |n+1,cg,k=>hM [44] k λe k=>match e with
  |none=>andThen (dX [41] k) λ_ k=>ok cg k
  |some _=>andThen (arrow n k) λB k=>m8 n (cg++[B]) k
def kM:Nat->List Tok->ft bs
 |0,_=>none
 |n+1,k=>andThen (level n 0 k) λleft k=>hM [102,98,121] k λx k=>match x with
  |none=>ok left k
  |some x=>match sK left with
   |none=>none
   |some true=>andThen (kM n k) λr k=>ok (.mk 21 x.at_ [] false dC 0 [left,r]) k
   |some false=>bad x.at_
def arrow:Nat->List Tok->ft bs
 |0,_=>none
 |n+1,k=>andThen (kM n k) λleft k=>hM [45,62] k λx k=>match x with
  |none=>ok left k
  |some x=>andThen (arrow n k) λr k=>ok (.mk 22 x.at_ [] false dC 0 [left,r]) k
end
def pe:Nat->List Tok->List Tok->ft (List Tok)
 |0,_,_=>none
 |n+1,cg,k=>andThen (il 1 k) λx k=>hM [44] k λe k=>match e with
  |none=>ok (cg++[x]) k
  |some _=>pe n (cg++[x]) k
def py(ty:ig)(on:aW)(f7:Int)(no:Bool)(x:Tok):eP:=⟨x.text,x.at_,ty,on,f7,no⟩
def y7:Nat->List Tok->Option aW
 |_,[]=>none
 |0,x::_=>some x.text
 |i+1,_::k=>y7 i k
def uu(loc:Bool)(o:List eP->List Tok->ft (List eP))(ds:List eP)(k:List Tok):ft (List eP):=match y7 0 k with
 |none=>none
 |some s=>if s=[59]then(if loc then(match y7 1 k with
   |none=>none
   |some s=>if s=[108,101,116]then ok ds k else o ds (k.drop 1))else o ds (k.drop 1))
  else ok ds k
def vX(w:Option Tok)(k:List Tok):ft (aW×Int×Bool):=match w with
 |none=>ok ([],0,false) k
 |some _=>hM [110,111,116] k λno k=>andThen (il 1 k) λon k=>ok (on.text,on.at_,no.isSome) k
def AN(loc:Bool)(o:List eP->List Tok->ft (List eP))(ds:List eP)(ci:List Tok)(k:List Tok):ft (List eP):=
 andThen (dX [58] k) λ_ k=>andThen (il 3 k) λt k=>hM [119,104,101,110] k λw k=>
 andThen (vX w k) λr k=>uu loc o (ds++ci.map (py t.ty r.1 r.2.1 r.2.2)) k
def hQ:Nat->Bool->List eP->List Tok->ft (List eP)
 |0,_,_,_=>none
 |n+1,loc,ds,k=>andThen (pe n [] k) λci k=>AN loc (hQ n loc) ds ci k
def sd(n:Nat)(k:List Tok):ft eo:=hM [40] k λe k=>
 andThen (match e with
  |some _=>andThen (il 1 k) λx k=>andThen (dX [44] k) λ_ k=>andThen (pe n [x] k) λci k=>andThen (dX [41] k) λ_ k=>ok ci k
  |none=>andThen (il 1 k) λx k=>ok [x] k) λci k=>
 andThen (dX [61] k) λB k=>andThen (arrow n k) λr k=>andThen (dX [59] k) λ_ k=>ok ⟨ci.map Tok.text,ci.map Tok.at_,B.at_,r⟩ k
def kf:Nat->List eo->List Tok->ft (List eo)
 |0,_,_=>none
 |n+1,cf,k=>hM [116,101,108] k λe k=>match e with
  |some _=>ok cf k
  |none=>andThen (sd n k) λal k=>kf n (cf++[al]) k
def node(n:Nat)(k:List Tok):ft Node:=
 andThen (dX [110,111,100,101] k) λ_ k=>andThen (il 1 k) λx k=>andThen (dX [40] k) λ_ k=>hM [41] k λe k=>
 andThen (match e with
  |some _=>ok [] k
  |none=>andThen (hQ n false [] k) λds k=>andThen (dX [41] k) λ_ k=>ok ds k) λes k=>
 andThen (dX [114,101,116,117,114,110,115] k) λ_ k=>andThen (dX [40] k) λ_ k=>andThen (hQ n false [] k) λout k=>andThen (dX [41] k) λ_ k=>
 hM [118,97,114] k λe k=>andThen (match e with
  |some _=>andThen (hQ n true [] k) λds k=>andThen (dX [59] k) λ_ k=>ok ds k
  |none=>ok [] k) λloc k=>
 andThen (dX [108,101,116] k) λ_ k=>andThen (kf n [] k) λcf k=>ok ⟨x.text,x.at_,es,out,loc,cf⟩ k
def nodes:Nat->List Node->List Tok->ft (List Node)
 |0,_,_=>none
 |n+1,aE,k=>andThen (node n k) λg k=>match k with
  |[]=>none
  |x::_=>if x.kind=7 then ok (aE++[g]) k else nodes n (aE++[g]) k
end Go.aT

namespace Go.bn
noncomputable section
open Go.aT
section
variable{C:aK}{h R aU:S ai}{j ap aL:Nat}
def s8{bH:List z}{aj:bR}(a:aj (.ptr j 0) (bp C h j (zG bH bH.length)) (j+1)):ar (kK bH j) λr=>gm C h j r.1 r.2 aj:=⟨⟨a⟩⟩
def Qi{b:Nat}{bH:List z}{aj:z->S ai->Prop}(a:aj (.ptr b 0) (bp C h b (zG bH bH.length))):ar (kK bH b) λr=>me C h b r.1 r.2 aj:=⟨⟨a⟩⟩
def wa(cs:List z):CO cs []=some cs:=rfl
def uy(cs:List z)(off size:Nat)(v:z)(df:List (Nat×Nat×z)):CO cs ((off,size,v)::df)=if v.cells.length=size/\off+size<=cs.length then CO (oE cs off v.cells) df else none:=by
 have B:∀E b:Nat,(Nat.beq E b=true)=(E=b):=λE b=>propext ⟨Zj,λa=>by subst a;exact YS E⟩
 simp only[CO,eR,Zp,B,Nat.ble_eq]
def rI(c:S z)(U:Nat)(v:z):dM c U [v]=c.set U (some v):=by simp[dM]
def bX{b n:Nat}{c:S z}{st:oS}(a:Z C h b=some (.cells c n st))(U:Nat):aV C h (.ptr b U)=c.get U:=by rw[da,a]
def RI{w:Bool}{E b:Prop}(a:b):jk w bn.undef E b:=⟨a⟩
def sJ(b U n c:Nat):eT (.slice b U n c)=some (.Z (n:Int)):=by simp[eT,o9]
def vg(b U n c:Nat):eT (.el b U n c)=some (.Z (n:Int)):=by simp[eT,o9]
def BD:eT .a2=some (.Z 0):=rfl
def yI(s:List Nat):mI (.str s)=some (.Z (s.length:Int)):=by simp[mI,o9]
def BM:∀E b:List Nat,mL E b=decide (E=b):=by
 intro E
 induction E with
 |nil=>intro b;cases b<;>simp[mL]
 |cons x E ag=>
  intro b
  cases b with
  |nil=>simp[mL]
  |cons e b=>
   simp only[mL,ag]
   by_cases a:x=e<;>simp[a]
def EG(t:Nat)(tg:Bool)(E b:List Nat):dv C h .eql t tg (.str E) (.str b)=some (.bool (decide (E=b))):=by
 simp[dv,Aw,vQ,BM]
def EH(t:Nat)(tg:Bool)(E b:List Nat):dv C h .neq t tg (.str E) (.str b)=some (.bool (decide (E≠b))):=by
 simp[dv,Aw,vQ,BM]
def CR(off aR:Nat)(cs:List z):uz false off aR (.agg cs)=cs[off]? :=by simp[uz,eR]
def CQ(off aR:Nat)(cs:List z):uz true off aR (.agg cs)=some (.agg ((cs.drop off).take aR)):=by simp[uz,eR]
def AB(t:Nat)(aG v:z):LQ t aG true (.iface t v)=some (.tuple [v, .zT]):=by simp[LQ,eR]
def CE(o:IntKind)(x:Int):mw .u64 (.int o x)=some (.int .u64 (x%18446744073709551616)):=by simp[mw,kT,oK]
def QM{o:IntKind}{x:Int}(H: -9223372036854775808<=x)(K:x<9223372036854775808):mw .i64 (.int o x)=some (.Z x):=by simp[mw,kT,wrap64 H K]
def CF(s:List Nat):amU (.str s)=some (.str s):=rfl
structure cx(C:aK)(X:List Nat)(h:S ai)(j:Nat)(R:S ai)(ap:Nat):Prop where
 le:j<=ap
 ad:∀b,b<j->b∉X->Z C R b=Z C h b
def cx.refl(X:List Nat)(h:S ai)(j:Nat):cx C X h j h j:=⟨Zh _,λ_ _ _=>rfl⟩
def cx.trans{X:List Nat}{aU aQ br:S ai}{aL bc bL:Nat}(a:cx C X aU aL aQ bc)(o:cx C X aQ bc br bL):cx C X aU aL br bL:=
 ⟨Zy a.le o.le,λb ah af=>(o.ad b (ZN ah a.le) af).trans (a.ad b ah af)⟩
def cx.of{X:List Nat}(a:bG C h j R ap):cx C X h j R ap:=⟨a.le,λb ah _=>a.ad b ah⟩
def cx.fq{X:List Nat}(a:cx C X h j R ap)(b U:Nat)(ah:b<j)(af:b∉X):aV C R (.ptr b U)=aV C h (.ptr b U):=by rw[da,da,a.ad b ah af]
def cx.down{X n4:List Nat}{bf:Nat}(a:cx C X h j R ap)(aM:bf<=j)(af:∀b∈X,b∈n4\/bf<=b):cx C n4 h bf R ap:=
 ⟨Zy aM a.le,λb ah D=>a.ad b Zo (λB=>by rcases af b B with a|a;exact D a;omega)⟩
structure dZ(C:aK)(h:S ai)(P:Nat->Prop)(b:Nat)(bi:z)(aR:Nat)(bu:List (List z)):Prop where
 ah:bu≠[]->P b
 many:bu.length<=300000
 wide:∀r∈bu,r.length=aR
 len:eT bi=some (.Z (bu.length:Int))
 gF:∀(i:Nat),i<bu.length->iv aR bi (.Z (i:Int))=some (.ptr b (i*aR))
 cell:∀(i:Nat) r (W:Nat) v,bu[i]? =some r->r[W]? =some v->aV C h (.ptr b (i*aR+W))=some v
def dZ.ad{P:Nat->Prop}{b aR:Nat}{bi:z}{bu:List (List z)}(a:dZ C h P b bi aR bu)(o:∀e,P e->Z C R e=Z C h e):dZ C R P b bi aR bu:=
 ⟨a.ah,a.many,a.wide,a.len,a.gF,λi r W v aA bx=>by
  have aC:=o b (a.ah (λB=>by rw[B]at aA;cases aA))
  rw[da,aC, <-da];exact a.cell i r W v aA bx⟩
def dZ.lift{P bk:Nat->Prop}{b aR:Nat}{bi:z}{bu:List (List z)}(a:dZ C h P b bi aR bu)(o:∀e,P e->bk e):dZ C h bk b bi aR bu:=
 ⟨λB=>o _ (a.ah B),a.many,a.wide,a.len,a.gF,a.cell⟩
def Rx{c:S z}:∀(r:List z) (U:Nat),(∀W v,r[W]? =some v->c.get (U+W)=some v)->c.kh U r.length=some r:=by
 intro r
 induction r with
 |nil=>intro U _;rfl
 |cons E r ag=>
  intro U a
  have a8:=a 0 E rfl
  rw[ZR]at a8
  have H:=ag (U+1) (λW v bx=>by have:=a (W+1) v (by simpa using bx);rw[Nat.add_right_comm];simpa[ZV,Nat.add_comm,Nat.add_left_comm]using this)
  simp[S.kh,a8,H]
def dZ.row{P:Nat->Prop}{b aR:Nat}{bi:z}{bu:List (List z)}(a:dZ C h P b bi aR bu)(aD:0<aR){i:Nat}{r:List z}(aA:bu[i]? =some r):ep C h aR (.ptr b (i*aR))=some (.agg r):=by
 have aw:=a.wide r (Zn aA)
 have a8:∃v,r[0]? =some v:=by
  cases r with
  |nil=>simp at aw;omega
  |cons E k=>exact⟨E,rfl⟩
 obtain⟨v,bo⟩:=a8
 have ax:=a.cell i r 0 v aA bo
 rw[da]at ax
 rw[DQ]
 split at ax
 ·rename_i c _ _ ah
  have:=Rx (c:=c) r (i*aR) (λW v bx=>by
   have:=a.cell i r W v aA bx
   rw[da,ah]at this
   exact this)
  rw[aw]at this
  rw[this];rfl
 ·cases ax
def Rg{aR:Nat}:∀(bu:List (List z)),(∀r∈bu,r.length=aR)->∀(i:Nat) r (W:Nat) v,bu[i]? =some r->r[W]? =some v->bu.flatten[i*aR+W]? =some v:=by
 intro bu
 induction bu with
 |nil=>intro _ i r W v aA;simp at aA
 |cons E k ag=>
  intro V i r W v aA bx
  have aB:=V E (Zu ..)
  have q9:W<r.length:=(Zb.1 bx).1
  cases i with
  |zero=>
   simp at aA;subst aA
   rw[Yt,zm,ZF,ZO Zo];exact bx
  |succ i=>
   simp at aA
   rw[Yt,ZG (by rw[aB,Z9];omega),aB]
   have:(i+1)*aR+W-aR=i*aR+W:=by rw[Z9];omega
   rw[this]
   exact ag (λr mb=>V r (Zt _ mb)) i r W v aA bx
def je.Ev{aR:Nat}{s:z}{bu:List (List z)}{cw:List Nat}(a:je C h s aR bu.flatten cw)(dW:0<aR)(V:∀r∈bu,r.length=aR)(aZ:bu.length<=300000){P:Nat->Prop}(aw:∀e∈cw,P e):∃b,dZ C h P b s aR bu:=by
 have gj:=wb V
 have Z:∀(bu:List (List z)),(∀r∈bu,r.length=aR)->∀(i:Nat) r (W:Nat) v,bu[i]? =some r->r[W]? =some v->bu.flatten[i*aR+W]? =some v:=by
  intro bu
  induction bu with
  |nil=>intro _ i r W v aA;simp at aA
  |cons E k ag=>
   intro V i r W v aA bx
   have aB:=V E (Zu ..)
   have q9:W<r.length:=(Zb.1 bx).1
   cases i with
   |zero=>
    simp at aA;subst aA
    rw[Yt,zm,ZF,ZO Zo];exact bx
   |succ i=>
    simp at aA
    rw[Yt,ZG (by rw[aB,Z9];omega),aB]
    have:(i+1)*aR+W-aR=i*aR+W:=by rw[Z9];omega
    rw[this]
    exact ag (λr mb=>V r (Zt _ mb)) i r W v aA bx
 rcases a with ⟨H,K,ak⟩|⟨b,et,n,c,H,K,ak,ay,be,bV,c9⟩
 ·have SS:bu.length=0:=by
   rw[K,ZY]at gj
   rcases Nat.mul_eq_zero.1 gj.symm with a|a
   ·exact a
   ·omega
  have SS:bu=[]:=YO.1 SS
  subst SS H
  exact⟨0,λB=>absurd rfl B,Zs,V,rfl,λi aA=>by simp at aA,λi r W v aA=>by simp at aA⟩
 ·have aM:n=bu.length:=YV dW (by rw[<-K,gj])
  subst aM H
  refine⟨b,λ_=>aw b (by rw[ak];exact Zu ..),aZ,V,vg ..,λi aA=>by rw[DK _ aA,ZF],λi r W v aA bx=> ?_⟩
  rw[da,bV]
  exact(c9 _).trans (Z bu V i r W v aA bx)
def OW{b aR o cap:Nat}{bu:List (List z)}{st:oS}(ah:Z C h b=some (.cells (S.ofList bu.flatten 0 .nil) (o*aR) st))(aC:bu.length=o)(V:∀r∈bu,r.length=aR)(aZ:o<=300000){P:Nat->Prop}(bW:P b):dZ C h P b (.slice b 0 o cap) aR bu:=by
 subst aC
 have Z:∀(bu:List (List z)),(∀r∈bu,r.length=aR)->∀(i:Nat) r (W:Nat) v,bu[i]? =some r->r[W]? =some v->bu.flatten[i*aR+W]? =some v:=by
  intro bu
  induction bu with
  |nil=>intro _ i r W v aA;simp at aA
  |cons E k ag=>
   intro V i r W v aA bx
   have aB:=V E (Zu ..)
   have q9:W<r.length:=(Zb.1 bx).1
   cases i with
   |zero=>
    simp at aA;subst aA
    rw[Yt,zm,ZF,ZO Zo];exact bx
   |succ i=>
    simp at aA
    rw[Yt,ZG (by rw[aB,Z9];omega),aB]
    have:(i+1)*aR+W-aR=i*aR+W:=by rw[Z9];omega
    rw[this]
    exact ag (λr mb=>V r (Zt _ mb)) i r W v aA bx
 refine⟨λ_=>bW,aZ,V,sJ ..,λi aA=>by rw[GU _ aA,ZF],λi r W v aA bx=> ?_⟩
 rw[da,ah]
 exact(mg _ _).trans (Z bu V i r W v aA bx)
def lC(t:ig):List z:=[.bool t.b, .bool t.s, .Z t.w]
def HY(C:aK)(h:S ai)(b:Nat):Prop:=∃c n,Z C h b=some (.cells c n .own)/\8<n
def HX(C:aK)(h:S ai)(b o:Nat):Prop:=C.bf<=b/\∃c n,Z C h b=some (.cells c n .own)/\o<=n
def Fm(C:aK)(h:S ai)(bi:z)(b o:Nat):Prop:=HX C h b o/\∃c,bi= .slice b 0 o c/\o<=c
def HX.ad{b o:Nat}(a:HX C h b o)(al:Z C R b=Z C h b):HX C R b o:=by unfold HX;rw[al];exact a
def Fm.ad{bi:z}{b o:Nat}(a:Fm C h bi b o)(al:Z C R b=Z C h b):Fm C R bi b o:=⟨a.1.ad al,a.2⟩
def HY.ad{b:Nat}(a:HY C h b)(o:Z C R b=Z C h b):HY C R b:=by unfold HY;rw[o];exact a
mutual
def cm(C:aK)(h:S ai):(Nat->Prop)->bs->z->Prop
 |P, .mk kind at_ name no ty n args,v=>∃b,v= .ptr b 0/\P b/\HY C h b/\aV C h (.ptr b 0)=some (.Z kind)/\aV C h (.ptr b 1)=some (.Z at_)/\aV C h (.ptr b 2)=some (.str name)/\aV C h (.ptr b 3)=some (.bool no)
   /\aV C h (.ptr b 4)=some (.bool ty.b)/\aV C h (.ptr b 5)=some (.bool ty.s)/\aV C h (.ptr b 6)=some (.Z ty.w)/\aV C h (.ptr b 7)=some (.int .u64 n)
   /\∃bi cj aY,aV C h (.ptr b 8)=some bi/\dZ C h P cj bi 1 (aY.map λv=>[v])/\(aY≠[]->cj≠b/\(kind≠25/\kind≠23->Fm C h bi cj aY.length))/\c2 C h (λe=>P e/\e≠b/\e≠cj) args aY
def c2(C:aK)(h:S ai):(Nat->Prop)->List bs->List z->Prop
 |_,[],aY=>aY=[]
 |P,B::a1,aY=>∃v nq bk,aY=v::nq/\(∀e,bk e->P e)/\cm C h bk B v/\c2 C h (λe=>P e/\¬bk e) a1 nq
end
mutual
def cm.ad{P:Nat->Prop}(o:∀e,P e->Z C R e=Z C h e):∀(B:bs) (v:z),cm C h P B v->cm C R P B v
 | .mk kind at_ name no ty n args,v,a=>by
   unfold cm at a ⊢
   obtain⟨b,H,bW,aS,K,ak,ay,be,bV,c9,eg,hI,bi,cj,aY,kO,lU,og,qa⟩:=a
   have aw:∀U,aV C R (.ptr b U)=aV C h (.ptr b U):=λU=>by rw[da,da,o b bW]
   exact⟨b,H,bW,aS.ad (o b bW),by rw[aw];exact K,by rw[aw];exact ak,by rw[aw];exact ay,by rw[aw];exact be,by rw[aw];exact bV,by rw[aw];exact c9,by rw[aw];exact eg,by rw[aw];exact hI,bi,cj,aY,by rw[aw];exact kO,lU.ad o,(λbo=>⟨(og bo).1,λaC=>((og bo).2 aC).ad (o cj (lU.ah (by simpa using bo)))⟩),c2.ad (λe D=>o e D.1) args aY qa⟩
def c2.ad{P:Nat->Prop}(o:∀e,P e->Z C R e=Z C h e):∀(a1:List bs) (aY:List z),c2 C h P a1 aY->c2 C R P a1 aY
 |[],aY,a=>by unfold c2 at a ⊢;exact a
 |B::a1,aY,a=>by
  unfold c2 at a ⊢
  obtain⟨v,nq,bk,H,bP,K,ak⟩:=a
  exact⟨v,nq,bk,H,bP,cm.ad (λe D=>o e (bP e D)) B v K,c2.ad (λe D=>o e D.1) a1 nq ak⟩
end
mutual
def cm.lift{P bk:Nat->Prop}(o:∀e,P e->bk e):∀(B:bs) (v:z),cm C h P B v->cm C h bk B v
 | .mk kind at_ name no ty n args,v,a=>by
   unfold cm at a ⊢
   obtain⟨b,H,bW,aS,K,ak,ay,be,bV,c9,eg,hI,bi,cj,aY,kO,lU,og,qa⟩:=a
   exact⟨b,H,o b bW,aS,K,ak,ay,be,bV,c9,eg,hI,bi,cj,aY,kO,lU.lift o,og,c2.lift (λe D=>⟨o e D.1,D.2⟩) args aY qa⟩
def c2.lift{P bk:Nat->Prop}(o:∀e,P e->bk e):∀(a1:List bs) (aY:List z),c2 C h P a1 aY->c2 C h bk a1 aY
 |[],aY,a=>by unfold c2 at a ⊢;exact a
 |B::a1,aY,a=>by
  unfold c2 at a ⊢
  obtain⟨v,nq,dK,H,bP,K,ak⟩:=a
  exact⟨v,nq,dK,H,λe D=>o e (bP e D),K,c2.lift (λe D=>⟨o e D.1,D.2⟩) a1 nq ak⟩
end
def c2.nil{P:Nat->Prop}:c2 C h P [] []:=by unfold c2;rfl
def gR(kind at_:Int)(name:aW)(no:Bool)(ty:ig)(n:Int)(bi:z):List z:=[.Z kind, .Z at_, .str name, .bool no, .bool ty.b, .bool ty.s, .Z ty.w, .int .u64 n,bi]
def Uf:8<9:=by decide
def cm.of{P:Nat->Prop}{b cj:Nat}{kind at_ n:Int}{name:aW}{no:Bool}{ty:ig}{bi:z}{m:Nat}{st:oS}{args:List bs}{aY:List z}(ah:Z C h b=some (.cells (S.ofList (gR kind at_ name no ty n bi) 0 .nil) m st))(bW:P b)
 (aD:dZ C h P cj bi 1 (aY.map λv=>[v]))(og:aY≠[]->cj≠b)(aB:c2 C h (λe=>P e/\e≠b/\e≠cj) args aY)(aS:st= .own:=by rfl)(aZ:8<m:=by exact Uf)(bF:kind≠25/\kind≠23->aY≠[]->Fm C h bi cj aY.length:=by exact λa=>absurd a Zd):cm C h P (.mk kind at_ name no ty n args) (.ptr b 0):=by
 unfold cm
 refine⟨b,rfl,bW,⟨_,_,aS▸ah,aZ⟩, ?_, ?_, ?_, ?_, ?_, ?_, ?_, ?_,bi,cj,aY, ?_,aD,(λbo=>⟨og bo,λaC=>bF aC bo⟩),aB⟩<;>(rw[bX ah,mg];rfl)
def dZ.nil(P:Nat->Prop)(aR:Nat):dZ C h P 0 .a2 aR []:=⟨λB=>absurd rfl B,Zs,Zs,rfl,λi aA=>by simp at aA,λi r W v aA=>by simp at aA⟩
def cm.leaf{P:Nat->Prop}{b:Nat}{kind at_ n:Int}{name:aW}{no:Bool}{ty:ig}{m:Nat}{st:oS}(ah:Z C h b=some (.cells (S.ofList (gR kind at_ name no ty n .a2) 0 .nil) m st))(bW:P b)(aS:st= .own:=by rfl)(aZ:8<m:=by exact Uf):cm C h P (.mk kind at_ name no ty n []) (.ptr b 0):=
 cm.of (aY:=[]) ah bW (dZ.nil P 1) (λa=>absurd rfl a) c2.nil aS aZ (λ_ a=>absurd rfl a)
def Mz:∀aY:List z,(aY.map λv=>[v]).flatten=aY:=by
 intro aY
 induction aY with
 |nil=>rfl
 |cons E k ag=>simp[ag]
def cm.lit{P:Nat->Prop}{b cj o cap:Nat}{kind at_ n:Int}{name:aW}{no:Bool}{ty:ig}{m:Nat}{st ic:oS}{args:List bs}{aY:List z}(ah:Z C h b=some (.cells (S.ofList (gR kind at_ name no ty n (.slice cj 0 o cap)) 0 .nil) m st))(bW:P b)
 (ws:Z C h cj=some (.cells (S.ofList aY 0 .nil) o ic))(uH:P cj)(aC:aY.length=o)(gD:o<=1000)(og:cj≠b)(aB:c2 C h (λe=>P e/\e≠b/\e≠cj) args aY)(aS:st= .own:=by rfl)(aZ:8<m:=by exact Uf)(asa:ic= .own:=by rfl)(gL:C.bf<=cj:=by(omega))(l8:o<=cap:=by(omega)):cm C h P (.mk kind at_ name no ty n args) (.ptr b 0):=
 cm.of ah bW (OW (bu:=aY.map λv=>[v]) (by rw[Mz,ZP];exact ws) (by simpa using aC) Zs Zo uH) (λ_=>og) aB aS aZ (λ_ _=>⟨⟨gL,_,_,asa▸ws,Zo⟩,cap,by rw[aC],Zo⟩)
def c2.one{P bk:Nat->Prop}{B:bs}{v:z}(a:cm C h bk B v)(bP:∀e,bk e->P e):c2 C h P [B] [v]:=by
 unfold c2;exact⟨v,[],bk,rfl,bP,a,c2.nil⟩
def c2.two{P bk dK:Nat->Prop}{B f:bs}{v w:z}(a:cm C h bk B v)(o:cm C h dK f w)(bP:∀e,bk e->P e)(V:∀e,dK e->P e/\¬bk e):c2 C h P [B,f] [v,w]:=by
 unfold c2;exact⟨v,[w],bk,rfl,bP,a,c2.one o V⟩
def c2.snoc{bk:Nat->Prop}{B:bs}{v:z}(o:cm C h bk B v):∀{a1:List bs}{aY:List z}{oP P:Nat->Prop},c2 C h oP a1 aY->(∀e,oP e->P e)->(∀e,bk e->P e/\¬oP e)->c2 C h P (a1++[B]) (aY++[v]):=by
 intro a1
 induction a1 with
 |nil=>intro aY oP P a H K;unfold c2 at a;subst a;exact c2.one o (λe D=>(K e D).1)
 |cons E k ag=>
  intro aY oP P a H K
  unfold c2 at a
  obtain⟨w,nq,dK,rfl,bP,ak,ay⟩:=a
  show c2 C h P (E::(k++[B])) (w::(nq++[v]))
  unfold c2
  exact⟨w,nq++[v],dK,rfl,λe D=>H e (bP e D),ak,ag ay (λe D=>⟨H e D.1,D.2⟩) (λe D=>⟨⟨(K e D).1,λjv=>(K e D).2 (bP e jv)⟩,λo7=>(K e D).2 o7.1⟩)⟩
def cm.ptr{P:Nat->Prop}:∀{B:bs}{v:z},cm C h P B v->∃b,v= .ptr b 0/\P b/\aV C h (.ptr b 0)=some (.Z B.kind)
 | .mk ..,_,a=>by
   unfold cm at a
   obtain⟨b,H,bW,_,K,_⟩:=a
   exact⟨b,H,bW,K⟩
def cm.open{P:Nat->Prop}:∀{B:bs}{v:z},cm C h P B v->∃b bi cj aY,v= .ptr b 0/\P b/\aV C h (.ptr b 0)=some (.Z B.kind)/\aV C h (.ptr b 1)=some (.Z B.at_)/\aV C h (.ptr b 2)=some (.str B.name)/\aV C h (.ptr b 3)=some (.bool B.no)
 /\aV C h (.ptr b 4)=some (.bool B.ty.b)/\aV C h (.ptr b 5)=some (.bool B.ty.s)/\aV C h (.ptr b 6)=some (.Z B.ty.w)/\aV C h (.ptr b 7)=some (.int .u64 B.n)
 /\aV C h (.ptr b 8)=some bi/\dZ C h P cj bi 1 (aY.map λv=>[v])/\c2 C h P B.args aY
 | .mk ..,_,a=>by
   unfold cm at a
   obtain⟨b,H,bW,aS,K,ak,ay,be,bV,c9,eg,hI,bi,cj,aY,kO,lU,og,qa⟩:=a
   exact⟨b,bi,cj,aY,H,bW,K,ak,ay,be,bV,c9,eg,hI,kO,lU,c2.lift (λe D=>D.1) _ _ qa⟩
def c2.len:∀{a1:List bs}{aY:List z}{P:Nat->Prop},c2 C h P a1 aY->aY.length=a1.length:=by
 intro a1
 induction a1 with
 |nil=>intro aY P a;unfold c2 at a;subst a;rfl
 |cons E k ag=>
  intro aY P a
  unfold c2 at a
  obtain⟨w,nq,bk,rfl,bP,H,K⟩:=a
  simp[ag K]
def c2.get:∀{a1:List bs}{aY:List z}{P:Nat->Prop},c2 C h P a1 aY->∀(i:Nat) B,a1[i]? =some B->∃v,aY[i]? =some v/\cm C h P B v:=by
 intro a1
 induction a1 with
 |nil=>intro aY P a i B a7;simp at a7
 |cons E k ag=>
  intro aY P a i B a7
  unfold c2 at a
  obtain⟨w,nq,bk,rfl,bP,H,K⟩:=a
  cases i with
  |zero=>simp at a7;subst a7;exact⟨w,rfl,cm.lift bP _ _ H⟩
  |succ i=>
   obtain⟨v,ak,ay⟩:=ag K i B (by simpa using a7)
   exact⟨v,by simpa using ak,cm.lift (λe D=>D.1) _ _ ay⟩
def dZ.one{P:Nat->Prop}{b:Nat}{bi:z}{aY:List z}(a:dZ C h P b bi 1 (aY.map λv=>[v])){i:Nat}{v:z}(aA:aY[i]? =some v):iv 1 bi (.Z (i:Int))=some (.ptr b i)/\aV C h (.ptr b i)=some v/\P b:=by
 have jx:=(Zb.1 aA).1
 have H:=a.gF i (by simpa using jx)
 have K:=a.cell i [v] 0 v (by rw[Zv,aA];rfl) rfl
 rw[ZP]at H
 rw[ZP,ZR]at K
 exact⟨H,K,a.ah (λB=>by simp at B;subst B;simp at aA)⟩
def aly{aR o:Nat}{x:z}{m:List z}(af:jN C h aR x=some (o,m))(aC:0<o)(ah:o<=1048576):
 lK C h j aR .a2 x=some (.e2 (.el j 0 o aR) (bp C h j (some (.cells (S.ofList m 0 .nil) m.length (.grow [])))) (j+1)):=by
 simp only[lK,af]
 rw[hl,Zg Zo]
 simp[xA,ts,jg ah,na]
def alw{aR o b n:Nat}{x:z}{m:List z}{c:S z}{et:List Nat}(ce:0<aR)(af:jN C h aR x=some (o,m))(aC:0<o)(ah:n+o<=1048576)(apL:hZ m=true)
 (aM:C.bf<=b)(aS:Z C h b=some (.cells c (n*aR) (.grow et))):
 lK C h j aR (.el b 0 n aR) x=some (.e2 (.el j 0 (n+o) aR) (bp C (bp C h b (some (.cells c (n*aR) .jO))) j (some (.cells (dM c (n*aR) m) (n*aR+m.length) (.grow (b::et))))) (j+1)):=by
 simp only[lK,af]
 rw[hl,Zg Zo]
 have cS:¬(0+(n+o)*aR<=n*aR):=by
  have:0<o*aR:=Nat.mul_pos aC ce
  rw[Z9];omega
 have Sc:Nat.ble (0+(n+o)*aR) (n*aR)=false:=by
  cases bP:Nat.ble (0+(n+o)*aR) (n*aR)with
  |false=>rfl
  |true=>exact absurd (iV bP) cS
 simp only[xA,Ic,aS,jI,jg aM,jg ah,apL,Sc]
 simp[eR,na]
def alx{aR o b n:Nat}{x:z}{m k:List z}{c:S z}{st:oS}{al:Nat}(ce:0<aR)(af:jN C h aR x=some (o,m))(aC:0<o)(ah:n+o<=1048576)
 (aS:Z C h b=some (.cells c al st))(ax:rZ c k)(aw:k.length=n*aR):
 lK C h j aR (.slice b 0 n n) x=some (.e2 (.el j 0 (n+o) aR) (bp C h j (some (.cells (S.ofList (k++m) 0 .nil) (k++m).length (.grow [])))) (j+1)):=by
 simp only[lK,af]
 rw[hl,Zg Zo]
 have Sc:Nat.ble (n+o) n=false:=by
  cases bP:Nat.ble (n+o) n with
  |false=>rfl
  |true=>exact absurd (iV bP) Zo
 have ya:kt C h b 0 (n*aR)=some k:=by
  simp only[kt,cellsOf,aS]
  rw[abi ax _ _ Zo]
  simp[<-aw]
 simp only[xA,Sc,ku,ya,ts,jg ah,eU,na,l6,gS]
def f0(C:aK)(h:S ai)(s:z)(aR:Nat)(k:List z)(cw:List Nat):Prop:=
 je C h s aR k cw\/∃b n c st,s= .slice b 0 n n/\k.length=n*aR/\cw=[b]/\Z C h b=some (.cells c (n*aR) st)/\rZ c k/\st= .own/\C.bf<=b
def f0.ad{s:z}{aR:Nat}{k:List z}{cw:List Nat}(a:f0 C h s aR k cw)(aC:∀e∈cw,Z C R e=Z C h e):f0 C R s aR k cw:=by
 rcases a with a|⟨b,n,c,st,H,K,ak,ay,be⟩
 ·exact .inl (a.ad aC)
 ·exact .inr ⟨b,n,c,st,H,K,ak,by rw[aC b (by rw[ak];exact Zu ..)];exact ay,be⟩
def f0.append{aR o:Nat}{s x:z}{k m:List z}{cw:List Nat}(a:f0 C h s aR k cw)(ce:0<aR)(af:jN C h aR x=some (o,m))(aZ:m.length=o*aR)(aC:0<o)(H:hZ m=true)
 (ah:k.length+m.length<=1048576)(aM:C.bf<=j)(cS:∀e∈cw,e<j):
 ∃e1 R gA,lK C h j aR s x=some (.e2 e1 R (j+1))/\je C R e1 aR (k++m) gA/\(∀e∈gA,e=j\/e∈cw)/\∀e,e≠j->e∉cw->Z C R e=Z C h e:=by
 have Nr:o<=o*aR:=zc o ce
 rcases a with (⟨rfl,rfl,rfl⟩|⟨b,et,n,c,rfl,K,rfl,ay,be,bV,c9⟩)|⟨b,n,c,st,rfl,K,rfl,ay,be,_⟩
 ·refine⟨_,_,[j],aly af aC (by simp at ah;omega), .inr ⟨j,[],o,_,rfl,by simpa using aZ,rfl,by simpa using aM,Zs,by rw[bz aM,aZ], ?_⟩,Zs,λe D _=>aJ aM D⟩
  simpa using mF m
 ·have kS:n<=n*aR:=zc n ce
  have gd:b<j:=cS b (Zu ..)
  refine⟨_,_,j::b::et,alw ce af aC Zo H (ay b (Zu ..)) bV, .inr ⟨j,b::et,n+o,dM c (n*aR) m,rfl,by rw[ZU,K,aZ,Z9],rfl, ?_, ?_, ?_, ?_⟩, ?_,λe D J4=> ?_⟩
  ·intro e D
   rcases Zr.1 D with rfl|D
   ·exact aM
   ·exact ay e D
  ·intro ax
   have:=cS j ax
   omega
  ·rw[bz aM,aZ,Z9]
  ·rw[<-K];exact c9.app m
  ·intro e D
   rcases Zr.1 D with rfl|D
   ·exact .inl rfl
   ·exact .inr D
  ·simp only[Zr,Y0]at J4
   rw[aJ aM D,aJ (ay b (Zu ..)) J4.1]
 ·have kS:n<=n*aR:=zc n ce
  refine⟨_,_,[j],alx ce af aC Zo ay be K, .inr ⟨j,[],n+o,_,rfl,by rw[ZU,K,aZ,Z9],rfl,by simpa using aM,Zs,by rw[bz aM,ZU,K,aZ,Z9],mF _⟩,Zs,λe D _=>aJ aM D⟩
def f0.Ev{aR:Nat}{s:z}{bu:List (List z)}{cw:List Nat}(a:f0 C h s aR bu.flatten cw)(dW:0<aR)(V:∀r∈bu,r.length=aR)(aZ:bu.length<=300000){P:Nat->Prop}(aw:∀e∈cw,P e):∃b,dZ C h P b s aR bu:=by
 rcases a with a|⟨b,n,c,st,rfl,K,rfl,ay,be,_⟩
 ·exact a.Ev dW V aZ aw
 ·have gj:=wb V
  have aM:n=bu.length:=YV dW (by rw[<-K,gj])
  subst aM
  refine⟨b,λ_=>aw b (Zu ..),aZ,V,sJ ..,λi aA=>by rw[GU _ aA,ZF],λi r W v aA bx=> ?_⟩
  rw[da,ay]
  exact(be _).trans (Rg bu V i r W v aA bx)
def f0.B5{s:z}{aY:List z}{cw:List Nat}(a:f0 C h s 1 aY cw){P:Nat->Prop}(aZ:aY.length<=300000)(aw:∀e∈cw,P e):∃b,dZ C h P b s 1 (aY.map λv=>[v]):=by
 have cy:f0 C h s 1 (aY.map λv=>[v]).flatten cw:=by rw[Mz];exact a
 exact cy.Ev Zd Zs (by simpa using aZ) aw
structure iU(C:aK)(h:S ai)(d8:Nat->Prop)(b:Nat)(bi:z)(aR:Nat)(bu:List (List z)):Prop where
 rd:dZ C h d8 b bi aR bu
 wr:bu≠[]->C.bf<=b/\∃c n st,Z C h b=some (.cells c n st)/\bu.length*aR<=n/\(st= .own\/∃et,st= .grow et/\b∉et/\∀e∈et,d8 e/\C.bf<=e)
def iU.ad{d8:Nat->Prop}{b aR:Nat}{bi:z}{bu:List (List z)}(a:iU C h d8 b bi aR bu)(o:∀e,d8 e->Z C R e=Z C h e):iU C R d8 b bi aR bu:=
 ⟨a.rd.ad o,λV=>by rw[o b (a.rd.ah V)];exact a.wr V⟩
def iU.lift{d8 bk:Nat->Prop}{b aR:Nat}{bi:z}{bu:List (List z)}(a:iU C h d8 b bi aR bu)(o:∀e,d8 e->bk e):iU C h bk b bi aR bu:=
 ⟨a.rd.lift o,λV=>by
  obtain⟨a8,c,n,st,H,K,ak⟩:=a.wr V
  exact⟨a8,c,n,st,H,K,ak.imp id λ⟨et,B,ah,D⟩=>⟨et,B,ah,λe aZ=>⟨o e (D e aZ).1,(D e aZ).2⟩⟩⟩⟩
def iU.nil(d8:Nat->Prop)(aR:Nat):iU C h d8 0 .a2 aR []:=⟨dZ.nil d8 aR,λa=>absurd rfl a⟩
def f0.OX{aR:Nat}{s:z}{bu:List (List z)}{cw:List Nat}(a:f0 C h s aR bu.flatten cw)(dW:0<aR)(V:∀r∈bu,r.length=aR)(aZ:bu.length<=300000){d8:Nat->Prop}(aw:∀e∈cw,d8 e):∃b,iU C h d8 b s aR bu:=by
 have gj:=wb V
 obtain⟨b,cR⟩:=a.Ev dW V aZ aw
 rcases a with (⟨rfl,K,rfl⟩|⟨dw,et,n,c,rfl,K,rfl,ay,be,bV,c9⟩)|⟨dw,n,c,st,rfl,K,rfl,ay,be,rfl,a8⟩
 ·rw[K,ZY]at gj
  have:bu=[]:=YO.1 (by rcases Nat.mul_eq_zero.1 gj.symm with a|a<;>omega)
  subst this
  exact⟨0,iU.nil d8 aR⟩
 ·refine⟨b,cR,λcK=> ?_⟩
  have dV:=cR.gF 0 (ZW.2 cK)
  have aM:n=bu.length:=YV dW (by rw[<-K,gj])
  have av:=ZW.2 cK
  rw[DK _ Zo]at dV
  simp only[Zf,z.ptr.injEq]at dV
  obtain⟨rfl,_⟩:=dV
  exact⟨ay _ (Zu ..),c,_,_,bV,by rw[aM];omega, .inr ⟨et,rfl,be,λe D=>⟨aw e (Zt _ D),ay e (Zt _ D)⟩⟩⟩
 ·refine⟨b,cR,λcK=> ?_⟩
  have dV:=cR.gF 0 (ZW.2 cK)
  have aM:n=bu.length:=YV dW (by rw[<-K,gj])
  have av:=ZW.2 cK
  rw[GU _ Zo]at dV
  simp only[Zf,z.ptr.injEq]at dV
  obtain⟨rfl,_⟩:=dV
  exact⟨a8,c,_,_,ay,by rw[aM];omega, .inl rfl⟩
def f0.axw{s:z}{aY:List z}{cw:List Nat}(a:f0 C h s 1 aY cw){d8:Nat->Prop}(aZ:aY.length<=300000)(aw:∀e∈cw,d8 e):∃b,iU C h d8 b s 1 (aY.map λv=>[v]):=by
 have cy:f0 C h s 1 (aY.map λv=>[v]).flatten cw:=by rw[Mz];exact a
 exact cy.OX Zd Zs (by simpa using aZ) aw
end
end
end Go.bn

