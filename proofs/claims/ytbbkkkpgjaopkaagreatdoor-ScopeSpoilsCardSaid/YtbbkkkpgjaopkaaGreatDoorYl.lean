/- Part of the proof of the last text; no conditions -/
import Derived.Test.YtbbkkkpgjaopkaaGreatDoorYk
set_option maxHeartbeats 8000000
set_option linter.all false
namespace Go.bs
noncomputable section
section
variable{C:aT}{h:M ak}{j:Nat}
def bn{b:Nat}{W:Option ak}(a:C.aY<=b):Z C (bl C h b W) b=W:=by rw[fF _ a,Zu rfl]
def aL{b x:Nat}{W:Option ak}(a:C.aY<=b)(af:x≠b):Z C (bl C h b W) x=Z C h x:=by rw[fF _ a,Zg af]
def cT(b W:Nat):aV C h (.ptr b W)=match Z C h b with|some (.cells c _ _)=>c.get W|_=>none:=by
 simp only[aV,cellsOf]
 cases Z C h b with
 |none=>rfl
 |some cK=>cases cK<;>rfl
def Sr(n b W:Nat):dT C h n (.ptr b W)=match Z C h b with|some (.cells c _ _)=>(c.ks W n).map y.agg|_=>none:=by
 simp only[dT,cellsOf]
 cases Z C h b with
 |none=>rfl
 |some cK=>
  cases cK with
  |cells c m st=>simp only[];cases c.ks W n<;>rfl
  |_=>rfl
def XF(c:M y)(W:Nat):c.ks W 0=some []:=rfl
def pt:∀(k:List y) (c:M y) (W i:Nat),(d3 c W k).get i=if W<=i/\i<W+k.length then k[i-W]? else c.get i:=by
 intro k
 induction k with
 |nil=>intro c W i;simp[d3];intro H K;omega
 |cons E k aj=>
  intro c W i
  simp only[d3,g5]
  rw[aj,M.j7]
  by_cases H:i=W
  ·subst H
   simp
   intro a;omega
  ·by_cases K:W+1<=i/\i<W+1+k.length
   ·rw[Zu K,Zu Zx]
    rw[show i-W=(i-(W+1))+1 by omega]
    simp
   ·rw[Zg K,Zg (λD=>H D.symm),Zg Zx]
def x5{b W n:Nat}{c:M y}{st:oE}(a:C.aY<=b):aV C (bl C h b (some (.cells c n st))) (.ptr b W)=c.get W:=by
 rw[cT,bn a]
def A8{b x W:Nat}{cK:Option ak}(a:C.aY<=b)(af:x≠b):aV C (bl C h b cK) (.ptr x W)=aV C h (.ptr x W):=by
 rw[cT,cT,aL a af]
def pb(C:aT)(h:M ak)(b:Nat):Nat->Nat->Option (List y)
 |_,0=>some []
 |W,n+1=>(aV C h (.ptr b W)).bind λE=>(pb C h b (W+1) n).bind λk=>some (E::k)
def uX{b W n:Nat}:dT C h (n+1) (.ptr b W)=(pb C h b W (n+1)).bind λk=>some (.agg k):=by
 have a:∀(c:M y) (m:Nat) (st:oE),Z C h b=some (.cells c m st)->∀n W,pb C h b W n=c.ks W n:=by
  intro c m st al n
  induction n with
  |zero=>intro W;rfl
  |succ n aj=>
   intro W
   simp only[pb,M.ks,cT,al,aj]
   cases c.get W with
   |none=>rfl
   |some E=>cases c.ks (W+1) n<;>rfl
 rw[Sr]
 cases al:Z C h b with
 |none=>simp[pb,cT,al]
 |some cK=>
  cases cK with
  |cells c m st=>
   simp only[a c m st al]
   cases c.ks W (n+1)<;>rfl
  |_=>simp[pb,cT,al]
structure bp(C:aT)(h:M ak)(j:Nat)(R:M ak)(au:Nat):Prop where
 le:j<=au
 ad:∀b,b<j->Z C R b=Z C h b
def bp.refl(h:M ak)(j:Nat):bp C h j h j:=⟨Zj _,λ_ _=>rfl⟩
def bp.trans{aX aP bf:M ak}{aM be bE:Nat}(a:bp C aX aM aP be)(q:bp C aP be bf bE):bp C aX aM bf bE:=
 ⟨ZB a.le q.le,λb al=>(q.ad b (ZT al a.le)).trans (a.ad b al)⟩
def bp.fm{R:M ak}{au:Nat}(a:bp C h j R au)(b W:Nat)(al:b<j):aV C R (.ptr b W)=aV C h (.ptr b W):=by
 rw[cT,cT,a.ad b al]
def bp.fresh(a:C.aY<=j)(cK:Option ak):bp C h j (bl C h j cK) (j+1):=
 ⟨Ya _,λb al=>aL a Zo⟩
def bp.more{R:M ak}{au n:Nat}(q:bp C h j R au)(a:au<=n):bp C h j R n:=⟨ZB q.le a,q.ad⟩
def bp.tJ{R:M ak}{au c5:Nat}(q:bp C h j R au)(a:c5<=j):bp C h c5 R au:=⟨ZB a q.le,λb al=>q.ad b (ZT al a)⟩
def nO{b W n:Nat}{c:M y}{v:y}(a:Z C h b=some (.cells c n .own))(al:C.aY<=b)(bd:W+1<=n)(bu:v.cells=[v])(H:l3 v=true):
 es C h 1 (.ptr b W) v=some (bl C h b (some (.cells (c.set W (some v)) n .own))):=by
 have bB:Nat.ble (W+1) n=true:=by simpa using bd
 have cp:Nat.ble C.aY b=true:=by simpa using al
 simp[es,bu,rZ,a,j5,iI,H,bB,cp,d3,eQ,Nat.blt]
def CL:List y->List (Nat×Nat×y)->Option (List y)
 |cells,[]=>some cells
 |cells,(off,size,v)::rest=>bH (Nat.beq v.cells.length size&&Nat.ble (off+size) cells.length) (CL (nk cells off v.cells) rest) none
def fe(rF:List y)(da:List (Nat×Nat×y)):Option y:=match CL rF da with|some cs=>some (.agg cs)|none=>none
def kJ(rF:List y)(b:Nat):Option (y×ak):=some (.ptr b 0, .cells (M.ofList rF 0 .nil) rF.length .own)
def hv(len:Nat)(rF:List y)(da:List (Nat×Nat×y))(b:Nat):Option (y×ak):=match CL rF da with
 |some cs=>some (.slice b 0 len len, .cells (M.ofList cs 0 .nil) cs.length .own)
 |none=>none
def up(agg:Bool)(off size:Nat)(v:y):Option y:=match v with| .agg cs=>bH agg (some (.agg ((cs.drop off).take size))) (rr cs off)|_=>none
def fM(v:y):Option y:=match v with| .slice _ _ n _=>o7 .i64 (Int.ofNat n)| .ej _ _ n _=>o7 .i64 (Int.ofNat n)| .aW=>some (.int .i64 0)|_=>none
def mq(v:y):Option y:=match v with| .str s=>o7 .i64 (Int.ofNat s.length)|_=>none
def k8(q:IntKind)(v:y):Option y:=match (match v with| .int _ n=>lj q n|_=>none)with|some v=>some v|none=>none
def ajW(v:y):Option y:=match (match v with| .str s=>some (y.str s)|_=>none)with|some v=>some v|none=>none
def s9(C:aT)(h:M ak)(v:y):Option y:=match (match v with| .str s=>some (y.str s)|_=>none)with|some v=>some v|none=>EG C h v
def KK(t:Nat)(bo:y)(ok:Bool)(v:y):Option y:=match v with
 | .nilIface=>bH ok (some (.tuple [bo, .bool false])) none
 | .iface ga w=>bH (Nat.beq ga t) (some (bH ok (.tuple [w, .bool true]) w)) (bH ok (some (.tuple [bo, .bool false])) none)
 |_=>none
def nd(C:aT)(h:M ak)(jG:Nat)(bo m q:y)(ok:Bool):Option y:=
 match (match m with
  | .ms=>bH (nw C 20 jG q) (some none) none
  | .map r=>(match Z C h r with|some (.map ci _)=>bH (nw C 20 jG q) (findKey C h jG q ci 0) none|some (.look ci)=>bH (nw C 20 jG q) (Ga (pf C h jG q ci)) none|_=>none)
  |_=>none)with
  |none=>none
  |some none=>some (bH ok (.tuple [bo, .bool false]) bo)
  |some (some (_,v))=>some (bH ok (.tuple [v, .bool true]) v)
def ju(C:aT)(h:M ak)(j aN:Nat)(s x:y):Option dZ:=match hI C h aN x with
 |some (n,k)=>bH (Nat.beq n 0) (Cs C h aN s) (vr C h j aN n k s)
 |none=>none
def DQ(C:aT)(h:M ak)(j jG:Nat)(m q v:y):Option dZ:=match m with
 | .map r=>(match Z C h r with
   |some (.map ci fL)=>bH (nw C 20 jG q) (match findKey C h jG q ci 0 with
    |some (some (i,_))=>(match rr ci i with
     |some (ey,_,born)=>bH (pa 20 ey q) (setObj C h j r (.map (ci.set i (q,v,born)) fL) undef) none
     |none=>none)
    |some none=>setObj C h j r (.map (ci++[(q,v,fL)]) (fL+1)) undef
    |none=>none) none
   |_=>none)
 |_=>none
def x1(agg:Bool)(n aN:Nat)(v i:y):Option y:=match ng i with
 |none=>none
 |some i=>match v with
  | .agg cs=>bH (Nat.blt i n) (bH agg (some (.agg ((cs.drop (i*aN)).take aN))) (rr cs (i*aN))) none
  |_=>none
def nI(v i:y):Option y:=match ng i with
 |none=>none
 |some i=>match v with
  | .str s=>(match rr s i with|some c=>some (.int .u8 (Int.ofNat c))|none=>none)
  |_=>none
def mT(v:y)(bR aF:Option y):Option y:=match v with
 | .str s=>(match md s.length s.length bR aF none with
    |some (k,a,_)=>some (.str ((s.drop k).take (a-k)))
    |none=>none)
 |_=>none
def nN(C:aT)(h:M ak)(aN:Nat)(x:y)(bR aF g3:Option y):Option y:=match x with
 | .slice b W len cap=>(match md len cap bR aF g3 with
   |some (k,a,m)=>some (.slice b (bH (Nat.beq m k) W (W+k*aN)) (a-k) (m-k))
   |_=>none)
 | .aW=>(match md 0 0 bR aF g3 with
   |some _=>some .aW
   |_=>none)
 | .ej b W len BT=>(match u9 C h b with
   |some n=>bH (Nat.beq BT aN&&Nat.blt 0 BT) (match md len ((n-W)/BT) bR aF g3 with
     |some (k,a,m)=>(match g3 with
      |some _=>some (.slice b (bH (Nat.beq m k) W (W+k*BT)) (a-k) (m-k))
      |none=>bH (Nat.blt k ((n-W)/BT)||Nat.beq k 0) (some (.ej b (W+k*BT) (a-k) BT)) (bH (Nat.beq W 0&&Nat.beq a k) (some (.wA b k BT)) none))
     |none=>none) none
   |_=>none)
 |_=>none
def To(n aN:Nat)(x:y)(bR aF g3:Option y):Option y:=match x with
 | .ptr b W=>(match md n n bR aF g3 with
   |some (k,a,m)=>some (.slice b (bH (Nat.beq m k) W (W+k*aN)) (a-k) (m-k))
   |_=>none)
 |_=>none
def S9(C:aT)(h:M ak)(j:Nat)(v:y):Option dZ:=match v with
 | .str s=>mQ C h j (.ou s 0) λb=> .ptr b 0
 |_=>none
def JQ(C:aT)(h:M ak)(j:Nat)(v:y):Option dZ:=match v with
 | .str k=>sa C h j k.length 1 (k.map λn=>y.int .u8 (Int.ofNat n))
 |_=>none
def ru{α:Type}{E:α}{ah:α->Prop}(a:ah E):av (some E) ah:=⟨a⟩
def rt{α:Type}{E:α}{ah:α->Prop}(a:ah E):cg (some E) ah:=a
def vu{E:y}{ah:bQ}(a:ah (.ptr j 0) (bl C h j (some (.cells (M.ofList E.cells 0 .nil) E.cells.length .own))) (j+1)):jv C h j E ah:=⟨a⟩
def M1{v:y}{cK:ak}{ah:bQ}(a:ah v (bl C h j (some cK)) (j+1)):gN C h j v cK ah:=⟨a⟩
def M2{v:y}{cK:ak}{ah:bQ}(a:ah v (bl C h j (some cK)) (j+1)):gN C h j (Prod.mk v cK).1 (Prod.mk v cK).2 ah:=⟨a⟩
def M0{b:Nat}{v:y}{cK:ak}{ah:y->M ak->Prop}(a:ah v (bl C h b (some cK))):lD C h b (Prod.mk v cK).1 (Prod.mk v cK).2 ah:=⟨a⟩
def KQ{b:Nat}{E:y}{ah:y->M ak->Prop}(a:ah (.ptr b 0) (bl C h b (some (.cells (M.ofList E.cells 0 .nil) E.cells.length .own)))):w7 C h b E ah:=⟨a⟩
def MZ{b:Nat}{v:y}{cK:ak}{ah:y->M ak->Prop}(a:ah v (bl C h b (some cK))):lD C h b v cK ah:=⟨a⟩
def gT{dO:fK}{body:fK->Prop}(a:body dO):bC dO body:=⟨a⟩
def MJ{dO:bQ}{body:bQ->Prop}(a:body dO):o8 dO body:=⟨a⟩
def MG{dO:y->Prop}{body:(y->Prop)->Prop}(a:body dO):c4 dO body:=⟨a⟩
def MH{dO:y->M ak->Prop}{body:(y->M ak->Prop)->Prop}(a:body dO):tB dO body:=⟨a⟩
def MI{dO:Prop}{body:Prop->Prop}(a:body dO):R9 dO body:=⟨a⟩
def MR{n:Nat}{ah:Nat->Prop}(a:ah n):fo n ah:=⟨a⟩
def NB{v:y}{R:M ak}{au:Nat}{ah:bQ}(a:ah v R au):hu (some (.fq v R au)) h j ah:=⟨a⟩
def NC{v:y}{ah:bQ}(a:ah v h j):hu (some (.val v)) h j ah:=⟨a⟩
def s6{E b:Prop}(a:E):bh (.bool true) E b:=⟨⟨λ_=>a,λD=>(by cases D)⟩⟩
def s5{E b:Prop}(a:b):bh (.bool false) E b:=⟨⟨λD=>(by cases D),λ_=>a⟩⟩
def Au{E b:Prop}(a:E):iR true (.bool true) E b:=⟨⟨λ_=>a,λD=>(by cases D)⟩⟩
def At{E b:Prop}(a:b):iR true (.bool false) E b:=⟨⟨λD=>(by cases D),λ_=>a⟩⟩
def As{E b:Prop}(a:b):iR false (.bool true) E b:=⟨⟨λD=>(by cases D),λ_=>a⟩⟩
def Ar{E b:Prop}(a:E):iR false (.bool false) E b:=⟨⟨λ_=>a,λD=>(by cases D)⟩⟩
def MB{f:Nat}{E ca b:List y}{ah ax:bQ}(a:a1 C f ((E++ca)++b) h j ah ax):mm C (.func (.func f) E b) ca h j ah ax:=⟨a⟩
def j0{x e:y}{ah:Prop}(a:y.same 30 x e=true)(q:ah):io x (some e) ah:=⟨⟨a,q⟩⟩
@[congr] def awL{v gj:y}{E b:Prop}(a:v=gj):bh v E b=bh gj E b:=by rw[a]
@[congr] def awP{f:Nat}{ca Wf:List y}{ah ax:bQ}(a:ca=Wf):a1 C f ca h j ah ax=a1 C f Wf h j ah ax:=by rw[a]
def a1.mono{f:Nat}{ca:List y}{ah ax qM eg:bQ}(a:a1 C f ca h j ah ax)(hF:∀ab R au,ah ab R au->qM ab R au)(cw:∀ab R au,ax ab R au->eg ab R au):a1 C f ca h j qM eg:=by
 rcases a.out with ⟨ab,H,K⟩|⟨H,K,am⟩
 ·exact⟨.inl ⟨ab,H,hF _ _ _ K⟩⟩
 ·exact⟨.inr ⟨H,K,am.mono hF cw⟩⟩
def PY{f d1:Nat}(a:c8 C f d1=true):∃fn c,C.P.funcs[f]? =some fn/\fn.body=some c:=by
 unfold c8 at a
 split at a
 ·rename_i fn bW
  split at a
  ·rename_i c aA;exact⟨fn,c,bW,aA⟩
  ·cases a
 ·cases a
def cY{f:Nat}{ca:List y}{ah ax:bQ}(aA:c8 C f ca.length=true)(bd:C.g4 f ca=none)(a:dp C f ca h j ah ax):a1 C f ca h j ah ax:=
 ⟨.inr ⟨bd,PY aA,alm aA a⟩⟩
def Cx{f:Nat}{ca:List y}{ah ax:bQ}{ab:y}(bd:C.g4 f ca=some ab)(a:ah ab h j):a1 C f ca h j ah ax:=⟨.inl ⟨ab,bd,a⟩⟩
def at0(v:y)(ah:bQ):hu (some (.val v)) h j ah=ah v h j:=adR ..
def BO(I:dc)(d n:Nat)(v:y):(ae I d v).g n=if d=n then some v else I.g n:=by show bH (Nat.beq d n) (some v) (I.g n)=_;rw[hn]
def u6(I:dc)(d:Nat)(v:y):(ae I d v).bb=I.bb:=rfl
def BP(I:dc)(d:Nat)(v:y):(ae I d v).rc=I.rc:=rfl
def yV(k:List y)(n:Nat):(c6 k).g n=k[n]? :=by simp[c6]
def w2(k:List y):(c6 k).bb=[]:=rfl
def yW(k:List y):(c6 k).rc=false:=rfl
def vA(k:List Nat)(I:dc)(n:Nat):(hT k I).g n=bH (sx n k) none (I.g n):=rfl
def BG(I:dc)(d:hy)(n:Nat):(BE I d).g n=I.g n:=rfl
def BF(I:dc)(d:hy):(BE I d).bb=d::I.bb:=rfl
def Bj(I:dc)(d n:Nat):(u1 I d).g n=I.g n:=rfl
def wj(I:dc)(d:Nat):(u1 I d).bb=⟨.collected d,[]⟩::I.bb:=rfl
def KT{f:Nat}{ca:List y}{ah ax:bQ}(aA:c8 C f ca.length=true)(bd:C.g4 f ca=none)(a:CM C f ca h j ah ax):a1 C f ca h j ah ax:=
 ⟨.inr ⟨bd,PY aA,aln aA a⟩⟩
def WC{f:Nat}{ca:List y}{ah ax:bQ}(bd:C.g4 f ca=none)(a:a1 C f ca h j ah ax):ua C f ca h j ah ax:=by
 rcases a.out with ⟨ab,H,K⟩|⟨H,K,am⟩
 ·rw[bd]at H;cases H
 ·exact am
def EO{p:Prop}[Decidable p]{E b:Prop}(H:p->E)(K:¬p->b):bh (.bool (decide p)) E b:=⟨λD=>H (by simpa using D),λD=>K (by simpa using D)⟩
def tD(b W:Nat):dT C h 2 (.ptr b W)=(aV C h (.ptr b W)).bind λhb=>(aV C h (.ptr b (W+1))).bind λfX=>some (.agg [hb,fX]):=by
 rw[uX]
 simp only[pb,ZX,Nat.reduceAdd,Yj,ZM]
def tE(b W:Nat):dT C h 3 (.ptr b W)=(aV C h (.ptr b W)).bind λhb=>(aV C h (.ptr b (W+1))).bind λfX=>(aV C h (.ptr b (W+2))).bind λhx=>some (.agg [hb,fX,hx]):=by
 rw[uX]
 simp only[pb,ZX,Nat.reduceAdd,Yj,ZM]
def x6(b W:Nat):dT C h 4 (.ptr b W)=(aV C h (.ptr b W)).bind λhb=>(aV C h (.ptr b (W+1))).bind λfX=>(aV C h (.ptr b (W+2))).bind λhx=>(aV C h (.ptr b (W+3))).bind λjK=>some (.agg [hb,fX,hx,jK]):=by
 rw[uX]
 simp only[pb,ZX,Nat.reduceAdd,Yj,ZM]
def Bc(b W:Nat):dT C h 5 (.ptr b W)=(aV C h (.ptr b W)).bind λhb=>(aV C h (.ptr b (W+1))).bind λfX=>(aV C h (.ptr b (W+2))).bind λhx=>(aV C h (.ptr b (W+3))).bind λjK=>(aV C h (.ptr b (W+4))).bind λlq=>some (.agg [hb,fX,hx,jK,lq]):=by
 rw[uX]
 simp only[pb,ZX,Nat.reduceAdd,Yj,ZM]
def Bd(b W:Nat):dT C h 6 (.ptr b W)=(aV C h (.ptr b W)).bind λhb=>(aV C h (.ptr b (W+1))).bind λfX=>(aV C h (.ptr b (W+2))).bind λhx=>(aV C h (.ptr b (W+3))).bind λjK=>(aV C h (.ptr b (W+4))).bind λlq=>(aV C h (.ptr b (W+5))).bind λsR=>some (.agg [hb,fX,hx,jK,lq,sR]):=by
 rw[uX]
 simp only[pb,ZX,Nat.reduceAdd,Yj,ZM]
def Be(b W:Nat):dT C h 7 (.ptr b W)=(aV C h (.ptr b W)).bind λhb=>(aV C h (.ptr b (W+1))).bind λfX=>(aV C h (.ptr b (W+2))).bind λhx=>(aV C h (.ptr b (W+3))).bind λjK=>(aV C h (.ptr b (W+4))).bind λlq=>(aV C h (.ptr b (W+5))).bind λsR=>(aV C h (.ptr b (W+6))).bind λt7=>some (.agg [hb,fX,hx,jK,lq,sR,t7]):=by
 rw[uX]
 simp only[pb,ZX,Nat.reduceAdd,Yj,ZM]
def Bf(b W:Nat):dT C h 8 (.ptr b W)=(aV C h (.ptr b W)).bind λhb=>(aV C h (.ptr b (W+1))).bind λfX=>(aV C h (.ptr b (W+2))).bind λhx=>(aV C h (.ptr b (W+3))).bind λjK=>(aV C h (.ptr b (W+4))).bind λlq=>(aV C h (.ptr b (W+5))).bind λsR=>(aV C h (.ptr b (W+6))).bind λt7=>(aV C h (.ptr b (W+7))).bind λvg=>some (.agg [hb,fX,hx,jK,lq,sR,t7,vg]):=by
 rw[uX]
 simp only[pb,ZX,Nat.reduceAdd,Yj,ZM]
def Bg(b W:Nat):dT C h 9 (.ptr b W)=(aV C h (.ptr b W)).bind λhb=>(aV C h (.ptr b (W+1))).bind λfX=>(aV C h (.ptr b (W+2))).bind λhx=>(aV C h (.ptr b (W+3))).bind λjK=>(aV C h (.ptr b (W+4))).bind λlq=>(aV C h (.ptr b (W+5))).bind λsR=>(aV C h (.ptr b (W+6))).bind λt7=>(aV C h (.ptr b (W+7))).bind λvg=>(aV C h (.ptr b (W+8))).bind λyv=>some (.agg [hb,fX,hx,jK,lq,sR,t7,vg,yv]):=by
 rw[uX]
 simp only[pb,ZX,Nat.reduceAdd,Yj,ZM]
def A9(b W:Nat):dT C h 10 (.ptr b W)=(aV C h (.ptr b W)).bind λhb=>(aV C h (.ptr b (W+1))).bind λfX=>(aV C h (.ptr b (W+2))).bind λhx=>(aV C h (.ptr b (W+3))).bind λjK=>(aV C h (.ptr b (W+4))).bind λlq=>(aV C h (.ptr b (W+5))).bind λsR=>(aV C h (.ptr b (W+6))).bind λt7=>(aV C h (.ptr b (W+7))).bind λvg=>(aV C h (.ptr b (W+8))).bind λyv=>(aV C h (.ptr b (W+9))).bind λt8=>some (.agg [hb,fX,hx,jK,lq,sR,t7,vg,yv,t8]):=by
 rw[uX]
 simp only[pb,ZX,Nat.reduceAdd,Yj,ZM]
def Ba(b W:Nat):dT C h 11 (.ptr b W)=(aV C h (.ptr b W)).bind λhb=>(aV C h (.ptr b (W+1))).bind λfX=>(aV C h (.ptr b (W+2))).bind λhx=>(aV C h (.ptr b (W+3))).bind λjK=>(aV C h (.ptr b (W+4))).bind λlq=>(aV C h (.ptr b (W+5))).bind λsR=>(aV C h (.ptr b (W+6))).bind λt7=>(aV C h (.ptr b (W+7))).bind λvg=>(aV C h (.ptr b (W+8))).bind λyv=>(aV C h (.ptr b (W+9))).bind λt8=>(aV C h (.ptr b (W+10))).bind λN8=>some (.agg [hb,fX,hx,jK,lq,sR,t7,vg,yv,t8,N8]):=by
 rw[uX]
 simp only[pb,ZX,Nat.reduceAdd,Yj,ZM]
def Bb(b W:Nat):dT C h 12 (.ptr b W)=(aV C h (.ptr b W)).bind λhb=>(aV C h (.ptr b (W+1))).bind λfX=>(aV C h (.ptr b (W+2))).bind λhx=>(aV C h (.ptr b (W+3))).bind λjK=>(aV C h (.ptr b (W+4))).bind λlq=>(aV C h (.ptr b (W+5))).bind λsR=>(aV C h (.ptr b (W+6))).bind λt7=>(aV C h (.ptr b (W+7))).bind λvg=>(aV C h (.ptr b (W+8))).bind λyv=>(aV C h (.ptr b (W+9))).bind λt8=>(aV C h (.ptr b (W+10))).bind λN8=>(aV C h (.ptr b (W+11))).bind λawt=>some (.agg [hb,fX,hx,jK,lq,sR,t7,vg,yv,t8,N8,awt]):=by
 rw[uX]
 simp only[pb,ZX,Nat.reduceAdd,Yj,ZM]
def BZ(z0 a0:y):d3 (M.ofList [z0] 0 .nil) 0 [a0]=M.ofList [a0] 0 .nil:=by rfl
def B3(z0 fs a0 a7:y):d3 (M.ofList [z0,fs] 0 .nil) 0 [a0,a7]=M.ofList [a0,a7] 0 .nil:=by rfl
def B4(z0 fs fC a0 a7 b2:y):d3 (M.ofList [z0,fs,fC] 0 .nil) 0 [a0,a7,b2]=M.ofList [a0,a7,b2] 0 .nil:=by rfl
def B5(z0 fs fC z3 a0 a7 b2 a3:y):d3 (M.ofList [z0,fs,fC,z3] 0 .nil) 0 [a0,a7,b2,a3]=M.ofList [a0,a7,b2,a3] 0 .nil:=by rfl
def B6(z0 fs fC z3 z4 a0 a7 b2 a3 a4:y):d3 (M.ofList [z0,fs,fC,z3,z4] 0 .nil) 0 [a0,a7,b2,a3,a4]=M.ofList [a0,a7,b2,a3,a4] 0 .nil:=by rfl
def B7(z0 fs fC z3 z4 z5 a0 a7 b2 a3 a4 a5:y):d3 (M.ofList [z0,fs,fC,z3,z4,z5] 0 .nil) 0 [a0,a7,b2,a3,a4,a5]=M.ofList [a0,a7,b2,a3,a4,a5] 0 .nil:=by rfl
def B8(z0 fs fC z3 z4 z5 rE a0 a7 b2 a3 a4 a5 ic:y):d3 (M.ofList [z0,fs,fC,z3,z4,z5,rE] 0 .nil) 0 [a0,a7,b2,a3,a4,a5,ic]=M.ofList [a0,a7,b2,a3,a4,a5,ic] 0 .nil:=by rfl
def B9(z0 fs fC z3 z4 z5 rE yw a0 a7 b2 a3 a4 a5 ic iw:y):d3 (M.ofList [z0,fs,fC,z3,z4,z5,rE,yw] 0 .nil) 0 [a0,a7,b2,a3,a4,a5,ic,iw]=M.ofList [a0,a7,b2,a3,a4,a5,ic,iw] 0 .nil:=by rfl
def Ca(z0 fs fC z3 z4 z5 rE yw pu a0 a7 b2 a3 a4 a5 ic iw ko:y):d3 (M.ofList [z0,fs,fC,z3,z4,z5,rE,yw,pu] 0 .nil) 0 [a0,a7,b2,a3,a4,a5,ic,iw,ko]=M.ofList [a0,a7,b2,a3,a4,a5,ic,iw,ko] 0 .nil:=by rfl
def B0(z0 fs fC z3 z4 z5 rE yw pu z9 a0 a7 b2 a3 a4 a5 ic iw ko a9:y):d3 (M.ofList [z0,fs,fC,z3,z4,z5,rE,yw,pu,z9] 0 .nil) 0 [a0,a7,b2,a3,a4,a5,ic,iw,ko,a9]=M.ofList [a0,a7,b2,a3,a4,a5,ic,iw,ko,a9] 0 .nil:=by rfl
def B1(z0 fs fC z3 z4 z5 rE yw pu z9 TU a0 a7 b2 a3 a4 a5 ic iw ko a9 Hc:y):d3 (M.ofList [z0,fs,fC,z3,z4,z5,rE,yw,pu,z9,TU] 0 .nil) 0 [a0,a7,b2,a3,a4,a5,ic,iw,ko,a9,Hc]=M.ofList [a0,a7,b2,a3,a4,a5,ic,iw,ko,a9,Hc] 0 .nil:=by rfl
def B2(z0 fs fC z3 z4 z5 rE yw pu z9 TU awB a0 a7 b2 a3 a4 a5 ic iw ko a9 Hc VT:y):d3 (M.ofList [z0,fs,fC,z3,z4,z5,rE,yw,pu,z9,TU,awB] 0 .nil) 0 [a0,a7,b2,a3,a4,a5,ic,iw,ko,a9,Hc,VT]=M.ofList [a0,a7,b2,a3,a4,a5,ic,iw,ko,a9,Hc,VT] 0 .nil:=by rfl
def wK(c:M y)(W:Nat)(v:y):(d3 c W [v]).get W=some v:=by rw[pt];simp
def BY{c:M y}{W i:Nat}{v:y}(a:i≠W):(d3 c W [v]).get i=c.get i:=by rw[pt,Zg Zx]
def jJ{b W q n:Nat}{c:M y}{v:y}(a:Z C h b=some (.cells c n .own))(al:C.aY<=b)(aG:v.cells.length=q)(bi:0<q)(bd:W+q<=n)(H:iI v.cells=true):
 es C h q (.ptr b W) v=some (bl C h b (some (.cells (d3 c W v.cells) n .own))):=by
 subst aG
 have cp:Nat.blt 0 v.cells.length=true:=by simp[Nat.blt];omega
 have fj:Nat.beq v.cells.length v.cells.length=true:=by simp
 have bB:Nat.ble (W+v.cells.length) n=true:=by simpa using bd
 have jn:Nat.ble C.aY b=true:=by simpa using al
 simp only[es,rZ,a,j5,jn,bB,cp,fj,H,YA,eW,g5]
def sy(q:IntKind)(n:Nat):ng (.int q (n:Int))=some n:=rfl
def asp(q:IntKind):ng (.int q 0)=some 0:=rfl
def AW(q:IntKind)(x e:Int):bg .lss (.int q x) (.int q e)=some (.bool (decide (x<e))):=by
 cases q<;>simp[bg,lA,l1,lu,vt,tz]<;>(rw[Z7];simp)
def AU(q:IntKind)(x e:Int):bg .gtr (.int q x) (.int q e)=some (.bool (decide (e<x))):=by
 cases q<;>simp[bg,lA,l1,lu,vt,tz]<;>(rw[Z7];simp)
def AV(q:IntKind)(x e:Int):bg .leq (.int q x) (.int q e)=some (.bool (decide (x<=e))):=by
 cases q<;>simp[bg,lA,l1,lu,vt,tz]<;>(rw[Z7];simp)
def AT(q:IntKind)(x e:Int):bg .geq (.int q x) (.int q e)=some (.bool (decide (e<=x))):=by
 cases q<;>simp[bg,lA,l1,lu,vt,tz]<;>(rw[Z7];simp)
def AS(q:IntKind)(x e:Int):bg .eql (.int q x) (.int q e)=some (.bool (decide (x=e))):=by
 cases q<;>simp[bg,lA,l1,lu,vt,FX]
def AX(q:IntKind)(x e:Int):bg .neq (.int q x) (.int q e)=some (.bool (decide (x≠e))):=by
 cases q<;>simp[bg,lA,l1,lu,vt,FX]
def wrap64{n:Int}(H: -9223372036854775808<=n)(K:n<9223372036854775808):ps .i64 n=n:=by
 simp only[ps,eQ,Zi]
 split<;>omega
def eK{x e:Int}(H: -9223372036854775808<=x+e)(K:x+e<9223372036854775808):bg .add (.int .i64 x) (.int .i64 e)=some (.int .i64 (x+e)):=by
 simp[bg,lA,l1,lu,lj,wrap64 H K]
def xY{x e:Int}(H: -9223372036854775808<=x-e)(K:x-e<9223372036854775808):bg .sub (.int .i64 x) (.int .i64 e)=some (.int .i64 (x-e)):=by
 simp[bg,lA,l1,lu,lj,wrap64 H K]
def abC(x e:Int):bg .add (.int .u64 x) (.int .u64 e)=some (.int .u64 ((x+e)%18446744073709551616)):=by
 simp[bg,lA,l1,lu,lj,ps]
def A0{aN b W len cap i:Nat}(q:IntKind)(a:i<len):iV aN (.slice b W len cap) (.int q (i:Int))=some (.ptr b (W+i*aN)):=by
 simp[iV,sy,Cc,eQ,Nat.blt,a];omega
def DD{aN b W len cap i:Nat}(q:IntKind)(a:i<len):iV aN (.ej b W len cap) (.int q (i:Int))=some (.ptr b (W+i*aN)):=by
 simp[iV,sy,Cc,eQ,Nat.blt,a];omega
def Ce(d b W:Nat):hJ d (.ptr b W)=some (.ptr b (W+d)):=rfl
def Cb(i:Nat)(k:List y):rD i (.tuple k)=k[i]? :=by simp[rD]
def Cd(b W:Nat):sS (.ptr b W)=some (.ptr b W):=rfl
def Bq(b:Bool):he .not (.bool b)=some (.bool (!b)):=by simp[he,vt]
def qQ(c:M y)(k:List y):Prop:=∀i,c.get i=k[i]?
def lk(k:List y):qQ (M.ofList k 0 .nil) k:=λi=>lE k i
def qQ.app{c:M y}{k:List y}(a:qQ c k)(m:List y):qQ (d3 c k.length m) (k++m):=by
 intro i
 rw[pt]
 by_cases H:k.length<=i/\i<k.length+m.length
 ·rw[Zu H,ZF H.1]
 ·rw[Zg H,a i]
  by_cases K:i<k.length
  ·rw[ZI K]
  ·rw[ZW Zo,ZW Zx]
end
end
noncomputable section
section
variable{C:aT}{h:M ak}{j:Nat}
def jP{E b:Nat}(a:E<=b):Nat.ble E b=true:=by simpa using a
def Ws{E b:Nat}(a:E<b):Nat.blt E b=true:=by simp[Nat.blt];omega
def aqR:∀(k:List Nat) (h:M ak) (e:Nat),(∀x∈k,C.aY<=x)->e∉k->Z C (mM C k h) e=Z C h e:=by
 intro k
 induction k with
 |nil=>intro h e _ _;rfl
 |cons E k aj=>
  intro h e aB B
  simp only[Zr,Y4]at B
  simp only[mM]
  rw[aj _ _ (λx af=>aB x (Zn _ af)) B.2,aL (aB E (Zt ..)) B.1]
def ib(C:aT)(h:M ak)(s:y)(aN:Nat)(k:List y)(cy:List Nat):Prop:=
 (s= .aW/\k=[]/\cy=[])\/∃b ez n c,s= .ej b 0 n aN/\k.length=n*aN/\cy=b::ez/\(∀x∈cy,C.aY<=x)/\b∉ez/\Z C h b=some (.cells c (n*aN) (.grow ez))/\qQ c k
def ib.ad{R:M ak}{s:y}{aN:Nat}{k:List y}{cy:List Nat}(a:ib C h s aN k cy)(aG:∀e∈cy,Z C R e=Z C h e):ib C R s aN k cy:=by
 rcases a with a|⟨b,ez,n,c,H,K,am,aC,bm,b1,df⟩
 ·exact .inl a
 ·exact .inr ⟨b,ez,n,c,H,K,am,aC,bm,by rw[aG b (by rw[am];exact Zt ..)];exact b1,df⟩
def pp{aN q b n:Nat}{k:List y}{c:M y}{st:oE}(a:Z C h b=some (.cells c n st))(aA:qQ c k)(aB:k.length=q*aN)(cap:Nat):hI C h aN (.slice b 0 q cap)=some (q,k):=by
 have bw:∀(m W:Nat),W+m<=k.length->c.ks W m=some ((k.drop W).take m):=by
  intro m
  induction m with
  |zero=>intro W _;simp[M.ks]
  |succ m aj=>
   intro W bd
   have H:c.get W=some k[W]:=by rw[aA W,Zf Zo]
   simp only[M.ks,H,aj (W+1) Zo]
   rw[ZA (by omega:W<k.length),Yd]
 simp only[hI,ix,cellsOf,a]
 rw[bw (q*aN) 0 Zo]
 simp[<-aB]
def gK{b:fK->fK}{I:dc}{h:M ak}{j:Nat}(rO:Nat->fK)(m:Nat)(bi:rO m I h j)(a:∀m I h j,rO m I h j->b (λI h j=>∃fI,fI<m/\rO fI I h j) I h j):gA b I h j:=⟨⟨rO,⟨m,bi⟩,a⟩⟩
def xr{c:M y}{k:List y}(aA:qQ c k):∀(m W:Nat),W+m<=k.length->c.ks W m=some ((k.drop W).take m):=by
 intro m
 induction m with
 |zero=>intro W _;simp[M.ks]
 |succ m aj=>
  intro W bd
  have H:c.get W=some k[W]:=by rw[aA W,Zf Zo]
  simp only[M.ks,H,aj (W+1) Zo]
  rw[ZA (by omega:W<k.length),Yd]
def ib.src{aN:Nat}{s:y}{k:List y}{cy:List Nat}(a:ib C h s aN k cy):∃n,k.length=n*aN/\hI C h aN s=some (n,k):=by
 rcases a with ⟨rfl,rfl,rfl⟩|⟨b,ez,n,c,rfl,K,rfl,aC,bm,b1,df⟩
 ·exact⟨0,Zs,rfl⟩
 ·refine⟨n,K, ?_⟩
  simp only[hI,ix,cellsOf,b1]
  rw[xr df _ _ Zo]
  simp[<-K]
def mf{aN:Nat}:∀{aK:List (List y)},(∀r∈aK,r.length=aN)->aK.flatten.length=aK.length*aN:=by
 intro aK
 induction aK with
 |nil=>intro _;simp
 |cons E k aj=>
  intro a
  rw[ZL,ZG,a E (Zt ..),aj (λr V=>a r (Zn _ V)),Zz,ZV]
  omega
abbrev zI(l:List y)(n:Nat):Option ak:=some (.cells (M.ofList l 0 .nil) n .own)
def zJ(i:Nat)(h:i<1000000000:=by omega):bg .add (.Z (i:Int)) (.Z 1)=some (.Z ((i+1:Nat):Int)):=by rw[eK (by omega) (by omega)];rfl
def zK{p:Prop}(h:p:=by simp(disch:=omega) only[aL]):p:=h
def zP{z7:aT}{z8 z9:M ak}{b o:Nat}{v:Option y}(h:Z z7 z9 b=Z z7 z8 b)(k:aV z7 z8 (.ptr b o)=v):aV z7 z9 (.ptr b o)=v:=by rw[cT,h,<-cT];exact k
abbrev zM(T_:dc)(a_:Nat)(x_:y)(b_:Nat)(y_:y):dc:=ae (ae T_ a_ x_) b_ y_
abbrev zN(T_:dc)(a_:Nat)(x_:y)(b_:Nat)(y_:y)(c_:Nat)(z_:y):dc:=ae (zM T_ a_ x_ b_ y_) c_ z_
abbrev zO(T_:dc)(a_:Nat)(x_:y)(b_:Nat)(y_:y)(c_:Nat)(w_:y)(d_:Nat)(u_:y):dc:=zM (zM T_ a_ x_ b_ y_) c_ w_ d_ u_
end
end
end Go.bs

namespace Go.aQ
abbrev ba:=List Nat
structure iO where
 b:Bool
 s:Bool
 w:Int
 deriving DecidableEq
structure Tok where
 kind:Int
 text:ba
 at_:Int
 n:Int
 ty:iO
inductive bL where
 |mk (kind at_:Int) (name:ba) (no:Bool) (ty:iO) (n:Int) (args:List bL)
structure d4 where
 name:ba
 at_:Int
 ty:iO
 on:ba
 fT:Int
 no:Bool
structure ee where
 left:List ba
 cX:List Int
 at_:Int
 right:bL
structure Node where
 name:ba
 at_:Int
 dg:List d4
 out:List d4
 loc:List d4
 eqs:List ee
def dr:iO:=⟨false,false,0⟩
def bL.kind:bL->Int| .mk q _ _ _ _ _ _=>q
def bL.args:bL->List bL| .mk _ _ _ _ _ _ k=>k
abbrev fY(α:Type):=Option (Except Int (α×List Tok))
def ok{α:Type}(E:α)(k:List Tok):fY α:=some (.ok (E,k))
def bad{α:Type}(at_:Int):fY α:=some (.error at_)
def andThen{α eH:Type}(x:fY α)(f:α->List Tok->fY eH):fY eH:=match x with
 |none=>none
 |some (.error E)=>some (.error E)
 |some (.ok (E,k))=>f E k
def gX(x:Tok)(s:ba):Bool:=(x.kind=2||x.kind=6)&&x.text=s
def l6(s:ba):List Tok->Option (Option Tok×List Tok)
 |[]=>none
 |x::k=>if gX x s then some (some x,k)else some (none,x::k)
def h8{eH:Type}(s:ba)(k:List Tok)(f:Option Tok->List Tok->fY eH):fY eH:=match l6 s k with
 |none=>none
 |some (x,k)=>f x k
def eo(s:ba):List Tok->fY Tok
 |[]=>none
 |x::k=>if gX x s then ok x k else bad x.at_
def iH(q:Int):List Tok->fY Tok
 |[]=>none
 |x::k=>if x.kind=q then ok x k else bad x.at_
def ar:Nat->List (ba×Int)
 |0=>[([111,114],7),([120,111,114],8)]
 |1=>[([97,110,100],9)]
 |2=>[([61],10),([60,62],11),([60,61],13),([62,61],15),([60],12),([62],14)]
 |3=>[([43],16),([45],17)]
 |4=>[([42],18)]
 |_=>[]
def oJ:List (ba×Int)->List Tok->Option (Option bL×List Tok)
 |[],k=>some (none,k)
 |(s,q)::os,k=>match l6 s k with
  |none=>none
  |some (some x,k)=>some (some (.mk q x.at_ [] false dr 0 []),k)
  |some (none,k)=>oJ os k
def bL.at_:bL->Int| .mk _ E _ _ _ _ _=>E
def tH(D:bL):Option Bool:=if D.kind=1 then some true else if D.kind=4 then(match D.args with|[]=>none|E::_=>some (decide (E.kind=1)))else some false
def bL.name:bL->ba| .mk _ _ s _ _ _ _=>s
def bL.no:bL->Bool| .mk _ _ _ b _ _ _=>b
def bL.ty:bL->iO| .mk _ _ _ _ t _ _=>t
def bL.n:bL->Int| .mk _ _ _ _ _ n _=>n
def two(D:bL)(E b:bL):bL:= .mk D.kind D.at_ [] false dr 0 [E,b]
def yi:List (ba×Int):=[([110,111,116],3),([45],4),([112,114,101],5)]
mutual
def level:Nat->Nat->List Tok->fY bL
 |0,_,_=>none
 |n+1,q,k=>if q=5 then shift n k else andThen (level n (q+1) k) λleft k=>pc n q left k
def pc:Nat->Nat->bL->List Tok->fY bL
 |0,_,_,_=>none
 |n+1,q,left,k=>match oJ (ar q) k with
  |none=>none
  |some (none,k)=>ok left k
  |some (some D,k)=>andThen (level n (q+1) k) λr k=>if q=2 then ok (two D left r) k else pc n q (two D left r) k
def shift:Nat->List Tok->fY bL
 |0,_=>none
 |n+1,k=>andThen (wu n k) λleft k=>pm n left k
def pm:Nat->bL->List Tok->fY bL
 |0,_,_=>none
 |n+1,left,k=>h8 [60,60] k λx k=>match x with
  |some x=>pn n 19 x left k
  |none=>h8 [62,62] k λx k=>match x with
   |some x=>pn n 20 x left k
   |none=>ok left k
def pn:Nat->Int->Tok->bL->List Tok->fY bL
 |0,_,_,_,_=>none
 |n+1,q,x,left,k=>andThen (iH 4 k) λm k=>if 63<m.n then bad m.at_ else pm n (.mk q x.at_ [] false dr m.n [left]) k
def wu:Nat->List Tok->fY bL
 |0,_=>none
 |n+1,k=>match oJ yi k with
  |none=>none
  |some (some D,k)=>andThen (wu n k) λE k=>ok (.mk D.kind D.at_ [] false dr 0 [E]) k
  |some (none,k)=>andThen (part n k) λleft k=>nr n left k
def nr:Nat->bL->List Tok->fY bL
 |0,_,_=>none
 |n+1,left,k=>h8 [119,104,101,110] k λx k=>match x with
  |none=>ok left k
  |some x=>h8 [110,111,116] k λno k=>andThen (iH 1 k) λc k=>nr n (.mk 6 x.at_ c.text no.isSome dr 0 [left]) k
def part:Nat->List Tok->fY bL
 |0,_=>none
 |_+1,[]=>none
 |n+1,x::k=>
  if x.kind=5 then ok (.mk 1 x.at_ [] false x.ty x.n []) k
  else if x.kind=2&&(x.text=[116,114,117,101]||x.text=[102,97,108,115,101])then ok (.mk 1 x.at_ [] false ⟨true,false,1⟩ (if x.text=[116,114,117,101]then 1 else 0) []) k
  else if x.kind=1 then h8 [40] k λe k=>match e with
   |none=>ok (.mk 2 x.at_ x.text false dr 0 []) k
   |some _=>andThen (list n k) λca k=>ok (.mk 25 x.at_ x.text false dr 0 ca) k
  else if x.kind=3 then andThen (eo [40] k) λ_ k=>andThen (arrow n k) λD k=>andThen (eo [41] k) λ_ k=>ok (.mk 26 x.at_ [] false x.ty 0 [D]) k
  else if x.kind=6&&x.text=[40]then andThen (arrow n k) λD k=>andThen (eo [41] k) λ_ k=>ok D k
  else if x.kind=2&&x.text=[105,102]then andThen (arrow n k) λc k=>andThen (eo [116,104,101,110] k) λ_ k=>andThen (arrow n k) λE k=>andThen (eo [101,108,115,101] k) λ_ k=>andThen (arrow n k) λb k=>ok (.mk 23 x.at_ [] false dr 0 [c,E,b]) k
  else if x.kind=2&&x.text=[109,101,114,103,101]then andThen (iH 1 k) λc k=>andThen (part n k) λE k=>andThen (part n k) λb k=>ok (.mk 24 x.at_ c.text false dr 0 [E,b]) k
  else bad x.at_
def list:Nat->List Tok->fY (List bL)
 |0,_=>none
 |n+1,k=>h8 [41] k λe k=>match e with
  |some _=>ok [] k
  |none=>andThen (arrow n k) λD k=>pe n [D] k
def pe:Nat->List bL->List Tok->fY (List bL)
 |0,_,_=>none
 |n+1,ca,k=>h8 [44] k λe k=>match e with
  |none=>andThen (eo [41] k) λ_ k=>ok ca k
  |some _=>andThen (arrow n k) λD k=>pe n (ca++[D]) k
def lS:Nat->List Tok->fY bL
 |0,_=>none
 |n+1,k=>andThen (level n 0 k) λleft k=>h8 [102,98,121] k λx k=>match x with
  |none=>ok left k
  |some x=>match tH left with
   |none=>none
   |some true=>andThen (lS n k) λr k=>ok (.mk 21 x.at_ [] false dr 0 [left,r]) k
   |some false=>bad x.at_
def arrow:Nat->List Tok->fY bL
 |0,_=>none
 |n+1,k=>andThen (lS n k) λleft k=>h8 [45,62] k λx k=>match x with
  |none=>ok left k
  |some x=>andThen (arrow n k) λr k=>ok (.mk 22 x.at_ [] false dr 0 [left,r]) k
end
def rm:Nat->List Tok->List Tok->fY (List Tok)
 |0,_,_=>none
 |n+1,ca,k=>andThen (iH 1 k) λx k=>h8 [44] k λe k=>match e with
  |none=>ok (ca++[x]) k
  |some _=>rm n (ca++[x]) k
def pE(ty:iO)(on:ba)(fT:Int)(no:Bool)(x:Tok):d4:=⟨x.text,x.at_,ty,on,fT,no⟩
def ys:Nat->List Tok->Option ba
 |_,[]=>none
 |0,x::_=>some x.text
 |i+1,_::k=>ys i k
def xg(loc:Bool)(q:List d4->List Tok->fY (List d4))(ds:List d4)(k:List Tok):fY (List d4):=match ys 0 k with
 |none=>none
 |some s=>if s=[59]then(if loc then(match ys 1 k with
   |none=>none
   |some s=>if s=[108,101,116]then ok ds k else q ds (k.drop 1))else q ds (k.drop 1))
  else ok ds k
def y8(w:Option Tok)(k:List Tok):fY (ba×Int×Bool):=match w with
 |none=>ok ([],0,false) k
 |some _=>h8 [110,111,116] k λno k=>andThen (iH 1 k) λon k=>ok (on.text,on.at_,no.isSome) k
def CD(loc:Bool)(q:List d4->List Tok->fY (List d4))(ds:List d4)(xs:List Tok)(k:List Tok):fY (List d4):=
 andThen (eo [58] k) λ_ k=>andThen (iH 3 k) λt k=>h8 [119,104,101,110] k λw k=>
 andThen (y8 w k) λr k=>xg loc q (ds++xs.map (pE t.ty r.1 r.2.1 r.2.2)) k
def ja:Nat->Bool->List d4->List Tok->fY (List d4)
 |0,_,_,_=>none
 |n+1,loc,ds,k=>andThen (rm n [] k) λxs k=>CD loc (ja n loc) ds xs k
def uo(n:Nat)(k:List Tok):fY ee:=h8 [40] k λe k=>
 andThen (match e with
  |some _=>andThen (iH 1 k) λx k=>andThen (eo [44] k) λ_ k=>andThen (rm n [x] k) λxs k=>andThen (eo [41] k) λ_ k=>ok xs k
  |none=>andThen (iH 1 k) λx k=>ok [x] k) λxs k=>
 andThen (eo [61] k) λD k=>andThen (arrow n k) λr k=>andThen (eo [59] k) λ_ k=>ok ⟨xs.map Tok.text,xs.map Tok.at_,D.at_,r⟩ k
def lR:Nat->List ee->List Tok->fY (List ee)
 |0,_,_=>none
 |n+1,b8,k=>h8 [116,101,108] k λe k=>match e with
  |some _=>ok b8 k
  |none=>andThen (uo n k) λai k=>lR n (b8++[ai]) k
def node(n:Nat)(k:List Tok):fY Node:=
 andThen (eo [110,111,100,101] k) λ_ k=>andThen (iH 1 k) λx k=>andThen (eo [40] k) λ_ k=>h8 [41] k λe k=>
 andThen (match e with
  |some _=>ok [] k
  |none=>andThen (ja n false [] k) λds k=>andThen (eo [41] k) λ_ k=>ok ds k) λdg k=>
 andThen (eo [114,101,116,117,114,110,115] k) λ_ k=>andThen (eo [40] k) λ_ k=>andThen (ja n false [] k) λout k=>andThen (eo [41] k) λ_ k=>
 h8 [118,97,114] k λe k=>andThen (match e with
  |some _=>andThen (ja n true [] k) λds k=>andThen (eo [59] k) λ_ k=>ok ds k
  |none=>ok [] k) λloc k=>
 andThen (eo [108,101,116] k) λ_ k=>andThen (lR n [] k) λb8 k=>ok ⟨x.text,x.at_,dg,out,loc,b8⟩ k
def nodes:Nat->List Node->List Tok->fY (List Node)
 |0,_,_=>none
 |n+1,an,k=>andThen (node n k) λg k=>match k with
  |[]=>none
  |x::_=>if x.kind=7 then ok (an++[g]) k else nodes n (an++[g]) k
end Go.aQ

