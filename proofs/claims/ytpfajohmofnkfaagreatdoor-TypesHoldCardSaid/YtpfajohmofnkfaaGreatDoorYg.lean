/- A part of the last text's proof; no condition of its own -/
import Derived.Test.YtpfajohmofnkfaaGreatDoorYf
set_option maxHeartbeats 8000000
set_option linter.all false
namespace Go.bk
noncomputable section
section
variable{C:a2}{h:V an}{j:Nat}
def bi{b:Nat}{Y:Option an}(a:C.ba<=b):ab C (bo C h b Y) b=Y:=by rw[fZ _ a,Zr rfl]
def aG{b x:Nat}{Y:Option an}(a:C.ba<=b)(ah:x≠b):ab C (bo C h b Y) x=ab C h x:=by rw[fZ _ a,Zh ah]
def cg(b Y:Nat):al C h (.ptr b Y)=match ab C h b with|some (.cells c _ _)=>c.get Y|_=>none:=by
 simp only[al,cellsOf]
 cases ab C h b with
 |none=>rfl
 |some cO=>cases cO<;>rfl
def kI(n b Y:Nat):bM C h n (.ptr b Y)=match ab C h b with|some (.cells c _ _)=>(c.kE Y n).map J.agg|_=>none:=by
 simp only[bM,cellsOf]
 cases ab C h b with
 |none=>rfl
 |some cO=>
  cases cO with
  |cells c m st=>simp only[];cases c.kE Y n<;>rfl
  |_=>rfl
def π(c:V J)(Y:Nat):c.kE Y 0=some []:=rfl
def kA:∀(l:List J) (c:V J) (Y i:Nat),(d3 c Y l).get i=if Y<=i/\i<Y+l.length then l[i-Y]? else c.get i:=by
 intro l
 induction l with
 |nil=>intro c Y i;simp[d3];intro T W;omega
 |cons K l am=>
  intro c Y i
  simp only[d3,hw]
  rw[am,V.kc]
  by_cases T:i=Y
  ·subst T
   simp
   intro a;omega
  ·by_cases W:Y+1<=i/\i<Y+1+l.length
   ·rw[Zr W,Zr (by simp;omega)]
    rw[show i-Y=(i-(Y+1))+1 by omega]
    simp
   ·rw[Zh W,Zh (λI=>T I.symm),Zh (by simp;omega)]
def tZ{b Y n:Nat}{c:V J}{st:nW}(a:C.ba<=b):al C (bo C h b (some (.cells c n st))) (.ptr b Y)=c.get Y:=by
 rw[cg,bi a]
def vy{b x Y:Nat}{cO:Option an}(a:C.ba<=b)(ah:x≠b):al C (bo C h b cO) (.ptr x Y)=al C h (.ptr x Y):=by
 rw[cg,cg,aG a ah]
def pf(C:a2)(h:V an)(b:Nat):Nat->Nat->Option (List J)
 |_,0=>some []
 |Y,n+1=>(al C h (.ptr b Y)).bind λK=>(pf C h b (Y+1) n).bind λl=>some (K::l)
def vz{b Y n:Nat}:bM C h (n+1) (.ptr b Y)=(pf C h b Y (n+1)).bind λl=>some (.agg l):=by
 have a:∀(c:V J) (m:Nat) (st:nW),ab C h b=some (.cells c m st)->∀n Y,pf C h b Y n=c.kE Y n:=by
  intro c m st ai n
  induction n with
  |zero=>intro Y;rfl
  |succ n am=>
   intro Y
   simp only[pf,V.kE,cg,ai,am]
   cases c.get Y with
   |none=>rfl
   |some K=>cases c.kE (Y+1) n<;>rfl
 rw[kI]
 cases ai:ab C h b with
 |none=>simp[pf,cg,ai]
 |some cO=>
  cases cO with
  |cells c m st=>
   simp only[a c m st ai]
   cases c.kE Y (n+1)<;>rfl
  |_=>simp[pf,cg,ai]
structure bh(C:a2)(h:V an)(j:Nat)(U:V an)(ar:Nat):Prop where
 le:j<=ar
 ad:∀b,b<j->ab C U b=ab C h b
def bh.refl(h:V an)(j:Nat):bh C h j h j:=⟨Zl _,λ_ _=>rfl⟩
def bh.trans{a6 aR a7:V an}{aJ bc bd:Nat}(a:bh C a6 aJ aR bc)(F:bh C aR bc a7 bd):bh C a6 aJ a7 bd:=
 ⟨Zz a.le F.le,λb ai=>(F.ad b (ZL ai a.le)).trans (a.ad b ai)⟩
def bh.f0{U:V an}{ar:Nat}(a:bh C h j U ar)(b Y:Nat)(ai:b<j):al C U (.ptr b Y)=al C h (.ptr b Y):=by
 rw[cg,cg,a.ad b ai]
def bh.fresh(a:C.ba<=j)(cO:Option an):bh C h j (bo C h j cO) (j+1):=
 ⟨Yb _,λb ai=>aG a Zo⟩
def bh.more{U:V an}{ar n:Nat}(F:bh C h j U ar)(a:ar<=n):bh C h j U n:=⟨Zz F.le a,F.ad⟩
def bh.j3{U:V an}{ar dk:Nat}(F:bh C h j U ar)(a:dk<=j):bh C h dk U ar:=⟨Zz a F.le,λb ai=>F.ad b (ZL ai a)⟩
def rK{b Y n:Nat}{c:V J}{v:J}(a:ab C h b=some (.cells c n .own))(ai:C.ba<=b)(bl:Y+1<=n)(bD:v.cells=[v])(T:p7 v=true):
 b8 C h 1 (.ptr b Y) v=some (bo C h b (some (.cells (c.set Y (some v)) n .own))):=by
 have bH:Nat.ble (Y+1) n=true:=by simpa using bl
 have cP:Nat.ble C.ba b=true:=by simpa using ai
 simp[b8,bD,wJ,a,kD,jI,T,bH,cP,d3,fG,Nat.blt]
def CQ:List J->List (Nat×Nat×J)->Option (List J)
 |cells,[]=>some cells
 |cells,(off,size,v)::rest=>bV (Nat.beq v.cells.length size&&Nat.ble (off+size) cells.length) (CQ (lD cells off v.cells) rest) none
def eC(rR:List J)(du:List (Nat×Nat×J)):Option J:=match CQ rR du with|some cs=>some (.agg cs)|none=>none
def dA(rR:List J)(b:Nat):Option (J×an):=some (.ptr b 0, .cells (V.ofList rR 0 .nil) rR.length .own)
def fw(len:Nat)(rR:List J)(du:List (Nat×Nat×J))(b:Nat):Option (J×an):=match CQ rR du with
 |some cs=>some (.slice b 0 len len, .cells (V.ofList cs 0 .nil) cs.length .own)
 |none=>none
def ny(agg:Bool)(off size:Nat)(v:J):Option J:=match v with| .agg cs=>bV agg (some (.agg ((cs.drop off).take size))) (rG cs off)|_=>none
def dI(v:J):Option J:=match v with| .slice _ _ n _=>p3 .i64 (Int.ofNat n)| .fm _ _ n _=>p3 .i64 (Int.ofNat n)| .aU=>some (.int .i64 0)|_=>none
def l1(v:J):Option J:=match v with| .str s=>p3 .i64 (Int.ofNat s.length)|_=>none
def mD(F:IntKind)(v:J):Option J:=match (match v with| .int _ n=>k9 F n|_=>none)with|some v=>some v|none=>none
def alE(v:J):Option J:=match (match v with| .str s=>some (J.str s)|_=>none)with|some v=>some v|none=>none
def AR(C:a2)(h:V an)(v:J):Option J:=match (match v with| .str s=>some (J.str s)|_=>none)with|some v=>some v|none=>EO C h v
def ET(t:Nat)(bu:J)(ok:Bool)(v:J):Option J:=match v with
 | .nilIface=>bV ok (some (.tuple [bu, .bool false])) none
 | .iface hr w=>bV (Nat.beq hr t) (some (bV ok (.tuple [w, .bool true]) w)) (bV ok (some (.tuple [bu, .bool false])) none)
 |_=>none
def kJ(C:a2)(h:V an)(jH:Nat)(bu m F:J)(ok:Bool):Option J:=
 match (match m with
  | .l2=>bV (m1 C 20 jH F) (some none) none
  | .map r=>(match ab C h r with|some (.map b7 _)=>bV (m1 C 20 jH F) (findKey C h jH F b7 0) none|some (.look b7)=>bV (m1 C 20 jH F) (GF (pk C h jH F b7)) none|_=>none)
  |_=>none)with
  |none=>none
  |some none=>some (bV ok (.tuple [bu, .bool false]) bu)
  |some (some (_,v))=>some (bV ok (.tuple [v, .bool true]) v)
def is(C:a2)(h:V an)(j br:Nat)(s x:J):Option eg:=match lh C h br x with
 |some (n,l)=>bV (Nat.beq n 0) (ER C h br s) (yd C h j br n l s)
 |none=>none
def vL(C:a2)(h:V an)(j jH:Nat)(m F v:J):Option eg:=match m with
 | .map r=>(match ab C h r with
   |some (.map b7 fh)=>bV (m1 C 20 jH F) (match findKey C h jH F b7 0 with
    |some (some (i,_))=>(match rG b7 i with
     |some (fa,_,born)=>bV (nJ 20 fa F) (setObj C h j r (.map (b7.set i (F,v,born)) fh) undef) none
     |none=>none)
    |some none=>setObj C h j r (.map (b7++[(F,v,fh)]) (fh+1)) undef
    |none=>none) none
   |_=>none)
 |_=>none
def qI(agg:Bool)(n br:Nat)(v i:J):Option J:=match nc i with
 |none=>none
 |some i=>match v with
  | .agg cs=>bV (Nat.blt i n) (bV agg (some (.agg ((cs.drop (i*br)).take br))) (rG cs (i*br))) none
  |_=>none
def ly(v i:J):Option J:=match nc i with
 |none=>none
 |some i=>match v with
  | .str s=>(match rG s i with|some c=>some (.int .u8 (Int.ofNat c))|none=>none)
  |_=>none
def kn(v:J)(bU aN:Option J):Option J:=match v with
 | .str s=>(match mb s.length s.length bU aN none with
    |some (l,a,_)=>some (.str ((s.drop l).take (a-l)))
    |none=>none)
 |_=>none
def s1(C:a2)(h:V an)(br:Nat)(x:J)(bU aN he:Option J):Option J:=match x with
 | .slice b Y len cap=>(match mb len cap bU aN he with
   |some (l,a,m)=>some (.slice b (bV (Nat.beq m l) Y (Y+l*br)) (a-l) (m-l))
   |_=>none)
 | .aU=>(match mb 0 0 bU aN he with
   |some _=>some .aU
   |_=>none)
 | .fm b Y len Em=>(match xP C h b with
   |some n=>bV (Nat.beq Em br&&Nat.blt 0 Em) (match mb len ((n-Y)/Em) bU aN he with
     |some (l,a,m)=>(match he with
      |some _=>some (.slice b (bV (Nat.beq m l) Y (Y+l*Em)) (a-l) (m-l))
      |none=>bV (Nat.blt l ((n-Y)/Em)||Nat.beq l 0) (some (.fm b (Y+l*Em) (a-l) Em)) none)
     |none=>none) none
   |_=>none)
 |_=>none
def TC(n br:Nat)(x:J)(bU aN he:Option J):Option J:=match x with
 | .ptr b Y=>(match mb n n bU aN he with
   |some (l,a,m)=>some (.slice b (bV (Nat.beq m l) Y (Y+l*br)) (a-l) (m-l))
   |_=>none)
 |_=>none
def Tp(C:a2)(h:V an)(j:Nat)(v:J):Option eg:=match v with
 | .str s=>nd C h j (.ox s 0) λb=> .ptr b 0
 |_=>none
def N7(C:a2)(h:V an)(j:Nat)(v:J):Option eg:=match v with
 | .str l=>tz C h j l.length 1 (l.map λn=>J.int .u8 (Int.ofNat n))
 |_=>none
def lB{α:Type}{K:α}{ak:α->Prop}(a:ak K):E (some K) ak:=⟨a⟩
def lA{α:Type}{K:α}{ak:α->Prop}(a:ak K):aj (some K) ak:=a
def ti{K:J}{ak:bJ}(a:ak (.ptr j 0) (bo C h j (some (.cells (V.ofList K.cells 0 .nil) K.cells.length .own))) (j+1)):iG C h j K ak:=⟨a⟩
def GM{v:J}{cO:an}{ak:bJ}(a:ak v (bo C h j (some cO)) (j+1)):cH C h j v cO ak:=⟨a⟩
def GN{v:J}{cO:an}{ak:bJ}(a:ak v (bo C h j (some cO)) (j+1)):cH C h j (Prod.mk v cO).1 (Prod.mk v cO).2 ak:=⟨a⟩
def GK{b:Nat}{v:J}{cO:an}{ak:J->V an->Prop}(a:ak v (bo C h b (some cO))):ld C h b (Prod.mk v cO).1 (Prod.mk v cO).2 ak:=⟨a⟩
def E2{b:Nat}{K:J}{ak:J->V an->Prop}(a:ak (.ptr b 0) (bo C h b (some (.cells (V.ofList K.cells 0 .nil) K.cells.length .own)))):yg C h b K ak:=⟨a⟩
def GJ{b:Nat}{v:J}{cO:an}{ak:J->V an->Prop}(a:ak v (bo C h b (some cO))):ld C h b v cO ak:=⟨a⟩
def gX{d7:gB}{body:gB->Prop}(a:body d7):aT d7 body:=⟨a⟩
def Gs{d7:bJ}{body:bJ->Prop}(a:body d7):pd d7 body:=⟨a⟩
def Gn{d7:J->Prop}{body:(J->Prop)->Prop}(a:body d7):cU d7 body:=⟨a⟩
def Gp{d7:J->V an->Prop}{body:(J->V an->Prop)->Prop}(a:body d7):sG d7 body:=⟨a⟩
def Gr{d7:Prop}{body:Prop->Prop}(a:body d7):Gq d7 body:=⟨a⟩
def GA{n:Nat}{ak:Nat->Prop}(a:ak n):eM n ak:=⟨a⟩
def G5{v:J}{U:V an}{ar:Nat}{ak:bJ}(a:ak v U ar):gR (some (.fE v U ar)) h j ak:=⟨a⟩
def G6{v:J}{ak:bJ}(a:ak v h j):gR (some (.val v)) h j ak:=⟨a⟩
def pJ{K b:Prop}(a:K):aX (.bool true) K b:=⟨⟨λ_=>a,λI=>(by cases I)⟩⟩
def pI{K b:Prop}(a:b):aX (.bool false) K b:=⟨⟨λI=>(by cases I),λ_=>a⟩⟩
def tD{K b:Prop}(a:K):hQ true (.bool true) K b:=⟨⟨λ_=>a,λI=>(by cases I)⟩⟩
def tC{K b:Prop}(a:b):hQ true (.bool false) K b:=⟨⟨λI=>(by cases I),λ_=>a⟩⟩
def tB{K b:Prop}(a:b):hQ false (.bool true) K b:=⟨⟨λI=>(by cases I),λ_=>a⟩⟩
def tA{K b:Prop}(a:K):hQ false (.bool false) K b:=⟨⟨λ_=>a,λI=>(by cases I)⟩⟩
def BB{f:Nat}{K cv b:List J}{ak ay:bJ}(a:aW C f ((K++cv)++b) h j ak ay):iw C (.func (.func f) K b) cv h j ak ay:=⟨a⟩
def gs{x e:J}{ak:Prop}(a:J.same 30 x e=true)(F:ak):gi x (some e) ak:=⟨⟨a,F⟩⟩
@[congr] def aBi{α:Type}{Y o':Option α}{ak:α->Prop}(a:Y=o'):E Y ak=E o' ak:=by rw[a]
@[congr] def azh{v g7:J}{K b:Prop}(a:v=g7):aX v K b=aX g7 K b:=by rw[a]
@[congr] def azu{w:Bool}{v g7:J}{K b:Prop}(a:v=g7):hQ w v K b=hQ w g7 K b:=by rw[a]
@[congr] def azl{f:Nat}{cv WP:List J}{ak ay:bJ}(a:cv=WP):aW C f cv h j ak ay=aW C f WP h j ak ay:=by rw[a]
def aW.mono{f:Nat}{cv:List J}{ak ay Av eG:bJ}(a:aW C f cv h j ak ay)(iY:∀ae U ar,ak ae U ar->Av ae U ar)(cA:∀ae U ar,ay ae U ar->eG ae U ar):aW C f cv h j Av eG:=by
 rcases a.out with ⟨ae,T,W⟩|⟨T,W,au⟩
 ·exact⟨.inl ⟨ae,T,iY _ _ _ W⟩⟩
 ·exact⟨.inr ⟨T,W,au.mono iY cA⟩⟩
def LO{f eb:Nat}(a:cX C f eb=true):∃fn c,C.P.funcs[f]? =some fn/\fn.body=some c:=by
 unfold cX at a
 split at a
 ·rename_i fn b9
  split at a
  ·rename_i c aB;exact⟨fn,c,b9,aB⟩
  ·cases a
 ·cases a
def c6{f:Nat}{cv:List J}{ak ay:bJ}(aB:cX C f cv.length=true)(bl:C.hf f cv=none)(a:di C f cv h j ak ay):aW C f cv h j ak ay:=
 ⟨.inr ⟨bl,LO aB,am2 aB a⟩⟩
def E5{f:Nat}{cv:List J}{ak ay:bJ}{ae:J}(bl:C.hf f cv=some ae)(a:ak ae h j):aW C f cv h j ak ay:=⟨.inl ⟨ae,bl,a⟩⟩
def s0(M:dY)(d n:Nat)(v:J):(ac M d v).g n=if d=n then some v else M.g n:=by show bV (Nat.beq d n) (some v) (M.g n)=_;rw[hO]
def rJ(M:dY)(d:Nat)(v:J):(ac M d v).bg=M.bg:=rfl
def vX(M:dY)(d:Nat)(v:J):(ac M d v).rc=M.rc:=rfl
def uu(l:List J)(n:Nat):(cZ l).g n=l[n]? :=by simp[cZ]
def te(l:List J):(cZ l).bg=[]:=rfl
def uv(l:List J):(cZ l).rc=false:=rfl
def qj(l:List Nat)(M:dY)(n:Nat):(hP l M).g n=bV (om n l) none (M.g n):=rfl
def vT(M:dY)(d:hN)(n:Nat):(Af M d).g n=M.g n:=rfl
def vS(M:dY)(d:hN):(Af M d).bg=d::M.bg:=rfl
def vJ(M:dY)(d n:Nat):(vI M d).g n=M.g n:=rfl
def sM(M:dY)(d:Nat):(vI M d).bg=⟨.collected d,[]⟩::M.bg:=rfl
def HV{f:Nat}{cv:List J}{ak ay:bJ}(aB:cX C f cv.length=true)(bl:C.hf f cv=none)(a:AZ C f cv h j ak ay):aW C f cv h j ak ay:=
 ⟨.inr ⟨bl,LO aB,am3 aB a⟩⟩
def Xa{f:Nat}{cv:List J}{ak ay:bJ}(bl:C.hf f cv=none)(a:aW C f cv h j ak ay):uo C f cv h j ak ay:=by
 rcases a.out with ⟨ae,T,W⟩|⟨T,W,au⟩
 ·rw[bl]at T;cases T
 ·exact au
def E1{p:Prop}[Decidable p]{K b:Prop}(T:p->K)(W:¬p->b):aX (.bool (decide p)) K b:=⟨λI=>T (by simpa using I),λI=>W (by simpa using I)⟩
def oj(b Y:Nat):bM C h 2 (.ptr b Y)=(al C h (.ptr b Y)).bind λl8=>(al C h (.ptr b (Y+1))).bind λgS=>some (.agg [l8,gS]):=by
 rw[vz]
 simp only[pf,ZN,Nat.reduceAdd,Ym,ZE]
def p5(b Y:Nat):bM C h 3 (.ptr b Y)=(al C h (.ptr b Y)).bind λl8=>(al C h (.ptr b (Y+1))).bind λgS=>(al C h (.ptr b (Y+2))).bind λhs=>some (.agg [l8,gS,hs]):=by
 rw[vz]
 simp only[pf,ZN,Nat.reduceAdd,Ym,ZE]
def t2(b Y:Nat):bM C h 4 (.ptr b Y)=(al C h (.ptr b Y)).bind λl8=>(al C h (.ptr b (Y+1))).bind λgS=>(al C h (.ptr b (Y+2))).bind λhs=>(al C h (.ptr b (Y+3))).bind λht=>some (.agg [l8,gS,hs,ht]):=by
 rw[vz]
 simp only[pf,ZN,Nat.reduceAdd,Ym,ZE]
def vD(b Y:Nat):bM C h 5 (.ptr b Y)=(al C h (.ptr b Y)).bind λl8=>(al C h (.ptr b (Y+1))).bind λgS=>(al C h (.ptr b (Y+2))).bind λhs=>(al C h (.ptr b (Y+3))).bind λht=>(al C h (.ptr b (Y+4))).bind λkB=>some (.agg [l8,gS,hs,ht,kB]):=by
 rw[vz]
 simp only[pf,ZN,Nat.reduceAdd,Ym,ZE]
def vE(b Y:Nat):bM C h 6 (.ptr b Y)=(al C h (.ptr b Y)).bind λl8=>(al C h (.ptr b (Y+1))).bind λgS=>(al C h (.ptr b (Y+2))).bind λhs=>(al C h (.ptr b (Y+3))).bind λht=>(al C h (.ptr b (Y+4))).bind λkB=>(al C h (.ptr b (Y+5))).bind λs7=>some (.agg [l8,gS,hs,ht,kB,s7]):=by
 rw[vz]
 simp only[pf,ZN,Nat.reduceAdd,Ym,ZE]
def vF(b Y:Nat):bM C h 7 (.ptr b Y)=(al C h (.ptr b Y)).bind λl8=>(al C h (.ptr b (Y+1))).bind λgS=>(al C h (.ptr b (Y+2))).bind λhs=>(al C h (.ptr b (Y+3))).bind λht=>(al C h (.ptr b (Y+4))).bind λkB=>(al C h (.ptr b (Y+5))).bind λs7=>(al C h (.ptr b (Y+6))).bind λum=>some (.agg [l8,gS,hs,ht,kB,s7,um]):=by
 rw[vz]
 simp only[pf,ZN,Nat.reduceAdd,Ym,ZE]
def vG(b Y:Nat):bM C h 8 (.ptr b Y)=(al C h (.ptr b Y)).bind λl8=>(al C h (.ptr b (Y+1))).bind λgS=>(al C h (.ptr b (Y+2))).bind λhs=>(al C h (.ptr b (Y+3))).bind λht=>(al C h (.ptr b (Y+4))).bind λkB=>(al C h (.ptr b (Y+5))).bind λs7=>(al C h (.ptr b (Y+6))).bind λum=>(al C h (.ptr b (Y+7))).bind λww=>some (.agg [l8,gS,hs,ht,kB,s7,um,ww]):=by
 rw[vz]
 simp only[pf,ZN,Nat.reduceAdd,Ym,ZE]
def vH(b Y:Nat):bM C h 9 (.ptr b Y)=(al C h (.ptr b Y)).bind λl8=>(al C h (.ptr b (Y+1))).bind λgS=>(al C h (.ptr b (Y+2))).bind λhs=>(al C h (.ptr b (Y+3))).bind λht=>(al C h (.ptr b (Y+4))).bind λkB=>(al C h (.ptr b (Y+5))).bind λs7=>(al C h (.ptr b (Y+6))).bind λum=>(al C h (.ptr b (Y+7))).bind λww=>(al C h (.ptr b (Y+8))).bind λAt=>some (.agg [l8,gS,hs,ht,kB,s7,um,ww,At]):=by
 rw[vz]
 simp only[pf,ZN,Nat.reduceAdd,Ym,ZE]
def vA(b Y:Nat):bM C h 10 (.ptr b Y)=(al C h (.ptr b Y)).bind λl8=>(al C h (.ptr b (Y+1))).bind λgS=>(al C h (.ptr b (Y+2))).bind λhs=>(al C h (.ptr b (Y+3))).bind λht=>(al C h (.ptr b (Y+4))).bind λkB=>(al C h (.ptr b (Y+5))).bind λs7=>(al C h (.ptr b (Y+6))).bind λum=>(al C h (.ptr b (Y+7))).bind λww=>(al C h (.ptr b (Y+8))).bind λAt=>(al C h (.ptr b (Y+9))).bind λun=>some (.agg [l8,gS,hs,ht,kB,s7,um,ww,At,un]):=by
 rw[vz]
 simp only[pf,ZN,Nat.reduceAdd,Ym,ZE]
def vB(b Y:Nat):bM C h 11 (.ptr b Y)=(al C h (.ptr b Y)).bind λl8=>(al C h (.ptr b (Y+1))).bind λgS=>(al C h (.ptr b (Y+2))).bind λhs=>(al C h (.ptr b (Y+3))).bind λht=>(al C h (.ptr b (Y+4))).bind λkB=>(al C h (.ptr b (Y+5))).bind λs7=>(al C h (.ptr b (Y+6))).bind λum=>(al C h (.ptr b (Y+7))).bind λww=>(al C h (.ptr b (Y+8))).bind λAt=>(al C h (.ptr b (Y+9))).bind λun=>(al C h (.ptr b (Y+10))).bind λOB=>some (.agg [l8,gS,hs,ht,kB,s7,um,ww,At,un,OB]):=by
 rw[vz]
 simp only[pf,ZN,Nat.reduceAdd,Ym,ZE]
def vC(b Y:Nat):bM C h 12 (.ptr b Y)=(al C h (.ptr b Y)).bind λl8=>(al C h (.ptr b (Y+1))).bind λgS=>(al C h (.ptr b (Y+2))).bind λhs=>(al C h (.ptr b (Y+3))).bind λht=>(al C h (.ptr b (Y+4))).bind λkB=>(al C h (.ptr b (Y+5))).bind λs7=>(al C h (.ptr b (Y+6))).bind λum=>(al C h (.ptr b (Y+7))).bind λww=>(al C h (.ptr b (Y+8))).bind λAt=>(al C h (.ptr b (Y+9))).bind λun=>(al C h (.ptr b (Y+10))).bind λOB=>(al C h (.ptr b (Y+11))).bind λayS=>some (.agg [l8,gS,hs,ht,kB,s7,um,ww,At,un,OB,ayS]):=by
 rw[vz]
 simp only[pf,ZN,Nat.reduceAdd,Ym,ZE]
def wk(z0 a0:J):d3 (V.ofList [z0] 0 .nil) 0 [a0]=V.ofList [a0] 0 .nil:=by rfl
def wo(z0 f2 a0 bf:J):d3 (V.ofList [z0,f2] 0 .nil) 0 [a0,bf]=V.ofList [a0,bf] 0 .nil:=by rfl
def wp(z0 f2 fF a0 bf ck:J):d3 (V.ofList [z0,f2,fF] 0 .nil) 0 [a0,bf,ck]=V.ofList [a0,bf,ck] 0 .nil:=by rfl
def wq(z0 f2 fF z3 a0 bf ck a3:J):d3 (V.ofList [z0,f2,fF,z3] 0 .nil) 0 [a0,bf,ck,a3]=V.ofList [a0,bf,ck,a3] 0 .nil:=by rfl
def wr(z0 f2 fF z3 z4 a0 bf ck a3 a4:J):d3 (V.ofList [z0,f2,fF,z3,z4] 0 .nil) 0 [a0,bf,ck,a3,a4]=V.ofList [a0,bf,ck,a3,a4] 0 .nil:=by rfl
def ws(z0 f2 fF z3 z4 z5 a0 bf ck a3 a4 a5:J):d3 (V.ofList [z0,f2,fF,z3,z4,z5] 0 .nil) 0 [a0,bf,ck,a3,a4,a5]=V.ofList [a0,bf,ck,a3,a4,a5] 0 .nil:=by rfl
def wt(z0 f2 fF z3 z4 z5 rQ a0 bf ck a3 a4 a5 hv:J):d3 (V.ofList [z0,f2,fF,z3,z4,z5,rQ] 0 .nil) 0 [a0,bf,ck,a3,a4,a5,hv]=V.ofList [a0,bf,ck,a3,a4,a5,hv] 0 .nil:=by rfl
def wu(z0 f2 fF z3 z4 z5 rQ Au a0 bf ck a3 a4 a5 hv ic:J):d3 (V.ofList [z0,f2,fF,z3,z4,z5,rQ,Au] 0 .nil) 0 [a0,bf,ck,a3,a4,a5,hv,ic]=V.ofList [a0,bf,ck,a3,a4,a5,hv,ic] 0 .nil:=by rfl
def wv(z0 f2 fF z3 z4 z5 rQ Au pB a0 bf ck a3 a4 a5 hv ic ir:J):d3 (V.ofList [z0,f2,fF,z3,z4,z5,rQ,Au,pB] 0 .nil) 0 [a0,bf,ck,a3,a4,a5,hv,ic,ir]=V.ofList [a0,bf,ck,a3,a4,a5,hv,ic,ir] 0 .nil:=by rfl
def wl(z0 f2 fF z3 z4 z5 rQ Au pB z9 a0 bf ck a3 a4 a5 hv ic ir a9:J):d3 (V.ofList [z0,f2,fF,z3,z4,z5,rQ,Au,pB,z9] 0 .nil) 0 [a0,bf,ck,a3,a4,a5,hv,ic,ir,a9]=V.ofList [a0,bf,ck,a3,a4,a5,hv,ic,ir,a9] 0 .nil:=by rfl
def wm(z0 f2 fF z3 z4 z5 rQ Au pB z9 Uc a0 bf ck a3 a4 a5 hv ic ir a9 HH:J):d3 (V.ofList [z0,f2,fF,z3,z4,z5,rQ,Au,pB,z9,Uc] 0 .nil) 0 [a0,bf,ck,a3,a4,a5,hv,ic,ir,a9,HH]=V.ofList [a0,bf,ck,a3,a4,a5,hv,ic,ir,a9,HH] 0 .nil:=by rfl
def wn(z0 f2 fF z3 z4 z5 rQ Au pB z9 Uc ay2 a0 bf ck a3 a4 a5 hv ic ir a9 HH Wt:J):d3 (V.ofList [z0,f2,fF,z3,z4,z5,rQ,Au,pB,z9,Uc,ay2] 0 .nil) 0 [a0,bf,ck,a3,a4,a5,hv,ic,ir,a9,HH,Wt]=V.ofList [a0,bf,ck,a3,a4,a5,hv,ic,ir,a9,HH,Wt] 0 .nil:=by rfl
def rP(c:V J)(Y:Nat)(v:J):(d3 c Y [v]).get Y=some v:=by rw[kA];simp
def wi{c:V J}{Y i:Nat}{v:J}(a:i≠Y):(d3 c Y [v]).get i=c.get i:=by rw[kA,Zh (by simp;omega)]
def im{b Y F n:Nat}{c:V J}{v:J}(a:ab C h b=some (.cells c n .own))(ai:C.ba<=b)(aL:v.cells.length=F)(ch:0<F)(bl:Y+F<=n)(T:jI v.cells=true):
 b8 C h F (.ptr b Y) v=some (bo C h b (some (.cells (d3 c Y v.cells) n .own))):=by
 subst aL
 have cP:Nat.blt 0 v.cells.length=true:=by simp[Nat.blt];omega
 have fH:Nat.beq v.cells.length v.cells.length=true:=by simp
 have bH:Nat.ble (Y+v.cells.length) n=true:=by simpa using bl
 have jR:Nat.ble C.ba b=true:=by simpa using ai
 simp only[b8,wJ,a,kD,jR,bH,cP,fH,T,Yd,e6,hw]
def qO(F:IntKind)(n:Nat):nc (.int F (n:Int))=some n:=rfl
def auu(F:IntKind):nc (.int F 0)=some 0:=rfl
def vq(F:IntKind)(x e:Int):aC .lss (.int F x) (.int F e)=some (.bool (decide (x<e))):=by
 cases F<;>simp[aC,l0,mq,lJ,wM,tW]<;>(rw[Yf];simp)
def vo(F:IntKind)(x e:Int):aC .gtr (.int F x) (.int F e)=some (.bool (decide (e<x))):=by
 cases F<;>simp[aC,l0,mq,lJ,wM,tW]<;>(rw[Yf];simp)
def vp(F:IntKind)(x e:Int):aC .leq (.int F x) (.int F e)=some (.bool (decide (x<=e))):=by
 cases F<;>simp[aC,l0,mq,lJ,wM,tW]<;>(rw[Yf];simp)
def vn(F:IntKind)(x e:Int):aC .geq (.int F x) (.int F e)=some (.bool (decide (e<=x))):=by
 cases F<;>simp[aC,l0,mq,lJ,wM,tW]<;>(rw[Yf];simp)
def vm(F:IntKind)(x e:Int):aC .eql (.int F x) (.int F e)=some (.bool (decide (x=e))):=by
 cases F<;>simp[aC,l0,mq,lJ,wM,Gh]
def vr(F:IntKind)(x e:Int):aC .neq (.int F x) (.int F e)=some (.bool (decide (x≠e))):=by
 cases F<;>simp[aC,l0,mq,lJ,wM,Gh]
def wrap64{n:Int}(T: -9223372036854775808<=n)(W:n<9223372036854775808):pA .i64 n=n:=by
 simp only[pA,fG,Zg]
 split<;>omega
def eL{x e:Int}(T: -9223372036854775808<=x+e)(W:x+e<9223372036854775808):aC .add (.int .i64 x) (.int .i64 e)=some (.int .i64 (x+e)):=by
 simp[aC,l0,mq,lJ,k9,wrap64 T W]
def BA{x e:Int}(T: -9223372036854775808<=x-e)(W:x-e<9223372036854775808):aC .sub (.int .i64 x) (.int .i64 e)=some (.int .i64 (x-e)):=by
 simp[aC,l0,mq,lJ,k9,wrap64 T W]
def acu(x e:Int):aC .add (.int .u64 x) (.int .u64 e)=some (.int .u64 ((x+e)%18446744073709551616)):=by
 simp[aC,l0,mq,lJ,k9,pA]
def Gk{br b Y len cap i:Nat}(F:IntKind)(a:i<len):dd br (.slice b Y len cap) (.int F (i:Int))=some (.ptr b (Y+i*br)):=by
 simp[dd,qO,Ck,fG,Nat.blt,a];omega
def Gl{br b Y len cap i:Nat}(F:IntKind)(a:i<len):dd br (.fm b Y len cap) (.int F (i:Int))=some (.ptr b (Y+i*br)):=by
 simp[dd,qO,Ck,fG,Nat.blt,a];omega
def wz(d b Y:Nat):a1 d (.ptr b Y)=some (.ptr b (Y+d)):=rfl
def wx(i:Nat)(l:List J):cK i (.tuple l)=l[i]? :=by simp[cK]
def wy(b Y:Nat):cl (.ptr b Y)=some (.ptr b Y):=rfl
def vN(b:Bool):fe .not (.bool b)=some (.bool (!b)):=by simp[fe,wM]
def x4(c:V J)(l:List J):Prop:=∀i,c.get i=l[i]?
def og(l:List J):x4 (V.ofList l 0 .nil) l:=λi=>kM l i
def x4.app{c:V J}{l:List J}(a:x4 c l)(m:List J):x4 (d3 c l.length m) (l++m):=by
 intro i
 rw[kA]
 by_cases T:l.length<=i/\i<l.length+m.length
 ·rw[Zr T,ZW T.1]
 ·rw[Zh T,a i]
  by_cases W:i<l.length
  ·rw[Z4 W]
  ·rw[ZU Zo,ZU (by simp;omega)]
end
end
end Go.bk

namespace Go.bk
noncomputable section
section
variable{C:a2}{h:V an}{j:Nat}
def ln{K b:Nat}(a:K<=b):Nat.ble K b=true:=by simpa using a
def kC(C:a2)(h:V an)(s:J)(br:Nat)(l:List J)(cM:List Nat):Prop:=
 (s= .aU/\l=[]/\cM=[])\/∃b fz n c,s= .fm b 0 n br/\l.length=n*br/\cM=b::fz/\(∀x∈cM,C.ba<=x)/\b∉fz/\ab C h b=some (.cells c (n*br) (.grow fz))/\x4 c l
def kC.ad{U:V an}{s:J}{br:Nat}{l:List J}{cM:List Nat}(a:kC C h s br l cM)(aL:∀e∈cM,ab C U e=ab C h e):kC C U s br l cM:=by
 rcases a with a|⟨b,fz,n,c,T,W,au,aP,bK,cr,dP⟩
 ·exact .inl a
 ·exact .inr ⟨b,fz,n,c,T,W,au,aP,bK,by rw[aL b (by rw[au];exact Zv ..)];exact cr,dP⟩
def s2{br F b n:Nat}{l:List J}{c:V J}{st:nW}(a:ab C h b=some (.cells c n st))(aB:x4 c l)(aD:l.length=F*br)(cap:Nat):lh C h br (.slice b 0 F cap)=some (F,l):=by
 have b0:∀(m Y:Nat),Y+m<=l.length->c.kE Y m=some ((l.drop Y).take m):=by
  intro m
  induction m with
  |zero=>intro Y _;simp[V.kE]
  |succ m am=>
   intro Y bl
   have T:c.get Y=some l[Y]:=by rw[aB Y,Ze Zo]
   simp only[V.kE,T,am (Y+1) Zo]
   rw[Zw (by omega:Y<l.length),Z2]
 simp only[lh,m3,cellsOf,a]
 rw[b0 (F*br) 0 Zo]
 simp[<-aD]
def fC{b:gB->gB}{M:dY}{h:V an}{j:Nat}(j8:Nat->gB)(m:Nat)(ch:j8 m M h j)(a:∀m M h j,j8 m M h j->b (λM h j=>∃gr,gr<m/\j8 gr M h j) M h j):fu b M h j:=⟨⟨j8,⟨m,ch⟩,a⟩⟩
def ο{c:V J}{l:List J}(aB:x4 c l):∀(m Y:Nat),Y+m<=l.length->c.kE Y m=some ((l.drop Y).take m):=by
 intro m
 induction m with
 |zero=>intro Y _;simp[V.kE]
 |succ m am=>
  intro Y bl
  have T:c.get Y=some l[Y]:=by rw[aB Y,Ze Zo]
  simp only[V.kE,T,am (Y+1) Zo]
  rw[Zw (by omega:Y<l.length),Z2]
def wW{br:Nat}:∀{bF:List (List J)},(∀r∈bF,r.length=br)->bF.flatten.length=bF.length*br:=by
 intro bF
 induction bF with
 |nil=>intro _;simp
 |cons K l am=>
  intro a
  rw[Yp,ZO,a K (Zv ..),am (λr Z=>a r (Zu _ Z)),ZC,Ya]
  omega
abbrev zs(l:List J)(n:Nat):Option an:=some (.cells (V.ofList l 0 .nil) n .own)
def zt(i:Nat)(h:i<1000000000:=by omega):aC .add (.Z (i:Int)) (.Z 1)=some (.Z ((i+1:Nat):Int)):=by rw[eL (by omega) (by omega)];rfl
def zu{p:Prop}(h:p:=by simp(disch:=omega) only[aG]):p:=h
def zz{C:a2}{S T:V an}{b o:Nat}{v:Option J}(h:ab C T b=ab C S b)(k:al C S (.ptr b o)=v):al C T (.ptr b o)=v:=by rw[cg,h,<-cg];exact k
abbrev zw(T:dY)(a:Nat)(x:J)(b:Nat)(y:J):dY:=ac (ac T a x) b y
abbrev zx(T:dY)(a:Nat)(x:J)(b:Nat)(y:J)(c:Nat)(z:J):dY:=ac (zw T a x b y) c z
abbrev zy(T:dY)(a:Nat)(x:J)(b:Nat)(y:J)(c:Nat)(z:J)(d:Nat)(u:J):dY:=zw (zw T a x b y) c z d u
end
end
end Go.bk

namespace Go.aZ
abbrev bq:=List Nat
structure dJ where
 b:Bool
 s:Bool
 w:Int
 deriving DecidableEq
structure Tok where
 kind:Int
 text:bq
 at_:Int
 n:Int
 ty:dJ
inductive bG where
 |mk (kind at_:Int) (name:bq) (no:Bool) (ty:dJ) (n:Int) (args:List bG)
structure fq where
 name:bq
 at_:Int
 ty:dJ
 on:bq
 fD:Int
 no:Bool
structure gv where
 left:List bq
 dm:List Int
 at_:Int
 right:bG
structure Node where
 name:bq
 at_:Int
 ef:List fq
 out:List fq
 loc:List fq
 eqs:List gv
def dU:dJ:=⟨false,false,0⟩
def bG.kind:bG->Int| .mk F _ _ _ _ _ _=>F
def bG.args:bG->List bG| .mk _ _ _ _ _ _ l=>l
abbrev gf(α:Type):=Option (Except Int (α×List Tok))
def ok{α:Type}(K:α)(l:List Tok):gf α:=some (.ok (K,l))
def bad{α:Type}(at_:Int):gf α:=some (.error at_)
def andThen{α eP:Type}(x:gf α)(f:α->List Tok->gf eP):gf eP:=match x with
 |none=>none
 |some (.error K)=>some (.error K)
 |some (.ok (K,l))=>f K l
def g5(x:Tok)(s:bq):Bool:=(x.kind=2||x.kind=6)&&x.text=s
def l6(s:bq):List Tok->Option (Option Tok×List Tok)
 |[]=>none
 |x::l=>if g5 x s then some (some x,l)else some (none,x::l)
def io{eP:Type}(s:bq)(l:List Tok)(f:Option Tok->List Tok->gf eP):gf eP:=match l6 s l with
 |none=>none
 |some (x,l)=>f x l
def eO(s:bq):List Tok->gf Tok
 |[]=>none
 |x::l=>if g5 x s then ok x l else bad x.at_
def iO(F:Int):List Tok->gf Tok
 |[]=>none
 |x::l=>if x.kind=F then ok x l else bad x.at_
def ax:Nat->List (bq×Int)
 |0=>[([111,114],7),([120,111,114],8)]
 |1=>[([97,110,100],9)]
 |2=>[([61],10),([60,62],11),([60,61],13),([62,61],15),([60],12),([62],14)]
 |3=>[([43],16),([45],17)]
 |4=>[([42],18)]
 |_=>[]
def oP:List (bq×Int)->List Tok->Option (Option bG×List Tok)
 |[],l=>some (none,l)
 |(s,F)::os,l=>match l6 s l with
  |none=>none
  |some (some x,l)=>some (some (.mk F x.at_ [] false dU 0 []),l)
  |some (none,l)=>oP os l
def bG.at_:bG->Int| .mk _ K _ _ _ _ _=>K
def t7(I:bG):Option Bool:=if I.kind=1 then some true else if I.kind=4 then(match I.args with|[]=>none|K::_=>some (decide (K.kind=1)))else some false
def bG.name:bG->bq| .mk _ _ s _ _ _ _=>s
def bG.no:bG->Bool| .mk _ _ _ b _ _ _=>b
def bG.ty:bG->dJ| .mk _ _ _ _ t _ _=>t
def bG.n:bG->Int| .mk _ _ _ _ _ n _=>n
def two(I:bG)(K b:bG):bG:= .mk I.kind I.at_ [] false dU 0 [K,b]
def Ae:List (bq×Int):=[([110,111,116],3),([45],4),([112,114,101],5)]
mutual
def level:Nat->Nat->List Tok->gf bG
 |0,_,_=>none
 |n+1,F,l=>if F=5 then shift n l else andThen (level n (F+1) l) λleft l=>pi n F left l
def pi:Nat->Nat->bG->List Tok->gf bG
 |0,_,_,_=>none
 |n+1,F,left,l=>match oP (ax F) l with
  |none=>none
  |some (none,l)=>ok left l
  |some (some I,l)=>andThen (level n (F+1) l) λr l=>if F=2 then ok (two I left r) l else pi n F (two I left r) l
def shift:Nat->List Tok->gf bG
 |0,_=>none
 |n+1,l=>andThen (xK n l) λleft l=>pu n left l
def pu:Nat->bG->List Tok->gf bG
 |0,_,_=>none
 |n+1,left,l=>io [60,60] l λx l=>match x with
  |some x=>pv n 19 x left l
  |none=>io [62,62] l λx l=>match x with
   |some x=>pv n 20 x left l
   |none=>ok left l
def pv:Nat->Int->Tok->bG->List Tok->gf bG
 |0,_,_,_,_=>none
 |n+1,F,x,left,l=>andThen (iO 4 l) λm l=>if 63<m.n then bad m.at_ else pu n (.mk F x.at_ [] false dU m.n [left]) l
def xK:Nat->List Tok->gf bG
 |0,_=>none
 |n+1,l=>match oP Ae l with
  |none=>none
  |some (some I,l)=>andThen (xK n l) λK l=>ok (.mk I.kind I.at_ [] false dU 0 [K]) l
  |some (none,l)=>andThen (part n l) λleft l=>nq n left l
def nq:Nat->bG->List Tok->gf bG
 |0,_,_=>none
 |n+1,left,l=>io [119,104,101,110] l λx l=>match x with
  |none=>ok left l
  |some x=>io [110,111,116] l λno l=>andThen (iO 1 l) λc l=>nq n (.mk 6 x.at_ c.text no.isSome dU 0 [left]) l
def part:Nat->List Tok->gf bG
 |0,_=>none
 |_+1,[]=>none
 |n+1,x::l=>
  if x.kind=5 then ok (.mk 1 x.at_ [] false x.ty x.n []) l
  else if x.kind=2&&(x.text=[116,114,117,101]||x.text=[102,97,108,115,101])then ok (.mk 1 x.at_ [] false ⟨true,false,1⟩ (if x.text=[116,114,117,101]then 1 else 0) []) l
  else if x.kind=1 then io [40] l λe l=>match e with
   |none=>ok (.mk 2 x.at_ x.text false dU 0 []) l
   |some _=>andThen (list n l) λcv l=>ok (.mk 25 x.at_ x.text false dU 0 cv) l
  else if x.kind=3 then andThen (eO [40] l) λ_ l=>andThen (arrow n l) λI l=>andThen (eO [41] l) λ_ l=>ok (.mk 26 x.at_ [] false x.ty 0 [I]) l
  else if x.kind=6&&x.text=[40]then andThen (arrow n l) λI l=>andThen (eO [41] l) λ_ l=>ok I l
  else if x.kind=2&&x.text=[105,102]then andThen (arrow n l) λc l=>andThen (eO [116,104,101,110] l) λ_ l=>andThen (arrow n l) λK l=>andThen (eO [101,108,115,101] l) λ_ l=>andThen (arrow n l) λb l=>ok (.mk 23 x.at_ [] false dU 0 [c,K,b]) l
  else if x.kind=2&&x.text=[109,101,114,103,101]then andThen (iO 1 l) λc l=>andThen (part n l) λK l=>andThen (part n l) λb l=>ok (.mk 24 x.at_ c.text false dU 0 [K,b]) l
  else bad x.at_
def list:Nat->List Tok->gf (List bG)
 |0,_=>none
 |n+1,l=>io [41] l λe l=>match e with
  |some _=>ok [] l
  |none=>andThen (arrow n l) λI l=>pj n [I] l
def pj:Nat->List bG->List Tok->gf (List bG)
 |0,_,_=>none
 |n+1,cv,l=>io [44] l λe l=>match e with
  |none=>andThen (eO [41] l) λ_ l=>ok cv l
  |some _=>andThen (arrow n l) λI l=>pj n (cv++[I]) l
def lS:Nat->List Tok->gf bG
 |0,_=>none
 |n+1,l=>andThen (level n 0 l) λleft l=>io [102,98,121] l λx l=>match x with
  |none=>ok left l
  |some x=>match t7 left with
   |none=>none
   |some true=>andThen (lS n l) λr l=>ok (.mk 21 x.at_ [] false dU 0 [left,r]) l
   |some false=>bad x.at_
def arrow:Nat->List Tok->gf bG
 |0,_=>none
 |n+1,l=>andThen (lS n l) λleft l=>io [45,62] l λx l=>match x with
  |none=>ok left l
  |some x=>andThen (arrow n l) λr l=>ok (.mk 22 x.at_ [] false dU 0 [left,r]) l
end
def rC:Nat->List Tok->List Tok->gf (List Tok)
 |0,_,_=>none
 |n+1,cv,l=>andThen (iO 1 l) λx l=>io [44] l λe l=>match e with
  |none=>ok (cv++[x]) l
  |some _=>rC n (cv++[x]) l
def pM(ty:dJ)(on:bq)(fD:Int)(no:Bool)(x:Tok):fq:=⟨x.text,x.at_,ty,on,fD,no⟩
def Ap:Nat->List Tok->Option bq
 |_,[]=>none
 |0,x::_=>some x.text
 |i+1,_::l=>Ap i l
def ym(loc:Bool)(F:List fq->List Tok->gf (List fq))(ds:List fq)(l:List Tok):gf (List fq):=match Ap 0 l with
 |none=>none
 |some s=>if s=[59]then(if loc then(match Ap 1 l with
   |none=>none
   |some s=>if s=[108,101,116]then ok ds l else F ds (l.drop 1))else F ds (l.drop 1))
  else ok ds l
def AT(w:Option Tok)(l:List Tok):gf (bq×Int×Bool):=match w with
 |none=>ok ([],0,false) l
 |some _=>io [110,111,116] l λno l=>andThen (iO 1 l) λon l=>ok (on.text,on.at_,no.isSome) l
def CG(loc:Bool)(F:List fq->List Tok->gf (List fq))(ds:List fq)(cp:List Tok)(l:List Tok):gf (List fq):=
 andThen (eO [58] l) λ_ l=>andThen (iO 3 l) λt l=>io [119,104,101,110] l λw l=>
 andThen (AT w l) λr l=>ym loc F (ds++cp.map (pM t.ty r.1 r.2.1 r.2.2)) l
def i6:Nat->Bool->List fq->List Tok->gf (List fq)
 |0,_,_,_=>none
 |n+1,loc,ds,l=>andThen (rC n [] l) λcp l=>CG loc (i6 n loc) ds cp l
def uI(n:Nat)(l:List Tok):gf gv:=io [40] l λe l=>
 andThen (match e with
  |some _=>andThen (iO 1 l) λx l=>andThen (eO [44] l) λ_ l=>andThen (rC n [x] l) λcp l=>andThen (eO [41] l) λ_ l=>ok cp l
  |none=>andThen (iO 1 l) λx l=>ok [x] l) λcp l=>
 andThen (eO [61] l) λI l=>andThen (arrow n l) λr l=>andThen (eO [59] l) λ_ l=>ok ⟨cp.map Tok.text,cp.map Tok.at_,I.at_,r⟩ l
def lR:Nat->List gv->List Tok->gf (List gv)
 |0,_,_=>none
 |n+1,c2,l=>io [116,101,108] l λe l=>match e with
  |some _=>ok c2 l
  |none=>andThen (uI n l) λao l=>lR n (c2++[ao]) l
def node(n:Nat)(l:List Tok):gf Node:=
 andThen (eO [110,111,100,101] l) λ_ l=>andThen (iO 1 l) λx l=>andThen (eO [40] l) λ_ l=>io [41] l λe l=>
 andThen (match e with
  |some _=>ok [] l
  |none=>andThen (i6 n false [] l) λds l=>andThen (eO [41] l) λ_ l=>ok ds l) λef l=>
 andThen (eO [114,101,116,117,114,110,115] l) λ_ l=>andThen (eO [40] l) λ_ l=>andThen (i6 n false [] l) λout l=>andThen (eO [41] l) λ_ l=>
 io [118,97,114] l λe l=>andThen (match e with
  |some _=>andThen (i6 n true [] l) λds l=>andThen (eO [59] l) λ_ l=>ok ds l
  |none=>ok [] l) λloc l=>
 andThen (eO [108,101,116] l) λ_ l=>andThen (lR n [] l) λc2 l=>ok ⟨x.text,x.at_,ef,out,loc,c2⟩ l
def pm:Nat->List Node->List Tok->gf (List Node)
 |0,_,_=>none
 |n+1,aq,l=>andThen (node n l) λg l=>match l with
  |[]=>none
  |x::_=>if x.kind=7 then ok (aq++[g]) l else pm n (aq++[g]) l
end Go.aZ

namespace Go.bk
noncomputable section
open Go.aZ
section
variable{C:a2}{h U a6:V an}{j ar aJ:Nat}
def oO{rR:List J}{ak:bJ}(a:ak (.ptr j 0) (bo C h j (zs rR rR.length)) (j+1)):E (dA rR j) λr=>cH C h j r.1 r.2 ak:=⟨⟨a⟩⟩
def EQ{b:Nat}{rR:List J}{ak:J->V an->Prop}(a:ak (.ptr b 0) (bo C h b (zs rR rR.length))):E (dA rR b) λr=>ld C h b r.1 r.2 ak:=⟨⟨a⟩⟩
def pQ(cs:List J):CQ cs []=some cs:=rfl
def pP(cs:List J)(off size:Nat)(v:J)(du:List (Nat×Nat×J)):CQ cs ((off,size,v)::du)=if v.cells.length=size/\off+size<=cs.length then CQ (lD cs off v.cells) du else none:=by
 have I:∀K b:Nat,(Nat.beq K b=true)=(K=b):=λK b=>propext ⟨Zj,λa=>by subst a;exact Y8 K⟩
 simp only[CQ,fG,Zp,I,Nat.ble_eq]
def q0(c:V J)(Y:Nat)(v:J):d3 c Y [v]=c.set Y (some v):=by simp[d3]
def bR{b n:Nat}{c:V J}{st:nW}(a:ab C h b=some (.cells c n st))(Y:Nat):al C h (.ptr b Y)=c.get Y:=by rw[cg,a]
def Fu{w:Bool}{K b:Prop}(a:b):hQ w bk.undef K b:=⟨a⟩
def ph(b Y n c:Nat):dI (.slice b Y n c)=some (.Z (n:Int)):=by simp[dI,p3]
def qL(b Y n c:Nat):dI (.fm b Y n c)=some (.Z (n:Int)):=by simp[dI,p3]
def sK:dI .aU=some (.Z 0):=rfl
def sL(s:List Nat):l1 (.str s)=some (.Z (s.length:Int)):=by simp[l1,p3]
def DS:∀K b:List Nat,mS K b=decide (K=b):=by
 intro K
 induction K with
 |nil=>intro b;cases b<;>simp[mS]
 |cons x K am=>
  intro b
  cases b with
  |nil=>simp[mS]
  |cons e b=>
   simp only[mS,am]
   by_cases a:x=e<;>simp[a]
def v2(t:Nat)(to:Bool)(K b:List Nat):dc C h .eql t to (.str K) (.str b)=some (.bool (decide (K=b))):=by
 simp[dc,AK,wM,DS]
def v6(t:Nat)(to:Bool)(K b:List Nat):dc C h .neq t to (.str K) (.str b)=some (.bool (decide (K≠b))):=by
 simp[dc,AK,wM,DS]
def uL(off br:Nat)(cs:List J):ny false off br (.agg cs)=cs[off]? :=by simp[ny,fG]
def uK(off br:Nat)(cs:List J):ny true off br (.agg cs)=some (.agg ((cs.drop off).take br)):=by simp[ny,fG]
def r6(t:Nat)(bu v:J):ET t bu true (.iface t v)=some (.tuple [v, .bool true]):=by simp[ET,fG]
def uE(F:IntKind)(x:Int):mD .u64 (.int F x)=some (.int .u64 (x%18446744073709551616)):=by simp[mD,k9,pA]
def Xm{F:IntKind}{x:Int}(T: -9223372036854775808<=x)(W:x<9223372036854775808):mD .i64 (.int F x)=some (.Z x):=by simp[mD,k9,wrap64 T W]
def uF(s:List Nat):alE (.str s)=some (.str s):=rfl
structure cf(C:a2)(X:List Nat)(h:V an)(j:Nat)(U:V an)(ar:Nat):Prop where
 le:j<=ar
 ad:∀b,b<j->b∉X->ab C U b=ab C h b
def cf.refl(X:List Nat)(h:V an)(j:Nat):cf C X h j h j:=⟨Zl _,λ_ _ _=>rfl⟩
def cf.trans{X:List Nat}{a6 aR a7:V an}{aJ bc bd:Nat}(a:cf C X a6 aJ aR bc)(F:cf C X aR bc a7 bd):cf C X a6 aJ a7 bd:=
 ⟨Zz a.le F.le,λb ai ah=>(F.ad b (ZL ai a.le) ah).trans (a.ad b ai ah)⟩
def cf.of{X:List Nat}(a:bh C h j U ar):cf C X h j U ar:=⟨a.le,λb ai _=>a.ad b ai⟩
def cf.f0{X:List Nat}(a:cf C X h j U ar)(b Y:Nat)(ai:b<j)(ah:b∉X):al C U (.ptr b Y)=al C h (.ptr b Y):=by rw[cg,cg,a.ad b ai ah]
def cf.down{X dq:List Nat}{ba:Nat}(a:cf C X h j U ar)(aM:ba<=j)(ah:∀b∈X,b∈dq\/ba<=b):cf C dq h ba U ar:=
 ⟨Zz aM a.le,λb ai H=>a.ad b Zo (λI=>by rcases ah b I with a|a;exact H a;omega)⟩
structure d1(C:a2)(h:V an)(P:Nat->Prop)(b:Nat)(a8:J)(br:Nat)(bF:List (List J)):Prop where
 ai:bF≠[]->P b
 many:bF.length<=300000
 wide:∀r∈bF,r.length=br
 len:dI a8=some (.Z (bF.length:Int))
 e9:∀(i:Nat),i<bF.length->dd br a8 (.Z (i:Int))=some (.ptr b (i*br))
 cell:∀(i:Nat) r (aa:Nat) v,bF[i]? =some r->r[aa]? =some v->al C h (.ptr b (i*br+aa))=some v
def d1.ad{P:Nat->Prop}{b br:Nat}{a8:J}{bF:List (List J)}(a:d1 C h P b a8 br bF)(F:∀e,P e->ab C U e=ab C h e):d1 C U P b a8 br bF:=
 ⟨a.ai,a.many,a.wide,a.len,a.e9,λi r aa v aN bL=>by
  have aL:=F b (a.ai (λI=>by rw[I]at aN;cases aN))
  rw[cg,aL, <-cg];exact a.cell i r aa v aN bL⟩
def d1.lift{P bv:Nat->Prop}{b br:Nat}{a8:J}{bF:List (List J)}(a:d1 C h P b a8 br bF)(F:∀e,P e->bv e):d1 C h bv b a8 br bF:=
 ⟨λI=>F _ (a.ai I),a.many,a.wide,a.len,a.e9,a.cell⟩
def ξ{c:V J}:∀(r:List J) (Y:Nat),(∀aa v,r[aa]? =some v->c.get (Y+aa)=some v)->c.kE Y r.length=some r:=by
 intro r
 induction r with
 |nil=>intro Y _;rfl
 |cons K r am=>
  intro Y a
  have ch:=a 0 K rfl
  rw[ZT]at ch
  have T:=am (Y+1) (λaa v bL=>by have:=a (aa+1) v (by simpa using bL);rw[Nat.add_right_comm];simpa[ZN,Nat.add_comm,Nat.add_left_comm]using this)
  simp[V.kE,ch,T]
def d1.row{P:Nat->Prop}{b br:Nat}{a8:J}{bF:List (List J)}(a:d1 C h P b a8 br bF)(aI:0<br){i:Nat}{r:List J}(aN:bF[i]? =some r):bM C h br (.ptr b (i*br))=some (.agg r):=by
 have aD:=a.wide r (Zn aN)
 have ch:∃v,r[0]? =some v:=by
  cases r with
  |nil=>simp at aD;omega
  |cons K l=>exact⟨K,rfl⟩
 obtain⟨v,bD⟩:=ch
 have aB:=a.cell i r 0 v aN bD
 rw[cg]at aB
 rw[kI]
 split at aB
 ·rename_i c _ _ ai
  have:=ξ (c:=c) r (i*br) (λaa v bL=>by
   have:=a.cell i r aa v aN bL
   rw[cg,ai]at this
   exact this)
  rw[aD]at this
  rw[this];rfl
 ·cases aB
def P6{br:Nat}:∀(bF:List (List J)),(∀r∈bF,r.length=br)->∀(i:Nat) r (aa:Nat) v,bF[i]? =some r->r[aa]? =some v->bF.flatten[i*br+aa]? =some v:=by
 intro bF
 induction bF with
 |nil=>intro _ i r aa v aN;simp at aN
 |cons K l am=>
  intro Z i r aa v aN bL
  have aE:=Z K (Zv ..)
  have u7:aa<r.length:=(Zc.1 bL).1
  cases i with
  |zero=>
   simp at aN;subst aN
   rw[Yp,zk,ZP,Z4 Zo];exact bL
  |succ i=>
   simp at aN
   rw[Yp,ZW (by rw[aE,Ya];omega),aE]
   have:(i+1)*br+aa-br=i*br+aa:=by rw[Ya];omega
   rw[this]
   exact am (λr mn=>Z r (Zu _ mn)) i r aa v aN bL
def kC.rH{br:Nat}{s:J}{bF:List (List J)}{cM:List Nat}(a:kC C h s br bF.flatten cM)(eX:0<br)(Z:∀r∈bF,r.length=br)(bs:bF.length<=300000){P:Nat->Prop}(aD:∀e∈cM,P e):∃b,d1 C h P b s br bF:=by
 have gn:=wW Z
 have ab:∀(bF:List (List J)),(∀r∈bF,r.length=br)->∀(i:Nat) r (aa:Nat) v,bF[i]? =some r->r[aa]? =some v->bF.flatten[i*br+aa]? =some v:=by
  intro bF
  induction bF with
  |nil=>intro _ i r aa v aN;simp at aN
  |cons K l am=>
   intro Z i r aa v aN bL
   have aE:=Z K (Zv ..)
   have u7:aa<r.length:=(Zc.1 bL).1
   cases i with
   |zero=>
    simp at aN;subst aN
    rw[Yp,zk,ZP,Z4 Zo];exact bL
   |succ i=>
    simp at aN
    rw[Yp,ZW (by rw[aE,Ya];omega),aE]
    have:(i+1)*br+aa-br=i*br+aa:=by rw[Ya];omega
    rw[this]
    exact am (λr mn=>Z r (Zu _ mn)) i r aa v aN bL
 rcases a with ⟨T,W,au⟩|⟨b,fz,n,c,T,W,au,aP,bK,cr,dP⟩
 ·have RG:bF.length=0:=by
   rw[W,ZQ]at gn
   rcases Nat.mul_eq_zero.1 gn.symm with a|a
   ·exact a
   ·omega
  have RG:bF=[]:=List.length_eq_zero_iff.1 RG
  subst RG T
  exact⟨0,λI=>absurd rfl I,Zs,Z,rfl,λi aN=>by simp at aN,λi r aa v aN=>by simp at aN⟩
 ·have aM:n=bF.length:=Nat.eq_of_mul_eq_mul_right eX (by rw[<-W,gn])
  subst aM T
  refine⟨b,λ_=>aD b (by rw[au];exact Zv ..),bs,Z,qL ..,λi aN=>by rw[Gl _ aN,ZP],λi r aa v aN bL=> ?_⟩
  rw[cg,cr]
  exact(dP _).trans (ab bF Z i r aa v aN bL)
def Eb{b br F cap:Nat}{bF:List (List J)}{st:nW}(ai:ab C h b=some (.cells (V.ofList bF.flatten 0 .nil) (F*br) st))(aL:bF.length=F)(Z:∀r∈bF,r.length=br)(bs:F<=300000){P:Nat->Prop}(bB:P b):d1 C h P b (.slice b 0 F cap) br bF:=by
 subst aL
 have ab:∀(bF:List (List J)),(∀r∈bF,r.length=br)->∀(i:Nat) r (aa:Nat) v,bF[i]? =some r->r[aa]? =some v->bF.flatten[i*br+aa]? =some v:=by
  intro bF
  induction bF with
  |nil=>intro _ i r aa v aN;simp at aN
  |cons K l am=>
   intro Z i r aa v aN bL
   have aE:=Z K (Zv ..)
   have u7:aa<r.length:=(Zc.1 bL).1
   cases i with
   |zero=>
    simp at aN;subst aN
    rw[Yp,zk,ZP,Z4 Zo];exact bL
   |succ i=>
    simp at aN
    rw[Yp,ZW (by rw[aE,Ya];omega),aE]
    have:(i+1)*br+aa-br=i*br+aa:=by rw[Ya];omega
    rw[this]
    exact am (λr mn=>Z r (Zu _ mn)) i r aa v aN bL
 refine⟨λ_=>bB,bs,Z,ph ..,λi aN=>by rw[Gk _ aN,ZP],λi r aa v aN bL=> ?_⟩
 rw[cg,ai]
 exact(kM _ _).trans (ab bF Z i r aa v aN bL)
def dn(t:dJ):List J:=[.bool t.b, .bool t.s, .Z t.w]
def nV(C:a2)(h:V an)(b:Nat):Prop:=∃c n,ab C h b=some (.cells c n .own)/\0<n
def nV.ad{b:Nat}(a:nV C h b)(F:ab C U b=ab C h b):nV C U b:=by unfold nV;rw[F];exact a
mutual
def cR(C:a2)(h:V an):(Nat->Prop)->bG->J->Prop
 |P, .mk kind at_ name no ty n args,v=>∃b,v= .ptr b 0/\P b/\nV C h b/\al C h (.ptr b 0)=some (.Z kind)/\al C h (.ptr b 1)=some (.Z at_)/\al C h (.ptr b 2)=some (.str name)/\al C h (.ptr b 3)=some (.bool no)
   /\al C h (.ptr b 4)=some (.bool ty.b)/\al C h (.ptr b 5)=some (.bool ty.s)/\al C h (.ptr b 6)=some (.Z ty.w)/\al C h (.ptr b 7)=some (.int .u64 n)
   /\∃a8 cD bj,al C h (.ptr b 8)=some a8/\d1 C h P cD a8 1 (bj.map λv=>[v])/\(bj≠[]->cD≠b)/\dB C h (λe=>P e/\e≠b/\e≠cD) args bj
def dB(C:a2)(h:V an):(Nat->Prop)->List bG->List J->Prop
 |_,[],bj=>bj=[]
 |P,I::b7,bj=>∃v jL bv,bj=v::jL/\(∀e,bv e->P e)/\cR C h bv I v/\dB C h (λe=>P e/\¬bv e) b7 jL
end
mutual
def cR.ad{P:Nat->Prop}(F:∀e,P e->ab C U e=ab C h e):∀(I:bG) (v:J),cR C h P I v->cR C U P I v
 | .mk kind at_ name no ty n args,v,a=>by
   unfold cR at a ⊢
   obtain⟨b,T,bB,bl,W,au,aP,bK,cr,dP,fi,kd,a8,cD,bj,sh,uR,uW,yA⟩:=a
   have aD:∀Y,al C U (.ptr b Y)=al C h (.ptr b Y):=λY=>by rw[cg,cg,F b bB]
   exact⟨b,T,bB,bl.ad (F b bB),by rw[aD];exact W,by rw[aD];exact au,by rw[aD];exact aP,by rw[aD];exact bK,by rw[aD];exact cr,by rw[aD];exact dP,by rw[aD];exact fi,by rw[aD];exact kd,a8,cD,bj,by rw[aD];exact sh,uR.ad F,uW,dB.ad (λe H=>F e H.1) args bj yA⟩
def dB.ad{P:Nat->Prop}(F:∀e,P e->ab C U e=ab C h e):∀(b7:List bG) (bj:List J),dB C h P b7 bj->dB C U P b7 bj
 |[],bj,a=>by unfold dB at a ⊢;exact a
 |I::b7,bj,a=>by
  unfold dB at a ⊢
  obtain⟨v,jL,bv,T,b6,W,au⟩:=a
  exact⟨v,jL,bv,T,b6,cR.ad (λe H=>F e (b6 e H)) I v W,dB.ad (λe H=>F e H.1) b7 jL au⟩
end
mutual
def cR.lift{P bv:Nat->Prop}(F:∀e,P e->bv e):∀(I:bG) (v:J),cR C h P I v->cR C h bv I v
 | .mk kind at_ name no ty n args,v,a=>by
   unfold cR at a ⊢
   obtain⟨b,T,bB,bl,W,au,aP,bK,cr,dP,fi,kd,a8,cD,bj,sh,uR,uW,yA⟩:=a
   exact⟨b,T,F b bB,bl,W,au,aP,bK,cr,dP,fi,kd,a8,cD,bj,sh,uR.lift F,uW,dB.lift (λe H=>⟨F e H.1,H.2⟩) args bj yA⟩
def dB.lift{P bv:Nat->Prop}(F:∀e,P e->bv e):∀(b7:List bG) (bj:List J),dB C h P b7 bj->dB C h bv b7 bj
 |[],bj,a=>by unfold dB at a ⊢;exact a
 |I::b7,bj,a=>by
  unfold dB at a ⊢
  obtain⟨v,jL,eY,T,b6,W,au⟩:=a
  exact⟨v,jL,eY,T,λe H=>F e (b6 e H),W,dB.lift (λe H=>⟨F e H.1,H.2⟩) b7 jL au⟩
end
def dB.nil{P:Nat->Prop}:dB C h P [] []:=by unfold dB;rfl
def g9(kind at_:Int)(name:bq)(no:Bool)(ty:dJ)(n:Int)(a8:J):List J:=[.Z kind, .Z at_, .str name, .bool no, .bool ty.b, .bool ty.s, .Z ty.w, .int .u64 n,a8]
def cR.of{P:Nat->Prop}{b cD:Nat}{kind at_ n:Int}{name:bq}{no:Bool}{ty:dJ}{a8:J}{m:Nat}{st:nW}{args:List bG}{bj:List J}(ai:ab C h b=some (.cells (V.ofList (g9 kind at_ name no ty n a8) 0 .nil) m st))(bB:P b)
 (aI:d1 C h P cD a8 1 (bj.map λv=>[v]))(uW:bj≠[]->cD≠b)(aE:dB C h (λe=>P e/\e≠b/\e≠cD) args bj)(bl:st= .own:=by rfl)(bs:0<m:=by exact Nat.zero_lt_succ _):cR C h P (.mk kind at_ name no ty n args) (.ptr b 0):=by
 unfold cR
 refine⟨b,rfl,bB,⟨_,_,bl▸ai,bs⟩, ?_, ?_, ?_, ?_, ?_, ?_, ?_, ?_,a8,cD,bj, ?_,aI,uW,aE⟩<;>(rw[bR ai,kM];rfl)
def d1.nil(P:Nat->Prop)(br:Nat):d1 C h P 0 .aU br []:=⟨λI=>absurd rfl I,Zs,Zs,rfl,λi aN=>by simp at aN,λi r aa v aN=>by simp at aN⟩
def cR.leaf{P:Nat->Prop}{b:Nat}{kind at_ n:Int}{name:bq}{no:Bool}{ty:dJ}{m:Nat}{st:nW}(ai:ab C h b=some (.cells (V.ofList (g9 kind at_ name no ty n .aU) 0 .nil) m st))(bB:P b)(bl:st= .own:=by rfl)(bs:0<m:=by exact Nat.zero_lt_succ _):cR C h P (.mk kind at_ name no ty n []) (.ptr b 0):=
 cR.of (bj:=[]) ai bB (d1.nil P 1) (λa=>absurd rfl a) dB.nil bl bs
def X7:∀bj:List J,(bj.map λv=>[v]).flatten=bj:=by
 intro bj
 induction bj with
 |nil=>rfl
 |cons K l am=>simp[am]
def cR.lit{P:Nat->Prop}{b cD F cap:Nat}{kind at_ n:Int}{name:bq}{no:Bool}{ty:dJ}{m:Nat}{st i1:nW}{args:List bG}{bj:List J}(ai:ab C h b=some (.cells (V.ofList (g9 kind at_ name no ty n (.slice cD 0 F cap)) 0 .nil) m st))(bB:P b)
 (IS:ab C h cD=some (.cells (V.ofList bj 0 .nil) F i1))(ao5:P cD)(aL:bj.length=F)(iX:F<=1000)(uW:cD≠b)(aE:dB C h (λe=>P e/\e≠b/\e≠cD) args bj)(bl:st= .own:=by rfl)(bs:0<m:=by exact Nat.zero_lt_succ _):cR C h P (.mk kind at_ name no ty n args) (.ptr b 0):=
 cR.of ai bB (Eb (bF:=bj.map λv=>[v]) (by rw[X7,Yh];exact IS) (by simpa using aL) Zs Zo ao5) (λ_=>uW) aE bl bs
def dB.one{P bv:Nat->Prop}{I:bG}{v:J}(a:cR C h bv I v)(b6:∀e,bv e->P e):dB C h P [I] [v]:=by
 unfold dB;exact⟨v,[],bv,rfl,b6,a,dB.nil⟩
def dB.two{P bv eY:Nat->Prop}{I f:bG}{v w:J}(a:cR C h bv I v)(F:cR C h eY f w)(b6:∀e,bv e->P e)(Z:∀e,eY e->P e/\¬bv e):dB C h P [I,f] [v,w]:=by
 unfold dB;exact⟨v,[w],bv,rfl,b6,a,dB.one F Z⟩
def dB.snoc{bv:Nat->Prop}{I:bG}{v:J}(F:cR C h bv I v):∀{b7:List bG}{bj:List J}{oJ P:Nat->Prop},dB C h oJ b7 bj->(∀e,oJ e->P e)->(∀e,bv e->P e/\¬oJ e)->dB C h P (b7++[I]) (bj++[v]):=by
 intro b7
 induction b7 with
 |nil=>intro bj oJ P a T W;unfold dB at a;subst a;exact dB.one F (λe H=>(W e H).1)
 |cons K l am=>
  intro bj oJ P a T W
  unfold dB at a
  obtain⟨w,jL,eY,rfl,b6,au,aP⟩:=a
  show dB C h P (K::(l++[I])) (w::(jL++[v]))
  unfold dB
  exact⟨w,jL++[v],eY,rfl,λe H=>T e (b6 e H),au,am aP (λe H=>⟨T e H.1,H.2⟩) (λe H=>⟨⟨(W e H).1,λiV=>(W e H).2 (b6 e iV)⟩,λo8=>(W e H).2 o8.1⟩)⟩
def cR.ptr{P:Nat->Prop}:∀{I:bG}{v:J},cR C h P I v->∃b,v= .ptr b 0/\P b/\al C h (.ptr b 0)=some (.Z I.kind)
 | .mk ..,_,a=>by
   unfold cR at a
   obtain⟨b,T,bB,_,W,_⟩:=a
   exact⟨b,T,bB,W⟩
def cR.open{P:Nat->Prop}:∀{I:bG}{v:J},cR C h P I v->∃b a8 cD bj,v= .ptr b 0/\P b/\al C h (.ptr b 0)=some (.Z I.kind)/\al C h (.ptr b 1)=some (.Z I.at_)/\al C h (.ptr b 2)=some (.str I.name)/\al C h (.ptr b 3)=some (.bool I.no)
 /\al C h (.ptr b 4)=some (.bool I.ty.b)/\al C h (.ptr b 5)=some (.bool I.ty.s)/\al C h (.ptr b 6)=some (.Z I.ty.w)/\al C h (.ptr b 7)=some (.int .u64 I.n)
 /\al C h (.ptr b 8)=some a8/\d1 C h P cD a8 1 (bj.map λv=>[v])/\dB C h P I.args bj
 | .mk ..,_,a=>by
   unfold cR at a
   obtain⟨b,T,bB,bl,W,au,aP,bK,cr,dP,fi,kd,a8,cD,bj,sh,uR,uW,yA⟩:=a
   exact⟨b,a8,cD,bj,T,bB,W,au,aP,bK,cr,dP,fi,kd,sh,uR,dB.lift (λe H=>H.1) _ _ yA⟩
def dB.len:∀{b7:List bG}{bj:List J}{P:Nat->Prop},dB C h P b7 bj->bj.length=b7.length:=by
 intro b7
 induction b7 with
 |nil=>intro bj P a;unfold dB at a;subst a;rfl
 |cons K l am=>
  intro bj P a
  unfold dB at a
  obtain⟨w,jL,bv,rfl,b6,T,W⟩:=a
  simp[am W]
def dB.get:∀{b7:List bG}{bj:List J}{P:Nat->Prop},dB C h P b7 bj->∀(i:Nat) I,b7[i]? =some I->∃v,bj[i]? =some v/\cR C h P I v:=by
 intro b7
 induction b7 with
 |nil=>intro bj P a i I bA;simp at bA
 |cons K l am=>
  intro bj P a i I bA
  unfold dB at a
  obtain⟨w,jL,bv,rfl,b6,T,W⟩:=a
  cases i with
  |zero=>simp at bA;subst bA;exact⟨w,rfl,cR.lift b6 _ _ T⟩
  |succ i=>
   obtain⟨v,au,aP⟩:=am W i I (by simpa using bA)
   exact⟨v,by simpa using au,cR.lift (λe H=>H.1) _ _ aP⟩
def d1.one{P:Nat->Prop}{b:Nat}{a8:J}{bj:List J}(a:d1 C h P b a8 1 (bj.map λv=>[v])){i:Nat}{v:J}(aN:bj[i]? =some v):dd 1 a8 (.Z (i:Int))=some (.ptr b i)/\al C h (.ptr b i)=some v/\P b:=by
 have ls:=(Zc.1 aN).1
 have T:=a.e9 i (by simpa using ls)
 have W:=a.cell i [v] 0 v (by rw[Zt,aN];rfl) rfl
 rw[Yh]at T
 rw[Yh,ZT]at W
 exact⟨T,W,a.ai (λI=>by simp at I;subst I;simp at aN)⟩
def akt{br F:Nat}{x:J}{m:List J}(ah:lh C h br x=some (F,m))(aL:0<F)(ai:F<=1048576):
 is C h j br .aU x=some (.fE (.fm j 0 F br) (bo C h j (some (.cells (V.ofList m 0 .nil) m.length (.grow [])))) (j+1)):=by
 simp only[is,ah]
 rw[hO,Zh Zo]
 simp[yd,tz,ln ai,nd]
def akr{br F b n:Nat}{x:J}{m:List J}{c:V J}{fz:List Nat}(cw:0<br)(ah:lh C h br x=some (F,m))(aL:0<F)(ai:n+F<=1048576)(aoo:jI m=true)
 (aM:C.ba<=b)(bl:ab C h b=some (.cells c (n*br) (.grow fz))):
 is C h j br (.fm b 0 n br) x=some (.fE (.fm j 0 (n+F) br) (bo C (bo C h b (some (.cells c (n*br) .j6))) j (some (.cells (d3 c (n*br) m) (n*br+m.length) (.grow (b::fz))))) (j+1)):=by
 simp only[is,ah]
 rw[hO,Zh Zo]
 have c4:¬(0+(n+F)*br<=n*br):=by
  have:0<F*br:=Nat.mul_pos aL cw
  rw[Ya];omega
 have Q0:Nat.ble (0+(n+F)*br) (n*br)=false:=by
  cases b6:Nat.ble (0+(n+F)*br) (n*br)with
  |false=>rfl
  |true=>exact absurd (jm b6) c4
 simp only[yd,HN,bl,kD,ln aM,ln ai,aoo,Q0]
 simp[fG,nd]
def aks{br F b n:Nat}{x:J}{m l:List J}{c:V J}{st:nW}{ao:Nat}(cw:0<br)(ah:lh C h br x=some (F,m))(aL:0<F)(ai:n+F<=1048576)
 (bl:ab C h b=some (.cells c ao st))(aB:x4 c l)(aD:l.length=n*br):
 is C h j br (.slice b 0 n n) x=some (.fE (.fm j 0 (n+F) br) (bo C h j (some (.cells (V.ofList (l++m) 0 .nil) (l++m).length (.grow [])))) (j+1)):=by
 simp only[is,ah]
 rw[hO,Zh Zo]
 have Q0:Nat.ble (n+F) n=false:=by
  cases b6:Nat.ble (n+F) n with
  |false=>rfl
  |true=>exact absurd (jm b6) Zo
 have IT:m3 C h b 0 (n*br)=some l:=by
  simp only[m3,cellsOf,bl]
  rw[ο aB _ _ Zo]
  simp[<-aD]
 simp only[yd,Q0,jz,IT,tz,ln ai,e6,nd,mg,hw]
def gC(C:a2)(h:V an)(s:J)(br:Nat)(l:List J)(cM:List Nat):Prop:=
 kC C h s br l cM\/∃b n c st,s= .slice b 0 n n/\l.length=n*br/\cM=[b]/\ab C h b=some (.cells c (n*br) st)/\x4 c l
def gC.ad{s:J}{br:Nat}{l:List J}{cM:List Nat}(a:gC C h s br l cM)(aL:∀e∈cM,ab C U e=ab C h e):gC C U s br l cM:=by
 rcases a with a|⟨b,n,c,st,T,W,au,aP,bK⟩
 ·exact .inl (a.ad aL)
 ·exact .inr ⟨b,n,c,st,T,W,au,by rw[aL b (by rw[au];exact Zv ..)];exact aP,bK⟩
def gC.append{br F:Nat}{s x:J}{l m:List J}{cM:List Nat}(a:gC C h s br l cM)(cw:0<br)(ah:lh C h br x=some (F,m))(bs:m.length=F*br)(aL:0<F)(T:jI m=true)
 (ai:l.length+m.length<=1048576)(aM:C.ba<=j)(c4:∀e∈cM,e<j):
 ∃fg U gG,is C h j br s x=some (.fE fg U (j+1))/\kC C U fg br (l++m) gG/\(∀e∈gG,e=j\/e∈cM)/\∀e,e≠j->e∉cM->ab C U e=ab C h e:=by
 have abv:F<=F*br:=YV F cw
 rcases a with (⟨rfl,rfl,rfl⟩|⟨b,fz,n,c,rfl,W,rfl,aP,bK,cr,dP⟩)|⟨b,n,c,st,rfl,W,rfl,aP,bK⟩
 ·refine⟨_,_,[j],akt ah aL (by simp at ai;omega), .inr ⟨j,[],F,_,rfl,by simpa using bs,rfl,by simpa using aM,Zs,by rw[bi aM,bs], ?_⟩,Zs,λe H _=>aG aM H⟩
  simpa using og m
 ·have k7:n<=n*br:=YV n cw
  have gp:b<j:=c4 b (Zv ..)
  refine⟨_,_,j::b::fz,akr cw ah aL Zo T (aP b (Zv ..)) cr, .inr ⟨j,b::fz,n+F,d3 c (n*br) m,rfl,by rw[ZO,W,bs,Ya],rfl, ?_, ?_, ?_, ?_⟩, ?_,λe H Na=> ?_⟩
  ·intro e H
   rcases Zq.1 H with rfl|H
   ·exact aM
   ·exact aP e H
  ·intro aB
   have:=c4 j aB
   omega
  ·rw[bi aM,bs,Ya]
  ·rw[<-W];exact dP.app m
  ·intro e H
   rcases Zq.1 H with rfl|H
   ·exact .inl rfl
   ·exact .inr H
  ·simp only[Zq,YU]at Na
   rw[aG aM H,aG (aP b (Zv ..)) Na.1]
 ·have k7:n<=n*br:=YV n cw
  refine⟨_,_,[j],aks cw ah aL Zo aP bK W, .inr ⟨j,[],n+F,_,rfl,by rw[ZO,W,bs,Ya],rfl,by simpa using aM,Zs,by rw[bi aM,ZO,W,bs,Ya],og _⟩,Zs,λe H _=>aG aM H⟩
def gC.rH{br:Nat}{s:J}{bF:List (List J)}{cM:List Nat}(a:gC C h s br bF.flatten cM)(eX:0<br)(Z:∀r∈bF,r.length=br)(bs:bF.length<=300000){P:Nat->Prop}(aD:∀e∈cM,P e):∃b,d1 C h P b s br bF:=by
 rcases a with a|⟨b,n,c,st,rfl,W,rfl,aP,bK⟩
 ·exact a.rH eX Z bs aD
 ·have gn:=wW Z
  have aM:n=bF.length:=Nat.eq_of_mul_eq_mul_right eX (by rw[<-W,gn])
  subst aM
  refine⟨b,λ_=>aD b (Zv ..),bs,Z,ph ..,λi aN=>by rw[Gk _ aN,ZP],λi r aa v aN bL=> ?_⟩
  rw[cg,aP]
  exact(bK _).trans (P6 bF Z i r aa v aN bL)
def gC.Kr{s:J}{bj:List J}{cM:List Nat}(a:gC C h s 1 bj cM){P:Nat->Prop}(bs:bj.length<=300000)(aD:∀e∈cM,P e):∃b,d1 C h P b s 1 (bj.map λv=>[v]):=by
 have cz:gC C h s 1 (bj.map λv=>[v]).flatten cM:=by rw[X7];exact a
 exact cz.rH Zd Zs (by simpa using bs) aD
end
end
end Go.bk

namespace Go.bk
noncomputable section
structure jx(G:Prop):Prop where
 Y:G
def bp{A:Prop}(a:A:=by(simp(disch:=omega) only[s0,rJ,vX,uu,te,uv,vT,vS,vJ,sM,qj,tZ,vy,oj,p5,t2,vD,vE,vF,vG,vH,vA,vB,vC,wk,wo,wp,wq,wr,ws,wt,wu,wv,wl,wm,wn,rP,wi,kM,J.cells,wz,wy,wx,vN,vq,vo,vp,vn,vm,vr,v2,v6,uL,uK,r6,uE,uF,ph,qL,sK,sL,eC,pQ,pP,lD,zd,Ye,ze,Z7,Z8,YH,ZS,ZI,ZC,ZQ,Z5,ZZ,Z2,Z6,ZE,ZP,ZT,ZD,ZA,reduceIte,Nat.reduceEqDiff,Nat.reduceAdd,Nat.reduceMul,Nat.reduceLT,Nat.reduceBEq,Yo,Z9,Yi,Yg,e6,jz,Yt,Yd,Yk,Nat.reduceLeDiff,Nat.reduceSub,fw])):A:=a
def fQ{A:Prop}(a:A:=by(simp(disch:=omega) only[s0,rJ,vX,uu,te,uv,vT,vS,vJ,sM,qj,tZ,vy,oj,p5,t2,vD,vE,vF,vG,vH,vA,vB,vC,wk,wo,wp,wq,wr,ws,wt,wu,wv,wl,wm,wn,rP,wi,kM,J.cells,wz,wy,wx,vN,vq,vo,vp,vn,vm,vr,v2,v6,uL,uK,r6,uE,uF,ph,qL,sK,sL,eC,pQ,pP,lD,zd,Ye,ze,Z7,Z8,YH,ZS,ZI,ZC,ZQ,Z5,ZZ,Z2,Z6,ZE,ZP,ZT,ZD,ZA,reduceIte,Nat.reduceEqDiff,Nat.reduceAdd,Nat.reduceMul,Nat.reduceLT,Nat.reduceBEq,Yo,Z9,Yi,Yg,e6,jz,Yt,Yd,Yk,Nat.reduceLeDiff,Nat.reduceSub,fw]);rfl):A:=a
def aQ{A bm:Prop}(t:bm)(a:bm->A:=by intro t;(simp(disch:=omega) only[s0,rJ,vX,uu,te,uv,vT,vS,vJ,sM,qj,tZ,vy,oj,p5,t2,vD,vE,vF,vG,vH,vA,vB,vC,wk,wo,wp,wq,wr,ws,wt,wu,wv,wl,wm,wn,rP,wi,kM,J.cells,wz,wy,wx,vN,vq,vo,vp,vn,vm,vr,v2,v6,uL,uK,r6,uE,uF,ph,qL,sK,sL,eC,pQ,pP,lD,zd,Ye,ze,Z7,Z8,YH,ZS,ZI,ZC,ZQ,Z5,ZZ,Z2,Z6,ZE,ZP,ZT,ZD,ZA,reduceIte,Nat.reduceEqDiff,Nat.reduceAdd,Nat.reduceMul,Nat.reduceLT,Nat.reduceBEq,Yo,Z9,Yi,Yg,e6,jz,Yt,Yd,Yk,Nat.reduceLeDiff,Nat.reduceSub,fw]);exact t):A:=a t
def ε{ca A:Prop}(f:ca)(a:ca->A:=by intro f;(simp(disch:=omega) only[s0,rJ,vX,uu,te,uv,vT,vS,vJ,sM,qj,tZ,vy,oj,p5,t2,vD,vE,vF,vG,vH,vA,vB,vC,wk,wo,wp,wq,wr,ws,wt,wu,wv,wl,wm,wn,rP,wi,kM,J.cells,wz,wy,wx,vN,vq,vo,vp,vn,vm,vr,v2,v6,uL,uK,r6,uE,uF,ph,qL,sK,sL,eC,pQ,pP,lD,zd,Ye,ze,Z7,Z8,YH,ZS,ZI,ZC,ZQ,Z5,ZZ,Z2,Z6,ZE,ZP,ZT,ZD,ZA,reduceIte,Nat.reduceEqDiff,Nat.reduceAdd,Nat.reduceMul,Nat.reduceLT,Nat.reduceBEq,Yo,Z9,Yi,Yg,e6,jz,Yt,Yd,Yk,Nat.reduceLeDiff,Nat.reduceSub,fw,f])):A:=a f
def A1{A bm:Prop}(F:jx bm)(a:jx bm->A:=by intro F;(simp(disch:=omega) only[s0,rJ,vX,uu,te,uv,vT,vS,vJ,sM,qj,tZ,vy,oj,p5,t2,vD,vE,vF,vG,vH,vA,vB,vC,wk,wo,wp,wq,wr,ws,wt,wu,wv,wl,wm,wn,rP,wi,kM,J.cells,wz,wy,wx,vN,vq,vo,vp,vn,vm,vr,v2,v6,uL,uK,r6,uE,uF,ph,qL,sK,sL,eC,pQ,pP,lD,zd,Ye,ze,Z7,Z8,YH,ZS,ZI,ZC,ZQ,Z5,ZZ,Z2,Z6,ZE,ZP,ZT,ZD,ZA,reduceIte,Nat.reduceEqDiff,Nat.reduceAdd,Nat.reduceMul,Nat.reduceLT,Nat.reduceBEq,Yo,Z9,Yi,Yg,e6,jz,Yt,Yd,Yk,Nat.reduceLeDiff,Nat.reduceSub,fw]);exact F.Y):A:=a F
def cS{A bm:Prop}(F:jx bm)(a:jx bm->A:=by intro F;(repeat(with_reducible first|refine gX ?_ |refine lB ?_ |refine lA ?_ |refine oO ?_ |refine EQ ?_ |refine ti ?_ |refine GN ?_ |refine GM ?_ |refine Gp ?_ |refine Gs ?_ |refine Gn ?_ |refine Gr ?_ |refine GA ?_ |refine E2 ?_ |refine GK ?_ |refine GJ ?_ |refine tD ?_ |refine tC ?_ |refine tB ?_ |refine tA ?_ |refine Fu ?_ |refine pJ ?_ |refine pI ?_ |refine BB ?_ |refine G5 ?_ |refine G6 ?_ |(refine fS (im (by(first|assumption|(simp(disch:=omega) only[bi,aG]<;>rfl)|(simp(disch:=omega) only[bi,aG]))) Zo rfl Zd Zd rfl) ?_)|((conv=>arg 1;simp(disch:=omega) only[s0,rJ,vX,uu,te,uv,vT,vS,vJ,sM,qj,tZ,vy,oj,p5,t2,vD,vE,vF,vG,vH,vA,vB,vC,wk,wo,wp,wq,wr,ws,wt,wu,wv,wl,wm,wn,rP,wi,kM,J.cells,wz,wy,wx,vN,vq,vo,vp,vn,vm,vr,v2,v6,uL,uK,r6,uE,uF,ph,qL,sK,sL,eC,pQ,pP,lD,zd,Ye,ze,Z7,Z8,YH,ZS,ZI,ZC,ZQ,Z5,ZZ,Z2,Z6,ZE,ZP,ZT,ZD,ZA,reduceIte,Nat.reduceEqDiff,Nat.reduceAdd,Nat.reduceMul,Nat.reduceLT,Nat.reduceBEq,Yo,Z9,Yi,Yg,e6,jz,Yt,Yd,Yk,Nat.reduceLeDiff,Nat.reduceSub,fw]);(first|refine lB ?_ |refine lA ?_ |refine pJ ?_ |refine pI ?_ |refine tD ?_ |refine tC ?_ |refine tB ?_ |refine tA ?_))|dsimp only));exact F.Y):A:=a F
def ce{ca A bm:Prop}(f:ca)(F:jx bm)(a:ca->jx bm->A:=by intro f F;(repeat(with_reducible first|refine gX ?_ |refine lB ?_ |refine lA ?_ |refine oO ?_ |refine EQ ?_ |refine ti ?_ |refine GN ?_ |refine GM ?_ |refine Gp ?_ |refine Gs ?_ |refine Gn ?_ |refine Gr ?_ |refine GA ?_ |refine E2 ?_ |refine GK ?_ |refine GJ ?_ |refine tD ?_ |refine tC ?_ |refine tB ?_ |refine tA ?_ |refine Fu ?_ |refine pJ ?_ |refine pI ?_ |refine BB ?_ |refine G5 ?_ |refine G6 ?_ |(refine fS (im (by(first|assumption|(simp(disch:=omega) only[bi,aG,f]<;>rfl)|(simp(disch:=omega) only[bi,aG,f]))) Zo rfl Zd Zd rfl) ?_)|((conv=>arg 1;simp(disch:=omega) only[s0,rJ,vX,uu,te,uv,vT,vS,vJ,sM,qj,tZ,vy,oj,p5,t2,vD,vE,vF,vG,vH,vA,vB,vC,wk,wo,wp,wq,wr,ws,wt,wu,wv,wl,wm,wn,rP,wi,kM,J.cells,wz,wy,wx,vN,vq,vo,vp,vn,vm,vr,v2,v6,uL,uK,r6,uE,uF,ph,qL,sK,sL,eC,pQ,pP,lD,zd,Ye,ze,Z7,Z8,YH,ZS,ZI,ZC,ZQ,Z5,ZZ,Z2,Z6,ZE,ZP,ZT,ZD,ZA,reduceIte,Nat.reduceEqDiff,Nat.reduceAdd,Nat.reduceMul,Nat.reduceLT,Nat.reduceBEq,Yo,Z9,Yi,Yg,e6,jz,Yt,Yd,Yk,Nat.reduceLeDiff,Nat.reduceSub,fw,f]);(first|refine lB ?_ |refine lA ?_ |refine pJ ?_ |refine pI ?_ |refine tD ?_ |refine tC ?_ |refine tB ?_ |refine tA ?_))|dsimp only));exact F.Y):A:=a f F
def yv{A bm:Prop}(F:jx bm)(a:jx bm->A:=by intro F;(repeat(with_reducible first|refine lB ?_ |refine lA ?_ |refine oO ?_ |refine EQ ?_ |refine ti ?_ |refine GN ?_ |refine GM ?_ |refine Gp ?_ |refine Gs ?_ |refine Gn ?_ |refine Gr ?_ |refine GA ?_ |refine E2 ?_ |refine GK ?_ |refine GJ ?_ |refine tD ?_ |refine tC ?_ |refine tB ?_ |refine tA ?_ |refine Fu ?_ |refine pJ ?_ |refine pI ?_ |refine BB ?_ |refine G5 ?_ |refine G6 ?_ |(refine fS (im (by(first|assumption|(simp(disch:=omega) only[bi,aG]<;>rfl)|(simp(disch:=omega) only[bi,aG]))) Zo rfl Zd Zd rfl) ?_)|((conv=>arg 1;simp(disch:=omega) only[s0,rJ,vX,uu,te,uv,vT,vS,vJ,sM,qj,tZ,vy,oj,p5,t2,vD,vE,vF,vG,vH,vA,vB,vC,wk,wo,wp,wq,wr,ws,wt,wu,wv,wl,wm,wn,rP,wi,kM,J.cells,wz,wy,wx,vN,vq,vo,vp,vn,vm,vr,v2,v6,uL,uK,r6,uE,uF,ph,qL,sK,sL,eC,pQ,pP,lD,zd,Ye,ze,Z7,Z8,YH,ZS,ZI,ZC,ZQ,Z5,ZZ,Z2,Z6,ZE,ZP,ZT,ZD,ZA,reduceIte,Nat.reduceEqDiff,Nat.reduceAdd,Nat.reduceMul,Nat.reduceLT,Nat.reduceBEq,Yo,Z9,Yi,Yg,e6,jz,Yt,Yd,Yk,Nat.reduceLeDiff,Nat.reduceSub,fw]);(first|refine lB ?_ |refine lA ?_ |refine pJ ?_ |refine pI ?_ |refine tD ?_ |refine tC ?_ |refine tB ?_ |refine tA ?_))|dsimp only));exact F.Y):A:=a F
def rk{ca A bm:Prop}(f:ca)(F:jx bm)(a:ca->jx bm->A:=by intro f F;(repeat(with_reducible first|refine lB ?_ |refine lA ?_ |refine oO ?_ |refine EQ ?_ |refine ti ?_ |refine GN ?_ |refine GM ?_ |refine Gp ?_ |refine Gs ?_ |refine Gn ?_ |refine Gr ?_ |refine GA ?_ |refine E2 ?_ |refine GK ?_ |refine GJ ?_ |refine tD ?_ |refine tC ?_ |refine tB ?_ |refine tA ?_ |refine Fu ?_ |refine pJ ?_ |refine pI ?_ |refine BB ?_ |refine G5 ?_ |refine G6 ?_ |(refine fS (im (by(first|assumption|(simp(disch:=omega) only[bi,aG,f]<;>rfl)|(simp(disch:=omega) only[bi,aG,f]))) Zo rfl Zd Zd rfl) ?_)|((conv=>arg 1;simp(disch:=omega) only[s0,rJ,vX,uu,te,uv,vT,vS,vJ,sM,qj,tZ,vy,oj,p5,t2,vD,vE,vF,vG,vH,vA,vB,vC,wk,wo,wp,wq,wr,ws,wt,wu,wv,wl,wm,wn,rP,wi,kM,J.cells,wz,wy,wx,vN,vq,vo,vp,vn,vm,vr,v2,v6,uL,uK,r6,uE,uF,ph,qL,sK,sL,eC,pQ,pP,lD,zd,Ye,ze,Z7,Z8,YH,ZS,ZI,ZC,ZQ,Z5,ZZ,Z2,Z6,ZE,ZP,ZT,ZD,ZA,reduceIte,Nat.reduceEqDiff,Nat.reduceAdd,Nat.reduceMul,Nat.reduceLT,Nat.reduceBEq,Yo,Z9,Yi,Yg,e6,jz,Yt,Yd,Yk,Nat.reduceLeDiff,Nat.reduceSub,fw,f]);(first|refine lB ?_ |refine lA ?_ |refine pJ ?_ |refine pI ?_ |refine tD ?_ |refine tC ?_ |refine tB ?_ |refine tA ?_))|dsimp only));exact F.Y):A:=a f F
def h5{A bm:Prop}(F:jx bm)(a:jx bm->A:=by intro F;(with_reducible first|refine gX ?_ |refine lB ?_ |refine lA ?_ |refine oO ?_ |refine EQ ?_ |refine ti ?_ |refine GN ?_ |refine GM ?_ |refine Gp ?_ |refine Gs ?_ |refine Gn ?_ |refine Gr ?_ |refine GA ?_ |refine E2 ?_ |refine GK ?_ |refine GJ ?_ |refine tD ?_ |refine tC ?_ |refine tB ?_ |refine tA ?_ |refine Fu ?_ |refine pJ ?_ |refine pI ?_ |refine BB ?_ |refine G5 ?_ |refine G6 ?_ |(refine fS (im (by(first|assumption|(simp(disch:=omega) only[bi,aG]<;>rfl)|(simp(disch:=omega) only[bi,aG]))) Zo rfl Zd Zd rfl) ?_)|((conv=>arg 1;simp(disch:=omega) only[s0,rJ,vX,uu,te,uv,vT,vS,vJ,sM,qj,tZ,vy,oj,p5,t2,vD,vE,vF,vG,vH,vA,vB,vC,wk,wo,wp,wq,wr,ws,wt,wu,wv,wl,wm,wn,rP,wi,kM,J.cells,wz,wy,wx,vN,vq,vo,vp,vn,vm,vr,v2,v6,uL,uK,r6,uE,uF,ph,qL,sK,sL,eC,pQ,pP,lD,zd,Ye,ze,Z7,Z8,YH,ZS,ZI,ZC,ZQ,Z5,ZZ,Z2,Z6,ZE,ZP,ZT,ZD,ZA,reduceIte,Nat.reduceEqDiff,Nat.reduceAdd,Nat.reduceMul,Nat.reduceLT,Nat.reduceBEq,Yo,Z9,Yi,Yg,e6,jz,Yt,Yd,Yk,Nat.reduceLeDiff,Nat.reduceSub,fw]);(first|refine lB ?_ |refine lA ?_ |refine pJ ?_ |refine pI ?_ |refine tD ?_ |refine tC ?_ |refine tB ?_ |refine tA ?_))|dsimp only);exact F.Y):A:=a F
def ts{ca A bm:Prop}(f:ca)(F:jx bm)(a:ca->jx bm->A:=by intro f F;(with_reducible first|refine gX ?_ |refine lB ?_ |refine lA ?_ |refine oO ?_ |refine EQ ?_ |refine ti ?_ |refine GN ?_ |refine GM ?_ |refine Gp ?_ |refine Gs ?_ |refine Gn ?_ |refine Gr ?_ |refine GA ?_ |refine E2 ?_ |refine GK ?_ |refine GJ ?_ |refine tD ?_ |refine tC ?_ |refine tB ?_ |refine tA ?_ |refine Fu ?_ |refine pJ ?_ |refine pI ?_ |refine BB ?_ |refine G5 ?_ |refine G6 ?_ |(refine fS (im (by(first|assumption|(simp(disch:=omega) only[bi,aG,f]<;>rfl)|(simp(disch:=omega) only[bi,aG,f]))) Zo rfl Zd Zd rfl) ?_)|((conv=>arg 1;simp(disch:=omega) only[s0,rJ,vX,uu,te,uv,vT,vS,vJ,sM,qj,tZ,vy,oj,p5,t2,vD,vE,vF,vG,vH,vA,vB,vC,wk,wo,wp,wq,wr,ws,wt,wu,wv,wl,wm,wn,rP,wi,kM,J.cells,wz,wy,wx,vN,vq,vo,vp,vn,vm,vr,v2,v6,uL,uK,r6,uE,uF,ph,qL,sK,sL,eC,pQ,pP,lD,zd,Ye,ze,Z7,Z8,YH,ZS,ZI,ZC,ZQ,Z5,ZZ,Z2,Z6,ZE,ZP,ZT,ZD,ZA,reduceIte,Nat.reduceEqDiff,Nat.reduceAdd,Nat.reduceMul,Nat.reduceLT,Nat.reduceBEq,Yo,Z9,Yi,Yg,e6,jz,Yt,Yd,Yk,Nat.reduceLeDiff,Nat.reduceSub,fw,f]);(first|refine lB ?_ |refine lA ?_ |refine pJ ?_ |refine pI ?_ |refine tD ?_ |refine tC ?_ |refine tB ?_ |refine tA ?_))|dsimp only);exact F.Y):A:=a f F
def dR{A:Prop}(a:A:=by exact⟨Zo,λb ai=>zu⟩):A:=a
def c1{A bm lG kV:Prop}(bE:lG)(eS:kV)(F:jx bm)(a:lG->kV->jx bm->A:=by intro bE eS F;refine ce (Za @bE @eS) ⟨?_⟩;exact F.Y):A:=a @bE @eS F
def d9{A bm lG kV oF:Prop}(bE:lG)(eS:kV)(e2:oF)(F:jx bm)(a:lG->kV->oF->jx bm->A:=by intro bE eS e2 F;refine ce (Za @bE (Za @eS @e2)) ⟨?_⟩;exact F.Y):A:=a @bE @eS @e2 F
def gl{A bm lG kV oF up:Prop}(bE:lG)(eS:kV)(e2:oF)(iU:up)(F:jx bm)(a:lG->kV->oF->up->jx bm->A:=by intro bE eS e2 iU F;refine ce (Za @bE (Za @eS (Za @e2 @iU))) ⟨?_⟩;exact F.Y):A:=a @bE @eS @e2 @iU F
def fW{A bm lG kV oF up Az:Prop}(bE:lG)(eS:kV)(e2:oF)(iU:up)(nx:Az)(F:jx bm)(a:lG->kV->oF->up->Az->jx bm->A:=by intro bE eS e2 iU nx F;refine ce (Za @bE (Za @eS (Za @e2 (Za @iU @nx)))) ⟨?_⟩;exact F.Y):A:=a @bE @eS @e2 @iU @nx F
def iu{A bm lG kV oF up Az Hr:Prop}(bE:lG)(eS:kV)(e2:oF)(iU:up)(nx:Az)(uJ:Hr)(F:jx bm)(a:lG->kV->oF->up->Az->Hr->jx bm->A:=by intro bE eS e2 iU nx uJ F;refine ce (Za @bE (Za @eS (Za @e2 (Za @iU (Za @nx @uJ))))) ⟨?_⟩;exact F.Y):A:=a @bE @eS @e2 @iU @nx @uJ F
def eu{A bm lG kV oF up Az Hr Uj:Prop}(bE:lG)(eS:kV)(e2:oF)(iU:up)(nx:Az)(uJ:Hr)(f6:Uj)(F:jx bm)(a:lG->kV->oF->up->Az->Hr->Uj->jx bm->A:=by intro bE eS e2 iU nx uJ f6 F;refine ce (Za @bE (Za @eS (Za @e2 (Za @iU (Za @nx (Za @uJ @f6)))))) ⟨?_⟩;exact F.Y):A:=a @bE @eS @e2 @iU @nx @uJ @f6 F
def LS{A bm lG kV:Prop}(bE:lG)(eS:kV)(F:jx bm)(a:lG->kV->jx bm->A:=by intro bE eS F;refine rk (Za @bE @eS) ⟨?_⟩;exact F.Y):A:=a @bE @eS F
def hm{A bm lG kV oF:Prop}(bE:lG)(eS:kV)(e2:oF)(F:jx bm)(a:lG->kV->oF->jx bm->A:=by intro bE eS e2 F;refine rk (Za @bE (Za @eS @e2)) ⟨?_⟩;exact F.Y):A:=a @bE @eS @e2 F
def aW.Zm{C:a2}{f:Nat}{yf:List J}{h:V an}{j:Nat}{ak Av ay:bJ}(a:aW C f yf h j ak (λ_ _ _=>False))(F:∀ae U aV,ak ae U aV->Av ae U aV):aW C f yf h j Av ay:=a.mono F (λ_ _ _ a=>a.elim)
end
end Go.bk

namespace Go.bk
noncomputable section
open Go.RowKit (Below)
def NO(jC:List Nat)(Y:Nat->List J->Option J)(l:List (Nat×List J×J))(f:Nat)(args:List J):Option J:=bV (om f jC) (qR Y l f args) (Y f args)
section
variable{P:Program}{w:World}
def Env.att{nm:List (String×Nat)}(h8:AC P nm){laid:List (String×DataW Unit)}{jC:List Nat}{Y:Nat->List J->Option J}{l:List (Nat×List J×J)}(a:laidMet P laid w){dW:da}{ec:Nat->Prop}
 (cJ:Env ⟨P,nl (g3 P nm laid P.globals.size).2 .nil,(g3 P nm laid P.globals.size).1,Y,P.globals.size⟩ w dW ec)(bb:KB l=true)
 (k2:∀x∈l,∃m,uh ⟨P,nl (g3 P nm laid P.globals.size).2 .nil,(g3 P nm laid P.globals.size).1,Y,P.globals.size⟩ m x.1 x.2.1=some x.2.2):
 ∃S af,Env ⟨P,nl (g3 P nm laid P.globals.size).2 .nil,(g3 P nm laid P.globals.size).1,NO jC Y l,P.globals.size⟩ w S af:=by
 obtain⟨S,af,au,aP⟩:=SE (hf:=NO jC Y l) h8 a
 have hG:=adT cJ bb k2
 refine⟨S,af,cJ.km,⟨λf args v bl=> ?_,λf args v bl S py lT=> ?_⟩,au,aP⟩
 ·have bl:bV (om f jC) (qR Y l f args) (Y f args)=some v:=bl
  rw[fG]at bl
  split at bl
  ·exact hG.val f args v bl
  ·exact cJ.hf.val f args v bl
 ·have bl:bV (om f jC) (qR Y l f args) (Y f args)=some v:=bl
  rw[fG]at bl
  split at bl
  ·exact hG.ok f args v bl S py lT
  ·exact cJ.hf.ok f args v bl S py lT
end
end
end Go.bk

