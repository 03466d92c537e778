/- Part of the proof of the last text; no conditions -/
import Derived.Test.YtmipngjbcdamjaaGreatDoorYc
import Derived.Defers
set_option maxHeartbeats 8000000
set_option linter.all false
namespace Go.Q
noncomputable section
abbrev b2:=Option q
structure dZ where
 fn:Nat
 n:Nat
 aa:Nat
 av:List dI
 am:Bool
 ro:Option Nat
 cs:List dn
abbrev dG:=fa->List bS->dZ->F q->F ac->Nat->b2
def gN(g:Option (Nat×Bool))(V:List (Nat×q)):Option Bool:=
 match g with
 |none=>some true
 |some (E,a)=>(match cd V E with
  |some v=>(match v with| .bool b=>some (b==a)|_=>some false)
  |none=>none)
def ju(f:q->q->Bool):List q->List q->Bool
 |[],[]=>true
 |a::h,b::m=>f a b&&ju f h m
 |_,_=>false
def q.same:Nat->q->q->Bool
 |0,_,_=>false
 |d+1,x,w=>match x,w with
  | .bool a, .bool b=>a==b
  | .int k a, .int co b=>decide (k=co)&&decide (a=b)
  | .str a, .str b=>f2 a b
  | .ptr a b, .ptr g i=>Nat.beq a g&&Nat.beq b i
  | .bt, .bt=>true
  | .slice a b c j, .slice g i m n=>Nat.beq a g&&Nat.beq b i&&Nat.beq c m&&Nat.beq j n
  | .cH a b c j, .cH g i m n=>Nat.beq a g&&Nat.beq b i&&Nat.beq c m&&Nat.beq j n
  | .aw, .aw=>true
  | .map a, .map b=>Nat.beq a b
  | .fq, .fq=>true
  | .func f a b, .func p g i=>decide (f=p)&&ju (q.same d) a g&&ju (q.same d) b i
  | .nilFunc, .nilFunc=>true
  | .iface t v, .iface r s=>Nat.beq t r&&q.same d v s
  | .nilIface, .nilIface=>true
  | .agg a, .agg b=>ju (q.same d) a b
  | .tuple a, .tuple b=>ju (q.same d) a b
  |_,_=>false
def j1(C:ax)(base:Nat)(y:F q):List cA->List (Nat×q)->F ac->Option (List (Nat×q)×F ac)
 |[],V,S=>some (V,S)
 |x::h,V,S=>(match gN x.g V with
  |none=>none
  |some false=>j1 C base y h ((x.i,undef)::V) S
  |some true=>(match fZ x.op with
   | .make=>(match gD x.op C (base+x.i) V y with
     |some (v,bJ)=>et (aP C S (base+x.i) (some bJ)) λS=>j1 C base y h ((x.i,v)::V) S
     |none=>none)
   |_=>(match di x.op C S V y with
    |some v=>j1 C base y h ((x.i,v)::V) S
    |none=>none)))
def nf(C:ax)(y:F q)(V:List (Nat×q))(S:F ac):List cA->Bool
 |[]=>true
 |x::h=>(match gN x.g V with
  |none=>false
  |some false=>nf C y V S h
  |some true=>(match di x.op C S V y,cd V x.i with
   |some v,some L=>q.same 30 v L&&nf C y V S h
   |_,_=>false))
def kY(V:List (Nat×q)):List (Nat×Nat)->F q->Option (F q)
 |[],y=>some y
 |(i,d)::h,y=>(match cd V i with|some v=>et (y.set d (some v)) λy=>kY V h y|none=>none)
def exitTo(id:Nat):List bS->Option (List bS)
 |[]=>none
 | .inBlock a::k=>aQ (Nat.beq a id) (some k)<|exitTo id k
 |_::k=>exitTo id k
def ej{α:Type}(A:Option α)(k:α->b2):b2:=Option.rec (motive:=λ_=>b2) none (λa=>k a) A
def pk(h:List (Nat×q)):Nat->(q->b2)->b2:=
 List.rec (motive:=λ_=>Nat->(q->b2)->b2) (λ_ _=>none)
  (λp _ U E k=>Prod.rec (motive:=λ_=>b2) (λa b=>Bool.rec (motive:=λ_=>b2) (U E k) (k b) (Nat.beq a E)) p) h
def rB(t:F q):Nat->(q->b2)->b2:=
 F.rec (motive:=λ_=>Nat->(q->b2)->b2) (λ_ _=>none)
  (λv _ _ b c i k=>Nat.rec (motive:=λ_=>b2) (Option.rec (motive:=λ_=>b2) none (λa=>k a) v)
   (λE _=>Bool.rec (motive:=λ_=>b2) (c (Nat.div E 2) k) (b (Nat.div E 2) k) (Nat.beq (Nat.mod E 2) 0)) i) t
def kU(x:eQ):List (Nat×q)->F q->(q->b2)->b2:=
 eQ.rec (motive:=λ_=>List (Nat×q)->F q->(q->b2)->b2) (λE V _ k=>pk V E k) (λn _ y k=>rB y n k) (λa _ _ k=>k a) x
def Bc(g:Option (Nat×Bool)):List (Nat×q)->b2->b2->b2:=
 Option.rec (motive:=λ_=>List (Nat×q)->b2->b2->b2) (λ_ a _=>a)
  (λp V a b=>ej (gN (some p) V) λw=>Bool.rec (motive:=λ_=>b2) b a w) g
def pC(h:List (Nat×Nat)):List (Nat×q)->F q->(F q->b2)->b2:=
 List.rec (motive:=λ_=>List (Nat×q)->F q->(F q->b2)->b2) (λ_ y k=>k y)
  (λp _ U V y k=>Prod.rec (motive:=λ_=>b2) (λi d=>pk V i λv=>et (F.set y d (some v)) λy=>U V y k) p) h
def nY(a:bS)(k:List bS)(ar:dZ)(y:F q):List dn:=
 dZ.rec (motive:=λ_=>List dn) (λfn n aa av am ro cs=>⟨fn,n,aa,y,a::k,av, .run,am,ro⟩::cs) ar
def hi(U:dG)(C:ax)(f:Nat)(args:List q)(deferred:Bool)(cs:List dn)(S:F ac)(nx:Nat):b2:=
 match C.P.funcs[f]? with
 |some fn=>(match fn.body with
  |some c=>hG (Nat.lor (fp c) (hQ fn.results.toList)) λaa=>aQ (Nat.ble args.length fn.ntmps&&fA C aa c&&lv aa fn.results.toList) (U .run [.code c] ⟨f,fn.ntmps,aa,[],deferred,none,cs⟩ (F.ofList args 0 .nil) S nx)<|none
  |none=>none)
 |none=>none
def ko(n:Nat):List Nat->List q->F q->Option (F q)
 |[],[],y=>some y
 |p::bE,a::b,y=>aQ (Nat.blt p n) (ko n bE b (y.set p (some a)))<|none
 |_,_,_=>none
def gX(a:bS)(v:q):Option bS:=match a with
 | .iG ab V e rest fin=>some (.o2 ab ((e,v)::V) rest fin)
 | .lE ab base V e fi fin=>some (.drawn ab base ((e,v)::V) fi fin)
 | .inRangeFunc h=>some (.endRangeFunc h)
 |_=>none
def uT(U:dG)(todo:List bS)(ar:dZ)(v:q)(y:F q)(S:F ac)(nx:Nat):b2:=
 match todo with
 |[]=>none
 |a::k=>(match gX a v with|some b=>U .run (b::k) ar y S nx|none=>none)
def j3:List Nat->F q->F q
 |[],y=>y
 |d::h,y=>j3 h (y.set d none)
def jk(todo:List bS)(y:F q):F q:=match todo with
 | .iG ab _ _ _ _::_=>j3 (dstsOf ab.toList) y
 | .lE ab _ _ _ _ _::_=>j3 (dstsOf ab.toList) y
 |_=>y
def nP(chain:List ik)(aS:fa):fa:=match aS with
 | .panicking hq=> .panicking (chain++hq)
 |_=> .panicking chain
def Ap(U:dG)(c:dn)(cs:List dn)(chain:List ik)(S:F ac)(nx:Nat):b2:=
 match c with
 |⟨fn,n,aa,y,todo,av,aS,am,ro⟩=>U (nP chain aS) todo ⟨fn,n,aa,av,am,ro,cs⟩ (jk todo y) S nx
def mN(am:Bool)(cs:List dn):Option (q×List dn):=
 aQ (am) ((match cs with
  |c::rest=>(match c with
   |⟨fn,n,aa,y,todo,av,aS,a,ro⟩=>(match aS with
    | .panicking (⟨v,false⟩::b)=>some (v,⟨fn,n,aa,y,todo,av, .panicking (⟨v,true⟩::b),a,ro⟩::rest)
    |_=>some (.nilIface,cs)))
  |[]=>none))<|some (.nilIface,cs)
def k1(U:dG)(c:bS)(k:List bS)(ar:dZ)(y:F q)(nx:Nat):List (q×F ac)->b2
 |[]=>none
 |[(v,S)]=>(match gX c v with|some d=>U .run (d::k) ar y S nx|none=>none)
 |(v,S)::h=>(match gX c v with
  |some d=>(match U .run (d::k) ar y S nx,k1 U c k ar y nx h with
   |some a,some b=>aQ (q.same 30 a b) (some a) none
   |_,_=>none)
  |none=>none)
def gy(r:bY)(U:dG)(C:ax)(a:bS)(k:List bS)(ar:dZ)(y:F q)(S:F ac)(nx:Nat):b2:=
 match r with
 | .val v=>(match gX a v with|some b=>U .run (b::k) ar y S nx|none=>none)
 | .cu v S nx=>(match gX a v with|some b=>U .run (b::k) ar y S nx|none=>none)
 | .enter f args=>hi U C f args false (nY a k ar y) S nx
 | .known _ _ v=>(match gX a v with|some b=>U .run (b::k) ar y S nx|none=>none)
 | .round h args=>(match H C S h with
   |some (.loop _ _ fn n aa c params assign body _)=>(match ko n params args c with
    |some c=>U .run [.code assign, .beginRound, .code body] ⟨fn,n,aa,[],false,some h,nY a k ar y⟩ c S nx
    |none=>none)
   |_=>none)
 | .defer d=>(match ar with
   |⟨fn,n,aa,av,am,ro,cs⟩=>(match ro with
    |none=>(match gX a undef with|some b=>U .run (b::k) ⟨fn,n,aa,d::av,am,none,cs⟩ y S nx|none=>none)
    |some _=>none))
 | .recover=>(match ar with
   |⟨fn,n,aa,av,am,ro,cs⟩=>(match ro with
    |none=>(match mN am cs with
     |some (v,bG)=>(match gX a v with|some b=>U .run (b::k) ⟨fn,n,aa,av,am,none,bG⟩ y S nx|none=>none)
     |none=>none)
    |some _=>none))
 | .panic v=>(match ar with
   |⟨fn,n,aa,av,am,ro,cs⟩=>(match ro with
    |none=>U (.panicking [⟨v,false⟩]) (a::k) ⟨fn,n,aa,av,am,none,cs⟩ (jk (a::k) y) S nx
    |some _=>none))
 | .fork h=>k1 U a k ar y nx h
def uF(op:eB):ax->F ac->Nat->List (Nat×q)->F q->(q->F ac->Nat->b2)->(bY->b2)->b2:=
 match op with
 | .nB x=>λ_ S nx V y M _=>kU x V y λv=>M v S nx
 | .pick c a b=>λ_ S nx V y M _=>ej (di (.pick c a b) ⟨default, .nil,0,λ_ _=>none,0⟩ S V y) λv=>M v S nx
 | .cW a=>λC S nx V y M _=>kU a V y λa=>ej (W C S a) λv=>M v S nx
 | .ms n a=>λC S nx V y M _=>kU a V y λa=>ej (br C S n a) λv=>M v S nx
 | .off d x=>λ_ S nx V y M _=>kU x V y λa=>ej (ao d a) λv=>M v S nx
 | .mn n an x i=>λC S nx V y M _=>ej (di (.mn n an x i) C S V y) λv=>M v S nx
 | .mo an x i=>λC S nx V y M _=>ej (di (.mo an x i) C S V y) λv=>M v S nx
 | .nE x=>λ_ S nx V y M _=>kU x V y λa=>ej (aY a) λv=>M v S nx
 | .pP op x m=>λ_ S nx V y M _=>kU x V y λa=>kU m V y λb=>ej (ag op a b) λv=>M v S nx
 | .ext i x=>λ_ S nx V y M _=>kU x V y λa=>ej (dE i a) λv=>M v S nx
 | .dT a1 A=>λC S nx V y M _=>ej (di (.dT a1 A) C S V y) λv=>M v S nx
 | .make a1 A=>λC S nx V y _ g=>ej (rZ (.make a1 A) C S nx V y) g
 | .st n a v=>λC S nx V y _ g=>ej (dN (.st n a v) C S nx V y) g
 | .call f args=>λC S nx V y _ g=>ej (dN (.call f args) C S nx V y) g
 | .cy a1 A=>λC S nx V y _ g=>ej (dN (.cy a1 A) C S nx V y) g
structure mZ where
 U:dG
 ab:Array Oper
 fin:List (Nat×Nat)
 k:List bS
 ar:dZ
def FJ(X:mZ)(C:ax)(y:F q)(V:List (Nat×q))(i:Nat)(rest:List cA)(r:bY)(S:F ac)(nx:Nat):b2:=
 match X with|⟨U,ab,fin,k,ar⟩=>gy r U C (.iG ab V i rest fin) k ar y S nx
abbrev ST:=mZ->ax->F q->List (Nat×q)->F ac->Nat->b2
def Jq(a:ST)(X:mZ)(C:ax)(y:F q)(V:List (Nat×q))(i:Nat)(v:q)(S:F ac)(nx:Nat):b2:=a X C y ((i,v)::V) S nx
def GJ(a:ST)(X:mZ)(C:ax)(y:F q)(V:List (Nat×q))(i:Nat)(rest:List cA)(S:F ac)(nx:Nat)(r:bY):b2:=
 match r with
 | .val v=>a X C y ((i,v)::V) S nx
 | .cu v S nx=>a X C y ((i,v)::V) S nx
 |r=>FJ X C y V i rest r S nx
def py(X:mZ)(_:ax)(y:F q)(V:List (Nat×q))(S:F ac)(nx:Nat):b2:=
 mZ.rec (motive:=λ_=>b2) (λU _ fin k ar=>pC fin V y λy=>U .run k ar y S nx) X
def nJ(i:Nat)(g:Option (Nat×Bool))(op:eB)(rest:List cA)(a:ST)(X:mZ)(C:ax)(y:F q)(V:List (Nat×q))(S:F ac)(nx:Nat):b2:=
 Bc g V (uF op C S nx V y (Jq a X C y V i) (GJ a X C y V i rest S nx)) (a X C y ((i,undef)::V) S nx)
def ly(rest:List cA):ST:=
 List.rec (motive:=λ_=>ST) py (λx rest a=>cA.rec (motive:=λ_=>ST) (λi g op=>nJ i g op rest a) x) rest
def kS(U:dG)(C:ax)(ab:Array Oper)(base:Nat)(V:List (Nat×q))(fi:List jS)(fin:List (Nat×Nat))(k:List bS)(ar:dZ)(y:F q)(S:F ac)(nx:Nat):b2:=
 match fi with
 |[]=>none
 |s::rest=>(match j1 C base y s.iV V S with
  |none=>none
  |some (V,S)=>aQ (nf C y V S s.uP) ((match s.cy with
    |none=>pC fin V y λy=>U .run k ar y S nx
    |some e=>(match gN e.g V with
     |none=>none
     |some w=>aQ (w) ((match dN e.op C S nx V y with
       |some r=>gy r U C (.lE ab base V e.i rest fin) k ar y S nx
       |none=>none))<|U .run (.drawn ab base ((e.i,undef)::V) rest fin::k) ar y S nx)))<|none)
def ku(a:List ik):fa:=match a with|⟨_,true⟩::_=> .returning|_=> .panicking a
def jg(U:dG)(am:Bool)(cs:List dn)(v:q)(S:F ac)(nx:Nat):b2:=
 match cs with
 |c::rest=>(match c with
  |⟨fn,n,aa,y,todo,av,aS,a,ro⟩=>(match aS with
   | .run=>aQ am none (uT U todo ⟨fn,n,aa,av,a,ro,rest⟩ v y S nx)
   | .returning=>aQ am (U .returning todo ⟨fn,n,aa,av,a,ro,rest⟩ y S nx) none
   | .panicking b=>aQ am (U (ku b) todo ⟨fn,n,aa,av,a,ro,rest⟩ y S nx) none))
 |[]=>aQ am none (some v)
def t7(a:Option Code):Bool:=match a with|none=>true|some .ret=>true|_=>false
def Ac(a:Option Code):Bool:=match a with|none=>true|some .ret=>true|some (.exit _)=>true|_=>false
def ho(a:Option Code)(U:dG)(C:ax)(todo:List bS)(ar:dZ)(y:F q)(S:F ac)(nx:Nat):b2:=
 match ar with
 |⟨fn,n,aa,av,am,ro,cs⟩=>(match ro with
  |none=>aQ (t7 a) (U .returning todo ⟨fn,n,aa,av,am,none,cs⟩ y S nx)<|none
  |some h=>(match H C S h with
   |some (.loop _ _ fn n aa y params assign body defers)=>
    aQ ((eS C h&&Ac a)&& !am) (et (aP C S h (some (.loop (aQ a.isNone .ready .done) a fn n aa y params assign body defers))) λS=>jg U am cs (.bool a.isNone) S nx)<|none
   |_=>none))
def km(C:ax)(S:F ac)(y:F q):List ResultVar->Option (List q)
 |[]=>some []
 | .tmp t::h=>(match y.get t,km C S y h with|some v,some r=>some (v::r)|_,_=>none)
 | .cell a t::h=>(match y.get a with
   |some p=>(match iM C S t p,km C S y h with|some v,some r=>some (v::r)|_,_=>none)
   |none=>none)
def j5(y:F q)(A:Operand):Option q:=match A with
 | .tmp t=>y.get t
 | .const v=>nG v
 | .global g=>some (.ptr g 0)
 | .func f=>some (.func (.func f) [] [])
def qo(f:Operand)(params:Array Nat)(assign body:Code)(U:dG)(C:ax)(k:List bS)(ar:dZ)(y:F q)(S:F ac)(nx:Nat):b2:=
 match j5 y f,ar with
 |some (.func (.func g) first a),⟨fn,n,aa,av,am,ro,cs⟩=>
  (
   match ro with
   |none=>hG nx λnx=>
    hi U C g (first++[.func (.yield (nx+1)) [] []]++a) false (⟨fn,n,aa,y, .inRangeFunc (nx+1)::k,⟨.collected nx,[]⟩::av, .run,am,none⟩::cs)
     (aP C (aP C S nx (some (.deferred (some [])))) (nx+1) (some (.loop .ready none fn n aa y params.toList assign body nx))) (nx+2)
   |some h=>(match H C S h with
    |some (.loop _ _ _ _ _ _ _ _ _ defers)=>hG nx λnx=>
     hi U C g (first++[.func (.yield nx) [] []]++a) false (⟨fn,n,aa,y, .inRangeFunc nx::k,av, .run,am,some h⟩::cs)
      (aP C S nx (some (.loop .ready none fn n aa y params.toList assign body defers))) (nx+1)
    |_=>none))
 |_,_=>none
def md(id:Nat)(U:dG)(C:ax)(k:List bS)(ar:dZ)(y:F q)(S:F ac)(nx:Nat):b2:=
 match exitTo id k with
 |some co=>U .run co ar y S nx
 |none=>ho (some (.exit id)) U C (.code (.exit id)::k) ar y S nx
def pr(c:Operand)(y:F q)(a b:b2):b2:=ej (j5 y c) λv=>match v with
 | .bool t=>Bool.rec (motive:=λ_=>b2) b a t
 |_=>none
def uS(n aa:Nat)(ab:Array Oper)(U:dG)(C:ax)(k:List bS)(ar:dZ)(y:F q)(S:F ac)(nx:Nat):b2:=
 ej (qd C n ab aa) λr=>sP.rec (motive:=λ_=>b2) (λrest fin=>ly rest ⟨U,ab,fin,k,ar⟩ C y [] S nx) r
def uR(n aa:Nat)(ab:Array Oper)(U:dG)(C:ax)(k:List bS)(ar:dZ)(y:F q)(S:F ac)(nx:Nat):b2:=
 ej (qa C n ab aa) λr=>sO.rec (motive:=λ_=>b2) (λfi fin=>hG nx λnx=>kS U C ab nx [] fi fin k ar y S (nx+ab.size)) r
def Av(ab:Array Oper)(a:Bool)(U:dG)(C:ax)(k:List bS)(ar:dZ)(y:F q)(S:F ac)(nx:Nat):b2:=
 dZ.rec (motive:=λ_=>b2) (λfn n aa av am ro cs=>Bool.rec (motive:=λ_=>b2)
  (uS n aa ab U C k ⟨fn,n,aa,av,am,ro,cs⟩ y S nx) (uR n aa ab U C k ⟨fn,n,aa,av,am,ro,cs⟩ y S nx) a) ar
abbrev lR:=dG->ax->List bS->dZ->F q->F ac->Nat->b2
def rE:lR:=λU _ k ar y S nx=>U .run k ar y S nx
def nF:lR:=λ_ _ _ _ _ _ _=>none
def ji(c:Code):lR:=
 Code.rec (motive:=λ_=>lR) rE
  (λ_ ab d=>Av ab d)
  (λ_ b g _ U C k=>g U C (.code b::k))
  (λc _ _ g a U C k ar y S nx=>pr c y (g U C k ar y S nx) (a U C k ar y S nx))
  (λid _ a U C k=>a U C (.inBlock id::k))
  (λb a U C k=>a U C (.inLoop b::k))
  (λf params assign body _ _=>qo f params assign body)
  (λid=>md id)
  (λb a U C k=>a U C (.inScope b::k))
  (λ_=>rE)
  (λ_=>nF)
  (λU C k=>ho (some .ret) U C (.code .ret::k))
  (λ_=>nF) c
def ox(h:Nat):lR:=λU C k ar y S nx=>match H C S h with
 |some (.loop state pending b ah c a params assign body defers)=>
  (
   match state with
   | .busy=>none
   |_=>aQ (eS C h) (et (aP C S h (some (.loop .exhausted pending b ah c a params assign body defers))) λS=>U .run ((pending.map bS.code).toList++k) ar y S nx)<|none)
 |_=>none
def pn:lR:=λU C k ar y S nx=>match ar with
 |⟨fn,n,aa,av,am,ro,cs⟩=>match ro with
  |some h=>(match H C S h with
   |some (.loop .ready pending b ah c a params assign body defers)=>
    aQ (eS C h) (et (aP C S h (some (.loop .busy pending b ah c a params assign body defers))) λS=>U .run k ⟨fn,n,aa,av,am,some h,cs⟩ y S nx)<|none
   |_=>none)
  |none=>none
def yg(a:bS):lR:=
 bS.rec (motive:=λ_=>lR) (λc=>ji c) (λ_=>rE) (λb U C k=>ji b U C (.inLoop b::k)) (λ_=>rE)
  (λab V rest fin U C k ar y S nx=>ly rest ⟨U,ab,fin,k,ar⟩ C y V S nx)
  (λab base V fi fin U C k ar y S nx=>kS U C ab base V fi fin k ar y S nx)
  (λ_ _ _ _ _=>nF) (λ_ _ _ _ _ _=>nF) (λ_=>nF) (λh=>ox h) pn a
def AU(todo:List bS)(U:dG)(C:ax)(ar:dZ)(y:F q)(S:F ac)(nx:Nat):b2:=
 List.rec (motive:=λ_=>b2) (ho none U C [] ar y S nx) (λa k _=>yg a U C k ar y S nx) todo
def ks(d:dI)(ds:List dI)(aS:fa)(todo:List bS)(U:dG)(C:ax)(ar:dZ)(y:F q)(S:F ac)(nx:Nat):b2:=
 match ar with
 |⟨fn,n,aa,_,am,ro,cs⟩=>(match d with
  |⟨.collected r,_⟩=>(match H C S r with
   |some (.deferred (some b))=>aQ (eS C r) (et (aP C S r (some (.deferred none))) λS=>U aS todo ⟨fn,n,aa,b++ds,am,ro,cs⟩ y S nx)<|none
   |_=>none)
  |⟨.fn f c,args⟩=>(match l0 C f c args with
   |some (.enter f a)=>hi U C f a true (⟨fn,n,aa,y,todo,ds,aS,am,ro⟩::cs) S nx
   |_=>none))
def one(aB:List q):q:=match aB with|[v]=>v|aB=> .tuple aB
def qv(todo:List bS)(U:dG)(C:ax)(ar:dZ)(y:F q)(S:F ac)(nx:Nat):b2:=
 match ar with
 |⟨fn,n,aa,av,am,ro,cs⟩=>match av with
  |d::ds=>ks d ds .returning todo U C ⟨fn,n,aa,[],am,ro,cs⟩ y S nx
  |[]=>(match C.P.funcs[fn]? with
   |some f=>(match km C S y f.results.toList with
    |some aB=>jg U am cs (one aB) S nx
    |none=>none)
   |none=>none)
def qu(chain:List ik)(todo:List bS)(U:dG)(C:ax)(ar:dZ)(y:F q)(S:F ac)(nx:Nat):b2:=
 match ar with
 |⟨fn,n,aa,av,am,ro,cs⟩=>match av with
  |d::ds=>ks d ds (.panicking chain) todo U C ⟨fn,n,aa,[],am,ro,cs⟩ y S nx
  |[]=>(match cs with
   |c::rest=>Ap U c rest chain S nx
   |[]=>none)
def u9(U:dG)(C:ax)(aS:fa)(todo:List bS)(ar:dZ)(y:F q)(S:F ac)(nx:Nat):b2:=
 fa.rec (motive:=λ_=>b2) (AU todo U C ar y S nx) (qv todo U C ar y S nx) (λa=>qu a todo U C ar y S nx) aS
def run(C:ax)(n:Nat):dG:=
 Nat.rec (motive:=λ_=>dG) (λ_ _ _ _ _ _=>none) (λ_ U aS todo ar y S nx=>u9 U C aS todo ar y S nx) n
def g5(C:ax)(n:Nat)(f:Nat)(args:List q):b2:=hi (run C n) C f args false [] .nil C.aN
end
open Go.RowKit (Below)
section
variable{C:ax}{u bD:bC}{D bq:Nat->Prop}{S B:F ac}{nx nx' az:Nat}{w aK:World}
def ya(K:bA C u D S nx az w)(cp:az<=w.heap.size)(eO:kB C.P){oper:Oper}{ad:Operand->Value}{wr:List (Nat×Nat)}{V:List (Nat×q)}{y:F q}{c:eB}{z:bY}
 (p:ee u D ad (eg wr V y) oper.op.operands.toList)(n:fy C wr oper.op=some c)(e:dN c C S nx V y=some z):dM C u D S nx az w (execOp ad oper) z:=by
 have rest:∀A,oper.op=A->c= .cy wr A->dM C u D S nx az w (execOp ad oper) z:=by
  intro A T7 T5
  subst T5;subst T7
  exact DV K cp eO p e
 have G:∀A,c= .dT wr A->dM C u D S nx az w (execOp ad oper) z:=by intro A j;subst j;simp[dN]at e
 have P:∀A,c= .make wr A->dM C u D S nx az w (execOp ad oper) z:=by intro A j;subst j;simp[dN]at e
 obtain⟨dst,op,type,pos,after,guard⟩:=oper
 cases op<;>simp only[fy]at n<;>simp only[Op.operands]at p
 case store t a x=>
  split at n
  ·rename_i U6 U8 s T4 O T8
   simp at n;subst n
   simp only[dN,gi T4,gi O]at e
   split at e
   ·rename_i L T9
    split at e
    ·rename_i v TY
     obtain⟨Z,T2⟩:=p a Zs L T9
     obtain⟨T0,T3⟩:=p x Zs v TY
     obtain⟨B,rfl,T6⟩:=KX K T8 T2 T3 e
     simp only[execOp,Z,T0]
     exact T6 _ (λaK U0=>by simp[U0])
    ·simp at e
   ·simp at e
  ·simp at n
 case call X=>
  obtain⟨callee,args,bu⟩:=X
  cases callee with
  |builtin b=>
   cases b<;>simp[fy]at n<;>first
    |exact rest _ rfl n.symm
    |exact G _ n.symm
  |value f=>
   cases f with
   |func g=>
    simp only at n
    split at n
    ·rename_i U7 has
     simp at n;subst n
     simp only[dN]at e
     split at e
     ·rename_i aB TZ
      simp only[Call.operands]at p
      obtain⟨U2,U3⟩:=FN V y has TZ
      have U1:ee u D ad (eg wr V y) args.toList:=p.mono (by simp;intro x O;exact .inr O)
      obtain⟨U4,U5⟩:=yJ U1 U2 U3
      obtain⟨T1,_⟩:=p (.func g) Zs (.func (.func g) [] []) rfl
      refine(tg (u:=u) (S:=S) (nx:=nx) (az:=az) (w:=w) eO U5 e).congr ?_
      have j:args.map ad=(aR u aB).toArray:=by apply YC;simp[U4]
      simp[execOp,resolve,T1,af,f7,aR,Deferred.ofValue,invoke,j]
     ·simp at e
    ·simp at n
   |tmp t=>simp at n;exact rest _ rfl n.symm
   |const v=>simp at n;exact rest _ rfl n.symm
   |global g=>simp at n;exact rest _ rfl n.symm
  |invoke r m=>simp[fy]at n;exact rest _ rfl n.symm
 case convert s d x=>
  rw[cK]at n
  split at n
  ·simp at n;exact rest _ rfl n.symm
  ·simp at n;exact G _ n.symm
 case makeMap t r=>cases r<;>simp[fy]at n<;>first|exact rest _ rfl n.symm|exact P _ n.symm
 case binOp op t x U9 UA=>
  rw[cK]at n
  split at n
  ·split at n
   ·simp at n;subst n;simp[dN]at e
   ·simp at n
  ·simp at n;exact G _ n.symm
 case fieldAddr s x f=>
  split at n
  ·rw[ic]at n
   split at n
   ·split at n
    ·simp only[ot,Zu]at n
     obtain⟨_,rfl⟩:=n
     simp[dN]at e
    ·simp at n
   ·simp at n
  ·simp at n
 case indexAddr t x i=>
  split at n
  ·split at n
   ·simp at n;subst n;simp[dN]at e
   ·simp at n
  ·split at n
   ·simp at n;subst n;simp[dN]at e
   ·simp at n
  ·simp at n
 all_goals first
  |(simp at n;first|exact rest _ rfl n.symm|exact G _ n.symm|exact P _ n.symm)
  |(split at n<;>first
    |(simp at n;subst n;simp[dN]at e;done)
    |(simp at n;done))
def r0{oper:Oper}{wr:List (Nat×Nat)}{c:eB}(a:fy C wr oper.op=some c){b:Nat}{V:List (Nat×q)}{y:F q}{r:q×ac}(e:gD c C b V y=some r):hD oper.op C (eg wr V y) b=some r:=by
 have rest:∀A,oper.op=A->c= .make wr A->hD oper.op C (eg wr V y) b=some r:=by
  intro A G z
  subst z;subst G
  exact e
 have p:∀A,c= .dT wr A->hD oper.op C (eg wr V y) b=some r:=by intro A j;subst j;simp[gD]at e
 have n:∀A,c= .cy wr A->hD oper.op C (eg wr V y) b=some r:=by intro A j;subst j;simp[gD]at e
 obtain⟨dst,op,type,pos,after,guard⟩:=oper
 cases op<;>simp only[fy]at a
 case call w=>
  obtain⟨callee,args,bu⟩:=w
  cases callee with
  |builtin b=>cases b<;>simp[fy]at a<;>first|exact n _ a.symm|exact p _ a.symm
  |value f=>
   cases f with
   |func g=>
    simp[fy]at a
    split at a
    ·simp at a;subst a;simp[gD]at e
    ·simp at a
   |tmp t=>simp[fy]at a;exact n _ a.symm
   |const v=>simp[fy]at a;exact n _ a.symm
   |global g=>simp[fy]at a;exact n _ a.symm
  |invoke r m=>simp[fy]at a;exact n _ a.symm
 case convert s d x=>
  rw[cK]at a
  split at a
  ·simp at a;exact n _ a.symm
  ·simp at a;exact p _ a.symm
 case makeMap t r=>cases r<;>simp[fy]at a<;>first|exact rest _ rfl a.symm|exact n _ a.symm
 case binOp op t x O P=>
  rw[cK]at a
  split at a
  ·split at a
   ·simp at a;subst a;simp[gD]at e
   ·simp at a
  ·simp at a;exact p _ a.symm
 case fieldAddr s x f=>
  split at a
  ·rw[ic]at a
   split at a
   ·split at a
    ·simp only[ot,Zu]at a
     obtain⟨_,rfl⟩:=a
     simp[gD]at e
    ·simp at a
   ·simp at a
  ·simp at a
 case indexAddr t x i=>
  split at a
  ·split at a
   ·simp at a;subst a;simp[gD]at e
   ·simp at a
  ·split at a
   ·simp at a;subst a;simp[gD]at e
   ·simp at a
  ·simp at a
 all_goals first
  |(simp at a;first|exact rest _ rfl a.symm|exact p _ a.symm|exact n _ a.symm)
  |(split at a<;>first
    |(simp at a;subst a;simp[gD]at e;done)
    |(simp at a;done))
def gL{α:Type}(A:Option α)(k:α->b2):ej A k=match A with|some a=>k a|none=>none:=by cases A<;>rfl
def w7(h:List (Nat×q))(E:Nat)(k:q->b2):pk h E k=ej (cd h E) k:=by
 induction h with
 |nil=>rfl
 |cons p h U=>
  obtain⟨a,b⟩:=p
  show(Bool.rec (motive:=λ_=>b2) (pk h E k) (k b) (Nat.beq a E))=ej (aQ (Nat.beq a E) (some b) (cd h E)) k
  rw[U]
  cases Nat.beq a E<;>rfl
def Gq(t:F q):∀(i:Nat) (k:q->b2),rB t i k=ej (t.get i) k:=by
 induction t with
 |nil=>intro i k;rfl
 |node v h r a b=>
  intro i k
  cases i with
  |zero=>cases v<;>rfl
  |succ E=>
   show(Bool.rec (motive:=λ_=>b2) (rB r (Nat.div E 2) k) (rB h (Nat.div E 2) k) (Nat.beq (Nat.mod E 2) 0))=ej (aQ (Nat.beq (Nat.mod E 2) 0) (h.get (Nat.div E 2)) (r.get (Nat.div E 2))) k
   rw[a,b]
   cases Nat.beq (Nat.mod E 2) 0<;>rfl
def FK(x:eQ)(V:List (Nat×q))(y:F q)(k:q->b2):kU x V y k=ej (fd x V y) k:=by
 cases x with
 |v E=>exact w7 V E k
 |t n=>exact Gq y n k
 |c a=>rfl
def rs:∀(h:List (Nat×Nat)) (V:List (Nat×q)) (y:F q) (k:F q->b2),pC h V y k=ej (kY V h y) k:=by
 intro h
 induction h with
 |nil=>intro V y k;rfl
 |cons p h U=>
  intro V y k
  obtain⟨i,d⟩:=p
  show pk V i (λv=>et (F.set y d (some v)) λy=>pC h V y k)=_
  rw[w7]
  simp only[kY]
  cases cd V i with
  |none=>rfl
  |some v=>simp only[dB];exact U _ _ _
def sC(g:Option (Nat×Bool))(V:List (Nat×q))(a b:b2):Bc g V a b=ej (gN g V) λw=>if w=true then a else b:=by
 cases g with
 |none=>simp[gL,gN];rfl
 |some p=>
  show ej (gN (some p) V) (λw=>Bool.rec (motive:=λ_=>b2) b a w)=_
  congr 1
  funext w
  cases w<;>rfl
def sc(op:eB)(S:F ac)(nx:Nat)(V:List (Nat×q))(y:F q)(M:q->F ac->Nat->b2)(a:bY->b2):
 uF op C S nx V y M a=match fZ op with
  | .dT=>ej (di op C S V y) λv=>M v S nx
  | .make=>ej (rZ op C S nx V y) a
  | .cy=>ej (dN op C S nx V y) a:=by
 cases op<;>simp only[uF,fZ,FK,di,gL]<;>(try rfl)
 all_goals(split<;>first|rfl|(split<;>simp_all))
end
def jI:List Oper->Nat->List (Nat×Nat)->List (Nat×Nat)
 |[],_,wr=>wr
 |A::h,i,wr=>jI h (i+1) (kE A i wr)
def dY(ab:Array Oper)(i:Nat):List (Nat×Nat):=jI (ab.toList.take i) 0 []
def LB(a:List Oper):∀(b:List Oper) (i:Nat) (wr:List (Nat×Nat)),jI (a++b) i wr=jI b (i+a.length) (jI a i wr):=by
 induction a with
 |nil=>intro b i wr;rfl
 |cons A a U=>
  intro b i wr
  simp only[YZ,jI,U,ZC]
  congr 1;omega
def qz{ab:Array Oper}{i:Nat}{A:Oper}(e:ab[i]? =some A):dY ab (i+1)=kE A i (dY ab i):=by
 have ap:ab.toList[i]? =some A:=by rw[ZK];exact e
 have a:i<ab.toList.length:=(Zf.1 ap).1
 unfold dY
 rw[ZG,ap,LB]
 have:(ab.toList.take i).length=i:=by simp at a ⊢;omega
 rw[this]
 simp[jI]
def qA(ab:Array Oper):dY ab 0=[]:=rfl
def iw(ab:Array Oper)(E:Nat):Option Nat:=(ab[E]?).bind (·.dst)
def px{ab:Array Oper}{i:Nat}{A:Oper}(e:ab[i]? =some A):iw ab i=A.dst:=by simp[iw,e]
def D9{A:Oper}{i E:Nat}{wr:List (Nat×Nat)}:j4 E (kE A i wr)=if i=E/\A.dst.isSome then A.dst else j4 E wr:=by
 unfold kE
 split
 ·rename_i d a
  simp only[j4,d2,a]
  by_cases j:i=E<;>simp[j]
 ·rename_i a
  simp[a]
def oe{A:Oper}{i t:Nat}{wr:List (Nat×Nat)}:cd (kE A i wr) t=if A.dst=some t then some i else cd wr t:=by
 unfold kE
 split
 ·rename_i d a
  rw[h3,a]
  by_cases j:d=t<;>simp[j]
 ·rename_i a
  simp[a]
def qB(ab:Array Oper):∀i,i<=ab.size->(∀E t,j4 E (dY ab i)=some t->iw ab E=some t)/\
 (∀t E,cd (dY ab i) t=some E->E<i/\iw ab E=some t/\∀k,E<k->k<i->iw ab k≠some t)/\(∀t,cd (dY ab i) t=none->∀k,k<i->iw ab k≠some t):=by
 intro i
 induction i with
 |zero=>intro _;rw[qA];exact⟨λE t e=>by simp[j4]at e,λt E e=>by simp at e,λt _ k m=>Zo⟩
 |succ i U=>
  intro ai
  obtain⟨d,f,g⟩:=U Zo
  have c:ab[i]? =some ab[i]:=Array.getElem?_eq_getElem Zo
  rw[qz c]
  have a:=px c
  refine⟨λE t e=> ?_,λt E e=> ?_,λt e k m=> ?_⟩
  ·rw[D9]at e
   split at e
   ·rename_i j;rw[<-j.1,a];exact e
   ·exact d E t e
  ·rw[oe]at e
   split at e
   ·rename_i j
    cases e
    exact⟨Zo,by rw[a];exact j,λk b n=>Zo⟩
   ·rename_i j
    obtain⟨bc,bl,p⟩:=f t E e
    refine⟨Zo,bl,λk b n=> ?_⟩
    by_cases J:k=i
    ·subst J;rw[a];exact j
    ·exact p k b Zo
  ·rw[oe]at e
   split at e
   ·cases e
   ·rename_i j
    by_cases J:k=i
    ·subst J;rw[a];exact j
    ·exact g t e k Zo
section
variable{C:ax}{u bD:bC}{D bq:Nat->Prop}{S B:F ac}{nx nx' az:Nat}{w aK:World}
def e9(tmps:Array Value):Operand->Value
 | .tmp t=>tmps.getD t Go.undef
 | .const v=>v
 | .global g=> .pointer (some ⟨g,0,none⟩)
 | .func f=> .func (.func f) #[] #[]
def pA(fr:Frame):fr.eval=e9 fr.tmps:=by funext x;cases x<;>rfl
def gS(u:bC)(D:Nat->Prop)(aa:Nat)(X:Nat->Prop)(wr:List (Nat×Nat))(V:List (Nat×q))(y:F q)(tmps:Array Value):Prop:=
 ∀t v,X t->(match cd wr t with|some E=>cd V E=some v|none=>cB aa t=true/\y.get t=some v)->tmps[t]? =some (af u v)/\ba D v
def ip(C:ax)(u:bC)(D:Nat->Prop):Prop:=∀g,g<C.cI->D g/\(u g).a8=g/\(u g).b3=0
def IP{aa:Nat}{wr:List (Nat×Nat)}:∀{h:List Operand},nI C aa wr h=true->∀x∈h,lr C aa wr x=true:=by
 intro h
 induction h with
 |nil=>intro _ x e;simp at e
 |cons a h U=>
  intro e x b
  simp only[nI,Zq]at e
  rcases Zz.1 b with rfl|b
  ·exact e.1
  ·exact U e.2 x b
def xG{aa:Nat}{X:Nat->Prop}{wr:List (Nat×Nat)}{V:List (Nat×q)}{y:F q}{tmps:Array Value}(w:gS u D aa X wr V y tmps){h:List Operand}(r:∀t,Operand.tmp t∈h->X t)(s:nI C aa wr h=true)
 (p:ip C u D):ee u D (e9 tmps) (eg wr V y) h:=by
 intro x d v e
 have a:=IP s x d
 cases x with
 |tmp t=>
  have:=w t v (r t d) (by
   simp only[eg]at e
   simp only[lr]at a
   split at e
   ·rename_i E b;rw[b];exact e
   ·rename_i b;rw[b]at a ⊢;exact⟨a,e⟩)
  exact⟨by simp[e9,this.1],this.2⟩
 |const c=>exact r7 e
 |global g=>
  simp[eg]at e;subst e
  simp only[lr]at a
  obtain⟨i,m,n⟩:=p g (e0 a)
  exact⟨by simp[e9,af,m,n],i⟩
 |func f=>
  simp[eg]at e;subst e
  exact⟨by simp[e9,af,f7,aR],trivial,trivial,trivial⟩
end
def l5(m i:Nat):cB m i=m.testBit i:=by
 unfold cB
 rw[Nat.testBit_eq_decide_div_mod_eq,Z8,Zc]
 exact⟨Zh,λe=>by rw[show Nat.mod (Nat.div m (Nat.pow 2 i)) 2=1 from e];rfl⟩
def qY(i:Nat):cB 0 i=false:=by rw[l5];simp
def oj(a b i:Nat):cB (Nat.lor a b) i=(cB a i||cB b i):=by
 rw[l5,l5,l5];exact Nat.testBit_or a b i
def qX(t i:Nat):cB (Nat.pow 2 t) i=decide (t=i):=by
 rw[l5];exact Nat.testBit_two_pow
def Et(a b i:Nat):cB (Nat.land a b) i=(cB a i&&cB b i):=by
 rw[l5,l5,l5];exact Nat.testBit_and a b i
def IV{A:Operand}{m t:Nat}:cB (oU A m) t=true↔A= .tmp t\/cB m t=true:=by
 cases A with
 |tmp L=>
  show cB (Nat.lor m (Nat.pow 2 L)) t=true↔_
  rw[oj,qX]
  simp[or_comm]
 |_=>simp[oU]
def IW{t:Nat}:∀{h:List Operand},cB (oV h) t=true↔Operand.tmp t∈h:=by
 intro h
 induction h with
 |nil=>simp[oV,qY]
 |cons a h U=>
  show cB (oU a (oV h)) t=true↔_
  rw[IV,U]
  simp[eq_comm]
def Fh{A:Oper}{t:Nat}:cB (pw A) t=true↔A.dst=some t:=by
 unfold pw
 cases A.dst with
 |none=>simp[qY]
 |some d=>
  show cB (Nat.pow 2 d) t=true↔_
  rw[qX]
  simp
structure qF(C:ax)(n aa:Nat)(ab:Array Oper)(x:cA)(A:Oper):Prop where
 oper:ab[x.i]? =some A
 g:pq (dY ab x.i) A.guard=some x.g
 op:fy C (dY ab x.i) A.op=some x.op
 dst:∀d,A.dst=some d->d<n
 reads:nI C aa (dY ab x.i) A.op.operands.toList=true
def tf{C:ax}{n aa i:Nat}{A:Oper}{h:List Oper}{wr:List (Nat×Nat)}{cs:List cA}(e:iv C n aa (A::h) i wr=some cs):
 ∃g op r,pq wr A.guard=some g/\fy C wr A.op=some op/\rh n A=true/\nI C aa wr A.op.operands.toList=true/\iv C n aa h (i+1) (kE A i wr)=some r/\cs=⟨i,g,op⟩::r:=by
 simp only[iv,fX]at e
 split at e
 ·rename_i g op c d
  simp only[ce,Zq]at e
  obtain⟨⟨a,b⟩,e⟩:=e
  split at e
  ·rename_i r K
   simp at e
   exact⟨g,op,r,c,d,a,b,K,e.symm⟩
  ·simp at e
 ·simp at e
def xw{n:Nat}{A:Oper}(e:rh n A=true):∀d,A.dst=some d->d<n:=by
 intro d a
 unfold rh at e
 rw[a]at e
 exact e0 e
def tu{ab:Array Oper}{i:Nat}{A:Oper}{h:List Oper}(e:ab.toList.drop i=A::h):ab[i]? =some A/\ab.toList.drop (i+1)=h/\i<ab.size:=by
 have a:(ab.toList.drop i)[0]? =some A:=by rw[e];rfl
 rw[Yz,ZK]at a
 refine⟨by simpa using a, ?_, ?_⟩
 ·have:(ab.toList.drop i).drop 1=h:=by rw[e];rfl
  rw[List.drop_drop]at this
  exact this
 ·exact(ZI.1 (by simpa using a)).1
def EE{C:ax}{n aa:Nat}{ab:Array Oper}:∀(h:List Oper) (i:Nat) (cs:List cA),ab.toList.drop i=h->iv C n aa h i (dY ab i)=some cs->
 cs.length=h.length/\∀E x,cs[E]? =some x->x.i=i+E/\∃A,qF C n aa ab x A:=by
 intro h
 induction h with
 |nil=>intro i cs _ e;simp[iv]at e;subst e;simp
 |cons A h U=>
  intro i cs t e
  obtain⟨g,op,r,f,m,p,s,c,rfl⟩:=tf e
  obtain⟨b,d,w⟩:=tu t
  rw[<-qz b]at c
  obtain⟨bc,bl⟩:=U (i+1) r d c
  refine⟨by simp[bc],λE x a=> ?_⟩
  cases E with
  |zero=>simp at a;subst a;exact⟨rfl,A,b,f,m,xw p,s⟩
  |succ E=>
   simp at a
   obtain⟨j,v⟩:=bl E x a
   exact⟨Zo,v⟩
def Fv{d:List (Nat×Nat)}:∀(h:List Edge) (a:Nat),cB (h.foldr (ng d) 0) a=true->∃j∈h,Region.binds .any j=true/\(a=j.on\/∃c,cd d j.on=some c/\cB c a=true):=by
 intro h
 induction h with
 |nil=>intro a e;simp[qY]at e
 |cons j h U=>
  intro a e
  simp only[List.foldr_cons]at e
  have hq:cB (h.foldr (ng d) 0) a=true->∃b∈j::h,Region.binds .any b=true/\(a=b.on\/∃c,cd d b.on=some c/\cB c a=true):=λe=>by
   obtain⟨b,f,g⟩:=U a e
   exact⟨b,Zi _ f,g⟩
  unfold ng at e
  rw[cK]at e
  split at e
  ·exact hq e
  ·rw[cK]at e
   split at e
   ·rename_i Y
    split at e
    ·rename_i k i
     rw[oj,oj,qX]at e
     simp only[Yx,Zc]at e
     rcases e with (e|e)|e
     ·exact hq e
     ·exact⟨j,Zl ..,Y, .inr ⟨k,i,e⟩⟩
     ·exact⟨j,Zl ..,Y, .inl e.symm⟩
    ·exact hq e
   ·exact hq e
structure n6(ab:Array Oper)(p:cX)(A:Oper):Prop where
 oper:ab[p.i]? =some A
 r:p.r=Nat.lor (oV A.op.operands.toList) (rI (dY ab p.i) A.guard)
 w:p.w=pw A
def yP{ab:Array Oper}:∀(h:List Oper) (i:Nat) (b:List (Nat×Nat)),ab.toList.drop i=h->(∀E m,cd b E=some m->E<i)->
 (my h i (dY ab i) b).length=h.length/\(∀E p,(my h i (dY ab i) b)[E]? =some p->p.i=i+E/\∃A,n6 ab p A)/\
 ∀(bi:Nat->Nat->Prop),(∀E m,cd b E=some m->bi E m)->(∀E A m,ab[E]? =some A->i<=E->(∀a,cB m a=true->∃j∈A.after.toList,Region.binds .any j=true/\(a=j.on\/∃d,bi j.on d/\cB d a=true))->bi E m)->
  ∀p∈my h i (dY ab i) b,bi p.i p.m:=by
 intro h
 induction h with
 |nil=>intro i b _ _;simp[my]
 |cons A h U=>
  intro i b C O
  obtain⟨f,v,X⟩:=tu C
  simp only[my,fX]
  rw[<-qz f]
  have P:∀E m,cd ((i,A.after.toList.foldr (ng b) 0)::b) E=some m->E<i+1:=by
   intro E m e
   rw[h3]at e
   split at e
   ·omega
   ·have:=O E m e;omega
  obtain⟨bc,bl,S⟩:=U (i+1) ((i,A.after.toList.foldr (ng b) 0)::b) v P
  refine⟨by simp only[ZC,bc],λE p c=> ?_,λbi s t p c=> ?_⟩
  ·cases E with
   |zero=>simp only[ZW,Zu]at c;subst c;exact⟨rfl,A,f,rfl,rfl⟩
   |succ E=>
    simp only[ZN]at c
    obtain⟨j,G⟩:=bl E p c
    exact⟨Zo,G⟩
  ·have ai:bi i (A.after.toList.foldr (ng b) 0):=by
    refine t i A _ f (Zp _) λa z=> ?_
    obtain⟨j,g,r,n⟩:=Fv _ a z
    refine⟨j,g,r,n.imp id ?_⟩
    rintro⟨d,w,x⟩
    exact⟨d,s _ _ w,x⟩
   rcases Zz.1 c with rfl|c
   ·exact ai
   ·refine S bi (λE m e=> ?_) (λE A m g r n=>t E A m g Zo n) p c
    rw[h3]at e
    split at e
    ·rename_i j;subst j;cases e;exact ai
    ·exact s E m e
def IQ{a:cX}:∀{h:List cX},sa a h=true->∀b∈h,r9 a b=true:=by
 intro h
 induction h with
 |nil=>intro _ b e;simp at e
 |cons c h U=>
  intro e b Y
  simp only[sa,Zq]at e
  rcases Zz.1 Y with rfl|Y
  ·exact e.1
  ·exact U e.2 b Y
def IN:∀{h:List cX},qj h=true->∀(E i:Nat) a b,E<i->h[E]? =some a->h[i]? =some b->r9 a b=true:=by
 intro h
 induction h with
 |nil=>intro _ E i a b _ e;simp at e
 |cons c h U=>
  intro e E i a b f d Y
  simp only[qj,Zq]at e
  obtain⟨i,rfl⟩:∃k,i=k+1:=⟨i-1,Zo⟩
  simp at Y
  cases E with
  |zero=>simp at d;subst d;exact IQ e.1 b (Zg Y)
  |succ E=>simp at d;exact U e.2 E i a b Zo d Y
def IJ:∀{h:List Oper}{i:Nat},nH h i=true->∀E A,h[E]? =some A->∀j∈A.after.toList,Region.binds .any j=true->j.on<i+E:=by
 intro h
 induction h with
 |nil=>intro i _ E A e;simp at e
 |cons a h U=>
  intro i e E A b j c Y
  simp only[nH,Zq]at e
  cases E with
  |zero=>
   simp at b;subst b
   have:=Yy.1 e.1 j c
   simp only[Y,Yn,Bool.false_or]at this
   have:=e0 this
   omega
  |succ E=>
   simp at b
   have:=U e.2 E A b j c Y
   omega
def GI:∀{h:List cX},pO h=true->∀(p:Nat) a b,h[p]? =some a->h[p+1]? =some b->cB b.m a.i=true:=by
 intro h
 induction h with
 |nil=>intro _ p a b e;simp at e
 |cons c h U=>
  intro e p a b f Y
  simp only[pO,Zq]at e
  cases p with
  |zero=>
   simp at f Y;subst f
   cases h with
   |nil=>simp at Y
   |cons d h=>simp at Y;subst Y;exact e.1
  |succ p=>simp at f Y;exact U e.2 p a b f (by simpa using Y)
def GH:∀(bE:List cX) (cs:List cA),oH bE cs=(bE.zip cs).filter λx=>gl x.2.op:=by
 intro bE
 induction bE with
 |nil=>intro cs;rfl
 |cons p bE U=>
  intro cs
  cases cs with
  |nil=>rfl
  |cons c cs=>
   simp only[oH,List.zip_cons_cons,Yp,cK,U]
def HL(a:List cX):∀(bE:List cX) (cs:List cA),oP a bE cs=((bE.zip cs).filter λx=> !gl x.2.op).map λx=>⟨x.2,jj x.1.m a,mm x.1.i a⟩:=by
 intro bE
 induction bE with
 |nil=>intro cs;rfl
 |cons p bE U=>
  intro cs
  cases cs with
  |nil=>rfl
  |cons c cs=>
   simp only[oP,List.zip_cons_cons,Yp,cK,U]
   cases gl c.op<;>simp
def rA:∀h:List (cX×cA),hH h=h.map (·.1):=by
 intro h
 induction h with
 |nil=>rfl
 |cons a h U=>simp[hH,U]
def EU(m:Nat):∀(a:List cX) (k:Nat),(∀p e,a[p]? =some e->k<=p->cB m e.i=false)->jj m a<=k:=by
 intro a
 induction a with
 |nil=>intro k _;simp[jj]
 |cons e a U=>
  intro k c
  simp only[jj,cK]
  cases k with
  |zero=>
   have:=c 0 e rfl (Zp _)
   rw[this]
   have:=U 0 (λp b d _=>c (p+1) b (by simpa using d) Zo)
   simpa using this
  |succ k=>
   have:=U k (λp b d f=>c (p+1) b (by simpa using d) Zo)
   split<;>omega
def GL(i:Nat):∀(a:List cX) (k:Nat),k<=a.length->(∀p e,a[p]? =some e->p<k->cB e.m i=false)->k<=mm i a:=by
 intro a
 induction a with
 |nil=>intro k b _;simp at b;omega
 |cons e a U=>
  intro k f b
  cases k with
  |zero=>omega
  |succ k=>
   have d:=b 0 e rfl Zo
   simp only[mm,d,fz]
   have:=U k (by simpa using f) (λp c g m=>b (p+1) c (by simpa using g) Zo)
   omega
def hs(tmps:Array Value)(dst:Option Nat)(v:Value):Array Value:=match dst with|some d=>tmps.setIfInBounds d v|none=>tmps
def sn(tmps:Array Value)(dst:Option Nat)(v:Value):(hs tmps dst v).size=tmps.size:=by cases dst<;>simp[hs]
def Ao(tmps:Array Value)(dst:Option Nat)(v:Value)(t:Nat)(e:∀d,dst=some d->d<tmps.size):(hs tmps dst v)[t]? =if dst=some t then some v else tmps[t]? :=by
 cases dst with
 |none=>simp[hs]
 |some d=>
  have:=e d rfl
  simp only[hs,Zu,Array.getElem?_setIfInBounds]
  by_cases j:d=t
  ·subst j;simp[this]
  ·simp[j]
def Sub(V a:List (Nat×q)):Prop:=∀E L,cd V E=some L->cd a E=some L
def Sub.refl(V:List (Nat×q)):Sub V V:=λ_ _ e=>e
def Sub.trans{a b c:List (Nat×q)}(e:Sub a b)(k:Sub b c):Sub a c:=λE L d=>k E L (e E L d)
def Sub.cons{V:List (Nat×q)}{i:Nat}{v:q}(e:cd V i=none):Sub V ((i,v)::V):=λE L a=>by
 rw[h3,Zj]
 ·exact a
 ·intro j;subst j;rw[e]at a;cases a
def hc(C:ax)(S B:F ac):Prop:=∀x,H C S x=H C B x\/H C S x=none
inductive jR(ab:Array Oper):(Nat->Prop)->List Nat->Prop
 |nil {bk}:(∀i,i<ab.size->bk i)->jR ab bk []
 |cons {bk i A h}:ab[i]? =some A->¬bk i->(∀j∈A.after.toList,Region.binds .any j=true->bk j.on)->jR ab (add bk i) h->jR ab bk (i::h)
noncomputable def j2(C:ax)(n aa:Nat)(ab:Array Oper):List cA:=(iv C n aa ab.toList 0 []).getD []
noncomputable def gV(ab:Array Oper):List cX:=my ab.toList 0 [] []
noncomputable def da(C:ax)(n aa:Nat)(ab:Array Oper):List (cX×cA):=oH (gV ab) (j2 C n aa ab)
noncomputable def fB(C:ax)(n aa:Nat)(ab:Array Oper):List hd:=oP (hH (da C n aa ab)) (gV ab) (j2 C n aa ab)
structure g8(C:ax)(n aa:Nat)(ab:Array Oper):Prop where
 EP:iv C n aa ab.toList 0 []=some (j2 C n aa ab)
 a:nH ab.toList 0=true
 I4:qj (gV ab)=true
 chain:pO (hH (da C n aa ab))=true
section
variable{C:ax}{n aa:Nat}{ab:Array Oper}
def tr(e:g8 C n aa ab):(j2 C n aa ab).length=ab.size/\∀E x,(j2 C n aa ab)[E]? =some x->x.i=E/\∃A,qF C n aa ab x A:=by
 have a:=e.EP
 have:=EE (ab:=ab) ab.toList 0 _ Zs (by rw[qA];exact a)
 exact⟨by simpa using this.1,λE x b=>by simpa using this.2 E x b⟩
def pu(ab:Array Oper):(gV ab).length=ab.size/\(∀E p,(gV ab)[E]? =some p->p.i=E/\∃A,n6 ab p A):=by
 have:=yP (ab:=ab) ab.toList 0 [] Zs Zs
 rw[qA]at this
 exact⟨by unfold gV;simpa using this.1,λE p a=>by simpa using this.2.1 E p a⟩
noncomputable def h4(C:ax)(n aa:Nat)(ab:Array Oper):List (cX×cA):=(gV ab).zip (j2 C n aa ab)
def kQ(e:g8 C n aa ab)(i:Nat)(ai:i<ab.size):∃p x A,(h4 C n aa ab)[i]? =some (p,x)/\(gV ab)[i]? =some p/\p.i=i/\x.i=i/\qF C n aa ab x A/\n6 ab p A:=by
 obtain⟨aE,aW⟩:=tr e
 obtain⟨b0,bb⟩:=pu ab
 have r:(j2 C n aa ab)[i]? =some ((j2 C n aa ab)[i]'Zo):=Ze _
 have b:(gV ab)[i]? =some ((gV ab)[i]'Zo):=Ze _
 obtain⟨c,A,d⟩:=aW _ _ r
 obtain⟨f,o',g⟩:=bb _ _ b
 have:o'=A:=by
  have m:=d.oper;have a:=g.oper
  rw[c]at m;rw[f]at a
  rw[m]at a;exact(Yd a).symm
 subst this
 refine⟨_,_,o', ?_,b,f,c,d,g⟩
 unfold h4
 rw[List.getElem?_zip_eq_some]
 exact⟨b,r⟩
def kR(e:g8 C n aa ab){a:cX×cA}(r:a∈h4 C n aa ab):∃A,a.1.i<ab.size/\a.2.i=a.1.i/\(h4 C n aa ab)[a.1.i]? =some a/\(gV ab)[a.1.i]? =some a.1/\qF C n aa ab a.2 A/\n6 ab a.1 A:=by
 obtain⟨E,b⟩:=ZZ.1 r
 have t:(h4 C n aa ab).length=ab.size:=by
  unfold h4
  rw[List.length_zip,(tr e).1,(pu ab).1,Nat.min_self]
 have m:E<ab.size:=zu (Zf.1 b).1
 obtain⟨p,x,A,c,f,d,s,g,i⟩:=kQ e E m
 rw[b]at c
 cases c
 refine⟨A,by simp only;omega,by simp only;omega, ?_, ?_,g,i⟩
 ·simp only[d];exact b
 ·simp only[d];exact f
def q9:da C n aa ab=(h4 C n aa ab).filter λ(x:cX×cA)=>gl x.2.op:=GH _ _
def rb:fB C n aa ab=((h4 C n aa ab).filter λ(x:cX×cA)=> !gl x.2.op).map λ(x:cX×cA)=>⟨x.2,jj x.1.m (hH (da C n aa ab)),mm x.1.i (hH (da C n aa ab))⟩:=HL _ _ _
def rf{h:hd}(ap:h∈fB C n aa ab):∃p,(p,h.x)∈h4 C n aa ab/\gl h.x.op=false/\h.aC=jj p.m (hH (da C n aa ab))/\h.ai=mm p.i (hH (da C n aa ab)):=by
 rw[rb]at ap
 obtain⟨d,c,rfl⟩:=ZB.1 ap
 obtain⟨a,b⟩:=YE.1 c
 exact⟨d.1,a,by simpa using b,rfl,rfl⟩
def ra{a:cX×cA}(b:a∈da C n aa ab):a∈h4 C n aa ab/\gl a.2.op=true:=by
 rw[q9]at b
 exact YE.1 b
def xt(e:g8 C n aa ab)(i:Nat)(ai:i<ab.size):(∃h∈fB C n aa ab,h.x.i=i)\/(∃(p:Nat) (c:cX×cA),(da C n aa ab)[p]? =some c/\c.1.i=i):=by
 obtain⟨p,x,A,d,r,f,g,s,t⟩:=kQ e i ai
 have b:=Zg d
 cases a:gl x.op with
 |true=>
  refine .inr ?_
  have:(p,x)∈da C n aa ab:=by rw[q9];exact YE.2 ⟨b,a⟩
  obtain⟨J,m⟩:=ZZ.1 this
  exact⟨J,_,m,f⟩
 |false=>
  refine .inl ⟨_,by rw[rb];exact ZB.2 ⟨(p,x),YE.2 ⟨b,by simp[a]⟩,rfl⟩,g⟩
def xs(e:g8 C n aa ab):(h4 C n aa ab).Pairwise λa b=>a.1.i<b.1.i:=by
 rw[YQ]
 intro i E ai f t
 have v:(h4 C n aa ab).length=ab.size:=by
  unfold h4
  rw[List.length_zip,(tr e).1,(pu ab).1,Nat.min_self]
 obtain⟨p,x,A,c,g,r,_⟩:=kQ e i Zo
 obtain⟨w,z,o',d,m,s,_⟩:=kQ e E Zo
 rw[Ze ai]at c
 rw[Ze f]at d
 rw[Yd c,Yd d]
 simp only;omega
def xr(e:g8 C n aa ab){p J:Nat}{m z:cX×cA}(s:(da C n aa ab)[p]? =some m)(t:(da C n aa ab)[J]? =some z)(v:m.1.i=z.1.i):p=J:=by
 have c:(da C n aa ab).Pairwise λa b=>a.1.i<b.1.i:=by rw[q9];exact(xs e).filter _
 rw[YQ]at c
 obtain⟨d,f⟩:=Zf.1 s
 obtain⟨g,i⟩:=Zf.1 t
 rcases YU p J with r|rfl|iT
 ·have:=c p J d g r
  rw[f,i]at this;omega
 ·rfl
 ·have:=c J p g d iT
  rw[f,i]at this;omega
def ts(e:g8 C n aa ab):(fB C n aa ab).Pairwise λa b=>a.x.i<b.x.i:=by
 rw[rb,List.pairwise_map]
 have f:((h4 C n aa ab).filter λ(x:cX×cA)=> !gl x.2.op).Pairwise λa b=>a.1.i<b.1.i:=(xs e).filter _
 refine f.imp_of_mem λ{a b} g Y i=> ?_
 obtain⟨_,_,c,_⟩:=kR e (YE.1 g).1
 obtain⟨_,_,d,_⟩:=kR e (YE.1 Y).1
 show a.2.i<b.2.i
 rw[c,d];exact i
def re(e:g8 C n aa ab){h:hd}(ap:h∈fB C n aa ab):h.x.i<ab.size:=by
 obtain⟨p,c,_⟩:=rf ap
 obtain⟨_,a,b,_⟩:=kR e c
 simp only at a b;omega
def E9(e:g8 C n aa ab){a:cX×cA}(d:a∈da C n aa ab):a.1.i<ab.size/\a.2.i=a.1.i:=by
 obtain⟨_,b,c,_⟩:=kR e (ra d).1
 exact⟨b,c⟩
def mQ(ab:Array Oper)(bk:Nat->Prop):Prop:=∀i A,ab[i]? =some A->bk i->∀j∈A.after.toList,Region.binds .any j=true->bk j.on
def pv{bk:Nat->Prop}(v:mQ ab bk){p:cX}(P:p∈gV ab){A:Oper}(O:ab[p.i]? =some A)
 (c:∀j∈A.after.toList,Region.binds .any j=true->bk j.on):∀a,cB p.m a=true->bk a:=by
 have key:=(yP (ab:=ab) ab.toList 0 [] Zs Zs).2.2 (λi m=>(∀A,ab[i]? =some A->∀j∈A.after.toList,Region.binds .any j=true->bk j.on)->∀a,cB m a=true->bk a) Zs
  (λE A m C _ G c a w=>by
   obtain⟨j,g,n,r⟩:=G a w
   have d:=c A C j g n
   rcases r with rfl|⟨S,s,t⟩
   ·exact d
   ·exact s (λo' b f z x=>v j.on o' b d f z x) a t)
 rw[qA]at key
 exact key p P (λo' b=>by rw[O]at b;cases b;exact c)
end
structure qC(C:ax)(D:Nat->Prop)(S:F ac)(base:Nat)(V:List (Nat×q))(y:F q)(x:cA)(L:q):Prop where
 key:cd V x.i=some L
 ok:∃a b,Sub a V/\gN x.g a=some b/\(b=false->L=undef)/\(b=true->(gl x.op=false)/\
  (fZ x.op= .make->∃bJ,gD x.op C (base+x.i) a y=some (L,bJ)/\H C S (base+x.i)=some bJ)/\
  (fZ x.op= .dT->mK x.op=false->∀c9,di x.op C c9 a y=some L))
def pc(C:ax)(S:F ac)(V:List (Nat×q))(y:F q)(x:cA)(L:q):Prop:=
 ∃a c9 b,Sub a V/\hc C c9 S/\gN x.g a=some b/\(b=true->fZ x.op= .dT->di x.op C c9 a y=some L)
def lS(u:bC)(D:Nat->Prop)(aa:Nat)(ab:Array Oper)(bk:Nat->Prop)(V:List (Nat×q))(y:F q)(tmps:Array Value):Prop:=
 ∀t v,((∃E,bk E/\iw ab E=some t/\(∀a,bk a->iw ab a=some t->a<=E)/\cd V E=some v)\/((∀E,bk E->iw ab E≠some t)/\cB aa t=true/\y.get t=some v))->
  tmps[t]? =some (af u v)/\ba D v
structure hX(C:ax)(u:bC)(D:Nat->Prop)(S:F ac)(base n aa:Nat)(ab:Array Oper)(V:List (Nat×q))(k m:Nat)(y:F q)(tmps:Array Value)(bk:Nat->Prop):Prop where
 st:g8 C n aa ab
 size:tmps.size=n
 rO:k<=(da C n aa ab).length
 cf:C.aN<=base
 closed:mQ ab bk
 kd:∀i,bk i->i<ab.size
 done:∀p e,(da C n aa ab)[p]? =some e->(bk e.1.i↔p<k)
 iV:∀h∈fB C n aa ab,bk h.x.i->h.aC<m
 keys:∀i L,cd V i=some L->(∃h∈fB C n aa ab,h.x.i=i/\h.aC<m)\/(∃p e,(da C n aa ab)[p]? =some e/\e.1.i=i/\p<k)
 jo:∀p e,(da C n aa ab)[p]? =some e->p<k->∃L,cd V e.1.i=some L
 ahead:∀h∈fB C n aa ab,h.aC<m->∃L,cd V h.x.i=some L/\(¬bk h.x.i->qC C D S base V y h.x L)
 nd:lS u D aa ab bk V y tmps
 ids:∀i,i<ab.size->D (base+i)->bk i
 free:∀i,i<ab.size->cd V i=none->H C S (base+i)=none
section
variable{C:ax}{u bD:bC}{D bq:Nat->Prop}{S B:F ac}{nx nx' az:Nat}{w aK:World}
def gS.R{aa:Nat}{X:Nat->Prop}{wr:List (Nat×Nat)}{V:List (Nat×q)}{y:F q}{tmps:Array Value}(i:∀b,D b->bD b=u b)(d:∀b,D b->bq b)(e:gS u D aa X wr V y tmps):gS bD bq aa X wr V y tmps:=
 λt v g f=>by
  obtain⟨c,a⟩:=e t v g f
  exact⟨by rw[c,hF i a],gZ d v a⟩
def lS.R{aa:Nat}{ab:Array Oper}{bk:Nat->Prop}{V:List (Nat×q)}{y:F q}{tmps:Array Value}(g:∀b,D b->bD b=u b)(d:∀b,D b->bq b)(e:lS u D aa ab bk V y tmps):lS bD bq aa ab bk V y tmps:=
 λt v f=>by
  obtain⟨c,a⟩:=e t v f
  exact⟨by rw[c,hF g a],gZ d v a⟩
def ip.R(c:∀b,D b->bD b=u b)(i:∀b,D b->bq b)(e:ip C u D):ip C bD bq:=λg m=>by
 obtain⟨a,d,f⟩:=e g m
 exact⟨i g a,by rw[c g a];exact d,by rw[c g a];exact f⟩
def hX.R{bs base n aa k m:Nat}{ab:Array Oper}{V:List (Nat×q)}{y:F q}{tmps:Array Value}{bk:Nat->Prop}(f:dU C bs u D S az w bD bq B aK)(ap:base+ab.size<=bs)
 (e:hX C u D S base n aa ab V k m y tmps bk):hX C bD bq B base n aa ab V k m y tmps bk:=by
 have T8:∀i,i<ab.size->bq (base+i)->bk i:=λi ai c=>(f.new _ c).elim (e.ids i ai) (λJ=>Zo)
 refine⟨e.st,e.size,e.rO,e.cf,e.closed,e.kd,e.done,e.iV,e.keys,e.jo, ?_,e.nd.R f.dX f.ef,T8, ?_⟩
 ·intro h r TY
  obtain⟨L,O,T0⟩:=e.ahead h r TY
  refine⟨L,O,λa=> ?_⟩
  obtain⟨T1,G,b,T2,T3,T4,T5⟩:=T0 a
  refine⟨T1,G,b,T2,T3,T4,λY=> ?_⟩
  obtain⟨T6,T7,P⟩:=T5 Y
  refine⟨T6,λT9=> ?_,P⟩
  obtain⟨bJ,X,Z⟩:=T7 T9
  refine⟨bJ,X, ?_⟩
  have TZ:=re e.st r
  rw[f.R _ (λc=>a (e.ids _ TZ c)) Zo]
  exact Z
 ·intro i ai g
  rw[f.R _ ?_ Zo]
  ·exact e.free i ai g
  ·intro c
   have a:=e.ids i ai c
   rcases xt e.st i ai with ⟨h,s,t⟩|⟨p,z,v,x⟩
   ·obtain⟨L,d,_⟩:=e.ahead h s (e.iV h s (by rw[t];exact a))
    rw[t,g]at d;cases d
   ·obtain⟨L,d⟩:=e.jo p z v ((e.done p z v).1 (by rw[x];exact a))
    rw[x,g]at d;cases d
end
section
variable{C:ax}{u bD:bC}{D bq:Nat->Prop}{S B:F ac}{nx nx' az:Nat}{w aK:World}{n aa:Nat}{ab:Array Oper}
def yn{a b t:Nat}(c:cB a t=true)(d:cB b t=true):Nat.beq (Nat.land a b) 0=false:=by
 cases e:Nat.beq (Nat.land a b) 0 with
 |false=>rfl
 |true=>
  have j:=Zh e
  have:=Et a b t
  rw[j,qY,c,d]at this
  cases this
def sl{p:cX}{A:Oper}(e:n6 ab p A){t:Nat}(a:A.dst=some t):cB p.w t=true:=by rw[e.w];exact Fh.2 a
def Jl{p:cX}{A:Oper}(e:n6 ab p A){t:Nat}(K:Operand.tmp t∈A.op.operands.toList):cB p.r t=true:=by
 rw[e.r,oj,IW.2 K];rfl
def tl(e:g8 C n aa ab){i E:Nat}{p J:cX}(g:i<E)(c:(gV ab)[i]? =some p)(r:(gV ab)[E]? =some J){t:Nat}
 (f:(cB p.w t=true/\(cB J.r t=true\/cB J.w t=true))\/(cB J.w t=true/\cB p.r t=true)):cB J.m i=true:=by
 have:=IN e.I4 i E p J g c r
 have m:p.i=i:=((pu ab).2 i p c).1
 unfold r9 at this
 rw[m]at this
 rcases f with ⟨b,a⟩|⟨b,a⟩
 ·have d:cB (Nat.lor J.r J.w) t=true:=by rw[oj];rcases a with a|a<;>simp[a]
  rw[yn b d]at this
  simpa using this
 ·rw[yn b a]at this
  simpa using this
def r2{i:Nat}{p:cX}(a:(gV ab)[i]? =some p):p∈gV ab:=Zg a
def Fa(s:g8 C n aa ab){bk:Nat->Prop}{V:List (Nat×q)}{y:F q}{tmps:Array Value}(S:mQ ab bk)(U0:∀i,bk i->i<ab.size)(T9:lS u D aa ab bk V y tmps)
 {i:Nat}{p:cX}{A:Oper}(g:(gV ab)[i]? =some p)(T4:ab[i]? =some A)(Z:¬bk i)(TY:∀j∈A.after.toList,Region.binds .any j=true->bk j.on):
 gS u D aa (λt=>cB p.r t=true) (dY ab i) V y tmps:=by
 have ai:i<ab.size:=(ZI.1 T4).1
 obtain⟨_,T6,f3⟩:=qB ab i (zm ai)
 have U3:p.i=i:=((pu ab).2 i p g).1
 have U2:=pv S (r2 g) (by rw[U3];exact T4) TY
 have T5:∀t E,cB p.r t=true->i<E->bk E->iw ab E=some t->False:=by
  intro t E K TZ b f
  obtain⟨J,x,G,_,m,r,_,U4,d⟩:=kQ s E (U0 E b)
  have c:ab[E]? =some G:=by rw[<-r];exact d.oper
  have T0:=sl d (t:=t) (by rw[<-px c];exact f)
  have Y:=tl s TZ g m (.inr ⟨T0,K⟩)
  have:=pv S (r2 m) (by rw[r];exact c) (S E G c b) i Y
  exact Z this
 intro t v P w
 apply T9 t v
 split at w
 ·rename_i E X
  obtain⟨T7,T1,T8⟩:=T6 t E X
  left
  have U1:E<ab.size:=Zo
  obtain⟨J,x,G,_,m,r,_,U4,d⟩:=kQ s E U1
  have c:ab[E]? =some G:=by rw[<-r];exact d.oper
  have T0:=sl d (t:=t) (by rw[<-px c];exact T1)
  have Y:=tl s T7 m g (.inl ⟨T0, .inl P⟩)
  refine⟨E,U2 E Y,T1,λz T2 T3=> ?_,w⟩
  rcases YU z i with a|a|a
  ·rcases zg E z with O|O
   ·exact absurd T3 (T8 z O a)
   ·exact O
  ·exact absurd (a▸T2) Z
  ·exact(T5 t z P a T2 T3).elim
 ·rename_i X
  right
  refine⟨λE b f=> ?_,w.1,w.2⟩
  rcases YU E i with a|a|a
  ·exact f3 t X E a f
  ·exact Z (a▸b)
  ·exact T5 t E P a b f
def lS.put(G:g8 C n aa ab){bk:Nat->Prop}{V g:List (Nat×q)}{y:F q}{tmps:Array Value}(P:mQ ab bk)(T8:∀i,bk i->i<ab.size)(T5:lS u D aa ab bk V y tmps)(U6:tmps.size=n)
 {i:Nat}{A:Oper}{v:q}(w:ab[i]? =some A)(U1:¬bk i)(T3:∀E,bk E->∀L,cd g E=some L->cd V E=some L)(T4:cd g i=some v)(T7:∀d,A.dst=some d->d<n)(dC:ba D v):
 lS u D aa ab (add bk i) g y (hs tmps A.dst (af u v)):=by
 have ai:i<ab.size:=(ZI.1 w).1
 have r:=px w
 have U5:∀t,(hs tmps A.dst (af u v))[t]? =if A.dst=some t then some (af u v)else tmps[t]? :=λt=>Ao _ _ _ _ (by rw[U6];exact T7)
 intro t L e
 rw[U5]
 by_cases b:A.dst=some t
 ·rw[Zv b]
  rcases e with ⟨E,a,c,s,f⟩|⟨m,_⟩
  ·
   have TZ:E=i:=by
    rcases a with a|a
    ·have U9:=s i (.inr rfl) (by rw[r];exact b)
     rcases zg i E with U0|ml
     ·exfalso
      obtain⟨p,x,U8,_,U3,U4,_,_,S⟩:=kQ G i ai
      obtain⟨J,UA,T1,_,X,Z,_,_,T0⟩:=kQ G E (T8 E a)
      have z:ab[E]? =some T1:=by rw[<-Z];exact T0.oper
      have U2:U8=A:=by
       have:=S.oper
       rw[U4,w]at this
       exact(Yd this).symm
      subst U2
      have Y:=tl G U0 U3 X (.inl ⟨sl S b, .inr (sl T0 (by rw[<-px z];exact c))⟩)
      exact U1 (pv P (r2 X) (by rw[Z];exact z) (P E T1 z a) i Y)
     ·omega
    ·exact a
   subst TZ
   rw[T4]at f
   cases f
   exact⟨rfl,dC⟩
  ·exact absurd (by rw[r];exact b) (m i (.inr rfl))
 ·rw[Zj b]
  apply T5 t L
  rcases e with ⟨E,a,c,s,f⟩|⟨m,T2⟩
  ·left
   have O:bk E:=a.resolve_right λj=>b (by rw[<-r, <-j];exact c)
   exact⟨E,O,c,λU7 TY T6=>s U7 (.inl TY) T6,T3 E O L f⟩
  ·right
   exact⟨λE T9=>m E (.inl T9),T2⟩
def mQ.add{bk:Nat->Prop}(d:mQ ab bk){i:Nat}{A:Oper}(g:ab[i]? =some A)(f:∀j∈A.after.toList,Region.binds .any j=true->bk j.on):mQ ab (add bk i):=by
 intro E m b a j c Y
 rcases a with a|a
 ·exact .inl (d E m b a j c Y)
 ·subst a
  rw[g]at b;cases b
  exact .inl (f j c Y)
def rU(d:g8 C n aa ab){h:hd}(ap:h∈fB C n aa ab){p:Nat}{f:cX×cA}(r:(da C n aa ab)[p]? =some f):h.x.i≠f.1.i:=by
 intro j
 obtain⟨J,g,i,_⟩:=rf ap
 obtain⟨m,c⟩:=ra (Zg r)
 obtain⟨_,_,b,a,_⟩:=kR d g
 obtain⟨_,_,bl,s,_⟩:=kR d m
 simp only at b a
 rw[<-b,j,s]at a
 cases a
 rw[i]at c;cases c
def hX.cy{base m:Nat}{V:List (Nat×q)}{y:F q}{tmps:Array Value}{bk:Nat->Prop}(e:hX C u D S base n aa ab V m (m+1) y tmps bk){f:cX×cA}(r:(da C n aa ab)[m]? =some f)
 {A:Oper}(G:ab[f.1.i]? =some A)(P:¬bk f.1.i)(T4:∀j∈A.after.toList,Region.binds .any j=true->bk j.on){v:q}(dC:ba D v)(T3:∀d,A.dst=some d->d<n):
 hX C u D S base n aa ab ((f.1.i,v)::V) (m+1) (m+1) y (hs tmps A.dst (af u v)) (add bk f.1.i):=by
 have T5:cd V f.1.i=none:=by
  cases w:cd V f.1.i with
  |none=>rfl
  |some L=>
   exfalso
   rcases e.keys _ L w with ⟨h,c,s,_⟩|⟨p,z,c,s,Z⟩
   ·exact rU e.st c r s
   ·have:=xr e.st c r s;omega
 have O:Sub V ((f.1.i,v)::V):=Sub.cons T5
 have ai:f.1.i<ab.size:=(ZI.1 G).1
 refine⟨e.st,by rw[sn];exact e.size,zu (Zf.1 r).1,e.cf,e.closed.add G T4, ?_, ?_, ?_, ?_, ?_, ?_, ?_, ?_, ?_⟩
 ·rintro i (a|a)
  ·exact e.kd i a
  ·omega
 ·intro p z g
  constructor
  ·rintro(a|a)
   ·have:=(e.done p z g).1 a;omega
   ·have:=xr e.st g r a;omega
  ·intro T9
   rcases zg p m with T7|ml
   ·exact .inl ((e.done p z g).2 T7)
   ·have:p=m:=Zo
    subst this
    rw[r]at g;cases g
    exact .inr rfl
 ·rintro h ap (a|a)
  ·exact e.iV h ap a
  ·exact(rU e.st ap r a).elim
 ·intro i L t
  rw[h3]at t
  split at t
  ·rename_i j
   exact .inr ⟨m,f,r,j,Zo⟩
  ·rcases e.keys i L t with c|⟨p,z,c,s,Z⟩
   ·exact .inl c
   ·exact .inr ⟨p,z,c,s,Zo⟩
 ·intro p z g T9
  rw[h3]
  split
  ·exact⟨v,rfl⟩
  ·rename_i T8
   have:p≠m:=λj=>by subst j;rw[r]at g;cases g;exact T8 rfl
   exact e.jo p z g Zo
 ·intro h ap T6
  obtain⟨L,c,s⟩:=e.ahead h ap T6
  refine⟨L,O _ _ c,λa=> ?_⟩
  obtain⟨_,X,b,T0,T1⟩:=s (λJ=>a (.inl J))
  exact⟨O _ _ c,X,b,T0.trans O,T1⟩
 ·refine e.nd.put e.st e.closed e.kd e.size G P ?_ (by rw[h3,Zv rfl]) T3 dC
  intro E a L t
  rw[h3,Zj]at t
  ·exact t
  ·intro j;subst j;exact P a
 ·intro i x T2
  exact .inl (e.ids i x T2)
 ·intro i x w
  rw[h3]at w
  split at w
  ·cases w
  ·exact e.free i x w
def hX.dT{base P m:Nat}{V:List (Nat×q)}{y:F q}{tmps:Array Value}{bk:Nat->Prop}(e:hX C u D S base n aa ab V P m y tmps bk){h:hd}(ap:h∈fB C n aa ab)(U0:h.aC<m)
 {A:Oper}(w:ab[h.x.i]? =some A)(U3:¬bk h.x.i)(TY:∀j∈A.after.toList,Region.binds .any j=true->bk j.on){v:q}(U5:cd V h.x.i=some v)
 (U6:∀b,D b->bD b=u b)(T6:∀b,D b->bq b)(T7:∀b,bq b->D b\/b=base+h.x.i)(dC:ba bq v)(T9:∀d,A.dst=some d->d<n):
 hX C bD bq S base n aa ab V P m y (hs tmps A.dst (af bD v)) (add bk h.x.i):=by
 have ai:h.x.i<ab.size:=(ZI.1 w).1
 refine⟨e.st,by rw[sn];exact e.size,e.rO,e.cf,e.closed.add w TY, ?_, ?_, ?_,e.keys,e.jo, ?_, ?_, ?_,e.free⟩
 ·rintro i (c|c)
  ·exact e.kd i c
  ·omega
 ·intro p z x
  constructor
  ·rintro(c|c)
   ·exact(e.done p z x).1 c
   ·exact(rU e.st ap x c.symm).elim
  ·intro U4
   exact .inl ((e.done p z x).2 U4)
 ·rintro s r (c|c)
  ·exact e.iV s r c
  ·have:=(ts e.st)
   by_cases J:s=h
   ·rw[J];exact U0
   ·exfalso
    obtain⟨a,T8⟩:=ZZ.1 r
    obtain⟨b,Y⟩:=ZZ.1 ap
    obtain⟨G,t⟩:=Zf.1 T8
    obtain⟨O,f⟩:=Zf.1 Y
    rw[YQ]at this
    rcases YU a b with U2|j|iT
    ·have:=this a b G O U2
     rw[t,f]at this;omega
    ·subst j
     rw[t]at f;exact J f
    ·have:=this b a O G iT
     rw[t,f]at this;omega
 ·intro s r U1
  obtain⟨L,Z,T0⟩:=e.ahead s r U1
  refine⟨L,Z,λc=> ?_⟩
  obtain⟨T1,X,b,T2,T3,T4,T5⟩:=T0 (λJ=>c (.inl J))
  exact⟨T1,X,b,T2,T3,T4,T5⟩
 ·exact(e.nd.R U6 T6).put e.st e.closed e.kd e.size w U3 (λ_ _ _ J=>J) U5 T9 dC
 ·intro i TZ g
  rcases T7 _ g with g|g
  ·exact .inl (e.ids i TZ g)
  ·exact .inr Zo
end
def iO(u:bC)(p:ik):PanicEntry:={v:=af u p.v,recovered:=p.recovered}
def de(u:bC):fa->FrameMode
 | .run=> .run
 | .returning=> .returning
 | .panicking a=> .panicking (a.map (iO u))
def hI(D:Nat->Prop):fa->Prop
 | .panicking a=>∀p∈a,ba D p.v
 |_=>True
inductive mT(C:ax)(u:bC)(D:Nat->Prop)(aa:Nat):bS->Item->Prop
 |code {c:Code}:fA C aa c=true->mT C u D aa (.code c) (.code c)
 |inBlock {id:Nat}:mT C u D aa (.inBlock id) (.inBlock id)
 |inLoop {b:Code}:fA C aa b=true->mT C u D aa (.inLoop b) (.inLoop b)
 |inScope {b:Code}:fA C aa b=true->mT C u D aa (.inScope b) (.inScope b)
 |nh {h:Nat}:D h->mT C u D aa (.endRangeFunc h) (.endRangeFunc (u h).a8)
 |begin:mT C u D aa .beginRound .beginRound
inductive fv(C:ax)(u:bC)(D:Nat->Prop)(aa:Nat):List bS->List Item->Prop
 |nil:fv C u D aa [] []
 |cons {a x k aD}:mT C u D aa a x->fv C u D aa k aD->fv C u D aa (a::k) (x::aD)
def sY(C:ax)(u:bC)(D:Nat->Prop)(n aa:Nat)(ab:Array Oper)(V:List (Nat×q))(rest:List cA)(fin:List (Nat×Nat))(y:F q)(tmps:Array Value)(h:List Nat):Prop:=
 ∃i,i<=ab.size/\h=List.range' i (ab.size-i)/\iv C n aa (ab.toList.drop i) i (dY ab i)=some rest/\fin=ff aa ab.toList 0/\gS u D aa (λ_=>True) (dY ab i) V y tmps/\tmps.size=n
def DO(C:ax)(u:bC)(D:Nat->Prop)(n aa:Nat)(ab:Array Oper)(V:List (Nat×q))(e:Nat)(rest:List cA)(fin:List (Nat×Nat))(y:F q)(tmps:Array Value)(h:List Nat):Prop:=
 ∃A,ab[e]? =some A/\(∀d,A.dst=some d->d<n)/\h=List.range' (e+1) (ab.size-(e+1))/\iv C n aa (ab.toList.drop (e+1)) (e+1) (dY ab (e+1))=some rest/\fin=ff aa ab.toList 0/\
  gS u D aa (λ_=>True) (dY ab e) V y tmps/\tmps.size=n
inductive m1(C:ax)(u:bC)(D:Nat->Prop)(S:F ac)(bs nx n aa:Nat)(y:F q)(tmps:Array Value):List bS->List Item->Prop
 |plain {k aD}:fv C u D aa k aD->eo u D n aa y tmps->m1 C u D S bs nx n aa y tmps k aD
 |seq {ab V rest fin h k aD}:fv C u D aa k aD->sY C u D n aa ab V rest fin y tmps h->m1 C u D S bs nx n aa y tmps (.o2 ab V rest fin::k) (.inRegion ab h::aD)
 |drawn {ab base V h k aD bk a}:fv C u D aa k aD->bs<=base->base+ab.size<=nx->hX C u D S base n aa ab V a a y tmps bk->jR ab bk h->
   m1 C u D S bs nx n aa y tmps (.drawn ab base V (ll (fB C n aa ab) a ((da C n aa ab).drop a)) (ff aa ab.toList 0)::k) (.inRegion ab h::aD)
inductive fU(C:ax)(u:bC)(D:Nat->Prop)(S:F ac)(aC ai n aa:Nat)(y:F q)(tmps:Array Value):List bS->List Item->Prop
 |seq {ab V e rest fin h k aD}:fv C u D aa k aD->DO C u D n aa ab V e rest fin y tmps h->fU C u D S aC ai n aa y tmps (.iG ab V e rest fin::k) (.inRegion ab (e::h)::aD)
 |drawn {ab base V h k aD bk b a A}:fv C u D aa k aD->aC<=base->base+ab.size<=ai->hX C u D S base n aa ab V b (b+1) y tmps bk->(da C n aa ab)[b]? =some a->
   ab[a.1.i]? =some A->¬bk a.1.i->(∀j∈A.after.toList,Region.binds .any j=true->bk j.on)->jR ab (add bk a.1.i) h->
   fU C u D S aC ai n aa y tmps (.lE ab base V a.1.i (ll (fB C n aa ab) (b+1) ((da C n aa ab).drop (b+1))) (ff aa ab.toList 0)::k) (.inRegion ab (a.1.i::h)::aD)
 |dk {h k aD}:fv C u D aa k aD->eo u D n aa y tmps->D h->fU C u D S aC ai n aa y tmps (.inRangeFunc h::k) (.inRangeFunc (u h).a8::aD)
def lZ(C:ax)(u:bC)(D:Nat->Prop)(S:F ac)(aC ai n aa:Nat)(y:F q)(tmps:Array Value)(aS:fa)(todo:List bS)(aD:List Item):Prop:=match aS with
 | .run=>fU C u D S aC ai n aa y tmps todo aD
 |_=>eo u D n aa y tmps
def bd(u:bC)(fn:Nat)(av:List dI)(am:Bool)(ro:Option Nat)(tmps:Array Value)(aD:List Item)(mode:FrameMode):Frame:=
 {fn,tmps,todo:=aD,defers:=av.map (fx u),mode,kind:=if am then .deferred else .normal,roundOf:=ro.map λh=>(u h).a8}
structure jM(C:ax)(D:Nat->Prop)(fn aa:Nat)(av:List dI)(ro:Option Nat):Prop where
 av:∀d∈av,j7 D d
 ro:∀h,ro=some h->D h
 fn:sR C fn aa
inductive gO(C:ax)(u:bC)(D:Nat->Prop)(S:F ac)(aO:Nat)(aU:List Frame):Nat->List dn->List Frame->Prop
 |nil {bs}:gO C u D S aO aU bs [] aU
 |cons {aC bs fn n aa y todo av aS am ro cs tmps aD T}:lZ C u D S aC bs n aa y tmps aS todo aD->hI D aS->jM C D fn aa av ro->(cs=[]->fn=aO/\am=false/\ro=none)->aC<=bs->gO C u D S aO aU aC cs T->
   gO C u D S aO aU bs (⟨fn,n,aa,y,todo,av,aS,am,ro⟩::cs) (bd u fn av am ro tmps aD (de u aS)::T)
section
variable{C:ax}{u bD:bC}{D bq:Nat->Prop}{S B:F ac}{nx nx' az:Nat}{w aK:World}{n aa:Nat}{ab:Array Oper}
def fv.R{k:List bS}{aD:List Item}(d:∀b,D b->bD b=u b)(c:∀b,D b->bq b)(e:fv C u D aa k aD):fv C bD bq aa k aD:=by
 induction e with
 |nil=>exact .nil
 |cons a _ U=>
  refine .cons ?_ U
  cases a with
  |code e=>exact .code e
  |inBlock=>exact .inBlock
  |inLoop e=>exact .inLoop e
  |inScope e=>exact .inScope e
  |nh e=>rw[<-d _ e];exact .nh (c _ e)
  |begin=>exact .begin
def fU.R{aC bs:Nat}{y:F q}{tmps:Array Value}{k:List bS}{aD:List Item}(a:dU C bs u D S az w bD bq B aK)(e:fU C u D S aC bs n aa y tmps k aD):fU C bD bq B aC bs n aa y tmps k aD:=by
 cases e with
 |seq b c=>
  obtain⟨A,aE,aW,a3,a4,a5,dS,dW⟩:=c
  exact .seq (b.R a.dX a.ef) ⟨A,aE,aW,a3,a4,a5,dS.R a.dX a.ef,dW⟩
 |drawn b c d f g i m p r=>exact .drawn (b.R a.dX a.ef) c d (f.R a d) g i m p r
 |dk b c d=>rw[<-a.dX _ d];exact .dk (b.R a.dX a.ef) (c.R a.dX a.ef) (a.ef _ d)
def lZ.R{aC bs:Nat}{y:F q}{tmps:Array Value}{aS:fa}{k:List bS}{aD:List Item}(a:dU C bs u D S az w bD bq B aK)(e:lZ C u D S aC bs n aa y tmps aS k aD):lZ C bD bq B aC bs n aa y tmps aS k aD:=by
 cases aS with
 |run=>exact fU.R a e
 |returning=>exact eo.R a.dX a.ef e
 |panicking b=>exact eo.R a.dX a.ef e
def jM.R{fn:Nat}{av:List dI}{ro:Option Nat}(a:∀b,D b->bq b)(e:jM C D fn aa av ro):jM C bq fn aa av ro:=
 ⟨λd c=>x4 a (e.av d c),λh ap=>a h (e.ro h ap),e.fn⟩
def oS{fn:Nat}{av:List dI}{am:Bool}{ro:Option Nat}{tmps:Array Value}{aD:List Item}{mode:FrameMode}(a:∀b,D b->bD b=u b)(e:jM C D fn aa av ro):bd bD fn av am ro tmps aD mode=bd u fn av am ro tmps aD mode:=by
 unfold bd
 congr 1
 ·exact Yw λd c=>te a (e.av d c)
 ·cases ro with
  |none=>rfl
  |some h=>simp only[ZJ,a h (e.ro h rfl)]
def EF{aS:fa}(c:∀b,D b->bD b=u b)(e:hI D aS):de bD aS=de u aS:=by
 cases aS with
 |panicking d=>
  simp only[de]
  congr 1
  exact Yw λp a=>by simp only[iO,hF c (e p a)]
 |_=>rfl
def Gu{aS:fa}(a:∀b,D b->bq b)(e:hI D aS):hI bq aS:=by
 cases aS with
 |panicking d=>exact λp c=>gZ a _ (e p c)
 |_=>trivial
def dU.mono{bs a:Nat}(e:dU C bs u D S az w bD bq B aK)(ap:a<=bs):dU C a u D S az w bD bq B aK:=
 ⟨e.dX,e.ef,λb Y=>(e.new b Y).imp id (λJ=>Zo),λb Y c=>e.R b Y Zo,e.below⟩
def gO.R{aO:Nat}{aU:List Frame}{bs:Nat}{cs:List dn}{T:List Frame}(e:gO C u D S aO aU bs cs T)(a:dU C bs u D S az w bD bq B aK):gO C bD bq B aO aU bs cs T:=by
 induction e with
 |nil=>exact .nil
 |cons f d b g c i U=>
  rw[<-oS (u:=u) (bD:=bD) a.dX b, <-EF a.dX d]
  exact .cons (f.R a) (Gu a.ef d) (b.R a.ef) g c (U (a.mono c))
def rg(t:Nat):∀(h:List Nat) (y:F q),(j3 h y).get t=if t∈h then none else y.get t:=by
 intro h
 induction h with
 |nil=>intro y;simp[j3]
 |cons d h U=>
  intro y
  simp only[j3,U,F.gj,Zz]
  by_cases e:t∈h
  ·simp[e]
  ·by_cases j:d=t
   ·subst j;simp
   ·have:¬t=d:=λJ=>j J.symm
    simp[e,j,this]
def eo.drop{y:F q}{tmps:Array Value}(e:eo u D n aa y tmps)(h:List Nat):eo u D n aa (j3 h y) tmps:=by
 refine⟨e.size,λt v Y a=> ?_⟩
 rw[rg]at a
 split at a
 ·cases a
 ·exact e.val t v Y a
def xy{h:List Oper}{A:Oper}{d:Nat}(b:A∈h)(c:A.dst=some d):d∈dstsOf h:=by
 induction h with
 |nil=>cases b
 |cons a h U=>
  simp only[dstsOf]
  rcases Zz.1 b with rfl|b
  ·rw[c];exact Zl ..
  ·split
   ·exact Zi _ (U b)
   ·exact U b
def fU.drop{aC bs:Nat}{y:F q}{tmps:Array Value}{k:List bS}{aD:List Item}(e:fU C u D S aC bs n aa y tmps k aD):eo u D n aa (jk k y) tmps:=by
 cases e with
 |seq i f=>
  rename_i ab V e rest fin h k aD
  obtain⟨A,aE,aW,a3,a4,a5,dS,dW⟩:=f
  refine⟨dW,λt v Y a=> ?_⟩
  simp only[jk]at a
  rw[rg]at a
  split at a
  ·cases a
  ·rename_i g
   have ai:e<ab.size:=(ZI.1 aE).1
   obtain⟨_,p,_⟩:=qB ab e (zm ai)
   apply dS t v trivial
   cases s:cd (dY ab e) t with
   |some E=>
    exfalso
    obtain⟨w,c,_⟩:=p t E s
    unfold iw at c
    cases b:ab[E]? with
    |none=>rw[b]at c;cases c
    |some o'=>
     rw[b]at c
     exact g (xy (by rw[Array.mem_toList_iff];exact Y8 b) c)
   |none=>exact⟨Y,a⟩
 |drawn i f r m x z G O P=>
  rename_i ab base V h k aD bk Z T0 A
  refine⟨m.size,λt v Y a=> ?_⟩
  simp only[jk]at a
  rw[rg]at a
  split at a
  ·cases a
  ·rename_i g
   apply m.nd t v
   right
   refine⟨λE X d=> ?_,Y,a⟩
   unfold iw at d
   cases b:ab[E]? with
   |none=>rw[b]at d;cases d
   |some o'=>
    rw[b]at d
    exact g (xy (by rw[Array.mem_toList_iff];exact Y8 b) d)
 |dk i f r=>exact f
def lZ.drop{aC bs:Nat}{y:F q}{tmps:Array Value}{aS:fa}{k:List bS}{aD:List Item}(e:lZ C u D S aC bs n aa y tmps aS k aD):eo u D n aa (jk k y) tmps:=by
 cases aS with
 |run=>exact fU.drop e
 |_=>
  have a:eo u D n aa y tmps:=e
  unfold jk
  split<;>first|exact a.drop _|exact a
def gS.put{y:F q}{V:List (Nat×q)}{tmps:Array Value}{i:Nat}{A:Oper}{v:q}(b:ab[i]? =some A)(c:gS u D aa (λ_=>True) (dY ab i) V y tmps)(g:∀d,A.dst=some d->d<tmps.size)(dC:ba D v):
 gS u D aa (λ_=>True) (dY ab (i+1)) ((i,v)::V) y (hs tmps A.dst (af u v)):=by
 have ai:i<ab.size:=(ZI.1 b).1
 obtain⟨_,f,_⟩:=qB ab i (zm ai)
 intro t L _ e
 rw[Ao _ _ _ _ g]
 rw[qz b,oe]at e
 split at e
 ·rename_i E a
  split at a
  ·rename_i j
   cases a
   rw[h3,Zv rfl]at e
   cases e
   rw[Zv j]
   exact⟨rfl,dC⟩
  ·rename_i j
   rw[Zj j]
   have:=(f t E a).1
   rw[h3,Zj Zo]at e
   exact c t L trivial (by rw[a];exact e)
 ·rename_i a
  split at a
  ·cases a
  ·rename_i j
   rw[Zj j]
   exact c t L trivial (by rw[a];exact e)
def ru{g:Frame}{e:Nat}{h:List Nat}{aD:List Item}{A:Oper}(a:g.todo= .inRegion ab (e::h)::aD)(b:ab[e]? =some A)(v:Value):
 g.finish v={g with tmps:=hs g.tmps A.dst v,todo:= .inRegion ab h::aD}:=by
 unfold Frame.finish
 rw[a]
 simp only[b,ZL]
 cases A.dst<;>rfl
def FU{aC bs nx n aa fn:Nat}{y:F q}{tmps:Array Value}{todo:List bS}{aD:List Item}{av:List dI}{am:Bool}{ro:Option Nat}{mode:FrameMode}{v:q}(e:fU C u D S aC bs n aa y tmps todo aD)(ap:bs<=nx)(dC:ba D v):
 ∃p k r s c0,todo=p::k/\gX p v=some r/\(bd u fn av am ro tmps aD mode).finish (af u v)=bd u fn av am ro s c0 mode/\m1 C u D S aC nx n aa y s (r::k) c0:=by
 cases e with
 |seq a b=>
  rename_i ab V e rest fin h k aD
  obtain⟨A,aE,aW,a3,a4,a5,dS,dW⟩:=b
  have T3:e<ab.size:=(ZI.1 aE).1
  refine⟨_,k, .o2 ab ((e,v)::V) rest fin,hs tmps A.dst (af u v), .inRegion ab h::aD,rfl,rfl, ?_, .seq a ⟨e+1,Zo,a3,a4,a5,dS.put aE (by rw[dW];exact aW) dC,by rw[sn];exact dW⟩⟩
  rw[ru (g:=bd u fn av am ro tmps _ mode) rfl aE];rfl
 |drawn a b c i m f x z G=>
  rename_i ab base V h k aD bk T4 X A
  have P:=Zg m
  have O:∀d,A.dst=some d->d<n:=by
   obtain⟨o',Z,T0,T1,T2,t,w⟩:=kR i.st (ra P).1
   have:o'=A:=by
    have:=w.oper
    rw[f]at this
    exact(Yd this).symm
   subst this
   exact t.dst
  refine⟨_,k, .drawn ab base ((X.1.i,v)::V) _ _,hs tmps A.dst (af u v), .inRegion ab h::aD,rfl,rfl, ?_, .drawn a b (ZD c ap) (i.cy m f x z dC O) G⟩
  rw[ru (g:=bd u fn av am ro tmps _ mode) rfl f];rfl
 |dk a b c=>
  rename_i h k aD
  exact⟨_,k, .endRangeFunc h,tmps, .endRangeFunc (u h).a8::aD,rfl,rfl,rfl, .plain (.cons (.nh c) a) b⟩
def sG{y:F q}{V c:List (Nat×q)}{tmps:Array Value}{X:Nat->Prop}{i:Nat}{A:Oper}{g:Option (Nat×Bool)}{b:Bool}(ai:i<=ab.size)(a:pq (dY ab i) A.guard=some g)(x:gS u D aa X (dY ab i) V y tmps)
 (p:∀E b t,A.guard=some (E,b)->j4 E (dY ab i)=some t->X t)(v:Sub c V)(e:gN g c=some b):Region.wanted A (yielded ab tmps)=b:=by
 obtain⟨n,_,_⟩:=qB ab i ai
 unfold pq at a
 unfold Region.wanted
 split at a
 ·rename_i r
  simp at a;subst a
  simp[gN]at e
  rw[r, <-e]
 ·rename_i E C f
  rw[f]
  split at a
  ·rename_i t m
   split at a
   ·rename_i G s
    rw[d2]at a
    split at a
    ·rename_i j
     subst j
     simp at a;subst a
     simp only[gN]at e
     split at e
     ·rename_i L w
      have:=x t L (p E C t f m) (by rw[s];exact v _ _ w)
      have z:yielded ab tmps E=(match af u L with| .bool b=>some b|_=>none):=by
       unfold yielded
       have d:=n E t m
       unfold iw at d
       rw[d]
       simp only[ZL,this.1]
       cases af u L<;>rfl
      simp only[z]
      cases L<;>simp[af]at e ⊢ <;>first|(rw[<-e])|exact e|(subst e;rfl)|skip
      all_goals simp_all
     ·simp at e
    ·simp at a
   ·simp at a
  ·simp at a
end
structure sU(C:ax)(aF:World):Prop where
 val:∀f args v,C.dv f args=some v->((∀u a,af u v=af a v)/\∀D,ba D v)/\(∀u a,aR u args=aR a args)/\∀D,ca D args
 ok:∀f args v,C.dv f args=some v->∀u w,Below aF.heap.size aF w->
  (callFunc f (aR u args).toArray).run C.P w= .ok (.value (af u v)) w\/
  ((callFunc f (aR u args).toArray).run C.P w= .ok (.enter f (aR u args).toArray) w/\Calls C.P f (aR u args).toArray w λj aK=>j= .returned (af u v)/\Below w.heap.size w aK)
structure Env(C:ax)(aF:World)(bV:bC)(b6:Nat->Prop):Prop where
 eO:kB C.P
 dv:sU C aF
 base:bA C bV b6 .nil C.aN aF.heap.size aF
 dP:ip C bV b6
def Ends(C:ax)(aF:World)(aO:Nat)(aU:List Frame)(v:q)(bI:Machine):Prop:=
 ∃u aK fr,Steps C.P bI (lone fr aU aK)/\fr.leaving C.P aK (.returned (af u v))/\fr.fn=aO/\Below aF.heap.size aF aK
structure m0(C:ax)(aF:World)(aO:Nat)(aU:List Frame)(aS:fa)(todo:List bS)(fn n aa:Nat)(av:List dI)(am:Bool)(ro:Option Nat)(cs:List dn)(y:F q)(S:F ac)(nx:Nat)
 (u:bC)(D:Nat->Prop)(w:World)(bs:Nat)(tmps:Array Value)(aD:List Item)(T:List Frame):Prop where
 K:bA C u D S nx aF.heap.size w
 fc:Below aF.heap.size aF w
 dP:ip C u D
 eH:bs<=nx
 dO:jM C D fn aa av ro
 mode:hI D aS
 bot:cs=[]->fn=aO/\am=false/\ro=none
 cs:gO C u D S aO aU bs cs T
 todo:match aS with
  | .run=>m1 C u D S bs nx n aa y tmps todo aD
  |_=>eo u D n aa y tmps
def gc(C:ax)(aF:World)(aO:Nat)(aU:List Frame)(U:dG):Prop:=
 ∀aS todo fn n aa av am ro cs y S nx v,U aS todo ⟨fn,n,aa,av,am,ro,cs⟩ y S nx=some v->
  ∀u D w bs tmps aD T,m0 C aF aO aU aS todo fn n aa av am ro cs y S nx u D w bs tmps aD T->Ends C aF aO aU v (lone (bd u fn av am ro tmps aD (de u aS)) T w)
section
variable{C:ax}{u bD:bC}{D bq:Nat->Prop}{S B:F ac}{nx nx' az:Nat}{w aK:World}{n aa:Nat}{ab:Array Oper}
variable{aF:World}{aO:Nat}{aU:List Frame}{v:q}
def Ends.head{bI a:Machine}(e:step C.P bI= .next a)(b:Ends C aF aO aU v a):Ends C aF aO aU v bI:=by
 obtain⟨u,aK,fr,c,d⟩:=b
 exact⟨u,aK,fr, .head e c,d⟩
def Ends.steps{bI a:Machine}(e:Steps C.P bI a)(b:Ends C aF aO aU v a):Ends C aF aO aU v bI:=by
 obtain⟨u,aK,fr,c,d⟩:=b
 exact⟨u,aK,fr,e.trans c,d⟩
def bA.later(K:bA C u D S nx az w)(Y:Below w.heap.size w aK):bA C u D S nx az aK:=
 ⟨K.aN,K.lt,K.jC,λb A e d=>(K.obj b A e d).R (λ_ _=>rfl) (λ_ e=>e) (Y.block _ (K.obj b A e d).lt),K.sep,K.base,K.ch⟩
def Env.now{bV:bC}{b6:Nat->Prop}(c:Env C aF bV b6)(Y:Below aF.heap.size aF w):bA C bV b6 .nil C.aN w.heap.size w:=by
 have K:=c.base.later Y
 refine⟨K.aN,K.lt,K.jC,K.obj,K.sep, ?_,K.ch⟩
 intro b A d a _
 exfalso
 unfold H at a
 rw[cK,Zj (by simp[Nat.blt];omega)]at a
 simp at a
def Env.later{bV:bC}{b6:Nat->Prop}(a:Env C aF bV b6)(Y:Below aF.heap.size aF w):Env C w bV b6:=
 ⟨a.eO,⟨a.dv.val,λf args v e u c b=>a.dv.ok f args v e u c (Y.trans (b.mono Y.size))⟩,a.now Y,a.dP⟩
variable{fn:Nat}{av:List dI}{am:Bool}{ro:Option Nat}{tmps:Array Value}{aD:List Item}{T:List Frame}
def fQ(tmps:Array Value)(aD:List Item):stepG C.P true {frame:=bd u fn av am ro tmps aD .run,callers:=T,status:= .running,dying:=none} w=stepG.exec C.P true true (bd u fn av am ro tmps aD .run) T none w:=by
 simp[stepG,bd]
def KT{a b:Code}:step C.P (lone (bd u fn av am ro tmps (.code (.seq a b)::aD) .run) T w)= .next (lone (bd u fn av am ro tmps (.code a:: .code b::aD) .run) T w):=
 step_lone_go (by rw[fQ];simp[stepG.exec,bd])
def KU:step C.P (lone (bd u fn av am ro tmps (.code .skip::aD) .run) T w)= .next (lone (bd u fn av am ro tmps aD .run) T w):=
 step_lone_go (by rw[fQ];simp[stepG.exec,bd])
def KJ{h:Nat}:step C.P (lone (bd u fn av am ro tmps (.code (.label h)::aD) .run) T w)= .next (lone (bd u fn av am ro tmps aD .run) T w):=
 step_lone_go (by rw[fQ];simp[stepG.exec,bd])
def KG{h:Nat}:step C.P (lone (bd u fn av am ro tmps (.inBlock h::aD) .run) T w)= .next (lone (bd u fn av am ro tmps aD .run) T w):=
 step_lone_go (by rw[fQ];simp[stepG.exec,bd])
def KI{b:Code}:step C.P (lone (bd u fn av am ro tmps (.inScope b::aD) .run) T w)= .next (lone (bd u fn av am ro tmps aD .run) T w):=
 step_lone_go (by rw[fQ];simp[stepG.exec,bd])
def KA{id:Nat}{b:Code}:step C.P (lone (bd u fn av am ro tmps (.code (.block id b)::aD) .run) T w)= .next (lone (bd u fn av am ro tmps (.code b:: .inBlock id::aD) .run) T w):=
 step_lone_go (by rw[fQ];simp[stepG.exec,bd])
def KK{b:Code}:step C.P (lone (bd u fn av am ro tmps (.code (.loop b)::aD) .run) T w)= .next (lone (bd u fn av am ro tmps (.code b:: .inLoop b::aD) .run) T w):=
 step_lone_go (by rw[fQ];simp[stepG.exec,bd])
def KH{b:Code}:step C.P (lone (bd u fn av am ro tmps (.inLoop b::aD) .run) T w)= .next (lone (bd u fn av am ro tmps (.code b:: .inLoop b::aD) .run) T w):=
 step_lone_go (by rw[fQ];simp[stepG.exec,bd])
def KS{b:Code}:step C.P (lone (bd u fn av am ro tmps (.code (.scope b)::aD) .run) T w)= .next (lone (bd u fn av am ro tmps (.code b:: .inScope b::aD) .run) T w):=
 step_lone_go (by rw[fQ];simp[stepG.exec,bd])
def KB{c:Operand}{a b:Code}{t:Bool}(e:e9 tmps c= .bool t):step C.P (lone (bd u fn av am ro tmps (.code (.cond c a b)::aD) .run) T w)= .next (lone (bd u fn av am ro tmps (.code (if t then a else b)::aD) .run) T w):=
 step_lone_go (by
  have d:(bd u fn av am ro tmps (.code (.cond c a b)::aD) .run).eval c= .bool t:=by rw[pA];exact e
  rw[fQ]
  simp only[bd]at d
  simp[stepG.exec,bd,d])
def KF{id:Nat}{c0:List Item}(e:Go.exitTo id aD=some c0):step C.P (lone (bd u fn av am ro tmps (.code (.exit id)::aD) .run) T w)= .next (lone (bd u fn av am ro tmps c0 .run) T w):=
 step_lone_go (by rw[fQ];simp[stepG.exec,bd,e])
def KP:step C.P (lone (bd u fn av am none tmps (.code .ret::aD) .run) T w)= .next (lone (bd u fn av am none tmps (.code .ret::aD) .returning) T w):=
 step_lone_go (by rw[fQ];simp[stepG.exec,bd])
def KD:step C.P (lone (bd u fn av am none tmps [] .run) T w)= .next (lone (bd u fn av am none tmps [] .returning) T w):=
 step_lone_go (by rw[fQ];simp[stepG.exec,bd])
def KN{id:Nat}:step C.P (lone (bd u fn av am ro tmps (.code (.region id ab false)::aD) .run) T w)= .next (lone (bd u fn av am ro tmps (.inRegion ab (List.range ab.size)::aD) .run) T w):=
 step_lone_go (by rw[fQ];simp[stepG.exec,bd])
def KO{id:Nat}:step C.P (lone (bd u fn av am ro tmps (.code (.region id ab true)::aD) .run) T w)=
 .next (lone (bd u fn av am ro tmps (.inRegion ab (Region.schedule (C.P.follows .mixedOrders) ab (w.tape w.drawn (.order fn id)))::aD) .run) T w.drew):=
 step_lone_go (by rw[fQ];simp[stepG.exec,bd,Question.forced,Question.cut])
def AS:step C.P (lone (bd u fn av am ro tmps (.inRegion ab []::aD) .run) T w)= .next (lone (bd u fn av am ro tmps aD .run) T w):=
 step_lone_go (by rw[fQ];simp[stepG.exec,bd])
def u7{i:Nat}{h:List Nat}{A:Oper}(a:ab[i]? =some A)(b:Region.wanted A (yielded ab tmps)=false):
 step C.P (lone (bd u fn av am ro tmps (.inRegion ab (i::h)::aD) .run) T w)= .next (lone ((bd u fn av am ro tmps (.inRegion ab (i::h)::aD) .run).finish Go.undef) T w):=
 step_lone_go (by rw[fQ];simp[stepG.exec,bd,a,b])
def uA{ad:Operand->Value}{A:Oper}{gr:Next}(K:(execOp ad A).run C.P w= .ok gr aK)(e:∀d,gr≠ .defer d):∀c,A.op≠ .defer c:=by
 intro c b
 have f:execOp ad A=(do pure (.defer (<-resolve ad c A.type))):=by unfold execOp;rw[b]
 rw[f]at K
 simp only[Sem.run_bind]at K
 cases a:(resolve ad c A.type).run C.P w with
 |ok d g=>
  rw[a]at K
  simp only[Result.andThen_ok,Sem.run_pure,Result.ok.injEq]at K
  exact e d K.1.symm
 |halt j g=>
  rw[a]at K
  simp at K
def o5{i:Nat}{h:List Nat}{A:Oper}(a:ab[i]? =some A)(b:Region.wanted A (yielded ab tmps)=true)(e2:ro=none\/∀c,A.op≠ .defer c):
 stepG C.P true {frame:=bd u fn av am ro tmps (.inRegion ab (i::h)::aD) .run,callers:=T,status:= .running,dying:=none} w=
  stepG.apply C.P true (bd u fn av am ro tmps (.inRegion ab (i::h)::aD) .run) T none (execOp (e9 tmps) A) w:=by
 rw[fQ]
 rcases e2 with rfl|e2
 ·simp[stepG.exec,stepG.oper,bd,Frame.oper?,a,b,pA]
 ·cases ro with
  |none=>simp[stepG.exec,stepG.oper,bd,Frame.oper?,a,b,pA]
  |some r=>
   have:∀(c:Call),A.op≠ .defer c:=e2
   simp[stepG.exec,stepG.oper,bd,Frame.oper?,a,b,pA]
   split
   ·rename_i d;exact absurd d (this _)
   ·rfl
def nX{i:Nat}{h:List Nat}{A:Oper}{L:Value}{gr:Next}(b:ab[i]? =some A)(c:Region.wanted A (yielded ab tmps)=true)
 (K:(execOp (e9 tmps) A).run C.P w= .ok gr aK)(a:gr= .value L\/(gr= .skip/\L=Go.undef)):
 step C.P (lone (bd u fn av am ro tmps (.inRegion ab (i::h)::aD) .run) T w)= .next (lone ((bd u fn av am ro tmps (.inRegion ab (i::h)::aD) .run).finish L) T aK):=
 step_lone_go (by
  rw[o5 b c (.inr (uA K (by rcases a with rfl|⟨rfl,rfl⟩<;>simp)))]
  rcases a with rfl|⟨rfl,rfl⟩
  ·simp[stepG.apply,K]
  ·simp[stepG.apply,K])
def AQ{i:Nat}{h:List Nat}{A:Oper}{f:Nat}{args:Array Value}(a:ab[i]? =some A)(b:Region.wanted A (yielded ab tmps)=true)
 (K:(execOp (e9 tmps) A).run C.P w= .ok (.enter f args) aK):
 step C.P (lone (bd u fn av am ro tmps (.inRegion ab (i::h)::aD) .run) T w)= .next (lone (Frame.enter C.P f args .normal) (bd u fn av am ro tmps (.inRegion ab (i::h)::aD) .run::T) aK):=
 step_lone_go (by rw[o5 a b (.inr (uA K Zs))];simp[stepG.apply,K,bd])
def KQ{i:Nat}{h:List Nat}{A:Oper}{b f:Nat}{a:Array Value}{assign body:Code}(c:ab[i]? =some A)(d:Region.wanted A (yielded ab tmps)=true)
 (K:(execOp (e9 tmps) A).run C.P w= .ok (.round b f a assign body) aK):
 step C.P (lone (bd u fn av am ro tmps (.inRegion ab (i::h)::aD) .run) T w)= .next (lone (Frame.round b f a assign body .normal) (bd u fn av am ro tmps (.inRegion ab (i::h)::aD) .run::T) aK):=
 step_lone_go (by rw[o5 c d (.inr (uA K Zs))];simp[stepG.apply,K,bd])
def KC{i:Nat}{h:List Nat}{A:Oper}{d:dI}(a:ab[i]? =some A)(b:Region.wanted A (yielded ab tmps)=true)
 (K:(execOp (e9 tmps) A).run C.P w= .ok (.defer (fx u d)) aK):
 step C.P (lone (bd u fn av am none tmps (.inRegion ab (i::h)::aD) .run) T w)= .next (lone ((bd u fn (d::av) am none tmps (.inRegion ab (i::h)::aD) .run).finish Go.undef) T aK):=
 step_lone_go (by rw[o5 a b (.inl rfl)];simp[stepG.apply,K,bd])
def KL{i:Nat}{h:List Nat}{A:Oper}{L:q}(a:ab[i]? =some A)(b:Region.wanted A (yielded ab tmps)=true)
 (K:(execOp (e9 tmps) A).run C.P w= .halt (.panic (af u L)) aK):
 step C.P (lone (bd u fn av am none tmps (.inRegion ab (i::h)::aD) .run) T w)= .next (lone (bd u fn av am none tmps (.inRegion ab (i::h)::aD) (de u (.panicking [⟨L,false⟩]))) T aK):=
 step_lone_go (by rw[o5 a b (.inl rfl)];simp[stepG.apply,K,bd,Frame.raise,de,iO])
def KM{i:Nat}{h:List Nat}{A:Oper}{L:Value}{b:List Frame}(c:ab[i]? =some A)(d:Region.wanted A (yielded ab tmps)=true)
 (K:(execOp (e9 tmps) A).run C.P w= .ok .recover aK)
 (a:Go.tryRecover (bd u fn av am none tmps (.inRegion ab (i::h)::aD) .run) T=some (L,b)\/(Go.tryRecover (bd u fn av am none tmps (.inRegion ab (i::h)::aD) .run) T=none/\L= .nilIface/\b=T)):
 step C.P (lone (bd u fn av am none tmps (.inRegion ab (i::h)::aD) .run) T w)= .next (lone ((bd u fn av am none tmps (.inRegion ab (i::h)::aD) .run).finish L) b aK):=
 step_lone_go (by
  rw[o5 c d (.inl rfl)]
  have j:(bd u fn av am none tmps (.inRegion ab (i::h)::aD) .run).roundOf=none:=rfl
  rcases a with a|⟨a,rfl,rfl⟩
  ·simp[stepG.apply,K,j,a]
  ·simp[stepG.apply,K,j,a])
def Kz{b:Nat}(K:(Instr.beginRound (u b).a8).run C.P w= .ok () aK):
 step C.P (lone (bd u fn av am (some b) tmps (.beginRound::aD) .run) T w)= .next (lone (bd u fn av am (some b) tmps aD .run) T aK):=
 step_lone_go (by rw[fQ];simp[stepG.exec,stepG.apply,bd,K,Frame.finish])
def KE{b:Nat}{a:Option Code}(K:(Instr.endLoop b).run C.P w= .ok a aK):
 step C.P (lone (bd u fn av am ro tmps (.endRangeFunc b::aD) .run) T w)= .next (lone (bd u fn av am ro tmps ((a.map Item.code).toList++aD) .run) T aK):=
 step_lone_go (by rw[fQ];simp[stepG.exec,bd,K])
def AR{f:Operand}{params:Array Tmp}{assign body:Code}{b:Nat}{mark:List Deferred}{g:Nat}{args:Array Value}{a:World}{d:Deferred}
 (i:(Instr.enterLoop fn tmps params assign body (ro.map λh=>(u h).a8)).run C.P w= .ok (b,mark) a)
 (n:(resolve (e9 tmps) {callee:= .value f,args:= #[.const (.func (.yield b) #[] #[])],argTypes:= #[]} 0).run C.P a= .ok d a)(m:(invoke d.target d.args).run C.P a= .ok (.enter g args) aK):
 step C.P (lone (bd u fn av am ro tmps (.code (.rangeFunc f params assign body)::aD) .run) T w)=
  .next (lone (Frame.enter C.P g args .normal) ({bd u fn av am ro tmps (.inRangeFunc b::aD) .run with defers:=mark++av.map (fx u)}::T) aK):=
 step_lone_go (by
  rw[fQ]
  have c:({bd u fn av am ro tmps (.inRangeFunc b::aD) .run with defers:=mark++av.map (fx u)}:Frame).eval=e9 tmps:=by rw[pA];rfl
  simp only[bd]at c
  simp[stepG.exec,bd,Sem.runT_eq,i,GStep.bare_after,stepG.apply,c,Sem.run_bind,n,m,Result.andThen])
def KR{a:Option Code}{b:Nat}{L:Value}{g:Frame}(d:(a=none/\aD=[])\/(a=some .ret/\∃k,aD= .code .ret::k)\/(∃id k,a=some (.exit id)/\aD= .code (.exit id)::k/\Go.exitTo id k=none))
 (c:(Instr.endRound (u b).a8 a).run C.P w= .ok L aK):
 step C.P (lone (bd u fn av false (some b) tmps aD .run) (g::T) w)= .next (lone (g.finish L) T aK):=
 step_lone_go (by
  rw[fQ]
  rcases d with ⟨rfl,rfl⟩|⟨rfl,k,rfl⟩|⟨id,k,rfl,rfl,f⟩
  ·simp[stepG.exec,bd,Sem.runT_eq,c,GStep.bare_after,doReturn]
  ·simp[stepG.exec,bd,Sem.runT_eq,c,GStep.bare_after,doReturn]
  ·simp[stepG.exec,bd,Sem.runT_eq,c,GStep.bare_after,doReturn,f])
def KV{r:Nat}{d:List q}{ds:List dI}{a:List Deferred}{mode:FrameMode}{bq:List dI}(f:mode≠ .run)(c:(Instr.takeDeferred (u r).a8).run C.P w= .ok a aK)(b:a++ds.map (fx u)=bq.map (fx u)):
 step C.P (lone (bd u fn (⟨.collected r,d⟩::ds) am ro tmps aD mode) T w)= .next (lone (bd u fn bq am ro tmps aD mode) T aK):=
 step_lone_go (by
  cases mode with
  |run=>exact absurd rfl f
  |returning=>simp[stepG,unwind,bd,fx,m9,Sem.runT_eq,c,GStep.bare_after,b]
  |panicking g=>simp[stepG,unwind,bd,fx,m9,Sem.runT_eq,c,GStep.bare_after,b])
end
end Go.Q

