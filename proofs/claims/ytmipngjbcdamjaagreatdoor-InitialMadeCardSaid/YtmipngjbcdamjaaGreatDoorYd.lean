/- Part of the proof of the last text; no conditions -/
import Derived.Test.YtmipngjbcdamjaaGreatDoorYc
import Derived.Defers
set_option maxHeartbeats 8000000
set_option linter.all false
namespace Go.S
noncomputable section
abbrev b3:=Option y
structure d1 where
 fn:Nat
 n:Nat
 ac:Nat
 aA:List dM
 ao:Bool
 ro:Option Nat
 cs:List dq
abbrev dK:=fa->List bV->d1->I y->I ae->Nat->b3
def gQ(g:Option (Nat×Bool))(aa:List (Nat×y)):Option Bool:=
 match g with
 |none=>some true
 |some (H,a)=>(match cf aa H with
  |some v=>(match v with| .bool b=>some (b==a)|_=>some false)
  |none=>none)
def jx(f:y->y->Bool):List y->List y->Bool
 |[],[]=>true
 |a::k,b::m=>f a b&&jx f k m
 |_,_=>false
def y.same:Nat->y->y->Bool
 |0,_,_=>false
 |d+1,x,w=>match x,w with
  | .bool a, .bool b=>a==b
  | .int o a, .int ct b=>decide (o=ct)&&decide (a=b)
  | .str a, .str b=>f5 a b
  | .ptr a b, .ptr g i=>Nat.beq a g&&Nat.beq b i
  | .bC, .bC=>true
  | .slice a b c l, .slice g i m n=>Nat.beq a g&&Nat.beq b i&&Nat.beq c m&&Nat.beq l n
  | .cK a b c l, .cK g i m n=>Nat.beq a g&&Nat.beq b i&&Nat.beq c m&&Nat.beq l n
  | .az, .az=>true
  | .map a, .map b=>Nat.beq a b
  | .fF, .fF=>true
  | .func f a b, .func p g i=>decide (f=p)&&jx (y.same d) a g&&jx (y.same d) b i
  | .nilFunc, .nilFunc=>true
  | .iface t v, .iface r s=>Nat.beq t r&&y.same d v s
  | .nilIface, .nilIface=>true
  | .agg a, .agg b=>jx (y.same d) a b
  | .tuple a, .tuple b=>jx (y.same d) a b
  |_,_=>false
def j4(C:aC)(base:Nat)(B:I y):List cE->List (Nat×y)->I ae->Option (List (Nat×y)×I ae)
 |[],aa,h=>some (aa,h)
 |x::k,aa,h=>(match gQ x.g aa with
  |none=>none
  |some false=>j4 C base B k ((x.i,undef)::aa) h
  |some true=>(match f1 x.op with
   | .make=>(match gG x.op C (base+x.i) aa B with
     |some (v,bN)=>ew (aS C h (base+x.i) (some bN)) λh=>j4 C base B k ((x.i,v)::aa) h
     |none=>none)
   |_=>(match dk x.op C h aa B with
    |some v=>j4 C base B k ((x.i,v)::aa) h
    |none=>none)))
def nk(C:aC)(B:I y)(aa:List (Nat×y))(h:I ae):List cE->Bool
 |[]=>true
 |x::k=>(match gQ x.g aa with
  |none=>false
  |some false=>nk C B aa h k
  |some true=>(match dk x.op C h aa B,cf aa x.i with
   |some v,some N=>y.same 30 v N&&nk C B aa h k
   |_,_=>false))
def k0(aa:List (Nat×y)):List (Nat×Nat)->I y->Option (I y)
 |[],B=>some B
 |(i,d)::k,B=>(match cf aa i with|some v=>ew (B.set d (some v)) λB=>k0 aa k B|none=>none)
def exitTo(id:Nat):List bV->Option (List bV)
 |[]=>none
 | .inBlock a::o=>aT (Nat.beq a id) (some o)<|exitTo id o
 |_::o=>exitTo id o
def eo{α:Type}(D:Option α)(o:α->b3):b3:=Option.rec (motive:=λ_=>b3) none (λa=>o a) D
def pn(k:List (Nat×y)):Nat->(y->b3)->b3:=
 List.rec (motive:=λ_=>Nat->(y->b3)->b3) (λ_ _=>none)
  (λp _ V H o=>Prod.rec (motive:=λ_=>b3) (λa b=>Bool.rec (motive:=λ_=>b3) (V H o) (o b) (Nat.beq a H)) p) k
def rB(t:I y):Nat->(y->b3)->b3:=
 I.rec (motive:=λ_=>Nat->(y->b3)->b3) (λ_ _=>none)
  (λv _ _ b c i o=>Nat.rec (motive:=λ_=>b3) (Option.rec (motive:=λ_=>b3) none (λa=>o a) v)
   (λH _=>Bool.rec (motive:=λ_=>b3) (c (Nat.div H 2) o) (b (Nat.div H 2) o) (Nat.beq (Nat.mod H 2) 0)) i) t
def kW(x:eT):List (Nat×y)->I y->(y->b3)->b3:=
 eT.rec (motive:=λ_=>List (Nat×y)->I y->(y->b3)->b3) (λH aa _ o=>pn aa H o) (λn _ B o=>rB B n o) (λa _ _ o=>o a) x
def A8(g:Option (Nat×Bool)):List (Nat×y)->b3->b3->b3:=
 Option.rec (motive:=λ_=>List (Nat×y)->b3->b3->b3) (λ_ a _=>a)
  (λp aa a b=>eo (gQ (some p) aa) λw=>Bool.rec (motive:=λ_=>b3) b a w) g
def pE(k:List (Nat×Nat)):List (Nat×y)->I y->(I y->b3)->b3:=
 List.rec (motive:=λ_=>List (Nat×y)->I y->(I y->b3)->b3) (λ_ B o=>o B)
  (λp _ V aa B o=>Prod.rec (motive:=λ_=>b3) (λi d=>pn aa i λv=>ew (I.set B d (some v)) λB=>V aa B o) p) k
def n1(a:bV)(o:List bV)(aw:d1)(B:I y):List dq:=
 d1.rec (motive:=λ_=>List dq) (λfn n ac aA ao ro cs=>⟨fn,n,ac,B,a::o,aA, .run,ao,ro⟩::cs) aw
def hl(V:dK)(C:aC)(f:Nat)(args:List y)(deferred:Bool)(cs:List dq)(h:I ae)(j:Nat):b3:=
 match C.P.funcs[f]? with
 |some fn=>(match fn.body with
  |some c=>hL (Nat.lor (ft c) (hV fn.results.toList)) λac=>aT (Nat.ble args.length fn.ntmps&&fC C ac c&&lx ac fn.results.toList) (V .run [.code c] ⟨f,fn.ntmps,ac,[],deferred,none,cs⟩ (I.ofList args 0 .nil) h j)<|none
  |none=>none)
 |none=>none
def kq(n:Nat):List Nat->List y->I y->Option (I y)
 |[],[],B=>some B
 |p::bH,a::b,B=>aT (Nat.blt p n) (kq n bH b (B.set p (some a)))<|none
 |_,_,_=>none
def g1(a:bV)(v:y):Option bV:=match a with
 | .iI ad aa e rest fin=>some (.o4 ad ((e,v)::aa) rest fin)
 | .lG ad base aa e fj fin=>some (.drawn ad base ((e,v)::aa) fj fin)
 | .inRangeFunc k=>some (.endRangeFunc k)
 |_=>none
def uV(V:dK)(todo:List bV)(aw:d1)(v:y)(B:I y)(h:I ae)(j:Nat):b3:=
 match todo with
 |[]=>none
 |a::o=>(match g1 a v with|some b=>V .run (b::o) aw B h j|none=>none)
def j6:List Nat->I y->I y
 |[],B=>B
 |d::k,B=>j6 k (B.set d none)
def jm(todo:List bV)(B:I y):I y:=match todo with
 | .iI ad _ _ _ _::_=>j6 (dstsOf ad.toList) B
 | .lG ad _ _ _ _ _::_=>j6 (dstsOf ad.toList) B
 |_=>B
def nS(chain:List io)(aV:fa):fa:=match aV with
 | .panicking ht=> .panicking (chain++ht)
 |_=> .panicking chain
def Ao(V:dK)(c:dq)(cs:List dq)(chain:List io)(h:I ae)(j:Nat):b3:=
 match c with
 |⟨fn,n,ac,B,todo,aA,aV,ao,ro⟩=>V (nS chain aV) todo ⟨fn,n,ac,aA,ao,ro,cs⟩ (jm todo B) h j
def mR(ao:Bool)(cs:List dq):Option (y×List dq):=
 aT (ao) ((match cs with
  |c::rest=>(match c with
   |⟨fn,n,ac,B,todo,aA,aV,a,ro⟩=>(match aV with
    | .panicking (⟨v,false⟩::b)=>some (v,⟨fn,n,ac,B,todo,aA, .panicking (⟨v,true⟩::b),a,ro⟩::rest)
    |_=>some (.nilIface,cs)))
  |[]=>none))<|some (.nilIface,cs)
def k3(V:dK)(c:bV)(o:List bV)(aw:d1)(B:I y)(j:Nat):List (y×I ae)->b3
 |[]=>none
 |[(v,h)]=>(match g1 c v with|some d=>V .run (d::o) aw B h j|none=>none)
 |(v,h)::k=>(match g1 c v with
  |some d=>(match V .run (d::o) aw B h j,k3 V c o aw B j k with
   |some a,some b=>aT (y.same 30 a b) (some a) none
   |_,_=>none)
  |none=>none)
def gC(r:b1)(V:dK)(C:aC)(a:bV)(o:List bV)(aw:d1)(B:I y)(h:I ae)(j:Nat):b3:=
 match r with
 | .val v=>(match g1 a v with|some b=>V .run (b::o) aw B h j|none=>none)
 | .cy v h j=>(match g1 a v with|some b=>V .run (b::o) aw B h j|none=>none)
 | .enter f args=>hl V C f args false (n1 a o aw B) h j
 | .known _ _ v=>(match g1 a v with|some b=>V .run (b::o) aw B h j|none=>none)
 | .round k args=>(match J C h k with
   |some (.loop _ _ fn n ac c params assign body _)=>(match kq n params args c with
    |some c=>V .run [.code assign, .beginRound, .code body] ⟨fn,n,ac,[],false,some k,n1 a o aw B⟩ c h j
    |none=>none)
   |_=>none)
 | .defer d=>(match aw with
   |⟨fn,n,ac,aA,ao,ro,cs⟩=>(match ro with
    |none=>(match g1 a undef with|some b=>V .run (b::o) ⟨fn,n,ac,d::aA,ao,none,cs⟩ B h j|none=>none)
    |some _=>none))
 | .recover=>(match aw with
   |⟨fn,n,ac,aA,ao,ro,cs⟩=>(match ro with
    |none=>(match mR ao cs with
     |some (v,bJ)=>(match g1 a v with|some b=>V .run (b::o) ⟨fn,n,ac,aA,ao,none,bJ⟩ B h j|none=>none)
     |none=>none)
    |some _=>none))
 | .panic v=>(match aw with
   |⟨fn,n,ac,aA,ao,ro,cs⟩=>(match ro with
    |none=>V (.panicking [⟨v,false⟩]) (a::o) ⟨fn,n,ac,aA,ao,none,cs⟩ (jm (a::o) B) h j
    |some _=>none))
 | .fork k=>k3 V a o aw B j k
def uH(op:eD):aC->I ae->Nat->List (Nat×y)->I y->(y->I ae->Nat->b3)->(b1->b3)->b3:=
 match op with
 | .nE x=>λ_ h j aa B R _=>kW x aa B λv=>R v h j
 | .pick c a b=>λ_ h j aa B R _=>eo (dk (.pick c a b) ⟨default, .nil,0,λ_ _=>none,0⟩ h aa B) λv=>R v h j
 | .cZ a=>λC h j aa B R _=>kW a aa B λa=>eo (W C h a) λv=>R v h j
 | .mx n a=>λC h j aa B R _=>kW a aa B λa=>eo (br C h n a) λv=>R v h j
 | .off d x=>λ_ h j aa B R _=>kW x aa B λa=>eo (aq d a) λv=>R v h j
 | .mr n ap x i=>λC h j aa B R _=>eo (dk (.mr n ap x i) C h aa B) λv=>R v h j
 | .ms ap x i=>λC h j aa B R _=>eo (dk (.ms ap x i) C h aa B) λv=>R v h j
 | .nH x=>λ_ h j aa B R _=>kW x aa B λa=>eo (a2 a) λv=>R v h j
 | .pR op x m=>λ_ h j aa B R _=>kW x aa B λa=>kW m aa B λb=>eo (ah op a b) λv=>R v h j
 | .ext i x=>λ_ h j aa B R _=>kW x aa B λa=>eo (dD i a) λv=>R v h j
 | .dV a6 D=>λC h j aa B R _=>eo (dk (.dV a6 D) C h aa B) λv=>R v h j
 | .make a6 D=>λC h j aa B _ g=>eo (rY (.make a6 D) C h j aa B) g
 | .st n a v=>λC h j aa B _ g=>eo (dQ (.st n a v) C h j aa B) g
 | .call f args=>λC h j aa B _ g=>eo (dQ (.call f args) C h j aa B) g
 | .cB a6 D=>λC h j aa B _ g=>eo (dQ (.cB a6 D) C h j aa B) g
structure m3 where
 V:dK
 ad:Array Oper
 fin:List (Nat×Nat)
 o:List bV
 aw:d1
def FG(X:m3)(C:aC)(B:I y)(aa:List (Nat×y))(i:Nat)(rest:List cE)(r:b1)(h:I ae)(j:Nat):b3:=
 match X with|⟨V,ad,fin,o,aw⟩=>gC r V C (.iI ad aa i rest fin) o aw B h j
abbrev ST:=m3->aC->I y->List (Nat×y)->I ae->Nat->b3
def Jl(a:ST)(X:m3)(C:aC)(B:I y)(aa:List (Nat×y))(i:Nat)(v:y)(h:I ae)(j:Nat):b3:=a X C B ((i,v)::aa) h j
def GH(a:ST)(X:m3)(C:aC)(B:I y)(aa:List (Nat×y))(i:Nat)(rest:List cE)(h:I ae)(j:Nat)(r:b1):b3:=
 match r with
 | .val v=>a X C B ((i,v)::aa) h j
 | .cy v h j=>a X C B ((i,v)::aa) h j
 |r=>FG X C B aa i rest r h j
def pA(X:m3)(_:aC)(B:I y)(aa:List (Nat×y))(h:I ae)(j:Nat):b3:=
 m3.rec (motive:=λ_=>b3) (λV _ fin o aw=>pE fin aa B λB=>V .run o aw B h j) X
def nM(i:Nat)(g:Option (Nat×Bool))(op:eD)(rest:List cE)(a:ST)(X:m3)(C:aC)(B:I y)(aa:List (Nat×y))(h:I ae)(j:Nat):b3:=
 A8 g aa (uH op C h j aa B (Jl a X C B aa i) (GH a X C B aa i rest h j)) (a X C B ((i,undef)::aa) h j)
def lA(rest:List cE):ST:=
 List.rec (motive:=λ_=>ST) pA (λx rest a=>cE.rec (motive:=λ_=>ST) (λi g op=>nM i g op rest a) x) rest
def kU(V:dK)(C:aC)(ad:Array Oper)(base:Nat)(aa:List (Nat×y))(fj:List jV)(fin:List (Nat×Nat))(o:List bV)(aw:d1)(B:I y)(h:I ae)(j:Nat):b3:=
 match fj with
 |[]=>none
 |s::rest=>(match j4 C base B s.iX aa h with
  |none=>none
  |some (aa,h)=>aT (nk C B aa h s.uR) ((match s.cB with
    |none=>pE fin aa B λB=>V .run o aw B h j
    |some e=>(match gQ e.g aa with
     |none=>none
     |some w=>aT (w) ((match dQ e.op C h j aa B with
       |some r=>gC r V C (.lG ad base aa e.i rest fin) o aw B h j
       |none=>none))<|V .run (.drawn ad base ((e.i,undef)::aa) rest fin::o) aw B h j)))<|none)
def kw(a:List io):fa:=match a with|⟨_,true⟩::_=> .returning|_=> .panicking a
def ji(V:dK)(ao:Bool)(cs:List dq)(v:y)(h:I ae)(j:Nat):b3:=
 match cs with
 |c::rest=>(match c with
  |⟨fn,n,ac,B,todo,aA,aV,a,ro⟩=>(match aV with
   | .run=>aT ao none (uV V todo ⟨fn,n,ac,aA,a,ro,rest⟩ v B h j)
   | .returning=>aT ao (V .returning todo ⟨fn,n,ac,aA,a,ro,rest⟩ B h j) none
   | .panicking b=>aT ao (V (kw b) todo ⟨fn,n,ac,aA,a,ro,rest⟩ B h j) none))
 |[]=>aT ao none (some v)
def ua(a:Option Code):Bool:=match a with|none=>true|some .ret=>true|_=>false
def Ab(a:Option Code):Bool:=match a with|none=>true|some .ret=>true|some (.exit _)=>true|_=>false
def hr(a:Option Code)(V:dK)(C:aC)(todo:List bV)(aw:d1)(B:I y)(h:I ae)(j:Nat):b3:=
 match aw with
 |⟨fn,n,ac,aA,ao,ro,cs⟩=>(match ro with
  |none=>aT (ua a) (V .returning todo ⟨fn,n,ac,aA,ao,none,cs⟩ B h j)<|none
  |some k=>(match J C h k with
   |some (.loop _ _ fn n ac B params assign body defers)=>
    aT ((eV C k&&Ab a)&& !ao) (ew (aS C h k (some (.loop (aT a.isNone .ready .done) a fn n ac B params assign body defers))) λh=>ji V ao cs (.bool a.isNone) h j)<|none
   |_=>none))
def ko(C:aC)(h:I ae)(B:I y):List ResultVar->Option (List y)
 |[]=>some []
 | .tmp t::k=>(match B.get t,ko C h B k with|some v,some r=>some (v::r)|_,_=>none)
 | .cell a t::k=>(match B.get a with
   |some p=>(match iO C h t p,ko C h B k with|some v,some r=>some (v::r)|_,_=>none)
   |none=>none)
def j8(B:I y)(D:Operand):Option y:=match D with
 | .tmp t=>B.get t
 | .const v=>nJ v
 | .global g=>some (.ptr g 0)
 | .func f=>some (.func (.func f) [] [])
def qq(f:Operand)(params:Array Nat)(assign body:Code)(V:dK)(C:aC)(o:List bV)(aw:d1)(B:I y)(h:I ae)(j:Nat):b3:=
 match j8 B f,aw with
 |some (.func (.func g) first a),⟨fn,n,ac,aA,ao,ro,cs⟩=>
  (
   match ro with
   |none=>hL j λj=>
    hl V C g (first++[.func (.yield (j+1)) [] []]++a) false (⟨fn,n,ac,B, .inRangeFunc (j+1)::o,⟨.collected j,[]⟩::aA, .run,ao,none⟩::cs)
     (aS C (aS C h j (some (.deferred (some [])))) (j+1) (some (.loop .ready none fn n ac B params.toList assign body j))) (j+2)
   |some k=>(match J C h k with
    |some (.loop _ _ _ _ _ _ _ _ _ defers)=>hL j λj=>
     hl V C g (first++[.func (.yield j) [] []]++a) false (⟨fn,n,ac,B, .inRangeFunc j::o,aA, .run,ao,some k⟩::cs)
      (aS C h j (some (.loop .ready none fn n ac B params.toList assign body defers))) (j+1)
    |_=>none))
 |_,_=>none
def mf(id:Nat)(V:dK)(C:aC)(o:List bV)(aw:d1)(B:I y)(h:I ae)(j:Nat):b3:=
 match exitTo id o with
 |some ct=>V .run ct aw B h j
 |none=>hr (some (.exit id)) V C (.code (.exit id)::o) aw B h j
def pt(c:Operand)(B:I y)(a b:b3):b3:=eo (j8 B c) λv=>match v with
 | .bool t=>Bool.rec (motive:=λ_=>b3) b a t
 |_=>none
def uU(n ac:Nat)(ad:Array Oper)(V:dK)(C:aC)(o:List bV)(aw:d1)(B:I y)(h:I ae)(j:Nat):b3:=
 eo (qf C n ad ac) λr=>sQ.rec (motive:=λ_=>b3) (λrest fin=>lA rest ⟨V,ad,fin,o,aw⟩ C B [] h j) r
def uT(n ac:Nat)(ad:Array Oper)(V:dK)(C:aC)(o:List bV)(aw:d1)(B:I y)(h:I ae)(j:Nat):b3:=
 eo (qc C n ad ac) λr=>sP.rec (motive:=λ_=>b3) (λfj fin=>hL j λj=>kU V C ad j [] fj fin o aw B h (j+ad.size)) r
def At(ad:Array Oper)(a:Bool)(V:dK)(C:aC)(o:List bV)(aw:d1)(B:I y)(h:I ae)(j:Nat):b3:=
 d1.rec (motive:=λ_=>b3) (λfn n ac aA ao ro cs=>Bool.rec (motive:=λ_=>b3)
  (uU n ac ad V C o ⟨fn,n,ac,aA,ao,ro,cs⟩ B h j) (uT n ac ad V C o ⟨fn,n,ac,aA,ao,ro,cs⟩ B h j) a) aw
abbrev lT:=dK->aC->List bV->d1->I y->I ae->Nat->b3
def rE:lT:=λV _ o aw B h j=>V .run o aw B h j
def nI:lT:=λ_ _ _ _ _ _ _=>none
def jk(c:Code):lT:=
 Code.rec (motive:=λ_=>lT) rE
  (λ_ ad d=>At ad d)
  (λ_ b g _ V C o=>g V C (.code b::o))
  (λc _ _ g a V C o aw B h j=>pt c B (g V C o aw B h j) (a V C o aw B h j))
  (λid _ a V C o=>a V C (.inBlock id::o))
  (λb a V C o=>a V C (.inLoop b::o))
  (λf params assign body _ _=>qq f params assign body)
  (λid=>mf id)
  (λb a V C o=>a V C (.inScope b::o))
  (λ_=>rE)
  (λ_=>nI)
  (λV C o=>hr (some .ret) V C (.code .ret::o))
  (λ_=>nI) c
def oz(k:Nat):lT:=λV C o aw B h j=>match J C h k with
 |some (.loop state pending b aj c a params assign body defers)=>
  (
   match state with
   | .busy=>none
   |_=>aT (eV C k) (ew (aS C h k (some (.loop .exhausted pending b aj c a params assign body defers))) λh=>V .run ((pending.map bV.code).toList++o) aw B h j)<|none)
 |_=>none
def pp:lT:=λV C o aw B h j=>match aw with
 |⟨fn,n,ac,aA,ao,ro,cs⟩=>match ro with
  |some k=>(match J C h k with
   |some (.loop .ready pending b aj c a params assign body defers)=>
    aT (eV C k) (ew (aS C h k (some (.loop .busy pending b aj c a params assign body defers))) λh=>V .run o ⟨fn,n,ac,aA,ao,some k,cs⟩ B h j)<|none
   |_=>none)
  |none=>none
def yf(a:bV):lT:=
 bV.rec (motive:=λ_=>lT) (λc=>jk c) (λ_=>rE) (λb V C o=>jk b V C (.inLoop b::o)) (λ_=>rE)
  (λad aa rest fin V C o aw B h j=>lA rest ⟨V,ad,fin,o,aw⟩ C B aa h j)
  (λad base aa fj fin V C o aw B h j=>kU V C ad base aa fj fin o aw B h j)
  (λ_ _ _ _ _=>nI) (λ_ _ _ _ _ _=>nI) (λ_=>nI) (λk=>oz k) pp a
def AR(todo:List bV)(V:dK)(C:aC)(aw:d1)(B:I y)(h:I ae)(j:Nat):b3:=
 List.rec (motive:=λ_=>b3) (hr none V C [] aw B h j) (λa o _=>yf a V C o aw B h j) todo
def ku(d:dM)(ds:List dM)(aV:fa)(todo:List bV)(V:dK)(C:aC)(aw:d1)(B:I y)(h:I ae)(j:Nat):b3:=
 match aw with
 |⟨fn,n,ac,_,ao,ro,cs⟩=>(match d with
  |⟨.collected r,_⟩=>(match J C h r with
   |some (.deferred (some b))=>aT (eV C r) (ew (aS C h r (some (.deferred none))) λh=>V aV todo ⟨fn,n,ac,b++ds,ao,ro,cs⟩ B h j)<|none
   |_=>none)
  |⟨.fn f c,args⟩=>(match l2 C f c args with
   |some (.enter f a)=>hl V C f a true (⟨fn,n,ac,B,todo,ds,aV,ao,ro⟩::cs) h j
   |_=>none))
def one(aE:List y):y:=match aE with|[v]=>v|aE=> .tuple aE
def qx(todo:List bV)(V:dK)(C:aC)(aw:d1)(B:I y)(h:I ae)(j:Nat):b3:=
 match aw with
 |⟨fn,n,ac,aA,ao,ro,cs⟩=>match aA with
  |d::ds=>ku d ds .returning todo V C ⟨fn,n,ac,[],ao,ro,cs⟩ B h j
  |[]=>(match C.P.funcs[fn]? with
   |some f=>(match ko C h B f.results.toList with
    |some aE=>ji V ao cs (one aE) h j
    |none=>none)
   |none=>none)
def qw(chain:List io)(todo:List bV)(V:dK)(C:aC)(aw:d1)(B:I y)(h:I ae)(j:Nat):b3:=
 match aw with
 |⟨fn,n,ac,aA,ao,ro,cs⟩=>match aA with
  |d::ds=>ku d ds (.panicking chain) todo V C ⟨fn,n,ac,[],ao,ro,cs⟩ B h j
  |[]=>(match cs with
   |c::rest=>Ao V c rest chain h j
   |[]=>none)
def va(V:dK)(C:aC)(aV:fa)(todo:List bV)(aw:d1)(B:I y)(h:I ae)(j:Nat):b3:=
 fa.rec (motive:=λ_=>b3) (AR todo V C aw B h j) (qx todo V C aw B h j) (λa=>qw a todo V C aw B h j) aV
def run(C:aC)(n:Nat):dK:=
 Nat.rec (motive:=λ_=>dK) (λ_ _ _ _ _ _=>none) (λ_ V aV todo aw B h j=>va V C aV todo aw B h j) n
def gP(C:aC)(n:Nat)(f:Nat)(args:List y):b3:=hl (run C n) C f args false [] .nil C.aP
end
open Go.RowKit (Below)
section
variable{C:aC}{A bF:bE}{F bu:Nat->Prop}{h E:I ae}{j ar aB:Nat}{w aM:World}
def x9(M:bD C A F h j aB w)(cv:aB<=w.heap.size)(eQ:kD C.P){oper:Oper}{af:Operand->Value}{wr:List (Nat×Nat)}{aa:List (Nat×y)}{B:I y}{c:eD}{z:b1}
 (p:ei A F af (ek wr aa B) oper.op.operands.toList)(n:fA C wr oper.op=some c)(e:dQ c C h j aa B=some z):dP C A F h j aB w (execOp af oper) z:=by
 have rest:∀D,oper.op=D->c= .cB wr D->dP C A F h j aB w (execOp af oper) z:=by
  intro D T6 T4
  subst T4;subst T6
  exact DR M cv eQ p e
 have G:∀D,c= .dV wr D->dP C A F h j aB w (execOp af oper) z:=by intro D l;subst l;simp[dQ]at e
 have P:∀D,c= .make wr D->dP C A F h j aB w (execOp af oper) z:=by intro D l;subst l;simp[dQ]at e
 obtain⟨dst,op,type,pos,after,guard⟩:=oper
 cases op<;>simp only[fA]at n<;>simp only[Op.operands]at p
 case store t a x=>
  split at n
  ·rename_i U5 U7 s T3 O T7
   simp at n;subst n
   simp only[dQ,gm T3,gm O]at e
   split at e
   ·rename_i N T8
    split at e
    ·rename_i v T9
     obtain⟨Y,T1⟩:=p a Zs N T8
     obtain⟨Z,T2⟩:=p x Zs v T9
     obtain⟨E,rfl,T5⟩:=KW M T7 T1 T2 e
     simp only[execOp,Y,Z]
     exact T5 _ (λaM TZ=>by simp[TZ])
    ·simp at e
   ·simp at e
  ·simp at n
 case call X=>
  obtain⟨callee,args,bw⟩:=X
  cases callee with
  |builtin b=>
   cases b<;>simp[fA]at n<;>first
    |exact rest _ rfl n.symm
    |exact G _ n.symm
  |value f=>
   cases f with
   |func g=>
    simp only at n
    split at n
    ·rename_i U6 has
     simp at n;subst n
     simp only[dQ]at e
     split at e
     ·rename_i aE TY
      simp only[Call.operands]at p
      obtain⟨U1,U2⟩:=FK aa B has TY
      have U0:ei A F af (ek wr aa B) args.toList:=p.mono (by simp;intro x O;exact .inr O)
      obtain⟨U3,U4⟩:=yI U0 U1 U2
      obtain⟨T0,_⟩:=p (.func g) Zs (.func (.func g) [] []) rfl
      refine(tg (A:=A) (h:=h) (j:=j) (aB:=aB) (w:=w) eQ U4 e).congr ?_
      have l:args.map af=(aU A aE).toArray:=by apply YC;simp[U3]
      simp[execOp,resolve,T0,ai,ga,aU,Deferred.ofValue,invoke,l]
     ·simp at e
    ·simp at n
   |tmp t=>simp at n;exact rest _ rfl n.symm
   |const v=>simp at n;exact rest _ rfl n.symm
   |global g=>simp at n;exact rest _ rfl n.symm
  |invoke r m=>simp[fA]at n;exact rest _ rfl n.symm
 case convert s d x=>
  rw[cN]at n
  split at n
  ·simp at n;exact rest _ rfl n.symm
  ·simp at n;exact G _ n.symm
 case makeMap t r=>cases r<;>simp[fA]at n<;>first|exact rest _ rfl n.symm|exact P _ n.symm
 case binOp op t x U8 U9=>
  rw[cN]at n
  split at n
  ·split at n
   ·simp at n;subst n;simp[dQ]at e
   ·simp at n
  ·simp at n;exact G _ n.symm
 case fieldAddr s x f=>
  split at n
  ·rw[ih]at n
   split at n
   ·split at n
    ·simp only[ov,Zu]at n
     obtain⟨_,rfl⟩:=n
     simp[dQ]at e
    ·simp at n
   ·simp at n
  ·simp at n
 case indexAddr t x i=>
  split at n
  ·split at n
   ·simp at n;subst n;simp[dQ]at e
   ·simp at n
  ·split at n
   ·simp at n;subst n;simp[dQ]at e
   ·simp at n
  ·simp at n
 all_goals first
  |(simp at n;first|exact rest _ rfl n.symm|exact G _ n.symm|exact P _ n.symm)
  |(split at n<;>first
    |(simp at n;subst n;simp[dQ]at e;done)
    |(simp at n;done))
def rZ{oper:Oper}{wr:List (Nat×Nat)}{c:eD}(a:fA C wr oper.op=some c){b:Nat}{aa:List (Nat×y)}{B:I y}{r:y×ae}(e:gG c C b aa B=some r):hH oper.op C (ek wr aa B) b=some r:=by
 have rest:∀D,oper.op=D->c= .make wr D->hH oper.op C (ek wr aa B) b=some r:=by
  intro D G z
  subst z;subst G
  exact e
 have p:∀D,c= .dV wr D->hH oper.op C (ek wr aa B) b=some r:=by intro D l;subst l;simp[gG]at e
 have n:∀D,c= .cB wr D->hH oper.op C (ek wr aa B) b=some r:=by intro D l;subst l;simp[gG]at e
 obtain⟨dst,op,type,pos,after,guard⟩:=oper
 cases op<;>simp only[fA]at a
 case call w=>
  obtain⟨callee,args,bw⟩:=w
  cases callee with
  |builtin b=>cases b<;>simp[fA]at a<;>first|exact n _ a.symm|exact p _ a.symm
  |value f=>
   cases f with
   |func g=>
    simp[fA]at a
    split at a
    ·simp at a;subst a;simp[gG]at e
    ·simp at a
   |tmp t=>simp[fA]at a;exact n _ a.symm
   |const v=>simp[fA]at a;exact n _ a.symm
   |global g=>simp[fA]at a;exact n _ a.symm
  |invoke r m=>simp[fA]at a;exact n _ a.symm
 case convert s d x=>
  rw[cN]at a
  split at a
  ·simp at a;exact n _ a.symm
  ·simp at a;exact p _ a.symm
 case makeMap t r=>cases r<;>simp[fA]at a<;>first|exact rest _ rfl a.symm|exact n _ a.symm
 case binOp op t x O P=>
  rw[cN]at a
  split at a
  ·split at a
   ·simp at a;subst a;simp[gG]at e
   ·simp at a
  ·simp at a;exact p _ a.symm
 case fieldAddr s x f=>
  split at a
  ·rw[ih]at a
   split at a
   ·split at a
    ·simp only[ov,Zu]at a
     obtain⟨_,rfl⟩:=a
     simp[gG]at e
    ·simp at a
   ·simp at a
  ·simp at a
 case indexAddr t x i=>
  split at a
  ·split at a
   ·simp at a;subst a;simp[gG]at e
   ·simp at a
  ·split at a
   ·simp at a;subst a;simp[gG]at e
   ·simp at a
  ·simp at a
 all_goals first
  |(simp at a;first|exact rest _ rfl a.symm|exact p _ a.symm|exact n _ a.symm)
  |(split at a<;>first
    |(simp at a;subst a;simp[gG]at e;done)
    |(simp at a;done))
def gN{α:Type}(D:Option α)(o:α->b3):eo D o=match D with|some a=>o a|none=>none:=by cases D<;>rfl
def w8(k:List (Nat×y))(H:Nat)(o:y->b3):pn k H o=eo (cf k H) o:=by
 induction k with
 |nil=>rfl
 |cons p k V=>
  obtain⟨a,b⟩:=p
  show(Bool.rec (motive:=λ_=>b3) (pn k H o) (o b) (Nat.beq a H))=eo (aT (Nat.beq a H) (some b) (cf k H)) o
  rw[V]
  cases Nat.beq a H<;>rfl
def Gn(t:I y):∀(i:Nat) (o:y->b3),rB t i o=eo (t.get i) o:=by
 induction t with
 |nil=>intro i o;rfl
 |node v k r a b=>
  intro i o
  cases i with
  |zero=>cases v<;>rfl
  |succ H=>
   show(Bool.rec (motive:=λ_=>b3) (rB r (Nat.div H 2) o) (rB k (Nat.div H 2) o) (Nat.beq (Nat.mod H 2) 0))=eo (aT (Nat.beq (Nat.mod H 2) 0) (k.get (Nat.div H 2)) (r.get (Nat.div H 2))) o
   rw[a,b]
   cases Nat.beq (Nat.mod H 2) 0<;>rfl
def FH(x:eT)(aa:List (Nat×y))(B:I y)(o:y->b3):kW x aa B o=eo (fd x aa B) o:=by
 cases x with
 |v H=>exact w8 aa H o
 |t n=>exact Gn B n o
 |c a=>rfl
def rs:∀(k:List (Nat×Nat)) (aa:List (Nat×y)) (B:I y) (o:I y->b3),pE k aa B o=eo (k0 aa k B) o:=by
 intro k
 induction k with
 |nil=>intro aa B o;rfl
 |cons p k V=>
  intro aa B o
  obtain⟨i,d⟩:=p
  show pn aa i (λv=>ew (I.set B d (some v)) λB=>pE k aa B o)=_
  rw[w8]
  simp only[k0]
  cases cf aa i with
  |none=>rfl
  |some v=>simp only[dF];exact V _ _ _
def sD(g:Option (Nat×Bool))(aa:List (Nat×y))(a b:b3):A8 g aa a b=eo (gQ g aa) λw=>if w=true then a else b:=by
 cases g with
 |none=>simp[gN,gQ];rfl
 |some p=>
  show eo (gQ (some p) aa) (λw=>Bool.rec (motive:=λ_=>b3) b a w)=_
  congr 1
  funext w
  cases w<;>rfl
def sb(op:eD)(h:I ae)(j:Nat)(aa:List (Nat×y))(B:I y)(R:y->I ae->Nat->b3)(a:b1->b3):
 uH op C h j aa B R a=match f1 op with
  | .dV=>eo (dk op C h aa B) λv=>R v h j
  | .make=>eo (rY op C h j aa B) a
  | .cB=>eo (dQ op C h j aa B) a:=by
 cases op<;>simp only[uH,f1,FH,dk,gN]<;>(try rfl)
 all_goals(split<;>first|rfl|(split<;>simp_all))
end
def jL:List Oper->Nat->List (Nat×Nat)->List (Nat×Nat)
 |[],_,wr=>wr
 |D::k,i,wr=>jL k (i+1) (kG D i wr)
def d0(ad:Array Oper)(i:Nat):List (Nat×Nat):=jL (ad.toList.take i) 0 []
def LC(a:List Oper):∀(b:List Oper) (i:Nat) (wr:List (Nat×Nat)),jL (a++b) i wr=jL b (i+a.length) (jL a i wr):=by
 induction a with
 |nil=>intro b i wr;rfl
 |cons D a V=>
  intro b i wr
  simp only[YZ,jL,V,ZC]
  congr 1;omega
def qB{ad:Array Oper}{i:Nat}{D:Oper}(e:ad[i]? =some D):d0 ad (i+1)=kG D i (d0 ad i):=by
 have au:ad.toList[i]? =some D:=by rw[ZK];exact e
 have a:i<ad.toList.length:=(Zf.1 au).1
 unfold d0
 rw[ZG,au,LC]
 have:(ad.toList.take i).length=i:=by simp at a ⊢;omega
 rw[this]
 simp[jL]
def qC(ad:Array Oper):d0 ad 0=[]:=rfl
def iy(ad:Array Oper)(H:Nat):Option Nat:=(ad[H]?).bind (·.dst)
def pz{ad:Array Oper}{i:Nat}{D:Oper}(e:ad[i]? =some D):iy ad i=D.dst:=by simp[iy,e]
def D5{D:Oper}{i H:Nat}{wr:List (Nat×Nat)}:j7 H (kG D i wr)=if i=H/\D.dst.isSome then D.dst else j7 H wr:=by
 unfold kG
 split
 ·rename_i d a
  simp only[j7,d5,a]
  by_cases l:i=H<;>simp[l]
 ·rename_i a
  simp[a]
def oi{D:Oper}{i t:Nat}{wr:List (Nat×Nat)}:cf (kG D i wr) t=if D.dst=some t then some i else cf wr t:=by
 unfold kG
 split
 ·rename_i d a
  rw[h7,a]
  by_cases l:d=t<;>simp[l]
 ·rename_i a
  simp[a]
def qD(ad:Array Oper):∀i,i<=ad.size->(∀H t,j7 H (d0 ad i)=some t->iy ad H=some t)/\
 (∀t H,cf (d0 ad i) t=some H->H<i/\iy ad H=some t/\∀o,H<o->o<i->iy ad o≠some t)/\(∀t,cf (d0 ad i) t=none->∀o,o<i->iy ad o≠some t):=by
 intro i
 induction i with
 |zero=>intro _;rw[qC];exact⟨λH t e=>by simp[j7]at e,λt H e=>by simp at e,λt _ o m=>Zo⟩
 |succ i V=>
  intro ak
  obtain⟨d,f,g⟩:=V Zo
  have c:ad[i]? =some ad[i]:=Array.getElem?_eq_getElem Zo
  rw[qB c]
  have a:=pz c
  refine⟨λH t e=> ?_,λt H e=> ?_,λt e o m=> ?_⟩
  ·rw[D5]at e
   split at e
   ·rename_i l;rw[<-l.1,a];exact e
   ·exact d H t e
  ·rw[oi]at e
   split at e
   ·rename_i l
    cases e
    exact⟨Zo,by rw[a];exact l,λo b n=>Zo⟩
   ·rename_i l
    obtain⟨bf,bo,p⟩:=f t H e
    refine⟨Zo,bo,λo b n=> ?_⟩
    by_cases L:o=i
    ·subst L;rw[a];exact l
    ·exact p o b Zo
  ·rw[oi]at e
   split at e
   ·cases e
   ·rename_i l
    by_cases L:o=i
    ·subst L;rw[a];exact l
    ·exact g t e o Zo
section
variable{C:aC}{A bF:bE}{F bu:Nat->Prop}{h E:I ae}{j ar aB:Nat}{w aM:World}
def e9(tmps:Array Value):Operand->Value
 | .tmp t=>tmps.getD t Go.undef
 | .const v=>v
 | .global g=> .pointer (some ⟨g,0,none⟩)
 | .func f=> .func (.func f) #[] #[]
def pC(fr:Frame):fr.eval=e9 fr.tmps:=by funext x;cases x<;>rfl
def gV(A:bE)(F:Nat->Prop)(ac:Nat)(X:Nat->Prop)(wr:List (Nat×Nat))(aa:List (Nat×y))(B:I y)(tmps:Array Value):Prop:=
 ∀t v,X t->(match cf wr t with|some H=>cf aa H=some v|none=>cF ac t=true/\B.get t=some v)->tmps[t]? =some (ai A v)/\bd F v
def is(C:aC)(A:bE)(F:Nat->Prop):Prop:=∀g,g<C.cL->F g/\(A g).bc=g/\(A g).b5=0
def IJ{ac:Nat}{wr:List (Nat×Nat)}:∀{k:List Operand},nL C ac wr k=true->∀x∈k,lu C ac wr x=true:=by
 intro k
 induction k with
 |nil=>intro _ x e;simp at e
 |cons a k V=>
  intro e x b
  simp only[nL,Zq]at e
  rcases Zz.1 b with rfl|b
  ·exact e.1
  ·exact V e.2 x b
def xG{ac:Nat}{X:Nat->Prop}{wr:List (Nat×Nat)}{aa:List (Nat×y)}{B:I y}{tmps:Array Value}(w:gV A F ac X wr aa B tmps){k:List Operand}(r:∀t,Operand.tmp t∈k->X t)(s:nL C ac wr k=true)
 (p:is C A F):ei A F (e9 tmps) (ek wr aa B) k:=by
 intro x d v e
 have a:=IJ s x d
 cases x with
 |tmp t=>
  have:=w t v (r t d) (by
   simp only[ek]at e
   simp only[lu]at a
   split at e
   ·rename_i H b;rw[b];exact e
   ·rename_i b;rw[b]at a ⊢;exact⟨a,e⟩)
  exact⟨by simp[e9,this.1],this.2⟩
 |const c=>exact r6 e
 |global g=>
  simp[ek]at e;subst e
  simp only[lu]at a
  obtain⟨i,m,n⟩:=p g (e0 a)
  exact⟨by simp[e9,ai,m,n],i⟩
 |func f=>
  simp[ek]at e;subst e
  exact⟨by simp[e9,ai,ga,aU],trivial,trivial,trivial⟩
end
def l7(m i:Nat):cF m i=m.testBit i:=by
 unfold cF
 rw[Nat.testBit_eq_decide_div_mod_eq,Z8,Zc]
 exact⟨Zh,λe=>by rw[show Nat.mod (Nat.div m (Nat.pow 2 i)) 2=1 from e];rfl⟩
def q0(i:Nat):cF 0 i=false:=by rw[l7];simp
def oo(a b i:Nat):cF (Nat.lor a b) i=(cF a i||cF b i):=by
 rw[l7,l7,l7];exact Nat.testBit_or a b i
def qZ(t i:Nat):cF (Nat.pow 2 t) i=decide (t=i):=by
 rw[l7];exact Nat.testBit_two_pow
def Ep(a b i:Nat):cF (Nat.land a b) i=(cF a i&&cF b i):=by
 rw[l7,l7,l7];exact Nat.testBit_and a b i
def IQ{D:Operand}{m t:Nat}:cF (oW D m) t=true↔D= .tmp t\/cF m t=true:=by
 cases D with
 |tmp N=>
  show cF (Nat.lor m (Nat.pow 2 N)) t=true↔_
  rw[oo,qZ]
  simp[or_comm]
 |_=>simp[oW]
def IR{t:Nat}:∀{k:List Operand},cF (oX k) t=true↔Operand.tmp t∈k:=by
 intro k
 induction k with
 |nil=>simp[oX,q0]
 |cons a k V=>
  show cF (oW a (oX k)) t=true↔_
  rw[IQ,V]
  simp[eq_comm]
def Fc{D:Oper}{t:Nat}:cF (py D) t=true↔D.dst=some t:=by
 unfold py
 cases D.dst with
 |none=>simp[q0]
 |some d=>
  show cF (Nat.pow 2 d) t=true↔_
  rw[qZ]
  simp
structure qH(C:aC)(n ac:Nat)(ad:Array Oper)(x:cE)(D:Oper):Prop where
 oper:ad[x.i]? =some D
 g:ps (d0 ad x.i) D.guard=some x.g
 op:fA C (d0 ad x.i) D.op=some x.op
 dst:∀d,D.dst=some d->d<n
 reads:nL C ac (d0 ad x.i) D.op.operands.toList=true
def tf{C:aC}{n ac i:Nat}{D:Oper}{k:List Oper}{wr:List (Nat×Nat)}{cs:List cE}(e:ix C n ac (D::k) i wr=some cs):
 ∃g op r,ps wr D.guard=some g/\fA C wr D.op=some op/\ri n D=true/\nL C ac wr D.op.operands.toList=true/\ix C n ac k (i+1) (kG D i wr)=some r/\cs=⟨i,g,op⟩::r:=by
 simp only[ix,fZ]at e
 split at e
 ·rename_i g op c d
  simp only[cg,Zq]at e
  obtain⟨⟨a,b⟩,e⟩:=e
  split at e
  ·rename_i r M
   simp at e
   exact⟨g,op,r,c,d,a,b,M,e.symm⟩
  ·simp at e
 ·simp at e
def xx{n:Nat}{D:Oper}(e:ri n D=true):∀d,D.dst=some d->d<n:=by
 intro d a
 unfold ri at e
 rw[a]at e
 exact e0 e
def tv{ad:Array Oper}{i:Nat}{D:Oper}{k:List Oper}(e:ad.toList.drop i=D::k):ad[i]? =some D/\ad.toList.drop (i+1)=k/\i<ad.size:=by
 have a:(ad.toList.drop i)[0]? =some D:=by rw[e];rfl
 rw[Yz,ZK]at a
 refine⟨by simpa using a, ?_, ?_⟩
 ·have:(ad.toList.drop i).drop 1=k:=by rw[e];rfl
  rw[List.drop_drop]at this
  exact this
 ·exact(ZI.1 (by simpa using a)).1
def EB{C:aC}{n ac:Nat}{ad:Array Oper}:∀(k:List Oper) (i:Nat) (cs:List cE),ad.toList.drop i=k->ix C n ac k i (d0 ad i)=some cs->
 cs.length=k.length/\∀H x,cs[H]? =some x->x.i=i+H/\∃D,qH C n ac ad x D:=by
 intro k
 induction k with
 |nil=>intro i cs _ e;simp[ix]at e;subst e;simp
 |cons D k V=>
  intro i cs t e
  obtain⟨g,op,r,f,m,p,s,c,rfl⟩:=tf e
  obtain⟨b,d,w⟩:=tv t
  rw[<-qB b]at c
  obtain⟨bf,bo⟩:=V (i+1) r d c
  refine⟨by simp[bf],λH x a=> ?_⟩
  cases H with
  |zero=>simp at a;subst a;exact⟨rfl,D,b,f,m,xx p,s⟩
  |succ H=>
   simp at a
   obtain⟨l,v⟩:=bo H x a
   exact⟨Zo,v⟩
def Fr{d:List (Nat×Nat)}:∀(k:List Edge) (a:Nat),cF (k.foldr (nl d) 0) a=true->∃l∈k,Region.binds .any l=true/\(a=l.on\/∃c,cf d l.on=some c/\cF c a=true):=by
 intro k
 induction k with
 |nil=>intro a e;simp[q0]at e
 |cons l k V=>
  intro a e
  simp only[List.foldr_cons]at e
  have ht:cF (k.foldr (nl d) 0) a=true->∃b∈l::k,Region.binds .any b=true/\(a=b.on\/∃c,cf d b.on=some c/\cF c a=true):=λe=>by
   obtain⟨b,f,g⟩:=V a e
   exact⟨b,Zi _ f,g⟩
  unfold nl at e
  rw[cN]at e
  split at e
  ·exact ht e
  ·rw[cN]at e
   split at e
   ·rename_i ab
    split at e
    ·rename_i o i
     rw[oo,oo,qZ]at e
     simp only[Yx,Zc]at e
     rcases e with (e|e)|e
     ·exact ht e
     ·exact⟨l,Zl ..,ab, .inr ⟨o,i,e⟩⟩
     ·exact⟨l,Zl ..,ab, .inl e.symm⟩
    ·exact ht e
   ·exact ht e
structure n9(ad:Array Oper)(p:c1)(D:Oper):Prop where
 oper:ad[p.i]? =some D
 r:p.r=Nat.lor (oX D.op.operands.toList) (rI (d0 ad p.i) D.guard)
 w:p.w=py D
def yO{ad:Array Oper}:∀(k:List Oper) (i:Nat) (b:List (Nat×Nat)),ad.toList.drop i=k->(∀H m,cf b H=some m->H<i)->
 (mC k i (d0 ad i) b).length=k.length/\(∀H p,(mC k i (d0 ad i) b)[H]? =some p->p.i=i+H/\∃D,n9 ad p D)/\
 ∀(bn:Nat->Nat->Prop),(∀H m,cf b H=some m->bn H m)->(∀H D m,ad[H]? =some D->i<=H->(∀a,cF m a=true->∃l∈D.after.toList,Region.binds .any l=true/\(a=l.on\/∃d,bn l.on d/\cF d a=true))->bn H m)->
  ∀p∈mC k i (d0 ad i) b,bn p.i p.m:=by
 intro k
 induction k with
 |nil=>intro i b _ _;simp[mC]
 |cons D k V=>
  intro i b C O
  obtain⟨f,v,Y⟩:=tv C
  simp only[mC,fZ]
  rw[<-qB f]
  have P:∀H m,cf ((i,D.after.toList.foldr (nl b) 0)::b) H=some m->H<i+1:=by
   intro H m e
   rw[h7]at e
   split at e
   ·omega
   ·have:=O H m e;omega
  obtain⟨bf,bo,X⟩:=V (i+1) ((i,D.after.toList.foldr (nl b) 0)::b) v P
  refine⟨by simp only[ZC,bf],λH p c=> ?_,λbn s t p c=> ?_⟩
  ·cases H with
   |zero=>simp only[ZW,Zu]at c;subst c;exact⟨rfl,D,f,rfl,rfl⟩
   |succ H=>
    simp only[ZN]at c
    obtain⟨l,G⟩:=bo H p c
    exact⟨Zo,G⟩
  ·have ak:bn i (D.after.toList.foldr (nl b) 0):=by
    refine t i D _ f (Zp _) λa z=> ?_
    obtain⟨l,g,r,n⟩:=Fr _ a z
    refine⟨l,g,r,n.imp id ?_⟩
    rintro⟨d,w,x⟩
    exact⟨d,s _ _ w,x⟩
   rcases Zz.1 c with rfl|c
   ·exact ak
   ·refine X bn (λH m e=> ?_) (λH D m g r n=>t H D m g Zo n) p c
    rw[h7]at e
    split at e
    ·rename_i l;subst l;cases e;exact ak
    ·exact s H m e
def IK{a:c1}:∀{k:List c1},r9 a k=true->∀b∈k,r8 a b=true:=by
 intro k
 induction k with
 |nil=>intro _ b e;simp at e
 |cons c k V=>
  intro e b ab
  simp only[r9,Zq]at e
  rcases Zz.1 ab with rfl|ab
  ·exact e.1
  ·exact V e.2 b ab
def II:∀{k:List c1},ql k=true->∀(H i:Nat) a b,H<i->k[H]? =some a->k[i]? =some b->r8 a b=true:=by
 intro k
 induction k with
 |nil=>intro _ H i a b _ e;simp at e
 |cons c k V=>
  intro e H i a b f d ab
  simp only[ql,Zq]at e
  obtain⟨i,rfl⟩:∃o,i=o+1:=⟨i-1,Zo⟩
  simp at ab
  cases H with
  |zero=>simp at d;subst d;exact IK e.1 b (Zg ab)
  |succ H=>simp at d;exact V e.2 H i a b Zo d ab
def IE:∀{k:List Oper}{i:Nat},nK k i=true->∀H D,k[H]? =some D->∀l∈D.after.toList,Region.binds .any l=true->l.on<i+H:=by
 intro k
 induction k with
 |nil=>intro i _ H D e;simp at e
 |cons a k V=>
  intro i e H D b l c ab
  simp only[nK,Zq]at e
  cases H with
  |zero=>
   simp at b;subst b
   have:=Yy.1 e.1 l c
   simp only[ab,Yn,Bool.false_or]at this
   have:=e0 this
   omega
  |succ H=>
   simp at b
   have:=V e.2 H D b l c ab
   omega
def GG:∀{k:List c1},pQ k=true->∀(p:Nat) a b,k[p]? =some a->k[p+1]? =some b->cF b.m a.i=true:=by
 intro k
 induction k with
 |nil=>intro _ p a b e;simp at e
 |cons c k V=>
  intro e p a b f ab
  simp only[pQ,Zq]at e
  cases p with
  |zero=>
   simp at f ab;subst f
   cases k with
   |nil=>simp at ab
   |cons d k=>simp at ab;subst ab;exact e.1
  |succ p=>simp at f ab;exact V e.2 p a b f (by simpa using ab)
def GF:∀(bH:List c1) (cs:List cE),oJ bH cs=(bH.zip cs).filter λx=>gq x.2.op:=by
 intro bH
 induction bH with
 |nil=>intro cs;rfl
 |cons p bH V=>
  intro cs
  cases cs with
  |nil=>rfl
  |cons c cs=>
   simp only[oJ,List.zip_cons_cons,Yp,cN,V]
def HI(a:List c1):∀(bH:List c1) (cs:List cE),oR a bH cs=((bH.zip cs).filter λx=> !gq x.2.op).map λx=>⟨x.2,jl x.1.m a,mo x.1.i a⟩:=by
 intro bH
 induction bH with
 |nil=>intro cs;rfl
 |cons p bH V=>
  intro cs
  cases cs with
  |nil=>rfl
  |cons c cs=>
   simp only[oR,List.zip_cons_cons,Yp,cN,V]
   cases gq c.op<;>simp
def rA:∀k:List (c1×cE),hM k=k.map (·.1):=by
 intro k
 induction k with
 |nil=>rfl
 |cons a k V=>simp[hM,V]
def EQ(m:Nat):∀(a:List c1) (o:Nat),(∀p e,a[p]? =some e->o<=p->cF m e.i=false)->jl m a<=o:=by
 intro a
 induction a with
 |nil=>intro o _;simp[jl]
 |cons e a V=>
  intro o c
  simp only[jl,cN]
  cases o with
  |zero=>
   have:=c 0 e rfl (Zp _)
   rw[this]
   have:=V 0 (λp b d _=>c (p+1) b (by simpa using d) Zo)
   simpa using this
  |succ o=>
   have:=V o (λp b d f=>c (p+1) b (by simpa using d) Zo)
   split<;>omega
def GJ(i:Nat):∀(a:List c1) (o:Nat),o<=a.length->(∀p e,a[p]? =some e->p<o->cF e.m i=false)->o<=mo i a:=by
 intro a
 induction a with
 |nil=>intro o b _;simp at b;omega
 |cons e a V=>
  intro o f b
  cases o with
  |zero=>omega
  |succ o=>
   have d:=b 0 e rfl Zo
   simp only[mo,d,fB]
   have:=V o (by simpa using f) (λp c g m=>b (p+1) c (by simpa using g) Zo)
   omega
def hv(tmps:Array Value)(dst:Option Nat)(v:Value):Array Value:=match dst with|some d=>tmps.setIfInBounds d v|none=>tmps
def sm(tmps:Array Value)(dst:Option Nat)(v:Value):(hv tmps dst v).size=tmps.size:=by cases dst<;>simp[hv]
def An(tmps:Array Value)(dst:Option Nat)(v:Value)(t:Nat)(e:∀d,dst=some d->d<tmps.size):(hv tmps dst v)[t]? =if dst=some t then some v else tmps[t]? :=by
 cases dst with
 |none=>simp[hv]
 |some d=>
  have:=e d rfl
  simp only[hv,Zu,Array.getElem?_setIfInBounds]
  by_cases l:d=t
  ·subst l;simp[this]
  ·simp[l]
def Sub(aa a:List (Nat×y)):Prop:=∀H N,cf aa H=some N->cf a H=some N
def Sub.refl(aa:List (Nat×y)):Sub aa aa:=λ_ _ e=>e
def Sub.trans{a b c:List (Nat×y)}(e:Sub a b)(o:Sub b c):Sub a c:=λH N d=>o H N (e H N d)
def Sub.cons{aa:List (Nat×y)}{i:Nat}{v:y}(e:cf aa i=none):Sub aa ((i,v)::aa):=λH N a=>by
 rw[h7,Zj]
 ·exact a
 ·intro l;subst l;rw[e]at a;cases a
def hf(C:aC)(h E:I ae):Prop:=∀x,J C h x=J C E x\/J C h x=none
inductive jU(ad:Array Oper):(Nat->Prop)->List Nat->Prop
 |nil {bm}:(∀i,i<ad.size->bm i)->jU ad bm []
 |cons {bm i D k}:ad[i]? =some D->¬bm i->(∀l∈D.after.toList,Region.binds .any l=true->bm l.on)->jU ad (add bm i) k->jU ad bm (i::k)
noncomputable def j5(C:aC)(n ac:Nat)(ad:Array Oper):List cE:=(ix C n ac ad.toList 0 []).getD []
noncomputable def gZ(ad:Array Oper):List c1:=mC ad.toList 0 [] []
noncomputable def dd(C:aC)(n ac:Nat)(ad:Array Oper):List (c1×cE):=oJ (gZ ad) (j5 C n ac ad)
noncomputable def fD(C:aC)(n ac:Nat)(ad:Array Oper):List hg:=oR (hM (dd C n ac ad)) (gZ ad) (j5 C n ac ad)
structure hb(C:aC)(n ac:Nat)(ad:Array Oper):Prop where
 EL:ix C n ac ad.toList 0 []=some (j5 C n ac ad)
 a:nK ad.toList 0=true
 IZ:ql (gZ ad)=true
 chain:pQ (hM (dd C n ac ad))=true
section
variable{C:aC}{n ac:Nat}{ad:Array Oper}
def ts(e:hb C n ac ad):(j5 C n ac ad).length=ad.size/\∀H x,(j5 C n ac ad)[H]? =some x->x.i=H/\∃D,qH C n ac ad x D:=by
 have a:=e.EL
 have:=EB (ad:=ad) ad.toList 0 _ Zs (by rw[qC];exact a)
 exact⟨by simpa using this.1,λH x b=>by simpa using this.2 H x b⟩
def pw(ad:Array Oper):(gZ ad).length=ad.size/\(∀H p,(gZ ad)[H]? =some p->p.i=H/\∃D,n9 ad p D):=by
 have:=yO (ad:=ad) ad.toList 0 [] Zs Zs
 rw[qC]at this
 exact⟨by unfold gZ;simpa using this.1,λH p a=>by simpa using this.2.1 H p a⟩
noncomputable def h8(C:aC)(n ac:Nat)(ad:Array Oper):List (c1×cE):=(gZ ad).zip (j5 C n ac ad)
def kS(e:hb C n ac ad)(i:Nat)(ak:i<ad.size):∃p x D,(h8 C n ac ad)[i]? =some (p,x)/\(gZ ad)[i]? =some p/\p.i=i/\x.i=i/\qH C n ac ad x D/\n9 ad p D:=by
 obtain⟨aH,aZ⟩:=ts e
 obtain⟨b2,be⟩:=pw ad
 have r:(j5 C n ac ad)[i]? =some ((j5 C n ac ad)[i]'Zo):=Ze _
 have b:(gZ ad)[i]? =some ((gZ ad)[i]'Zo):=Ze _
 obtain⟨c,D,d⟩:=aZ _ _ r
 obtain⟨f,o',g⟩:=be _ _ b
 have:o'=D:=by
  have m:=d.oper;have a:=g.oper
  rw[c]at m;rw[f]at a
  rw[m]at a;exact(Yd a).symm
 subst this
 refine⟨_,_,o', ?_,b,f,c,d,g⟩
 unfold h8
 rw[List.getElem?_zip_eq_some]
 exact⟨b,r⟩
def kT(e:hb C n ac ad){a:c1×cE}(r:a∈h8 C n ac ad):∃D,a.1.i<ad.size/\a.2.i=a.1.i/\(h8 C n ac ad)[a.1.i]? =some a/\(gZ ad)[a.1.i]? =some a.1/\qH C n ac ad a.2 D/\n9 ad a.1 D:=by
 obtain⟨H,b⟩:=ZZ.1 r
 have t:(h8 C n ac ad).length=ad.size:=by
  unfold h8
  rw[List.length_zip,(ts e).1,(pw ad).1,Nat.min_self]
 have m:H<ad.size:=zu (Zf.1 b).1
 obtain⟨p,x,D,c,f,d,s,g,i⟩:=kS e H m
 rw[b]at c
 cases c
 refine⟨D,by simp only;omega,by simp only;omega, ?_, ?_,g,i⟩
 ·simp only[d];exact b
 ·simp only[d];exact f
def ra:dd C n ac ad=(h8 C n ac ad).filter λ(x:c1×cE)=>gq x.2.op:=GF _ _
def re:fD C n ac ad=((h8 C n ac ad).filter λ(x:c1×cE)=> !gq x.2.op).map λ(x:c1×cE)=>⟨x.2,jl x.1.m (hM (dd C n ac ad)),mo x.1.i (hM (dd C n ac ad))⟩:=HI _ _ _
def rg{k:hg}(au:k∈fD C n ac ad):∃p,(p,k.x)∈h8 C n ac ad/\gq k.x.op=false/\k.aF=jl p.m (hM (dd C n ac ad))/\k.ak=mo p.i (hM (dd C n ac ad)):=by
 rw[re]at au
 obtain⟨d,c,rfl⟩:=ZB.1 au
 obtain⟨a,b⟩:=YE.1 c
 exact⟨d.1,a,by simpa using b,rfl,rfl⟩
def rb{a:c1×cE}(b:a∈dd C n ac ad):a∈h8 C n ac ad/\gq a.2.op=true:=by
 rw[ra]at b
 exact YE.1 b
def xu(e:hb C n ac ad)(i:Nat)(ak:i<ad.size):(∃k∈fD C n ac ad,k.x.i=i)\/(∃(p:Nat) (c:c1×cE),(dd C n ac ad)[p]? =some c/\c.1.i=i):=by
 obtain⟨p,x,D,d,r,f,g,s,t⟩:=kS e i ak
 have b:=Zg d
 cases a:gq x.op with
 |true=>
  refine .inr ?_
  have:(p,x)∈dd C n ac ad:=by rw[ra];exact YE.2 ⟨b,a⟩
  obtain⟨L,m⟩:=ZZ.1 this
  exact⟨L,_,m,f⟩
 |false=>
  refine .inl ⟨_,by rw[re];exact ZB.2 ⟨(p,x),YE.2 ⟨b,by simp[a]⟩,rfl⟩,g⟩
def xt(e:hb C n ac ad):(h8 C n ac ad).Pairwise λa b=>a.1.i<b.1.i:=by
 rw[YQ]
 intro i H ak f t
 have v:(h8 C n ac ad).length=ad.size:=by
  unfold h8
  rw[List.length_zip,(ts e).1,(pw ad).1,Nat.min_self]
 obtain⟨p,x,D,c,g,r,_⟩:=kS e i Zo
 obtain⟨w,z,o',d,m,s,_⟩:=kS e H Zo
 rw[Ze ak]at c
 rw[Ze f]at d
 rw[Yd c,Yd d]
 simp only;omega
def xs(e:hb C n ac ad){p L:Nat}{m z:c1×cE}(s:(dd C n ac ad)[p]? =some m)(t:(dd C n ac ad)[L]? =some z)(v:m.1.i=z.1.i):p=L:=by
 have c:(dd C n ac ad).Pairwise λa b=>a.1.i<b.1.i:=by rw[ra];exact(xt e).filter _
 rw[YQ]at c
 obtain⟨d,f⟩:=Zf.1 s
 obtain⟨g,i⟩:=Zf.1 t
 rcases YU p L with r|rfl|iV
 ·have:=c p L d g r
  rw[f,i]at this;omega
 ·rfl
 ·have:=c L p g d iV
  rw[f,i]at this;omega
def tt(e:hb C n ac ad):(fD C n ac ad).Pairwise λa b=>a.x.i<b.x.i:=by
 rw[re,List.pairwise_map]
 have f:((h8 C n ac ad).filter λ(x:c1×cE)=> !gq x.2.op).Pairwise λa b=>a.1.i<b.1.i:=(xt e).filter _
 refine f.imp_of_mem λ{a b} g ab i=> ?_
 obtain⟨_,_,c,_⟩:=kT e (YE.1 g).1
 obtain⟨_,_,d,_⟩:=kT e (YE.1 ab).1
 show a.2.i<b.2.i
 rw[c,d];exact i
def rf(e:hb C n ac ad){k:hg}(au:k∈fD C n ac ad):k.x.i<ad.size:=by
 obtain⟨p,c,_⟩:=rg au
 obtain⟨_,a,b,_⟩:=kT e c
 simp only at a b;omega
def E5(e:hb C n ac ad){a:c1×cE}(d:a∈dd C n ac ad):a.1.i<ad.size/\a.2.i=a.1.i:=by
 obtain⟨_,b,c,_⟩:=kT e (rb d).1
 exact⟨b,c⟩
def mU(ad:Array Oper)(bm:Nat->Prop):Prop:=∀i D,ad[i]? =some D->bm i->∀l∈D.after.toList,Region.binds .any l=true->bm l.on
def px{bm:Nat->Prop}(v:mU ad bm){p:c1}(P:p∈gZ ad){D:Oper}(O:ad[p.i]? =some D)
 (c:∀l∈D.after.toList,Region.binds .any l=true->bm l.on):∀a,cF p.m a=true->bm a:=by
 have key:=(yO (ad:=ad) ad.toList 0 [] Zs Zs).2.2 (λi m=>(∀D,ad[i]? =some D->∀l∈D.after.toList,Region.binds .any l=true->bm l.on)->∀a,cF m a=true->bm a) Zs
  (λH D m C _ G c a w=>by
   obtain⟨l,g,n,r⟩:=G a w
   have d:=c D C l g n
   rcases r with rfl|⟨X,s,t⟩
   ·exact d
   ·exact s (λo' b f z x=>v l.on o' b d f z x) a t)
 rw[qC]at key
 exact key p P (λo' b=>by rw[O]at b;cases b;exact c)
end
structure qE(C:aC)(F:Nat->Prop)(h:I ae)(base:Nat)(aa:List (Nat×y))(B:I y)(x:cE)(N:y):Prop where
 key:cf aa x.i=some N
 ok:∃a b,Sub a aa/\gQ x.g a=some b/\(b=false->N=undef)/\(b=true->(gq x.op=false)/\
  (f1 x.op= .make->∃bN,gG x.op C (base+x.i) a B=some (N,bN)/\J C h (base+x.i)=some bN)/\
  (f1 x.op= .dV->mO x.op=false->∀dc,dk x.op C dc a B=some N))
def pe(C:aC)(h:I ae)(aa:List (Nat×y))(B:I y)(x:cE)(N:y):Prop:=
 ∃a dc b,Sub a aa/\hf C dc h/\gQ x.g a=some b/\(b=true->f1 x.op= .dV->dk x.op C dc a B=some N)
def lU(A:bE)(F:Nat->Prop)(ac:Nat)(ad:Array Oper)(bm:Nat->Prop)(aa:List (Nat×y))(B:I y)(tmps:Array Value):Prop:=
 ∀t v,((∃H,bm H/\iy ad H=some t/\(∀a,bm a->iy ad a=some t->a<=H)/\cf aa H=some v)\/((∀H,bm H->iy ad H≠some t)/\cF ac t=true/\B.get t=some v))->
  tmps[t]? =some (ai A v)/\bd F v
structure h2(C:aC)(A:bE)(F:Nat->Prop)(h:I ae)(base n ac:Nat)(ad:Array Oper)(aa:List (Nat×y))(o m:Nat)(B:I y)(tmps:Array Value)(bm:Nat->Prop):Prop where
 st:hb C n ac ad
 size:tmps.size=n
 rN:o<=(dd C n ac ad).length
 ch:C.aP<=base
 closed:mU ad bm
 kg:∀i,bm i->i<ad.size
 done:∀p e,(dd C n ac ad)[p]? =some e->(bm e.1.i↔p<o)
 iX:∀k∈fD C n ac ad,bm k.x.i->k.aF<m
 keys:∀i N,cf aa i=some N->(∃k∈fD C n ac ad,k.x.i=i/\k.aF<m)\/(∃p e,(dd C n ac ad)[p]? =some e/\e.1.i=i/\p<o)
 jq:∀p e,(dd C n ac ad)[p]? =some e->p<o->∃N,cf aa e.1.i=some N
 ahead:∀k∈fD C n ac ad,k.aF<m->∃N,cf aa k.x.i=some N/\(¬bm k.x.i->qE C F h base aa B k.x N)
 nj:lU A F ac ad bm aa B tmps
 ids:∀i,i<ad.size->F (base+i)->bm i
 free:∀i,i<ad.size->cf aa i=none->J C h (base+i)=none
section
variable{C:aC}{A bF:bE}{F bu:Nat->Prop}{h E:I ae}{j ar aB:Nat}{w aM:World}
def gV.T{ac:Nat}{X:Nat->Prop}{wr:List (Nat×Nat)}{aa:List (Nat×y)}{B:I y}{tmps:Array Value}(i:∀b,F b->bF b=A b)(d:∀b,F b->bu b)(e:gV A F ac X wr aa B tmps):gV bF bu ac X wr aa B tmps:=
 λt v g f=>by
  obtain⟨c,a⟩:=e t v g f
  exact⟨by rw[c,hK i a],g3 d v a⟩
def lU.T{ac:Nat}{ad:Array Oper}{bm:Nat->Prop}{aa:List (Nat×y)}{B:I y}{tmps:Array Value}(g:∀b,F b->bF b=A b)(d:∀b,F b->bu b)(e:lU A F ac ad bm aa B tmps):lU bF bu ac ad bm aa B tmps:=
 λt v f=>by
  obtain⟨c,a⟩:=e t v f
  exact⟨by rw[c,hK g a],g3 d v a⟩
def is.T(c:∀b,F b->bF b=A b)(i:∀b,F b->bu b)(e:is C A F):is C bF bu:=λg m=>by
 obtain⟨a,d,f⟩:=e g m
 exact⟨i g a,by rw[c g a];exact d,by rw[c g a];exact f⟩
def h2.T{bv base n ac o m:Nat}{ad:Array Oper}{aa:List (Nat×y)}{B:I y}{tmps:Array Value}{bm:Nat->Prop}(f:dW C bv A F h aB w bF bu E aM)(au:base+ad.size<=bv)
 (e:h2 C A F h base n ac ad aa o m B tmps bm):h2 C bF bu E base n ac ad aa o m B tmps bm:=by
 have T7:∀i,i<ad.size->bu (base+i)->bm i:=λi ak c=>(f.new _ c).elim (e.ids i ak) (λL=>Zo)
 refine⟨e.st,e.size,e.rN,e.ch,e.closed,e.kg,e.done,e.iX,e.keys,e.jq, ?_,e.nj.T f.dZ f.ej,T7, ?_⟩
 ·intro k r T9
  obtain⟨N,O,Z⟩:=e.ahead k r T9
  refine⟨N,O,λa=> ?_⟩
  obtain⟨T0,G,b,T1,T2,T3,T4⟩:=Z a
  refine⟨T0,G,b,T1,T2,T3,λab=> ?_⟩
  obtain⟨T5,T6,P⟩:=T4 ab
  refine⟨T5,λT8=> ?_,P⟩
  obtain⟨bN,X,Y⟩:=T6 T8
  refine⟨bN,X, ?_⟩
  have TY:=rf e.st r
  rw[f.T _ (λc=>a (e.ids _ TY c)) Zo]
  exact Y
 ·intro i ak g
  rw[f.T _ ?_ Zo]
  ·exact e.free i ak g
  ·intro c
   have a:=e.ids i ak c
   rcases xu e.st i ak with ⟨k,s,t⟩|⟨p,z,v,x⟩
   ·obtain⟨N,d,_⟩:=e.ahead k s (e.iX k s (by rw[t];exact a))
    rw[t,g]at d;cases d
   ·obtain⟨N,d⟩:=e.jq p z v ((e.done p z v).1 (by rw[x];exact a))
    rw[x,g]at d;cases d
end
section
variable{C:aC}{A bF:bE}{F bu:Nat->Prop}{h E:I ae}{j ar aB:Nat}{w aM:World}{n ac:Nat}{ad:Array Oper}
def ym{a b t:Nat}(c:cF a t=true)(d:cF b t=true):Nat.beq (Nat.land a b) 0=false:=by
 cases e:Nat.beq (Nat.land a b) 0 with
 |false=>rfl
 |true=>
  have l:=Zh e
  have:=Ep a b t
  rw[l,q0,c,d]at this
  cases this
def sk{p:c1}{D:Oper}(e:n9 ad p D){t:Nat}(a:D.dst=some t):cF p.w t=true:=by rw[e.w];exact Fc.2 a
def Jg{p:c1}{D:Oper}(e:n9 ad p D){t:Nat}(M:Operand.tmp t∈D.op.operands.toList):cF p.r t=true:=by
 rw[e.r,oo,IR.2 M];rfl
def tm(e:hb C n ac ad){i H:Nat}{p L:c1}(g:i<H)(c:(gZ ad)[i]? =some p)(r:(gZ ad)[H]? =some L){t:Nat}
 (f:(cF p.w t=true/\(cF L.r t=true\/cF L.w t=true))\/(cF L.w t=true/\cF p.r t=true)):cF L.m i=true:=by
 have:=II e.IZ i H p L g c r
 have m:p.i=i:=((pw ad).2 i p c).1
 unfold r8 at this
 rw[m]at this
 rcases f with ⟨b,a⟩|⟨b,a⟩
 ·have d:cF (Nat.lor L.r L.w) t=true:=by rw[oo];rcases a with a|a<;>simp[a]
  rw[ym b d]at this
  simpa using this
 ·rw[ym b a]at this
  simpa using this
def r1{i:Nat}{p:c1}(a:(gZ ad)[i]? =some p):p∈gZ ad:=Zg a
def E6(s:hb C n ac ad){bm:Nat->Prop}{aa:List (Nat×y)}{B:I y}{tmps:Array Value}(X:mU ad bm)(U1:∀i,bm i->i<ad.size)(TY:lU A F ac ad bm aa B tmps)
 {i:Nat}{p:c1}{D:Oper}(g:(gZ ad)[i]? =some p)(T4:ad[i]? =some D)(Z:¬bm i)(TZ:∀l∈D.after.toList,Region.binds .any l=true->bm l.on):
 gV A F ac (λt=>cF p.r t=true) (d0 ad i) aa B tmps:=by
 have ak:i<ad.size:=(ZI.1 T4).1
 obtain⟨_,T6,T7⟩:=qD ad i (zm ak)
 have U4:p.i=i:=((pw ad).2 i p g).1
 have U3:=px X (r1 g) (by rw[U4];exact T4) TZ
 have T5:∀t H,cF p.r t=true->i<H->bm H->iy ad H=some t->False:=by
  intro t H M U0 b f
  obtain⟨L,x,G,_,m,r,_,U5,d⟩:=kS s H (U1 H b)
  have c:ad[H]? =some G:=by rw[<-r];exact d.oper
  have T0:=sk d (t:=t) (by rw[<-pz c];exact f)
  have ab:=tm s U0 g m (.inr ⟨T0,M⟩)
  have:=px X (r1 m) (by rw[r];exact c) (X H G c b) i ab
  exact Z this
 intro t v P w
 apply TY t v
 split at w
 ·rename_i H Y
  obtain⟨T8,T1,T9⟩:=T6 t H Y
  left
  have U2:H<ad.size:=Zo
  obtain⟨L,x,G,_,m,r,_,U5,d⟩:=kS s H U2
  have c:ad[H]? =some G:=by rw[<-r];exact d.oper
  have T0:=sk d (t:=t) (by rw[<-pz c];exact T1)
  have ab:=tm s T8 m g (.inl ⟨T0, .inl P⟩)
  refine⟨H,U3 H ab,T1,λz T2 T3=> ?_,w⟩
  rcases YU z i with a|a|a
  ·rcases zg H z with O|O
   ·exact absurd T3 (T9 z O a)
   ·exact O
  ·exact absurd (a▸T2) Z
  ·exact(T5 t z P a T2 T3).elim
 ·rename_i Y
  right
  refine⟨λH b f=> ?_,w.1,w.2⟩
  rcases YU H i with a|a|a
  ·exact T7 t Y H a f
  ·exact Z (a▸b)
  ·exact T5 t H P a b f
def lU.put(G:hb C n ac ad){bm:Nat->Prop}{aa g:List (Nat×y)}{B:I y}{tmps:Array Value}(P:mU ad bm)(T8:∀i,bm i->i<ad.size)(T5:lU A F ac ad bm aa B tmps)(U6:tmps.size=n)
 {i:Nat}{D:Oper}{v:y}(w:ad[i]? =some D)(U1:¬bm i)(T3:∀H,bm H->∀N,cf g H=some N->cf aa H=some N)(T4:cf g i=some v)(T7:∀d,D.dst=some d->d<n)(dH:bd F v):
 lU A F ac ad (add bm i) g B (hv tmps D.dst (ai A v)):=by
 have ak:i<ad.size:=(ZI.1 w).1
 have r:=pz w
 have U5:∀t,(hv tmps D.dst (ai A v))[t]? =if D.dst=some t then some (ai A v)else tmps[t]? :=λt=>An _ _ _ _ (by rw[U6];exact T7)
 intro t N e
 rw[U5]
 by_cases b:D.dst=some t
 ·rw[Zv b]
  rcases e with ⟨H,a,c,s,f⟩|⟨m,_⟩
  ·
   have TZ:H=i:=by
    rcases a with a|a
    ·have U9:=s i (.inr rfl) (by rw[r];exact b)
     rcases zg i H with U0|mn
     ·exfalso
      obtain⟨p,x,U8,_,U3,U4,_,_,X⟩:=kS G i ak
      obtain⟨L,UA,T1,_,Y,Z,_,_,T0⟩:=kS G H (T8 H a)
      have z:ad[H]? =some T1:=by rw[<-Z];exact T0.oper
      have U2:U8=D:=by
       have:=X.oper
       rw[U4,w]at this
       exact(Yd this).symm
      subst U2
      have ab:=tm G U0 U3 Y (.inl ⟨sk X b, .inr (sk T0 (by rw[<-pz z];exact c))⟩)
      exact U1 (px P (r1 Y) (by rw[Z];exact z) (P H T1 z a) i ab)
     ·omega
    ·exact a
   subst TZ
   rw[T4]at f
   cases f
   exact⟨rfl,dH⟩
  ·exact absurd (by rw[r];exact b) (m i (.inr rfl))
 ·rw[Zj b]
  apply T5 t N
  rcases e with ⟨H,a,c,s,f⟩|⟨m,T2⟩
  ·left
   have O:bm H:=a.resolve_right λl=>b (by rw[<-r, <-l];exact c)
   exact⟨H,O,c,λU7 TY T6=>s U7 (.inl TY) T6,T3 H O N f⟩
  ·right
   exact⟨λH T9=>m H (.inl T9),T2⟩
def mU.add{bm:Nat->Prop}(d:mU ad bm){i:Nat}{D:Oper}(g:ad[i]? =some D)(f:∀l∈D.after.toList,Region.binds .any l=true->bm l.on):mU ad (add bm i):=by
 intro H m b a l c ab
 rcases a with a|a
 ·exact .inl (d H m b a l c ab)
 ·subst a
  rw[g]at b;cases b
  exact .inl (f l c ab)
def rT(d:hb C n ac ad){k:hg}(au:k∈fD C n ac ad){p:Nat}{f:c1×cE}(r:(dd C n ac ad)[p]? =some f):k.x.i≠f.1.i:=by
 intro l
 obtain⟨L,g,i,_⟩:=rg au
 obtain⟨m,c⟩:=rb (Zg r)
 obtain⟨_,_,b,a,_⟩:=kT d g
 obtain⟨_,_,bo,s,_⟩:=kT d m
 simp only at b a
 rw[<-b,l,s]at a
 cases a
 rw[i]at c;cases c
def h2.cB{base m:Nat}{aa:List (Nat×y)}{B:I y}{tmps:Array Value}{bm:Nat->Prop}(e:h2 C A F h base n ac ad aa m (m+1) B tmps bm){f:c1×cE}(r:(dd C n ac ad)[m]? =some f)
 {D:Oper}(G:ad[f.1.i]? =some D)(P:¬bm f.1.i)(T3:∀l∈D.after.toList,Region.binds .any l=true->bm l.on){v:y}(dH:bd F v)(T2:∀d,D.dst=some d->d<n):
 h2 C A F h base n ac ad ((f.1.i,v)::aa) (m+1) (m+1) B (hv tmps D.dst (ai A v)) (add bm f.1.i):=by
 have T4:cf aa f.1.i=none:=by
  cases w:cf aa f.1.i with
  |none=>rfl
  |some N=>
   exfalso
   rcases e.keys _ N w with ⟨k,c,s,_⟩|⟨p,z,c,s,Y⟩
   ·exact rT e.st c r s
   ·have:=xs e.st c r s;omega
 have O:Sub aa ((f.1.i,v)::aa):=Sub.cons T4
 have ak:f.1.i<ad.size:=(ZI.1 G).1
 refine⟨e.st,by rw[sm];exact e.size,zu (Zf.1 r).1,e.ch,e.closed.add G T3, ?_, ?_, ?_, ?_, ?_, ?_, ?_, ?_, ?_⟩
 ·rintro i (a|a)
  ·exact e.kg i a
  ·omega
 ·intro p z g
  constructor
  ·rintro(a|a)
   ·have:=(e.done p z g).1 a;omega
   ·have:=xs e.st g r a;omega
  ·intro T8
   rcases zg p m with T6|mn
   ·exact .inl ((e.done p z g).2 T6)
   ·have:p=m:=Zo
    subst this
    rw[r]at g;cases g
    exact .inr rfl
 ·rintro k au (a|a)
  ·exact e.iX k au a
  ·exact(rT e.st au r a).elim
 ·intro i N t
  rw[h7]at t
  split at t
  ·rename_i l
   exact .inr ⟨m,f,r,l,Zo⟩
  ·rcases e.keys i N t with c|⟨p,z,c,s,Y⟩
   ·exact .inl c
   ·exact .inr ⟨p,z,c,s,Zo⟩
 ·intro p z g T8
  rw[h7]
  split
  ·exact⟨v,rfl⟩
  ·rename_i T7
   have:p≠m:=λl=>by subst l;rw[r]at g;cases g;exact T7 rfl
   exact e.jq p z g Zo
 ·intro k au T5
  obtain⟨N,c,s⟩:=e.ahead k au T5
  refine⟨N,O _ _ c,λa=> ?_⟩
  obtain⟨_,X,b,Z,T0⟩:=s (λL=>a (.inl L))
  exact⟨O _ _ c,X,b,Z.trans O,T0⟩
 ·refine e.nj.put e.st e.closed e.kg e.size G P ?_ (by rw[h7,Zv rfl]) T2 dH
  intro H a N t
  rw[h7,Zj]at t
  ·exact t
  ·intro l;subst l;exact P a
 ·intro i x T1
  exact .inl (e.ids i x T1)
 ·intro i x w
  rw[h7]at w
  split at w
  ·cases w
  ·exact e.free i x w
def h2.dV{base P m:Nat}{aa:List (Nat×y)}{B:I y}{tmps:Array Value}{bm:Nat->Prop}(e:h2 C A F h base n ac ad aa P m B tmps bm){k:hg}(au:k∈fD C n ac ad)(TZ:k.aF<m)
 {D:Oper}(w:ad[k.x.i]? =some D)(U2:¬bm k.x.i)(T9:∀l∈D.after.toList,Region.binds .any l=true->bm l.on){v:y}(U4:cf aa k.x.i=some v)
 (U5:∀b,F b->bF b=A b)(T5:∀b,F b->bu b)(T6:∀b,bu b->F b\/b=base+k.x.i)(dH:bd bu v)(T8:∀d,D.dst=some d->d<n):
 h2 C bF bu h base n ac ad aa P m B (hv tmps D.dst (ai bF v)) (add bm k.x.i):=by
 have ak:k.x.i<ad.size:=(ZI.1 w).1
 refine⟨e.st,by rw[sm];exact e.size,e.rN,e.ch,e.closed.add w T9, ?_, ?_, ?_,e.keys,e.jq, ?_, ?_, ?_,e.free⟩
 ·rintro i (c|c)
  ·exact e.kg i c
  ·omega
 ·intro p z x
  constructor
  ·rintro(c|c)
   ·exact(e.done p z x).1 c
   ·exact(rT e.st au x c.symm).elim
  ·intro U3
   exact .inl ((e.done p z x).2 U3)
 ·rintro s r (c|c)
  ·exact e.iX s r c
  ·have:=(tt e.st)
   by_cases L:s=k
   ·rw[L];exact TZ
   ·exfalso
    obtain⟨a,T7⟩:=ZZ.1 r
    obtain⟨b,ab⟩:=ZZ.1 au
    obtain⟨G,t⟩:=Zf.1 T7
    obtain⟨O,f⟩:=Zf.1 ab
    rw[YQ]at this
    rcases YU a b with U1|l|iV
    ·have:=this a b G O U1
     rw[t,f]at this;omega
    ·subst l
     rw[t]at f;exact L f
    ·have:=this b a O G iV
     rw[t,f]at this;omega
 ·intro s r U0
  obtain⟨N,Y,Z⟩:=e.ahead s r U0
  refine⟨N,Y,λc=> ?_⟩
  obtain⟨T0,X,b,T1,T2,T3,T4⟩:=Z (λL=>c (.inl L))
  exact⟨T0,X,b,T1,T2,T3,T4⟩
 ·exact(e.nj.T U5 T5).put e.st e.closed e.kg e.size w U2 (λ_ _ _ L=>L) U4 T8 dH
 ·intro i TY g
  rcases T6 _ g with g|g
  ·exact .inl (e.ids i TY g)
  ·exact .inr Zo
end
def iQ(A:bE)(p:io):PanicEntry:={v:=ai A p.v,recovered:=p.recovered}
def dh(A:bE):fa->FrameMode
 | .run=> .run
 | .returning=> .returning
 | .panicking a=> .panicking (a.map (iQ A))
def hN(F:Nat->Prop):fa->Prop
 | .panicking a=>∀p∈a,bd F p.v
 |_=>True
inductive mX(C:aC)(A:bE)(F:Nat->Prop)(ac:Nat):bV->Item->Prop
 |code {c:Code}:fC C ac c=true->mX C A F ac (.code c) (.code c)
 |inBlock {id:Nat}:mX C A F ac (.inBlock id) (.inBlock id)
 |inLoop {b:Code}:fC C ac b=true->mX C A F ac (.inLoop b) (.inLoop b)
 |inScope {b:Code}:fC C ac b=true->mX C A F ac (.inScope b) (.inScope b)
 |nn {k:Nat}:F k->mX C A F ac (.endRangeFunc k) (.endRangeFunc (A k).bc)
 |begin:mX C A F ac .beginRound .beginRound
inductive fx(C:aC)(A:bE)(F:Nat->Prop)(ac:Nat):List bV->List Item->Prop
 |nil:fx C A F ac [] []
 |cons {a x o aG}:mX C A F ac a x->fx C A F ac o aG->fx C A F ac (a::o) (x::aG)
def sZ(C:aC)(A:bE)(F:Nat->Prop)(n ac:Nat)(ad:Array Oper)(aa:List (Nat×y))(rest:List cE)(fin:List (Nat×Nat))(B:I y)(tmps:Array Value)(k:List Nat):Prop:=
 ∃i,i<=ad.size/\k=List.range' i (ad.size-i)/\ix C n ac (ad.toList.drop i) i (d0 ad i)=some rest/\fin=ff ac ad.toList 0/\gV A F ac (λ_=>True) (d0 ad i) aa B tmps/\tmps.size=n
def DK(C:aC)(A:bE)(F:Nat->Prop)(n ac:Nat)(ad:Array Oper)(aa:List (Nat×y))(e:Nat)(rest:List cE)(fin:List (Nat×Nat))(B:I y)(tmps:Array Value)(k:List Nat):Prop:=
 ∃D,ad[e]? =some D/\(∀d,D.dst=some d->d<n)/\k=List.range' (e+1) (ad.size-(e+1))/\ix C n ac (ad.toList.drop (e+1)) (e+1) (d0 ad (e+1))=some rest/\fin=ff ac ad.toList 0/\
  gV A F ac (λ_=>True) (d0 ad e) aa B tmps/\tmps.size=n
inductive m5(C:aC)(A:bE)(F:Nat->Prop)(h:I ae)(bv j n ac:Nat)(B:I y)(tmps:Array Value):List bV->List Item->Prop
 |plain {o aG}:fx C A F ac o aG->es A F n ac B tmps->m5 C A F h bv j n ac B tmps o aG
 |seq {ad aa rest fin k o aG}:fx C A F ac o aG->sZ C A F n ac ad aa rest fin B tmps k->m5 C A F h bv j n ac B tmps (.o4 ad aa rest fin::o) (.inRegion ad k::aG)
 |drawn {ad base aa k o aG bm a}:fx C A F ac o aG->bv<=base->base+ad.size<=j->h2 C A F h base n ac ad aa a a B tmps bm->jU ad bm k->
   m5 C A F h bv j n ac B tmps (.drawn ad base aa (ln (fD C n ac ad) a ((dd C n ac ad).drop a)) (ff ac ad.toList 0)::o) (.inRegion ad k::aG)
inductive fV(C:aC)(A:bE)(F:Nat->Prop)(h:I ae)(aF ak n ac:Nat)(B:I y)(tmps:Array Value):List bV->List Item->Prop
 |seq {ad aa e rest fin k o aG}:fx C A F ac o aG->DK C A F n ac ad aa e rest fin B tmps k->fV C A F h aF ak n ac B tmps (.iI ad aa e rest fin::o) (.inRegion ad (e::k)::aG)
 |drawn {ad base aa k o aG bm b a D}:fx C A F ac o aG->aF<=base->base+ad.size<=ak->h2 C A F h base n ac ad aa b (b+1) B tmps bm->(dd C n ac ad)[b]? =some a->
   ad[a.1.i]? =some D->¬bm a.1.i->(∀l∈D.after.toList,Region.binds .any l=true->bm l.on)->jU ad (add bm a.1.i) k->
   fV C A F h aF ak n ac B tmps (.lG ad base aa a.1.i (ln (fD C n ac ad) (b+1) ((dd C n ac ad).drop (b+1))) (ff ac ad.toList 0)::o) (.inRegion ad (a.1.i::k)::aG)
 |dm {k o aG}:fx C A F ac o aG->es A F n ac B tmps->F k->fV C A F h aF ak n ac B tmps (.inRangeFunc k::o) (.inRangeFunc (A k).bc::aG)
def l1(C:aC)(A:bE)(F:Nat->Prop)(h:I ae)(aF ak n ac:Nat)(B:I y)(tmps:Array Value)(aV:fa)(todo:List bV)(aG:List Item):Prop:=match aV with
 | .run=>fV C A F h aF ak n ac B tmps todo aG
 |_=>es A F n ac B tmps
def bg(A:bE)(fn:Nat)(aA:List dM)(ao:Bool)(ro:Option Nat)(tmps:Array Value)(aG:List Item)(mode:FrameMode):Frame:=
 {fn,tmps,todo:=aG,defers:=aA.map (fz A),mode,kind:=if ao then .deferred else .normal,roundOf:=ro.map λk=>(A k).bc}
structure jP(C:aC)(F:Nat->Prop)(fn ac:Nat)(aA:List dM)(ro:Option Nat):Prop where
 aA:∀d∈aA,ka F d
 ro:∀k,ro=some k->F k
 fn:sS C fn ac
inductive gR(C:aC)(A:bE)(F:Nat->Prop)(h:I ae)(aQ:Nat)(aX:List Frame):Nat->List dq->List Frame->Prop
 |nil {bv}:gR C A F h aQ aX bv [] aX
 |cons {aF bv fn n ac B todo aA aV ao ro cs tmps aG U}:l1 C A F h aF bv n ac B tmps aV todo aG->hN F aV->jP C F fn ac aA ro->(cs=[]->fn=aQ/\ao=false/\ro=none)->aF<=bv->gR C A F h aQ aX aF cs U->
   gR C A F h aQ aX bv (⟨fn,n,ac,B,todo,aA,aV,ao,ro⟩::cs) (bg A fn aA ao ro tmps aG (dh A aV)::U)
section
variable{C:aC}{A bF:bE}{F bu:Nat->Prop}{h E:I ae}{j ar aB:Nat}{w aM:World}{n ac:Nat}{ad:Array Oper}
def fx.T{o:List bV}{aG:List Item}(d:∀b,F b->bF b=A b)(c:∀b,F b->bu b)(e:fx C A F ac o aG):fx C bF bu ac o aG:=by
 induction e with
 |nil=>exact .nil
 |cons a _ V=>
  refine .cons ?_ V
  cases a with
  |code e=>exact .code e
  |inBlock=>exact .inBlock
  |inLoop e=>exact .inLoop e
  |inScope e=>exact .inScope e
  |nn e=>rw[<-d _ e];exact .nn (c _ e)
  |begin=>exact .begin
def fV.T{aF bv:Nat}{B:I y}{tmps:Array Value}{o:List bV}{aG:List Item}(a:dW C bv A F h aB w bF bu E aM)(e:fV C A F h aF bv n ac B tmps o aG):fV C bF bu E aF bv n ac B tmps o aG:=by
 cases e with
 |seq b c=>
  obtain⟨D,aH,aZ,a3,a4,a5,dY,d3⟩:=c
  exact .seq (b.T a.dZ a.ej) ⟨D,aH,aZ,a3,a4,a5,dY.T a.dZ a.ej,d3⟩
 |drawn b c d f g i m p r=>exact .drawn (b.T a.dZ a.ej) c d (f.T a d) g i m p r
 |dm b c d=>rw[<-a.dZ _ d];exact .dm (b.T a.dZ a.ej) (c.T a.dZ a.ej) (a.ej _ d)
def l1.T{aF bv:Nat}{B:I y}{tmps:Array Value}{aV:fa}{o:List bV}{aG:List Item}(a:dW C bv A F h aB w bF bu E aM)(e:l1 C A F h aF bv n ac B tmps aV o aG):l1 C bF bu E aF bv n ac B tmps aV o aG:=by
 cases aV with
 |run=>exact fV.T a e
 |returning=>exact es.T a.dZ a.ej e
 |panicking b=>exact es.T a.dZ a.ej e
def jP.T{fn:Nat}{aA:List dM}{ro:Option Nat}(a:∀b,F b->bu b)(e:jP C F fn ac aA ro):jP C bu fn ac aA ro:=
 ⟨λd c=>x3 a (e.aA d c),λk au=>a k (e.ro k au),e.fn⟩
def oU{fn:Nat}{aA:List dM}{ao:Bool}{ro:Option Nat}{tmps:Array Value}{aG:List Item}{mode:FrameMode}(a:∀b,F b->bF b=A b)(e:jP C F fn ac aA ro):bg bF fn aA ao ro tmps aG mode=bg A fn aA ao ro tmps aG mode:=by
 unfold bg
 congr 1
 ·exact Yw λd c=>te a (e.aA d c)
 ·cases ro with
  |none=>rfl
  |some k=>simp only[ZJ,a k (e.ro k rfl)]
def EC{aV:fa}(c:∀b,F b->bF b=A b)(e:hN F aV):dh bF aV=dh A aV:=by
 cases aV with
 |panicking d=>
  simp only[dh]
  congr 1
  exact Yw λp a=>by simp only[iQ,hK c (e p a)]
 |_=>rfl
def Gs{aV:fa}(a:∀b,F b->bu b)(e:hN F aV):hN bu aV:=by
 cases aV with
 |panicking d=>exact λp c=>g3 a _ (e p c)
 |_=>trivial
def dW.mono{bv a:Nat}(e:dW C bv A F h aB w bF bu E aM)(au:a<=bv):dW C a A F h aB w bF bu E aM:=
 ⟨e.dZ,e.ej,λb ab=>(e.new b ab).imp id (λL=>Zo),λb ab c=>e.T b ab Zo,e.below⟩
def gR.T{aQ:Nat}{aX:List Frame}{bv:Nat}{cs:List dq}{U:List Frame}(e:gR C A F h aQ aX bv cs U)(a:dW C bv A F h aB w bF bu E aM):gR C bF bu E aQ aX bv cs U:=by
 induction e with
 |nil=>exact .nil
 |cons f d b g c i V=>
  rw[<-oU (A:=A) (bF:=bF) a.dZ b, <-EC a.dZ d]
  exact .cons (f.T a) (Gs a.ej d) (b.T a.ej) g c (V (a.mono c))
def rh(t:Nat):∀(k:List Nat) (B:I y),(j6 k B).get t=if t∈k then none else B.get t:=by
 intro k
 induction k with
 |nil=>intro B;simp[j6]
 |cons d k V=>
  intro B
  simp only[j6,V,I.gn,Zz]
  by_cases e:t∈k
  ·simp[e]
  ·by_cases l:d=t
   ·subst l;simp
   ·have:¬t=d:=λL=>l L.symm
    simp[e,l,this]
def es.drop{B:I y}{tmps:Array Value}(e:es A F n ac B tmps)(k:List Nat):es A F n ac (j6 k B) tmps:=by
 refine⟨e.size,λt v ab a=> ?_⟩
 rw[rh]at a
 split at a
 ·cases a
 ·exact e.val t v ab a
def xz{k:List Oper}{D:Oper}{d:Nat}(b:D∈k)(c:D.dst=some d):d∈dstsOf k:=by
 induction k with
 |nil=>cases b
 |cons a k V=>
  simp only[dstsOf]
  rcases Zz.1 b with rfl|b
  ·rw[c];exact Zl ..
  ·split
   ·exact Zi _ (V b)
   ·exact V b
def fV.drop{aF bv:Nat}{B:I y}{tmps:Array Value}{o:List bV}{aG:List Item}(e:fV C A F h aF bv n ac B tmps o aG):es A F n ac (jm o B) tmps:=by
 cases e with
 |seq i f=>
  rename_i ad aa e rest fin k o aG
  obtain⟨D,aH,aZ,a3,a4,a5,dY,d3⟩:=f
  refine⟨d3,λt v ab a=> ?_⟩
  simp only[jm]at a
  rw[rh]at a
  split at a
  ·cases a
  ·rename_i g
   have ak:e<ad.size:=(ZI.1 aH).1
   obtain⟨_,p,_⟩:=qD ad e (zm ak)
   apply dY t v trivial
   cases s:cf (d0 ad e) t with
   |some H=>
    exfalso
    obtain⟨w,c,_⟩:=p t H s
    unfold iy at c
    cases b:ad[H]? with
    |none=>rw[b]at c;cases c
    |some o'=>
     rw[b]at c
     exact g (xz (by rw[Array.mem_toList_iff];exact Y8 b) c)
   |none=>exact⟨ab,a⟩
 |drawn i f r m x z G O P=>
  rename_i ad base aa k o aG bm Y Z D
  refine⟨m.size,λt v ab a=> ?_⟩
  simp only[jm]at a
  rw[rh]at a
  split at a
  ·cases a
  ·rename_i g
   apply m.nj t v
   right
   refine⟨λH X d=> ?_,ab,a⟩
   unfold iy at d
   cases b:ad[H]? with
   |none=>rw[b]at d;cases d
   |some o'=>
    rw[b]at d
    exact g (xz (by rw[Array.mem_toList_iff];exact Y8 b) d)
 |dm i f r=>exact f
def l1.drop{aF bv:Nat}{B:I y}{tmps:Array Value}{aV:fa}{o:List bV}{aG:List Item}(e:l1 C A F h aF bv n ac B tmps aV o aG):es A F n ac (jm o B) tmps:=by
 cases aV with
 |run=>exact fV.drop e
 |_=>
  have a:es A F n ac B tmps:=e
  unfold jm
  split<;>first|exact a.drop _|exact a
def gV.put{B:I y}{aa:List (Nat×y)}{tmps:Array Value}{i:Nat}{D:Oper}{v:y}(b:ad[i]? =some D)(c:gV A F ac (λ_=>True) (d0 ad i) aa B tmps)(g:∀d,D.dst=some d->d<tmps.size)(dH:bd F v):
 gV A F ac (λ_=>True) (d0 ad (i+1)) ((i,v)::aa) B (hv tmps D.dst (ai A v)):=by
 have ak:i<ad.size:=(ZI.1 b).1
 obtain⟨_,f,_⟩:=qD ad i (zm ak)
 intro t N _ e
 rw[An _ _ _ _ g]
 rw[qB b,oi]at e
 split at e
 ·rename_i H a
  split at a
  ·rename_i l
   cases a
   rw[h7,Zv rfl]at e
   cases e
   rw[Zv l]
   exact⟨rfl,dH⟩
  ·rename_i l
   rw[Zj l]
   have:=(f t H a).1
   rw[h7,Zj Zo]at e
   exact c t N trivial (by rw[a];exact e)
 ·rename_i a
  split at a
  ·cases a
  ·rename_i l
   rw[Zj l]
   exact c t N trivial (by rw[a];exact e)
def ru{g:Frame}{e:Nat}{k:List Nat}{aG:List Item}{D:Oper}(a:g.todo= .inRegion ad (e::k)::aG)(b:ad[e]? =some D)(v:Value):
 g.finish v={g with tmps:=hv g.tmps D.dst v,todo:= .inRegion ad k::aG}:=by
 unfold Frame.finish
 rw[a]
 simp only[b,ZL]
 cases D.dst<;>rfl
def FR{aF bv j n ac fn:Nat}{B:I y}{tmps:Array Value}{todo:List bV}{aG:List Item}{aA:List dM}{ao:Bool}{ro:Option Nat}{mode:FrameMode}{v:y}(e:fV C A F h aF bv n ac B tmps todo aG)(au:bv<=j)(dH:bd F v):
 ∃p o r s c3,todo=p::o/\g1 p v=some r/\(bg A fn aA ao ro tmps aG mode).finish (ai A v)=bg A fn aA ao ro s c3 mode/\m5 C A F h aF j n ac B s (r::o) c3:=by
 cases e with
 |seq a b=>
  rename_i ad aa e rest fin k o aG
  obtain⟨D,aH,aZ,a3,a4,a5,dY,d3⟩:=b
  have T2:e<ad.size:=(ZI.1 aH).1
  refine⟨_,o, .o4 ad ((e,v)::aa) rest fin,hv tmps D.dst (ai A v), .inRegion ad k::aG,rfl,rfl, ?_, .seq a ⟨e+1,Zo,a3,a4,a5,dY.put aH (by rw[d3];exact aZ) dH,by rw[sm];exact d3⟩⟩
  rw[ru (g:=bg A fn aA ao ro tmps _ mode) rfl aH];rfl
 |drawn a b c i m f x z G=>
  rename_i ad base aa k o aG bm T3 X D
  have P:=Zg m
  have O:∀d,D.dst=some d->d<n:=by
   obtain⟨o',Y,Z,T0,T1,t,w⟩:=kT i.st (rb P).1
   have:o'=D:=by
    have:=w.oper
    rw[f]at this
    exact(Yd this).symm
   subst this
   exact t.dst
  refine⟨_,o, .drawn ad base ((X.1.i,v)::aa) _ _,hv tmps D.dst (ai A v), .inRegion ad k::aG,rfl,rfl, ?_, .drawn a b (ZD c au) (i.cB m f x z dH O) G⟩
  rw[ru (g:=bg A fn aA ao ro tmps _ mode) rfl f];rfl
 |dm a b c=>
  rename_i k o aG
  exact⟨_,o, .endRangeFunc k,tmps, .endRangeFunc (A k).bc::aG,rfl,rfl,rfl, .plain (.cons (.nn c) a) b⟩
def sH{B:I y}{aa c:List (Nat×y)}{tmps:Array Value}{X:Nat->Prop}{i:Nat}{D:Oper}{g:Option (Nat×Bool)}{b:Bool}(ak:i<=ad.size)(a:ps (d0 ad i) D.guard=some g)(x:gV A F ac X (d0 ad i) aa B tmps)
 (p:∀H b t,D.guard=some (H,b)->j7 H (d0 ad i)=some t->X t)(v:Sub c aa)(e:gQ g c=some b):Region.wanted D (yielded ad tmps)=b:=by
 obtain⟨n,_,_⟩:=qD ad i ak
 unfold ps at a
 unfold Region.wanted
 split at a
 ·rename_i r
  simp at a;subst a
  simp[gQ]at e
  rw[r, <-e]
 ·rename_i H C f
  rw[f]
  split at a
  ·rename_i t m
   split at a
   ·rename_i G s
    rw[d5]at a
    split at a
    ·rename_i l
     subst l
     simp at a;subst a
     simp only[gQ]at e
     split at e
     ·rename_i N w
      have:=x t N (p H C t f m) (by rw[s];exact v _ _ w)
      have z:yielded ad tmps H=(match ai A N with| .bool b=>some b|_=>none):=by
       unfold yielded
       have d:=n H t m
       unfold iy at d
       rw[d]
       simp only[ZL,this.1]
       cases ai A N<;>rfl
      simp only[z]
      cases N<;>simp[ai]at e ⊢ <;>first|(rw[<-e])|exact e|(subst e;rfl)|skip
      all_goals simp_all
     ·simp at e
    ·simp at a
   ·simp at a
  ·simp at a
end
structure sV(C:aC)(aI:World):Prop where
 val:∀f args v,C.dy f args=some v->((∀A a,ai A v=ai a v)/\∀F,bd F v)/\(∀A a,aU A args=aU a args)/\∀F,cd F args
 ok:∀f args v,C.dy f args=some v->∀A w,Below aI.heap.size aI w->
  (callFunc f (aU A args).toArray).run C.P w= .ok (.value (ai A v)) w\/
  ((callFunc f (aU A args).toArray).run C.P w= .ok (.enter f (aU A args).toArray) w/\Calls C.P f (aU A args).toArray w λl aM=>l= .returned (ai A v)/\Below w.heap.size w aM)
structure Env(C:aC)(aI:World)(bY:bE)(b8:Nat->Prop):Prop where
 eQ:kD C.P
 dy:sV C aI
 base:bD C bY b8 .nil C.aP aI.heap.size aI
 dS:is C bY b8
def Ends(C:aC)(aI:World)(aQ:Nat)(aX:List Frame)(v:y)(bM:Machine):Prop:=
 ∃A aM fr,Steps C.P bM (lone fr aX aM)/\fr.leaving C.P aM (.returned (ai A v))/\fr.fn=aQ/\Below aI.heap.size aI aM
structure m4(C:aC)(aI:World)(aQ:Nat)(aX:List Frame)(aV:fa)(todo:List bV)(fn n ac:Nat)(aA:List dM)(ao:Bool)(ro:Option Nat)(cs:List dq)(B:I y)(h:I ae)(j:Nat)
 (A:bE)(F:Nat->Prop)(w:World)(bv:Nat)(tmps:Array Value)(aG:List Item)(U:List Frame):Prop where
 M:bD C A F h j aI.heap.size w
 fc:Below aI.heap.size aI w
 dS:is C A F
 eJ:bv<=j
 dR:jP C F fn ac aA ro
 mode:hN F aV
 bot:cs=[]->fn=aQ/\ao=false/\ro=none
 cs:gR C A F h aQ aX bv cs U
 todo:match aV with
  | .run=>m5 C A F h bv j n ac B tmps todo aG
  |_=>es A F n ac B tmps
def gg(C:aC)(aI:World)(aQ:Nat)(aX:List Frame)(V:dK):Prop:=
 ∀aV todo fn n ac aA ao ro cs B h j v,V aV todo ⟨fn,n,ac,aA,ao,ro,cs⟩ B h j=some v->
  ∀A F w bv tmps aG U,m4 C aI aQ aX aV todo fn n ac aA ao ro cs B h j A F w bv tmps aG U->Ends C aI aQ aX v (lone (bg A fn aA ao ro tmps aG (dh A aV)) U w)
section
variable{C:aC}{A bF:bE}{F bu:Nat->Prop}{h E:I ae}{j ar aB:Nat}{w aM:World}{n ac:Nat}{ad:Array Oper}
variable{aI:World}{aQ:Nat}{aX:List Frame}{v:y}
def Ends.head{bM a:Machine}(e:step C.P bM= .next a)(b:Ends C aI aQ aX v a):Ends C aI aQ aX v bM:=by
 obtain⟨A,aM,fr,c,d⟩:=b
 exact⟨A,aM,fr, .head e c,d⟩
def Ends.steps{bM a:Machine}(e:Steps C.P bM a)(b:Ends C aI aQ aX v a):Ends C aI aQ aX v bM:=by
 obtain⟨A,aM,fr,c,d⟩:=b
 exact⟨A,aM,fr,e.trans c,d⟩
def bD.later(M:bD C A F h j aB w)(ab:Below w.heap.size w aM):bD C A F h j aB aM:=
 ⟨M.aP,M.lt,M.jF,λb D e d=>(M.obj b D e d).T (λ_ _=>rfl) (λ_ e=>e) (ab.block _ (M.obj b D e d).lt),M.sep,M.base,M.cj⟩
def Env.now{bY:bE}{b8:Nat->Prop}(c:Env C aI bY b8)(ab:Below aI.heap.size aI w):bD C bY b8 .nil C.aP w.heap.size w:=by
 have M:=c.base.later ab
 refine⟨M.aP,M.lt,M.jF,M.obj,M.sep, ?_,M.cj⟩
 intro b D d a _
 exfalso
 unfold J at a
 rw[cN,Zj (by simp[Nat.blt];omega)]at a
 simp at a
def Env.later{bY:bE}{b8:Nat->Prop}(a:Env C aI bY b8)(ab:Below aI.heap.size aI w):Env C w bY b8:=
 ⟨a.eQ,⟨a.dy.val,λf args v e A c b=>a.dy.ok f args v e A c (ab.trans (b.mono ab.size))⟩,a.now ab,a.dS⟩
variable{fn:Nat}{aA:List dM}{ao:Bool}{ro:Option Nat}{tmps:Array Value}{aG:List Item}{U:List Frame}
def fS(tmps:Array Value)(aG:List Item):stepG C.P true {frame:=bg A fn aA ao ro tmps aG .run,callers:=U,status:= .running,dying:=none} w=stepG.exec C.P true true (bg A fn aA ao ro tmps aG .run) U none w:=by
 simp[stepG,bg]
def KS{a b:Code}:step C.P (lone (bg A fn aA ao ro tmps (.code (.seq a b)::aG) .run) U w)= .next (lone (bg A fn aA ao ro tmps (.code a:: .code b::aG) .run) U w):=
 step_lone_go (by rw[fS];simp[stepG.exec,bg])
def KT:step C.P (lone (bg A fn aA ao ro tmps (.code .skip::aG) .run) U w)= .next (lone (bg A fn aA ao ro tmps aG .run) U w):=
 step_lone_go (by rw[fS];simp[stepG.exec,bg])
def KI{k:Nat}:step C.P (lone (bg A fn aA ao ro tmps (.code (.label k)::aG) .run) U w)= .next (lone (bg A fn aA ao ro tmps aG .run) U w):=
 step_lone_go (by rw[fS];simp[stepG.exec,bg])
def KF{k:Nat}:step C.P (lone (bg A fn aA ao ro tmps (.inBlock k::aG) .run) U w)= .next (lone (bg A fn aA ao ro tmps aG .run) U w):=
 step_lone_go (by rw[fS];simp[stepG.exec,bg])
def KH{b:Code}:step C.P (lone (bg A fn aA ao ro tmps (.inScope b::aG) .run) U w)= .next (lone (bg A fn aA ao ro tmps aG .run) U w):=
 step_lone_go (by rw[fS];simp[stepG.exec,bg])
def Kz{id:Nat}{b:Code}:step C.P (lone (bg A fn aA ao ro tmps (.code (.block id b)::aG) .run) U w)= .next (lone (bg A fn aA ao ro tmps (.code b:: .inBlock id::aG) .run) U w):=
 step_lone_go (by rw[fS];simp[stepG.exec,bg])
def KJ{b:Code}:step C.P (lone (bg A fn aA ao ro tmps (.code (.loop b)::aG) .run) U w)= .next (lone (bg A fn aA ao ro tmps (.code b:: .inLoop b::aG) .run) U w):=
 step_lone_go (by rw[fS];simp[stepG.exec,bg])
def KG{b:Code}:step C.P (lone (bg A fn aA ao ro tmps (.inLoop b::aG) .run) U w)= .next (lone (bg A fn aA ao ro tmps (.code b:: .inLoop b::aG) .run) U w):=
 step_lone_go (by rw[fS];simp[stepG.exec,bg])
def KR{b:Code}:step C.P (lone (bg A fn aA ao ro tmps (.code (.scope b)::aG) .run) U w)= .next (lone (bg A fn aA ao ro tmps (.code b:: .inScope b::aG) .run) U w):=
 step_lone_go (by rw[fS];simp[stepG.exec,bg])
def KA{c:Operand}{a b:Code}{t:Bool}(e:e9 tmps c= .bool t):step C.P (lone (bg A fn aA ao ro tmps (.code (.cond c a b)::aG) .run) U w)= .next (lone (bg A fn aA ao ro tmps (.code (if t then a else b)::aG) .run) U w):=
 step_lone_go (by
  have d:(bg A fn aA ao ro tmps (.code (.cond c a b)::aG) .run).eval c= .bool t:=by rw[pC];exact e
  rw[fS]
  simp only[bg]at d
  simp[stepG.exec,bg,d])
def KE{id:Nat}{c3:List Item}(e:Go.exitTo id aG=some c3):step C.P (lone (bg A fn aA ao ro tmps (.code (.exit id)::aG) .run) U w)= .next (lone (bg A fn aA ao ro tmps c3 .run) U w):=
 step_lone_go (by rw[fS];simp[stepG.exec,bg,e])
def KO:step C.P (lone (bg A fn aA ao none tmps (.code .ret::aG) .run) U w)= .next (lone (bg A fn aA ao none tmps (.code .ret::aG) .returning) U w):=
 step_lone_go (by rw[fS];simp[stepG.exec,bg])
def KC:step C.P (lone (bg A fn aA ao none tmps [] .run) U w)= .next (lone (bg A fn aA ao none tmps [] .returning) U w):=
 step_lone_go (by rw[fS];simp[stepG.exec,bg])
def KM{id:Nat}:step C.P (lone (bg A fn aA ao ro tmps (.code (.region id ad false)::aG) .run) U w)= .next (lone (bg A fn aA ao ro tmps (.inRegion ad (List.range ad.size)::aG) .run) U w):=
 step_lone_go (by rw[fS];simp[stepG.exec,bg])
def KN{id:Nat}:step C.P (lone (bg A fn aA ao ro tmps (.code (.region id ad true)::aG) .run) U w)=
 .next (lone (bg A fn aA ao ro tmps (.inRegion ad (Region.schedule (C.P.follows .mixedOrders) ad (w.tape w.drawn (.order fn id)))::aG) .run) U w.drew):=
 step_lone_go (by rw[fS];simp[stepG.exec,bg,Question.forced,Question.cut])
def AP:step C.P (lone (bg A fn aA ao ro tmps (.inRegion ad []::aG) .run) U w)= .next (lone (bg A fn aA ao ro tmps aG .run) U w):=
 step_lone_go (by rw[fS];simp[stepG.exec,bg])
def u9{i:Nat}{k:List Nat}{D:Oper}(a:ad[i]? =some D)(b:Region.wanted D (yielded ad tmps)=false):
 step C.P (lone (bg A fn aA ao ro tmps (.inRegion ad (i::k)::aG) .run) U w)= .next (lone ((bg A fn aA ao ro tmps (.inRegion ad (i::k)::aG) .run).finish Go.undef) U w):=
 step_lone_go (by rw[fS];simp[stepG.exec,bg,a,b])
def uC{af:Operand->Value}{D:Oper}{gv:Next}(M:(execOp af D).run C.P w= .ok gv aM)(e:∀d,gv≠ .defer d):∀c,D.op≠ .defer c:=by
 intro c b
 have f:execOp af D=(do pure (.defer (<-resolve af c D.type))):=by unfold execOp;rw[b]
 rw[f]at M
 simp only[Sem.run_bind]at M
 cases a:(resolve af c D.type).run C.P w with
 |ok d g=>
  rw[a]at M
  simp only[Result.andThen_ok,Sem.run_pure,Result.ok.injEq]at M
  exact e d M.1.symm
 |halt l g=>
  rw[a]at M
  simp at M
def o7{i:Nat}{k:List Nat}{D:Oper}(a:ad[i]? =some D)(b:Region.wanted D (yielded ad tmps)=true)(e2:ro=none\/∀c,D.op≠ .defer c):
 stepG C.P true {frame:=bg A fn aA ao ro tmps (.inRegion ad (i::k)::aG) .run,callers:=U,status:= .running,dying:=none} w=
  stepG.apply C.P true (bg A fn aA ao ro tmps (.inRegion ad (i::k)::aG) .run) U none (execOp (e9 tmps) D) w:=by
 rw[fS]
 rcases e2 with rfl|e2
 ·simp[stepG.exec,stepG.oper,bg,Frame.oper?,a,b,pC]
 ·cases ro with
  |none=>simp[stepG.exec,stepG.oper,bg,Frame.oper?,a,b,pC]
  |some r=>
   have:∀(c:Call),D.op≠ .defer c:=e2
   simp[stepG.exec,stepG.oper,bg,Frame.oper?,a,b,pC]
   split
   ·rename_i d;exact absurd d (this _)
   ·rfl
def n0{i:Nat}{k:List Nat}{D:Oper}{N:Value}{gv:Next}(b:ad[i]? =some D)(c:Region.wanted D (yielded ad tmps)=true)
 (M:(execOp (e9 tmps) D).run C.P w= .ok gv aM)(a:gv= .value N\/(gv= .skip/\N=Go.undef)):
 step C.P (lone (bg A fn aA ao ro tmps (.inRegion ad (i::k)::aG) .run) U w)= .next (lone ((bg A fn aA ao ro tmps (.inRegion ad (i::k)::aG) .run).finish N) U aM):=
 step_lone_go (by
  rw[o7 b c (.inr (uC M (by rcases a with rfl|⟨rfl,rfl⟩<;>simp)))]
  rcases a with rfl|⟨rfl,rfl⟩
  ·simp[stepG.apply,M]
  ·simp[stepG.apply,M])
def AN{i:Nat}{k:List Nat}{D:Oper}{f:Nat}{args:Array Value}(a:ad[i]? =some D)(b:Region.wanted D (yielded ad tmps)=true)
 (M:(execOp (e9 tmps) D).run C.P w= .ok (.enter f args) aM):
 step C.P (lone (bg A fn aA ao ro tmps (.inRegion ad (i::k)::aG) .run) U w)= .next (lone (Frame.enter C.P f args .normal) (bg A fn aA ao ro tmps (.inRegion ad (i::k)::aG) .run::U) aM):=
 step_lone_go (by rw[o7 a b (.inr (uC M Zs))];simp[stepG.apply,M,bg])
def KP{i:Nat}{k:List Nat}{D:Oper}{b f:Nat}{a:Array Value}{assign body:Code}(c:ad[i]? =some D)(d:Region.wanted D (yielded ad tmps)=true)
 (M:(execOp (e9 tmps) D).run C.P w= .ok (.round b f a assign body) aM):
 step C.P (lone (bg A fn aA ao ro tmps (.inRegion ad (i::k)::aG) .run) U w)= .next (lone (Frame.round b f a assign body .normal) (bg A fn aA ao ro tmps (.inRegion ad (i::k)::aG) .run::U) aM):=
 step_lone_go (by rw[o7 c d (.inr (uC M Zs))];simp[stepG.apply,M,bg])
def KB{i:Nat}{k:List Nat}{D:Oper}{d:dM}(a:ad[i]? =some D)(b:Region.wanted D (yielded ad tmps)=true)
 (M:(execOp (e9 tmps) D).run C.P w= .ok (.defer (fz A d)) aM):
 step C.P (lone (bg A fn aA ao none tmps (.inRegion ad (i::k)::aG) .run) U w)= .next (lone ((bg A fn (d::aA) ao none tmps (.inRegion ad (i::k)::aG) .run).finish Go.undef) U aM):=
 step_lone_go (by rw[o7 a b (.inl rfl)];simp[stepG.apply,M,bg])
def KK{i:Nat}{k:List Nat}{D:Oper}{N:y}(a:ad[i]? =some D)(b:Region.wanted D (yielded ad tmps)=true)
 (M:(execOp (e9 tmps) D).run C.P w= .halt (.panic (ai A N)) aM):
 step C.P (lone (bg A fn aA ao none tmps (.inRegion ad (i::k)::aG) .run) U w)= .next (lone (bg A fn aA ao none tmps (.inRegion ad (i::k)::aG) (dh A (.panicking [⟨N,false⟩]))) U aM):=
 step_lone_go (by rw[o7 a b (.inl rfl)];simp[stepG.apply,M,bg,Frame.raise,dh,iQ])
def KL{i:Nat}{k:List Nat}{D:Oper}{N:Value}{b:List Frame}(c:ad[i]? =some D)(d:Region.wanted D (yielded ad tmps)=true)
 (M:(execOp (e9 tmps) D).run C.P w= .ok .recover aM)
 (a:Go.tryRecover (bg A fn aA ao none tmps (.inRegion ad (i::k)::aG) .run) U=some (N,b)\/(Go.tryRecover (bg A fn aA ao none tmps (.inRegion ad (i::k)::aG) .run) U=none/\N= .nilIface/\b=U)):
 step C.P (lone (bg A fn aA ao none tmps (.inRegion ad (i::k)::aG) .run) U w)= .next (lone ((bg A fn aA ao none tmps (.inRegion ad (i::k)::aG) .run).finish N) b aM):=
 step_lone_go (by
  rw[o7 c d (.inl rfl)]
  have l:(bg A fn aA ao none tmps (.inRegion ad (i::k)::aG) .run).roundOf=none:=rfl
  rcases a with a|⟨a,rfl,rfl⟩
  ·simp[stepG.apply,M,l,a]
  ·simp[stepG.apply,M,l,a])
def Ky{b:Nat}(M:(Instr.beginRound (A b).bc).run C.P w= .ok () aM):
 step C.P (lone (bg A fn aA ao (some b) tmps (.beginRound::aG) .run) U w)= .next (lone (bg A fn aA ao (some b) tmps aG .run) U aM):=
 step_lone_go (by rw[fS];simp[stepG.exec,stepG.apply,bg,M,Frame.finish])
def KD{b:Nat}{a:Option Code}(M:(Instr.endLoop b).run C.P w= .ok a aM):
 step C.P (lone (bg A fn aA ao ro tmps (.endRangeFunc b::aG) .run) U w)= .next (lone (bg A fn aA ao ro tmps ((a.map Item.code).toList++aG) .run) U aM):=
 step_lone_go (by rw[fS];simp[stepG.exec,bg,M])
def AO{f:Operand}{params:Array Tmp}{assign body:Code}{b:Nat}{mark:List Deferred}{g:Nat}{args:Array Value}{a:World}{d:Deferred}
 (i:(Instr.enterLoop fn tmps params assign body (ro.map λk=>(A k).bc)).run C.P w= .ok (b,mark) a)
 (n:(resolve (e9 tmps) {callee:= .value f,args:= #[.const (.func (.yield b) #[] #[])],argTypes:= #[]} 0).run C.P a= .ok d a)(m:(invoke d.target d.args).run C.P a= .ok (.enter g args) aM):
 step C.P (lone (bg A fn aA ao ro tmps (.code (.rangeFunc f params assign body)::aG) .run) U w)=
  .next (lone (Frame.enter C.P g args .normal) ({bg A fn aA ao ro tmps (.inRangeFunc b::aG) .run with defers:=mark++aA.map (fz A)}::U) aM):=
 step_lone_go (by
  rw[fS]
  have c:({bg A fn aA ao ro tmps (.inRangeFunc b::aG) .run with defers:=mark++aA.map (fz A)}:Frame).eval=e9 tmps:=by rw[pC];rfl
  simp only[bg]at c
  simp[stepG.exec,bg,Sem.runT_eq,i,GStep.bare_after,stepG.apply,c,Sem.run_bind,n,m,Result.andThen])
def KQ{a:Option Code}{b:Nat}{N:Value}{g:Frame}(d:(a=none/\aG=[])\/(a=some .ret/\∃o,aG= .code .ret::o)\/(∃id o,a=some (.exit id)/\aG= .code (.exit id)::o/\Go.exitTo id o=none))
 (c:(Instr.endRound (A b).bc a).run C.P w= .ok N aM):
 step C.P (lone (bg A fn aA false (some b) tmps aG .run) (g::U) w)= .next (lone (g.finish N) U aM):=
 step_lone_go (by
  rw[fS]
  rcases d with ⟨rfl,rfl⟩|⟨rfl,o,rfl⟩|⟨id,o,rfl,rfl,f⟩
  ·simp[stepG.exec,bg,Sem.runT_eq,c,GStep.bare_after,doReturn]
  ·simp[stepG.exec,bg,Sem.runT_eq,c,GStep.bare_after,doReturn]
  ·simp[stepG.exec,bg,Sem.runT_eq,c,GStep.bare_after,doReturn,f])
def KU{r:Nat}{d:List y}{ds:List dM}{a:List Deferred}{mode:FrameMode}{bu:List dM}(f:mode≠ .run)(c:(Instr.takeDeferred (A r).bc).run C.P w= .ok a aM)(b:a++ds.map (fz A)=bu.map (fz A)):
 step C.P (lone (bg A fn (⟨.collected r,d⟩::ds) ao ro tmps aG mode) U w)= .next (lone (bg A fn bu ao ro tmps aG mode) U aM):=
 step_lone_go (by
  cases mode with
  |run=>exact absurd rfl f
  |returning=>simp[stepG,unwind,bg,fz,nd,Sem.runT_eq,c,GStep.bare_after,b]
  |panicking g=>simp[stepG,unwind,bg,fz,nd,Sem.runT_eq,c,GStep.bare_after,b])
end
end Go.S

