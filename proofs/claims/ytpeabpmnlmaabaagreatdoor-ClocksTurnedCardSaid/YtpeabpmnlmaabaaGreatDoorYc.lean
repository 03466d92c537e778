/- Part of the proof of the last text; no conditions -/
import Derived.Test.YtpeabpmnlmaabaaGreatDoorYb
import Derived.Defers
import Derived.RangeFuncRecord
import Derived.Orders
set_option maxHeartbeats 8000000
set_option linter.all false
namespace Go.bg
noncomputable section
abbrev ee:=Option E
structure iV where
 fn:Nat
 n:Nat
 aq:Nat
 bj:List h8
 aD:Bool
 ro:Option Nat
 cs:List g6
abbrev hX:=lJ->List d0->iV->S E->S ag->Nat->ee
def py(g:Option (Nat×Bool))(au:List (Nat×E)):Option Bool:=
 match g with
 |none=>some true
 |some (V,mg)=>(match ev au V with
  |some v=>(match v with| .bool b=>some (b==mg)|_=>some false)
  |none=>none)
def oI(f:E->E->Bool):List E->List E->Bool
 |[],[]=>true
 |F::k,b::m=>f F b&&oI f k m
 |_,_=>false
def E.same:Nat->E->E->Bool
 |0,_,_=>false
 |d+1,x,e=>match x,e with
  | .bool F, .bool b=>F==b
  | .int u F, .int fh b=>decide (u=fh)&&decide (F=b)
  | .str F, .str b=>m4 F b
  | .ptr F b, .ptr fB dD=>Nat.beq F fB&&Nat.beq b dD
  | .cN, .cN=>true
  | .slice F b c D, .slice fB dD fX g9=>Nat.beq F fB&&Nat.beq b dD&&Nat.beq c fX&&Nat.beq D g9
  | .fl F b c D, .fl fB dD fX g9=>Nat.beq F fB&&Nat.beq b dD&&Nat.beq c fX&&Nat.beq D g9
  | .aY, .aY=>true
  | .map F, .map b=>Nat.beq F b
  | .mL, .mL=>true
  | .func f F b, .func adJ fB dD=>decide (f=adJ)&&oI (E.same d) F fB&&oI (E.same d) b dD
  | .nilFunc, .nilFunc=>true
  | .iface t v, .iface eB f9=>Nat.beq t eB&&E.same d v f9
  | .nilIface, .nilIface=>true
  | .agg F, .agg b=>oI (E.same d) F b
  | .tuple F, .tuple b=>oI (E.same d) F b
  |_,_=>false
def xu(C:aN)(base:Nat)(I:S E):List fI->List (Nat×E)->S ag->Option (List (Nat×E)×S ag)
 |[],au,h=>some (au,h)
 |x::k,au,h=>(match py x.g au with
  |none=>none
  |some false=>xu C base I k ((x.i,undef)::au) h
  |some true=>(match nx x.op with
   | .make=>(match o7 x.op C (base+x.i) au I with
     |some (v,cT)=>j6 (bm C h (base+x.i) (some cT)) λh=>xu C base I k ((x.i,v)::au) h
     |none=>none)
   |_=>(match hd x.op C h au I with
    |some v=>xu C base I k ((x.i,v)::au) h
    |none=>none)))
def Eg(C:aN)(I:S E)(au:List (Nat×E))(h:S ag):List fI->Bool
 |[]=>true
 |x::k=>(match py x.g au with
  |none=>false
  |some false=>Eg C I au h k
  |some true=>(match hd x.op C h au I,ev au x.i with
   |some v,some ac=>E.same 30 v ac&&Eg C I au h k
   |_,_=>false))
def Ah(au:List (Nat×E)):List (Nat×Nat)->S E->Option (S E)
 |[],I=>some I
 |(i,d)::k,I=>(match ev au i with|some v=>j6 (I.set d (some v)) λI=>Ah au k I|none=>none)
def exitTo(id:Nat):List d0->Option (List d0)
 |[]=>none
 | .inBlock ve::u=>b0 (Nat.beq ve id) (some u)<|exitTo id u
 |_::u=>exitTo id u
def jU{α:Type}(T:Option α)(u:α->ee):ee:=Option.rec (motive:=λ_=>ee) none (λF=>u F) T
def J7(k:List (Nat×E)):Nat->(E->ee)->ee:=
 List.rec (motive:=λ_=>Nat->(E->ee)->ee) (λ_ _=>none)
  (λp _ ah V u=>Prod.rec (motive:=λ_=>ee) (λF b=>Bool.rec (motive:=λ_=>ee) (ah V u) (u b) (Nat.beq F V)) p) k
def On(t:S E):Nat->(E->ee)->ee:=
 S.rec (motive:=λ_=>Nat->(E->ee)->ee) (λ_ _=>none)
  (λv _ _ jj rv i u=>Nat.rec (motive:=λ_=>ee) (Option.rec (motive:=λ_=>ee) none (λF=>u F) v)
   (λV _=>Bool.rec (motive:=λ_=>ee) (rv (Nat.div V 2) u) (jj (Nat.div V 2) u) (Nat.beq (Nat.mod V 2) 0)) i) t
def Ae(x:k4):List (Nat×E)->S E->(E->ee)->ee:=
 k4.rec (motive:=λ_=>List (Nat×E)->S E->(E->ee)->ee) (λV au _ u=>J7 au V u) (λn _ I u=>On I n u) (λF _ _ u=>u F) x
def akg(g:Option (Nat×Bool)):List (Nat×E)->ee->ee->ee:=
 Option.rec (motive:=λ_=>List (Nat×E)->ee->ee->ee) (λ_ F _=>F)
  (λp au F b=>jU (py (some p) au) λw=>Bool.rec (motive:=λ_=>ee) b F w) g
def KE(k:List (Nat×Nat)):List (Nat×E)->S E->(S E->ee)->ee:=
 List.rec (motive:=λ_=>List (Nat×E)->S E->(S E->ee)->ee) (λ_ I u=>u I)
  (λp _ ah au I u=>Prod.rec (motive:=λ_=>ee) (λi d=>J7 au i λv=>j6 (S.set I d (some v)) λI=>ah au I u) p) k
def Ge(eN:d0)(u:List d0)(cd:iV)(I:S E):List g6:=
 iV.rec (motive:=λ_=>List g6) (λfn n aq bj aD ro cs=>⟨fn,n,aq,I,eN::u,bj, .run,aD,ro⟩::cs) cd
def o5(ah:hX)(C:aN)(f:Nat)(args:List E)(deferred:Bool)(cs:List g6)(h:S ag)(j:Nat):ee:=
 match C.P.funcs[f]? with
 |some fn=>(match fn.body with
  |some c=>rr (Nat.lor (kY c) (oL fn.results.toList)) λaq=>b0 (Nat.ble args.length fn.ntmps&&mr C aq c&&Bj aq fn.results.toList) (ah .run [.code c] ⟨f,fn.ntmps,aq,[],deferred,none,cs⟩ (S.ofList args 0 .nil) h j)<|none
  |none=>none)
 |none=>none
def ys(n:Nat):List Nat->List E->S E->Option (S E)
 |[],[],I=>some I
 |p::dm,F::cB,I=>b0 (Nat.blt p n) (ys n dm cB (I.set p (some F)))<|none
 |_,_,_=>none
def pR(eN:d0)(v:E):Option d0:=match eN with
 | .uB av au a rest fin=>some (.Jp av ((a,v)::au) rest fin)
 | .Bv av base au a l0 fin=>some (.drawn av base ((a,v)::au) l0 fin)
 | .inRangeFunc k=>some (.endRangeFunc k)
 |_=>none
def W2(ah:hX)(todo:List d0)(cd:iV)(v:E)(I:S E)(h:S ag)(j:Nat):ee:=
 match todo with
 |[]=>none
 |eN::u=>(match pR eN v with|some h4=>ah .run (h4::u) cd I h j|none=>none)
def xw:List Nat->S E->S E
 |[],I=>I
 |d::k,I=>xw k (I.set d none)
def vV(todo:List d0)(I:S E):S E:=match todo with
 | .uB av _ _ _ _::_=>xw (dstsOf av.toList) I
 | .Bv av _ _ _ _ _::_=>xw (dstsOf av.toList) I
 |_=>I
def FZ(chain:List s9)(bW:lJ):lJ:=match bW with
 | .panicking q1=> .panicking (chain++q1)
 |_=> .panicking chain
def ai3(ah:hX)(c:g6)(cs:List g6)(chain:List s9)(h:S ag)(j:Nat):ee:=
 match c with
 |⟨fn,n,aq,I,todo,bj,bW,aD,ro⟩=>ah (FZ chain bW) todo ⟨fn,n,aq,bj,aD,ro,cs⟩ (vV todo I) h j
def Dy(aD:Bool)(cs:List g6):Option (E×List g6):=
 b0 (aD) ((match cs with
  |c::rest=>(match c with
   |⟨fn,n,aq,I,todo,bj,bW,j4,ro⟩=>(match bW with
    | .panicking (⟨v,false⟩::Di)=>some (v,⟨fn,n,aq,I,todo,bj, .panicking (⟨v,true⟩::Di),j4,ro⟩::rest)
    |_=>some (.nilIface,cs)))
  |[]=>none))<|some (.nilIface,cs)
def Ak(ah:hX)(eN:d0)(u:List d0)(cd:iV)(I:S E)(j:Nat):List (E×S ag)->ee
 |[]=>none
 |[(v,h)]=>(match pR eN v with|some h4=>ah .run (h4::u) cd I h j|none=>none)
 |(v,h)::k=>(match pR eN v with
  |some h4=>(match ah .run (h4::u) cd I h j,Ak ah eN u cd I j k with
   |some F,some b=>b0 (E.same 30 F b) (some F) none
   |_,_=>none)
  |none=>none)
def o1(r:ed)(ah:hX)(C:aN)(eN:d0)(u:List d0)(cd:iV)(I:S E)(h:S ag)(j:Nat):ee:=
 match r with
 | .val v=>(match pR eN v with|some h4=>ah .run (h4::u) cd I h j|none=>none)
 | .fH v h j=>(match pR eN v with|some h4=>ah .run (h4::u) cd I h j|none=>none)
 | .enter f args=>o5 ah C f args false (Ge eN u cd I) h j
 | .known _ _ v=>(match pR eN v with|some h4=>ah .run (h4::u) cd I h j|none=>none)
 | .round k args=>(match W C h k with
   |some (.loop _ _ fn n aq da params assign body _)=>(match ys n params args da with
    |some da=>ah .run [.code assign, .beginRound, .code body] ⟨fn,n,aq,[],false,some k,Ge eN u cd I⟩ da h j
    |none=>none)
   |_=>none)
 | .defer d=>(match cd with
   |⟨fn,n,aq,bj,aD,ro,cs⟩=>(match ro with
    |none=>(match pR eN undef with|some h4=>ah .run (h4::u) ⟨fn,n,aq,d::bj,aD,none,cs⟩ I h j|none=>none)
    |some _=>none))
 | .recover=>(match cd with
   |⟨fn,n,aq,bj,aD,ro,cs⟩=>(match ro with
    |none=>(match Dy aD cs with
     |some (v,dg)=>(match pR eN v with|some h4=>ah .run (h4::u) ⟨fn,n,aq,bj,aD,none,dg⟩ I h j|none=>none)
     |none=>none)
    |some _=>none))
 | .panic v=>(match cd with
   |⟨fn,n,aq,bj,aD,ro,cs⟩=>(match ro with
    |none=>ah (.panicking [⟨v,false⟩]) (eN::u) ⟨fn,n,aq,bj,aD,none,cs⟩ (vV (eN::u) I) h j
    |some _=>none))
 | .fork k=>Ak ah eN u cd I j k
def WI(op:ku):aN->S ag->Nat->List (Nat×E)->S E->(E->S ag->Nat->ee)->(ed->ee)->ee:=
 match op with
 | .FH x=>λ_ h j au I ai _=>Ae x au I λv=>ai v h j
 | .pick c F b=>λ_ h j au I ai _=>jU (hd (.pick c F b) ⟨default, .nil,0,λ_ _=>none,0⟩ h au I) λv=>ai v h j
 | .e6 F=>λC h j au I ai _=>Ae F au I λF=>jU (aU C h F) λv=>ai v h j
 | .CZ n F=>λC h j au I ai _=>Ae F au I λF=>jU (dE C h n F) λv=>ai v h j
 | .off d x=>λ_ h j au I ai _=>Ae x au I λF=>jU (hW d F) λv=>ai v h j
 | .CQ n bd x i=>λC h j au I ai _=>jU (hd (.CQ n bd x i) C h au I) λv=>ai v h j
 | .CR bd x i=>λC h j au I ai _=>jU (hd (.CR bd x i) C h au I) λv=>ai v h j
 | .FL x=>λ_ h j au I ai _=>Ae x au I λF=>jU (rf F) λv=>ai v h j
 | .LY op x e=>λ_ h j au I ai _=>Ae x au I λF=>Ae e au I λb=>jU (bv op F b) λv=>ai v h j
 | .ext i x=>λ_ h j au I ai _=>Ae x au I λF=>jU (oh i F) λv=>ai v h j
 | .iD b9 T=>λC h j au I ai _=>jU (hd (.iD b9 T) C h au I) λv=>ai v h j
 | .make b9 T=>λC h j au I _ rq=>jU (Qa (.make b9 T) C h j au I) rq
 | .st n F v=>λC h j au I _ rq=>jU (io (.st n F v) C h j au I) rq
 | .call f args=>λC h j au I _ rq=>jU (io (.call f args) C h j au I) rq
 | .fC b9 T=>λC h j au I _ rq=>jU (io (.fC b9 T) C h j au I) rq
structure gV where
 ah:hX
 av:Array Oper
 fin:List (Nat×Nat)
 u:List d0
 cd:iV
def ar1(X:gV)(C:aN)(I:S E)(au:List (Nat×E))(i:Nat)(rest:List fI)(r:ed)(h:S ag)(j:Nat):ee:=
 match X with|⟨ah,av,fin,u,cd⟩=>o1 r ah C (.uB av au i rest fin) u cd I h j
abbrev ST:=gV->aN->S E->List (Nat×E)->S ag->Nat->ee
def aBN(m2:ST)(X:gV)(C:aN)(I:S E)(au:List (Nat×E))(i:Nat)(v:E)(h:S ag)(j:Nat):ee:=m2 X C I ((i,v)::au) h j
def au4(m2:ST)(X:gV)(C:aN)(I:S E)(au:List (Nat×E))(i:Nat)(rest:List fI)(h:S ag)(j:Nat)(r:ed):ee:=
 match r with
 | .val v=>m2 X C I ((i,v)::au) h j
 | .fH v h j=>m2 X C I ((i,v)::au) h j
 |r=>ar1 X C I au i rest r h j
def Ky(X:gV)(_:aN)(I:S E)(au:List (Nat×E))(h:S ag)(j:Nat):ee:=
 gV.rec (motive:=λ_=>ee) (λah _ fin u cd=>KE fin au I λI=>ah .run u cd I h j) X
def FT(i:Nat)(g:Option (Nat×Bool))(op:ku)(rest:List fI)(m2:ST)(X:gV)(C:aN)(I:S E)(au:List (Nat×E))(h:S ag)(j:Nat):ee:=
 akg g au (WI op C h j au I (aBN m2 X C I au i) (au4 m2 X C I au i rest h j)) (m2 X C I ((i,undef)::au) h j)
def Bn(rest:List fI):ST:=
 List.rec (motive:=λ_=>ST) Ky (λx rest m2=>fI.rec (motive:=λ_=>ST) (λi g op=>FT i g op rest m2) x) rest
def Ad(ah:hX)(C:aN)(av:Array Oper)(base:Nat)(au:List (Nat×E))(l0:List xk)(fin:List (Nat×Nat))(u:List d0)(cd:iV)(I:S E)(h:S ag)(j:Nat):ee:=
 match l0 with
 |[]=>none
 |s::rest=>(match xu C base I s.vj au h with
  |none=>none
  |some (au,h)=>b0 (Eg C I au h s.WV) ((match s.fC with
    |none=>KE fin au I λI=>ah .run u cd I h j
    |some a=>(match py a.g au with
     |none=>none
     |some w=>b0 (w) ((match io a.op C h j au I with
       |some r=>o1 r ah C (.Bv av base au a.i rest fin) u cd I h j
       |none=>none))<|ah .run (.drawn av base ((a.i,undef)::au) rest fin::u) cd I h j)))<|none)
def yB(fK:List s9):lJ:=match fK with|⟨_,true⟩::_=> .returning|_=> .panicking fK
def uI(ah:hX)(aD:Bool)(cs:List g6)(v:E)(h:S ag)(j:Nat):ee:=
 match cs with
 |c::rest=>(match c with
  |⟨fn,n,aq,I,todo,bj,bW,j4,ro⟩=>(match bW with
   | .run=>b0 aD none (W2 ah todo ⟨fn,n,aq,bj,j4,ro,rest⟩ v I h j)
   | .returning=>b0 aD (ah .returning todo ⟨fn,n,aq,bj,j4,ro,rest⟩ I h j) none
   | .panicking fK=>b0 aD (ah (yB fK) todo ⟨fn,n,aq,bj,j4,ro,rest⟩ I h j) none))
 |[]=>b0 aD none (some v)
def VS(jo:Option Code):Bool:=match jo with|none=>true|some .ret=>true|_=>false
def aiF(jo:Option Code):Bool:=match jo with|none=>true|some .ret=>true|some (.exit _)=>true|_=>false
def pk(jo:Option Code)(ah:hX)(C:aN)(todo:List d0)(cd:iV)(I:S E)(h:S ag)(j:Nat):ee:=
 match cd with
 |⟨fn,n,aq,bj,aD,ro,cs⟩=>(match ro with
  |none=>b0 (VS jo) (ah .returning todo ⟨fn,n,aq,bj,aD,none,cs⟩ I h j)<|none
  |some k=>(match W C h k with
   |some (.loop _ _ fn n aq I params assign body defers)=>
    b0 ((jv C k&&aiF jo)&& !aD) (j6 (bm C h k (some (.loop (b0 jo.isNone .ready .done) jo fn n aq I params assign body defers))) λh=>uI ah aD cs (.bool jo.isNone) h j)<|none
   |_=>none))
def yp(C:aN)(h:S ag)(I:S E):List ResultVar->Option (List E)
 |[]=>some []
 | .tmp t::k=>(match I.get t,yp C h I k with|some v,some r=>some (v::r)|_,_=>none)
 | .cell F t::k=>(match I.get F with
   |some p=>(match mm C h t p,yp C h I k with|some v,some r=>some (v::r)|_,_=>none)
   |none=>none)
def xA(I:S E)(T:Operand):Option E:=match T with
 | .tmp t=>I.get t
 | .const v=>FQ v
 | .global g=>some (.ptr g 0)
 | .func f=>some (.func (.func f) [] [])
def MG(f:Operand)(params:Array Nat)(assign body:Code)(ah:hX)(C:aN)(u:List d0)(cd:iV)(I:S E)(h:S ag)(j:Nat):ee:=
 match xA I f,cd with
 |some (.func (.func g) first f1),⟨fn,n,aq,bj,aD,ro,cs⟩=>
  (
   match ro with
   |none=>rr j λj=>
    o5 ah C g (first++[.func (.yield (j+1)) [] []]++f1) false (⟨fn,n,aq,I, .inRangeFunc (j+1)::u,⟨.collected j,[]⟩::bj, .run,aD,none⟩::cs)
     (bm C (bm C h j (some (.deferred (some [])))) (j+1) (some (.loop .ready none fn n aq I params.toList assign body j))) (j+2)
   |some k=>(match W C h k with
    |some (.loop _ _ _ _ _ _ _ _ _ defers)=>rr j λj=>
     o5 ah C g (first++[.func (.yield j) [] []]++f1) false (⟨fn,n,aq,I, .inRangeFunc j::u,bj, .run,aD,some k⟩::cs)
      (bm C h j (some (.loop .ready none fn n aq I params.toList assign body defers))) (j+1)
    |_=>none))
 |_,_=>none
def Cb(id:Nat)(ah:hX)(C:aN)(u:List d0)(cd:iV)(I:S E)(h:S ag)(j:Nat):ee:=
 match exitTo id u with
 |some fh=>ah .run fh cd I h j
 |none=>pk (some (.exit id)) ah C (.code (.exit id)::u) cd I h j
def Kj(c:Operand)(I:S E)(F b:ee):ee:=jU (xA I c) λv=>match v with
 | .bool t=>Bool.rec (motive:=λ_=>ee) b F t
 |_=>none
def WY(n aq:Nat)(av:Array Oper)(ah:hX)(C:aN)(u:List d0)(cd:iV)(I:S E)(h:S ag)(j:Nat):ee:=
 jU (Mr C n av aq) λr=>RB.rec (motive:=λ_=>ee) (λrest fin=>Bn rest ⟨ah,av,fin,u,cd⟩ C I [] h j) r
def WX(n aq:Nat)(av:Array Oper)(ah:hX)(C:aN)(u:List d0)(cd:iV)(I:S E)(h:S ag)(j:Nat):ee:=
 jU (Mq C n av aq) λr=>RA.rec (motive:=λ_=>ee) (λl0 fin=>rr j λj=>Ad ah C av j [] l0 fin u cd I h (j+av.size)) r
def ai6(av:Array Oper)(B8:Bool)(ah:hX)(C:aN)(u:List d0)(cd:iV)(I:S E)(h:S ag)(j:Nat):ee:=
 iV.rec (motive:=λ_=>ee) (λfn n aq bj aD ro cs=>Bool.rec (motive:=λ_=>ee)
  (WY n aq av ah C u ⟨fn,n,aq,bj,aD,ro,cs⟩ I h j) (WX n aq av ah C u ⟨fn,n,aq,bj,aD,ro,cs⟩ I h j) B8) cd
abbrev BD:=hX->aN->List d0->iV->S E->S ag->Nat->ee
def Oq:BD:=λah _ u cd I h j=>ah .run u cd I h j
def FM:BD:=λ_ _ _ _ _ _ _=>none
def vT(c:Code):BD:=
 Code.rec (motive:=λ_=>BD) Oq
  (λ_ av d=>ai6 av d)
  (λ_ b mF _ ah C u=>mF ah C (.code b::u))
  (λc _ _ mF h3 ah C u cd I h j=>Kj c I (mF ah C u cd I h j) (h3 ah C u cd I h j))
  (λid _ h3 ah C u=>h3 ah C (.inBlock id::u))
  (λb h3 ah C u=>h3 ah C (.inLoop b::u))
  (λf params assign body _ _=>MG f params assign body)
  (λid=>Cb id)
  (λb h3 ah C u=>h3 ah C (.inScope b::u))
  (λ_=>Oq)
  (λ_=>FM)
  (λah C u=>pk (some .ret) ah C (.code .ret::u))
  (λ_=>FM) c
def Hv(k:Nat):BD:=λah C u cd I h j=>match W C h k with
 |some (.loop state pending he aS lz da params assign body defers)=>
  (
   match state with
   | .busy=>none
   |_=>b0 (jv C k) (j6 (bm C h k (some (.loop .exhausted pending he aS lz da params assign body defers))) λh=>ah .run ((pending.map d0.code).toList++u) cd I h j)<|none)
 |_=>none
def J9:BD:=λah C u cd I h j=>match cd with
 |⟨fn,n,aq,bj,aD,ro,cs⟩=>match ro with
  |some k=>(match W C h k with
   |some (.loop .ready pending he aS lz da params assign body defers)=>
    b0 (jv C k) (j6 (bm C h k (some (.loop .busy pending he aS lz da params assign body defers))) λh=>ah .run u ⟨fn,n,aq,bj,aD,some k,cs⟩ I h j)<|none
   |_=>none)
  |none=>none
def ag8(eN:d0):BD:=
 d0.rec (motive:=λ_=>BD) (λc=>vT c) (λ_=>Oq) (λb ah C u=>vT b ah C (.inLoop b::u)) (λ_=>Oq)
  (λav au rest fin ah C u cd I h j=>Bn rest ⟨ah,av,fin,u,cd⟩ C I au h j)
  (λav base au l0 fin ah C u cd I h j=>Ad ah C av base au l0 fin u cd I h j)
  (λ_ _ _ _ _=>FM) (λ_ _ _ _ _ _=>FM) (λ_=>FM) (λk=>Hv k) J9 eN
def ajy(todo:List d0)(ah:hX)(C:aN)(cd:iV)(I:S E)(h:S ag)(j:Nat):ee:=
 List.rec (motive:=λ_=>ee) (pk none ah C [] cd I h j) (λeN u _=>ag8 eN ah C u cd I h j) todo
def yv(d:h8)(ds:List h8)(bW:lJ)(todo:List d0)(ah:hX)(C:aN)(cd:iV)(I:S E)(h:S ag)(j:Nat):ee:=
 match cd with
 |⟨fn,n,aq,_,aD,ro,cs⟩=>(match d with
  |⟨.collected r,_⟩=>(match W C h r with
   |some (.deferred (some qE))=>b0 (jv C r) (j6 (bm C h r (some (.deferred none))) λh=>ah bW todo ⟨fn,n,aq,qE++ds,aD,ro,cs⟩ I h j)<|none
   |_=>none)
  |⟨.fn f f1,args⟩=>(match BS C f f1 args with
   |some (.enter f cB)=>o5 ah C f cB true (⟨fn,n,aq,I,todo,ds,bW,aD,ro⟩::cs) h j
   |_=>none))
def one(bk:List E):E:=match bk with|[v]=>v|bk=> .tuple bk
def MS(todo:List d0)(ah:hX)(C:aN)(cd:iV)(I:S E)(h:S ag)(j:Nat):ee:=
 match cd with
 |⟨fn,n,aq,bj,aD,ro,cs⟩=>match bj with
  |d::ds=>yv d ds .returning todo ah C ⟨fn,n,aq,[],aD,ro,cs⟩ I h j
  |[]=>(match C.P.funcs[fn]? with
   |some f=>(match yp C h I f.results.toList with
    |some bk=>uI ah aD cs (one bk) h j
    |none=>none)
   |none=>none)
def MR(chain:List s9)(todo:List d0)(ah:hX)(C:aN)(cd:iV)(I:S E)(h:S ag)(j:Nat):ee:=
 match cd with
 |⟨fn,n,aq,bj,aD,ro,cs⟩=>match bj with
  |d::ds=>yv d ds (.panicking chain) todo ah C ⟨fn,n,aq,[],aD,ro,cs⟩ I h j
  |[]=>(match cs with
   |c::rest=>ai3 ah c rest chain h j
   |[]=>none)
def Xq(ah:hX)(C:aN)(bW:lJ)(todo:List d0)(cd:iV)(I:S E)(h:S ag)(j:Nat):ee:=
 lJ.rec (motive:=λ_=>ee) (ajy todo ah C cd I h j) (MS todo ah C cd I h j) (λfK=>MR fK todo ah C cd I h j) bW
def run(C:aN)(n:Nat):hX:=
 Nat.rec (motive:=λ_=>hX) (λ_ _ _ _ _ _=>none) (λ_ ah bW todo cd I h j=>Xq ah C bW todo cd I h j) n
def Bl(C:aN)(n:Nat)(f:Nat)(args:List E):ee:=o5 (run C n) C f args false [] .nil C.a8
end
open Go.RowKit (Below)
section
variable{C:aN}{U dh:dd}{ae dJ:Nat->Prop}{h R:S ag}{j an bx:Nat}{w b5:World}
def afi(Y:dq C U ae h j bx w)(ez:bx<=w.heap.size)(k0:yS C.P){oper:Oper}{ax:Operand->Value}{wr:List (Nat×Nat)}{au:List (Nat×E)}{I:S E}{c:ku}{res:ed}
 (cK:jY U ae ax (jM wr au I) oper.op.operands.toList)(aA:mq C wr oper.op=some c)(a:io c C h j au I=some res):jc C U ae h j bx w (execOp ax oper) res:=by
 have rest:∀T,oper.op=T->c= .fC wr T->jc C U ae h j bx w (execOp ax oper) res:=by
  intro T bi EF
  subst EF;subst bi
  exact ao9 Y ez k0 cK a
 have Bb:∀T,c= .iD wr T->jc C U ae h j bx w (execOp ax oper) res:=by intro T D;subst D;simp[io]at a
 have aih:∀T,c= .make wr T->jc C U ae h j bx w (execOp ax oper) res:=by intro T D;subst D;simp[io]at a
 obtain⟨dst,op,type,pos,after,guard⟩:=oper
 cases op<;>simp only[mq]at aA<;>simp only[Op.operands]at cK
 case store t F x=>
  split at aA
  ·rename_i fB jt s aE af aC
   simp at aA;subst aA
   simp only[io,ov aE,ov af]at a
   split at a
   ·rename_i ac bc
    split at a
    ·rename_i v bD
     obtain⟨bC,bP⟩:=cK F Zs ac bc
     obtain⟨cu,b2⟩:=cK x Zs v bD
     obtain⟨R,rfl,aJ⟩:=aDQ Y aC bP b2 a
     simp only[execOp,bC,cu]
     exact aJ _ (λb5 sO=>by simp[sO])
    ·simp at a
   ·simp at a
  ·simp at aA
 case call tu=>
  obtain⟨callee,args,df⟩:=tu
  cases callee with
  |builtin b=>
   cases b<;>simp[mq]at aA<;>first
    |exact rest _ rfl aA.symm
    |exact Bb _ aA.symm
  |value f=>
   cases f with
   |func g=>
    simp only at aA
    split at aA
    ·rename_i cB has
     simp at aA;subst aA
     simp only[io]at a
     split at a
     ·rename_i bk Fc
      simp only[Call.operands]at cK
      obtain⟨en,cZ⟩:=ar5 au I has Fc
      have axD:jY U ae ax (jM wr au I) args.toList:=cK.mono (by simp;intro x af;exact .inr af)
      obtain⟨es,fk⟩:=ahW axD en cZ
      obtain⟨eO,_⟩:=cK (.func g) Zs (.func (.func g) [] []) rfl
      refine(Sv (U:=U) (h:=h) (j:=j) (bx:=bx) (w:=w) k0 fk a).congr ?_
      have D:args.map ax=(b3 U bk).toArray:=by apply Y2;simp[es]
      simp[execOp,resolve,eO,aT,nS,b3,Deferred.ofValue,invoke,D]
     ·simp at a
    ·simp at aA
   |tmp t=>simp at aA;exact rest _ rfl aA.symm
   |const v=>simp at aA;exact rest _ rfl aA.symm
   |global g=>simp at aA;exact rest _ rfl aA.symm
  |invoke r m=>simp[mq]at aA;exact rest _ rfl aA.symm
 case convert s d x=>
  rw[fw]at aA
  split at aA
  ·simp at aA;exact rest _ rfl aA.symm
  ·simp at aA;exact Bb _ aA.symm
 case makeMap t r=>cases r<;>simp[mq]at aA<;>first|exact rest _ rfl aA.symm|exact aih _ aA.symm
 case binOp op t x e JE=>
  rw[fw]at aA
  split at aA
  ·split at aA
   ·simp at aA;subst aA;simp[io]at a
   ·simp at aA
  ·simp at aA;exact Bb _ aA.symm
 case fieldAddr s x f=>
  split at aA
  ·rw[qi]at aA
   split at aA
   ·split at aA
    ·simp only[Ho,Zf]at aA
     obtain⟨_,rfl⟩:=aA
     simp[io]at a
    ·simp at aA
   ·simp at aA
  ·simp at aA
 case indexAddr t x i=>
  split at aA
  ·split at aA
   ·simp at aA;subst aA;simp[io]at a
   ·simp at aA
  ·split at aA
   ·simp at aA;subst aA;simp[io]at a
   ·simp at aA
  ·simp at aA
 all_goals first
  |(simp at aA;first|exact rest _ rfl aA.symm|exact Bb _ aA.symm|exact aih _ aA.symm)
  |(split at aA<;>first
    |(simp at aA;subst aA;simp[io]at a;done)
    |(simp at aA;done))
def Qb{oper:Oper}{wr:List (Nat×Nat)}{c:ku}(aA:mq C wr oper.op=some c){b:Nat}{au:List (Nat×E)}{I:S E}{r:E×ag}(a:o7 c C b au I=some r):ri oper.op C (jM wr au I) b=some r:=by
 have rest:∀T,oper.op=T->c= .make wr T->ri oper.op C (jM wr au I) b=some r:=by
  intro T bi EF
  subst EF;subst bi
  exact a
 have Bb:∀T,c= .iD wr T->ri oper.op C (jM wr au I) b=some r:=by intro T D;subst D;simp[o7]at a
 have Dc:∀T,c= .fC wr T->ri oper.op C (jM wr au I) b=some r:=by intro T D;subst D;simp[o7]at a
 obtain⟨dst,op,type,pos,after,guard⟩:=oper
 cases op<;>simp only[mq]at aA
 case call tu=>
  obtain⟨callee,args,df⟩:=tu
  cases callee with
  |builtin b=>cases b<;>simp[mq]at aA<;>first|exact Dc _ aA.symm|exact Bb _ aA.symm
  |value f=>
   cases f with
   |func g=>
    simp[mq]at aA
    split at aA
    ·simp at aA;subst aA;simp[o7]at a
    ·simp at aA
   |tmp t=>simp[mq]at aA;exact Dc _ aA.symm
   |const v=>simp[mq]at aA;exact Dc _ aA.symm
   |global g=>simp[mq]at aA;exact Dc _ aA.symm
  |invoke r m=>simp[mq]at aA;exact Dc _ aA.symm
 case convert s d x=>
  rw[fw]at aA
  split at aA
  ·simp at aA;exact Dc _ aA.symm
  ·simp at aA;exact Bb _ aA.symm
 case makeMap t r=>cases r<;>simp[mq]at aA<;>first|exact rest _ rfl aA.symm|exact Dc _ aA.symm
 case binOp op t x e JE=>
  rw[fw]at aA
  split at aA
  ·split at aA
   ·simp at aA;subst aA;simp[o7]at a
   ·simp at aA
  ·simp at aA;exact Bb _ aA.symm
 case fieldAddr s x f=>
  split at aA
  ·rw[qi]at aA
   split at aA
   ·split at aA
    ·simp only[Ho,Zf]at aA
     obtain⟨_,rfl⟩:=aA
     simp[o7]at a
    ·simp at aA
   ·simp at aA
  ·simp at aA
 case indexAddr t x i=>
  split at aA
  ·split at aA
   ·simp at aA;subst aA;simp[o7]at a
   ·simp at aA
  ·split at aA
   ·simp at aA;subst aA;simp[o7]at a
   ·simp at aA
  ·simp at aA
 all_goals first
  |(simp at aA;first|exact rest _ rfl aA.symm|exact Bb _ aA.symm|exact Dc _ aA.symm)
  |(split at aA<;>first
    |(simp at aA;subst aA;simp[o7]at a;done)
    |(simp at aA;done))
def pp{α:Type}(T:Option α)(u:α->ee):jU T u=match T with|some F=>u F|none=>none:=by cases T<;>rfl
def acr(k:List (Nat×E))(V:Nat)(u:E->ee):J7 k V u=jU (ev k V) u:=by
 induction k with
 |nil=>rfl
 |cons p k ah=>
  obtain⟨F,b⟩:=p
  show(Bool.rec (motive:=λ_=>ee) (J7 k V u) (u b) (Nat.beq F V))=jU (b0 (Nat.beq F V) (some b) (ev k V)) u
  rw[ah]
  cases Nat.beq F V<;>rfl
def atg(t:S E):∀(i:Nat) (u:E->ee),On t i u=jU (t.get i) u:=by
 induction t with
 |nil=>intro i u;rfl
 |node v k r m2 IE=>
  intro i u
  cases i with
  |zero=>cases v<;>rfl
  |succ V=>
   show(Bool.rec (motive:=λ_=>ee) (On r (Nat.div V 2) u) (On k (Nat.div V 2) u) (Nat.beq (Nat.mod V 2) 0))=jU (b0 (Nat.beq (Nat.mod V 2) 0) (k.get (Nat.div V 2)) (r.get (Nat.div V 2))) u
   rw[m2,IE]
   cases Nat.beq (Nat.mod V 2) 0<;>rfl
def ar2(x:k4)(au:List (Nat×E))(I:S E)(u:E->ee):Ae x au I u=jU (lP x au I) u:=by
 cases x with
 |v V=>exact acr au V u
 |t n=>exact atg I n u
 |c F=>rfl
def Oe:∀(k:List (Nat×Nat)) (au:List (Nat×E)) (I:S E) (u:S E->ee),KE k au I u=jU (Ah au k I) u:=by
 intro k
 induction k with
 |nil=>intro au I u;rfl
 |cons p k ah=>
  intro au I u
  obtain⟨i,d⟩:=p
  show J7 au i (λv=>j6 (S.set I d (some v)) λI=>KE k au I u)=_
  rw[acr]
  simp only[Ah]
  cases ev au i with
  |none=>rfl
  |some v=>simp only[hf];exact ah _ _ _
def Rb(g:Option (Nat×Bool))(au:List (Nat×E))(F b:ee):akg g au F b=jU (py g au) λw=>if w=true then F else b:=by
 cases g with
 |none=>simp[pp,py];rfl
 |some p=>
  show jU (py (some p) au) (λw=>Bool.rec (motive:=λ_=>ee) b F w)=_
  congr 1
  funext w
  cases w<;>rfl
def Qw(op:ku)(h:S ag)(j:Nat)(au:List (Nat×E))(I:S E)(ai:E->S ag->Nat->ee)(rq:ed->ee):
 WI op C h j au I ai rq=match nx op with
  | .iD=>jU (hd op C h au I) λv=>ai v h j
  | .make=>jU (Qa op C h j au I) rq
  | .fC=>jU (io op C h j au I) rq:=by
 cases op<;>simp only[WI,nx,ar2,hd,pp]<;>(try rfl)
 all_goals(split<;>first|rfl|(split<;>simp_all))
end
def w5:List Oper->Nat->List (Nat×Nat)->List (Nat×Nat)
 |[],_,wr=>wr
 |T::k,i,wr=>w5 k (i+1) (yX T i wr)
def iS(av:Array Oper)(i:Nat):List (Nat×Nat):=w5 (av.toList.take i) 0 []
def aE7(F:List Oper):∀(b:List Oper) (i:Nat) (wr:List (Nat×Nat)),w5 (F++b) i wr=w5 b (i+F.length) (w5 F i wr):=by
 induction F with
 |nil=>intro b i wr;rfl
 |cons T F ah=>
  intro b i wr
  simp only[YO,w5,ah,ZF]
  congr 1;omega
def M7{av:Array Oper}{i:Nat}{T:Oper}(a:av[i]? =some T):iS av (i+1)=yX T i (iS av i):=by
 have az:av.toList[i]? =some T:=by rw[ZQ];exact a
 have c3:i<av.toList.length:=(Zb.1 az).1
 unfold iS
 rw[ZY,az,aE7]
 have:(av.toList.take i).length=i:=by simp at c3 ⊢;omega
 rw[this]
 simp[w5]
def M8(av:Array Oper):iS av 0=[]:=rfl
def tz(av:Array Oper)(V:Nat):Option Nat:=(av[V]?).bind (·.dst)
def Kr{av:Array Oper}{i:Nat}{T:Oper}(a:av[i]? =some T):tz av i=T.dst:=by simp[tz,a]
def apo{T:Oper}{i V:Nat}{wr:List (Nat×Nat)}:xx V (yX T i wr)=if i=V/\T.dst.isSome then T.dst else xx V wr:=by
 unfold yX
 split
 ·rename_i d aJ
  simp only[xx,ia,aJ]
  by_cases D:i=V<;>simp[D]
 ·rename_i aJ
  simp[aJ]
def Hb{T:Oper}{i t:Nat}{wr:List (Nat×Nat)}:ev (yX T i wr) t=if T.dst=some t then some i else ev wr t:=by
 unfold yX
 split
 ·rename_i d aJ
  rw[sq,aJ]
  by_cases D:d=t<;>simp[D]
 ·rename_i aJ
  simp[aJ]
def M9(av:Array Oper):∀i,i<=av.size->(∀V t,xx V (iS av i)=some t->tz av V=some t)/\
 (∀t V,ev (iS av i) t=some V->V<i/\tz av V=some t/\∀u,V<u->u<i->tz av u≠some t)/\(∀t,ev (iS av i) t=none->∀u,u<i->tz av u≠some t):=by
 intro i
 induction i with
 |zero=>intro _;rw[M8];exact⟨λV t a=>by simp[xx]at a,λt V a=>by simp at a,λt _ u aH=>Zo⟩
 |succ i ah=>
  intro aG
  obtain⟨H,M,al⟩:=ah Zo
  have bi:av[i]? =some av[i]:=Array.getElem?_eq_getElem Zo
  rw[M7 bi]
  have aJ:=Kr bi
  refine⟨λV t a=> ?_,λt V a=> ?_,λt a u aH=> ?_⟩
  ·rw[apo]at a
   split at a
   ·rename_i D;rw[<-D.1,aJ];exact a
   ·exact H V t a
  ·rw[Hb]at a
   split at a
   ·rename_i D
    cases a
    exact⟨Zo,by rw[aJ];exact D,λu jx hD=>Zo⟩
   ·rename_i D
    obtain⟨bR,cm,cX⟩:=M t V a
    refine⟨Zo,cm,λu jx hD=> ?_⟩
    by_cases ak:u=i
    ·subst ak;rw[aJ];exact D
    ·exact cX u jx Zo
  ·rw[Hb]at a
   split at a
   ·cases a
   ·rename_i D
    by_cases ak:u=i
    ·subst ak;rw[aJ];exact D
    ·exact al t a u Zo
section
variable{C:aN}{U dh:dd}{ae dJ:Nat->Prop}{h R:S ag}{j an bx:Nat}{w b5:World}
def lG(tmps:Array Value):Operand->Value
 | .tmp t=>tmps.getD t Go.undef
 | .const v=>v
 | .global g=> .pointer (some ⟨g,0,none⟩)
 | .func f=> .func (.func f) #[] #[]
def KA(fr:Frame):fr.eval=lG fr.tmps:=by funext x;cases x<;>rfl
def pI(U:dd)(ae:Nat->Prop)(aq:Nat)(X:Nat->Prop)(wr:List (Nat×Nat))(au:List (Nat×E))(I:S E)(tmps:Array Value):Prop:=
 ∀t v,X t->(match ev wr t with|some V=>ev au V=some v|none=>fR aq t=true/\I.get t=some v)->tmps[t]? =some (aT U v)/\co ae v
def ti(C:aN)(U:dd)(ae:Nat->Prop):Prop:=∀g,g<C.qh->ae g/\(U g).cO=g/\(U g).ek=0
def aAL{aq:Nat}{wr:List (Nat×Nat)}:∀{k:List Operand},FS C aq wr k=true->∀x∈k,Be C aq wr x=true:=by
 intro k
 induction k with
 |nil=>intro _ x a;simp at a
 |cons F k ah=>
  intro a x af
  simp only[FS,Zq]at a
  rcases Zu.1 af with rfl|af
  ·exact a.1
  ·exact ah a.2 x af
def adC{aq:Nat}{X:Nat->Prop}{wr:List (Nat×Nat)}{au:List (Nat×E)}{I:S E}{tmps:Array Value}(bD:pI U ae aq X wr au I tmps){k:List Operand}(bZ:∀t,Operand.tmp t∈k->X t)(bi:FS C aq wr k=true)
 (dZ:ti C U ae):jY U ae (lG tmps) (jM wr au I) k:=by
 intro x af v a
 have f6:=aAL bi x af
 cases x with
 |tmp t=>
  have:=bD t v (bZ t af) (by
   simp only[jM]at a
   simp only[Be]at f6
   split at a
   ·rename_i V bF;rw[bF];exact a
   ·rename_i bF;rw[bF]at f6 ⊢;exact⟨f6,a⟩)
  exact⟨by simp[lG,this.1],this.2⟩
 |const c=>exact Qp a
 |global g=>
  simp[jM]at a;subst a
  simp only[Be]at f6
  obtain⟨bP,b2,cI⟩:=dZ g (l6 f6)
  exact⟨by simp[lG,aT,b2,cI],bP⟩
 |func f=>
  simp[jM]at a;subst a
  exact⟨by simp[lG,aT,nS,b3],trivial,trivial,trivial⟩
end
def BW(m i:Nat):fR m i=m.testBit i:=by
 unfold fR
 rw[Nat.testBit_eq_decide_div_mod_eq,Z9,Zh]
 exact⟨Zn,λa=>by rw[show Nat.mod (Nat.div m (Nat.pow 2 i)) 2=1 from a];rfl⟩
def NI(i:Nat):fR 0 i=false:=by rw[BW];simp
def Hh(F b i:Nat):fR (Nat.lor F b) i=(fR F i||fR b i):=by
 rw[BW,BW,BW];exact Nat.testBit_or F b i
def NH(t i:Nat):fR (Nat.pow 2 t) i=decide (t=i):=by
 rw[BW];exact Nat.testBit_two_pow
def ap1(F b i:Nat):fR (Nat.land F b) i=(fR F i&&fR b i):=by
 rw[BW,BW,BW];exact Nat.testBit_and F b i
def aAX{T:Operand}{m t:Nat}:fR (I9 T m) t=true↔T= .tmp t\/fR m t=true:=by
 cases T with
 |tmp ac=>
  show fR (Nat.lor m (Nat.pow 2 ac)) t=true↔_
  rw[Hh,NH]
  simp[or_comm]
 |_=>simp[I9]
def aAZ{t:Nat}:∀{k:List Operand},fR (Ja k) t=true↔Operand.tmp t∈k:=by
 intro k
 induction k with
 |nil=>simp[Ja,NI]
 |cons F k ah=>
  show fR (I9 F (Ja k)) t=true↔_
  rw[aAX,ah]
  simp[eq_comm]
def ark{T:Oper}{t:Nat}:fR (Kq T) t=true↔T.dst=some t:=by
 unfold Kq
 cases T.dst with
 |none=>simp[NI]
 |some d=>
  show fR (Nat.pow 2 d) t=true↔_
  rw[NH]
  simp
structure Np(C:aN)(n aq:Nat)(av:Array Oper)(x:fI)(T:Oper):Prop where
 oper:av[x.i]? =some T
 g:Ke (iS av x.i) T.guard=some x.g
 op:mq C (iS av x.i) T.op=some x.op
 dst:∀d,T.dst=some d->d<n
 reads:FS C aq (iS av x.i) T.op.operands.toList=true
def Ss{C:aN}{n aq i:Nat}{T:Oper}{k:List Oper}{wr:List (Nat×Nat)}{cs:List fI}(a:tt C n aq (T::k) i wr=some cs):
 ∃g op r,Ke wr T.guard=some g/\mq C wr T.op=some op/\N2 n T=true/\FS C aq wr T.op.operands.toList=true/\tt C n aq k (i+1) (yX T i wr)=some r/\cs=⟨i,g,op⟩::r:=by
 simp only[tt,mW]at a
 split at a
 ·rename_i g op bV EX
  simp only[fb,Zq]at a
  obtain⟨⟨H,M⟩,a⟩:=a
  split at a
  ·rename_i r Y
   simp at a
   exact⟨g,op,r,bV,EX,H,M,Y,a.symm⟩
  ·simp at a
 ·simp at a
def adk{n:Nat}{T:Oper}(a:N2 n T=true):∀d,T.dst=some d->d<n:=by
 intro d aJ
 unfold N2 at a
 rw[aJ]at a
 exact l6 a
def SW{av:Array Oper}{i:Nat}{T:Oper}{k:List Oper}(a:av.toList.drop i=T::k):av[i]? =some T/\av.toList.drop (i+1)=k/\i<av.size:=by
 have H:(av.toList.drop i)[0]? =some T:=by rw[a];rfl
 rw[Yi,ZQ]at H
 refine⟨by simpa using H, ?_, ?_⟩
 ·have:(av.toList.drop i).drop 1=k:=by rw[a];rfl
  rw[zq]at this
  exact this
 ·exact(ZO.1 (by simpa using H)).1
def aqj{C:aN}{n aq:Nat}{av:Array Oper}:∀(k:List Oper) (i:Nat) (cs:List fI),av.toList.drop i=k->tt C n aq k i (iS av i)=some cs->
 cs.length=k.length/\∀V x,cs[V]? =some x->x.i=i+V/\∃T,Np C n aq av x T:=by
 intro k
 induction k with
 |nil=>intro i cs _ a;simp[tt]at a;subst a;simp
 |cons T k ah=>
  intro i cs aJ a
  obtain⟨g,op,r,H,M,al,aB,bw,rfl⟩:=Ss a
  obtain⟨c2,cM,e2⟩:=SW aJ
  rw[<-M7 c2]at bw
  obtain⟨bR,cm⟩:=ah (i+1) r cM bw
  refine⟨by simp[bR],λV x af=> ?_⟩
  cases V with
  |zero=>simp at af;subst af;exact⟨rfl,T,c2,H,M,adk al,aB⟩
  |succ V=>
   simp at af
   obtain⟨D,bA⟩:=cm V x af
   exact⟨Zo,bA⟩
def art{i1:List (Nat×Nat)}:∀(k:List Edge) (F:Nat),fR (k.foldr (Ei i1) 0) F=true->∃D∈k,Region.binds .any D=true/\(F=D.on\/∃gg,ev i1 D.on=some gg/\fR gg F=true):=by
 intro k
 induction k with
 |nil=>intro F a;simp[NI]at a
 |cons D k ah=>
  intro F a
  simp only[List.foldr_cons]at a
  have q1:fR (k.foldr (Ei i1) 0) F=true->∃g9∈D::k,Region.binds .any g9=true/\(F=g9.on\/∃gg,ev i1 g9.on=some gg/\fR gg F=true):=λa=>by
   obtain⟨g9,H,M⟩:=ah F a
   exact⟨g9,Zt _ H,M⟩
  unfold Ei at a
  rw[fw]at a
  split at a
  ·exact q1 a
  ·rw[fw]at a
   split at a
   ·rename_i aj
    split at a
    ·rename_i u aH
     rw[Hh,Hh,NH]at a
     simp only[Y5,Zh]at a
     rcases a with (a|a)|a
     ·exact q1 a
     ·exact⟨D,Zv ..,aj, .inr ⟨u,aH,a⟩⟩
     ·exact⟨D,Zv ..,aj, .inl a.symm⟩
    ·exact q1 a
   ·exact q1 a
structure GZ(av:Array Oper)(p:gC)(T:Oper):Prop where
 oper:av[p.i]? =some T
 r:p.r=Nat.lor (Ja T.op.operands.toList) (Oz (iS av p.i) T.guard)
 w:p.w=Kq T
def ah0{av:Array Oper}:∀(k:List Oper) (i:Nat) (i1:List (Nat×Nat)),av.toList.drop i=k->(∀V m,ev i1 V=some m->V<i)->
 (Da k i (iS av i) i1).length=k.length/\(∀V p,(Da k i (iS av i) i1)[V]? =some p->p.i=i+V/\∃T,GZ av p T)/\
 ∀(a7:Nat->Nat->Prop),(∀V m,ev i1 V=some m->a7 V m)->(∀V T m,av[V]? =some T->i<=V->(∀F,fR m F=true->∃D∈T.after.toList,Region.binds .any D=true/\(F=D.on\/∃gg,a7 D.on gg/\fR gg F=true))->a7 V m)->
  ∀p∈Da k i (iS av i) i1,a7 p.i p.m:=by
 intro k
 induction k with
 |nil=>intro i i1 _ _;simp[Da]
 |cons T k ah=>
  intro i i1 aJ sK
  obtain⟨c2,cM,e2⟩:=SW aJ
  simp only[Da,mW]
  rw[<-M7 c2]
  have av3:∀V m,ev ((i,T.after.toList.foldr (Ei i1) 0)::i1) V=some m->V<i+1:=by
   intro V m a
   rw[sq]at a
   split at a
   ·omega
   ·have:=sK V m a;omega
  obtain⟨bR,cm,cX⟩:=ah (i+1) ((i,T.after.toList.foldr (Ei i1) 0)::i1) cM av3
  refine⟨by simp only[ZF,bR],λV p ay=> ?_,λa7 eP qV p ay=> ?_⟩
  ·cases V with
   |zero=>simp only[Z5,Zf]at ay;subst ay;exact⟨rfl,T,c2,rfl,rfl⟩
   |succ V=>
    simp only[ZV]at ay
    obtain⟨D,bA⟩:=cm V p ay
    exact⟨Zo,bA⟩
  ·have aG:a7 i (T.after.toList.foldr (Ei i1) 0):=by
    refine qV i T _ c2 (Zj _) λF aE=> ?_
    obtain⟨D,H,M,al⟩:=art _ F aE
    refine⟨D,H,M,al.imp id ?_⟩
    rintro⟨gg,aB,bw⟩
    exact⟨gg,eP _ _ aB,bw⟩
   rcases Zu.1 ay with rfl|ay
   ·exact aG
   ·refine cX a7 (λV m a=> ?_) (λV T m H M al=>qV V T m H Zo al) p ay
    rw[sq]at a
    split at a
    ·rename_i D;subst D;cases a;exact aG
    ·exact eP V m a
def aAM{F:gC}:∀{k:List gC},Qu F k=true->∀b∈k,Qs F b=true:=by
 intro k
 induction k with
 |nil=>intro _ b a;simp at a
 |cons c k ah=>
  intro a b aj
  simp only[Qu,Zq]at a
  rcases Zu.1 aj with rfl|aj
  ·exact a.1
  ·exact ah a.2 b aj
def aAJ:∀{k:List gC},MA k=true->∀(V i:Nat) F b,V<i->k[V]? =some F->k[i]? =some b->Qs F b=true:=by
 intro k
 induction k with
 |nil=>intro _ V i F b _ a;simp at a
 |cons c k ah=>
  intro a V i F b afH aE aj
  simp only[MA,Zq]at a
  obtain⟨i,rfl⟩:∃u,i=u+1:=⟨i-1,Zo⟩
  simp at aj
  cases V with
  |zero=>simp at aE;subst aE;exact aAM a.1 b (Zl aj)
  |succ V=>simp at aE;exact ah a.2 V i F b Zo aE aj
def aAF:∀{k:List Oper}{i:Nat},FR k i=true->∀V T,k[V]? =some T->∀D∈T.after.toList,Region.binds .any D=true->D.on<i+V:=by
 intro k
 induction k with
 |nil=>intro i _ V T a;simp at a
 |cons F k ah=>
  intro i a V T bi D bA aj
  simp only[FR,Zq]at a
  cases V with
  |zero=>
   simp at bi;subst bi
   have:=Ym.1 a.1 D bA
   simp only[aj,Yw,Bool.false_or]at this
   have:=l6 this
   omega
  |succ V=>
   simp at bi
   have:=ah a.2 V T bi D bA aj
   omega
def au3:∀{k:List gC},Li k=true->∀(p:Nat) F b,k[p]? =some F->k[p+1]? =some b->fR b.m F.i=true:=by
 intro k
 induction k with
 |nil=>intro _ p F b a;simp at a
 |cons c k ah=>
  intro a p F b aE aj
  simp only[Li,Zq]at a
  cases p with
  |zero=>
   simp at aE aj;subst aE
   cases k with
   |nil=>simp at aj
   |cons d k=>simp at aj;subst aj;exact a.1
  |succ p=>simp at aE aj;exact ah a.2 p F b aE (by simpa using aj)
def au2:∀(dm:List gC) (cs:List fI),H6 dm cs=(dm.zip cs).filter λx=>oE x.2.op:=by
 intro dm
 induction dm with
 |nil=>intro cs;rfl
 |cons p dm ah=>
  intro cs
  cases cs with
  |nil=>rfl
  |cons c cs=>
   simp only[H6,List.zip_cons_cons,List.filter_cons,fw,ah]
def azb(aC:List gC):∀(dm:List gC) (cs:List fI),IP aC dm cs=((dm.zip cs).filter λx=> !oE x.2.op).map λx=>⟨x.2,vU x.1.m aC,Cz x.1.i aC⟩:=by
 intro dm
 induction dm with
 |nil=>intro cs;rfl
 |cons p dm ah=>
  intro cs
  cases cs with
  |nil=>rfl
  |cons c cs=>
   simp only[IP,List.zip_cons_cons,List.filter_cons,fw,ah]
   cases oE c.op<;>simp
def Ol:∀k:List (gC×fI),rs k=k.map (·.1):=by
 intro k
 induction k with
 |nil=>rfl
 |cons F k ah=>simp[rs,ah]
def aqQ(m:Nat):∀(aC:List gC) (u:Nat),(∀p a,aC[p]? =some a->u<=p->fR m a.i=false)->vU m aC<=u:=by
 intro aC
 induction aC with
 |nil=>intro u _;simp[vU]
 |cons a aC ah=>
  intro u aH
  simp only[vU,fw]
  cases u with
  |zero=>
   have:=aH 0 a rfl (Zj _)
   rw[this]
   have:=ah 0 (λp cF ay _=>aH (p+1) cF (by simpa using ay) Zo)
   simpa using this
  |succ u=>
   have:=ah u (λp cF ay gl=>aH (p+1) cF (by simpa using ay) Zo)
   split<;>omega
def avs(i:Nat):∀(aC:List gC) (u:Nat),u<=aC.length->(∀p a,aC[p]? =some a->p<u->fR a.m i=false)->u<=Cz i aC:=by
 intro aC
 induction aC with
 |nil=>intro u aH _;simp at aH;omega
 |cons a aC ah=>
  intro u AJ aH
  cases u with
  |zero=>omega
  |succ u=>
   have aK:=aH 0 a rfl Zo
   simp only[Cz,aK,lo]
   have:=ah u (by simpa using AJ) (λp cF ay c3=>aH (p+1) cF (by simpa using ay) Zo)
   omega
def q4(tmps:Array Value)(dst:Option Nat)(v:Value):Array Value:=match dst with|some d=>tmps.setIfInBounds d v|none=>tmps
def QG(tmps:Array Value)(dst:Option Nat)(v:Value):(q4 tmps dst v).size=tmps.size:=by cases dst<;>simp[q4]
def aiV(tmps:Array Value)(dst:Option Nat)(v:Value)(t:Nat)(a:∀d,dst=some d->d<tmps.size):(q4 tmps dst v)[t]? =if dst=some t then some v else tmps[t]? :=by
 cases dst with
 |none=>simp[q4]
 |some d=>
  have:=a d rfl
  simp only[q4,Zf,Array.getElem?_setIfInBounds]
  by_cases D:d=t
  ·subst D;simp[this]
  ·simp[D]
def Sub(au hY:List (Nat×E)):Prop:=∀V ac,ev au V=some ac->ev hY V=some ac
def Sub.refl(au:List (Nat×E)):Sub au au:=λ_ _ a=>a
def Sub.trans{F b c:List (Nat×E)}(a:Sub F b)(u:Sub b c):Sub F c:=λV ac bF=>u V ac (a V ac bF)
def Sub.cons{au:List (Nat×E)}{i:Nat}{v:E}(a:ev au i=none):Sub au ((i,v)::au):=λV ac bF=>by
 rw[sq,Zg]
 ·exact bF
 ·intro D;subst D;rw[a]at bF;cases bF
def qA(C:aN)(h R:S ag):Prop:=∀x,W C h x=W C R x\/W C h x=none
inductive xj(av:Array Oper):(Nat->Prop)->List Nat->Prop
 |nil {dp}:(∀i,i<av.size->dp i)->xj av dp []
 |cons {dp i T k}:av[i]? =some T->¬dp i->(∀D∈T.after.toList,Region.binds .any D=true->dp D.on)->xj av (add dp i) k->xj av dp (i::k)
noncomputable def xv(C:aN)(n aq:Nat)(av:Array Oper):List fI:=(tt C n aq av.toList 0 []).getD []
noncomputable def pN(av:Array Oper):List gC:=Da av.toList 0 [] []
noncomputable def gX(C:aN)(n aq:Nat)(av:Array Oper):List (gC×fI):=H6 (pN av) (xv C n aq av)
noncomputable def mu(C:aN)(n aq:Nat)(av:Array Oper):List qB:=IP (rs (gX C n aq av)) (pN av) (xv C n aq av)
structure qy(C:aN)(n aq:Nat)(av:Array Oper):Prop where
 aqC:tt C n aq av.toList 0 []=some (xv C n aq av)
 aFF:FR av.toList 0=true
 aBe:MA (pN av)=true
 chain:Li (rs (gX C n aq av))=true
section
variable{C:aN}{n aq:Nat}{av:Array Oper}
def SS(a:qy C n aq av):(xv C n aq av).length=av.size/\∀V x,(xv C n aq av)[V]? =some x->x.i=V/\∃T,Np C n aq av x T:=by
 have aK:=a.aqC
 have:=aqj (av:=av) av.toList 0 _ Zs (by rw[M8];exact aK)
 exact⟨by simpa using this.1,λV x af=>by simpa using this.2 V x af⟩
def Kn(av:Array Oper):(pN av).length=av.size/\(∀V p,(pN av)[V]? =some p->p.i=V/\∃T,GZ av p T):=by
 have:=ah0 (av:=av) av.toList 0 [] Zs Zs
 rw[M8]at this
 exact⟨by unfold pN;simpa using this.1,λV p ay=>by simpa using this.2.1 V p ay⟩
noncomputable def sv(C:aN)(n aq:Nat)(av:Array Oper):List (gC×fI):=(pN av).zip (xv C n aq av)
def Ab(a:qy C n aq av)(i:Nat)(aG:i<av.size):∃p x T,(sv C n aq av)[i]? =some (p,x)/\(pN av)[i]? =some p/\p.i=i/\x.i=i/\Np C n aq av x T/\GZ av p T:=by
 obtain⟨bf,cf⟩:=SS a
 obtain⟨bQ,cl⟩:=Kn av
 have af:(xv C n aq av)[i]? =some ((xv C n aq av)[i]'Zo):=Ze _
 have ay:(pN av)[i]? =some ((pN av)[i]'Zo):=Ze _
 obtain⟨c5,T,dC⟩:=cf _ _ af
 obtain⟨c2,o',cM⟩:=cl _ _ ay
 have:o'=T:=by
  have bC:=dC.oper;have cu:=cM.oper
  rw[c5]at bC;rw[c2]at cu
  rw[bC]at cu;exact(Yf cu).symm
 subst this
 refine⟨_,_,o', ?_,ay,c2,c5,dC,cM⟩
 unfold sv
 rw[List.getElem?_zip_eq_some]
 exact⟨ay,af⟩
def Ac(a:qy C n aq av){e:gC×fI}(z:e∈sv C n aq av):∃T,e.1.i<av.size/\e.2.i=e.1.i/\(sv C n aq av)[e.1.i]? =some e/\(pN av)[e.1.i]? =some e.1/\Np C n aq av e.2 T/\GZ av e.1 T:=by
 obtain⟨V,bF⟩:=Z2.1 z
 have eM:(sv C n aq av).length=av.size:=by
  unfold sv
  rw[List.length_zip,(SS a).1,(Kn av).1,Nat.min_self]
 have c3:V<av.size:=zz (Zb.1 bF).1
 obtain⟨p,x,T,H,M,al,aB,bw,b1⟩:=Ab a V c3
 rw[bF]at H
 cases H
 refine⟨T,by simp only;omega,by simp only;omega, ?_, ?_,bw,b1⟩
 ·simp only[al];exact bF
 ·simp only[al];exact M
def NV:gX C n aq av=(sv C n aq av).filter λ(x:gC×fI)=>oE x.2.op:=au2 _ _
def NX:mu C n aq av=((sv C n aq av).filter λ(x:gC×fI)=> !oE x.2.op).map λ(x:gC×fI)=>⟨x.2,vU x.1.m (rs (gX C n aq av)),Cz x.1.i (rs (gX C n aq av))⟩:=azb _ _ _
def NZ{k:qB}(az:k∈mu C n aq av):∃p,(p,k.x)∈sv C n aq av/\oE k.x.op=false/\k.bO=vU p.m (rs (gX C n aq av))/\k.aG=Cz p.i (rs (gX C n aq av)):=by
 rw[NX]at az
 obtain⟨e,z,rfl⟩:=ZE.1 az
 obtain⟨H,M⟩:=YM.1 z
 exact⟨e.1,H,by simpa using M,rfl,rfl⟩
def NW{e:gC×fI}(z:e∈gX C n aq av):e∈sv C n aq av/\oE e.2.op=true:=by
 rw[NV]at z
 exact YM.1 z
def adh(a:qy C n aq av)(i:Nat)(aG:i<av.size):(∃k∈mu C n aq av,k.x.i=i)\/(∃(p:Nat) (e:gC×fI),(gX C n aq av)[p]? =some e/\e.1.i=i):=by
 obtain⟨p,x,T,H,M,al,aB,bw,b1⟩:=Ab a i aG
 have bn:=Zl H
 cases gL:oE x.op with
 |true=>
  refine .inr ?_
  have:(p,x)∈gX C n aq av:=by rw[NV];exact YM.2 ⟨bn,gL⟩
  obtain⟨ak,bM⟩:=Z2.1 this
  exact⟨ak,_,bM,al⟩
 |false=>
  refine .inl ⟨_,by rw[NX];exact ZE.2 ⟨(p,x),YM.2 ⟨bn,by simp[gL]⟩,rfl⟩,aB⟩
def adg(a:qy C n aq av):(sv C n aq av).Pairwise λF b=>F.1.i<b.1.i:=by
 rw[YR]
 intro i V aG bF EO
 have eM:(sv C n aq av).length=av.size:=by
  unfold sv
  rw[List.length_zip,(SS a).1,(Kn av).1,Nat.min_self]
 obtain⟨p,x,T,H,M,al,_⟩:=Ab a i Zo
 obtain⟨aHq,jt,o',uZ,HN,aFL,_⟩:=Ab a V Zo
 rw[Ze aG]at H
 rw[Ze bF]at uZ
 rw[Yf H,Yf uZ]
 simp only;omega
def adf(a:qy C n aq av){p ak:Nat}{e bE:gC×fI}(ay:(gX C n aq av)[p]? =some e)(bM:(gX C n aq av)[ak]? =some bE)(bA:e.1.i=bE.1.i):p=ak:=by
 have LB:(gX C n aq av).Pairwise λF b=>F.1.i<b.1.i:=by rw[NV];exact(adg a).filter _
 rw[YR]at LB
 obtain⟨H,M⟩:=Zb.1 ay
 obtain⟨al,aB⟩:=Zb.1 bM
 rcases YV p ak with c3|rfl|gv
 ·have:=LB p ak H al c3
  rw[M,aB]at this;omega
 ·rfl
 ·have:=LB ak p al H gv
  rw[M,aB]at this;omega
def SU(a:qy C n aq av):(mu C n aq av).Pairwise λF b=>F.x.i<b.x.i:=by
 rw[NX,List.pairwise_map]
 have H:((sv C n aq av).filter λ(x:gC×fI)=> !oE x.2.op).Pairwise λF b=>F.1.i<b.1.i:=(adg a).filter _
 refine H.imp_of_mem λ{F b} aE aj c3=> ?_
 obtain⟨_,_,bC,_⟩:=Ac a (YM.1 aE).1
 obtain⟨_,_,cu,_⟩:=Ac a (YM.1 aj).1
 show F.2.i<b.2.i
 rw[bC,cu];exact c3
def NY(a:qy C n aq av){k:qB}(az:k∈mu C n aq av):k.x.i<av.size:=by
 obtain⟨p,ay,_⟩:=NZ az
 obtain⟨_,H,M,_⟩:=Ac a ay
 simp only at H M;omega
def ara(a:qy C n aq av){e:gC×fI}(z:e∈gX C n aq av):e.1.i<av.size/\e.2.i=e.1.i:=by
 obtain⟨_,H,M,_⟩:=Ac a (NW z).1
 exact⟨H,M⟩
def DM(av:Array Oper)(dp:Nat->Prop):Prop:=∀i T,av[i]? =some T->dp i->∀D∈T.after.toList,Region.binds .any D=true->dp D.on
def Ko{dp:Nat->Prop}(bY:DM av dp){p:gC}(ay:p∈pN av){T:Oper}(bi:av[p.i]? =some T)
 (mB:∀D∈T.after.toList,Region.binds .any D=true->dp D.on):∀F,fR p.m F=true->dp F:=by
 have key:=(ah0 (av:=av) av.toList 0 [] Zs Zs).2.2 (λi m=>(∀T,av[i]? =some T->∀D∈T.after.toList,Region.binds .any D=true->dp D.on)->∀F,fR m F=true->dp F) Zs
  (λV T m bF _ bn mB F aE=>by
   obtain⟨D,H,M,al⟩:=bn F aE
   have bA:=mB T bF D H M
   rcases al with rfl|⟨gg,aB,bw⟩
   ·exact bA
   ·exact aB (λo' Ik g9 auX kh=>bY D.on o' Ik bA g9 auX kh) F bw)
 rw[M8]at key
 exact key p ay (λo' Ik=>by rw[bi]at Ik;cases Ik;exact mB)
end
structure Nk(C:aN)(ae:Nat->Prop)(h:S ag)(base:Nat)(au:List (Nat×E))(I:S E)(x:fI)(ac:E):Prop where
 key:ev au x.i=some ac
 ok:∃k5 b,Sub k5 au/\py x.g k5=some b/\(b=false->ac=undef)/\(b=true->(oE x.op=false)/\
  (nx x.op= .make->∃cT,o7 x.op C (base+x.i) k5 I=some (ac,cT)/\W C h (base+x.i)=some cT)/\
  (nx x.op= .iD->Ds x.op=false->∀lm,hd x.op C lm k5 I=some ac))
def JT(C:aN)(h:S ag)(au:List (Nat×E))(I:S E)(x:fI)(ac:E):Prop:=
 ∃k5 lm b,Sub k5 au/\qA C lm h/\py x.g k5=some b/\(b=true->nx x.op= .iD->hd x.op C lm k5 I=some ac)
def BE(U:dd)(ae:Nat->Prop)(aq:Nat)(av:Array Oper)(dp:Nat->Prop)(au:List (Nat×E))(I:S E)(tmps:Array Value):Prop:=
 ∀t v,((∃V,dp V/\tz av V=some t/\(∀qb,dp qb->tz av qb=some t->qb<=V)/\ev au V=some v)\/((∀V,dp V->tz av V≠some t)/\fR aq t=true/\I.get t=some v))->
  tmps[t]? =some (aT U v)/\co ae v
structure se(C:aN)(U:dd)(ae:Nat->Prop)(h:S ag)(base n aq:Nat)(av:Array Oper)(au:List (Nat×E))(u m:Nat)(I:S E)(tmps:Array Value)(dp:Nat->Prop):Prop where
 st:qy C n aq av
 size:tmps.size=n
 P3:u<=(gX C n aq av).length
 d5:C.a8<=base
 closed:DM av dp
 x8:∀i,dp i->i<av.size
 done:∀p a,(gX C n aq av)[p]? =some a->(dp a.1.i↔p<u)
 vj:∀k∈mu C n aq av,dp k.x.i->k.bO<m
 keys:∀i ac,ev au i=some ac->(∃k∈mu C n aq av,k.x.i=i/\k.bO<m)\/(∃p a,(gX C n aq av)[p]? =some a/\a.1.i=i/\p<u)
 wq:∀p a,(gX C n aq av)[p]? =some a->p<u->∃ac,ev au a.1.i=some ac
 ahead:∀k∈mu C n aq av,k.bO<m->∃ac,ev au k.x.i=some ac/\(¬dp k.x.i->Nk C ae h base au I k.x ac)
 Ef:BE U ae aq av dp au I tmps
 ids:∀i,i<av.size->ae (base+i)->dp i
 free:∀i,i<av.size->ev au i=none->W C h (base+i)=none
section
variable{C:aN}{U dh:dd}{ae dJ:Nat->Prop}{h R:S ag}{j an bx:Nat}{w b5:World}
def pI.ab{aq:Nat}{X:Nat->Prop}{wr:List (Nat×Nat)}{au:List (Nat×E)}{I:S E}{tmps:Array Value}(dS:∀b,ae b->dh b=U b)(fZ:∀b,ae b->dJ b)(a:pI U ae aq X wr au I tmps):pI dh dJ aq X wr au I tmps:=
 λt v af bD=>by
  obtain⟨H,M⟩:=a t v af bD
  exact⟨by rw[H,rm dS M],pT fZ v M⟩
def BE.ab{aq:Nat}{av:Array Oper}{dp:Nat->Prop}{au:List (Nat×E)}{I:S E}{tmps:Array Value}(dS:∀b,ae b->dh b=U b)(fZ:∀b,ae b->dJ b)(a:BE U ae aq av dp au I tmps):BE dh dJ aq av dp au I tmps:=
 λt v bD=>by
  obtain⟨H,M⟩:=a t v bD
  exact⟨by rw[H,rm dS M],pT fZ v M⟩
def ti.ab(dS:∀b,ae b->dh b=U b)(fZ:∀b,ae b->dJ b)(a:ti C U ae):ti C dh dJ:=λg bV=>by
 obtain⟨H,M,al⟩:=a g bV
 exact⟨fZ g H,by rw[dS g H];exact M,by rw[dS g H];exact al⟩
def se.ab{dj base n aq u m:Nat}{av:Array Oper}{au:List (Nat×E)}{I:S E}{tmps:Array Value}{dp:Nat->Prop}(af:jb C dj U ae h bx w dh dJ R b5)(az:base+av.size<=dj)
 (a:se C U ae h base n aq av au u m I tmps dp):se C dh dJ R base n aq av au u m I tmps dp:=by
 have Ia:∀i,i<av.size->dJ (base+i)->dp i:=λi aG aJ=>(af.new _ aJ).elim (a.ids i aG) (λak=>Zo)
 refine⟨a.st,a.size,a.P3,a.d5,a.closed,a.x8,a.done,a.vj,a.keys,a.wq, ?_,a.Ef.ab af.jr af.kf,Ia, ?_⟩
 ·intro k hO oC
  obtain⟨ac,H,M⟩:=a.ahead k hO oC
  refine⟨ac,H,λbY=> ?_⟩
  obtain⟨al,k5,b,aB,bw,b1,c6⟩:=M bY
  refine⟨al,k5,b,aB,bw,b1,λaj=> ?_⟩
  obtain⟨el,gY,iL⟩:=c6 aj
  refine⟨el,λaH=> ?_,iL⟩
  obtain⟨cT,kP,oy⟩:=gY aH
  refine⟨cT,kP, ?_⟩
  have c3:=NY a.st hO
  rw[af.ab _ (λaJ=>bY (a.ids _ c3 aJ)) Zo]
  exact oy
 ·intro i aG bD
  rw[af.ab _ ?_ Zo]
  ·exact a.free i aG bD
  ·intro aJ
   have bY:=a.ids i aG aJ
   rcases adh a.st i aG with ⟨k,n0,lR⟩|⟨p,e,ay,z⟩
   ·obtain⟨ac,bc,_⟩:=a.ahead k n0 (a.vj k n0 (by rw[lR];exact bY))
    rw[lR,bD]at bc;cases bc
   ·obtain⟨ac,bc⟩:=a.wq p e ay ((a.done p e ay).1 (by rw[z];exact bY))
    rw[z,bD]at bc;cases bc
end
section
variable{C:aN}{U dh:dd}{ae dJ:Nat->Prop}{h R:S ag}{j an bx:Nat}{w b5:World}{n aq:Nat}{av:Array Oper}
def ahx{F b t:Nat}(H:fR F t=true)(M:fR b t=true):Nat.beq (Nat.land F b) 0=false:=by
 cases a:Nat.beq (Nat.land F b) 0 with
 |false=>rfl
 |true=>
  have D:=Zn a
  have:=ap1 F b t
  rw[D,NI,H,M]at this
  cases this
def QE{p:gC}{T:Oper}(a:GZ av p T){t:Nat}(aJ:T.dst=some t):fR p.w t=true:=by rw[a.w];exact ark.2 aJ
def aBF{p:gC}{T:Oper}(a:GZ av p T){t:Nat}(Y:Operand.tmp t∈T.op.operands.toList):fR p.r t=true:=by
 rw[a.r,Hh,aAZ.2 Y];rfl
def SG(a:qy C n aq av){i V:Nat}{p ak:gC}(EO:i<V)(ay:(pN av)[i]? =some p)(bM:(pN av)[V]? =some ak){t:Nat}
 (aA:(fR p.w t=true/\(fR ak.r t=true\/fR ak.w t=true))\/(fR ak.w t=true/\fR p.r t=true)):fR ak.m i=true:=by
 have:=aAJ a.aBe i V p ak EO ay bM
 have LA:p.i=i:=((Kn av).2 i p ay).1
 unfold Qs at this
 rw[LA]at this
 rcases aA with ⟨H,M⟩|⟨H,M⟩
 ·have al:fR (Nat.lor ak.r ak.w) t=true:=by rw[Hh];rcases M with M|M<;>simp[M]
  rw[ahx H al]at this
  simpa using this
 ·rw[ahx H M]at this
  simpa using this
def Qd{i:Nat}{p:gC}(ay:(pN av)[i]? =some p):p∈pN av:=Zl ay
def arb(c8:qy C n aq av){dp:Nat->Prop}{au:List (Nat×E)}{I:S E}{tmps:Array Value}(h0:DM av dp)(sH:∀i,dp i->i<av.size)(aJ:BE U ae aq av dp au I tmps)
 {i:Nat}{p:gC}{T:Oper}(ay:(pN av)[i]? =some p)(bi:av[i]? =some T)(rI:¬dp i)(mB:∀D∈T.after.toList,Region.binds .any D=true->dp D.on):
 pI U ae aq (λt=>fR p.r t=true) (iS av i) au I tmps:=by
 have aG:i<av.size:=(ZO.1 bi).1
 obtain⟨_,fp,kO⟩:=M9 av i (zr aG)
 have LA:p.i=i:=((Kn av).2 i p ay).1
 have Pl:=Ko h0 (Qd ay) (by rw[LA];exact bi) mB
 have ahA:∀t V,fR p.r t=true->i<V->dp V->tz av V=some t->False:=by
  intro t V Y EO bY tQ
  obtain⟨ak,x,Bc,_,bM,x1,_,af,AR⟩:=Ab c8 V (sH V bY)
  have AO:av[V]? =some Bc:=by rw[<-x1];exact AR.oper
  have bb:=QE AR (t:=t) (by rw[<-Kr AO];exact tQ)
  have aj:=SG c8 EO ay bM (.inr ⟨bb,Y⟩)
  have:=Ko h0 (Qd bM) (by rw[x1];exact AO) (h0 V Bc AO bY) i aj
  exact rI this
 intro t v bZ bD
 apply aJ t v
 split at bD
 ·rename_i V bF
  obtain⟨bP,b2,cI⟩:=fp t V bF
  left
  have avA:V<av.size:=Zo
  obtain⟨ak,x,Bc,_,bM,x1,_,af,AR⟩:=Ab c8 V avA
  have AO:av[V]? =some Bc:=by rw[<-x1];exact AR.oper
  have bb:=QE AR (t:=t) (by rw[<-Kr AO];exact b2)
  have aj:=SG c8 bP bM ay (.inl ⟨bb, .inl bZ⟩)
  refine⟨V,Pl V aj,b2,λqb Ex tO=> ?_,bD⟩
  rcases YV qb i with H|H|H
  ·rcases zg V qb with M|M
   ·exact absurd tO (cI qb M H)
   ·exact M
  ·exact absurd (H▸Ex) rI
  ·exact(ahA t qb bZ H Ex tO).elim
 ·rename_i bF
  right
  refine⟨λV bY tQ=> ?_,bD.1,bD.2⟩
  rcases YV V i with H|H|H
  ·exact kO t bF V H tQ
  ·exact rI (H▸bY)
  ·exact ahA t V bZ H bY tQ
def BE.put(c8:qy C n aq av){dp:Nat->Prop}{au hY:List (Nat×E)}{I:S E}{tmps:Array Value}(h0:DM av dp)(sH:∀i,dp i->i<av.size)(aJ:BE U ae aq av dp au I tmps)(eA:tmps.size=n)
 {i:Nat}{T:Oper}{v:E}(bi:av[i]? =some T)(rI:¬dp i)(Uc:∀V,dp V->∀ac,ev hY V=some ac->ev au V=some ac)(auq:ev hY i=some v)(pX:∀d,T.dst=some d->d<n)(fM:co ae v):
 BE U ae aq av (add dp i) hY I (q4 tmps T.dst (aT U v)):=by
 have aG:i<av.size:=(ZO.1 bi).1
 have Up:=Kr bi
 have x0:∀t,(q4 tmps T.dst (aT U v))[t]? =if T.dst=some t then some (aT U v)else tmps[t]? :=λt=>aiV _ _ _ _ (by rw[eA];exact pX)
 intro t ac a
 rw[x0]
 by_cases H5:T.dst=some t
 ·rw[Zp H5]
  rcases a with ⟨V,bY,tQ,u7,bc⟩|⟨H,_⟩
  ·
   have afH:V=i:=by
    rcases bY with bY|bY
    ·have gl:=u7 i (.inr rfl) (by rw[Up];exact H5)
     rcases zg i V with c3|Cy
     ·exfalso
      obtain⟨p,x,aAE,_,ay,LA,_,_,tZ⟩:=Ab c8 i aG
      obtain⟨ak,jt,Bc,_,bM,x1,_,_,AR⟩:=Ab c8 V (sH V bY)
      have AO:av[V]? =some Bc:=by rw[<-x1];exact AR.oper
      have awh:aAE=T:=by
       have:=tZ.oper
       rw[LA,bi]at this
       exact(Yf this).symm
      subst awh
      have aj:=SG c8 c3 ay bM (.inl ⟨QE tZ H5, .inr (QE AR (by rw[<-Kr AO];exact tQ))⟩)
      exact rI (Ko h0 (Qd bM) (by rw[x1];exact AO) (h0 V Bc AO bY) i aj)
     ·omega
    ·exact bY
   subst afH
   rw[auq]at bc
   cases bc
   exact⟨rfl,fM⟩
  ·exact absurd (by rw[Up];exact H5) (H i (.inr rfl))
 ·rw[Zg H5]
  apply aJ t ac
  rcases a with ⟨V,bY,tQ,u7,bc⟩|⟨H,M⟩
  ·left
   have Ex:dp V:=bY.resolve_right λD=>H5 (by rw[<-Up, <-D];exact tQ)
   exact⟨V,Ex,tQ,λqb Lp tO=>u7 qb (.inl Lp) tO,Uc V Ex ac bc⟩
  ·right
   exact⟨λV bF=>H V (.inl bF),M⟩
def DM.add{dp:Nat->Prop}(h0:DM av dp){i:Nat}{T:Oper}(bi:av[i]? =some T)(mB:∀D∈T.after.toList,Region.binds .any D=true->dp D.on):DM av (add dp i):=by
 intro V Bc bF bY D bA aj
 rcases bY with bY|bY
 ·exact .inl (h0 V Bc bF bY D bA aj)
 ·subst bY
  rw[bi]at bF;cases bF
  exact .inl (mB D bA aj)
def P8(c8:qy C n aq av){k:qB}(az:k∈mu C n aq av){p:Nat}{e:gC×fI}(ay:(gX C n aq av)[p]? =some e):k.x.i≠e.1.i:=by
 intro D
 obtain⟨ak,H,M,_⟩:=NZ az
 obtain⟨al,aB⟩:=NW (Zl ay)
 obtain⟨_,_,b2,cI,_⟩:=Ac c8 H
 obtain⟨_,_,cm,cX,_⟩:=Ac c8 al
 simp only at b2 cI
 rw[<-b2,D,cX]at cI
 cases cI
 rw[M]at aB;cases aB
def se.fC{base ej:Nat}{au:List (Nat×E)}{I:S E}{tmps:Array Value}{dp:Nat->Prop}(a:se C U ae h base n aq av au ej (ej+1) I tmps dp){e:gC×fI}(z:(gX C n aq av)[ej]? =some e)
 {T:Oper}(bi:av[e.1.i]? =some T)(rI:¬dp e.1.i)(mB:∀D∈T.after.toList,Region.binds .any D=true->dp D.on){v:E}(fM:co ae v)(pX:∀d,T.dst=some d->d<n):
 se C U ae h base n aq av ((e.1.i,v)::au) (ej+1) (ej+1) I (q4 tmps T.dst (aT U v)) (add dp e.1.i):=by
 have UA:ev au e.1.i=none:=by
  cases bD:ev au e.1.i with
  |none=>rfl
  |some ac=>
   exfalso
   rcases a.keys _ ac bD with ⟨k,H,M,_⟩|⟨p,bE,H,M,al⟩
   ·exact P8 a.st H z M
   ·have:=adf a.st H z M;omega
 have AV:Sub au ((e.1.i,v)::au):=Sub.cons UA
 have aG:e.1.i<av.size:=(ZO.1 bi).1
 refine⟨a.st,by rw[QG];exact a.size,zz (Zb.1 z).1,a.d5,a.closed.add bi mB, ?_, ?_, ?_, ?_, ?_, ?_, ?_, ?_, ?_⟩
 ·rintro i (bY|bY)
  ·exact a.x8 i bY
  ·omega
 ·intro p bE cx
  constructor
  ·rintro(bY|bY)
   ·have:=(a.done p bE cx).1 bY;omega
   ·have:=adf a.st cx z bY;omega
  ·intro ay
   rcases zg p ej with c3|Cy
   ·exact .inl ((a.done p bE cx).2 c3)
   ·have:p=ej:=Zo
    subst this
    rw[z]at cx;cases cx
    exact .inr rfl
 ·rintro k az (bY|bY)
  ·exact a.vj k az bY
  ·exact(P8 a.st az z bY).elim
 ·intro i ac bc
  rw[sq]at bc
  split at bc
  ·rename_i D
   exact .inr ⟨ej,e,z,D,Zo⟩
  ·rcases a.keys i ac bc with H|⟨p,bE,H,M,al⟩
   ·exact .inl H
   ·exact .inr ⟨p,bE,H,M,Zo⟩
 ·intro p bE cx ay
  rw[sq]
  split
  ·exact⟨v,rfl⟩
  ·rename_i dn
   have:p≠ej:=λD=>by subst D;rw[z]at cx;cases cx;exact dn rfl
   exact a.wq p bE cx Zo
 ·intro k az oC
  obtain⟨ac,H,M⟩:=a.ahead k az oC
  refine⟨ac,AV _ _ H,λbY=> ?_⟩
  obtain⟨_,k5,b,aB,bw⟩:=M (λak=>bY (.inl ak))
  exact⟨AV _ _ H,k5,b,aB.trans AV,bw⟩
 ·refine a.Ef.put a.st a.closed a.x8 a.size bi rI ?_ (by rw[sq,Zp rfl]) pX fM
  intro V bY ac bc
  rw[sq,Zg]at bc
  ·exact bc
  ·intro D;subst D;exact rI bY
 ·intro i k8 aJ
  exact .inl (a.ids i k8 aJ)
 ·intro i k8 bD
  rw[sq]at bD
  split at bD
  ·cases bD
  ·exact a.free i k8 bD
def se.iD{base ej m:Nat}{au:List (Nat×E)}{I:S E}{tmps:Array Value}{dp:Nat->Prop}(a:se C U ae h base n aq av au ej m I tmps dp){k:qB}(az:k∈mu C n aq av)(oC:k.bO<m)
 {T:Oper}(bi:av[k.x.i]? =some T)(rI:¬dp k.x.i)(mB:∀D∈T.after.toList,Region.binds .any D=true->dp D.on){v:E}(bD:ev au k.x.i=some v)
 (dS:∀b,ae b->dh b=U b)(fZ:∀b,ae b->dJ b)(atW:∀b,dJ b->ae b\/b=base+k.x.i)(fM:co dJ v)(pX:∀d,T.dst=some d->d<n):
 se C dh dJ h base n aq av au ej m I (q4 tmps T.dst (aT dh v)) (add dp k.x.i):=by
 have aG:k.x.i<av.size:=(ZO.1 bi).1
 refine⟨a.st,by rw[QG];exact a.size,a.P3,a.d5,a.closed.add bi mB, ?_, ?_, ?_,a.keys,a.wq, ?_, ?_, ?_,a.free⟩
 ·rintro i (bY|bY)
  ·exact a.x8 i bY
  ·omega
 ·intro p bE cx
  constructor
  ·rintro(bY|bY)
   ·exact(a.done p bE cx).1 bY
   ·exact(P8 a.st az cx bY.symm).elim
  ·intro ay
   exact .inl ((a.done p bE cx).2 ay)
 ·rintro bS hO (bY|bY)
  ·exact a.vj bS hO bY
  ·have:=(SU a.st)
   by_cases ak:bS=k
   ·rw[ak];exact oC
   ·exfalso
    obtain⟨F,aE⟩:=Z2.1 hO
    obtain⟨b,aj⟩:=Z2.1 az
    obtain⟨K8,oz⟩:=Zb.1 aE
    obtain⟨nX,kC⟩:=Zb.1 aj
    rw[YR]at this
    rcases YV F b with c3|D|gv
    ·have:=this F b K8 nX c3
     rw[oz,kC]at this;omega
    ·subst D
     rw[oz]at kC;exact ak kC
    ·have:=this b F nX K8 gv
     rw[oz,kC]at this;omega
 ·intro bS hO avN
  obtain⟨ac,H,M⟩:=a.ahead bS hO avN
  refine⟨ac,H,λbY=> ?_⟩
  obtain⟨al,k5,b,aB,bw,b1,c6⟩:=M (λak=>bY (.inl ak))
  exact⟨al,k5,b,aB,bw,b1,c6⟩
 ·exact(a.Ef.ab dS fZ).put a.st a.closed a.x8 a.size bi rI (λ_ _ _ ak=>ak) bD pX fM
 ·intro i k8 aJ
  rcases atW _ aJ with aJ|aJ
  ·exact .inl (a.ids i k8 aJ)
  ·exact .inr Zo
end
def uL(U:dd)(p:s9):PanicEntry:={v:=aT U p.v,recovered:=p.recovered}
def g8(U:dd):lJ->FrameMode
 | .run=> .run
 | .returning=> .returning
 | .panicking fK=> .panicking (fK.map (uL U))
def ru(ae:Nat->Prop):lJ->Prop
 | .panicking fK=>∀p∈fK,co ae p.v
 |_=>True
inductive DP(C:aN)(U:dd)(ae:Nat->Prop)(aq:Nat):d0->Item->Prop
 |code {c:Code}:mr C aq c=true->DP C U ae aq (.code c) (.code c)
 |inBlock {id:Nat}:DP C U ae aq (.inBlock id) (.inBlock id)
 |inLoop {b:Code}:mr C aq b=true->DP C U ae aq (.inLoop b) (.inLoop b)
 |inScope {b:Code}:mr C aq b=true->DP C U ae aq (.inScope b) (.inScope b)
 |Ej {k:Nat}:ae k->DP C U ae aq (.endRangeFunc k) (.endRangeFunc (U k).cO)
 |begin:DP C U ae aq .beginRound .beginRound
inductive mj(C:aN)(U:dd)(ae:Nat->Prop)(aq:Nat):List d0->List Item->Prop
 |nil:mj C U ae aq [] []
 |cons {F x u bB}:DP C U ae aq F x->mj C U ae aq u bB->mj C U ae aq (F::u) (x::bB)
def RV(C:aN)(U:dd)(ae:Nat->Prop)(n aq:Nat)(av:Array Oper)(au:List (Nat×E))(rest:List fI)(fin:List (Nat×Nat))(I:S E)(tmps:Array Value)(k:List Nat):Prop:=
 ∃i,i<=av.size/\k=List.range' i (av.size-i)/\tt C n aq (av.toList.drop i) i (iS av i)=some rest/\fin=lQ aq av.toList 0/\pI U ae aq (λ_=>True) (iS av i) au I tmps/\tmps.size=n
def aoT(C:aN)(U:dd)(ae:Nat->Prop)(n aq:Nat)(av:Array Oper)(au:List (Nat×E))(a:Nat)(rest:List fI)(fin:List (Nat×Nat))(I:S E)(tmps:Array Value)(k:List Nat):Prop:=
 ∃T,av[a]? =some T/\(∀d,T.dst=some d->d<n)/\k=List.range' (a+1) (av.size-(a+1))/\tt C n aq (av.toList.drop (a+1)) (a+1) (iS av (a+1))=some rest/\fin=lQ aq av.toList 0/\
  pI U ae aq (λ_=>True) (iS av a) au I tmps/\tmps.size=n
inductive DY(C:aN)(U:dd)(ae:Nat->Prop)(h:S ag)(dj j n aq:Nat)(I:S E)(tmps:Array Value):List d0->List Item->Prop
 |plain {u bB}:mj C U ae aq u bB->j0 U ae n aq I tmps->DY C U ae h dj j n aq I tmps u bB
 |seq {av au rest fin k u bB}:mj C U ae aq u bB->RV C U ae n aq av au rest fin I tmps k->DY C U ae h dj j n aq I tmps (.Jp av au rest fin::u) (.inRegion av k::bB)
 |drawn {av base au k u bB dp ej}:mj C U ae aq u bB->dj<=base->base+av.size<=j->se C U ae h base n aq av au ej ej I tmps dp->xj av dp k->
   DY C U ae h dj j n aq I tmps (.drawn av base au (A9 (mu C n aq av) ej ((gX C n aq av).drop ej)) (lQ aq av.toList 0)::u) (.inRegion av k::bB)
inductive ng(C:aN)(U:dd)(ae:Nat->Prop)(h:S ag)(bO aG n aq:Nat)(I:S E)(tmps:Array Value):List d0->List Item->Prop
 |seq {av au a rest fin k u bB}:mj C U ae aq u bB->aoT C U ae n aq av au a rest fin I tmps k->ng C U ae h bO aG n aq I tmps (.uB av au a rest fin::u) (.inRegion av (a::k)::bB)
 |drawn {av base au k u bB dp ej e T}:mj C U ae aq u bB->bO<=base->base+av.size<=aG->se C U ae h base n aq av au ej (ej+1) I tmps dp->(gX C n aq av)[ej]? =some e->
   av[e.1.i]? =some T->¬dp e.1.i->(∀D∈T.after.toList,Region.binds .any D=true->dp D.on)->xj av (add dp e.1.i) k->
   ng C U ae h bO aG n aq I tmps (.Bv av base au e.1.i (A9 (mu C n aq av) (ej+1) ((gX C n aq av).drop (ej+1))) (lQ aq av.toList 0)::u) (.inRegion av (e.1.i::k)::bB)
 |dU {k u bB}:mj C U ae aq u bB->j0 U ae n aq I tmps->ae k->ng C U ae h bO aG n aq I tmps (.inRangeFunc k::u) (.inRangeFunc (U k).cO::bB)
def BQ(C:aN)(U:dd)(ae:Nat->Prop)(h:S ag)(bO aG n aq:Nat)(I:S E)(tmps:Array Value)(bW:lJ)(todo:List d0)(bB:List Item):Prop:=match bW with
 | .run=>ng C U ae h bO aG n aq I tmps todo bB
 |_=>j0 U ae n aq I tmps
def cz(U:dd)(fn:Nat)(bj:List h8)(aD:Bool)(ro:Option Nat)(tmps:Array Value)(bB:List Item)(mode:FrameMode):Frame:=
 {fn,tmps,todo:=bB,defers:=bj.map (mo U),mode,kind:=if aD then .deferred else .normal,roundOf:=ro.map λk=>(U k).cO}
structure xc(C:aN)(ae:Nat->Prop)(fn aq:Nat)(bj:List h8)(ro:Option Nat):Prop where
 bj:∀d∈bj,xD ae d
 ro:∀k,ro=some k->ae k
 fn:RE C fn aq
inductive pC(C:aN)(U:dd)(ae:Nat->Prop)(h:S ag)(bJ:Nat)(bX:List Frame):Nat->List g6->List Frame->Prop
 |nil {dj}:pC C U ae h bJ bX dj [] bX
 |cons {bO dj fn n aq I todo bj bW aD ro cs tmps bB am}:BQ C U ae h bO dj n aq I tmps bW todo bB->ru ae bW->xc C ae fn aq bj ro->(cs=[]->fn=bJ/\aD=false/\ro=none)->bO<=dj->pC C U ae h bJ bX bO cs am->
   pC C U ae h bJ bX dj (⟨fn,n,aq,I,todo,bj,bW,aD,ro⟩::cs) (cz U fn bj aD ro tmps bB (g8 U bW)::am)
section
variable{C:aN}{U dh:dd}{ae dJ:Nat->Prop}{h R:S ag}{j an bx:Nat}{w b5:World}{n aq:Nat}{av:Array Oper}
def mj.ab{u:List d0}{bB:List Item}(dS:∀b,ae b->dh b=U b)(fZ:∀b,ae b->dJ b)(a:mj C U ae aq u bB):mj C dh dJ aq u bB:=by
 induction a with
 |nil=>exact .nil
 |cons H _ ah=>
  refine .cons ?_ ah
  cases H with
  |code a=>exact .code a
  |inBlock=>exact .inBlock
  |inLoop a=>exact .inLoop a
  |inScope a=>exact .inScope a
  |Ej a=>rw[<-dS _ a];exact .Ej (fZ _ a)
  |begin=>exact .begin
def ng.ab{bO dj:Nat}{I:S E}{tmps:Array Value}{u:List d0}{bB:List Item}(af:jb C dj U ae h bx w dh dJ R b5)(a:ng C U ae h bO dj n aq I tmps u bB):ng C dh dJ R bO dj n aq I tmps u bB:=by
 cases a with
 |seq H M=>
  obtain⟨T,bf,cf,a3,a4,a5,jK,kx⟩:=M
  exact .seq (H.ab af.jr af.kf) ⟨T,bf,cf,a3,a4,a5,jK.ab af.jr af.kf,kx⟩
 |drawn H M al aB bw b1 c6 el gY=>exact .drawn (H.ab af.jr af.kf) M al (aB.ab af al) bw b1 c6 el gY
 |dU H M al=>rw[<-af.jr _ al];exact .dU (H.ab af.jr af.kf) (M.ab af.jr af.kf) (af.kf _ al)
def BQ.ab{bO dj:Nat}{I:S E}{tmps:Array Value}{bW:lJ}{u:List d0}{bB:List Item}(af:jb C dj U ae h bx w dh dJ R b5)(a:BQ C U ae h bO dj n aq I tmps bW u bB):BQ C dh dJ R bO dj n aq I tmps bW u bB:=by
 cases bW with
 |run=>exact ng.ab af a
 |returning=>exact j0.ab af.jr af.kf a
 |panicking fK=>exact j0.ab af.jr af.kf a
def xc.ab{fn:Nat}{bj:List h8}{ro:Option Nat}(fZ:∀b,ae b->dJ b)(a:xc C ae fn aq bj ro):xc C dJ fn aq bj ro:=
 ⟨λd aJ=>aei fZ (a.bj d aJ),λk az=>fZ k (a.ro k az),a.fn⟩
def IW{fn:Nat}{bj:List h8}{aD:Bool}{ro:Option Nat}{tmps:Array Value}{bB:List Item}{mode:FrameMode}(dS:∀b,ae b->dh b=U b)(a:xc C ae fn aq bj ro):cz dh fn bj aD ro tmps bB mode=cz U fn bj aD ro tmps bB mode:=by
 unfold cz
 congr 1
 ·exact YC λd aJ=>Sr dS (a.bj d aJ)
 ·cases ro with
  |none=>rfl
  |some k=>simp only[ZS,dS k (a.ro k rfl)]
def aqk{bW:lJ}(dS:∀b,ae b->dh b=U b)(a:ru ae bW):g8 dh bW=g8 U bW:=by
 cases bW with
 |panicking fK=>
  simp only[g8]
  congr 1
  exact YC λp ay=>by simp only[uL,rm dS (a p ay)]
 |_=>rfl
def ato{bW:lJ}(fZ:∀b,ae b->dJ b)(a:ru ae bW):ru dJ bW:=by
 cases bW with
 |panicking fK=>exact λp ay=>pT fZ _ (a p ay)
 |_=>trivial
def jb.mono{dj Mi:Nat}(a:jb C dj U ae h bx w dh dJ R b5)(az:Mi<=dj):jb C Mi U ae h bx w dh dJ R b5:=
 ⟨a.jr,a.kf,λb aj=>(a.new b aj).imp id (λak=>Zo),λb aj c3=>a.ab b aj Zo,a.below⟩
def pC.ab{bJ:Nat}{bX:List Frame}{dj:Nat}{cs:List g6}{am:List Frame}(a:pC C U ae h bJ bX dj cs am)(af:jb C dj U ae h bx w dh dJ R b5):pC C dh dJ R bJ bX dj cs am:=by
 induction a with
 |nil=>exact .nil
 |cons H bn M aB bw b1 ah=>
  rw[<-IW (U:=U) (dh:=dh) af.jr M, <-aqk af.jr bn]
  exact .cons (H.ab af) (ato af.kf bn) (M.ab af.kf) aB bw (ah (af.mono bw))
def N0(t:Nat):∀(k:List Nat) (I:S E),(xw k I).get t=if t∈k then none else I.get t:=by
 intro k
 induction k with
 |nil=>intro I;simp[xw]
 |cons d k ah=>
  intro I
  simp only[xw,ah,S.jP,Zu]
  by_cases a:t∈k
  ·simp[a]
  ·by_cases D:d=t
   ·subst D;simp
   ·have:¬t=d:=λak=>D ak.symm
    simp[a,D,this]
def j0.drop{I:S E}{tmps:Array Value}(a:j0 U ae n aq I tmps)(k:List Nat):j0 U ae n aq (xw k I) tmps:=by
 refine⟨a.size,λt v aj bD=> ?_⟩
 rw[N0]at bD
 split at bD
 ·cases bD
 ·exact a.val t v aj bD
def adl{k:List Oper}{T:Oper}{d:Nat}(bi:T∈k)(aJ:T.dst=some d):d∈dstsOf k:=by
 induction k with
 |nil=>cases bi
 |cons F k ah=>
  simp only[dstsOf]
  rcases Zu.1 bi with rfl|bi
  ·rw[aJ];exact Zv ..
  ·split
   ·exact Zt _ (ah bi)
   ·exact ah bi
def ng.drop{bO dj:Nat}{I:S E}{tmps:Array Value}{u:List d0}{bB:List Item}(a:ng C U ae h bO dj n aq I tmps u bB):j0 U ae n aq (vV u I) tmps:=by
 cases a with
 |seq H M=>
  rename_i av au a rest fin k u bB
  obtain⟨T,bf,cf,a3,a4,a5,jK,kx⟩:=M
  refine⟨kx,λt v aj bD=> ?_⟩
  simp only[vV]at bD
  rw[N0]at bD
  split at bD
  ·cases bD
  ·rename_i aF
   have aG:a<av.size:=(ZO.1 bf).1
   obtain⟨_,fp,_⟩:=M9 av a (zr aG)
   apply jK t v trivial
   cases bF:ev (iS av a) t with
   |some V=>
    exfalso
    obtain⟨bP,b2,_⟩:=fp t V bF
    unfold tz at b2
    cases bi:av[V]? with
    |none=>rw[bi]at b2;cases b2
    |some o'=>
     rw[bi]at b2
     exact aF (adl (by rw[Array.mem_toList_iff];exact Y9 bi) b2)
   |none=>exact⟨aj,bD⟩
 |drawn H M al aB bw b1 c6 el gY=>
  rename_i av base au k u bB dp ej e T
  refine⟨aB.size,λt v aj bD=> ?_⟩
  simp only[vV]at bD
  rw[N0]at bD
  split at bD
  ·cases bD
  ·rename_i aF
   apply aB.Ef t v
   right
   refine⟨λV bY aJ=> ?_,aj,bD⟩
   unfold tz at aJ
   cases bi:av[V]? with
   |none=>rw[bi]at aJ;cases aJ
   |some o'=>
    rw[bi]at aJ
    exact aF (adl (by rw[Array.mem_toList_iff];exact Y9 bi) aJ)
 |dU H M al=>exact M
def BQ.drop{bO dj:Nat}{I:S E}{tmps:Array Value}{bW:lJ}{u:List d0}{bB:List Item}(a:BQ C U ae h bO dj n aq I tmps bW u bB):j0 U ae n aq (vV u I) tmps:=by
 cases bW with
 |run=>exact ng.drop a
 |_=>
  have cF:j0 U ae n aq I tmps:=a
  unfold vV
  split<;>first|exact cF.drop _|exact cF
def pI.put{I:S E}{au:List (Nat×E)}{tmps:Array Value}{i:Nat}{T:Oper}{v:E}(bi:av[i]? =some T)(bD:pI U ae aq (λ_=>True) (iS av i) au I tmps)(aJ:∀d,T.dst=some d->d<tmps.size)(fM:co ae v):
 pI U ae aq (λ_=>True) (iS av (i+1)) ((i,v)::au) I (q4 tmps T.dst (aT U v)):=by
 have aG:i<av.size:=(ZO.1 bi).1
 obtain⟨_,fp,_⟩:=M9 av i (zr aG)
 intro t ac _ a
 rw[aiV _ _ _ _ aJ]
 rw[M7 bi,Hb]at a
 split at a
 ·rename_i V bF
  split at bF
  ·rename_i D
   cases bF
   rw[sq,Zp rfl]at a
   cases a
   rw[Zp D]
   exact⟨rfl,fM⟩
  ·rename_i D
   rw[Zg D]
   have:=(fp t V bF).1
   rw[sq,Zg Zo]at a
   exact bD t ac trivial (by rw[bF];exact a)
 ·rename_i bF
  split at bF
  ·cases bF
  ·rename_i D
   rw[Zg D]
   exact bD t ac trivial (by rw[bF];exact a)
def Og{g:Frame}{a:Nat}{k:List Nat}{bB:List Item}{T:Oper}(bV:g.todo= .inRegion av (a::k)::bB)(bi:av[a]? =some T)(v:Value):
 g.finish v={g with tmps:=q4 g.tmps T.dst v,todo:= .inRegion av k::bB}:=by
 unfold Frame.finish
 rw[bV]
 simp only[bi,ZZ]
 cases T.dst<;>rfl
def asf{bO dj j n aq fn:Nat}{I:S E}{tmps:Array Value}{todo:List d0}{bB:List Item}{bj:List h8}{aD:Bool}{ro:Option Nat}{mode:FrameMode}{v:E}(a:ng C U ae h bO dj n aq I tmps todo bB)(az:dj<=j)(fM:co ae v):
 ∃eN u h4 h7 iw,todo=eN::u/\pR eN v=some h4/\(cz U fn bj aD ro tmps bB mode).finish (aT U v)=cz U fn bj aD ro h7 iw mode/\DY C U ae h bO j n aq I h7 (h4::u) iw:=by
 cases a with
 |seq H M=>
  rename_i av au a rest fin k u bB
  obtain⟨T,bf,cf,a3,a4,a5,jK,kx⟩:=M
  have c3:a<av.size:=(ZO.1 bf).1
  refine⟨_,u, .Jp av ((a,v)::au) rest fin,q4 tmps T.dst (aT U v), .inRegion av k::bB,rfl,rfl, ?_, .seq H ⟨a+1,Zo,a3,a4,a5,jK.put bf (by rw[kx];exact cf) fM,by rw[QG];exact kx⟩⟩
  rw[Og (g:=cz U fn bj aD ro tmps _ mode) rfl bf];rfl
 |drawn H M al aB bw b1 c6 el gY=>
  rename_i av base au k u bB dp ej e T
  have z:=Zl bw
  have pX:∀d,T.dst=some d->d<n:=by
   obtain⟨o',bP,b2,cI,dL,fg,d1⟩:=Ac aB.st (NW z).1
   have:o'=T:=by
    have:=d1.oper
    rw[b1]at this
    exact(Yf this).symm
   subst this
   exact fg.dst
  refine⟨_,u, .drawn av base ((e.1.i,v)::au) _ _,q4 tmps T.dst (aT U v), .inRegion av k::bB,rfl,rfl, ?_, .drawn H M (ZD al az) (aB.fC bw b1 c6 el fM pX) gY⟩
  rw[Og (g:=cz U fn bj aD ro tmps _ mode) rfl b1];rfl
 |dU H M al=>
  rename_i k u bB
  exact⟨_,u, .endRangeFunc k,tmps, .endRangeFunc (U k).cO::bB,rfl,rfl,rfl, .plain (.cons (.Ej al) H) M⟩
def Rf{I:S E}{au k5:List (Nat×E)}{tmps:Array Value}{X:Nat->Prop}{i:Nat}{T:Oper}{g:Option (Nat×Bool)}{b:Bool}(aG:i<=av.size)(bV:Ke (iS av i) T.guard=some g)(bD:pI U ae aq X (iS av i) au I tmps)
 (bZ:∀V b t,T.guard=some (V,b)->xx V (iS av i)=some t->X t)(aC:Sub k5 au)(a:py g k5=some b):Region.wanted T (yielded av tmps)=b:=by
 obtain⟨eO,_,_⟩:=M9 av i aG
 unfold Ke at bV
 unfold Region.wanted
 split at bV
 ·rename_i avl
  simp at bV;subst bV
  simp[py]at a
  rw[avl, <-a]
 ·rename_i V mg wn
  rw[wn]
  split at bV
  ·rename_i t ba
   split at bV
   ·rename_i qb bF
    rw[ia]at bV
    split at bV
    ·rename_i D
     subst D
     simp at bV;subst bV
     simp only[py]at a
     split at a
     ·rename_i ac bc
      have:=bD t ac (bZ V mg t wn ba) (by rw[bF];exact aC _ _ bc)
      have z:yielded av tmps V=(match aT U ac with| .bool b=>some b|_=>none):=by
       unfold yielded
       have aJ:=eO V t ba
       unfold tz at aJ
       rw[aJ]
       simp only[ZZ,this.1]
       cases aT U ac<;>rfl
      simp only[z]
      cases ac<;>simp[aT]at a ⊢ <;>first|(rw[<-a])|exact a|(subst a;rfl)|skip
      all_goals simp_all
     ·simp at a
    ·simp at bV
   ·simp at bV
  ·simp at bV
end
structure RJ(C:aN)(bq:World):Prop where
 val:∀f args v,C.hz f args=some v->((∀U ja,aT U v=aT ja v)/\∀ae,co ae v)/\(∀U ja,b3 U args=b3 ja args)/\∀ae,ey ae args
 ok:∀f args v,C.hz f args=some v->∀U w,Below bq.heap.size bq w->
  (callFunc f (b3 U args).toArray).run C.P w= .ok (.value (aT U v)) w\/
  ((callFunc f (b3 U args).toArray).run C.P w= .ok (.enter f (b3 U args).toArray) w/\Calls C.P f (b3 U args).toArray w λD b5=>D= .returned (aT U v)/\Below w.heap.size w b5)
structure Env(C:aN)(bq:World)(dY:dd)(ea:Nat->Prop):Prop where
 k0:yS C.P
 hz:RJ C bq
 base:dq C dY ea .nil C.a8 bq.heap.size bq
 ir:ti C dY ea
def Ends(C:aN)(bq:World)(bJ:Nat)(bX:List Frame)(v:E)(dv:Machine):Prop:=
 ∃U b5 fr,Steps C.P dv (lone fr bX b5)/\fr.leaving C.P b5 (.returned (aT U v))/\fr.fn=bJ/\Below bq.heap.size bq b5
structure DX(C:aN)(bq:World)(bJ:Nat)(bX:List Frame)(bW:lJ)(todo:List d0)(fn n aq:Nat)(bj:List h8)(aD:Bool)(ro:Option Nat)(cs:List g6)(I:S E)(h:S ag)(j:Nat)
 (U:dd)(ae:Nat->Prop)(w:World)(dj:Nat)(tmps:Array Value)(bB:List Item)(am:List Frame):Prop where
 Y:dq C U ae h j bq.heap.size w
 lO:Below bq.heap.size bq w
 ir:ti C U ae
 kF:dj<=j
 ip:xc C ae fn aq bj ro
 mode:ru ae bW
 bot:cs=[]->fn=bJ/\aD=false/\ro=none
 cs:pC C U ae h bJ bX dj cs am
 todo:match bW with
  | .run=>DY C U ae h dj j n aq I tmps todo bB
  |_=>j0 U ae n aq I tmps
def om(C:aN)(bq:World)(bJ:Nat)(bX:List Frame)(ah:hX):Prop:=
 ∀bW todo fn n aq bj aD ro cs I h j v,ah bW todo ⟨fn,n,aq,bj,aD,ro,cs⟩ I h j=some v->
  ∀U ae w dj tmps bB am,DX C bq bJ bX bW todo fn n aq bj aD ro cs I h j U ae w dj tmps bB am->Ends C bq bJ bX v (lone (cz U fn bj aD ro tmps bB (g8 U bW)) am w)
section
variable{C:aN}{U dh:dd}{ae dJ:Nat->Prop}{h R:S ag}{j an bx:Nat}{w b5:World}{n aq:Nat}{av:Array Oper}
variable{bq:World}{bJ:Nat}{bX:List Frame}{v:E}
def Ends.head{dv JS:Machine}(a:step C.P dv= .next JS)(cF:Ends C bq bJ bX v JS):Ends C bq bJ bX v dv:=by
 obtain⟨U,b5,fr,H,M⟩:=cF
 exact⟨U,b5,fr, .head a H,M⟩
def Ends.steps{dv JS:Machine}(a:Steps C.P dv JS)(cF:Ends C bq bJ bX v JS):Ends C bq bJ bX v dv:=by
 obtain⟨U,b5,fr,H,M⟩:=cF
 exact⟨U,b5,fr,a.trans H,M⟩
def dq.later(Y:dq C U ae h j bx w)(aj:Below w.heap.size w b5):dq C U ae h j bx b5:=
 ⟨Y.a8,Y.lt,Y.wN,λb T a d=>(Y.obj b T a d).ab (λ_ _=>rfl) (λ_ a=>a) (aj.block _ (Y.obj b T a d).lt),Y.sep,Y.base,Y.eS⟩
def Env.now{dY:dd}{ea:Nat->Prop}(bA:Env C bq dY ea)(aj:Below bq.heap.size bq w):dq C dY ea .nil C.a8 w.heap.size w:=by
 have Y:=bA.base.later aj
 refine⟨Y.a8,Y.lt,Y.wN,Y.obj,Y.sep, ?_,Y.eS⟩
 intro b T aF bi _
 exfalso
 unfold W at bi
 rw[fw,Zg (by simp[Nat.blt];omega)]at bi
 simp at bi
def Env.later{dY:dd}{ea:Nat->Prop}(bA:Env C bq dY ea)(aj:Below bq.heap.size bq w):Env C w dY ea:=
 ⟨bA.k0,⟨bA.hz.val,λf args v a U rb kC=>bA.hz.ok f args v a U rb (aj.trans (kC.mono aj.size))⟩,bA.now aj,bA.ir⟩
variable{fn:Nat}{bj:List h8}{aD:Bool}{ro:Option Nat}{tmps:Array Value}{bB:List Item}{am:List Frame}
def m9(tmps:Array Value)(bB:List Item):stepG C.P true {frame:=cz U fn bj aD ro tmps bB .run,callers:=am,status:= .running,dying:=none} w=stepG.exec C.P true true (cz U fn bj aD ro tmps bB .run) am none w:=by
 simp[stepG,cz]
def aDI{F b:Code}:step C.P (lone (cz U fn bj aD ro tmps (.code (.seq F b)::bB) .run) am w)= .next (lone (cz U fn bj aD ro tmps (.code F:: .code b::bB) .run) am w):=
 step_lone_go (by rw[m9];simp[stepG.exec,cz])
def aDJ:step C.P (lone (cz U fn bj aD ro tmps (.code .skip::bB) .run) am w)= .next (lone (cz U fn bj aD ro tmps bB .run) am w):=
 step_lone_go (by rw[m9];simp[stepG.exec,cz])
def aDy{k:Nat}:step C.P (lone (cz U fn bj aD ro tmps (.code (.label k)::bB) .run) am w)= .next (lone (cz U fn bj aD ro tmps bB .run) am w):=
 step_lone_go (by rw[m9];simp[stepG.exec,cz])
def aDv{k:Nat}:step C.P (lone (cz U fn bj aD ro tmps (.inBlock k::bB) .run) am w)= .next (lone (cz U fn bj aD ro tmps bB .run) am w):=
 step_lone_go (by rw[m9];simp[stepG.exec,cz])
def aDx{b:Code}:step C.P (lone (cz U fn bj aD ro tmps (.inScope b::bB) .run) am w)= .next (lone (cz U fn bj aD ro tmps bB .run) am w):=
 step_lone_go (by rw[m9];simp[stepG.exec,cz])
def aDp{id:Nat}{b:Code}:step C.P (lone (cz U fn bj aD ro tmps (.code (.block id b)::bB) .run) am w)= .next (lone (cz U fn bj aD ro tmps (.code b:: .inBlock id::bB) .run) am w):=
 step_lone_go (by rw[m9];simp[stepG.exec,cz])
def aDz{b:Code}:step C.P (lone (cz U fn bj aD ro tmps (.code (.loop b)::bB) .run) am w)= .next (lone (cz U fn bj aD ro tmps (.code b:: .inLoop b::bB) .run) am w):=
 step_lone_go (by rw[m9];simp[stepG.exec,cz])
def aDw{b:Code}:step C.P (lone (cz U fn bj aD ro tmps (.inLoop b::bB) .run) am w)= .next (lone (cz U fn bj aD ro tmps (.code b:: .inLoop b::bB) .run) am w):=
 step_lone_go (by rw[m9];simp[stepG.exec,cz])
def aDH{b:Code}:step C.P (lone (cz U fn bj aD ro tmps (.code (.scope b)::bB) .run) am w)= .next (lone (cz U fn bj aD ro tmps (.code b:: .inScope b::bB) .run) am w):=
 step_lone_go (by rw[m9];simp[stepG.exec,cz])
def aDq{c:Operand}{F b:Code}{t:Bool}(a:lG tmps c= .bool t):step C.P (lone (cz U fn bj aD ro tmps (.code (.cond c F b)::bB) .run) am w)= .next (lone (cz U fn bj aD ro tmps (.code (if t then F else b)::bB) .run) am w):=
 step_lone_go (by
  have cF:(cz U fn bj aD ro tmps (.code (.cond c F b)::bB) .run).eval c= .bool t:=by rw[KA];exact a
  rw[m9]
  simp only[cz]at cF
  simp[stepG.exec,cz,cF])
def aDu{id:Nat}{iw:List Item}(a:Go.exitTo id bB=some iw):step C.P (lone (cz U fn bj aD ro tmps (.code (.exit id)::bB) .run) am w)= .next (lone (cz U fn bj aD ro tmps iw .run) am w):=
 step_lone_go (by rw[m9];simp[stepG.exec,cz,a])
def aDE:step C.P (lone (cz U fn bj aD none tmps (.code .ret::bB) .run) am w)= .next (lone (cz U fn bj aD none tmps (.code .ret::bB) .returning) am w):=
 step_lone_go (by rw[m9];simp[stepG.exec,cz])
def aDs:step C.P (lone (cz U fn bj aD none tmps [] .run) am w)= .next (lone (cz U fn bj aD none tmps [] .returning) am w):=
 step_lone_go (by rw[m9];simp[stepG.exec,cz])
def aDC{id:Nat}:step C.P (lone (cz U fn bj aD ro tmps (.code (.region id av false)::bB) .run) am w)= .next (lone (cz U fn bj aD ro tmps (.inRegion av (List.range av.size)::bB) .run) am w):=
 step_lone_go (by rw[m9];simp[stepG.exec,cz])
def aDD{id:Nat}:step C.P (lone (cz U fn bj aD ro tmps (.code (.region id av true)::bB) .run) am w)=
 .next (lone (cz U fn bj aD ro tmps (.inRegion av (Region.schedule (C.P.follows .mixedOrders) av (w.tape w.drawn (.order fn id)))::bB) .run) am w.drew):=
 step_lone_go (by rw[m9];simp[stepG.exec,cz,Question.forced,Question.cut])
def ajw:step C.P (lone (cz U fn bj aD ro tmps (.inRegion av []::bB) .run) am w)= .next (lone (cz U fn bj aD ro tmps bB .run) am w):=
 step_lone_go (by rw[m9];simp[stepG.exec,cz])
def Xn{i:Nat}{k:List Nat}{T:Oper}(bi:av[i]? =some T)(bb:Region.wanted T (yielded av tmps)=false):
 step C.P (lone (cz U fn bj aD ro tmps (.inRegion av (i::k)::bB) .run) am w)= .next (lone ((cz U fn bj aD ro tmps (.inRegion av (i::k)::bB) .run).finish Go.undef) am w):=
 step_lone_go (by rw[m9];simp[stepG.exec,cz,bi,bb])
def WD{ax:Operand->Value}{T:Oper}{vn:Next}(Y:(execOp ax T).run C.P w= .ok vn b5)(a:∀d,vn≠ .defer d):∀c,T.op≠ .defer c:=by
 intro c aA
 have af:execOp ax T=(do pure (.defer (<-resolve ax c T.type))):=by unfold execOp;rw[aA]
 rw[af]at Y
 simp only[Sem.run_bind]at Y
 cases bM:(resolve ax c T.type).run C.P w with
 |ok d rb=>
  rw[bM]at Y
  simp only[Result.andThen_ok,Sem.run_pure,Result.ok.injEq]at Y
  exact a d Y.1.symm
 |halt D rb=>
  rw[bM]at Y
  simp at Y
def Ju{i:Nat}{k:List Nat}{T:Oper}(bi:av[i]? =some T)(bb:Region.wanted T (yielded av tmps)=true)(kl:ro=none\/∀c,T.op≠ .defer c):
 stepG C.P true {frame:=cz U fn bj aD ro tmps (.inRegion av (i::k)::bB) .run,callers:=am,status:= .running,dying:=none} w=
  stepG.apply C.P true (cz U fn bj aD ro tmps (.inRegion av (i::k)::bB) .run) am none (execOp (lG tmps) T) w:=by
 rw[m9]
 rcases kl with rfl|kl
 ·simp[stepG.exec,stepG.oper,cz,Frame.oper?,bi,bb,KA]
 ·cases ro with
  |none=>simp[stepG.exec,stepG.oper,cz,Frame.oper?,bi,bb,KA]
  |some r=>
   have:∀(c:Call),T.op≠ .defer c:=kl
   simp[stepG.exec,stepG.oper,cz,Frame.oper?,bi,bb,KA]
   split
   ·rename_i M;exact absurd M (this _)
   ·rfl
def Gb{i:Nat}{k:List Nat}{T:Oper}{ac:Value}{vn:Next}(bi:av[i]? =some T)(bb:Region.wanted T (yielded av tmps)=true)
 (Y:(execOp (lG tmps) T).run C.P w= .ok vn b5)(aF:vn= .value ac\/(vn= .skip/\ac=Go.undef)):
 step C.P (lone (cz U fn bj aD ro tmps (.inRegion av (i::k)::bB) .run) am w)= .next (lone ((cz U fn bj aD ro tmps (.inRegion av (i::k)::bB) .run).finish ac) am b5):=
 step_lone_go (by
  rw[Ju bi bb (.inr (WD Y (by rcases aF with rfl|⟨rfl,rfl⟩<;>simp)))]
  rcases aF with rfl|⟨rfl,rfl⟩
  ·simp[stepG.apply,Y]
  ·simp[stepG.apply,Y])
def aju{i:Nat}{k:List Nat}{T:Oper}{f:Nat}{args:Array Value}(bi:av[i]? =some T)(bb:Region.wanted T (yielded av tmps)=true)
 (Y:(execOp (lG tmps) T).run C.P w= .ok (.enter f args) b5):
 step C.P (lone (cz U fn bj aD ro tmps (.inRegion av (i::k)::bB) .run) am w)= .next (lone (Frame.enter C.P f args .normal) (cz U fn bj aD ro tmps (.inRegion av (i::k)::bB) .run::am) b5):=
 step_lone_go (by rw[Ju bi bb (.inr (WD Y Zs))];simp[stepG.apply,Y,cz])
def aDF{i:Nat}{k:List Nat}{T:Oper}{b f:Nat}{aZ:Array Value}{assign body:Code}(bi:av[i]? =some T)(bb:Region.wanted T (yielded av tmps)=true)
 (Y:(execOp (lG tmps) T).run C.P w= .ok (.round b f aZ assign body) b5):
 step C.P (lone (cz U fn bj aD ro tmps (.inRegion av (i::k)::bB) .run) am w)= .next (lone (Frame.round b f aZ assign body .normal) (cz U fn bj aD ro tmps (.inRegion av (i::k)::bB) .run::am) b5):=
 step_lone_go (by rw[Ju bi bb (.inr (WD Y Zs))];simp[stepG.apply,Y,cz])
def aDr{i:Nat}{k:List Nat}{T:Oper}{d:h8}(bi:av[i]? =some T)(bb:Region.wanted T (yielded av tmps)=true)
 (Y:(execOp (lG tmps) T).run C.P w= .ok (.defer (mo U d)) b5):
 step C.P (lone (cz U fn bj aD none tmps (.inRegion av (i::k)::bB) .run) am w)= .next (lone ((cz U fn (d::bj) aD none tmps (.inRegion av (i::k)::bB) .run).finish Go.undef) am b5):=
 step_lone_go (by rw[Ju bi bb (.inl rfl)];simp[stepG.apply,Y,cz])
def aDA{i:Nat}{k:List Nat}{T:Oper}{ac:E}(bi:av[i]? =some T)(bb:Region.wanted T (yielded av tmps)=true)
 (Y:(execOp (lG tmps) T).run C.P w= .halt (.panic (aT U ac)) b5):
 step C.P (lone (cz U fn bj aD none tmps (.inRegion av (i::k)::bB) .run) am w)= .next (lone (cz U fn bj aD none tmps (.inRegion av (i::k)::bB) (g8 U (.panicking [⟨ac,false⟩]))) am b5):=
 step_lone_go (by rw[Ju bi bb (.inl rfl)];simp[stepG.apply,Y,cz,Frame.raise,g8,uL])
def aDB{i:Nat}{k:List Nat}{T:Oper}{ac:Value}{e3:List Frame}(bi:av[i]? =some T)(bb:Region.wanted T (yielded av tmps)=true)
 (Y:(execOp (lG tmps) T).run C.P w= .ok .recover b5)
 (ba:Go.tryRecover (cz U fn bj aD none tmps (.inRegion av (i::k)::bB) .run) am=some (ac,e3)\/(Go.tryRecover (cz U fn bj aD none tmps (.inRegion av (i::k)::bB) .run) am=none/\ac= .nilIface/\e3=am)):
 step C.P (lone (cz U fn bj aD none tmps (.inRegion av (i::k)::bB) .run) am w)= .next (lone ((cz U fn bj aD none tmps (.inRegion av (i::k)::bB) .run).finish ac) e3 b5):=
 step_lone_go (by
  rw[Ju bi bb (.inl rfl)]
  have D:(cz U fn bj aD none tmps (.inRegion av (i::k)::bB) .run).roundOf=none:=rfl
  rcases ba with ba|⟨ba,rfl,rfl⟩
  ·simp[stepG.apply,Y,D,ba]
  ·simp[stepG.apply,Y,D,ba])
def aDo{b:Nat}(Y:(Instr.beginRound (U b).cO).run C.P w= .ok () b5):
 step C.P (lone (cz U fn bj aD (some b) tmps (.beginRound::bB) .run) am w)= .next (lone (cz U fn bj aD (some b) tmps bB .run) am b5):=
 step_lone_go (by rw[m9];simp[stepG.exec,stepG.apply,cz,Y,Frame.finish])
def aDt{b:Nat}{jo:Option Code}(Y:(Instr.endLoop b).run C.P w= .ok jo b5):
 step C.P (lone (cz U fn bj aD ro tmps (.endRangeFunc b::bB) .run) am w)= .next (lone (cz U fn bj aD ro tmps ((jo.map Item.code).toList++bB) .run) am b5):=
 step_lone_go (by rw[m9];simp[stepG.exec,cz,Y])
def ajv{f:Operand}{params:Array Tmp}{assign body:Code}{b:Nat}{mark:List Deferred}{g:Nat}{args:Array Value}{jX:World}{d:Deferred}
 (bA:(Instr.enterLoop fn tmps params assign body (ro.map λk=>(U k).cO)).run C.P w= .ok (b,mark) jX)
 (lb:(resolve (lG tmps) {callee:= .value f,args:= #[.const (.func (.yield b) #[] #[])],argTypes:= #[]} 0).run C.P jX= .ok d jX)(UK:(invoke d.target d.args).run C.P jX= .ok (.enter g args) b5):
 step C.P (lone (cz U fn bj aD ro tmps (.code (.rangeFunc f params assign body)::bB) .run) am w)=
  .next (lone (Frame.enter C.P g args .normal) ({cz U fn bj aD ro tmps (.inRangeFunc b::bB) .run with defers:=mark++bj.map (mo U)}::am) b5):=
 step_lone_go (by
  rw[m9]
  have cu:({cz U fn bj aD ro tmps (.inRangeFunc b::bB) .run with defers:=mark++bj.map (mo U)}:Frame).eval=lG tmps:=by rw[KA];rfl
  simp only[cz]at cu
  simp[stepG.exec,cz,Sem.runT_eq,bA,GStep.bare_after,stepG.apply,cu,Sem.run_bind,lb,UK,Result.andThen])
def aDG{jo:Option Code}{b:Nat}{ac:Value}{g:Frame}(aH:(jo=none/\bB=[])\/(jo=some .ret/\∃u,bB= .code .ret::u)\/(∃id u,jo=some (.exit id)/\bB= .code (.exit id)::u/\Go.exitTo id u=none))
 (bA:(Instr.endRound (U b).cO jo).run C.P w= .ok ac b5):
 step C.P (lone (cz U fn bj false (some b) tmps bB .run) (g::am) w)= .next (lone (g.finish ac) am b5):=
 step_lone_go (by
  rw[m9]
  rcases aH with ⟨rfl,rfl⟩|⟨rfl,u,rfl⟩|⟨id,u,rfl,rfl,af⟩
  ·simp[stepG.exec,cz,Sem.runT_eq,bA,GStep.bare_after,doReturn]
  ·simp[stepG.exec,cz,Sem.runT_eq,bA,GStep.bare_after,doReturn]
  ·simp[stepG.exec,cz,Sem.runT_eq,bA,GStep.bare_after,doReturn,af])
def aDK{r:Nat}{cB:List E}{ds:List h8}{qE:List Deferred}{mode:FrameMode}{dJ:List h8}(bn:mode≠ .run)(bA:(Instr.takeDeferred (U r).cO).run C.P w= .ok qE b5)(aJ:qE++ds.map (mo U)=dJ.map (mo U)):
 step C.P (lone (cz U fn (⟨.collected r,cB⟩::ds) aD ro tmps bB mode) am w)= .next (lone (cz U fn dJ aD ro tmps bB mode) am b5):=
 step_lone_go (by
  cases mode with
  |run=>exact absurd rfl bn
  |returning=>simp[stepG,unwind,cz,mo,D6,Sem.runT_eq,bA,GStep.bare_after,aJ]
  |panicking fK=>simp[stepG,unwind,cz,mo,D6,Sem.runT_eq,bA,GStep.bare_after,aJ])
end
section
variable{C:aN}{U dh dY:dd}{ae dJ ea:Nat->Prop}{h R:S ag}{j an bx:Nat}{w b5:World}{n aq:Nat}{av:Array Oper}
variable{bq:World}{bJ:Nat}{bX:List Frame}{v:E}{ah:hX}
variable{fn:Nat}{bj:List h8}{aD:Bool}{ro:Option Nat}{cs:List g6}{I:S E}{tmps:Array Value}{bB:List Item}{am:List Frame}{bO aG:Nat}
structure jH(C:aN)(bq:World)(bJ:Nat)(bX:List Frame)(fn aq:Nat)(bj:List h8)(aD:Bool)(ro:Option Nat)(cs:List g6)(h:S ag)(j:Nat)(U:dd)(ae:Nat->Prop)(w:World)(dj:Nat)(am:List Frame):Prop where
 Y:dq C U ae h j bq.heap.size w
 lO:Below bq.heap.size bq w
 ir:ti C U ae
 kF:dj<=j
 ip:xc C ae fn aq bj ro
 bot:cs=[]->fn=bJ/\aD=false/\ro=none
 cs:pC C U ae h bJ bX dj cs am
def jH.ez{dj:Nat}(a:jH C bq bJ bX fn aq bj aD ro cs h j U ae w dj am):bq.heap.size<=w.heap.size:=a.lO.size
def jH.ext{dj:Nat}(a:jH C bq bJ bX fn aq bj aD ro cs h j U ae w dj am)(Y:dq C dh dJ R an bq.heap.size b5)(af:jb C dj U ae h bq.heap.size w dh dJ R b5)(aF:j<=an):
 jH C bq bJ bX fn aq bj aD ro cs R an dh dJ b5 dj am:=
 ⟨Y,a.lO.trans af.below,a.ir.ab af.jr af.kf,ZD a.kF aF,a.ip.ab af.kf,a.bot,a.cs.ab af⟩
def jH.state{dj:Nat}{todo:List d0}(a:jH C bq bJ bX fn aq bj aD ro cs h j U ae w dj am)(ba:DY C U ae h dj j n aq I tmps todo bB):
 DX C bq bJ bX .run todo fn n aq bj aD ro cs I h j U ae w dj tmps bB am:=⟨a.Y,a.lO,a.ir,a.kF,a.ip,trivial,a.bot,a.cs,ba⟩
def DX.apH{todo:List d0}{dj:Nat}(a:DX C bq bJ bX .run todo fn n aq bj aD ro cs I h j U ae w dj tmps bB am):jH C bq bJ bX fn aq bj aD ro cs h j U ae w dj am/\DY C U ae h dj j n aq I tmps todo bB:=
 ⟨⟨a.Y,a.lO,a.ir,a.kF,a.ip,a.bot,a.cs⟩,a.todo⟩
def pC.inv{dj aS:Nat}{todo:List d0}{bW:lJ}(a:pC C U ae h bJ bX dj (⟨fn,aS,aq,I,todo,bj,bW,aD,ro⟩::cs) am):
 ∃bO tmps bB e3,am=cz U fn bj aD ro tmps bB (g8 U bW)::e3/\BQ C U ae h bO dj aS aq I tmps bW todo bB/\ru ae bW/\xc C ae fn aq bj ro/\(cs=[]->fn=bJ/\aD=false/\ro=none)/\bO<=dj/\pC C U ae h bJ bX bO cs e3:=by
 cases a with
 |cons H bn M aB bw b1=>exact⟨_,_,_,_,rfl,H,bn,M,aB,bw,b1⟩
def adr(gF:om C bq bJ bX ah){f:Nat}{args:List E}{dj:Nat}{Ec:Bool}{uO:List g6}{xF:List Frame}(Y:dq C U ae h j bq.heap.size w)(aj:Below bq.heap.size bq w)(ir:ti C U ae)(az:dj<=j)
 (iz:pC C U ae h bJ bX dj uO xF)(OU:uO=[]->f=bJ/\Ec=false)(hm:ey ae args)(a:o5 ah C f args Ec uO h j=some v):Ends C bq bJ bX v (lone (Frame.enter C.P f (b3 U args).toArray (if Ec then .deferred else .normal)) xF w):=by
 unfold o5 at a
 split at a
 ·rename_i func b4
  split at a
  ·rename_i c aA
   simp only[mW,fb,Zq]at a
   obtain⟨⟨⟨H,M⟩,al⟩,a⟩:=a
   have H:=j2 H
   have qR:Frame.enter C.P f (b3 U args).toArray (if Ec then .deferred else .normal)=cz U f [] Ec none ((b3 U args).toArray++Array.replicate (func.ntmps-args.length) Go.undef) [.code c] (g8 U .run):=by
    simp[Frame.enter,cz,g8,b4,aA,kA]
   rw[qR]
   refine gF _ _ _ _ _ _ _ _ _ _ _ _ v a U ae w dj _ _ xF ?_
   refine⟨Y,aj,ir,az,⟨Zs,Zs,func,b4,al⟩,trivial,λD=>⟨(OU D).1,(OU D).2,rfl⟩,iz, .plain (.cons (.code M) .nil) ⟨?_, ?_⟩⟩
   ·simp[kA];omega
   ·intro t ac _ bc
    rw[m5]at bc
    have c3:t<args.length:=(Zb.1 bc).1
    refine⟨?_,Ci hm bc⟩
    rw[YB (by simpa[kA]using c3)]
    simp[B4,bc]
  ·simp at a
 ·simp at a
def N9(gF:om C bq bJ bX ah){f:Nat}{args:List E}{dj:Nat}{uO:List g6}{xF:List Frame}(Y:dq C U ae h j bq.heap.size w)(aj:Below bq.heap.size bq w)(ir:ti C U ae)(az:dj<=j)
 (iz:pC C U ae h bJ bX dj uO xF)(OU:uO=[]->f=bJ)(hm:ey ae args)(a:o5 ah C f args false uO h j=some v):Ends C bq bJ bX v (lone (Frame.enter C.P f (b3 U args).toArray .normal) xF w):=
 adr (Ec:=false) gF Y aj ir az iz (λD=>⟨OU D,rfl⟩) hm a
def HG(gF:om C bq bJ bX ah){eN:d0}{u:List d0}{ac:E}(aE:jH C bq bJ bX fn aq bj aD ro cs h j U ae w bO am)(aC:ng C U ae h bO aG n aq I tmps (eN::u) bB)(tT:aG<=j)(Ck:co ae ac)
 (a:(match pR eN ac with|some h4=>ah .run (h4::u) ⟨fn,n,aq,bj,aD,ro,cs⟩ I h j|none=>none)=some v):
 Ends C bq bJ bX v (lone ((cz U fn bj aD ro tmps bB .run).finish (aT U ac)) am w):=by
 obtain⟨aG7,wE,h4,h7,iw,bC,cu,fL,j5⟩:=asf (fn:=fn) (bj:=bj) (aD:=aD) (ro:=ro) (mode:= .run) aC tT Ck
 cases bC
 rw[cu]at a
 rw[fL]
 exact gF _ _ _ _ _ _ _ _ _ _ _ _ v a U ae w bO h7 iw am (aE.state j5)
def ayC{f:Nat}{args:List E}{ac:E}(cP:Env C bq dY ea)(aj:Below bq.heap.size bq w)(bi:C.hz f args=some ac):
 (
  (∀ja,(callFunc f (b3 ja args).toArray).run C.P w= .ok (.value (aT ja ac)) w)\/
  ((∀ja,(callFunc f (b3 ja args).toArray).run C.P w= .ok (.enter f (b3 ja args).toArray) w)/\∀ja,Calls C.P f (b3 ja args).toArray w λD b5=>D= .returned (aT ja ac)/\Below w.heap.size w b5))/\∀dp,co dp ac:=by
 obtain⟨⟨bP,b2⟩,cI,dL⟩:=cP.hz.val f args ac bi
 refine⟨?_,b2⟩
 rcases cP.hz.ok f args ac bi dY w aj with a|⟨H,M⟩
 ·left;intro ja;rw[cI ja dY,bP ja dY];exact a
 ·right;exact⟨λja=>by rw[cI ja dY];exact H,λja=>by rw[cI ja dY,bP ja dY];exact M⟩
mutual
def QS:∀(d:Nat) (x e:E),E.same d x e=true->x=e
 |0,_,_,a=>by simp[E.same]at a
 |d+1,x,e,a=>by
  unfold E.same at a
  split at a<;>(try(cases a;done))
  ·simp at a;rw[a]
  ·simp at a;rw[a.1,a.2]
  ·rw[(Mv _ _).1 a]
  ·simp only[Zq]at a;rw[Zn a.1,Zn a.2]
  ·rfl
  ·simp only[Zq]at a;rw[Zn a.1.1.1,Zn a.1.1.2,Zn a.1.2,Zn a.2]
  ·simp only[Zq]at a;rw[Zn a.1.1.1,Zn a.1.1.2,Zn a.1.2,Zn a.2]
  ·rfl
  ·rw[Zn a]
  ·rfl
  ·simp only[Zq,Zh]at a
   rw[a.1.1,MN d _ _ a.1.2,MN d _ _ a.2]
  ·rfl
  ·simp only[Zq]at a;rw[Zn a.1,QS d _ _ a.2]
  ·rfl
  ·rw[MN d _ _ a]
  ·rw[MN d _ _ a]
def MN:∀(d:Nat) (x e:List E),oI (E.same d) x e=true->x=e
 |_,[],[],_=>rfl
 |_,[],_::_,a=>by simp[oI]at a
 |_,_::_,[],a=>by simp[oI]at a
 |d,F::x,b::e,a=>by
  simp only[oI,Zq]at a
  rw[QS d _ _ a.1,MN d _ _ a.2]
end
def Ends.same{dv:Machine}{f9:E}(bA:∀U,aT U f9=aT U v)(a:Ends C bq bJ bX f9 dv):Ends C bq bJ bX v dv:=by
 obtain⟨U,b5,fr,H,M,al⟩:=a
 exact⟨U,b5,fr,H,by rw[<-bA];exact M,al⟩
def asE{eN:d0}{u:List d0}{cd:iV}:∀(k:List (E×S ag)) (v:E),Ak ah eN u cd I j k=some v->∀ac R,(ac,R)∈k->
 ∃f9,(match pR eN ac with|some h4=>ah .run (h4::u) cd I R j|none=>none)=some f9/\∀U,aT U f9=aT U v:=by
 intro k
 induction k with
 |nil=>intro v a;simp[Ak]at a
 |cons p k m2=>
  intro v a ac R bn
  obtain⟨F,g7⟩:=p
  cases k with
  |nil=>
   simp only[Ak]at a
   simp at bn
   obtain⟨rfl,rfl⟩:=bn
   exact⟨v,a,λ_=>rfl⟩
  |cons ak k=>
   simp only[Ak]at a
   split at a
   ·rename_i h4 avu
    split at a
    ·rename_i x e af z
     simp only[fb,Zf]at a
     obtain⟨ay,rfl⟩:=a
     rcases Zu.1 bn with D|bn
     ·cases D
      exact⟨x,by rw[avu];exact af,λ_=>rfl⟩
     ·obtain⟨f9,bP,b2⟩:=m2 e z ac R bn
      exact⟨f9,bP,λU=>by rw[b2 U,QS _ _ _ ay]⟩
    ·simp at a
   ·simp at a
def aEf{ac:E}{dg:List g6}{dj:Nat}{bB:List Item}(iz:pC C U ae h bJ bX dj cs am)(a:Dy aD cs=some (ac,dg)):
 ∃e3,pC C U ae h bJ bX dj dg e3/\co ae ac/\(dg=[]->cs=[])/\
  (Go.tryRecover (cz U fn bj aD none tmps bB .run) am=some (aT U ac,e3)\/(Go.tryRecover (cz U fn bj aD none tmps bB .run) am=none/\aT U ac= .nilIface/\e3=am)):=by
 unfold Dy at a
 rw[fw]at a
 cases aD with
 |false=>
  simp at a
  obtain⟨rfl,rfl⟩:=a
  exact⟨am,iz,trivial,id, .inr ⟨by simp[Go.tryRecover,cz],rfl,rfl⟩⟩
 |true=>
  simp only[ZG]at a
  cases cs with
  |nil=>simp at a
  |cons c rest=>
   obtain⟨he,aS,lz,da,w2,gD,nA,j4,lX⟩:=c
   obtain⟨sR,h7,iw,e3,rfl,bR,cm,cX,d4,dN,dc⟩:=iz.inv
   have same:(ac,dg)=(E.nilIface,(⟨he,aS,lz,da,w2,gD,nA,j4,lX⟩:g6)::rest)->(∀v Di,g8 U nA≠ .panicking (⟨v,false,false⟩::Di))->
    ∃TF,pC C U ae h bJ bX dj dg TF/\co ae ac/\(dg=[]->(⟨he,aS,lz,da,w2,gD,nA,j4,lX⟩:g6)::rest=[])/\
     (Go.tryRecover (cz U fn bj true none tmps bB .run) (cz U he gD j4 lX h7 iw (g8 U nA)::e3)=some (aT U ac,TF)\/
      (Go.tryRecover (cz U fn bj true none tmps bB .run) (cz U he gD j4 lX h7 iw (g8 U nA)::e3)=none/\aT U ac= .nilIface/\TF=cz U he gD j4 lX h7 iw (g8 U nA)::e3)):=by
    intro D dn
    simp only[YA]at D
    obtain⟨rfl,rfl⟩:=D
    refine⟨_,iz,trivial,λD=>(by cases D), .inr ⟨?_,rfl,rfl⟩⟩
    simp only[Go.tryRecover,cz,ZG]
   simp only at a
   split at a
   ·rename_i v Di
    simp only[Zf,YA]at a
    obtain⟨rfl,rfl⟩:=a
    have bV:ru ae (.panicking (⟨v,true⟩::Di)):=by
     intro p ay
     rcases Zu.1 ay with rfl|ay
     ·exact cm ⟨v,false⟩ (Zv ..)
     ·exact cm p (Zt _ ay)
    refine⟨cz U he gD j4 lX h7 iw (g8 U (.panicking (⟨v,true⟩::Di)))::e3, .cons (bW:= .panicking (⟨v,true⟩::Di)) bR bV cX d4 dN dc,cm ⟨v,false⟩ (Zv ..),λD=>(by cases D), .inl ?_⟩
    simp[Go.tryRecover,cz,g8,uL]
   ·rename_i jQ
    simp only[Zf]at a
    refine same a.symm λv Di D=> ?_
    cases nA with
    |run=>cases D
    |returning=>cases D
    |panicking fK=>
     cases fK with
     |nil=>cases D
     |cons p dm=>
      obtain⟨aBO,aBD⟩:=p
      cases aBD with
      |true=>simp[g8,uL]at D
      |false=>exact jQ aBO dm rfl
def aCV{aS:Nat}:∀(dm:List Nat) (cB:List E) (I da:S E) (tmps:Array Value),j0 U ae aS aq I tmps->ey ae cB->ys aS dm cB I=some da->
 dm.length=cB.length/\j0 U ae aS aq da ((dm.zip (b3 U cB)).foldl (λtmps p=>tmps.setIfInBounds p.1 p.2) tmps):=by
 intro dm
 induction dm with
 |nil=>
  intro cB I da tmps ba _ a
  cases cB with
  |nil=>simp[ys]at a;subst a;exact⟨rfl,by simpa[b3]using ba⟩
  |cons F cB=>simp[ys]at a
 |cons p dm axQ=>
  intro cB I da tmps ba bV a
  cases cB with
  |nil=>simp[ys]at a
  |cons F cB=>
   simp only[ys,fb]at a
   obtain⟨ay,a⟩:=a
   have ay:=l6 ay
   have Vw:j0 U ae aS aq (I.set p (some F)) (tmps.setIfInBounds p (aT U F)):=by
    refine⟨by simp[ba.size],λt ac az bc=> ?_⟩
    rw[S.jP]at bc
    by_cases D:p=t
    ·subst D
     simp at bc;subst bc
     exact⟨by simp[ba.size,ay],bV.1⟩
    ·simp[D]at bc
     obtain⟨H,M⟩:=ba.val t ac az bc
     exact⟨by rw[Array.getElem?_setIfInBounds_ne D];exact H,M⟩
   obtain⟨H,M⟩:=axQ cB _ da _ Vw bV.2 a
   exact⟨by simp[H],by simpa[b3]using M⟩
def acg(cP:Env C bq dY ea)(gF:om C bq bJ bX ah){eN:d0}{u:List d0}{i:Nat}{k:List Nat}{T:Oper}{r:ed}(aE:jH C bq bJ bX fn aq bj aD ro cs h j U ae w bO am)
 (aC:ng C U ae h bO aG n aq I tmps (eN::u) (.inRegion av (i::k)::bB))(Ph:bO<=aG)(tT:aG<=j)(bi:av[i]? =some T)(bb:Region.wanted T (yielded av tmps)=true)
 (mX:jc C U ae h j bq.heap.size w (execOp (lG tmps) T) r)(a:o1 r ah C eN u ⟨fn,n,aq,bj,aD,ro,cs⟩ I h j=some v):
 Ends C bq bJ bX v (lone (cz U fn bj aD ro tmps (.inRegion av (i::k)::bB) .run) am w):=by
 have oC:bO<=j:=ZD Ph tT
 have done:∀v ac R an,BF C U ae h j bq.heap.size w (execOp (lG tmps) T) ac R an->(match pR eN ac with|some h4=>ah .run (h4::u) ⟨fn,n,aq,bj,aD,ro,cs⟩ I R an|none=>none)=some v->
  Ends C bq bJ bX v (lone (cz U fn bj aD ro tmps (.inRegion av (i::k)::bB) .run) am w):=by
  intro v ac R an aJ a
  obtain⟨dh,dJ,b5,vn,c2,cM,e2,jh,gt,ht⟩:=aJ
  have Fb:vn= .value (aT dh ac)\/(vn= .skip/\aT dh ac=Go.undef):=cM.imp id λ⟨F,b⟩=>⟨F,by rw[b];rfl⟩
  refine .head (Gb bi bb c2 Fb) ?_
  rw[<-IW gt.jr aE.ip]
  exact HG gF (aE.ext jh (gt.mono oC) ht) (aC.ab (gt.mono tT)) (ZD tT ht) e2 a
 cases r with
 |val ac=>exact done v ac h j mX a
 |fH ac R an=>exact done v ac R an mX a
 |enter f args=>
  obtain⟨H,M⟩:=mX
  refine .head (aju bi bb H) ?_
  simp only[o1]at a
  refine N9 gF aE.Y aE.lO aE.ir tT ?_ (λD=>by simp[Ge]at D) M a
  exact .cons (bW:= .run) aC trivial aE.ip aE.bot Ph aE.cs
 |known f args ac=>
  obtain⟨H,M,al⟩:=mX
  obtain⟨aH,Ck⟩:=ayC cP aE.lO H
  simp only[o1]at a
  rcases aH with aH|⟨jx,hD⟩
  ·rw[aH U]at M
   refine .head (Gb bi bb M (.inl rfl)) ?_
   exact HG gF aE aC tT (Ck ae) a
  ·rw[jx U]at M
   refine .head (aju bi bb M) ?_
   obtain⟨D,b5,fr,⟨rfl,Lc⟩,aw8,_,Pf⟩:=hD U (cz U fn bj aD ro tmps (.inRegion av (i::k)::bB) .run::am)
   refine .steps aw8 (.head (step_leave_returned Pf) ?_)
   have af:jb C aG U ae h bq.heap.size w U ae h b5:=⟨λ_ _=>rfl,λ_ a=>a,λ_ a=> .inl a,λ_ _ _=>rfl,Lc.mono aE.ez⟩
   exact HG gF (aE.ext (aE.Y.later Lc) (af.mono Ph) (Zj _)) (aC.ab af) tT (Ck ae) a
 |round b args=>
  obtain⟨H,M,al⟩:=mX
  simp only[o1]at a
  split at a
  ·rename_i st rX he aS lz da params assign body gD ih
   split at a
   ·rename_i aoW it
    obtain⟨h7,hc,nB,sZ,I4,Dd,ui,De⟩:=aE.Y.obj b _ ih al
    obtain⟨cE,cA⟩:=aCV params args da aoW h7 nB M it
    rw[run_yield hc (by simp[kA,cE])]at H
    refine .head (aDF bi bb H) ?_
    have qR:Frame.round (U b).cO he (((params.toArray).zip (b3 U args).toArray).foldl (λtmps (t,F)=>tmps.setIfInBounds t F) h7) assign body .normal=
     cz U he [] false (some b) ((params.zip (b3 U args)).foldl (λtmps p=>tmps.setIfInBounds p.1 p.2) h7) [.code assign, .beginRound, .code body] (g8 U .run):=by
     simp[Frame.round,cz,g8]
    simp only at qR ⊢
    rw[qR]
    refine gF _ _ _ _ _ _ _ _ _ _ _ _ v a U ae w aG _ _ _ ?_
    refine⟨aE.Y,aE.lO,aE.ir,tT,⟨Zs,λk az=>(by cases az;exact al),De⟩,trivial,λD=>by simp[Ge]at D, .cons (bW:= .run) aC trivial aE.ip aE.bot Ph aE.cs, ?_⟩
    exact .plain (.cons (.code I4) (.cons .begin (.cons (.code Dd) .nil))) cA
   ·simp at a
  ·simp at a
 |defer d=>
  obtain⟨H,M⟩:=mX
  simp only[o1]at a
  cases ro with
  |some b=>simp at a
  |none=>
   simp only at a
   refine .head (aDr bi bb H) ?_
   have avg:xc C ae fn aq (d::bj) none:=⟨λl8 aJ=>by
    rcases Zu.1 aJ with rfl|aJ
    ·exact M
    ·exact aE.ip.bj l8 aJ,aE.ip.ro,aE.ip.fn⟩
   exact HG (ac:=undef) gF ⟨aE.Y,aE.lO,aE.ir,aE.kF,avg,aE.bot,aE.cs⟩ aC tT trivial a
 |recover=>
  simp only[o1]at a
  cases ro with
  |some b=>simp at a
  |none=>
   simp only at a
   split at a
   ·rename_i ac dg awJ
    obtain⟨e3,bP,b2,cI,dL⟩:=aEf (fn:=fn) (bj:=bj) (tmps:=tmps) (bB:= .inRegion av (i::k)::bB) aE.cs awJ
    refine .head (aDB bi bb mX dL) ?_
    exact HG (ac:=ac) gF ⟨aE.Y,aE.lO,aE.ir,aE.kF,aE.ip,λD=>aE.bot (cI D),bP⟩ aC tT b2 a
   ·simp at a
 |panic ac=>
  obtain⟨H,M⟩:=mX
  simp only[o1]at a
  cases ro with
  |some b=>simp at a
  |none=>
   simp only at a
   refine .head (aDA bi bb H) ?_
   refine gF _ _ _ _ _ _ _ _ _ _ _ _ v a U ae w bO tmps _ am ?_
   exact⟨aE.Y,aE.lO,aE.ir,aE.kF,aE.ip,λp ay=>by simp at ay;subst ay;exact M,aE.bot,aE.cs,aC.drop⟩
 |fork bS=>
  obtain⟨ac,R,bn,aJ⟩:=mX
  simp only[o1]at a
  obtain⟨f9,bP,b2⟩:=asE bS v a ac R bn
  exact .same b2 (done f9 ac R j aJ bP)
def ahU{T:Op}{eF:Operand->Option E}{b:Nat}{ac:E}{cT:ag}{dp:Nat->Prop}(a:ri T C eF b=some (ac,cT)):xh C dp cT:=by
 have key:∀k:List E,xh C dp (.cells (S.ofList k 0 .nil) k.length .own):=λk=>⟨λ_ _ _ a=>(by cases a),λ_ _ _ a=>(by cases a;exact I6)⟩
 have ayA:xh C dp (.map [] 0):=⟨λ_ _ _ a=>(by cases a),λ_ _ _ a=>(by cases a)⟩
 cases T<;>simp only[ri]at a<;>(try(cases a;done))
 case alloc t=>unfold FD at a;split at a<;>simp at a;rw[<-a.2];exact key _
 case box t x=>unfold Mm at a;split at a<;>simp at a;rw[<-a.2];exact key _
 case buildSlice t len kG=>
  unfold Mn at a
  split at a
  ·split at a
   ·simp only[fb]at a
    obtain⟨_,a⟩:=a
    split at a<;>simp at a
    rw[<-a.2];exact key _
   ·simp at a
  ·simp at a
 case makeMap t r=>cases r<;>simp at a;rw[<-a.2];exact ayA
def arh{i:Nat}(aG:av.toList.drop i=[]):av.size<=i:=by simpa using aG
def ash{aq:Nat}{au:List (Nat×E)}:∀(k:List Oper) (i:Nat) (wr:List (Nat×Nat)) (oY I da:S E),(∀t,fR aq t=true->I.get t=match ev wr t with|some V=>ev au V|none=>oY.get t)->
 Ah au (lQ aq k i) I=some da->∀t,fR aq t=true->da.get t=match ev (w5 k i wr) t with|some V=>ev au V|none=>oY.get t:=by
 intro k
 induction k with
 |nil=>intro i wr oY I da it a;simp[lQ,Ah]at a;subst a;exact it
 |cons T k ah=>
  intro i wr oY I da it a
  simp only[lQ]at a
  simp only[w5]
  split at a
  ·rename_i d aJ
   rw[fw]at a
   split at a
   ·rename_i aj
    simp only[Ah]at a
    split at a
    ·rename_i ac bc
     simp only[hf]at a
     refine ah (i+1) _ oY _ da (λt ba=> ?_) a
     rw[S.jP,Hb,aJ]
     by_cases D:d=t
     ·subst D;simp[bc]
     ·simp[D];exact it t ba
    ·simp at a
   ·rename_i aj
    refine ah (i+1) _ oY _ da (λt ba=> ?_) a
    rw[Hb,aJ]
    have D:d≠t:=λD=>aj (by rw[D];exact ba)
    simp[D];exact it t ba
  ·rename_i aJ
   refine ah (i+1) _ oY _ da (λt ba=> ?_) a
   rw[Hb,aJ]
   simp;exact it t ba
def adQ{au:List (Nat×E)}{I da:S E}(bD:pI U ae aq (λ_=>True) (iS av av.size) au I tmps)(eA:tmps.size=n)(a:Ah au (lQ aq av.toList 0) I=some da):j0 U ae n aq da tmps:=by
 refine⟨eA,λt ac az bc=> ?_⟩
 have:=ash (aq:=aq) (au:=au) av.toList 0 [] I I da (λ_ _=>rfl) a t az
 rw[bc]at this
 apply bD t ac trivial
 have D:iS av av.size=w5 av.toList 0 []:=by unfold iS;rw[ZA Zs]
 rw[D]
 cases bF:ev (w5 av.toList 0 []) t with
 |some V=>rw[bF]at this;exact this.symm
 |none=>rw[bF]at this;exact⟨az,this.symm⟩
def ajl(cP:Env C bq dY ea)(gF:om C bq bJ bX ah){u:List d0}{fin:List (Nat×Nat)}:∀(rest:List fI) (au:List (Nat×E)) (h:S ag) (j:Nat) (U:dd) (ae:Nat->Prop) (w:World) (tmps:Array Value) (k:List Nat) (am:List Frame),
 jH C bq bJ bX fn aq bj aD ro cs h j U ae w bO am->mj C U ae aq u bB->RV C U ae n aq av au rest fin I tmps k->
 Bn rest ⟨ah,av,fin,u,⟨fn,n,aq,bj,aD,ro,cs⟩⟩ C I au h j=some v->Ends C bq bJ bX v (lone (cz U fn bj aD ro tmps (.inRegion av k::bB) .run) am w):=by
 intro rest
 induction rest with
 |nil=>
  intro au h j U ae w tmps k am aE aH aC a
  obtain⟨i,aG,rfl,aA,rfl,bD,eA⟩:=aC
  have O2:av.size<=i:=by
   cases aJ:av.toList.drop i with
   |nil=>exact arh aJ
   |cons T bS=>
    rw[aJ]at aA
    obtain⟨_,_,r,_,_,_,_,_,D⟩:=Ss aA
    cases D
  have:i=av.size:=Zo
  subst this
  simp only[zx,List.range'_zero]
  have cF:Ky ⟨ah,av,lQ aq av.toList 0,u,⟨fn,n,aq,bj,aD,ro,cs⟩⟩ C I au h j=some v:=a
  simp only[Ky,Oe,pp]at cF
  split at cF
  ·rename_i da it
   refine .head ajw ?_
   exact gF _ _ _ _ _ _ _ _ _ _ _ _ v cF U ae w bO tmps bB am (aE.state (.plain aH (adQ bD eA it)))
  ·simp at cF
 |cons x rest IE=>
  intro au h j U ae w tmps k am aE aH aC a
  obtain⟨i,aG,rfl,aA,rfl,bD,eA⟩:=aC
  cases aJ:av.toList.drop i with
  |nil=>rw[aJ]at aA;simp[tt]at aA
  |cons T bS=>
   rw[aJ]at aA
   obtain⟨g,op,r,c5,dC,ge,ou,ke,D⟩:=Ss aA
   cases D
   obtain⟨c2,cM,e2⟩:=SW aJ
   rw[<-M7 c2, <-cM]at ke
   have Ir:List.range' i (av.size-i)=i::List.range' (i+1) (av.size-(i+1)):=by
    rw[show av.size-i=(av.size-(i+1))+1 by omega,List.range'_succ]
   rw[Ir]
   have pX:=adk ge
   have x0:∀(dh:dd) (dJ:Nat->Prop) (ac:E),pI dh dJ aq (λ_=>True) (iS av i) au I tmps->co dJ ac->RV C dh dJ n aq av ((i,ac)::au) rest (lQ aq av.toList 0) I (q4 tmps T.dst (aT dh ac)) (List.range' (i+1) (av.size-(i+1))):=by
    intro dh dJ ac AY Ck
    exact⟨i+1,Zo,rfl,ke,rfl,AY.put c2 (by rw[eA];exact pX) Ck,by rw[QG];exact eA⟩
   have kR:∀(dh:dd) (ac:Value),(cz dh fn bj aD ro tmps (.inRegion av (i::List.range' (i+1) (av.size-(i+1)))::bB) .run).finish ac=cz dh fn bj aD ro (q4 tmps T.dst ac) (.inRegion av (List.range' (i+1) (av.size-(i+1)))::bB) .run:=by
    intro dh ac
    rw[Og (g:=cz dh fn bj aD ro tmps _ .run) rfl c2];rfl
   have cF:FT i g op rest (Bn rest) ⟨ah,av,lQ aq av.toList 0,u,⟨fn,n,aq,bj,aD,ro,cs⟩⟩ C I au h j=some v:=a
   simp only[FT,Rb,pp]at cF
   split at cF
   ·rename_i XO km
    have ub:=Rf aG c5 bD (λ_ _ _ _ _=>trivial) (Sub.refl au) km
    cases XO with
    |false=>
     simp only[Zw,ZB]at cF
     refine .head (Xn c2 ub) ?_
     rw[kR]
     exact IE _ _ _ _ _ _ _ _ _ aE aH (x0 U ae undef bD trivial) cF
    |true=>
     simp only[ZG]at cF
     have AG:jY U ae (lG tmps) (jM (iS av i) au I) T.op.operands.toList:=adC bD (λ_ _=>trivial) ou aE.ir
     rw[Qw]at cF
     cases pY:nx op with
     |iD=>
      simp only[pY,pp]at cF
      split at cF
      ·rename_i ac bc
       obtain⟨bf,cf⟩:=ahH aE.Y AG dC bc
       refine .head (Gb c2 ub bf (.inl rfl)) ?_
       rw[kR]
       exact IE _ _ _ _ _ _ _ _ _ aE aH (x0 U ae ac bD cf) cF
      ·simp at cF
     |make=>
      simp only[pY,pp]at cF
      split at cF
      ·rename_i res lb
       simp only[Qa,mW]at lb
       split at lb
       ·rename_i ac cT bn
        simp only[hf,Zf]at lb
        subst lb
        have pe:=sX aE.Y
        obtain⟨pn,es,fk,jT⟩:=ahT (w:=w) (U:=U) pe AG (Qb dC bn)
        have af:jb C bO U ae h bq.heap.size w (gH U j ⟨w.heap.size,0,0⟩) (add ae j) (bm C h j (some cT)) (w.alloc pn):=
         ⟨r9 pe,λ_ a=> .inl a,λx a=>a.elim .inl (λa=> .inr (zz aE.kF)),λx af c3=>by rw[gc _ aE.Y.a8,Zg (zz aE.kF)],Below.alloc (Below.refl _ _) aE.ez _⟩
        have nl:=aE.Y.alloc aE.Y.a8 (Yn _) (Yd _) pe aE.ez rfl (R:=bm C h j (some cT)) (by rw[gc _ aE.Y.a8,Zp rfl]) (λx af=> .inl (by rw[gc _ aE.Y.a8,Zg af])) jT (ahU (Qb dC bn))
        refine .head (Gb c2 ub es (.inl rfl)) ?_
        rw[kR, <-IW af.jr aE.ip]
        exact IE _ _ _ _ _ _ _ _ _ (aE.ext nl af (Yd _)) (aH.ab af.jr af.kf) (x0 _ _ ac (bD.ab af.jr af.kf) fk) cF
       ·simp at lb
      ·simp at cF
     |fC=>
      simp only[pY,pp]at cF
      split at cF
      ·rename_i res lb
       have mX:=afi aE.Y aE.ez cP.k0 AG dC lb
       have axp:ng C U ae h bO j n aq I tmps (.uB av au i rest (lQ aq av.toList 0)::u) (.inRegion av (i::List.range' (i+1) (av.size-(i+1)))::bB):=
        .seq aH ⟨T,c2,pX,rfl,ke,rfl,bD,eA⟩
       have now:∀ac R an,BF C U ae h j bq.heap.size w (execOp (lG tmps) T) ac R an->Bn rest ⟨ah,av,lQ aq av.toList 0,u,⟨fn,n,aq,bj,aD,ro,cs⟩⟩ C I ((i,ac)::au) R an=some v->
        Ends C bq bJ bX v (lone (cz U fn bj aD ro tmps (.inRegion av (i::List.range' (i+1) (av.size-(i+1)))::bB) .run) am w):=by
        intro ac R an aJ a
        obtain⟨dh,dJ,b5,vn,bC,cu,fL,j5,qI,Ku⟩:=aJ
        have Fb:vn= .value (aT dh ac)\/(vn= .skip/\aT dh ac=Go.undef):=cu.imp id λ⟨F,b⟩=>⟨F,by rw[b];rfl⟩
        refine .head (Gb c2 ub bC Fb) ?_
        rw[kR, <-IW qI.jr aE.ip]
        exact IE _ _ _ _ _ _ _ _ _ (aE.ext j5 (qI.mono aE.kF) Ku) (aH.ab qI.jr qI.kf) (x0 _ _ ac (bD.ab qI.jr qI.kf) fL) a
       have rq:o1 res ah C (.uB av au i rest (lQ aq av.toList 0)) u ⟨fn,n,aq,bj,aD,ro,cs⟩ I h j=some v->Ends C bq bJ bX v (lone (cz U fn bj aD ro tmps (.inRegion av (i::List.range' (i+1) (av.size-(i+1)))::bB) .run) am w):=
        λa=>acg cP gF aE axp aE.kF (Zj _) c2 ub mX a
       cases res with
       |val ac=>exact now ac h j mX cF
       |fH ac R an=>exact now ac R an mX cF
       |_=>exact rq cF
      ·simp at cF
   ·simp at cF
end
def aqR{k:List Bool}(a:k.count false=0):∀b∈k,b=true:=by
 intro b aj
 cases b with
 |true=>rfl
 |false=>exact absurd aj (List.count_eq_zero.1 a)
def aCL{av:Array Oper}(mB:FR av.toList 0=true):∀(fuel t:Nat) (iZ:Array Bool),iZ.size=av.size->iZ.toList.count false=fuel->
 xj av (λi=>iZ.getD i false=true) (Region.linearise.go .any av fuel t iZ []):=by
 intro fuel
 induction fuel with
 |zero=>
  intro t iZ aC aA
  simp only[Region.linearise.go,List.reverse_nil]
  refine .nil λi aG=> ?_
  have c3:i<iZ.size:=Zo
  have:=aqR aA iZ[i] Zs
  simp[c3,this]
 |succ fuel ah=>
  intro t iZ aC aA
  simp only[Region.linearise.go]
  have sG:∃i,i<av.size/\iZ.getD i true=false:=by
   have UW:false∈iZ.toList:=by
    rw[<-List.count_pos_iff];omega
   obtain⟨i,aG⟩:=Z2.1 UW
   have c3:i<iZ.size:=by have:=(Zb.1 aG).1;simpa using this
   refine⟨i,Zo, ?_⟩
   rw[ZQ]at aG
   simp[aG]
  have EU:∃i,i<av.size/\iZ.getD i true=false/\∀V,V<i->iZ.getD V false=true:=by
   have key:∀m,(∃i,i<m/\i<av.size/\iZ.getD i true=false)->∃i,i<av.size/\iZ.getD i true=false/\∀V,V<i->iZ.getD V false=true:=by
    intro m
    induction m with
    |zero=>rintro⟨i,a,_⟩;omega
    |succ m qX=>
     rintro⟨i,H,M,al⟩
     by_cases ak:∃i,i<m/\i<av.size/\iZ.getD i true=false
     ·exact qX ak
     ·have:i=m:=by
       rcases zg i m with a|a
       ·exact absurd ⟨i,a,M,al⟩ ak
       ·omega
      subst this
      refine⟨i,M,al,λV bF=> ?_⟩
      have c3:V<iZ.size:=Zo
      cases aj:iZ[V]with
      |true=>simp[c3,aj]
      |false=>exact absurd ⟨V,bF,Zo,by simp[c3,aj]⟩ ak
   obtain⟨i,H,M⟩:=sG
   exact key (i+1) ⟨i,Zo,H,M⟩
  obtain⟨i0,wo,axj,iy⟩:=EU
  have awI:i0∈Region.ready .any av iZ:=by
   rw[mem_ready]
   refine⟨axj,av[i0],Array.getElem?_eq_getElem wo,λD bA aj=> ?_⟩
   have:=aAF mB i0 av[i0] (by rw[ZQ];exact Array.getElem?_eq_getElem wo) D (by simpa using bA) aj
   exact iy _ Zo
  change xj av _ (match (Region.ready .any av iZ)[t%(Region.ready .any av iZ).length]? with
   |some i=>Region.linearise.go .any av fuel (t/(Region.ready .any av iZ).length) (iZ.setIfInBounds i true) [i]
   |none=>[].reverse)
  have eM:0<(Region.ready .any av iZ).length:=List.length_pos_of_mem awI
  have c3:t%(Region.ready .any av iZ).length<(Region.ready .any av iZ).length:=zn _ eM
  rw[Ze c3]
  simp only[]
  generalize aG:(Region.ready .any av iZ)[t%(Region.ready .any av iZ).length]=i
  have UW:i∈Region.ready .any av iZ:=by rw[<-aG];exact List.getElem_mem c3
  obtain⟨H,T,M,al⟩:=mem_ready.1 UW
  have aF3:i<av.size:=(ZO.1 M).1
  have k9:i<iZ.size:=Zo
  have afn:iZ[i]=false:=by simpa[k9]using H
  rw[linearise_go_acc,List.reverse_singleton,List.singleton_append]
  refine .cons M (by simp[k9,afn]) (λD bA aj=>al D (by simpa using bA) aj) ?_
  have bY:add (λi=>iZ.getD i false=true) i=λV=>(iZ.setIfInBounds i true).getD V false=true:=by
   funext V
   apply propext
   unfold add
   by_cases D:V=i
   ·subst D;simp[k9]
   ·rw[getD_set_ne false (λak=>D ak.symm)]
    simp[D]
  rw[bY]
  refine ah _ _ (by simpa using aC) ?_
  rw[Array.toList_setIfInBounds,List.count_set (by simpa using k9)]
  have:(iZ.toList[i]'(by simpa using k9))=false:=by simpa using afn
  simp[this,aA]
def aCM{av:Array Oper}(mB:FR av.toList 0=true)(t:Nat):xj av (λ_=>False) (Region.schedule true av t):=by
 simp only[Region.schedule,Bool.true_or,ZG,Region.linearise]
 have:=aCL mB av.size t (Array.replicate av.size false) Zs Zs
 have D:(λi=>(Array.replicate av.size false).getD i false=true)=λ_=>False:=by
  funext i
  apply propext
  by_cases a:i<av.size<;>simp[a]
 rw[D]at this
 exact this
section
variable{C:aN}{U dh dY:dd}{ae dJ ea:Nat->Prop}{h R:S ag}{j an bx:Nat}{w b5:World}{n aq:Nat}{av:Array Oper}
variable{bq:World}{bJ:Nat}{bX:List Frame}{v:E}{ah:hX}
variable{fn:Nat}{bj:List h8}{aD:Bool}{ro:Option Nat}{cs:List g6}{I:S E}{tmps:Array Value}{bB:List Item}{am:List Frame}{bO aG:Nat}
def axU{op:ku}(aH:nx op= .iD)(aC:Ds op=false)(h R:S ag)(au:List (Nat×E))(I:S E):hd op C h au I=hd op C R au I:=by
 cases op<;>simp only[hd]<;>(try rfl)<;>simp[Ds]at aC
 case iD b9 T=>cases T<;>simp[Ds]at aC<;>rfl
def qA.refl(h:S ag):qA C h h:=λ_=> .inl rfl
def qA.trans{aQ aP a6:S ag}(a:qA C aQ aP)(u:qA C aP a6):qA C aQ a6:=λx=>by
 rcases a x with a|a
 ·rcases u x with u|u
  ·exact .inl (a.trans u)
  ·exact .inr (a.trans u)
 ·exact .inr a
def ahF(h:S ag):qA C .nil h:=by
 intro b
 unfold W
 rw[fw,fw]
 split
 ·exact .inl rfl
 ·exact .inr rfl
def aq7{base:Nat}(aF:C.a8<=base):∀(k:List fI) (au:List (Nat×E)) (h:S ag) (hY:List (Nat×E)) (R:S ag),(k.Pairwise λF b=>F.i≠b.i)->(∀x∈k,ev au x.i=none/\W C h (base+x.i)=none/\oE x.op=false)->
 xu C base I k au h=some (hY,R)->Sub au hY/\qA C h R/\(∀i,ev hY i≠none->ev au i≠none\/∃x∈k,x.i=i)/\(∀b,W C R b≠W C h b->∃x∈k,b=base+x.i)/\
 ∀x∈k,∃ac,(∀ae,Nk C ae R base hY I x ac)/\JT C R hY I x ac:=by
 intro k
 induction k with
 |nil=>
  intro au h hY R _ _ a
  simp[xu]at a
  obtain⟨rfl,rfl⟩:=a
  exact⟨Sub.refl _,qA.refl _,λi a=> .inl a,λb a=>absurd rfl a,Zs⟩
 |cons x k ah=>
  intro au h hY R ay b4 a
  rw[List.pairwise_cons]at ay
  obtain⟨eu,dI⟩:=ay
  obtain⟨Om,Tm,Tn⟩:=b4 x (Zv ..)
  have step:∀(ac:E) (aQ:S ag),qA C h aQ->(∀b,W C aQ b≠W C h b->b=base+x.i)->xu C base I k ((x.i,ac)::au) aQ=some (hY,R)->
   (∀hY R,Sub ((x.i,ac)::au) hY->qA C aQ R->(W C aQ (base+x.i)≠none->W C R (base+x.i)=W C aQ (base+x.i))->(∀ae,Nk C ae R base hY I x ac)/\JT C R hY I x ac)->
   Sub au hY/\qA C h R/\(∀i,ev hY i≠none->ev au i≠none\/∃jt∈x::k,jt.i=i)/\(∀b,W C R b≠W C h b->∃jt∈x::k,b=base+jt.i)/\∀jt∈x::k,∃ac,(∀ae,Nk C ae R base hY I jt ac)/\JT C R hY I jt ac:=by
   intro ac aQ n0 sE aJ af
   have AV:Sub au ((x.i,ac)::au):=Sub.cons Om
   have rE:∀jt∈k,ev ((x.i,ac)::au) jt.i=none/\W C aQ (base+jt.i)=none/\oE jt.op=false:=by
    intro jt rN
    obtain⟨bP,b2,cI⟩:=b4 jt (Zt _ rN)
    have dn:=eu jt rN
    refine⟨by rw[sq,Zg dn];exact bP, ?_,cI⟩
    by_cases ak:W C aQ (base+jt.i)=W C h (base+jt.i)
    ·rw[ak];exact b2
    ·have:=sE _ ak;omega
   obtain⟨bR,cm,cX,d4,dN⟩:=ah _ _ _ _ dI rE aJ
   have EY:W C R (base+x.i)=W C aQ (base+x.i):=by
    by_cases ak:W C R (base+x.i)=W C aQ (base+x.i)
    ·exact ak
    ·obtain⟨jt,rN,D⟩:=d4 _ ak
     exact absurd Zo (eu jt rN)
   refine⟨AV.trans bR,n0.trans cm,λi aG=> ?_,λb aj=> ?_,λjt rN=> ?_⟩
   ·rcases cX i aG with H|⟨jt,H,M⟩
    ·rw[sq]at H
     split at H
     ·rename_i D;exact .inr ⟨x,Zv ..,D⟩
     ·exact .inl H
    ·exact .inr ⟨jt,Zt _ H,M⟩
   ·by_cases ak:W C R b=W C aQ b
    ·rw[ak]at aj
     exact⟨x,Zv ..,sE b aj⟩
    ·obtain⟨jt,H,M⟩:=d4 b ak
     exact⟨jt,Zt _ H,M⟩
   ·rcases Zu.1 rN with rfl|rN
    ·exact⟨ac,af hY R bR cm (λ_=>EY)⟩
    ·exact dN jt rN
  have EY:∀(ac:E) (hY:List (Nat×E)),Sub ((x.i,ac)::au) hY->ev hY x.i=some ac:=λac hY aC=>aC _ _ (by rw[sq,Zp rfl])
  simp only[xu]at a
  split at a
  ·simp at a
  ·rename_i bb
   refine step undef h (qA.refl _) (λb aj=>absurd rfl aj) a λhY R aC az _=> ?_
   have CH:Sub au hY:=(Sub.cons Om).trans aC
   exact⟨λae=>⟨EY _ _ aC,au,false,CH,bb,λ_=>rfl,Zs⟩,au, .nil,false,CH,ahF _,bb,Zs⟩
  ·rename_i bb
   cases aH:nx x.op with
   |make=>
    rw[aH]at a
    simp only at a
    split at a
    ·rename_i ac cT bn
     simp only[hf]at a
     have aj:C.a8<=base+x.i:=Zo
     refine step ac _ (λb=> ?_) (λb kh=> ?_) a λhY R aC az Pc=> ?_
     ·rw[gc _ aj]
      by_cases D:b=base+x.i
      ·subst D;exact .inr Tm
      ·rw[Zg D];exact .inl rfl
     ·rw[gc _ aj]at kh
      by_cases D:b=base+x.i
      ·exact D
      ·rw[Zg D]at kh;exact absurd rfl kh
     ·have CH:Sub au hY:=(Sub.cons Om).trans aC
      have ih:W C R (base+x.i)=some cT:=by
       rw[Pc (by rw[gc _ aj,Zp rfl];simp),gc _ aj,Zp rfl]
      exact⟨λae=>⟨EY _ _ aC,au,true,CH,bb,Zs,λ_=>⟨Tn,λ_=>⟨cT,bn,ih⟩,λak=>by rw[aH]at ak;cases ak⟩⟩,au,h,true,CH,
       (by
        intro b
        rcases az b with ak|ak
        ·rw[gc _ aj]at ak
         by_cases D:b=base+x.i
         ·subst D;exact .inr Tm
         ·rw[Zg D]at ak;exact .inl ak
        ·rw[gc _ aj]at ak
         by_cases D:b=base+x.i
         ·subst D;exact .inr Tm
         ·rw[Zg D]at ak;exact .inr ak),bb,λ_ ak=>by rw[aH]at ak;cases ak⟩
    ·simp at a
   |iD=>
    rw[aH]at a
    simp only at a
    split at a
    ·rename_i ac bc
     refine step ac h (qA.refl _) (λb aj=>absurd rfl aj) a λhY R aC az _=> ?_
     have CH:Sub au hY:=(Sub.cons Om).trans aC
     exact⟨λae=>⟨EY _ _ aC,au,true,CH,bb,Zs,λ_=>⟨Tn,λak=>(by rw[aH]at ak;cases ak),λ_ Iv lm=>by rw[axU aH Iv lm h];exact bc⟩⟩,au,h,true,CH,az,bb,λ_ _=>bc⟩
    ·simp at a
   |fC=>simp[oE,aH]at Tn
end
end Go.bg

