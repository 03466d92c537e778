/- Part of the proof of the last text; no conditions -/
import Derived.Test.YtbbkkkpgjaopkaaGreatDoorYd
set_option maxHeartbeats 8000000
set_option linter.all false
namespace Go.bs
noncomputable section
abbrev dX:=Option y
structure ia where
 fn:Nat
 n:Nat
 ao:Nat
 bb:List hy
 aR:Bool
 ro:Option Nat
 cs:List gB
abbrev hl:=k4->List dG->ia->M y->M ak->Nat->dX
def oy(g:Option (Nat×Bool))(aq:List (Nat×y)):Option Bool:=
 match g with
 |none=>some true
 |some (Y,lH)=>(match ed aq Y with
  |some v=>(match v with| .bool b=>some (b==lH)|_=>some false)
  |none=>none)
def qE(f:y->y->Bool):List y->List y->Bool
 |[],[]=>true
 |E::k,b::m=>f E b&&qE f k m
 |_,_=>false
def y.same:Nat->y->y->Bool
 |0,_,_=>false
 |d+1,x,e=>match x,e with
  | .bool E, .bool b=>E==b
  | .int q E, .int ey b=>decide (q=ey)&&decide (E=b)
  | .str E, .str b=>mP E b
  | .ptr E b, .ptr gd cQ=>Nat.beq E gd&&Nat.beq b cQ
  | .cN, .cN=>true
  | .slice E b c D, .slice gd cQ gC ig=>Nat.beq E gd&&Nat.beq b cQ&&Nat.beq c gC&&Nat.beq D ig
  | .ej E b c D, .ej gd cQ gC ig=>Nat.beq E gd&&Nat.beq b cQ&&Nat.beq c gC&&Nat.beq D ig
  | .aW, .aW=>true
  | .map E, .map b=>Nat.beq E b
  | .ms, .ms=>true
  | .func f E b, .func Xg gd cQ=>decide (f=Xg)&&qE (y.same d) E gd&&qE (y.same d) b cQ
  | .nilFunc, .nilFunc=>true
  | .iface t v, .iface ga gj=>Nat.beq t ga&&y.same d v gj
  | .nilIface, .nilIface=>true
  | .agg E, .agg b=>qE (y.same d) E b
  | .tuple E, .tuple b=>qE (y.same d) E b
  |_,_=>false
def vx(C:aT)(base:Nat)(I:M y):List fd->List (Nat×y)->M ak->Option (List (Nat×y)×M ak)
 |[],aq,h=>some (aq,h)
 |x::k,aq,h=>(match oy x.g aq with
  |none=>none
  |some false=>vx C base I k ((x.i,undef)::aq) h
  |some true=>(match mN x.op with
   | .make=>(match n6 x.op C (base+x.i) aq I with
     |some (v,cK)=>jo (bl C h (base+x.i) (some cK)) λh=>vx C base I k ((x.i,v)::aq) h
     |none=>none)
   |_=>(match gM x.op C h aq I with
    |some v=>vx C base I k ((x.i,v)::aq) h
    |none=>none)))
def CF(C:aT)(I:M y)(aq:List (Nat×y))(h:M ak):List fd->Bool
 |[]=>true
 |x::k=>(match oy x.g aq with
  |none=>false
  |some false=>CF C I aq h k
  |some true=>(match gM x.op C h aq I,ed aq x.i with
   |some v,some ab=>y.same 30 v ab&&CF C I aq h k
   |_,_=>false))
def xn(aq:List (Nat×y)):List (Nat×Nat)->M y->Option (M y)
 |[],I=>some I
 |(i,d)::k,I=>(match ed aq i with|some v=>jo (I.set d (some v)) λI=>xn aq k I|none=>none)
def exitTo(id:Nat):List dG->Option (List dG)
 |[]=>none
 | .inBlock tx::q=>bH (Nat.beq tx id) (some q)<|exitTo id q
 |_::q=>exitTo id q
def jg{α:Type}(W:Option α)(q:α->dX):dX:=Option.rec (motive:=λ_=>dX) none (λE=>q E) W
def Hm(k:List (Nat×y)):Nat->(y->dX)->dX:=
 List.rec (motive:=λ_=>Nat->(y->dX)->dX) (λ_ _=>none)
  (λp _ aj Y q=>Prod.rec (motive:=λ_=>dX) (λE b=>Bool.rec (motive:=λ_=>dX) (aj Y q) (q b) (Nat.beq E Y)) p) k
def Ls(t:M y):Nat->(y->dX)->dX:=
 M.rec (motive:=λ_=>Nat->(y->dX)->dX) (λ_ _=>none)
  (λv _ _ iB ql i q=>Nat.rec (motive:=λ_=>dX) (Option.rec (motive:=λ_=>dX) none (λE=>q E) v)
   (λY _=>Bool.rec (motive:=λ_=>dX) (ql (Nat.div Y 2) q) (iB (Nat.div Y 2) q) (Nat.beq (Nat.mod Y 2) 0)) i) t
def xk(x:kk):List (Nat×y)->M y->(y->dX)->dX:=
 kk.rec (motive:=λ_=>List (Nat×y)->M y->(y->dX)->dX) (λY aq _ q=>Hm aq Y q) (λn _ I q=>Ls I n q) (λE _ _ q=>q E) x
def aeF(g:Option (Nat×Bool)):List (Nat×y)->dX->dX->dX:=
 Option.rec (motive:=λ_=>List (Nat×y)->dX->dX->dX) (λ_ E _=>E)
  (λp aq E b=>jg (oy (some p) aq) λw=>Bool.rec (motive:=λ_=>dX) b E w) g
def HN(k:List (Nat×Nat)):List (Nat×y)->M y->(M y->dX)->dX:=
 List.rec (motive:=λ_=>List (Nat×y)->M y->(M y->dX)->dX) (λ_ I q=>q I)
  (λp _ aj aq I q=>Prod.rec (motive:=λ_=>dX) (λi d=>Hm aq i λv=>jo (M.set I d (some v)) λI=>aj aq I q) p) k
def Eh(ew:dG)(q:List dG)(bX:ia)(I:M y):List gB:=
 ia.rec (motive:=λ_=>List gB) (λfn n ao bb aR ro cs=>⟨fn,n,ao,I,ew::q,bb, .run,aR,ro⟩::cs) bX
def n4(aj:hl)(C:aT)(f:Nat)(args:List y)(deferred:Bool)(cs:List gB)(h:M ak)(j:Nat):dX:=
 match C.P.funcs[f]? with
 |some fn=>(match fn.body with
  |some c=>qh (Nat.lor (kc c) (nM fn.results.toList)) λao=>bH (Nat.ble args.length fn.ntmps&&lO C ao c&&yk ao fn.results.toList) (aj .run [.code c] ⟨f,fn.ntmps,ao,[],deferred,none,cs⟩ (M.ofList args 0 .nil) h j)<|none
  |none=>none)
 |none=>none
def wz(n:Nat):List Nat->List y->M y->Option (M y)
 |[],[],I=>some I
 |p::da,E::ca,I=>bH (Nat.blt p n) (wz n da ca (I.set p (some E)))<|none
 |_,_,_=>none
def oN(ew:dG)(v:y):Option dG:=match ew with
 | .sQ ar aq a rest fin=>some (.Gx ar ((a,v)::aq) rest fin)
 | .yu ar base aq a lo fin=>some (.drawn ar base ((a,v)::aq) lo fin)
 | .inRangeFunc k=>some (.endRangeFunc k)
 |_=>none
def S7(aj:hl)(todo:List dG)(bX:ia)(v:y)(I:M y)(h:M ak)(j:Nat):dX:=
 match todo with
 |[]=>none
 |ew::q=>(match oN ew v with|some ht=>aj .run (ht::q) bX I h j|none=>none)
def vz:List Nat->M y->M y
 |[],I=>I
 |d::k,I=>vz k (I.set d none)
def un(todo:List dG)(I:M y):M y:=match todo with
 | .sQ ar _ _ _ _::_=>vz (dstsOf ar.toList) I
 | .yu ar _ _ _ _ _::_=>vz (dstsOf ar.toList) I
 |_=>I
def D7(chain:List rG)(bK:k4):k4:=match bK with
 | .panicking pX=> .panicking (chain++pX)
 |_=> .panicking chain
def adM(aj:hl)(c:gB)(cs:List gB)(chain:List rG)(h:M ak)(j:Nat):dX:=
 match c with
 |⟨fn,n,ao,I,todo,bb,bK,aR,ro⟩=>aj (D7 chain bK) todo ⟨fn,n,ao,bb,aR,ro,cs⟩ (un todo I) h j
def BW(aR:Bool)(cs:List gB):Option (y×List gB):=
 bH (aR) ((match cs with
  |c::rest=>(match c with
   |⟨fn,n,ao,I,todo,bb,bK,jm,ro⟩=>(match bK with
    | .panicking (⟨v,false⟩::Bx)=>some (v,⟨fn,n,ao,I,todo,bb, .panicking (⟨v,true⟩::Bx),jm,ro⟩::rest)
    |_=>some (.nilIface,cs)))
  |[]=>none))<|some (.nilIface,cs)
def xp(aj:hl)(ew:dG)(q:List dG)(bX:ia)(I:M y)(j:Nat):List (y×M ak)->dX
 |[]=>none
 |[(v,h)]=>(match oN ew v with|some ht=>aj .run (ht::q) bX I h j|none=>none)
 |(v,h)::k=>(match oN ew v with
  |some ht=>(match aj .run (ht::q) bX I h j,xp aj ew q bX I j k with
   |some E,some b=>bH (y.same 30 E b) (some E) none
   |_,_=>none)
  |none=>none)
def n0(r:dZ)(aj:hl)(C:aT)(ew:dG)(q:List dG)(bX:ia)(I:M y)(h:M ak)(j:Nat):dX:=
 match r with
 | .val v=>(match oN ew v with|some ht=>aj .run (ht::q) bX I h j|none=>none)
 | .fq v h j=>(match oN ew v with|some ht=>aj .run (ht::q) bX I h j|none=>none)
 | .enter f args=>n4 aj C f args false (Eh ew q bX I) h j
 | .known _ _ v=>(match oN ew v with|some ht=>aj .run (ht::q) bX I h j|none=>none)
 | .round k args=>(match Z C h k with
   |some (.loop _ _ fn n ao cP params assign body _)=>(match wz n params args cP with
    |some cP=>aj .run [.code assign, .beginRound, .code body] ⟨fn,n,ao,[],false,some k,Eh ew q bX I⟩ cP h j
    |none=>none)
   |_=>none)
 | .defer d=>(match bX with
   |⟨fn,n,ao,bb,aR,ro,cs⟩=>(match ro with
    |none=>(match oN ew undef with|some ht=>aj .run (ht::q) ⟨fn,n,ao,d::bb,aR,none,cs⟩ I h j|none=>none)
    |some _=>none))
 | .recover=>(match bX with
   |⟨fn,n,ao,bb,aR,ro,cs⟩=>(match ro with
    |none=>(match BW aR cs with
     |some (v,cZ)=>(match oN ew v with|some ht=>aj .run (ht::q) ⟨fn,n,ao,bb,aR,none,cZ⟩ I h j|none=>none)
     |none=>none)
    |some _=>none))
 | .panic v=>(match bX with
   |⟨fn,n,ao,bb,aR,ro,cs⟩=>(match ro with
    |none=>aj (.panicking [⟨v,false⟩]) (ew::q) ⟨fn,n,ao,bb,aR,none,cs⟩ (un (ew::q) I) h j
    |some _=>none))
 | .fork k=>xp aj ew q bX I j k
def SO(op:jM):aT->M ak->Nat->List (Nat×y)->M y->(y->M ak->Nat->dX)->(dZ->dX)->dX:=
 match op with
 | .DP x=>λ_ h j aq I ah _=>xk x aq I λv=>ah v h j
 | .pick c E b=>λ_ h j aq I ah _=>jg (gM (.pick c E b) ⟨default, .nil,0,λ_ _=>none,0⟩ h aq I) λv=>ah v h j
 | .fm E=>λC h j aq I ah _=>xk E aq I λE=>jg (aV C h E) λv=>ah v h j
 | .wg n E=>λC h j aq I ah _=>xk E aq I λE=>jg (dT C h n E) λv=>ah v h j
 | .off d x=>λ_ h j aq I ah _=>xk x aq I λE=>jg (hJ d E) λv=>ah v h j
 | .AY n aN x i=>λC h j aq I ah _=>jg (gM (.AY n aN x i) C h aq I) λv=>ah v h j
 | .AZ aN x i=>λC h j aq I ah _=>jg (gM (.AZ aN x i) C h aq I) λv=>ah v h j
 | .DW x=>λ_ h j aq I ah _=>xk x aq I λE=>jg (sS E) λv=>ah v h j
 | .I4 op x e=>λ_ h j aq I ah _=>xk x aq I λE=>xk e aq I λb=>jg (bg op E b) λv=>ah v h j
 | .ext i x=>λ_ h j aq I ah _=>xk x aq I λE=>jg (rD i E) λv=>ah v h j
 | .h2 bV W=>λC h j aq I ah _=>jg (gM (.h2 bV W) C h aq I) λv=>ah v h j
 | .make bV W=>λC h j aq I _ qg=>jg (MV (.make bV W) C h j aq I) qg
 | .st n E v=>λC h j aq I _ qg=>jg (hz (.st n E v) C h j aq I) qg
 | .call f args=>λC h j aq I _ qg=>jg (hz (.call f args) C h j aq I) qg
 | .e9 bV W=>λC h j aq I _ qg=>jg (hz (.e9 bV W) C h j aq I) qg
structure gt where
 aj:hl
 ar:Array Oper
 fin:List (Nat×Nat)
 q:List dG
 bX:ia
def akV(X:gt)(C:aT)(I:M y)(aq:List (Nat×y))(i:Nat)(rest:List fd)(r:dZ)(h:M ak)(j:Nat):dX:=
 match X with|⟨aj,ar,fin,q,bX⟩=>n0 r aj C (.sQ ar aq i rest fin) q bX I h j
abbrev ST:=gt->aT->M y->List (Nat×y)->M ak->Nat->dX
def atF(nb:ST)(X:gt)(C:aT)(I:M y)(aq:List (Nat×y))(i:Nat)(v:y)(h:M ak)(j:Nat):dX:=nb X C I ((i,v)::aq) h j
def anR(nb:ST)(X:gt)(C:aT)(I:M y)(aq:List (Nat×y))(i:Nat)(rest:List fd)(h:M ak)(j:Nat)(r:dZ):dX:=
 match r with
 | .val v=>nb X C I ((i,v)::aq) h j
 | .fq v h j=>nb X C I ((i,v)::aq) h j
 |r=>akV X C I aq i rest r h j
def HJ(X:gt)(_:aT)(I:M y)(aq:List (Nat×y))(h:M ak)(j:Nat):dX:=
 gt.rec (motive:=λ_=>dX) (λaj _ fin q bX=>HN fin aq I λI=>aj .run q bX I h j) X
def D2(i:Nat)(g:Option (Nat×Bool))(op:jM)(rest:List fd)(nb:ST)(X:gt)(C:aT)(I:M y)(aq:List (Nat×y))(h:M ak)(j:Nat):dX:=
 aeF g aq (SO op C h j aq I (atF nb X C I aq i) (anR nb X C I aq i rest h j)) (nb X C I ((i,undef)::aq) h j)
def yn(rest:List fd):ST:=
 List.rec (motive:=λ_=>ST) HJ (λx rest nb=>fd.rec (motive:=λ_=>ST) (λi g op=>D2 i g op rest nb) x) rest
def xj(aj:hl)(C:aT)(ar:Array Oper)(base:Nat)(aq:List (Nat×y))(lo:List vq)(fin:List (Nat×Nat))(q:List dG)(bX:ia)(I:M y)(h:M ak)(j:Nat):dX:=
 match lo with
 |[]=>none
 |s::rest=>(match vx C base I s.tG aq h with
  |none=>none
  |some (aq,h)=>bH (CF C I aq h s.S3) ((match s.e9 with
    |none=>HN fin aq I λI=>aj .run q bX I h j
    |some a=>(match oy a.g aq with
     |none=>none
     |some w=>bH (w) ((match hz a.op C h j aq I with
       |some r=>n0 r aj C (.yu ar base aq a.i rest fin) q bX I h j
       |none=>none))<|aj .run (.drawn ar base ((a.i,undef)::aq) rest fin::q) bX I h j)))<|none)
def wG(fQ:List rG):k4:=match fQ with|⟨_,true⟩::_=> .returning|_=> .panicking fQ
def s2(aj:hl)(aR:Bool)(cs:List gB)(v:y)(h:M ak)(j:Nat):dX:=
 match cs with
 |c::rest=>(match c with
  |⟨fn,n,ao,I,todo,bb,bK,jm,ro⟩=>(match bK with
   | .run=>bH aR none (S7 aj todo ⟨fn,n,ao,bb,jm,ro,rest⟩ v I h j)
   | .returning=>bH aR (aj .returning todo ⟨fn,n,ao,bb,jm,ro,rest⟩ I h j) none
   | .panicking fQ=>bH aR (aj (wG fQ) todo ⟨fn,n,ao,bb,jm,ro,rest⟩ I h j) none))
 |[]=>bH aR none (some v)
def Sa(iF:Option Code):Bool:=match iF with|none=>true|some .ret=>true|_=>false
def adm(iF:Option Code):Bool:=match iF with|none=>true|some .ret=>true|some (.exit _)=>true|_=>false
def oh(iF:Option Code)(aj:hl)(C:aT)(todo:List dG)(bX:ia)(I:M y)(h:M ak)(j:Nat):dX:=
 match bX with
 |⟨fn,n,ao,bb,aR,ro,cs⟩=>(match ro with
  |none=>bH (Sa iF) (aj .returning todo ⟨fn,n,ao,bb,aR,none,cs⟩ I h j)<|none
  |some k=>(match Z C h k with
   |some (.loop _ _ fn n ao I params assign body defers)=>
    bH ((j5 C k&&adm iF)&& !aR) (jo (bl C h k (some (.loop (bH iF.isNone .ready .done) iF fn n ao I params assign body defers))) λh=>s2 aj aR cs (.bool iF.isNone) h j)<|none
   |_=>none))
def ww(C:aT)(h:M ak)(I:M y):List ResultVar->Option (List y)
 |[]=>some []
 | .tmp t::k=>(match I.get t,ww C h I k with|some v,some r=>some (v::r)|_,_=>none)
 | .cell E t::k=>(match I.get E with
   |some p=>(match pB C h t p,ww C h I k with|some v,some r=>some (v::r)|_,_=>none)
   |none=>none)
def vE(I:M y)(W:Operand):Option y:=match W with
 | .tmp t=>I.get t
 | .const v=>DZ v
 | .global g=>some (.ptr g 0)
 | .func f=>some (.func (.func f) [] [])
def JH(f:Operand)(params:Array Nat)(assign body:Code)(aj:hl)(C:aT)(q:List dG)(bX:ia)(I:M y)(h:M ak)(j:Nat):dX:=
 match vE I f,bX with
 |some (.func (.func g) first fy),⟨fn,n,ao,bb,aR,ro,cs⟩=>
  (
   match ro with
   |none=>qh j λj=>
    n4 aj C g (first++[.func (.yield (j+1)) [] []]++fy) false (⟨fn,n,ao,I, .inRangeFunc (j+1)::q,⟨.collected j,[]⟩::bb, .run,aR,none⟩::cs)
     (bl C (bl C h j (some (.deferred (some [])))) (j+1) (some (.loop .ready none fn n ao I params.toList assign body j))) (j+2)
   |some k=>(match Z C h k with
    |some (.loop _ _ _ _ _ _ _ _ _ defers)=>qh j λj=>
     n4 aj C g (first++[.func (.yield j) [] []]++fy) false (⟨fn,n,ao,I, .inRangeFunc j::q,bb, .run,aR,some k⟩::cs)
      (bl C h j (some (.loop .ready none fn n ao I params.toList assign body defers))) (j+1)
    |_=>none))
 |_,_=>none
def Af(id:Nat)(aj:hl)(C:aT)(q:List dG)(bX:ia)(I:M y)(h:M ak)(j:Nat):dX:=
 match exitTo id q with
 |some ey=>aj .run ey bX I h j
 |none=>oh (some (.exit id)) aj C (.code (.exit id)::q) bX I h j
def Hx(c:Operand)(I:M y)(E b:dX):dX:=jg (vE I c) λv=>match v with
 | .bool t=>Bool.rec (motive:=λ_=>dX) b E t
 |_=>none
def S6(n ao:Nat)(ar:Array Oper)(aj:hl)(C:aT)(q:List dG)(bX:ia)(I:M y)(h:M ak)(j:Nat):dX:=
 jg (Jt C n ar ao) λr=>Ou.rec (motive:=λ_=>dX) (λrest fin=>yn rest ⟨aj,ar,fin,q,bX⟩ C I [] h j) r
def S5(n ao:Nat)(ar:Array Oper)(aj:hl)(C:aT)(q:List dG)(bX:ia)(I:M y)(h:M ak)(j:Nat):dX:=
 jg (Js C n ar ao) λr=>Ot.rec (motive:=λ_=>dX) (λlo fin=>qh j λj=>xj aj C ar j [] lo fin q bX I h (j+ar.size)) r
def adP(ar:Array Oper)(Ab:Bool)(aj:hl)(C:aT)(q:List dG)(bX:ia)(I:M y)(h:M ak)(j:Nat):dX:=
 ia.rec (motive:=λ_=>dX) (λfn n ao bb aR ro cs=>Bool.rec (motive:=λ_=>dX)
  (S6 n ao ar aj C q ⟨fn,n,ao,bb,aR,ro,cs⟩ I h j) (S5 n ao ar aj C q ⟨fn,n,ao,bb,aR,ro,cs⟩ I h j) Ab) bX
abbrev yC:=hl->aT->List dG->ia->M y->M ak->Nat->dX
def Lu:yC:=λaj _ q bX I h j=>aj .run q bX I h j
def DX:yC:=λ_ _ _ _ _ _ _=>none
def ul(c:Code):yC:=
 Code.rec (motive:=λ_=>yC) Lu
  (λ_ ar d=>adP ar d)
  (λ_ b mL _ aj C q=>mL aj C (.code b::q))
  (λc _ _ mL hs aj C q bX I h j=>Hx c I (mL aj C q bX I h j) (hs aj C q bX I h j))
  (λid _ hs aj C q=>hs aj C (.inBlock id::q))
  (λb hs aj C q=>hs aj C (.inLoop b::q))
  (λf params assign body _ _=>JH f params assign body)
  (λid=>Af id)
  (λb hs aj C q=>hs aj C (.inScope b::q))
  (λ_=>Lu)
  (λ_=>DX)
  (λaj C q=>oh (some .ret) aj C (.code .ret::q))
  (λ_=>DX) c
def E0(k:Nat):yC:=λaj C q bX I h j=>match Z C h k with
 |some (.loop state pending gF aS kT cP params assign body defers)=>
  (
   match state with
   | .busy=>none
   |_=>bH (j5 C k) (jo (bl C h k (some (.loop .exhausted pending gF aS kT cP params assign body defers))) λh=>aj .run ((pending.map dG.code).toList++q) bX I h j)<|none)
 |_=>none
def Ho:yC:=λaj C q bX I h j=>match bX with
 |⟨fn,n,ao,bb,aR,ro,cs⟩=>match ro with
  |some k=>(match Z C h k with
   |some (.loop .ready pending gF aS kT cP params assign body defers)=>
    bH (j5 C k) (jo (bl C h k (some (.loop .busy pending gF aS kT cP params assign body defers))) λh=>aj .run q ⟨fn,n,ao,bb,aR,some k,cs⟩ I h j)<|none
   |_=>none)
  |none=>none
def abM(ew:dG):yC:=
 dG.rec (motive:=λ_=>yC) (λc=>ul c) (λ_=>Lu) (λb aj C q=>ul b aj C (.inLoop b::q)) (λ_=>Lu)
  (λar aq rest fin aj C q bX I h j=>yn rest ⟨aj,ar,fin,q,bX⟩ C I aq h j)
  (λar base aq lo fin aj C q bX I h j=>xj aj C ar base aq lo fin q bX I h j)
  (λ_ _ _ _ _=>DX) (λ_ _ _ _ _ _=>DX) (λ_=>DX) (λk=>E0 k) Ho ew
def aee(todo:List dG)(aj:hl)(C:aT)(bX:ia)(I:M y)(h:M ak)(j:Nat):dX:=
 List.rec (motive:=λ_=>dX) (oh none aj C [] bX I h j) (λew q _=>abM ew aj C q bX I h j) todo
def wB(d:hy)(ds:List hy)(bK:k4)(todo:List dG)(aj:hl)(C:aT)(bX:ia)(I:M y)(h:M ak)(j:Nat):dX:=
 match bX with
 |⟨fn,n,ao,_,aR,ro,cs⟩=>(match d with
  |⟨.collected r,_⟩=>(match Z C h r with
   |some (.deferred (some pC))=>bH (j5 C r) (jo (bl C h r (some (.deferred none))) λh=>aj bK todo ⟨fn,n,ao,pC++ds,aR,ro,cs⟩ I h j)<|none
   |_=>none)
  |⟨.fn f fy,args⟩=>(match yU C f fy args with
   |some (.enter f ca)=>n4 aj C f ca true (⟨fn,n,ao,I,todo,ds,bK,aR,ro⟩::cs) h j
   |_=>none))
def one(bx:List y):y:=match bx with|[v]=>v|bx=> .tuple bx
def JV(todo:List dG)(aj:hl)(C:aT)(bX:ia)(I:M y)(h:M ak)(j:Nat):dX:=
 match bX with
 |⟨fn,n,ao,bb,aR,ro,cs⟩=>match bb with
  |d::ds=>wB d ds .returning todo aj C ⟨fn,n,ao,[],aR,ro,cs⟩ I h j
  |[]=>(match C.P.funcs[fn]? with
   |some f=>(match ww C h I f.results.toList with
    |some bx=>s2 aj aR cs (one bx) h j
    |none=>none)
   |none=>none)
def JU(chain:List rG)(todo:List dG)(aj:hl)(C:aT)(bX:ia)(I:M y)(h:M ak)(j:Nat):dX:=
 match bX with
 |⟨fn,n,ao,bb,aR,ro,cs⟩=>match bb with
  |d::ds=>wB d ds (.panicking chain) todo aj C ⟨fn,n,ao,[],aR,ro,cs⟩ I h j
  |[]=>(match cs with
   |c::rest=>adM aj c rest chain h j
   |[]=>none)
def Tw(aj:hl)(C:aT)(bK:k4)(todo:List dG)(bX:ia)(I:M y)(h:M ak)(j:Nat):dX:=
 k4.rec (motive:=λ_=>dX) (aee todo aj C bX I h j) (JV todo aj C bX I h j) (λfQ=>JU fQ todo aj C bX I h j) bK
def run(C:aT)(n:Nat):hl:=
 Nat.rec (motive:=λ_=>hl) (λ_ _ _ _ _ _=>none) (λ_ aj bK todo bX I h j=>Tw aj C bK todo bX I h j) n
def ym(C:aT)(n:Nat)(f:Nat)(args:List y):dX:=n4 (run C n) C f args false [] .nil C.aY
end
open Go.RowKit (Below)
section
variable{C:aT}{J c0:cU}{aa dn:Nat->Prop}{h R:M ak}{j au bj:Nat}{w w':World}
def aae(V:c9 C J aa h j bj w)(eS:bj<=w.heap.size)(kg:wV C.P){oper:Oper}{ax:Operand->Value}{wr:List (Nat×Nat)}{aq:List (Nat×y)}{I:M y}{c:jM}{res:dZ}
 (cw:jk J aa ax (jb wr aq I) oper.op.operands.toList)(aA:lN C wr oper.op=some c)(a:hz c C h j aq I=some res):it C J aa h j bj w (execOp ax oper) res:=by
 have rest:∀W,oper.op=W->c= .e9 wr W->it C J aa h j bj w (execOp ax oper) res:=by
  intro W bd C1
  subst C1;subst bd
  exact air V eS kg cw a
 have yc:∀W,c= .h2 wr W->it C J aa h j bj w (execOp ax oper) res:=by intro W D;subst D;simp[hz]at a
 have acY:∀W,c= .make wr W->it C J aa h j bj w (execOp ax oper) res:=by intro W D;subst D;simp[hz]at a
 obtain⟨dst,op,type,pos,after,guard⟩:=oper
 cases op<;>simp only[lN]at aA<;>simp only[Op.operands]at cw
 case store t E x=>
  split at aA
  ·rename_i gd iL s aD af aE
   simp at aA;subst aA
   simp only[hz,ny aD,ny af]at a
   split at a
   ·rename_i ab a6
    split at a
    ·rename_i v bu
     obtain⟨bB,g1⟩:=cw E Zs ab a6
     obtain⟨cp,b5⟩:=cw x Zs v bu
     obtain⟨R,rfl,aH⟩:=avs V aE g1 b5 a
     simp only[execOp,bB,cp]
     exact aH _ (λw' ss=>by simp[ss])
    ·simp at a
   ·simp at a
  ·simp at aA
 case call xc=>
  obtain⟨callee,args,cX⟩:=xc
  cases callee with
  |builtin b=>
   cases b<;>simp[lN]at aA<;>first
    |exact rest _ rfl aA.symm
    |exact yc _ aA.symm
  |value f=>
   cases f with
   |func g=>
    simp only at aA
    split at aA
    ·rename_i ca has
     simp at aA;subst aA
     simp only[hz]at a
     split at a
     ·rename_i bx I0
      simp only[Call.operands]at cw
      obtain⟨dv,cD⟩:=akZ aq I has I0
      have aqc:jk J aa ax (jb wr aq I) args.toList:=cw.mono (by simp;intro x af;exact .inr af)
      obtain⟨m1,fp⟩:=acB aqc dv cD
      obtain⟨ef,_⟩:=cw (.func g) Zs (.func (.func g) [] []) rfl
      have D:args.map ax=(bO J bx).toArray:=by apply Y7;simp[m1]
      have mJ:(execOp ax ⟨dst, .call ⟨.value (.func g),args,cX⟩,type,pos,after,guard⟩).run C.P w=(callFunc g (bO J bx).toArray).run C.P w:=by
       simp[execOp,resolve,ef,aO,m4,bO,Deferred.ofValue,invoke,D]
      rw[eQ]at a
      split at a
      ·rename_i AE
       split at a
       ·rename_i ab a6
        cases a
        exact⟨.inr ⟨AE,a6⟩,mJ,fp⟩
       ·cases a
      ·exact(Pj (J:=J) (h:=h) (j:=j) (bj:=bj) (w:=w) kg fp a).congr mJ
     ·simp at a
    ·simp at aA
   |tmp t=>simp at aA;exact rest _ rfl aA.symm
   |const v=>simp at aA;exact rest _ rfl aA.symm
   |global g=>simp at aA;exact rest _ rfl aA.symm
  |invoke r m=>simp[lN]at aA;exact rest _ rfl aA.symm
 case convert s d x=>
  rw[eQ]at aA
  split at aA
  ·simp at aA;exact rest _ rfl aA.symm
  ·simp at aA;exact yc _ aA.symm
 case makeMap t r=>cases r<;>simp[lN]at aA<;>first|exact rest _ rfl aA.symm|exact acY _ aA.symm
 case binOp op t x e GP=>
  rw[eQ]at aA
  split at aA
  ·split at aA
   ·simp at aA;subst aA;simp[hz]at a
   ·simp at aA
  ·simp at aA;exact yc _ aA.symm
 case fieldAddr s x f=>
  split at aA
  ·rw[rs]at aA
   split at aA
   ·split at aA
    ·simp only[ES,Zc]at aA
     obtain⟨_,rfl⟩:=aA
     simp[hz]at a
    ·simp at aA
   ·simp at aA
  ·simp at aA
 case indexAddr t x i=>
  split at aA
  ·split at aA
   ·simp at aA;subst aA;simp[hz]at a
   ·simp at aA
  ·split at aA
   ·simp at aA;subst aA;simp[hz]at a
   ·simp at aA
  ·simp at aA
 all_goals first
  |(simp at aA;first|exact rest _ rfl aA.symm|exact yc _ aA.symm|exact acY _ aA.symm)
  |(split at aA<;>first
    |(simp at aA;subst aA;simp[hz]at a;done)
    |(simp at aA;done))
def MW{oper:Oper}{wr:List (Nat×Nat)}{c:jM}(aA:lN C wr oper.op=some c){b:Nat}{aq:List (Nat×y)}{I:M y}{r:y×ak}(a:n6 c C b aq I=some r):qc oper.op C (jb wr aq I) b=some r:=by
 have rest:∀W,oper.op=W->c= .make wr W->qc oper.op C (jb wr aq I) b=some r:=by
  intro W bd C1
  subst C1;subst bd
  exact a
 have yc:∀W,c= .h2 wr W->qc oper.op C (jb wr aq I) b=some r:=by intro W D;subst D;simp[n6]at a
 have Bp:∀W,c= .e9 wr W->qc oper.op C (jb wr aq I) b=some r:=by intro W D;subst D;simp[n6]at a
 obtain⟨dst,op,type,pos,after,guard⟩:=oper
 cases op<;>simp only[lN]at aA
 case call xc=>
  obtain⟨callee,args,cX⟩:=xc
  cases callee with
  |builtin b=>cases b<;>simp[lN]at aA<;>first|exact Bp _ aA.symm|exact yc _ aA.symm
  |value f=>
   cases f with
   |func g=>
    simp[lN]at aA
    split at aA
    ·simp at aA;subst aA;simp[n6]at a
    ·simp at aA
   |tmp t=>simp[lN]at aA;exact Bp _ aA.symm
   |const v=>simp[lN]at aA;exact Bp _ aA.symm
   |global g=>simp[lN]at aA;exact Bp _ aA.symm
  |invoke r m=>simp[lN]at aA;exact Bp _ aA.symm
 case convert s d x=>
  rw[eQ]at aA
  split at aA
  ·simp at aA;exact Bp _ aA.symm
  ·simp at aA;exact yc _ aA.symm
 case makeMap t r=>cases r<;>simp[lN]at aA<;>first|exact rest _ rfl aA.symm|exact Bp _ aA.symm
 case binOp op t x e GP=>
  rw[eQ]at aA
  split at aA
  ·split at aA
   ·simp at aA;subst aA;simp[n6]at a
   ·simp at aA
  ·simp at aA;exact yc _ aA.symm
 case fieldAddr s x f=>
  split at aA
  ·rw[rs]at aA
   split at aA
   ·split at aA
    ·simp only[ES,Zc]at aA
     obtain⟨_,rfl⟩:=aA
     simp[n6]at a
    ·simp at aA
   ·simp at aA
  ·simp at aA
 case indexAddr t x i=>
  split at aA
  ·split at aA
   ·simp at aA;subst aA;simp[n6]at a
   ·simp at aA
  ·split at aA
   ·simp at aA;subst aA;simp[n6]at a
   ·simp at aA
  ·simp at aA
 all_goals first
  |(simp at aA;first|exact rest _ rfl aA.symm|exact yc _ aA.symm|exact Bp _ aA.symm)
  |(split at aA<;>first
    |(simp at aA;subst aA;simp[n6]at a;done)
    |(simp at aA;done))
def om{α:Type}(W:Option α)(q:α->dX):jg W q=match W with|some E=>q E|none=>none:=by cases W<;>rfl
def Wh(k:List (Nat×y))(Y:Nat)(q:y->dX):Hm k Y q=jg (ed k Y) q:=by
 induction k with
 |nil=>rfl
 |cons p k aj=>
  obtain⟨E,b⟩:=p
  show(Bool.rec (motive:=λ_=>dX) (Hm k Y q) (q b) (Nat.beq E Y))=jg (bH (Nat.beq E Y) (some b) (ed k Y)) q
  rw[aj]
  cases Nat.beq E Y<;>rfl
def al7(t:M y):∀(i:Nat) (q:y->dX),Ls t i q=jg (t.get i) q:=by
 induction t with
 |nil=>intro i q;rfl
 |node v k r nb FW=>
  intro i q
  cases i with
  |zero=>cases v<;>rfl
  |succ Y=>
   show(Bool.rec (motive:=λ_=>dX) (Ls r (Nat.div Y 2) q) (Ls k (Nat.div Y 2) q) (Nat.beq (Nat.mod Y 2) 0))=jg (bH (Nat.beq (Nat.mod Y 2) 0) (k.get (Nat.div Y 2)) (r.get (Nat.div Y 2))) q
   rw[nb,FW]
   cases Nat.beq (Nat.mod Y 2) 0<;>rfl
def akW(x:kk)(aq:List (Nat×y))(I:M y)(q:y->dX):xk x aq I q=jg (k9 x aq I) q:=by
 cases x with
 |v Y=>exact Wh aq Y q
 |t n=>exact al7 I n q
 |c E=>rfl
def Ln:∀(k:List (Nat×Nat)) (aq:List (Nat×y)) (I:M y) (q:M y->dX),HN k aq I q=jg (xn aq k I) q:=by
 intro k
 induction k with
 |nil=>intro aq I q;rfl
 |cons p k aj=>
  intro aq I q
  obtain⟨i,d⟩:=p
  show Hm aq i (λv=>jo (M.set I d (some v)) λI=>HN k aq I q)=_
  rw[Wh]
  simp only[xn]
  cases ed aq i with
  |none=>rfl
  |some v=>simp only[g5];exact aj _ _ _
def N0(g:Option (Nat×Bool))(aq:List (Nat×y))(E b:dX):aeF g aq E b=jg (oy g aq) λw=>if w=true then E else b:=by
 cases g with
 |none=>simp[om,oy];rfl
 |some p=>
  show jg (oy (some p) aq) (λw=>Bool.rec (motive:=λ_=>dX) b E w)=_
  congr 1
  funext w
  cases w<;>rfl
def Nn(op:jM)(h:M ak)(j:Nat)(aq:List (Nat×y))(I:M y)(ah:y->M ak->Nat->dX)(qg:dZ->dX):
 SO op C h j aq I ah qg=match mN op with
  | .h2=>jg (gM op C h aq I) λv=>ah v h j
  | .make=>jg (MV op C h j aq I) qg
  | .e9=>jg (hz op C h j aq I) qg:=by
 cases op<;>simp only[SO,mN,akW,gM,om]<;>(try rfl)
 all_goals(split<;>first|rfl|(split<;>simp_all))
end
def vf:List Oper->Nat->List (Nat×Nat)->List (Nat×Nat)
 |[],_,wr=>wr
 |W::k,i,wr=>vf k (i+1) (w0 W i wr)
def h9(ar:Array Oper)(i:Nat):List (Nat×Nat):=vf (ar.toList.take i) 0 []
def awr(E:List Oper):∀(b:List Oper) (i:Nat) (wr:List (Nat×Nat)),vf (E++b) i wr=vf b (i+E.length) (vf E i wr):=by
 induction E with
 |nil=>intro b i wr;rfl
 |cons W E aj=>
  intro b i wr
  simp only[List.cons_append,vf,aj,Zz]
  congr 1;omega
def J8{ar:Array Oper}{i:Nat}{W:Oper}(a:ar[i]? =some W):h9 ar (i+1)=w0 W i (h9 ar i):=by
 have aB:ar.toList[i]? =some W:=by rw[ZO];exact a
 have cJ:i<ar.toList.length:=(Zb.1 aB).1
 unfold h9
 rw[YQ,aB,awr]
 have:(ar.toList.take i).length=i:=by simp at cJ ⊢;omega
 rw[this]
 simp[vf]
def J9(ar:Array Oper):h9 ar 0=[]:=rfl
def r4(ar:Array Oper)(Y:Nat):Option Nat:=(ar[Y]?).bind (·.dst)
def HF{ar:Array Oper}{i:Nat}{W:Oper}(a:ar[i]? =some W):r4 ar i=W.dst:=by simp[r4,a]
def aiF{W:Oper}{i Y:Nat}{wr:List (Nat×Nat)}:vB Y (w0 W i wr)=if i=Y/\W.dst.isSome then W.dst else vB Y wr:=by
 unfold w0
 split
 ·rename_i d aH
  simp only[vB,hn,aH]
  by_cases D:i=Y<;>simp[D]
 ·rename_i aH
  simp[aH]
def EH{W:Oper}{i t:Nat}{wr:List (Nat×Nat)}:ed (w0 W i wr) t=if W.dst=some t then some i else ed wr t:=by
 unfold w0
 split
 ·rename_i d aH
  rw[qW,aH]
  by_cases D:d=t<;>simp[D]
 ·rename_i aH
  simp[aH]
def Ka(ar:Array Oper):∀i,i<=ar.size->(∀Y t,vB Y (h9 ar i)=some t->r4 ar Y=some t)/\
 (∀t Y,ed (h9 ar i) t=some Y->Y<i/\r4 ar Y=some t/\∀q,Y<q->q<i->r4 ar q≠some t)/\(∀t,ed (h9 ar i) t=none->∀q,q<i->r4 ar q≠some t):=by
 intro i
 induction i with
 |zero=>intro _;rw[J9];exact⟨λY t a=>by simp[vB]at a,λt Y a=>by simp at a,λt _ q aG=>Zo⟩
 |succ i aj=>
  intro aF
  obtain⟨H,K,am⟩:=aj Zo
  have bd:ar[i]? =some ar[i]:=Array.getElem?_eq_getElem Zo
  rw[J8 bd]
  have aH:=HF bd
  refine⟨λY t a=> ?_,λt Y a=> ?_,λt a q aG=> ?_⟩
  ·rw[aiF]at a
   split at a
   ·rename_i D;rw[<-D.1,aH];exact a
   ·exact H Y t a
  ·rw[EH]at a
   split at a
   ·rename_i D
    cases a
    exact⟨Zo,by rw[aH];exact D,λq mE gH=>Zo⟩
   ·rename_i D
    obtain⟨bS,ck,cM⟩:=K t Y a
    refine⟨Zo,ck,λq mE gH=> ?_⟩
    by_cases ai:q=i
    ·subst ai;rw[aH];exact D
    ·exact cM q mE Zo
  ·rw[EH]at a
   split at a
   ·cases a
   ·rename_i D
    by_cases ai:q=i
    ·subst ai;rw[aH];exact D
    ·exact am t a q Zo
section
variable{C:aT}{J c0:cU}{aa dn:Nat->Prop}{h R:M ak}{j au bj:Nat}{w w':World}
def k1(tmps:Array Value):Operand->Value
 | .tmp t=>tmps.getD t Go.undef
 | .const v=>v
 | .global g=> .pointer (some ⟨g,0,none⟩)
 | .func f=> .func (.func f) #[] #[]
def HL(fr:Frame):fr.eval=k1 fr.tmps:=by funext x;cases x<;>rfl
def oF(J:cU)(aa:Nat->Prop)(ao:Nat)(X:Nat->Prop)(wr:List (Nat×Nat))(aq:List (Nat×y))(I:M y)(tmps:Array Value):Prop:=
 ∀t v,X t->(match ed wr t with|some Y=>ed aq Y=some v|none=>fi ao t=true/\I.get t=some v)->tmps[t]? =some (aO J v)/\b7 aa v
def rN(C:aT)(J:cU)(aa:Nat->Prop):Prop:=∀g,g<C.pg->aa g/\(J g).cA=g/\(J g).dQ=0
def asT{ao:Nat}{wr:List (Nat×Nat)}:∀{k:List Operand},D1 C ao wr k=true->∀x∈k,ye C ao wr x=true:=by
 intro k
 induction k with
 |nil=>intro _ x a;simp at a
 |cons E k aj=>
  intro a x af
  simp only[D1,Zq]at a
  rcases Zr.1 af with rfl|af
  ·exact a.1
  ·exact aj a.2 x af
def Xc{ao:Nat}{X:Nat->Prop}{wr:List (Nat×Nat)}{aq:List (Nat×y)}{I:M y}{tmps:Array Value}(bu:oF J aa ao X wr aq I tmps){k:List Operand}(bN:∀t,Operand.tmp t∈k->X t)(bd:D1 C ao wr k=true)
 (c2:rN C J aa):jk J aa (k1 tmps) (jb wr aq I) k:=by
 intro x af v a
 have dE:=asT bd x af
 cases x with
 |tmp t=>
  have:=bu t v (bN t af) (by
   simp only[jb]at a
   simp only[ye]at dE
   split at a
   ·rename_i Y bD;rw[bD];exact a
   ·rename_i bD;rw[bD]at dE ⊢;exact⟨dE,a⟩)
  exact⟨by simp[k1,this.1],this.2⟩
 |const c=>exact Ng a
 |global g=>
  simp[jb]at a;subst a
  simp only[ye]at dE
  obtain⟨g1,b5,cR⟩:=c2 g (j4 dE)
  exact⟨by simp[k1,aO,b5,cR],g1⟩
 |func f=>
  simp[jb]at a;subst a
  exact⟨by simp[k1,aO,m4,bO],trivial,trivial,trivial⟩
end
def yZ(m i:Nat):fi m i=m.testBit i:=by
 unfold fi
 rw[Nat.testBit_eq_decide_div_mod_eq,Z7,Zi]
 exact⟨Zl,λa=>by rw[show Nat.mod (Nat.div m (Nat.pow 2 i)) 2=1 from a];rfl⟩
def KO(i:Nat):fi 0 i=false:=by rw[yZ];simp
def EL(E b i:Nat):fi (Nat.lor E b) i=(fi E i||fi b i):=by
 rw[yZ,yZ,yZ];exact Nat.testBit_or E b i
def KN(t i:Nat):fi (Nat.pow 2 t) i=decide (t=i):=by
 rw[yZ];exact Nat.testBit_two_pow
def ajj(E b i:Nat):fi (Nat.land E b) i=(fi E i&&fi b i):=by
 rw[yZ,yZ,yZ];exact Nat.testBit_and E b i
def as0{W:Operand}{m t:Nat}:fi (Gm W m) t=true↔W= .tmp t\/fi m t=true:=by
 cases W with
 |tmp ab=>
  show fi (Nat.lor m (Nat.pow 2 ab)) t=true↔_
  rw[EL,KN]
  simp[or_comm]
 |_=>simp[Gm]
def as1{t:Nat}:∀{k:List Operand},fi (Gn k) t=true↔Operand.tmp t∈k:=by
 intro k
 induction k with
 |nil=>simp[Gn,KO]
 |cons E k aj=>
  show fi (Gm E (Gn k)) t=true↔_
  rw[as0,aj]
  simp[eq_comm]
def akk{W:Oper}{t:Nat}:fi (HE W) t=true↔W.dst=some t:=by
 unfold HE
 cases W.dst with
 |none=>simp[KO]
 |some d=>
  show fi (Nat.pow 2 d) t=true↔_
  rw[KN]
  simp
structure Kn(C:aT)(n ao:Nat)(ar:Array Oper)(x:fd)(W:Oper):Prop where
 oper:ar[x.i]? =some W
 g:Hs (h9 ar x.i) W.guard=some x.g
 op:lN C (h9 ar x.i) W.op=some x.op
 dst:∀d,W.dst=some d->d<n
 reads:D1 C ao (h9 ar x.i) W.op.operands.toList=true
def Ph{C:aT}{n ao i:Nat}{W:Oper}{k:List Oper}{wr:List (Nat×Nat)}{cs:List fd}(a:r3 C n ao (W::k) i wr=some cs):
 ∃g op r,Hs wr W.guard=some g/\lN C wr W.op=some op/\K6 n W=true/\D1 C ao wr W.op.operands.toList=true/\r3 C n ao k (i+1) (w0 W i wr)=some r/\cs=⟨i,g,op⟩::r:=by
 simp only[r3,lT]at a
 split at a
 ·rename_i g op bw Dj
  simp only[eF,Zq]at a
  obtain⟨⟨H,K⟩,a⟩:=a
  split at a
  ·rename_i r V
   simp at a
   exact⟨g,op,r,bw,Dj,H,K,V,a.symm⟩
  ·simp at a
 ·simp at a
def W0{n:Nat}{W:Oper}(a:K6 n W=true):∀d,W.dst=some d->d<n:=by
 intro d aH
 unfold K6 at a
 rw[aH]at a
 exact j4 a
def PG{ar:Array Oper}{i:Nat}{W:Oper}{k:List Oper}(a:ar.toList.drop i=W::k):ar[i]? =some W/\ar.toList.drop (i+1)=k/\i<ar.size:=by
 have H:(ar.toList.drop i)[0]? =some W:=by rw[a];rfl
 rw[YC,ZO]at H
 refine⟨by simpa using H, ?_, ?_⟩
 ·have:(ar.toList.drop i).drop 1=k:=by rw[a];rfl
  rw[zw]at this
  exact this
 ·exact(ZS.1 (by simpa using H)).1
def ajv{C:aT}{n ao:Nat}{ar:Array Oper}:∀(k:List Oper) (i:Nat) (cs:List fd),ar.toList.drop i=k->r3 C n ao k i (h9 ar i)=some cs->
 cs.length=k.length/\∀Y x,cs[Y]? =some x->x.i=i+Y/\∃W,Kn C n ao ar x W:=by
 intro k
 induction k with
 |nil=>intro i cs _ a;simp[r3]at a;subst a;simp
 |cons W k aj=>
  intro i cs aH a
  obtain⟨g,op,r,H,K,am,aC,bm,rfl⟩:=Ph a
  obtain⟨cB,cC,dI⟩:=PG aH
  rw[<-J8 cB]at bm
  obtain⟨bS,ck⟩:=aj (i+1) r cC bm
  refine⟨by simp[bS],λY x af=> ?_⟩
  cases Y with
  |zero=>simp at af;subst af;exact⟨rfl,W,cB,H,K,W0 am,aC⟩
  |succ Y=>
   simp at af
   obtain⟨D,bt⟩:=ck Y x af
   exact⟨Zo,bt⟩
def akv{im:List (Nat×Nat)}:∀(k:List Edge) (E:Nat),fi (k.foldr (CH im) 0) E=true->∃D∈k,Region.binds .any D=true/\(E=D.on\/∃fI,ed im D.on=some fI/\fi fI E=true):=by
 intro k
 induction k with
 |nil=>intro E a;simp[KO]at a
 |cons D k aj=>
  intro E a
  simp only[List.foldr_cons]at a
  have pX:fi (k.foldr (CH im) 0) E=true->∃ig∈D::k,Region.binds .any ig=true/\(E=ig.on\/∃fI,ed im ig.on=some fI/\fi fI E=true):=λa=>by
   obtain⟨ig,H,K⟩:=aj E a
   exact⟨ig,Zn _ H,K⟩
  unfold CH at a
  rw[eQ]at a
  split at a
  ·exact pX a
  ·rw[eQ]at a
   split at a
   ·rename_i al
    split at a
    ·rename_i q aG
     rw[EL,EL,KN]at a
     simp only[zb,Zi]at a
     rcases a with (a|a)|a
     ·exact pX a
     ·exact⟨D,Zt ..,al, .inr ⟨q,aG,a⟩⟩
     ·exact⟨D,Zt ..,al, .inl a.symm⟩
    ·exact pX a
   ·exact pX a
structure Ew(ar:Array Oper)(p:f6)(W:Oper):Prop where
 oper:ar[p.i]? =some W
 r:p.r=Nat.lor (Gn W.op.operands.toList) (LB (h9 ar p.i) W.guard)
 w:p.w=HE W
def acH{ar:Array Oper}:∀(k:List Oper) (i:Nat) (im:List (Nat×Nat)),ar.toList.drop i=k->(∀Y m,ed im Y=some m->Y<i)->
 (Bn k i (h9 ar i) im).length=k.length/\(∀Y p,(Bn k i (h9 ar i) im)[Y]? =some p->p.i=i+Y/\∃W,Ew ar p W)/\
 ∀(Q:Nat->Nat->Prop),(∀Y m,ed im Y=some m->Q Y m)->(∀Y W m,ar[Y]? =some W->i<=Y->(∀E,fi m E=true->∃D∈W.after.toList,Region.binds .any D=true/\(E=D.on\/∃fI,Q D.on fI/\fi fI E=true))->Q Y m)->
  ∀p∈Bn k i (h9 ar i) im,Q p.i p.m:=by
 intro k
 induction k with
 |nil=>intro i im _ _;simp[Bn]
 |cons W k aj=>
  intro i im aH uK
  obtain⟨cB,cC,dI⟩:=PG aH
  simp only[Bn,lT]
  rw[<-J8 cB]
  have aoI:∀Y m,ed ((i,W.after.toList.foldr (CH im) 0)::im) Y=some m->Y<i+1:=by
   intro Y m a
   rw[qW]at a
   split at a
   ·omega
   ·have:=uK Y m a;omega
  obtain⟨bS,ck,cM⟩:=aj (i+1) ((i,W.after.toList.foldr (CH im) 0)::im) cC aoI
  refine⟨by simp only[Zz,bS],λY p ay=> ?_,λQ e0 rh p ay=> ?_⟩
  ·cases Y with
   |zero=>simp only[Z6,Zc]at ay;subst ay;exact⟨rfl,W,cB,rfl,rfl⟩
   |succ Y=>
    simp only[Z1]at ay
    obtain⟨D,bt⟩:=ck Y p ay
    exact⟨Zo,bt⟩
  ·have aF:Q i (W.after.toList.foldr (CH im) 0):=by
    refine rh i W _ cB (Zj _) λE aD=> ?_
    obtain⟨D,H,K,am⟩:=akv _ E aD
    refine⟨D,H,K,am.imp id ?_⟩
    rintro⟨fI,aC,bm⟩
    exact⟨fI,e0 _ _ aC,bm⟩
   rcases Zr.1 ay with rfl|ay
   ·exact aF
   ·refine cM Q (λY m a=> ?_) (λY W m H K am=>rh Y W m H Zo am) p ay
    rw[qW]at a
    split at a
    ·rename_i D;subst D;cases a;exact aF
    ·exact e0 Y m a
def asU{E:f6}:∀{k:List f6},Nk E k=true->∀b∈k,Ni E b=true:=by
 intro k
 induction k with
 |nil=>intro _ b a;simp at a
 |cons c k aj=>
  intro a b al
  simp only[Nk,Zq]at a
  rcases Zr.1 al with rfl|al
  ·exact a.1
  ·exact aj a.2 b al
def asS:∀{k:List f6},JA k=true->∀(Y i:Nat) E b,Y<i->k[Y]? =some E->k[i]? =some b->Ni E b=true:=by
 intro k
 induction k with
 |nil=>intro _ Y i E b _ a;simp at a
 |cons c k aj=>
  intro a Y i E b aaF aD al
  simp only[JA,Zq]at a
  obtain⟨i,rfl⟩:∃q,i=q+1:=⟨i-1,Zo⟩
  simp at al
  cases Y with
  |zero=>simp at aD;subst aD;exact asU a.1 b (Zh al)
  |succ Y=>simp at aD;exact aj a.2 Y i E b Zo aD al
def asP:∀{k:List Oper}{i:Nat},D0 k i=true->∀Y W,k[Y]? =some W->∀D∈W.after.toList,Region.binds .any D=true->D.on<i+Y:=by
 intro k
 induction k with
 |nil=>intro i _ Y W a;simp at a
 |cons E k aj=>
  intro i a Y W bd D bt al
  simp only[D0,Zq]at a
  cases Y with
  |zero=>
   simp at bd;subst bd
   have:=zm.1 a.1 D bt
   simp only[al,Yt,Bool.false_or]at this
   have:=j4 this
   omega
  |succ Y=>
   simp at bd
   have:=aj a.2 Y W bd D bt al
   omega
def anQ:∀{k:List f6},Is k=true->∀(p:Nat) E b,k[p]? =some E->k[p+1]? =some b->fi b.m E.i=true:=by
 intro k
 induction k with
 |nil=>intro _ p E b a;simp at a
 |cons c k aj=>
  intro a p E b aD al
  simp only[Is,Zq]at a
  cases p with
  |zero=>
   simp at aD al;subst aD
   cases k with
   |nil=>simp at al
   |cons d k=>simp at al;subst al;exact a.1
  |succ p=>simp at aD al;exact aj a.2 p E b aD (by simpa using al)
def anP:∀(da:List f6) (cs:List fd),Fu da cs=(da.zip cs).filter λx=>nH x.2.op:=by
 intro da
 induction da with
 |nil=>intro cs;rfl
 |cons p da aj=>
  intro cs
  cases cs with
  |nil=>rfl
  |cons c cs=>
   simp only[Fu,List.zip_cons_cons,List.filter_cons,eQ,aj]
def arB(aE:List f6):∀(da:List f6) (cs:List fd),F8 aE da cs=((da.zip cs).filter λx=> !nH x.2.op).map λx=>⟨x.2,um x.1.m aE,AD x.1.i aE⟩:=by
 intro da
 induction da with
 |nil=>intro cs;rfl
 |cons p da aj=>
  intro cs
  cases cs with
  |nil=>rfl
  |cons c cs=>
   simp only[F8,List.zip_cons_cons,List.filter_cons,eQ,aj]
   cases nH c.op<;>simp
def Lp:∀k:List (f6×fd),qi k=k.map (·.1):=by
 intro k
 induction k with
 |nil=>rfl
 |cons E k aj=>simp[qi,aj]
def ajR(m:Nat):∀(aE:List f6) (q:Nat),(∀p a,aE[p]? =some a->q<=p->fi m a.i=false)->um m aE<=q:=by
 intro aE
 induction aE with
 |nil=>intro q _;simp[um]
 |cons a aE aj=>
  intro q aG
  simp only[um,eQ]
  cases q with
  |zero=>
   have:=aG 0 a rfl (Zj _)
   rw[this]
   have:=aj 0 (λp co ay _=>aG (p+1) co (by simpa using ay) Zo)
   simpa using this
  |succ q=>
   have:=aj q (λp co ay fa=>aG (p+1) co (by simpa using ay) Zo)
   split<;>omega
def aog(i:Nat):∀(aE:List f6) (q:Nat),q<=aE.length->(∀p a,aE[p]? =some a->p<q->fi a.m i=false)->q<=AD i aE:=by
 intro aE
 induction aE with
 |nil=>intro q aG _;simp at aG;omega
 |cons a aE aj=>
  intro q pP aG
  cases q with
  |zero=>omega
  |succ q=>
   have bi:=aG 0 a rfl Zo
   simp only[AD,bi,kp]
   have:=aj q (by simpa using pP) (λp co ay cJ=>aG (p+1) co (by simpa using ay) Zo)
   omega
def p1(tmps:Array Value)(dst:Option Nat)(v:Value):Array Value:=match dst with|some d=>tmps.setIfInBounds d v|none=>tmps
def Ny(tmps:Array Value)(dst:Option Nat)(v:Value):(p1 tmps dst v).size=tmps.size:=by cases dst<;>simp[p1]
def adB(tmps:Array Value)(dst:Option Nat)(v:Value)(t:Nat)(a:∀d,dst=some d->d<tmps.size):(p1 tmps dst v)[t]? =if dst=some t then some v else tmps[t]? :=by
 cases dst with
 |none=>simp[p1]
 |some d=>
  have:=a d rfl
  simp only[p1,Zc,Array.getElem?_setIfInBounds]
  by_cases D:d=t
  ·subst D;simp[this]
  ·simp[D]
def Sub(aq hm:List (Nat×y)):Prop:=∀Y ab,ed aq Y=some ab->ed hm Y=some ab
def Sub.refl(aq:List (Nat×y)):Sub aq aq:=λ_ _ a=>a
def Sub.trans{E b c:List (Nat×y)}(a:Sub E b)(q:Sub b c):Sub E c:=λY ab bD=>q Y ab (a Y ab bD)
def Sub.cons{aq:List (Nat×y)}{i:Nat}{v:y}(a:ed aq i=none):Sub aq ((i,v)::aq):=λY ab bD=>by
 rw[qW,Zg]
 ·exact bD
 ·intro D;subst D;rw[a]at bD;cases bD
def py(C:aT)(h R:M ak):Prop:=∀x,Z C h x=Z C R x\/Z C h x=none
inductive vp(ar:Array Oper):(Nat->Prop)->List Nat->Prop
 |nil {db}:(∀i,i<ar.size->db i)->vp ar db []
 |cons {db i W k}:ar[i]? =some W->¬db i->(∀D∈W.after.toList,Region.binds .any D=true->db D.on)->vp ar (add db i) k->vp ar db (i::k)
noncomputable def vy(C:aT)(n ao:Nat)(ar:Array Oper):List fd:=(r3 C n ao ar.toList 0 []).getD []
noncomputable def oK(ar:Array Oper):List f6:=Bn ar.toList 0 [] []
noncomputable def gw(C:aT)(n ao:Nat)(ar:Array Oper):List (f6×fd):=Fu (oK ar) (vy C n ao ar)
noncomputable def lP(C:aT)(n ao:Nat)(ar:Array Oper):List pz:=F8 (qi (gw C n ao ar)) (oK ar) (vy C n ao ar)
structure px(C:aT)(n ao:Nat)(ar:Array Oper):Prop where
 ajJ:r3 C n ao ar.toList 0 []=some (vy C n ao ar)
 awS:D0 ar.toList 0=true
 atb:JA (oK ar)=true
 chain:Is (qi (gw C n ao ar))=true
section
variable{C:aT}{n ao:Nat}{ar:Array Oper}
def PD(a:px C n ao ar):(vy C n ao ar).length=ar.size/\∀Y x,(vy C n ao ar)[Y]? =some x->x.i=Y/\∃W,Kn C n ao ar x W:=by
 have bi:=a.ajJ
 have:=ajv (ar:=ar) ar.toList 0 _ Zs (by rw[J9];exact bi)
 exact⟨by simpa using this.1,λY x af=>by simpa using this.2 Y x af⟩
def HB(ar:Array Oper):(oK ar).length=ar.size/\(∀Y p,(oK ar)[Y]? =some p->p.i=Y/\∃W,Ew ar p W):=by
 have:=acH (ar:=ar) ar.toList 0 [] Zs Zs
 rw[J9]at this
 exact⟨by unfold oK;simpa using this.1,λY p ay=>by simpa using this.2.1 Y p ay⟩
noncomputable def qZ(C:aT)(n ao:Nat)(ar:Array Oper):List (f6×fd):=(oK ar).zip (vy C n ao ar)
def xh(a:px C n ao ar)(i:Nat)(aF:i<ar.size):∃p x W,(qZ C n ao ar)[i]? =some (p,x)/\(oK ar)[i]? =some p/\p.i=i/\x.i=i/\Kn C n ao ar x W/\Ew ar p W:=by
 obtain⟨a7,b2⟩:=PD a
 obtain⟨b4,cr⟩:=HB ar
 have af:(vy C n ao ar)[i]? =some ((vy C n ao ar)[i]'Zo):=Zf _
 have ay:(oK ar)[i]? =some ((oK ar)[i]'Zo):=Zf _
 obtain⟨dl,W,dx⟩:=b2 _ _ af
 obtain⟨cB,o',cC⟩:=cr _ _ ay
 have:o'=W:=by
  have bB:=dx.oper;have cp:=cC.oper
  rw[dl]at bB;rw[cB]at cp
  rw[bB]at cp;exact(Ym cp).symm
 subst this
 refine⟨_,_,o', ?_,ay,cB,dl,dx,cC⟩
 unfold qZ
 rw[List.getElem?_zip_eq_some]
 exact⟨ay,af⟩
def xi(a:px C n ao ar){e:f6×fd}(B:e∈qZ C n ao ar):∃W,e.1.i<ar.size/\e.2.i=e.1.i/\(qZ C n ao ar)[e.1.i]? =some e/\(oK ar)[e.1.i]? =some e.1/\Kn C n ao ar e.2 W/\Ew ar e.1 W:=by
 obtain⟨Y,bD⟩:=Z3.1 B
 have eO:(qZ C n ao ar).length=ar.size:=by
  unfold qZ
  rw[List.length_zip,(PD a).1,(HB ar).1,Nat.min_self]
 have cJ:Y<ar.size:=zE (Zb.1 bD).1
 obtain⟨p,x,W,H,K,am,aC,bm,b1⟩:=xh a Y cJ
 rw[bD]at H
 cases H
 refine⟨W,by simp only;omega,by simp only;omega, ?_, ?_,bm,b1⟩
 ·simp only[am];exact bD
 ·simp only[am];exact K
def K0:gw C n ao ar=(qZ C n ao ar).filter λ(x:f6×fd)=>nH x.2.op:=anP _ _
def K2:lP C n ao ar=((qZ C n ao ar).filter λ(x:f6×fd)=> !nH x.2.op).map λ(x:f6×fd)=>⟨x.2,um x.1.m (qi (gw C n ao ar)),AD x.1.i (qi (gw C n ao ar))⟩:=arB _ _ _
def K4{k:pz}(aB:k∈lP C n ao ar):∃p,(p,k.x)∈qZ C n ao ar/\nH k.x.op=false/\k.bR=um p.m (qi (gw C n ao ar))/\k.aF=AD p.i (qi (gw C n ao ar)):=by
 rw[K2]at aB
 obtain⟨e,B,rfl⟩:=ZC.1 aB
 obtain⟨H,K⟩:=YR.1 B
 exact⟨e.1,H,by simpa using K,rfl,rfl⟩
def K1{e:f6×fd}(B:e∈gw C n ao ar):e∈qZ C n ao ar/\nH e.2.op=true:=by
 rw[K0]at B
 exact YR.1 B
def WW(a:px C n ao ar)(i:Nat)(aF:i<ar.size):(∃k∈lP C n ao ar,k.x.i=i)\/(∃(p:Nat) (e:f6×fd),(gw C n ao ar)[p]? =some e/\e.1.i=i):=by
 obtain⟨p,x,W,H,K,am,aC,bm,b1⟩:=xh a i aF
 have bc:=Zh H
 cases f8:nH x.op with
 |true=>
  refine .inr ?_
  have:(p,x)∈gw C n ao ar:=by rw[K0];exact YR.2 ⟨bc,f8⟩
  obtain⟨ai,bG⟩:=Z3.1 this
  exact⟨ai,_,bG,am⟩
 |false=>
  refine .inl ⟨_,by rw[K2];exact ZC.2 ⟨(p,x),YR.2 ⟨bc,by simp[f8]⟩,rfl⟩,aC⟩
def WV(a:px C n ao ar):(qZ C n ao ar).Pairwise λE b=>E.1.i<b.1.i:=by
 rw[YV]
 intro i Y aF bD xI
 have eO:(qZ C n ao ar).length=ar.size:=by
  unfold qZ
  rw[List.length_zip,(PD a).1,(HB ar).1,Nat.min_self]
 obtain⟨p,x,W,H,K,am,_⟩:=xh a i Zo
 obtain⟨ayG,iL,o',q5,Fc,awX,_⟩:=xh a Y Zo
 rw[Zf aF]at H
 rw[Zf bD]at q5
 rw[Ym H,Ym q5]
 simp only;omega
def WU(a:px C n ao ar){p ai:Nat}{e bo:f6×fd}(ay:(gw C n ao ar)[p]? =some e)(bG:(gw C n ao ar)[ai]? =some bo)(bt:e.1.i=bo.1.i):p=ai:=by
 have IK:(gw C n ao ar).Pairwise λE b=>E.1.i<b.1.i:=by rw[K0];exact(WV a).filter _
 rw[YV]at IK
 obtain⟨H,K⟩:=Zb.1 ay
 obtain⟨am,aC⟩:=Zb.1 bG
 rcases YZ p ai with cJ|rfl|gm
 ·have:=IK p ai H am cJ
  rw[K,aC]at this;omega
 ·rfl
 ·have:=IK ai p am H gm
  rw[K,aC]at this;omega
def PE(a:px C n ao ar):(lP C n ao ar).Pairwise λE b=>E.x.i<b.x.i:=by
 rw[K2,List.pairwise_map]
 have H:((qZ C n ao ar).filter λ(x:f6×fd)=> !nH x.2.op).Pairwise λE b=>E.1.i<b.1.i:=(WV a).filter _
 refine H.imp_of_mem λ{E b} aD al cJ=> ?_
 obtain⟨_,_,bB,_⟩:=xi a (YR.1 aD).1
 obtain⟨_,_,cp,_⟩:=xi a (YR.1 al).1
 show E.2.i<b.2.i
 rw[bB,cp];exact cJ
def K3(a:px C n ao ar){k:pz}(aB:k∈lP C n ao ar):k.x.i<ar.size:=by
 obtain⟨p,ay,_⟩:=K4 aB
 obtain⟨_,H,K,_⟩:=xi a ay
 simp only at H K;omega
def aka(a:px C n ao ar){e:f6×fd}(B:e∈gw C n ao ar):e.1.i<ar.size/\e.2.i=e.1.i:=by
 obtain⟨_,H,K,_⟩:=xi a (K1 B).1
 exact⟨H,K⟩
def Ch(ar:Array Oper)(db:Nat->Prop):Prop:=∀i W,ar[i]? =some W->db i->∀D∈W.after.toList,Region.binds .any D=true->db D.on
def HC{db:Nat->Prop}(bP:Ch ar db){p:f6}(ay:p∈oK ar){W:Oper}(bd:ar[p.i]? =some W)
 (lX:∀D∈W.after.toList,Region.binds .any D=true->db D.on):∀E,fi p.m E=true->db E:=by
 have key:=(acH (ar:=ar) ar.toList 0 [] Zs Zs).2.2 (λi m=>(∀W,ar[i]? =some W->∀D∈W.after.toList,Region.binds .any D=true->db D.on)->∀E,fi m E=true->db E) Zs
  (λY W m bD _ bc lX E aD=>by
   obtain⟨D,H,K,am⟩:=bc E aD
   have bt:=lX W bD D H K
   rcases am with rfl|⟨fI,aC,bm⟩
   ·exact bt
   ·exact aC (λo' FE ig anJ jp=>bP D.on o' FE bt ig anJ jp) E bm)
 rw[J9]at key
 exact key p ay (λo' FE=>by rw[bd]at FE;cases FE;exact lX)
end
structure Kj(C:aT)(aa:Nat->Prop)(h:M ak)(base:Nat)(aq:List (Nat×y))(I:M y)(x:fd)(ab:y):Prop where
 key:ed aq x.i=some ab
 ok:∃kn b,Sub kn aq/\oy x.g kn=some b/\(b=false->ab=undef)/\(b=true->(nH x.op=false)/\
  (mN x.op= .make->∃cK,n6 x.op C (base+x.i) kn I=some (ab,cK)/\Z C h (base+x.i)=some cK)/\
  (mN x.op= .h2->BL x.op=false->∀ib,gM x.op C ib kn I=some ab))
def G4(C:aT)(h:M ak)(aq:List (Nat×y))(I:M y)(x:fd)(ab:y):Prop:=
 ∃kn ib b,Sub kn aq/\py C ib h/\oy x.g kn=some b/\(b=true->mN x.op= .h2->gM x.op C ib kn I=some ab)
def yD(J:cU)(aa:Nat->Prop)(ao:Nat)(ar:Array Oper)(db:Nat->Prop)(aq:List (Nat×y))(I:M y)(tmps:Array Value):Prop:=
 ∀t v,((∃Y,db Y/\r4 ar Y=some t/\(∀lB,db lB->r4 ar lB=some t->lB<=Y)/\ed aq Y=some v)\/((∀Y,db Y->r4 ar Y≠some t)/\fi ao t=true/\I.get t=some v))->
  tmps[t]? =some (aO J v)/\b7 aa v
structure qO(C:aT)(J:cU)(aa:Nat->Prop)(h:M ak)(base n ao:Nat)(ar:Array Oper)(aq:List (Nat×y))(q m:Nat)(I:M y)(tmps:Array Value)(db:Nat->Prop):Prop where
 st:px C n ao ar
 size:tmps.size=n
 MN:q<=(gw C n ao ar).length
 dh:C.aY<=base
 closed:Ch ar db
 wb:∀i,db i->i<ar.size
 done:∀p a,(gw C n ao ar)[p]? =some a->(db a.1.i↔p<q)
 tG:∀k∈lP C n ao ar,db k.x.i->k.bR<m
 keys:∀i ab,ed aq i=some ab->(∃k∈lP C n ao ar,k.x.i=i/\k.bR<m)\/(∃p a,(gw C n ao ar)[p]? =some a/\a.1.i=i/\p<q)
 uF:∀p a,(gw C n ao ar)[p]? =some a->p<q->∃ab,ed aq a.1.i=some ab
 ahead:∀k∈lP C n ao ar,k.bR<m->∃ab,ed aq k.x.i=some ab/\(¬db k.x.i->Kj C aa h base aq I k.x ab)
 CE:yD J aa ao ar db aq I tmps
 ids:∀i,i<ar.size->aa (base+i)->db i
 free:∀i,i<ar.size->ed aq i=none->Z C h (base+i)=none
section
variable{C:aT}{J c0:cU}{aa dn:Nat->Prop}{h R:M ak}{j au bj:Nat}{w w':World}
def oF.ad{ao:Nat}{X:Nat->Prop}{wr:List (Nat×Nat)}{aq:List (Nat×y)}{I:M y}{tmps:Array Value}(dz:∀b,aa b->c0 b=J b)(gf:∀b,aa b->dn b)(a:oF J aa ao X wr aq I tmps):oF c0 dn ao X wr aq I tmps:=
 λt v af bu=>by
  obtain⟨H,K⟩:=a t v af bu
  exact⟨by rw[H,qe dz K],oP gf v K⟩
def yD.ad{ao:Nat}{ar:Array Oper}{db:Nat->Prop}{aq:List (Nat×y)}{I:M y}{tmps:Array Value}(dz:∀b,aa b->c0 b=J b)(gf:∀b,aa b->dn b)(a:yD J aa ao ar db aq I tmps):yD c0 dn ao ar db aq I tmps:=
 λt v bu=>by
  obtain⟨H,K⟩:=a t v bu
  exact⟨by rw[H,qe dz K],oP gf v K⟩
def rN.ad(dz:∀b,aa b->c0 b=J b)(gf:∀b,aa b->dn b)(a:rN C J aa):rN C c0 dn:=λg bw=>by
 obtain⟨H,K,am⟩:=a g bw
 exact⟨gf g H,by rw[dz g H];exact K,by rw[dz g H];exact am⟩
def qO.ad{c5 base n ao q m:Nat}{ar:Array Oper}{aq:List (Nat×y)}{I:M y}{tmps:Array Value}{db:Nat->Prop}(af:is C c5 J aa h bj w c0 dn R w')(aB:base+ar.size<=c5)
 (a:qO C J aa h base n ao ar aq q m I tmps db):qO C c0 dn R base n ao ar aq q m I tmps db:=by
 have hid:∀i,i<ar.size->dn (base+i)->db i:=λi aF aH=>(af.new _ aH).elim (a.ids i aF) (λai=>Zo)
 refine⟨a.st,a.size,a.MN,a.dh,a.closed,a.wb,a.done,a.tG,a.keys,a.uF, ?_,a.CE.ad af.iJ af.jw,hid, ?_⟩
 ·intro k hg mG
  obtain⟨ab,H,K⟩:=a.ahead k hg mG
  refine⟨ab,H,λbP=> ?_⟩
  obtain⟨am,kn,b,aC,bm,b1,df⟩:=K bP
  refine⟨am,kn,b,aC,bm,b1,λal=> ?_⟩
  obtain⟨ev,hN,nA⟩:=df al
  refine⟨ev,λaG=> ?_,nA⟩
  obtain⟨cK,q6,CR⟩:=hN aG
  refine⟨cK,q6, ?_⟩
  have cJ:=K3 a.st hg
  rw[af.ad _ (λaH=>bP (a.ids _ cJ aH)) Zo]
  exact CR
 ·intro i aF bu
  rw[af.ad _ ?_ Zo]
  ·exact a.free i aF bu
  ·intro aH
   have bP:=a.ids i aF aH
   rcases WW a.st i aF with ⟨k,h0,gI⟩|⟨p,e,ay,B⟩
   ·obtain⟨ab,a6,_⟩:=a.ahead k h0 (a.tG k h0 (by rw[gI];exact bP))
    rw[gI,bu]at a6;cases a6
   ·obtain⟨ab,a6⟩:=a.uF p e ay ((a.done p e ay).1 (by rw[B];exact bP))
    rw[B,bu]at a6;cases a6
end
section
variable{C:aT}{J c0:cU}{aa dn:Nat->Prop}{h R:M ak}{j au bj:Nat}{w w':World}{n ao:Nat}{ar:Array Oper}
def ab6{E b t:Nat}(H:fi E t=true)(K:fi b t=true):Nat.beq (Nat.land E b) 0=false:=by
 cases a:Nat.beq (Nat.land E b) 0 with
 |false=>rfl
 |true=>
  have D:=Zl a
  have:=ajj E b t
  rw[D,KO,H,K]at this
  cases this
def Nw{p:f6}{W:Oper}(a:Ew ar p W){t:Nat}(aH:W.dst=some t):fi p.w t=true:=by rw[a.w];exact akk.2 aH
def aty{p:f6}{W:Oper}(a:Ew ar p W){t:Nat}(V:Operand.tmp t∈W.op.operands.toList):fi p.r t=true:=by
 rw[a.r,EL,as1.2 V];rfl
def Ps(a:px C n ao ar){i Y:Nat}{p ai:f6}(xI:i<Y)(ay:(oK ar)[i]? =some p)(bG:(oK ar)[Y]? =some ai){t:Nat}
 (aA:(fi p.w t=true/\(fi ai.r t=true\/fi ai.w t=true))\/(fi ai.w t=true/\fi p.r t=true)):fi ai.m i=true:=by
 have:=asS a.atb i Y p ai xI ay bG
 have IJ:p.i=i:=((HB ar).2 i p ay).1
 unfold Ni at this
 rw[IJ]at this
 rcases aA with ⟨H,K⟩|⟨H,K⟩
 ·have am:fi (Nat.lor ai.r ai.w) t=true:=by rw[EL];rcases K with K|K<;>simp[K]
  rw[ab6 H am]at this
  simpa using this
 ·rw[ab6 H K]at this
  simpa using this
def MY{i:Nat}{p:f6}(ay:(oK ar)[i]? =some p):p∈oK ar:=Zh ay
def akb(cI:px C n ao ar){db:Nat->Prop}{aq:List (Nat×y)}{I:M y}{tmps:Array Value}(kv:Ch ar db)(vZ:∀i,db i->i<ar.size)(aH:yD J aa ao ar db aq I tmps)
 {i:Nat}{p:f6}{W:Oper}(ay:(oK ar)[i]? =some p)(bd:ar[i]? =some W)(qy:¬db i)(lX:∀D∈W.after.toList,Region.binds .any D=true->db D.on):
 oF J aa ao (λt=>fi p.r t=true) (h9 ar i) aq I tmps:=by
 have aF:i<ar.size:=(ZS.1 bd).1
 obtain⟨_,eX,jS⟩:=Ka ar i (Y0 aF)
 have IJ:p.i=i:=((HB ar).2 i p ay).1
 have Mc:=HC kv (MY ay) (by rw[IJ];exact bd) lX
 have ab9:∀t Y,fi p.r t=true->i<Y->db Y->r4 ar Y=some t->False:=by
  intro t Y V xI bP uz
  obtain⟨ai,x,yd,_,bG,v8,_,af,xN⟩:=xh cI Y (vZ Y bP)
  have xM:ar[Y]? =some yd:=by rw[<-v8];exact xN.oper
  have br:=Nw xN (t:=t) (by rw[<-HF xM];exact uz)
  have al:=Ps cI xI ay bG (.inr ⟨br,V⟩)
  have:=HC kv (MY bG) (by rw[v8];exact xM) (kv Y yd xM bP) i al
  exact qy this
 intro t v bN bu
 apply aH t v
 split at bu
 ·rename_i Y bD
  obtain⟨g1,b5,cR⟩:=eX t Y bD
  left
  have aol:Y<ar.size:=Zo
  obtain⟨ai,x,yd,_,bG,v8,_,af,xN⟩:=xh cI Y aol
  have xM:ar[Y]? =some yd:=by rw[<-v8];exact xN.oper
  have br:=Nw xN (t:=t) (by rw[<-HF xM];exact b5)
  have al:=Ps cI g1 bG ay (.inl ⟨br, .inl bN⟩)
  refine⟨Y,Mc Y al,b5,λlB CT sg=> ?_,bu⟩
  rcases YZ lB i with H|H|H
  ·rcases Y8 Y lB with K|K
   ·exact absurd sg (cR lB K H)
   ·exact K
  ·exact absurd (H▸CT) qy
  ·exact(ab9 t lB bN H CT sg).elim
 ·rename_i bD
  right
  refine⟨λY bP uz=> ?_,bu.1,bu.2⟩
  rcases YZ Y i with H|H|H
  ·exact jS t bD Y H uz
  ·exact qy (H▸bP)
  ·exact ab9 t Y bN H bP uz
def yD.put(cI:px C n ao ar){db:Nat->Prop}{aq hm:List (Nat×y)}{I:M y}{tmps:Array Value}(kv:Ch ar db)(vZ:∀i,db i->i<ar.size)(aH:yD J aa ao ar db aq I tmps)(eh:tmps.size=n)
 {i:Nat}{W:Oper}{v:y}(bd:ar[i]? =some W)(qy:¬db i)(QG:∀Y,db Y->∀ab,ed hm Y=some ab->ed aq Y=some ab)(ana:ed hm i=some v)(qs:∀d,W.dst=some d->d<n)(fk:b7 aa v):
 yD J aa ao ar (add db i) hm I (p1 tmps W.dst (aO J v)):=by
 have aF:i<ar.size:=(ZS.1 bd).1
 have QX:=HF bd
 have FH:∀t,(p1 tmps W.dst (aO J v))[t]? =if W.dst=some t then some (aO J v)else tmps[t]? :=λt=>adB _ _ _ _ (by rw[eh];exact qs)
 intro t ab a
 rw[FH]
 by_cases Ft:W.dst=some t
 ·rw[Zu Ft]
  rcases a with ⟨Y,bP,uz,tr,a6⟩|⟨H,_⟩
  ·
   have aaF:Y=i:=by
    rcases bP with bP|bP
    ·have fa:=tr i (.inr rfl) (by rw[QX];exact Ft)
     rcases Y8 i Y with cJ|vW
     ·exfalso
      obtain⟨p,x,asO,_,ay,IJ,_,_,uP⟩:=xh cI i aF
      obtain⟨ai,iL,yd,_,bG,v8,_,_,xN⟩:=xh cI Y (vZ Y bP)
      have xM:ar[Y]? =some yd:=by rw[<-v8];exact xN.oper
      have aoU:asO=W:=by
       have:=uP.oper
       rw[IJ,bd]at this
       exact(Ym this).symm
      subst aoU
      have al:=Ps cI cJ ay bG (.inl ⟨Nw uP Ft, .inr (Nw xN (by rw[<-HF xM];exact uz))⟩)
      exact qy (HC kv (MY bG) (by rw[v8];exact xM) (kv Y yd xM bP) i al)
     ·omega
    ·exact bP
   subst aaF
   rw[ana]at a6
   cases a6
   exact⟨rfl,fk⟩
  ·exact absurd (by rw[QX];exact Ft) (H i (.inr rfl))
 ·rw[Zg Ft]
  apply aH t ab
  rcases a with ⟨Y,bP,uz,tr,a6⟩|⟨H,K⟩
  ·left
   have CT:db Y:=bP.resolve_right λD=>Ft (by rw[<-QX, <-D];exact uz)
   exact⟨Y,CT,uz,λlB Ix sg=>tr lB (.inl Ix) sg,QG Y CT ab a6⟩
  ·right
   exact⟨λY bD=>H Y (.inl bD),K⟩
def Ch.add{db:Nat->Prop}(kv:Ch ar db){i:Nat}{W:Oper}(bd:ar[i]? =some W)(lX:∀D∈W.after.toList,Region.binds .any D=true->db D.on):Ch ar (add db i):=by
 intro Y yd bD bP D bt al
 rcases bP with bP|bP
 ·exact .inl (kv Y yd bD bP D bt al)
 ·subst bP
  rw[bd]at bD;cases bD
  exact .inl (lX D bt al)
def MT(cI:px C n ao ar){k:pz}(aB:k∈lP C n ao ar){p:Nat}{e:f6×fd}(ay:(gw C n ao ar)[p]? =some e):k.x.i≠e.1.i:=by
 intro D
 obtain⟨ai,H,K,_⟩:=K4 aB
 obtain⟨am,aC⟩:=K1 (Zh ay)
 obtain⟨_,_,b5,cR,_⟩:=xi cI H
 obtain⟨_,_,ck,cM,_⟩:=xi cI am
 simp only at b5 cR
 rw[<-b5,D,cM]at cR
 cases cR
 rw[K]at aC;cases aC
def qO.e9{base de:Nat}{aq:List (Nat×y)}{I:M y}{tmps:Array Value}{db:Nat->Prop}(a:qO C J aa h base n ao ar aq de (de+1) I tmps db){e:f6×fd}(B:(gw C n ao ar)[de]? =some e)
 {W:Oper}(bd:ar[e.1.i]? =some W)(qy:¬db e.1.i)(lX:∀D∈W.after.toList,Region.binds .any D=true->db D.on){v:y}(fk:b7 aa v)(qs:∀d,W.dst=some d->d<n):
 qO C J aa h base n ao ar ((e.1.i,v)::aq) (de+1) (de+1) I (p1 tmps W.dst (aO J v)) (add db e.1.i):=by
 have Q7:ed aq e.1.i=none:=by
  cases bu:ed aq e.1.i with
  |none=>rfl
  |some ab=>
   exfalso
   rcases a.keys _ ab bu with ⟨k,H,K,_⟩|⟨p,bo,H,K,am⟩
   ·exact MT a.st H B K
   ·have:=WU a.st H B K;omega
 have o4:Sub aq ((e.1.i,v)::aq):=Sub.cons Q7
 have aF:e.1.i<ar.size:=(ZS.1 bd).1
 refine⟨a.st,by rw[Ny];exact a.size,zE (Zb.1 B).1,a.dh,a.closed.add bd lX, ?_, ?_, ?_, ?_, ?_, ?_, ?_, ?_, ?_⟩
 ·rintro i (bP|bP)
  ·exact a.wb i bP
  ·omega
 ·intro p bo cf
  constructor
  ·rintro(bP|bP)
   ·have:=(a.done p bo cf).1 bP;omega
   ·have:=WU a.st cf B bP;omega
  ·intro ay
   rcases Y8 p de with cJ|vW
   ·exact .inl ((a.done p bo cf).2 cJ)
   ·have:p=de:=Zo
    subst this
    rw[B]at cf;cases cf
    exact .inr rfl
 ·rintro k aB (bP|bP)
  ·exact a.tG k aB bP
  ·exact(MT a.st aB B bP).elim
 ·intro i ab a6
  rw[qW]at a6
  split at a6
  ·rename_i D
   exact .inr ⟨de,e,B,D,Zo⟩
  ·rcases a.keys i ab a6 with H|⟨p,bo,H,K,am⟩
   ·exact .inl H
   ·exact .inr ⟨p,bo,H,K,Zo⟩
 ·intro p bo cf ay
  rw[qW]
  split
  ·exact⟨v,rfl⟩
  ·rename_i cE
   have:p≠de:=λD=>by subst D;rw[B]at cf;cases cf;exact cE rfl
   exact a.uF p bo cf Zo
 ·intro k aB mG
  obtain⟨ab,H,K⟩:=a.ahead k aB mG
  refine⟨ab,o4 _ _ H,λbP=> ?_⟩
  obtain⟨_,kn,b,aC,bm⟩:=K (λai=>bP (.inl ai))
  exact⟨o4 _ _ H,kn,b,aC.trans o4,bm⟩
 ·refine a.CE.put a.st a.closed a.wb a.size bd qy ?_ (by rw[qW,Zu rfl]) qs fk
  intro Y bP ab a6
  rw[qW,Zg]at a6
  ·exact a6
  ·intro D;subst D;exact qy bP
 ·intro i lg aH
  exact .inl (a.ids i lg aH)
 ·intro i lg bu
  rw[qW]at bu
  split at bu
  ·cases bu
  ·exact a.free i lg bu
def qO.h2{base de m:Nat}{aq:List (Nat×y)}{I:M y}{tmps:Array Value}{db:Nat->Prop}(a:qO C J aa h base n ao ar aq de m I tmps db){k:pz}(aB:k∈lP C n ao ar)(mG:k.bR<m)
 {W:Oper}(bd:ar[k.x.i]? =some W)(qy:¬db k.x.i)(lX:∀D∈W.after.toList,Region.binds .any D=true->db D.on){v:y}(bu:ed aq k.x.i=some v)
 (dz:∀b,aa b->c0 b=J b)(gf:∀b,aa b->dn b)(amK:∀b,dn b->aa b\/b=base+k.x.i)(fk:b7 dn v)(qs:∀d,W.dst=some d->d<n):
 qO C c0 dn h base n ao ar aq de m I (p1 tmps W.dst (aO c0 v)) (add db k.x.i):=by
 have aF:k.x.i<ar.size:=(ZS.1 bd).1
 refine⟨a.st,by rw[Ny];exact a.size,a.MN,a.dh,a.closed.add bd lX, ?_, ?_, ?_,a.keys,a.uF, ?_, ?_, ?_,a.free⟩
 ·rintro i (bP|bP)
  ·exact a.wb i bP
  ·omega
 ·intro p bo cf
  constructor
  ·rintro(bP|bP)
   ·exact(a.done p bo cf).1 bP
   ·exact(MT a.st aB cf bP.symm).elim
  ·intro ay
   exact .inl ((a.done p bo cf).2 ay)
 ·rintro cb hg (bP|bP)
  ·exact a.tG cb hg bP
  ·have:=(PE a.st)
   by_cases ai:cb=k
   ·rw[ai];exact mG
   ·exfalso
    obtain⟨E,aD⟩:=Z3.1 hg
    obtain⟨b,al⟩:=Z3.1 aB
    obtain⟨If,nD⟩:=Zb.1 aD
    obtain⟨n8,mC⟩:=Zb.1 al
    rw[YV]at this
    rcases YZ E b with cJ|D|gm
    ·have:=this E b If n8 cJ
     rw[nD,mC]at this;omega
    ·subst D
     rw[nD]at mC;exact ai mC
    ·have:=this b E n8 If gm
     rw[nD,mC]at this;omega
 ·intro cb hg aow
  obtain⟨ab,H,K⟩:=a.ahead cb hg aow
  refine⟨ab,H,λbP=> ?_⟩
  obtain⟨am,kn,b,aC,bm,b1,df⟩:=K (λai=>bP (.inl ai))
  exact⟨am,kn,b,aC,bm,b1,df⟩
 ·exact(a.CE.ad dz gf).put a.st a.closed a.wb a.size bd qy (λ_ _ _ ai=>ai) bu qs fk
 ·intro i lg aH
  rcases amK _ aH with aH|aH
  ·exact .inl (a.ids i lg aH)
  ·exact .inr Zo
end
end Go.bs

