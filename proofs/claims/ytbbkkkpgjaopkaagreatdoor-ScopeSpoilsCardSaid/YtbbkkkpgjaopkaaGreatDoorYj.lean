/- Part of the proof of the last text; no conditions -/
import Derived.Test.YtbbkkkpgjaopkaaGreatDoorYi
set_option maxHeartbeats 8000000
set_option linter.all false
namespace Go.bs
noncomputable section
open Go.RowKit (Below)
abbrev bQ:=y->M ak->Nat->Prop
structure dc where
 g:Nat->Option y
 bb:List hy:=[]
 rc:Bool:=false
instance:CoeFun dc (λ_=>Nat->Option y):=⟨dc.g⟩
def ae(I:dc)(d:Nat)(v:y):dc:=⟨λn=>bH (Nat.beq d n) (some v) (I.g n),I.bb,I.rc⟩
def hT(k:List Nat)(I:dc):dc:=⟨λn=>bH (sx n k) none (I.g n),I.bb,I.rc⟩
def BE(I:dc)(d:hy):dc:=⟨I.g,d::I.bb,I.rc⟩
def Tl(I:dc):dc:=⟨I.g,I.bb,true⟩
abbrev fK:=dc->M ak->Nat->Prop
abbrev sX:=dc->bQ
structure uc where
 rd:Bool
 bb:Bool
 kE:Option (Option y)
def cg{α:Type}(W:Option α)(ah:α->Prop):Prop:=Option.rec (motive:=λ_=>Prop) False (λE=>ah E) W
def as3{α:Type}{W:Option α}{ah:α->Prop}{E:α}(a:W=some E)(q:ah E):cg W ah:=by subst a;exact q
def sE{α:Type}{W:Option α}{ah:α->Prop}:cg W ah↔∃E,W=some E/\ah E:=by
 cases W with
 |none=>simp[cg]
 |some E=>simp[cg]
structure av{α:Type}(W:Option α)(ah:α->Prop):Prop where
 out:cg W ah
def as4{α:Type}(W:Option α)(ah:α->Prop):av W ah=cg W ah:=propext ⟨λa=>a.out,λa=>⟨a⟩⟩
def gi{α:Type}{W:Option α}{ah:α->Prop}{E:α}(a:W=some E)(q:ah E):av W ah:=⟨as3 a q⟩
def kV{α:Type}{W:Option α}{ah:α->Prop}:av W ah↔∃E,W=some E/\ah E:=by rw[as4];exact sE
def ajl(v:y)(E b:Prop):Prop:=y.rec (motive_1:=λ_=>Prop) (motive_2:=λ_=>Prop)
 (λt=>(t=true->E)/\(t=false->b)) (λ_ _=>False) (λ_=>False) (λ_ _=>False) False (λ_ _ _ _=>False) (λ_ _ _ _=>False) False (λ_=>False) False
 (λ_ _ _ _ _=>False) False (λ_ _ _=>False) False (λ_ _=>False) (λ_ _=>False) (λ_ _ _=>False) False (λ_ _ _ _=>False) v
structure bh(v:y)(E b:Prop):Prop where
 out:ajl v E b
def Ww{v:y}{E b:Prop}(a:bh v E b):∃t,v= .bool t/\(t=true->E)/\(t=false->b):=by
 have a:=a.out
 cases v with
 |bool t=>exact⟨t,rfl,a⟩
 |_=>exact a.elim
def amp(lH:Bool)(v:y)(E b:Prop):Prop:=y.rec (motive_1:=λ_=>Prop) (motive_2:=λ_=>Prop)
 (λt=>(t=lH->E)/\(t=(!lH)->b)) (λ_ _=>b) (λ_=>b) (λ_ _=>b) b (λ_ _ _ _=>b) (λ_ _ _ _=>b) b (λ_=>b) b
 (λ_ _ _ _ _=>b) b (λ_ _ _=>b) b (λ_ _=>b) (λ_ _=>b) (λ_ _ _=>b) b (λ_ _ _ _=>b) v
structure iR(lH:Bool)(v:y)(E b:Prop):Prop where
 out:amp lH v E b
structure o8(dO:bQ)(body:bQ->Prop):Prop where
 out:body dO
def aqE(dO:bQ)(body:bQ->Prop):o8 dO body=body dO:=propext ⟨λa=>a.out,λa=>⟨a⟩⟩
structure bC(dO:fK)(body:fK->Prop):Prop where
 out:body dO
structure c4(dO:y->Prop)(body:(y->Prop)->Prop):Prop where
 out:body dO
structure tB(dO:y->M ak->Prop)(body:(y->M ak->Prop)->Prop):Prop where
 out:body dO
def aqC(dO:y->M ak->Prop)(body:(y->M ak->Prop)->Prop):tB dO body=body dO:=propext ⟨λa=>a.out,λa=>⟨a⟩⟩
structure R9(dO:Prop)(body:Prop->Prop):Prop where
 out:body dO
def aqD(dO:Prop)(body:Prop->Prop):R9 dO body=body dO:=propext ⟨λa=>a.out,λa=>⟨a⟩⟩
def kx{dO:fK}{body:fK->Prop}(rO:fK)(H:∀Y:fK,(∀I h j,rO I h j->Y I h j)->body Y)(K:∀I h j,rO I h j->dO I h j):bC dO body:=⟨H dO K⟩
structure fo(n:Nat)(ah:Nat->Prop):Prop where
 out:ah n
structure gN(C:aT)(h:M ak)(j:Nat)(v:y)(cK:ak)(ah:bQ):Prop where
 out:ah v (bl C h j (some cK)) (j+1)
structure lD(C:aT)(h:M ak)(b:Nat)(v:y)(cK:ak)(ah:y->M ak->Prop):Prop where
 out:ah v (bl C h b (some cK))
structure w7(C:aT)(h:M ak)(b:Nat)(E:y)(ah:y->M ak->Prop):Prop where
 out:ah (.ptr b 0) (bl C h b (some (.cells (M.ofList E.cells 0 .nil) E.cells.length .own)))
structure jv(C:aT)(h:M ak)(j:Nat)(E:y)(ah:bQ):Prop where
 out:ah (.ptr j 0) (bl C h j (some (.cells (M.ofList E.cells 0 .nil) E.cells.length .own))) (j+1)
section
variable(C:aT)(aZ:World)(bA:Nat)(bM:List Frame)(v:y)
def Oq(cs:List gB):bQ:=λab h j=>s2 (fD C aZ bA bM v) false cs ab h j=some v
def Kw(cs:List gB):bQ:=λab h j=>match cs with
 |c::rest=>adM (fD C aZ bA bM v) c rest [⟨ab,false⟩] h j=some v
 |[]=>False
end
def ua(C:aT)(f:Nat)(args:List y)(h:M ak)(j:Nat)(Q eE:bQ):Prop:=
 ∀(aZ:World) (dB:cU) (dR:Nat->Prop) (_:Env C aZ dB dR) (bA:Nat) (bM:List Frame) (v:y) (_:y.same 30 v v=true) (cs:List gB),
  (∀ab R au,Q ab R au->Oq C aZ bA bM v cs ab R au)->(∀ab R au,eE ab R au->Kw C aZ bA bM v cs ab R au)->
  n4 (fD C aZ bA bM v) C f args false cs h j=some v
def ua.mono{C:aT}{f:Nat}{args:List y}{h:M ak}{j:Nat}{Q eE qT G6:bQ}(a:ua C f args h j Q eE)(e0:∀ab h j,Q ab h j->qT ab h j)(ku:∀ab h j,eE ab h j->G6 ab h j):
 ua C f args h j qT G6:=
 λaZ dB dR cz bA bM v aE cs H K=>a aZ dB dR cz bA bM v aE cs (λab h j ai=>H ab h j (e0 ab h j ai)) (λab h j ai=>K ab h j (ku ab h j ai))
def NE(aj:hl)(C:aT)(k:Nat)(args:List y)(cs:List gB)(h:M ak)(j:Nat):dX:=match Z C h k with
 |some (.loop _ _ fn n ao cP params assign body _)=>(match wz n params args cP with
  |some cP=>aj .run [.code assign, .beginRound, .code body] ⟨fn,n,ao,[],false,some k,cs⟩ cP h j
  |none=>none)
 |_=>none
def yN(C:aT)(k:Nat)(args:List y)(h:M ak)(j:Nat)(Q eE:bQ):Prop:=
 ∀(aZ:World) (dB:cU) (dR:Nat->Prop) (_:Env C aZ dB dR) (bA:Nat) (bM:List Frame) (v:y) (_:y.same 30 v v=true) (cs:List gB),
  (∀ab R au,Q ab R au->Oq C aZ bA bM v cs ab R au)->(∀ab R au,eE ab R au->Kw C aZ bA bM v cs ab R au)->
  NE (fD C aZ bA bM v) C k args cs h j=some v
def yN.mono{C:aT}{k:Nat}{args:List y}{h:M ak}{j:Nat}{Q eE qT G6:bQ}(a:yN C k args h j Q eE)(e0:∀ab h j,Q ab h j->qT ab h j)(ku:∀ab h j,eE ab h j->G6 ab h j):
 yN C k args h j qT G6:=
 λaZ dB dR cz bA bM v aE cs H K=>a aZ dB dR cz bA bM v aE cs (λab h j ai=>H ab h j (e0 ab h j ai)) (λab h j ai=>K ab h j (ku ab h j ai))
def T0(C:aT)(f:Nat)(args:List y)(kE:Option y)(h:M ak)(j:Nat)(Q:Bool->M ak->Nat->Prop):Prop:=
 ∀(aZ:World) (dB:cU) (dR:Nat->Prop) (_:Env C aZ dB dR) (bA:Nat) (bM:List Frame) (v:y) (_:y.same 30 v v=true) (fn n ao:Nat) (I:M y) (todo:List dG) (ds:List hy) (aR:Bool) (ro:Option Nat) (cs:List gB),
  (∀b R au,Q b R au->fD C aZ bA bM v (match kE,b with|none,_=> .returning|some _,true=> .returning|some ab,false=> .panicking [⟨ab,false⟩]) todo ⟨fn,n,ao,ds,aR,ro,cs⟩ I R au=some v)->
  n4 (fD C aZ bA bM v) C f args true (⟨fn,n,ao,I,todo,ds,(match kE with|none=> .returning|some ab=> .panicking [⟨ab,false⟩]),aR,ro⟩::cs) h j=some v
structure a1(C:aT)(f:Nat)(args:List y)(h:M ak)(j:Nat)(ah ax:bQ):Prop where
 out:(∃ab,C.g4 f args=some ab/\ah ab h j)\/(C.g4 f args=none/\(∃fn c,C.P.funcs[f]? =some fn/\fn.body=some c)/\ua C f args h j ah ax)
structure SC(C:aT)(h:M ak)(ca:List y)(j:Nat)(ah:bQ):Prop where
 out:∃ab,Cp C h ca=some ab/\ah ab h j
structure hu(W:Option dZ)(h:M ak)(j:Nat)(ah:bQ):Prop where
 out:match W with
 |some (.val v)=>ah v h j
 |some (.fq v R au)=>ah v R au
 |_=>False
def adR(W:Option dZ)(h:M ak)(j:Nat)(ah:bQ):hu W h j ah=(match W with
 |some (.val v)=>ah v h j
 |some (.fq v R au)=>ah v R au
 |_=>False):=propext ⟨λa=>a.out,λa=>⟨a⟩⟩
def at1{W:Option dZ}{h:M ak}{j:Nat}{ah:bQ}{v:y}(a:W=some (.val v))(q:ah v h j):hu W h j ah:=by subst a;exact⟨q⟩
def kh{W:Option dZ}{h R:M ak}{j au:Nat}{ah:bQ}{v:y}(a:W=some (.fq v R au))(q:ah v R au):hu W h j ah:=by subst a;exact⟨q⟩
structure E6(W:Option dZ)(h:M ak)(j:Nat)(ah:bQ):Prop where
 out:match W with
 |some (.val v)=>ah v h j
 |some (.fq v R au)=>ah v R au
 |some (.fork k)=>k≠[]/\∀ab R,(ab,R)∈k->ah ab R j
 |_=>False
def als(W:Option dZ)(h:M ak)(j:Nat)(ah:bQ):E6 W h j ah=(match W with
 |some (.val v)=>ah v h j
 |some (.fq v R au)=>ah v R au
 |some (.fork k)=>k≠[]/\∀ab R,(ab,R)∈k->ah ab R j
 |_=>False):=propext ⟨λa=>a.out,λa=>⟨a⟩⟩
def Ct(C:aT)(rd:Bool)(W:Option dZ)(h:M ak)(j:Nat)(ah ax:bQ):Prop:=match W with
 |some (.val v)=>ah v h j
 |some (.fq v R au)=>ah v R au
 |some (.enter f args)=>ua C f args h j ah ax
 |some (.round k args)=>yN C k args h j ah ax
 |some (.known _ _ v)=>ah v h j
 |some (.panic v)=>bH rd False (ax v h j)
 |some (.fork k)=>k≠[]/\∀ab R,(ab,R)∈k->ah ab R j
 |_=>False
def jx(x:kk)(aq:List (Nat×y))(I:dc)(ah:y->Prop):Prop:=
 kk.rec (motive:=λ_=>Prop) (λY=>cg (ed aq Y) ah) (λn=>cg (I n) ah) (λE=>ah E) x
def Ll(aq:List (Nat×y))(I:dc)(k:List kk):(List y->Prop)->Prop:=
 List.rec (motive:=λ_=>(List y->Prop)->Prop) (λah=>ah []) (λx _ aj ah=>jx x aq I λE=>aj λr=>ah (E::r)) k
def eB(bV:List (Nat×Nat))(aq:List (Nat×y))(I:dc)(W:Operand)(ah:y->Prop):Prop:=match W with
 | .tmp t=>(match ed bV t with|some Y=>cg (ed aq Y) ah|none=>cg (I t) ah)
 | .const v=>cg (DZ v) ah
 | .global g=>ah (.ptr g 0)
 | .func f=>ah (.func (.func f) [] [])
def sD(bV:List (Nat×Nat))(aq:List (Nat×y))(I:dc)(k:List Operand):(List y->Prop)->Prop:=
 List.rec (motive:=λ_=>(List y->Prop)->Prop) (λah=>ah []) (λx _ aj ah=>eB bV aq I x λE=>aj λr=>ah (E::r)) k
def BB(bV:List (Nat×Nat))(aq:List (Nat×y))(I:dc)(k:List (Nat×Operand)):(List (Nat×y)->Prop)->Prop:=
 List.rec (motive:=λ_=>(List (Nat×y)->Prop)->Prop) (λah=>ah []) (λx _ aj ah=>eB bV aq I x.2 λE=>aj λr=>ah ((x.1,E)::r)) k
def Nl(bV:List (Nat×Nat))(aq:List (Nat×y))(I:dc)(W:Option Operand)(ah:Option y->Prop):Prop:=match W with
 |none=>ah none
 |some x=>eB bV aq I x λE=>ah (some E)
def kC:Operand:= .global 0
def gO:Operand:= .global 1
def kf:Operand:= .global 2
def kD(E:y):Operand->Option y:=λ_=>some E
def two(E b:y):Operand->Option y:=λW=>match W with| .global 0=>some E|_=>some b
def aep(E b c:y):Operand->Option y:=λW=>match W with| .global 0=>some E| .global 1=>some b|_=>some c
def tA(n aN:Nat)(E i:y):Option y:=match ng i with|some i=>Kb n aN E i|none=>none
def iV(aN:Nat)(E i:y):Option y:=match ng i with|some i=>Cc aN E i|none=>none
def Xj(C:aT)(t f:Nat)(E:y):Option y:=Jf C t kC f .nil (kD E)
def WK(C:aT)(h:M ak)(s d:Nat)(E:y):Option y:=Je C s d kC h (kD E)
def abF(C:aT)(t:Nat)(E:y):Option y:=Jg C t kC .nil (kD E)
def Wg(C:aT)(t:Nat)(ok:Bool)(E:y):Option y:=Jd C kC t ok .nil (kD E)
def W8(C:aT)(h:M ak)(E:y):Option y:=Sj C kC h (kD E)
def r1(C:aT)(h:M ak)(b:Builtin)(cX:List TypeId)(bx:List y):Option y:=match b,bx with
 | .len,[x]=>(match cX with|t::_=>KF C h t x|_=>none)
 | .cap,[x]=>(match cX with|t::_=>KC C t x|_=>none)
 | .max,x::k=>oG true x k
 | .min,x::k=>oG false x k
 |_,_=>none
def es(C:aT)(h:M ak)(s:Nat)(E v:y):Option (M ak):=match E with
 | .ptr b W=>bH (Nat.beq v.cells.length s&&Nat.blt 0 s) (rZ C h b W v.cells) none
 |_=>none
def Fq(C:aT)(h:M ak)(j:Nat)(b:Builtin)(cX:List TypeId)(bx:List y):Option dZ:=match b,bx with
 | .append,[s,x]=>(match cX with
   |st::iq::_=>(match C.P.underlying iq with
    |some (.int _)=>(match ng x with|some n=>KD C h j st s n|none=>none)
    |some (.slice _)=>EE C h j st s x
    |some .string=>EE C h j st s x
    |_=>none)
   |_=>none)
 |_,_=>none
structure mm(C:aT)(lU:y)(ca:List y)(h:M ak)(j:Nat)(ah ax:bQ):Prop where
 out:match lU with
 | .func fn first fy=>(match fn with| .func f=>a1 C f ((first++ca)++fy) h j ah ax| .yield k=>yN C k (first++ca) h j ah ax|_=>False)
 |_=>False
def NL(C:aT)(t len:Nat)(da:List (Nat×y))(b:Nat):Option (y×ak):=match C.P.underlying t with
 |some (.slice d6)=>(match ji C d6,sT C d6 with
  |some s,some bo=>bH (Nat.ble (len*s) 16777216&&Nat.beq bo.cells.length s) ((match Ai (λi=>some (i*s,s)) (kX len bo.cells) da with
    |some cs=>some (y.slice b 0 len len,ak.cells (M.ofList cs 0 .nil) cs.length .own)
    |none=>none))<|none
  |_,_=>none)
 |_=>none
structure yg(ax:bQ)(E:y)(h:M ak)(j:Nat):Prop where
 out:match E with| .iface t v=>ax (.iface t v) h j|_=>False
def atd(ax:bQ)(E:y)(h:M ak)(j:Nat):yg ax E h j=(match E with| .iface t v=>ax (.iface t v) h j|_=>False):=propext ⟨λa=>a.out,λa=>⟨a⟩⟩
structure acF(C:aT)(rd:Bool)(jZ:y)(name:String)(ca:List y)(h:M ak)(j:Nat)(ah ax:bQ):Prop where
 out:match jZ with
 | .iface t v=>Ct C rd (EF C h t v name ca) h j ah ax
 |_=>False
def ar9(C:aT)(rd:Bool)(jZ:y)(name:String)(ca:List y)(h:M ak)(j:Nat)(ah ax:bQ):acF C rd jZ name ca h j ah ax=(match jZ with
 | .iface t v=>Ct C rd (EF C h t v name ca) h j ah ax
 |_=>False):=propext ⟨λa=>a.out,λa=>⟨a⟩⟩
def aci(bV:List (Nat×Nat))(W:Op):aT->M ak->List (Nat×y)->dc->(y->Prop)->Prop:=match W with
 | .build t parts=>λC _ aq I ah=>BB bV aq I parts.toList λda=>av (KB C t da) ah
 | .binOp op t x e _=>λC h aq I ah=>eB bV aq I x λE=>eB bV aq I e λb=>av (dD C h op t (qD x||qD e) E b) ah
 | .unOp op _ x=>λ_ _ aq I ah=>eB bV aq I x λE=>av (he op E) ah
 | .convert s d x=>λC h aq I ah=>eB bV aq I x λE=>av (WK C h s d E) ah
 | .makeInterface t x=>λC _ aq I ah=>eB bV aq I x λE=>av (abF C t E) ah
 | .makeFunc fn first fy=>λ_ _ aq I ah=>(match fn with
   | .func f=>sD bV aq I first.toList λE=>sD bV aq I fy.toList λb=>ah (.func (.func f) E b)
   |_=>False)
 | .slice t x bR aF g3=>λC h aq I ah=>eB bV aq I x λE=>Nl bV aq I bR λk=>Nl bV aq I aF λa=>Nl bV aq I g3 λm=>av (KH C h t E k a m) ah
 | .field t x f=>λC _ aq I ah=>eB bV aq I x λE=>av (Xj C t f E) ah
 | .index t x i=>λC _ aq I ah=>eB bV aq I x λE=>eB bV aq I i λb=>av (KE C t E b) ah
 | .lookup t m q ok=>λC h aq I ah=>eB bV aq I m λE=>eB bV aq I q λb=>av (KG C h t E b ok) ah
 | .typeAssert x _ t ok=>λC _ aq I ah=>eB bV aq I x λE=>av (Wg C t ok E) ah
 | .entry ew=>λC h aq I ah=>eB bV aq I ew λE=>av (W8 C h E) ah
 | .call c=>λC h aq I ah=>(match c with
   |⟨.builtin b,args,cX⟩=>sD bV aq I args.toList λbx=>av (r1 C h b cX.toList bx) ah
   |_=>False)
 |_=>λ_ _ _ _ _=>False
def F7(op:jM):aT->M ak->List (Nat×y)->dc->(y->Prop)->Prop:=match op with
 | .DP x=>λ_ _ aq I ah=>jx x aq I ah
 | .pick c E b=>λ_ _ aq I ah=>jx c aq I λc=>c4 ah λah=>bh c (jx E aq I ah) (jx b aq I ah)
 | .fm E=>λC h aq I ah=>jx E aq I λE=>av (aV C h E) ah
 | .wg n E=>λC h aq I ah=>jx E aq I λE=>av (dT C h n E) ah
 | .off d x=>λ_ _ aq I ah=>jx x aq I λE=>av (hJ d E) ah
 | .AY n aN x i=>λ_ _ aq I ah=>jx x aq I λE=>jx i aq I λi=>av (tA n aN E i) ah
 | .AZ aN x i=>λ_ _ aq I ah=>jx x aq I λE=>jx i aq I λi=>av (iV aN E i) ah
 | .DW x=>λ_ _ aq I ah=>jx x aq I λE=>av (sS E) ah
 | .I4 op x e=>λ_ _ aq I ah=>jx x aq I λE=>jx e aq I λb=>av (bg op E b) ah
 | .ext i x=>λ_ _ aq I ah=>jx x aq I λE=>av (rD i E) ah
 | .h2 bV W=>aci bV W
 |_=>λ_ _ _ _ _=>False
def acx(op:jM):aT->M ak->Nat->List (Nat×y)->dc->bQ->Prop:=match op with
 | .make bV W=>(match W with
   | .alloc t=>λC h b _ _ ah=>av (DM C t (kD undef) b) λr=>gN C h b r.1 r.2 ah
   | .box _ x=>λC h b aq I ah=>eB bV aq I x λE=>jv C h b E ah
   | .buildSlice t len parts=>λC h b aq I ah=>BB bV aq I parts.toList λda=>av (NL C t len da b) λr=>gN C h b r.1 r.2 ah
   | .makeMap _ none=>λC h b _ _ ah=>gN C h b (.map b) (.map [] 0) ah
   |_=>λ_ _ _ _ _ _=>False)
 |_=>λ_ _ _ _ _ _=>False
def SB(op:jM):aT->M ak->Nat->List (Nat×y)->dc->(y->M ak->Prop)->Prop:=match op with
 | .make bV W=>(match W with
   | .alloc t=>λC h b _ _ ah=>av (DM C t (kD undef) b) λr=>lD C h b r.1 r.2 ah
   | .box _ x=>λC h b aq I ah=>eB bV aq I x λE=>w7 C h b E ah
   | .buildSlice t len parts=>λC h b aq I ah=>BB bV aq I parts.toList λda=>av (NL C t len da b) λr=>lD C h b r.1 r.2 ah
   | .makeMap _ none=>λC h b _ _ ah=>lD C h b (.map b) (.map [] 0) ah
   |_=>λ_ _ _ _ _ _=>False)
 |_=>λ_ _ _ _ _ _=>False
def Q2(rd:Bool)(op:jM):aT->M ak->Nat->List (Nat×y)->dc->bQ->bQ->Prop:=match op with
 | .st n E v=>λC h j aq I ah _=>jx E aq I λE=>jx v aq I λv=>av (es C h n E v) λh=>ah undef h j
 | .call f args=>λC h j aq I ah ax=>Ll aq I args λca=>bH (FZ C f) (SC C h ca j ah) (a1 C f ca h j ah ax)
 | .e9 bV W=>(match W with
   | .mapUpdate t m q x=>λC h j aq I ah _=>eB bV aq I m λE=>eB bV aq I q λb=>eB bV aq I x λc=>hu (Hf C h j t E b c) h j ah
   | .insert t m q x=>λC h j aq I ah _=>eB bV aq I m λE=>eB bV aq I q λb=>eB bV aq I x λc=>hu (Hf C h j t E b c) h j ah
   | .mapEntry t m q=>λC h j aq I ah _=>eB bV aq I m λE=>eB bV aq I q λb=>hu (Ia C t kC gO h j (two E b)) h j ah
   | .entryStore _ m s x=>λC h j aq I ah _=>eB bV aq I m λE=>eB bV aq I s λb=>eB bV aq I x λc=>hu (H2 C kC gO kf h j (aep E b c)) h j ah
   | .makeSlice t k c=>λC h j aq I ah _=>eB bV aq I k λE=>eB bV aq I c λb=>hu (H9 C t kC gO h j (two E b)) h j ah
   | .makeMap t (some r)=>λC h j aq I ah _=>eB bV aq I r λE=>hu (H8 C t kC h j (kD E)) h j ah
   | .convert s d x=>λC h j aq I ah _=>eB bV aq I x λE=>hu (Ic C s d kC h j (kD E)) h j ah
   | .range t x=>λC h j aq I ah _=>eB bV aq I x λE=>hu (Ib C t kC h j (kD E)) h j ah
   | .next ew x0=>λC h j aq I ah _=>eB bV aq I ew λE=>E6 (vQ C kC x0 h j (kD E)) h j ah
   | .panic x=>λ_ h j aq I _ ax=>bH rd False (eB bV aq I x λE=>yg ax E h j)
   | .call c=>λC h j aq I ah ax=>(match c with
     |⟨.value f,args,_⟩=>eB bV aq I f λlU=>sD bV aq I args.toList λca=>mm C lU ca h j ah ax
     |⟨.builtin b,args,cX⟩=>sD bV aq I args.toList λbx=>hu (Fq C h j b cX.toList bx) h j ah
     |⟨.invoke r name,args,_⟩=>eB bV aq I r λjZ=>sD bV aq I args.toList λca=>acF C rd jZ name ca h j ah ax)
   |_=>λ_ _ _ _ _ _ _=>False)
 |_=>λ_ _ _ _ _ _ _=>False
def SP(rd:Bool)(op:jM)(C:aT)(h:M ak)(j:Nat)(aq:List (Nat×y))(I:dc)(ah ax:bQ):Prop:=match mN op with
 | .h2=>F7 op C h aq I λv=>ah v h j
 | .make=>acx op C h j aq I ah
 | .e9=>Q2 rd op C h j aq I ah ax
inductive Spec where
 |no
 |defer (bV:List (Nat×Nat)) (f:Operand) (args:List Operand)
 |recover
def Ef(op:jM):Spec:=match op with
 | .e9 bV W=>(match W with
   | .defer c=>(match c with|⟨.value f,args,_⟩=> .defer bV f args.toList|_=> .no)
   | .call c=>(match c with|⟨.builtin b,args,_⟩=>(match b,args.toList with| .recover,[]=> .recover|_,_=> .no)|_=> .no)
   |_=> .no)
 |_=> .no
def KX(lU:y)(ca:List y)(I:dc)(ah:dc->Prop):Prop:=match lU with
 | .func fn first fy=>ah (BE I ⟨.fn fn fy,first++ca⟩)
 |_=>False
def JK(kE:Option (Option y))(I:dc)(ah:y->dc->Prop):Prop:=match kE with
 |none=>False
 |some none=>ah .nilIface I
 |some (some ab)=>bH I.rc (ah .nilIface I) (ah ab (Tl I))
def N1(g:Option (Nat×Bool))(aq:List (Nat×y))(E b:Prop):Prop:=match g with
 |none=>E
 |some (Y,lH)=>cg (ed aq Y) λv=>iR lH v E b
def N3(g:Option (Nat×Bool))(aq:List (Nat×y))(ph:bQ->Prop)(dO:bQ)(h:M ak)(j:Nat):Prop:=match g with
 |none=>ph dO
 |some (Y,lH)=>o8 dO λah=>cg (ed aq Y) λv=>iR lH v (ph ah) (ah undef h j)
def rC(g:Option (Nat×Bool))(aq:List (Nat×y))(ph:(y->M ak->Prop)->Prop)(dO:y->M ak->Prop)(h:M ak):Prop:=match g with
 |none=>ph dO
 |some (Y,lH)=>tB dO λah=>cg (ed aq Y) λv=>iR lH v (ph ah) (ah undef h)
def TP(g:Option (Nat×Bool))(aq:List (Nat×y))(ph:Prop->Prop)(dO:Prop):Prop:=match g with
 |none=>ph dO
 |some (Y,lH)=>R9 dO λah=>cg (ed aq Y) λv=>iR lH v (ph ah) ah
def aeG(g:Option (Nat×Bool))(aq:List (Nat×y))(ph:bQ->Prop)(dO:bQ)(h:M ak)(j:Nat):N3 g aq ph dO h j=N1 g aq (ph dO) (dO undef h j):=by
 cases g with
 |none=>rfl
 |some p=>exact aqE _ _
def awg(g:Option (Nat×Bool))(aq:List (Nat×y))(ph:(y->M ak->Prop)->Prop)(dO:y->M ak->Prop)(h:M ak):rC g aq ph dO h=N1 g aq (ph dO) (dO undef h):=by
 cases g with
 |none=>rfl
 |some p=>exact aqC _ _
def awh(g:Option (Nat×Bool))(aq:List (Nat×y))(ph:Prop->Prop)(dO:Prop):TP g aq ph dO=N1 g aq (ph dO) dO:=by
 cases g with
 |none=>rfl
 |some p=>exact aqD _ _
def HO(k:List (Nat×Nat)):List (Nat×y)->dc->(dc->Prop)->Prop:=
 List.rec (motive:=λ_=>List (Nat×y)->dc->(dc->Prop)->Prop) (λ_ I ah=>ah I)
  (λp _ aj aq I ah=>cg (ed aq p.1) λv=>aj aq (ae I p.2 v) ah) k
def BM(C:aT)(bK:uc)(fin:List (Nat×Nat))(ah:fK)(ax:sX)(rest:List fd):List (Nat×y)->dc->M ak->Nat->Prop:=
 List.rec (motive:=λ_=>List (Nat×y)->dc->M ak->Nat->Prop) (λaq I h j=>HO fin aq I λI=>ah I h j)
  (λx _ aj aq I h j=>match Ef x.op with
   | .no=>N3 x.g aq (λah=>SP bK.rd x.op C h j aq I ah (ax I)) (λv h j=>aj ((x.i,v)::aq) I h j) h j
   | .defer bV f args=>bH (x.g.isNone&&bK.bb) (eB bV aq I f λlU=>sD bV aq I args λca=>KX lU ca I λI=>aj ((x.i,undef)::aq) I h j) False
   | .recover=>bH (x.g.isNone&& !bK.rd) (JK bK.kE I λv I=>aj ((x.i,v)::aq) I h j) False) rest
def MU(C:aT)(base:Nat)(I:dc)(k:List fd):List (Nat×y)->M ak->(List (Nat×y)->M ak->Prop)->Prop:=
 List.rec (motive:=λ_=>List (Nat×y)->M ak->(List (Nat×y)->M ak->Prop)->Prop) (λaq h ah=>ah aq h)
  (λx _ aj aq h ah=>rC x.g aq (λY=>match mN x.op with
   | .make=>SB x.op C h (base+x.i) aq I Y
   |_=>F7 x.op C h aq I λv=>Y v h) (λv h=>aj ((x.i,v)::aq) h ah) h) k
structure io(x:y)(W:Option y)(ah:Prop):Prop where
 out:cg W λab=>y.same 30 x ab=true/\ah
def S4(C:aT)(I:dc)(aq:List (Nat×y))(h:M ak)(k:List fd):Prop->Prop:=
 List.rec (motive:=λ_=>Prop->Prop) (λah=>ah) (λx _ aj ah=>TP x.g aq (λai=>F7 x.op C h aq I λv=>io v (ed aq x.i) ai) (aj ah)) k
def PF(C:aT)(rd:Bool)(base:Nat)(fin:List (Nat×Nat))(I:dc)(ah:fK)(ax:bQ)(lo:List vq):List (Nat×y)->M ak->Nat->Prop:=
 List.rec (motive:=λ_=>List (Nat×y)->M ak->Nat->Prop) (λ_ _ _=>False)
  (λs _ aj aq h j=>MU C base I s.tG aq h λaq h=>S4 C I aq h s.S3 (match s.e9 with
   |none=>HO fin aq I λI=>ah I h j
   |some a=>N3 a.g aq (λah=>Q2 rd a.op C h j aq I ah ax) (λv h j=>aj ((a.i,v)::aq) h j) h j)) lo
structure gA(body:fK->fK)(I:dc)(h:M ak)(j:Nat):Prop where
 out:∃rO:Nat->fK,(∃m,rO m I h j)/\∀m I h j,rO m I h j->body (λI h j=>∃fI,fI<m/\rO fI I h j) I h j
def CJ(id:Nat)(ah:fK)(D:Nat->fK):Nat->fK:=λtx=>bH (Nat.beq id tx) ah (D tx)
def PM(W:Operand)(I:dc)(ah:y->Prop):Prop:=eB [] [] I W ah
def atW(C:aT)(n ao:Nat)(bK:uc)(ax:sX)(ar:Array Oper)(Ab:Bool)(ah:fK):fK:=λI h j=>Bool.rec (motive:=λ_=>Prop)
 (cg (Jt C n ar ao) λr=>BM C bK r.fin ah (λI=>ax (hT (dstsOf ar.toList) I)) r.rest [] I h j)
 (cg (Js C n ar ao) λr=>fo (j+ar.size) λau=>PF C bK.rd j r.fin I ah (ax (hT (dstsOf ar.toList) I)) r.lo [] h au) Ab
def Gy(n:Nat):List Nat->List y->dc->(dc->Prop)->Prop
 |[],[],I,ah=>ah I
 |p::da,E::ca,I,ah=>bH (Nat.blt p n) (Gy n da ca (ae I p E) ah) False
 |_,_,_,_=>False
structure ajg(C:aT)(k:Nat)(mk:LoopState->Option Code->ak)(h:M ak)(q:Prop):Prop where
 here:Z C h k=some (mk .ready none)
 go:q
structure Ld(C:aT)(k:Nat)(mk:LoopState->Option Code->ak)(st:LoopState)(p:Option Code)(b:Bool)(ah:bQ)(h:M ak)(j:Nat):Prop where
 here:∃ad7 yf,Z C h k=some (mk ad7 yf)
 go:ah (.bool b) (bl C h k (some (mk st p))) j
abbrev Ko:=uc->sX->fK->(Nat->fK)->fK->fK
def Bm:uc:=⟨true,false,none⟩
def sK(C:aT)(A bj:Ko)(k:Nat)(mk:LoopState->Option Code->ak)(ah ax:bQ):fK:=λI h j=>
 A Bm (λ_=>ax) (λI h j=>ajg C k mk h (bj Bm (λ_=>ax) (λ_ h j=>Ld C k mk .ready none true ah h j) (λid _ h j=>Ld C k mk .done (some (.exit id)) false ah h j)
   (λ_ h j=>Ld C k mk .done (some .ret) false ah h j) I (bl C h k (some (mk .busy none))) j)) (λ_ _ _ _=>False) (λ_ _ _=>False) I h j
def adn(p:Option Code)(ah:fK)(D:Nat->fK)(r:fK):fK:=match p with
 |none=>ah
 |some c=>(match c with| .exit id=>D id| .ret=>r|_=>λ_ _ _=>False)
def u1(I:dc)(j:Nat):dc:=BE I ⟨.collected j,[]⟩
structure D8(C:aT)(n:Nat)(lU:y)(params:List Nat)(eE:Nat->(LoopState->Option Code->ak)->bQ->bQ->fK)(ah:fK)(D:Nat->fK)(r:fK)(ax:sX)(I:dc)(h:M ak)(j:Nat):Prop where
 low:C.aY<=j
 out:match lU with
  | .func fn first fy=>(match fn with
    | .func g=>∀mk:LoopState->Option Code->ak,
       (∀args R au qM eg,Z C R (j+1)=some (mk .ready none)->Gy n params args I (λqV=>eE (j+1) mk qM eg qV R au)->yN C (j+1) args R au qM eg)->
       ua C g (first++[.func (.yield (j+1)) [] []]++fy) (bl C (bl C h j (some (.deferred (some [])))) (j+1) (some (mk .ready none))) (j+2)
        (λ_ R au=>∃st p,st≠ .busy/\Z C R (j+1)=some (mk st p)/\adn p ah D r (u1 I j) (bl C R (j+1) (some (mk .exhausted p))) au)
        (ax (u1 I j))
    |_=>False)
  |_=>False
def vw(C:aT)(n ao:Nat)(c:Code):Ko:=
 Code.rec (motive:=λ_=>Ko)
  (λ_ _ ah _ _=>ah)
  (λ_ ar d bK ax ah _ _=>atW C n ao bK ax ar d ah)
  (λ_ _ mL hs bK ax ah D r=>mL bK ax (hs bK ax ah D r) D r)
  (λc _ _ mL hs bK ax ah D r I h j=>PM c I λv=>bC ah λah=>bh v (mL bK ax ah D r I h j) (hs bK ax ah D r I h j))
  (λid _ hs bK ax ah D r I h j=>bC ah λah=>hs bK ax ah (CJ id ah D) r I h j)
  (λ_ hs bK ax _ D r=>gA λEI=>hs bK ax EI D r)
  (λf params _ _ mL hs bK ax ah D r I h j=>bH bK.bb (PM f I λlU=>D8 C n lU params.toList (sK C mL hs) ah D r ax I h j) False)
  (λid _ _ _ D _=>D id)
  (λ_ hs bK ax ah D r=>hs bK ax ah D r)
  (λ_ _ _ ah _ _=>ah)
  (λ_ _ _ _ _ _ _ _ _=>False)
  (λ_ _ _ _ r=>r)
  (λ_ _ _ _ _ _ _ _ _=>False) c
def qI(C:aT)(h:M ak)(I:dc)(k:List ResultVar):(List y->Prop)->Prop:=
 List.rec (motive:=λ_=>(List y->Prop)->Prop) (λah=>ah [])
  (λx _ aj ah=>ResultVar.rec (motive:=λ_=>Prop) (λt=>cg (I t) λv=>aj λr=>ah (v::r)) (λE t=>cg (I E) λp=>av (pB C h t p) λv=>aj λr=>ah (v::r)) x) k
def c6(k:List y):dc:=⟨λn=>rr k n,[],false⟩
structure y9(C:aT)(fn:Fn)(ca:List y)(kE:Option y)(h:M ak)(j:Nat)(Q:Bool->M ak->Nat->Prop):Prop where
 out:match fn with
  | .func f=>C.g4 f ca=none/\(∃fn c,C.P.funcs[f]? =some fn/\fn.body=some c)/\T0 C f ca kE h j Q
  |_=>False
structure Nd(C:aT)(r:Nat)(h:M ak)(q:Prop):Prop where
 low:C.aY<=r
 here:Z C h r=some (.deferred (some []))
 go:q
def pj(C:aT)(l5:List ResultVar)(Q:bQ)(I:dc)(ds:List hy):M ak->Nat->Prop:=
 List.rec (motive:=λ_=>M ak->Nat->Prop) (λh j=>qI C h I l5 λbx=>Q (one bx) h j)
  (λd _ aj h j=>match d.target with
   | .collected r=>Nd C r h (aj (bl C h r (some (.deferred none))) j)
   | .fn fn cap=>y9 C fn (d.args++cap) none h j λ_ h j=>aj h j) ds
def wt(C:aT)(l5:List ResultVar)(Q eE:bQ)(I:dc)(ab:y):List hy->M ak->Nat->Prop
 |[],h,j=>eE ab h j
 |d::ds,h,j=>match d.target with
   | .collected r=>Nd C r h (wt C l5 Q eE I ab ds (bl C h r (some (.deferred none))) j)
   | .fn fn cap=>y9 C fn (d.args++cap) (some ab) h j λb h j=>bH b (pj C l5 Q I ds h j) (wt C l5 Q eE I ab ds h j)
def Gc:uc:=⟨false,false,none⟩
def x9:uc:=⟨false,true,none⟩
def CM(C:aT)(f:Nat)(args:List y)(h:M ak)(j:Nat)(Q eE:bQ):Prop:=match C.P.funcs[f]? with
 |some fn=>(match fn.body with
  |some c=>vw C fn.ntmps (Nat.lor (kc c) (nM fn.results.toList)) c x9 (λI ab h j=>wt C fn.results.toList Q eE I ab I.bb h j) (λI h j=>pj C fn.results.toList Q I I.bb h j) (λ_ _ _ _=>False)
    (λI h j=>pj C fn.results.toList Q I I.bb h j) (c6 args) h j
  |none=>False)
 |none=>False
def E4(C:aT)(f:Nat)(args:List y)(kE:Option y)(h:M ak)(j:Nat)(Q:Bool->M ak->Nat->Prop):Prop:=match C.P.funcs[f]? with
 |some fn=>(match fn.body with
  |some c=>vw C fn.ntmps (Nat.lor (kc c) (nM fn.results.toList)) c ⟨false,false,some kE⟩ (λ_ _ _ _=>False) (λI h j=>qI C h I fn.results.toList λ_=>Q I.rc h j) (λ_ _ _ _=>False)
    (λI h j=>qI C h I fn.results.toList λ_=>Q I.rc h j) (c6 args) h j
  |none=>False)
 |none=>False
def dp(C:aT)(f:Nat)(args:List y)(h:M ak)(j:Nat)(Q eE:bQ):Prop:=match C.P.funcs[f]? with
 |some fn=>(match fn.body with
  |some c=>vw C fn.ntmps (Nat.lor (kc c) (nM fn.results.toList)) c Gc (λ_=>eE) (λI h j=>qI C h I fn.results.toList λbx=>Q (one bx) h j) (λ_ _ _ _=>False)
    (λI h j=>qI C h I fn.results.toList λbx=>Q (one bx) h j) (c6 args) h j
  |none=>False)
 |none=>False
def c8(C:aT)(f d1:Nat):Bool:=match C.P.funcs[f]? with
 |some fn=>(match fn.body with
  |some c=>Nat.ble d1 fn.ntmps&&lO C (Nat.lor (kc c) (nM fn.results.toList)) c&&yk (Nat.lor (kc c) (nM fn.results.toList)) fn.results.toList
  |none=>false)
 |none=>false
end
end Go.bs

