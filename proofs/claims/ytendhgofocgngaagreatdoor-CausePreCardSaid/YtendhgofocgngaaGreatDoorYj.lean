/- Part of the proof of the last text; no conditions -/
import Derived.Test.YtendhgofocgngaaGreatDoorYi
set_option maxHeartbeats 8000000
set_option linter.all false
namespace Go.bn
noncomputable section
open Go.RowKit (Below)
abbrev bR:=z->S ai->Nat->Prop
structure db where
 g:Nat->Option z
 bg:List hE:=[]
 rc:Bool:=false
instance:CoeFun db (λ_=>Nat->Option z):=⟨db.g⟩
def ab(I:db)(d:Nat)(v:z):db:=⟨λn=>bI (Nat.beq d n) (some v) (I.g n),I.bg,I.rc⟩
def h3(k:List Nat)(I:db):db:=⟨λn=>bI (oz n k) none (I.g n),I.bg,I.rc⟩
def B1(I:db)(d:hE):db:=⟨I.g,d::I.bg,I.rc⟩
def U5(I:db):db:=⟨I.g,I.bg,true⟩
abbrev fS:=db->S ai->Nat->Prop
abbrev s6:=db->bR
structure uf where
 rd:Bool
 bg:Bool
 kG:Option (Option z)
def cl{α:Type}(U:Option α)(aj:α->Prop):Prop:=Option.rec (motive:=λ_=>Prop) False (λE=>aj E) U
def awB{α:Type}{U:Option α}{aj:α->Prop}{E:α}(a:U=some E)(o:aj E):cl U aj:=by subst a;exact o
def sO{α:Type}{U:Option α}{aj:α->Prop}:cl U aj↔∃E,U=some E/\aj E:=by
 cases U with
 |none=>simp[cl]
 |some E=>simp[cl]
structure ar{α:Type}(U:Option α)(aj:α->Prop):Prop where
 out:cl U aj
def awC{α:Type}(U:Option α)(aj:α->Prop):ar U aj=cl U aj:=propext ⟨λa=>a.out,λa=>⟨a⟩⟩
def gr{α:Type}{U:Option α}{aj:α->Prop}{E:α}(a:U=some E)(o:aj E):ar U aj:=⟨awB a o⟩
def kX{α:Type}{U:Option α}{aj:α->Prop}:ar U aj↔∃E,U=some E/\aj E:=by rw[awC];exact sO
def al5(v:z)(E b:Prop):Prop:=z.rec (motive_1:=λ_=>Prop) (motive_2:=λ_=>Prop)
 (λt=>(t=true->E)/\(t=false->b)) (λ_ _=>False) (λ_=>False) (λ_ _=>False) False (λ_ _ _ _=>False) (λ_ _ _ _=>False) False (λ_=>False) False
 (λ_ _ _ _ _=>False) False (λ_ _ _=>False) False (λ_ _=>False) (λ_ _=>False) False (λ_ _ _ _=>False) v
structure bb(v:z)(E b:Prop):Prop where
 out:al5 v E b
def κ{v:z}{E b:Prop}(a:bb v E b):∃t,v= .bool t/\(t=true->E)/\(t=false->b):=by
 have a:=a.out
 cases v with
 |bool t=>exact⟨t,rfl,a⟩
 |_=>exact a.elim
def apx(lF:Bool)(v:z)(E b:Prop):Prop:=z.rec (motive_1:=λ_=>Prop) (motive_2:=λ_=>Prop)
 (λt=>(t=lF->E)/\(t=(!lF)->b)) (λ_ _=>b) (λ_=>b) (λ_ _=>b) b (λ_ _ _ _=>b) (λ_ _ _ _=>b) b (λ_=>b) b
 (λ_ _ _ _ _=>b) b (λ_ _ _=>b) b (λ_ _=>b) (λ_ _=>b) b (λ_ _ _ _=>b) v
structure jk(lF:Bool)(v:z)(E b:Prop):Prop where
 out:apx lF v E b
structure pb(dA:bR)(body:bR->Prop):Prop where
 out:body dA
def aue(dA:bR)(body:bR->Prop):pb dA body=body dA:=propext ⟨λa=>a.out,λa=>⟨a⟩⟩
structure bA(dA:fS)(body:fS->Prop):Prop where
 out:body dA
structure c5(dA:z->Prop)(body:(z->Prop)->Prop):Prop where
 out:body dA
structure va(dA:z->S ai->Prop)(body:(z->S ai->Prop)->Prop):Prop where
 out:body dA
def auc(dA:z->S ai->Prop)(body:(z->S ai->Prop)->Prop):va dA body=body dA:=propext ⟨λa=>a.out,λa=>⟨a⟩⟩
structure TK(dA:Prop)(body:Prop->Prop):Prop where
 out:body dA
def aud(dA:Prop)(body:Prop->Prop):TK dA body=body dA:=propext ⟨λa=>a.out,λa=>⟨a⟩⟩
def iw{dA:fS}{body:fS->Prop}(rY:fS)(H:∀W:fS,(∀I h j,rY I h j->W I h j)->body W)(K:∀I h j,rY I h j->dA I h j):bA dA body:=⟨H dA K⟩
structure fs(n:Nat)(aj:Nat->Prop):Prop where
 out:aj n
structure gm(C:aK)(h:S ai)(j:Nat)(v:z)(cN:ai)(aj:bR):Prop where
 out:aj v (bp C h j (some cN)) (j+1)
structure me(C:aK)(h:S ai)(b:Nat)(v:z)(cN:ai)(aj:z->S ai->Prop):Prop where
 out:aj v (bp C h b (some cN))
structure vR(C:aK)(h:S ai)(b:Nat)(E:z)(aj:z->S ai->Prop):Prop where
 out:aj (.ptr b 0) (bp C h b (some (.cells (S.ofList E.cells 0 .nil) E.cells.length .own)))
structure kd(C:aK)(h:S ai)(j:Nat)(E:z)(aj:bR):Prop where
 out:aj (.ptr j 0) (bp C h j (some (.cells (S.ofList E.cells 0 .nil) E.cells.length .own))) (j+1)
section
variable(C:aK)(bl:World)(bD:Nat)(bO:List Frame)(v:z)
def PP(cs:List gz):bR:=λac h j=>ta (fF C bl bD bO v) false cs ac h j=some v
def Lw(cs:List gz):bR:=λac h j=>match cs with
 |c::rest=>af2 (fF C bl bD bO v) c rest [⟨ac,false⟩] h j=some v
 |[]=>False
end
def ud(C:aK)(f:Nat)(args:List z)(h:S ai)(j:Nat)(bk dK:bR):Prop:=
 ∀(bl:World) (dD:c1) (dQ:Nat->Prop) (_:Env C bl dD dQ) (bD:Nat) (bO:List Frame) (v:z) (_:z.same 30 v v=true) (cs:List gz),
  (∀ac R ap,bk ac R ap->PP C bl bD bO v cs ac R ap)->(∀ac R ap,dK ac R ap->Lw C bl bD bO v cs ac R ap)->
  oa (fF C bl bD bO v) C f args false cs h j=some v
def ud.mono{C:aK}{f:Nat}{args:List z}{h:S ai}{j:Nat}{bk dK mV H0:bR}(a:ud C f args h j bk dK)(h6:∀ac h j,bk ac h j->mV ac h j)(jv:∀ac h j,dK ac h j->H0 ac h j):
 ud C f args h j mV H0:=
 λbl dD dQ cB bD bO v aD cs H K=>a bl dD dQ cB bD bO v aD cs (λac h j al=>H ac h j (h6 ac h j al)) (λac h j al=>K ac h j (jv ac h j al))
def O0(ag:hr)(C:aK)(k:Nat)(args:List z)(cs:List gz)(h:S ai)(j:Nat):dU:=match Z C h k with
 |some (.loop _ _ fn n am cZ params assign body _)=>(match w5 n params args cZ with
  |some cZ=>ag .run [.code assign, .beginRound, .code body] ⟨fn,n,am,[],false,some k,cs⟩ cZ h j
  |none=>none)
 |_=>none
def Ar(C:aK)(k:Nat)(args:List z)(h:S ai)(j:Nat)(bk dK:bR):Prop:=
 ∀(bl:World) (dD:c1) (dQ:Nat->Prop) (_:Env C bl dD dQ) (bD:Nat) (bO:List Frame) (v:z) (_:z.same 30 v v=true) (cs:List gz),
  (∀ac R ap,bk ac R ap->PP C bl bD bO v cs ac R ap)->(∀ac R ap,dK ac R ap->Lw C bl bD bO v cs ac R ap)->
  O0 (fF C bl bD bO v) C k args cs h j=some v
def Ar.mono{C:aK}{k:Nat}{args:List z}{h:S ai}{j:Nat}{bk dK mV H0:bR}(a:Ar C k args h j bk dK)(h6:∀ac h j,bk ac h j->mV ac h j)(jv:∀ac h j,dK ac h j->H0 ac h j):
 Ar C k args h j mV H0:=
 λbl dD dQ cB bD bO v aD cs H K=>a bl dD dQ cB bD bO v aD cs (λac h j al=>H ac h j (h6 ac h j al)) (λac h j al=>K ac h j (jv ac h j al))
def VL(C:aK)(f:Nat)(args:List z)(kG:Option z)(h:S ai)(j:Nat)(bk:Bool->S ai->Nat->Prop):Prop:=
 ∀(bl:World) (dD:c1) (dQ:Nat->Prop) (_:Env C bl dD dQ) (bD:Nat) (bO:List Frame) (v:z) (_:z.same 30 v v=true) (fn n am:Nat) (I:S z) (todo:List dJ) (ds:List hE) (aN:Bool) (ro:Option Nat) (cs:List gz),
  (∀b R ap,bk b R ap->fF C bl bD bO v (match kG,b with|none,_=> .returning|some _,true=> .returning|some ac,false=> .panicking [⟨ac,false⟩]) todo ⟨fn,n,am,ds,aN,ro,cs⟩ I R ap=some v)->
  oa (fF C bl bD bO v) C f args true (⟨fn,n,am,I,todo,ds,(match kG with|none=> .returning|some ac=> .panicking [⟨ac,false⟩]),aN,ro⟩::cs) h j=some v
structure ba(C:aK)(f:Nat)(args:List z)(h:S ai)(j:Nat)(aj au:bR):Prop where
 out:(∃ac,C.g7 f args=some ac/\aj ac h j)\/(C.g7 f args=none/\(∃fn c,C.P.funcs[f]? =some fn/\fn.body=some c)/\ud C f args h j aj au)
structure Uh(C:aK)(h:S ai)(cg:List z)(j:Nat)(aj:bR):Prop where
 out:∃R,Ct C h cg=some R/\aj (.tuple []) R j
structure iA(U:Option dL)(h:S ai)(j:Nat)(aj:bR):Prop where
 out:match U with
 |some (.val v)=>aj v h j
 |some (.e2 v R ap)=>aj v R ap
 |_=>False
def axG(U:Option dL)(h:S ai)(j:Nat)(aj:bR):iA U h j aj=(match U with
 |some (.val v)=>aj v h j
 |some (.e2 v R ap)=>aj v R ap
 |_=>False):=propext ⟨λa=>a.out,λa=>⟨a⟩⟩
def af9{U:Option dL}{h:S ai}{j:Nat}{aj:bR}{v:z}(a:U=some (.val v))(o:aj v h j):iA U h j aj:=by subst a;exact⟨o⟩
def kl{U:Option dL}{h R:S ai}{j ap:Nat}{aj:bR}{v:z}(a:U=some (.e2 v R ap))(o:aj v R ap):iA U h j aj:=by subst a;exact⟨o⟩
structure FU(U:Option dL)(h:S ai)(j:Nat)(aj:bR):Prop where
 out:match U with
 |some (.val v)=>aj v h j
 |some (.e2 v R ap)=>aj v R ap
 |some (.fork k)=>k≠[]/\∀ac R,(ac,R)∈k->aj ac R j
 |_=>False
def aoB(U:Option dL)(h:S ai)(j:Nat)(aj:bR):FU U h j aj=(match U with
 |some (.val v)=>aj v h j
 |some (.e2 v R ap)=>aj v R ap
 |some (.fork k)=>k≠[]/\∀ac R,(ac,R)∈k->aj ac R j
 |_=>False):=propext ⟨λa=>a.out,λa=>⟨a⟩⟩
def Cv(C:aK)(rd:Bool)(U:Option dL)(h:S ai)(j:Nat)(aj au:bR):Prop:=match U with
 |some (.val v)=>aj v h j
 |some (.e2 v R ap)=>aj v R ap
 |some (.enter f args)=>ud C f args h j aj au
 |some (.round k args)=>Ar C k args h j aj au
 |some (.known _ _ v)=>aj v h j
 |some (.wrote _ _ R)=>aj (.tuple []) R j
 |some (.panic v)=>bI rd False (au v h j)
 |some (.fork k)=>k≠[]/\∀ac R,(ac,R)∈k->aj ac R j
 |_=>False
def jJ(x:kq)(an:List (Nat×z))(I:db)(aj:z->Prop):Prop:=
 kq.rec (motive:=λ_=>Prop) (λW=>cl (ee an W) aj) (λn=>cl (I n) aj) (λE=>aj E) x
def Ms(an:List (Nat×z))(I:db)(k:List kq):(List z->Prop)->Prop:=
 List.rec (motive:=λ_=>(List z->Prop)->Prop) (λaj=>aj []) (λx _ ag aj=>jJ x an I λE=>ag λr=>aj (E::r)) k
def ew(bY:List (Nat×Nat))(an:List (Nat×z))(I:db)(U:Operand)(aj:z->Prop):Prop:=match U with
 | .tmp t=>(match ee bY t with|some W=>cl (ee an W) aj|none=>cl (I t) aj)
 | .const v=>cl (Eg v) aj
 | .global g=>aj (.ptr g 0)
 | .func f=>aj (.func (.func f) [] [])
def sN(bY:List (Nat×Nat))(an:List (Nat×z))(I:db)(k:List Operand):(List z->Prop)->Prop:=
 List.rec (motive:=λ_=>(List z->Prop)->Prop) (λaj=>aj []) (λx _ ag aj=>ew bY an I x λE=>ag λr=>aj (E::r)) k
def BY(bY:List (Nat×Nat))(an:List (Nat×z))(I:db)(k:List (Nat×Operand)):(List (Nat×z)->Prop)->Prop:=
 List.rec (motive:=λ_=>(List (Nat×z)->Prop)->Prop) (λaj=>aj []) (λx _ ag aj=>ew bY an I x.2 λE=>ag λr=>aj ((x.1,E)::r)) k
def OJ(bY:List (Nat×Nat))(an:List (Nat×z))(I:db)(U:Option Operand)(aj:Option z->Prop):Prop:=match U with
 |none=>aj none
 |some x=>ew bY an I x λE=>aj (some E)
def kD:Operand:= .global 0
def gZ:Operand:= .global 1
def mM:Operand:= .global 2
def kE(E:z):Operand->Option z:=λ_=>some E
def two(E b:z):Operand->Option z:=λU=>match U with| .global 0=>some E|_=>some b
def agG(E b c:z):Operand->Option z:=λU=>match U with| .global 0=>some E| .global 1=>some b|_=>some c
def GS(n aR:Nat)(E i:z):Option z:=match nS i with|some i=>Li n aR E i|none=>none
def iv(aR:Nat)(E i:z):Option z:=match nS i with|some i=>Cc aR E i|none=>none
def aaX(C:aK)(t f:Nat)(E:z):Option z:=Km C t kD f .nil (kE E)
def aai(C:aK)(h:S ai)(s d:Nat)(E:z):Option z:=Kk C s d kD h (kE E)
def ad8(C:aK)(t:Nat)(E:z):Option z:=Kn C t kD .nil (kE E)
def X7(C:aK)(t:Nat)(ok:Bool)(E:z):Option z:=Kj C kD t ok .nil (kE E)
def aaK(C:aK)(h:S ai)(E:z):Option z:=Kl C kD h (kE E)
def qR(C:aK)(h:S ai)(b:Builtin)(cL:List TypeId)(aY:List z):Option z:=match b,aY with
 | .len,[x]=>(match cL with|t::_=>LM C h t x|_=>none)
 | .cap,[x]=>(match cL with|t::_=>LG C t x|_=>none)
 | .max,x::k=>oU true x k
 | .min,x::k=>oU false x k
 |_,_=>none
def eI(C:aK)(h:S ai)(s:Nat)(E v:z):Option (S ai):=match E with
 | .ptr b U=>bI (Nat.beq v.cells.length s&&Nat.blt 0 s) (lJ C h b U v.cells) none
 |_=>none
def x8(C:aK)(h:S ai)(j:Nat)(b:Builtin)(cL:List TypeId)(aY:List z):Option dL:=match b,aY with
 | .append,[s,x]=>(match cL with
   |st::iD::_=>(match C.P.underlying iD with
    |some (.int _)=>(match nS x with|some n=>LJ C h j st s n|none=>none)
    |some (.slice _)=>Fu C h j st s x
    |some .string=>Fu C h j st s x
    |_=>none)
   |_=>none)
 | .copy,[d,x]=>(match cL with|st::_=>LH C h j st d x|_=>none)
 | .clear,[x]=>(match cL with|t::_=>H4 C h j t x|_=>none)
 | .delete,[m,o]=>(match cL with|t::_=>LI C h j t m o|_=>none)
 |_,_=>none
structure ot(C:aK)(mz:z)(cg:List z)(h:S ai)(j:Nat)(aj au:bR):Prop where
 out:match mz with
 | .func fn first fw=>(match fn with| .func f=>ba C f ((first++cg)++fw) h j aj au| .yield k=>Ar C k (first++cg) h j aj au|_=>False)
 |_=>False
def Pc(C:aK)(t len:Nat)(df:List (Nat×z))(b:Nat):Option (z×ai):=match C.P.underlying t with
 |some (.slice dO)=>(match iC C dO,pY C dO with
  |some s,some aG=>bI (Nat.ble (len*s) 16777216&&Nat.beq aG.cells.length s) ((match AS (λi=>some (i*s,s)) (jD len aG.cells) df with
    |some cs=>some (z.slice b 0 len len,ai.cells (S.ofList cs 0 .nil) cs.length .own)
    |none=>none))<|none
  |_,_=>none)
 |_=>none
structure yP(au:bR)(E:z)(h:S ai)(j:Nat):Prop where
 out:match E with| .iface t v=>au (.iface t v) h j|_=>False
def awL(au:bR)(E:z)(h:S ai)(j:Nat):yP au E h j=(match E with| .iface t v=>au (.iface t v) h j|_=>False):=propext ⟨λa=>a.out,λa=>⟨a⟩⟩
structure ae2(C:aK)(rd:Bool)(hy:z)(name:String)(cg:List z)(h:S ai)(j:Nat)(aj au:bR):Prop where
 out:match hy with
 | .iface t v=>Cv C rd (Fv C h t v name cg) h j aj au
 |_=>False
def avB(C:aK)(rd:Bool)(hy:z)(name:String)(cg:List z)(h:S ai)(j:Nat)(aj au:bR):ae2 C rd hy name cg h j aj au=(match hy with
 | .iface t v=>Cv C rd (Fv C h t v name cg) h j aj au
 |_=>False):=propext ⟨λa=>a.out,λa=>⟨a⟩⟩
def aeK(bY:List (Nat×Nat))(U:Op):aK->S ai->List (Nat×z)->db->(z->Prop)->Prop:=match U with
 | .build t j9=>λC _ an I aj=>BY bY an I j9.toList λdf=>ar (LF C t df) aj
 | .binOp op t x e _=>λC h an I aj=>ew bY an I x λE=>ew bY an I e λb=>ar (dv C h op t (qu x||qu e) E b) aj
 | .unOp op _ x=>λ_ _ an I aj=>ew bY an I x λE=>ar (hb op E) aj
 | .convert s d x=>λC h an I aj=>ew bY an I x λE=>ar (aai C h s d E) aj
 | .makeInterface t x=>λC _ an I aj=>ew bY an I x λE=>ar (ad8 C t E) aj
 | .makeFunc fn first fw=>λ_ _ an I aj=>(match fn with
   | .func f=>sN bY an I first.toList λE=>sN bY an I fw.toList λb=>aj (.func (.func f) E b)
   |_=>False)
 | .slice t x bC aA g6=>λC h an I aj=>ew bY an I x λE=>OJ bY an I bC λk=>OJ bY an I aA λa=>OJ bY an I g6 λm=>ar (LO C h t E k a m) aj
 | .field t x f=>λC _ an I aj=>ew bY an I x λE=>ar (aaX C t f E) aj
 | .index t x i=>λC _ an I aj=>ew bY an I x λE=>ew bY an I i λb=>ar (LK C t E b) aj
 | .lookup t m o ok=>λC h an I aj=>ew bY an I m λE=>ew bY an I o λb=>ar (LN C h t E b ok) aj
 | .typeAssert x _ t ok=>λC _ an I aj=>ew bY an I x λE=>ar (X7 C t ok E) aj
 | .entry d7=>λC h an I aj=>ew bY an I d7 λE=>ar (aaK C h E) aj
 | .call c=>λC h an I aj=>(match c with
   |⟨.builtin b,args,cL⟩=>sN bY an I args.toList λaY=>ar (qR C h b cL.toList aY) aj
   |_=>False)
 |_=>λ_ _ _ _ _=>False
def G2(op:jS):aK->S ai->List (Nat×z)->db->(z->Prop)->Prop:=match op with
 | .D5 x=>λ_ _ an I aj=>jJ x an I aj
 | .pick c E b=>λ_ _ an I aj=>jJ c an I λc=>c5 aj λaj=>bb c (jJ E an I aj) (jJ b an I aj)
 | .fq E=>λC h an I aj=>jJ E an I λE=>ar (aV C h E) aj
 | .Bz n E=>λC h an I aj=>jJ E an I λE=>ar (ep C h n E) aj
 | .off d x=>λ_ _ an I aj=>jJ x an I λE=>ar (iq d E) aj
 | .Bq n aR x i=>λ_ _ an I aj=>jJ x an I λE=>jJ i an I λi=>ar (GS n aR E i) aj
 | .Br aR x i=>λ_ _ an I aj=>jJ x an I λE=>jJ i an I λi=>ar (iv aR E i) aj
 | .Eb x=>λ_ _ an I aj=>jJ x an I λE=>ar (pn E) aj
 | .J6 op x e=>λ_ _ an I aj=>jJ x an I λE=>jJ e an I λb=>ar (bm op E b) aj
 | .ext i x=>λ_ _ an I aj=>jJ x an I λE=>ar (rJ i E) aj
 | .h9 bY U=>aeK bY U
 |_=>λ_ _ _ _ _=>False
def aeW(op:jS):aK->S ai->Nat->List (Nat×z)->db->bR->Prop:=match op with
 | .make bY U=>(match U with
   | .alloc t=>λC h b _ _ aj=>ar (D1 C t (kE undef) b) λr=>gm C h b r.1 r.2 aj
   | .box _ x=>λC h b an I aj=>ew bY an I x λE=>kd C h b E aj
   | .buildSlice t len j9=>λC h b an I aj=>BY bY an I j9.toList λdf=>ar (Pc C t len df b) λr=>gm C h b r.1 r.2 aj
   | .makeMap _ none=>λC h b _ _ aj=>gm C h b (.map b) (.map [] 0) aj
   |_=>λ_ _ _ _ _ _=>False)
 |_=>λ_ _ _ _ _ _=>False
def Ug(op:jS):aK->S ai->Nat->List (Nat×z)->db->(z->S ai->Prop)->Prop:=match op with
 | .make bY U=>(match U with
   | .alloc t=>λC h b _ _ aj=>ar (D1 C t (kE undef) b) λr=>me C h b r.1 r.2 aj
   | .box _ x=>λC h b an I aj=>ew bY an I x λE=>vR C h b E aj
   | .buildSlice t len j9=>λC h b an I aj=>BY bY an I j9.toList λdf=>ar (Pc C t len df b) λr=>me C h b r.1 r.2 aj
   | .makeMap _ none=>λC h b _ _ aj=>me C h b (.map b) (.map [] 0) aj
   |_=>λ_ _ _ _ _ _=>False)
 |_=>λ_ _ _ _ _ _=>False
def Sp(rd:Bool)(op:jS):aK->S ai->Nat->List (Nat×z)->db->bR->bR->Prop:=match op with
 | .st n E v=>λC h j an I aj _=>jJ E an I λE=>jJ v an I λv=>ar (eI C h n E v) λh=>aj undef h j
 | .call f args=>λC h j an I aj au=>Ms an I args λcg=>bI (GQ C f) (Uh C h cg j aj) (ba C f cg h j aj au)
 | .fg bY U=>(match U with
   | .mapUpdate t m o x=>λC h j an I aj _=>ew bY an I m λE=>ew bY an I o λb=>ew bY an I x λc=>iA (H6 C h j t E b c) h j aj
   | .insert t m o x=>λC h j an I aj _=>ew bY an I m λE=>ew bY an I o λb=>ew bY an I x λc=>iA (H6 C h j t E b c) h j aj
   | .mapEntry t m o=>λC h j an I aj _=>ew bY an I m λE=>ew bY an I o λb=>iA (I2 C t kD gZ h j (two E b)) h j aj
   | .entryStore _ m s x=>λC h j an I aj _=>ew bY an I m λE=>ew bY an I s λb=>ew bY an I x λc=>iA (IV C kD gZ mM h j (agG E b c)) h j aj
   | .makeSlice t k c=>λC h j an I aj _=>ew bY an I k λE=>ew bY an I c λb=>iA (I1 C t kD gZ h j (two E b)) h j aj
   | .makeMap t (some r)=>λC h j an I aj _=>ew bY an I r λE=>iA (I0 C t kD h j (kE E)) h j aj
   | .convert s d x=>λC h j an I aj _=>ew bY an I x λE=>iA (I5 C s d kD h j (kE E)) h j aj
   | .range t x=>λC h j an I aj _=>ew bY an I x λE=>iA (I3 C t kD h j (kE E)) h j aj
   | .next d7 yC=>λC h j an I aj _=>ew bY an I d7 λE=>FU (wk C kD yC h j (kE E)) h j aj
   | .panic x=>λ_ h j an I _ au=>bI rd False (ew bY an I x λE=>yP au E h j)
   | .call c=>λC h j an I aj au=>(match c with
     |⟨.value f,args,_⟩=>ew bY an I f λmz=>sN bY an I args.toList λcg=>ot C mz cg h j aj au
     |⟨.builtin b,args,cL⟩=>sN bY an I args.toList λaY=>iA (x8 C h j b cL.toList aY) h j aj
     |⟨.invoke r name,args,_⟩=>ew bY an I r λhy=>sN bY an I args.toList λcg=>ae2 C rd hy name cg h j aj au)
   |_=>λ_ _ _ _ _ _ _=>False)
 |_=>λ_ _ _ _ _ _ _=>False
def UB(rd:Bool)(op:jS)(C:aK)(h:S ai)(j:Nat)(an:List (Nat×z))(I:db)(aj au:bR):Prop:=match mG op with
 | .h9=>G2 op C h an I λv=>aj v h j
 | .make=>aeW op C h j an I aj
 | .fg=>Sp rd op C h j an I aj au
inductive Spec where
 |no
 |defer (bY:List (Nat×Nat)) (f:Operand) (args:List Operand)
 |recover
def EE(op:jS):Spec:=match op with
 | .fg bY U=>(match U with
   | .defer c=>(match c with|⟨.value f,args,_⟩=> .defer bY f args.toList|_=> .no)
   | .call c=>(match c with|⟨.builtin b,args,_⟩=>(match b,args.toList with| .recover,[]=> .recover|_,_=> .no)|_=> .no)
   |_=> .no)
 |_=> .no
def L9(mz:z)(cg:List z)(I:db)(aj:db->Prop):Prop:=match mz with
 | .func fn first fw=>aj (B1 I ⟨.fn fn fw,first++cg⟩)
 |_=>False
def KT(kG:Option (Option z))(I:db)(aj:z->db->Prop):Prop:=match kG with
 |none=>False
 |some none=>aj .nilIface I
 |some (some ac)=>bI I.rc (aj .nilIface I) (aj ac (U5 I))
def Pt(g:Option (Nat×Bool))(an:List (Nat×z))(E b:Prop):Prop:=match g with
 |none=>E
 |some (W,lF)=>cl (ee an W) λv=>jk lF v E b
def Pv(g:Option (Nat×Bool))(an:List (Nat×z))(pg:bR->Prop)(dA:bR)(h:S ai)(j:Nat):Prop:=match g with
 |none=>pg dA
 |some (W,lF)=>pb dA λaj=>cl (ee an W) λv=>jk lF v (pg aj) (aj undef h j)
def rH(g:Option (Nat×Bool))(an:List (Nat×z))(pg:(z->S ai->Prop)->Prop)(dA:z->S ai->Prop)(h:S ai):Prop:=match g with
 |none=>pg dA
 |some (W,lF)=>va dA λaj=>cl (ee an W) λv=>jk lF v (pg aj) (aj undef h)
def VB(g:Option (Nat×Bool))(an:List (Nat×z))(pg:Prop->Prop)(dA:Prop):Prop:=match g with
 |none=>pg dA
 |some (W,lF)=>TK dA λaj=>cl (ee an W) λv=>jk lF v (pg aj) aj
def ag0(g:Option (Nat×Bool))(an:List (Nat×z))(pg:bR->Prop)(dA:bR)(h:S ai)(j:Nat):Pv g an pg dA h j=Pt g an (pg dA) (dA undef h j):=by
 cases g with
 |none=>rfl
 |some p=>exact aue _ _
def az4(g:Option (Nat×Bool))(an:List (Nat×z))(pg:(z->S ai->Prop)->Prop)(dA:z->S ai->Prop)(h:S ai):rH g an pg dA h=Pt g an (pg dA) (dA undef h):=by
 cases g with
 |none=>rfl
 |some p=>exact auc _ _
def az5(g:Option (Nat×Bool))(an:List (Nat×z))(pg:Prop->Prop)(dA:Prop):VB g an pg dA=Pt g an (pg dA) dA:=by
 cases g with
 |none=>rfl
 |some p=>exact aud _ _
def IH(k:List (Nat×Nat)):List (Nat×z)->db->(db->Prop)->Prop:=
 List.rec (motive:=λ_=>List (Nat×z)->db->(db->Prop)->Prop) (λ_ I aj=>aj I)
  (λp _ ag an I aj=>cl (ee an p.1) λv=>ag an (ab I p.2 v) aj) k
def B7(C:aK)(bN:uf)(fin:List (Nat×Nat))(aj:fS)(au:s6)(rest:List fh):List (Nat×z)->db->S ai->Nat->Prop:=
 List.rec (motive:=λ_=>List (Nat×z)->db->S ai->Nat->Prop) (λan I h j=>IH fin an I λI=>aj I h j)
  (λx _ ag an I h j=>match EE x.op with
   | .no=>Pv x.g an (λaj=>UB bN.rd x.op C h j an I aj (au I)) (λv h j=>ag ((x.i,v)::an) I h j) h j
   | .defer bY f args=>bI (x.g.isNone&&bN.bg) (ew bY an I f λmz=>sN bY an I args λcg=>L9 mz cg I λI=>ag ((x.i,undef)::an) I h j) False
   | .recover=>bI (x.g.isNone&& !bN.rd) (KT bN.kG I λv I=>ag ((x.i,v)::an) I h j) False) rest
def Ok(C:aK)(base:Nat)(I:db)(k:List fh):List (Nat×z)->S ai->(List (Nat×z)->S ai->Prop)->Prop:=
 List.rec (motive:=λ_=>List (Nat×z)->S ai->(List (Nat×z)->S ai->Prop)->Prop) (λan h aj=>aj an h)
  (λx _ ag an h aj=>rH x.g an (λW=>match mG x.op with
   | .make=>Ug x.op C h (base+x.i) an I W
   |_=>G2 x.op C h an I λv=>W v h) (λv h=>ag ((x.i,v)::an) h aj) h) k
structure iB(x:z)(U:Option z)(aj:Prop):Prop where
 out:cl U λac=>z.same 30 x ac=true/\aj
def UO(C:aK)(I:db)(an:List (Nat×z))(h:S ai)(k:List fh):Prop->Prop:=
 List.rec (motive:=λ_=>Prop->Prop) (λaj=>aj) (λx _ ag aj=>VB x.g an (λal=>G2 x.op C h an I λv=>iB v (ee an x.i) al) (ag aj)) k
def QY(C:aK)(rd:Bool)(base:Nat)(fin:List (Nat×Nat))(I:db)(aj:fS)(au:bR)(li:List vL):List (Nat×z)->S ai->Nat->Prop:=
 List.rec (motive:=λ_=>List (Nat×z)->S ai->Nat->Prop) (λ_ _ _=>False)
  (λs _ ag an h j=>Ok C base I s.tN an h λan h=>UO C I an h s.UN (match s.fg with
   |none=>IH fin an I λI=>aj I h j
   |some a=>Pv a.g an (λaj=>Sp rd a.op C h j an I aj au) (λv h j=>ag ((a.i,v)::an) h j) h j)) li
structure fJ(body:fS->fS)(I:db)(h:S ai)(j:Nat):Prop where
 out:∃rY:Nat->fS,(∃m,rY m I h j)/\∀m I h j,rY m I h j->body (λI h j=>∃e6,e6<m/\rY e6 I h j) I h j
def CM(id:Nat)(aj:fS)(B:Nat->fS):Nat->fS:=λtI=>bI (Nat.beq id tI) aj (B tI)
def Q8(U:Operand)(I:db)(aj:z->Prop):Prop:=ew [] [] I U aj
def axB(C:aK)(n am:Nat)(bN:uf)(au:s6)(ao:Array Oper)(AP:Bool)(aj:fS):fS:=λI h j=>Bool.rec (motive:=λ_=>Prop)
 (cl (Kz C n ao am) λr=>B7 C bN r.fin aj (λI=>au (h3 (dstsOf ao.toList) I)) r.rest [] I h j)
 (cl (Ky C n ao am) λr=>fs (j+ao.size) λap=>QY C bN.rd j r.fin I aj (au (h3 (dstsOf ao.toList) I)) r.li [] h ap) AP
def Hs(n:Nat):List Nat->List z->db->(db->Prop)->Prop
 |[],[],I,aj=>aj I
 |p::df,E::cg,I,aj=>bI (Nat.blt p n) (Hs n df cg (ab I p E) aj) False
 |_,_,_,_=>False
structure al0(C:aK)(k:Nat)(mk:LoopState->Option Code->ai)(h:S ai)(o:Prop):Prop where
 here:Z C h k=some (mk .ready none)
 go:o
structure Mo(C:aK)(k:Nat)(mk:LoopState->Option Code->ai)(st:LoopState)(p:Option Code)(b:Bool)(aj:bR)(h:S ai)(j:Nat):Prop where
 here:∃agu ry,Z C h k=some (mk agu ry)
 go:aj (.bool b) (bp C h k (some (mk st p))) j
abbrev Lt:=uf->s6->fS->(Nat->fS)->fS->fS
def BJ:uf:=⟨true,false,none⟩
def sU(C:aK)(A bj:Lt)(k:Nat)(mk:LoopState->Option Code->ai)(aj au:bR):fS:=λI h j=>
 A BJ (λ_=>au) (λI h j=>al0 C k mk h (bj BJ (λ_=>au) (λ_ h j=>Mo C k mk .ready none true aj h j) (λid _ h j=>Mo C k mk .done (some (.exit id)) false aj h j)
   (λ_ h j=>Mo C k mk .done (some .ret) false aj h j) I (bp C h k (some (mk .busy none))) j)) (λ_ _ _ _=>False) (λ_ _ _=>False) I h j
def afJ(p:Option Code)(aj:fS)(B:Nat->fS)(r:fS):fS:=match p with
 |none=>aj
 |some c=>(match c with| .exit id=>B id| .ret=>r|_=>λ_ _ _=>False)
def vi(I:db)(j:Nat):db:=B1 I ⟨.collected j,[]⟩
structure Eu(C:aK)(n:Nat)(mz:z)(params:List Nat)(dK:Nat->(LoopState->Option Code->ai)->bR->bR->fS)(aj:fS)(B:Nat->fS)(r:fS)(au:s6)(I:db)(h:S ai)(j:Nat):Prop where
 low:C.bf<=j
 out:match mz with
  | .func fn first fw=>(match fn with
    | .func g=>∀mk:LoopState->Option Code->ai,
       (∀args R ap mU ed,Z C R (j+1)=some (mk .ready none)->Hs n params args I (λqM=>dK (j+1) mk mU ed qM R ap)->Ar C (j+1) args R ap mU ed)->
       ud C g (first++[.func (.yield (j+1)) [] []]++fw) (bp C (bp C h j (some (.deferred (some [])))) (j+1) (some (mk .ready none))) (j+2)
        (λ_ R ap=>∃st p,st≠ .busy/\Z C R (j+1)=some (mk st p)/\afJ p aj B r (vi I j) (bp C R (j+1) (some (mk .exhausted p))) ap)
        (au (vi I j))
    |_=>False)
  |_=>False
def vV(C:aK)(n am:Nat)(c:Code):Lt:=
 Code.rec (motive:=λ_=>Lt)
  (λ_ _ aj _ _=>aj)
  (λ_ ao d bN au aj _ _=>axB C n am bN au ao d aj)
  (λ_ _ mE hv bN au aj B r=>mE bN au (hv bN au aj B r) B r)
  (λc _ _ mE hv bN au aj B r I h j=>Q8 c I λv=>bA aj λaj=>bb v (mE bN au aj B r I h j) (hv bN au aj B r I h j))
  (λid _ hv bN au aj B r I h j=>bA aj λaj=>hv bN au aj (CM id aj B) r I h j)
  (λ_ hv bN au _ B r=>fJ λQg=>hv bN au Qg B r)
  (λf params _ _ mE hv bN au aj B r I h j=>bI bN.bg (Q8 f I λmz=>Eu C n mz params.toList (sU C mE hv) aj B r au I h j) False)
  (λid _ _ _ B _=>B id)
  (λ_ hv bN au aj B r=>hv bN au aj B r)
  (λ_ _ _ aj _ _=>aj)
  (λ_ _ _ _ _ _ _ _ _=>False)
  (λ_ _ _ _ r=>r)
  (λ_ _ _ _ _ _ _ _ _=>False) c
def qB(C:aK)(h:S ai)(I:db)(k:List ResultVar):(List z->Prop)->Prop:=
 List.rec (motive:=λ_=>(List z->Prop)->Prop) (λaj=>aj [])
  (λx _ ag aj=>ResultVar.rec (motive:=λ_=>Prop) (λt=>cl (I t) λv=>ag λr=>aj (v::r)) (λE t=>cl (I E) λp=>ar (pv C h t p) λv=>ag λr=>aj (v::r)) x) k
def c0(k:List z):db:=⟨λn=>pM k n,[],false⟩
structure AO(C:aK)(fn:Fn)(cg:List z)(kG:Option z)(h:S ai)(j:Nat)(bk:Bool->S ai->Nat->Prop):Prop where
 out:match fn with
  | .func f=>C.g7 f cg=none/\(∃fn c,C.P.funcs[f]? =some fn/\fn.body=some c)/\VL C f cg kG h j bk
  |_=>False
structure OC(C:aK)(r:Nat)(h:S ai)(o:Prop):Prop where
 low:C.bf<=r
 here:Z C h r=some (.deferred (some []))
 go:o
def pi(C:aK)(KW:List ResultVar)(bk:bR)(I:db)(ds:List hE):S ai->Nat->Prop:=
 List.rec (motive:=λ_=>S ai->Nat->Prop) (λh j=>qB C h I KW λaY=>bk (one aY) h j)
  (λd _ ag h j=>match d.target with
   | .collected r=>OC C r h (ag (bp C h r (some (.deferred none))) j)
   | .fn fn cap=>AO C fn (d.args++cap) none h j λ_ h j=>ag h j) ds
def wZ(C:aK)(KW:List ResultVar)(bk dK:bR)(I:db)(ac:z):List hE->S ai->Nat->Prop
 |[],h,j=>dK ac h j
 |d::ds,h,j=>match d.target with
   | .collected r=>OC C r h (wZ C KW bk dK I ac ds (bp C h r (some (.deferred none))) j)
   | .fn fn cap=>AO C fn (d.args++cap) (some ac) h j λb h j=>bI b (pi C KW bk I ds h j) (wZ C KW bk dK I ac ds h j)
def G7:uf:=⟨false,false,none⟩
def yK:uf:=⟨false,true,none⟩
def CS(C:aK)(f:Nat)(args:List z)(h:S ai)(j:Nat)(bk dK:bR):Prop:=match C.P.funcs[f]? with
 |some fn=>(match fn.body with
  |some c=>vV C fn.ntmps (Nat.lor (kj c) (nU fn.results.toList)) c yK (λI ac h j=>wZ C fn.results.toList bk dK I ac I.bg h j) (λI h j=>pi C fn.results.toList bk I I.bg h j) (λ_ _ _ _=>False)
    (λI h j=>pi C fn.results.toList bk I I.bg h j) (c0 args) h j
  |none=>False)
 |none=>False
def FS(C:aK)(f:Nat)(args:List z)(kG:Option z)(h:S ai)(j:Nat)(bk:Bool->S ai->Nat->Prop):Prop:=match C.P.funcs[f]? with
 |some fn=>(match fn.body with
  |some c=>vV C fn.ntmps (Nat.lor (kj c) (nU fn.results.toList)) c ⟨false,false,some kG⟩ (λ_ _ _ _=>False) (λI h j=>qB C h I fn.results.toList λ_=>bk I.rc h j) (λ_ _ _ _=>False)
    (λI h j=>qB C h I fn.results.toList λ_=>bk I.rc h j) (c0 args) h j
  |none=>False)
 |none=>False
def dm(C:aK)(f:Nat)(args:List z)(h:S ai)(j:Nat)(bk dK:bR):Prop:=match C.P.funcs[f]? with
 |some fn=>(match fn.body with
  |some c=>vV C fn.ntmps (Nat.lor (kj c) (nU fn.results.toList)) c G7 (λ_=>dK) (λI h j=>qB C h I fn.results.toList λaY=>bk (one aY) h j) (λ_ _ _ _=>False)
    (λI h j=>qB C h I fn.results.toList λaY=>bk (one aY) h j) (c0 args) h j
  |none=>False)
 |none=>False
def c4(C:aK)(f dP:Nat):Bool:=match C.P.funcs[f]? with
 |some fn=>(match fn.body with
  |some c=>Nat.ble dP fn.ntmps&&lP C (Nat.lor (kj c) (nU fn.results.toList)) c&&yU (Nat.lor (kj c) (nU fn.results.toList)) fn.results.toList
  |none=>false)
 |none=>false
end
end Go.bn

