/- Part of the proof of the last text; no conditions -/
import Derived.Test.YtpeabpmnlmaabaaGreatDoorYd
set_option maxHeartbeats 8000000
set_option linter.all false
namespace Go.bg
noncomputable section
open Go.RowKit (Below)
abbrev bK:=E->S ag->Nat->Prop
abbrev Za0:=aN->E->S ag->Nat->bK->bK->Prop
abbrev Za1:=aN->E->E->S ag->Nat->bK->bK->Prop
abbrev Za2:=aN->E->E->E->S ag->Nat->bK->bK->Prop
abbrev Za3:=aN->E->E->E->E->S ag->Nat->bK->bK->Prop
abbrev Za4:=aN->E->E->E->E->E->S ag->Nat->bK->bK->Prop
abbrev zL:bK:=λ_ _ _=>False
structure c1 where
 g:Nat->Option E
 bj:List h8:=[]
 rc:Bool:=false
instance:CoeFun c1 (λ_=>Nat->Option E):=⟨c1.g⟩
def aa(I:c1)(d:Nat)(v:E):c1:=⟨λn=>b0 (Nat.beq d n) (some v) (I.g n),I.bj,I.rc⟩
def ib(k:List Nat)(I:c1):c1:=⟨λn=>b0 (rS n k) none (I.g n),I.bj,I.rc⟩
def Bi(I:c1)(d:h8):c1:=⟨I.g,d::I.bj,I.rc⟩
def QU(I:c1):c1:=⟨I.g,I.bj,true⟩
abbrev fJ:=c1->S ag->Nat->Prop
abbrev tm:=c1->bK
structure vH where
 rd:Bool
 bj:Bool
 kq:Option (Option E)
def cH{α:Type}(T:Option α)(ai:α->Prop):Prop:=Option.rec (motive:=λ_=>Prop) False (λF=>ai F) T
def aA1{α:Type}{T:Option α}{ai:α->Prop}{F:α}(a:T=some F)(u:ai F):cH T ai:=by subst a;exact u
def uk{α:Type}{T:Option α}{ai:α->Prop}:cH T ai↔∃F,T=some F/\ai F:=by
 cases T with
 |none=>simp[cH]
 |some F=>simp[cH]
structure ar{α:Type}(T:Option α)(ai:α->Prop):Prop where
 out:cH T ai
def aA2{α:Type}(T:Option α)(ai:α->Prop):ar T ai=cH T ai:=propext ⟨λa=>a.out,λa=>⟨a⟩⟩
def gm{α:Type}{T:Option α}{ai:α->Prop}{F:α}(a:T=some F)(u:ai F):ar T ai:=⟨aA1 a u⟩
def lC{α:Type}{T:Option α}{ai:α->Prop}:ar T ai↔∃F,T=some F/\ai F:=by rw[aA2];exact uk
def ap4(v:E)(F b:Prop):Prop:=E.rec (motive_1:=λ_=>Prop) (motive_2:=λ_=>Prop)
 (λt=>(t=true->F)/\(t=false->b)) (λ_ _=>False) (λ_=>False) (λ_ _=>False) False (λ_ _ _ _=>False) (λ_ _ _ _=>False) False (λ_=>False) False
 (λ_ _ _ _ _=>False) False (λ_ _ _=>False) False (λ_ _=>False) (λ_ _=>False) False (λ_ _ _ _=>False) v
structure a1(v:E)(F b:Prop):Prop where
 out:ap4 v F b
def acF{v:E}{F b:Prop}(a:a1 v F b):∃t,v= .bool t/\(t=true->F)/\(t=false->b):=by
 have a:=a.out
 cases v with
 |bool t=>exact⟨t,rfl,a⟩
 |_=>exact a.elim
def atA(mg:Bool)(v:E)(F b:Prop):Prop:=E.rec (motive_1:=λ_=>Prop) (motive_2:=λ_=>Prop)
 (λt=>(t=mg->F)/\(t=(!mg)->b)) (λ_ _=>b) (λ_=>b) (λ_ _=>b) b (λ_ _ _ _=>b) (λ_ _ _ _=>b) b (λ_=>b) b
 (λ_ _ _ _ _=>b) b (λ_ _ _=>b) b (λ_ _=>b) (λ_ _=>b) b (λ_ _ _ _=>b) v
structure iW(mg:Bool)(v:E)(F b:Prop):Prop where
 out:atA mg v F b
structure qc(dB:bK)(body:bK->Prop):Prop where
 out:body dB
def ayb(dB:bK)(body:bK->Prop):qc dB body=body dB:=propext ⟨λa=>a.out,λa=>⟨a⟩⟩
structure bt(dB:fJ)(body:fJ->Prop):Prop where
 out:body dB
structure c9(dB:E->Prop)(body:(E->Prop)->Prop):Prop where
 out:body dB
structure vh(dB:E->S ag->Prop)(body:(E->S ag->Prop)->Prop):Prop where
 out:body dB
def ax9(dB:E->S ag->Prop)(body:(E->S ag->Prop)->Prop):vh dB body=body dB:=propext ⟨λa=>a.out,λa=>⟨a⟩⟩
structure VP(dB:Prop)(body:Prop->Prop):Prop where
 out:body dB
def aya(dB:Prop)(body:Prop->Prop):VP dB body=body dB:=propext ⟨λa=>a.out,λa=>⟨a⟩⟩
def ko{dB:fJ}{body:fJ->Prop}(tj:fJ)(H:∀V:fJ,(∀I h j,tj I h j->V I h j)->body V)(M:∀I h j,tj I h j->dB I h j):bt dB body:=⟨H dB M⟩
structure e7(n:Nat)(ai:Nat->Prop):Prop where
 out:ai n
structure gT(C:aN)(h:S ag)(j:Nat)(v:E)(cT:ag)(ai:bK):Prop where
 out:ai v (bm C h j (some cT)) (j+1)
structure mK(C:aN)(h:S ag)(b:Nat)(v:E)(cT:ag)(ai:E->S ag->Prop):Prop where
 out:ai v (bm C h b (some cT))
structure y4(C:aN)(h:S ag)(b:Nat)(F:E)(ai:E->S ag->Prop):Prop where
 out:ai (.ptr b 0) (bm C h b (some (.cells (S.ofList F.cells 0 .nil) F.cells.length .own)))
structure hC(C:aN)(h:S ag)(j:Nat)(F:E)(ai:bK):Prop where
 out:ai (.ptr j 0) (bm C h j (some (.cells (S.ofList F.cells 0 .nil) F.cells.length .own))) (j+1)
section
variable(C:aN)(bq:World)(bJ:Nat)(bX:List Frame)(v:E)
def Rz(cs:List g6):bK:=λac h j=>uI (gb C bq bJ bX v) false cs ac h j=some v
def Nt(cs:List g6):bK:=λac h j=>match cs with
 |c::rest=>ai3 (gb C bq bJ bX v) c rest [⟨ac,false⟩] h j=some v
 |[]=>False
end
def vE(C:aN)(f:Nat)(args:List E)(h:S ag)(j:Nat)(a7 dG:bK):Prop:=
 ∀(bq:World) (dY:dd) (ea:Nat->Prop) (_:Env C bq dY ea) (bJ:Nat) (bX:List Frame) (v:E) (_:E.same 30 v v=true) (cs:List g6),
  (∀ac R an,a7 ac R an->Rz C bq bJ bX v cs ac R an)->(∀ac R an,dG ac R an->Nt C bq bJ bX v cs ac R an)->
  o5 (gb C bq bJ bX v) C f args false cs h j=some v
def vE.mono{C:aN}{f:Nat}{args:List E}{h:S ag}{j:Nat}{a7 dG si JV:bK}(a:vE C f args h j a7 dG)(eP:∀ac h j,a7 ac h j->si ac h j)(d9:∀ac h j,dG ac h j->JV ac h j):
 vE C f args h j si JV:=
 λbq dY ea cP bJ bX v aC cs H M=>a bq dY ea cP bJ bX v aC cs (λac h j ak=>H ac h j (eP ac h j ak)) (λac h j ak=>M ac h j (d9 ac h j ak))
def QN(ah:hX)(C:aN)(k:Nat)(args:List E)(cs:List g6)(h:S ag)(j:Nat):ee:=match W C h k with
 |some (.loop _ _ fn n aq da params assign body _)=>(match ys n params args da with
  |some da=>ah .run [.code assign, .beginRound, .code body] ⟨fn,n,aq,[],false,some k,cs⟩ da h j
  |none=>none)
 |_=>none
def BO(C:aN)(k:Nat)(args:List E)(h:S ag)(j:Nat)(a7 dG:bK):Prop:=
 ∀(bq:World) (dY:dd) (ea:Nat->Prop) (_:Env C bq dY ea) (bJ:Nat) (bX:List Frame) (v:E) (_:E.same 30 v v=true) (cs:List g6),
  (∀ac R an,a7 ac R an->Rz C bq bJ bX v cs ac R an)->(∀ac R an,dG ac R an->Nt C bq bJ bX v cs ac R an)->
  QN (gb C bq bJ bX v) C k args cs h j=some v
def BO.mono{C:aN}{k:Nat}{args:List E}{h:S ag}{j:Nat}{a7 dG si JV:bK}(a:BO C k args h j a7 dG)(eP:∀ac h j,a7 ac h j->si ac h j)(d9:∀ac h j,dG ac h j->JV ac h j):
 BO C k args h j si JV:=
 λbq dY ea cP bJ bX v aC cs H M=>a bq dY ea cP bJ bX v aC cs (λac h j ak=>H ac h j (eP ac h j ak)) (λac h j ak=>M ac h j (d9 ac h j ak))
def XZ(C:aN)(f:Nat)(args:List E)(kq:Option E)(h:S ag)(j:Nat)(a7:Bool->S ag->Nat->Prop):Prop:=
 ∀(bq:World) (dY:dd) (ea:Nat->Prop) (_:Env C bq dY ea) (bJ:Nat) (bX:List Frame) (v:E) (_:E.same 30 v v=true) (fn n aq:Nat) (I:S E) (todo:List d0) (ds:List h8) (aD:Bool) (ro:Option Nat) (cs:List g6),
  (∀b R an,a7 b R an->gb C bq bJ bX v (match kq,b with|none,_=> .returning|some _,true=> .returning|some ac,false=> .panicking [⟨ac,false⟩]) todo ⟨fn,n,aq,ds,aD,ro,cs⟩ I R an=some v)->
  o5 (gb C bq bJ bX v) C f args true (⟨fn,n,aq,I,todo,ds,(match kq with|none=> .returning|some ac=> .panicking [⟨ac,false⟩]),aD,ro⟩::cs) h j=some v
structure a2(C:aN)(f:Nat)(args:List E)(h:S ag)(j:Nat)(ai ax:bK):Prop where
 out:(∃ac,C.hz f args=some ac/\ai ac h j)\/(C.hz f args=none/\(∃fn c,C.P.funcs[f]? =some fn/\fn.body=some c)/\vE C f args h j ai ax)
structure h6(T:Option ed)(h:S ag)(j:Nat)(ai:bK):Prop where
 out:match T with
 |some (.val v)=>ai v h j
 |some (.fH v R an)=>ai v R an
 |_=>False
def aCa(T:Option ed)(h:S ag)(j:Nat)(ai:bK):h6 T h j ai=(match T with
 |some (.val v)=>ai v h j
 |some (.fH v R an)=>ai v R an
 |_=>False):=propext ⟨λa=>a.out,λa=>⟨a⟩⟩
def W1{T:Option ed}{h:S ag}{j:Nat}{ai:bK}{v:E}(a:T=some (.val v))(u:ai v h j):h6 T h j ai:=by subst a;exact⟨u⟩
def kH{T:Option ed}{h R:S ag}{j an:Nat}{ai:bK}{v:E}(a:T=some (.fH v R an))(u:ai v R an):h6 T h j ai:=by subst a;exact⟨u⟩
structure HB(T:Option ed)(h:S ag)(j:Nat)(ai:bK):Prop where
 out:match T with
 |some (.val v)=>ai v h j
 |some (.fH v R an)=>ai v R an
 |some (.fork k)=>k≠[]/\∀ac R,(ac,R)∈k->ai ac R j
 |_=>False
def asB(T:Option ed)(h:S ag)(j:Nat)(ai:bK):HB T h j ai=(match T with
 |some (.val v)=>ai v h j
 |some (.fH v R an)=>ai v R an
 |some (.fork k)=>k≠[]/\∀ac R,(ac,R)∈k->ai ac R j
 |_=>False):=propext ⟨λa=>a.out,λa=>⟨a⟩⟩
def D1(C:aN)(rd:Bool)(T:Option ed)(h:S ag)(j:Nat)(ai ax:bK):Prop:=match T with
 |some (.val v)=>ai v h j
 |some (.fH v R an)=>ai v R an
 |some (.enter f args)=>vE C f args h j ai ax
 |some (.round k args)=>BO C k args h j ai ax
 |some (.known _ _ v)=>ai v h j
 |some (.panic v)=>b0 rd False (ax v h j)
 |some (.fork k)=>k≠[]/\∀ac R,(ac,R)∈k->ai ac R j
 |_=>False
def kg(x:k4)(au:List (Nat×E))(I:c1)(ai:E->Prop):Prop:=
 k4.rec (motive:=λ_=>Prop) (λV=>cH (ev au V) ai) (λn=>cH (I n) ai) (λF=>ai F) x
def Oc(au:List (Nat×E))(I:c1)(k:List k4):(List E->Prop)->Prop:=
 List.rec (motive:=λ_=>(List E->Prop)->Prop) (λai=>ai []) (λx _ ah ai=>kg x au I λF=>ah λr=>ai (F::r)) k
def eT(b9:List (Nat×Nat))(au:List (Nat×E))(I:c1)(T:Operand)(ai:E->Prop):Prop:=match T with
 | .tmp t=>(match ev b9 t with|some V=>cH (ev au V) ai|none=>cH (I t) ai)
 | .const v=>cH (FQ v) ai
 | .global g=>ai (.ptr g 0)
 | .func f=>ai (.func (.func f) [] [])
def uj(b9:List (Nat×Nat))(au:List (Nat×E))(I:c1)(k:List Operand):(List E->Prop)->Prop:=
 List.rec (motive:=λ_=>(List E->Prop)->Prop) (λai=>ai []) (λx _ ah ai=>eT b9 au I x λF=>ah λr=>ai (F::r)) k
def Dn(b9:List (Nat×Nat))(au:List (Nat×E))(I:c1)(k:List (Nat×Operand)):(List (Nat×E)->Prop)->Prop:=
 List.rec (motive:=λ_=>(List (Nat×E)->Prop)->Prop) (λai=>ai []) (λx _ ah ai=>eT b9 au I x.2 λF=>ah λr=>ai ((x.1,F)::r)) k
def Qv(b9:List (Nat×Nat))(au:List (Nat×E))(I:c1)(T:Option Operand)(ai:Option E->Prop):Prop:=match T with
 |none=>ai none
 |some x=>eT b9 au I x λF=>ai (some F)
def ld:Operand:= .global 0
def hc:Operand:= .global 1
def nB:Operand:= .global 2
def lf(F:E):Operand->Option E:=λ_=>some F
def two(F b:E):Operand->Option E:=λT=>match T with| .global 0=>some F|_=>some b
def ajK(F b c:E):Operand->Option E:=λT=>match T with| .global 0=>some F| .global 1=>some b|_=>some c
def ya(n bd:Nat)(F i:E):Option E:=match n4 i with|some i=>Nb n bd F i|none=>none
def gd(bd:Nat)(F i:E):Option E:=match n4 i with|some i=>DD bd F i|none=>none
def adM(C:aN)(t f:Nat)(F:E):Option E:=Md C t ld f .nil (lf F)
def ac2(C:aN)(h:S ag)(s d:Nat)(F:E):Option E:=Mc C s d ld h (lf F)
def ag2(C:aN)(t:Nat)(F:E):Option E:=Me C t ld .nil (lf F)
def acq(C:aN)(t:Nat)(ok:Bool)(F:E):Option E:=Mb C ld t ok .nil (lf F)
def ads(C:aN)(h:S ag)(F:E):Option E:=V3 C ld h (lf F)
def ts(C:aN)(h:S ag)(b:Builtin)(df:List TypeId)(bk:List E):Option E:=match b,bk with
 | .len,[x]=>(match df with|t::_=>NC C h t x|_=>none)
 | .cap,[x]=>(match df with|t::_=>Nz C t x|_=>none)
 | .max,x::k=>pJ true x k
 | .min,x::k=>pJ false x k
 |_,_=>none
def fT(C:aN)(h:S ag)(s:Nat)(F v:E):Option (S ag):=match F with
 | .ptr b T=>b0 (Nat.beq v.cells.length s&&Nat.blt 0 s) (sm C h b T v.cells) none
 |_=>none
def H1(C:aN)(h:S ag)(j:Nat)(b:Builtin)(df:List TypeId)(bk:List E):Option ed:=match b,bk with
 | .append,[s,x]=>(match df with
   |st::i7::_=>(match C.P.underlying i7 with
    |some (.int _)=>(match n4 x with|some n=>NA C h j st s n|none=>none)
    |some (.slice _)=>G8 C h j st s x
    |some .string=>G8 C h j st s x
    |_=>none)
   |_=>none)
 |_,_=>none
structure jA(C:aN)(nj:E)(cB:List E)(h:S ag)(j:Nat)(ai ax:bK):Prop where
 out:match nj with
 | .func fn first f1=>(match fn with| .func f=>a2 C f ((first++cB)++f1) h j ai ax| .yield k=>BO C k (first++cB) h j ai ax|_=>False)
 |_=>False
def QX(C:aN)(t len:Nat)(dm:List (Nat×E))(b:Nat):Option (E×ag):=match C.P.underlying t with
 |some (.slice ep)=>(match jW C ep,uC C ep with
  |some s,some bE=>b0 (Nat.ble (len*s) 16777216&&Nat.beq bE.cells.length s) ((match Cc (λi=>some (i*s,s)) (lE len bE.cells) dm with
    |some cs=>some (E.slice b 0 len len,ag.cells (S.ofList cs 0 .nil) cs.length .own)
    |none=>none))<|none
  |_,_=>none)
 |_=>none
structure wP(ax:bK)(F:E)(h:S ag)(j:Nat):Prop where
 out:match F with| .iface t v=>ax (.iface t v) h j|_=>False
def aBh(ax:bK)(F:E)(h:S ag)(j:Nat):wP ax F h j=(match F with| .iface t v=>ax (.iface t v) h j|_=>False):=propext ⟨λa=>a.out,λa=>⟨a⟩⟩
structure ahZ(C:aN)(rd:Bool)(il:E)(name:String)(cB:List E)(h:S ag)(j:Nat)(ai ax:bK):Prop where
 out:match il with
 | .iface t v=>D1 C rd (G9 C h t v name cB) h j ai ax
 |_=>False
def azF(C:aN)(rd:Bool)(il:E)(name:String)(cB:List E)(h:S ag)(j:Nat)(ai ax:bK):ahZ C rd il name cB h j ai ax=(match il with
 | .iface t v=>D1 C rd (G9 C h t v name cB) h j ai ax
 |_=>False):=propext ⟨λa=>a.out,λa=>⟨a⟩⟩
def ahG(b9:List (Nat×Nat))(T:Op):aN->S ag->List (Nat×E)->c1->(E->Prop)->Prop:=match T with
 | .build t kG=>λC _ au I ai=>Dn b9 au I kG.toList λdm=>ar (Ny C t dm) ai
 | .binOp op t x e _=>λC h au I ai=>eT b9 au I x λF=>eT b9 au I e λb=>ar (db C h op t (rP x||rP e) F b) ai
 | .unOp op _ x=>λ_ _ au I ai=>eT b9 au I x λF=>ar (gi op F) ai
 | .convert s d x=>λC h au I ai=>eT b9 au I x λF=>ar (ac2 C h s d F) ai
 | .makeInterface t x=>λC _ au I ai=>eT b9 au I x λF=>ar (ag2 C t F) ai
 | .makeFunc fn first f1=>λ_ _ au I ai=>(match fn with
   | .func f=>uj b9 au I first.toList λF=>uj b9 au I f1.toList λb=>ai (.func (.func f) F b)
   |_=>False)
 | .slice t x bO aG hy=>λC h au I ai=>eT b9 au I x λF=>Qv b9 au I bO λk=>Qv b9 au I aG λa=>Qv b9 au I hy λm=>ar (NE C h t F k a m) ai
 | .field t x f=>λC _ au I ai=>eT b9 au I x λF=>ar (adM C t f F) ai
 | .index t x i=>λC _ au I ai=>eT b9 au I x λF=>eT b9 au I i λb=>ar (NB C t F b) ai
 | .lookup t m u ok=>λC h au I ai=>eT b9 au I m λF=>eT b9 au I u λb=>ar (ND C h t F b ok) ai
 | .typeAssert x _ t ok=>λC _ au I ai=>eT b9 au I x λF=>ar (acq C t ok F) ai
 | .entry eN=>λC h au I ai=>eT b9 au I eN λF=>ar (ads C h F) ai
 | .call c=>λC h au I ai=>(match c with
   |⟨.builtin b,args,df⟩=>uj b9 au I args.toList λbk=>ar (ts C h b df.toList bk) ai
   |_=>False)
 |_=>λ_ _ _ _ _=>False
def IN(op:ku):aN->S ag->List (Nat×E)->c1->(E->Prop)->Prop:=match op with
 | .FH x=>λ_ _ au I ai=>kg x au I ai
 | .pick c F b=>λ_ _ au I ai=>kg c au I λc=>c9 ai λai=>a1 c (kg F au I ai) (kg b au I ai)
 | .e6 F=>λC h au I ai=>kg F au I λF=>ar (aU C h F) ai
 | .CZ n F=>λC h au I ai=>kg F au I λF=>ar (dE C h n F) ai
 | .off d x=>λ_ _ au I ai=>kg x au I λF=>ar (hW d F) ai
 | .CQ n bd x i=>λ_ _ au I ai=>kg x au I λF=>kg i au I λi=>ar (ya n bd F i) ai
 | .CR bd x i=>λ_ _ au I ai=>kg x au I λF=>kg i au I λi=>ar (gd bd F i) ai
 | .FL x=>λ_ _ au I ai=>kg x au I λF=>ar (rf F) ai
 | .LY op x e=>λ_ _ au I ai=>kg x au I λF=>kg e au I λb=>ar (bv op F b) ai
 | .ext i x=>λ_ _ au I ai=>kg x au I λF=>ar (oh i F) ai
 | .iD b9 T=>ahG b9 T
 |_=>λ_ _ _ _ _=>False
def ahS(op:ku):aN->S ag->Nat->List (Nat×E)->c1->bK->Prop:=match op with
 | .make b9 T=>(match T with
   | .alloc t=>λC h b _ _ ai=>ar (FD C t (lf undef) b) λr=>gT C h b r.1 r.2 ai
   | .box _ x=>λC h b au I ai=>eT b9 au I x λF=>hC C h b F ai
   | .buildSlice t len kG=>λC h b au I ai=>Dn b9 au I kG.toList λdm=>ar (QX C t len dm b) λr=>gT C h b r.1 r.2 ai
   | .makeMap _ none=>λC h b _ _ ai=>gT C h b (.map b) (.map [] 0) ai
   |_=>λ_ _ _ _ _ _=>False)
 |_=>λ_ _ _ _ _ _=>False
def Wr(op:ku):aN->S ag->Nat->List (Nat×E)->c1->(E->S ag->Prop)->Prop:=match op with
 | .make b9 T=>(match T with
   | .alloc t=>λC h b _ _ ai=>ar (FD C t (lf undef) b) λr=>mK C h b r.1 r.2 ai
   | .box _ x=>λC h b au I ai=>eT b9 au I x λF=>y4 C h b F ai
   | .buildSlice t len kG=>λC h b au I ai=>Dn b9 au I kG.toList λdm=>ar (QX C t len dm b) λr=>mK C h b r.1 r.2 ai
   | .makeMap _ none=>λC h b _ _ ai=>mK C h b (.map b) (.map [] 0) ai
   |_=>λ_ _ _ _ _ _=>False)
 |_=>λ_ _ _ _ _ _=>False
def Uv(rd:Bool)(op:ku):aN->S ag->Nat->List (Nat×E)->c1->bK->bK->Prop:=match op with
 | .st n F v=>λC h j au I ai _=>kg F au I λF=>kg v au I λv=>ar (fT C h n F v) λh=>ai undef h j
 | .call f args=>λC h j au I ai ax=>Oc au I args λcB=>a2 C f cB h j ai ax
 | .fC b9 T=>(match T with
   | .mapUpdate t m u x=>λC h j au I ai _=>eT b9 au I m λF=>eT b9 au I u λb=>eT b9 au I x λc=>h6 (J1 C h j t F b c) h j ai
   | .insert t m u x=>λC h j au I ai _=>eT b9 au I m λF=>eT b9 au I u λb=>eT b9 au I x λc=>h6 (J1 C h j t F b c) h j ai
   | .mapEntry t m u=>λC h j au I ai _=>eT b9 au I m λF=>eT b9 au I u λb=>h6 (K4 C t ld hc h j (two F b)) h j ai
   | .entryStore _ m s x=>λC h j au I ai _=>eT b9 au I m λF=>eT b9 au I s λb=>eT b9 au I x λc=>h6 (KW C ld hc nB h j (ajK F b c)) h j ai
   | .makeSlice t k c=>λC h j au I ai _=>eT b9 au I k λF=>eT b9 au I c λb=>h6 (K3 C t ld hc h j (two F b)) h j ai
   | .makeMap t (some r)=>λC h j au I ai _=>eT b9 au I r λF=>h6 (K2 C t ld h j (lf F)) h j ai
   | .convert s d x=>λC h j au I ai _=>eT b9 au I x λF=>h6 (K7 C s d ld h j (lf F)) h j ai
   | .range t x=>λC h j au I ai _=>eT b9 au I x λF=>h6 (K5 C t ld h j (lf F)) h j ai
   | .next eN A2=>λC h j au I ai _=>eT b9 au I eN λF=>HB (xK C ld A2 h j (lf F)) h j ai
   | .panic x=>λ_ h j au I _ ax=>b0 rd False (eT b9 au I x λF=>wP ax F h j)
   | .call c=>λC h j au I ai ax=>(match c with
     |⟨.value f,args,_⟩=>eT b9 au I f λnj=>uj b9 au I args.toList λcB=>jA C nj cB h j ai ax
     |⟨.builtin b,args,df⟩=>uj b9 au I args.toList λbk=>h6 (H1 C h j b df.toList bk) h j ai
     |⟨.invoke r name,args,_⟩=>eT b9 au I r λil=>uj b9 au I args.toList λcB=>ahZ C rd il name cB h j ai ax)
   |_=>λ_ _ _ _ _ _ _=>False)
 |_=>λ_ _ _ _ _ _ _=>False
def WJ(rd:Bool)(op:ku)(C:aN)(h:S ag)(j:Nat)(au:List (Nat×E))(I:c1)(ai ax:bK):Prop:=match nx op with
 | .iD=>IN op C h au I λv=>ai v h j
 | .make=>ahS op C h j au I ai
 | .fC=>Uv rd op C h j au I ai ax
inductive Spec where
 |no
 |defer (b9:List (Nat×Nat)) (f:Operand) (args:List Operand)
 |recover
def Ga(op:ku):Spec:=match op with
 | .fC b9 T=>(match T with
   | .defer c=>(match c with|⟨.value f,args,_⟩=> .defer b9 f args.toList|_=> .no)
   | .call c=>(match c with|⟨.builtin b,args,_⟩=>(match b,args.toList with| .recover,[]=> .recover|_,_=> .no)|_=> .no)
   |_=> .no)
 |_=> .no
def Km(nj:E)(cB:List E)(I:c1)(ai:c1->Prop):Prop:=match nj with
 | .func fn first f1=>ai (Bi I ⟨.fn fn f1,first++cB⟩)
 |_=>False
def Jk(kq:Option (Option E))(I:c1)(ai:E->c1->Prop):Prop:=match kq with
 |none=>False
 |some none=>ai .nilIface I
 |some (some ac)=>b0 I.rc (ai .nilIface I) (ai ac (QU I))
def Rc(g:Option (Nat×Bool))(au:List (Nat×E))(F b:Prop):Prop:=match g with
 |none=>F
 |some (V,mg)=>cH (ev au V) λv=>iW mg v F b
def Re(g:Option (Nat×Bool))(au:List (Nat×E))(qj:bK->Prop)(dB:bK)(h:S ag)(j:Nat):Prop:=match g with
 |none=>qj dB
 |some (V,mg)=>qc dB λai=>cH (ev au V) λv=>iW mg v (qj ai) (ai undef h j)
def s7(g:Option (Nat×Bool))(au:List (Nat×E))(qj:(E->S ag->Prop)->Prop)(dB:E->S ag->Prop)(h:S ag):Prop:=match g with
 |none=>qj dB
 |some (V,mg)=>vh dB λai=>cH (ev au V) λv=>iW mg v (qj ai) (ai undef h)
def XN(g:Option (Nat×Bool))(au:List (Nat×E))(qj:Prop->Prop)(dB:Prop):Prop:=match g with
 |none=>qj dB
 |some (V,mg)=>VP dB λai=>cH (ev au V) λv=>iW mg v (qj ai) ai
def akh(g:Option (Nat×Bool))(au:List (Nat×E))(qj:bK->Prop)(dB:bK)(h:S ag)(j:Nat):Re g au qj dB h j=Rc g au (qj dB) (dB undef h j):=by
 cases g with
 |none=>rfl
 |some p=>exact ayb _ _
def aEV(g:Option (Nat×Bool))(au:List (Nat×E))(qj:(E->S ag->Prop)->Prop)(dB:E->S ag->Prop)(h:S ag):s7 g au qj dB h=Rc g au (qj dB) (dB undef h):=by
 cases g with
 |none=>rfl
 |some p=>exact ax9 _ _
def aEW(g:Option (Nat×Bool))(au:List (Nat×E))(qj:Prop->Prop)(dB:Prop):XN g au qj dB=Rc g au (qj dB) dB:=by
 cases g with
 |none=>rfl
 |some p=>exact aya _ _
def KF(k:List (Nat×Nat)):List (Nat×E)->c1->(c1->Prop)->Prop:=
 List.rec (motive:=λ_=>List (Nat×E)->c1->(c1->Prop)->Prop) (λ_ I ai=>ai I)
  (λp _ ah au I ai=>cH (ev au p.1) λv=>ah au (aa I p.2 v) ai) k
def Dt(C:aN)(bW:vH)(fin:List (Nat×Nat))(ai:fJ)(ax:tm)(rest:List fI):List (Nat×E)->c1->S ag->Nat->Prop:=
 List.rec (motive:=λ_=>List (Nat×E)->c1->S ag->Nat->Prop) (λau I h j=>KF fin au I λI=>ai I h j)
  (λx _ ah au I h j=>match Ga x.op with
   | .no=>Re x.g au (λai=>WJ bW.rd x.op C h j au I ai (ax I)) (λv h j=>ah ((x.i,v)::au) I h j) h j
   | .defer b9 f args=>b0 (x.g.isNone&&bW.bj) (eT b9 au I f λnj=>uj b9 au I args λcB=>Km nj cB I λI=>ah ((x.i,undef)::au) I h j) False
   | .recover=>b0 (x.g.isNone&& !bW.rd) (Jk bW.kq I λv I=>ah ((x.i,v)::au) I h j) False) rest
def P9(C:aN)(base:Nat)(I:c1)(k:List fI):List (Nat×E)->S ag->(List (Nat×E)->S ag->Prop)->Prop:=
 List.rec (motive:=λ_=>List (Nat×E)->S ag->(List (Nat×E)->S ag->Prop)->Prop) (λau h ai=>ai au h)
  (λx _ ah au h ai=>s7 x.g au (λV=>match nx x.op with
   | .make=>Wr x.op C h (base+x.i) au I V
   |_=>IN x.op C h au I λv=>V v h) (λv h=>ah ((x.i,v)::au) h ai) h) k
structure gO(x:E)(T:Option E)(ai:Prop):Prop where
 out:cH T λac=>E.same 30 x ac=true/\ai
def WW(C:aN)(I:c1)(au:List (Nat×E))(h:S ag)(k:List fI):Prop->Prop:=
 List.rec (motive:=λ_=>Prop->Prop) (λai=>ai) (λx _ ah ai=>XN x.g au (λak=>IN x.op C h au I λv=>gO v (ev au x.i) ak) (ah ai)) k
def SV(C:aN)(rd:Bool)(base:Nat)(fin:List (Nat×Nat))(I:c1)(ai:fJ)(ax:bK)(l0:List xk):List (Nat×E)->S ag->Nat->Prop:=
 List.rec (motive:=λ_=>List (Nat×E)->S ag->Nat->Prop) (λ_ _ _=>False)
  (λs _ ah au h j=>P9 C base I s.vj au h λau h=>WW C I au h s.WV (match s.fC with
   |none=>KF fin au I λI=>ai I h j
   |some a=>Re a.g au (λai=>Uv rd a.op C h j au I ai ax) (λv h j=>ah ((a.i,v)::au) h j) h j)) l0
structure fy(body:fJ->fJ)(I:c1)(h:S ag)(j:Nat):Prop where
 out:∃tj:Nat->fJ,(∃m,tj m I h j)/\∀m I h j,tj m I h j->body (λI h j=>∃gg,gg<m/\tj gg I h j) I h j
def El(id:Nat)(ai:fJ)(D:Nat->fJ):Nat->fJ:=λve=>b0 (Nat.beq id ve) ai (D ve)
def S6(T:Operand)(I:c1)(ai:E->Prop):Prop:=eT [] [] I T ai
def aB6(C:aN)(n aq:Nat)(bW:vH)(ax:tm)(av:Array Oper)(B8:Bool)(ai:fJ):fJ:=λI h j=>Bool.rec (motive:=λ_=>Prop)
 (cH (Mr C n av aq) λr=>Dt C bW r.fin ai (λI=>ax (ib (dstsOf av.toList) I)) r.rest [] I h j)
 (cH (Mq C n av aq) λr=>e7 (j+av.size) λan=>SV C bW.rd j r.fin I ai (ax (ib (dstsOf av.toList) I)) r.l0 [] h an) B8
def Jq(n:Nat):List Nat->List E->c1->(c1->Prop)->Prop
 |[],[],I,ai=>ai I
 |p::dm,F::cB,I,ai=>b0 (Nat.blt p n) (Jq n dm cB (aa I p F) ai) False
 |_,_,_,_=>False
structure apX(C:aN)(k:Nat)(mk:LoopState->Option Code->ag)(h:S ag)(u:Prop):Prop where
 here:W C h k=some (mk .ready none)
 go:u
structure N8(C:aN)(k:Nat)(mk:LoopState->Option Code->ag)(st:LoopState)(p:Option Code)(b:Bool)(ai:bK)(h:S ag)(j:Nat):Prop where
 here:∃ajt Bf,W C h k=some (mk ajt Bf)
 go:ai (.bool b) (bm C h k (some (mk st p))) j
abbrev Nq:=vH->tm->fJ->(Nat->fJ)->fJ->fJ
def C8:vH:=⟨true,false,none⟩
def us(C:aN)(A bx:Nq)(k:Nat)(mk:LoopState->Option Code->ag)(ai ax:bK):fJ:=λI h j=>
 A C8 (λ_=>ax) (λI h j=>apX C k mk h (bx C8 (λ_=>ax) (λ_ h j=>N8 C k mk .ready none true ai h j) (λid _ h j=>N8 C k mk .done (some (.exit id)) false ai h j)
   (λ_ h j=>N8 C k mk .done (some .ret) false ai h j) I (bm C h k (some (mk .busy none))) j)) (λ_ _ _ _=>False) (λ_ _ _=>False) I h j
def aiG(p:Option Code)(ai:fJ)(D:Nat->fJ)(r:fJ):fJ:=match p with
 |none=>ai
 |some c=>(match c with| .exit id=>D id| .ret=>r|_=>λ_ _ _=>False)
def wL(I:c1)(j:Nat):c1:=Bi I ⟨.collected j,[]⟩
structure F0(C:aN)(n:Nat)(nj:E)(params:List Nat)(dG:Nat->(LoopState->Option Code->ag)->bK->bK->fJ)(ai:fJ)(D:Nat->fJ)(r:fJ)(ax:tm)(I:c1)(h:S ag)(j:Nat):Prop where
 low:C.a8<=j
 out:match nj with
  | .func fn first f1=>(match fn with
    | .func g=>∀mk:LoopState->Option Code->ag,
       (∀args R an mQ eF,W C R (j+1)=some (mk .ready none)->Jq n params args I (λsj=>dG (j+1) mk mQ eF sj R an)->BO C (j+1) args R an mQ eF)->
       vE C g (first++[.func (.yield (j+1)) [] []]++f1) (bm C (bm C h j (some (.deferred (some [])))) (j+1) (some (mk .ready none))) (j+2)
        (λ_ R an=>∃st p,st≠ .busy/\W C R (j+1)=some (mk st p)/\aiG p ai D r (wL I j) (bm C R (j+1) (some (mk .exhausted p))) an)
        (ax (wL I j))
    |_=>False)
  |_=>False
def xs(C:aN)(n aq:Nat)(c:Code):Nq:=
 Code.rec (motive:=λ_=>Nq)
  (λ_ _ ai _ _=>ai)
  (λ_ av d bW ax ai _ _=>aB6 C n aq bW ax av d ai)
  (λ_ _ mF h3 bW ax ai D r=>mF bW ax (h3 bW ax ai D r) D r)
  (λc _ _ mF h3 bW ax ai D r I h j=>S6 c I λv=>bt ai λai=>a1 v (mF bW ax ai D r I h j) (h3 bW ax ai D r I h j))
  (λid _ h3 bW ax ai D r I h j=>bt ai λai=>h3 bW ax ai (El id ai D) r I h j)
  (λ_ h3 bW ax _ D r=>fy λR6=>h3 bW ax R6 D r)
  (λf params _ _ mF h3 bW ax ai D r I h j=>b0 bW.bj (S6 f I λnj=>F0 C n nj params.toList (us C mF h3) ai D r ax I h j) False)
  (λid _ _ _ D _=>D id)
  (λ_ h3 bW ax ai D r=>h3 bW ax ai D r)
  (λ_ _ _ ai _ _=>ai)
  (λ_ _ _ _ _ _ _ _ _=>False)
  (λ_ _ _ _ r=>r)
  (λ_ _ _ _ _ _ _ _ _=>False) c
def r0(C:aN)(h:S ag)(I:c1)(k:List ResultVar):(List E->Prop)->Prop:=
 List.rec (motive:=λ_=>(List E->Prop)->Prop) (λai=>ai [])
  (λx _ ah ai=>ResultVar.rec (motive:=λ_=>Prop) (λt=>cH (I t) λv=>ah λr=>ai (v::r)) (λF t=>cH (I F) λp=>ar (mm C h t p) λv=>ah λr=>ai (v::r)) x) k
def cR(k:List E):c1:=⟨λn=>sY k n,[],false⟩
structure uQ(C:aN)(fn:Fn)(cB:List E)(kq:Option E)(h:S ag)(j:Nat)(a7:Bool->S ag->Nat->Prop):Prop where
 out:match fn with
  | .func f=>C.hz f cB=none/\(∃fn c,C.P.funcs[f]? =some fn/\fn.body=some c)/\XZ C f cB kq h j a7
  |_=>False
structure Qo(C:aN)(r:Nat)(h:S ag)(u:Prop):Prop where
 low:C.a8<=r
 here:W C h r=some (.deferred (some []))
 go:u
def n9(C:aN)(MJ:List ResultVar)(a7:bK)(I:c1)(ds:List h8):S ag->Nat->Prop:=
 List.rec (motive:=λ_=>S ag->Nat->Prop) (λh j=>r0 C h I MJ λbk=>a7 (one bk) h j)
  (λd _ ah h j=>match d.target with
   | .collected r=>Qo C r h (ah (bm C h r (some (.deferred none))) j)
   | .fn fn cap=>uQ C fn (d.args++cap) none h j λ_ h j=>ah h j) ds
def wO(C:aN)(MJ:List ResultVar)(a7 dG:bK)(I:c1)(ac:E):List h8->S ag->Nat->Prop
 |[],h,j=>dG ac h j
 |d::ds,h,j=>match d.target with
   | .collected r=>Qo C r h (wO C MJ a7 dG I ac ds (bm C h r (some (.deferred none))) j)
   | .fn fn cap=>uQ C fn (d.args++cap) (some ac) h j λb h j=>b0 b (n9 C MJ a7 I ds h j) (wO C MJ a7 dG I ac ds h j)
def IU:vH:=⟨false,false,none⟩
def A7:vH:=⟨false,true,none⟩
def Cd(C:aN)(f:Nat)(args:List E)(h:S ag)(j:Nat)(a7 dG:bK):Prop:=match C.P.funcs[f]? with
 |some fn=>(match fn.body with
  |some c=>xs C fn.ntmps (Nat.lor (kY c) (oL fn.results.toList)) c A7 (λI ac h j=>wO C fn.results.toList a7 dG I ac I.bj h j) (λI h j=>n9 C fn.results.toList a7 I I.bj h j) (λ_ _ _ _=>False)
    (λI h j=>n9 C fn.results.toList a7 I I.bj h j) (cR args) h j
  |none=>False)
 |none=>False
def Aj(C:aN)(f:Nat)(args:List E)(kq:Option E)(h:S ag)(j:Nat)(a7:Bool->S ag->Nat->Prop):Prop:=match C.P.funcs[f]? with
 |some fn=>(match fn.body with
  |some c=>xs C fn.ntmps (Nat.lor (kY c) (oL fn.results.toList)) c ⟨false,false,some kq⟩ (λ_ _ _ _=>False) (λI h j=>r0 C h I fn.results.toList λ_=>a7 I.rc h j) (λ_ _ _ _=>False)
    (λI h j=>r0 C h I fn.results.toList λ_=>a7 I.rc h j) (cR args) h j
  |none=>False)
 |none=>False
def c7(C:aN)(f:Nat)(args:List E)(h:S ag)(j:Nat)(a7 dG:bK):Prop:=match C.P.funcs[f]? with
 |some fn=>(match fn.body with
  |some c=>xs C fn.ntmps (Nat.lor (kY c) (oL fn.results.toList)) c IU (λ_=>dG) (λI h j=>r0 C h I fn.results.toList λbk=>a7 (one bk) h j) (λ_ _ _ _=>False)
    (λI h j=>r0 C h I fn.results.toList λbk=>a7 (one bk) h j) (cR args) h j
  |none=>False)
 |none=>False
def cV(C:aN)(f ef:Nat):Bool:=match C.P.funcs[f]? with
 |some fn=>(match fn.body with
  |some c=>Nat.ble ef fn.ntmps&&mr C (Nat.lor (kY c) (oL fn.results.toList)) c&&Bj (Nat.lor (kY c) (oL fn.results.toList)) fn.results.toList
  |none=>false)
 |none=>false
end
noncomputable section
open Go.RowKit (Below)
def hj(I:c1)(t:S E):Prop:=∀n v,I.g n=some v->t.get n=some v
section
variable{C:aN}{h:S ag}{j:Nat}{au:List (Nat×E)}{I:c1}{t:S E}
def o6(a:hj I t){x:k4}{ai:E->Prop}(ay:kg x au I ai):∃F,lP x au t=some F/\ai F:=by
 cases x with
 |v V=>exact uk.1 ay
 |t n=>
  obtain⟨F,H,M⟩:=uk.1 (show cH (I n) ai from ay)
  exact⟨F,a n F H,M⟩
 |c F=>exact⟨F,rfl,ay⟩
def ar4(a:hj I t):∀{k:List k4}{ai:List E->Prop},Oc au I k ai->∃cB,Ca au t k=some cB/\ai cB:=by
 intro k
 induction k with
 |nil=>intro ai ay;exact⟨[],rfl,ay⟩
 |cons x k ah=>
  intro ai ay
  obtain⟨F,H,M⟩:=o6 a (show kg x au I (λF=>Oc au I k λr=>ai (F::r)) from ay)
  obtain⟨r,al,aB⟩:=ah M
  exact⟨F::r,by simp[Ca,H,al],aB⟩
def hT(a:hj I t){b9:List (Nat×Nat)}{T:Operand}{ai:E->Prop}(ay:eT b9 au I T ai):∃F,jM b9 au t T=some F/\ai F:=by
 cases T with
 |tmp n=>
  simp only[eT]at ay
  simp only[jM]
  cases bF:ev b9 n with
  |some V=>simp only[bF]at ay ⊢;exact uk.1 ay
  |none=>
   simp only[bF]at ay ⊢
   obtain⟨F,H,M⟩:=uk.1 ay
   exact⟨F,a n F H,M⟩
 |const v=>exact uk.1 ay
 |global g=>exact⟨_,rfl,ay⟩
 |func f=>exact⟨_,rfl,ay⟩
def FU(a:hj I t){b9:List (Nat×Nat)}:∀{k:List Operand}{ai:List E->Prop},uj b9 au I k ai->∃cB,qJ (jM b9 au t) k=some cB/\ai cB:=by
 intro k
 induction k with
 |nil=>intro ai ay;exact⟨[],rfl,ay⟩
 |cons x k ah=>
  intro ai ay
  obtain⟨F,H,M⟩:=hT a (show eT b9 au I x (λF=>uj b9 au I k λr=>ai (F::r)) from ay)
  obtain⟨r,al,aB⟩:=ah M
  exact⟨F::r,by simp[qJ,H,al],aB⟩
def WM(a:hj I t){b9:List (Nat×Nat)}:∀{k:List (Nat×Operand)}{ai:List (Nat×E)->Prop},Dn b9 au I k ai->∃cB,Af (jM b9 au t) k=some cB/\ai cB:=by
 intro k
 induction k with
 |nil=>intro ai ay;exact⟨[],rfl,ay⟩
 |cons x k ah=>
  intro ai ay
  obtain⟨i,T⟩:=x
  obtain⟨F,H,M⟩:=hT a (show eT b9 au I T (λF=>Dn b9 au I k λr=>ai ((i,F)::r)) from ay)
  obtain⟨r,al,aB⟩:=ah M
  exact⟨(i,F)::r,by simp[Af,H,al],aB⟩
def WH(a:hj I t){b9:List (Nat×Nat)}{T:Option Operand}{ai:Option E->Prop}(ay:Qv b9 au I T ai):∃F,Dk (jM b9 au t) T=some F/\ai F:=by
 cases T with
 |none=>exact⟨none,rfl,ay⟩
 |some x=>
  obtain⟨F,H,M⟩:=hT a (show eT b9 au I x (λF=>ai (some F)) from ay)
  exact⟨some F,by simp[Dk,H],M⟩
def aza(a:hj I t){b9:List (Nat×Nat)}{T:Op}{ai:E->Prop}(ay:ahG b9 T C h au I ai):∃v,o0 T C h (jM b9 au t)=some v/\ai v:=by
 cases T with
 |build ty kG=>
  obtain⟨dm,H,M⟩:=WM a (show Dn b9 au I kG.toList _ from ay)
  obtain⟨v,al,aB⟩:=(lC.1 M)
  exact⟨v,by simp[o0,V0,H,al],aB⟩
 |binOp op ty x e JE=>
  obtain⟨F,H,M⟩:=hT a (show eT b9 au I x _ from ay)
  obtain⟨b,al,aB⟩:=hT a M
  obtain⟨v,bw,b1⟩:=(lC.1 aB)
  exact⟨v,by simp[o0,P5,H,al,bw],b1⟩
 |unOp op ty x=>
  obtain⟨F,H,M⟩:=hT a (show eT b9 au I x _ from ay)
  obtain⟨v,al,aB⟩:=(lC.1 M)
  exact⟨v,by simp[o0,V8,H,al],aB⟩
 |convert s d x=>
  obtain⟨F,H,M⟩:=hT a (show eT b9 au I x _ from ay)
  obtain⟨v,al,aB⟩:=(lC.1 M)
  exact⟨v,by simpa[o0,Mc,ac2,lf,H]using al,aB⟩
 |makeInterface ty x=>
  obtain⟨F,H,M⟩:=hT a (show eT b9 au I x _ from ay)
  obtain⟨v,al,aB⟩:=(lC.1 M)
  exact⟨v,by simpa[o0,Me,ag2,lf,H]using al,aB⟩
 |makeFunc fn first f1=>
  cases fn with
  |func f=>
   obtain⟨F,H,M⟩:=FU a (show uj b9 au I first.toList _ from ay)
   obtain⟨b,al,aB⟩:=FU a M
   exact⟨_,by simp[o0,V4,H,al],aB⟩
  |_=>exact ay.elim
 |slice ty x bO aG hy=>
  obtain⟨F,H,M⟩:=hT a (show eT b9 au I x _ from ay)
  obtain⟨k,al,aB⟩:=WH a M
  obtain⟨b,bw,b1⟩:=WH a aB
  obtain⟨m,c6,el⟩:=WH a b1
  obtain⟨v,gY,iL⟩:=(lC.1 el)
  exact⟨v,by simp[o0,V7,H,al,bw,c6,gY],iL⟩
 |field ty x f=>
  obtain⟨F,H,M⟩:=hT a (show eT b9 au I x _ from ay)
  obtain⟨v,al,aB⟩:=(lC.1 M)
  exact⟨v,by simpa[o0,Md,adM,lf,H]using al,aB⟩
 |index ty x i=>
  obtain⟨F,H,M⟩:=hT a (show eT b9 au I x _ from ay)
  obtain⟨b,al,aB⟩:=hT a M
  obtain⟨v,bw,b1⟩:=(lC.1 aB)
  exact⟨v,by simp[o0,V5,H,al,bw],b1⟩
 |lookup ty m u ok=>
  obtain⟨F,H,M⟩:=hT a (show eT b9 au I m _ from ay)
  obtain⟨b,al,aB⟩:=hT a M
  obtain⟨v,bw,b1⟩:=(lC.1 aB)
  exact⟨v,by simp[o0,V6,H,al,bw],b1⟩
 |typeAssert x ty vM ok=>
  obtain⟨F,H,M⟩:=hT a (show eT b9 au I x _ from ay)
  obtain⟨v,al,aB⟩:=(lC.1 M)
  exact⟨v,by simpa[o0,Mb,acq,lf,H]using al,aB⟩
 |entry eN=>
  obtain⟨F,H,M⟩:=hT a (show eT b9 au I eN _ from ay)
  obtain⟨v,al,aB⟩:=(lC.1 M)
  exact⟨v,by simpa[o0,V3,ads,lf,H]using al,aB⟩
 |call c=>
  obtain⟨callee,args,df⟩:=c
  cases callee with
  |builtin b=>
   obtain⟨bk,H,M⟩:=FU a (show uj b9 au I args.toList _ from ay)
   obtain⟨v,al,aB⟩:=(lC.1 M)
   refine⟨v, ?_,aB⟩
   have D:o0 (.call ⟨.builtin b,args,df⟩) C h (jM b9 au t)=ts C h b df.toList bk:=by
    simp only[o0,V2,V1,H,ts]
    repeat' split
    all_goals first|rfl|simp_all
   rw[D];exact al
  |_=>exact ay.elim
 |_=>exact ay.elim
def P7(a:hj I t){op:ku}{ai:E->Prop}(ay:IN op C h au I ai):∃v,hd op C h au t=some v/\ai v:=by
 cases op with
 |FH x=>exact o6 a ay
 |pick c F b=>
  obtain⟨ac4,H,M⟩:=o6 a (show kg c au I _ from ay)
  obtain⟨Q7,rfl,al,aB⟩:=acF M.out
  cases Q7 with
  |true=>
   obtain⟨v,bw,b1⟩:=o6 a (al rfl)
   exact⟨v,by simp[hd,H,Ri,bw],b1⟩
  |false=>
   obtain⟨v,bw,b1⟩:=o6 a (aB rfl)
   exact⟨v,by simp[hd,H,Ri,bw],b1⟩
 |e6 F=>
  obtain⟨fB,H,M⟩:=o6 a (show kg F au I _ from ay)
  obtain⟨v,al,aB⟩:=(lC.1 M)
  exact⟨v,by simp[hd,H,al],aB⟩
 |CZ n F=>
  obtain⟨fB,H,M⟩:=o6 a (show kg F au I _ from ay)
  obtain⟨v,al,aB⟩:=(lC.1 M)
  exact⟨v,by simp[hd,H,al],aB⟩
 |off d x=>
  obtain⟨fB,H,M⟩:=o6 a (show kg x au I _ from ay)
  obtain⟨v,al,aB⟩:=(lC.1 M)
  exact⟨v,by simp[hd,H,al],aB⟩
 |CQ n bd x i=>
  obtain⟨fB,H,M⟩:=o6 a (show kg x au I _ from ay)
  obtain⟨cJ,al,aB⟩:=o6 a M
  obtain⟨v,bw,b1⟩:=(lC.1 aB)
  exact⟨v,by simp only[hd,H,al];unfold ya at bw;cases aG:n4 cJ<;>simp_all,b1⟩
 |CR bd x i=>
  obtain⟨fB,H,M⟩:=o6 a (show kg x au I _ from ay)
  obtain⟨cJ,al,aB⟩:=o6 a M
  obtain⟨v,bw,b1⟩:=(lC.1 aB)
  exact⟨v,by simp only[hd,H,al];unfold gd at bw;cases aG:n4 cJ<;>simp_all,b1⟩
 |FL x=>
  obtain⟨fB,H,M⟩:=o6 a (show kg x au I _ from ay)
  obtain⟨v,al,aB⟩:=(lC.1 M)
  exact⟨v,by simp[hd,H,al],aB⟩
 |LY op x e=>
  obtain⟨fB,H,M⟩:=o6 a (show kg x au I _ from ay)
  obtain⟨cJ,al,aB⟩:=o6 a M
  obtain⟨v,bw,b1⟩:=(lC.1 aB)
  exact⟨v,by simp[hd,H,al,bw],b1⟩
 |ext i x=>
  obtain⟨fB,H,M⟩:=o6 a (show kg x au I _ from ay)
  obtain⟨v,al,aB⟩:=(lC.1 M)
  exact⟨v,by simp[hd,H,al],aB⟩
 |iD b9 T=>exact aza a ay
 |_=>exact ay.elim
def azy(a:hj I t){op:ku}{b:Nat}{ai:bK}(ay:ahS op C h b au I ai):∃v cT,o7 op C b au t=some (v,cT)/\ai v (bm C h b (some cT)) (b+1):=by
 cases op with
 |make b9 T=>
  cases T with
  |alloc ty=>
   obtain⟨⟨v,cT⟩,H,M⟩:=lC.1 (show ar (FD C ty (lf undef) b) _ from ay)
   exact⟨v,cT,H,M.out⟩
  |box ty x=>
   obtain⟨F,H,M⟩:=hT a (show eT b9 au I x _ from ay)
   exact⟨_,_,by simp only[o7,ri,Mm,H],M.out⟩
  |buildSlice ty len kG=>
   obtain⟨dm,H,M⟩:=WM a (show Dn b9 au I kG.toList _ from ay)
   obtain⟨⟨v,cT⟩,al,aB⟩:=(lC.1 M)
   refine⟨v,cT, ?_,aB.out⟩
   simp only[o7,ri,Mn,H]
   unfold QX at al
   split at al
   ·rename_i bc
    simp only[bc]
    exact al
   ·cases al
  |makeMap ty r=>
   cases r with
   |none=>exact⟨_,_,rfl,(show gT C h b _ _ ai from ay).out⟩
   |some r=>exact ay.elim
  |_=>exact ay.elim
 |_=>exact ay.elim
def azw(a:hj I t){op:ku}{b:Nat}{ai:E->S ag->Prop}(ay:Wr op C h b au I ai):∃v cT,o7 op C b au t=some (v,cT)/\ai v (bm C h b (some cT)):=by
 cases op with
 |make b9 T=>
  cases T with
  |alloc ty=>
   obtain⟨⟨v,cT⟩,H,M⟩:=lC.1 (show ar (FD C ty (lf undef) b) _ from ay)
   exact⟨v,cT,H,M.out⟩
  |box ty x=>
   obtain⟨F,H,M⟩:=hT a (show eT b9 au I x _ from ay)
   exact⟨_,_,by simp only[o7,ri,Mm,H],M.out⟩
  |buildSlice ty len kG=>
   obtain⟨dm,H,M⟩:=WM a (show Dn b9 au I kG.toList _ from ay)
   obtain⟨⟨v,cT⟩,al,aB⟩:=(lC.1 M)
   refine⟨v,cT, ?_,aB.out⟩
   simp only[o7,ri,Mn,H]
   unfold QX at al
   split at al
   ·rename_i bc
    simp only[bc]
    exact al
   ·cases al
  |makeMap ty r=>
   cases r with
   |none=>exact⟨_,_,rfl,(show mK C h b _ _ ai from ay).out⟩
   |some r=>exact ay.elim
  |_=>exact ay.elim
 |_=>exact ay.elim
def acM{rd:Bool}{f:Nat}{cB:List E}{ai ax:bK}(a:a2 C f cB h j ai ax):∃r,tp C f cB=some r/\D1 C rd (some r) h j ai ax:=by
 rcases a.out with ⟨ac,H,M⟩|⟨H,⟨fn,c,M,al⟩,aB⟩
 ·exact⟨.known f cB ac,by simp[tp,H],M⟩
 ·exact⟨.enter f cB,by simp[tp,H,M,al],aB⟩
def Bk{rd:Bool}{T:Option ed}{ai ax:bK}(a:h6 T h j ai):∃r,T=some r/\D1 C rd (some r) h j ai ax:=by
 rw[aCa]at a
 split at a
 ·exact⟨_,rfl,a⟩
 ·exact⟨_,rfl,a⟩
 ·exact a.elim
def asA{rd:Bool}{T:Option ed}{ai ax:bK}(a:HB T h j ai):∃r,T=some r/\D1 C rd (some r) h j ai ax:=by
 rw[asB]at a
 split at a
 ·exact⟨_,rfl,a⟩
 ·exact⟨_,rfl,a⟩
 ·exact⟨_,rfl,a⟩
 ·exact a.elim
def afh(a:hj I t){rd:Bool}{op:ku}{ai ax:bK}(ay:Uv rd op C h j au I ai ax):∃r,io op C h j au t=some r/\D1 C rd (some r) h j ai ax:=by
 cases op with
 |st n F v=>
  obtain⟨fB,H,M⟩:=o6 a (show kg F au I _ from ay)
  obtain⟨f9,al,aB⟩:=o6 a M
  obtain⟨R,bw,b1⟩:=(lC.1 aB)
  refine⟨.fH undef R j, ?_,b1⟩
  simp only[io,H,al]
  unfold fT at bw
  split at bw
  ·simp only[fb]at bw
   simp[Q0,bw.2,fw,bw.1]
  ·cases bw
 |call f args=>
  obtain⟨cB,H,M⟩:=ar4 a (show Oc au I args _ from ay)
  obtain⟨r,al,aB⟩:=acM (rd:=rd) M
  exact⟨r,by simp[io,H,al],aB⟩
 |fC b9 T=>
  cases T with
  |mapUpdate ty m u x=>
   obtain⟨F,H,M⟩:=hT a (show eT b9 au I m _ from ay)
   obtain⟨b,al,aB⟩:=hT a M
   obtain⟨c,bw,b1⟩:=hT a aB
   obtain⟨r,c6,el⟩:=Bk (C:=C) (ax:=ax) (rd:=rd) b1
   exact⟨r,by simp[io,oq,HV,H,al,bw,c6],el⟩
  |insert ty m u x=>
   obtain⟨F,H,M⟩:=hT a (show eT b9 au I m _ from ay)
   obtain⟨b,al,aB⟩:=hT a M
   obtain⟨c,bw,b1⟩:=hT a aB
   obtain⟨r,c6,el⟩:=Bk (C:=C) (ax:=ax) (rd:=rd) b1
   exact⟨r,by simp[io,oq,HV,H,al,bw,c6],el⟩
  |mapEntry ty m u=>
   obtain⟨F,H,M⟩:=hT a (show eT b9 au I m _ from ay)
   obtain⟨b,al,aB⟩:=hT a M
   obtain⟨r,c6,el⟩:=Bk (C:=C) (ax:=ax) (rd:=rd) aB
   exact⟨r,by simpa[io,oq,K4,two,Go.bg.ld,Go.bg.hc,H,al]using c6,el⟩
  |entryStore ty m s x=>
   obtain⟨F,H,M⟩:=hT a (show eT b9 au I m _ from ay)
   obtain⟨b,al,aB⟩:=hT a M
   obtain⟨c,bw,b1⟩:=hT a aB
   obtain⟨r,c6,el⟩:=Bk (C:=C) (ax:=ax) (rd:=rd) b1
   exact⟨r,by simpa[io,oq,KW,ajK,Go.bg.ld,Go.bg.hc,Go.bg.nB,H,al,bw]using c6,el⟩
  |makeSlice ty k c=>
   obtain⟨F,H,M⟩:=hT a (show eT b9 au I k _ from ay)
   obtain⟨b,al,aB⟩:=hT a M
   obtain⟨r,c6,el⟩:=Bk (C:=C) (ax:=ax) (rd:=rd) aB
   exact⟨r,by simpa[io,oq,K3,two,Go.bg.ld,Go.bg.hc,H,al]using c6,el⟩
  |makeMap ty j9=>
   cases j9 with
   |none=>exact ay.elim
   |some x=>
    obtain⟨F,H,M⟩:=hT a (show eT b9 au I x _ from ay)
    obtain⟨r,c6,el⟩:=Bk (C:=C) (ax:=ax) (rd:=rd) M
    exact⟨r,by simpa[io,oq,K2,lf,H]using c6,el⟩
  |convert s d x=>
   obtain⟨F,H,M⟩:=hT a (show eT b9 au I x _ from ay)
   obtain⟨r,c6,el⟩:=Bk (C:=C) (ax:=ax) (rd:=rd) M
   exact⟨r,by simpa[io,oq,K7,lf,H]using c6,el⟩
  |range ty x=>
   obtain⟨F,H,M⟩:=hT a (show eT b9 au I x _ from ay)
   obtain⟨r,c6,el⟩:=Bk (C:=C) (ax:=ax) (rd:=rd) M
   exact⟨r,by simpa[io,oq,K5,lf,H]using c6,el⟩
  |next eN A2=>
   obtain⟨F,H,M⟩:=hT a (show eT b9 au I eN _ from ay)
   obtain⟨r,c6,el⟩:=asA (C:=C) (ax:=ax) (rd:=rd) M
   exact⟨r,by simpa[io,oq,xK,lf,H]using c6,el⟩
  |panic x=>
   cases rd with
   |true=>exact(show False from ay).elim
   |false=>
    obtain⟨F,H,M⟩:=hT a (show eT b9 au I x _ from ay)
    rw[aBh]at M
    split at M
    ·rename_i pw aEK
     exact⟨.panic (.iface pw aEK),by simp[io,oq,T8,H],M⟩
    ·exact M.elim
  |call c=>
   obtain⟨callee,args,df⟩:=c
   cases callee with
   |value f=>
    obtain⟨nj,H,M⟩:=hT a (show eT b9 au I f _ from ay)
    obtain⟨cB,al,aB⟩:=FU a M
    have aB:=aB.out
    split at aB
    ·split at aB
     ·obtain⟨r,bw,b1⟩:=acM (rd:=rd) aB
      exact⟨r,by simp[io,oq,Ew,H,al,BS];simpa using bw,b1⟩
     ·exact⟨.round _ _,by simp only[io,oq,Ew,H,al,BS],aB⟩
     ·exact aB.elim
    ·exact aB.elim
   |builtin b=>
    obtain⟨bk,H,M⟩:=FU a (show uj b9 au I args.toList _ from ay)
    obtain⟨r,c6,el⟩:=Bk (C:=C) (ax:=ax) (rd:=rd) M
    refine⟨r, ?_,el⟩
    have D:∀r,H1 C h j b df.toList bk=some r->io (.fC b9 (.call ⟨.builtin b,args,df⟩)) C h j au t=some r:=by
     intro r Y
     simp only[io,oq,Ew,KQ,H]
     unfold H1 at Y
     split at Y
     all_goals first|exact Y|cases Y
    exact D r c6
   |invoke x name=>
    obtain⟨il,H,M⟩:=hT a (show eT b9 au I x _ from ay)
    obtain⟨cB,al,aB⟩:=FU a M
    rw[azF]at aB
    split at aB
    ·cases bn:G9 C h _ _ name cB with
     |none=>rw[bn]at aB;exact aB.elim
     |some r=>rw[bn]at aB;exact⟨r,by simp[io,oq,Ew,H,al,bn],aB⟩
    ·exact aB.elim
  |_=>exact ay.elim
 |_=>exact ay.elim
def atB{mg:Bool}{v:E}{F b:Prop}(a:iW mg v F b):∃w,(match v with| .bool b=>some (b==mg)|_=>some false)=some w/\(w=true->F)/\(w=false->b):=by
 have a:=a.out
 cases v with
 |bool t=>
  obtain⟨H,M⟩:=a
  refine⟨t==mg,rfl,λD=>H (by simpa using D),λD=>M ?_⟩
  cases t<;>cases mg<;>simp_all
 |_=>exact⟨false,rfl,Zs,λ_=>a⟩
def Rd{g:Option (Nat×Bool)}{F b:Prop}(a:Rc g au F b):∃w,py g au=some w/\(w=true->F)/\(w=false->b):=by
 cases g with
 |none=>exact⟨true,rfl,λ_=>a,Zs⟩
 |some p=>
  obtain⟨V,mg⟩:=p
  obtain⟨v,H,M⟩:=uk.1 (show cH (ev au V) _ from a)
  obtain⟨w,al,aB⟩:=atB M
  exact⟨w,by simp only[py,H];exact al,aB⟩
def ajn(a:hj I t)(d:Nat)(v:E):hj (aa I d v) (t.set d (some v)):=by
 intro n ac bc
 have bc:=(show b0 (Nat.beq d n) (some v) (I.g n)=some ac from bc)
 rw[ia]at bc
 rw[S.jP]
 split at bc
 ·rename_i D;rw[Zp D];exact bc
 ·rename_i D;rw[Zg D];exact a n ac bc
def adP:∀{k:List (Nat×Nat)}{I:c1}{t:S E}{ai:c1->Prop},hj I t->KF k au I ai->∃da eB,Ah au k t=some eB/\hj da eB/\(da.bj=I.bj/\da.rc=I.rc)/\ai da:=by
 intro k
 induction k with
 |nil=>intro I t ai a ay;exact⟨I,t,rfl,a,⟨rfl,rfl⟩,ay⟩
 |cons p k ah=>
  intro I t ai a ay
  obtain⟨i,d⟩:=p
  obtain⟨v,H,M⟩:=uk.1 (show cH (ev au i) (λv=>KF k au (aa I d v) ai) from ay)
  obtain⟨da,eB,al,aB,bw⟩:=ah (ajn a d v) M
  exact⟨da,eB,by simp[Ah,H,al],aB,bw⟩
def aDi{op:ku}{b9:List (Nat×Nat)}{f:Operand}{args:List Operand}(a:Ga op= .defer b9 f args):∃c:Array Operand×Array TypeId,args=c.1.toList/\op= .fC b9 (.defer ⟨.value f,c.1,c.2⟩):=by
 unfold Ga at a
 split at a
 ·split at a
  ·split at a
   ·injection a with H M al
    subst H M al
    exact⟨(_,_),rfl,rfl⟩
   ·cases a
  ·split at a
   ·split at a<;>cases a
   ·cases a
  ·cases a
 ·cases a
def aDj{op:ku}(a:Ga op= .recover):∃b9 df args,op= .fC b9 (.call ⟨.builtin .recover,args,df⟩)/\args.toList=[]:=by
 unfold Ga at a
 split at a
 ·split at a
  ·split at a<;>cases a
  ·split at a
   ·split at a
    ·rename_i aE
     exact⟨_,_,_,rfl,aE⟩
    ·cases a
   ·cases a
  ·cases a
 ·cases a
def aCe(a:hj I t):∀{k:List ResultVar}{ai:List E->Prop},r0 C h I k ai->∃bk,yp C h t k=some bk/\ai bk:=by
 intro k
 induction k with
 |nil=>intro ai ay;exact⟨[],rfl,ay⟩
 |cons x k ah=>
  intro ai ay
  cases x with
  |tmp n=>
   obtain⟨v,H,M⟩:=uk.1 (show cH (I n) (λv=>r0 C h I k λr=>ai (v::r)) from ay)
   obtain⟨r,al,aB⟩:=ah M
   exact⟨v::r,by simp[yp,a n v H,al],aB⟩
  |cell F ty=>
   obtain⟨p,H,M⟩:=uk.1 (show cH (I F) (λp=>ar (mm C h ty p) λv=>r0 C h I k λr=>ai (v::r)) from ay)
   obtain⟨v,al,aB⟩:=(lC.1 M)
   obtain⟨r,bw,b1⟩:=ah aB
   exact⟨v::r,by simp[yp,a F p H,al,bw],b1⟩
def azc(a:hj I t){base:Nat}:∀{k:List fI}{au:List (Nat×E)}{h:S ag}{ai:List (Nat×E)->S ag->Prop},P9 C base I k au h ai->∃hY R,xu C base t k au h=some (hY,R)/\ai hY R:=by
 intro k
 induction k with
 |nil=>intro au h ai ay;exact⟨au,h,rfl,ay⟩
 |cons x k ah=>
  intro au h ai ay
  obtain⟨w,H,M,al⟩:=Rd ((aEV ..).mp (show s7 x.g au (λV=>match nx x.op with
   | .make=>Wr x.op C h (base+x.i) au I V
   |_=>IN x.op C h au I λv=>V v h) (λv h=>P9 C base I k ((x.i,v)::au) h ai) h from ay))
  simp only[xu,H]
  cases w with
  |false=>exact ah (al rfl)
  |true=>
   have aB:=M rfl
   cases aH:nx x.op with
   |make=>
    simp only[aH]at aB
    obtain⟨v,cT,bw,b1⟩:=azw a aB
    simp only[bw,hf]
    exact ah b1
   |iD=>
    simp only[aH]at aB
    obtain⟨v,bw,b1⟩:=P7 a aB
    simp only[bw]
    exact ah b1
   |fC=>
    simp only[aH]at aB
    obtain⟨v,bw,b1⟩:=P7 a aB
    simp only[bw]
    exact ah b1
def aB1(a:hj I t):∀{k:List fI}{ai:Prop},WW C I au h k ai->Eg C t au h k=true/\ai:=by
 intro k
 induction k with
 |nil=>intro ai ay;exact⟨rfl,ay⟩
 |cons x k ah=>
  intro ai ay
  obtain⟨w,H,M,al⟩:=Rd ((aEW ..).mp (show XN x.g au (λak=>IN x.op C h au I λv=>gO v (ev au x.i) ak) (WW C I au h k ai) from ay))
  simp only[Eg,H]
  cases w with
  |false=>exact ah (al rfl)
  |true=>
   obtain⟨v,bw,b1⟩:=P7 a (M rfl)
   obtain⟨ac,c6,el,gY⟩:=uk.1 b1.out
   obtain⟨iL,kP⟩:=ah gY
   exact⟨by simp[bw,c6,el,iL],kP⟩
end
section
variable{C:aN}{dY:dd}{ea:Nat->Prop}{bq:World}{bJ:Nat}{bX:List Frame}{v:E}
variable{fn n aq:Nat}{bW:vH}{aD:Bool}{ro:Option Nat}{cs dg:List g6}
def lr(cP:Env C bq dY ea){bW:lJ}{todo:List d0}{cd:iV}{I:S E}{h:S ag}{j:Nat}(a:Xq (gb C bq bJ bX v) C bW todo cd I h j=some v):oV C bq bJ bX bW todo cd I h j v:=
 λU ae w dj tmps bB am c8=>ajx cP ach _ _ _ _ _ _ _ _ _ _ _ _ v a U ae w dj tmps bB am c8
def fQ(bW:vH)(fn n aq:Nat)(aD:Bool)(ro:Option Nat)(cs dg:List g6)(I:c1):iV:=⟨fn,n,aq,b0 bW.bj I.bj [],aD,ro,b0 I.rc dg cs⟩
structure BJ(bW:vH)(aD:Bool)(ro:Option Nat)(cs dg:List g6):Prop where
 rd:bW.rd=false->ro=none
 bj:bW.bj=true->ro=none
 none:bW.kq=some none->dg=cs/\Dy aD cs=some (.nilIface,cs)
 some:∀ac,bW.kq=some (some ac)->Dy aD cs=some (ac,dg)/\Dy aD dg=some (.nilIface,dg)
def aCv{ah:hX}{C:aN}{k:Nat}{args:List E}{eN:d0}{u:List d0}{cd:iV}{I:S E}{h:S ag}{j:Nat}:o1 (.round k args) ah C eN u cd I h j=QN ah C k args (Ge eN u cd I) h j:=rfl
def adj{I:c1}{t:S E}(a:hj I t)(k:List Nat):hj (ib k I) (xw k t):=by
 intro n v bD
 rw[N0]
 by_cases aF:n∈k
 ·simp[ib,fw,ahY,aF]at bD
 ·simp[ib,fw,ahY,aF]at bD
  rw[Zg aF];exact a n v bD
def Sj{F b:Nat}(a:F<=b):Nat.ble F b=true:=by simpa using a
def acf(aC:E.same 30 v v=true)(bn:BJ bW aD ro cs dg){eN:d0}{u:List d0}{oY:c1}{I:S E}{h:S ag}{j:Nat}{ai ax:bK}(cP:Env C bq dY ea)
 (jz:∀ac h j,ai ac h j->∃h4,pR eN ac=some h4/\oV C bq bJ bX .run (h4::u) (fQ bW fn n aq aD ro cs dg oY) I h j v)
 (cK:∀ac h j todo,ax ac h j->oV C bq bJ bX (.panicking [⟨ac,false⟩]) todo (fQ bW fn n aq aD ro cs dg oY) (vV (eN::u) I) h j v){r:ed}(a:D1 C bW.rd (some r) h j ai ax):
 o1 r (gb C bq bJ bX v) C eN u (fQ bW fn n aq aD ro cs dg oY) I h j=some v:=by
 have fill:∀ac h j,ai ac h j->(match pR eN ac with|some h4=>gb C bq bJ bX v .run (h4::u) (fQ bW fn n aq aD ro cs dg oY) I h j|none=>none)=some v:=by
  intro ac h j aH
  obtain⟨h4,H,M⟩:=jz ac h j aH
  rw[H]
  exact iJ M
 cases r with
 |val ac=>exact fill ac h j a
 |fH ac R an=>exact fill ac R an a
 |enter f args=>
  refine a bq dY ea cP bJ bX v aC (Ge eN u (fQ bW fn n aq aD ro cs dg oY) I) (λac R an ak=> ?_) (λac R an ak=> ?_)
  ·exact fill ac R an ak
  ·exact iJ (cK ac R an _ ak)
 |round k args=>
  rw[aCv]
  refine a bq dY ea cP bJ bX v aC (Ge eN u (fQ bW fn n aq aD ro cs dg oY) I) (λac R an ak=> ?_) (λac R an ak=> ?_)
  ·exact fill ac R an ak
  ·exact iJ (cK ac R an _ ak)
 |known f args ac=>exact fill ac h j a
 |panic ac=>
  have a:=(show b0 bW.rd False (ax ac h j) from a)
  cases Y:bW.rd with
  |true=>rw[Y]at a;exact a.elim
  |false=>
   rw[Y]at a
   have kl:=bn.rd Y
   subst kl
   exact iJ (cK ac h j _ a)
 |fork k=>exact asz aC k a.1 λac R bn=>jz ac R j (a.2 ac R bn)
 |_=>exact a.elim
def are{av:Array Oper}{au:List (Nat×E)}{i:Nat}{rest:List fI}{fin:List (Nat×Nat)}{u:List d0}{I:S E}:vV (.uB av au i rest fin::u) I=xw (dstsOf av.toList) I:=rfl
def ard{av:Array Oper}{au:List (Nat×E)}{b i:Nat}{rest:List xk}{fin:List (Nat×Nat)}{u:List d0}{I:S E}:vV (.Bv av b au i rest fin::u) I=xw (dstsOf av.toList) I:=rfl
def aCQ(cP:Env C bq dY ea)(aC:E.same 30 v v=true)(bn:BJ bW aD ro cs dg){av:Array Oper}{fin:List (Nat×Nat)}{u:List d0}{t:S E}{ai:fJ}{ax:tm}
 (jz:∀I t h j,hj I t->ai I h j->oV C bq bJ bX .run u (fQ bW fn n aq aD ro cs dg I) t h j v)
 (cK:∀I t ac h j todo,hj I t->ax I ac h j->oV C bq bJ bX (.panicking [⟨ac,false⟩]) todo (fQ bW fn n aq aD ro cs dg I) t h j v):
 ∀(rest:List fI) (au:List (Nat×E)) (I:c1) (h:S ag) (j:Nat),hj I t->Dt C bW fin ai (λI=>ax (ib (dstsOf av.toList) I)) rest au I h j->Bn rest ⟨gb C bq bJ bX v,av,fin,u,fQ bW fn n aq aD ro cs dg I⟩ C t au h j=some v:=by
 intro rest
 induction rest with
 |nil=>
  intro au I h j ba a
  obtain⟨da,eB,H,M,al,aB⟩:=adP ba (show KF fin au I (λI=>ai I h j) from a)
  show Ky ⟨gb C bq bJ bX v,av,fin,u,fQ bW fn n aq aD ro cs dg I⟩ C t au h j=some v
  simp only[Ky,Oe,H,pp]
  have D:fQ bW fn n aq aD ro cs dg I=fQ bW fn n aq aD ro cs dg da:=by unfold fQ;rw[al.1,al.2]
  rw[D]
  exact iJ (jz _ _ _ _ M aB)
 |cons x rest ah=>
  intro au I h j ba a
  obtain⟨i,g,op⟩:=x
  show FT i g op rest (Bn rest) ⟨gb C bq bJ bX v,av,fin,u,fQ bW fn n aq aD ro cs dg I⟩ C t au h j=some v
  have a:=(show(match Ga op with
   | .no=>Re g au (λai=>WJ bW.rd op C h j au I ai (ax (ib (dstsOf av.toList) I))) (λv h j=>Dt C bW fin ai (λI=>ax (ib (dstsOf av.toList) I)) rest ((i,v)::au) I h j) h j
   | .defer b9 f args=>b0 (g.isNone&&bW.bj) (eT b9 au I f λnj=>uj b9 au I args λcB=>Km nj cB I λI=>Dt C bW fin ai (λI=>ax (ib (dstsOf av.toList) I)) rest ((i,undef)::au) I h j) False
   | .recover=>b0 (g.isNone&& !bW.rd) (Jk bW.kq I λv I=>Dt C bW fin ai (λI=>ax (ib (dstsOf av.toList) I)) rest ((i,v)::au) I h j) False) from a)
  cases CI:Ga op with
  |no=>
   rw[CI]at a
   obtain⟨w,H,M,al⟩:=Rd ((akh ..).mp a)
   simp only[FT,Rb,H,pp]
   cases w with
   |false=>simp only[Zw,ZB];exact ah _ _ _ _ ba (al rfl)
   |true=>
    simp only[ZG]
    have aB:=M rfl
    rw[Qw]
    unfold WJ at aB
    cases aH:nx op with
    |iD=>
     simp only[aH]at aB ⊢
     obtain⟨ac,bw,b1⟩:=P7 ba aB
     rw[bw]
     exact ah _ _ _ _ ba b1
    |make=>
     simp only[aH]at aB ⊢
     obtain⟨ac,cT,bw,b1⟩:=azy ba aB
     simp only[Qa,mW,bw,hf,pp]
     exact ah _ _ _ _ ba b1
    |fC=>
     simp only[aH]at aB ⊢
     obtain⟨r,bw,b1⟩:=afh ba aB
     rw[bw]
     have rq:o1 r (gb C bq bJ bX v) C (.uB av au i rest fin) u (fQ bW fn n aq aD ro cs dg I) t h j=some v:=by
      refine acf aC bn cP (λac h j ak=>⟨_,rfl, ?_⟩) (λac h j todo ak=> ?_) b1
      ·exact lr cP (ah _ _ _ _ ba ak)
      ·rw[are];exact cK (ib (dstsOf av.toList) I) _ _ _ _ _ (adj ba _) ak
     cases r with
     |val ac=>exact ah _ _ _ _ ba b1
     |fH ac R an=>exact ah _ _ _ _ ba b1
     |_=>exact rq
  |defer b9 f args=>
   rw[CI]at a
   obtain⟨c,rfl,rfl⟩:=aDi CI
   have a:=(show b0 (g.isNone&&bW.bj) _ False from a)
   cases g with
   |some g=>exact a.elim
   |none=>
    cases m0:bW.bj with
    |false=>rw[m0]at a;exact a.elim
    |true=>
     rw[m0]at a
     obtain⟨nj,H,M⟩:=hT ba (show eT b9 au I f _ from a)
     obtain⟨cB,al,aB⟩:=FU ba M
     have kl:=bn.bj m0
     subst kl
     cases nj with
     |func g first f1=>
      simp only[FT,Rb,py,pp,ZG]
      rw[Qw]
      have aH:nx (.fC b9 (.defer ⟨.value f,c.1,c.2⟩))= .fC:=rfl
      have af:io (.fC b9 (.defer ⟨.value f,c.1,c.2⟩)) C h j au t=some (.defer ⟨.fn g f1,first++cB⟩):=by
       simp only[io,oq,TO,H,al]
      simp only[aH,af]
      have gE:fQ bW fn n aq aD none cs dg I=⟨fn,n,aq,I.bj,aD,none,b0 I.rc dg cs⟩:=by unfold fQ;rw[m0];rfl
      show o1 (.defer ⟨.fn g f1,first++cB⟩) (gb C bq bJ bX v) C (.uB av au i rest fin) u (fQ bW fn n aq aD none cs dg I) t h j=some v
      rw[gE]
      show gb C bq bJ bX v .run (.Jp av ((i,undef)::au) rest fin::u) ⟨fn,n,aq,⟨.fn g f1,first++cB⟩::I.bj,aD,none,b0 I.rc dg cs⟩ t h j=some v
      have dz:(⟨fn,n,aq,⟨.fn g f1,first++cB⟩::I.bj,aD,none,b0 I.rc dg cs⟩:iV)=fQ bW fn n aq aD none cs dg (Bi I ⟨.fn g f1,first++cB⟩):=by unfold fQ;rw[m0];rfl
      rw[dz]
      exact iJ (lr cP (ah _ (Bi I ⟨.fn g f1,first++cB⟩) _ _ ba aB))
     |_=>exact aB.elim
  |recover=>
   rw[CI]at a
   obtain⟨b9,df,args,rfl,u1⟩:=aDj CI
   have a:=(show b0 (g.isNone&& !bW.rd) _ False from a)
   cases g with
   |some g=>exact a.elim
   |none=>
    cases cG:bW.rd with
    |true=>rw[cG]at a;exact a.elim
    |false=>
     rw[cG]at a
     have kl:=bn.rd cG
     subst kl
     have a:Jk bW.kq I (λv I=>Dt C bW fin ai (λI=>ax (ib (dstsOf av.toList) I)) rest ((i,v)::au) I h j):=a
     simp only[FT,Rb,py,pp,ZG]
     rw[Qw]
     have aH:nx (.fC b9 (.call ⟨.builtin .recover,args,df⟩))= .fC:=rfl
     have af:io (.fC b9 (.call ⟨.builtin .recover,args,df⟩)) C h j au t=some .recover:=by
      simp only[io,oq,Ew,KQ,u1,qJ]
     simp only[aH,af]
     show o1 .recover (gb C bq bJ bX v) C (.uB av au i rest fin) u (fQ bW fn n aq aD none cs dg I) t h j=some v
     have key:∀ac da,hj da t->Dy aD (b0 I.rc dg cs)=some (ac,b0 da.rc dg cs)->da.bj=I.bj->Dt C bW fin ai (λI=>ax (ib (dstsOf av.toList) I)) rest ((i,ac)::au) da h j->o1 .recover (gb C bq bJ bX v) C (.uB av au i rest fin) u (fQ bW fn n aq aD none cs dg I) t h j=some v:=by
      intro ac da Vw H M al
      show(match Dy aD (b0 I.rc dg cs)with
       |some (f9,aqS)=>(match pR (.uB av au i rest fin) f9 with|some h4=>gb C bq bJ bX v .run (h4::u) ⟨fn,n,aq,b0 bW.bj I.bj [],aD,none,aqS⟩ t h j|none=>none)
       |none=>none)=some v
      rw[H]
      show gb C bq bJ bX v .run (.Jp av ((i,ac)::au) rest fin::u) ⟨fn,n,aq,b0 bW.bj I.bj [],aD,none,b0 da.rc dg cs⟩ t h j=some v
      have gE:(⟨fn,n,aq,b0 bW.bj I.bj [],aD,none,b0 da.rc dg cs⟩:iV)=fQ bW fn n aq aD none cs dg da:=by unfold fQ;rw[M]
      rw[gE]
      exact iJ (lr cP (ah _ _ _ _ Vw al))
     unfold Jk at a
     cases ay:bW.kq with
     |none=>rw[ay]at a;exact a.elim
     |some p=>
      rw[ay]at a
      cases p with
      |none=>
       obtain⟨H,M⟩:=bn.none ay
       subst H
       refine key _ I ba ?_ rfl a
       cases I.rc<;>exact M
      |some ac=>
       obtain⟨H,M⟩:=bn.some ac ay
       cases AT:I.rc with
       |true=>
        simp only[AT]at a
        refine key _ I ba ?_ rfl a
        simp only[AT];exact M
       |false=>
        simp only[AT]at a
        refine key ac (QU I) ba ?_ rfl a
        simp only[AT];exact H
def arc(cP:Env C bq dY ea)(aC:E.same 30 v v=true)(bn:BJ bW aD ro cs dg){av:Array Oper}{base:Nat}{fin:List (Nat×Nat)}{u:List d0}{I:c1}{t:S E}(ba:hj I t){ai:fJ}{ax:tm}
 (jz:∀I t h j,hj I t->ai I h j->oV C bq bJ bX .run u (fQ bW fn n aq aD ro cs dg I) t h j v)
 (cK:∀I t ac h j todo,hj I t->ax I ac h j->oV C bq bJ bX (.panicking [⟨ac,false⟩]) todo (fQ bW fn n aq aD ro cs dg I) t h j v):
 ∀(l0:List xk) (au:List (Nat×E)) (h:S ag) (j:Nat),SV C bW.rd base fin I ai (ax (ib (dstsOf av.toList) I)) l0 au h j->Ad (gb C bq bJ bX v) C av base au l0 fin u (fQ bW fn n aq aD ro cs dg I) t h j=some v:=by
 intro l0
 induction l0 with
 |nil=>intro au h j a;exact a.elim
 |cons s rest ah=>
  intro au h j a
  obtain⟨hY,R,H,M⟩:=azc ba (show P9 C base I s.vj au h _ from a)
  obtain⟨al,aB⟩:=aB1 ba M
  simp only[Ad,H,al,fo]
  cases gL:s.fC with
  |none=>
   simp only[gL]at aB
   obtain⟨da,eB,bw,b1,c6,el⟩:=adP ba aB
   simp only[Oe,bw,pp]
   have D:fQ bW fn n aq aD ro cs dg I=fQ bW fn n aq aD ro cs dg da:=by unfold fQ;rw[c6.1,c6.2]
   rw[D]
   exact iJ (jz _ _ _ _ b1 el)
  |some af=>
   simp only[gL]at aB
   obtain⟨w,bw,b1,c6⟩:=Rd ((akh ..).mp aB)
   simp only[bw]
   cases w with
   |false=>simp only[lo];exact iJ (lr cP (ah _ _ _ (c6 rfl)))
   |true=>
    obtain⟨r,el,gY⟩:=afh ba (b1 rfl)
    simp only[fo,el]
    refine acf aC bn cP (λac h j ak=>⟨_,rfl, ?_⟩) (λac h j todo ak=> ?_) gY
    ·exact lr cP (ah _ _ _ ak)
    ·rw[ard];exact cK (ib (dstsOf av.toList) I) _ _ _ _ _ (adj ba _) ak
def akQ(C:aN)(bq:World)(bJ:Nat)(bX:List Frame)(v:E)(ch:c1->iV)(u:List d0)(id:Nat):fJ:=λI h j=>∀t,hj I t->Cb id (gb C bq bJ bX v) C u (ch I) t h j=some v
def Od{id:Nat}{ah:hX}{C:aN}{eN:d0}{u:List d0}{bW:vH}{cs dg:List g6}{oY:c1}{I:S E}{h:S ag}{j:Nat}(a:exitTo id (eN::u)=exitTo id u):
 Cb id ah C (eN::u) (fQ bW fn n aq aD ro cs dg oY) I h j=Cb id ah C u (fQ bW fn n aq aD ro cs dg oY) I h j:=by
 unfold Cb
 rw[a]
 cases exitTo id u with
 |some fh=>rfl
 |none=>
  unfold pk fQ
  cases ro with
  |none=>rfl
  |some k=>rfl
def RC(C:aN)(fn n aq:Nat)(c:Code):Prop:=
 ∀{bq:World}{dY:dd}{ea:Nat->Prop}(_:Env C bq dY ea) {bJ:Nat}{bX:List Frame}{v:E}(_:E.same 30 v v=true) (bW:vH) (aD:Bool) (ro:Option Nat) (cs dg:List g6) (ax:tm) (u:List d0) (ai:fJ) (D:Nat->fJ) (r:fJ) (I:c1) (t:S E) (h:S ag) (j:Nat),BJ bW aD ro cs dg->
  (∀I t ac h j todo,hj I t->ax I ac h j->oV C bq bJ bX (.panicking [⟨ac,false⟩]) todo (fQ bW fn n aq aD ro cs dg I) t h j v)->
  (∀I t h j,hj I t->ai I h j->oV C bq bJ bX .run u (fQ bW fn n aq aD ro cs dg I) t h j v)->
  (∀id I h j,D id I h j->akQ C bq bJ bX v (fQ bW fn n aq aD ro cs dg) u id I h j)->
  (∀I t h j todo,hj I t->r I h j->pk (some .ret) (gb C bq bJ bX v) C todo (fQ bW fn n aq aD ro cs dg I) t h j=some v)->
  hj I t->xs C n aq c bW ax ai D r I h j->vT c (gb C bq bJ bX v) C u (fQ bW fn n aq aD ro cs dg I) t h j=some v
def aCW{n:Nat}:∀(dm:List Nat) (cB:List E) (I:c1) (t:S E) (ai:c1->Prop),hj I t->Jq n dm cB I ai->∃da eB,ys n dm cB t=some eB/\hj da eB/\ai da:=by
 intro dm
 induction dm with
 |nil=>
  intro cB I t ai ba a
  cases cB with
  |nil=>exact⟨I,t,rfl,ba,a⟩
  |cons F cB=>exact a.elim
 |cons p dm ah=>
  intro cB I t ai ba a
  cases cB with
  |nil=>exact a.elim
  |cons F cB=>
   have a:=(show b0 (Nat.blt p n) (Jq n dm cB (aa I p F) ai) False from a)
   cases aj:Nat.blt p n with
   |false=>rw[aj]at a;exact a.elim
   |true=>
    rw[aj]at a
    obtain⟨da,eB,H,M,al⟩:=ah cB _ _ ai (ajn ba p F) a
    exact⟨da,eB,by simp only[ys,aj,fo,H],M,al⟩
def DN(fn n aq:Nat)(ro:Option Nat)(cs:List g6)(I:c1):fQ C8 fn n aq false ro cs cs I=⟨fn,n,aq,[],false,ro,cs⟩:=by
 unfold fQ C8
 cases I.rc<;>rfl
def Wb{ah:hX}{C:aN}{k fn n aq:Nat}{t0:S E}{params:List Nat}{assign body:Code}{NU:Nat}{jo:Option Code}{st:LoopState}{b:Bool}{ai:bK}{todo:List d0}{cs:List g6}{t:S E}{h:S ag}{j:Nat}{v:E}
 (aJ:jv C k=true)(ay:aiF jo=true)(c8:st=b0 jo.isNone .ready .done)(aj:b=jo.isNone)(a:N8 C k (λst p=> .loop st p fn n aq t0 params assign body NU) st jo b ai h j)
 (aH:∀ac h j,ai ac h j->uI ah false cs ac h j=some v):pk jo ah C todo ⟨fn,n,aq,[],false,some k,cs⟩ t h j=some v:=by
 obtain⟨⟨ajt,Bf,H⟩,M⟩:=a
 subst c8 aj
 have:=aH _ _ _ M
 simp only[pk,H,aJ,ay,Ys,Yx,fo,hf]
 exact this
def aCw{C:aN}{fn n aq:Nat}{assign body:Code}(mX:RC C fn n aq assign)(ez:RC C fn n aq body){bq:World}{dY:dd}{ea:Nat->Prop}(cP:Env C bq dY ea){bJ:Nat}{bX:List Frame}{v:E}(aC:E.same 30 v v=true){k:Nat}{t:S E}{params:List Nat}{NU:Nat}{cs:List g6}
 {I:c1}{h:S ag}{j:Nat}{args:List E}{ai ax:bK}(az:W C h k=some (.loop .ready none fn n aq t params assign body NU))(aJ:jv C k=true)(ba:hj I t)
 (eP:∀ac R an,ai ac R an->Rz C bq bJ bX v cs ac R an)(d9:∀ac R an,ax ac R an->Nt C bq bJ bX v cs ac R an)
 (a:Jq n params args I λsj=>us C (xs C n aq assign) (xs C n aq body) k (λst p=> .loop st p fn n aq t params assign body NU) ai ax sj h j):
 QN (gb C bq bJ bX v) C k args cs h j=some v:=by
 obtain⟨sj,t1,bC,E8,H⟩:=aCW _ _ _ _ _ ba a
 unfold QN
 rw[az]
 simp only[bC]
 have bn:BJ C8 false (some k) cs cs:=⟨λa=>(by cases a),λa=>(by cases a),λa=>(by cases a),λac a=>(by cases a)⟩
 have cK:∀(I:c1) (t:S E) (ac:E) (h:S ag) (j:Nat) (todo:List d0),hj I t->ax ac h j->oV C bq bJ bX (.panicking [⟨ac,false⟩]) todo (fQ C8 fn n aq false (some k) cs cs I) t h j v:=by
  intro I t ac h j todo ba ak
  rw[DN]
  refine lr cP ?_
  have:=d9 ac h j ak
  show MR [⟨ac,false⟩] todo (gb C bq bJ bX v) C ⟨fn,n,aq,[],false,some k,cs⟩ t h j=some v
  cases cs with
  |nil=>exact this.elim
  |cons c rest=>exact this
 refine iJ (lr cP ?_)
 rw[<-DN fn n aq (some k) cs sj]
 refine mX cP aC C8 false (some k) cs cs (λ_=>ax) [.beginRound, .code body] _ _ _ sj t1 h j bn cK (λI t h j ba ak=> ?_) (λid I h j ak=>ak.elim) (λI t h j todo ba ak=>ak.elim) E8 H
 obtain⟨cE,cA⟩:=ak
 refine lr cP ?_
 rw[DN]
 show J9 (gb C bq bJ bX v) C [.code body] ⟨fn,n,aq,[],false,some k,cs⟩ t h j=some v
 unfold J9
 simp only[cE,aJ,fo,hf]
 refine iJ (lr cP ?_)
 rw[<-DN fn n aq (some k) cs I]
 refine ez cP aC C8 false (some k) cs cs (λ_=>ax) [] _ _ _ I t _ j bn cK (λI t h j ba ak=> ?_) (λid I h j ak t ba=> ?_) (λI t h j todo ba ak=> ?_) ba cA
 ·refine lr cP ?_
  rw[DN]
  show pk none (gb C bq bJ bX v) C [] ⟨fn,n,aq,[],false,some k,cs⟩ t h j=some v
  exact Wb aJ rfl rfl rfl ak eP
 ·rw[DN]
  show pk (some (.exit id)) (gb C bq bJ bX v) C (.code (.exit id)::[]) ⟨fn,n,aq,[],false,some k,cs⟩ t h j=some v
  exact Wb aJ rfl rfl rfl ak eP
 ·rw[DN]
  exact Wb aJ rfl rfl rfl ak eP
def SE:∀c:Code,RC C fn n aq c:=by
 intro c
 induction c with
 |skip=>intro bq dY ea cP bJ bX v aC bW aD ro cs dg ax u ai D r I t h j bn cK jz bA Y ba a;exact iJ (jz _ _ _ _ ba a)
 |region id av d=>
  intro bq dY ea cP bJ bX v aC bW aD ro cs dg ax u ai D r I t h j bn cK jz bA Y ba a
  cases d with
  |false=>
   obtain⟨ak,H,M⟩:=uk.1 (show cH (Mr C n av aq) (λr=>Dt C bW r.fin ai (λI=>ax (ib (dstsOf av.toList) I)) r.rest [] I h j) from a)
   show jU (Mr C n av aq) (λr=>RB.rec (motive:=λ_=>ee) (λrest fin=>Bn rest ⟨gb C bq bJ bX v,av,fin,u,fQ bW fn n aq aD ro cs dg I⟩ C t [] h j) r)=some v
   rw[H]
   exact aCQ cP aC bn jz cK _ _ _ _ _ ba M
  |true=>
   obtain⟨ak,H,M⟩:=uk.1 (show cH (Mq C n av aq) (λr=>e7 (j+av.size) λan=>SV C bW.rd j r.fin I ai (ax (ib (dstsOf av.toList) I)) r.l0 [] h an) from a)
   show jU (Mq C n av aq) (λr=>RA.rec (motive:=λ_=>ee) (λl0 fin=>rr j λj=>Ad (gb C bq bJ bX v) C av j [] l0 fin u (fQ bW fn n aq aD ro cs dg I) t h (j+av.size)) r)=some v
   rw[H]
   show rr j (λj=>Ad (gb C bq bJ bX v) C av j [] ak.l0 ak.fin u (fQ bW fn n aq aD ro cs dg I) t h (j+av.size))=some v
   rw[mW]
   exact arc cP aC bn ba jz cK _ _ _ _ M.out
 |seq F b mF h3=>
  intro bq dY ea cP bJ bX v aC bW aD ro cs dg ax u ai D r I t h j bn cK jz bA Y ba a
  refine mF cP aC bW aD ro cs dg ax (.code b::u) (xs C n aq b bW ax ai D r) D r I t h j bn cK (λI t h j ba a=> ?_) (λid I h j a t ba=> ?_) Y ba a
  ·exact lr cP (h3 cP aC bW aD ro cs dg ax u ai D r I t h j bn cK jz bA Y ba a)
  ·rw[Od (by simp[exitTo])]
   exact bA id I h j a t ba
 |cond c F b mF h3=>
  intro bq dY ea cP bJ bX v aC bW aD ro cs dg ax u ai D r I t h j bn cK jz bA Y ba a
  obtain⟨ac,H,M⟩:=hT (au:=[]) (b9:=[]) ba (show eT [] [] I c _ from a)
  obtain⟨Q7,rfl,al,aB⟩:=acF M.out
  have bw:xA t c=some (.bool Q7):=by
   cases c<;>first|(simp[jM,xA]at H;done)|simpa[jM,xA]using H
  show Kj c t (vT F (gb C bq bJ bX v) C u (fQ bW fn n aq aD ro cs dg I) t h j) (vT b (gb C bq bJ bX v) C u (fQ bW fn n aq aD ro cs dg I) t h j)=some v
  simp only[Kj,pp,bw]
  cases Q7 with
  |true=>exact mF cP aC bW aD ro cs dg ax u ai D r I t h j bn cK jz bA Y ba (al rfl)
  |false=>exact h3 cP aC bW aD ro cs dg ax u ai D r I t h j bn cK jz bA Y ba (aB rfl)
 |block id b h3=>
  intro bq dY ea cP bJ bX v aC bW aD ro cs dg ax u ai D r I t h j bn cK jz bA Y ba a
  refine h3 cP aC bW aD ro cs dg ax (.inBlock id::u) ai (El id ai D) r I t h j bn cK (λI t h j ba a=>lr cP (iJ (jz I t h j ba a))) (λve I h j a t ba=> ?_) Y ba a.out
  unfold El at a
  rw[ia]at a
  by_cases Ia:id=ve
  ·rw[Zp Ia]at a
   have bC:exitTo ve (.inBlock id::u)=some u:=by simp[exitTo,Ia,ia]
   unfold Cb
   rw[bC]
   exact iJ (jz I t h j ba a)
  ·rw[Zg Ia]at a
   rw[Od (by simp[exitTo,ia,Ia])]
   exact bA ve I h j a t ba
 |loop b h3=>
  intro bq dY ea cP bJ bX v aC bW aD ro cs dg ax u ai D r I t h j bn cK jz bA Y ba a
  obtain⟨tj,⟨m,UX⟩,pU⟩:=(show fy (λR6=>xs C n aq b bW ax R6 D r) I h j from a).out
  have iE:∀m I t h j,tj m I h j->hj I t->vT b (gb C bq bJ bX v) C (.inLoop b::u) (fQ bW fn n aq aD ro cs dg I) t h j=some v:=by
   intro m
   induction m using Nat.strongRecOn with
   |ind m qX=>
    intro I t h j UX ba
    refine h3 cP aC bW aD ro cs dg ax (.inLoop b::u) _ D r I t h j bn cK (λI t h j ba a=> ?_) (λid I h j a t ba=> ?_) Y ba (pU m I h j UX)
    ·obtain⟨gg,c3,tW⟩:=a
     exact lr cP (qX gg c3 I t h j tW ba)
    ·rw[Od (by simp[exitTo])]
     exact bA id I h j a t ba
  exact iE m I t h j UX ba
 |rangeFunc f params assign body mF h3=>
  intro bq dY ea cP bJ bX v aC bW aD ro cs dg ax u ai D r I t h j bn cK jz bA Y ba a
  have a:=(show b0 bW.bj (S6 f I λnj=>F0 C n nj params.toList (us C (xs C n aq assign) (xs C n aq body)) ai D r ax I h j) False from a)
  cases m0:bW.bj with
  |false=>rw[m0]at a;exact a.elim
  |true=>
   rw[m0]at a
   have kl:=bn.bj m0
   subst kl
   obtain⟨nj,H,M⟩:=hT (au:=[]) (b9:=[]) ba (show eT [] [] I f _ from a)
   have bw:xA t f=some nj:=by
    cases f<;>first|(simpa[jM,xA]using H)|(simp[jM]at H;subst H;rfl)
   have xW:=M.low
   have Im:=M.out
   have gE:∀I:c1,fQ bW fn n aq aD none cs dg I=⟨fn,n,aq,I.bj,aD,none,b0 I.rc dg cs⟩:=λI=>by unfold fQ;rw[m0];rfl
   have O0:jv C (j+1)=true:=Sj Zo
   show MG f params assign body (gb C bq bJ bX v) C u (fQ bW fn n aq aD none cs dg I) t h j=some v
   rw[gE]
   unfold MG
   rw[bw]
   cases nj with
   |func g first f1=>
    cases g with
    |func g=>
     simp only[mW]
     have Im:=Im (λst p=> .loop st p fn n aq t params.toList assign body j) ?_
     ·refine Im bq dY ea cP bJ bX v aC _ (λac R an ak=> ?_) (λac R an ak=> ?_)
      ·obtain⟨st,p,cE,cA,dT⟩:=ak
       show(match pR (.inRangeFunc (j+1)) ac with
        |some h4=>gb C bq bJ bX v .run (h4::u) ⟨fn,n,aq,⟨.collected j,[]⟩::I.bj,aD,none,b0 I.rc dg cs⟩ t R an
        |none=>none)=some v
       refine iJ (lr cP ?_)
       show Hv (j+1) (gb C bq bJ bX v) C u ⟨fn,n,aq,⟨.collected j,[]⟩::I.bj,aD,none,b0 I.rc dg cs⟩ t R an=some v
       have bC:Hv (j+1) (gb C bq bJ bX v) C u ⟨fn,n,aq,⟨.collected j,[]⟩::I.bj,aD,none,b0 I.rc dg cs⟩ t R an=gb C bq bJ bX v .run ((p.map d0.code).toList++u) ⟨fn,n,aq,⟨.collected j,[]⟩::I.bj,aD,none,b0 I.rc dg cs⟩ t (bm C R (j+1) (some (.loop .exhausted p fn n aq t params.toList assign body j))) an:=by
        unfold Hv
        rw[cA]
        cases st with
        |busy=>exact absurd rfl cE
        |_=>simp only[O0,fo,hf]
       rw[bC]
       have dz:=gE (wL I j)
       have ei:(⟨fn,n,aq,⟨.collected j,[]⟩::I.bj,aD,none,b0 I.rc dg cs⟩:iV)=fQ bW fn n aq aD none cs dg (wL I j):=dz.symm
       rw[ei]
       have CK:hj (wL I j) t:=ba
       cases p with
       |none=>exact iJ (jz _ _ _ _ CK dT)
       |some c=>
        refine iJ (lr cP ?_)
        unfold aiG at dT
        cases c with
        |exit id=>exact bA id _ _ _ dT t CK
        |ret=>exact Y _ _ _ _ _ CK dT
        |_=>exact dT.elim
      ·refine iJ ?_
       have ei:(⟨fn,n,aq,⟨.collected j,[]⟩::I.bj,aD,none,b0 I.rc dg cs⟩:iV)=fQ bW fn n aq aD none cs dg (wL I j):=(gE (wL I j)).symm
       have:=cK (wL I j) t ac R an (.inRangeFunc (j+1)::u) ba ak
       rw[<-ei]at this
       exact this
     ·
      intro args aQ FP mQ eF az bm jX yJ nd S3 eO su Gn lu SI eP d9
      exact aCw mF h3 S3 lu az O0 ba eP d9 bm
    |_=>exact Im.elim
   |_=>exact Im.elim
 |exit id=>
  intro bq dY ea cP bJ bX v aC bW aD ro cs dg ax u ai D r I t h j bn cK jz bA Y ba a
  exact bA id I h j a t ba
 |scope b h3=>
  intro bq dY ea cP bJ bX v aC bW aD ro cs dg ax u ai D r I t h j bn cK jz bA Y ba a
  refine h3 cP aC bW aD ro cs dg ax (.inScope b::u) ai D r I t h j bn cK (λI t h j ba a=>lr cP (iJ (jz I t h j ba a))) (λid I h j a t ba=> ?_) Y ba a
  rw[Od (by simp[exitTo])]
  exact bA id I h j a t ba
 |label k=>intro bq dY ea cP bJ bX v aC bW aD ro cs dg ax u ai D r I t h j bn cK jz bA Y ba a;exact iJ (jz _ _ _ _ ba a)
 |goto k=>intro bq dY ea cP bJ bX v aC bW aD ro cs dg ax u ai D r I t h j bn cK jz bA Y ba a;exact a.elim
 |ret=>
  intro bq dY ea cP bJ bX v aC bW aD ro cs dg ax u ai D r I t h j bn cK jz bA Y ba a
  exact Y _ _ _ _ _ ba a
 |refuse s=>intro bq dY ea cP bJ bX v aC bW aD ro cs dg ax u ai D r I t h j bn cK jz bA Y ba a;exact a.elim
end
def Sa(args:List E):hj (cR args) (S.ofList args 0 .nil):=by
 intro n v a
 rw[m5]
 simpa[cR]using a
section
variable{C:aN}{dY:dd}{ea:Nat->Prop}{bq:World}{bJ:Nat}{bX:List Frame}{v:E}{fn:Nat}{uS:Func}{n aq:Nat}{aD:Bool}{cs:List g6}
def QL(cP:Env C bq dY ea)(aC:E.same 30 v v=true)(b4:C.P.funcs[fn]? =some uS){a7:bK}(eP:∀ac h j,a7 ac h j->uI (gb C bq bJ bX v) aD cs ac h j=some v){I:c1}{t:S E}(ba:hj I t):
 ∀(ds:List h8) (h:S ag) (j:Nat) (todo:List d0),n9 C uS.results.toList a7 I ds h j->oV C bq bJ bX .returning todo ⟨fn,n,aq,ds,aD,none,cs⟩ t h j v:=by
 intro ds
 induction ds with
 |nil=>
  intro h j todo a
  obtain⟨bk,H,M⟩:=aCe ba (show r0 C h I uS.results.toList (λbk=>a7 (one bk) h j) from a)
  refine lr cP ?_
  show MS todo (gb C bq bJ bX v) C ⟨fn,n,aq,[],aD,none,cs⟩ t h j=some v
  simp only[MS,b4,H]
  exact eP _ _ _ M
 |cons d ds ah=>
  intro h j todo a
  obtain⟨MZ,cB⟩:=d
  refine lr cP ?_
  show yv ⟨MZ,cB⟩ ds .returning todo (gb C bq bJ bX v) C ⟨fn,n,aq,[],aD,none,cs⟩ t h j=some v
  cases MZ with
  |collected r=>
   have a:=(show Qo C r h (n9 C uS.results.toList a7 I ds (bm C h r (some (.deferred none))) j) from a)
   simp only[yv,a.here,show jv C r=true from Sj a.low,fo,hf,YF]
   exact iJ (ah _ _ _ a.go)
  |fn g cap=>
   have a:=(show uQ C g (cB++cap) none h j (λ_ h j=>n9 C uS.results.toList a7 I ds h j) from a).out
   split at a
   ·rename_i f
    obtain⟨H,⟨xC,c,M,al⟩,aB⟩:=a
    simp only[yv,BS,tp,H,M,al]
    exact aB bq dY ea cP bJ bX v aC fn n aq t todo ds aD none cs λb R an ak=>iJ (ah _ _ _ ak)
   ·exact a.elim
def aiC(cP:Env C bq dY ea)(aC:E.same 30 v v=true)(b4:C.P.funcs[fn]? =some uS){a7 dG:bK}(eP:∀ac h j,a7 ac h j->uI (gb C bq bJ bX v) aD cs ac h j=some v)(d9:∀ac h j,dG ac h j->Nt C bq bJ bX v cs ac h j){I:c1}{t:S E}(ba:hj I t)(ac:E):
 ∀(ds:List h8) (h:S ag) (j:Nat) (todo:List d0),wO C uS.results.toList a7 dG I ac ds h j->oV C bq bJ bX (.panicking [⟨ac,false⟩]) todo ⟨fn,n,aq,ds,aD,none,cs⟩ t h j v:=by
 intro ds
 induction ds with
 |nil=>
  intro h j todo a
  refine lr cP ?_
  have:=d9 ac h j a
  show MR [⟨ac,false⟩] todo (gb C bq bJ bX v) C ⟨fn,n,aq,[],aD,none,cs⟩ t h j=some v
  cases cs with
  |nil=>exact this.elim
  |cons c rest=>exact this
 |cons d ds ah=>
  intro h j todo a
  obtain⟨MZ,cB⟩:=d
  refine lr cP ?_
  show yv ⟨MZ,cB⟩ ds (.panicking [⟨ac,false⟩]) todo (gb C bq bJ bX v) C ⟨fn,n,aq,[],aD,none,cs⟩ t h j=some v
  cases MZ with
  |collected r=>
   have a:=(show Qo C r h (wO C uS.results.toList a7 dG I ac ds (bm C h r (some (.deferred none))) j) from a)
   simp only[yv,a.here,show jv C r=true from Sj a.low,fo,hf,YF]
   exact iJ (ah _ _ _ a.go)
  |fn g cap=>
   have a:=(show uQ C g (cB++cap) (some ac) h j (λb h j=>b0 b (n9 C uS.results.toList a7 I ds h j) (wO C uS.results.toList a7 dG I ac ds h j)) from a).out
   split at a
   ·rename_i f
    obtain⟨H,⟨xC,c,M,al⟩,aB⟩:=a
    simp only[yv,BS,tp,H,M,al]
    refine aB bq dY ea cP bJ bX v aC fn n aq t todo ds aD none cs λb R an ak=> ?_
    cases b with
    |true=>exact iJ (QL cP aC b4 eP ba ds R an todo ak)
    |false=>exact iJ (ah _ _ _ ak)
   ·exact a.elim
end
def Tk{C:aN}{f ef:Nat}(aA:cV C f ef=true):∃fn c,C.P.funcs[f]? =some fn/\fn.body=some c/\(Nat.ble ef fn.ntmps&&mr C (Nat.lor (kY c) (oL fn.results.toList)) c&&Bj (Nat.lor (kY c) (oL fn.results.toList)) fn.results.toList)=true:=by
 unfold cV at aA
 split at aA
 ·rename_i fn b4
  split at aA
  ·rename_i c aj;exact⟨fn,c,b4,aj,aA⟩
  ·cases aA
 ·cases aA
def IM{ah:hX}{C:aN}{fn n aq:Nat}{bj:List h8}{aD:Bool}{cs:List g6}{todo:List d0}{I:S E}{h:S ag}{j:Nat}{V:Option Code}(bF:VS V=true):pk V ah C todo ⟨fn,n,aq,bj,aD,none,cs⟩ I h j=ah .returning todo ⟨fn,n,aq,bj,aD,none,cs⟩ I h j:=by
 simp only[pk,bF,fo]
def JO(fn n aq:Nat)(aD:Bool)(ro:Option Nat)(cs:List g6)(I:c1):fQ IU fn n aq aD ro cs cs I=⟨fn,n,aq,[],aD,ro,cs⟩:=by
 unfold fQ IU
 cases I.rc<;>rfl
def JP(fn n aq:Nat)(aD:Bool)(ro:Option Nat)(cs:List g6)(I:c1):fQ A7 fn n aq aD ro cs cs I=⟨fn,n,aq,I.bj,aD,ro,cs⟩:=by
 unfold fQ A7
 cases I.rc<;>rfl
def ass{C:aN}{f:Nat}{args:List E}{h:S ag}{j:Nat}{a7 dG:bK}(aA:cV C f args.length=true)(a:c7 C f args h j a7 dG):vE C f args h j a7 dG:=by
 intro bq dY ea cP bJ bX v aC cs eP d9
 obtain⟨fn,c,b4,aj,iY⟩:=Tk aA
 unfold c7 at a
 simp only[b4,aj]at a
 unfold o5
 simp only[b4,aj,mW,iY,fo]
 have bn:BJ IU false none cs cs:=⟨λ_=>rfl,λa=>(by cases a),λa=>(by cases a),λac a=>(by cases a)⟩
 have t2:∀I t h j todo,hj I t->r0 C h I fn.results.toList (λbk=>a7 (one bk) h j)->
  oV C bq bJ bX .returning todo (fQ IU f fn.ntmps (Nat.lor (kY c) (oL fn.results.toList)) false none cs cs I) t h j v:=by
  intro I t h j todo ba a
  rw[JO]
  exact QL cP aC b4 (λac h j ak=>eP ac h j ak) ba [] h j todo a
 refine iJ (lr cP ?_)
 rw[<-JO f fn.ntmps (Nat.lor (kY c) (oL fn.results.toList)) false none cs (cR args)]
 refine SE c cP aC IU false none cs cs _ [] _ _ _ _ _ h j bn (λI t ac h j todo ba a=> ?_) (λI t h j ba a=> ?_) (λid I h j a=>a.elim) (λI t h j todo ba a=> ?_) (Sa args) a
 ·rw[JO]
  exact aiC (uS:=fn) (a7:=a7) cP aC b4 (λac h j ak=>eP ac h j ak) (λac h j ak=>d9 ac h j ak) ba ac [] h j todo a
 ·refine lr cP ?_
  have:=t2 I t h j [] ba a
  rw[JO]at this ⊢
  show pk none (gb C bq bJ bX v) C [] ⟨f,fn.ntmps,Nat.lor (kY c) (oL fn.results.toList),[],false,none,cs⟩ t h j=some v
  rw[IM rfl]
  exact iJ this
 ·have:=t2 I t h j todo ba a
  rw[JO]at this ⊢
  rw[IM rfl]
  exact iJ this
def ast{C:aN}{f:Nat}{args:List E}{h:S ag}{j:Nat}{a7 dG:bK}(aA:cV C f args.length=true)(a:Cd C f args h j a7 dG):vE C f args h j a7 dG:=by
 intro bq dY ea cP bJ bX v aC cs eP d9
 obtain⟨fn,c,b4,aj,iY⟩:=Tk aA
 unfold Cd at a
 simp only[b4,aj]at a
 unfold o5
 simp only[b4,aj,mW,iY,fo]
 have bn:BJ A7 false none cs cs:=⟨λ_=>rfl,λ_=>rfl,λa=>(by cases a),λac a=>(by cases a)⟩
 have t2:∀I t h j todo,hj I t->n9 C fn.results.toList a7 I I.bj h j->
  oV C bq bJ bX .returning todo (fQ A7 f fn.ntmps (Nat.lor (kY c) (oL fn.results.toList)) false none cs cs I) t h j v:=by
  intro I t h j todo ba a
  rw[JP]
  exact QL cP aC b4 (λac h j ak=>eP ac h j ak) ba I.bj h j todo a
 refine iJ (lr cP ?_)
 rw[show(⟨f,fn.ntmps,Nat.lor (kY c) (oL fn.results.toList),[],false,none,cs⟩:iV)=fQ A7 f fn.ntmps (Nat.lor (kY c) (oL fn.results.toList)) false none cs cs (cR args) from(JP f fn.ntmps (Nat.lor (kY c) (oL fn.results.toList)) false none cs (cR args)).symm]
 refine SE c cP aC A7 false none cs cs _ [] _ _ _ _ _ h j bn (λI t ac h j todo ba a=> ?_) (λI t h j ba a=> ?_) (λid I h j a=>a.elim) (λI t h j todo ba a=> ?_) (Sa args) a
 ·rw[JP]
  exact aiC (uS:=fn) (a7:=a7) cP aC b4 (λac h j ak=>eP ac h j ak) (λac h j ak=>d9 ac h j ak) ba ac I.bj h j todo a
 ·refine lr cP ?_
  have:=t2 I t h j [] ba a
  rw[JP]at this ⊢
  show pk none (gb C bq bJ bX v) C [] ⟨f,fn.ntmps,Nat.lor (kY c) (oL fn.results.toList),I.bj,false,none,cs⟩ t h j=some v
  rw[IM rfl]
  exact iJ this
 ·have:=t2 I t h j todo ba a
  rw[JP]at this ⊢
  rw[IM rfl]
  exact iJ this
def adZ{C:aN}{f:Nat}{args:List E}{kq:Option E}{h:S ag}{j:Nat}{a7:Bool->S ag->Nat->Prop}(aA:cV C f args.length=true)(a:Aj C f args kq h j a7)
 {bq:World}{dY:dd}{ea:Nat->Prop}(cP:Env C bq dY ea){bJ:Nat}{bX:List Frame}{v:E}(aC:E.same 30 v v=true){cs dg:List g6}(bn:BJ ⟨false,false,some kq⟩ true none cs dg)
 (auA:∀b ac h j,a7 b h j->uI (gb C bq bJ bX v) true (b0 b dg cs) ac h j=some v):o5 (gb C bq bJ bX v) C f args true cs h j=some v:=by
 obtain⟨fn,c,b4,aj,iY⟩:=Tk aA
 unfold Aj at a
 simp only[b4,aj]at a
 unfold o5
 simp only[b4,aj,mW,iY,fo]
 have t2:∀I t h j todo,hj I t->r0 C h I fn.results.toList (λ_=>a7 I.rc h j)->
  oV C bq bJ bX .returning todo (fQ ⟨false,false,some kq⟩ f fn.ntmps (Nat.lor (kY c) (oL fn.results.toList)) true none cs dg I) t h j v:=by
  intro I t h j todo ba a
  exact QL (a7:=λ_ h j=>a7 I.rc h j) cP aC b4 (λac h j ak=>auA I.rc ac h j ak) ba [] h j todo a
 refine iJ (lr cP ?_)
 refine SE c cP aC ⟨false,false,some kq⟩ true none cs dg _ [] _ _ _ (cR args) _ h j bn (λI t ac h j todo ba a=>a.elim) (λI t h j ba a=> ?_) (λid I h j a=>a.elim) (λI t h j todo ba a=> ?_) (Sa args) a
 ·refine lr cP ?_
  show pk none (gb C bq bJ bX v) C [] ⟨f,fn.ntmps,Nat.lor (kY c) (oL fn.results.toList),[],true,none,b0 I.rc dg cs⟩ t h j=some v
  rw[IM rfl]
  exact iJ (t2 I t h j [] ba a)
 ·show pk (some .ret) (gb C bq bJ bX v) C todo ⟨f,fn.ntmps,Nat.lor (kY c) (oL fn.results.toList),[],true,none,b0 I.rc dg cs⟩ t h j=some v
  rw[IM rfl]
  exact iJ (t2 I t h j todo ba a)
def Ok{C:aN}{f:Nat}{args:List E}{kq:Option E}{h:S ag}{j:Nat}{a7:Bool->S ag->Nat->Prop}(aA:cV C f args.length=true)(a:Aj C f args kq h j a7):XZ C f args kq h j a7:=by
 intro bq dY ea cP bJ bX v aC Tj aV IT sj XB arj Kl W5 su eP
 cases kq with
 |none=>
  refine adZ aA a cP aC (dg:=_) ⟨λ_=>rfl,λa=>(by cases a),λa=>⟨rfl,rfl⟩,λac a=>(by cases a)⟩ (λb ac h j ak=> ?_)
  have:=eP b h j ak
  cases b<;>exact this
 |some p=>
  refine adZ aA a cP aC (dg:=(⟨Tj,aV,IT,sj,XB,arj, .panicking [⟨p,true⟩],Kl,W5⟩:g6)::su) ⟨λ_=>rfl,λa=>(by cases a),λa=>(by cases a),λac a=> ?_⟩ (λb ac h j ak=> ?_)
  ·simp only[Zf]at a
   subst a
   exact⟨rfl,rfl⟩
  ·have:=eP b h j ak
   cases b<;>exact this
def aql{C:aN}{bq:World}{dY:dd}{ea:Nat->Prop}(cP:Env C bq dY ea){f:Nat}{args:List E}{v:E}(aC:E.same 30 v v=true)(hm:ey ea args)
 (a:vE C f args .nil C.a8 (λac _ _=>ac=v) (λ_ _ _=>False)):Calls C.P f (b3 dY args).toArray bq λD b5=>(∃U,D= .returned (aT U v))/\Below bq.heap.size bq b5:=by
 intro su
 have bY:Ends C bq f su v (lone (Frame.enter C.P f (b3 dY args).toArray .normal) su bq):=
  N9 ach cP.base (Below.refl _ _) cP.ir (Zj _) .nil (λ_=>rfl) hm
   (a bq dY ea cP f su v aC [] (λac R an D=>by subst D;rfl) (λac R an D=>D.elim))
 obtain⟨U,b5,fr,bC,cu,fL,j5⟩:=bY
 exact⟨.returned (aT U v),b5,fr,⟨⟨U,rfl⟩,j5⟩,bC,fL,cu⟩
end
noncomputable section
section
variable{C:aN}{h:S ag}{j:Nat}
def bh{b:Nat}{T:Option ag}(a:C.a8<=b):W C (bm C h b T) b=T:=by rw[gc _ a,Zp rfl]
def aI{b x:Nat}{T:Option ag}(a:C.a8<=b)(af:x≠b):W C (bm C h b T) x=W C h x:=by rw[gc _ a,Zg af]
def zQ{p:Prop}(h:p:=by simp(disch:=omega) only[aI,bh]<;>rfl):p:=h
def cw(b T:Nat):aU C h (.ptr b T)=match W C h b with|some (.cells c _ _)=>c.get T|_=>none:=by
 simp only[aU,cellsOf]
 cases W C h b with
 |none=>rfl
 |some cT=>cases cT<;>rfl
def wI(n b T:Nat):dE C h n (.ptr b T)=match W C h b with|some (.cells c _ _)=>(c.lq T n).map E.agg|_=>none:=by
 simp only[dE,cellsOf]
 cases W C h b with
 |none=>rfl
 |some cT=>
  cases cT with
  |cells c m st=>simp only[];cases c.lq T n<;>rfl
  |_=>rfl
def aeg(c:S E)(T:Nat):c.lq T 0=some []:=rfl
def kb:∀(k:List E) (c:S E) (T i:Nat),(d7 c T k).get i=if T<=i/\i<T+k.length then k[i-T]? else c.get i:=by
 intro k
 induction k with
 |nil=>intro c T i;simp[d7];intro H M;omega
 |cons F k ah=>
  intro c T i
  simp only[d7,hf]
  rw[ah,S.jP]
  by_cases H:i=T
  ·subst H
   simp
   intro a;omega
  ·by_cases M:T+1<=i/\i<T+1+k.length
   ·rw[Zp M,Zp Zx]
    rw[show i-T=(i-(T+1))+1 by omega]
    simp
   ·rw[Zg M,Zg (λD=>H D.symm),Zg Zx]
def CY{b T n:Nat}{c:S E}{st:oo}(a:C.a8<=b):aU C (bm C h b (some (.cells c n st))) (.ptr b T)=c.get T:=by
 rw[cw,bh a]
def Fv{b x T:Nat}{cT:Option ag}(a:C.a8<=b)(af:x≠b):aU C (bm C h b cT) (.ptr x T)=aU C h (.ptr x T):=by
 rw[cw,cw,aI a af]
def uf(C:aN)(h:S ag)(b:Nat):Nat->Nat->Option (List E)
 |_,0=>some []
 |T,n+1=>(aU C h (.ptr b T)).bind λF=>(uf C h b (T+1) n).bind λk=>some (F::k)
def Fw{b T n:Nat}:dE C h (n+1) (.ptr b T)=(uf C h b T (n+1)).bind λk=>some (.agg k):=by
 have a:∀(c:S E) (m:Nat) (st:oo),W C h b=some (.cells c m st)->∀n T,uf C h b T n=c.lq T n:=by
  intro c m st aj n
  induction n with
  |zero=>intro T;rfl
  |succ n ah=>
   intro T
   simp only[uf,S.lq,cw,aj,ah]
   cases c.get T with
   |none=>rfl
   |some F=>cases c.lq (T+1) n<;>rfl
 rw[wI]
 cases aj:W C h b with
 |none=>simp[uf,cw,aj]
 |some cT=>
  cases cT with
  |cells c m st=>
   simp only[a c m st aj]
   cases c.lq T (n+1)<;>rfl
  |_=>simp[uf,cw,aj]
structure br(C:aN)(h:S ag)(j:Nat)(R:S ag)(an:Nat):Prop where
 le:j<=an
 ab:∀b,b<j->W C R b=W C h b
def br.refl(h:S ag)(j:Nat):br C h j h j:=⟨Zj _,λ_ _=>rfl⟩
def br.trans{aQ aP a6:S ag}{aV aX bz:Nat}(a:br C aQ aV aP aX)(u:br C aP aX a6 bz):br C aQ aV a6 bz:=
 ⟨ZD a.le u.le,λb aj=>(u.ab b (ZP aj a.le)).trans (a.ab b aj)⟩
def br.e6{R:S ag}{an:Nat}(a:br C h j R an)(b T:Nat)(aj:b<j):aU C R (.ptr b T)=aU C h (.ptr b T):=by
 rw[cw,cw,a.ab b aj]
def br.fresh(a:C.a8<=j)(cT:Option ag):br C h j (bm C h j cT) (j+1):=
 ⟨Yd _,λb aj=>aI a Zo⟩
def br.more{R:S ag}{an n:Nat}(u:br C h j R an)(a:an<=n):br C h j R n:=⟨ZD u.le a,u.ab⟩
def br.kZ{R:S ag}{an dj:Nat}(u:br C h j R an)(a:dj<=j):br C h dj R an:=⟨ZD a u.le,λb aj=>u.ab b (ZP aj a)⟩
def ux{b T n:Nat}{c:S E}{v:E}(a:W C h b=some (.cells c n .own))(aj:C.a8<=b)(bi:T+1<=n)(bD:v.cells=[v])(H:po v=true):
 fT C h 1 (.ptr b T) v=some (bm C h b (some (.cells (c.set T (some v)) n .own))):=by
 have bC:Nat.ble (T+1) n=true:=by simpa using bi
 have cu:Nat.ble C.a8 b=true:=by simpa using aj
 simp[fT,bD,sm,a,jv,iF,H,bC,cu,d7,fw,Nat.blt]
def En:List E->List (Nat×Nat×E)->Option (List E)
 |cells,[]=>some cells
 |cells,(off,size,v)::rest=>b0 (Nat.beq v.cells.length size&&Nat.ble (off+size) cells.length) (En (nE cells off v.cells) rest) none
def fv(s8:List E)(dm:List (Nat×Nat×E)):Option E:=match En s8 dm with|some cs=>some (.agg cs)|none=>none
def iK(s8:List E)(b:Nat):Option (E×ag):=some (.ptr b 0, .cells (S.ofList s8 0 .nil) s8.length .own)
def hI(len:Nat)(s8:List E)(dm:List (Nat×Nat×E))(b:Nat):Option (E×ag):=match En s8 dm with
 |some cs=>some (.slice b 0 len len, .cells (S.ofList cs 0 .nil) cs.length .own)
 |none=>none
def qK(agg:Bool)(off size:Nat)(v:E):Option E:=match v with| .agg cs=>b0 agg (some (.agg ((cs.drop off).take size))) (sY cs off)|_=>none
def gr(v:E):Option E:=match v with| .slice _ _ n _=>p9 .i64 (Int.ofNat n)| .fl _ _ n _=>p9 .i64 (Int.ofNat n)| .aY=>some (.int .i64 0)|_=>none
def nz(v:E):Option E:=match v with| .str s=>p9 .i64 (Int.ofNat s.length)|_=>none
def ms(u:IntKind)(v:E):Option E:=match (match v with| .int _ n=>lT u n|_=>none)with|some v=>some v|none=>none
def aqW(v:E):Option E:=match (match v with| .str s=>some (E.str s)|_=>none)with|some v=>some v|none=>none
def B5(C:aN)(h:S ag)(v:E):Option E:=match (match v with| .str s=>some (E.str s)|_=>none)with|some v=>some v|none=>Ha C h v
def He(t:Nat)(bE:E)(ok:Bool)(v:E):Option E:=match v with
 | .nilIface=>b0 ok (some (.tuple [bE, .bool false])) none
 | .iface eB w=>b0 (Nat.beq eB t) (some (b0 ok (.tuple [w, .bool true]) w)) (b0 ok (some (.tuple [bE, .bool false])) none)
 |_=>none
def n3(C:aN)(h:S ag)(kp:Nat)(bE m u:E)(ok:Bool):Option E:=
 match (match m with
  | .mL=>b0 (nQ C 20 kp u) (some none) none
  | .map r=>(match W C h r with|some (.map b8 _)=>b0 (nQ C 20 kp u) (findKey C h kp u b8 0) none|some (.look b8)=>b0 (nQ C 20 kp u) (IR (qg C h kp u b8)) none|_=>none)
  |_=>none)with
  |none=>none
  |some none=>some (b0 ok (.tuple [bE, .bool false]) bE)
  |some (some (_,v))=>some (b0 ok (.tuple [v, .bool true]) v)
def j1(C:aN)(h:S ag)(j bd:Nat)(s x:E):Option ed:=match lZ C h bd x with
 |some (n,k)=>b0 (Nat.beq n 0) (Hc C h bd s) (yZ C h j bd n k s)
 |none=>none
def uh(C:aN)(h:S ag)(j kp:Nat)(m u v:E):Option ed:=match m with
 | .map r=>(match W C h r with
   |some (.map b8 ff)=>b0 (nQ C 20 kp u) (match findKey C h kp u b8 0 with
    |some (some (i,_))=>(match sY b8 i with
     |some (fh,_,born)=>b0 (oH 20 fh u) (setObj C h j r (.map (b8.set i (u,v,born)) ff) undef) none
     |none=>none)
    |some none=>setObj C h j r (.map (b8++[(u,v,ff)]) (ff+1)) undef
    |none=>none) none
   |_=>none)
 |_=>none
def rQ(agg:Bool)(n bd:Nat)(v i:E):Option E:=match n4 i with
 |none=>none
 |some i=>match v with
  | .agg cs=>b0 (Nat.blt i n) (b0 agg (some (.agg ((cs.drop (i*bd)).take bd))) (sY cs (i*bd))) none
  |_=>none
def oF(v i:E):Option E:=match n4 i with
 |none=>none
 |some i=>match v with
  | .str s=>(match sY s i with|some c=>some (.int .u8 (Int.ofNat c))|none=>none)
  |_=>none
def nF(v:E)(bO aG:Option E):Option E:=match v with
 | .str s=>(match mR s.length s.length bO aG none with
    |some (k,a,_)=>some (.str ((s.drop k).take (a-k)))
    |none=>none)
 |_=>none
def uv(C:aN)(h:S ag)(bd:Nat)(x:E)(bO aG hy:Option E):Option E:=match x with
 | .slice b T len cap=>(match mR len cap bO aG hy with
   |some (k,a,m)=>some (.slice b (b0 (Nat.beq m k) T (T+k*bd)) (a-k) (m-k))
   |_=>none)
 | .aY=>(match mR 0 0 bO aG hy with
   |some _=>some .aY
   |_=>none)
 | .fl b T len Gf=>(match yu C h b with
   |some n=>b0 (Nat.beq Gf bd&&Nat.blt 0 Gf) (match mR len ((n-T)/Gf) bO aG hy with
     |some (k,a,m)=>(match hy with
      |some _=>some (.slice b (b0 (Nat.beq m k) T (T+k*Gf)) (a-k) (m-k))
      |none=>b0 (Nat.blt k ((n-T)/Gf)||Nat.beq k 0) (some (.fl b (T+k*Gf) (a-k) Gf)) none)
     |none=>none) none
   |_=>none)
 |_=>none
def Xh(n bd:Nat)(x:E)(bO aG hy:Option E):Option E:=match x with
 | .ptr b T=>(match mR n n bO aG hy with
   |some (k,a,m)=>some (.slice b (b0 (Nat.beq m k) T (T+k*bd)) (a-k) (m-k))
   |_=>none)
 |_=>none
def W4(C:aN)(h:S ag)(j:Nat)(v:E):Option ed:=match v with
 | .str s=>n5 C h j (.pu s 0) λb=> .ptr b 0
 |_=>none
def QT(C:aN)(h:S ag)(j:Nat)(v:E):Option ed:=match v with
 | .str k=>uY C h j k.length 1 (k.map λn=>E.int .u8 (Int.ofNat n))
 |_=>none
def oK{α:Type}{F:α}{ai:α->Prop}(a:ai F):ar (some F) ai:=⟨a⟩
def m6{α:Type}{F:α}{ai:α->Prop}(a:ai F):cH (some F) ai:=a
def tr{F:E}{ai:bK}(a:ai (.ptr j 0) (bm C h j (some (.cells (S.ofList F.cells 0 .nil) F.cells.length .own))) (j+1)):hC C h j F ai:=⟨a⟩
def Wv{v:E}{cT:ag}{ai:bK}(a:ai v (bm C h j (some cT)) (j+1)):gT C h j v cT ai:=⟨a⟩
def Ww{v:E}{cT:ag}{ai:bK}(a:ai v (bm C h j (some cT)) (j+1)):gT C h j (Prod.mk v cT).1 (Prod.mk v cT).2 ai:=⟨a⟩
def Wu{b:Nat}{v:E}{cT:ag}{ai:E->S ag->Prop}(a:ai v (bm C h b (some cT))):mK C h b (Prod.mk v cT).1 (Prod.mk v cT).2 ai:=⟨a⟩
def Sm{b:Nat}{F:E}{ai:E->S ag->Prop}(a:ai (.ptr b 0) (bm C h b (some (.cells (S.ofList F.cells 0 .nil) F.cells.length .own)))):y4 C h b F ai:=⟨a⟩
def Wt{b:Nat}{v:E}{cT:ag}{ai:E->S ag->Prop}(a:ai v (bm C h b (some cT))):mK C h b v cT ai:=⟨a⟩
def g3{dB:fJ}{body:fJ->Prop}(a:body dB):bt dB body:=⟨a⟩
def VR{dB:bK}{body:bK->Prop}(a:body dB):qc dB body:=⟨a⟩
def VN{dB:E->Prop}{body:(E->Prop)->Prop}(a:body dB):c9 dB body:=⟨a⟩
def VO{dB:E->S ag->Prop}{body:(E->S ag->Prop)->Prop}(a:body dB):vh dB body:=⟨a⟩
def VQ{dB:Prop}{body:Prop->Prop}(a:body dB):VP dB body:=⟨a⟩
def We{n:Nat}{ai:Nat->Prop}(a:ai n):e7 n ai:=⟨a⟩
def WZ{v:E}{R:S ag}{an:Nat}{ai:bK}(a:ai v R an):h6 (some (.fH v R an)) h j ai:=⟨a⟩
def W0{v:E}{ai:bK}(a:ai v h j):h6 (some (.val v)) h j ai:=⟨a⟩
def xp{F b:Prop}(a:F):a1 (.bool true) F b:=⟨⟨λ_=>a,λD=>(by cases D)⟩⟩
def vO{F b:Prop}(a:b):a1 (.bool false) F b:=⟨⟨λD=>(by cases D),λ_=>a⟩⟩
def HL{F b:Prop}(a:F):iW true (.bool true) F b:=⟨⟨λ_=>a,λD=>(by cases D)⟩⟩
def HK{F b:Prop}(a:b):iW true (.bool false) F b:=⟨⟨λD=>(by cases D),λ_=>a⟩⟩
def HJ{F b:Prop}(a:b):iW false (.bool true) F b:=⟨⟨λD=>(by cases D),λ_=>a⟩⟩
def HI{F b:Prop}(a:F):iW false (.bool false) F b:=⟨⟨λ_=>a,λD=>(by cases D)⟩⟩
def L2{f:Nat}{F cB b:List E}{ai ax:bK}(a:a2 C f ((F++cB)++b) h j ai ax):jA C (.func (.func f) F b) cB h j ai ax:=⟨a⟩
def gP{x e:E}{ai:Prop}(a:E.same 30 x e=true)(u:ai):gO x (some e) ai:=⟨⟨a,u⟩⟩
@[congr] def aFy{v f9:E}{F b:Prop}(a:v=f9):a1 v F b=a1 f9 F b:=by rw[a]
@[congr] def aFK{w:Bool}{v f9:E}{F b:Prop}(a:v=f9):iW w v F b=iW w f9 F b:=by rw[a]
@[congr] def aFC{f:Nat}{cB acp:List E}{ai ax:bK}(a:cB=acp):a2 C f cB h j ai ax=a2 C f acp h j ai ax:=by rw[a]
def a2.mono{f:Nat}{cB:List E}{ai ax mQ eF:bK}(a:a2 C f cB h j ai ax)(jz:∀ac R an,ai ac R an->mQ ac R an)(cK:∀ac R an,ax ac R an->eF ac R an):a2 C f cB h j mQ eF:=by
 rcases a.out with ⟨ac,H,M⟩|⟨H,M,al⟩
 ·exact⟨.inl ⟨ac,H,jz _ _ _ M⟩⟩
 ·exact⟨.inr ⟨H,M,al.mono jz cK⟩⟩
def Oj{f ef:Nat}(a:cV C f ef=true):∃fn c,C.P.funcs[f]? =some fn/\fn.body=some c:=by
 unfold cV at a
 split at a
 ·rename_i fn b4
  split at a
  ·rename_i c aA;exact⟨fn,c,b4,aA⟩
  ·cases a
 ·cases a
def cY{f:Nat}{cB:List E}{ai ax:bK}(aA:cV C f cB.length=true)(bi:C.hz f cB=none)(a:c7 C f cB h j ai ax):a2 C f cB h j ai ax:=
 ⟨.inr ⟨bi,Oj aA,ass aA a⟩⟩
def Kg{f:Nat}{cB:List E}{ai ax:bK}{ac:E}(bi:C.hz f cB=some ac)(a:ai ac h j):a2 C f cB h j ai ax:=⟨.inl ⟨ac,bi,a⟩⟩
def Bo(I:c1)(d n:Nat)(v:E):(aa I d v).g n=if d=n then some v else I.g n:=by show b0 (Nat.beq d n) (some v) (I.g n)=_;rw[ia]
def yt(I:c1)(d:Nat)(v:E):(aa I d v).bj=I.bj:=rfl
def F8(I:c1)(d:Nat)(v:E):(aa I d v).rc=I.rc:=rfl
def D2(k:List E)(n:Nat):(cR k).g n=k[n]? :=by simp[cR]
def BU(k:List E):(cR k).bj=[]:=rfl
def D3(k:List E):(cR k).rc=false:=rfl
def vW(k:List Nat)(I:c1)(n:Nat):(ib k I).g n=b0 (rS n k) none (I.g n):=rfl
def FY(I:c1)(d:h8)(n:Nat):(Bi I d).g n=I.g n:=rfl
def FX(I:c1)(d:h8):(Bi I d).bj=d::I.bj:=rfl
def FC(I:c1)(d n:Nat):(wL I d).g n=I.g n:=rfl
def A6(I:c1)(d:Nat):(wL I d).bj=⟨.collected d,[]⟩::I.bj:=rfl
def Kf{f:Nat}{cB:List E}{ai ax:bK}(aA:cV C f cB.length=true)(bi:C.hz f cB=none)(a:Cd C f cB h j ai ax):a2 C f cB h j ai ax:=
 ⟨.inr ⟨bi,Oj aA,ast aA a⟩⟩
def acN{f:Nat}{cB:List E}{ai ax:bK}(bi:C.hz f cB=none)(a:a2 C f cB h j ai ax):vE C f cB h j ai ax:=by
 rcases a.out with ⟨ac,H,M⟩|⟨H,M,al⟩
 ·rw[bi]at H;cases H
 ·exact al
def BZ{p:Prop}[Decidable p]{F b:Prop}(H:p->F)(M:¬p->b):a1 (.bool (decide p)) F b:=⟨λD=>H (by simpa using D),λD=>M (by simpa using D)⟩
def jp(b T:Nat):dE C h 2 (.ptr b T)=(aU C h (.ptr b T)).bind λkr=>(aU C h (.ptr b (T+1))).bind λim=>some (.agg [kr,im]):=by
 rw[Fw]
 simp only[uf,ZR,Nat.reduceAdd,YL,ZZ]
def wJ(b T:Nat):dE C h 3 (.ptr b T)=(aU C h (.ptr b T)).bind λkr=>(aU C h (.ptr b (T+1))).bind λim=>(aU C h (.ptr b (T+2))).bind λks=>some (.agg [kr,im,ks]):=by
 rw[Fw]
 simp only[uf,ZR,Nat.reduceAdd,YL,ZZ]
def C0(b T:Nat):dE C h 4 (.ptr b T)=(aU C h (.ptr b T)).bind λkr=>(aU C h (.ptr b (T+1))).bind λim=>(aU C h (.ptr b (T+2))).bind λks=>(aU C h (.ptr b (T+3))).bind λog=>some (.agg [kr,im,ks,og]):=by
 rw[Fw]
 simp only[uf,ZR,Nat.reduceAdd,YL,ZZ]
def Fy(b T:Nat):dE C h 6 (.ptr b T)=(aU C h (.ptr b T)).bind λkr=>(aU C h (.ptr b (T+1))).bind λim=>(aU C h (.ptr b (T+2))).bind λks=>(aU C h (.ptr b (T+3))).bind λog=>(aU C h (.ptr b (T+4))).bind λqv=>(aU C h (.ptr b (T+5))).bind λGz=>some (.agg [kr,im,ks,og,qv,Gz]):=by
 rw[Fw]
 simp only[uf,ZR,Nat.reduceAdd,YL,ZZ]
def Fz(b T:Nat):dE C h 7 (.ptr b T)=(aU C h (.ptr b T)).bind λkr=>(aU C h (.ptr b (T+1))).bind λim=>(aU C h (.ptr b (T+2))).bind λks=>(aU C h (.ptr b (T+3))).bind λog=>(aU C h (.ptr b (T+4))).bind λqv=>(aU C h (.ptr b (T+5))).bind λGz=>(aU C h (.ptr b (T+6))).bind λJB=>some (.agg [kr,im,ks,og,qv,Gz,JB]):=by
 rw[Fw]
 simp only[uf,ZR,Nat.reduceAdd,YL,ZZ]
def C1(b T:Nat):dE C h 8 (.ptr b T)=(aU C h (.ptr b T)).bind λkr=>(aU C h (.ptr b (T+1))).bind λim=>(aU C h (.ptr b (T+2))).bind λks=>(aU C h (.ptr b (T+3))).bind λog=>(aU C h (.ptr b (T+4))).bind λqv=>(aU C h (.ptr b (T+5))).bind λGz=>(aU C h (.ptr b (T+6))).bind λJB=>(aU C h (.ptr b (T+7))).bind λNa=>some (.agg [kr,im,ks,og,qv,Gz,JB,Na]):=by
 rw[Fw]
 simp only[uf,ZR,Nat.reduceAdd,YL,ZZ]
def Fx(b T:Nat):dE C h 11 (.ptr b T)=(aU C h (.ptr b T)).bind λkr=>(aU C h (.ptr b (T+1))).bind λim=>(aU C h (.ptr b (T+2))).bind λks=>(aU C h (.ptr b (T+3))).bind λog=>(aU C h (.ptr b (T+4))).bind λqv=>(aU C h (.ptr b (T+5))).bind λGz=>(aU C h (.ptr b (T+6))).bind λJB=>(aU C h (.ptr b (T+7))).bind λNa=>(aU C h (.ptr b (T+8))).bind λXS=>(aU C h (.ptr b (T+9))).bind λDC=>(aU C h (.ptr b (T+10))).bind λakv=>some (.agg [kr,im,ks,og,qv,Gz,JB,Na,XS,DC,akv]):=by
 rw[Fw]
 simp only[uf,ZR,Nat.reduceAdd,YL,ZZ]
def Gr(z0 a0:E):d7 (S.ofList [z0] 0 .nil) 0 [a0]=S.ofList [a0] 0 .nil:=by rfl
def Gt(z0 g5 a0 bf:E):d7 (S.ofList [z0,g5] 0 .nil) 0 [a0,bf]=S.ofList [a0,bf] 0 .nil:=by rfl
def Gu(z0 g5 gx a0 bf cf:E):d7 (S.ofList [z0,g5,gx] 0 .nil) 0 [a0,bf,cf]=S.ofList [a0,bf,cf] 0 .nil:=by rfl
def Gv(z0 g5 gx z3 a0 bf cf a3:E):d7 (S.ofList [z0,g5,gx,z3] 0 .nil) 0 [a0,bf,cf,a3]=S.ofList [a0,bf,cf,a3] 0 .nil:=by rfl
def Gw(z0 g5 gx z3 z4 z5 a0 bf cf a3 a4 a5:E):d7 (S.ofList [z0,g5,gx,z3,z4,z5] 0 .nil) 0 [a0,bf,cf,a3,a4,a5]=S.ofList [a0,bf,cf,a3,a4,a5] 0 .nil:=by rfl
def Gx(z0 g5 gx z3 z4 z5 DE a0 bf cf a3 a4 a5 jK:E):d7 (S.ofList [z0,g5,gx,z3,z4,z5,DE] 0 .nil) 0 [a0,bf,cf,a3,a4,a5,jK]=S.ofList [a0,bf,cf,a3,a4,a5,jK] 0 .nil:=by rfl
def Gy(z0 g5 gx z3 z4 z5 DE XU a0 bf cf a3 a4 a5 jK kx:E):d7 (S.ofList [z0,g5,gx,z3,z4,z5,DE,XU] 0 .nil) 0 [a0,bf,cf,a3,a4,a5,jK,kx]=S.ofList [a0,bf,cf,a3,a4,a5,jK,kx] 0 .nil:=by rfl
def Gs(z0 g5 gx z3 z4 z5 DE XU w6 z9 aFk a0 bf cf a3 a4 a5 jK kx jf a9 abX:E):d7 (S.ofList [z0,g5,gx,z3,z4,z5,DE,XU,w6,z9,aFk] 0 .nil) 0 [a0,bf,cf,a3,a4,a5,jK,kx,jf,a9,abX]=S.ofList [a0,bf,cf,a3,a4,a5,jK,kx,jf,a9,abX] 0 .nil:=by rfl
def yG(c:S E)(T:Nat)(v:E):(d7 c T [v]).get T=some v:=by rw[kb];simp
def Gp{c:S E}{T i:Nat}{v:E}(a:i≠T):(d7 c T [v]).get i=c.get i:=by rw[kb,Zg Zx]
def jG{b T u n:Nat}{c:S E}{v:E}(a:W C h b=some (.cells c n .own))(aj:C.a8<=b)(aH:v.cells.length=u)(aK:0<u)(bi:T+u<=n)(H:iF v.cells=true):
 fT C h u (.ptr b T) v=some (bm C h b (some (.cells (d7 c T v.cells) n .own))):=by
 subst aH
 have cu:Nat.blt 0 v.cells.length=true:=by simp[Nat.blt];omega
 have fL:Nat.beq v.cells.length v.cells.length=true:=by simp
 have bC:Nat.ble (T+v.cells.length) n=true:=by simpa using bi
 have j5:Nat.ble C.a8 b=true:=by simpa using aj
 simp only[fT,sm,a,jv,j5,bC,cu,fL,H,Ys,fo,hf]
def rT(u:IntKind)(n:Nat):n4 (.int u (n:Int))=some n:=rfl
def az4(u:IntKind):n4 (.int u 0)=some 0:=rfl
def Fj(u:IntKind)(x e:Int):bv .lss (.int u x) (.int u e)=some (.bool (decide (x<e))):=by
 cases u<;>simp[bv,mc,mJ,l4,xq,vf]<;>(rw[Z9];simp)
def Fh(u:IntKind)(x e:Int):bv .gtr (.int u x) (.int u e)=some (.bool (decide (e<x))):=by
 cases u<;>simp[bv,mc,mJ,l4,xq,vf]<;>(rw[Z9];simp)
def Fi(u:IntKind)(x e:Int):bv .leq (.int u x) (.int u e)=some (.bool (decide (x<=e))):=by
 cases u<;>simp[bv,mc,mJ,l4,xq,vf]<;>(rw[Z9];simp)
def Fg(u:IntKind)(x e:Int):bv .geq (.int u x) (.int u e)=some (.bool (decide (e<=x))):=by
 cases u<;>simp[bv,mc,mJ,l4,xq,vf]<;>(rw[Z9];simp)
def Ff(u:IntKind)(x e:Int):bv .eql (.int u x) (.int u e)=some (.bool (decide (x=e))):=by
 cases u<;>simp[bv,mc,mJ,l4,xq,A0]
def Fk(u:IntKind)(x e:Int):bv .neq (.int u x) (.int u e)=some (.bool (decide (x≠e))):=by
 cases u<;>simp[bv,mc,mJ,l4,xq,A0]
def wrap64{n:Int}(H: -9223372036854775808<=n)(M:n<9223372036854775808):qu .i64 n=n:=by
 simp only[qu,fw,Zh]
 split<;>omega
def eI{x e:Int}(H: -9223372036854775808<=x+e)(M:x+e<9223372036854775808):bv .add (.int .i64 x) (.int .i64 e)=some (.int .i64 (x+e)):=by
 simp[bv,mc,mJ,l4,lT,wrap64 H M]
def x7{x e:Int}(H: -9223372036854775808<=x-e)(M:x-e<9223372036854775808):bv .sub (.int .i64 x) (.int .i64 e)=some (.int .i64 (x-e)):=by
 simp[bv,mc,mJ,l4,lT,wrap64 H M]
def agY(x e:Int):bv .add (.int .u64 x) (.int .u64 e)=some (.int .u64 ((x+e)%18446744073709551616)):=by
 simp[bv,mc,mJ,l4,lT,qu]
def Fo{bd b T len cap i:Nat}(u:IntKind)(a:i<len):gd bd (.slice b T len cap) (.int u (i:Int))=some (.ptr b (T+i*bd)):=by
 simp[gd,rT,DD,fw,Nat.blt,a];omega
def Fp{bd b T len cap i:Nat}(u:IntKind)(a:i<len):gd bd (.fl b T len cap) (.int u (i:Int))=some (.ptr b (T+i*bd)):=by
 simp[gd,rT,DD,fw,Nat.blt,a];omega
def GC(d b T:Nat):hW d (.ptr b T)=some (.ptr b (T+d)):=rfl
def GA(i:Nat)(k:List E):oh i (.tuple k)=k[i]? :=by simp[oh]
def GB(b T:Nat):rf (.ptr b T)=some (.ptr b T):=rfl
def FN(b:Bool):gi .not (.bool b)=some (.bool (!b)):=by simp[gi,xq]
def yP(c:S E)(k:List E):Prop:=∀i,c.get i=k[i]?
def nu(k:List E):yP (S.ofList k 0 .nil) k:=λi=>m5 k i
def yP.app{c:S E}{k:List E}(a:yP c k)(m:List E):yP (d7 c k.length m) (k++m):=by
 intro i
 rw[kb]
 by_cases H:k.length<=i/\i<k.length+m.length
 ·rw[Zp H,ZM H.1]
 ·rw[Zg H,a i]
  by_cases M:i<k.length
  ·rw[Z7 M]
  ·rw[Z6 Zo,Z6 Zx]
end
end
noncomputable section
section
variable{C:aN}{h:S ag}{j:Nat}
def j3{F b:Nat}(a:F<=b):Nat.ble F b=true:=by simpa using a
def ayw:∀(k:List Nat) (h:S ag) (e:Nat),(∀x∈k,C.a8<=x)->e∉k->W C (nw C k h) e=W C h e:=by
 intro k
 induction k with
 |nil=>intro h e _ _;rfl
 |cons F k ah=>
  intro h e az z
  simp only[Zu,YX]at z
  simp only[nw]
  rw[ah _ _ (λx af=>az x (Zt _ af)) z.2,aI (az F (Zv ..)) z.1]
def lm(C:aN)(h:S ag)(s:E)(bd:Nat)(k:List E)(cv:List Nat):Prop:=
 (s= .aY/\k=[]/\cv=[])\/∃b eS n c,s= .fl b 0 n bd/\k.length=n*bd/\cv=b::eS/\(∀x∈cv,C.a8<=x)/\b∉eS/\W C h b=some (.cells c (n*bd) (.grow eS))/\yP c k
def lm.ab{R:S ag}{s:E}{bd:Nat}{k:List E}{cv:List Nat}(a:lm C h s bd k cv)(aH:∀e∈cv,W C R e=W C h e):lm C R s bd k cv:=by
 rcases a with a|⟨b,eS,n,c,H,M,al,aB,bw,b1,c6⟩
 ·exact .inl a
 ·exact .inr ⟨b,eS,n,c,H,M,al,aB,bw,by rw[aH b (by rw[al];exact Zv ..)];exact b1,c6⟩
def s2{bd u b n:Nat}{k:List E}{c:S E}{st:oo}(a:W C h b=some (.cells c n st))(aA:yP c k)(az:k.length=u*bd)(cap:Nat):lZ C h bd (.slice b 0 u cap)=some (u,k):=by
 have bV:∀(m T:Nat),T+m<=k.length->c.lq T m=some ((k.drop T).take m):=by
  intro m
  induction m with
  |zero=>intro T _;simp[S.lq]
  |succ m ah=>
   intro T bi
   have H:c.get T=some k[T]:=by rw[aA T,Ze Zo]
   simp only[S.lq,H,ah (T+1) Zo]
   rw[Zr (by omega:T<k.length),Yo]
 simp only[lZ,nT,cellsOf,a]
 rw[bV (u*bd) 0 Zo]
 simp[<-az]
def fE{b:fJ->fJ}{I:c1}{h:S ag}{j:Nat}(tj:Nat->fJ)(m:Nat)(aK:tj m I h j)(a:∀m I h j,tj m I h j->b (λI h j=>∃gg,gg<m/\tj gg I h j) I h j):fy b I h j:=⟨⟨tj,⟨m,aK⟩,a⟩⟩
def aef{c:S E}{k:List E}(aA:yP c k):∀(m T:Nat),T+m<=k.length->c.lq T m=some ((k.drop T).take m):=by
 intro m
 induction m with
 |zero=>intro T _;simp[S.lq]
 |succ m ah=>
  intro T bi
  have H:c.get T=some k[T]:=by rw[aA T,Ze Zo]
  simp only[S.lq,H,ah (T+1) Zo]
  rw[Zr (by omega:T<k.length),Yo]
def tE{bd:Nat}:∀{be:List (List E)},(∀r∈be,r.length=bd)->be.flatten.length=be.length*bd:=by
 intro be
 induction be with
 |nil=>intro _;simp
 |cons F k ah=>
  intro a
  rw[Yp,ZL,a F (Zv ..),ah (λr Y=>a r (Zt _ Y)),ZF,Z8]
  omega
abbrev zD(l:List E)(n:Nat):Option ag:=some (.cells (S.ofList l 0 .nil) n .own)
def zE(i:Nat)(h:i<1000000000:=by omega):bv .add (.Z (i:Int)) (.Z 1)=some (.Z ((i+1:Nat):Int)):=by rw[eI (by omega) (by omega)];rfl
def zF{p:Prop}(h:p:=by simp(disch:=omega) only[aI]):p:=h
def zK{z7:aN}{z8 z9:S ag}{b o:Nat}{v:Option E}(h:W z7 z9 b=W z7 z8 b)(k:aU z7 z8 (.ptr b o)=v):aU z7 z9 (.ptr b o)=v:=by rw[cw,h,<-cw];exact k
abbrev zH(T:c1)(a:Nat)(x:E)(b:Nat)(y:E):c1:=aa (aa T a x) b y
abbrev zI(T:c1)(a:Nat)(x:E)(b:Nat)(y:E)(c:Nat)(z:E):c1:=aa (zH T a x b y) c z
abbrev zJ(T:c1)(a:Nat)(x:E)(b:Nat)(y:E)(c:Nat)(z:E)(d:Nat)(u:E):c1:=zH (zH T a x b y) c z d u
end
end
end Go.bg

namespace Go.aL
abbrev aR:=List Nat
structure d3 where
 b:Bool
 s:Bool
 w:Int
 deriving DecidableEq
structure Tok where
 kind:Int
 text:aR
 at_:Int
 n:Int
 ty:d3
inductive bp where
 |mk (kind at_:Int) (name:aR) (no:Bool) (ty:d3) (n:Int) (args:List bp)
structure eb where
 name:aR
 at_:Int
 ty:d3
 on:aR
 eX:Int
 no:Bool
structure eZ where
 left:List aR
 df:List Int
 at_:Int
 right:bp
structure Node where
 name:aR
 at_:Int
 d8:List eb
 out:List eb
 loc:List eb
 eqs:List eZ
def dQ:d3:=⟨false,false,0⟩
def bp.kind:bp->Int| .mk u _ _ _ _ _ _=>u
def bp.args:bp->List bp| .mk _ _ _ _ _ _ k=>k
abbrev gy(α:Type):=Option (Except Int (α×List Tok))
def ok{α:Type}(F:α)(k:List Tok):gy α:=some (.ok (F,k))
def bad{α:Type}(at_:Int):gy α:=some (.error at_)
def andThen{α eU:Type}(x:gy α)(f:α->List Tok->gy eU):gy eU:=match x with
 |none=>none
 |some (.error F)=>some (.error F)
 |some (.ok (F,k))=>f F k
def hq(x:Tok)(s:aR):Bool:=(x.kind=2||x.kind=6)&&x.text=s
def mP(s:aR):List Tok->Option (Option Tok×List Tok)
 |[]=>none
 |x::k=>if hq x s then some (some x,k)else some (none,x::k)
def iR{eU:Type}(s:aR)(k:List Tok)(f:Option Tok->List Tok->gy eU):gy eU:=match mP s k with
 |none=>none
 |some (x,k)=>f x k
def eL(s:aR):List Tok->gy Tok
 |[]=>none
 |x::k=>if hq x s then ok x k else bad x.at_
def jq(u:Int):List Tok->gy Tok
 |[]=>none
 |x::k=>if x.kind=u then ok x k else bad x.at_
def av:Nat->List (aR×Int)
 |0=>[([111,114],7),([120,111,114],8)]
 |1=>[([97,110,100],9)]
 |2=>[([61],10),([60,62],11),([60,61],13),([62,61],15),([60],12),([62],14)]
 |3=>[([43],16),([45],17)]
 |4=>[([42],18)]
 |_=>[]
def pL:List (aR×Int)->List Tok->Option (Option bp×List Tok)
 |[],k=>some (none,k)
 |(s,u)::os,k=>match mP s k with
  |none=>none
  |some (some x,k)=>some (some (.mk u x.at_ [] false dQ 0 []),k)
  |some (none,k)=>pL os k
def bp.at_:bp->Int| .mk _ F _ _ _ _ _=>F
def vk(D:bp):Option Bool:=if D.kind=1 then some true else if D.kind=4 then(match D.args with|[]=>none|F::_=>some (decide (F.kind=1)))else some false
def bp.name:bp->aR| .mk _ _ s _ _ _ _=>s
def bp.no:bp->Bool| .mk _ _ _ b _ _ _=>b
def bp.ty:bp->d3| .mk _ _ _ _ t _ _=>t
def bp.n:bp->Int| .mk _ _ _ _ _ n _=>n
def two(D:bp)(F b:bp):bp:= .mk D.kind D.at_ [] false dQ 0 [F,b]
def Bg:List (aR×Int):=[([110,111,116],3),([45],4),([112,114,101],5)]
mutual
def level:Nat->Nat->List Tok->gy bp
 |0,_,_=>none
 |n+1,u,k=>if u=5 then shift n k else andThen (level n (u+1) k) λleft k=>qe n u left k
def qe:Nat->Nat->bp->List Tok->gy bp
 |0,_,_,_=>none
 |n+1,u,left,k=>match pL (av u) k with
  |none=>none
  |some (none,k)=>ok left k
  |some (some D,k)=>andThen (level n (u+1) k) λr k=>if u=2 then ok (two D left r) k else qe n u (two D left r) k
def shift:Nat->List Tok->gy bp
 |0,_=>none
 |n+1,k=>andThen (yo n k) λleft k=>qn n left k
def qn:Nat->bp->List Tok->gy bp
 |0,_,_=>none
 |n+1,left,k=>iR [60,60] k λx k=>match x with
  |some x=>qo n 19 x left k
  |none=>iR [62,62] k λx k=>match x with
   |some x=>qo n 20 x left k
   |none=>ok left k
def qo:Nat->Int->Tok->bp->List Tok->gy bp
 |0,_,_,_,_=>none
 |n+1,u,x,left,k=>andThen (jq 4 k) λm k=>if 63<m.n then bad m.at_ else qn n (.mk u x.at_ [] false dQ m.n [left]) k
def yo:Nat->List Tok->gy bp
 |0,_=>none
 |n+1,k=>match pL Bg k with
  |none=>none
  |some (some D,k)=>andThen (yo n k) λF k=>ok (.mk D.kind D.at_ [] false dQ 0 [F]) k
  |some (none,k)=>andThen (part n k) λleft k=>oe n left k
def oe:Nat->bp->List Tok->gy bp
 |0,_,_=>none
 |n+1,left,k=>iR [119,104,101,110] k λx k=>match x with
  |none=>ok left k
  |some x=>iR [110,111,116] k λno k=>andThen (jq 1 k) λc k=>oe n (.mk 6 x.at_ c.text no.isSome dQ 0 [left]) k
def part:Nat->List Tok->gy bp
 |0,_=>none
 |_+1,[]=>none
 |n+1,x::k=>
  if x.kind=5 then ok (.mk 1 x.at_ [] false x.ty x.n []) k
  else if x.kind=2&&(x.text=[116,114,117,101]||x.text=[102,97,108,115,101])then ok (.mk 1 x.at_ [] false ⟨true,false,1⟩ (if x.text=[116,114,117,101]then 1 else 0) []) k
  else if x.kind=1 then iR [40] k λe k=>match e with
   |none=>ok (.mk 2 x.at_ x.text false dQ 0 []) k
   |some _=>andThen (list n k) λcB k=>ok (.mk 25 x.at_ x.text false dQ 0 cB) k
  else if x.kind=3 then andThen (eL [40] k) λ_ k=>andThen (arrow n k) λD k=>andThen (eL [41] k) λ_ k=>ok (.mk 26 x.at_ [] false x.ty 0 [D]) k
  else if x.kind=6&&x.text=[40]then andThen (arrow n k) λD k=>andThen (eL [41] k) λ_ k=>ok D k
  else if x.kind=2&&x.text=[105,102]then andThen (arrow n k) λc k=>andThen (eL [116,104,101,110] k) λ_ k=>andThen (arrow n k) λF k=>andThen (eL [101,108,115,101] k) λ_ k=>andThen (arrow n k) λb k=>ok (.mk 23 x.at_ [] false dQ 0 [c,F,b]) k
  else if x.kind=2&&x.text=[109,101,114,103,101]then andThen (jq 1 k) λc k=>andThen (part n k) λF k=>andThen (part n k) λb k=>ok (.mk 24 x.at_ c.text false dQ 0 [F,b]) k
  else bad x.at_
def list:Nat->List Tok->gy (List bp)
 |0,_=>none
 |n+1,k=>iR [41] k λe k=>match e with
  |some _=>ok [] k
  |none=>andThen (arrow n k) λD k=>qf n [D] k
def qf:Nat->List bp->List Tok->gy (List bp)
 |0,_,_=>none
 |n+1,cB,k=>iR [44] k λe k=>match e with
  |none=>andThen (eL [41] k) λ_ k=>ok cB k
  |some _=>andThen (arrow n k) λD k=>qf n (cB++[D]) k
def my:Nat->List Tok->gy bp
 |0,_=>none
 |n+1,k=>andThen (level n 0 k) λleft k=>iR [102,98,121] k λx k=>match x with
  |none=>ok left k
  |some x=>match vk left with
   |none=>none
   |some true=>andThen (my n k) λr k=>ok (.mk 21 x.at_ [] false dQ 0 [left,r]) k
   |some false=>bad x.at_
def arrow:Nat->List Tok->gy bp
 |0,_=>none
 |n+1,k=>andThen (my n k) λleft k=>iR [45,62] k λx k=>match x with
  |none=>ok left k
  |some x=>andThen (arrow n k) λr k=>ok (.mk 22 x.at_ [] false dQ 0 [left,r]) k
end
def gN:Nat->List Tok->List Tok->gy (List Tok)
 |0,_,_=>none
 |n+1,cB,k=>andThen (jq 1 k) λx k=>iR [44] k λe k=>match e with
  |none=>ok (cB++[x]) k
  |some _=>gN n (cB++[x]) k
def qH(ty:d3)(on:aR)(eX:Int)(no:Bool)(x:Tok):eb:=⟨x.text,x.at_,ty,on,eX,no⟩
def Bt:Nat->List Tok->Option aR
 |_,[]=>none
 |0,x::_=>some x.text
 |i+1,_::k=>Bt i k
def mS(loc:Bool)(u:List eb->List Tok->gy (List eb))(ds:List eb)(k:List Tok):gy (List eb):=match Bt 0 k with
 |none=>none
 |some s=>if s=[59]then(if loc then(match Bt 1 k with
   |none=>none
   |some s=>if s=[108,101,116]then ok ds k else u ds (k.drop 1))else u ds (k.drop 1))
  else ok ds k
def B6(w:Option Tok)(k:List Tok):gy (aR×Int×Bool):=match w with
 |none=>ok ([],0,false) k
 |some _=>iR [110,111,116] k λno k=>andThen (jq 1 k) λon k=>ok (on.text,on.at_,no.isSome) k
def Ed(loc:Bool)(u:List eb->List Tok->gy (List eb))(ds:List eb)(ck:List Tok)(k:List Tok):gy (List eb):=
 andThen (eL [58] k) λ_ k=>andThen (jq 3 k) λt k=>iR [119,104,101,110] k λw k=>
 andThen (B6 w k) λr k=>mS loc u (ds++ck.map (qH t.ty r.1 r.2.1 r.2.2)) k
def jL:Nat->Bool->List eb->List Tok->gy (List eb)
 |0,_,_,_=>none
 |n+1,loc,ds,k=>andThen (gN n [] k) λck k=>Ed loc (jL n loc) ds ck k
def vY(n:Nat)(k:List Tok):gy eZ:=iR [40] k λe k=>
 andThen (match e with
  |some _=>andThen (jq 1 k) λx k=>andThen (eL [44] k) λ_ k=>andThen (gN n [x] k) λck k=>andThen (eL [41] k) λ_ k=>ok ck k
  |none=>andThen (jq 1 k) λx k=>ok [x] k) λck k=>
 andThen (eL [61] k) λD k=>andThen (arrow n k) λr k=>andThen (eL [59] k) λ_ k=>ok ⟨ck.map Tok.text,ck.map Tok.at_,D.at_,r⟩ k
def mx:Nat->List eZ->List Tok->gy (List eZ)
 |0,_,_=>none
 |n+1,cq,k=>iR [116,101,108] k λe k=>match e with
  |some _=>ok cq k
  |none=>andThen (vY n k) λak k=>mx n (cq++[ak]) k
def node(n:Nat)(k:List Tok):gy Node:=
 andThen (eL [110,111,100,101] k) λ_ k=>andThen (jq 1 k) λx k=>andThen (eL [40] k) λ_ k=>iR [41] k λe k=>
 andThen (match e with
  |some _=>ok [] k
  |none=>andThen (jL n false [] k) λds k=>andThen (eL [41] k) λ_ k=>ok ds k) λd8 k=>
 andThen (eL [114,101,116,117,114,110,115] k) λ_ k=>andThen (eL [40] k) λ_ k=>andThen (jL n false [] k) λout k=>andThen (eL [41] k) λ_ k=>
 iR [118,97,114] k λe k=>andThen (match e with
  |some _=>andThen (jL n true [] k) λds k=>andThen (eL [59] k) λ_ k=>ok ds k
  |none=>ok [] k) λloc k=>
 andThen (eL [108,101,116] k) λ_ k=>andThen (mx n [] k) λcq k=>ok ⟨x.text,x.at_,d8,out,loc,cq⟩ k
def nodes:Nat->List Node->List Tok->gy (List Node)
 |0,_,_=>none
 |n+1,am,k=>andThen (node n k) λg k=>match k with
  |[]=>none
  |x::_=>if x.kind=7 then ok (am++[g]) k else nodes n (am++[g]) k
end Go.aL

