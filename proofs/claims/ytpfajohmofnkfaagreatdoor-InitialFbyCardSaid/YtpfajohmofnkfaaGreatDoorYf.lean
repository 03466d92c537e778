/- A part of the last text's proof; no condition of its own -/
import Derived.Test.YtpfajohmofnkfaaGreatDoorYe
set_option maxHeartbeats 8000000
set_option linter.all false
namespace Go.bd
noncomputable section
open Go.RowKit (Below)
def yI(ce:Nat)(U:Nat->List D->Option D)(f:Nat)(args:List D):Option D:=
 bY (Nat.beq f ce) (match args with
  |[.str s]=>bY (Ae s&&Nat.ble s.length 281474976710656) (some (.str s)) none
  |_=>none) (U f args)
section
variable{P:Program}{w:World}
def agI{ce f:Nat}{U:Nat->List D->Option D}{args:List D}{v:D}(a:yI ce U f args=some v):
 (f=ce/\∃s,args=[.str s]/\v= .str s/\(∀x∈s,x<256)/\s.length<=281474976710656)\/U f args=some v:=by
 unfold yI at a
 rw[hK]at a
 split at a
 ·rename_i E
  split at a
  ·rename_i s
   simp only[e1,Zp,Zf]at a
   exact .inl ⟨E,s,rfl,a.2.symm,RF a.1.1,jx a.1.2⟩
  ·simp at a
 ·exact .inr a
def Env.awt{nm:List (String×Nat)}(iR:BW P nm){laid:List (String×DataW Unit)}{U:Nat->List D->Option D}{ce:Nat}{fn:Func}{c:Code}(ch:P.funcs[ce]? =some fn)(aE:(fn.name== "runtime.NumGoroutine")=false)(aj:fn.body=some c)
 (arD:∀(s:ByteArray) (w:World),s.size<=281474976710656->Calls P ce #[.string s] w λE b1=>E= .returned (.string s)/\Below w.heap.size w b1)(a:laidMet P laid w){dP:c9}{d4:Nat->Prop}
 (cI:Env ⟨P,nK (g7 P nm laid P.globals.size).2 .nil,(g7 P nm laid P.globals.size).1,U,P.globals.size⟩ w dP d4):
 ∃S ad,Env ⟨P,nK (g7 P nm laid P.globals.size).2 .nil,(g7 P nm laid P.globals.size).1,yI ce U,P.globals.size⟩ w S ad:=by
 obtain⟨S,ad,am,aB⟩:=Vc (hh:=yI ce U) iR a
 refine⟨S,ad,cI.kx,⟨λf args v bj=> ?_,λf args v bj S mM ny=> ?_⟩,am,aB⟩
 ·rcases agI bj with ⟨rfl,s,rfl,rfl,aF,_⟩|bj
  ·exact⟨⟨λ_ _=>rfl,λ_=>aF⟩,λ_ _=>rfl,λ_=>⟨aF,trivial⟩⟩
  ·exact cI.hh.val f args v bj
 ·rcases agI bj with ⟨rfl,s,rfl,rfl,aF,az⟩|bj
  ·right
   have O1:¬fn.name= "runtime.NumGoroutine":=by simpa using aE
   refine⟨by simp[callFunc,ch,O1,aj], ?_⟩
   have:=arD (f2 s) mM (by simpa[f2,ByteArray.size]using az)
   exact this
  ·exact cI.hh.ok f args v bj S mM ny
end
end
end Go.bd

namespace Go.bd
noncomputable section
open Go.RowKit (Below)
def ahB(C:aL):List (Nat×ag)->K ag->K ag
 |[],H=>H
 |(b,U)::k,H=>ahB C k (bn C H b (some U))
def pick(C:aL)(h:K ag):List Nat->List (Nat×ag)
 |[]=>[]
 |b::k=>match Y C h b with|some U=>(b,U)::pick C h k|none=>pick C h k
def ab7(C:aL):List Nat->Bool
 |[]=>true
 |b::k=>kH C b&&ab7 C k
def awc(C:aL)(L:List Nat)(h:K ag):K ag:=ahB C (pick C h L) .nil
def ayJ(todo:List dR):Bool:=match todo with| .drawn .. ::_=>false|_=>true
def agz:List gL->Bool
 |[]=>true
 |c::k=>(match c with|⟨_,_,_,_,todo,_,_,_,_⟩=>(match todo with| .BG .. ::_=>false|_=>true))&&agz k
def NX(C:aL)(L:List Nat)(b:hw):hw:=λbS todo ce H h j=>match ce with
 |⟨fn,n,ao,bc,aJ,ro,cs⟩=>bY (ayJ todo&&agz cs&&ab7 C L) (b bS todo ⟨fn,n,ao,bc,aJ,ro,cs⟩ H (awc C L h) j) none
section
variable{C:aL}{S dP:c9}{ad d4:Nat->Prop}{h T:K ag}{j bh:Nat}{w:World}
variable{bu:World}{bG:Nat}{bX:List Frame}{v:D}{b:hw}
def ow(C:aL)(bu:World)(bG:Nat)(bX:List Frame)(bS:lg)(todo:List dR)(ce:iu)(H:K D)(h:K ag)(j:Nat)(v:D):Prop:=
 ∀S ad w di tmps bx ai,DS C bu bG bX bS todo ce.fn ce.n ce.ao ce.bc ce.aJ ce.ro ce.cs H h j S ad w di tmps bx ai->Ends C bu bG bX v (lone (ct S ce.fn ce.bc ce.aJ ce.ro tmps bx (gN S bS)) ai w)
open Classical in
def only(Bj:lg)(Wv:List dR)(lj:iu)(rW:K D)(aP:K ag)(Fv:Nat)(v:D):hw:=λbS todo ce H h j=>
 if bS=Bj/\todo=Wv/\ce=lj/\H=rW/\h=aP/\j=Fv then some v else none
end
end
end Go.bd

namespace Go.bd
noncomputable section
open Go.RowKit (Below)
def low(ad:Nat->Prop)(N:Nat)(b:Nat):Prop:=ad b/\b<N
section
variable{ad:Nat->Prop}{N:Nat}
end
end
end Go.bd

namespace Go.bd
noncomputable section
open Go.RowKit (Below)
section
variable{C:aL}{S dP:c9}{ad d4:Nat->Prop}{h T:K ag}{j bh N:Nat}{w:World}
variable{bu:World}{bG g:Nat}{bX:List Frame}{v:D}{b:hw}
open Classical in
def fR(C:aL)(bu:World)(bG:Nat)(bX:List Frame)(v:D):hw:=λbS todo ce H h j=>if ow C bu bG bX bS todo ce H h j v then some v else none
def aa4:nS C bu bG bX (fR C bu bG bX v):=by
 intro bS todo fn n ao bc aJ ro cs H h j ac bb S ad w di tmps bx ai dm
 unfold fR at bb
 split at bb
 ·rename_i a
  simp at bb;subst bb
  exact a S ad w di tmps bx ai dm
 ·cases bb
def ik{bS:lg}{todo:List dR}{ce:iu}{H:K D}(a:ow C bu bG bX bS todo ce H h j v):fR C bu bG bX v bS todo ce H h j=some v:=by
 unfold fR
 rw[Zu a]
def aqd{eI:dR}{q:List dR}{ce:iu}{H:K D}(aF:D.same 30 v v=true):∀k:List (D×K ag),k≠[]->(∀ac T,(ac,T)∈k->∃hC,px eI ac=some hC/\ow C bu bG bX .run (hC::q) ce H T j v)->
 AA (fR C bu bG bX v) eI q ce H j k=some v:=by
 intro k
 induction k with
 |nil=>intro a;exact absurd rfl a
 |cons p k mB=>
  obtain⟨ac,T⟩:=p
  intro _ j7
  obtain⟨hC,I,J⟩:=j7 ac T (Zq ..)
  cases k with
  |nil=>simp only[AA,I];exact ik J
  |cons ah k=>
   have al:=mB Zs (λac T a=>j7 ac T (Zt _ a))
   simp only[AA,I,ik J]
   rw[al]
   simp only[aF,eX]
end
end
end Go.bd

namespace Go.bd
noncomputable section
open Go.RowKit (Below)
abbrev bI:=D->K ag->Nat->Prop
structure cV where
 g:Nat->Option D
 bc:List hI:=[]
 rc:Bool:=false
instance:CoeFun cV (λ_=>Nat->Option D):=⟨cV.g⟩
def aa(H:cV)(d:Nat)(v:D):cV:=⟨λn=>bY (Nat.beq d n) (some v) (H.g n),H.bc,H.rc⟩
def hL(k:List Nat)(H:cV):cV:=⟨λn=>bY (o5 n k) none (H.g n),H.bc,H.rc⟩
def Br(H:cV)(d:hI):cV:=⟨H.g,d::H.bc,H.rc⟩
def Qp(H:cV):cV:=⟨H.g,H.bc,true⟩
abbrev fg:=cV->K ag->Nat->Prop
abbrev sZ:=cV->bI
structure vo where
 rd:Bool
 bc:Bool
 jX:Option (Option D)
def cL{α:Type}(U:Option α)(ak:α->Prop):Prop:=Option.rec (motive:=λ_=>Prop) False (λF=>ak F) U
def ayi{α:Type}{U:Option α}{ak:α->Prop}{F:α}(a:U=some F)(q:ak F):cL U ak:=by subst a;exact q
def tP{α:Type}{U:Option α}{ak:α->Prop}:cL U ak↔∃F,U=some F/\ak F:=by
 cases U with
 |none=>simp[cL]
 |some F=>simp[cL]
structure ax{α:Type}(U:Option α)(ak:α->Prop):Prop where
 out:cL U ak
def ayj{α:Type}(U:Option α)(ak:α->Prop):ax U ak=cL U ak:=propext ⟨λa=>a.out,λa=>⟨a⟩⟩
def fw{α:Type}{U:Option α}{ak:α->Prop}{F:α}(a:U=some F)(q:ak F):ax U ak:=⟨ayi a q⟩
def k5{α:Type}{U:Option α}{ak:α->Prop}:ax U ak↔∃F,U=some F/\ak F:=by rw[ayj];exact tP
def anQ(v:D)(F b:Prop):Prop:=D.rec (motive_1:=λ_=>Prop) (motive_2:=λ_=>Prop)
 (λt=>(t=true->F)/\(t=false->b)) (λ_ _=>False) (λ_=>False) (λ_ _=>False) False (λ_ _ _ _=>False) (λ_ _ _ _=>False) False (λ_=>False) False
 (λ_ _ _ _ _=>False) False (λ_ _ _=>False) False (λ_ _=>False) (λ_ _=>False) False (λ_ _ _ _=>False) v
structure aZ(v:D)(F b:Prop):Prop where
 out:anQ v F b
def abv{v:D}{F b:Prop}(a:aZ v F b):∃t,v= .bool t/\(t=true->F)/\(t=false->b):=by
 have a:=a.out
 cases v with
 |bool t=>exact⟨t,rfl,a⟩
 |_=>exact a.elim
def are(lT:Bool)(v:D)(F b:Prop):Prop:=D.rec (motive_1:=λ_=>Prop) (motive_2:=λ_=>Prop)
 (λt=>(t=lT->F)/\(t=(!lT)->b)) (λ_ _=>b) (λ_=>b) (λ_ _=>b) b (λ_ _ _ _=>b) (λ_ _ _ _=>b) b (λ_=>b) b
 (λ_ _ _ _ _=>b) b (λ_ _ _=>b) b (λ_ _=>b) (λ_ _=>b) b (λ_ _ _ _=>b) v
structure iP(lT:Bool)(v:D)(F b:Prop):Prop where
 out:are lT v F b
structure pP(dW:bI)(body:bI->Prop):Prop where
 out:body dW
def avX(dW:bI)(body:bI->Prop):pP dW body=body dW:=propext ⟨λa=>a.out,λa=>⟨a⟩⟩
structure bB(dW:fg)(body:fg->Prop):Prop where
 out:body dW
structure dh(dW:D->Prop)(body:(D->Prop)->Prop):Prop where
 out:body dW
structure ws(dW:D->K ag->Prop)(body:(D->K ag->Prop)->Prop):Prop where
 out:body dW
def avV(dW:D->K ag->Prop)(body:(D->K ag->Prop)->Prop):ws dW body=body dW:=propext ⟨λa=>a.out,λa=>⟨a⟩⟩
structure UT(dW:Prop)(body:Prop->Prop):Prop where
 out:body dW
def avW(dW:Prop)(body:Prop->Prop):UT dW body=body dW:=propext ⟨λa=>a.out,λa=>⟨a⟩⟩
def kt{dW:fg}{body:fg->Prop}(nO:fg)(I:∀W:fg,(∀H h j,nO H h j->W H h j)->body W)(J:∀H h j,nO H h j->dW H h j):bB dW body:=⟨I dW J⟩
structure fb(n:Nat)(ak:Nat->Prop):Prop where
 out:ak n
structure gw(C:aL)(h:K ag)(j:Nat)(v:D)(cY:ag)(ak:bI):Prop where
 out:ak v (bn C h j (some cY)) (j+1)
structure mF(C:aL)(h:K ag)(b:Nat)(v:D)(cY:ag)(ak:D->K ag->Prop):Prop where
 out:ak v (bn C h b (some cY))
structure xP(C:aL)(h:K ag)(b:Nat)(F:D)(ak:D->K ag->Prop):Prop where
 out:ak (.ptr b 0) (bn C h b (some (.cells (K.ofList F.cells 0 .nil) F.cells.length .own)))
structure iv(C:aL)(h:K ag)(j:Nat)(F:D)(ak:bI):Prop where
 out:ak (.ptr j 0) (bn C h j (some (.cells (K.ofList F.cells 0 .nil) F.cells.length .own))) (j+1)
section
variable(C:aL)(bu:World)(bG:Nat)(bX:List Frame)(v:D)
def Q9(cs:List gL):bI:=λac h j=>uj (fR C bu bG bX v) false cs ac h j=some v
def MY(cs:List gL):bI:=λac h j=>match cs with
 |c::rest=>ahk (fR C bu bG bX v) c rest [⟨ac,false⟩] h j=some v
 |[]=>False
end
def vm(C:aL)(f:Nat)(args:List D)(h:K ag)(j:Nat)(bm eE:bI):Prop:=
 ∀(bu:World) (dP:c9) (d4:Nat->Prop) (_:Env C bu dP d4) (bG:Nat) (bX:List Frame) (v:D) (_:D.same 30 v v=true) (cs:List gL),
  (∀ac T an,bm ac T an->Q9 C bu bG bX v cs ac T an)->(∀ac T an,eE ac T an->MY C bu bG bX v cs ac T an)->
  oH (fR C bu bG bX v) C f args false cs h j=some v
def vm.mono{C:aL}{f:Nat}{args:List D}{h:K ag}{j:Nat}{bm eE rU Jt:bI}(a:vm C f args h j bm eE)(fj:∀ac h j,bm ac h j->rU ac h j)(gO:∀ac h j,eE ac h j->Jt ac h j):
 vm C f args h j rU Jt:=
 λbu dP d4 cI bG bX v aF cs I J=>a bu dP d4 cI bG bX v aF cs (λac h j ah=>I ac h j (fj ac h j ah)) (λac h j ah=>J ac h j (gO ac h j ah))
def Qj(al:hw)(C:aL)(k:Nat)(args:List D)(cs:List gL)(h:K ag)(j:Nat):d7:=match Y C h k with
 |some (.loop _ _ fn n ao c1 params assign body _)=>(match yQ n params args c1 with
  |some c1=>al .run [.code assign, .beginRound, .code body] ⟨fn,n,ao,[],false,some k,cs⟩ c1 h j
  |none=>none)
 |_=>none
def B0(C:aL)(k:Nat)(args:List D)(h:K ag)(j:Nat)(bm eE:bI):Prop:=
 ∀(bu:World) (dP:c9) (d4:Nat->Prop) (_:Env C bu dP d4) (bG:Nat) (bX:List Frame) (v:D) (_:D.same 30 v v=true) (cs:List gL),
  (∀ac T an,bm ac T an->Q9 C bu bG bX v cs ac T an)->(∀ac T an,eE ac T an->MY C bu bG bX v cs ac T an)->
  Qj (fR C bu bG bX v) C k args cs h j=some v
def B0.mono{C:aL}{k:Nat}{args:List D}{h:K ag}{j:Nat}{bm eE rU Jt:bI}(a:B0 C k args h j bm eE)(fj:∀ac h j,bm ac h j->rU ac h j)(gO:∀ac h j,eE ac h j->Jt ac h j):
 B0 C k args h j rU Jt:=
 λbu dP d4 cI bG bX v aF cs I J=>a bu dP d4 cI bG bX v aF cs (λac h j ah=>I ac h j (fj ac h j ah)) (λac h j ah=>J ac h j (gO ac h j ah))
def WY(C:aL)(f:Nat)(args:List D)(jX:Option D)(h:K ag)(j:Nat)(bm:Bool->K ag->Nat->Prop):Prop:=
 ∀(bu:World) (dP:c9) (d4:Nat->Prop) (_:Env C bu dP d4) (bG:Nat) (bX:List Frame) (v:D) (_:D.same 30 v v=true) (fn n ao:Nat) (H:K D) (todo:List dR) (ds:List hI) (aJ:Bool) (ro:Option Nat) (cs:List gL),
  (∀b T an,bm b T an->fR C bu bG bX v (match jX,b with|none,_=> .returning|some _,true=> .returning|some ac,false=> .panicking [⟨ac,false⟩]) todo ⟨fn,n,ao,ds,aJ,ro,cs⟩ H T an=some v)->
  oH (fR C bu bG bX v) C f args true (⟨fn,n,ao,H,todo,ds,(match jX with|none=> .returning|some ac=> .panicking [⟨ac,false⟩]),aJ,ro⟩::cs) h j=some v
structure aY(C:aL)(f:Nat)(args:List D)(h:K ag)(j:Nat)(ak av:bI):Prop where
 out:(∃ac,C.hh f args=some ac/\ak ac h j)\/(C.hh f args=none/\(∃fn c,C.P.funcs[f]? =some fn/\fn.body=some c)/\vm C f args h j ak av)
structure hZ(U:Option d6)(h:K ag)(j:Nat)(ak:bI):Prop where
 out:match U with
 |some (.val v)=>ak v h j
 |some (.fs v T an)=>ak v T an
 |_=>False
def azm(U:Option d6)(h:K ag)(j:Nat)(ak:bI):hZ U h j ak=(match U with
 |some (.val v)=>ak v h j
 |some (.fs v T an)=>ak v T an
 |_=>False):=propext ⟨λa=>a.out,λa=>⟨a⟩⟩
def ahr{U:Option d6}{h:K ag}{j:Nat}{ak:bI}{v:D}(a:U=some (.val v))(q:ak v h j):hZ U h j ak:=by subst a;exact⟨q⟩
def kN{U:Option d6}{h T:K ag}{j an:Nat}{ak:bI}{v:D}(a:U=some (.fs v T an))(q:ak v T an):hZ U h j ak:=by subst a;exact⟨q⟩
structure GZ(U:Option d6)(h:K ag)(j:Nat)(ak:bI):Prop where
 out:match U with
 |some (.val v)=>ak v h j
 |some (.fs v T an)=>ak v T an
 |some (.fork k)=>k≠[]/\∀ac T,(ac,T)∈k->ak ac T j
 |_=>False
def aqf(U:Option d6)(h:K ag)(j:Nat)(ak:bI):GZ U h j ak=(match U with
 |some (.val v)=>ak v h j
 |some (.fs v T an)=>ak v T an
 |some (.fork k)=>k≠[]/\∀ac T,(ac,T)∈k->ak ac T j
 |_=>False):=propext ⟨λa=>a.out,λa=>⟨a⟩⟩
def DY(C:aL)(rd:Bool)(U:Option d6)(h:K ag)(j:Nat)(ak av:bI):Prop:=match U with
 |some (.val v)=>ak v h j
 |some (.fs v T an)=>ak v T an
 |some (.enter f args)=>vm C f args h j ak av
 |some (.round k args)=>B0 C k args h j ak av
 |some (.known _ _ v)=>ak v h j
 |some (.panic v)=>bY rd False (av v h j)
 |some (.fork k)=>k≠[]/\∀ac T,(ac,T)∈k->ak ac T j
 |_=>False
def jQ(x:kC)(aq:List (Nat×D))(H:cV)(ak:D->Prop):Prop:=
 kC.rec (motive:=λ_=>Prop) (λW=>cL (eo aq W) ak) (λn=>cL (H n) ak) (λF=>ak F) x
def NK(aq:List (Nat×D))(H:cV)(k:List kC):(List D->Prop)->Prop:=
 List.rec (motive:=λ_=>(List D->Prop)->Prop) (λak=>ak []) (λx _ al ak=>jQ x aq H λF=>al λr=>ak (F::r)) k
def eK(b8:List (Nat×Nat))(aq:List (Nat×D))(H:cV)(U:Operand)(ak:D->Prop):Prop:=match U with
 | .tmp t=>(match eo b8 t with|some W=>cL (eo aq W) ak|none=>cL (H t) ak)
 | .const v=>cL (Fw v) ak
 | .global g=>ak (.ptr g 0)
 | .func f=>ak (.func (.func f) [] [])
def tO(b8:List (Nat×Nat))(aq:List (Nat×D))(H:cV)(k:List Operand):(List D->Prop)->Prop:=
 List.rec (motive:=λ_=>(List D->Prop)->Prop) (λak=>ak []) (λx _ al ak=>eK b8 aq H x λF=>al λr=>ak (F::r)) k
def Dm(b8:List (Nat×Nat))(aq:List (Nat×D))(H:cV)(k:List (Nat×Operand)):(List (Nat×D)->Prop)->Prop:=
 List.rec (motive:=λ_=>(List (Nat×D)->Prop)->Prop) (λak=>ak []) (λx _ al ak=>eK b8 aq H x.2 λF=>al λr=>ak ((x.1,F)::r)) k
def P4(b8:List (Nat×Nat))(aq:List (Nat×D))(H:cV)(U:Option Operand)(ak:Option D->Prop):Prop:=match U with
 |none=>ak none
 |some x=>eK b8 aq H x λF=>ak (some F)
def kw:Operand:= .global 0
def gS:Operand:= .global 1
def nb:Operand:= .global 2
def kL(F:D):Operand->Option D:=λ_=>some F
def two(F b:D):Operand->Option D:=λU=>match U with| .global 0=>some F|_=>some b
def ahW(F b c:D):Operand->Option D:=λU=>match U with| .global 0=>some F| .global 1=>some b|_=>some c
def HY(n bl:Nat)(F i:D):Option D:=match nD i with|some i=>MD n bl F i|none=>none
def gv(bl:Nat)(F i:D):Option D:=match nD i with|some i=>DA bl F i|none=>none
def acv(C:aL)(t f:Nat)(F:D):Option D:=LI C t kw f .nil (kL F)
def abL(C:aL)(h:K ag)(s d:Nat)(F:D):Option D:=LH C s d kw h (kL F)
def afp(C:aL)(t:Nat)(F:D):Option D:=LJ C t kw .nil (kL F)
def abf(C:aL)(t:Nat)(ok:Bool)(F:D):Option D:=LG C kw t ok .nil (kL F)
def acc(C:aL)(h:K ag)(F:D):Option D:=U6 C kw h (kL F)
def qY(C:aL)(h:K ag)(b:Builtin)(c7:List TypeId)(a8:List D):Option D:=match b,a8 with
 | .len,[x]=>(match c7 with|t::_=>M9 C h t x|_=>none)
 | .cap,[x]=>(match c7 with|t::_=>M6 C t x|_=>none)
 | .max,x::k=>nU true x k
 | .min,x::k=>nU false x k
 |_,_=>none
def gj(C:aL)(h:K ag)(s:Nat)(F v:D):Option (K ag):=match F with
 | .ptr b U=>bY (Nat.beq v.cells.length s&&Nat.blt 0 s) (xK C h b U v.cells) none
 |_=>none
def Hk(C:aL)(h:K ag)(j:Nat)(b:Builtin)(c7:List TypeId)(a8:List D):Option d6:=match b,a8 with
 | .append,[s,x]=>(match c7 with
   |st::iE::_=>(match C.P.underlying iE with
    |some (.int _)=>(match nD x with|some n=>M7 C h j st s n|none=>none)
    |some (.slice _)=>Gp C h j st s x
    |some .string=>Gp C h j st s x
    |_=>none)
   |_=>none)
 |_,_=>none
structure iz(C:aL)(mV:D)(cv:List D)(h:K ag)(j:Nat)(ak av:bI):Prop where
 out:match mV with
 | .func fn first fM=>(match fn with| .func f=>aY C f ((first++cv)++fM) h j ak av| .yield k=>B0 C k (first++cv) h j ak av|_=>False)
 |_=>False
def Qt(C:aL)(t len:Nat)(dr:List (Nat×D))(b:Nat):Option (D×ag):=match C.P.underlying t with
 |some (.slice eg)=>(match js C eg,ub C eg with
  |some s,some bz=>bY (Nat.ble (len*s) 16777216&&Nat.beq bz.cells.length s) ((match Ck (λi=>some (i*s,s)) (k7 len bz.cells) dr with
    |some cs=>some (D.slice b 0 len len,ag.cells (K.ofList cs 0 .nil) cs.length .own)
    |none=>none))<|none
  |_,_=>none)
 |_=>none
structure wQ(av:bI)(F:D)(h:K ag)(j:Nat):Prop where
 out:match F with| .iface t v=>av (.iface t v) h j|_=>False
def ayu(av:bI)(F:D)(h:K ag)(j:Nat):wQ av F h j=(match F with| .iface t v=>av (.iface t v) h j|_=>False):=propext ⟨λa=>a.out,λa=>⟨a⟩⟩
structure agi(C:aL)(rd:Bool)(k8:D)(name:String)(cv:List D)(h:K ag)(j:Nat)(ak av:bI):Prop where
 out:match k8 with
 | .iface t v=>DY C rd (Gq C h t v name cv) h j ak av
 |_=>False
def axj(C:aL)(rd:Bool)(k8:D)(name:String)(cv:List D)(h:K ag)(j:Nat)(ak av:bI):agi C rd k8 name cv h j ak av=(match k8 with
 | .iface t v=>DY C rd (Gq C h t v name cv) h j ak av
 |_=>False):=propext ⟨λa=>a.out,λa=>⟨a⟩⟩
def afY(b8:List (Nat×Nat))(U:Op):aL->K ag->List (Nat×D)->cV->(D->Prop)->Prop:=match U with
 | .build t kh=>λC _ aq H ak=>Dm b8 aq H kh.toList λdr=>ax (M5 C t dr) ak
 | .binOp op t x e _=>λC h aq H ak=>eK b8 aq H x λF=>eK b8 aq H e λb=>ax (dw C h op t (rt x||rt e) F b) ak
 | .unOp op _ x=>λ_ _ aq H ak=>eK b8 aq H x λF=>ax (hp op F) ak
 | .convert s d x=>λC h aq H ak=>eK b8 aq H x λF=>ax (abL C h s d F) ak
 | .makeInterface t x=>λC _ aq H ak=>eK b8 aq H x λF=>ax (afp C t F) ak
 | .makeFunc fn first fM=>λ_ _ aq H ak=>(match fn with
   | .func f=>tO b8 aq H first.toList λF=>tO b8 aq H fM.toList λb=>ak (.func (.func f) F b)
   |_=>False)
 | .slice t x b0 aN g0=>λC h aq H ak=>eK b8 aq H x λF=>P4 b8 aq H b0 λk=>P4 b8 aq H aN λa=>P4 b8 aq H g0 λm=>ax (Nb C h t F k a m) ak
 | .field t x f=>λC _ aq H ak=>eK b8 aq H x λF=>ax (acv C t f F) ak
 | .index t x i=>λC _ aq H ak=>eK b8 aq H x λF=>eK b8 aq H i λb=>ax (M8 C t F b) ak
 | .lookup t m q ok=>λC h aq H ak=>eK b8 aq H m λF=>eK b8 aq H q λb=>ax (Na C h t F b ok) ak
 | .typeAssert x _ t ok=>λC _ aq H ak=>eK b8 aq H x λF=>ax (abf C t ok F) ak
 | .entry eI=>λC h aq H ak=>eK b8 aq H eI λF=>ax (acc C h F) ak
 | .call c=>λC h aq H ak=>(match c with
   |⟨.builtin b,args,c7⟩=>tO b8 aq H args.toList λa8=>ax (qY C h b c7.toList a8) ak
   |_=>False)
 |_=>λ_ _ _ _ _=>False
def If(op:jZ):aL->K ag->List (Nat×D)->cV->(D->Prop)->Prop:=match op with
 | .Fl x=>λ_ _ aq H ak=>jQ x aq H ak
 | .pick c F b=>λ_ _ aq H ak=>jQ c aq H λc=>dh ak λak=>aZ c (jQ F aq H ak) (jQ b aq H ak)
 | .fZ F=>λC h aq H ak=>jQ F aq H λF=>ax (aO C h F) ak
 | .C2 n F=>λC h aq H ak=>jQ F aq H λF=>ax (d8 C h n F) ak
 | .off d x=>λ_ _ aq H ak=>jQ x aq H λF=>ax (hv d F) ak
 | .CV n bl x i=>λ_ _ aq H ak=>jQ x aq H λF=>jQ i aq H λi=>ax (HY n bl F i) ak
 | .CW bl x i=>λ_ _ aq H ak=>jQ x aq H λF=>jQ i aq H λi=>ax (gv bl F i) ak
 | .Fs x=>λ_ _ aq H ak=>jQ x aq H λF=>ax (rN F) ak
 | .Ls op x e=>λ_ _ aq H ak=>jQ x aq H λF=>jQ e aq H λb=>ax (bq op F b) ak
 | .ext i x=>λ_ _ aq H ak=>jQ x aq H λF=>ax (pg i F) ak
 | .ig b8 U=>afY b8 U
 |_=>λ_ _ _ _ _=>False
def agb(op:jZ):aL->K ag->Nat->List (Nat×D)->cV->bI->Prop:=match op with
 | .make b8 U=>(match U with
   | .alloc t=>λC h b _ _ ak=>ax (Fi C t (kL undef) b) λr=>gw C h b r.1 r.2 ak
   | .box _ x=>λC h b aq H ak=>eK b8 aq H x λF=>iv C h b F ak
   | .buildSlice t len kh=>λC h b aq H ak=>Dm b8 aq H kh.toList λdr=>ax (Qt C t len dr b) λr=>gw C h b r.1 r.2 ak
   | .makeMap _ none=>λC h b _ _ ak=>gw C h b (.map b) (.map [] 0) ak
   |_=>λ_ _ _ _ _ _=>False)
 |_=>λ_ _ _ _ _ _=>False
def Vx(op:jZ):aL->K ag->Nat->List (Nat×D)->cV->(D->K ag->Prop)->Prop:=match op with
 | .make b8 U=>(match U with
   | .alloc t=>λC h b _ _ ak=>ax (Fi C t (kL undef) b) λr=>mF C h b r.1 r.2 ak
   | .box _ x=>λC h b aq H ak=>eK b8 aq H x λF=>xP C h b F ak
   | .buildSlice t len kh=>λC h b aq H ak=>Dm b8 aq H kh.toList λdr=>ax (Qt C t len dr b) λr=>mF C h b r.1 r.2 ak
   | .makeMap _ none=>λC h b _ _ ak=>mF C h b (.map b) (.map [] 0) ak
   |_=>λ_ _ _ _ _ _=>False)
 |_=>λ_ _ _ _ _ _=>False
def TM(rd:Bool)(op:jZ):aL->K ag->Nat->List (Nat×D)->cV->bI->bI->Prop:=match op with
 | .st n F v=>λC h j aq H ak _=>jQ F aq H λF=>jQ v aq H λv=>ax (gj C h n F v) λh=>ak undef h j
 | .call f args=>λC h j aq H ak av=>NK aq H args λcv=>aY C f cv h j ak av
 | .fp b8 U=>(match U with
   | .mapUpdate t m q x=>λC h j aq H ak _=>eK b8 aq H m λF=>eK b8 aq H q λb=>eK b8 aq H x λc=>hZ (JC C h j t F b c) h j ak
   | .insert t m q x=>λC h j aq H ak _=>eK b8 aq H m λF=>eK b8 aq H q λb=>eK b8 aq H x λc=>hZ (JC C h j t F b c) h j ak
   | .mapEntry t m q=>λC h j aq H ak _=>eK b8 aq H m λF=>eK b8 aq H q λb=>hZ (Ky C t kw gS h j (two F b)) h j ak
   | .entryStore _ m s x=>λC h j aq H ak _=>eK b8 aq H m λF=>eK b8 aq H s λb=>eK b8 aq H x λc=>hZ (Kq C kw gS nb h j (ahW F b c)) h j ak
   | .makeSlice t k c=>λC h j aq H ak _=>eK b8 aq H k λF=>eK b8 aq H c λb=>hZ (Kx C t kw gS h j (two F b)) h j ak
   | .makeMap t (some r)=>λC h j aq H ak _=>eK b8 aq H r λF=>hZ (Kw C t kw h j (kL F)) h j ak
   | .convert s d x=>λC h j aq H ak _=>eK b8 aq H x λF=>hZ (KB C s d kw h j (kL F)) h j ak
   | .range t x=>λC h j aq H ak _=>eK b8 aq H x λF=>hZ (Kz C t kw h j (kL F)) h j ak
   | .next eI Bd=>λC h j aq H ak _=>eK b8 aq H eI λF=>GZ (yc C kw Bd h j (kL F)) h j ak
   | .panic x=>λ_ h j aq H _ av=>bY rd False (eK b8 aq H x λF=>wQ av F h j)
   | .call c=>λC h j aq H ak av=>(match c with
     |⟨.value f,args,_⟩=>eK b8 aq H f λmV=>tO b8 aq H args.toList λcv=>iz C mV cv h j ak av
     |⟨.builtin b,args,c7⟩=>tO b8 aq H args.toList λa8=>hZ (Hk C h j b c7.toList a8) h j ak
     |⟨.invoke r name,args,_⟩=>eK b8 aq H r λk8=>tO b8 aq H args.toList λcv=>agi C rd k8 name cv h j ak av)
   |_=>λ_ _ _ _ _ _ _=>False)
 |_=>λ_ _ _ _ _ _ _=>False
def VL(rd:Bool)(op:jZ)(C:aL)(h:K ag)(j:Nat)(aq:List (Nat×D))(H:cV)(ak av:bI):Prop:=match m6 op with
 | .ig=>If op C h aq H λv=>ak v h j
 | .make=>agb op C h j aq H ak
 | .fp=>TM rd op C h j aq H ak av
inductive Spec where
 |no
 |defer (b8:List (Nat×Nat)) (f:Operand) (args:List Operand)
 |recover
def FM(op:jZ):Spec:=match op with
 | .fp b8 U=>(match U with
   | .defer c=>(match c with|⟨.value f,args,_⟩=> .defer b8 f args.toList|_=> .no)
   | .call c=>(match c with|⟨.builtin b,args,_⟩=>(match b,args.toList with| .recover,[]=> .recover|_,_=> .no)|_=> .no)
   |_=> .no)
 |_=> .no
def JV(mV:D)(cv:List D)(H:cV)(ak:cV->Prop):Prop:=match mV with
 | .func fn first fM=>ak (Br H ⟨.fn fn fM,first++cv⟩)
 |_=>False
def IM(jX:Option (Option D))(H:cV)(ak:D->cV->Prop):Prop:=match jX with
 |none=>False
 |some none=>ak .nilIface H
 |some (some ac)=>bY H.rc (ak .nilIface H) (ak ac (Qp H))
def QG(g:Option (Nat×Bool))(aq:List (Nat×D))(F b:Prop):Prop:=match g with
 |none=>F
 |some (W,lT)=>cL (eo aq W) λv=>iP lT v F b
def QI(g:Option (Nat×Bool))(aq:List (Nat×D))(p2:bI->Prop)(dW:bI)(h:K ag)(j:Nat):Prop:=match g with
 |none=>p2 dW
 |some (W,lT)=>pP dW λak=>cL (eo aq W) λv=>iP lT v (p2 ak) (ak undef h j)
def sG(g:Option (Nat×Bool))(aq:List (Nat×D))(p2:(D->K ag->Prop)->Prop)(dW:D->K ag->Prop)(h:K ag):Prop:=match g with
 |none=>p2 dW
 |some (W,lT)=>ws dW λak=>cL (eo aq W) λv=>iP lT v (p2 ak) (ak undef h)
def WG(g:Option (Nat×Bool))(aq:List (Nat×D))(p2:Prop->Prop)(dW:Prop):Prop:=match g with
 |none=>p2 dW
 |some (W,lT)=>UT dW λak=>cL (eo aq W) λv=>iP lT v (p2 ak) ak
def aig(g:Option (Nat×Bool))(aq:List (Nat×D))(p2:bI->Prop)(dW:bI)(h:K ag)(j:Nat):QI g aq p2 dW h j=QG g aq (p2 dW) (dW undef h j):=by
 cases g with
 |none=>rfl
 |some p=>exact avX _ _
def aBU(g:Option (Nat×Bool))(aq:List (Nat×D))(p2:(D->K ag->Prop)->Prop)(dW:D->K ag->Prop)(h:K ag):sG g aq p2 dW h=QG g aq (p2 dW) (dW undef h):=by
 cases g with
 |none=>rfl
 |some p=>exact avV _ _
def aBV(g:Option (Nat×Bool))(aq:List (Nat×D))(p2:Prop->Prop)(dW:Prop):WG g aq p2 dW=QG g aq (p2 dW) dW:=by
 cases g with
 |none=>rfl
 |some p=>exact avW _ _
def Kd(k:List (Nat×Nat)):List (Nat×D)->cV->(cV->Prop)->Prop:=
 List.rec (motive:=λ_=>List (Nat×D)->cV->(cV->Prop)->Prop) (λ_ H ak=>ak H)
  (λp _ al aq H ak=>cL (eo aq p.1) λv=>al aq (aa H p.2 v) ak) k
def Dt(C:aL)(bS:vo)(fin:List (Nat×Nat))(ak:fg)(av:sZ)(rest:List ft):List (Nat×D)->cV->K ag->Nat->Prop:=
 List.rec (motive:=λ_=>List (Nat×D)->cV->K ag->Nat->Prop) (λaq H h j=>Kd fin aq H λH=>ak H h j)
  (λx _ al aq H h j=>match FM x.op with
   | .no=>QI x.g aq (λak=>VL bS.rd x.op C h j aq H ak (av H)) (λv h j=>al ((x.i,v)::aq) H h j) h j
   | .defer b8 f args=>bY (x.g.isNone&&bS.bc) (eK b8 aq H f λmV=>tO b8 aq H args λcv=>JV mV cv H λH=>al ((x.i,undef)::aq) H h j) False
   | .recover=>bY (x.g.isNone&& !bS.rd) (IM bS.jX H λv H=>al ((x.i,v)::aq) H h j) False) rest
def PJ(C:aL)(base:Nat)(H:cV)(k:List ft):List (Nat×D)->K ag->(List (Nat×D)->K ag->Prop)->Prop:=
 List.rec (motive:=λ_=>List (Nat×D)->K ag->(List (Nat×D)->K ag->Prop)->Prop) (λaq h ak=>ak aq h)
  (λx _ al aq h ak=>sG x.g aq (λW=>match m6 x.op with
   | .make=>Vx x.op C h (base+x.i) aq H W
   |_=>If x.op C h aq H λv=>W v h) (λv h=>al ((x.i,v)::aq) h ak) h) k
structure gT(x:D)(U:Option D)(ak:Prop):Prop where
 out:cL U λac=>D.same 30 x ac=true/\ak
def VX(C:aL)(H:cV)(aq:List (Nat×D))(h:K ag)(k:List ft):Prop->Prop:=
 List.rec (motive:=λ_=>Prop->Prop) (λak=>ak) (λx _ al ak=>WG x.g aq (λah=>If x.op C h aq H λv=>gT v (eo aq x.i) ah) (al ak)) k
def Se(C:aL)(rd:Bool)(base:Nat)(fin:List (Nat×Nat))(H:cV)(ak:fg)(av:bI)(lB:List xJ):List (Nat×D)->K ag->Nat->Prop:=
 List.rec (motive:=λ_=>List (Nat×D)->K ag->Nat->Prop) (λ_ _ _=>False)
  (λs _ al aq h j=>PJ C base H s.u2 aq h λaq h=>VX C H aq h s.VW (match s.fp with
   |none=>Kd fin aq H λH=>ak H h j
   |some a=>QI a.g aq (λak=>TM rd a.op C h j aq H ak av) (λv h j=>al ((a.i,v)::aq) h j) h j)) lB
structure fF(body:fg->fg)(H:cV)(h:K ag)(j:Nat):Prop where
 out:∃nO:Nat->fg,(∃m,nO m H h j)/\∀m H h j,nO m H h j->body (λH h j=>∃gr,gr<m/\nO gr H h j) H h j
def Eg(id:Nat)(ak:fg)(E:Nat->fg):Nat->fg:=λuX=>bY (Nat.beq id uX) ak (E uX)
def Sn(U:Operand)(H:cV)(ak:D->Prop):Prop:=eK [] [] H U ak
def azi(C:aL)(n ao:Nat)(bS:vo)(av:sZ)(ar:Array Oper)(Cf:Bool)(ak:fg):fg:=λH h j=>Bool.rec (motive:=λ_=>Prop)
 (cL (LS C n ar ao) λr=>Dt C bS r.fin ak (λH=>av (hL (dstsOf ar.toList) H)) r.rest [] H h j)
 (cL (LR C n ar ao) λr=>fb (j+ar.size) λan=>Se C bS.rd j r.fin H ak (av (hL (dstsOf ar.toList) H)) r.lB [] h an) Cf
def IV(n:Nat):List Nat->List D->cV->(cV->Prop)->Prop
 |[],[],H,ak=>ak H
 |p::dr,F::cv,H,ak=>bY (Nat.blt p n) (IV n dr cv (aa H p F) ak) False
 |_,_,_,_=>False
structure anL(C:aL)(k:Nat)(mk:LoopState->Option Code->ag)(h:K ag)(q:Prop):Prop where
 here:Y C h k=some (mk .ready none)
 go:q
structure NG(C:aL)(k:Nat)(mk:LoopState->Option Code->ag)(st:LoopState)(p:Option Code)(b:Bool)(ak:bI)(h:K ag)(j:Nat):Prop where
 here:∃ahG IF,Y C h k=some (mk ahG IF)
 go:ak (.bool b) (bn C h k (some (mk st p))) j
abbrev MS:=vo->sZ->fg->(Nat->fg)->fg->fg
def C8:vo:=⟨true,false,none⟩
def tV(C:aL)(A bh:MS)(k:Nat)(mk:LoopState->Option Code->ag)(ak av:bI):fg:=λH h j=>
 A C8 (λ_=>av) (λH h j=>anL C k mk h (bh C8 (λ_=>av) (λ_ h j=>NG C k mk .ready none true ak h j) (λid _ h j=>NG C k mk .done (some (.exit id)) false ak h j)
   (λ_ h j=>NG C k mk .done (some .ret) false ak h j) H (bn C h k (some (mk .busy none))) j)) (λ_ _ _ _=>False) (λ_ _ _=>False) H h j
def agW(p:Option Code)(ak:fg)(E:Nat->fg)(r:fg):fg:=match p with
 |none=>ak
 |some c=>(match c with| .exit id=>E id| .ret=>r|_=>λ_ _ _=>False)
def wJ(H:cV)(j:Nat):cV:=Br H ⟨.collected j,[]⟩
structure FE(C:aL)(n:Nat)(mV:D)(params:List Nat)(eE:Nat->(LoopState->Option Code->ag)->bI->bI->fg)(ak:fg)(E:Nat->fg)(r:fg)(av:sZ)(H:cV)(h:K ag)(j:Nat):Prop where
 low:C.a2<=j
 out:match mV with
  | .func fn first fM=>(match fn with
    | .func g=>∀mk:LoopState->Option Code->ag,
       (∀args T an BJ ev,Y C T (j+1)=some (mk .ready none)->IV n params args H (λrW=>eE (j+1) mk BJ ev rW T an)->B0 C (j+1) args T an BJ ev)->
       vm C g (first++[.func (.yield (j+1)) [] []]++fM) (bn C (bn C h j (some (.deferred (some [])))) (j+1) (some (mk .ready none))) (j+2)
        (λ_ T an=>∃st p,st≠ .busy/\Y C T (j+1)=some (mk st p)/\agW p ak E r (wJ H j) (bn C T (j+1) (some (mk .exhausted p))) an)
        (av (wJ H j))
    |_=>False)
  |_=>False
def xT(C:aL)(n ao:Nat)(c:Code):MS:=
 Code.rec (motive:=λ_=>MS)
  (λ_ _ ak _ _=>ak)
  (λ_ ar d bS av ak _ _=>azi C n ao bS av ar d ak)
  (λ_ _ m2 hB bS av ak E r=>m2 bS av (hB bS av ak E r) E r)
  (λc _ _ m2 hB bS av ak E r H h j=>Sn c H λv=>bB ak λak=>aZ v (m2 bS av ak E r H h j) (hB bS av ak E r H h j))
  (λid _ hB bS av ak E r H h j=>bB ak λak=>hB bS av ak (Eg id ak E) r H h j)
  (λ_ hB bS av _ E r=>fF λRE=>hB bS av RE E r)
  (λf params _ _ m2 hB bS av ak E r H h j=>bY bS.bc (Sn f H λmV=>FE C n mV params.toList (tV C m2 hB) ak E r av H h j) False)
  (λid _ _ _ E _=>E id)
  (λ_ hB bS av ak E r=>hB bS av ak E r)
  (λ_ _ _ ak _ _=>ak)
  (λ_ _ _ _ _ _ _ _ _=>False)
  (λ_ _ _ _ r=>r)
  (λ_ _ _ _ _ _ _ _ _=>False) c
def rE(C:aL)(h:K ag)(H:cV)(k:List ResultVar):(List D->Prop)->Prop:=
 List.rec (motive:=λ_=>(List D->Prop)->Prop) (λak=>ak [])
  (λx _ al ak=>ResultVar.rec (motive:=λ_=>Prop) (λt=>cL (H t) λv=>al λr=>ak (v::r)) (λF t=>cL (H F) λp=>ax (l0 C h t p) λv=>al λr=>ak (v::r)) x) k
def cO(k:List D):cV:=⟨λn=>o6 k n,[],false⟩
structure us(C:aL)(fn:Fn)(cv:List D)(jX:Option D)(h:K ag)(j:Nat)(bm:Bool->K ag->Nat->Prop):Prop where
 out:match fn with
  | .func f=>C.hh f cv=none/\(∃fn c,C.P.funcs[f]? =some fn/\fn.body=some c)/\WY C f cv jX h j bm
  |_=>False
structure PV(C:aL)(r:Nat)(h:K ag)(q:Prop):Prop where
 low:C.a2<=r
 here:Y C h r=some (.deferred (some []))
 go:q
def nI(C:aL)(Mf:List ResultVar)(bm:bI)(H:cV)(ds:List hI):K ag->Nat->Prop:=
 List.rec (motive:=λ_=>K ag->Nat->Prop) (λh j=>rE C h H Mf λa8=>bm (one a8) h j)
  (λd _ al h j=>match d.target with
   | .collected r=>PV C r h (al (bn C h r (some (.deferred none))) j)
   | .fn fn cap=>us C fn (d.args++cap) none h j λ_ h j=>al h j) ds
def wP(C:aL)(Mf:List ResultVar)(bm eE:bI)(H:cV)(ac:D):List hI->K ag->Nat->Prop
 |[],h,j=>eE ac h j
 |d::ds,h,j=>match d.target with
   | .collected r=>PV C r h (wP C Mf bm eE H ac ds (bn C h r (some (.deferred none))) j)
   | .fn fn cap=>us C fn (d.args++cap) (some ac) h j λb h j=>bY b (nI C Mf bm H ds h j) (wP C Mf bm eE H ac ds h j)
def Il:vo:=⟨false,false,none⟩
def Bj:vo:=⟨false,true,none⟩
def Cl(C:aL)(f:Nat)(args:List D)(h:K ag)(j:Nat)(bm eE:bI):Prop:=match C.P.funcs[f]? with
 |some fn=>(match fn.body with
  |some c=>xT C fn.ntmps (Nat.lor (kv c) (oh fn.results.toList)) c Bj (λH ac h j=>wP C fn.results.toList bm eE H ac H.bc h j) (λH h j=>nI C fn.results.toList bm H H.bc h j) (λ_ _ _ _=>False)
    (λH h j=>nI C fn.results.toList bm H H.bc h j) (cO args) h j
  |none=>False)
 |none=>False
def Ay(C:aL)(f:Nat)(args:List D)(jX:Option D)(h:K ag)(j:Nat)(bm:Bool->K ag->Nat->Prop):Prop:=match C.P.funcs[f]? with
 |some fn=>(match fn.body with
  |some c=>xT C fn.ntmps (Nat.lor (kv c) (oh fn.results.toList)) c ⟨false,false,some jX⟩ (λ_ _ _ _=>False) (λH h j=>rE C h H fn.results.toList λ_=>bm H.rc h j) (λ_ _ _ _=>False)
    (λH h j=>rE C h H fn.results.toList λ_=>bm H.rc h j) (cO args) h j
  |none=>False)
 |none=>False
def dg(C:aL)(f:Nat)(args:List D)(h:K ag)(j:Nat)(bm eE:bI):Prop:=match C.P.funcs[f]? with
 |some fn=>(match fn.body with
  |some c=>xT C fn.ntmps (Nat.lor (kv c) (oh fn.results.toList)) c Il (λ_=>eE) (λH h j=>rE C h H fn.results.toList λa8=>bm (one a8) h j) (λ_ _ _ _=>False)
    (λH h j=>rE C h H fn.results.toList λa8=>bm (one a8) h j) (cO args) h j
  |none=>False)
 |none=>False
def cW(C:aL)(f d1:Nat):Bool:=match C.P.funcs[f]? with
 |some fn=>(match fn.body with
  |some c=>Nat.ble d1 fn.ntmps&&l4 C (Nat.lor (kv c) (oh fn.results.toList)) c&&Bs (Nat.lor (kv c) (oh fn.results.toList)) fn.results.toList
  |none=>false)
 |none=>false
end
end Go.bd

namespace Go.bd
noncomputable section
open Go.RowKit (Below)
def g3(H:cV)(t:K D):Prop:=∀n v,H.g n=some v->t.get n=some v
section
variable{C:aL}{h:K ag}{j:Nat}{aq:List (Nat×D)}{H:cV}{t:K D}
def oI(a:g3 H t){x:kC}{ak:D->Prop}(ay:jQ x aq H ak):∃F,lm x aq t=some F/\ak F:=by
 cases x with
 |v W=>exact tP.1 ay
 |t n=>
  obtain⟨F,I,J⟩:=tP.1 (show cL (H n) ak from ay)
  exact⟨F,a n F I,J⟩
 |c F=>exact⟨F,rfl,ay⟩
def apM(a:g3 H t):∀{k:List kC}{ak:List D->Prop},NK aq H k ak->∃cv,Ch aq t k=some cv/\ak cv:=by
 intro k
 induction k with
 |nil=>intro ak ay;exact⟨[],rfl,ay⟩
 |cons x k al=>
  intro ak ay
  obtain⟨F,I,J⟩:=oI a (show jQ x aq H (λF=>NK aq H k λr=>ak (F::r)) from ay)
  obtain⟨r,am,aB⟩:=al J
  exact⟨F::r,by simp[Ch,I,am],aB⟩
def hu(a:g3 H t){b8:List (Nat×Nat)}{U:Operand}{ak:D->Prop}(ay:eK b8 aq H U ak):∃F,ji b8 aq t U=some F/\ak F:=by
 cases U with
 |tmp n=>
  simp only[eK]at ay
  simp only[ji]
  cases bK:eo b8 n with
  |some W=>simp only[bK]at ay ⊢;exact tP.1 ay
  |none=>
   simp only[bK]at ay ⊢
   obtain⟨F,I,J⟩:=tP.1 ay
   exact⟨F,a n F I,J⟩
 |const v=>exact tP.1 ay
 |global g=>exact⟨_,rfl,ay⟩
 |func f=>exact⟨_,rfl,ay⟩
def FA(a:g3 H t){b8:List (Nat×Nat)}:∀{k:List Operand}{ak:List D->Prop},tO b8 aq H k ak->∃cv,qo (ji b8 aq t) k=some cv/\ak cv:=by
 intro k
 induction k with
 |nil=>intro ak ay;exact⟨[],rfl,ay⟩
 |cons x k al=>
  intro ak ay
  obtain⟨F,I,J⟩:=hu a (show eK b8 aq H x (λF=>tO b8 aq H k λr=>ak (F::r)) from ay)
  obtain⟨r,am,aB⟩:=al J
  exact⟨F::r,by simp[qo,I,am],aB⟩
def VN(a:g3 H t){b8:List (Nat×Nat)}:∀{k:List (Nat×Operand)}{ak:List (Nat×D)->Prop},Dm b8 aq H k ak->∃cv,Au (ji b8 aq t) k=some cv/\ak cv:=by
 intro k
 induction k with
 |nil=>intro ak ay;exact⟨[],rfl,ay⟩
 |cons x k al=>
  intro ak ay
  obtain⟨i,U⟩:=x
  obtain⟨F,I,J⟩:=hu a (show eK b8 aq H U (λF=>Dm b8 aq H k λr=>ak ((i,F)::r)) from ay)
  obtain⟨r,am,aB⟩:=al J
  exact⟨(i,F)::r,by simp[Au,I,am],aB⟩
def VJ(a:g3 H t){b8:List (Nat×Nat)}{U:Option Operand}{ak:Option D->Prop}(ay:P4 b8 aq H U ak):∃F,Dj (ji b8 aq t) U=some F/\ak F:=by
 cases U with
 |none=>exact⟨none,rfl,ay⟩
 |some x=>
  obtain⟨F,I,J⟩:=hu a (show eK b8 aq H x (λF=>ak (some F)) from ay)
  exact⟨some F,by simp[Dj,I],J⟩
def awO(a:g3 H t){b8:List (Nat×Nat)}{U:Op}{ak:D->Prop}(ay:afY b8 U C h aq H ak):∃v,oz U C h (ji b8 aq t)=some v/\ak v:=by
 cases U with
 |build ty kh=>
  obtain⟨dr,I,J⟩:=VN a (show Dm b8 aq H kh.toList _ from ay)
  obtain⟨v,am,aB⟩:=(k5.1 J)
  exact⟨v,by simp[oz,U3,I,am],aB⟩
 |binOp op ty x e I9=>
  obtain⟨F,I,J⟩:=hu a (show eK b8 aq H x _ from ay)
  obtain⟨b,am,aB⟩:=hu a J
  obtain⟨v,bk,b6⟩:=(k5.1 aB)
  exact⟨v,by simp[oz,PF,I,am,bk],b6⟩
 |unOp op ty x=>
  obtain⟨F,I,J⟩:=hu a (show eK b8 aq H x _ from ay)
  obtain⟨v,am,aB⟩:=(k5.1 J)
  exact⟨v,by simp[oz,Vb,I,am],aB⟩
 |convert s d x=>
  obtain⟨F,I,J⟩:=hu a (show eK b8 aq H x _ from ay)
  obtain⟨v,am,aB⟩:=(k5.1 J)
  exact⟨v,by simpa[oz,LH,abL,kL,I]using am,aB⟩
 |makeInterface ty x=>
  obtain⟨F,I,J⟩:=hu a (show eK b8 aq H x _ from ay)
  obtain⟨v,am,aB⟩:=(k5.1 J)
  exact⟨v,by simpa[oz,LJ,afp,kL,I]using am,aB⟩
 |makeFunc fn first fM=>
  cases fn with
  |func f=>
   obtain⟨F,I,J⟩:=FA a (show tO b8 aq H first.toList _ from ay)
   obtain⟨b,am,aB⟩:=FA a J
   exact⟨_,by simp[oz,U7,I,am],aB⟩
  |_=>exact ay.elim
 |slice ty x b0 aN g0=>
  obtain⟨F,I,J⟩:=hu a (show eK b8 aq H x _ from ay)
  obtain⟨k,am,aB⟩:=VJ a J
  obtain⟨b,bk,b6⟩:=VJ a aB
  obtain⟨m,c5,eb⟩:=VJ a b6
  obtain⟨v,g5,lp⟩:=(k5.1 eb)
  exact⟨v,by simp[oz,Va,I,am,bk,c5,g5],lp⟩
 |field ty x f=>
  obtain⟨F,I,J⟩:=hu a (show eK b8 aq H x _ from ay)
  obtain⟨v,am,aB⟩:=(k5.1 J)
  exact⟨v,by simpa[oz,LI,acv,kL,I]using am,aB⟩
 |index ty x i=>
  obtain⟨F,I,J⟩:=hu a (show eK b8 aq H x _ from ay)
  obtain⟨b,am,aB⟩:=hu a J
  obtain⟨v,bk,b6⟩:=(k5.1 aB)
  exact⟨v,by simp[oz,U8,I,am,bk],b6⟩
 |lookup ty m q ok=>
  obtain⟨F,I,J⟩:=hu a (show eK b8 aq H m _ from ay)
  obtain⟨b,am,aB⟩:=hu a J
  obtain⟨v,bk,b6⟩:=(k5.1 aB)
  exact⟨v,by simp[oz,U9,I,am,bk],b6⟩
 |typeAssert x ty vv ok=>
  obtain⟨F,I,J⟩:=hu a (show eK b8 aq H x _ from ay)
  obtain⟨v,am,aB⟩:=(k5.1 J)
  exact⟨v,by simpa[oz,LG,abf,kL,I]using am,aB⟩
 |entry eI=>
  obtain⟨F,I,J⟩:=hu a (show eK b8 aq H eI _ from ay)
  obtain⟨v,am,aB⟩:=(k5.1 J)
  exact⟨v,by simpa[oz,U6,acc,kL,I]using am,aB⟩
 |call c=>
  obtain⟨callee,args,c7⟩:=c
  cases callee with
  |builtin b=>
   obtain⟨a8,I,J⟩:=FA a (show tO b8 aq H args.toList _ from ay)
   obtain⟨v,am,aB⟩:=(k5.1 J)
   refine⟨v, ?_,aB⟩
   have E:oz (.call ⟨.builtin b,args,c7⟩) C h (ji b8 aq t)=qY C h b c7.toList a8:=by
    simp only[oz,U5,U4,I,qY]
    repeat' split
    all_goals first|rfl|simp_all
   rw[E];exact am
  |_=>exact ay.elim
 |_=>exact ay.elim
def PH(a:g3 H t){op:jZ}{ak:D->Prop}(ay:If op C h aq H ak):∃v,gW op C h aq t=some v/\ak v:=by
 cases op with
 |Fl x=>exact oI a ay
 |pick c F b=>
  obtain⟨abM,I,J⟩:=oI a (show jQ c aq H _ from ay)
  obtain⟨QA,rfl,am,aB⟩:=abv J.out
  cases QA with
  |true=>
   obtain⟨v,bk,b6⟩:=oI a (am rfl)
   exact⟨v,by simp[gW,I,QO,bk],b6⟩
  |false=>
   obtain⟨v,bk,b6⟩:=oI a (aB rfl)
   exact⟨v,by simp[gW,I,QO,bk],b6⟩
 |fZ F=>
  obtain⟨fV,I,J⟩:=oI a (show jQ F aq H _ from ay)
  obtain⟨v,am,aB⟩:=(k5.1 J)
  exact⟨v,by simp[gW,I,am],aB⟩
 |C2 n F=>
  obtain⟨fV,I,J⟩:=oI a (show jQ F aq H _ from ay)
  obtain⟨v,am,aB⟩:=(k5.1 J)
  exact⟨v,by simp[gW,I,am],aB⟩
 |off d x=>
  obtain⟨fV,I,J⟩:=oI a (show jQ x aq H _ from ay)
  obtain⟨v,am,aB⟩:=(k5.1 J)
  exact⟨v,by simp[gW,I,am],aB⟩
 |CV n bl x i=>
  obtain⟨fV,I,J⟩:=oI a (show jQ x aq H _ from ay)
  obtain⟨cD,am,aB⟩:=oI a J
  obtain⟨v,bk,b6⟩:=(k5.1 aB)
  exact⟨v,by simp only[gW,I,am];unfold HY at bk;cases aN:nD cD<;>simp_all,b6⟩
 |CW bl x i=>
  obtain⟨fV,I,J⟩:=oI a (show jQ x aq H _ from ay)
  obtain⟨cD,am,aB⟩:=oI a J
  obtain⟨v,bk,b6⟩:=(k5.1 aB)
  exact⟨v,by simp only[gW,I,am];unfold gv at bk;cases aN:nD cD<;>simp_all,b6⟩
 |Fs x=>
  obtain⟨fV,I,J⟩:=oI a (show jQ x aq H _ from ay)
  obtain⟨v,am,aB⟩:=(k5.1 J)
  exact⟨v,by simp[gW,I,am],aB⟩
 |Ls op x e=>
  obtain⟨fV,I,J⟩:=oI a (show jQ x aq H _ from ay)
  obtain⟨cD,am,aB⟩:=oI a J
  obtain⟨v,bk,b6⟩:=(k5.1 aB)
  exact⟨v,by simp[gW,I,am,bk],b6⟩
 |ext i x=>
  obtain⟨fV,I,J⟩:=oI a (show jQ x aq H _ from ay)
  obtain⟨v,am,aB⟩:=(k5.1 J)
  exact⟨v,by simp[gW,I,am],aB⟩
 |ig b8 U=>exact awO a ay
 |_=>exact ay.elim
def axb(a:g3 H t){op:jZ}{b:Nat}{ak:bI}(ay:agb op C h b aq H ak):∃v cY,oJ op C b aq t=some (v,cY)/\ak v (bn C h b (some cY)) (b+1):=by
 cases op with
 |make b8 U=>
  cases U with
  |alloc ty=>
   obtain⟨⟨v,cY⟩,I,J⟩:=k5.1 (show ax (Fi C ty (kL undef) b) _ from ay)
   exact⟨v,cY,I,J.out⟩
  |box ty x=>
   obtain⟨F,I,J⟩:=hu a (show eK b8 aq H x _ from ay)
   exact⟨_,_,by simp only[oJ,qW,LN,I],J.out⟩
  |buildSlice ty len kh=>
   obtain⟨dr,I,J⟩:=VN a (show Dm b8 aq H kh.toList _ from ay)
   obtain⟨⟨v,cY⟩,am,aB⟩:=(k5.1 J)
   refine⟨v,cY, ?_,aB.out⟩
   simp only[oJ,qW,LO,I]
   unfold Qt at am
   split at am
   ·rename_i bb
    simp only[bb]
    exact am
   ·cases am
  |makeMap ty r=>
   cases r with
   |none=>exact⟨_,_,rfl,(show gw C h b _ _ ak from ay).out⟩
   |some r=>exact ay.elim
  |_=>exact ay.elim
 |_=>exact ay.elim
def aw9(a:g3 H t){op:jZ}{b:Nat}{ak:D->K ag->Prop}(ay:Vx op C h b aq H ak):∃v cY,oJ op C b aq t=some (v,cY)/\ak v (bn C h b (some cY)):=by
 cases op with
 |make b8 U=>
  cases U with
  |alloc ty=>
   obtain⟨⟨v,cY⟩,I,J⟩:=k5.1 (show ax (Fi C ty (kL undef) b) _ from ay)
   exact⟨v,cY,I,J.out⟩
  |box ty x=>
   obtain⟨F,I,J⟩:=hu a (show eK b8 aq H x _ from ay)
   exact⟨_,_,by simp only[oJ,qW,LN,I],J.out⟩
  |buildSlice ty len kh=>
   obtain⟨dr,I,J⟩:=VN a (show Dm b8 aq H kh.toList _ from ay)
   obtain⟨⟨v,cY⟩,am,aB⟩:=(k5.1 J)
   refine⟨v,cY, ?_,aB.out⟩
   simp only[oJ,qW,LO,I]
   unfold Qt at am
   split at am
   ·rename_i bb
    simp only[bb]
    exact am
   ·cases am
  |makeMap ty r=>
   cases r with
   |none=>exact⟨_,_,rfl,(show mF C h b _ _ ak from ay).out⟩
   |some r=>exact ay.elim
  |_=>exact ay.elim
 |_=>exact ay.elim
def abz{rd:Bool}{f:Nat}{cv:List D}{ak av:bI}(a:aY C f cv h j ak av):∃r,s3 C f cv=some r/\DY C rd (some r) h j ak av:=by
 rcases a.out with ⟨ac,I,J⟩|⟨I,⟨fn,c,J,am⟩,aB⟩
 ·exact⟨.known f cv ac,by simp[s3,I],J⟩
 ·exact⟨.enter f cv,by simp[s3,I,J,am],aB⟩
def Bt{rd:Bool}{U:Option d6}{ak av:bI}(a:hZ U h j ak):∃r,U=some r/\DY C rd (some r) h j ak av:=by
 rw[azm]at a
 split at a
 ·exact⟨_,rfl,a⟩
 ·exact⟨_,rfl,a⟩
 ·exact a.elim
def aqe{rd:Bool}{U:Option d6}{ak av:bI}(a:GZ U h j ak):∃r,U=some r/\DY C rd (some r) h j ak av:=by
 rw[aqf]at a
 split at a
 ·exact⟨_,rfl,a⟩
 ·exact⟨_,rfl,a⟩
 ·exact⟨_,rfl,a⟩
 ·exact a.elim
def adW(a:g3 H t){rd:Bool}{op:jZ}{ak av:bI}(ay:TM rd op C h j aq H ak av):∃r,hU op C h j aq t=some r/\DY C rd (some r) h j ak av:=by
 cases op with
 |st n F v=>
  obtain⟨fV,I,J⟩:=oI a (show jQ F aq H _ from ay)
  obtain⟨gK,am,aB⟩:=oI a J
  obtain⟨T,bk,b6⟩:=(k5.1 aB)
  refine⟨.fs undef T j, ?_,b6⟩
  simp only[hU,I,am]
  unfold gj at bk
  split at bk
  ·simp only[e1]at bk
   simp[Qv,bk.2,fA,bk.1]
  ·cases bk
 |call f args=>
  obtain⟨cv,I,J⟩:=apM a (show NK aq H args _ from ay)
  obtain⟨r,am,aB⟩:=abz (rd:=rd) J
  exact⟨r,by simp[hU,I,am],aB⟩
 |fp b8 U=>
  cases U with
  |mapUpdate ty m q x=>
   obtain⟨F,I,J⟩:=hu a (show eK b8 aq H m _ from ay)
   obtain⟨b,am,aB⟩:=hu a J
   obtain⟨c,bk,b6⟩:=hu a aB
   obtain⟨r,c5,eb⟩:=Bt (C:=C) (av:=av) (rd:=rd) b6
   exact⟨r,by simp[hU,nT,Hg,I,am,bk,c5],eb⟩
  |insert ty m q x=>
   obtain⟨F,I,J⟩:=hu a (show eK b8 aq H m _ from ay)
   obtain⟨b,am,aB⟩:=hu a J
   obtain⟨c,bk,b6⟩:=hu a aB
   obtain⟨r,c5,eb⟩:=Bt (C:=C) (av:=av) (rd:=rd) b6
   exact⟨r,by simp[hU,nT,Hg,I,am,bk,c5],eb⟩
  |mapEntry ty m q=>
   obtain⟨F,I,J⟩:=hu a (show eK b8 aq H m _ from ay)
   obtain⟨b,am,aB⟩:=hu a J
   obtain⟨r,c5,eb⟩:=Bt (C:=C) (av:=av) (rd:=rd) aB
   exact⟨r,by simpa[hU,nT,Ky,two,Go.bd.kw,Go.bd.gS,I,am]using c5,eb⟩
  |entryStore ty m s x=>
   obtain⟨F,I,J⟩:=hu a (show eK b8 aq H m _ from ay)
   obtain⟨b,am,aB⟩:=hu a J
   obtain⟨c,bk,b6⟩:=hu a aB
   obtain⟨r,c5,eb⟩:=Bt (C:=C) (av:=av) (rd:=rd) b6
   exact⟨r,by simpa[hU,nT,Kq,ahW,Go.bd.kw,Go.bd.gS,Go.bd.nb,I,am,bk]using c5,eb⟩
  |makeSlice ty k c=>
   obtain⟨F,I,J⟩:=hu a (show eK b8 aq H k _ from ay)
   obtain⟨b,am,aB⟩:=hu a J
   obtain⟨r,c5,eb⟩:=Bt (C:=C) (av:=av) (rd:=rd) aB
   exact⟨r,by simpa[hU,nT,Kx,two,Go.bd.kw,Go.bd.gS,I,am]using c5,eb⟩
  |makeMap ty jI=>
   cases jI with
   |none=>exact ay.elim
   |some x=>
    obtain⟨F,I,J⟩:=hu a (show eK b8 aq H x _ from ay)
    obtain⟨r,c5,eb⟩:=Bt (C:=C) (av:=av) (rd:=rd) J
    exact⟨r,by simpa[hU,nT,Kw,kL,I]using c5,eb⟩
  |convert s d x=>
   obtain⟨F,I,J⟩:=hu a (show eK b8 aq H x _ from ay)
   obtain⟨r,c5,eb⟩:=Bt (C:=C) (av:=av) (rd:=rd) J
   exact⟨r,by simpa[hU,nT,KB,kL,I]using c5,eb⟩
  |range ty x=>
   obtain⟨F,I,J⟩:=hu a (show eK b8 aq H x _ from ay)
   obtain⟨r,c5,eb⟩:=Bt (C:=C) (av:=av) (rd:=rd) J
   exact⟨r,by simpa[hU,nT,Kz,kL,I]using c5,eb⟩
  |next eI Bd=>
   obtain⟨F,I,J⟩:=hu a (show eK b8 aq H eI _ from ay)
   obtain⟨r,c5,eb⟩:=aqe (C:=C) (av:=av) (rd:=rd) J
   exact⟨r,by simpa[hU,nT,yc,kL,I]using c5,eb⟩
  |panic x=>
   cases rd with
   |true=>exact(show False from ay).elim
   |false=>
    obtain⟨F,I,J⟩:=hu a (show eK b8 aq H x _ from ay)
    rw[ayu]at J
    split at J
    ·rename_i pe aBN
     exact⟨.panic (.iface pe aBN),by simp[hU,nT,Tn,I],J⟩
    ·exact J.elim
  |call c=>
   obtain⟨callee,args,c7⟩:=c
   cases callee with
   |value f=>
    obtain⟨mV,I,J⟩:=hu a (show eK b8 aq H f _ from ay)
    obtain⟨cv,am,aB⟩:=FA a J
    have aB:=aB.out
    split at aB
    ·split at aB
     ·obtain⟨r,bk,b6⟩:=abz (rd:=rd) aB
      exact⟨r,by simp[hU,nT,Et,I,am,B3];simpa using bk,b6⟩
     ·exact⟨.round _ _,by simp only[hU,nT,Et,I,am,B3],aB⟩
     ·exact aB.elim
    ·exact aB.elim
   |builtin b=>
    obtain⟨a8,I,J⟩:=FA a (show tO b8 aq H args.toList _ from ay)
    obtain⟨r,c5,eb⟩:=Bt (C:=C) (av:=av) (rd:=rd) J
    refine⟨r, ?_,eb⟩
    have E:∀r,Hk C h j b c7.toList a8=some r->hU (.fp b8 (.call ⟨.builtin b,args,c7⟩)) C h j aq t=some r:=by
     intro r V
     simp only[hU,nT,Et,Kk,I]
     unfold Hk at V
     split at V
     all_goals first|exact V|cases V
    exact E r c5
   |invoke x name=>
    obtain⟨k8,I,J⟩:=hu a (show eK b8 aq H x _ from ay)
    obtain⟨cv,am,aB⟩:=FA a J
    rw[axj]at aB
    split at aB
    ·cases bp:Gq C h _ _ name cv with
     |none=>rw[bp]at aB;exact aB.elim
     |some r=>rw[bp]at aB;exact⟨r,by simp[hU,nT,Et,I,am,bp],aB⟩
    ·exact aB.elim
  |_=>exact ay.elim
 |_=>exact ay.elim
def arf{lT:Bool}{v:D}{F b:Prop}(a:iP lT v F b):∃w,(match v with| .bool b=>some (b==lT)|_=>some false)=some w/\(w=true->F)/\(w=false->b):=by
 have a:=a.out
 cases v with
 |bool t=>
  obtain⟨I,J⟩:=a
  refine⟨t==lT,rfl,λE=>I (by simpa using E),λE=>J ?_⟩
  cases t<;>cases lT<;>simp_all
 |_=>exact⟨false,rfl,Zs,λ_=>a⟩
def QH{g:Option (Nat×Bool)}{F b:Prop}(a:QG g aq F b):∃w,pf g aq=some w/\(w=true->F)/\(w=false->b):=by
 cases g with
 |none=>exact⟨true,rfl,λ_=>a,Zs⟩
 |some p=>
  obtain⟨W,lT⟩:=p
  obtain⟨v,I,J⟩:=tP.1 (show cL (eo aq W) _ from a)
  obtain⟨w,am,aB⟩:=arf J
  exact⟨w,by simp only[pf,I];exact am,aB⟩
def ahC(a:g3 H t)(d:Nat)(v:D):g3 (aa H d v) (t.set d (some v)):=by
 intro n ac bb
 have bb:=(show bY (Nat.beq d n) (some v) (H.g n)=some ac from bb)
 rw[hK]at bb
 rw[K.kI]
 split at bb
 ·rename_i E;rw[Zu E];exact bb
 ·rename_i E;rw[Zg E];exact a n ac bb
def acy:∀{k:List (Nat×Nat)}{H:cV}{t:K D}{ak:cV->Prop},g3 H t->Kd k aq H ak->∃c1 ha,Aw aq k t=some ha/\g3 c1 ha/\(c1.bc=H.bc/\c1.rc=H.rc)/\ak c1:=by
 intro k
 induction k with
 |nil=>intro H t ak a ay;exact⟨H,t,rfl,a,⟨rfl,rfl⟩,ay⟩
 |cons p k al=>
  intro H t ak a ay
  obtain⟨i,d⟩:=p
  obtain⟨v,I,J⟩:=tP.1 (show cL (eo aq i) (λv=>Kd k aq (aa H d v) ak) from ay)
  obtain⟨c1,ha,am,aB,bk⟩:=al (ahC a d v) J
  exact⟨c1,ha,by simp[Aw,I,am],aB,bk⟩
def aAt{op:jZ}{b8:List (Nat×Nat)}{f:Operand}{args:List Operand}(a:FM op= .defer b8 f args):∃c:Array Operand×Array TypeId,args=c.1.toList/\op= .fp b8 (.defer ⟨.value f,c.1,c.2⟩):=by
 unfold FM at a
 split at a
 ·split at a
  ·split at a
   ·injection a with I J am
    subst I J am
    exact⟨(_,_),rfl,rfl⟩
   ·cases a
  ·split at a
   ·split at a<;>cases a
   ·cases a
  ·cases a
 ·cases a
def aAu{op:jZ}(a:FM op= .recover):∃b8 c7 args,op= .fp b8 (.call ⟨.builtin .recover,args,c7⟩)/\args.toList=[]:=by
 unfold FM at a
 split at a
 ·split at a
  ·split at a<;>cases a
  ·split at a
   ·split at a
    ·rename_i aC
     exact⟨_,_,_,rfl,aC⟩
    ·cases a
   ·cases a
  ·cases a
 ·cases a
def azq(a:g3 H t):∀{k:List ResultVar}{ak:List D->Prop},rE C h H k ak->∃a8,yN C h t k=some a8/\ak a8:=by
 intro k
 induction k with
 |nil=>intro ak ay;exact⟨[],rfl,ay⟩
 |cons x k al=>
  intro ak ay
  cases x with
  |tmp n=>
   obtain⟨v,I,J⟩:=tP.1 (show cL (H n) (λv=>rE C h H k λr=>ak (v::r)) from ay)
   obtain⟨r,am,aB⟩:=al J
   exact⟨v::r,by simp[yN,a n v I,am],aB⟩
  |cell F ty=>
   obtain⟨p,I,J⟩:=tP.1 (show cL (H F) (λp=>ax (l0 C h ty p) λv=>rE C h H k λr=>ak (v::r)) from ay)
   obtain⟨v,am,aB⟩:=(k5.1 J)
   obtain⟨r,bk,b6⟩:=al aB
   exact⟨v::r,by simp[yN,a F p I,am,bk],b6⟩
def awQ(a:g3 H t){base:Nat}:∀{k:List ft}{aq:List (Nat×D)}{h:K ag}{ak:List (Nat×D)->K ag->Prop},PJ C base H k aq h ak->∃hx T,xU C base t k aq h=some (hx,T)/\ak hx T:=by
 intro k
 induction k with
 |nil=>intro aq h ak ay;exact⟨aq,h,rfl,ay⟩
 |cons x k al=>
  intro aq h ak ay
  obtain⟨w,I,J,am⟩:=QH ((aBU ..).mp (show sG x.g aq (λW=>match m6 x.op with
   | .make=>Vx x.op C h (base+x.i) aq H W
   |_=>If x.op C h aq H λv=>W v h) (λv h=>PJ C base H k ((x.i,v)::aq) h ak) h from ay))
  simp only[xU,I]
  cases w with
  |false=>exact al (am rfl)
  |true=>
   have aB:=J rfl
   cases aD:m6 x.op with
   |make=>
    simp only[aD]at aB
    obtain⟨v,cY,bk,b6⟩:=aw9 a aB
    simp only[bk,hk]
    exact al b6
   |ig=>
    simp only[aD]at aB
    obtain⟨v,bk,b6⟩:=PH a aB
    simp only[bk]
    exact al b6
   |fp=>
    simp only[aD]at aB
    obtain⟨v,bk,b6⟩:=PH a aB
    simp only[bk]
    exact al b6
def azd(a:g3 H t):∀{k:List ft}{ak:Prop},VX C H aq h k ak->Eb C t aq h k=true/\ak:=by
 intro k
 induction k with
 |nil=>intro ak ay;exact⟨rfl,ay⟩
 |cons x k al=>
  intro ak ay
  obtain⟨w,I,J,am⟩:=QH ((aBV ..).mp (show WG x.g aq (λah=>If x.op C h aq H λv=>gT v (eo aq x.i) ah) (VX C H aq h k ak) from ay))
  simp only[Eb,I]
  cases w with
  |false=>exact al (am rfl)
  |true=>
   obtain⟨v,bk,b6⟩:=PH a (J rfl)
   obtain⟨ac,c5,eb,g5⟩:=tP.1 b6.out
   obtain⟨lp,tf⟩:=al g5
   exact⟨by simp[bk,c5,eb,lp],tf⟩
end
section
variable{C:aL}{dP:c9}{d4:Nat->Prop}{bu:World}{bG:Nat}{bX:List Frame}{v:D}
variable{fn n ao:Nat}{bS:vo}{aJ:Bool}{ro:Option Nat}{cs dc:List gL}
def kV(cI:Env C bu dP d4){bS:lg}{todo:List dR}{ce:iu}{H:K D}{h:K ag}{j:Nat}(a:Wn (fR C bu bG bX v) C bS todo ce H h j=some v):ow C bu bG bX bS todo ce H h j v:=
 λS ad w di tmps bx ai dm=>ahK cI aa4 _ _ _ _ _ _ _ _ _ _ _ _ v a S ad w di tmps bx ai dm
def fz(bS:vo)(fn n ao:Nat)(aJ:Bool)(ro:Option Nat)(cs dc:List gL)(H:cV):iu:=⟨fn,n,ao,bY bS.bc H.bc [],aJ,ro,bY H.rc dc cs⟩
structure BV(bS:vo)(aJ:Bool)(ro:Option Nat)(cs dc:List gL):Prop where
 rd:bS.rd=false->ro=none
 bc:bS.bc=true->ro=none
 none:bS.jX=some none->dc=cs/\Dx aJ cs=some (.nilIface,cs)
 some:∀ac,bS.jX=some (some ac)->Dx aJ cs=some (ac,dc)/\Dx aJ dc=some (.nilIface,dc)
def azI{al:hw}{C:aL}{k:Nat}{args:List D}{eI:dR}{q:List dR}{ce:iu}{H:K D}{h:K ag}{j:Nat}:oA (.round k args) al C eI q ce H h j=Qj al C k args (FO eI q ce H) h j:=rfl
def ab2{H:cV}{t:K D}(a:g3 H t)(k:List Nat):g3 (hL k H) (xW k t):=by
 intro n v bD
 rw[Ny]
 by_cases aE:n∈k
 ·simp[hL,fA,Vy,aE]at bD
 ·simp[hL,fA,Vy,aE]at bD
  rw[Zg aE];exact a n v bD
def RP{F b:Nat}(a:F<=b):Nat.ble F b=true:=by simpa using a
def aa2(aF:D.same 30 v v=true)(bp:BV bS aJ ro cs dc){eI:dR}{q:List dR}{oy:cV}{H:K D}{h:K ag}{j:Nat}{ak av:bI}(cI:Env C bu dP d4)
 (i7:∀ac h j,ak ac h j->∃hC,px eI ac=some hC/\ow C bu bG bX .run (hC::q) (fz bS fn n ao aJ ro cs dc oy) H h j v)
 (cC:∀ac h j todo,av ac h j->ow C bu bG bX (.panicking [⟨ac,false⟩]) todo (fz bS fn n ao aJ ro cs dc oy) (vG (eI::q) H) h j v){r:d6}(a:DY C bS.rd (some r) h j ak av):
 oA r (fR C bu bG bX v) C eI q (fz bS fn n ao aJ ro cs dc oy) H h j=some v:=by
 have fill:∀ac h j,ak ac h j->(match px eI ac with|some hC=>fR C bu bG bX v .run (hC::q) (fz bS fn n ao aJ ro cs dc oy) H h j|none=>none)=some v:=by
  intro ac h j aD
  obtain⟨hC,I,J⟩:=i7 ac h j aD
  rw[I]
  exact ik J
 cases r with
 |val ac=>exact fill ac h j a
 |fs ac T an=>exact fill ac T an a
 |enter f args=>
  refine a bu dP d4 cI bG bX v aF (FO eI q (fz bS fn n ao aJ ro cs dc oy) H) (λac T an ah=> ?_) (λac T an ah=> ?_)
  ·exact fill ac T an ah
  ·exact ik (cC ac T an _ ah)
 |round k args=>
  rw[azI]
  refine a bu dP d4 cI bG bX v aF (FO eI q (fz bS fn n ao aJ ro cs dc oy) H) (λac T an ah=> ?_) (λac T an ah=> ?_)
  ·exact fill ac T an ah
  ·exact ik (cC ac T an _ ah)
 |known f args ac=>exact fill ac h j a
 |panic ac=>
  have a:=(show bY bS.rd False (av ac h j) from a)
  cases V:bS.rd with
  |true=>rw[V]at a;exact a.elim
  |false=>
   rw[V]at a
   have jE:=bp.rd V
   subst jE
   exact ik (cC ac h j _ a)
 |fork k=>exact aqd aF k a.1 λac T bp=>i7 ac T j (a.2 ac T bp)
 |_=>exact a.elim
def aoR{ar:Array Oper}{aq:List (Nat×D)}{i:Nat}{rest:List ft}{fin:List (Nat×Nat)}{q:List dR}{H:K D}:vG (.t8 ar aq i rest fin::q) H=xW (dstsOf ar.toList) H:=rfl
def aoQ{ar:Array Oper}{aq:List (Nat×D)}{b i:Nat}{rest:List xJ}{fin:List (Nat×Nat)}{q:List dR}{H:K D}:vG (.BG ar b aq i rest fin::q) H=xW (dstsOf ar.toList) H:=rfl
def az4(cI:Env C bu dP d4)(aF:D.same 30 v v=true)(bp:BV bS aJ ro cs dc){ar:Array Oper}{fin:List (Nat×Nat)}{q:List dR}{t:K D}{ak:fg}{av:sZ}
 (i7:∀H t h j,g3 H t->ak H h j->ow C bu bG bX .run q (fz bS fn n ao aJ ro cs dc H) t h j v)
 (cC:∀H t ac h j todo,g3 H t->av H ac h j->ow C bu bG bX (.panicking [⟨ac,false⟩]) todo (fz bS fn n ao aJ ro cs dc H) t h j v):
 ∀(rest:List ft) (aq:List (Nat×D)) (H:cV) (h:K ag) (j:Nat),g3 H t->Dt C bS fin ak (λH=>av (hL (dstsOf ar.toList) H)) rest aq H h j->Bx rest ⟨fR C bu bG bX v,ar,fin,q,fz bS fn n ao aJ ro cs dc H⟩ C t aq h j=some v:=by
 intro rest
 induction rest with
 |nil=>
  intro aq H h j a6 a
  obtain⟨c1,ha,I,J,am,aB⟩:=acy a6 (show Kd fin aq H (λH=>ak H h j) from a)
  show J5 ⟨fR C bu bG bX v,ar,fin,q,fz bS fn n ao aJ ro cs dc H⟩ C t aq h j=some v
  simp only[J5,NN,I,o8]
  have E:fz bS fn n ao aJ ro cs dc H=fz bS fn n ao aJ ro cs dc c1:=by unfold fz;rw[am.1,am.2]
  rw[E]
  exact ik (i7 _ _ _ _ J aB)
 |cons x rest al=>
  intro aq H h j a6 a
  obtain⟨i,g,op⟩:=x
  show Fz i g op rest (Bx rest) ⟨fR C bu bG bX v,ar,fin,q,fz bS fn n ao aJ ro cs dc H⟩ C t aq h j=some v
  have a:=(show(match FM op with
   | .no=>QI g aq (λak=>VL bS.rd op C h j aq H ak (av (hL (dstsOf ar.toList) H))) (λv h j=>Dt C bS fin ak (λH=>av (hL (dstsOf ar.toList) H)) rest ((i,v)::aq) H h j) h j
   | .defer b8 f args=>bY (g.isNone&&bS.bc) (eK b8 aq H f λmV=>tO b8 aq H args λcv=>JV mV cv H λH=>Dt C bS fin ak (λH=>av (hL (dstsOf ar.toList) H)) rest ((i,undef)::aq) H h j) False
   | .recover=>bY (g.isNone&& !bS.rd) (IM bS.jX H λv H=>Dt C bS fin ak (λH=>av (hL (dstsOf ar.toList) H)) rest ((i,v)::aq) H h j) False) from a)
  cases CM:FM op with
  |no=>
   rw[CM]at a
   obtain⟨w,I,J,am⟩:=QH ((aig ..).mp a)
   simp only[Fz,QF,I,o8]
   cases w with
   |false=>simp only[Zw,ZA];exact al _ _ _ _ a6 (am rfl)
   |true=>
    simp only[ZC]
    have aB:=J rfl
    rw[P5]
    unfold VL at aB
    cases aD:m6 op with
    |ig=>
     simp only[aD]at aB ⊢
     obtain⟨ac,bk,b6⟩:=PH a6 aB
     rw[bk]
     exact al _ _ _ _ a6 b6
    |make=>
     simp only[aD]at aB ⊢
     obtain⟨ac,cY,bk,b6⟩:=axb a6 aB
     simp only[PK,ms,bk,hk,o8]
     exact al _ _ _ _ a6 b6
    |fp=>
     simp only[aD]at aB ⊢
     obtain⟨r,bk,b6⟩:=adW a6 aB
     rw[bk]
     have q4:oA r (fR C bu bG bX v) C (.t8 ar aq i rest fin) q (fz bS fn n ao aJ ro cs dc H) t h j=some v:=by
      refine aa2 aF bp cI (λac h j ah=>⟨_,rfl, ?_⟩) (λac h j todo ah=> ?_) b6
      ·exact kV cI (al _ _ _ _ a6 ah)
      ·rw[aoR];exact cC (hL (dstsOf ar.toList) H) _ _ _ _ _ (ab2 a6 _) ah
     cases r with
     |val ac=>exact al _ _ _ _ a6 b6
     |fs ac T an=>exact al _ _ _ _ a6 b6
     |_=>exact q4
  |defer b8 f args=>
   rw[CM]at a
   obtain⟨c,rfl,rfl⟩:=aAt CM
   have a:=(show bY (g.isNone&&bS.bc) _ False from a)
   cases g with
   |some g=>exact a.elim
   |none=>
    cases mw:bS.bc with
    |false=>rw[mw]at a;exact a.elim
    |true=>
     rw[mw]at a
     obtain⟨mV,I,J⟩:=hu a6 (show eK b8 aq H f _ from a)
     obtain⟨cv,am,aB⟩:=FA a6 J
     have jE:=bp.bc mw
     subst jE
     cases mV with
     |func g first fM=>
      simp only[Fz,QF,pf,o8,ZC]
      rw[P5]
      have aD:m6 (.fp b8 (.defer ⟨.value f,c.1,c.2⟩))= .fp:=rfl
      have af:hU (.fp b8 (.defer ⟨.value f,c.1,c.2⟩)) C h j aq t=some (.defer ⟨.fn g fM,first++cv⟩):=by
       simp only[hU,nT,S6,I,am]
      simp only[aD,af]
      have gm:fz bS fn n ao aJ none cs dc H=⟨fn,n,ao,H.bc,aJ,none,bY H.rc dc cs⟩:=by unfold fz;rw[mw];rfl
      show oA (.defer ⟨.fn g fM,first++cv⟩) (fR C bu bG bX v) C (.t8 ar aq i rest fin) q (fz bS fn n ao aJ none cs dc H) t h j=some v
      rw[gm]
      show fR C bu bG bX v .run (.IU ar ((i,undef)::aq) rest fin::q) ⟨fn,n,ao,⟨.fn g fM,first++cv⟩::H.bc,aJ,none,bY H.rc dc cs⟩ t h j=some v
      have dl:(⟨fn,n,ao,⟨.fn g fM,first++cv⟩::H.bc,aJ,none,bY H.rc dc cs⟩:iu)=fz bS fn n ao aJ none cs dc (Br H ⟨.fn g fM,first++cv⟩):=by unfold fz;rw[mw];rfl
      rw[dl]
      exact ik (kV cI (al _ (Br H ⟨.fn g fM,first++cv⟩) _ _ a6 aB))
     |_=>exact aB.elim
  |recover=>
   rw[CM]at a
   obtain⟨b8,c7,args,rfl,yd⟩:=aAu CM
   have a:=(show bY (g.isNone&& !bS.rd) _ False from a)
   cases g with
   |some g=>exact a.elim
   |none=>
    cases cA:bS.rd with
    |true=>rw[cA]at a;exact a.elim
    |false=>
     rw[cA]at a
     have jE:=bp.rd cA
     subst jE
     have a:IM bS.jX H (λv H=>Dt C bS fin ak (λH=>av (hL (dstsOf ar.toList) H)) rest ((i,v)::aq) H h j):=a
     simp only[Fz,QF,pf,o8,ZC]
     rw[P5]
     have aD:m6 (.fp b8 (.call ⟨.builtin .recover,args,c7⟩))= .fp:=rfl
     have af:hU (.fp b8 (.call ⟨.builtin .recover,args,c7⟩)) C h j aq t=some .recover:=by
      simp only[hU,nT,Et,Kk,yd,qo]
     simp only[aD,af]
     show oA .recover (fR C bu bG bX v) C (.t8 ar aq i rest fin) q (fz bS fn n ao aJ none cs dc H) t h j=some v
     have key:∀ac c1,g3 c1 t->Dx aJ (bY H.rc dc cs)=some (ac,bY c1.rc dc cs)->c1.bc=H.bc->Dt C bS fin ak (λH=>av (hL (dstsOf ar.toList) H)) rest ((i,ac)::aq) c1 h j->oA .recover (fR C bu bG bX v) C (.t8 ar aq i rest fin) q (fz bS fn n ao aJ none cs dc H) t h j=some v:=by
      intro ac c1 UE I J am
      show(match Dx aJ (bY H.rc dc cs)with
       |some (gK,aox)=>(match px (.t8 ar aq i rest fin) gK with|some hC=>fR C bu bG bX v .run (hC::q) ⟨fn,n,ao,bY bS.bc H.bc [],aJ,none,aox⟩ t h j|none=>none)
       |none=>none)=some v
      rw[I]
      show fR C bu bG bX v .run (.IU ar ((i,ac)::aq) rest fin::q) ⟨fn,n,ao,bY bS.bc H.bc [],aJ,none,bY c1.rc dc cs⟩ t h j=some v
      have gm:(⟨fn,n,ao,bY bS.bc H.bc [],aJ,none,bY c1.rc dc cs⟩:iu)=fz bS fn n ao aJ none cs dc c1:=by unfold fz;rw[J]
      rw[gm]
      exact ik (kV cI (al _ _ _ _ UE am))
     unfold IM at a
     cases ay:bS.jX with
     |none=>rw[ay]at a;exact a.elim
     |some p=>
      rw[ay]at a
      cases p with
      |none=>
       obtain⟨I,J⟩:=bp.none ay
       subst I
       refine key _ H a6 ?_ rfl a
       cases H.rc<;>exact J
      |some ac=>
       obtain⟨I,J⟩:=bp.some ac ay
       cases HH:H.rc with
       |true=>
        simp only[HH]at a
        refine key _ H a6 ?_ rfl a
        simp only[HH];exact J
       |false=>
        simp only[HH]at a
        refine key ac (Qp H) a6 ?_ rfl a
        simp only[HH];exact I
def aoP(cI:Env C bu dP d4)(aF:D.same 30 v v=true)(bp:BV bS aJ ro cs dc){ar:Array Oper}{base:Nat}{fin:List (Nat×Nat)}{q:List dR}{H:cV}{t:K D}(a6:g3 H t){ak:fg}{av:sZ}
 (i7:∀H t h j,g3 H t->ak H h j->ow C bu bG bX .run q (fz bS fn n ao aJ ro cs dc H) t h j v)
 (cC:∀H t ac h j todo,g3 H t->av H ac h j->ow C bu bG bX (.panicking [⟨ac,false⟩]) todo (fz bS fn n ao aJ ro cs dc H) t h j v):
 ∀(lB:List xJ) (aq:List (Nat×D)) (h:K ag) (j:Nat),Se C bS.rd base fin H ak (av (hL (dstsOf ar.toList) H)) lB aq h j->Ar (fR C bu bG bX v) C ar base aq lB fin q (fz bS fn n ao aJ ro cs dc H) t h j=some v:=by
 intro lB
 induction lB with
 |nil=>intro aq h j a;exact a.elim
 |cons s rest al=>
  intro aq h j a
  obtain⟨hx,T,I,J⟩:=awQ a6 (show PJ C base H s.u2 aq h _ from a)
  obtain⟨am,aB⟩:=azd a6 J
  simp only[Ar,I,am,eX]
  cases gH:s.fp with
  |none=>
   simp only[gH]at aB
   obtain⟨c1,ha,bk,b6,c5,eb⟩:=acy a6 aB
   simp only[NN,bk,o8]
   have E:fz bS fn n ao aJ ro cs dc H=fz bS fn n ao aJ ro cs dc c1:=by unfold fz;rw[c5.1,c5.2]
   rw[E]
   exact ik (i7 _ _ _ _ b6 eb)
  |some af=>
   simp only[gH]at aB
   obtain⟨w,bk,b6,c5⟩:=QH ((aig ..).mp aB)
   simp only[bk]
   cases w with
   |false=>simp only[j3];exact ik (kV cI (al _ _ _ (c5 rfl)))
   |true=>
    obtain⟨r,eb,g5⟩:=adW a6 (b6 rfl)
    simp only[eX,eb]
    refine aa2 aF bp cI (λac h j ah=>⟨_,rfl, ?_⟩) (λac h j todo ah=> ?_) g5
    ·exact kV cI (al _ _ _ ah)
    ·rw[aoQ];exact cC (hL (dstsOf ar.toList) H) _ _ _ _ _ (ab2 a6 _) ah
def aiT(C:aL)(bu:World)(bG:Nat)(bX:List Frame)(v:D)(ca:cV->iu)(q:List dR)(id:Nat):fg:=λH h j=>∀t,g3 H t->Ci id (fR C bu bG bX v) C q (ca H) t h j=some v
def NL{id:Nat}{al:hw}{C:aL}{eI:dR}{q:List dR}{bS:vo}{cs dc:List gL}{oy:cV}{H:K D}{h:K ag}{j:Nat}(a:exitTo id (eI::q)=exitTo id q):
 Ci id al C (eI::q) (fz bS fn n ao aJ ro cs dc oy) H h j=Ci id al C q (fz bS fn n ao aJ ro cs dc oy) H h j:=by
 unfold Ci
 rw[a]
 cases exitTo id q with
 |some e5=>rfl
 |none=>
  unfold o2 fz
  cases ro with
  |none=>rfl
  |some k=>rfl
def Rc(C:aL)(fn n ao:Nat)(c:Code):Prop:=
 ∀{bu:World}{dP:c9}{d4:Nat->Prop}(_:Env C bu dP d4) {bG:Nat}{bX:List Frame}{v:D}(_:D.same 30 v v=true) (bS:vo) (aJ:Bool) (ro:Option Nat) (cs dc:List gL) (av:sZ) (q:List dR) (ak:fg) (E:Nat->fg) (r:fg) (H:cV) (t:K D) (h:K ag) (j:Nat),BV bS aJ ro cs dc->
  (∀H t ac h j todo,g3 H t->av H ac h j->ow C bu bG bX (.panicking [⟨ac,false⟩]) todo (fz bS fn n ao aJ ro cs dc H) t h j v)->
  (∀H t h j,g3 H t->ak H h j->ow C bu bG bX .run q (fz bS fn n ao aJ ro cs dc H) t h j v)->
  (∀id H h j,E id H h j->aiT C bu bG bX v (fz bS fn n ao aJ ro cs dc) q id H h j)->
  (∀H t h j todo,g3 H t->r H h j->o2 (some .ret) (fR C bu bG bX v) C todo (fz bS fn n ao aJ ro cs dc H) t h j=some v)->
  g3 H t->xT C n ao c bS av ak E r H h j->vB c (fR C bu bG bX v) C q (fz bS fn n ao aJ ro cs dc H) t h j=some v
def aAa{n:Nat}:∀(dr:List Nat) (cv:List D) (H:cV) (t:K D) (ak:cV->Prop),g3 H t->IV n dr cv H ak->∃c1 ha,yQ n dr cv t=some ha/\g3 c1 ha/\ak c1:=by
 intro dr
 induction dr with
 |nil=>
  intro cv H t ak a6 a
  cases cv with
  |nil=>exact⟨H,t,rfl,a6,a⟩
  |cons F cv=>exact a.elim
 |cons p dr al=>
  intro cv H t ak a6 a
  cases cv with
  |nil=>exact a.elim
  |cons F cv=>
   have a:=(show bY (Nat.blt p n) (IV n dr cv (aa H p F) ak) False from a)
   cases aj:Nat.blt p n with
   |false=>rw[aj]at a;exact a.elim
   |true=>
    rw[aj]at a
    obtain⟨c1,ha,I,J,am⟩:=al cv _ _ ak (ahC a6 p F) a
    exact⟨c1,ha,by simp only[yQ,aj,eX,I],J,am⟩
def DJ(fn n ao:Nat)(ro:Option Nat)(cs:List gL)(H:cV):fz C8 fn n ao false ro cs cs H=⟨fn,n,ao,[],false,ro,cs⟩:=by
 unfold fz C8
 cases H.rc<;>rfl
def Ve{al:hw}{C:aL}{k fn n ao:Nat}{t0:K D}{params:List Nat}{assign body:Code}{Ns:Nat}{iT:Option Code}{st:LoopState}{b:Bool}{ak:bI}{todo:List dR}{cs:List gL}{t:K D}{h:K ag}{j:Nat}{v:D}
 (aH:kH C k=true)(ay:agV iT=true)(dm:st=bY iT.isNone .ready .done)(aj:b=iT.isNone)(a:NG C k (λst p=> .loop st p fn n ao t0 params assign body Ns) st iT b ak h j)
 (aD:∀ac h j,ak ac h j->uj al false cs ac h j=some v):o2 iT al C todo ⟨fn,n,ao,[],false,some k,cs⟩ t h j=some v:=by
 obtain⟨⟨ahG,IF,I⟩,J⟩:=a
 subst dm aj
 have:=aD _ _ _ J
 simp only[o2,I,aH,ay,Yg,Yj,eX,hk]
 exact this
def azJ{C:aL}{fn n ao:Nat}{assign body:Code}(mu:Rc C fn n ao assign)(er:Rc C fn n ao body){bu:World}{dP:c9}{d4:Nat->Prop}(cI:Env C bu dP d4){bG:Nat}{bX:List Frame}{v:D}(aF:D.same 30 v v=true){k:Nat}{t:K D}{params:List Nat}{Ns:Nat}{cs:List gL}
 {H:cV}{h:K ag}{j:Nat}{args:List D}{ak av:bI}(az:Y C h k=some (.loop .ready none fn n ao t params assign body Ns))(aH:kH C k=true)(a6:g3 H t)
 (fj:∀ac T an,ak ac T an->Q9 C bu bG bX v cs ac T an)(gO:∀ac T an,av ac T an->MY C bu bG bX v cs ac T an)
 (a:IV n params args H λrW=>tV C (xT C n ao assign) (xT C n ao body) k (λst p=> .loop st p fn n ao t params assign body Ns) ak av rW h j):
 Qj (fR C bu bG bX v) C k args cs h j=some v:=by
 obtain⟨rW,t1,bF,Pj,I⟩:=aAa _ _ _ _ _ a6 a
 unfold Qj
 rw[az]
 simp only[bF]
 have bp:BV C8 false (some k) cs cs:=⟨λa=>(by cases a),λa=>(by cases a),λa=>(by cases a),λac a=>(by cases a)⟩
 have cC:∀(H:cV) (t:K D) (ac:D) (h:K ag) (j:Nat) (todo:List dR),g3 H t->av ac h j->ow C bu bG bX (.panicking [⟨ac,false⟩]) todo (fz C8 fn n ao false (some k) cs cs H) t h j v:=by
  intro H t ac h j todo a6 ah
  rw[DJ]
  refine kV cI ?_
  have:=gO ac h j ah
  show Mk [⟨ac,false⟩] todo (fR C bu bG bX v) C ⟨fn,n,ao,[],false,some k,cs⟩ t h j=some v
  cases cs with
  |nil=>exact this.elim
  |cons c rest=>exact this
 refine ik (kV cI ?_)
 rw[<-DJ fn n ao (some k) cs rW]
 refine mu cI aF C8 false (some k) cs cs (λ_=>av) [.beginRound, .code body] _ _ _ rW t1 h j bp cC (λH t h j a6 ah=> ?_) (λid H h j ah=>ah.elim) (λH t h j todo a6 ah=>ah.elim) Pj I
 obtain⟨cG,cw⟩:=ah
 refine kV cI ?_
 rw[DJ]
 show JJ (fR C bu bG bX v) C [.code body] ⟨fn,n,ao,[],false,some k,cs⟩ t h j=some v
 unfold JJ
 simp only[cG,aH,eX,hk]
 refine ik (kV cI ?_)
 rw[<-DJ fn n ao (some k) cs H]
 refine er cI aF C8 false (some k) cs cs (λ_=>av) [] _ _ _ H t _ j bp cC (λH t h j a6 ah=> ?_) (λid H h j ah t a6=> ?_) (λH t h j todo a6 ah=> ?_) a6 cw
 ·refine kV cI ?_
  rw[DJ]
  show o2 none (fR C bu bG bX v) C [] ⟨fn,n,ao,[],false,some k,cs⟩ t h j=some v
  exact Ve aH rfl rfl rfl ah fj
 ·rw[DJ]
  show o2 (some (.exit id)) (fR C bu bG bX v) C (.code (.exit id)::[]) ⟨fn,n,ao,[],false,some k,cs⟩ t h j=some v
  exact Ve aH rfl rfl rfl ah fj
 ·rw[DJ]
  exact Ve aH rfl rfl rfl ah fj
def R0:∀c:Code,Rc C fn n ao c:=by
 intro c
 induction c with
 |skip=>intro bu dP d4 cI bG bX v aF bS aJ ro cs dc av q ak E r H t h j bp cC i7 bs V a6 a;exact ik (i7 _ _ _ _ a6 a)
 |region id ar d=>
  intro bu dP d4 cI bG bX v aF bS aJ ro cs dc av q ak E r H t h j bp cC i7 bs V a6 a
  cases d with
  |false=>
   obtain⟨ah,I,J⟩:=tP.1 (show cL (LS C n ar ao) (λr=>Dt C bS r.fin ak (λH=>av (hL (dstsOf ar.toList) H)) r.rest [] H h j) from a)
   show jp (LS C n ar ao) (λr=>Rb.rec (motive:=λ_=>d7) (λrest fin=>Bx rest ⟨fR C bu bG bX v,ar,fin,q,fz bS fn n ao aJ ro cs dc H⟩ C t [] h j) r)=some v
   rw[I]
   exact az4 cI aF bp i7 cC _ _ _ _ _ a6 J
  |true=>
   obtain⟨ah,I,J⟩:=tP.1 (show cL (LR C n ar ao) (λr=>fb (j+ar.size) λan=>Se C bS.rd j r.fin H ak (av (hL (dstsOf ar.toList) H)) r.lB [] h an) from a)
   show jp (LR C n ar ao) (λr=>Ra.rec (motive:=λ_=>d7) (λlB fin=>q6 j λj=>Ar (fR C bu bG bX v) C ar j [] lB fin q (fz bS fn n ao aJ ro cs dc H) t h (j+ar.size)) r)=some v
   rw[I]
   show q6 j (λj=>Ar (fR C bu bG bX v) C ar j [] ah.lB ah.fin q (fz bS fn n ao aJ ro cs dc H) t h (j+ar.size))=some v
   rw[ms]
   exact aoP cI aF bp a6 i7 cC _ _ _ _ J.out
 |seq F b m2 hB=>
  intro bu dP d4 cI bG bX v aF bS aJ ro cs dc av q ak E r H t h j bp cC i7 bs V a6 a
  refine m2 cI aF bS aJ ro cs dc av (.code b::q) (xT C n ao b bS av ak E r) E r H t h j bp cC (λH t h j a6 a=> ?_) (λid H h j a t a6=> ?_) V a6 a
  ·exact kV cI (hB cI aF bS aJ ro cs dc av q ak E r H t h j bp cC i7 bs V a6 a)
  ·rw[NL (by simp[exitTo])]
   exact bs id H h j a t a6
 |cond c F b m2 hB=>
  intro bu dP d4 cI bG bX v aF bS aJ ro cs dc av q ak E r H t h j bp cC i7 bs V a6 a
  obtain⟨ac,I,J⟩:=hu (aq:=[]) (b8:=[]) a6 (show eK [] [] H c _ from a)
  obtain⟨QA,rfl,am,aB⟩:=abv J.out
  have bk:xZ t c=some (.bool QA):=by
   cases c<;>first|(simp[ji,xZ]at I;done)|simpa[ji,xZ]using I
  show JS c t (vB F (fR C bu bG bX v) C q (fz bS fn n ao aJ ro cs dc H) t h j) (vB b (fR C bu bG bX v) C q (fz bS fn n ao aJ ro cs dc H) t h j)=some v
  simp only[JS,o8,bk]
  cases QA with
  |true=>exact m2 cI aF bS aJ ro cs dc av q ak E r H t h j bp cC i7 bs V a6 (am rfl)
  |false=>exact hB cI aF bS aJ ro cs dc av q ak E r H t h j bp cC i7 bs V a6 (aB rfl)
 |block id b hB=>
  intro bu dP d4 cI bG bX v aF bS aJ ro cs dc av q ak E r H t h j bp cC i7 bs V a6 a
  refine hB cI aF bS aJ ro cs dc av (.inBlock id::q) ak (Eg id ak E) r H t h j bp cC (λH t h j a6 a=>kV cI (ik (i7 H t h j a6 a))) (λuX H h j a t a6=> ?_) V a6 a.out
  unfold Eg at a
  rw[hK]at a
  by_cases Hr:id=uX
  ·rw[Zu Hr]at a
   have bF:exitTo uX (.inBlock id::q)=some q:=by simp[exitTo,Hr,hK]
   unfold Ci
   rw[bF]
   exact ik (i7 H t h j a6 a)
  ·rw[Zg Hr]at a
   rw[NL (by simp[exitTo,hK,Hr])]
   exact bs uX H h j a t a6
 |loop b hB=>
  intro bu dP d4 cI bG bX v aF bS aJ ro cs dc av q ak E r H t h j bp cC i7 bs V a6 a
  obtain⟨nO,⟨m,T9⟩,pA⟩:=(show fF (λRE=>xT C n ao b bS av RE E r) H h j from a).out
  have Vw:∀m H t h j,nO m H h j->g3 H t->vB b (fR C bu bG bX v) C (.inLoop b::q) (fz bS fn n ao aJ ro cs dc H) t h j=some v:=by
   intro m
   induction m using Nat.strongRecOn with
   |ind m qC=>
    intro H t h j T9 a6
    refine hB cI aF bS aJ ro cs dc av (.inLoop b::q) _ E r H t h j bp cC (λH t h j a6 a=> ?_) (λid H h j a t a6=> ?_) V a6 (pA m H h j T9)
    ·obtain⟨gr,c2,tr⟩:=a
     exact kV cI (qC gr c2 H t h j tr a6)
    ·rw[NL (by simp[exitTo])]
     exact bs id H h j a t a6
  exact Vw m H t h j T9 a6
 |rangeFunc f params assign body m2 hB=>
  intro bu dP d4 cI bG bX v aF bS aJ ro cs dc av q ak E r H t h j bp cC i7 bs V a6 a
  have a:=(show bY bS.bc (Sn f H λmV=>FE C n mV params.toList (tV C (xT C n ao assign) (xT C n ao body)) ak E r av H h j) False from a)
  cases mw:bS.bc with
  |false=>rw[mw]at a;exact a.elim
  |true=>
   rw[mw]at a
   have jE:=bp.bc mw
   subst jE
   obtain⟨mV,I,J⟩:=hu (aq:=[]) (b8:=[]) a6 (show eK [] [] H f _ from a)
   have bk:xZ t f=some mV:=by
    cases f<;>first|(simpa[ji,xZ]using I)|(simp[ji]at I;subst I;rfl)
   have T5:=J.low
   have Hz:=J.out
   have gm:∀H:cV,fz bS fn n ao aJ none cs dc H=⟨fn,n,ao,H.bc,aJ,none,bY H.rc dc cs⟩:=λH=>by unfold fz;rw[mw];rfl
   have Cz:kH C (j+1)=true:=RP Zo
   show Ma f params assign body (fR C bu bG bX v) C q (fz bS fn n ao aJ none cs dc H) t h j=some v
   rw[gm]
   unfold Ma
   rw[bk]
   cases mV with
   |func g first fM=>
    cases g with
    |func g=>
     simp only[ms]
     have Hz:=Hz (λst p=> .loop st p fn n ao t params.toList assign body j) ?_
     ·refine Hz bu dP d4 cI bG bX v aF _ (λac T an ah=> ?_) (λac T an ah=> ?_)
      ·obtain⟨st,p,cG,cw,d9⟩:=ah
       show(match px (.inRangeFunc (j+1)) ac with
        |some hC=>fR C bu bG bX v .run (hC::q) ⟨fn,n,ao,⟨.collected j,[]⟩::H.bc,aJ,none,bY H.rc dc cs⟩ t T an
        |none=>none)=some v
       refine ik (kV cI ?_)
       show GR (j+1) (fR C bu bG bX v) C q ⟨fn,n,ao,⟨.collected j,[]⟩::H.bc,aJ,none,bY H.rc dc cs⟩ t T an=some v
       have bF:GR (j+1) (fR C bu bG bX v) C q ⟨fn,n,ao,⟨.collected j,[]⟩::H.bc,aJ,none,bY H.rc dc cs⟩ t T an=fR C bu bG bX v .run ((p.map dR.code).toList++q) ⟨fn,n,ao,⟨.collected j,[]⟩::H.bc,aJ,none,bY H.rc dc cs⟩ t (bn C T (j+1) (some (.loop .exhausted p fn n ao t params.toList assign body j))) an:=by
        unfold GR
        rw[cw]
        cases st with
        |busy=>exact absurd rfl cG
        |_=>simp only[Cz,eX,hk]
       rw[bF]
       have dl:=gm (wJ H j)
       have dY:(⟨fn,n,ao,⟨.collected j,[]⟩::H.bc,aJ,none,bY H.rc dc cs⟩:iu)=fz bS fn n ao aJ none cs dc (wJ H j):=dl.symm
       rw[dY]
       have HN:g3 (wJ H j) t:=a6
       cases p with
       |none=>exact ik (i7 _ _ _ _ HN d9)
       |some c=>
        refine ik (kV cI ?_)
        unfold agW at d9
        cases c with
        |exit id=>exact bs id _ _ _ d9 t HN
        |ret=>exact V _ _ _ _ _ HN d9
        |_=>exact d9.elim
      ·refine ik ?_
       have dY:(⟨fn,n,ao,⟨.collected j,[]⟩::H.bc,aJ,none,bY H.rc dc cs⟩:iu)=fz bS fn n ao aJ none cs dc (wJ H j):=(gm (wJ H j)).symm
       have:=cC (wJ H j) t ac T an (.inRangeFunc (j+1)::q) a6 ah
       rw[<-dY]at this
       exact this
     ·
      intro args aP Fv BJ ev az bn lf y2 mO Sl eM r2 Mv lL R4 fj gO
      exact azJ m2 hB Sl lL az Cz a6 fj gO bn
    |_=>exact Hz.elim
   |_=>exact Hz.elim
 |exit id=>
  intro bu dP d4 cI bG bX v aF bS aJ ro cs dc av q ak E r H t h j bp cC i7 bs V a6 a
  exact bs id H h j a t a6
 |scope b hB=>
  intro bu dP d4 cI bG bX v aF bS aJ ro cs dc av q ak E r H t h j bp cC i7 bs V a6 a
  refine hB cI aF bS aJ ro cs dc av (.inScope b::q) ak E r H t h j bp cC (λH t h j a6 a=>kV cI (ik (i7 H t h j a6 a))) (λid H h j a t a6=> ?_) V a6 a
  rw[NL (by simp[exitTo])]
  exact bs id H h j a t a6
 |label k=>intro bu dP d4 cI bG bX v aF bS aJ ro cs dc av q ak E r H t h j bp cC i7 bs V a6 a;exact ik (i7 _ _ _ _ a6 a)
 |goto k=>intro bu dP d4 cI bG bX v aF bS aJ ro cs dc av q ak E r H t h j bp cC i7 bs V a6 a;exact a.elim
 |ret=>
  intro bu dP d4 cI bG bX v aF bS aJ ro cs dc av q ak E r H t h j bp cC i7 bs V a6 a
  exact V _ _ _ _ _ a6 a
 |refuse s=>intro bu dP d4 cI bG bX v aF bS aJ ro cs dc av q ak E r H t h j bp cC i7 bs V a6 a;exact a.elim
end
def RH(args:List D):g3 (cO args) (K.ofList args 0 .nil):=by
 intro n v a
 rw[k4]
 simpa[cO]using a
section
variable{C:aL}{dP:c9}{d4:Nat->Prop}{bu:World}{bG:Nat}{bX:List Frame}{v:D}{fn:Nat}{uv:Func}{n ao:Nat}{aJ:Bool}{cs:List gL}
def Qg(cI:Env C bu dP d4)(aF:D.same 30 v v=true)(ch:C.P.funcs[fn]? =some uv){bm:bI}(fj:∀ac h j,bm ac h j->uj (fR C bu bG bX v) aJ cs ac h j=some v){H:cV}{t:K D}(a6:g3 H t):
 ∀(ds:List hI) (h:K ag) (j:Nat) (todo:List dR),nI C uv.results.toList bm H ds h j->ow C bu bG bX .returning todo ⟨fn,n,ao,ds,aJ,none,cs⟩ t h j v:=by
 intro ds
 induction ds with
 |nil=>
  intro h j todo a
  obtain⟨a8,I,J⟩:=azq a6 (show rE C h H uv.results.toList (λa8=>bm (one a8) h j) from a)
  refine kV cI ?_
  show Ml todo (fR C bu bG bX v) C ⟨fn,n,ao,[],aJ,none,cs⟩ t h j=some v
  simp only[Ml,ch,I]
  exact fj _ _ _ J
 |cons d ds al=>
  intro h j todo a
  obtain⟨Mr,cv⟩:=d
  refine kV cI ?_
  show yS ⟨Mr,cv⟩ ds .returning todo (fR C bu bG bX v) C ⟨fn,n,ao,[],aJ,none,cs⟩ t h j=some v
  cases Mr with
  |collected r=>
   have a:=(show PV C r h (nI C uv.results.toList bm H ds (bn C h r (some (.deferred none))) j) from a)
   simp only[yS,a.here,show kH C r=true from RP a.low,eX,hk,Z8]
   exact ik (al _ _ _ a.go)
  |fn g cap=>
   have a:=(show us C g (cv++cap) none h j (λ_ h j=>nI C uv.results.toList bm H ds h j) from a).out
   split at a
   ·rename_i f
    obtain⟨I,⟨x4,c,J,am⟩,aB⟩:=a
    simp only[yS,B3,s3,I,J,am]
    exact aB bu dP d4 cI bG bX v aF fn n ao t todo ds aJ none cs λb T an ah=>ik (al _ _ _ ah)
   ·exact a.elim
def agS(cI:Env C bu dP d4)(aF:D.same 30 v v=true)(ch:C.P.funcs[fn]? =some uv){bm eE:bI}(fj:∀ac h j,bm ac h j->uj (fR C bu bG bX v) aJ cs ac h j=some v)(gO:∀ac h j,eE ac h j->MY C bu bG bX v cs ac h j){H:cV}{t:K D}(a6:g3 H t)(ac:D):
 ∀(ds:List hI) (h:K ag) (j:Nat) (todo:List dR),wP C uv.results.toList bm eE H ac ds h j->ow C bu bG bX (.panicking [⟨ac,false⟩]) todo ⟨fn,n,ao,ds,aJ,none,cs⟩ t h j v:=by
 intro ds
 induction ds with
 |nil=>
  intro h j todo a
  refine kV cI ?_
  have:=gO ac h j a
  show Mk [⟨ac,false⟩] todo (fR C bu bG bX v) C ⟨fn,n,ao,[],aJ,none,cs⟩ t h j=some v
  cases cs with
  |nil=>exact this.elim
  |cons c rest=>exact this
 |cons d ds al=>
  intro h j todo a
  obtain⟨Mr,cv⟩:=d
  refine kV cI ?_
  show yS ⟨Mr,cv⟩ ds (.panicking [⟨ac,false⟩]) todo (fR C bu bG bX v) C ⟨fn,n,ao,[],aJ,none,cs⟩ t h j=some v
  cases Mr with
  |collected r=>
   have a:=(show PV C r h (wP C uv.results.toList bm eE H ac ds (bn C h r (some (.deferred none))) j) from a)
   simp only[yS,a.here,show kH C r=true from RP a.low,eX,hk,Z8]
   exact ik (al _ _ _ a.go)
  |fn g cap=>
   have a:=(show us C g (cv++cap) (some ac) h j (λb h j=>bY b (nI C uv.results.toList bm H ds h j) (wP C uv.results.toList bm eE H ac ds h j)) from a).out
   split at a
   ·rename_i f
    obtain⟨I,⟨x4,c,J,am⟩,aB⟩:=a
    simp only[yS,B3,s3,I,J,am]
    refine aB bu dP d4 cI bG bX v aF fn n ao t todo ds aJ none cs λb T an ah=> ?_
    cases b with
    |true=>exact ik (Qg cI aF ch fj a6 ds T an todo ah)
    |false=>exact ik (al _ _ _ ah)
   ·exact a.elim
end
def SD{C:aL}{f d1:Nat}(aA:cW C f d1=true):∃fn c,C.P.funcs[f]? =some fn/\fn.body=some c/\(Nat.ble d1 fn.ntmps&&l4 C (Nat.lor (kv c) (oh fn.results.toList)) c&&Bs (Nat.lor (kv c) (oh fn.results.toList)) fn.results.toList)=true:=by
 unfold cW at aA
 split at aA
 ·rename_i fn ch
  split at aA
  ·rename_i c aj;exact⟨fn,c,ch,aj,aA⟩
  ·cases aA
 ·cases aA
def Ic{al:hw}{C:aL}{fn n ao:Nat}{bc:List hI}{aJ:Bool}{cs:List gL}{todo:List dR}{H:K D}{h:K ag}{j:Nat}{W:Option Code}(bK:UU W=true):o2 W al C todo ⟨fn,n,ao,bc,aJ,none,cs⟩ H h j=al .returning todo ⟨fn,n,ao,bc,aJ,none,cs⟩ H h j:=by
 simp only[o2,bK,eX]
def Jn(fn n ao:Nat)(aJ:Bool)(ro:Option Nat)(cs:List gL)(H:cV):fz Il fn n ao aJ ro cs cs H=⟨fn,n,ao,[],aJ,ro,cs⟩:=by
 unfold fz Il
 cases H.rc<;>rfl
def Jo(fn n ao:Nat)(aJ:Bool)(ro:Option Nat)(cs:List gL)(H:cV):fz Bj fn n ao aJ ro cs cs H=⟨fn,n,ao,H.bc,aJ,ro,cs⟩:=by
 unfold fz Bj
 cases H.rc<;>rfl
def ap7{C:aL}{f:Nat}{args:List D}{h:K ag}{j:Nat}{bm eE:bI}(aA:cW C f args.length=true)(a:dg C f args h j bm eE):vm C f args h j bm eE:=by
 intro bu dP d4 cI bG bX v aF cs fj gO
 obtain⟨fn,c,ch,aj,ls⟩:=SD aA
 unfold dg at a
 simp only[ch,aj]at a
 unfold oH
 simp only[ch,aj,ms,ls,eX]
 have bp:BV Il false none cs cs:=⟨λ_=>rfl,λa=>(by cases a),λa=>(by cases a),λac a=>(by cases a)⟩
 have tw:∀H t h j todo,g3 H t->rE C h H fn.results.toList (λa8=>bm (one a8) h j)->
  ow C bu bG bX .returning todo (fz Il f fn.ntmps (Nat.lor (kv c) (oh fn.results.toList)) false none cs cs H) t h j v:=by
  intro H t h j todo a6 a
  rw[Jn]
  exact Qg cI aF ch (λac h j ah=>fj ac h j ah) a6 [] h j todo a
 refine ik (kV cI ?_)
 rw[<-Jn f fn.ntmps (Nat.lor (kv c) (oh fn.results.toList)) false none cs (cO args)]
 refine R0 c cI aF Il false none cs cs _ [] _ _ _ _ _ h j bp (λH t ac h j todo a6 a=> ?_) (λH t h j a6 a=> ?_) (λid H h j a=>a.elim) (λH t h j todo a6 a=> ?_) (RH args) a
 ·rw[Jn]
  exact agS (uv:=fn) (bm:=bm) cI aF ch (λac h j ah=>fj ac h j ah) (λac h j ah=>gO ac h j ah) a6 ac [] h j todo a
 ·refine kV cI ?_
  have:=tw H t h j [] a6 a
  rw[Jn]at this ⊢
  show o2 none (fR C bu bG bX v) C [] ⟨f,fn.ntmps,Nat.lor (kv c) (oh fn.results.toList),[],false,none,cs⟩ t h j=some v
  rw[Ic rfl]
  exact ik this
 ·have:=tw H t h j todo a6 a
  rw[Jn]at this ⊢
  rw[Ic rfl]
  exact ik this
def ap8{C:aL}{f:Nat}{args:List D}{h:K ag}{j:Nat}{bm eE:bI}(aA:cW C f args.length=true)(a:Cl C f args h j bm eE):vm C f args h j bm eE:=by
 intro bu dP d4 cI bG bX v aF cs fj gO
 obtain⟨fn,c,ch,aj,ls⟩:=SD aA
 unfold Cl at a
 simp only[ch,aj]at a
 unfold oH
 simp only[ch,aj,ms,ls,eX]
 have bp:BV Bj false none cs cs:=⟨λ_=>rfl,λ_=>rfl,λa=>(by cases a),λac a=>(by cases a)⟩
 have tw:∀H t h j todo,g3 H t->nI C fn.results.toList bm H H.bc h j->
  ow C bu bG bX .returning todo (fz Bj f fn.ntmps (Nat.lor (kv c) (oh fn.results.toList)) false none cs cs H) t h j v:=by
  intro H t h j todo a6 a
  rw[Jo]
  exact Qg cI aF ch (λac h j ah=>fj ac h j ah) a6 H.bc h j todo a
 refine ik (kV cI ?_)
 rw[show(⟨f,fn.ntmps,Nat.lor (kv c) (oh fn.results.toList),[],false,none,cs⟩:iu)=fz Bj f fn.ntmps (Nat.lor (kv c) (oh fn.results.toList)) false none cs cs (cO args) from(Jo f fn.ntmps (Nat.lor (kv c) (oh fn.results.toList)) false none cs (cO args)).symm]
 refine R0 c cI aF Bj false none cs cs _ [] _ _ _ _ _ h j bp (λH t ac h j todo a6 a=> ?_) (λH t h j a6 a=> ?_) (λid H h j a=>a.elim) (λH t h j todo a6 a=> ?_) (RH args) a
 ·rw[Jo]
  exact agS (uv:=fn) (bm:=bm) cI aF ch (λac h j ah=>fj ac h j ah) (λac h j ah=>gO ac h j ah) a6 ac H.bc h j todo a
 ·refine kV cI ?_
  have:=tw H t h j [] a6 a
  rw[Jo]at this ⊢
  show o2 none (fR C bu bG bX v) C [] ⟨f,fn.ntmps,Nat.lor (kv c) (oh fn.results.toList),H.bc,false,none,cs⟩ t h j=some v
  rw[Ic rfl]
  exact ik this
 ·have:=tw H t h j todo a6 a
  rw[Jo]at this ⊢
  rw[Ic rfl]
  exact ik this
def acF{C:aL}{f:Nat}{args:List D}{jX:Option D}{h:K ag}{j:Nat}{bm:Bool->K ag->Nat->Prop}(aA:cW C f args.length=true)(a:Ay C f args jX h j bm)
 {bu:World}{dP:c9}{d4:Nat->Prop}(cI:Env C bu dP d4){bG:Nat}{bX:List Frame}{v:D}(aF:D.same 30 v v=true){cs dc:List gL}(bp:BV ⟨false,false,some jX⟩ true none cs dc)
 (asr:∀b ac h j,bm b h j->uj (fR C bu bG bX v) true (bY b dc cs) ac h j=some v):oH (fR C bu bG bX v) C f args true cs h j=some v:=by
 obtain⟨fn,c,ch,aj,ls⟩:=SD aA
 unfold Ay at a
 simp only[ch,aj]at a
 unfold oH
 simp only[ch,aj,ms,ls,eX]
 have tw:∀H t h j todo,g3 H t->rE C h H fn.results.toList (λ_=>bm H.rc h j)->
  ow C bu bG bX .returning todo (fz ⟨false,false,some jX⟩ f fn.ntmps (Nat.lor (kv c) (oh fn.results.toList)) true none cs dc H) t h j v:=by
  intro H t h j todo a6 a
  exact Qg (bm:=λ_ h j=>bm H.rc h j) cI aF ch (λac h j ah=>asr H.rc ac h j ah) a6 [] h j todo a
 refine ik (kV cI ?_)
 refine R0 c cI aF ⟨false,false,some jX⟩ true none cs dc _ [] _ _ _ (cO args) _ h j bp (λH t ac h j todo a6 a=>a.elim) (λH t h j a6 a=> ?_) (λid H h j a=>a.elim) (λH t h j todo a6 a=> ?_) (RH args) a
 ·refine kV cI ?_
  show o2 none (fR C bu bG bX v) C [] ⟨f,fn.ntmps,Nat.lor (kv c) (oh fn.results.toList),[],true,none,bY H.rc dc cs⟩ t h j=some v
  rw[Ic rfl]
  exact ik (tw H t h j [] a6 a)
 ·show o2 (some .ret) (fR C bu bG bX v) C todo ⟨f,fn.ntmps,Nat.lor (kv c) (oh fn.results.toList),[],true,none,bY H.rc dc cs⟩ t h j=some v
  rw[Ic rfl]
  exact ik (tw H t h j todo a6 a)
def NS{C:aL}{f:Nat}{args:List D}{jX:Option D}{h:K ag}{j:Nat}{bm:Bool->K ag->Nat->Prop}(aA:cW C f args.length=true)(a:Ay C f args jX h j bm):WY C f args jX h j bm:=by
 intro bu dP d4 cI bG bX v aF SC aG Ik rW Wv aoW JU V3 r2 fj
 cases jX with
 |none=>
  refine acF aA a cI aF (dc:=_) ⟨λ_=>rfl,λa=>(by cases a),λa=>⟨rfl,rfl⟩,λac a=>(by cases a)⟩ (λb ac h j ah=> ?_)
  have:=fj b h j ah
  cases b<;>exact this
 |some p=>
  refine acF aA a cI aF (dc:=(⟨SC,aG,Ik,rW,Wv,aoW, .panicking [⟨p,true⟩],JU,V3⟩:gL)::r2) ⟨λ_=>rfl,λa=>(by cases a),λa=>(by cases a),λac a=> ?_⟩ (λb ac h j ah=> ?_)
  ·simp only[Zf]at a
   subst a
   exact⟨rfl,rfl⟩
  ·have:=fj b h j ah
   cases b<;>exact this
def an3{C:aL}{bu:World}{dP:c9}{d4:Nat->Prop}(cI:Env C bu dP d4){f:Nat}{args:List D}{v:D}(aF:D.same 30 v v=true)(hN:ep d4 args)
 (a:vm C f args .nil C.a2 (λac _ _=>ac=v) (λ_ _ _=>False)):Calls C.P f (b2 dP args).toArray bu λE b1=>(∃S,E= .returned (aQ S v))/\Below bu.heap.size bu b1:=by
 intro r2
 have bT:Ends C bu f r2 v (lone (Frame.enter C.P f (b2 dP args).toArray .normal) r2 bu):=
  NH aa4 cI.base (Below.refl _ _) cI.hW (Zi _) .nil (λ_=>rfl) hN
   (a bu dP d4 cI f r2 v aF [] (λac T an E=>by subst E;rfl) (λac T an E=>E.elim))
 obtain⟨S,b1,fr,bF,cn,eU,iL⟩:=bT
 exact⟨.returned (aQ S v),b1,fr,⟨⟨S,rfl⟩,iL⟩,bF,eU,cn⟩
end
end Go.bd

