/- A part of the last text's proof; no condition of its own -/
import Derived.Test.YtpfajohmofnkfaaGreatDoorYe
set_option maxHeartbeats 8000000
set_option linter.all false
namespace Go.bk
noncomputable section
open Go.RowKit (Below)
def xF(ca:Nat)(Y:Nat->List J->Option J)(f:Nat)(args:List J):Option J:=
 bV (Nat.beq f ca) (match args with
  |[.str s]=>bV (yc s&&Nat.ble s.length 281474976710656) (some (.str s)) none
  |_=>none) (Y f args)
section
variable{P:Program}{w:World}
def adQ{ca f:Nat}{Y:Nat->List J->Option J}{args:List J}{v:J}(a:xF ca Y f args=some v):
 (f=ca/\∃s,args=[.str s]/\v= .str s/\(∀x∈s,x<256)/\s.length<=281474976710656)\/Y f args=some v:=by
 unfold xF at a
 rw[hO]at a
 split at a
 ·rename_i I
  split at a
  ·rename_i s
   simp only[e5,Zp,Zf]at a
   exact .inl ⟨I,s,rfl,a.2.symm,Pd a.1.1,jm a.1.2⟩
  ·simp at a
 ·exact .inr a
def Env.atr{nm:List (String×Nat)}(h8:AC P nm){laid:List (String×DataW Unit)}{Y:Nat->List J->Option J}{ca:Nat}{fn:Func}{c:Code}(b9:P.funcs[ca]? =some fn)(aM:(fn.name== "runtime.NumGoroutine")=false)(ai:fn.body=some c)
 (aou:∀(s:ByteArray) (w:World),s.size<=281474976710656->Calls P ca #[.string s] w λI bZ=>I= .returned (.string s)/\Below w.heap.size w bZ)(a:laidMet P laid w){dW:da}{ec:Nat->Prop}
 (cJ:Env ⟨P,nl (g3 P nm laid P.globals.size).2 .nil,(g3 P nm laid P.globals.size).1,Y,P.globals.size⟩ w dW ec):
 ∃S af,Env ⟨P,nl (g3 P nm laid P.globals.size).2 .nil,(g3 P nm laid P.globals.size).1,xF ca Y,P.globals.size⟩ w S af:=by
 obtain⟨S,af,au,aP⟩:=SE (hf:=xF ca Y) h8 a
 refine⟨S,af,cJ.km,⟨λf args v bl=> ?_,λf args v bl S py lT=> ?_⟩,au,aP⟩
 ·rcases adQ bl with ⟨rfl,s,rfl,rfl,aI,_⟩|bl
  ·exact⟨⟨λ_ _=>rfl,λ_=>aI⟩,λ_ _=>rfl,λ_=>⟨aI,trivial⟩⟩
  ·exact cJ.hf.val f args v bl
 ·rcases adQ bl with ⟨rfl,s,rfl,rfl,aI,aD⟩|bl
  ·right
   have MO:¬fn.name= "runtime.NumGoroutine":=by simpa using aM
   refine⟨by simp[callFunc,b9,MO,ai], ?_⟩
   have:=aou (f4 s) py (by simpa[f4,ByteArray.size]using aD)
   exact this
  ·exact cJ.hf.ok f args v bl S py lT
end
end
end Go.bk

namespace Go.bk
noncomputable section
open Go.RowKit (Below)
def aeI(C:a2):List (Nat×an)->V an->V an
 |[],M=>M
 |(b,Y)::l,M=>aeI C l (bo C M b (some Y))
def pick(C:a2)(h:V an):List Nat->List (Nat×an)
 |[]=>[]
 |b::l=>match ab C h b with|some Y=>(b,Y)::pick C h l|none=>pick C h l
def XF(C:a2):List Nat->Bool
 |[]=>true
 |b::l=>kD C b&&XF C l
def as4(C:a2)(L:List Nat)(h:V an):V an:=aeI C (pick C h L) .nil
def avE(todo:List d0):Bool:=match todo with| .drawn .. ::_=>false|_=>true
def adJ:List gN->Bool
 |[]=>true
 |c::l=>(match c with|⟨_,_,_,_,todo,_,_,_,_⟩=>(match todo with| .As .. ::_=>false|_=>true))&&adJ l
def tt(C:a2)(L:List Nat)(b:hE):hE:=λbP todo ca M h j=>match ca with
 |⟨fn,n,av,bg,aF,ro,cs⟩=>bV (avE todo&&adJ cs&&XF C L) (b bP todo ⟨fn,n,av,bg,aF,ro,cs⟩ M (as4 C L h) j) none
section
variable{C:a2}{S dW:da}{af ec:Nat->Prop}{h U:V an}{j bm:Nat}{w:World}
variable{bt:World}{bE:Nat}{bQ:List Frame}{v:J}{b:hE}
def nU(C:a2)(bt:World)(bE:Nat)(bQ:List Frame)(bP:kT)(todo:List d0)(ca:iq)(M:V J)(h:V an)(j:Nat)(v:J):Prop:=
 ∀S af w dk tmps bx aq,Ct C bt bE bQ bP todo ca.fn ca.n ca.av ca.bg ca.aF ca.ro ca.cs M h j S af w dk tmps bx aq->Ends C bt bE bQ v (lone (ct S ca.fn ca.bg ca.aF ca.ro tmps bx (gO S bP)) aq w)
open Classical in
def only(y7:kT)(TV:List d0)(kV:iq)(q8:V J)(a6:V an)(DZ:Nat)(v:J):hE:=λbP todo ca M h j=>
 if bP=y7/\todo=TV/\ca=kV/\M=q8/\h=a6/\j=DZ then some v else none
end
end
end Go.bk

namespace Go.bk
noncomputable section
open Go.RowKit (Below)
def low(af:Nat->Prop)(N:Nat)(b:Nat):Prop:=af b/\b<N
section
variable{af:Nat->Prop}{N:Nat}
end
end
end Go.bk

namespace Go.bk
noncomputable section
open Go.RowKit (Below)
section
variable{C:a2}{S dW:da}{af ec:Nat->Prop}{h U:V an}{j bm N:Nat}{w:World}
variable{bt:World}{bE g:Nat}{bQ:List Frame}{v:J}{b:hE}
open Classical in
def fV(C:a2)(bt:World)(bE:Nat)(bQ:List Frame)(v:J):hE:=λbP todo ca M h j=>if nU C bt bE bQ bP todo ca M h j v then some v else none
def WI:nt C bt bE bQ (fV C bt bE bQ v):=by
 intro bP todo fn n av bg aF ro cs M h j ae be S af w dk tmps bx aq dp
 unfold fV at be
 split at be
 ·rename_i a
  simp at be;subst be
  exact a S af w dk tmps bx aq dp
 ·cases be
def ie{bP:kT}{todo:List d0}{ca:iq}{M:V J}(a:nU C bt bE bQ bP todo ca M h j v):fV C bt bE bQ v bP todo ca M h j=some v:=by
 unfold fV
 rw[Zr a]
def am7{eT:d0}{F:List d0}{ca:iq}{M:V J}(aI:J.same 30 v v=true):∀l:List (J×V an),l≠[]->(∀ae U,(ae,U)∈l->∃hJ,oT eT ae=some hJ/\nU C bt bE bQ .run (hJ::F) ca M U j v)->
 yu (fV C bt bE bQ v) eT F ca M j l=some v:=by
 intro l
 induction l with
 |nil=>intro a;exact absurd rfl a
 |cons p l na=>
  obtain⟨ae,U⟩:=p
  intro _ k2
  obtain⟨hJ,T,W⟩:=k2 ae U (Zv ..)
  cases l with
  |nil=>simp only[yu,T];exact ie W
  |cons ao l=>
   have am:=na Zs (λae U a=>k2 ae U (Zu _ a))
   simp only[yu,T,ie W]
   rw[am]
   simp only[aI,e6]
end
end
end Go.bk

namespace Go.bk
noncomputable section
open Go.RowKit (Below)
abbrev bJ:=J->V an->Nat->Prop
structure dY where
 g:Nat->Option J
 bg:List hN:=[]
 rc:Bool:=false
instance:CoeFun dY (λ_=>Nat->Option J):=⟨dY.g⟩
def ac(M:dY)(d:Nat)(v:J):dY:=⟨λn=>bV (Nat.beq d n) (some v) (M.g n),M.bg,M.rc⟩
def hP(l:List Nat)(M:dY):dY:=⟨λn=>bV (om n l) none (M.g n),M.bg,M.rc⟩
def Af(M:dY)(d:hN):dY:=⟨M.g,d::M.bg,M.rc⟩
def N8(M:dY):dY:=⟨M.g,M.bg,true⟩
abbrev gB:=dY->V an->Nat->Prop
abbrev rZ:=dY->bJ
structure uq where
 rd:Bool
 bg:Bool
 jJ:Option (Option J)
def aj{α:Type}(Y:Option α)(ak:α->Prop):Prop:=Option.rec (motive:=λ_=>Prop) False (λK=>ak K) Y
def ave{α:Type}{Y:Option α}{ak:α->Prop}{K:α}(a:Y=some K)(F:ak K):aj Y ak:=by subst a;exact F
def sR{α:Type}{Y:Option α}{ak:α->Prop}:aj Y ak↔∃K,Y=some K/\ak K:=by
 cases Y with
 |none=>simp[aj]
 |some K=>simp[aj]
structure E{α:Type}(Y:Option α)(ak:α->Prop):Prop where
 out:aj Y ak
def avf{α:Type}(Y:Option α)(ak:α->Prop):E Y ak=aj Y ak:=propext ⟨λa=>a.out,λa=>⟨a⟩⟩
def fS{α:Type}{Y:Option α}{ak:α->Prop}{K:α}(a:Y=some K)(F:ak K):E Y ak:=⟨ave a F⟩
def kN{α:Type}{Y:Option α}{ak:α->Prop}:E Y ak↔∃K,Y=some K/\ak K:=by rw[avf];exact sR
def akW(v:J)(K b:Prop):Prop:=J.rec (motive_1:=λ_=>Prop) (motive_2:=λ_=>Prop)
 (λt=>(t=true->K)/\(t=false->b)) (λ_ _=>False) (λ_=>False) (λ_ _=>False) False (λ_ _ _ _=>False) (λ_ _ _ _=>False) False (λ_=>False) False
 (λ_ _ _ _ _=>False) False (λ_ _ _=>False) False (λ_ _=>False) (λ_ _=>False) False (λ_ _ _ _=>False) v
structure aX(v:J)(K b:Prop):Prop where
 out:akW v K b
def W5{v:J}{K b:Prop}(a:aX v K b):∃t,v= .bool t/\(t=true->K)/\(t=false->b):=by
 have a:=a.out
 cases v with
 |bool t=>exact⟨t,rfl,a⟩
 |_=>exact a.elim
def aob(lF:Bool)(v:J)(K b:Prop):Prop:=J.rec (motive_1:=λ_=>Prop) (motive_2:=λ_=>Prop)
 (λt=>(t=lF->K)/\(t=(!lF)->b)) (λ_ _=>b) (λ_=>b) (λ_ _=>b) b (λ_ _ _ _=>b) (λ_ _ _ _=>b) b (λ_=>b) b
 (λ_ _ _ _ _=>b) b (λ_ _ _=>b) b (λ_ _=>b) (λ_ _=>b) b (λ_ _ _ _=>b) v
structure hQ(lF:Bool)(v:J)(K b:Prop):Prop where
 out:aob lF v K b
structure pd(d7:bJ)(body:bJ->Prop):Prop where
 out:body d7
def asN(d7:bJ)(body:bJ->Prop):pd d7 body=body d7:=propext ⟨λa=>a.out,λa=>⟨a⟩⟩
structure aT(d7:gB)(body:gB->Prop):Prop where
 out:body d7
structure cU(d7:J->Prop)(body:(J->Prop)->Prop):Prop where
 out:body d7
structure sG(d7:J->V an->Prop)(body:(J->V an->Prop)->Prop):Prop where
 out:body d7
def asL(d7:J->V an->Prop)(body:(J->V an->Prop)->Prop):sG d7 body=body d7:=propext ⟨λa=>a.out,λa=>⟨a⟩⟩
structure Gq(d7:Prop)(body:Prop->Prop):Prop where
 out:body d7
def asM(d7:Prop)(body:Prop->Prop):Gq d7 body=body d7:=propext ⟨λa=>a.out,λa=>⟨a⟩⟩
def j0{d7:gB}{body:gB->Prop}(j8:gB)(T:∀aa:gB,(∀M h j,j8 M h j->aa M h j)->body aa)(W:∀M h j,j8 M h j->d7 M h j):aT d7 body:=⟨T d7 W⟩
structure eM(n:Nat)(ak:Nat->Prop):Prop where
 out:ak n
structure cH(C:a2)(h:V an)(j:Nat)(v:J)(cO:an)(ak:bJ):Prop where
 out:ak v (bo C h j (some cO)) (j+1)
structure ld(C:a2)(h:V an)(b:Nat)(v:J)(cO:an)(ak:J->V an->Prop):Prop where
 out:ak v (bo C h b (some cO))
structure yg(C:a2)(h:V an)(b:Nat)(K:J)(ak:J->V an->Prop):Prop where
 out:ak (.ptr b 0) (bo C h b (some (.cells (V.ofList K.cells 0 .nil) K.cells.length .own)))
structure iG(C:a2)(h:V an)(j:Nat)(K:J)(ak:bJ):Prop where
 out:ak (.ptr j 0) (bo C h j (some (.cells (V.ofList K.cells 0 .nil) K.cells.length .own))) (j+1)
section
variable(C:a2)(bt:World)(bE:Nat)(bQ:List Frame)(v:J)
def OG(cs:List gN):bJ:=λae h j=>tg (fV C bt bE bQ v) false cs ae h j=some v
def K0(cs:List gN):bJ:=λae h j=>match cs with
 |c::rest=>aes (fV C bt bE bQ v) c rest [⟨ae,false⟩] h j=some v
 |[]=>False
end
def uo(C:a2)(f:Nat)(args:List J)(h:V an)(j:Nat)(bv eY:bJ):Prop:=
 ∀(bt:World) (dW:da) (ec:Nat->Prop) (_:Env C bt dW ec) (bE:Nat) (bQ:List Frame) (v:J) (_:J.same 30 v v=true) (cs:List gN),
  (∀ae U ar,bv ae U ar->OG C bt bE bQ v cs ae U ar)->(∀ae U ar,eY ae U ar->K0 C bt bE bQ v cs ae U ar)->
  n5 (fV C bt bE bQ v) C f args false cs h j=some v
def uo.mono{C:a2}{f:Nat}{args:List J}{h:V an}{j:Nat}{bv eY q5 Hz:bJ}(a:uo C f args h j bv eY)(gD:∀ae h j,bv ae h j->q5 ae h j)(iV:∀ae h j,eY ae h j->Hz ae h j):
 uo C f args h j q5 Hz:=
 λbt dW ec cJ bE bQ v aI cs T W=>a bt dW ec cJ bE bQ v aI cs (λae h j ao=>T ae h j (gD ae h j ao)) (λae h j ao=>W ae h j (iV ae h j ao))
def N2(am:hE)(C:a2)(l:Nat)(args:List J)(cs:List gN)(h:V an)(j:Nat):ed:=match ab C h l with
 |some (.loop _ _ fn n av c8 params assign body _)=>(match xO n params args c8 with
  |some c8=>am .run [.code assign, .beginRound, .code body] ⟨fn,n,av,[],false,some l,cs⟩ c8 h j
  |none=>none)
 |_=>none
def AF(C:a2)(l:Nat)(args:List J)(h:V an)(j:Nat)(bv eY:bJ):Prop:=
 ∀(bt:World) (dW:da) (ec:Nat->Prop) (_:Env C bt dW ec) (bE:Nat) (bQ:List Frame) (v:J) (_:J.same 30 v v=true) (cs:List gN),
  (∀ae U ar,bv ae U ar->OG C bt bE bQ v cs ae U ar)->(∀ae U ar,eY ae U ar->K0 C bt bE bQ v cs ae U ar)->
  N2 (fV C bt bE bQ v) C l args cs h j=some v
def AF.mono{C:a2}{l:Nat}{args:List J}{h:V an}{j:Nat}{bv eY q5 Hz:bJ}(a:AF C l args h j bv eY)(gD:∀ae h j,bv ae h j->q5 ae h j)(iV:∀ae h j,eY ae h j->Hz ae h j):
 AF C l args h j q5 Hz:=
 λbt dW ec cJ bE bQ v aI cs T W=>a bt dW ec cJ bE bQ v aI cs (λae h j ao=>T ae h j (gD ae h j ao)) (λae h j ao=>W ae h j (iV ae h j ao))
def Uh(C:a2)(f:Nat)(args:List J)(jJ:Option J)(h:V an)(j:Nat)(bv:Bool->V an->Nat->Prop):Prop:=
 ∀(bt:World) (dW:da) (ec:Nat->Prop) (_:Env C bt dW ec) (bE:Nat) (bQ:List Frame) (v:J) (_:J.same 30 v v=true) (fn n av:Nat) (M:V J) (todo:List d0) (ds:List hN) (aF:Bool) (ro:Option Nat) (cs:List gN),
  (∀b U ar,bv b U ar->fV C bt bE bQ v (match jJ,b with|none,_=> .returning|some _,true=> .returning|some ae,false=> .panicking [⟨ae,false⟩]) todo ⟨fn,n,av,ds,aF,ro,cs⟩ M U ar=some v)->
  n5 (fV C bt bE bQ v) C f args true (⟨fn,n,av,M,todo,ds,(match jJ with|none=> .returning|some ae=> .panicking [⟨ae,false⟩]),aF,ro⟩::cs) h j=some v
structure aW(C:a2)(f:Nat)(args:List J)(h:V an)(j:Nat)(ak ay:bJ):Prop where
 out:(∃ae,C.hf f args=some ae/\ak ae h j)\/(C.hf f args=none/\(∃fn c,C.P.funcs[f]? =some fn/\fn.body=some c)/\uo C f args h j ak ay)
structure gR(Y:Option eg)(h:V an)(j:Nat)(ak:bJ):Prop where
 out:match Y with
 |some (.val v)=>ak v h j
 |some (.fE v U ar)=>ak v U ar
 |_=>False
def awk(Y:Option eg)(h:V an)(j:Nat)(ak:bJ):gR Y h j ak=(match Y with
 |some (.val v)=>ak v h j
 |some (.fE v U ar)=>ak v U ar
 |_=>False):=propext ⟨λa=>a.out,λa=>⟨a⟩⟩
def aey{Y:Option eg}{h:V an}{j:Nat}{ak:bJ}{v:J}(a:Y=some (.val v))(F:ak v h j):gR Y h j ak:=by subst a;exact⟨F⟩
def ky{Y:Option eg}{h U:V an}{j ar:Nat}{ak:bJ}{v:J}(a:Y=some (.fE v U ar))(F:ak v U ar):gR Y h j ak:=by subst a;exact⟨F⟩
structure Fp(Y:Option eg)(h:V an)(j:Nat)(ak:bJ):Prop where
 out:match Y with
 |some (.val v)=>ak v h j
 |some (.fE v U ar)=>ak v U ar
 |some (.fork l)=>l≠[]/\∀ae U,(ae,U)∈l->ak ae U j
 |_=>False
def am9(Y:Option eg)(h:V an)(j:Nat)(ak:bJ):Fp Y h j ak=(match Y with
 |some (.val v)=>ak v h j
 |some (.fE v U ar)=>ak v U ar
 |some (.fork l)=>l≠[]/\∀ae U,(ae,U)∈l->ak ae U j
 |_=>False):=propext ⟨λa=>a.out,λa=>⟨a⟩⟩
def Cy(C:a2)(rd:Bool)(Y:Option eg)(h:V an)(j:Nat)(ak ay:bJ):Prop:=match Y with
 |some (.val v)=>ak v h j
 |some (.fE v U ar)=>ak v U ar
 |some (.enter f args)=>uo C f args h j ak ay
 |some (.round l args)=>AF C l args h j ak ay
 |some (.known _ _ v)=>ak v h j
 |some (.panic v)=>bV rd False (ay v h j)
 |some (.fork l)=>l≠[]/\∀ae U,(ae,U)∈l->ak ae U j
 |_=>False
def jB(x:kp)(aw:List (Nat×J))(M:dY)(ak:J->Prop):Prop:=
 kp.rec (motive:=λ_=>Prop) (λaa=>aj (ez aw aa) ak) (λn=>aj (M n) ak) (λK=>ak K) x
def LH(aw:List (Nat×J))(M:dY)(l:List kp):(List J->Prop)->Prop:=
 List.rec (motive:=λ_=>(List J->Prop)->Prop) (λak=>ak []) (λx _ am ak=>jB x aw M λK=>am λr=>ak (K::r)) l
def eU(b3:List (Nat×Nat))(aw:List (Nat×J))(M:dY)(Y:Operand)(ak:J->Prop):Prop:=match Y with
 | .tmp t=>(match ez b3 t with|some aa=>aj (ez aw aa) ak|none=>aj (M t) ak)
 | .const v=>aj (D0 v) ak
 | .global g=>ak (.ptr g 0)
 | .func f=>ak (.func (.func f) [] [])
def sQ(b3:List (Nat×Nat))(aw:List (Nat×J))(M:dY)(l:List Operand):(List J->Prop)->Prop:=
 List.rec (motive:=λ_=>(List J->Prop)->Prop) (λak=>ak []) (λx _ am ak=>eU b3 aw M x λK=>am λr=>ak (K::r)) l
def B4(b3:List (Nat×Nat))(aw:List (Nat×J))(M:dY)(l:List (Nat×Operand)):(List (Nat×J)->Prop)->Prop:=
 List.rec (motive:=λ_=>(List (Nat×J)->Prop)->Prop) (λak=>ak []) (λx _ am ak=>eU b3 aw M x.2 λK=>am λr=>ak ((x.1,K)::r)) l
def NL(b3:List (Nat×Nat))(aw:List (Nat×J))(M:dY)(Y:Option Operand)(ak:Option J->Prop):Prop:=match Y with
 |none=>ak none
 |some x=>eU b3 aw M x λK=>ak (some K)
def iN:Operand:= .global 0
def gz:Operand:= .global 1
def kv:Operand:= .global 2
def kw(K:J):Operand->Option J:=λ_=>some K
def two(K b:J):Operand->Option J:=λY=>match Y with| .global 0=>some K|_=>some b
def ae4(K b c:J):Operand->Option J:=λY=>match Y with| .global 0=>some K| .global 1=>some b|_=>some c
def Gj(n br:Nat)(K i:J):Option J:=match nc i with|some i=>KQ n br K i|none=>none
def dd(br:Nat)(K i:J):Option J:=match nc i with|some i=>Ck br K i|none=>none
def XZ(C:a2)(t f:Nat)(K:J):Option J:=JX C t iN f .nil (kw K)
def Xj(C:a2)(h:V an)(s d:Nat)(K:J):Option J:=JW C s d iN h (kw K)
def acx(C:a2)(t:Nat)(K:J):Option J:=JY C t iN .nil (kw K)
def WQ(C:a2)(t:Nat)(ok:Bool)(K:J):Option J:=JV C iN t ok .nil (kw K)
def XJ(C:a2)(h:V an)(K:J):Option J:=Sy C iN h (kw K)
def r7(C:a2)(h:V an)(b:Builtin)(dm:List TypeId)(bj:List J):Option J:=match b,bj with
 | .len,[x]=>(match dm with|t::_=>La C h t x|_=>none)
 | .cap,[x]=>(match dm with|t::_=>K7 C t x|_=>none)
 | .max,x::l=>oM true x l
 | .min,x::l=>oM false x l
 |_,_=>none
def b8(C:a2)(h:V an)(s:Nat)(K v:J):Option (V an):=match K with
 | .ptr b Y=>bV (Nat.beq v.cells.length s&&Nat.blt 0 s) (wJ C h b Y v.cells) none
 |_=>none
def FH(C:a2)(h:V an)(j:Nat)(b:Builtin)(dm:List TypeId)(bj:List J):Option eg:=match b,bj with
 | .append,[s,x]=>(match dm with
   |st::iB::_=>(match C.P.underlying iB with
    |some (.int _)=>(match nc x with|some n=>K8 C h j st s n|none=>none)
    |some (.slice _)=>EM C h j st s x
    |some .string=>EM C h j st s x
    |_=>none)
   |_=>none)
 |_,_=>none
structure iw(C:a2)(mF:J)(cv:List J)(h:V an)(j:Nat)(ak ay:bJ):Prop where
 out:match mF with
 | .func fn first fO=>(match fn with| .func f=>aW C f ((first++cv)++fO) h j ak ay| .yield l=>AF C l (first++cv) h j ak ay|_=>False)
 |_=>False
def Oa(C:a2)(t len:Nat)(du:List (Nat×J))(b:Nat):Option (J×an):=match C.P.underlying t with
 |some (.slice ep)=>(match ji C ep,s8 C ep with
  |some s,some bu=>bV (Nat.ble (len*s) 16777216&&Nat.beq bu.cells.length s) ((match AY (λi=>some (i*s,s)) (kP len bu.cells) du with
    |some cs=>some (J.slice b 0 len len,an.cells (V.ofList cs 0 .nil) cs.length .own)
    |none=>none))<|none
  |_,_=>none)
 |_=>none
structure vQ(ay:bJ)(K:J)(h:V an)(j:Nat):Prop where
 out:match K with| .iface t v=>ay (.iface t v) h j|_=>False
def avq(ay:bJ)(K:J)(h:V an)(j:Nat):vQ ay K h j=(match K with| .iface t v=>ay (.iface t v) h j|_=>False):=propext ⟨λa=>a.out,λa=>⟨a⟩⟩
structure adt(C:a2)(rd:Bool)(l4:J)(name:String)(cv:List J)(h:V an)(j:Nat)(ak ay:bJ):Prop where
 out:match l4 with
 | .iface t v=>Cy C rd (EN C h t v name cv) h j ak ay
 |_=>False
def auf(C:a2)(rd:Bool)(l4:J)(name:String)(cv:List J)(h:V an)(j:Nat)(ak ay:bJ):adt C rd l4 name cv h j ak ay=(match l4 with
 | .iface t v=>Cy C rd (EN C h t v name cv) h j ak ay
 |_=>False):=propext ⟨λa=>a.out,λa=>⟨a⟩⟩
def ac9(b3:List (Nat×Nat))(Y:Op):a2->V an->List (Nat×J)->dY->(J->Prop)->Prop:=match Y with
 | .build t j4=>λC _ aw M ak=>B4 b3 aw M j4.toList λdu=>E (K6 C t du) ak
 | .binOp op t x e _=>λC h aw M ak=>eU b3 aw M x λK=>eU b3 aw M e λb=>E (dc C h op t (qH x||qH e) K b) ak
 | .unOp op _ x=>λ_ _ aw M ak=>eU b3 aw M x λK=>E (fe op K) ak
 | .convert s d x=>λC h aw M ak=>eU b3 aw M x λK=>E (Xj C h s d K) ak
 | .makeInterface t x=>λC _ aw M ak=>eU b3 aw M x λK=>E (acx C t K) ak
 | .makeFunc fn first fO=>λ_ _ aw M ak=>(match fn with
   | .func f=>sQ b3 aw M first.toList λK=>sQ b3 aw M fO.toList λb=>ak (.func (.func f) K b)
   |_=>False)
 | .slice t x bU aN he=>λC h aw M ak=>eU b3 aw M x λK=>NL b3 aw M bU λl=>NL b3 aw M aN λa=>NL b3 aw M he λm=>E (Lc C h t K l a m) ak
 | .field t x f=>λC _ aw M ak=>eU b3 aw M x λK=>E (XZ C t f K) ak
 | .index t x i=>λC _ aw M ak=>eU b3 aw M x λK=>eU b3 aw M i λb=>E (K9 C t K b) ak
 | .lookup t m F ok=>λC h aw M ak=>eU b3 aw M m λK=>eU b3 aw M F λb=>E (Lb C h t K b ok) ak
 | .typeAssert x _ t ok=>λC _ aw M ak=>eU b3 aw M x λK=>E (WQ C t ok K) ak
 | .entry eT=>λC h aw M ak=>eU b3 aw M eT λK=>E (XJ C h K) ak
 | .call c=>λC h aw M ak=>(match c with
   |⟨.builtin b,args,dm⟩=>sQ b3 aw M args.toList λbj=>E (r7 C h b dm.toList bj) ak
   |_=>False)
 |_=>λ_ _ _ _ _=>False
def GB(op:jM):a2->V an->List (Nat×J)->dY->(J->Prop)->Prop:=match op with
 | .DQ x=>λ_ _ aw M ak=>jB x aw M ak
 | .pick c K b=>λ_ _ aw M ak=>jB c aw M λc=>cU ak λak=>aX c (jB K aw M ak) (jB b aw M ak)
 | .f0 K=>λC h aw M ak=>jB K aw M λK=>E (al C h K) ak
 | .BK n K=>λC h aw M ak=>jB K aw M λK=>E (bM C h n K) ak
 | .off d x=>λ_ _ aw M ak=>jB x aw M λK=>E (a1 d K) ak
 | .BC n br x i=>λ_ _ aw M ak=>jB x aw M λK=>jB i aw M λi=>E (Gj n br K i) ak
 | .BD br x i=>λ_ _ aw M ak=>jB x aw M λK=>jB i aw M λi=>E (dd br K i) ak
 | .DW x=>λ_ _ aw M ak=>jB x aw M λK=>E (cl K) ak
 | .JG op x e=>λ_ _ aw M ak=>jB x aw M λK=>jB e aw M λb=>E (aC op K b) ak
 | .ext i x=>λ_ _ aw M ak=>jB x aw M λK=>E (cK i K) ak
 | .ia b3 Y=>ac9 b3 Y
 |_=>λ_ _ _ _ _=>False
def adn(op:jM):a2->V an->Nat->List (Nat×J)->dY->bJ->Prop:=match op with
 | .make b3 Y=>(match Y with
   | .alloc t=>λC h b _ _ ak=>E (DN C t (kw undef) b) λr=>cH C h b r.1 r.2 ak
   | .box _ x=>λC h b aw M ak=>eU b3 aw M x λK=>iG C h b K ak
   | .buildSlice t len j4=>λC h b aw M ak=>B4 b3 aw M j4.toList λdu=>E (Oa C t len du b) λr=>cH C h b r.1 r.2 ak
   | .makeMap _ none=>λC h b _ _ ak=>cH C h b (.map b) (.map [] 0) ak
   |_=>λ_ _ _ _ _ _=>False)
 |_=>λ_ _ _ _ _ _=>False
def SU(op:jM):a2->V an->Nat->List (Nat×J)->dY->(J->V an->Prop)->Prop:=match op with
 | .make b3 Y=>(match Y with
   | .alloc t=>λC h b _ _ ak=>E (DN C t (kw undef) b) λr=>ld C h b r.1 r.2 ak
   | .box _ x=>λC h b aw M ak=>eU b3 aw M x λK=>yg C h b K ak
   | .buildSlice t len j4=>λC h b aw M ak=>B4 b3 aw M j4.toList λdu=>E (Oa C t len du b) λr=>ld C h b r.1 r.2 ak
   | .makeMap _ none=>λC h b _ _ ak=>ld C h b (.map b) (.map [] 0) ak
   |_=>λ_ _ _ _ _ _=>False)
 |_=>λ_ _ _ _ _ _=>False
def Rf(rd:Bool)(op:jM):a2->V an->Nat->List (Nat×J)->dY->bJ->bJ->Prop:=match op with
 | .st n K v=>λC h j aw M ak _=>jB K aw M λK=>jB v aw M λv=>E (b8 C h n K v) λh=>ak undef h j
 | .call f args=>λC h j aw M ak ay=>LH aw M args λcv=>aW C f cv h j ak ay
 | .fs b3 Y=>(match Y with
   | .mapUpdate t m F x=>λC h j aw M ak _=>eU b3 aw M m λK=>eU b3 aw M F λb=>eU b3 aw M x λc=>gR (HJ C h j t K b c) h j ak
   | .insert t m F x=>λC h j aw M ak _=>eU b3 aw M m λK=>eU b3 aw M F λb=>eU b3 aw M x λc=>gR (HJ C h j t K b c) h j ak
   | .mapEntry t m F=>λC h j aw M ak _=>eU b3 aw M m λK=>eU b3 aw M F λb=>gR (II C t iN gz h j (two K b)) h j ak
   | .entryStore _ m s x=>λC h j aw M ak _=>eU b3 aw M m λK=>eU b3 aw M s λb=>eU b3 aw M x λc=>gR (IA C iN gz kv h j (ae4 K b c)) h j ak
   | .makeSlice t l c=>λC h j aw M ak _=>eU b3 aw M l λK=>eU b3 aw M c λb=>gR (IH C t iN gz h j (two K b)) h j ak
   | .makeMap t (some r)=>λC h j aw M ak _=>eU b3 aw M r λK=>gR (IG C t iN h j (kw K)) h j ak
   | .convert s d x=>λC h j aw M ak _=>eU b3 aw M x λK=>gR (IM C s d iN h j (kw K)) h j ak
   | .range t x=>λC h j aw M ak _=>eU b3 aw M x λK=>gR (IK C t iN h j (kw K)) h j ak
   | .next eT y3=>λC h j aw M ak _=>eU b3 aw M eT λK=>Fp (w7 C iN y3 h j (kw K)) h j ak
   | .panic x=>λ_ h j aw M _ ay=>bV rd False (eU b3 aw M x λK=>vQ ay K h j)
   | .call c=>λC h j aw M ak ay=>(match c with
     |⟨.value f,args,_⟩=>eU b3 aw M f λmF=>sQ b3 aw M args.toList λcv=>iw C mF cv h j ak ay
     |⟨.builtin b,args,dm⟩=>sQ b3 aw M args.toList λbj=>gR (FH C h j b dm.toList bj) h j ak
     |⟨.invoke r name,args,_⟩=>eU b3 aw M r λl4=>sQ b3 aw M args.toList λcv=>adt C rd l4 name cv h j ak ay)
   |_=>λ_ _ _ _ _ _ _=>False)
 |_=>λ_ _ _ _ _ _ _=>False
def S9(rd:Bool)(op:jM)(C:a2)(h:V an)(j:Nat)(aw:List (Nat×J))(M:dY)(ak ay:bJ):Prop:=match mP op with
 | .ia=>GB op C h aw M λv=>ak v h j
 | .make=>adn op C h j aw M ak
 | .fs=>Rf rd op C h j aw M ak ay
inductive Spec where
 |no
 |defer (b3:List (Nat×Nat)) (f:Operand) (args:List Operand)
 |recover
def Ej(op:jM):Spec:=match op with
 | .fs b3 Y=>(match Y with
   | .defer c=>(match c with|⟨.value f,args,_⟩=> .defer b3 f args.toList|_=> .no)
   | .call c=>(match c with|⟨.builtin b,args,_⟩=>(match b,args.toList with| .recover,[]=> .recover|_,_=> .no)|_=> .no)
   |_=> .no)
 |_=> .no
def H1(mF:J)(cv:List J)(M:dY)(ak:dY->Prop):Prop:=match mF with
 | .func fn first fO=>ak (Af M ⟨.fn fn fO,first++cv⟩)
 |_=>False
def G4(jJ:Option (Option J))(M:dY)(ak:J->dY->Prop):Prop:=match jJ with
 |none=>False
 |some none=>ak .nilIface M
 |some (some ae)=>bV M.rc (ak .nilIface M) (ak ae (N8 M))
def Ov(g:Option (Nat×Bool))(aw:List (Nat×J))(K b:Prop):Prop:=match g with
 |none=>K
 |some (aa,lF)=>aj (ez aw aa) λv=>hQ lF v K b
def Ox(g:Option (Nat×Bool))(aw:List (Nat×J))(mu:bJ->Prop)(d7:bJ)(h:V an)(j:Nat):Prop:=match g with
 |none=>mu d7
 |some (aa,lF)=>pd d7 λak=>aj (ez aw aa) λv=>hQ lF v (mu ak) (ak undef h j)
def rO(g:Option (Nat×Bool))(aw:List (Nat×J))(mu:(J->V an->Prop)->Prop)(d7:J->V an->Prop)(h:V an):Prop:=match g with
 |none=>mu d7
 |some (aa,lF)=>sG d7 λak=>aj (ez aw aa) λv=>hQ lF v (mu ak) (ak undef h)
def T5(g:Option (Nat×Bool))(aw:List (Nat×J))(mu:Prop->Prop)(d7:Prop):Prop:=match g with
 |none=>mu d7
 |some (aa,lF)=>Gq d7 λak=>aj (ez aw aa) λv=>hQ lF v (mu ak) ak
def afs(g:Option (Nat×Bool))(aw:List (Nat×J))(mu:bJ->Prop)(d7:bJ)(h:V an)(j:Nat):Ox g aw mu d7 h j=Ov g aw (mu d7) (d7 undef h j):=by
 cases g with
 |none=>rfl
 |some p=>exact asN _ _
def ayH(g:Option (Nat×Bool))(aw:List (Nat×J))(mu:(J->V an->Prop)->Prop)(d7:J->V an->Prop)(h:V an):rO g aw mu d7 h=Ov g aw (mu d7) (d7 undef h):=by
 cases g with
 |none=>rfl
 |some p=>exact asL _ _
def ayI(g:Option (Nat×Bool))(aw:List (Nat×J))(mu:Prop->Prop)(d7:Prop):T5 g aw mu d7=Ov g aw (mu d7) d7:=by
 cases g with
 |none=>rfl
 |some p=>exact asM _ _
def Ii(l:List (Nat×Nat)):List (Nat×J)->dY->(dY->Prop)->Prop:=
 List.rec (motive:=λ_=>List (Nat×J)->dY->(dY->Prop)->Prop) (λ_ M ak=>ak M)
  (λp _ am aw M ak=>aj (ez aw p.1) λv=>am aw (ac M p.2 v) ak) l
def Cb(C:a2)(bP:uq)(fin:List (Nat×Nat))(ak:gB)(ay:rZ)(rest:List fx):List (Nat×J)->dY->V an->Nat->Prop:=
 List.rec (motive:=λ_=>List (Nat×J)->dY->V an->Nat->Prop) (λaw M h j=>Ii fin aw M λM=>ak M h j)
  (λx _ am aw M h j=>match Ej x.op with
   | .no=>Ox x.g aw (λak=>S9 bP.rd x.op C h j aw M ak (ay M)) (λv h j=>am ((x.i,v)::aw) M h j) h j
   | .defer b3 f args=>bV (x.g.isNone&&bP.bg) (eU b3 aw M f λmF=>sQ b3 aw M args λcv=>H1 mF cv M λM=>am ((x.i,undef)::aw) M h j) False
   | .recover=>bV (x.g.isNone&& !bP.rd) (G4 bP.jJ M λv M=>am ((x.i,v)::aw) M h j) False) rest
def Nq(C:a2)(base:Nat)(M:dY)(l:List fx):List (Nat×J)->V an->(List (Nat×J)->V an->Prop)->Prop:=
 List.rec (motive:=λ_=>List (Nat×J)->V an->(List (Nat×J)->V an->Prop)->Prop) (λaw h ak=>ak aw h)
  (λx _ am aw h ak=>rO x.g aw (λaa=>match mP x.op with
   | .make=>SU x.op C h (base+x.i) aw M aa
   |_=>GB x.op C h aw M λv=>aa v h) (λv h=>am ((x.i,v)::aw) h ak) h) l
structure gi(x:J)(Y:Option J)(ak:Prop):Prop where
 out:aj Y λae=>J.same 30 x ae=true/\ak
def Tk(C:a2)(M:dY)(aw:List (Nat×J))(h:V an)(l:List fx):Prop->Prop:=
 List.rec (motive:=λ_=>Prop->Prop) (λak=>ak) (λx _ am ak=>T5 x.g aw (λao=>GB x.op C h aw M λv=>gi v (ez aw x.i) ao) (am ak)) l
def PN(C:a2)(rd:Bool)(base:Nat)(fin:List (Nat×Nat))(M:dY)(ak:gB)(ay:bJ)(li:List wI):List (Nat×J)->V an->Nat->Prop:=
 List.rec (motive:=λ_=>List (Nat×J)->V an->Nat->Prop) (λ_ _ _=>False)
  (λs _ am aw h j=>Nq C base M s.t6 aw h λaw h=>Tk C M aw h s.Tj (match s.fs with
   |none=>Ii fin aw M λM=>ak M h j
   |some a=>Ox a.g aw (λak=>Rf rd a.op C h j aw M ak ay) (λv h j=>am ((a.i,v)::aw) h j) h j)) li
structure fu(body:gB->gB)(M:dY)(h:V an)(j:Nat):Prop where
 out:∃j8:Nat->gB,(∃m,j8 m M h j)/\∀m M h j,j8 m M h j->body (λM h j=>∃gr,gr<m/\j8 gr M h j) M h j
def CO(id:Nat)(ak:gB)(I:Nat->gB):Nat->gB:=λtV=>bV (Nat.beq id tV) ak (I tV)
def PW(Y:Operand)(M:dY)(ak:J->Prop):Prop:=eU [] [] M Y ak
def awg(C:a2)(n av:Nat)(bP:uq)(ay:rZ)(ax:Array Oper)(AU:Bool)(ak:gB):gB:=λM h j=>Bool.rec (motive:=λ_=>Prop)
 (aj (J7 C n ax av) λr=>Cb C bP r.fin ak (λM=>ay (hP (dstsOf ax.toList) M)) r.rest [] M h j)
 (aj (J6 C n ax av) λr=>eM (j+ax.size) λar=>PN C bP.rd j r.fin M ak (ay (hP (dstsOf ax.toList) M)) r.li [] h ar) AU
def Hc(n:Nat):List Nat->List J->dY->(dY->Prop)->Prop
 |[],[],M,ak=>ak M
 |p::du,K::cv,M,ak=>bV (Nat.blt p n) (Hc n du cv (ac M p K) ak) False
 |_,_,_,_=>False
structure akR(C:a2)(l:Nat)(mk:LoopState->Option Code->an)(h:V an)(F:Prop):Prop where
 here:ab C h l=some (mk .ready none)
 go:F
structure LC(C:a2)(l:Nat)(mk:LoopState->Option Code->an)(st:LoopState)(p:Option Code)(b:Bool)(ak:bJ)(h:V an)(j:Nat):Prop where
 here:∃aeO G0,ab C h l=some (mk aeO G0)
 go:ak (.bool b) (bo C h l (some (mk st p))) j
abbrev KX:=uq->rZ->gB->(Nat->gB)->gB->gB
def BQ:uq:=⟨true,false,none⟩
def sY(C:a2)(A bm:KX)(l:Nat)(mk:LoopState->Option Code->an)(ak ay:bJ):gB:=λM h j=>
 A BQ (λ_=>ay) (λM h j=>akR C l mk h (bm BQ (λ_=>ay) (λ_ h j=>LC C l mk .ready none true ak h j) (λid _ h j=>LC C l mk .done (some (.exit id)) false ak h j)
   (λ_ h j=>LC C l mk .done (some .ret) false ak h j) M (bo C h l (some (mk .busy none))) j)) (λ_ _ _ _=>False) (λ_ _ _=>False) M h j
def ad6(p:Option Code)(ak:gB)(I:Nat->gB)(r:gB):gB:=match p with
 |none=>ak
 |some c=>(match c with| .exit id=>I id| .ret=>r|_=>λ_ _ _=>False)
def vI(M:dY)(j:Nat):dY:=Af M ⟨.collected j,[]⟩
structure D9(C:a2)(n:Nat)(mF:J)(params:List Nat)(eY:Nat->(LoopState->Option Code->an)->bJ->bJ->gB)(ak:gB)(I:Nat->gB)(r:gB)(ay:rZ)(M:dY)(h:V an)(j:Nat):Prop where
 low:C.ba<=j
 out:match mF with
  | .func fn first fO=>(match fn with
    | .func g=>∀mk:LoopState->Option Code->an,
       (∀args U ar Av eG,ab C U (j+1)=some (mk .ready none)->Hc n params args M (λq8=>eY (j+1) mk Av eG q8 U ar)->AF C (j+1) args U ar Av eG)->
       uo C g (first++[.func (.yield (j+1)) [] []]++fO) (bo C (bo C h j (some (.deferred (some [])))) (j+1) (some (mk .ready none))) (j+2)
        (λ_ U ar=>∃st p,st≠ .busy/\ab C U (j+1)=some (mk st p)/\ad6 p ak I r (vI M j) (bo C U (j+1) (some (mk .exhausted p))) ar)
        (ay (vI M j))
    |_=>False)
  |_=>False
def wO(C:a2)(n av:Nat)(c:Code):KX:=
 Code.rec (motive:=λ_=>KX)
  (λ_ _ ak _ _=>ak)
  (λ_ ax d bP ay ak _ _=>awg C n av bP ay ax d ak)
  (λ_ _ mO hI bP ay ak I r=>mO bP ay (hI bP ay ak I r) I r)
  (λc _ _ mO hI bP ay ak I r M h j=>PW c M λv=>aT ak λak=>aX v (mO bP ay ak I r M h j) (hI bP ay ak I r M h j))
  (λid _ hI bP ay ak I r M h j=>aT ak λak=>hI bP ay ak (CO id ak I) r M h j)
  (λ_ hI bP ay _ I r=>fu λPc=>hI bP ay Pc I r)
  (λf params _ _ mO hI bP ay ak I r M h j=>bV bP.bg (PW f M λmF=>D9 C n mF params.toList (sY C mO hI) ak I r ay M h j) False)
  (λid _ _ _ I _=>I id)
  (λ_ hI bP ay ak I r=>hI bP ay ak I r)
  (λ_ _ _ ak _ _=>ak)
  (λ_ _ _ _ _ _ _ _ _=>False)
  (λ_ _ _ _ r=>r)
  (λ_ _ _ _ _ _ _ _ _=>False) c
def qU(C:a2)(h:V an)(M:dY)(l:List ResultVar):(List J->Prop)->Prop:=
 List.rec (motive:=λ_=>(List J->Prop)->Prop) (λak=>ak [])
  (λx _ am ak=>ResultVar.rec (motive:=λ_=>Prop) (λt=>aj (M t) λv=>am λr=>ak (v::r)) (λK t=>aj (M K) λp=>E (lK C h t p) λv=>am λr=>ak (v::r)) x) l
def cZ(l:List J):dY:=⟨λn=>rG l n,[],false⟩
structure tp(C:a2)(fn:Fn)(cv:List J)(jJ:Option J)(h:V an)(j:Nat)(bv:Bool->V an->Nat->Prop):Prop where
 out:match fn with
  | .func f=>C.hf f cv=none/\(∃fn c,C.P.funcs[f]? =some fn/\fn.body=some c)/\Uh C f cv jJ h j bv
  |_=>False
structure NE(C:a2)(r:Nat)(h:V an)(F:Prop):Prop where
 low:C.ba<=r
 here:ab C h r=some (.deferred (some []))
 go:F
def nj(C:a2)(Kt:List ResultVar)(bv:bJ)(M:dY)(ds:List hN):V an->Nat->Prop:=
 List.rec (motive:=λ_=>V an->Nat->Prop) (λh j=>qU C h M Kt λbj=>bv (one bj) h j)
  (λd _ am h j=>match d.target with
   | .collected r=>NE C r h (am (bo C h r (some (.deferred none))) j)
   | .fn fn cap=>tp C fn (d.args++cap) none h j λ_ h j=>am h j) ds
def vP(C:a2)(Kt:List ResultVar)(bv eY:bJ)(M:dY)(ae:J):List hN->V an->Nat->Prop
 |[],h,j=>eY ae h j
 |d::ds,h,j=>match d.target with
   | .collected r=>NE C r h (vP C Kt bv eY M ae ds (bo C h r (some (.deferred none))) j)
   | .fn fn cap=>tp C fn (d.args++cap) (some ae) h j λb h j=>bV b (nj C Kt bv M ds h j) (vP C Kt bv eY M ae ds h j)
def GH:uq:=⟨false,false,none⟩
def y7:uq:=⟨false,true,none⟩
def AZ(C:a2)(f:Nat)(args:List J)(h:V an)(j:Nat)(bv eY:bJ):Prop:=match C.P.funcs[f]? with
 |some fn=>(match fn.body with
  |some c=>wO C fn.ntmps (Nat.lor (kl c) (nO fn.results.toList)) c y7 (λM ae h j=>vP C fn.results.toList bv eY M ae M.bg h j) (λM h j=>nj C fn.results.toList bv M M.bg h j) (λ_ _ _ _=>False)
    (λM h j=>nj C fn.results.toList bv M M.bg h j) (cZ args) h j
  |none=>False)
 |none=>False
def yt(C:a2)(f:Nat)(args:List J)(jJ:Option J)(h:V an)(j:Nat)(bv:Bool->V an->Nat->Prop):Prop:=match C.P.funcs[f]? with
 |some fn=>(match fn.body with
  |some c=>wO C fn.ntmps (Nat.lor (kl c) (nO fn.results.toList)) c ⟨false,false,some jJ⟩ (λ_ _ _ _=>False) (λM h j=>qU C h M fn.results.toList λ_=>bv M.rc h j) (λ_ _ _ _=>False)
    (λM h j=>qU C h M fn.results.toList λ_=>bv M.rc h j) (cZ args) h j
  |none=>False)
 |none=>False
def di(C:a2)(f:Nat)(args:List J)(h:V an)(j:Nat)(bv eY:bJ):Prop:=match C.P.funcs[f]? with
 |some fn=>(match fn.body with
  |some c=>wO C fn.ntmps (Nat.lor (kl c) (nO fn.results.toList)) c GH (λ_=>eY) (λM h j=>qU C h M fn.results.toList λbj=>bv (one bj) h j) (λ_ _ _ _=>False)
    (λM h j=>qU C h M fn.results.toList λbj=>bv (one bj) h j) (cZ args) h j
  |none=>False)
 |none=>False
def cX(C:a2)(f eb:Nat):Bool:=match C.P.funcs[f]? with
 |some fn=>(match fn.body with
  |some c=>Nat.ble eb fn.ntmps&&lO C (Nat.lor (kl c) (nO fn.results.toList)) c&&Ag (Nat.lor (kl c) (nO fn.results.toList)) fn.results.toList
  |none=>false)
 |none=>false
end
end Go.bk

namespace Go.bk
noncomputable section
open Go.RowKit (Below)
def gZ(M:dY)(t:V J):Prop:=∀n v,M.g n=some v->t.get n=some v
section
variable{C:a2}{h:V an}{j:Nat}{aw:List (Nat×J)}{M:dY}{t:V J}
def n6(a:gZ M t){x:kp}{ak:J->Prop}(aA:jB x aw M ak):∃K,kY x aw t=some K/\ak K:=by
 cases x with
 |v aa=>exact sR.1 aA
 |t n=>
  obtain⟨K,T,W⟩:=sR.1 (show aj (M n) ak from aA)
  exact⟨K,a n K T,W⟩
 |c K=>exact⟨K,rfl,aA⟩
def amH(a:gZ M t):∀{l:List kp}{ak:List J->Prop},LH aw M l ak->∃cv,AW aw t l=some cv/\ak cv:=by
 intro l
 induction l with
 |nil=>intro ak aA;exact⟨[],rfl,aA⟩
 |cons x l am=>
  intro ak aA
  obtain⟨K,T,W⟩:=n6 a (show jB x aw M (λK=>LH aw M l λr=>ak (K::r)) from aA)
  obtain⟨r,au,aP⟩:=am W
  exact⟨K::r,by simp[AW,T,au],aP⟩
def hC(a:gZ M t){b3:List (Nat×Nat)}{Y:Operand}{ak:J->Prop}(aA:eU b3 aw M Y ak):∃K,i7 b3 aw t Y=some K/\ak K:=by
 cases Y with
 |tmp n=>
  simp only[eU]at aA
  simp only[i7]
  cases bL:ez b3 n with
  |some aa=>simp only[bL]at aA ⊢;exact sR.1 aA
  |none=>
   simp only[bL]at aA ⊢
   obtain⟨K,T,W⟩:=sR.1 aA
   exact⟨K,a n K T,W⟩
 |const v=>exact sR.1 aA
 |global g=>exact⟨_,rfl,aA⟩
 |func f=>exact⟨_,rfl,aA⟩
def D4(a:gZ M t){b3:List (Nat×Nat)}:∀{l:List Operand}{ak:List J->Prop},sQ b3 aw M l ak->∃cv,pO (i7 b3 aw t) l=some cv/\ak cv:=by
 intro l
 induction l with
 |nil=>intro ak aA;exact⟨[],rfl,aA⟩
 |cons x l am=>
  intro ak aA
  obtain⟨K,T,W⟩:=hC a (show eU b3 aw M x (λK=>sQ b3 aw M l λr=>ak (K::r)) from aA)
  obtain⟨r,au,aP⟩:=am W
  exact⟨K::r,by simp[pO,T,au],aP⟩
def Tb(a:gZ M t){b3:List (Nat×Nat)}:∀{l:List (Nat×Operand)}{ak:List (Nat×J)->Prop},B4 b3 aw M l ak->∃cv,yr (i7 b3 aw t) l=some cv/\ak cv:=by
 intro l
 induction l with
 |nil=>intro ak aA;exact⟨[],rfl,aA⟩
 |cons x l am=>
  intro ak aA
  obtain⟨i,Y⟩:=x
  obtain⟨K,T,W⟩:=hC a (show eU b3 aw M Y (λK=>B4 b3 aw M l λr=>ak ((i,K)::r)) from aA)
  obtain⟨r,au,aP⟩:=am W
  exact⟨(i,K)::r,by simp[yr,T,au],aP⟩
def S7(a:gZ M t){b3:List (Nat×Nat)}{Y:Option Operand}{ak:Option J->Prop}(aA:NL b3 aw M Y ak):∃K,B0 (i7 b3 aw t) Y=some K/\ak K:=by
 cases Y with
 |none=>exact⟨none,rfl,aA⟩
 |some x=>
  obtain⟨K,T,W⟩:=hC a (show eU b3 aw M x (λK=>ak (some K)) from aA)
  exact⟨some K,by simp[B0,T],W⟩
def atM(a:gZ M t){b3:List (Nat×Nat)}{Y:Op}{ak:J->Prop}(aA:ac9 b3 Y C h aw M ak):∃v,nY Y C h (i7 b3 aw t)=some v/\ak v:=by
 cases Y with
 |build ty j4=>
  obtain⟨du,T,W⟩:=Tb a (show B4 b3 aw M j4.toList _ from aA)
  obtain⟨v,au,aP⟩:=(kN.1 W)
  exact⟨v,by simp[nY,Sv,T,au],aP⟩
 |binOp op ty x e Ho=>
  obtain⟨K,T,W⟩:=hC a (show eU b3 aw M x _ from aA)
  obtain⟨b,au,aP⟩:=hC a W
  obtain⟨v,bK,cr⟩:=(kN.1 aP)
  exact⟨v,by simp[nY,Nl,T,au,bK],cr⟩
 |unOp op ty x=>
  obtain⟨K,T,W⟩:=hC a (show eU b3 aw M x _ from aA)
  obtain⟨v,au,aP⟩:=(kN.1 W)
  exact⟨v,by simp[nY,SD,T,au],aP⟩
 |convert s d x=>
  obtain⟨K,T,W⟩:=hC a (show eU b3 aw M x _ from aA)
  obtain⟨v,au,aP⟩:=(kN.1 W)
  exact⟨v,by simpa[nY,JW,Xj,kw,T]using au,aP⟩
 |makeInterface ty x=>
  obtain⟨K,T,W⟩:=hC a (show eU b3 aw M x _ from aA)
  obtain⟨v,au,aP⟩:=(kN.1 W)
  exact⟨v,by simpa[nY,JY,acx,kw,T]using au,aP⟩
 |makeFunc fn first fO=>
  cases fn with
  |func f=>
   obtain⟨K,T,W⟩:=D4 a (show sQ b3 aw M first.toList _ from aA)
   obtain⟨b,au,aP⟩:=D4 a W
   exact⟨_,by simp[nY,Sz,T,au],aP⟩
  |_=>exact aA.elim
 |slice ty x bU aN he=>
  obtain⟨K,T,W⟩:=hC a (show eU b3 aw M x _ from aA)
  obtain⟨l,au,aP⟩:=S7 a W
  obtain⟨b,bK,cr⟩:=S7 a aP
  obtain⟨m,dP,fi⟩:=S7 a cr
  obtain⟨v,kd,sh⟩:=(kN.1 fi)
  exact⟨v,by simp[nY,SC,T,au,bK,dP,kd],sh⟩
 |field ty x f=>
  obtain⟨K,T,W⟩:=hC a (show eU b3 aw M x _ from aA)
  obtain⟨v,au,aP⟩:=(kN.1 W)
  exact⟨v,by simpa[nY,JX,XZ,kw,T]using au,aP⟩
 |index ty x i=>
  obtain⟨K,T,W⟩:=hC a (show eU b3 aw M x _ from aA)
  obtain⟨b,au,aP⟩:=hC a W
  obtain⟨v,bK,cr⟩:=(kN.1 aP)
  exact⟨v,by simp[nY,SA,T,au,bK],cr⟩
 |lookup ty m F ok=>
  obtain⟨K,T,W⟩:=hC a (show eU b3 aw M m _ from aA)
  obtain⟨b,au,aP⟩:=hC a W
  obtain⟨v,bK,cr⟩:=(kN.1 aP)
  exact⟨v,by simp[nY,SB,T,au,bK],cr⟩
 |typeAssert x ty uw ok=>
  obtain⟨K,T,W⟩:=hC a (show eU b3 aw M x _ from aA)
  obtain⟨v,au,aP⟩:=(kN.1 W)
  exact⟨v,by simpa[nY,JV,WQ,kw,T]using au,aP⟩
 |entry eT=>
  obtain⟨K,T,W⟩:=hC a (show eU b3 aw M eT _ from aA)
  obtain⟨v,au,aP⟩:=(kN.1 W)
  exact⟨v,by simpa[nY,Sy,XJ,kw,T]using au,aP⟩
 |call c=>
  obtain⟨callee,args,dm⟩:=c
  cases callee with
  |builtin b=>
   obtain⟨bj,T,W⟩:=D4 a (show sQ b3 aw M args.toList _ from aA)
   obtain⟨v,au,aP⟩:=(kN.1 W)
   refine⟨v, ?_,aP⟩
   have I:nY (.call ⟨.builtin b,args,dm⟩) C h (i7 b3 aw t)=r7 C h b dm.toList bj:=by
    simp only[nY,Sx,Sw,T,r7]
    repeat' split
    all_goals first|rfl|simp_all
   rw[I];exact au
  |_=>exact aA.elim
 |_=>exact aA.elim
def No(a:gZ M t){op:jM}{ak:J->Prop}(aA:GB op C h aw M ak):∃v,gU op C h aw t=some v/\ak v:=by
 cases op with
 |DQ x=>exact n6 a aA
 |pick c K b=>
  obtain⟨Xk,T,W⟩:=n6 a (show jB c aw M _ from aA)
  obtain⟨Ol,rfl,au,aP⟩:=W5 W.out
  cases Ol with
  |true=>
   obtain⟨v,bK,cr⟩:=n6 a (au rfl)
   exact⟨v,by simp[gU,T,OC,bK],cr⟩
  |false=>
   obtain⟨v,bK,cr⟩:=n6 a (aP rfl)
   exact⟨v,by simp[gU,T,OC,bK],cr⟩
 |f0 K=>
  obtain⟨f3,T,W⟩:=n6 a (show jB K aw M _ from aA)
  obtain⟨v,au,aP⟩:=(kN.1 W)
  exact⟨v,by simp[gU,T,au],aP⟩
 |BK n K=>
  obtain⟨f3,T,W⟩:=n6 a (show jB K aw M _ from aA)
  obtain⟨v,au,aP⟩:=(kN.1 W)
  exact⟨v,by simp[gU,T,au],aP⟩
 |off d x=>
  obtain⟨f3,T,W⟩:=n6 a (show jB x aw M _ from aA)
  obtain⟨v,au,aP⟩:=(kN.1 W)
  exact⟨v,by simp[gU,T,au],aP⟩
 |BC n br x i=>
  obtain⟨f3,T,W⟩:=n6 a (show jB x aw M _ from aA)
  obtain⟨cB,au,aP⟩:=n6 a W
  obtain⟨v,bK,cr⟩:=(kN.1 aP)
  exact⟨v,by simp only[gU,T,au];unfold Gj at bK;cases aN:nc cB<;>simp_all,cr⟩
 |BD br x i=>
  obtain⟨f3,T,W⟩:=n6 a (show jB x aw M _ from aA)
  obtain⟨cB,au,aP⟩:=n6 a W
  obtain⟨v,bK,cr⟩:=(kN.1 aP)
  exact⟨v,by simp only[gU,T,au];unfold dd at bK;cases aN:nc cB<;>simp_all,cr⟩
 |DW x=>
  obtain⟨f3,T,W⟩:=n6 a (show jB x aw M _ from aA)
  obtain⟨v,au,aP⟩:=(kN.1 W)
  exact⟨v,by simp[gU,T,au],aP⟩
 |JG op x e=>
  obtain⟨f3,T,W⟩:=n6 a (show jB x aw M _ from aA)
  obtain⟨cB,au,aP⟩:=n6 a W
  obtain⟨v,bK,cr⟩:=(kN.1 aP)
  exact⟨v,by simp[gU,T,au,bK],cr⟩
 |ext i x=>
  obtain⟨f3,T,W⟩:=n6 a (show jB x aw M _ from aA)
  obtain⟨v,au,aP⟩:=(kN.1 W)
  exact⟨v,by simp[gU,T,au],aP⟩
 |ia b3 Y=>exact atM a aA
 |_=>exact aA.elim
def at8(a:gZ M t){op:jM}{b:Nat}{ak:bJ}(aA:adn op C h b aw M ak):∃v cO,n7 op C b aw t=some (v,cO)/\ak v (bo C h b (some cO)) (b+1):=by
 cases op with
 |make b3 Y=>
  cases Y with
  |alloc ty=>
   obtain⟨⟨v,cO⟩,T,W⟩:=kN.1 (show E (DN C ty (kw undef) b) _ from aA)
   exact⟨v,cO,T,W.out⟩
  |box ty x=>
   obtain⟨K,T,W⟩:=hC a (show eU b3 aw M x _ from aA)
   exact⟨_,_,by simp only[n7,qh,J1,T],W.out⟩
  |buildSlice ty len j4=>
   obtain⟨du,T,W⟩:=Tb a (show B4 b3 aw M j4.toList _ from aA)
   obtain⟨⟨v,cO⟩,au,aP⟩:=(kN.1 W)
   refine⟨v,cO, ?_,aP.out⟩
   simp only[n7,qh,J2,T]
   unfold Oa at au
   split at au
   ·rename_i be
    simp only[be]
    exact au
   ·cases au
  |makeMap ty r=>
   cases r with
   |none=>exact⟨_,_,rfl,(show cH C h b _ _ ak from aA).out⟩
   |some r=>exact aA.elim
  |_=>exact aA.elim
 |_=>exact aA.elim
def at6(a:gZ M t){op:jM}{b:Nat}{ak:J->V an->Prop}(aA:SU op C h b aw M ak):∃v cO,n7 op C b aw t=some (v,cO)/\ak v (bo C h b (some cO)):=by
 cases op with
 |make b3 Y=>
  cases Y with
  |alloc ty=>
   obtain⟨⟨v,cO⟩,T,W⟩:=kN.1 (show E (DN C ty (kw undef) b) _ from aA)
   exact⟨v,cO,T,W.out⟩
  |box ty x=>
   obtain⟨K,T,W⟩:=hC a (show eU b3 aw M x _ from aA)
   exact⟨_,_,by simp only[n7,qh,J1,T],W.out⟩
  |buildSlice ty len j4=>
   obtain⟨du,T,W⟩:=Tb a (show B4 b3 aw M j4.toList _ from aA)
   obtain⟨⟨v,cO⟩,au,aP⟩:=(kN.1 W)
   refine⟨v,cO, ?_,aP.out⟩
   simp only[n7,qh,J2,T]
   unfold Oa at au
   split at au
   ·rename_i be
    simp only[be]
    exact au
   ·cases au
  |makeMap ty r=>
   cases r with
   |none=>exact⟨_,_,rfl,(show ld C h b _ _ ak from aA).out⟩
   |some r=>exact aA.elim
  |_=>exact aA.elim
 |_=>exact aA.elim
def W9{rd:Bool}{f:Nat}{cv:List J}{ak ay:bJ}(a:aW C f cv h j ak ay):∃r,r4 C f cv=some r/\Cy C rd (some r) h j ak ay:=by
 rcases a.out with ⟨ae,T,W⟩|⟨T,⟨fn,c,W,au⟩,aP⟩
 ·exact⟨.known f cv ae,by simp[r4,T],W⟩
 ·exact⟨.enter f cv,by simp[r4,T,W,au],aP⟩
def Ah{rd:Bool}{Y:Option eg}{ak ay:bJ}(a:gR Y h j ak):∃r,Y=some r/\Cy C rd (some r) h j ak ay:=by
 rw[awk]at a
 split at a
 ·exact⟨_,rfl,a⟩
 ·exact⟨_,rfl,a⟩
 ·exact a.elim
def am8{rd:Bool}{Y:Option eg}{ak ay:bJ}(a:Fp Y h j ak):∃r,Y=some r/\Cy C rd (some r) h j ak ay:=by
 rw[am9]at a
 split at a
 ·exact⟨_,rfl,a⟩
 ·exact⟨_,rfl,a⟩
 ·exact⟨_,rfl,a⟩
 ·exact a.elim
def aa3(a:gZ M t){rd:Bool}{op:jM}{ak ay:bJ}(aA:Rf rd op C h j aw M ak ay):∃r,hY op C h j aw t=some r/\Cy C rd (some r) h j ak ay:=by
 cases op with
 |st n K v=>
  obtain⟨f3,T,W⟩:=n6 a (show jB K aw M _ from aA)
  obtain⟨g7,au,aP⟩:=n6 a W
  obtain⟨U,bK,cr⟩:=(kN.1 aP)
  refine⟨.fE undef U j, ?_,cr⟩
  simp only[hY,T,au]
  unfold b8 at bK
  split at bK
  ·simp only[e5]at bK
   simp[Oc,bK.2,fG,bK.1]
  ·cases bK
 |call f args=>
  obtain⟨cv,T,W⟩:=amH a (show LH aw M args _ from aA)
  obtain⟨r,au,aP⟩:=W9 (rd:=rd) W
  exact⟨r,by simp[hY,T,au],aP⟩
 |fs b3 Y=>
  cases Y with
  |mapUpdate ty m F x=>
   obtain⟨K,T,W⟩:=hC a (show eU b3 aw M m _ from aA)
   obtain⟨b,au,aP⟩:=hC a W
   obtain⟨c,bK,cr⟩:=hC a aP
   obtain⟨r,dP,fi⟩:=Ah (C:=C) (ay:=ay) (rd:=rd) cr
   exact⟨r,by simp[hY,nu,FE,T,au,bK,dP],fi⟩
  |insert ty m F x=>
   obtain⟨K,T,W⟩:=hC a (show eU b3 aw M m _ from aA)
   obtain⟨b,au,aP⟩:=hC a W
   obtain⟨c,bK,cr⟩:=hC a aP
   obtain⟨r,dP,fi⟩:=Ah (C:=C) (ay:=ay) (rd:=rd) cr
   exact⟨r,by simp[hY,nu,FE,T,au,bK,dP],fi⟩
  |mapEntry ty m F=>
   obtain⟨K,T,W⟩:=hC a (show eU b3 aw M m _ from aA)
   obtain⟨b,au,aP⟩:=hC a W
   obtain⟨r,dP,fi⟩:=Ah (C:=C) (ay:=ay) (rd:=rd) aP
   exact⟨r,by simpa[hY,nu,II,two,Go.bk.iN,Go.bk.gz,T,au]using dP,fi⟩
  |entryStore ty m s x=>
   obtain⟨K,T,W⟩:=hC a (show eU b3 aw M m _ from aA)
   obtain⟨b,au,aP⟩:=hC a W
   obtain⟨c,bK,cr⟩:=hC a aP
   obtain⟨r,dP,fi⟩:=Ah (C:=C) (ay:=ay) (rd:=rd) cr
   exact⟨r,by simpa[hY,nu,IA,ae4,Go.bk.iN,Go.bk.gz,Go.bk.kv,T,au,bK]using dP,fi⟩
  |makeSlice ty l c=>
   obtain⟨K,T,W⟩:=hC a (show eU b3 aw M l _ from aA)
   obtain⟨b,au,aP⟩:=hC a W
   obtain⟨r,dP,fi⟩:=Ah (C:=C) (ay:=ay) (rd:=rd) aP
   exact⟨r,by simpa[hY,nu,IH,two,Go.bk.iN,Go.bk.gz,T,au]using dP,fi⟩
  |makeMap ty jv=>
   cases jv with
   |none=>exact aA.elim
   |some x=>
    obtain⟨K,T,W⟩:=hC a (show eU b3 aw M x _ from aA)
    obtain⟨r,dP,fi⟩:=Ah (C:=C) (ay:=ay) (rd:=rd) W
    exact⟨r,by simpa[hY,nu,IG,kw,T]using dP,fi⟩
  |convert s d x=>
   obtain⟨K,T,W⟩:=hC a (show eU b3 aw M x _ from aA)
   obtain⟨r,dP,fi⟩:=Ah (C:=C) (ay:=ay) (rd:=rd) W
   exact⟨r,by simpa[hY,nu,IM,kw,T]using dP,fi⟩
  |range ty x=>
   obtain⟨K,T,W⟩:=hC a (show eU b3 aw M x _ from aA)
   obtain⟨r,dP,fi⟩:=Ah (C:=C) (ay:=ay) (rd:=rd) W
   exact⟨r,by simpa[hY,nu,IK,kw,T]using dP,fi⟩
  |next eT y3=>
   obtain⟨K,T,W⟩:=hC a (show eU b3 aw M eT _ from aA)
   obtain⟨r,dP,fi⟩:=am8 (C:=C) (ay:=ay) (rd:=rd) W
   exact⟨r,by simpa[hY,nu,w7,kw,T]using dP,fi⟩
  |panic x=>
   cases rd with
   |true=>exact(show False from aA).elim
   |false=>
    obtain⟨K,T,W⟩:=hC a (show eU b3 aw M x _ from aA)
    rw[avq]at W
    split at W
    ·rename_i oA ayD
     exact⟨.panic (.iface oA ayD),by simp[hY,nu,QQ,T],W⟩
    ·exact W.elim
  |call c=>
   obtain⟨callee,args,dm⟩:=c
   cases callee with
   |value f=>
    obtain⟨mF,T,W⟩:=hC a (show eU b3 aw M f _ from aA)
    obtain⟨cv,au,aP⟩:=D4 a W
    have aP:=aP.out
    split at aP
    ·split at aP
     ·obtain⟨r,bK,cr⟩:=W9 (rd:=rd) aP
      exact⟨r,by simp[hY,nu,CW,T,au,AJ];simpa using bK,cr⟩
     ·exact⟨.round _ _,by simp only[hY,nu,CW,T,au,AJ],aP⟩
     ·exact aP.elim
    ·exact aP.elim
   |builtin b=>
    obtain⟨bj,T,W⟩:=D4 a (show sQ b3 aw M args.toList _ from aA)
    obtain⟨r,dP,fi⟩:=Ah (C:=C) (ay:=ay) (rd:=rd) W
    refine⟨r, ?_,fi⟩
    have I:∀r,FH C h j b dm.toList bj=some r->hY (.fs b3 (.call ⟨.builtin b,args,dm⟩)) C h j aw t=some r:=by
     intro r Z
     simp only[hY,nu,CW,It,T]
     unfold FH at Z
     split at Z
     all_goals first|exact Z|cases Z
    exact I r dP
   |invoke x name=>
    obtain⟨l4,T,W⟩:=hC a (show eU b3 aw M x _ from aA)
    obtain⟨cv,au,aP⟩:=D4 a W
    rw[auf]at aP
    split at aP
    ·cases bs:EN C h _ _ name cv with
     |none=>rw[bs]at aP;exact aP.elim
     |some r=>rw[bs]at aP;exact⟨r,by simp[hY,nu,CW,T,au,bs],aP⟩
    ·exact aP.elim
  |_=>exact aA.elim
 |_=>exact aA.elim
def aoc{lF:Bool}{v:J}{K b:Prop}(a:hQ lF v K b):∃w,(match v with| .bool b=>some (b==lF)|_=>some false)=some w/\(w=true->K)/\(w=false->b):=by
 have a:=a.out
 cases v with
 |bool t=>
  obtain⟨T,W⟩:=a
  refine⟨t==lF,rfl,λI=>T (by simpa using I),λI=>W ?_⟩
  cases t<;>cases lF<;>simp_all
 |_=>exact⟨false,rfl,Zs,λ_=>a⟩
def Ow{g:Option (Nat×Bool)}{K b:Prop}(a:Ov g aw K b):∃w,oC g aw=some w/\(w=true->K)/\(w=false->b):=by
 cases g with
 |none=>exact⟨true,rfl,λ_=>a,Zs⟩
 |some p=>
  obtain⟨aa,lF⟩:=p
  obtain⟨v,T,W⟩:=sR.1 (show aj (ez aw aa) _ from a)
  obtain⟨w,au,aP⟩:=aoc W
  exact⟨w,by simp only[oC,T];exact au,aP⟩
def aeJ(a:gZ M t)(d:Nat)(v:J):gZ (ac M d v) (t.set d (some v)):=by
 intro n ae be
 have be:=(show bV (Nat.beq d n) (some v) (M.g n)=some ae from be)
 rw[hO]at be
 rw[V.kc]
 split at be
 ·rename_i I;rw[Zr I];exact be
 ·rename_i I;rw[Zh I];exact a n ae be
def X2:∀{l:List (Nat×Nat)}{M:dY}{t:V J}{ak:dY->Prop},gZ M t->Ii l aw M ak->∃c8 hr,ys aw l t=some hr/\gZ c8 hr/\(c8.bg=M.bg/\c8.rc=M.rc)/\ak c8:=by
 intro l
 induction l with
 |nil=>intro M t ak a aA;exact⟨M,t,rfl,a,⟨rfl,rfl⟩,aA⟩
 |cons p l am=>
  intro M t ak a aA
  obtain⟨i,d⟩:=p
  obtain⟨v,T,W⟩:=sR.1 (show aj (ez aw i) (λv=>Ii l aw (ac M d v) ak) from aA)
  obtain⟨c8,hr,au,aP,bK⟩:=am (aeJ a d v) W
  exact⟨c8,hr,by simp[ys,T,au],aP,bK⟩
def axr{op:jM}{b3:List (Nat×Nat)}{f:Operand}{args:List Operand}(a:Ej op= .defer b3 f args):∃c:Array Operand×Array TypeId,args=c.1.toList/\op= .fs b3 (.defer ⟨.value f,c.1,c.2⟩):=by
 unfold Ej at a
 split at a
 ·split at a
  ·split at a
   ·injection a with T W au
    subst T W au
    exact⟨(_,_),rfl,rfl⟩
   ·cases a
  ·split at a
   ·split at a<;>cases a
   ·cases a
  ·cases a
 ·cases a
def axs{op:jM}(a:Ej op= .recover):∃b3 dm args,op= .fs b3 (.call ⟨.builtin .recover,args,dm⟩)/\args.toList=[]:=by
 unfold Ej at a
 split at a
 ·split at a
  ·split at a<;>cases a
  ·split at a
   ·split at a
    ·rename_i aE
     exact⟨_,_,_,rfl,aE⟩
    ·cases a
   ·cases a
  ·cases a
 ·cases a
def awp(a:gZ M t):∀{l:List ResultVar}{ak:List J->Prop},qU C h M l ak->∃bj,xM C h t l=some bj/\ak bj:=by
 intro l
 induction l with
 |nil=>intro ak aA;exact⟨[],rfl,aA⟩
 |cons x l am=>
  intro ak aA
  cases x with
  |tmp n=>
   obtain⟨v,T,W⟩:=sR.1 (show aj (M n) (λv=>qU C h M l λr=>ak (v::r)) from aA)
   obtain⟨r,au,aP⟩:=am W
   exact⟨v::r,by simp[xM,a n v T,au],aP⟩
  |cell K ty=>
   obtain⟨p,T,W⟩:=sR.1 (show aj (M K) (λp=>E (lK C h ty p) λv=>qU C h M l λr=>ak (v::r)) from aA)
   obtain⟨v,au,aP⟩:=(kN.1 W)
   obtain⟨r,bK,cr⟩:=am aP
   exact⟨v::r,by simp[xM,a K p T,au,bK],cr⟩
def atO(a:gZ M t){base:Nat}:∀{l:List fx}{aw:List (Nat×J)}{h:V an}{ak:List (Nat×J)->V an->Prop},Nq C base M l aw h ak->∃hF U,wP C base t l aw h=some (hF,U)/\ak hF U:=by
 intro l
 induction l with
 |nil=>intro aw h ak aA;exact⟨aw,h,rfl,aA⟩
 |cons x l am=>
  intro aw h ak aA
  obtain⟨w,T,W,au⟩:=Ow ((ayH ..).mp (show rO x.g aw (λaa=>match mP x.op with
   | .make=>SU x.op C h (base+x.i) aw M aa
   |_=>GB x.op C h aw M λv=>aa v h) (λv h=>Nq C base M l ((x.i,v)::aw) h ak) h from aA))
  simp only[wP,T]
  cases w with
  |false=>exact am (au rfl)
  |true=>
   have aP:=W rfl
   cases aL:mP x.op with
   |make=>
    simp only[aL]at aP
    obtain⟨v,cO,bK,cr⟩:=at6 a aP
    simp only[bK,hw]
    exact am cr
   |ia=>
    simp only[aL]at aP
    obtain⟨v,bK,cr⟩:=No a aP
    simp only[bK]
    exact am cr
   |fs=>
    simp only[aL]at aP
    obtain⟨v,bK,cr⟩:=No a aP
    simp only[bK]
    exact am cr
def awb(a:gZ M t):∀{l:List fx}{ak:Prop},Tk C M aw h l ak->CI C t aw h l=true/\ak:=by
 intro l
 induction l with
 |nil=>intro ak aA;exact⟨rfl,aA⟩
 |cons x l am=>
  intro ak aA
  obtain⟨w,T,W,au⟩:=Ow ((ayI ..).mp (show T5 x.g aw (λao=>GB x.op C h aw M λv=>gi v (ez aw x.i) ao) (Tk C M aw h l ak) from aA))
  simp only[CI,T]
  cases w with
  |false=>exact am (au rfl)
  |true=>
   obtain⟨v,bK,cr⟩:=No a (W rfl)
   obtain⟨ae,dP,fi,kd⟩:=sR.1 cr.out
   obtain⟨sh,uR⟩:=am kd
   exact⟨by simp[bK,dP,fi,sh],uR⟩
end
section
variable{C:a2}{dW:da}{ec:Nat->Prop}{bt:World}{bE:Nat}{bQ:List Frame}{v:J}
variable{fn n av:Nat}{bP:uq}{aF:Bool}{ro:Option Nat}{cs de:List gN}
def kF(cJ:Env C bt dW ec){bP:kT}{todo:List d0}{ca:iq}{M:V J}{h:V an}{j:Nat}(a:TL (fV C bt bE bQ v) C bP todo ca M h j=some v):nU C bt bE bQ bP todo ca M h j v:=
 λS af w dk tmps bx aq dp=>aeS cJ WI _ _ _ _ _ _ _ _ _ _ _ _ v a S af w dk tmps bx aq dp
def fA(bP:uq)(fn n av:Nat)(aF:Bool)(ro:Option Nat)(cs de:List gN)(M:dY):iq:=⟨fn,n,av,bV bP.bg M.bg [],aF,ro,bV M.rc de cs⟩
structure AB(bP:uq)(aF:Bool)(ro:Option Nat)(cs de:List gN):Prop where
 rd:bP.rd=false->ro=none
 bg:bP.bg=true->ro=none
 none:bP.jJ=some none->de=cs/\Ch aF cs=some (.nilIface,cs)
 some:∀ae,bP.jJ=some (some ae)->Ch aF cs=some (ae,de)/\Ch aF de=some (.nilIface,de)
def awH{am:hE}{C:a2}{l:Nat}{args:List J}{eT:d0}{F:List d0}{ca:iq}{M:V J}{h:V an}{j:Nat}:nZ (.round l args) am C eT F ca M h j=N2 am C l args (El eT F ca M) h j:=rfl
def XA{M:dY}{t:V J}(a:gZ M t)(l:List Nat):gZ (hP l M) (wR l t):=by
 intro n v bD
 rw[Lu]
 by_cases aM:n∈l
 ·simp[hP,fG,SV,aM]at bD
 ·simp[hP,fG,SV,aM]at bD
  rw[Zh aM];exact a n v bD
def Pn{K b:Nat}(a:K<=b):Nat.ble K b=true:=by simpa using a
def WG(aI:J.same 30 v v=true)(bs:AB bP aF ro cs de){eT:d0}{F:List d0}{nX:dY}{M:V J}{h:V an}{j:Nat}{ak ay:bJ}(cJ:Env C bt dW ec)
 (iY:∀ae h j,ak ae h j->∃hJ,oT eT ae=some hJ/\nU C bt bE bQ .run (hJ::F) (fA bP fn n av aF ro cs de nX) M h j v)
 (cA:∀ae h j todo,ay ae h j->nU C bt bE bQ (.panicking [⟨ae,false⟩]) todo (fA bP fn n av aF ro cs de nX) (uH (eT::F) M) h j v){r:eg}(a:Cy C bP.rd (some r) h j ak ay):
 nZ r (fV C bt bE bQ v) C eT F (fA bP fn n av aF ro cs de nX) M h j=some v:=by
 have fill:∀ae h j,ak ae h j->(match oT eT ae with|some hJ=>fV C bt bE bQ v .run (hJ::F) (fA bP fn n av aF ro cs de nX) M h j|none=>none)=some v:=by
  intro ae h j aL
  obtain⟨hJ,T,W⟩:=iY ae h j aL
  rw[T]
  exact ie W
 cases r with
 |val ae=>exact fill ae h j a
 |fE ae U ar=>exact fill ae U ar a
 |enter f args=>
  refine a bt dW ec cJ bE bQ v aI (El eT F (fA bP fn n av aF ro cs de nX) M) (λae U ar ao=> ?_) (λae U ar ao=> ?_)
  ·exact fill ae U ar ao
  ·exact ie (cA ae U ar _ ao)
 |round l args=>
  rw[awH]
  refine a bt dW ec cJ bE bQ v aI (El eT F (fA bP fn n av aF ro cs de nX) M) (λae U ar ao=> ?_) (λae U ar ao=> ?_)
  ·exact fill ae U ar ao
  ·exact ie (cA ae U ar _ ao)
 |known f args ae=>exact fill ae h j a
 |panic ae=>
  have a:=(show bV bP.rd False (ay ae h j) from a)
  cases Z:bP.rd with
  |true=>rw[Z]at a;exact a.elim
  |false=>
   rw[Z]at a
   have jY:=bs.rd Z
   subst jY
   exact ie (cA ae h j _ a)
 |fork l=>exact am7 aI l a.1 λae U bs=>iY ae U j (a.2 ae U bs)
 |_=>exact a.elim
def alW{ax:Array Oper}{aw:List (Nat×J)}{i:Nat}{rest:List fx}{fin:List (Nat×Nat)}{F:List d0}{M:V J}:uH (.s6 ax aw i rest fin::F) M=wR (dstsOf ax.toList) M:=rfl
def alV{ax:Array Oper}{aw:List (Nat×J)}{b i:Nat}{rest:List wI}{fin:List (Nat×Nat)}{F:List d0}{M:V J}:uH (.As ax b aw i rest fin::F) M=wR (dstsOf ax.toList) M:=rfl
def aw2(cJ:Env C bt dW ec)(aI:J.same 30 v v=true)(bs:AB bP aF ro cs de){ax:Array Oper}{fin:List (Nat×Nat)}{F:List d0}{t:V J}{ak:gB}{ay:rZ}
 (iY:∀M t h j,gZ M t->ak M h j->nU C bt bE bQ .run F (fA bP fn n av aF ro cs de M) t h j v)
 (cA:∀M t ae h j todo,gZ M t->ay M ae h j->nU C bt bE bQ (.panicking [⟨ae,false⟩]) todo (fA bP fn n av aF ro cs de M) t h j v):
 ∀(rest:List fx) (aw:List (Nat×J)) (M:dY) (h:V an) (j:Nat),gZ M t->Cb C bP fin ak (λM=>ay (hP (dstsOf ax.toList) M)) rest aw M h j->Aj rest ⟨fV C bt bE bQ v,ax,fin,F,fA bP fn n av aF ro cs de M⟩ C t aw h j=some v:=by
 intro rest
 induction rest with
 |nil=>
  intro aw M h j bb a
  obtain⟨c8,hr,T,W,au,aP⟩:=X2 bb (show Ii fin aw M (λM=>ak M h j) from a)
  show Ib ⟨fV C bt bE bQ v,ax,fin,F,fA bP fn n av aF ro cs de M⟩ C t aw h j=some v
  simp only[Ib,LJ,T,ot]
  have I:fA bP fn n av aF ro cs de M=fA bP fn n av aF ro cs de c8:=by unfold fA;rw[au.1,au.2]
  rw[I]
  exact ie (iY _ _ _ _ W aP)
 |cons x rest am=>
  intro aw M h j bb a
  obtain⟨i,g,op⟩:=x
  show D3 i g op rest (Aj rest) ⟨fV C bt bE bQ v,ax,fin,F,fA bP fn n av aF ro cs de M⟩ C t aw h j=some v
  have a:=(show(match Ej op with
   | .no=>Ox g aw (λak=>S9 bP.rd op C h j aw M ak (ay (hP (dstsOf ax.toList) M))) (λv h j=>Cb C bP fin ak (λM=>ay (hP (dstsOf ax.toList) M)) rest ((i,v)::aw) M h j) h j
   | .defer b3 f args=>bV (g.isNone&&bP.bg) (eU b3 aw M f λmF=>sQ b3 aw M args λcv=>H1 mF cv M λM=>Cb C bP fin ak (λM=>ay (hP (dstsOf ax.toList) M)) rest ((i,undef)::aw) M h j) False
   | .recover=>bV (g.isNone&& !bP.rd) (G4 bP.jJ M λv M=>Cb C bP fin ak (λM=>ay (hP (dstsOf ax.toList) M)) rest ((i,v)::aw) M h j) False) from a)
  cases Bs:Ej op with
  |no=>
   rw[Bs]at a
   obtain⟨w,T,W,au⟩:=Ow ((afs ..).mp a)
   simp only[D3,Ou,T,ot]
   cases w with
   |false=>simp only[Zx,ZA];exact am _ _ _ _ bb (au rfl)
   |true=>
    simp only[ZD]
    have aP:=W rfl
    rw[NM]
    unfold S9 at aP
    cases aL:mP op with
    |ia=>
     simp only[aL]at aP ⊢
     obtain⟨ae,bK,cr⟩:=No bb aP
     rw[bK]
     exact am _ _ _ _ bb cr
    |make=>
     simp only[aL]at aP ⊢
     obtain⟨ae,cO,bK,cr⟩:=at8 bb aP
     simp only[Ns,mg,bK,hw,ot]
     exact am _ _ _ _ bb cr
    |fs=>
     simp only[aL]at aP ⊢
     obtain⟨r,bK,cr⟩:=aa3 bb aP
     rw[bK]
     have ql:nZ r (fV C bt bE bQ v) C (.s6 ax aw i rest fin) F (fA bP fn n av aF ro cs de M) t h j=some v:=by
      refine WG aI bs cJ (λae h j ao=>⟨_,rfl, ?_⟩) (λae h j todo ao=> ?_) cr
      ·exact kF cJ (am _ _ _ _ bb ao)
      ·rw[alW];exact cA (hP (dstsOf ax.toList) M) _ _ _ _ _ (XA bb _) ao
     cases r with
     |val ae=>exact am _ _ _ _ bb cr
     |fE ae U ar=>exact am _ _ _ _ bb cr
     |_=>exact ql
  |defer b3 f args=>
   rw[Bs]at a
   obtain⟨c,rfl,rfl⟩:=axr Bs
   have a:=(show bV (g.isNone&&bP.bg) _ False from a)
   cases g with
   |some g=>exact a.elim
   |none=>
    cases mm:bP.bg with
    |false=>rw[mm]at a;exact a.elim
    |true=>
     rw[mm]at a
     obtain⟨mF,T,W⟩:=hC bb (show eU b3 aw M f _ from a)
     obtain⟨cv,au,aP⟩:=D4 bb W
     have jY:=bs.bg mm
     subst jY
     cases mF with
     |func g first fO=>
      simp only[D3,Ou,oC,ot,ZD]
      rw[NM]
      have aL:mP (.fs b3 (.defer ⟨.value f,c.1,c.2⟩))= .fs:=rfl
      have ah:hY (.fs b3 (.defer ⟨.value f,c.1,c.2⟩)) C h j aw t=some (.defer ⟨.fn g fO,first++cv⟩):=by
       simp only[hY,nu,QB,T,au]
      simp only[aL,ah]
      have gm:fA bP fn n av aF none cs de M=⟨fn,n,av,M.bg,aF,none,bV M.rc de cs⟩:=by unfold fA;rw[mm];rfl
      show nZ (.defer ⟨.fn g fO,first++cv⟩) (fV C bt bE bQ v) C (.s6 ax aw i rest fin) F (fA bP fn n av aF none cs de M) t h j=some v
      rw[gm]
      show fV C bt bE bQ v .run (.Hb ax ((i,undef)::aw) rest fin::F) ⟨fn,n,av,⟨.fn g fO,first++cv⟩::M.bg,aF,none,bV M.rc de cs⟩ t h j=some v
      have dz:(⟨fn,n,av,⟨.fn g fO,first++cv⟩::M.bg,aF,none,bV M.rc de cs⟩:iq)=fA bP fn n av aF none cs de (Af M ⟨.fn g fO,first++cv⟩):=by unfold fA;rw[mm];rfl
      rw[dz]
      exact ie (kF cJ (am _ (Af M ⟨.fn g fO,first++cv⟩) _ _ bb aP))
     |_=>exact aP.elim
  |recover=>
   rw[Bs]at a
   obtain⟨b3,dm,args,rfl,w8⟩:=axs Bs
   have a:=(show bV (g.isNone&& !bP.rd) _ False from a)
   cases g with
   |some g=>exact a.elim
   |none=>
    cases cG:bP.rd with
    |true=>rw[cG]at a;exact a.elim
    |false=>
     rw[cG]at a
     have jY:=bs.rd cG
     subst jY
     have a:G4 bP.jJ M (λv M=>Cb C bP fin ak (λM=>ay (hP (dstsOf ax.toList) M)) rest ((i,v)::aw) M h j):=a
     simp only[D3,Ou,oC,ot,ZD]
     rw[NM]
     have aL:mP (.fs b3 (.call ⟨.builtin .recover,args,dm⟩))= .fs:=rfl
     have ah:hY (.fs b3 (.call ⟨.builtin .recover,args,dm⟩)) C h j aw t=some .recover:=by
      simp only[hY,nu,CW,It,w8,pO]
     simp only[aL,ah]
     show nZ .recover (fV C bt bE bQ v) C (.s6 ax aw i rest fin) F (fA bP fn n av aF none cs de M) t h j=some v
     have key:∀ae c8,gZ c8 t->Ch aF (bV M.rc de cs)=some (ae,bV c8.rc de cs)->c8.bg=M.bg->Cb C bP fin ak (λM=>ay (hP (dstsOf ax.toList) M)) rest ((i,ae)::aw) c8 h j->nZ .recover (fV C bt bE bQ v) C (.s6 ax aw i rest fin) F (fA bP fn n av aF none cs de M) t h j=some v:=by
      intro ae c8 R6 T W au
      show(match Ch aF (bV M.rc de cs)with
       |some (g7,alB)=>(match oT (.s6 ax aw i rest fin) g7 with|some hJ=>fV C bt bE bQ v .run (hJ::F) ⟨fn,n,av,bV bP.bg M.bg [],aF,none,alB⟩ t h j|none=>none)
       |none=>none)=some v
      rw[T]
      show fV C bt bE bQ v .run (.Hb ax ((i,ae)::aw) rest fin::F) ⟨fn,n,av,bV bP.bg M.bg [],aF,none,bV c8.rc de cs⟩ t h j=some v
      have gm:(⟨fn,n,av,bV bP.bg M.bg [],aF,none,bV c8.rc de cs⟩:iq)=fA bP fn n av aF none cs de c8:=by unfold fA;rw[W]
      rw[gm]
      exact ie (kF cJ (am _ _ _ _ R6 au))
     unfold G4 at a
     cases aA:bP.jJ with
     |none=>rw[aA]at a;exact a.elim
     |some p=>
      rw[aA]at a
      cases p with
      |none=>
       obtain⟨T,W⟩:=bs.none aA
       subst T
       refine key _ M bb ?_ rfl a
       cases M.rc<;>exact W
      |some ae=>
       obtain⟨T,W⟩:=bs.some ae aA
       cases Bn:M.rc with
       |true=>
        simp only[Bn]at a
        refine key _ M bb ?_ rfl a
        simp only[Bn];exact W
       |false=>
        simp only[Bn]at a
        refine key ae (N8 M) bb ?_ rfl a
        simp only[Bn];exact T
def alU(cJ:Env C bt dW ec)(aI:J.same 30 v v=true)(bs:AB bP aF ro cs de){ax:Array Oper}{base:Nat}{fin:List (Nat×Nat)}{F:List d0}{M:dY}{t:V J}(bb:gZ M t){ak:gB}{ay:rZ}
 (iY:∀M t h j,gZ M t->ak M h j->nU C bt bE bQ .run F (fA bP fn n av aF ro cs de M) t h j v)
 (cA:∀M t ae h j todo,gZ M t->ay M ae h j->nU C bt bE bQ (.panicking [⟨ae,false⟩]) todo (fA bP fn n av aF ro cs de M) t h j v):
 ∀(li:List wI) (aw:List (Nat×J)) (h:V an) (j:Nat),PN C bP.rd base fin M ak (ay (hP (dstsOf ax.toList) M)) li aw h j->yp (fV C bt bE bQ v) C ax base aw li fin F (fA bP fn n av aF ro cs de M) t h j=some v:=by
 intro li
 induction li with
 |nil=>intro aw h j a;exact a.elim
 |cons s rest am=>
  intro aw h j a
  obtain⟨hF,U,T,W⟩:=atO bb (show Nq C base M s.t6 aw h _ from a)
  obtain⟨au,aP⟩:=awb bb W
  simp only[yp,T,au,e6]
  cases gK:s.fs with
  |none=>
   simp only[gK]at aP
   obtain⟨c8,hr,bK,cr,dP,fi⟩:=X2 bb aP
   simp only[LJ,bK,ot]
   have I:fA bP fn n av aF ro cs de M=fA bP fn n av aF ro cs de c8:=by unfold fA;rw[dP.1,dP.2]
   rw[I]
   exact ie (iY _ _ _ _ cr fi)
  |some ah=>
   simp only[gK]at aP
   obtain⟨w,bK,cr,dP⟩:=Ow ((afs ..).mp aP)
   simp only[bK]
   cases w with
   |false=>simp only[jz];exact ie (kF cJ (am _ _ _ (dP rfl)))
   |true=>
    obtain⟨r,fi,kd⟩:=aa3 bb (cr rfl)
    simp only[e6,fi]
    refine WG aI bs cJ (λae h j ao=>⟨_,rfl, ?_⟩) (λae h j todo ao=> ?_) kd
    ·exact kF cJ (am _ _ _ ao)
    ·rw[alV];exact cA (hP (dstsOf ax.toList) M) _ _ _ _ _ (XA bb _) ao
def af2(C:a2)(bt:World)(bE:Nat)(bQ:List Frame)(v:J)(cf:dY->iq)(F:List d0)(id:Nat):gB:=λM h j=>∀t,gZ M t->AX id (fV C bt bE bQ v) C F (cf M) t h j=some v
def LI{id:Nat}{am:hE}{C:a2}{eT:d0}{F:List d0}{bP:uq}{cs de:List gN}{nX:dY}{M:V J}{h:V an}{j:Nat}(a:exitTo id (eT::F)=exitTo id F):
 AX id am C (eT::F) (fA bP fn n av aF ro cs de nX) M h j=AX id am C F (fA bP fn n av aF ro cs de nX) M h j:=by
 unfold AX
 rw[a]
 cases exitTo id F with
 |some fa=>rfl
 |none=>
  unfold ol fA
  cases ro with
  |none=>rfl
  |some l=>rfl
def OJ(C:a2)(fn n av:Nat)(c:Code):Prop:=
 ∀{bt:World}{dW:da}{ec:Nat->Prop}(_:Env C bt dW ec) {bE:Nat}{bQ:List Frame}{v:J}(_:J.same 30 v v=true) (bP:uq) (aF:Bool) (ro:Option Nat) (cs de:List gN) (ay:rZ) (F:List d0) (ak:gB) (I:Nat->gB) (r:gB) (M:dY) (t:V J) (h:V an) (j:Nat),AB bP aF ro cs de->
  (∀M t ae h j todo,gZ M t->ay M ae h j->nU C bt bE bQ (.panicking [⟨ae,false⟩]) todo (fA bP fn n av aF ro cs de M) t h j v)->
  (∀M t h j,gZ M t->ak M h j->nU C bt bE bQ .run F (fA bP fn n av aF ro cs de M) t h j v)->
  (∀id M h j,I id M h j->af2 C bt bE bQ v (fA bP fn n av aF ro cs de) F id M h j)->
  (∀M t h j todo,gZ M t->r M h j->ol (some .ret) (fV C bt bE bQ v) C todo (fA bP fn n av aF ro cs de M) t h j=some v)->
  gZ M t->wO C n av c bP ay ak I r M h j->uC c (fV C bt bE bQ v) C F (fA bP fn n av aF ro cs de M) t h j=some v
def aw8{n:Nat}:∀(du:List Nat) (cv:List J) (M:dY) (t:V J) (ak:dY->Prop),gZ M t->Hc n du cv M ak->∃c8 hr,xO n du cv t=some hr/\gZ c8 hr/\ak c8:=by
 intro du
 induction du with
 |nil=>
  intro cv M t ak bb a
  cases cv with
  |nil=>exact⟨M,t,rfl,bb,a⟩
  |cons K cv=>exact a.elim
 |cons p du am=>
  intro cv M t ak bb a
  cases cv with
  |nil=>exact a.elim
  |cons K cv=>
   have a:=(show bV (Nat.blt p n) (Hc n du cv (ac M p K) ak) False from a)
   cases ai:Nat.blt p n with
   |false=>rw[ai]at a;exact a.elim
   |true=>
    rw[ai]at a
    obtain⟨c8,hr,T,W,au⟩:=am cv _ _ ak (aeJ bb p K) a
    exact⟨c8,hr,by simp only[xO,ai,e6,T],W,au⟩
def Cm(fn n av:Nat)(ro:Option Nat)(cs:List gN)(M:dY):fA BQ fn n av false ro cs cs M=⟨fn,n,av,[],false,ro,cs⟩:=by
 unfold fA BQ
 cases M.rc<;>rfl
def SG{am:hE}{C:a2}{l fn n av:Nat}{t0:V J}{params:List Nat}{assign body:Code}{Lo:Nat}{iL:Option Code}{st:LoopState}{b:Bool}{ak:bJ}{todo:List d0}{cs:List gN}{t:V J}{h:V an}{j:Nat}{v:J}
 (aO:kD C l=true)(aA:ad5 iL=true)(dp:st=bV iL.isNone .ready .done)(ai:b=iL.isNone)(a:LC C l (λst p=> .loop st p fn n av t0 params assign body Lo) st iL b ak h j)
 (aL:∀ae h j,ak ae h j->tg am false cs ae h j=some v):ol iL am C todo ⟨fn,n,av,[],false,some l,cs⟩ t h j=some v:=by
 obtain⟨⟨aeO,G0,T⟩,W⟩:=a
 subst dp ai
 have:=aL _ _ _ W
 simp only[ol,T,aO,aA,Yd,Yg,e6,hw]
 exact this
def awI{C:a2}{fn n av:Nat}{assign body:Code}(mj:OJ C fn n av assign)(eH:OJ C fn n av body){bt:World}{dW:da}{ec:Nat->Prop}(cJ:Env C bt dW ec){bE:Nat}{bQ:List Frame}{v:J}(aI:J.same 30 v v=true){l:Nat}{t:V J}{params:List Nat}{Lo:Nat}{cs:List gN}
 {M:dY}{h:V an}{j:Nat}{args:List J}{ak ay:bJ}(aD:ab C h l=some (.loop .ready none fn n av t params assign body Lo))(aO:kD C l=true)(bb:gZ M t)
 (gD:∀ae U ar,ak ae U ar->OG C bt bE bQ v cs ae U ar)(iV:∀ae U ar,ay ae U ar->K0 C bt bE bQ v cs ae U ar)
 (a:Hc n params args M λq8=>sY C (wO C n av assign) (wO C n av body) l (λst p=> .loop st p fn n av t params assign body Lo) ak ay q8 h j):
 N2 (fV C bt bE bQ v) C l args cs h j=some v:=by
 obtain⟨q8,t1,bH,F9,T⟩:=aw8 _ _ _ _ _ bb a
 unfold N2
 rw[aD]
 simp only[bH]
 have bs:AB BQ false (some l) cs cs:=⟨λa=>(by cases a),λa=>(by cases a),λa=>(by cases a),λae a=>(by cases a)⟩
 have cA:∀(M:dY) (t:V J) (ae:J) (h:V an) (j:Nat) (todo:List d0),gZ M t->ay ae h j->nU C bt bE bQ (.panicking [⟨ae,false⟩]) todo (fA BQ fn n av false (some l) cs cs M) t h j v:=by
  intro M t ae h j todo bb ao
  rw[Cm]
  refine kF cJ ?_
  have:=iV ae h j ao
  show Kz [⟨ae,false⟩] todo (fV C bt bE bQ v) C ⟨fn,n,av,[],false,some l,cs⟩ t h j=some v
  cases cs with
  |nil=>exact this.elim
  |cons c rest=>exact this
 refine ie (kF cJ ?_)
 rw[<-Cm fn n av (some l) cs q8]
 refine mj cJ aI BQ false (some l) cs cs (λ_=>ay) [.beginRound, .code body] _ _ _ q8 t1 h j bs cA (λM t h j bb ao=> ?_) (λid M h j ao=>ao.elim) (λM t h j todo bb ao=>ao.elim) F9 T
 obtain⟨cL,cC⟩:=ao
 refine kF cJ ?_
 rw[Cm]
 show HQ (fV C bt bE bQ v) C [.code body] ⟨fn,n,av,[],false,some l,cs⟩ t h j=some v
 unfold HQ
 simp only[cL,aO,e6,hw]
 refine ie (kF cJ ?_)
 rw[<-Cm fn n av (some l) cs M]
 refine eH cJ aI BQ false (some l) cs cs (λ_=>ay) [] _ _ _ M t _ j bs cA (λM t h j bb ao=> ?_) (λid M h j ao t bb=> ?_) (λM t h j todo bb ao=> ?_) bb cC
 ·refine kF cJ ?_
  rw[Cm]
  show ol none (fV C bt bE bQ v) C [] ⟨fn,n,av,[],false,some l,cs⟩ t h j=some v
  exact SG aO rfl rfl rfl ao gD
 ·rw[Cm]
  show ol (some (.exit id)) (fV C bt bE bQ v) C (.code (.exit id)::[]) ⟨fn,n,av,[],false,some l,cs⟩ t h j=some v
  exact SG aO rfl rfl rfl ao gD
 ·rw[Cm]
  exact SG aO rfl rfl rfl ao gD
def Py:∀c:Code,OJ C fn n av c:=by
 intro c
 induction c with
 |skip=>intro bt dW ec cJ bE bQ v aI bP aF ro cs de ay F ak I r M t h j bs cA iY bA Z bb a;exact ie (iY _ _ _ _ bb a)
 |region id ax d=>
  intro bt dW ec cJ bE bQ v aI bP aF ro cs de ay F ak I r M t h j bs cA iY bA Z bb a
  cases d with
  |false=>
   obtain⟨ao,T,W⟩:=sR.1 (show aj (J7 C n ax av) (λr=>Cb C bP r.fin ak (λM=>ay (hP (dstsOf ax.toList) M)) r.rest [] M h j) from a)
   show jh (J7 C n ax av) (λr=>OI.rec (motive:=λ_=>ed) (λrest fin=>Aj rest ⟨fV C bt bE bQ v,ax,fin,F,fA bP fn n av aF ro cs de M⟩ C t [] h j) r)=some v
   rw[T]
   exact aw2 cJ aI bs iY cA _ _ _ _ _ bb W
  |true=>
   obtain⟨ao,T,W⟩:=sR.1 (show aj (J6 C n ax av) (λr=>eM (j+ax.size) λar=>PN C bP.rd j r.fin M ak (ay (hP (dstsOf ax.toList) M)) r.li [] h ar) from a)
   show jh (J6 C n ax av) (λr=>OH.rec (motive:=λ_=>ed) (λli fin=>qn j λj=>yp (fV C bt bE bQ v) C ax j [] li fin F (fA bP fn n av aF ro cs de M) t h (j+ax.size)) r)=some v
   rw[T]
   show qn j (λj=>yp (fV C bt bE bQ v) C ax j [] ao.li ao.fin F (fA bP fn n av aF ro cs de M) t h (j+ax.size))=some v
   rw[mg]
   exact alU cJ aI bs bb iY cA _ _ _ _ W.out
 |seq K b mO hI=>
  intro bt dW ec cJ bE bQ v aI bP aF ro cs de ay F ak I r M t h j bs cA iY bA Z bb a
  refine mO cJ aI bP aF ro cs de ay (.code b::F) (wO C n av b bP ay ak I r) I r M t h j bs cA (λM t h j bb a=> ?_) (λid M h j a t bb=> ?_) Z bb a
  ·exact kF cJ (hI cJ aI bP aF ro cs de ay F ak I r M t h j bs cA iY bA Z bb a)
  ·rw[LI (by simp[exitTo])]
   exact bA id M h j a t bb
 |cond c K b mO hI=>
  intro bt dW ec cJ bE bQ v aI bP aF ro cs de ay F ak I r M t h j bs cA iY bA Z bb a
  obtain⟨ae,T,W⟩:=hC (aw:=[]) (b3:=[]) bb (show eU [] [] M c _ from a)
  obtain⟨Ol,rfl,au,aP⟩:=W5 W.out
  have bK:wU t c=some (.bool Ol):=by
   cases c<;>first|(simp[i7,wU]at T;done)|simpa[i7,wU]using T
  show HY c t (uC K (fV C bt bE bQ v) C F (fA bP fn n av aF ro cs de M) t h j) (uC b (fV C bt bE bQ v) C F (fA bP fn n av aF ro cs de M) t h j)=some v
  simp only[HY,ot,bK]
  cases Ol with
  |true=>exact mO cJ aI bP aF ro cs de ay F ak I r M t h j bs cA iY bA Z bb (au rfl)
  |false=>exact hI cJ aI bP aF ro cs de ay F ak I r M t h j bs cA iY bA Z bb (aP rfl)
 |block id b hI=>
  intro bt dW ec cJ bE bQ v aI bP aF ro cs de ay F ak I r M t h j bs cA iY bA Z bb a
  refine hI cJ aI bP aF ro cs de ay (.inBlock id::F) ak (CO id ak I) r M t h j bs cA (λM t h j bb a=>kF cJ (ie (iY M t h j bb a))) (λtV M h j a t bb=> ?_) Z bb a.out
  unfold CO at a
  rw[hO]at a
  by_cases FO:id=tV
  ·rw[Zr FO]at a
   have bH:exitTo tV (.inBlock id::F)=some F:=by simp[exitTo,FO,hO]
   unfold AX
   rw[bH]
   exact ie (iY M t h j bb a)
  ·rw[Zh FO]at a
   rw[LI (by simp[exitTo,hO,FO])]
   exact bA tV M h j a t bb
 |loop b hI=>
  intro bt dW ec cJ bE bQ v aI bP aF ro cs de ay F ak I r M t h j bs cA iY bA Z bb a
  obtain⟨j8,⟨m,RB⟩,oW⟩:=(show fu (λPc=>wO C n av b bP ay Pc I r) M h j from a).out
  have J3:∀m M t h j,j8 m M h j->gZ M t->uC b (fV C bt bE bQ v) C (.inLoop b::F) (fA bP fn n av aF ro cs de M) t h j=some v:=by
   intro m
   induction m using Nat.strongRecOn with
   |ind m p2=>
    intro M t h j RB bb
    refine hI cJ aI bP aF ro cs de ay (.inLoop b::F) _ I r M t h j bs cA (λM t h j bb a=> ?_) (λid M h j a t bb=> ?_) Z bb (oW m M h j RB)
    ·obtain⟨gr,c4,ve⟩:=a
     exact kF cJ (p2 gr c4 M t h j ve bb)
    ·rw[LI (by simp[exitTo])]
     exact bA id M h j a t bb
  exact J3 m M t h j RB bb
 |rangeFunc f params assign body mO hI=>
  intro bt dW ec cJ bE bQ v aI bP aF ro cs de ay F ak I r M t h j bs cA iY bA Z bb a
  have a:=(show bV bP.bg (PW f M λmF=>D9 C n mF params.toList (sY C (wO C n av assign) (wO C n av body)) ak I r ay M h j) False from a)
  cases mm:bP.bg with
  |false=>rw[mm]at a;exact a.elim
  |true=>
   rw[mm]at a
   have jY:=bs.bg mm
   subst jY
   obtain⟨mF,T,W⟩:=hC (aw:=[]) (b3:=[]) bb (show eU [] [] M f _ from a)
   have bK:wU t f=some mF:=by
    cases f<;>first|(simpa[i7,wU]using T)|(simp[i7]at T;subst T;rfl)
   have Ry:=W.low
   have FZ:=W.out
   have gm:∀M:dY,fA bP fn n av aF none cs de M=⟨fn,n,av,M.bg,aF,none,bV M.rc de cs⟩:=λM=>by unfold fA;rw[mm];rfl
   have Mt:kD C (j+1)=true:=Pn Zo
   show Kp f params assign body (fV C bt bE bQ v) C F (fA bP fn n av aF none cs de M) t h j=some v
   rw[gm]
   unfold Kp
   rw[bK]
   cases mF with
   |func g first fO=>
    cases g with
    |func g=>
     simp only[mg]
     have FZ:=FZ (λst p=> .loop st p fn n av t params.toList assign body j) ?_
     ·refine FZ bt dW ec cJ bE bQ v aI _ (λae U ar ao=> ?_) (λae U ar ao=> ?_)
      ·obtain⟨st,p,cL,cC,d6⟩:=ao
       show(match oT (.inRangeFunc (j+1)) ae with
        |some hJ=>fV C bt bE bQ v .run (hJ::F) ⟨fn,n,av,⟨.collected j,[]⟩::M.bg,aF,none,bV M.rc de cs⟩ t U ar
        |none=>none)=some v
       refine ie (kF cJ ?_)
       show Fh (j+1) (fV C bt bE bQ v) C F ⟨fn,n,av,⟨.collected j,[]⟩::M.bg,aF,none,bV M.rc de cs⟩ t U ar=some v
       have bH:Fh (j+1) (fV C bt bE bQ v) C F ⟨fn,n,av,⟨.collected j,[]⟩::M.bg,aF,none,bV M.rc de cs⟩ t U ar=fV C bt bE bQ v .run ((p.map d0.code).toList++F) ⟨fn,n,av,⟨.collected j,[]⟩::M.bg,aF,none,bV M.rc de cs⟩ t (bo C U (j+1) (some (.loop .exhausted p fn n av t params.toList assign body j))) ar:=by
        unfold Fh
        rw[cC]
        cases st with
        |busy=>exact absurd rfl cL
        |_=>simp only[Mt,e6,hw]
       rw[bH]
       have dz:=gm (vI M j)
       have ej:(⟨fn,n,av,⟨.collected j,[]⟩::M.bg,aF,none,bV M.rc de cs⟩:iq)=fA bP fn n av aF none cs de (vI M j):=dz.symm
       rw[ej]
       have Bu:gZ (vI M j) t:=bb
       cases p with
       |none=>exact ie (iY _ _ _ _ Bu d6)
       |some c=>
        refine ie (kF cJ ?_)
        unfold ad6 at d6
        cases c with
        |exit id=>exact bA id _ _ _ d6 t Bu
        |ret=>exact Z _ _ _ _ _ Bu d6
        |_=>exact d6.elim
      ·refine ie ?_
       have ej:(⟨fn,n,av,⟨.collected j,[]⟩::M.bg,aF,none,bV M.rc de cs⟩:iq)=fA bP fn n av aF none cs de (vI M j):=(gm (vI M j)).symm
       have:=cA (vI M j) t ae U ar (.inRangeFunc (j+1)::F) bb ao
       rw[<-ej]at this
       exact this
     ·
      intro args a6 DZ Av eG aD bo np x0 mA PU eS rg KI k8 PC gD iV
      exact awI mO hI PU k8 aD Mt bb gD iV bo
    |_=>exact FZ.elim
   |_=>exact FZ.elim
 |exit id=>
  intro bt dW ec cJ bE bQ v aI bP aF ro cs de ay F ak I r M t h j bs cA iY bA Z bb a
  exact bA id M h j a t bb
 |scope b hI=>
  intro bt dW ec cJ bE bQ v aI bP aF ro cs de ay F ak I r M t h j bs cA iY bA Z bb a
  refine hI cJ aI bP aF ro cs de ay (.inScope b::F) ak I r M t h j bs cA (λM t h j bb a=>kF cJ (ie (iY M t h j bb a))) (λid M h j a t bb=> ?_) Z bb a
  rw[LI (by simp[exitTo])]
  exact bA id M h j a t bb
 |label l=>intro bt dW ec cJ bE bQ v aI bP aF ro cs de ay F ak I r M t h j bs cA iY bA Z bb a;exact ie (iY _ _ _ _ bb a)
 |goto l=>intro bt dW ec cJ bE bQ v aI bP aF ro cs de ay F ak I r M t h j bs cA iY bA Z bb a;exact a.elim
 |ret=>
  intro bt dW ec cJ bE bQ v aI bP aF ro cs de ay F ak I r M t h j bs cA iY bA Z bb a
  exact Z _ _ _ _ _ bb a
 |refuse s=>intro bt dW ec cJ bE bQ v aI bP aF ro cs de ay F ak I r M t h j bs cA iY bA Z bb a;exact a.elim
end
def Pf(args:List J):gZ (cZ args) (V.ofList args 0 .nil):=by
 intro n v a
 rw[kM]
 simpa[cZ]using a
section
variable{C:a2}{dW:da}{ec:Nat->Prop}{bt:World}{bE:Nat}{bQ:List Frame}{v:J}{fn:Nat}{tr:Func}{n av:Nat}{aF:Bool}{cs:List gN}
def N1(cJ:Env C bt dW ec)(aI:J.same 30 v v=true)(b9:C.P.funcs[fn]? =some tr){bv:bJ}(gD:∀ae h j,bv ae h j->tg (fV C bt bE bQ v) aF cs ae h j=some v){M:dY}{t:V J}(bb:gZ M t):
 ∀(ds:List hN) (h:V an) (j:Nat) (todo:List d0),nj C tr.results.toList bv M ds h j->nU C bt bE bQ .returning todo ⟨fn,n,av,ds,aF,none,cs⟩ t h j v:=by
 intro ds
 induction ds with
 |nil=>
  intro h j todo a
  obtain⟨bj,T,W⟩:=awp bb (show qU C h M tr.results.toList (λbj=>bv (one bj) h j) from a)
  refine kF cJ ?_
  show KA todo (fV C bt bE bQ v) C ⟨fn,n,av,[],aF,none,cs⟩ t h j=some v
  simp only[KA,b9,T]
  exact gD _ _ _ W
 |cons d ds am=>
  intro h j todo a
  obtain⟨KD,cv⟩:=d
  refine kF cJ ?_
  show xQ ⟨KD,cv⟩ ds .returning todo (fV C bt bE bQ v) C ⟨fn,n,av,[],aF,none,cs⟩ t h j=some v
  cases KD with
  |collected r=>
   have a:=(show NE C r h (nj C tr.results.toList bv M ds (bo C h r (some (.deferred none))) j) from a)
   simp only[xQ,a.here,show kD C r=true from Pn a.low,e6,hw,YK]
   exact ie (am _ _ _ a.go)
  |fn g cap=>
   have a:=(show tp C g (cv++cap) none h j (λ_ h j=>nj C tr.results.toList bv M ds h j) from a).out
   split at a
   ·rename_i f
    obtain⟨T,⟨tv,c,W,au⟩,aP⟩:=a
    simp only[xQ,AJ,r4,T,W,au]
    exact aP bt dW ec cJ bE bQ v aI fn n av t todo ds aF none cs λb U ar ao=>ie (am _ _ _ ao)
   ·exact a.elim
def ad0(cJ:Env C bt dW ec)(aI:J.same 30 v v=true)(b9:C.P.funcs[fn]? =some tr){bv eY:bJ}(gD:∀ae h j,bv ae h j->tg (fV C bt bE bQ v) aF cs ae h j=some v)(iV:∀ae h j,eY ae h j->K0 C bt bE bQ v cs ae h j){M:dY}{t:V J}(bb:gZ M t)(ae:J):
 ∀(ds:List hN) (h:V an) (j:Nat) (todo:List d0),vP C tr.results.toList bv eY M ae ds h j->nU C bt bE bQ (.panicking [⟨ae,false⟩]) todo ⟨fn,n,av,ds,aF,none,cs⟩ t h j v:=by
 intro ds
 induction ds with
 |nil=>
  intro h j todo a
  refine kF cJ ?_
  have:=iV ae h j a
  show Kz [⟨ae,false⟩] todo (fV C bt bE bQ v) C ⟨fn,n,av,[],aF,none,cs⟩ t h j=some v
  cases cs with
  |nil=>exact this.elim
  |cons c rest=>exact this
 |cons d ds am=>
  intro h j todo a
  obtain⟨KD,cv⟩:=d
  refine kF cJ ?_
  show xQ ⟨KD,cv⟩ ds (.panicking [⟨ae,false⟩]) todo (fV C bt bE bQ v) C ⟨fn,n,av,[],aF,none,cs⟩ t h j=some v
  cases KD with
  |collected r=>
   have a:=(show NE C r h (vP C tr.results.toList bv eY M ae ds (bo C h r (some (.deferred none))) j) from a)
   simp only[xQ,a.here,show kD C r=true from Pn a.low,e6,hw,YK]
   exact ie (am _ _ _ a.go)
  |fn g cap=>
   have a:=(show tp C g (cv++cap) (some ae) h j (λb h j=>bV b (nj C tr.results.toList bv M ds h j) (vP C tr.results.toList bv eY M ae ds h j)) from a).out
   split at a
   ·rename_i f
    obtain⟨T,⟨tv,c,W,au⟩,aP⟩:=a
    simp only[xQ,AJ,r4,T,W,au]
    refine aP bt dW ec cJ bE bQ v aI fn n av t todo ds aF none cs λb U ar ao=> ?_
    cases b with
    |true=>exact ie (N1 cJ aI b9 gD bb ds U ar todo ao)
    |false=>exact ie (am _ _ _ ao)
   ·exact a.elim
end
def P8{C:a2}{f eb:Nat}(aB:cX C f eb=true):∃fn c,C.P.funcs[f]? =some fn/\fn.body=some c/\(Nat.ble eb fn.ntmps&&lO C (Nat.lor (kl c) (nO fn.results.toList)) c&&Ag (Nat.lor (kl c) (nO fn.results.toList)) fn.results.toList)=true:=by
 unfold cX at aB
 split at aB
 ·rename_i fn b9
  split at aB
  ·rename_i c ai;exact⟨fn,c,b9,ai,aB⟩
  ·cases aB
 ·cases aB
def Gz{am:hE}{C:a2}{fn n av:Nat}{bg:List hN}{aF:Bool}{cs:List gN}{todo:List d0}{M:V J}{h:V an}{j:Nat}{aa:Option Code}(bL:Sm aa=true):ol aa am C todo ⟨fn,n,av,bg,aF,none,cs⟩ M h j=am .returning todo ⟨fn,n,av,bg,aF,none,cs⟩ M h j:=by
 simp only[ol,bL,e6]
def Hs(fn n av:Nat)(aF:Bool)(ro:Option Nat)(cs:List gN)(M:dY):fA GH fn n av aF ro cs cs M=⟨fn,n,av,[],aF,ro,cs⟩:=by
 unfold fA GH
 cases M.rc<;>rfl
def Ht(fn n av:Nat)(aF:Bool)(ro:Option Nat)(cs:List gN)(M:dY):fA y7 fn n av aF ro cs cs M=⟨fn,n,av,M.bg,aF,ro,cs⟩:=by
 unfold fA y7
 cases M.rc<;>rfl
def am2{C:a2}{f:Nat}{args:List J}{h:V an}{j:Nat}{bv eY:bJ}(aB:cX C f args.length=true)(a:di C f args h j bv eY):uo C f args h j bv eY:=by
 intro bt dW ec cJ bE bQ v aI cs gD iV
 obtain⟨fn,c,b9,ai,ml⟩:=P8 aB
 unfold di at a
 simp only[b9,ai]at a
 unfold n5
 simp only[b9,ai,mg,ml,e6]
 have bs:AB GH false none cs cs:=⟨λ_=>rfl,λa=>(by cases a),λa=>(by cases a),λae a=>(by cases a)⟩
 have sA:∀M t h j todo,gZ M t->qU C h M fn.results.toList (λbj=>bv (one bj) h j)->
  nU C bt bE bQ .returning todo (fA GH f fn.ntmps (Nat.lor (kl c) (nO fn.results.toList)) false none cs cs M) t h j v:=by
  intro M t h j todo bb a
  rw[Hs]
  exact N1 cJ aI b9 (λae h j ao=>gD ae h j ao) bb [] h j todo a
 refine ie (kF cJ ?_)
 rw[<-Hs f fn.ntmps (Nat.lor (kl c) (nO fn.results.toList)) false none cs (cZ args)]
 refine Py c cJ aI GH false none cs cs _ [] _ _ _ _ _ h j bs (λM t ae h j todo bb a=> ?_) (λM t h j bb a=> ?_) (λid M h j a=>a.elim) (λM t h j todo bb a=> ?_) (Pf args) a
 ·rw[Hs]
  exact ad0 (tr:=fn) (bv:=bv) cJ aI b9 (λae h j ao=>gD ae h j ao) (λae h j ao=>iV ae h j ao) bb ae [] h j todo a
 ·refine kF cJ ?_
  have:=sA M t h j [] bb a
  rw[Hs]at this ⊢
  show ol none (fV C bt bE bQ v) C [] ⟨f,fn.ntmps,Nat.lor (kl c) (nO fn.results.toList),[],false,none,cs⟩ t h j=some v
  rw[Gz rfl]
  exact ie this
 ·have:=sA M t h j todo bb a
  rw[Hs]at this ⊢
  rw[Gz rfl]
  exact ie this
def am3{C:a2}{f:Nat}{args:List J}{h:V an}{j:Nat}{bv eY:bJ}(aB:cX C f args.length=true)(a:AZ C f args h j bv eY):uo C f args h j bv eY:=by
 intro bt dW ec cJ bE bQ v aI cs gD iV
 obtain⟨fn,c,b9,ai,ml⟩:=P8 aB
 unfold AZ at a
 simp only[b9,ai]at a
 unfold n5
 simp only[b9,ai,mg,ml,e6]
 have bs:AB y7 false none cs cs:=⟨λ_=>rfl,λ_=>rfl,λa=>(by cases a),λae a=>(by cases a)⟩
 have sA:∀M t h j todo,gZ M t->nj C fn.results.toList bv M M.bg h j->
  nU C bt bE bQ .returning todo (fA y7 f fn.ntmps (Nat.lor (kl c) (nO fn.results.toList)) false none cs cs M) t h j v:=by
  intro M t h j todo bb a
  rw[Ht]
  exact N1 cJ aI b9 (λae h j ao=>gD ae h j ao) bb M.bg h j todo a
 refine ie (kF cJ ?_)
 rw[show(⟨f,fn.ntmps,Nat.lor (kl c) (nO fn.results.toList),[],false,none,cs⟩:iq)=fA y7 f fn.ntmps (Nat.lor (kl c) (nO fn.results.toList)) false none cs cs (cZ args) from(Ht f fn.ntmps (Nat.lor (kl c) (nO fn.results.toList)) false none cs (cZ args)).symm]
 refine Py c cJ aI y7 false none cs cs _ [] _ _ _ _ _ h j bs (λM t ae h j todo bb a=> ?_) (λM t h j bb a=> ?_) (λid M h j a=>a.elim) (λM t h j todo bb a=> ?_) (Pf args) a
 ·rw[Ht]
  exact ad0 (tr:=fn) (bv:=bv) cJ aI b9 (λae h j ao=>gD ae h j ao) (λae h j ao=>iV ae h j ao) bb ae M.bg h j todo a
 ·refine kF cJ ?_
  have:=sA M t h j [] bb a
  rw[Ht]at this ⊢
  show ol none (fV C bt bE bQ v) C [] ⟨f,fn.ntmps,Nat.lor (kl c) (nO fn.results.toList),M.bg,false,none,cs⟩ t h j=some v
  rw[Gz rfl]
  exact ie this
 ·have:=sA M t h j todo bb a
  rw[Ht]at this ⊢
  rw[Gz rfl]
  exact ie this
def X9{C:a2}{f:Nat}{args:List J}{jJ:Option J}{h:V an}{j:Nat}{bv:Bool->V an->Nat->Prop}(aB:cX C f args.length=true)(a:yt C f args jJ h j bv)
 {bt:World}{dW:da}{ec:Nat->Prop}(cJ:Env C bt dW ec){bE:Nat}{bQ:List Frame}{v:J}(aI:J.same 30 v v=true){cs de:List gN}(bs:AB ⟨false,false,some jJ⟩ true none cs de)
 (apq:∀b ae h j,bv b h j->tg (fV C bt bE bQ v) true (bV b de cs) ae h j=some v):n5 (fV C bt bE bQ v) C f args true cs h j=some v:=by
 obtain⟨fn,c,b9,ai,ml⟩:=P8 aB
 unfold yt at a
 simp only[b9,ai]at a
 unfold n5
 simp only[b9,ai,mg,ml,e6]
 have sA:∀M t h j todo,gZ M t->qU C h M fn.results.toList (λ_=>bv M.rc h j)->
  nU C bt bE bQ .returning todo (fA ⟨false,false,some jJ⟩ f fn.ntmps (Nat.lor (kl c) (nO fn.results.toList)) true none cs de M) t h j v:=by
  intro M t h j todo bb a
  exact N1 (bv:=λ_ h j=>bv M.rc h j) cJ aI b9 (λae h j ao=>apq M.rc ae h j ao) bb [] h j todo a
 refine ie (kF cJ ?_)
 refine Py c cJ aI ⟨false,false,some jJ⟩ true none cs de _ [] _ _ _ (cZ args) _ h j bs (λM t ae h j todo bb a=>a.elim) (λM t h j bb a=> ?_) (λid M h j a=>a.elim) (λM t h j todo bb a=> ?_) (Pf args) a
 ·refine kF cJ ?_
  show ol none (fV C bt bE bQ v) C [] ⟨f,fn.ntmps,Nat.lor (kl c) (nO fn.results.toList),[],true,none,bV M.rc de cs⟩ t h j=some v
  rw[Gz rfl]
  exact ie (sA M t h j [] bb a)
 ·show ol (some .ret) (fV C bt bE bQ v) C todo ⟨f,fn.ntmps,Nat.lor (kl c) (nO fn.results.toList),[],true,none,bV M.rc de cs⟩ t h j=some v
  rw[Gz rfl]
  exact ie (sA M t h j todo bb a)
def LP{C:a2}{f:Nat}{args:List J}{jJ:Option J}{h:V an}{j:Nat}{bv:Bool->V an->Nat->Prop}(aB:cX C f args.length=true)(a:yt C f args jJ h j bv):Uh C f args jJ h j bv:=by
 intro bt dW ec cJ bE bQ v aI P7 aJ GG q8 TV al1 H0 Tq rg gD
 cases jJ with
 |none=>
  refine X9 aB a cJ aI (de:=_) ⟨λ_=>rfl,λa=>(by cases a),λa=>⟨rfl,rfl⟩,λae a=>(by cases a)⟩ (λb ae h j ao=> ?_)
  have:=gD b h j ao
  cases b<;>exact this
 |some p=>
  refine X9 aB a cJ aI (de:=(⟨P7,aJ,GG,q8,TV,al1, .panicking [⟨p,true⟩],H0,Tq⟩:gN)::rg) ⟨λ_=>rfl,λa=>(by cases a),λa=>(by cases a),λae a=> ?_⟩ (λb ae h j ao=> ?_)
  ·simp only[Zf]at a
   subst a
   exact⟨rfl,rfl⟩
  ·have:=gD b h j ao
   cases b<;>exact this
def ak9{C:a2}{bt:World}{dW:da}{ec:Nat->Prop}(cJ:Env C bt dW ec){f:Nat}{args:List J}{v:J}(aI:J.same 30 v v=true)(ha:eA ec args)
 (a:uo C f args .nil C.ba (λae _ _=>ae=v) (λ_ _ _=>False)):Calls C.P f (b2 dW args).toArray bt λI bZ=>(∃S,I= .returned (aS S v))/\Below bt.heap.size bt bZ:=by
 intro rg
 have bX:Ends C bt f rg v (lone (Frame.enter C.P f (b2 dW args).toArray .normal) rg bt):=
  LD WI cJ.base (Below.refl _ _) cJ.h0 (Zl _) .nil (λ_=>rfl) ha
   (a bt dW ec cJ f rg v aI [] (λae U ar I=>by subst I;rfl) (λae U ar I=>I.elim))
 obtain⟨S,bZ,fr,bH,cP,fH,jR⟩:=bX
 exact⟨.returned (aS S v),bZ,fr,⟨⟨S,rfl⟩,jR⟩,bH,fH,cP⟩
end
end Go.bk

