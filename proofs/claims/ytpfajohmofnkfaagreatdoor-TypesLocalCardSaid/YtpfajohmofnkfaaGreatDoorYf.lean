/- A part of the last text's proof; no condition of its own -/
import Derived.Test.YtpfajohmofnkfaaGreatDoorYe
set_option maxHeartbeats 8000000
set_option linter.all false
namespace Go.bi
noncomputable section
open Go.RowKit (Below)
def xg(cd:Nat)(Y:Nat->List F->Option F)(f:Nat)(args:List F):Option F:=
 bP (Nat.beq f cd) (match args with
  |[.str s]=>bP (xL s&&Nat.ble s.length 281474976710656) (some (.str s)) none
  |_=>none) (Y f args)
section
variable{P:Program}{w:World}
def adK{cd f:Nat}{Y:Nat->List F->Option F}{args:List F}{v:F}(a:xg cd Y f args=some v):
 (f=cd/\∃s,args=[.str s]/\v= .str s/\(∀x∈s,x<256)/\s.length<=281474976710656)\/Y f args=some v:=by
 unfold xg at a
 rw[hD]at a
 split at a
 ·rename_i J
  split at a
  ·rename_i s
   simp only[e0,Zp,Zf]at a
   exact .inl ⟨J,s,rfl,a.2.symm,OW a.1.1,jf a.1.2⟩
  ·simp at a
 ·exact .inr a
def Env.as9{nm:List (String×Nat)}(iv:Ae P nm){laid:List (String×DataW Unit)}{Y:Nat->List F->Option F}{cd:Nat}{fn:Func}{c:Code}(ch:P.funcs[cd]? =some fn)(aL:(fn.name== "runtime.NumGoroutine")=false)(aj:fn.body=some c)
 (aoa:∀(s:ByteArray) (w:World),s.size<=281474976710656->Calls P cd #[.string s] w λJ bW=>J= .returned (.string s)/\Below w.heap.size w bW)(a:laidMet P laid w){dR:c6}{d3:Nat->Prop}
 (cG:Env ⟨P,m1 (g1 P nm laid P.globals.size).2 .nil,(g1 P nm laid P.globals.size).1,Y,P.globals.size⟩ w dR d3):
 ∃R af,Env ⟨P,m1 (g1 P nm laid P.globals.size).2 .nil,(g1 P nm laid P.globals.size).1,xg cd Y,P.globals.size⟩ w R af:=by
 obtain⟨R,af,ar,aK⟩:=Sm (hc:=xg cd Y) iv a
 refine⟨R,af,cG.j5,⟨λf args v bl=> ?_,λf args v bl R pe nh=> ?_⟩,ar,aK⟩
 ·rcases adK bl with ⟨rfl,s,rfl,rfl,aD,_⟩|bl
  ·exact⟨⟨λ_ _=>rfl,λ_=>aD⟩,λ_ _=>rfl,λ_=>⟨aD,trivial⟩⟩
  ·exact cG.hc.val f args v bl
 ·rcases adK bl with ⟨rfl,s,rfl,rfl,aD,aC⟩|bl
  ·right
   have Mq:¬fn.name= "runtime.NumGoroutine":=by simpa using aL
   refine⟨by simp[callFunc,ch,Mq,aj], ?_⟩
   have:=aoa (fX s) pe (by simpa[fX,ByteArray.size]using aC)
   exact this
  ·exact cG.hc.ok f args v bl R pe nh
end
end
end Go.bi

namespace Go.bi
noncomputable section
open Go.RowKit (Below)
def aeA(C:aZ):List (Nat×an)->V an->V an
 |[],M=>M
 |(b,Y)::l,M=>aeA C l (bn C M b (some Y))
def pick(C:aZ)(h:V an):List Nat->List (Nat×an)
 |[]=>[]
 |b::l=>match ab C h b with|some Y=>(b,Y)::pick C h l|none=>pick C h l
def Xs(C:aZ):List Nat->Bool
 |[]=>true
 |b::l=>jV C b&&Xs C l
def asQ(C:aZ)(L:List Nat)(h:V an):V an:=aeA C (pick C h L) .nil
def avr(todo:List dV):Bool:=match todo with| .drawn .. ::_=>false|_=>true
def adA:List gH->Bool
 |[]=>true
 |c::l=>(match c with|⟨_,_,_,_,todo,_,_,_,_⟩=>(match todo with| .y4 .. ::_=>false|_=>true))&&adA l
def Lm(C:aZ)(L:List Nat)(b:hp):hp:=λbN todo cd M h j=>match cd with
 |⟨fn,n,av,bd,aG,ro,cs⟩=>bP (avr todo&&adA cs&&Xs C L) (b bN todo ⟨fn,n,av,bd,aG,ro,cs⟩ M (asQ C L h) j) none
section
variable{C:aZ}{R dR:c6}{af d3:Nat->Prop}{h T:V an}{j bj:Nat}{w:World}
variable{br:World}{bz:Nat}{bO:List Frame}{v:F}{b:hp}
def nB(C:aZ)(br:World)(bz:Nat)(bO:List Frame)(bN:kD)(todo:List dV)(cd:h9)(M:V F)(h:V an)(j:Nat)(v:F):Prop:=
 ∀R af w de tmps bv aq,B0 C br bz bO bN todo cd.fn cd.n cd.av cd.bd cd.aG cd.ro cd.cs M h j R af w de tmps bv aq->Ends C br bz bO v (lone (cr R cd.fn cd.bd cd.aG cd.ro tmps bv (gJ R bN)) aq w)
open Classical in
def only(yL:kD)(TI:List dV)(kF:h9)(qO:V F)(a2:V an)(DC:Nat)(v:F):hp:=λbN todo cd M h j=>
 if bN=yL/\todo=TI/\cd=kF/\M=qO/\h=a2/\j=DC then some v else none
end
end
end Go.bi

namespace Go.bi
noncomputable section
open Go.RowKit (Below)
def low(af:Nat->Prop)(N:Nat)(b:Nat):Prop:=af b/\b<N
section
variable{af:Nat->Prop}{N:Nat}
end
end
end Go.bi

namespace Go.bi
noncomputable section
open Go.RowKit (Below)
section
variable{C:aZ}{R dR:c6}{af d3:Nat->Prop}{h T:V an}{j bj N:Nat}{w:World}
variable{br:World}{bz g:Nat}{bO:List Frame}{v:F}{b:hp}
open Classical in
def fO(C:aZ)(br:World)(bz:Nat)(bO:List Frame)(v:F):hp:=λbN todo cd M h j=>if nB C br bz bO bN todo cd M h j v then some v else none
def Wq:m6 C br bz bO (fO C br bz bO v):=by
 intro bN todo fn n av bd aG ro cs M h j ae be R af w de tmps bv aq di
 unfold fO at be
 split at be
 ·rename_i a
  simp at be;subst be
  exact a R af w de tmps bv aq di
 ·cases be
def hZ{bN:kD}{todo:List dV}{cd:h9}{M:V F}(a:nB C br bz bO bN todo cd M h j v):fO C br bz bO v bN todo cd M h j=some v:=by
 unfold fO
 rw[Zq a]
def amS{eI:dV}{B:List dV}{cd:h9}{M:V F}(aD:F.same 30 v v=true):∀l:List (F×V an),l≠[]->(∀ae T,(ae,T)∈l->∃hv,oC eI ae=some hv/\nB C br bz bO .run (hv::B) cd M T j v)->
 x7 (fO C br bz bO v) eI B cd M j l=some v:=by
 intro l
 induction l with
 |nil=>intro a;exact absurd rfl a
 |cons p l mS=>
  obtain⟨ae,T⟩:=p
  intro _ kO
  obtain⟨hv,Q,U⟩:=kO ae T (Zu ..)
  cases l with
  |nil=>simp only[x7,Q];exact hZ U
  |cons am l=>
   have ak:=mS Zs (λae T a=>kO ae T (Zr _ a))
   simp only[x7,Q,hZ U]
   rw[ak]
   simp only[aD,eP]
end
end
end Go.bi

namespace Go.bi
noncomputable section
open Go.RowKit (Below)
abbrev bI:=F->V an->Nat->Prop
structure dS where
 g:Nat->Option F
 bd:List hA:=[]
 rc:Bool:=false
instance:CoeFun dS (λ_=>Nat->Option F):=⟨dS.g⟩
def ac(M:dS)(d:Nat)(v:F):dS:=⟨λn=>bP (Nat.beq d n) (some v) (M.g n),M.bd,M.rc⟩
def hE(l:List Nat)(M:dS):dS:=⟨λn=>bP (oa n l) none (M.g n),M.bd,M.rc⟩
def yR(M:dS)(d:hA):dS:=⟨M.g,d::M.bd,M.rc⟩
def NT(M:dS):dS:=⟨M.g,M.bd,true⟩
abbrev gs:=dS->V an->Nat->Prop
abbrev rH:=dS->bI
structure tQ where
 rd:Bool
 bd:Bool
 jB:Option (Option F)
def al{α:Type}(Y:Option α)(ai:α->Prop):Prop:=Option.rec (motive:=λ_=>Prop) False (λK=>ai K) Y
def au0{α:Type}{Y:Option α}{ai:α->Prop}{K:α}(a:Y=some K)(B:ai K):al Y ai:=by subst a;exact B
def su{α:Type}{Y:Option α}{ai:α->Prop}:al Y ai↔∃K,Y=some K/\ai K:=by
 cases Y with
 |none=>simp[al]
 |some K=>simp[al]
structure E{α:Type}(Y:Option α)(ai:α->Prop):Prop where
 out:al Y ai
def au1{α:Type}(Y:Option α)(ai:α->Prop):E Y ai=al Y ai:=propext ⟨λa=>a.out,λa=>⟨a⟩⟩
def fF{α:Type}{Y:Option α}{ai:α->Prop}{K:α}(a:Y=some K)(B:ai K):E Y ai:=⟨au0 a B⟩
def kx{α:Type}{Y:Option α}{ai:α->Prop}:E Y ai↔∃K,Y=some K/\ai K:=by rw[au1];exact su
def akM(v:F)(K b:Prop):Prop:=F.rec (motive_1:=λ_=>Prop) (motive_2:=λ_=>Prop)
 (λt=>(t=true->K)/\(t=false->b)) (λ_ _=>False) (λ_=>False) (λ_ _=>False) False (λ_ _ _ _=>False) (λ_ _ _ _=>False) False (λ_=>False) False
 (λ_ _ _ _ _=>False) False (λ_ _ _=>False) False (λ_ _=>False) (λ_ _=>False) False (λ_ _ _ _=>False) v
structure a7(v:F)(K b:Prop):Prop where
 out:akM v K b
def WO{v:F}{K b:Prop}(a:a7 v K b):∃t,v= .bool t/\(t=true->K)/\(t=false->b):=by
 have a:=a.out
 cases v with
 |bool t=>exact⟨t,rfl,a⟩
 |_=>exact a.elim
def anR(lk:Bool)(v:F)(K b:Prop):Prop:=F.rec (motive_1:=λ_=>Prop) (motive_2:=λ_=>Prop)
 (λt=>(t=lk->K)/\(t=(!lk)->b)) (λ_ _=>b) (λ_=>b) (λ_ _=>b) b (λ_ _ _ _=>b) (λ_ _ _ _=>b) b (λ_=>b) b
 (λ_ _ _ _ _=>b) b (λ_ _ _=>b) b (λ_ _=>b) (λ_ _=>b) b (λ_ _ _ _=>b) v
structure it(lk:Bool)(v:F)(K b:Prop):Prop where
 out:anR lk v K b
structure oS(d0:bI)(body:bI->Prop):Prop where
 out:body d0
def asz(d0:bI)(body:bI->Prop):oS d0 body=body d0:=propext ⟨λa=>a.out,λa=>⟨a⟩⟩
structure aY(d0:gs)(body:gs->Prop):Prop where
 out:body d0
structure dd(d0:F->Prop)(body:(F->Prop)->Prop):Prop where
 out:body d0
structure uX(d0:F->V an->Prop)(body:(F->V an->Prop)->Prop):Prop where
 out:body d0
def asx(d0:F->V an->Prop)(body:(F->V an->Prop)->Prop):uX d0 body=body d0:=propext ⟨λa=>a.out,λa=>⟨a⟩⟩
structure R5(d0:Prop)(body:Prop->Prop):Prop where
 out:body d0
def asy(d0:Prop)(body:Prop->Prop):R5 d0 body=body d0:=propext ⟨λa=>a.out,λa=>⟨a⟩⟩
def j3{d0:gs}{body:gs->Prop}(rE:gs)(Q:∀aa:gs,(∀M h j,rE M h j->aa M h j)->body aa)(U:∀M h j,rE M h j->d0 M h j):aY d0 body:=⟨Q d0 U⟩
structure eV(n:Nat)(ai:Nat->Prop):Prop where
 out:ai n
structure cQ(C:aZ)(h:V an)(j:Nat)(v:F)(cT:an)(ai:bI):Prop where
 out:ai v (bn C h j (some cT)) (j+1)
structure kU(C:aZ)(h:V an)(b:Nat)(v:F)(cT:an)(ai:F->V an->Prop):Prop where
 out:ai v (bn C h b (some cT))
structure xP(C:aZ)(h:V an)(b:Nat)(K:F)(ai:F->V an->Prop):Prop where
 out:ai (.ptr b 0) (bn C h b (some (.cells (V.ofList K.cells 0 .nil) K.cells.length .own)))
structure ip(C:aZ)(h:V an)(j:Nat)(K:F)(ai:bI):Prop where
 out:ai (.ptr j 0) (bn C h j (some (.cells (V.ofList K.cells 0 .nil) K.cells.length .own))) (j+1)
section
variable(C:aZ)(br:World)(bz:Nat)(bO:List Frame)(v:F)
def Om(cs:List gH):bI:=λae h j=>sR (fO C br bz bO v) false cs ae h j=some v
def Kt(cs:List gH):bI:=λae h j=>match cs with
 |c::rest=>aej (fO C br bz bO v) c rest [⟨ae,false⟩] h j=some v
 |[]=>False
end
def tO(C:aZ)(f:Nat)(args:List F)(h:V an)(j:Nat)(bu eo:bI):Prop:=
 ∀(br:World) (dR:c6) (d3:Nat->Prop) (_:Env C br dR d3) (bz:Nat) (bO:List Frame) (v:F) (_:F.same 30 v v=true) (cs:List gH),
  (∀ae T au,bu ae T au->Om C br bz bO v cs ae T au)->(∀ae T au,eo ae T au->Kt C br bz bO v cs ae T au)->
  nM (fO C br bz bO v) C f args false cs h j=some v
def tO.mono{C:aZ}{f:Nat}{args:List F}{h:V an}{j:Nat}{bu eo qM G3:bI}(a:tO C f args h j bu eo)(fZ:∀ae h j,bu ae h j->qM ae h j)(iI:∀ae h j,eo ae h j->G3 ae h j):
 tO C f args h j qM G3:=
 λbr dR d3 cG bz bO v aD cs Q U=>a br dR d3 cG bz bO v aD cs (λae h j am=>Q ae h j (fZ ae h j am)) (λae h j am=>U ae h j (iI ae h j am))
def NM(ak:hp)(C:aZ)(l:Nat)(args:List F)(cs:List gH)(h:V an)(j:Nat):d5:=match ab C h l with
 |some (.loop _ _ fn n av cZ params assign body _)=>(match xp n params args cZ with
  |some cZ=>ak .run [.code assign, .beginRound, .code body] ⟨fn,n,av,[],false,some l,cs⟩ cZ h j
  |none=>none)
 |_=>none
def Ai(C:aZ)(l:Nat)(args:List F)(h:V an)(j:Nat)(bu eo:bI):Prop:=
 ∀(br:World) (dR:c6) (d3:Nat->Prop) (_:Env C br dR d3) (bz:Nat) (bO:List Frame) (v:F) (_:F.same 30 v v=true) (cs:List gH),
  (∀ae T au,bu ae T au->Om C br bz bO v cs ae T au)->(∀ae T au,eo ae T au->Kt C br bz bO v cs ae T au)->
  NM (fO C br bz bO v) C l args cs h j=some v
def Ai.mono{C:aZ}{l:Nat}{args:List F}{h:V an}{j:Nat}{bu eo qM G3:bI}(a:Ai C l args h j bu eo)(fZ:∀ae h j,bu ae h j->qM ae h j)(iI:∀ae h j,eo ae h j->G3 ae h j):
 Ai C l args h j qM G3:=
 λbr dR d3 cG bz bO v aD cs Q U=>a br dR d3 cG bz bO v aD cs (λae h j am=>Q ae h j (fZ ae h j am)) (λae h j am=>U ae h j (iI ae h j am))
def T0(C:aZ)(f:Nat)(args:List F)(jB:Option F)(h:V an)(j:Nat)(bu:Bool->V an->Nat->Prop):Prop:=
 ∀(br:World) (dR:c6) (d3:Nat->Prop) (_:Env C br dR d3) (bz:Nat) (bO:List Frame) (v:F) (_:F.same 30 v v=true) (fn n av:Nat) (M:V F) (todo:List dV) (ds:List hA) (aG:Bool) (ro:Option Nat) (cs:List gH),
  (∀b T au,bu b T au->fO C br bz bO v (match jB,b with|none,_=> .returning|some _,true=> .returning|some ae,false=> .panicking [⟨ae,false⟩]) todo ⟨fn,n,av,ds,aG,ro,cs⟩ M T au=some v)->
  nM (fO C br bz bO v) C f args true (⟨fn,n,av,M,todo,ds,(match jB with|none=> .returning|some ae=> .panicking [⟨ae,false⟩]),aG,ro⟩::cs) h j=some v
structure aW(C:aZ)(f:Nat)(args:List F)(h:V an)(j:Nat)(ai ay:bI):Prop where
 out:(∃ae,C.hc f args=some ae/\ai ae h j)\/(C.hc f args=none/\(∃fn c,C.P.funcs[f]? =some fn/\fn.body=some c)/\tO C f args h j ai ay)
structure gw(Y:Option d4)(h:V an)(j:Nat)(ai:bI):Prop where
 out:match Y with
 |some (.val v)=>ai v h j
 |some (.fh v T au)=>ai v T au
 |_=>False
def av3(Y:Option d4)(h:V an)(j:Nat)(ai:bI):gw Y h j ai=(match Y with
 |some (.val v)=>ai v h j
 |some (.fh v T au)=>ai v T au
 |_=>False):=propext ⟨λa=>a.out,λa=>⟨a⟩⟩
def Ta{Y:Option d4}{h:V an}{j:Nat}{ai:bI}{v:F}(a:Y=some (.val v))(B:ai v h j):gw Y h j ai:=by subst a;exact⟨B⟩
def ki{Y:Option d4}{h T:V an}{j au:Nat}{ai:bI}{v:F}(a:Y=some (.fh v T au))(B:ai v T au):gw Y h j ai:=by subst a;exact⟨B⟩
structure ET(Y:Option d4)(h:V an)(j:Nat)(ai:bI):Prop where
 out:match Y with
 |some (.val v)=>ai v h j
 |some (.fh v T au)=>ai v T au
 |some (.fork l)=>l≠[]/\∀ae T,(ae,T)∈l->ai ae T j
 |_=>False
def amU(Y:Option d4)(h:V an)(j:Nat)(ai:bI):ET Y h j ai=(match Y with
 |some (.val v)=>ai v h j
 |some (.fh v T au)=>ai v T au
 |some (.fork l)=>l≠[]/\∀ae T,(ae,T)∈l->ai ae T j
 |_=>False):=propext ⟨λa=>a.out,λa=>⟨a⟩⟩
def B8(C:aZ)(rd:Bool)(Y:Option d4)(h:V an)(j:Nat)(ai ay:bI):Prop:=match Y with
 |some (.val v)=>ai v h j
 |some (.fh v T au)=>ai v T au
 |some (.enter f args)=>tO C f args h j ai ay
 |some (.round l args)=>Ai C l args h j ai ay
 |some (.known _ _ v)=>ai v h j
 |some (.panic v)=>bP rd False (ay v h j)
 |some (.fork l)=>l≠[]/\∀ae T,(ae,T)∈l->ai ae T j
 |_=>False
def ju(x:ka)(aw:List (Nat×F))(M:dS)(ai:F->Prop):Prop:=
 ka.rec (motive:=λ_=>Prop) (λaa=>al (ep aw aa) ai) (λn=>al (M n) ai) (λK=>ai K) x
def K9(aw:List (Nat×F))(M:dS)(l:List ka):(List F->Prop)->Prop:=
 List.rec (motive:=λ_=>(List F->Prop)->Prop) (λai=>ai []) (λx _ ak ai=>ju x aw M λK=>ak λr=>ai (K::r)) l
def eL(b3:List (Nat×Nat))(aw:List (Nat×F))(M:dS)(Y:Operand)(ai:F->Prop):Prop:=match Y with
 | .tmp t=>(match ep b3 t with|some aa=>al (ep aw aa) ai|none=>al (M t) ai)
 | .const v=>al (DD v) ai
 | .global g=>ai (.ptr g 0)
 | .func f=>ai (.func (.func f) [] [])
def ss(b3:List (Nat×Nat))(aw:List (Nat×F))(M:dS)(l:List Operand):(List F->Prop)->Prop:=
 List.rec (motive:=λ_=>(List F->Prop)->Prop) (λai=>ai []) (λx _ ak ai=>eL b3 aw M x λK=>ak λr=>ai (K::r)) l
def BC(b3:List (Nat×Nat))(aw:List (Nat×F))(M:dS)(l:List (Nat×Operand)):(List (Nat×F)->Prop)->Prop:=
 List.rec (motive:=λ_=>(List (Nat×F)->Prop)->Prop) (λai=>ai []) (λx _ ak ai=>eL b3 aw M x.2 λK=>ak λr=>ai ((x.1,K)::r)) l
def Nv(b3:List (Nat×Nat))(aw:List (Nat×F))(M:dS)(Y:Option Operand)(ai:Option F->Prop):Prop:=match Y with
 |none=>ai none
 |some x=>eL b3 aw M x λK=>ai (some K)
def kf:Operand:= .global 0
def gN:Operand:= .global 1
def my:Operand:= .global 2
def kg(K:F):Operand->Option F:=λ_=>some K
def two(K b:F):Operand->Option F:=λY=>match Y with| .global 0=>some K|_=>some b
def aeX(K b c:F):Operand->Option F:=λY=>match Y with| .global 0=>some K| .global 1=>some b|_=>some c
def FQ(n a1:Nat)(K i:F):Option F:=match mU i with|some i=>Kj n a1 K i|none=>none
def dW(a1:Nat)(K i:F):Option F:=match mU i with|some i=>BP a1 K i|none=>none
def XL(C:aZ)(t f:Nat)(K:F):Option F:=Jj C t kf f .nil (kg K)
def W5(C:aZ)(h:V an)(s d:Nat)(K:F):Option F:=Ji C s d kf h (kg K)
def act(C:aZ)(t:Nat)(K:F):Option F:=Jk C t kf .nil (kg K)
def Wz(C:aZ)(t:Nat)(ok:Bool)(K:F):Option F:=Jh C kf t ok .nil (kg K)
def Xw(C:aZ)(h:V an)(K:F):Option F:=Sg C kf h (kg K)
def rN(C:aZ)(h:V an)(b:Builtin)(dg:List TypeId)(bo:List F):Option F:=match b,bo with
 | .len,[x]=>(match dg with|t::_=>KC C h t x|_=>none)
 | .cap,[x]=>(match dg with|t::_=>Kz C t x|_=>none)
 | .max,x::l=>ov true x l
 | .min,x::l=>ov false x l
 |_,_=>none
def ce(C:aZ)(h:V an)(s:Nat)(K v:F):Option (V an):=match K with
 | .ptr b Y=>bP (Nat.beq v.cells.length s&&Nat.blt 0 s) (tU C h b Y v.cells) none
 |_=>none
def Fc(C:aZ)(h:V an)(j:Nat)(b:Builtin)(dg:List TypeId)(bo:List F):Option d4:=match b,bo with
 | .append,[s,x]=>(match dg with
   |st::ij::_=>(match C.P.underlying ij with
    |some (.int _)=>(match mU x with|some n=>KA C h j st s n|none=>none)
    |some (.slice _)=>Em C h j st s x
    |some .string=>Em C h j st s x
    |_=>none)
   |_=>none)
 |_,_=>none
structure jn(C:aZ)(mh:F)(ct:List F)(h:V an)(j:Nat)(ai ay:bI):Prop where
 out:match mh with
 | .func fn first fH=>(match fn with| .func f=>aW C f ((first++ct)++fH) h j ai ay| .yield l=>Ai C l (first++ct) h j ai ay|_=>False)
 |_=>False
def NW(C:aZ)(t len:Nat)(dq:List (Nat×F))(b:Nat):Option (F×an):=match C.P.underlying t with
 |some (.slice ee)=>(match jb C ee,sL C ee with
  |some s,some bt=>bP (Nat.ble (len*s) 16777216&&Nat.beq bt.cells.length s) ((match AA (λi=>some (i*s,s)) (kz len bt.cells) dq with
    |some cs=>some (F.slice b 0 len len,an.cells (V.ofList cs 0 .nil) cs.length .own)
    |none=>none))<|none
  |_,_=>none)
 |_=>none
structure vn(ay:bI)(K:F)(h:V an)(j:Nat):Prop where
 out:match K with| .iface t v=>ay (.iface t v) h j|_=>False
def avc(ay:bI)(K:F)(h:V an)(j:Nat):vn ay K h j=(match K with| .iface t v=>ay (.iface t v) h j|_=>False):=propext ⟨λa=>a.out,λa=>⟨a⟩⟩
structure adj(C:aZ)(rd:Bool)(lL:F)(name:String)(ct:List F)(h:V an)(j:Nat)(ai ay:bI):Prop where
 out:match lL with
 | .iface t v=>B8 C rd (En C h t v name ct) h j ai ay
 |_=>False
def atY(C:aZ)(rd:Bool)(lL:F)(name:String)(ct:List F)(h:V an)(j:Nat)(ai ay:bI):adj C rd lL name ct h j ai ay=(match lL with
 | .iface t v=>B8 C rd (En C h t v name ct) h j ai ay
 |_=>False):=propext ⟨λa=>a.out,λa=>⟨a⟩⟩
def ac1(b3:List (Nat×Nat))(Y:Op):aZ->V an->List (Nat×F)->dS->(F->Prop)->Prop:=match Y with
 | .build t jP=>λC _ aw M ai=>BC b3 aw M jP.toList λdq=>E (Ky C t dq) ai
 | .binOp op t x e _=>λC h aw M ai=>eL b3 aw M x λK=>eL b3 aw M e λb=>E (dn C h op t (qt x||qt e) K b) ai
 | .unOp op _ x=>λ_ _ aw M ai=>eL b3 aw M x λK=>E (fG op K) ai
 | .convert s d x=>λC h aw M ai=>eL b3 aw M x λK=>E (W5 C h s d K) ai
 | .makeInterface t x=>λC _ aw M ai=>eL b3 aw M x λK=>E (act C t K) ai
 | .makeFunc fn first fH=>λ_ _ aw M ai=>(match fn with
   | .func f=>ss b3 aw M first.toList λK=>ss b3 aw M fH.toList λb=>ai (.func (.func f) K b)
   |_=>False)
 | .slice t x bS aJ hb=>λC h aw M ai=>eL b3 aw M x λK=>Nv b3 aw M bS λl=>Nv b3 aw M aJ λa=>Nv b3 aw M hb λm=>E (KE C h t K l a m) ai
 | .field t x f=>λC _ aw M ai=>eL b3 aw M x λK=>E (XL C t f K) ai
 | .index t x i=>λC _ aw M ai=>eL b3 aw M x λK=>eL b3 aw M i λb=>E (KB C t K b) ai
 | .lookup t m B ok=>λC h aw M ai=>eL b3 aw M m λK=>eL b3 aw M B λb=>E (KD C h t K b ok) ai
 | .typeAssert x _ t ok=>λC _ aw M ai=>eL b3 aw M x λK=>E (Wz C t ok K) ai
 | .entry eI=>λC h aw M ai=>eL b3 aw M eI λK=>E (Xw C h K) ai
 | .call c=>λC h aw M ai=>(match c with
   |⟨.builtin b,args,dg⟩=>ss b3 aw M args.toList λbo=>E (rN C h b dg.toList bo) ai
   |_=>False)
 |_=>λ_ _ _ _ _=>False
def F3(op:jC):aZ->V an->List (Nat×F)->dS->(F->Prop)->Prop:=match op with
 | .Ds x=>λ_ _ aw M ai=>ju x aw M ai
 | .pick c K b=>λ_ _ aw M ai=>ju c aw M λc=>dd ai λai=>a7 c (ju K aw M ai) (ju b aw M ai)
 | .fT K=>λC h aw M ai=>ju K aw M λK=>E (ao C h K) ai
 | .Bi n K=>λC h aw M ai=>ju K aw M λK=>E (cg C h n K) ai
 | .off d x=>λ_ _ aw M ai=>ju x aw M λK=>E (ba d K) ai
 | .Bb n a1 x i=>λ_ _ aw M ai=>ju x aw M λK=>ju i aw M λi=>E (FQ n a1 K i) ai
 | .Bc a1 x i=>λ_ _ aw M ai=>ju x aw M λK=>ju i aw M λi=>E (dW a1 K i) ai
 | .Dz x=>λ_ _ aw M ai=>ju x aw M λK=>E (cm K) ai
 | .I4 op x e=>λ_ _ aw M ai=>ju x aw M λK=>ju e aw M λb=>E (aF op K b) ai
 | .ext i x=>λ_ _ aw M ai=>ju x aw M λK=>E (cM i K) ai
 | .hV b3 Y=>ac1 b3 Y
 |_=>λ_ _ _ _ _=>False
def adc(op:jC):aZ->V an->Nat->List (Nat×F)->dS->bI->Prop:=match op with
 | .make b3 Y=>(match Y with
   | .alloc t=>λC h b _ _ ai=>E (Dp C t (kg undef) b) λr=>cQ C h b r.1 r.2 ai
   | .box _ x=>λC h b aw M ai=>eL b3 aw M x λK=>ip C h b K ai
   | .buildSlice t len jP=>λC h b aw M ai=>BC b3 aw M jP.toList λdq=>E (NW C t len dq b) λr=>cQ C h b r.1 r.2 ai
   | .makeMap _ none=>λC h b _ _ ai=>cQ C h b (.map b) (.map [] 0) ai
   |_=>λ_ _ _ _ _ _=>False)
 |_=>λ_ _ _ _ _ _=>False
def SG(op:jC):aZ->V an->Nat->List (Nat×F)->dS->(F->V an->Prop)->Prop:=match op with
 | .make b3 Y=>(match Y with
   | .alloc t=>λC h b _ _ ai=>E (Dp C t (kg undef) b) λr=>kU C h b r.1 r.2 ai
   | .box _ x=>λC h b aw M ai=>eL b3 aw M x λK=>xP C h b K ai
   | .buildSlice t len jP=>λC h b aw M ai=>BC b3 aw M jP.toList λdq=>E (NW C t len dq b) λr=>kU C h b r.1 r.2 ai
   | .makeMap _ none=>λC h b _ _ ai=>kU C h b (.map b) (.map [] 0) ai
   |_=>λ_ _ _ _ _ _=>False)
 |_=>λ_ _ _ _ _ _=>False
def Q3(rd:Bool)(op:jC):aZ->V an->Nat->List (Nat×F)->dS->bI->bI->Prop:=match op with
 | .st n K v=>λC h j aw M ai _=>ju K aw M λK=>ju v aw M λv=>E (ce C h n K v) λh=>ai undef h j
 | .call f args=>λC h j aw M ai ay=>K9 aw M args λct=>aW C f ct h j ai ay
 | .ff b3 Y=>(match Y with
   | .mapUpdate t m B x=>λC h j aw M ai _=>eL b3 aw M m λK=>eL b3 aw M B λb=>eL b3 aw M x λc=>gw (Hb C h j t K b c) h j ai
   | .insert t m B x=>λC h j aw M ai _=>eL b3 aw M m λK=>eL b3 aw M B λb=>eL b3 aw M x λc=>gw (Hb C h j t K b c) h j ai
   | .mapEntry t m B=>λC h j aw M ai _=>eL b3 aw M m λK=>eL b3 aw M B λb=>gw (Ia C t kf gN h j (two K b)) h j ai
   | .entryStore _ m s x=>λC h j aw M ai _=>eL b3 aw M m λK=>eL b3 aw M s λb=>eL b3 aw M x λc=>gw (H2 C kf gN my h j (aeX K b c)) h j ai
   | .makeSlice t l c=>λC h j aw M ai _=>eL b3 aw M l λK=>eL b3 aw M c λb=>gw (H9 C t kf gN h j (two K b)) h j ai
   | .makeMap t (some r)=>λC h j aw M ai _=>eL b3 aw M r λK=>gw (H8 C t kf h j (kg K)) h j ai
   | .convert s d x=>λC h j aw M ai _=>eL b3 aw M x λK=>gw (Ig C s d kf h j (kg K)) h j ai
   | .range t x=>λC h j aw M ai _=>eL b3 aw M x λK=>gw (Ic C t kf h j (kg K)) h j ai
   | .next eI yI=>λC h j aw M ai _=>eL b3 aw M eI λK=>ET (wB C kf yI h j (kg K)) h j ai
   | .panic x=>λ_ h j aw M _ ay=>bP rd False (eL b3 aw M x λK=>vn ay K h j)
   | .call c=>λC h j aw M ai ay=>(match c with
     |⟨.value f,args,_⟩=>eL b3 aw M f λmh=>ss b3 aw M args.toList λct=>jn C mh ct h j ai ay
     |⟨.builtin b,args,dg⟩=>ss b3 aw M args.toList λbo=>gw (Fc C h j b dg.toList bo) h j ai
     |⟨.invoke r name,args,_⟩=>eL b3 aw M r λlL=>ss b3 aw M args.toList λct=>adj C rd lL name ct h j ai ay)
   |_=>λ_ _ _ _ _ _ _=>False)
 |_=>λ_ _ _ _ _ _ _=>False
def SU(rd:Bool)(op:jC)(C:aZ)(h:V an)(j:Nat)(aw:List (Nat×F))(M:dS)(ai ay:bI):Prop:=match mu op with
 | .hV=>F3 op C h aw M λv=>ai v h j
 | .make=>adc op C h j aw M ai
 | .ff=>Q3 rd op C h j aw M ai ay
inductive Spec where
 |no
 |defer (b3:List (Nat×Nat)) (f:Operand) (args:List Operand)
 |recover
def DT(op:jC):Spec:=match op with
 | .ff b3 Y=>(match Y with
   | .defer c=>(match c with|⟨.value f,args,_⟩=> .defer b3 f args.toList|_=> .no)
   | .call c=>(match c with|⟨.builtin b,args,_⟩=>(match b,args.toList with| .recover,[]=> .recover|_,_=> .no)|_=> .no)
   |_=> .no)
 |_=> .no
def Hu(mh:F)(ct:List F)(M:dS)(ai:dS->Prop):Prop:=match mh with
 | .func fn first fH=>ai (yR M ⟨.fn fn fH,first++ct⟩)
 |_=>False
def Gy(jB:Option (Option F))(M:dS)(ai:F->dS->Prop):Prop:=match jB with
 |none=>False
 |some none=>ai .nilIface M
 |some (some ae)=>bP M.rc (ai .nilIface M) (ai ae (NT M))
def N9(g:Option (Nat×Bool))(aw:List (Nat×F))(K b:Prop):Prop:=match g with
 |none=>K
 |some (aa,lk)=>al (ep aw aa) λv=>it lk v K b
def Ob(g:Option (Nat×Bool))(aw:List (Nat×F))(o4:bI->Prop)(d0:bI)(h:V an)(j:Nat):Prop:=match g with
 |none=>o4 d0
 |some (aa,lk)=>oS d0 λai=>al (ep aw aa) λv=>it lk v (o4 ai) (ai undef h j)
def rt(g:Option (Nat×Bool))(aw:List (Nat×F))(o4:(F->V an->Prop)->Prop)(d0:F->V an->Prop)(h:V an):Prop:=match g with
 |none=>o4 d0
 |some (aa,lk)=>uX d0 λai=>al (ep aw aa) λv=>it lk v (o4 ai) (ai undef h)
def TR(g:Option (Nat×Bool))(aw:List (Nat×F))(o4:Prop->Prop)(d0:Prop):Prop:=match g with
 |none=>o4 d0
 |some (aa,lk)=>R5 d0 λai=>al (ep aw aa) λv=>it lk v (o4 ai) ai
def afk(g:Option (Nat×Bool))(aw:List (Nat×F))(o4:bI->Prop)(d0:bI)(h:V an)(j:Nat):Ob g aw o4 d0 h j=N9 g aw (o4 d0) (d0 undef h j):=by
 cases g with
 |none=>rfl
 |some p=>exact asz _ _
def ayu(g:Option (Nat×Bool))(aw:List (Nat×F))(o4:(F->V an->Prop)->Prop)(d0:F->V an->Prop)(h:V an):rt g aw o4 d0 h=N9 g aw (o4 d0) (d0 undef h):=by
 cases g with
 |none=>rfl
 |some p=>exact asx _ _
def ayv(g:Option (Nat×Bool))(aw:List (Nat×F))(o4:Prop->Prop)(d0:Prop):TR g aw o4 d0=N9 g aw (o4 d0) d0:=by
 cases g with
 |none=>rfl
 |some p=>exact asy _ _
def HL(l:List (Nat×Nat)):List (Nat×F)->dS->(dS->Prop)->Prop:=
 List.rec (motive:=λ_=>List (Nat×F)->dS->(dS->Prop)->Prop) (λ_ M ai=>ai M)
  (λp _ ak aw M ai=>al (ep aw p.1) λv=>ak aw (ac M p.2 v) ai) l
def BI(C:aZ)(bN:tQ)(fin:List (Nat×Nat))(ai:gs)(ay:rH)(rest:List fi):List (Nat×F)->dS->V an->Nat->Prop:=
 List.rec (motive:=λ_=>List (Nat×F)->dS->V an->Nat->Prop) (λaw M h j=>HL fin aw M λM=>ai M h j)
  (λx _ ak aw M h j=>match DT x.op with
   | .no=>Ob x.g aw (λai=>SU bN.rd x.op C h j aw M ai (ay M)) (λv h j=>ak ((x.i,v)::aw) M h j) h j
   | .defer b3 f args=>bP (x.g.isNone&&bN.bd) (eL b3 aw M f λmh=>ss b3 aw M args λct=>Hu mh ct M λM=>ak ((x.i,undef)::aw) M h j) False
   | .recover=>bP (x.g.isNone&& !bN.rd) (Gy bN.jB M λv M=>ak ((x.i,v)::aw) M h j) False) rest
def M8(C:aZ)(base:Nat)(M:dS)(l:List fi):List (Nat×F)->V an->(List (Nat×F)->V an->Prop)->Prop:=
 List.rec (motive:=λ_=>List (Nat×F)->V an->(List (Nat×F)->V an->Prop)->Prop) (λaw h ai=>ai aw h)
  (λx _ ak aw h ai=>rt x.g aw (λaa=>match mu x.op with
   | .make=>SG x.op C h (base+x.i) aw M aa
   |_=>F3 x.op C h aw M λv=>aa v h) (λv h=>ak ((x.i,v)::aw) h ai) h) l
structure gG(x:F)(Y:Option F)(ai:Prop):Prop where
 out:al Y λae=>F.same 30 x ae=true/\ai
def S7(C:aZ)(M:dS)(aw:List (Nat×F))(h:V an)(l:List fi):Prop->Prop:=
 List.rec (motive:=λ_=>Prop->Prop) (λai=>ai) (λx _ ak ai=>TR x.g aw (λam=>F3 x.op C h aw M λv=>gG v (ep aw x.i) am) (ak ai)) l
def Px(C:aZ)(rd:Bool)(base:Nat)(fin:List (Nat×Nat))(M:dS)(ai:gs)(ay:bI)(kY:List wa):List (Nat×F)->V an->Nat->Prop:=
 List.rec (motive:=λ_=>List (Nat×F)->V an->Nat->Prop) (λ_ _ _=>False)
  (λs _ ak aw h j=>M8 C base M s.tv aw h λaw h=>S7 C M aw h s.S6 (match s.ff with
   |none=>HL fin aw M λM=>ai M h j
   |some a=>Ob a.g aw (λai=>Q3 rd a.op C h j aw M ai ay) (λv h j=>ak ((a.i,v)::aw) h j) h j)) kY
structure fJ(body:gs->gs)(M:dS)(h:V an)(j:Nat):Prop where
 out:∃rE:Nat->gs,(∃m,rE m M h j)/\∀m M h j,rE m M h j->body (λM h j=>∃gm,gm<m/\rE gm M h j) M h j
def Co(id:Nat)(ai:gs)(J:Nat->gs):Nat->gs:=λtq=>bP (Nat.beq id tq) ai (J tq)
def PH(Y:Operand)(M:dS)(ai:F->Prop):Prop:=eL [] [] M Y ai
def avZ(C:aZ)(n av:Nat)(bN:tQ)(ay:rH)(ax:Array Oper)(Aw:Bool)(ai:gs):gs:=λM h j=>Bool.rec (motive:=λ_=>Prop)
 (al (Jv C n ax av) λr=>BI C bN r.fin ai (λM=>ay (hE (dstsOf ax.toList) M)) r.rest [] M h j)
 (al (Ju C n ax av) λr=>eV (j+ax.size) λau=>Px C bN.rd j r.fin M ai (ay (hE (dstsOf ax.toList) M)) r.kY [] h au) Aw
def GH(n:Nat):List Nat->List F->dS->(dS->Prop)->Prop
 |[],[],M,ai=>ai M
 |p::dq,K::ct,M,ai=>bP (Nat.blt p n) (GH n dq ct (ac M p K) ai) False
 |_,_,_,_=>False
structure akH(C:aZ)(l:Nat)(mk:LoopState->Option Code->an)(h:V an)(B:Prop):Prop where
 here:ab C h l=some (mk .ready none)
 go:B
structure K5(C:aZ)(l:Nat)(mk:LoopState->Option Code->an)(st:LoopState)(p:Option Code)(b:Bool)(ai:bI)(h:V an)(j:Nat):Prop where
 here:∃aeG Gs,ab C h l=some (mk aeG Gs)
 go:ai (.bool b) (bn C h l (some (mk st p))) j
abbrev Kq:=tQ->rH->gs->(Nat->gs)->gs->gs
def Bo:tQ:=⟨true,false,none⟩
def sz(C:aZ)(A bj:Kq)(l:Nat)(mk:LoopState->Option Code->an)(ai ay:bI):gs:=λM h j=>
 A Bo (λ_=>ay) (λM h j=>akH C l mk h (bj Bo (λ_=>ay) (λ_ h j=>K5 C l mk .ready none true ai h j) (λid _ h j=>K5 C l mk .done (some (.exit id)) false ai h j)
   (λ_ h j=>K5 C l mk .done (some .ret) false ai h j) M (bn C h l (some (mk .busy none))) j)) (λ_ _ _ _=>False) (λ_ _ _=>False) M h j
def adY(p:Option Code)(ai:gs)(J:Nat->gs)(r:gs):gs:=match p with
 |none=>ai
 |some c=>(match c with| .exit id=>J id| .ret=>r|_=>λ_ _ _=>False)
def vg(M:dS)(j:Nat):dS:=yR M ⟨.collected j,[]⟩
structure DL(C:aZ)(n:Nat)(mh:F)(params:List Nat)(eo:Nat->(LoopState->Option Code->an)->bI->bI->gs)(ai:gs)(J:Nat->gs)(r:gs)(ay:rH)(M:dS)(h:V an)(j:Nat):Prop where
 low:C.a8<=j
 out:match mh with
  | .func fn first fH=>(match fn with
    | .func g=>∀mk:LoopState->Option Code->an,
       (∀args T au y7 eA,ab C T (j+1)=some (mk .ready none)->GH n params args M (λqO=>eo (j+1) mk y7 eA qO T au)->Ai C (j+1) args T au y7 eA)->
       tO C g (first++[.func (.yield (j+1)) [] []]++fH) (bn C (bn C h j (some (.deferred (some [])))) (j+1) (some (mk .ready none))) (j+2)
        (λ_ T au=>∃st p,st≠ .busy/\ab C T (j+1)=some (mk st p)/\adY p ai J r (vg M j) (bn C T (j+1) (some (mk .exhausted p))) au)
        (ay (vg M j))
    |_=>False)
  |_=>False
def wi(C:aZ)(n av:Nat)(c:Code):Kq:=
 Code.rec (motive:=λ_=>Kq)
  (λ_ _ ai _ _=>ai)
  (λ_ ax d bN ay ai _ _=>avZ C n av bN ay ax d ai)
  (λ_ _ ms hu bN ay ai J r=>ms bN ay (hu bN ay ai J r) J r)
  (λc _ _ ms hu bN ay ai J r M h j=>PH c M λv=>aY ai λai=>a7 v (ms bN ay ai J r M h j) (hu bN ay ai J r M h j))
  (λid _ hu bN ay ai J r M h j=>aY ai λai=>hu bN ay ai (Co id ai J) r M h j)
  (λ_ hu bN ay _ J r=>fJ λOV=>hu bN ay OV J r)
  (λf params _ _ ms hu bN ay ai J r M h j=>bP bN.bd (PH f M λmh=>DL C n mh params.toList (sz C ms hu) ai J r ay M h j) False)
  (λid _ _ _ J _=>J id)
  (λ_ hu bN ay ai J r=>hu bN ay ai J r)
  (λ_ _ _ ai _ _=>ai)
  (λ_ _ _ _ _ _ _ _ _=>False)
  (λ_ _ _ _ r=>r)
  (λ_ _ _ _ _ _ _ _ _=>False) c
def qC(C:aZ)(h:V an)(M:dS)(l:List ResultVar):(List F->Prop)->Prop:=
 List.rec (motive:=λ_=>(List F->Prop)->Prop) (λai=>ai [])
  (λx _ ak ai=>ResultVar.rec (motive:=λ_=>Prop) (λt=>al (M t) λv=>ak λr=>ai (v::r)) (λK t=>al (M K) λp=>E (lp C h t p) λv=>ak λr=>ai (v::r)) x) l
def cS(l:List F):dS:=⟨λn=>rm l n,[],false⟩
structure s0(C:aZ)(fn:Fn)(ct:List F)(jB:Option F)(h:V an)(j:Nat)(bu:Bool->V an->Nat->Prop):Prop where
 out:match fn with
  | .func f=>C.hc f ct=none/\(∃fn c,C.P.funcs[f]? =some fn/\fn.body=some c)/\T0 C f ct jB h j bu
  |_=>False
structure No(C:aZ)(r:Nat)(h:V an)(B:Prop):Prop where
 low:C.a8<=r
 here:ab C h r=some (.deferred (some []))
 go:B
def mZ(C:aZ)(JV:List ResultVar)(bu:bI)(M:dS)(ds:List hA):V an->Nat->Prop:=
 List.rec (motive:=λ_=>V an->Nat->Prop) (λh j=>qC C h M JV λbo=>bu (one bo) h j)
  (λd _ ak h j=>match d.target with
   | .collected r=>No C r h (ak (bn C h r (some (.deferred none))) j)
   | .fn fn cap=>s0 C fn (d.args++cap) none h j λ_ h j=>ak h j) ds
def vm(C:aZ)(JV:List ResultVar)(bu eo:bI)(M:dS)(ae:F):List hA->V an->Nat->Prop
 |[],h,j=>eo ae h j
 |d::ds,h,j=>match d.target with
   | .collected r=>No C r h (vm C JV bu eo M ae ds (bn C h r (some (.deferred none))) j)
   | .fn fn cap=>s0 C fn (d.args++cap) (some ae) h j λb h j=>bP b (mZ C JV bu M ds h j) (vm C JV bu eo M ae ds h j)
def F9:tQ:=⟨false,false,none⟩
def yL:tQ:=⟨false,true,none⟩
def AB(C:aZ)(f:Nat)(args:List F)(h:V an)(j:Nat)(bu eo:bI):Prop:=match C.P.funcs[f]? with
 |some fn=>(match fn.body with
  |some c=>wi C fn.ntmps (Nat.lor (j4 c) (nv fn.results.toList)) c yL (λM ae h j=>vm C fn.results.toList bu eo M ae M.bd h j) (λM h j=>mZ C fn.results.toList bu M M.bd h j) (λ_ _ _ _=>False)
    (λM h j=>mZ C fn.results.toList bu M M.bd h j) (cS args) h j
  |none=>False)
 |none=>False
def x6(C:aZ)(f:Nat)(args:List F)(jB:Option F)(h:V an)(j:Nat)(bu:Bool->V an->Nat->Prop):Prop:=match C.P.funcs[f]? with
 |some fn=>(match fn.body with
  |some c=>wi C fn.ntmps (Nat.lor (j4 c) (nv fn.results.toList)) c ⟨false,false,some jB⟩ (λ_ _ _ _=>False) (λM h j=>qC C h M fn.results.toList λ_=>bu M.rc h j) (λ_ _ _ _=>False)
    (λM h j=>qC C h M fn.results.toList λ_=>bu M.rc h j) (cS args) h j
  |none=>False)
 |none=>False
def dh(C:aZ)(f:Nat)(args:List F)(h:V an)(j:Nat)(bu eo:bI):Prop:=match C.P.funcs[f]? with
 |some fn=>(match fn.body with
  |some c=>wi C fn.ntmps (Nat.lor (j4 c) (nv fn.results.toList)) c F9 (λ_=>eo) (λM h j=>qC C h M fn.results.toList λbo=>bu (one bo) h j) (λ_ _ _ _=>False)
    (λM h j=>qC C h M fn.results.toList λbo=>bu (one bo) h j) (cS args) h j
  |none=>False)
 |none=>False
def cU(C:aZ)(f d2:Nat):Bool:=match C.P.funcs[f]? with
 |some fn=>(match fn.body with
  |some c=>Nat.ble d2 fn.ntmps&&lu C (Nat.lor (j4 c) (nv fn.results.toList)) c&&yS (Nat.lor (j4 c) (nv fn.results.toList)) fn.results.toList
  |none=>false)
 |none=>false
end
end Go.bi

namespace Go.bi
noncomputable section
open Go.RowKit (Below)
def gY(M:dS)(t:V F):Prop:=∀n v,M.g n=some v->t.get n=some v
section
variable{C:aZ}{h:V an}{j:Nat}{aw:List (Nat×F)}{M:dS}{t:V F}
def nN(a:gY M t){x:ka}{ai:F->Prop}(az:ju x aw M ai):∃K,kK x aw t=some K/\ai K:=by
 cases x with
 |v aa=>exact su.1 az
 |t n=>
  obtain⟨K,Q,U⟩:=su.1 (show al (M n) ai from az)
  exact⟨K,a n K Q,U⟩
 |c K=>exact⟨K,rfl,az⟩
def amw(a:gY M t):∀{l:List ka}{ai:List F->Prop},K9 aw M l ai->∃ct,Ay aw t l=some ct/\ai ct:=by
 intro l
 induction l with
 |nil=>intro ai az;exact⟨[],rfl,az⟩
 |cons x l ak=>
  intro ai az
  obtain⟨K,Q,U⟩:=nN a (show ju x aw M (λK=>K9 aw M l λr=>ai (K::r)) from az)
  obtain⟨r,ar,aK⟩:=ak U
  exact⟨K::r,by simp[Ay,Q,ar],aK⟩
def hn(a:gY M t){b3:List (Nat×Nat)}{Y:Operand}{ai:F->Prop}(az:eL b3 aw M Y ai):∃K,iX b3 aw t Y=some K/\ai K:=by
 cases Y with
 |tmp n=>
  simp only[eL]at az
  simp only[iX]
  cases bG:ep b3 n with
  |some aa=>simp only[bG]at az ⊢;exact su.1 az
  |none=>
   simp only[bG]at az ⊢
   obtain⟨K,Q,U⟩:=su.1 az
   exact⟨K,a n K Q,U⟩
 |const v=>exact su.1 az
 |global g=>exact⟨_,rfl,az⟩
 |func f=>exact⟨_,rfl,az⟩
def DH(a:gY M t){b3:List (Nat×Nat)}:∀{l:List Operand}{ai:List F->Prop},ss b3 aw M l ai->∃ct,px (iX b3 aw t) l=some ct/\ai ct:=by
 intro l
 induction l with
 |nil=>intro ai az;exact⟨[],rfl,az⟩
 |cons x l ak=>
  intro ai az
  obtain⟨K,Q,U⟩:=hn a (show eL b3 aw M x (λK=>ss b3 aw M l λr=>ai (K::r)) from az)
  obtain⟨r,ar,aK⟩:=ak U
  exact⟨K::r,by simp[px,Q,ar],aK⟩
def SW(a:gY M t){b3:List (Nat×Nat)}:∀{l:List (Nat×Operand)}{ai:List (Nat×F)->Prop},BC b3 aw M l ai->∃ct,x2 (iX b3 aw t) l=some ct/\ai ct:=by
 intro l
 induction l with
 |nil=>intro ai az;exact⟨[],rfl,az⟩
 |cons x l ak=>
  intro ai az
  obtain⟨i,Y⟩:=x
  obtain⟨K,Q,U⟩:=hn a (show eL b3 aw M Y (λK=>BC b3 aw M l λr=>ai ((i,K)::r)) from az)
  obtain⟨r,ar,aK⟩:=ak U
  exact⟨(i,K)::r,by simp[x2,Q,ar],aK⟩
def SR(a:gY M t){b3:List (Nat×Nat)}{Y:Option Operand}{ai:Option F->Prop}(az:Nv b3 aw M Y ai):∃K,Bz (iX b3 aw t) Y=some K/\ai K:=by
 cases Y with
 |none=>exact⟨none,rfl,az⟩
 |some x=>
  obtain⟨K,Q,U⟩:=hn a (show eL b3 aw M x (λK=>ai (some K)) from az)
  exact⟨some K,by simp[Bz,Q],U⟩
def att(a:gY M t){b3:List (Nat×Nat)}{Y:Op}{ai:F->Prop}(az:ac1 b3 Y C h aw M ai):∃v,nH Y C h (iX b3 aw t)=some v/\ai v:=by
 cases Y with
 |build ty jP=>
  obtain⟨dq,Q,U⟩:=SW a (show BC b3 aw M jP.toList _ from az)
  obtain⟨v,ar,aK⟩:=(kx.1 U)
  exact⟨v,by simp[nH,Sd,Q,ar],aK⟩
 |binOp op ty x e GU=>
  obtain⟨K,Q,U⟩:=hn a (show eL b3 aw M x _ from az)
  obtain⟨b,ar,aK⟩:=hn a U
  obtain⟨v,bH,cu⟩:=(kx.1 aK)
  exact⟨v,by simp[nH,M4,Q,ar,bH],cu⟩
 |unOp op ty x=>
  obtain⟨K,Q,U⟩:=hn a (show eL b3 aw M x _ from az)
  obtain⟨v,ar,aK⟩:=(kx.1 U)
  exact⟨v,by simp[nH,Sl,Q,ar],aK⟩
 |convert s d x=>
  obtain⟨K,Q,U⟩:=hn a (show eL b3 aw M x _ from az)
  obtain⟨v,ar,aK⟩:=(kx.1 U)
  exact⟨v,by simpa[nH,Ji,W5,kg,Q]using ar,aK⟩
 |makeInterface ty x=>
  obtain⟨K,Q,U⟩:=hn a (show eL b3 aw M x _ from az)
  obtain⟨v,ar,aK⟩:=(kx.1 U)
  exact⟨v,by simpa[nH,Jk,act,kg,Q]using ar,aK⟩
 |makeFunc fn first fH=>
  cases fn with
  |func f=>
   obtain⟨K,Q,U⟩:=DH a (show ss b3 aw M first.toList _ from az)
   obtain⟨b,ar,aK⟩:=DH a U
   exact⟨_,by simp[nH,Sh,Q,ar],aK⟩
  |_=>exact az.elim
 |slice ty x bS aJ hb=>
  obtain⟨K,Q,U⟩:=hn a (show eL b3 aw M x _ from az)
  obtain⟨l,ar,aK⟩:=SR a U
  obtain⟨b,bH,cu⟩:=SR a aK
  obtain⟨m,dM,fs⟩:=SR a cu
  obtain⟨v,jW,rW⟩:=(kx.1 fs)
  exact⟨v,by simp[nH,Sk,Q,ar,bH,dM,jW],rW⟩
 |field ty x f=>
  obtain⟨K,Q,U⟩:=hn a (show eL b3 aw M x _ from az)
  obtain⟨v,ar,aK⟩:=(kx.1 U)
  exact⟨v,by simpa[nH,Jj,XL,kg,Q]using ar,aK⟩
 |index ty x i=>
  obtain⟨K,Q,U⟩:=hn a (show eL b3 aw M x _ from az)
  obtain⟨b,ar,aK⟩:=hn a U
  obtain⟨v,bH,cu⟩:=(kx.1 aK)
  exact⟨v,by simp[nH,Si,Q,ar,bH],cu⟩
 |lookup ty m B ok=>
  obtain⟨K,Q,U⟩:=hn a (show eL b3 aw M m _ from az)
  obtain⟨b,ar,aK⟩:=hn a U
  obtain⟨v,bH,cu⟩:=(kx.1 aK)
  exact⟨v,by simp[nH,Sj,Q,ar,bH],cu⟩
 |typeAssert x ty tX ok=>
  obtain⟨K,Q,U⟩:=hn a (show eL b3 aw M x _ from az)
  obtain⟨v,ar,aK⟩:=(kx.1 U)
  exact⟨v,by simpa[nH,Jh,Wz,kg,Q]using ar,aK⟩
 |entry eI=>
  obtain⟨K,Q,U⟩:=hn a (show eL b3 aw M eI _ from az)
  obtain⟨v,ar,aK⟩:=(kx.1 U)
  exact⟨v,by simpa[nH,Sg,Xw,kg,Q]using ar,aK⟩
 |call c=>
  obtain⟨callee,args,dg⟩:=c
  cases callee with
  |builtin b=>
   obtain⟨bo,Q,U⟩:=DH a (show ss b3 aw M args.toList _ from az)
   obtain⟨v,ar,aK⟩:=(kx.1 U)
   refine⟨v, ?_,aK⟩
   have J:nH (.call ⟨.builtin b,args,dg⟩) C h (iX b3 aw t)=rN C h b dg.toList bo:=by
    simp only[nH,Sf,Se,Q,rN]
    repeat' split
    all_goals first|rfl|simp_all
   rw[J];exact ar
  |_=>exact az.elim
 |_=>exact az.elim
def M6(a:gY M t){op:jC}{ai:F->Prop}(az:F3 op C h aw M ai):∃v,gS op C h aw t=some v/\ai v:=by
 cases op with
 |Ds x=>exact nN a az
 |pick c K b=>
  obtain⟨W7,Q,U⟩:=nN a (show ju c aw M _ from az)
  obtain⟨N4,rfl,ar,aK⟩:=WO U.out
  cases N4 with
  |true=>
   obtain⟨v,bH,cu⟩:=nN a (ar rfl)
   exact⟨v,by simp[gS,Q,Og,bH],cu⟩
  |false=>
   obtain⟨v,bH,cu⟩:=nN a (aK rfl)
   exact⟨v,by simp[gS,Q,Og,bH],cu⟩
 |fT K=>
  obtain⟨fN,Q,U⟩:=nN a (show ju K aw M _ from az)
  obtain⟨v,ar,aK⟩:=(kx.1 U)
  exact⟨v,by simp[gS,Q,ar],aK⟩
 |Bi n K=>
  obtain⟨fN,Q,U⟩:=nN a (show ju K aw M _ from az)
  obtain⟨v,ar,aK⟩:=(kx.1 U)
  exact⟨v,by simp[gS,Q,ar],aK⟩
 |off d x=>
  obtain⟨fN,Q,U⟩:=nN a (show ju x aw M _ from az)
  obtain⟨v,ar,aK⟩:=(kx.1 U)
  exact⟨v,by simp[gS,Q,ar],aK⟩
 |Bb n a1 x i=>
  obtain⟨fN,Q,U⟩:=nN a (show ju x aw M _ from az)
  obtain⟨cB,ar,aK⟩:=nN a U
  obtain⟨v,bH,cu⟩:=(kx.1 aK)
  exact⟨v,by simp only[gS,Q,ar];unfold FQ at bH;cases aJ:mU cB<;>simp_all,cu⟩
 |Bc a1 x i=>
  obtain⟨fN,Q,U⟩:=nN a (show ju x aw M _ from az)
  obtain⟨cB,ar,aK⟩:=nN a U
  obtain⟨v,bH,cu⟩:=(kx.1 aK)
  exact⟨v,by simp only[gS,Q,ar];unfold dW at bH;cases aJ:mU cB<;>simp_all,cu⟩
 |Dz x=>
  obtain⟨fN,Q,U⟩:=nN a (show ju x aw M _ from az)
  obtain⟨v,ar,aK⟩:=(kx.1 U)
  exact⟨v,by simp[gS,Q,ar],aK⟩
 |I4 op x e=>
  obtain⟨fN,Q,U⟩:=nN a (show ju x aw M _ from az)
  obtain⟨cB,ar,aK⟩:=nN a U
  obtain⟨v,bH,cu⟩:=(kx.1 aK)
  exact⟨v,by simp[gS,Q,ar,bH],cu⟩
 |ext i x=>
  obtain⟨fN,Q,U⟩:=nN a (show ju x aw M _ from az)
  obtain⟨v,ar,aK⟩:=(kx.1 U)
  exact⟨v,by simp[gS,Q,ar],aK⟩
 |hV b3 Y=>exact att a az
 |_=>exact az.elim
def atQ(a:gY M t){op:jC}{b:Nat}{ai:bI}(az:adc op C h b aw M ai):∃v cT,nO op C b aw t=some (v,cT)/\ai v (bn C h b (some cT)) (b+1):=by
 cases op with
 |make b3 Y=>
  cases Y with
  |alloc ty=>
   obtain⟨⟨v,cT⟩,Q,U⟩:=kx.1 (show E (Dp C ty (kg undef) b) _ from az)
   exact⟨v,cT,Q,U.out⟩
  |box ty x=>
   obtain⟨K,Q,U⟩:=hn a (show eL b3 aw M x _ from az)
   exact⟨_,_,by simp only[nO,p1,Jq,Q],U.out⟩
  |buildSlice ty len jP=>
   obtain⟨dq,Q,U⟩:=SW a (show BC b3 aw M jP.toList _ from az)
   obtain⟨⟨v,cT⟩,ar,aK⟩:=(kx.1 U)
   refine⟨v,cT, ?_,aK.out⟩
   simp only[nO,p1,Jr,Q]
   unfold NW at ar
   split at ar
   ·rename_i be
    simp only[be]
    exact ar
   ·cases ar
  |makeMap ty r=>
   cases r with
   |none=>exact⟨_,_,rfl,(show cQ C h b _ _ ai from az).out⟩
   |some r=>exact az.elim
  |_=>exact az.elim
 |_=>exact az.elim
def atO(a:gY M t){op:jC}{b:Nat}{ai:F->V an->Prop}(az:SG op C h b aw M ai):∃v cT,nO op C b aw t=some (v,cT)/\ai v (bn C h b (some cT)):=by
 cases op with
 |make b3 Y=>
  cases Y with
  |alloc ty=>
   obtain⟨⟨v,cT⟩,Q,U⟩:=kx.1 (show E (Dp C ty (kg undef) b) _ from az)
   exact⟨v,cT,Q,U.out⟩
  |box ty x=>
   obtain⟨K,Q,U⟩:=hn a (show eL b3 aw M x _ from az)
   exact⟨_,_,by simp only[nO,p1,Jq,Q],U.out⟩
  |buildSlice ty len jP=>
   obtain⟨dq,Q,U⟩:=SW a (show BC b3 aw M jP.toList _ from az)
   obtain⟨⟨v,cT⟩,ar,aK⟩:=(kx.1 U)
   refine⟨v,cT, ?_,aK.out⟩
   simp only[nO,p1,Jr,Q]
   unfold NW at ar
   split at ar
   ·rename_i be
    simp only[be]
    exact ar
   ·cases ar
  |makeMap ty r=>
   cases r with
   |none=>exact⟨_,_,rfl,(show kU C h b _ _ ai from az).out⟩
   |some r=>exact az.elim
  |_=>exact az.elim
 |_=>exact az.elim
def WS{rd:Bool}{f:Nat}{ct:List F}{ai ay:bI}(a:aW C f ct h j ai ay):∃r,rK C f ct=some r/\B8 C rd (some r) h j ai ay:=by
 rcases a.out with ⟨ae,Q,U⟩|⟨Q,⟨fn,c,U,ar⟩,aK⟩
 ·exact⟨.known f ct ae,by simp[rK,Q],U⟩
 ·exact⟨.enter f ct,by simp[rK,Q,U,ar],aK⟩
def yT{rd:Bool}{Y:Option d4}{ai ay:bI}(a:gw Y h j ai):∃r,Y=some r/\B8 C rd (some r) h j ai ay:=by
 rw[av3]at a
 split at a
 ·exact⟨_,rfl,a⟩
 ·exact⟨_,rfl,a⟩
 ·exact a.elim
def amT{rd:Bool}{Y:Option d4}{ai ay:bI}(a:ET Y h j ai):∃r,Y=some r/\B8 C rd (some r) h j ai ay:=by
 rw[amU]at a
 split at a
 ·exact⟨_,rfl,a⟩
 ·exact⟨_,rfl,a⟩
 ·exact⟨_,rfl,a⟩
 ·exact a.elim
def aaT(a:gY M t){rd:Bool}{op:jC}{ai ay:bI}(az:Q3 rd op C h j aw M ai ay):∃r,hI op C h j aw t=some r/\B8 C rd (some r) h j ai ay:=by
 cases op with
 |st n K v=>
  obtain⟨fN,Q,U⟩:=nN a (show ju K aw M _ from az)
  obtain⟨f9,ar,aK⟩:=nN a U
  obtain⟨T,bH,cu⟩:=(kx.1 aK)
  refine⟨.fh undef T j, ?_,cu⟩
  simp only[hI,Q,ar]
  unfold ce at bH
  split at bH
  ·simp only[e0]at bH
   simp[NY,bH.2,fw,bH.1]
  ·cases bH
 |call f args=>
  obtain⟨ct,Q,U⟩:=amw a (show K9 aw M args _ from az)
  obtain⟨r,ar,aK⟩:=WS (rd:=rd) U
  exact⟨r,by simp[hI,Q,ar],aK⟩
 |ff b3 Y=>
  cases Y with
  |mapUpdate ty m B x=>
   obtain⟨K,Q,U⟩:=hn a (show eL b3 aw M m _ from az)
   obtain⟨b,ar,aK⟩:=hn a U
   obtain⟨c,bH,cu⟩:=hn a aK
   obtain⟨r,dM,fs⟩:=yT (C:=C) (ay:=ay) (rd:=rd) cu
   exact⟨r,by simp[hI,m7,E9,Q,ar,bH,dM],fs⟩
  |insert ty m B x=>
   obtain⟨K,Q,U⟩:=hn a (show eL b3 aw M m _ from az)
   obtain⟨b,ar,aK⟩:=hn a U
   obtain⟨c,bH,cu⟩:=hn a aK
   obtain⟨r,dM,fs⟩:=yT (C:=C) (ay:=ay) (rd:=rd) cu
   exact⟨r,by simp[hI,m7,E9,Q,ar,bH,dM],fs⟩
  |mapEntry ty m B=>
   obtain⟨K,Q,U⟩:=hn a (show eL b3 aw M m _ from az)
   obtain⟨b,ar,aK⟩:=hn a U
   obtain⟨r,dM,fs⟩:=yT (C:=C) (ay:=ay) (rd:=rd) aK
   exact⟨r,by simpa[hI,m7,Ia,two,Go.bi.kf,Go.bi.gN,Q,ar]using dM,fs⟩
  |entryStore ty m s x=>
   obtain⟨K,Q,U⟩:=hn a (show eL b3 aw M m _ from az)
   obtain⟨b,ar,aK⟩:=hn a U
   obtain⟨c,bH,cu⟩:=hn a aK
   obtain⟨r,dM,fs⟩:=yT (C:=C) (ay:=ay) (rd:=rd) cu
   exact⟨r,by simpa[hI,m7,H2,aeX,Go.bi.kf,Go.bi.gN,Go.bi.my,Q,ar,bH]using dM,fs⟩
  |makeSlice ty l c=>
   obtain⟨K,Q,U⟩:=hn a (show eL b3 aw M l _ from az)
   obtain⟨b,ar,aK⟩:=hn a U
   obtain⟨r,dM,fs⟩:=yT (C:=C) (ay:=ay) (rd:=rd) aK
   exact⟨r,by simpa[hI,m7,H9,two,Go.bi.kf,Go.bi.gN,Q,ar]using dM,fs⟩
  |makeMap ty jp=>
   cases jp with
   |none=>exact az.elim
   |some x=>
    obtain⟨K,Q,U⟩:=hn a (show eL b3 aw M x _ from az)
    obtain⟨r,dM,fs⟩:=yT (C:=C) (ay:=ay) (rd:=rd) U
    exact⟨r,by simpa[hI,m7,H8,kg,Q]using dM,fs⟩
  |convert s d x=>
   obtain⟨K,Q,U⟩:=hn a (show eL b3 aw M x _ from az)
   obtain⟨r,dM,fs⟩:=yT (C:=C) (ay:=ay) (rd:=rd) U
   exact⟨r,by simpa[hI,m7,Ig,kg,Q]using dM,fs⟩
  |range ty x=>
   obtain⟨K,Q,U⟩:=hn a (show eL b3 aw M x _ from az)
   obtain⟨r,dM,fs⟩:=yT (C:=C) (ay:=ay) (rd:=rd) U
   exact⟨r,by simpa[hI,m7,Ic,kg,Q]using dM,fs⟩
  |next eI yI=>
   obtain⟨K,Q,U⟩:=hn a (show eL b3 aw M eI _ from az)
   obtain⟨r,dM,fs⟩:=amT (C:=C) (ay:=ay) (rd:=rd) U
   exact⟨r,by simpa[hI,m7,wB,kg,Q]using dM,fs⟩
  |panic x=>
   cases rd with
   |true=>exact(show False from az).elim
   |false=>
    obtain⟨K,Q,U⟩:=hn a (show eL b3 aw M x _ from az)
    rw[avc]at U
    split at U
    ·rename_i ol ayp
     exact⟨.panic (.iface ol ayp),by simp[hI,m7,QD,Q],U⟩
    ·exact U.elim
  |call c=>
   obtain⟨callee,args,dg⟩:=c
   cases callee with
   |value f=>
    obtain⟨mh,Q,U⟩:=hn a (show eL b3 aw M f _ from az)
    obtain⟨ct,ar,aK⟩:=DH a U
    have aK:=aK.out
    split at aK
    ·split at aK
     ·obtain⟨r,bH,cu⟩:=WS (rd:=rd) aK
      exact⟨r,by simp[hI,m7,Cx,Q,ar,Al];simpa using bH,cu⟩
     ·exact⟨.round _ _,by simp only[hI,m7,Cx,Q,ar,Al],aK⟩
     ·exact aK.elim
    ·exact aK.elim
   |builtin b=>
    obtain⟨bo,Q,U⟩:=DH a (show ss b3 aw M args.toList _ from az)
    obtain⟨r,dM,fs⟩:=yT (C:=C) (ay:=ay) (rd:=rd) U
    refine⟨r, ?_,fs⟩
    have J:∀r,Fc C h j b dg.toList bo=some r->hI (.ff b3 (.call ⟨.builtin b,args,dg⟩)) C h j aw t=some r:=by
     intro r Z
     simp only[hI,m7,Cx,HW,Q]
     unfold Fc at Z
     split at Z
     all_goals first|exact Z|cases Z
    exact J r dM
   |invoke x name=>
    obtain⟨lL,Q,U⟩:=hn a (show eL b3 aw M x _ from az)
    obtain⟨ct,ar,aK⟩:=DH a U
    rw[atY]at aK
    split at aK
    ·cases bp:En C h _ _ name ct with
     |none=>rw[bp]at aK;exact aK.elim
     |some r=>rw[bp]at aK;exact⟨r,by simp[hI,m7,Cx,Q,ar,bp],aK⟩
    ·exact aK.elim
  |_=>exact az.elim
 |_=>exact az.elim
def anS{lk:Bool}{v:F}{K b:Prop}(a:it lk v K b):∃w,(match v with| .bool b=>some (b==lk)|_=>some false)=some w/\(w=true->K)/\(w=false->b):=by
 have a:=a.out
 cases v with
 |bool t=>
  obtain⟨Q,U⟩:=a
  refine⟨t==lk,rfl,λJ=>Q (by simpa using J),λJ=>U ?_⟩
  cases t<;>cases lk<;>simp_all
 |_=>exact⟨false,rfl,Zs,λ_=>a⟩
def Oa{g:Option (Nat×Bool)}{K b:Prop}(a:N9 g aw K b):∃w,om g aw=some w/\(w=true->K)/\(w=false->b):=by
 cases g with
 |none=>exact⟨true,rfl,λ_=>a,Zs⟩
 |some p=>
  obtain⟨aa,lk⟩:=p
  obtain⟨v,Q,U⟩:=su.1 (show al (ep aw aa) _ from a)
  obtain⟨w,ar,aK⟩:=anS U
  exact⟨w,by simp only[om,Q];exact ar,aK⟩
def aeB(a:gY M t)(d:Nat)(v:F):gY (ac M d v) (t.set d (some v)):=by
 intro n ae be
 have be:=(show bP (Nat.beq d n) (some v) (M.g n)=some ae from be)
 rw[hD]at be
 rw[V.kc]
 split at be
 ·rename_i J;rw[Zq J];exact be
 ·rename_i J;rw[Zg J];exact a n ae be
def XO:∀{l:List (Nat×Nat)}{M:dS}{t:V F}{ai:dS->Prop},gY M t->HL l aw M ai->∃cZ e2,x4 aw l t=some e2/\gY cZ e2/\(cZ.bd=M.bd/\cZ.rc=M.rc)/\ai cZ:=by
 intro l
 induction l with
 |nil=>intro M t ai a az;exact⟨M,t,rfl,a,⟨rfl,rfl⟩,az⟩
 |cons p l ak=>
  intro M t ai a az
  obtain⟨i,d⟩:=p
  obtain⟨v,Q,U⟩:=su.1 (show al (ep aw i) (λv=>HL l aw (ac M d v) ai) from az)
  obtain⟨cZ,e2,ar,aK,bH⟩:=ak (aeB a d v) U
  exact⟨cZ,e2,by simp[x4,Q,ar],aK,bH⟩
def axb{op:jC}{b3:List (Nat×Nat)}{f:Operand}{args:List Operand}(a:DT op= .defer b3 f args):∃c:Array Operand×Array TypeId,args=c.1.toList/\op= .ff b3 (.defer ⟨.value f,c.1,c.2⟩):=by
 unfold DT at a
 split at a
 ·split at a
  ·split at a
   ·injection a with Q U ar
    subst Q U ar
    exact⟨(_,_),rfl,rfl⟩
   ·cases a
  ·split at a
   ·split at a<;>cases a
   ·cases a
  ·cases a
 ·cases a
def axc{op:jC}(a:DT op= .recover):∃b3 dg args,op= .ff b3 (.call ⟨.builtin .recover,args,dg⟩)/\args.toList=[]:=by
 unfold DT at a
 split at a
 ·split at a
  ·split at a<;>cases a
  ·split at a
   ·split at a
    ·rename_i aE
     exact⟨_,_,_,rfl,aE⟩
    ·cases a
   ·cases a
  ·cases a
 ·cases a
def av8(a:gY M t):∀{l:List ResultVar}{ai:List F->Prop},qC C h M l ai->∃bo,xm C h t l=some bo/\ai bo:=by
 intro l
 induction l with
 |nil=>intro ai az;exact⟨[],rfl,az⟩
 |cons x l ak=>
  intro ai az
  cases x with
  |tmp n=>
   obtain⟨v,Q,U⟩:=su.1 (show al (M n) (λv=>qC C h M l λr=>ai (v::r)) from az)
   obtain⟨r,ar,aK⟩:=ak U
   exact⟨v::r,by simp[xm,a n v Q,ar],aK⟩
  |cell K ty=>
   obtain⟨p,Q,U⟩:=su.1 (show al (M K) (λp=>E (lp C h ty p) λv=>qC C h M l λr=>ai (v::r)) from az)
   obtain⟨v,ar,aK⟩:=(kx.1 U)
   obtain⟨r,bH,cu⟩:=ak aK
   exact⟨v::r,by simp[xm,a K p Q,ar,bH],cu⟩
def atv(a:gY M t){base:Nat}:∀{l:List fi}{aw:List (Nat×F)}{h:V an}{ai:List (Nat×F)->V an->Prop},M8 C base M l aw h ai->∃hr T,wk C base t l aw h=some (hr,T)/\ai hr T:=by
 intro l
 induction l with
 |nil=>intro aw h ai az;exact⟨aw,h,rfl,az⟩
 |cons x l ak=>
  intro aw h ai az
  obtain⟨w,Q,U,ar⟩:=Oa ((ayu ..).mp (show rt x.g aw (λaa=>match mu x.op with
   | .make=>SG x.op C h (base+x.i) aw M aa
   |_=>F3 x.op C h aw M λv=>aa v h) (λv h=>M8 C base M l ((x.i,v)::aw) h ai) h from az))
  simp only[wk,Q]
  cases w with
  |false=>exact ak (ar rfl)
  |true=>
   have aK:=U rfl
   cases aN:mu x.op with
   |make=>
    simp only[aN]at aK
    obtain⟨v,cT,bH,cu⟩:=atO a aK
    simp only[bH,g8]
    exact ak cu
   |hV=>
    simp only[aN]at aK
    obtain⟨v,bH,cu⟩:=M6 a aK
    simp only[bH]
    exact ak cu
   |ff=>
    simp only[aN]at aK
    obtain⟨v,bH,cu⟩:=M6 a aK
    simp only[bH]
    exact ak cu
def avU(a:gY M t):∀{l:List fi}{ai:Prop},S7 C M aw h l ai->Cj C t aw h l=true/\ai:=by
 intro l
 induction l with
 |nil=>intro ai az;exact⟨rfl,az⟩
 |cons x l ak=>
  intro ai az
  obtain⟨w,Q,U,ar⟩:=Oa ((ayv ..).mp (show TR x.g aw (λam=>F3 x.op C h aw M λv=>gG v (ep aw x.i) am) (S7 C M aw h l ai) from az))
  simp only[Cj,Q]
  cases w with
  |false=>exact ak (ar rfl)
  |true=>
   obtain⟨v,bH,cu⟩:=M6 a (U rfl)
   obtain⟨ae,dM,fs,jW⟩:=su.1 cu.out
   obtain⟨rW,uo⟩:=ak jW
   exact⟨by simp[bH,dM,fs,rW],uo⟩
end
section
variable{C:aZ}{dR:c6}{d3:Nat->Prop}{br:World}{bz:Nat}{bO:List Frame}{v:F}
variable{fn n av:Nat}{bN:tQ}{aG:Bool}{ro:Option Nat}{cs c8:List gH}
def kn(cG:Env C br dR d3){bN:kD}{todo:List dV}{cd:h9}{M:V F}{h:V an}{j:Nat}(a:TA (fO C br bz bO v) C bN todo cd M h j=some v):nB C br bz bO bN todo cd M h j v:=
 λR af w de tmps bv aq di=>aeK cG Wq _ _ _ _ _ _ _ _ _ _ _ _ v a R af w de tmps bv aq di
def fp(bN:tQ)(fn n av:Nat)(aG:Bool)(ro:Option Nat)(cs c8:List gH)(M:dS):h9:=⟨fn,n,av,bP bN.bd M.bd [],aG,ro,bP M.rc c8 cs⟩
structure Ad(bN:tQ)(aG:Bool)(ro:Option Nat)(cs c8:List gH):Prop where
 rd:bN.rd=false->ro=none
 bd:bN.bd=true->ro=none
 none:bN.jB=some none->c8=cs/\BN aG cs=some (.nilIface,cs)
 some:∀ae,bN.jB=some (some ae)->BN aG cs=some (ae,c8)/\BN aG c8=some (.nilIface,c8)
def awq{ak:hp}{C:aZ}{l:Nat}{args:List F}{eI:dV}{B:List dV}{cd:h9}{M:V F}{h:V an}{j:Nat}:nI (.round l args) ak C eI B cd M h j=NM ak C l args (DV eI B cd M) h j:=rfl
def Xn{M:dS}{t:V F}(a:gY M t)(l:List Nat):gY (hE l M) (wm l t):=by
 intro n v bB
 rw[KX]
 by_cases aL:n∈l
 ·simp[hE,fw,SH,aL]at bB
 ·simp[hE,fw,SH,aL]at bB
  rw[Zg aL];exact a n v bB
def O7{K b:Nat}(a:K<=b):Nat.ble K b=true:=by simpa using a
def Wo(aD:F.same 30 v v=true)(bp:Ad bN aG ro cs c8){eI:dV}{B:List dV}{nG:dS}{M:V F}{h:V an}{j:Nat}{ai ay:bI}(cG:Env C br dR d3)
 (iM:∀ae h j,ai ae h j->∃hv,oC eI ae=some hv/\nB C br bz bO .run (hv::B) (fp bN fn n av aG ro cs c8 nG) M h j v)
 (cA:∀ae h j todo,ay ae h j->nB C br bz bO (.panicking [⟨ae,false⟩]) todo (fp bN fn n av aG ro cs c8 nG) (ud (eI::B) M) h j v){r:d4}(a:B8 C bN.rd (some r) h j ai ay):
 nI r (fO C br bz bO v) C eI B (fp bN fn n av aG ro cs c8 nG) M h j=some v:=by
 have fill:∀ae h j,ai ae h j->(match oC eI ae with|some hv=>fO C br bz bO v .run (hv::B) (fp bN fn n av aG ro cs c8 nG) M h j|none=>none)=some v:=by
  intro ae h j aN
  obtain⟨hv,Q,U⟩:=iM ae h j aN
  rw[Q]
  exact hZ U
 cases r with
 |val ae=>exact fill ae h j a
 |fh ae T au=>exact fill ae T au a
 |enter f args=>
  refine a br dR d3 cG bz bO v aD (DV eI B (fp bN fn n av aG ro cs c8 nG) M) (λae T au am=> ?_) (λae T au am=> ?_)
  ·exact fill ae T au am
  ·exact hZ (cA ae T au _ am)
 |round l args=>
  rw[awq]
  refine a br dR d3 cG bz bO v aD (DV eI B (fp bN fn n av aG ro cs c8 nG) M) (λae T au am=> ?_) (λae T au am=> ?_)
  ·exact fill ae T au am
  ·exact hZ (cA ae T au _ am)
 |known f args ae=>exact fill ae h j a
 |panic ae=>
  have a:=(show bP bN.rd False (ay ae h j) from a)
  cases Z:bN.rd with
  |true=>rw[Z]at a;exact a.elim
  |false=>
   rw[Z]at a
   have jL:=bp.rd Z
   subst jL
   exact hZ (cA ae h j _ a)
 |fork l=>exact amS aD l a.1 λae T bp=>iM ae T j (a.2 ae T bp)
 |_=>exact a.elim
def alL{ax:Array Oper}{aw:List (Nat×F)}{i:Nat}{rest:List fi}{fin:List (Nat×Nat)}{B:List dV}{M:V F}:ud (.sJ ax aw i rest fin::B) M=wm (dstsOf ax.toList) M:=rfl
def alK{ax:Array Oper}{aw:List (Nat×F)}{b i:Nat}{rest:List wa}{fin:List (Nat×Nat)}{B:List dV}{M:V F}:ud (.y4 ax b aw i rest fin::B) M=wm (dstsOf ax.toList) M:=rfl
def awJ(cG:Env C br dR d3)(aD:F.same 30 v v=true)(bp:Ad bN aG ro cs c8){ax:Array Oper}{fin:List (Nat×Nat)}{B:List dV}{t:V F}{ai:gs}{ay:rH}
 (iM:∀M t h j,gY M t->ai M h j->nB C br bz bO .run B (fp bN fn n av aG ro cs c8 M) t h j v)
 (cA:∀M t ae h j todo,gY M t->ay M ae h j->nB C br bz bO (.panicking [⟨ae,false⟩]) todo (fp bN fn n av aG ro cs c8 M) t h j v):
 ∀(rest:List fi) (aw:List (Nat×F)) (M:dS) (h:V an) (j:Nat),gY M t->BI C bN fin ai (λM=>ay (hE (dstsOf ax.toList) M)) rest aw M h j->yV rest ⟨fO C br bz bO v,ax,fin,B,fp bN fn n av aG ro cs c8 M⟩ C t aw h j=some v:=by
 intro rest
 induction rest with
 |nil=>
  intro aw M h j bc a
  obtain⟨cZ,e2,Q,U,ar,aK⟩:=XO bc (show HL fin aw M (λM=>ai M h j) from a)
  show HF ⟨fO C br bz bO v,ax,fin,B,fp bN fn n av aG ro cs c8 M⟩ C t aw h j=some v
  simp only[HF,Lb,Q,od]
  have J:fp bN fn n av aG ro cs c8 M=fp bN fn n av aG ro cs c8 cZ:=by unfold fp;rw[ar.1,ar.2]
  rw[J]
  exact hZ (iM _ _ _ _ U aK)
 |cons x rest ak=>
  intro aw M h j bc a
  obtain⟨i,g,op⟩:=x
  show DG i g op rest (yV rest) ⟨fO C br bz bO v,ax,fin,B,fp bN fn n av aG ro cs c8 M⟩ C t aw h j=some v
  have a:=(show(match DT op with
   | .no=>Ob g aw (λai=>SU bN.rd op C h j aw M ai (ay (hE (dstsOf ax.toList) M))) (λv h j=>BI C bN fin ai (λM=>ay (hE (dstsOf ax.toList) M)) rest ((i,v)::aw) M h j) h j
   | .defer b3 f args=>bP (g.isNone&&bN.bd) (eL b3 aw M f λmh=>ss b3 aw M args λct=>Hu mh ct M λM=>BI C bN fin ai (λM=>ay (hE (dstsOf ax.toList) M)) rest ((i,undef)::aw) M h j) False
   | .recover=>bP (g.isNone&& !bN.rd) (Gy bN.jB M λv M=>BI C bN fin ai (λM=>ay (hE (dstsOf ax.toList) M)) rest ((i,v)::aw) M h j) False) from a)
  cases A2:DT op with
  |no=>
   rw[A2]at a
   obtain⟨w,Q,U,ar⟩:=Oa ((afk ..).mp a)
   simp only[DG,N8,Q,od]
   cases w with
   |false=>simp only[Zw,ZA];exact ak _ _ _ _ bc (ar rfl)
   |true=>
    simp only[ZD]
    have aK:=U rfl
    rw[Nw]
    unfold SU at aK
    cases aN:mu op with
    |hV=>
     simp only[aN]at aK ⊢
     obtain⟨ae,bH,cu⟩:=M6 bc aK
     rw[bH]
     exact ak _ _ _ _ bc cu
    |make=>
     simp only[aN]at aK ⊢
     obtain⟨ae,cT,bH,cu⟩:=atQ bc aK
     simp only[M9,lS,bH,g8,od]
     exact ak _ _ _ _ bc cu
    |ff=>
     simp only[aN]at aK ⊢
     obtain⟨r,bH,cu⟩:=aaT bc aK
     rw[bH]
     have p8:nI r (fO C br bz bO v) C (.sJ ax aw i rest fin) B (fp bN fn n av aG ro cs c8 M) t h j=some v:=by
      refine Wo aD bp cG (λae h j am=>⟨_,rfl, ?_⟩) (λae h j todo am=> ?_) cu
      ·exact kn cG (ak _ _ _ _ bc am)
      ·rw[alL];exact cA (hE (dstsOf ax.toList) M) _ _ _ _ _ (Xn bc _) am
     cases r with
     |val ae=>exact ak _ _ _ _ bc cu
     |fh ae T au=>exact ak _ _ _ _ bc cu
     |_=>exact p8
  |defer b3 f args=>
   rw[A2]at a
   obtain⟨c,rfl,rfl⟩:=axb A2
   have a:=(show bP (g.isNone&&bN.bd) _ False from a)
   cases g with
   |some g=>exact a.elim
   |none=>
    cases lV:bN.bd with
    |false=>rw[lV]at a;exact a.elim
    |true=>
     rw[lV]at a
     obtain⟨mh,Q,U⟩:=hn bc (show eL b3 aw M f _ from a)
     obtain⟨ct,ar,aK⟩:=DH bc U
     have jL:=bp.bd lV
     subst jL
     cases mh with
     |func g first fH=>
      simp only[DG,N8,om,od,ZD]
      rw[Nw]
      have aN:mu (.ff b3 (.defer ⟨.value f,c.1,c.2⟩))= .ff:=rfl
      have ah:hI (.ff b3 (.defer ⟨.value f,c.1,c.2⟩)) C h j aw t=some (.defer ⟨.fn g fH,first++ct⟩):=by
       simp only[hI,m7,Qm,Q,ar]
      simp only[aN,ah]
      have gj:fp bN fn n av aG none cs c8 M=⟨fn,n,av,M.bd,aG,none,bP M.rc c8 cs⟩:=by unfold fp;rw[lV];rfl
      show nI (.defer ⟨.fn g fH,first++ct⟩) (fO C br bz bO v) C (.sJ ax aw i rest fin) B (fp bN fn n av aG none cs c8 M) t h j=some v
      rw[gj]
      show fO C br bz bO v .run (.GG ax ((i,undef)::aw) rest fin::B) ⟨fn,n,av,⟨.fn g fH,first++ct⟩::M.bd,aG,none,bP M.rc c8 cs⟩ t h j=some v
      have du:(⟨fn,n,av,⟨.fn g fH,first++ct⟩::M.bd,aG,none,bP M.rc c8 cs⟩:h9)=fp bN fn n av aG none cs c8 (yR M ⟨.fn g fH,first++ct⟩):=by unfold fp;rw[lV];rfl
      rw[du]
      exact hZ (kn cG (ak _ (yR M ⟨.fn g fH,first++ct⟩) _ _ bc aK))
     |_=>exact aK.elim
  |recover=>
   rw[A2]at a
   obtain⟨b3,dg,args,rfl,wC⟩:=axc A2
   have a:=(show bP (g.isNone&& !bN.rd) _ False from a)
   cases g with
   |some g=>exact a.elim
   |none=>
    cases cC:bN.rd with
    |true=>rw[cC]at a;exact a.elim
    |false=>
     rw[cC]at a
     have jL:=bp.rd cC
     subst jL
     have a:Gy bN.jB M (λv M=>BI C bN fin ai (λM=>ay (hE (dstsOf ax.toList) M)) rest ((i,v)::aw) M h j):=a
     simp only[DG,N8,om,od,ZD]
     rw[Nw]
     have aN:mu (.ff b3 (.call ⟨.builtin .recover,args,dg⟩))= .ff:=rfl
     have ah:hI (.ff b3 (.call ⟨.builtin .recover,args,dg⟩)) C h j aw t=some .recover:=by
      simp only[hI,m7,Cx,HW,wC,px]
     simp only[aN,ah]
     show nI .recover (fO C br bz bO v) C (.sJ ax aw i rest fin) B (fp bN fn n av aG none cs c8 M) t h j=some v
     have key:∀ae cZ,gY cZ t->BN aG (bP M.rc c8 cs)=some (ae,bP cZ.rc c8 cs)->cZ.bd=M.bd->BI C bN fin ai (λM=>ay (hE (dstsOf ax.toList) M)) rest ((i,ae)::aw) cZ h j->nI .recover (fO C br bz bO v) C (.sJ ax aw i rest fin) B (fp bN fn n av aG none cs c8 M) t h j=some v:=by
      intro ae cZ RT Q U ar
      show(match BN aG (bP M.rc c8 cs)with
       |some (f9,alt)=>(match oC (.sJ ax aw i rest fin) f9 with|some hv=>fO C br bz bO v .run (hv::B) ⟨fn,n,av,bP bN.bd M.bd [],aG,none,alt⟩ t h j|none=>none)
       |none=>none)=some v
      rw[Q]
      show fO C br bz bO v .run (.GG ax ((i,ae)::aw) rest fin::B) ⟨fn,n,av,bP bN.bd M.bd [],aG,none,bP cZ.rc c8 cs⟩ t h j=some v
      have gj:(⟨fn,n,av,bP bN.bd M.bd [],aG,none,bP cZ.rc c8 cs⟩:h9)=fp bN fn n av aG none cs c8 cZ:=by unfold fp;rw[U]
      rw[gj]
      exact hZ (kn cG (ak _ _ _ _ RT ar))
     unfold Gy at a
     cases az:bN.jB with
     |none=>rw[az]at a;exact a.elim
     |some p=>
      rw[az]at a
      cases p with
      |none=>
       obtain⟨Q,U⟩:=bp.none az
       subst Q
       refine key _ M bc ?_ rfl a
       cases M.rc<;>exact U
      |some ae=>
       obtain⟨Q,U⟩:=bp.some ae az
       cases FA:M.rc with
       |true=>
        simp only[FA]at a
        refine key _ M bc ?_ rfl a
        simp only[FA];exact U
       |false=>
        simp only[FA]at a
        refine key ae (NT M) bc ?_ rfl a
        simp only[FA];exact Q
def alJ(cG:Env C br dR d3)(aD:F.same 30 v v=true)(bp:Ad bN aG ro cs c8){ax:Array Oper}{base:Nat}{fin:List (Nat×Nat)}{B:List dV}{M:dS}{t:V F}(bc:gY M t){ai:gs}{ay:rH}
 (iM:∀M t h j,gY M t->ai M h j->nB C br bz bO .run B (fp bN fn n av aG ro cs c8 M) t h j v)
 (cA:∀M t ae h j todo,gY M t->ay M ae h j->nB C br bz bO (.panicking [⟨ae,false⟩]) todo (fp bN fn n av aG ro cs c8 M) t h j v):
 ∀(kY:List wa) (aw:List (Nat×F)) (h:V an) (j:Nat),Px C bN.rd base fin M ai (ay (hE (dstsOf ax.toList) M)) kY aw h j->xZ (fO C br bz bO v) C ax base aw kY fin B (fp bN fn n av aG ro cs c8 M) t h j=some v:=by
 intro kY
 induction kY with
 |nil=>intro aw h j a;exact a.elim
 |cons s rest ak=>
  intro aw h j a
  obtain⟨hr,T,Q,U⟩:=atv bc (show M8 C base M s.tv aw h _ from a)
  obtain⟨ar,aK⟩:=avU bc U
  simp only[xZ,Q,ar,eP]
  cases gD:s.ff with
  |none=>
   simp only[gD]at aK
   obtain⟨cZ,e2,bH,cu,dM,fs⟩:=XO bc aK
   simp only[Lb,bH,od]
   have J:fp bN fn n av aG ro cs c8 M=fp bN fn n av aG ro cs c8 cZ:=by unfold fp;rw[dM.1,dM.2]
   rw[J]
   exact hZ (iM _ _ _ _ cu fs)
  |some ah=>
   simp only[gD]at aK
   obtain⟨w,bH,cu,dM⟩:=Oa ((afk ..).mp aK)
   simp only[bH]
   cases w with
   |false=>simp only[jF];exact hZ (kn cG (ak _ _ _ (dM rfl)))
   |true=>
    obtain⟨r,fs,jW⟩:=aaT bc (cu rfl)
    simp only[eP,fs]
    refine Wo aD bp cG (λae h j am=>⟨_,rfl, ?_⟩) (λae h j todo am=> ?_) jW
    ·exact kn cG (ak _ _ _ am)
    ·rw[alK];exact cA (hE (dstsOf ax.toList) M) _ _ _ _ _ (Xn bc _) am
def afY(C:aZ)(br:World)(bz:Nat)(bO:List Frame)(v:F)(ca:dS->h9)(B:List dV)(id:Nat):gs:=λM h j=>∀t,gY M t->Az id (fO C br bz bO v) C B (ca M) t h j=some v
def La{id:Nat}{ak:hp}{C:aZ}{eI:dV}{B:List dV}{bN:tQ}{cs c8:List gH}{nG:dS}{M:V F}{h:V an}{j:Nat}(a:exitTo id (eI::B)=exitTo id B):
 Az id ak C (eI::B) (fp bN fn n av aG ro cs c8 nG) M h j=Az id ak C B (fp bN fn n av aG ro cs c8 nG) M h j:=by
 unfold Az
 rw[a]
 cases exitTo id B with
 |some e4=>rfl
 |none=>
  unfold n6 fp
  cases ro with
  |none=>rfl
  |some l=>rfl
def Oq(C:aZ)(fn n av:Nat)(c:Code):Prop:=
 ∀{br:World}{dR:c6}{d3:Nat->Prop}(_:Env C br dR d3) {bz:Nat}{bO:List Frame}{v:F}(_:F.same 30 v v=true) (bN:tQ) (aG:Bool) (ro:Option Nat) (cs c8:List gH) (ay:rH) (B:List dV) (ai:gs) (J:Nat->gs) (r:gs) (M:dS) (t:V F) (h:V an) (j:Nat),Ad bN aG ro cs c8->
  (∀M t ae h j todo,gY M t->ay M ae h j->nB C br bz bO (.panicking [⟨ae,false⟩]) todo (fp bN fn n av aG ro cs c8 M) t h j v)->
  (∀M t h j,gY M t->ai M h j->nB C br bz bO .run B (fp bN fn n av aG ro cs c8 M) t h j v)->
  (∀id M h j,J id M h j->afY C br bz bO v (fp bN fn n av aG ro cs c8) B id M h j)->
  (∀M t h j todo,gY M t->r M h j->n6 (some .ret) (fO C br bz bO v) C todo (fp bN fn n av aG ro cs c8 M) t h j=some v)->
  gY M t->wi C n av c bN ay ai J r M h j->t8 c (fO C br bz bO v) C B (fp bN fn n av aG ro cs c8 M) t h j=some v
def awP{n:Nat}:∀(dq:List Nat) (ct:List F) (M:dS) (t:V F) (ai:dS->Prop),gY M t->GH n dq ct M ai->∃cZ e2,xp n dq ct t=some e2/\gY cZ e2/\ai cZ:=by
 intro dq
 induction dq with
 |nil=>
  intro ct M t ai bc a
  cases ct with
  |nil=>exact⟨M,t,rfl,bc,a⟩
  |cons K ct=>exact a.elim
 |cons p dq ak=>
  intro ct M t ai bc a
  cases ct with
  |nil=>exact a.elim
  |cons K ct=>
   have a:=(show bP (Nat.blt p n) (GH n dq ct (ac M p K) ai) False from a)
   cases aj:Nat.blt p n with
   |false=>rw[aj]at a;exact a.elim
   |true=>
    rw[aj]at a
    obtain⟨cZ,e2,Q,U,ar⟩:=ak ct _ _ ai (aeB bc p K) a
    exact⟨cZ,e2,by simp only[xp,aj,eP,Q],U,ar⟩
def BR(fn n av:Nat)(ro:Option Nat)(cs:List gH)(M:dS):fp Bo fn n av false ro cs cs M=⟨fn,n,av,[],false,ro,cs⟩:=by
 unfold fp Bo
 cases M.rc<;>rfl
def So{ak:hp}{C:aZ}{l fn n av:Nat}{t0:V F}{params:List Nat}{assign body:Code}{KR:Nat}{ix:Option Code}{st:LoopState}{b:Bool}{ai:bI}{todo:List dV}{cs:List gH}{t:V F}{h:V an}{j:Nat}{v:F}
 (aM:jV C l=true)(az:adX ix=true)(di:st=bP ix.isNone .ready .done)(aj:b=ix.isNone)(a:K5 C l (λst p=> .loop st p fn n av t0 params assign body KR) st ix b ai h j)
 (aN:∀ae h j,ai ae h j->sR ak false cs ae h j=some v):n6 ix ak C todo ⟨fn,n,av,[],false,some l,cs⟩ t h j=some v:=by
 obtain⟨⟨aeG,Gs,Q⟩,U⟩:=a
 subst di aj
 have:=aN _ _ _ U
 simp only[n6,Q,aM,az,Ya,Yh,eP,g8]
 exact this
def awr{C:aZ}{fn n av:Nat}{assign body:Code}(lT:Oq C fn n av assign)(ew:Oq C fn n av body){br:World}{dR:c6}{d3:Nat->Prop}(cG:Env C br dR d3){bz:Nat}{bO:List Frame}{v:F}(aD:F.same 30 v v=true){l:Nat}{t:V F}{params:List Nat}{KR:Nat}{cs:List gH}
 {M:dS}{h:V an}{j:Nat}{args:List F}{ai ay:bI}(aC:ab C h l=some (.loop .ready none fn n av t params assign body KR))(aM:jV C l=true)(bc:gY M t)
 (fZ:∀ae T au,ai ae T au->Om C br bz bO v cs ae T au)(iI:∀ae T au,ay ae T au->Kt C br bz bO v cs ae T au)
 (a:GH n params args M λqO=>sz C (wi C n av assign) (wi C n av body) l (λst p=> .loop st p fn n av t params assign body KR) ai ay qO h j):
 NM (fO C br bz bO v) C l args cs h j=some v:=by
 obtain⟨qO,t1,bD,MI,Q⟩:=awP _ _ _ _ _ bc a
 unfold NM
 rw[aC]
 simp only[bD]
 have bp:Ad Bo false (some l) cs cs:=⟨λa=>(by cases a),λa=>(by cases a),λa=>(by cases a),λae a=>(by cases a)⟩
 have cA:∀(M:dS) (t:V F) (ae:F) (h:V an) (j:Nat) (todo:List dV),gY M t->ay ae h j->nB C br bz bO (.panicking [⟨ae,false⟩]) todo (fp Bo fn n av false (some l) cs cs M) t h j v:=by
  intro M t ae h j todo bc am
  rw[BR]
  refine kn cG ?_
  have:=iI ae h j am
  show J1 [⟨ae,false⟩] todo (fO C br bz bO v) C ⟨fn,n,av,[],false,some l,cs⟩ t h j=some v
  cases cs with
  |nil=>exact this.elim
  |cons c rest=>exact this
 refine hZ (kn cG ?_)
 rw[<-BR fn n av (some l) cs qO]
 refine lT cG aD Bo false (some l) cs cs (λ_=>ay) [.beginRound, .code body] _ _ _ qO t1 h j bp cA (λM t h j bc am=> ?_) (λid M h j am=>am.elim) (λM t h j todo bc am=>am.elim) MI Q
 obtain⟨cD,cp⟩:=am
 refine kn cG ?_
 rw[BR]
 show Hi (fO C br bz bO v) C [.code body] ⟨fn,n,av,[],false,some l,cs⟩ t h j=some v
 unfold Hi
 simp only[cD,aM,eP,g8]
 refine hZ (kn cG ?_)
 rw[<-BR fn n av (some l) cs M]
 refine ew cG aD Bo false (some l) cs cs (λ_=>ay) [] _ _ _ M t _ j bp cA (λM t h j bc am=> ?_) (λid M h j am t bc=> ?_) (λM t h j todo bc am=> ?_) bc cp
 ·refine kn cG ?_
  rw[BR]
  show n6 none (fO C br bz bO v) C [] ⟨fn,n,av,[],false,some l,cs⟩ t h j=some v
  exact So aM rfl rfl rfl am fZ
 ·rw[BR]
  show n6 (some (.exit id)) (fO C br bz bO v) C (.code (.exit id)::[]) ⟨fn,n,av,[],false,some l,cs⟩ t h j=some v
  exact So aM rfl rfl rfl am fZ
 ·rw[BR]
  exact So aM rfl rfl rfl am fZ
def Pj:∀c:Code,Oq C fn n av c:=by
 intro c
 induction c with
 |skip=>intro br dR d3 cG bz bO v aD bN aG ro cs c8 ay B ai J r M t h j bp cA iM bx Z bc a;exact hZ (iM _ _ _ _ bc a)
 |region id ax d=>
  intro br dR d3 cG bz bO v aD bN aG ro cs c8 ay B ai J r M t h j bp cA iM bx Z bc a
  cases d with
  |false=>
   obtain⟨am,Q,U⟩:=su.1 (show al (Jv C n ax av) (λr=>BI C bN r.fin ai (λM=>ay (hE (dstsOf ax.toList) M)) r.rest [] M h j) from a)
   show ja (Jv C n ax av) (λr=>Oo.rec (motive:=λ_=>d5) (λrest fin=>yV rest ⟨fO C br bz bO v,ax,fin,B,fp bN fn n av aG ro cs c8 M⟩ C t [] h j) r)=some v
   rw[Q]
   exact awJ cG aD bp iM cA _ _ _ _ _ bc U
  |true=>
   obtain⟨am,Q,U⟩:=su.1 (show al (Ju C n ax av) (λr=>eV (j+ax.size) λau=>Px C bN.rd j r.fin M ai (ay (hE (dstsOf ax.toList) M)) r.kY [] h au) from a)
   show ja (Ju C n ax av) (λr=>On.rec (motive:=λ_=>d5) (λkY fin=>p9 j λj=>xZ (fO C br bz bO v) C ax j [] kY fin B (fp bN fn n av aG ro cs c8 M) t h (j+ax.size)) r)=some v
   rw[Q]
   show p9 j (λj=>xZ (fO C br bz bO v) C ax j [] am.kY am.fin B (fp bN fn n av aG ro cs c8 M) t h (j+ax.size))=some v
   rw[lS]
   exact alJ cG aD bp bc iM cA _ _ _ _ U.out
 |seq K b ms hu=>
  intro br dR d3 cG bz bO v aD bN aG ro cs c8 ay B ai J r M t h j bp cA iM bx Z bc a
  refine ms cG aD bN aG ro cs c8 ay (.code b::B) (wi C n av b bN ay ai J r) J r M t h j bp cA (λM t h j bc a=> ?_) (λid M h j a t bc=> ?_) Z bc a
  ·exact kn cG (hu cG aD bN aG ro cs c8 ay B ai J r M t h j bp cA iM bx Z bc a)
  ·rw[La (by simp[exitTo])]
   exact bx id M h j a t bc
 |cond c K b ms hu=>
  intro br dR d3 cG bz bO v aD bN aG ro cs c8 ay B ai J r M t h j bp cA iM bx Z bc a
  obtain⟨ae,Q,U⟩:=hn (aw:=[]) (b3:=[]) bc (show eL [] [] M c _ from a)
  obtain⟨N4,rfl,ar,aK⟩:=WO U.out
  have bH:wp t c=some (.bool N4):=by
   cases c<;>first|(simp[iX,wp]at Q;done)|simpa[iX,wp]using Q
  show Hr c t (t8 K (fO C br bz bO v) C B (fp bN fn n av aG ro cs c8 M) t h j) (t8 b (fO C br bz bO v) C B (fp bN fn n av aG ro cs c8 M) t h j)=some v
  simp only[Hr,od,bH]
  cases N4 with
  |true=>exact ms cG aD bN aG ro cs c8 ay B ai J r M t h j bp cA iM bx Z bc (ar rfl)
  |false=>exact hu cG aD bN aG ro cs c8 ay B ai J r M t h j bp cA iM bx Z bc (aK rfl)
 |block id b hu=>
  intro br dR d3 cG bz bO v aD bN aG ro cs c8 ay B ai J r M t h j bp cA iM bx Z bc a
  refine hu cG aD bN aG ro cs c8 ay (.inBlock id::B) ai (Co id ai J) r M t h j bp cA (λM t h j bc a=>kn cG (hZ (iM M t h j bc a))) (λtq M h j a t bc=> ?_) Z bc a.out
  unfold Co at a
  rw[hD]at a
  by_cases Fl:id=tq
  ·rw[Zq Fl]at a
   have bD:exitTo tq (.inBlock id::B)=some B:=by simp[exitTo,Fl,hD]
   unfold Az
   rw[bD]
   exact hZ (iM M t h j bc a)
  ·rw[Zg Fl]at a
   rw[La (by simp[exitTo,hD,Fl])]
   exact bx tq M h j a t bc
 |loop b hu=>
  intro br dR d3 cG bz bO v aD bN aG ro cs c8 ay B ai J r M t h j bp cA iM bx Z bc a
  obtain⟨rE,⟨m,Rp⟩,oF⟩:=(show fJ (λOV=>wi C n av b bN ay OV J r) M h j from a).out
  have SF:∀m M t h j,rE m M h j->gY M t->t8 b (fO C br bz bO v) C (.inLoop b::B) (fp bN fn n av aG ro cs c8 M) t h j=some v:=by
   intro m
   induction m using Nat.strongRecOn with
   |ind m pJ=>
    intro M t h j Rp bc
    refine hu cG aD bN aG ro cs c8 ay (.inLoop b::B) _ J r M t h j bp cA (λM t h j bc a=> ?_) (λid M h j a t bc=> ?_) Z bc (oF m M h j Rp)
    ·obtain⟨gm,c1,uH⟩:=a
     exact kn cG (pJ gm c1 M t h j uH bc)
    ·rw[La (by simp[exitTo])]
     exact bx id M h j a t bc
  exact SF m M t h j Rp bc
 |rangeFunc f params assign body ms hu=>
  intro br dR d3 cG bz bO v aD bN aG ro cs c8 ay B ai J r M t h j bp cA iM bx Z bc a
  have a:=(show bP bN.bd (PH f M λmh=>DL C n mh params.toList (sz C (wi C n av assign) (wi C n av body)) ai J r ay M h j) False from a)
  cases lV:bN.bd with
  |false=>rw[lV]at a;exact a.elim
  |true=>
   rw[lV]at a
   have jL:=bp.bd lV
   subst jL
   obtain⟨mh,Q,U⟩:=hn (aw:=[]) (b3:=[]) bc (show eL [] [] M f _ from a)
   have bH:wp t f=some mh:=by
    cases f<;>first|(simpa[iX,wp]using Q)|(simp[iX]at Q;subst Q;rfl)
   have Rl:=U.low
   have Ft:=U.out
   have gj:∀M:dS,fp bN fn n av aG none cs c8 M=⟨fn,n,av,M.bd,aG,none,bP M.rc c8 cs⟩:=λM=>by unfold fp;rw[lV];rfl
   have L2:jV C (j+1)=true:=O7 Zo
   show JQ f params assign body (fO C br bz bO v) C B (fp bN fn n av aG none cs c8 M) t h j=some v
   rw[gj]
   unfold JQ
   rw[bH]
   cases mh with
   |func g first fH=>
    cases g with
    |func g=>
     simp only[lS]
     have Ft:=Ft (λst p=> .loop st p fn n av t params.toList assign body j) ?_
     ·refine Ft br dR d3 cG bz bO v aD _ (λae T au am=> ?_) (λae T au am=> ?_)
      ·obtain⟨st,p,cD,cp,dF⟩:=am
       show(match oC (.inRangeFunc (j+1)) ae with
        |some hv=>fO C br bz bO v .run (hv::B) ⟨fn,n,av,⟨.collected j,[]⟩::M.bd,aG,none,bP M.rc c8 cs⟩ t T au
        |none=>none)=some v
       refine hZ (kn cG ?_)
       show EP (j+1) (fO C br bz bO v) C B ⟨fn,n,av,⟨.collected j,[]⟩::M.bd,aG,none,bP M.rc c8 cs⟩ t T au=some v
       have bD:EP (j+1) (fO C br bz bO v) C B ⟨fn,n,av,⟨.collected j,[]⟩::M.bd,aG,none,bP M.rc c8 cs⟩ t T au=fO C br bz bO v .run ((p.map dV.code).toList++B) ⟨fn,n,av,⟨.collected j,[]⟩::M.bd,aG,none,bP M.rc c8 cs⟩ t (bn C T (j+1) (some (.loop .exhausted p fn n av t params.toList assign body j))) au:=by
        unfold EP
        rw[cp]
        cases st with
        |busy=>exact absurd rfl cD
        |_=>simp only[L2,eP,g8]
       rw[bD]
       have du:=gj (vg M j)
       have ea:(⟨fn,n,av,⟨.collected j,[]⟩::M.bd,aG,none,bP M.rc c8 cs⟩:h9)=fp bN fn n av aG none cs c8 (vg M j):=du.symm
       rw[ea]
       have FG:gY (vg M j) t:=bc
       cases p with
       |none=>exact hZ (iM _ _ _ _ FG dF)
       |some c=>
        refine hZ (kn cG ?_)
        unfold adY at dF
        cases c with
        |exit id=>exact bx id _ _ _ dF t FG
        |ret=>exact Z _ _ _ _ _ FG dF
        |_=>exact dF.elim
      ·refine hZ ?_
       have ea:(⟨fn,n,av,⟨.collected j,[]⟩::M.bd,aG,none,bP M.rc c8 cs⟩:h9)=fp bN fn n av aG none cs c8 (vg M j):=(gj (vg M j)).symm
       have:=cA (vg M j) t ae T au (.inRangeFunc (j+1)::B) bc am
       rw[<-ea]at this
       exact this
     ·
      intro args a2 DC y7 eA aC bn mE xA mb PE eM qT Kb k8 Pn fZ iI
      exact awr ms hu PE k8 aC L2 bc fZ iI bn
    |_=>exact Ft.elim
   |_=>exact Ft.elim
 |exit id=>
  intro br dR d3 cG bz bO v aD bN aG ro cs c8 ay B ai J r M t h j bp cA iM bx Z bc a
  exact bx id M h j a t bc
 |scope b hu=>
  intro br dR d3 cG bz bO v aD bN aG ro cs c8 ay B ai J r M t h j bp cA iM bx Z bc a
  refine hu cG aD bN aG ro cs c8 ay (.inScope b::B) ai J r M t h j bp cA (λM t h j bc a=>kn cG (hZ (iM M t h j bc a))) (λid M h j a t bc=> ?_) Z bc a
  rw[La (by simp[exitTo])]
  exact bx id M h j a t bc
 |label l=>intro br dR d3 cG bz bO v aD bN aG ro cs c8 ay B ai J r M t h j bp cA iM bx Z bc a;exact hZ (iM _ _ _ _ bc a)
 |goto l=>intro br dR d3 cG bz bO v aD bN aG ro cs c8 ay B ai J r M t h j bp cA iM bx Z bc a;exact a.elim
 |ret=>
  intro br dR d3 cG bz bO v aD bN aG ro cs c8 ay B ai J r M t h j bp cA iM bx Z bc a
  exact Z _ _ _ _ _ bc a
 |refuse s=>intro br dR d3 cG bz bO v aD bN aG ro cs c8 ay B ai J r M t h j bp cA iM bx Z bc a;exact a.elim
end
def OY(args:List F):gY (cS args) (V.ofList args 0 .nil):=by
 intro n v a
 rw[kw]
 simpa[cS]using a
section
variable{C:aZ}{dR:c6}{d3:Nat->Prop}{br:World}{bz:Nat}{bO:List Frame}{v:F}{fn:Nat}{s2:Func}{n av:Nat}{aG:Bool}{cs:List gH}
def NK(cG:Env C br dR d3)(aD:F.same 30 v v=true)(ch:C.P.funcs[fn]? =some s2){bu:bI}(fZ:∀ae h j,bu ae h j->sR (fO C br bz bO v) aG cs ae h j=some v){M:dS}{t:V F}(bc:gY M t):
 ∀(ds:List hA) (h:V an) (j:Nat) (todo:List dV),mZ C s2.results.toList bu M ds h j->nB C br bz bO .returning todo ⟨fn,n,av,ds,aG,none,cs⟩ t h j v:=by
 intro ds
 induction ds with
 |nil=>
  intro h j todo a
  obtain⟨bo,Q,U⟩:=av8 bc (show qC C h M s2.results.toList (λbo=>bu (one bo) h j) from a)
  refine kn cG ?_
  show J2 todo (fO C br bz bO v) C ⟨fn,n,av,[],aG,none,cs⟩ t h j=some v
  simp only[J2,ch,Q]
  exact fZ _ _ _ U
 |cons d ds ak=>
  intro h j todo a
  obtain⟨J7,ct⟩:=d
  refine kn cG ?_
  show xr ⟨J7,ct⟩ ds .returning todo (fO C br bz bO v) C ⟨fn,n,av,[],aG,none,cs⟩ t h j=some v
  cases J7 with
  |collected r=>
   have a:=(show No C r h (mZ C s2.results.toList bu M ds (bn C h r (some (.deferred none))) j) from a)
   simp only[xr,a.here,show jV C r=true from O7 a.low,eP,g8,YH]
   exact hZ (ak _ _ _ a.go)
  |fn g cap=>
   have a:=(show s0 C g (ct++cap) none h j (λ_ h j=>mZ C s2.results.toList bu M ds h j) from a).out
   split at a
   ·rename_i f
    obtain⟨Q,⟨wt,c,U,ar⟩,aK⟩:=a
    simp only[xr,Al,rK,Q,U,ar]
    exact aK br dR d3 cG bz bO v aD fn n av t todo ds aG none cs λb T au am=>hZ (ak _ _ _ am)
   ·exact a.elim
def adU(cG:Env C br dR d3)(aD:F.same 30 v v=true)(ch:C.P.funcs[fn]? =some s2){bu eo:bI}(fZ:∀ae h j,bu ae h j->sR (fO C br bz bO v) aG cs ae h j=some v)(iI:∀ae h j,eo ae h j->Kt C br bz bO v cs ae h j){M:dS}{t:V F}(bc:gY M t)(ae:F):
 ∀(ds:List hA) (h:V an) (j:Nat) (todo:List dV),vm C s2.results.toList bu eo M ae ds h j->nB C br bz bO (.panicking [⟨ae,false⟩]) todo ⟨fn,n,av,ds,aG,none,cs⟩ t h j v:=by
 intro ds
 induction ds with
 |nil=>
  intro h j todo a
  refine kn cG ?_
  have:=iI ae h j a
  show J1 [⟨ae,false⟩] todo (fO C br bz bO v) C ⟨fn,n,av,[],aG,none,cs⟩ t h j=some v
  cases cs with
  |nil=>exact this.elim
  |cons c rest=>exact this
 |cons d ds ak=>
  intro h j todo a
  obtain⟨J7,ct⟩:=d
  refine kn cG ?_
  show xr ⟨J7,ct⟩ ds (.panicking [⟨ae,false⟩]) todo (fO C br bz bO v) C ⟨fn,n,av,[],aG,none,cs⟩ t h j=some v
  cases J7 with
  |collected r=>
   have a:=(show No C r h (vm C s2.results.toList bu eo M ae ds (bn C h r (some (.deferred none))) j) from a)
   simp only[xr,a.here,show jV C r=true from O7 a.low,eP,g8,YH]
   exact hZ (ak _ _ _ a.go)
  |fn g cap=>
   have a:=(show s0 C g (ct++cap) (some ae) h j (λb h j=>bP b (mZ C s2.results.toList bu M ds h j) (vm C s2.results.toList bu eo M ae ds h j)) from a).out
   split at a
   ·rename_i f
    obtain⟨Q,⟨wt,c,U,ar⟩,aK⟩:=a
    simp only[xr,Al,rK,Q,U,ar]
    refine aK br dR d3 cG bz bO v aD fn n av t todo ds aG none cs λb T au am=> ?_
    cases b with
    |true=>exact hZ (NK cG aD ch fZ bc ds T au todo am)
    |false=>exact hZ (ak _ _ _ am)
   ·exact a.elim
end
def PT{C:aZ}{f d2:Nat}(aB:cU C f d2=true):∃fn c,C.P.funcs[f]? =some fn/\fn.body=some c/\(Nat.ble d2 fn.ntmps&&lu C (Nat.lor (j4 c) (nv fn.results.toList)) c&&yS (Nat.lor (j4 c) (nv fn.results.toList)) fn.results.toList)=true:=by
 unfold cU at aB
 split at aB
 ·rename_i fn ch
  split at aB
  ·rename_i c aj;exact⟨fn,c,ch,aj,aB⟩
  ·cases aB
 ·cases aB
def F1{ak:hp}{C:aZ}{fn n av:Nat}{bd:List hA}{aG:Bool}{cs:List gH}{todo:List dV}{M:V F}{h:V an}{j:Nat}{aa:Option Code}(bG:R6 aa=true):n6 aa ak C todo ⟨fn,n,av,bd,aG,none,cs⟩ M h j=ak .returning todo ⟨fn,n,av,bd,aG,none,cs⟩ M h j:=by
 simp only[n6,bG,eP]
def GX(fn n av:Nat)(aG:Bool)(ro:Option Nat)(cs:List gH)(M:dS):fp F9 fn n av aG ro cs cs M=⟨fn,n,av,[],aG,ro,cs⟩:=by
 unfold fp F9
 cases M.rc<;>rfl
def GY(fn n av:Nat)(aG:Bool)(ro:Option Nat)(cs:List gH)(M:dS):fp yL fn n av aG ro cs cs M=⟨fn,n,av,M.bd,aG,ro,cs⟩:=by
 unfold fp yL
 cases M.rc<;>rfl
def amO{C:aZ}{f:Nat}{args:List F}{h:V an}{j:Nat}{bu eo:bI}(aB:cU C f args.length=true)(a:dh C f args h j bu eo):tO C f args h j bu eo:=by
 intro br dR d3 cG bz bO v aD cs fZ iI
 obtain⟨fn,c,ch,aj,lU⟩:=PT aB
 unfold dh at a
 simp only[ch,aj]at a
 unfold nM
 simp only[ch,aj,lS,lU,eP]
 have bp:Ad F9 false none cs cs:=⟨λ_=>rfl,λa=>(by cases a),λa=>(by cases a),λae a=>(by cases a)⟩
 have sc:∀M t h j todo,gY M t->qC C h M fn.results.toList (λbo=>bu (one bo) h j)->
  nB C br bz bO .returning todo (fp F9 f fn.ntmps (Nat.lor (j4 c) (nv fn.results.toList)) false none cs cs M) t h j v:=by
  intro M t h j todo bc a
  rw[GX]
  exact NK cG aD ch (λae h j am=>fZ ae h j am) bc [] h j todo a
 refine hZ (kn cG ?_)
 rw[<-GX f fn.ntmps (Nat.lor (j4 c) (nv fn.results.toList)) false none cs (cS args)]
 refine Pj c cG aD F9 false none cs cs _ [] _ _ _ _ _ h j bp (λM t ae h j todo bc a=> ?_) (λM t h j bc a=> ?_) (λid M h j a=>a.elim) (λM t h j todo bc a=> ?_) (OY args) a
 ·rw[GX]
  exact adU (s2:=fn) (bu:=bu) cG aD ch (λae h j am=>fZ ae h j am) (λae h j am=>iI ae h j am) bc ae [] h j todo a
 ·refine kn cG ?_
  have:=sc M t h j [] bc a
  rw[GX]at this ⊢
  show n6 none (fO C br bz bO v) C [] ⟨f,fn.ntmps,Nat.lor (j4 c) (nv fn.results.toList),[],false,none,cs⟩ t h j=some v
  rw[F1 rfl]
  exact hZ this
 ·have:=sc M t h j todo bc a
  rw[GX]at this ⊢
  rw[F1 rfl]
  exact hZ this
def amP{C:aZ}{f:Nat}{args:List F}{h:V an}{j:Nat}{bu eo:bI}(aB:cU C f args.length=true)(a:AB C f args h j bu eo):tO C f args h j bu eo:=by
 intro br dR d3 cG bz bO v aD cs fZ iI
 obtain⟨fn,c,ch,aj,lU⟩:=PT aB
 unfold AB at a
 simp only[ch,aj]at a
 unfold nM
 simp only[ch,aj,lS,lU,eP]
 have bp:Ad yL false none cs cs:=⟨λ_=>rfl,λ_=>rfl,λa=>(by cases a),λae a=>(by cases a)⟩
 have sc:∀M t h j todo,gY M t->mZ C fn.results.toList bu M M.bd h j->
  nB C br bz bO .returning todo (fp yL f fn.ntmps (Nat.lor (j4 c) (nv fn.results.toList)) false none cs cs M) t h j v:=by
  intro M t h j todo bc a
  rw[GY]
  exact NK cG aD ch (λae h j am=>fZ ae h j am) bc M.bd h j todo a
 refine hZ (kn cG ?_)
 rw[show(⟨f,fn.ntmps,Nat.lor (j4 c) (nv fn.results.toList),[],false,none,cs⟩:h9)=fp yL f fn.ntmps (Nat.lor (j4 c) (nv fn.results.toList)) false none cs cs (cS args) from(GY f fn.ntmps (Nat.lor (j4 c) (nv fn.results.toList)) false none cs (cS args)).symm]
 refine Pj c cG aD yL false none cs cs _ [] _ _ _ _ _ h j bp (λM t ae h j todo bc a=> ?_) (λM t h j bc a=> ?_) (λid M h j a=>a.elim) (λM t h j todo bc a=> ?_) (OY args) a
 ·rw[GY]
  exact adU (s2:=fn) (bu:=bu) cG aD ch (λae h j am=>fZ ae h j am) (λae h j am=>iI ae h j am) bc ae M.bd h j todo a
 ·refine kn cG ?_
  have:=sc M t h j [] bc a
  rw[GY]at this ⊢
  show n6 none (fO C br bz bO v) C [] ⟨f,fn.ntmps,Nat.lor (j4 c) (nv fn.results.toList),M.bd,false,none,cs⟩ t h j=some v
  rw[F1 rfl]
  exact hZ this
 ·have:=sc M t h j todo bc a
  rw[GY]at this ⊢
  rw[F1 rfl]
  exact hZ this
def XV{C:aZ}{f:Nat}{args:List F}{jB:Option F}{h:V an}{j:Nat}{bu:Bool->V an->Nat->Prop}(aB:cU C f args.length=true)(a:x6 C f args jB h j bu)
 {br:World}{dR:c6}{d3:Nat->Prop}(cG:Env C br dR d3){bz:Nat}{bO:List Frame}{v:F}(aD:F.same 30 v v=true){cs c8:List gH}(bp:Ad ⟨false,false,some jB⟩ true none cs c8)
 (ao6:∀b ae h j,bu b h j->sR (fO C br bz bO v) true (bP b c8 cs) ae h j=some v):nM (fO C br bz bO v) C f args true cs h j=some v:=by
 obtain⟨fn,c,ch,aj,lU⟩:=PT aB
 unfold x6 at a
 simp only[ch,aj]at a
 unfold nM
 simp only[ch,aj,lS,lU,eP]
 have sc:∀M t h j todo,gY M t->qC C h M fn.results.toList (λ_=>bu M.rc h j)->
  nB C br bz bO .returning todo (fp ⟨false,false,some jB⟩ f fn.ntmps (Nat.lor (j4 c) (nv fn.results.toList)) true none cs c8 M) t h j v:=by
  intro M t h j todo bc a
  exact NK (bu:=λ_ h j=>bu M.rc h j) cG aD ch (λae h j am=>ao6 M.rc ae h j am) bc [] h j todo a
 refine hZ (kn cG ?_)
 refine Pj c cG aD ⟨false,false,some jB⟩ true none cs c8 _ [] _ _ _ (cS args) _ h j bp (λM t ae h j todo bc a=>a.elim) (λM t h j bc a=> ?_) (λid M h j a=>a.elim) (λM t h j todo bc a=> ?_) (OY args) a
 ·refine kn cG ?_
  show n6 none (fO C br bz bO v) C [] ⟨f,fn.ntmps,Nat.lor (j4 c) (nv fn.results.toList),[],true,none,bP M.rc c8 cs⟩ t h j=some v
  rw[F1 rfl]
  exact hZ (sc M t h j [] bc a)
 ·show n6 (some .ret) (fO C br bz bO v) C todo ⟨f,fn.ntmps,Nat.lor (j4 c) (nv fn.results.toList),[],true,none,bP M.rc c8 cs⟩ t h j=some v
  rw[F1 rfl]
  exact hZ (sc M t h j todo bc a)
def Li{C:aZ}{f:Nat}{args:List F}{jB:Option F}{h:V an}{j:Nat}{bu:Bool->V an->Nat->Prop}(aB:cU C f args.length=true)(a:x6 C f args jB h j bu):T0 C f args jB h j bu:=by
 intro br dR d3 cG bz bO v aD PS aO F8 qO TI alQ Ht Te qT fZ
 cases jB with
 |none=>
  refine XV aB a cG aD (c8:=_) ⟨λ_=>rfl,λa=>(by cases a),λa=>⟨rfl,rfl⟩,λae a=>(by cases a)⟩ (λb ae h j am=> ?_)
  have:=fZ b h j am
  cases b<;>exact this
 |some p=>
  refine XV aB a cG aD (c8:=(⟨PS,aO,F8,qO,TI,alQ, .panicking [⟨p,true⟩],Ht,Te⟩:gH)::qT) ⟨λ_=>rfl,λa=>(by cases a),λa=>(by cases a),λae a=> ?_⟩ (λb ae h j am=> ?_)
  ·simp only[Zf]at a
   subst a
   exact⟨rfl,rfl⟩
  ·have:=fZ b h j am
   cases b<;>exact this
def akY{C:aZ}{br:World}{dR:c6}{d3:Nat->Prop}(cG:Env C br dR d3){f:Nat}{args:List F}{v:F}(aD:F.same 30 v v=true)(h0:es d3 args)
 (a:tO C f args .nil C.a8 (λae _ _=>ae=v) (λ_ _ _=>False)):Calls C.P f (bY dR args).toArray br λJ bW=>(∃R,J= .returned (aQ R v))/\Below br.heap.size br bW:=by
 intro qT
 have bT:Ends C br f qT v (lone (Frame.enter C.P f (bY dR args).toArray .normal) qT br):=
  K6 Wq cG.base (Below.refl _ _) cG.hK (Zi _) .nil (λ_=>rfl) h0
   (a br dR d3 cG f qT v aD [] (λae T au J=>by subst J;rfl) (λae T au J=>J.elim))
 obtain⟨R,bW,fr,bD,cF,fx,jh⟩:=bT
 exact⟨.returned (aQ R v),bW,fr,⟨⟨R,rfl⟩,jh⟩,bD,fx,cF⟩
end
end Go.bi

