/- A part of the proof of the claim's last text: what it is used for is said there; no condition of its own. -/
import Derived.Test.YtpfajohmofnkfaaGreatDoorYe
set_option maxHeartbeats 8000000
set_option linter.all false
namespace Go.bg
noncomputable section
open Go.RowKit (Below)
def xd(b8:Nat)(W:Nat->List H->Option H)(f:Nat)(args:List H):Option H:=
 bR (Nat.beq f b8) (match args with
  |[.str s]=>bR (xH s&&Nat.ble s.length 281474976710656) (some (.str s)) none
  |_=>none) (W f args)
section
variable{P:Program}{w:World}
def acW{b8 f:Nat}{W:Nat->List H->Option H}{args:List H}{v:H}(a:xd b8 W f args=some v):
 (f=b8/\∃s,args=[.str s]/\v= .str s/\(∀x∈s,x<256)/\s.length<=281474976710656)\/W f args=some v:=by
 unfold xd at a
 rw[hB]at a
 split at a
 ·rename_i F
  split at a
  ·rename_i s
   simp only[eY,Zn,Zf]at a
   exact .inl ⟨F,s,rfl,a.2.symm,OH a.1.1,jb a.1.2⟩
  ·simp at a
 ·exact .inr a
def Env.arm{nm:List (String×Nat)}(iy:Ag P nm){laid:List (String×DataW Unit)}{W:Nat->List H->Option H}{b8:Nat}{fn:Func}{c:Code}(ce:P.funcs[b8]? =some fn)(aK:(fn.name== "runtime.NumGoroutine")=false)(ai:fn.body=some c)
 (am2:∀(s:ByteArray) (w:World),s.size<=281474976710656->Calls P b8 #[.string s] w λF bV=>F= .returned (.string s)/\Below w.heap.size w bV)(a:laidMet P laid w){dK:c6}{d4:Nat->Prop}
 (cG:Env ⟨P,m8 (gX P nm laid P.globals.size).2 .nil,(gX P nm laid P.globals.size).1,W,P.globals.size⟩ w dK d4):
 ∃Q ae,Env ⟨P,m8 (gX P nm laid P.globals.size).2 .nil,(gX P nm laid P.globals.size).1,xd b8 W,P.globals.size⟩ w Q ae:=by
 obtain⟨Q,ae,ar,aO⟩:=RT (g6:=xd b8 W) iy a
 refine⟨Q,ae,cG.kc,⟨λf args v bf=> ?_,λf args v bf Q mL nn=> ?_⟩,ar,aO⟩
 ·rcases acW bf with ⟨rfl,s,rfl,rfl,aI,_⟩|bf
  ·exact⟨⟨λ_ _=>rfl,λ_=>aI⟩,λ_ _=>rfl,λ_=>⟨aI,trivial⟩⟩
  ·exact cG.g6.val f args v bf
 ·rcases acW bf with ⟨rfl,s,rfl,rfl,aI,aB⟩|bf
  ·right
   have Mj:¬fn.name= "runtime.NumGoroutine":=by simpa using aK
   refine⟨by simp[callFunc,ce,Mj,ai], ?_⟩
   have:=am2 (fX s) mL (by simpa[fX,ByteArray.size]using aB)
   exact this
  ·exact cG.g6.ok f args v bf Q mL nn
end
end
end Go.bg

namespace Go.bg
noncomputable section
open Go.RowKit (Below)
def adM(C:aW):List (Nat×ak)->S ak->S ak
 |[],K=>K
 |(b,W)::l,K=>adM C l (bm C K b (some W))
def pick(C:aW)(h:S ak):List Nat->List (Nat×ak)
 |[]=>[]
 |b::l=>match aa C h b with|some W=>(b,W)::pick C h l|none=>pick C h l
def WM(C:aW):List Nat->Bool
 |[]=>true
 |b::l=>kt C b&&WM C l
def aq3(C:aW)(L:List Nat)(h:S ak):S ak:=adM C (pick C h L) .nil
def atr(todo:List dN):Bool:=match todo with| .drawn .. ::_=>false|_=>true
def acN:List gC->Bool
 |[]=>true
 |c::l=>(match c with|⟨_,_,_,_,todo,_,_,_,_⟩=>(match todo with| .y6 .. ::_=>false|_=>true))&&acN l
def Lm(C:aW)(L:List Nat)(b:hm):hm:=λbM todo b8 K h j=>match b8 with
 |⟨fn,n,aq,bb,aD,ro,cs⟩=>bR (atr todo&&acN cs&&WM C L) (b bM todo ⟨fn,n,aq,bb,aD,ro,cs⟩ K (aq3 C L h) j) none
section
variable{C:aW}{Q dK:c6}{ae d4:Nat->Prop}{h T:S ak}{j bi:Nat}{w:World}
variable{bo:World}{bv:Nat}{bO:List Frame}{v:H}{b:hm}
def nC(C:aW)(bo:World)(bv:Nat)(bO:List Frame)(bM:kN)(todo:List dN)(b8:h9)(K:S H)(h:S ak)(j:Nat)(v:H):Prop:=
 ∀Q ae w cX tmps bq ap,B3 C bo bv bO bM todo b8.fn b8.n b8.aq b8.bb b8.aD b8.ro b8.cs K h j Q ae w cX tmps bq ap->Ends C bo bv bO v (lone (co Q b8.fn b8.bb b8.aD b8.ro tmps bq (gG Q bM)) ap w)
open Classical in
def only(yI:kN)(S5:List dN)(kP:h9)(qN:S H)(aX:S ak)(DF:Nat)(v:H):hm:=λbM todo b8 K h j=>
 if bM=yI/\todo=S5/\b8=kP/\K=qN/\h=aX/\j=DF then some v else none
end
end
end Go.bg

namespace Go.bg
noncomputable section
open Go.RowKit (Below)
def low(ae:Nat->Prop)(N:Nat)(b:Nat):Prop:=ae b/\b<N
section
variable{ae:Nat->Prop}{N:Nat}
end
end
end Go.bg

namespace Go.bg
noncomputable section
open Go.RowKit (Below)
section
variable{C:aW}{Q dK:c6}{ae d4:Nat->Prop}{h T:S ak}{j bi N:Nat}{w:World}
variable{bo:World}{bv g:Nat}{bO:List Frame}{v:H}{b:hm}
open Classical in
def fL(C:aW)(bo:World)(bv:Nat)(bO:List Frame)(v:H):hm:=λbM todo b8 K h j=>if nC C bo bv bO bM todo b8 K h j v then some v else none
def VM:nc C bo bv bO (fL C bo bv bO v):=by
 intro bM todo fn n aq bb aD ro cs K h j ad bc Q ae w cX tmps bq ap df
 unfold fL at bc
 split at bc
 ·rename_i a
  simp at bc;subst bc
  exact a Q ae w cX tmps bq ap df
 ·cases bc
def h1{bM:kN}{todo:List dN}{b8:h9}{K:S H}(a:nC C bo bv bO bM todo b8 K h j v):fL C bo bv bO v bM todo b8 K h j=some v:=by
 unfold fL
 rw[Zq a]
def alK{eJ:dN}{D:List dN}{b8:h9}{K:S H}(aI:H.same 30 v v=true):∀l:List (H×S ak),l≠[]->(∀ad T,(ad,T)∈l->∃hs,oA eJ ad=some hs/\nC C bo bv bO .run (hs::D) b8 K T j v)->
 x4 (fL C bo bv bO v) eJ D b8 K j l=some v:=by
 intro l
 induction l with
 |nil=>intro a;exact absurd rfl a
 |cons p l mZ=>
  obtain⟨ad,T⟩:=p
  intro _ jP
  obtain⟨hs,R,U⟩:=jP ad T (Zw ..)
  cases l with
  |nil=>simp only[x4,R];exact h1 U
  |cons an l=>
   have al:=mZ Zs (λad T a=>jP ad T (Zu _ a))
   simp only[x4,R,h1 U]
   rw[al]
   simp only[aI,e2]
end
end
end Go.bg

namespace Go.bg
noncomputable section
open Go.RowKit (Below)
abbrev bG:=H->S ak->Nat->Prop
structure dL where
 g:Nat->Option H
 bb:List hy:=[]
 rc:Bool:=false
instance:CoeFun dL (λ_=>Nat->Option H):=⟨dL.g⟩
def ab(K:dL)(d:Nat)(v:H):dL:=⟨λn=>bR (Nat.beq d n) (some v) (K.g n),K.bb,K.rc⟩
def hC(l:List Nat)(K:dL):dL:=⟨λn=>bR (n8 n l) none (K.g n),K.bb,K.rc⟩
def yT(K:dL)(d:hy):dL:=⟨K.g,d::K.bb,K.rc⟩
def NJ(K:dL):dL:=⟨K.g,K.bb,true⟩
abbrev gn:=dL->S ak->Nat->Prop
abbrev rJ:=dL->bG
structure tR where
 rd:Bool
 bb:Bool
 jE:Option (Option H)
def aj{α:Type}(W:Option α)(ah:α->Prop):Prop:=Option.rec (motive:=λ_=>Prop) False (λJ=>ah J) W
def as3{α:Type}{W:Option α}{ah:α->Prop}{J:α}(a:W=some J)(D:ah J):aj W ah:=by subst a;exact D
def sw{α:Type}{W:Option α}{ah:α->Prop}:aj W ah↔∃J,W=some J/\ah J:=by
 cases W with
 |none=>simp[aj]
 |some J=>simp[aj]
structure B{α:Type}(W:Option α)(ah:α->Prop):Prop where
 out:aj W ah
def as4{α:Type}(W:Option α)(ah:α->Prop):B W ah=aj W ah:=propext ⟨λa=>a.out,λa=>⟨a⟩⟩
def fE{α:Type}{W:Option α}{ah:α->Prop}{J:α}(a:W=some J)(D:ah J):B W ah:=⟨as3 a D⟩
def kD{α:Type}{W:Option α}{ah:α->Prop}:B W ah↔∃J,W=some J/\ah J:=by rw[as4];exact sw
def ajG(v:H)(J b:Prop):Prop:=H.rec (motive_1:=λ_=>Prop) (motive_2:=λ_=>Prop)
 (λt=>(t=true->J)/\(t=false->b)) (λ_ _=>False) (λ_=>False) (λ_ _=>False) False (λ_ _ _ _=>False) (λ_ _ _ _=>False) False (λ_=>False) False
 (λ_ _ _ _ _=>False) False (λ_ _ _=>False) False (λ_ _=>False) (λ_ _=>False) False (λ_ _ _ _=>False) v
structure aV(v:H)(J b:Prop):Prop where
 out:ajG v J b
def Wa{v:H}{J b:Prop}(a:aV v J b):∃t,v= .bool t/\(t=true->J)/\(t=false->b):=by
 have a:=a.out
 cases v with
 |bool t=>exact⟨t,rfl,a⟩
 |_=>exact a.elim
def amJ(lu:Bool)(v:H)(J b:Prop):Prop:=H.rec (motive_1:=λ_=>Prop) (motive_2:=λ_=>Prop)
 (λt=>(t=lu->J)/\(t=(!lu)->b)) (λ_ _=>b) (λ_=>b) (λ_ _=>b) b (λ_ _ _ _=>b) (λ_ _ _ _=>b) b (λ_=>b) b
 (λ_ _ _ _ _=>b) b (λ_ _ _=>b) b (λ_ _=>b) (λ_ _=>b) b (λ_ _ _ _=>b) v
structure ix(lu:Bool)(v:H)(J b:Prop):Prop where
 out:amJ lu v J b
structure oS(dX:bG)(body:bG->Prop):Prop where
 out:body dX
def aqN(dX:bG)(body:bG->Prop):oS dX body=body dX:=propext ⟨λa=>a.out,λa=>⟨a⟩⟩
structure aQ(dX:gn)(body:gn->Prop):Prop where
 out:body dX
structure cW(dX:H->Prop)(body:(H->Prop)->Prop):Prop where
 out:body dX
structure uY(dX:H->S ak->Prop)(body:(H->S ak->Prop)->Prop):Prop where
 out:body dX
def aqL(dX:H->S ak->Prop)(body:(H->S ak->Prop)->Prop):uY dX body=body dX:=propext ⟨λa=>a.out,λa=>⟨a⟩⟩
structure RD(dX:Prop)(body:Prop->Prop):Prop where
 out:body dX
def aqM(dX:Prop)(body:Prop->Prop):RD dX body=body dX:=propext ⟨λa=>a.out,λa=>⟨a⟩⟩
def ka{dX:gn}{body:gn->Prop}(ol:gn)(R:∀Y:gn,(∀K h j,ol K h j->Y K h j)->body Y)(U:∀K h j,ol K h j->dX K h j):aQ dX body:=⟨R dX U⟩
structure eZ(n:Nat)(ah:Nat->Prop):Prop where
 out:ah n
structure cO(C:aW)(h:S ak)(j:Nat)(v:H)(cR:ak)(ah:bG):Prop where
 out:ah v (bm C h j (some cR)) (j+1)
structure k4(C:aW)(h:S ak)(b:Nat)(v:H)(cR:ak)(ah:H->S ak->Prop):Prop where
 out:ah v (bm C h b (some cR))
structure xL(C:aW)(h:S ak)(b:Nat)(J:H)(ah:H->S ak->Prop):Prop where
 out:ah (.ptr b 0) (bm C h b (some (.cells (S.ofList J.cells 0 .nil) J.cells.length .own)))
structure ia(C:aW)(h:S ak)(j:Nat)(J:H)(ah:bG):Prop where
 out:ah (.ptr j 0) (bm C h j (some (.cells (S.ofList J.cells 0 .nil) J.cells.length .own))) (j+1)
section
variable(C:aW)(bo:World)(bv:Nat)(bO:List Frame)(v:H)
def Ob(cs:List gC):bG:=λad h j=>sR (fL C bo bv bO v) false cs ad h j=some v
def Ku(cs:List gC):bG:=λad h j=>match cs with
 |c::rest=>adx (fL C bo bv bO v) c rest [⟨ad,false⟩] h j=some v
 |[]=>False
end
def tP(C:aW)(f:Nat)(args:List H)(h:S ak)(j:Nat)(bs eE:bG):Prop:=
 ∀(bo:World) (dK:c6) (d4:Nat->Prop) (_:Env C bo dK d4) (bv:Nat) (bO:List Frame) (v:H) (_:H.same 30 v v=true) (cs:List gC),
  (∀ad T ao,bs ad T ao->Ob C bo bv bO v cs ad T ao)->(∀ad T ao,eE ad T ao->Ku C bo bv bO v cs ad T ao)->
  nO (fL C bo bv bO v) C f args false cs h j=some v
def tP.mono{C:aW}{f:Nat}{args:List H}{h:S ak}{j:Nat}{bs eE qJ G8:bG}(a:tP C f args h j bs eE)(gq:∀ad h j,bs ad h j->qJ ad h j)(iI:∀ad h j,eE ad h j->G8 ad h j):
 tP C f args h j qJ G8:=
 λbo dK d4 cG bv bO v aI cs R U=>a bo dK d4 cG bv bO v aI cs (λad h j an=>R ad h j (gq ad h j an)) (λad h j an=>U ad h j (iI ad h j an))
def ND(al:hm)(C:aW)(l:Nat)(args:List H)(cs:List gC)(h:S ak)(j:Nat):d6:=match aa C h l with
 |some (.loop _ _ fn n aq c1 params assign body _)=>(match xl n params args c1 with
  |some c1=>al .run [.code assign, .beginRound, .code body] ⟨fn,n,aq,[],false,some l,cs⟩ c1 h j
  |none=>none)
 |_=>none
def Aj(C:aW)(l:Nat)(args:List H)(h:S ak)(j:Nat)(bs eE:bG):Prop:=
 ∀(bo:World) (dK:c6) (d4:Nat->Prop) (_:Env C bo dK d4) (bv:Nat) (bO:List Frame) (v:H) (_:H.same 30 v v=true) (cs:List gC),
  (∀ad T ao,bs ad T ao->Ob C bo bv bO v cs ad T ao)->(∀ad T ao,eE ad T ao->Ku C bo bv bO v cs ad T ao)->
  ND (fL C bo bv bO v) C l args cs h j=some v
def Aj.mono{C:aW}{l:Nat}{args:List H}{h:S ak}{j:Nat}{bs eE qJ G8:bG}(a:Aj C l args h j bs eE)(gq:∀ad h j,bs ad h j->qJ ad h j)(iI:∀ad h j,eE ad h j->G8 ad h j):
 Aj C l args h j qJ G8:=
 λbo dK d4 cG bv bO v aI cs R U=>a bo dK d4 cG bv bO v aI cs (λad h j an=>R ad h j (gq ad h j an)) (λad h j an=>U ad h j (iI ad h j an))
def Tp(C:aW)(f:Nat)(args:List H)(jE:Option H)(h:S ak)(j:Nat)(bs:Bool->S ak->Nat->Prop):Prop:=
 ∀(bo:World) (dK:c6) (d4:Nat->Prop) (_:Env C bo dK d4) (bv:Nat) (bO:List Frame) (v:H) (_:H.same 30 v v=true) (fn n aq:Nat) (K:S H) (todo:List dN) (ds:List hy) (aD:Bool) (ro:Option Nat) (cs:List gC),
  (∀b T ao,bs b T ao->fL C bo bv bO v (match jE,b with|none,_=> .returning|some _,true=> .returning|some ad,false=> .panicking [⟨ad,false⟩]) todo ⟨fn,n,aq,ds,aD,ro,cs⟩ K T ao=some v)->
  nO (fL C bo bv bO v) C f args true (⟨fn,n,aq,K,todo,ds,(match jE with|none=> .returning|some ad=> .panicking [⟨ad,false⟩]),aD,ro⟩::cs) h j=some v
structure aR(C:aW)(f:Nat)(args:List H)(h:S ak)(j:Nat)(ah aw:bG):Prop where
 out:(∃ad,C.g6 f args=some ad/\ah ad h j)\/(C.g6 f args=none/\(∃fn c,C.P.funcs[f]? =some fn/\fn.body=some c)/\tP C f args h j ah aw)
structure gO(W:Option ea)(h:S ak)(j:Nat)(ah:bG):Prop where
 out:match W with
 |some (.val v)=>ah v h j
 |some (.fv v T ao)=>ah v T ao
 |_=>False
def at3(W:Option ea)(h:S ak)(j:Nat)(ah:bG):gO W h j ah=(match W with
 |some (.val v)=>ah v h j
 |some (.fv v T ao)=>ah v T ao
 |_=>False):=propext ⟨λa=>a.out,λa=>⟨a⟩⟩
def at4{W:Option ea}{h:S ak}{j:Nat}{ah:bG}{v:H}(a:W=some (.val v))(D:ah v h j):gO W h j ah:=by subst a;exact⟨D⟩
def kG{W:Option ea}{h T:S ak}{j ao:Nat}{ah:bG}{v:H}(a:W=some (.fv v T ao))(D:ah v T ao):gO W h j ah:=by subst a;exact⟨D⟩
structure EX(W:Option ea)(h:S ak)(j:Nat)(ah:bG):Prop where
 out:match W with
 |some (.val v)=>ah v h j
 |some (.fv v T ao)=>ah v T ao
 |some (.fork l)=>l≠[]/\∀ad T,(ad,T)∈l->ah ad T j
 |_=>False
def alM(W:Option ea)(h:S ak)(j:Nat)(ah:bG):EX W h j ah=(match W with
 |some (.val v)=>ah v h j
 |some (.fv v T ao)=>ah v T ao
 |some (.fork l)=>l≠[]/\∀ad T,(ad,T)∈l->ah ad T j
 |_=>False):=propext ⟨λa=>a.out,λa=>⟨a⟩⟩
def B9(C:aW)(rd:Bool)(W:Option ea)(h:S ak)(j:Nat)(ah aw:bG):Prop:=match W with
 |some (.val v)=>ah v h j
 |some (.fv v T ao)=>ah v T ao
 |some (.enter f args)=>tP C f args h j ah aw
 |some (.round l args)=>Aj C l args h j ah aw
 |some (.known _ _ v)=>ah v h j
 |some (.panic v)=>bR rd False (aw v h j)
 |some (.fork l)=>l≠[]/\∀ad T,(ad,T)∈l->ah ad T j
 |_=>False
def jv(x:ki)(au:List (Nat×H))(K:dL)(ah:H->Prop):Prop:=
 ki.rec (motive:=λ_=>Prop) (λY=>aj (et au Y) ah) (λn=>aj (K n) ah) (λJ=>ah J) x
def Lb(au:List (Nat×H))(K:dL)(l:List ki):(List H->Prop)->Prop:=
 List.rec (motive:=λ_=>(List H->Prop)->Prop) (λah=>ah []) (λx _ al ah=>jv x au K λJ=>al λr=>ah (J::r)) l
def eL(b1:List (Nat×Nat))(au:List (Nat×H))(K:dL)(W:Operand)(ah:H->Prop):Prop:=match W with
 | .tmp t=>(match et b1 t with|some Y=>aj (et au Y) ah|none=>aj (K t) ah)
 | .const v=>aj (DG v) ah
 | .global g=>ah (.ptr g 0)
 | .func f=>ah (.func (.func f) [] [])
def sv(b1:List (Nat×Nat))(au:List (Nat×H))(K:dL)(l:List Operand):(List H->Prop)->Prop:=
 List.rec (motive:=λ_=>(List H->Prop)->Prop) (λah=>ah []) (λx _ al ah=>eL b1 au K x λJ=>al λr=>ah (J::r)) l
def BE(b1:List (Nat×Nat))(au:List (Nat×H))(K:dL)(l:List (Nat×Operand)):(List (Nat×H)->Prop)->Prop:=
 List.rec (motive:=λ_=>(List (Nat×H)->Prop)->Prop) (λah=>ah []) (λx _ al ah=>eL b1 au K x.2 λJ=>al λr=>ah ((x.1,J)::r)) l
def Np(b1:List (Nat×Nat))(au:List (Nat×H))(K:dL)(W:Option Operand)(ah:Option H->Prop):Prop:=match W with
 |none=>ah none
 |some x=>eL b1 au K x λJ=>ah (some J)
def kn:Operand:= .global 0
def gH:Operand:= .global 1
def mG:Operand:= .global 2
def ko(J:H):Operand->Option H:=λ_=>some J
def two(J b:H):Operand->Option H:=λW=>match W with| .global 0=>some J|_=>some b
def ad6(J b c:H):Operand->Option H:=λW=>match W with| .global 0=>some J| .global 1=>some b|_=>some c
def FT(n bl:Nat)(J i:H):Option H:=match m1 i with|some i=>Kl n bl J i|none=>none
def dC(bl:Nat)(J i:H):Option H:=match m1 i with|some i=>BT bl J i|none=>none
def W6(C:aW)(t f:Nat)(J:H):Option H:=Jk C t kn f .nil (ko J)
def Wq(C:aW)(h:S ak)(s d:Nat)(J:H):Option H:=Jj C s d kn h (ko J)
def abE(C:aW)(t:Nat)(J:H):Option H:=Jl C t kn .nil (ko J)
def VV(C:aW)(t:Nat)(ok:Bool)(J:H):Option H:=Ji C kn t ok .nil (ko J)
def WR(C:aW)(h:S ak)(J:H):Option H:=RN C kn h (ko J)
def pV(C:aW)(h:S ak)(b:Builtin)(dg:List TypeId)(bk:List H):Option H:=match b,bk with
 | .len,[x]=>(match dg with|t::_=>KD C h t x|_=>none)
 | .cap,[x]=>(match dg with|t::_=>KA C t x|_=>none)
 | .max,x::l=>nf true x l
 | .min,x::l=>nf false x l
 |_,_=>none
def b7(C:aW)(h:S ak)(s:Nat)(J v:H):Option (S ak):=match J with
 | .ptr b W=>bR (Nat.beq v.cells.length s&&Nat.blt 0 s) (wi C h b W v.cells) none
 |_=>none
def Fh(C:aW)(h:S ak)(j:Nat)(b:Builtin)(dg:List TypeId)(bk:List H):Option ea:=match b,bk with
 | .append,[s,x]=>(match dg with
   |st::io::_=>(match C.P.underlying io with
    |some (.int _)=>(match m1 x with|some n=>KB C h j st s n|none=>none)
    |some (.slice _)=>Ep C h j st s x
    |some .string=>Ep C h j st s x
    |_=>none)
   |_=>none)
 |_,_=>none
structure ih(C:aW)(mq:H)(cp:List H)(h:S ak)(j:Nat)(ah aw:bG):Prop where
 out:match mq with
 | .func fn first fH=>(match fn with| .func f=>aR C f ((first++cp)++fH) h j ah aw| .yield l=>Aj C l (first++cp) h j ah aw|_=>False)
 |_=>False
def NL(C:aW)(t len:Nat)(dl:List (Nat×H))(b:Nat):Option (H×ak):=match C.P.underlying t with
 |some (.slice eg)=>(match i1 C eg,sM C eg with
  |some s,some br=>bR (Nat.ble (len*s) 16777216&&Nat.beq br.cells.length s) ((match AB (λi=>some (i*s,s)) (kF len br.cells) dl with
    |some cs=>some (H.slice b 0 len len,ak.cells (S.ofList cs 0 .nil) cs.length .own)
    |none=>none))<|none
  |_,_=>none)
 |_=>none
structure vp(aw:bG)(J:H)(h:S ak)(j:Nat):Prop where
 out:match J with| .iface t v=>aw (.iface t v) h j|_=>False
def ate(aw:bG)(J:H)(h:S ak)(j:Nat):vp aw J h j=(match J with| .iface t v=>aw (.iface t v) h j|_=>False):=propext ⟨λa=>a.out,λa=>⟨a⟩⟩
structure acw(C:aW)(rd:Bool)(ls:H)(name:String)(cp:List H)(h:S ak)(j:Nat)(ah aw:bG):Prop where
 out:match ls with
 | .iface t v=>B9 C rd (Er C h t v name cp) h j ah aw
 |_=>False
def ar8(C:aW)(rd:Bool)(ls:H)(name:String)(cp:List H)(h:S ak)(j:Nat)(ah aw:bG):acw C rd ls name cp h j ah aw=(match ls with
 | .iface t v=>B9 C rd (Er C h t v name cp) h j ah aw
 |_=>False):=propext ⟨λa=>a.out,λa=>⟨a⟩⟩
def acg(b1:List (Nat×Nat))(W:Op):aW->S ak->List (Nat×H)->dL->(H->Prop)->Prop:=match W with
 | .build t jU=>λC _ au K ah=>BE b1 au K jU.toList λdl=>B (Kz C t dl) ah
 | .binOp op t x e _=>λC h au K ah=>eL b1 au K x λJ=>eL b1 au K e λb=>B (dj C h op t (ql x||ql e) J b) ah
 | .unOp op _ x=>λ_ _ au K ah=>eL b1 au K x λJ=>B (fz op J) ah
 | .convert s d x=>λC h au K ah=>eL b1 au K x λJ=>B (Wq C h s d J) ah
 | .makeInterface t x=>λC _ au K ah=>eL b1 au K x λJ=>B (abE C t J) ah
 | .makeFunc fn first fH=>λ_ _ au K ah=>(match fn with
   | .func f=>sv b1 au K first.toList λJ=>sv b1 au K fH.toList λb=>ah (.func (.func f) J b)
   |_=>False)
 | .slice t x bT aM gN=>λC h au K ah=>eL b1 au K x λJ=>Np b1 au K bT λl=>Np b1 au K aM λa=>Np b1 au K gN λm=>B (KF C h t J l a m) ah
 | .field t x f=>λC _ au K ah=>eL b1 au K x λJ=>B (W6 C t f J) ah
 | .index t x i=>λC _ au K ah=>eL b1 au K x λJ=>eL b1 au K i λb=>B (KC C t J b) ah
 | .lookup t m D ok=>λC h au K ah=>eL b1 au K m λJ=>eL b1 au K D λb=>B (KE C h t J b ok) ah
 | .typeAssert x _ t ok=>λC _ au K ah=>eL b1 au K x λJ=>B (VV C t ok J) ah
 | .entry eJ=>λC h au K ah=>eL b1 au K eJ λJ=>B (WR C h J) ah
 | .call c=>λC h au K ah=>(match c with
   |⟨.builtin b,args,dg⟩=>sv b1 au K args.toList λbk=>B (pV C h b dg.toList bk) ah
   |_=>False)
 |_=>λ_ _ _ _ _=>False
def F5(op:jF):aW->S ak->List (Nat×H)->dL->(H->Prop)->Prop:=match op with
 | .Dv x=>λ_ _ au K ah=>jv x au K ah
 | .pick c J b=>λ_ _ au K ah=>jv c au K λc=>cW ah λah=>aV c (jv J au K ah) (jv b au K ah)
 | .fU J=>λC h au K ah=>jv J au K λJ=>B (am C h J) ah
 | .Bl n J=>λC h au K ah=>jv J au K λJ=>B (b6 C h n J) ah
 | .off d x=>λ_ _ au K ah=>jv x au K λJ=>B (aZ d J) ah
 | .Be n bl x i=>λ_ _ au K ah=>jv x au K λJ=>jv i au K λi=>B (FT n bl J i) ah
 | .Bf bl x i=>λ_ _ au K ah=>jv x au K λJ=>jv i au K λi=>B (dC bl J i) ah
 | .DB x=>λ_ _ au K ah=>jv x au K λJ=>B (cf J) ah
 | .I6 op x e=>λ_ _ au K ah=>jv x au K λJ=>jv e au K λb=>B (aA op J b) ah
 | .ext i x=>λ_ _ au K ah=>jv x au K λJ=>B (cN i J) ah
 | .hX b1 W=>acg b1 W
 |_=>λ_ _ _ _ _=>False
def acq(op:jF):aW->S ak->Nat->List (Nat×H)->dL->bG->Prop:=match op with
 | .make b1 W=>(match W with
   | .alloc t=>λC h b _ _ ah=>B (Ds C t (ko undef) b) λr=>cO C h b r.1 r.2 ah
   | .box _ x=>λC h b au K ah=>eL b1 au K x λJ=>ia C h b J ah
   | .buildSlice t len jU=>λC h b au K ah=>BE b1 au K jU.toList λdl=>B (NL C t len dl b) λr=>cO C h b r.1 r.2 ah
   | .makeMap _ none=>λC h b _ _ ah=>cO C h b (.map b) (.map [] 0) ah
   |_=>λ_ _ _ _ _ _=>False)
 |_=>λ_ _ _ _ _ _=>False
def Sb(op:jF):aW->S ak->Nat->List (Nat×H)->dL->(H->S ak->Prop)->Prop:=match op with
 | .make b1 W=>(match W with
   | .alloc t=>λC h b _ _ ah=>B (Ds C t (ko undef) b) λr=>k4 C h b r.1 r.2 ah
   | .box _ x=>λC h b au K ah=>eL b1 au K x λJ=>xL C h b J ah
   | .buildSlice t len jU=>λC h b au K ah=>BE b1 au K jU.toList λdl=>B (NL C t len dl b) λr=>k4 C h b r.1 r.2 ah
   | .makeMap _ none=>λC h b _ _ ah=>k4 C h b (.map b) (.map [] 0) ah
   |_=>λ_ _ _ _ _ _=>False)
 |_=>λ_ _ _ _ _ _=>False
def Qy(rd:Bool)(op:jF):aW->S ak->Nat->List (Nat×H)->dL->bG->bG->Prop:=match op with
 | .st n J v=>λC h j au K ah _=>jv J au K λJ=>jv v au K λv=>B (b7 C h n J v) λh=>ah undef h j
 | .call f args=>λC h j au K ah aw=>Lb au K args λcp=>aR C f cp h j ah aw
 | .fe b1 W=>(match W with
   | .mapUpdate t m D x=>λC h j au K ah _=>eL b1 au K m λJ=>eL b1 au K D λb=>eL b1 au K x λc=>gO (Hg C h j t J b c) h j ah
   | .insert t m D x=>λC h j au K ah _=>eL b1 au K m λJ=>eL b1 au K D λb=>eL b1 au K x λc=>gO (Hg C h j t J b c) h j ah
   | .mapEntry t m D=>λC h j au K ah _=>eL b1 au K m λJ=>eL b1 au K D λb=>gO (Ic C t kn gH h j (two J b)) h j ah
   | .entryStore _ m s x=>λC h j au K ah _=>eL b1 au K m λJ=>eL b1 au K s λb=>eL b1 au K x λc=>gO (H4 C kn gH mG h j (ad6 J b c)) h j ah
   | .makeSlice t l c=>λC h j au K ah _=>eL b1 au K l λJ=>eL b1 au K c λb=>gO (Ib C t kn gH h j (two J b)) h j ah
   | .makeMap t (some r)=>λC h j au K ah _=>eL b1 au K r λJ=>gO (Ia C t kn h j (ko J)) h j ah
   | .convert s d x=>λC h j au K ah _=>eL b1 au K x λJ=>gO (Ig C s d kn h j (ko J)) h j ah
   | .range t x=>λC h j au K ah _=>eL b1 au K x λJ=>gO (Ie C t kn h j (ko J)) h j ah
   | .next eJ yE=>λC h j au K ah _=>eL b1 au K eJ λJ=>EX (wK C kn yE h j (ko J)) h j ah
   | .panic x=>λ_ h j au K _ aw=>bR rd False (eL b1 au K x λJ=>vp aw J h j)
   | .call c=>λC h j au K ah aw=>(match c with
     |⟨.value f,args,_⟩=>eL b1 au K f λmq=>sv b1 au K args.toList λcp=>ih C mq cp h j ah aw
     |⟨.builtin b,args,dg⟩=>sv b1 au K args.toList λbk=>gO (Fh C h j b dg.toList bk) h j ah
     |⟨.invoke r name,args,_⟩=>eL b1 au K r λls=>sv b1 au K args.toList λcp=>acw C rd ls name cp h j ah aw)
   |_=>λ_ _ _ _ _ _ _=>False)
 |_=>λ_ _ _ _ _ _ _=>False
def So(rd:Bool)(op:jF)(C:aW)(h:S ak)(j:Nat)(au:List (Nat×H))(K:dL)(ah aw:bG):Prop:=match mA op with
 | .hX=>F5 op C h au K λv=>ah v h j
 | .make=>acq op C h j au K ah
 | .fe=>Qy rd op C h j au K ah aw
inductive Spec where
 |no
 |defer (b1:List (Nat×Nat)) (f:Operand) (args:List Operand)
 |recover
def DW(op:jF):Spec:=match op with
 | .fe b1 W=>(match W with
   | .defer c=>(match c with|⟨.value f,args,_⟩=> .defer b1 f args.toList|_=> .no)
   | .call c=>(match c with|⟨.builtin b,args,_⟩=>(match b,args.toList with| .recover,[]=> .recover|_,_=> .no)|_=> .no)
   |_=> .no)
 |_=> .no
def Hy(mq:H)(cp:List H)(K:dL)(ah:dL->Prop):Prop:=match mq with
 | .func fn first fH=>ah (yT K ⟨.fn fn fH,first++cp⟩)
 |_=>False
def GA(jE:Option (Option H))(K:dL)(ah:H->dL->Prop):Prop:=match jE with
 |none=>False
 |some none=>ah .nilIface K
 |some (some ad)=>bR K.rc (ah .nilIface K) (ah ad (NJ K))
def NY(g:Option (Nat×Bool))(au:List (Nat×H))(J b:Prop):Prop:=match g with
 |none=>J
 |some (Y,lu)=>aj (et au Y) λv=>ix lu v J b
def N0(g:Option (Nat×Bool))(au:List (Nat×H))(o3:bG->Prop)(dX:bG)(h:S ak)(j:Nat):Prop:=match g with
 |none=>o3 dX
 |some (Y,lu)=>oS dX λah=>aj (et au Y) λv=>ix lu v (o3 ah) (ah undef h j)
def ry(g:Option (Nat×Bool))(au:List (Nat×H))(o3:(H->S ak->Prop)->Prop)(dX:H->S ak->Prop)(h:S ak):Prop:=match g with
 |none=>o3 dX
 |some (Y,lu)=>uY dX λah=>aj (et au Y) λv=>ix lu v (o3 ah) (ah undef h)
def Te(g:Option (Nat×Bool))(au:List (Nat×H))(o3:Prop->Prop)(dX:Prop):Prop:=match g with
 |none=>o3 dX
 |some (Y,lu)=>RD dX λah=>aj (et au Y) λv=>ix lu v (o3 ah) ah
def aer(g:Option (Nat×Bool))(au:List (Nat×H))(o3:bG->Prop)(dX:bG)(h:S ak)(j:Nat):N0 g au o3 dX h j=NY g au (o3 dX) (dX undef h j):=by
 cases g with
 |none=>rfl
 |some p=>exact aqN _ _
def awk(g:Option (Nat×Bool))(au:List (Nat×H))(o3:(H->S ak->Prop)->Prop)(dX:H->S ak->Prop)(h:S ak):ry g au o3 dX h=NY g au (o3 dX) (dX undef h):=by
 cases g with
 |none=>rfl
 |some p=>exact aqL _ _
def awl(g:Option (Nat×Bool))(au:List (Nat×H))(o3:Prop->Prop)(dX:Prop):Te g au o3 dX=NY g au (o3 dX) dX:=by
 cases g with
 |none=>rfl
 |some p=>exact aqM _ _
def HP(l:List (Nat×Nat)):List (Nat×H)->dL->(dL->Prop)->Prop:=
 List.rec (motive:=λ_=>List (Nat×H)->dL->(dL->Prop)->Prop) (λ_ K ah=>ah K)
  (λp _ al au K ah=>aj (et au p.1) λv=>al au (ab K p.2 v) ah) l
def BL(C:aW)(bM:tR)(fin:List (Nat×Nat))(ah:gn)(aw:rJ)(rest:List fg):List (Nat×H)->dL->S ak->Nat->Prop:=
 List.rec (motive:=λ_=>List (Nat×H)->dL->S ak->Nat->Prop) (λau K h j=>HP fin au K λK=>ah K h j)
  (λx _ al au K h j=>match DW x.op with
   | .no=>N0 x.g au (λah=>So bM.rd x.op C h j au K ah (aw K)) (λv h j=>al ((x.i,v)::au) K h j) h j
   | .defer b1 f args=>bR (x.g.isNone&&bM.bb) (eL b1 au K f λmq=>sv b1 au K args λcp=>Hy mq cp K λK=>al ((x.i,undef)::au) K h j) False
   | .recover=>bR (x.g.isNone&& !bM.rd) (GA bM.jE K λv K=>al ((x.i,v)::au) K h j) False) rest
def M4(C:aW)(base:Nat)(K:dL)(l:List fg):List (Nat×H)->S ak->(List (Nat×H)->S ak->Prop)->Prop:=
 List.rec (motive:=λ_=>List (Nat×H)->S ak->(List (Nat×H)->S ak->Prop)->Prop) (λau h ah=>ah au h)
  (λx _ al au h ah=>ry x.g au (λY=>match mA x.op with
   | .make=>Sb x.op C h (base+x.i) au K Y
   |_=>F5 x.op C h au K λv=>Y v h) (λv h=>al ((x.i,v)::au) h ah) h) l
structure gI(x:H)(W:Option H)(ah:Prop):Prop where
 out:aj W λad=>H.same 30 x ad=true/\ah
def Sy(C:aW)(K:dL)(au:List (Nat×H))(h:S ak)(l:List fg):Prop->Prop:=
 List.rec (motive:=λ_=>Prop->Prop) (λah=>ah) (λx _ al ah=>Te x.g au (λan=>F5 x.op C h au K λv=>gI v (et au x.i) an) (al ah)) l
def Pf(C:aW)(rd:Bool)(base:Nat)(fin:List (Nat×Nat))(K:dL)(ah:gn)(aw:bG)(k9:List wg):List (Nat×H)->S ak->Nat->Prop:=
 List.rec (motive:=λ_=>List (Nat×H)->S ak->Nat->Prop) (λ_ _ _=>False)
  (λs _ al au h j=>M4 C base K s.tx au h λau h=>Sy C K au h s.Sx (match s.fe with
   |none=>HP fin au K λK=>ah K h j
   |some a=>N0 a.g au (λah=>Qy rd a.op C h j au K ah aw) (λv h j=>al ((a.i,v)::au) h j) h j)) k9
structure fj(body:gn->gn)(K:dL)(h:S ak)(j:Nat):Prop where
 out:∃ol:Nat->gn,(∃m,ol m K h j)/\∀m K h j,ol m K h j->body (λK h j=>∃gj,gj<m/\ol gj K h j) K h j
def Cp(id:Nat)(ah:gn)(F:Nat->gn):Nat->gn:=λtr=>bR (Nat.beq id tr) ah (F tr)
def Pp(W:Operand)(K:dL)(ah:H->Prop):Prop:=eL [] [] K W ah
def atZ(C:aW)(n aq:Nat)(bM:tR)(aw:rJ)(av:Array Oper)(Aw:Bool)(ah:gn):gn:=λK h j=>Bool.rec (motive:=λ_=>Prop)
 (aj (Jv C n av aq) λr=>BL C bM r.fin ah (λK=>aw (hC (dstsOf av.toList) K)) r.rest [] K h j)
 (aj (Ju C n av aq) λr=>eZ (j+av.size) λao=>Pf C bM.rd j r.fin K ah (aw (hC (dstsOf av.toList) K)) r.k9 [] h ao) Aw
def GI(n:Nat):List Nat->List H->dL->(dL->Prop)->Prop
 |[],[],K,ah=>ah K
 |p::dl,J::cp,K,ah=>bR (Nat.blt p n) (GI n dl cp (ab K p J) ah) False
 |_,_,_,_=>False
structure ajB(C:aW)(l:Nat)(mk:LoopState->Option Code->ak)(h:S ak)(D:Prop):Prop where
 here:aa C h l=some (mk .ready none)
 go:D
structure K7(C:aW)(l:Nat)(mk:LoopState->Option Code->ak)(st:LoopState)(p:Option Code)(b:Bool)(ah:bG)(h:S ak)(j:Nat):Prop where
 here:∃adS Gu,aa C h l=some (mk adS Gu)
 go:ah (.bool b) (bm C h l (some (mk st p))) j
abbrev Kr:=tR->rJ->gn->(Nat->gn)->gn->gn
def Br:tR:=⟨true,false,none⟩
def sB(C:aW)(dD bi:Kr)(l:Nat)(mk:LoopState->Option Code->ak)(ah aw:bG):gn:=λK h j=>
 dD Br (λ_=>aw) (λK h j=>ajB C l mk h (bi Br (λ_=>aw) (λ_ h j=>K7 C l mk .ready none true ah h j) (λid _ h j=>K7 C l mk .done (some (.exit id)) false ah h j)
   (λ_ h j=>K7 C l mk .done (some .ret) false ah h j) K (bm C h l (some (mk .busy none))) j)) (λ_ _ _ _=>False) (λ_ _ _=>False) K h j
def adb(p:Option Code)(ah:gn)(F:Nat->gn)(r:gn):gn:=match p with
 |none=>ah
 |some c=>(match c with| .exit id=>F id| .ret=>r|_=>λ_ _ _=>False)
def vh(K:dL)(j:Nat):dL:=yT K ⟨.collected j,[]⟩
structure DO(C:aW)(n:Nat)(mq:H)(params:List Nat)(eE:Nat->(LoopState->Option Code->ak)->bG->bG->gn)(ah:gn)(F:Nat->gn)(r:gn)(aw:rJ)(K:dL)(h:S ak)(j:Nat):Prop where
 low:C.a7<=j
 out:match mq with
  | .func fn first fH=>(match fn with
    | .func g=>∀mk:LoopState->Option Code->ak,
       (∀args T ao y9 ez,aa C T (j+1)=some (mk .ready none)->GI n params args K (λqN=>eE (j+1) mk y9 ez qN T ao)->Aj C (j+1) args T ao y9 ez)->
       tP C g (first++[.func (.yield (j+1)) [] []]++fH) (bm C (bm C h j (some (.deferred (some [])))) (j+1) (some (mk .ready none))) (j+2)
        (λ_ T ao=>∃st p,st≠ .busy/\aa C T (j+1)=some (mk st p)/\adb p ah F r (vh K j) (bm C T (j+1) (some (mk .exhausted p))) ao)
        (aw (vh K j))
    |_=>False)
  |_=>False
def wq(C:aW)(n aq:Nat)(c:Code):Kr:=
 Code.rec (motive:=λ_=>Kr)
  (λ_ _ ah _ _=>ah)
  (λ_ av d bM aw ah _ _=>atZ C n aq bM aw av d ah)
  (λ_ _ mz hr bM aw ah F r=>mz bM aw (hr bM aw ah F r) F r)
  (λc _ _ mz hr bM aw ah F r K h j=>Pp c K λv=>aQ ah λah=>aV v (mz bM aw ah F r K h j) (hr bM aw ah F r K h j))
  (λid _ hr bM aw ah F r K h j=>aQ ah λah=>hr bM aw ah (Cp id ah F) r K h j)
  (λ_ hr bM aw _ F r=>fj λOG=>hr bM aw OG F r)
  (λf params _ _ mz hr bM aw ah F r K h j=>bR bM.bb (Pp f K λmq=>DO C n mq params.toList (sB C mz hr) ah F r aw K h j) False)
  (λid _ _ _ F _=>F id)
  (λ_ hr bM aw ah F r=>hr bM aw ah F r)
  (λ_ _ _ ah _ _=>ah)
  (λ_ _ _ _ _ _ _ _ _=>False)
  (λ_ _ _ _ r=>r)
  (λ_ _ _ _ _ _ _ _ _=>False) c
def qx(C:aW)(h:S ak)(K:dL)(l:List ResultVar):(List H->Prop)->Prop:=
 List.rec (motive:=λ_=>(List H->Prop)->Prop) (λah=>ah [])
  (λx _ al ah=>ResultVar.rec (motive:=λ_=>Prop) (λt=>aj (K t) λv=>al λr=>ah (v::r)) (λJ t=>aj (K J) λp=>B (lz C h t p) λv=>al λr=>ah (v::r)) x) l
def cP(l:List H):dL:=⟨λn=>n9 l n,[],false⟩
structure sZ(C:aW)(fn:Fn)(cp:List H)(jE:Option H)(h:S ak)(j:Nat)(bs:Bool->S ak->Nat->Prop):Prop where
 out:match fn with
  | .func f=>C.g6 f cp=none/\(∃fn c,C.P.funcs[f]? =some fn/\fn.body=some c)/\Tp C f cp jE h j bs
  |_=>False
structure Nh(C:aW)(r:Nat)(h:S ak)(D:Prop):Prop where
 low:C.a7<=r
 here:aa C h r=some (.deferred (some []))
 go:D
def m6(C:aW)(JT:List ResultVar)(bs:bG)(K:dL)(ds:List hy):S ak->Nat->Prop:=
 List.rec (motive:=λ_=>S ak->Nat->Prop) (λh j=>qx C h K JT λbk=>bs (one bk) h j)
  (λd _ al h j=>match d.target with
   | .collected r=>Nh C r h (al (bm C h r (some (.deferred none))) j)
   | .fn fn cap=>sZ C fn (d.args++cap) none h j λ_ h j=>al h j) ds
def vo(C:aW)(JT:List ResultVar)(bs eE:bG)(K:dL)(ad:H):List hy->S ak->Nat->Prop
 |[],h,j=>eE ad h j
 |d::ds,h,j=>match d.target with
   | .collected r=>Nh C r h (vo C JT bs eE K ad ds (bm C h r (some (.deferred none))) j)
   | .fn fn cap=>sZ C fn (d.args++cap) (some ad) h j λb h j=>bR b (m6 C JT bs K ds h j) (vo C JT bs eE K ad ds h j)
def Gb:tR:=⟨false,false,none⟩
def yI:tR:=⟨false,true,none⟩
def AC(C:aW)(f:Nat)(args:List H)(h:S ak)(j:Nat)(bs eE:bG):Prop:=match C.P.funcs[f]? with
 |some fn=>(match fn.body with
  |some c=>wq C fn.ntmps (Nat.lor (kb c) (nx fn.results.toList)) c yI (λK ad h j=>vo C fn.results.toList bs eE K ad K.bb h j) (λK h j=>m6 C fn.results.toList bs K K.bb h j) (λ_ _ _ _=>False)
    (λK h j=>m6 C fn.results.toList bs K K.bb h j) (cP args) h j
  |none=>False)
 |none=>False
def x2(C:aW)(f:Nat)(args:List H)(jE:Option H)(h:S ak)(j:Nat)(bs:Bool->S ak->Nat->Prop):Prop:=match C.P.funcs[f]? with
 |some fn=>(match fn.body with
  |some c=>wq C fn.ntmps (Nat.lor (kb c) (nx fn.results.toList)) c ⟨false,false,some jE⟩ (λ_ _ _ _=>False) (λK h j=>qx C h K fn.results.toList λ_=>bs K.rc h j) (λ_ _ _ _=>False)
    (λK h j=>qx C h K fn.results.toList λ_=>bs K.rc h j) (cP args) h j
  |none=>False)
 |none=>False
def db(C:aW)(f:Nat)(args:List H)(h:S ak)(j:Nat)(bs eE:bG):Prop:=match C.P.funcs[f]? with
 |some fn=>(match fn.body with
  |some c=>wq C fn.ntmps (Nat.lor (kb c) (nx fn.results.toList)) c Gb (λ_=>eE) (λK h j=>qx C h K fn.results.toList λbk=>bs (one bk) h j) (λ_ _ _ _=>False)
    (λK h j=>qx C h K fn.results.toList λbk=>bs (one bk) h j) (cP args) h j
  |none=>False)
 |none=>False
def cS(C:aW)(f dV:Nat):Bool:=match C.P.funcs[f]? with
 |some fn=>(match fn.body with
  |some c=>Nat.ble dV fn.ntmps&&lC C (Nat.lor (kb c) (nx fn.results.toList)) c&&yU (Nat.lor (kb c) (nx fn.results.toList)) fn.results.toList
  |none=>false)
 |none=>false
end
end Go.bg

namespace Go.bg
noncomputable section
open Go.RowKit (Below)
def gR(K:dL)(t:S H):Prop:=∀n v,K.g n=some v->t.get n=some v
section
variable{C:aW}{h:S ak}{j:Nat}{au:List (Nat×H)}{K:dL}{t:S H}
def nP(a:gR K t){x:ki}{ah:H->Prop}(ay:jv x au K ah):∃J,kS x au t=some J/\ah J:=by
 cases x with
 |v Y=>exact sw.1 ay
 |t n=>
  obtain⟨J,R,U⟩:=sw.1 (show aj (K n) ah from ay)
  exact⟨J,a n J R,U⟩
 |c J=>exact⟨J,rfl,ay⟩
def alp(a:gR K t):∀{l:List ki}{ah:List H->Prop},Lb au K l ah->∃cp,Ay au t l=some cp/\ah cp:=by
 intro l
 induction l with
 |nil=>intro ah ay;exact⟨[],rfl,ay⟩
 |cons x l al=>
  intro ah ay
  obtain⟨J,R,U⟩:=nP a (show jv x au K (λJ=>Lb au K l λr=>ah (J::r)) from ay)
  obtain⟨r,ar,aO⟩:=al U
  exact⟨J::r,by simp[Ay,R,ar],aO⟩
def hj(a:gR K t){b1:List (Nat×Nat)}{W:Operand}{ah:H->Prop}(ay:eL b1 au K W ah):∃J,iT b1 au t W=some J/\ah J:=by
 cases W with
 |tmp n=>
  simp only[eL]at ay
  simp only[iT]
  cases bH:et b1 n with
  |some Y=>simp only[bH]at ay ⊢;exact sw.1 ay
  |none=>
   simp only[bH]at ay ⊢
   obtain⟨J,R,U⟩:=sw.1 ay
   exact⟨J,a n J R,U⟩
 |const v=>exact sw.1 ay
 |global g=>exact⟨_,rfl,ay⟩
 |func f=>exact⟨_,rfl,ay⟩
def DK(a:gR K t){b1:List (Nat×Nat)}:∀{l:List Operand}{ah:List H->Prop},sv b1 au K l ah->∃cp,pt (iT b1 au t) l=some cp/\ah cp:=by
 intro l
 induction l with
 |nil=>intro ah ay;exact⟨[],rfl,ay⟩
 |cons x l al=>
  intro ah ay
  obtain⟨J,R,U⟩:=hj a (show eL b1 au K x (λJ=>sv b1 au K l λr=>ah (J::r)) from ay)
  obtain⟨r,ar,aO⟩:=al U
  exact⟨J::r,by simp[pt,R,ar],aO⟩
def Sq(a:gR K t){b1:List (Nat×Nat)}:∀{l:List (Nat×Operand)}{ah:List (Nat×H)->Prop},BE b1 au K l ah->∃cp,xY (iT b1 au t) l=some cp/\ah cp:=by
 intro l
 induction l with
 |nil=>intro ah ay;exact⟨[],rfl,ay⟩
 |cons x l al=>
  intro ah ay
  obtain⟨i,W⟩:=x
  obtain⟨J,R,U⟩:=hj a (show eL b1 au K W (λJ=>BE b1 au K l λr=>ah ((i,J)::r)) from ay)
  obtain⟨r,ar,aO⟩:=al U
  exact⟨(i,J)::r,by simp[xY,R,ar],aO⟩
def Sm(a:gR K t){b1:List (Nat×Nat)}{W:Option Operand}{ah:Option H->Prop}(ay:Np b1 au K W ah):∃J,BC (iT b1 au t) W=some J/\ah J:=by
 cases W with
 |none=>exact⟨none,rfl,ay⟩
 |some x=>
  obtain⟨J,R,U⟩:=hj a (show eL b1 au K x (λJ=>ah (some J)) from ay)
  exact⟨some J,by simp[BC,R],U⟩
def arI(a:gR K t){b1:List (Nat×Nat)}{W:Op}{ah:H->Prop}(ay:acg b1 W C h au K ah):∃v,nH W C h (iT b1 au t)=some v/\ah v:=by
 cases W with
 |build ty jU=>
  obtain⟨dl,R,U⟩:=Sq a (show BE b1 au K jU.toList _ from ay)
  obtain⟨v,ar,aO⟩:=(kD.1 U)
  exact⟨v,by simp[nH,RK,R,ar],aO⟩
 |binOp op ty x e GX=>
  obtain⟨J,R,U⟩:=hj a (show eL b1 au K x _ from ay)
  obtain⟨b,ar,aO⟩:=hj a U
  obtain⟨v,bN,cv⟩:=(kD.1 aO)
  exact⟨v,by simp[nH,MY,R,ar,bN],cv⟩
 |unOp op ty x=>
  obtain⟨J,R,U⟩:=hj a (show eL b1 au K x _ from ay)
  obtain⟨v,ar,aO⟩:=(kD.1 U)
  exact⟨v,by simp[nH,RS,R,ar],aO⟩
 |convert s d x=>
  obtain⟨J,R,U⟩:=hj a (show eL b1 au K x _ from ay)
  obtain⟨v,ar,aO⟩:=(kD.1 U)
  exact⟨v,by simpa[nH,Jj,Wq,ko,R]using ar,aO⟩
 |makeInterface ty x=>
  obtain⟨J,R,U⟩:=hj a (show eL b1 au K x _ from ay)
  obtain⟨v,ar,aO⟩:=(kD.1 U)
  exact⟨v,by simpa[nH,Jl,abE,ko,R]using ar,aO⟩
 |makeFunc fn first fH=>
  cases fn with
  |func f=>
   obtain⟨J,R,U⟩:=DK a (show sv b1 au K first.toList _ from ay)
   obtain⟨b,ar,aO⟩:=DK a U
   exact⟨_,by simp[nH,RO,R,ar],aO⟩
  |_=>exact ay.elim
 |slice ty x bT aM gN=>
  obtain⟨J,R,U⟩:=hj a (show eL b1 au K x _ from ay)
  obtain⟨l,ar,aO⟩:=Sm a U
  obtain⟨b,bN,cv⟩:=Sm a aO
  obtain⟨m,dP,fq⟩:=Sm a cv
  obtain⟨v,j2,rZ⟩:=(kD.1 fq)
  exact⟨v,by simp[nH,RR,R,ar,bN,dP,j2],rZ⟩
 |field ty x f=>
  obtain⟨J,R,U⟩:=hj a (show eL b1 au K x _ from ay)
  obtain⟨v,ar,aO⟩:=(kD.1 U)
  exact⟨v,by simpa[nH,Jk,W6,ko,R]using ar,aO⟩
 |index ty x i=>
  obtain⟨J,R,U⟩:=hj a (show eL b1 au K x _ from ay)
  obtain⟨b,ar,aO⟩:=hj a U
  obtain⟨v,bN,cv⟩:=(kD.1 aO)
  exact⟨v,by simp[nH,RP,R,ar,bN],cv⟩
 |lookup ty m D ok=>
  obtain⟨J,R,U⟩:=hj a (show eL b1 au K m _ from ay)
  obtain⟨b,ar,aO⟩:=hj a U
  obtain⟨v,bN,cv⟩:=(kD.1 aO)
  exact⟨v,by simp[nH,RQ,R,ar,bN],cv⟩
 |typeAssert x ty t2 ok=>
  obtain⟨J,R,U⟩:=hj a (show eL b1 au K x _ from ay)
  obtain⟨v,ar,aO⟩:=(kD.1 U)
  exact⟨v,by simpa[nH,Ji,VV,ko,R]using ar,aO⟩
 |entry eJ=>
  obtain⟨J,R,U⟩:=hj a (show eL b1 au K eJ _ from ay)
  obtain⟨v,ar,aO⟩:=(kD.1 U)
  exact⟨v,by simpa[nH,RN,WR,ko,R]using ar,aO⟩
 |call c=>
  obtain⟨callee,args,dg⟩:=c
  cases callee with
  |builtin b=>
   obtain⟨bk,R,U⟩:=DK a (show sv b1 au K args.toList _ from ay)
   obtain⟨v,ar,aO⟩:=(kD.1 U)
   refine⟨v, ?_,aO⟩
   have F:nH (.call ⟨.builtin b,args,dg⟩) C h (iT b1 au t)=pV C h b dg.toList bk:=by
    simp only[nH,RM,RL,R,pV]
    repeat' split
    all_goals first|rfl|simp_all
   rw[F];exact ar
  |_=>exact ay.elim
 |_=>exact ay.elim
def M2(a:gR K t){op:jF}{ah:H->Prop}(ay:F5 op C h au K ah):∃v,gJ op C h au t=some v/\ah v:=by
 cases op with
 |Dv x=>exact nP a ay
 |pick c J b=>
  obtain⟨Wr,R,U⟩:=nP a (show jv c au K _ from ay)
  obtain⟨NS,rfl,ar,aO⟩:=Wa U.out
  cases NS with
  |true=>
   obtain⟨v,bN,cv⟩:=nP a (ar rfl)
   exact⟨v,by simp[gJ,R,N5,bN],cv⟩
  |false=>
   obtain⟨v,bN,cv⟩:=nP a (aO rfl)
   exact⟨v,by simp[gJ,R,N5,bN],cv⟩
 |fU J=>
  obtain⟨fR,R,U⟩:=nP a (show jv J au K _ from ay)
  obtain⟨v,ar,aO⟩:=(kD.1 U)
  exact⟨v,by simp[gJ,R,ar],aO⟩
 |Bl n J=>
  obtain⟨fR,R,U⟩:=nP a (show jv J au K _ from ay)
  obtain⟨v,ar,aO⟩:=(kD.1 U)
  exact⟨v,by simp[gJ,R,ar],aO⟩
 |off d x=>
  obtain⟨fR,R,U⟩:=nP a (show jv x au K _ from ay)
  obtain⟨v,ar,aO⟩:=(kD.1 U)
  exact⟨v,by simp[gJ,R,ar],aO⟩
 |Be n bl x i=>
  obtain⟨fR,R,U⟩:=nP a (show jv x au K _ from ay)
  obtain⟨cy,ar,aO⟩:=nP a U
  obtain⟨v,bN,cv⟩:=(kD.1 aO)
  exact⟨v,by simp only[gJ,R,ar];unfold FT at bN;cases aM:m1 cy<;>simp_all,cv⟩
 |Bf bl x i=>
  obtain⟨fR,R,U⟩:=nP a (show jv x au K _ from ay)
  obtain⟨cy,ar,aO⟩:=nP a U
  obtain⟨v,bN,cv⟩:=(kD.1 aO)
  exact⟨v,by simp only[gJ,R,ar];unfold dC at bN;cases aM:m1 cy<;>simp_all,cv⟩
 |DB x=>
  obtain⟨fR,R,U⟩:=nP a (show jv x au K _ from ay)
  obtain⟨v,ar,aO⟩:=(kD.1 U)
  exact⟨v,by simp[gJ,R,ar],aO⟩
 |I6 op x e=>
  obtain⟨fR,R,U⟩:=nP a (show jv x au K _ from ay)
  obtain⟨cy,ar,aO⟩:=nP a U
  obtain⟨v,bN,cv⟩:=(kD.1 aO)
  exact⟨v,by simp[gJ,R,ar,bN],cv⟩
 |ext i x=>
  obtain⟨fR,R,U⟩:=nP a (show jv x au K _ from ay)
  obtain⟨v,ar,aO⟩:=(kD.1 U)
  exact⟨v,by simp[gJ,R,ar],aO⟩
 |hX b1 W=>exact arI a ay
 |_=>exact ay.elim
def ar0(a:gR K t){op:jF}{b:Nat}{ah:bG}(ay:acq op C h b au K ah):∃v cR,nQ op C b au t=some (v,cR)/\ah v (bm C h b (some cR)) (b+1):=by
 cases op with
 |make b1 W=>
  cases W with
  |alloc ty=>
   obtain⟨⟨v,cR⟩,R,U⟩:=kD.1 (show B (Ds C ty (ko undef) b) _ from ay)
   exact⟨v,cR,R,U.out⟩
  |box ty x=>
   obtain⟨J,R,U⟩:=hj a (show eL b1 au K x _ from ay)
   exact⟨_,_,by simp only[nQ,pU,Jp,R],U.out⟩
  |buildSlice ty len jU=>
   obtain⟨dl,R,U⟩:=Sq a (show BE b1 au K jU.toList _ from ay)
   obtain⟨⟨v,cR⟩,ar,aO⟩:=(kD.1 U)
   refine⟨v,cR, ?_,aO.out⟩
   simp only[nQ,pU,Jq,R]
   unfold NL at ar
   split at ar
   ·rename_i bc
    simp only[bc]
    exact ar
   ·cases ar
  |makeMap ty r=>
   cases r with
   |none=>exact⟨_,_,rfl,(show cO C h b _ _ ah from ay).out⟩
   |some r=>exact ay.elim
  |_=>exact ay.elim
 |_=>exact ay.elim
def arY(a:gR K t){op:jF}{b:Nat}{ah:H->S ak->Prop}(ay:Sb op C h b au K ah):∃v cR,nQ op C b au t=some (v,cR)/\ah v (bm C h b (some cR)):=by
 cases op with
 |make b1 W=>
  cases W with
  |alloc ty=>
   obtain⟨⟨v,cR⟩,R,U⟩:=kD.1 (show B (Ds C ty (ko undef) b) _ from ay)
   exact⟨v,cR,R,U.out⟩
  |box ty x=>
   obtain⟨J,R,U⟩:=hj a (show eL b1 au K x _ from ay)
   exact⟨_,_,by simp only[nQ,pU,Jp,R],U.out⟩
  |buildSlice ty len jU=>
   obtain⟨dl,R,U⟩:=Sq a (show BE b1 au K jU.toList _ from ay)
   obtain⟨⟨v,cR⟩,ar,aO⟩:=(kD.1 U)
   refine⟨v,cR, ?_,aO.out⟩
   simp only[nQ,pU,Jq,R]
   unfold NL at ar
   split at ar
   ·rename_i bc
    simp only[bc]
    exact ar
   ·cases ar
  |makeMap ty r=>
   cases r with
   |none=>exact⟨_,_,rfl,(show k4 C h b _ _ ah from ay).out⟩
   |some r=>exact ay.elim
  |_=>exact ay.elim
 |_=>exact ay.elim
def Wf{rd:Bool}{f:Nat}{cp:List H}{ah aw:bG}(a:aR C f cp h j ah aw):∃r,rN C f cp=some r/\B9 C rd (some r) h j ah aw:=by
 rcases a.out with ⟨ad,R,U⟩|⟨R,⟨fn,c,U,ar⟩,aO⟩
 ·exact⟨.known f cp ad,by simp[rN,R],U⟩
 ·exact⟨.enter f cp,by simp[rN,R,U,ar],aO⟩
def yV{rd:Bool}{W:Option ea}{ah aw:bG}(a:gO W h j ah):∃r,W=some r/\B9 C rd (some r) h j ah aw:=by
 rw[at3]at a
 split at a
 ·exact⟨_,rfl,a⟩
 ·exact⟨_,rfl,a⟩
 ·exact a.elim
def alL{rd:Bool}{W:Option ea}{ah aw:bG}(a:EX W h j ah):∃r,W=some r/\B9 C rd (some r) h j ah aw:=by
 rw[alM]at a
 split at a
 ·exact⟨_,rfl,a⟩
 ·exact⟨_,rfl,a⟩
 ·exact⟨_,rfl,a⟩
 ·exact a.elim
def aab(a:gR K t){rd:Bool}{op:jF}{ah aw:bG}(ay:Qy rd op C h j au K ah aw):∃r,hJ op C h j au t=some r/\B9 C rd (some r) h j ah aw:=by
 cases op with
 |st n J v=>
  obtain⟨fR,R,U⟩:=nP a (show jv J au K _ from ay)
  obtain⟨hI,ar,aO⟩:=nP a U
  obtain⟨T,bN,cv⟩:=(kD.1 aO)
  refine⟨.fv undef T j, ?_,cv⟩
  simp only[hJ,R,ar]
  unfold b7 at bN
  split at bN
  ·simp only[eY]at bN
   simp[NN,bN.2,fo,bN.1]
  ·cases bN
 |call f args=>
  obtain⟨cp,R,U⟩:=alp a (show Lb au K args _ from ay)
  obtain⟨r,ar,aO⟩:=Wf (rd:=rd) U
  exact⟨r,by simp[hJ,R,ar],aO⟩
 |fe b1 W=>
  cases W with
  |mapUpdate ty m D x=>
   obtain⟨J,R,U⟩:=hj a (show eL b1 au K m _ from ay)
   obtain⟨b,ar,aO⟩:=hj a U
   obtain⟨c,bN,cv⟩:=hj a aO
   obtain⟨r,dP,fq⟩:=yV (C:=C) (aw:=aw) (rd:=rd) cv
   exact⟨r,by simp[hJ,nd,Fc,R,ar,bN,dP],fq⟩
  |insert ty m D x=>
   obtain⟨J,R,U⟩:=hj a (show eL b1 au K m _ from ay)
   obtain⟨b,ar,aO⟩:=hj a U
   obtain⟨c,bN,cv⟩:=hj a aO
   obtain⟨r,dP,fq⟩:=yV (C:=C) (aw:=aw) (rd:=rd) cv
   exact⟨r,by simp[hJ,nd,Fc,R,ar,bN,dP],fq⟩
  |mapEntry ty m D=>
   obtain⟨J,R,U⟩:=hj a (show eL b1 au K m _ from ay)
   obtain⟨b,ar,aO⟩:=hj a U
   obtain⟨r,dP,fq⟩:=yV (C:=C) (aw:=aw) (rd:=rd) aO
   exact⟨r,by simpa[hJ,nd,Ic,two,Go.bg.kn,Go.bg.gH,R,ar]using dP,fq⟩
  |entryStore ty m s x=>
   obtain⟨J,R,U⟩:=hj a (show eL b1 au K m _ from ay)
   obtain⟨b,ar,aO⟩:=hj a U
   obtain⟨c,bN,cv⟩:=hj a aO
   obtain⟨r,dP,fq⟩:=yV (C:=C) (aw:=aw) (rd:=rd) cv
   exact⟨r,by simpa[hJ,nd,H4,ad6,Go.bg.kn,Go.bg.gH,Go.bg.mG,R,ar,bN]using dP,fq⟩
  |makeSlice ty l c=>
   obtain⟨J,R,U⟩:=hj a (show eL b1 au K l _ from ay)
   obtain⟨b,ar,aO⟩:=hj a U
   obtain⟨r,dP,fq⟩:=yV (C:=C) (aw:=aw) (rd:=rd) aO
   exact⟨r,by simpa[hJ,nd,Ib,two,Go.bg.kn,Go.bg.gH,R,ar]using dP,fq⟩
  |makeMap ty jn=>
   cases jn with
   |none=>exact ay.elim
   |some x=>
    obtain⟨J,R,U⟩:=hj a (show eL b1 au K x _ from ay)
    obtain⟨r,dP,fq⟩:=yV (C:=C) (aw:=aw) (rd:=rd) U
    exact⟨r,by simpa[hJ,nd,Ia,ko,R]using dP,fq⟩
  |convert s d x=>
   obtain⟨J,R,U⟩:=hj a (show eL b1 au K x _ from ay)
   obtain⟨r,dP,fq⟩:=yV (C:=C) (aw:=aw) (rd:=rd) U
   exact⟨r,by simpa[hJ,nd,Ig,ko,R]using dP,fq⟩
  |range ty x=>
   obtain⟨J,R,U⟩:=hj a (show eL b1 au K x _ from ay)
   obtain⟨r,dP,fq⟩:=yV (C:=C) (aw:=aw) (rd:=rd) U
   exact⟨r,by simpa[hJ,nd,Ie,ko,R]using dP,fq⟩
  |next eJ yE=>
   obtain⟨J,R,U⟩:=hj a (show eL b1 au K eJ _ from ay)
   obtain⟨r,dP,fq⟩:=alL (C:=C) (aw:=aw) (rd:=rd) U
   exact⟨r,by simpa[hJ,nd,wK,ko,R]using dP,fq⟩
  |panic x=>
   cases rd with
   |true=>exact(show False from ay).elim
   |false=>
    obtain⟨J,R,U⟩:=hj a (show eL b1 au K x _ from ay)
    rw[ate]at U
    split at U
    ·rename_i oe awf
     exact⟨.panic (.iface oe awf),by simp[hJ,nd,Qg,R],U⟩
    ·exact U.elim
  |call c=>
   obtain⟨callee,args,dg⟩:=c
   cases callee with
   |value f=>
    obtain⟨mq,R,U⟩:=hj a (show eL b1 au K f _ from ay)
    obtain⟨cp,ar,aO⟩:=DK a U
    have aO:=aO.out
    split at aO
    ·split at aO
     ·obtain⟨r,bN,cv⟩:=Wf (rd:=rd) aO
      exact⟨r,by simp[hJ,nd,Cz,R,ar,Al];simpa using bN,cv⟩
     ·exact⟨.round _ _,by simp only[hJ,nd,Cz,R,ar,Al],aO⟩
     ·exact aO.elim
    ·exact aO.elim
   |builtin b=>
    obtain⟨bk,R,U⟩:=DK a (show sv b1 au K args.toList _ from ay)
    obtain⟨r,dP,fq⟩:=yV (C:=C) (aw:=aw) (rd:=rd) U
    refine⟨r, ?_,fq⟩
    have F:∀r,Fh C h j b dg.toList bk=some r->hJ (.fe b1 (.call ⟨.builtin b,args,dg⟩)) C h j au t=some r:=by
     intro r Z
     simp only[hJ,nd,Cz,HX,R]
     unfold Fh at Z
     split at Z
     all_goals first|exact Z|cases Z
    exact F r dP
   |invoke x name=>
    obtain⟨ls,R,U⟩:=hj a (show eL b1 au K x _ from ay)
    obtain⟨cp,ar,aO⟩:=DK a U
    rw[ar8]at aO
    split at aO
    ·cases bp:Er C h _ _ name cp with
     |none=>rw[bp]at aO;exact aO.elim
     |some r=>rw[bp]at aO;exact⟨r,by simp[hJ,nd,Cz,R,ar,bp],aO⟩
    ·exact aO.elim
  |_=>exact ay.elim
 |_=>exact ay.elim
def amK{lu:Bool}{v:H}{J b:Prop}(a:ix lu v J b):∃w,(match v with| .bool b=>some (b==lu)|_=>some false)=some w/\(w=true->J)/\(w=false->b):=by
 have a:=a.out
 cases v with
 |bool t=>
  obtain⟨R,U⟩:=a
  refine⟨t==lu,rfl,λF=>R (by simpa using F),λF=>U ?_⟩
  cases t<;>cases lu<;>simp_all
 |_=>exact⟨false,rfl,Zs,λ_=>a⟩
def NZ{g:Option (Nat×Bool)}{J b:Prop}(a:NY g au J b):∃w,og g au=some w/\(w=true->J)/\(w=false->b):=by
 cases g with
 |none=>exact⟨true,rfl,λ_=>a,Zs⟩
 |some p=>
  obtain⟨Y,lu⟩:=p
  obtain⟨v,R,U⟩:=sw.1 (show aj (et au Y) _ from a)
  obtain⟨w,ar,aO⟩:=amK U
  exact⟨w,by simp only[og,R];exact ar,aO⟩
def adN(a:gR K t)(d:Nat)(v:H):gR (ab K d v) (t.set d (some v)):=by
 intro n ad bc
 have bc:=(show bR (Nat.beq d n) (some v) (K.g n)=some ad from bc)
 rw[hB]at bc
 rw[S.j1]
 split at bc
 ·rename_i F;rw[Zq F];exact bc
 ·rename_i F;rw[Zh F];exact a n ad bc
def W9:∀{l:List (Nat×Nat)}{K:dL}{t:S H}{ah:dL->Prop},gR K t->HP l au K ah->∃c1 hb,x0 au l t=some hb/\gR c1 hb/\(c1.bb=K.bb/\c1.rc=K.rc)/\ah c1:=by
 intro l
 induction l with
 |nil=>intro K t ah a ay;exact⟨K,t,rfl,a,⟨rfl,rfl⟩,ay⟩
 |cons p l al=>
  intro K t ah a ay
  obtain⟨i,d⟩:=p
  obtain⟨v,R,U⟩:=sw.1 (show aj (et au i) (λv=>HP l au (ab K d v) ah) from ay)
  obtain⟨c1,hb,ar,aO,bN⟩:=al (adN a d v) U
  exact⟨c1,hb,by simp[x0,R,ar],aO,bN⟩
def au3{op:jF}{b1:List (Nat×Nat)}{f:Operand}{args:List Operand}(a:DW op= .defer b1 f args):∃c:Array Operand×Array TypeId,args=c.1.toList/\op= .fe b1 (.defer ⟨.value f,c.1,c.2⟩):=by
 unfold DW at a
 split at a
 ·split at a
  ·split at a
   ·injection a with R U ar
    subst R U ar
    exact⟨(_,_),rfl,rfl⟩
   ·cases a
  ·split at a
   ·split at a<;>cases a
   ·cases a
  ·cases a
 ·cases a
def au4{op:jF}(a:DW op= .recover):∃b1 dg args,op= .fe b1 (.call ⟨.builtin .recover,args,dg⟩)/\args.toList=[]:=by
 unfold DW at a
 split at a
 ·split at a
  ·split at a<;>cases a
  ·split at a
   ·split at a
    ·rename_i aC
     exact⟨_,_,_,rfl,aC⟩
    ·cases a
   ·cases a
  ·cases a
 ·cases a
def at7(a:gR K t):∀{l:List ResultVar}{ah:List H->Prop},qx C h K l ah->∃bk,xj C h t l=some bk/\ah bk:=by
 intro l
 induction l with
 |nil=>intro ah ay;exact⟨[],rfl,ay⟩
 |cons x l al=>
  intro ah ay
  cases x with
  |tmp n=>
   obtain⟨v,R,U⟩:=sw.1 (show aj (K n) (λv=>qx C h K l λr=>ah (v::r)) from ay)
   obtain⟨r,ar,aO⟩:=al U
   exact⟨v::r,by simp[xj,a n v R,ar],aO⟩
  |cell J ty=>
   obtain⟨p,R,U⟩:=sw.1 (show aj (K J) (λp=>B (lz C h ty p) λv=>qx C h K l λr=>ah (v::r)) from ay)
   obtain⟨v,ar,aO⟩:=(kD.1 U)
   obtain⟨r,bN,cv⟩:=al aO
   exact⟨v::r,by simp[xj,a J p R,ar,bN],cv⟩
def arK(a:gR K t){base:Nat}:∀{l:List fg}{au:List (Nat×H)}{h:S ak}{ah:List (Nat×H)->S ak->Prop},M4 C base K l au h ah->∃ho T,wr C base t l au h=some (ho,T)/\ah ho T:=by
 intro l
 induction l with
 |nil=>intro au h ah ay;exact⟨au,h,rfl,ay⟩
 |cons x l al=>
  intro au h ah ay
  obtain⟨w,R,U,ar⟩:=NZ ((awk ..).mp (show ry x.g au (λY=>match mA x.op with
   | .make=>Sb x.op C h (base+x.i) au K Y
   |_=>F5 x.op C h au K λv=>Y v h) (λv h=>M4 C base K l ((x.i,v)::au) h ah) h from ay))
  simp only[wr,R]
  cases w with
  |false=>exact al (ar rfl)
  |true=>
   have aO:=U rfl
   cases aF:mA x.op with
   |make=>
    simp only[aF]at aO
    obtain⟨v,cR,bN,cv⟩:=arY a aO
    simp only[bN,he]
    exact al cv
   |hX=>
    simp only[aF]at aO
    obtain⟨v,bN,cv⟩:=M2 a aO
    simp only[bN]
    exact al cv
   |fe=>
    simp only[aF]at aO
    obtain⟨v,bN,cv⟩:=M2 a aO
    simp only[bN]
    exact al cv
def atU(a:gR K t):∀{l:List fg}{ah:Prop},Sy C K au h l ah->Ck C t au h l=true/\ah:=by
 intro l
 induction l with
 |nil=>intro ah ay;exact⟨rfl,ay⟩
 |cons x l al=>
  intro ah ay
  obtain⟨w,R,U,ar⟩:=NZ ((awl ..).mp (show Te x.g au (λan=>F5 x.op C h au K λv=>gI v (et au x.i) an) (Sy C K au h l ah) from ay))
  simp only[Ck,R]
  cases w with
  |false=>exact al (ar rfl)
  |true=>
   obtain⟨v,bN,cv⟩:=M2 a (U rfl)
   obtain⟨ad,dP,fq,j2⟩:=sw.1 cv.out
   obtain⟨rZ,up⟩:=al j2
   exact⟨by simp[bN,dP,fq,rZ],up⟩
end
section
variable{C:aW}{dK:c6}{d4:Nat->Prop}{bo:World}{bv:Nat}{bO:List Frame}{v:H}
variable{fn n aq:Nat}{bM:tR}{aD:Bool}{ro:Option Nat}{cs c8:List gC}
def kv(cG:Env C bo dK d4){bM:kN}{todo:List dN}{b8:h9}{K:S H}{h:S ak}{j:Nat}(a:SZ (fL C bo bv bO v) C bM todo b8 K h j=some v):nC C bo bv bO bM todo b8 K h j v:=
 λQ ae w cX tmps bq ap df=>adW cG VM _ _ _ _ _ _ _ _ _ _ _ _ v a Q ae w cX tmps bq ap df
def fm(bM:tR)(fn n aq:Nat)(aD:Bool)(ro:Option Nat)(cs c8:List gC)(K:dL):h9:=⟨fn,n,aq,bR bM.bb K.bb [],aD,ro,bR K.rc c8 cs⟩
structure Af(bM:tR)(aD:Bool)(ro:Option Nat)(cs c8:List gC):Prop where
 rd:bM.rd=false->ro=none
 bb:bM.bb=true->ro=none
 none:bM.jE=some none->c8=cs/\BQ aD cs=some (.nilIface,cs)
 some:∀ad,bM.jE=some (some ad)->BQ aD cs=some (ad,c8)/\BQ aD c8=some (.nilIface,c8)
def aun{al:hm}{C:aW}{l:Nat}{args:List H}{eJ:dN}{D:List dN}{b8:h9}{K:S H}{h:S ak}{j:Nat}:nI (.round l args) al C eJ D b8 K h j=ND al C l args (DY eJ D b8 K) h j:=rfl
def WH{K:dL}{t:S H}(a:gR K t)(l:List Nat):gR (hC l K) (wt l t):=by
 intro n v bA
 rw[KZ]
 by_cases aK:n∈l
 ·simp[hC,fo,Sc,aK]at bA
 ·simp[hC,fo,Sc,aK]at bA
  rw[Zh aK];exact a n v bA
def OR{J b:Nat}(a:J<=b):Nat.ble J b=true:=by simpa using a
def VK(aI:H.same 30 v v=true)(bp:Af bM aD ro cs c8){eJ:dN}{D:List dN}{nF:dL}{K:S H}{h:S ak}{j:Nat}{ah aw:bG}(cG:Env C bo dK d4)
 (iK:∀ad h j,ah ad h j->∃hs,oA eJ ad=some hs/\nC C bo bv bO .run (hs::D) (fm bM fn n aq aD ro cs c8 nF) K h j v)
 (cx:∀ad h j todo,aw ad h j->nC C bo bv bO (.panicking [⟨ad,false⟩]) todo (fm bM fn n aq aD ro cs c8 nF) (uf (eJ::D) K) h j v){r:ea}(a:B9 C bM.rd (some r) h j ah aw):
 nI r (fL C bo bv bO v) C eJ D (fm bM fn n aq aD ro cs c8 nF) K h j=some v:=by
 have fill:∀ad h j,ah ad h j->(match oA eJ ad with|some hs=>fL C bo bv bO v .run (hs::D) (fm bM fn n aq aD ro cs c8 nF) K h j|none=>none)=some v:=by
  intro ad h j aF
  obtain⟨hs,R,U⟩:=iK ad h j aF
  rw[R]
  exact h1 U
 cases r with
 |val ad=>exact fill ad h j a
 |fv ad T ao=>exact fill ad T ao a
 |enter f args=>
  refine a bo dK d4 cG bv bO v aI (DY eJ D (fm bM fn n aq aD ro cs c8 nF) K) (λad T ao an=> ?_) (λad T ao an=> ?_)
  ·exact fill ad T ao an
  ·exact h1 (cx ad T ao _ an)
 |round l args=>
  rw[aun]
  refine a bo dK d4 cG bv bO v aI (DY eJ D (fm bM fn n aq aD ro cs c8 nF) K) (λad T ao an=> ?_) (λad T ao an=> ?_)
  ·exact fill ad T ao an
  ·exact h1 (cx ad T ao _ an)
 |known f args ad=>exact fill ad h j a
 |panic ad=>
  have a:=(show bR bM.rd False (aw ad h j) from a)
  cases Z:bM.rd with
  |true=>rw[Z]at a;exact a.elim
  |false=>
   rw[Z]at a
   have jk:=bp.rd Z
   subst jk
   exact h1 (cx ad h j _ a)
 |fork l=>exact alK aI l a.1 λad T bp=>iK ad T j (a.2 ad T bp)
 |_=>exact a.elim
def aky{av:Array Oper}{au:List (Nat×H)}{i:Nat}{rest:List fg}{fin:List (Nat×Nat)}{D:List dN}{K:S H}:uf (.sL av au i rest fin::D) K=wt (dstsOf av.toList) K:=rfl
def akx{av:Array Oper}{au:List (Nat×H)}{b i:Nat}{rest:List wg}{fin:List (Nat×Nat)}{D:List dN}{K:S H}:uf (.y6 av b au i rest fin::D) K=wt (dstsOf av.toList) K:=rfl
def auG(cG:Env C bo dK d4)(aI:H.same 30 v v=true)(bp:Af bM aD ro cs c8){av:Array Oper}{fin:List (Nat×Nat)}{D:List dN}{t:S H}{ah:gn}{aw:rJ}
 (iK:∀K t h j,gR K t->ah K h j->nC C bo bv bO .run D (fm bM fn n aq aD ro cs c8 K) t h j v)
 (cx:∀K t ad h j todo,gR K t->aw K ad h j->nC C bo bv bO (.panicking [⟨ad,false⟩]) todo (fm bM fn n aq aD ro cs c8 K) t h j v):
 ∀(rest:List fg) (au:List (Nat×H)) (K:dL) (h:S ak) (j:Nat),gR K t->BL C bM fin ah (λK=>aw (hC (dstsOf av.toList) K)) rest au K h j->yY rest ⟨fL C bo bv bO v,av,fin,D,fm bM fn n aq aD ro cs c8 K⟩ C t au h j=some v:=by
 intro rest
 induction rest with
 |nil=>
  intro au K h j be a
  obtain⟨c1,hb,R,U,ar,aO⟩:=W9 be (show HP fin au K (λK=>ah K h j) from a)
  show HJ ⟨fL C bo bv bO v,av,fin,D,fm bM fn n aq aD ro cs c8 K⟩ C t au h j=some v
  simp only[HJ,Ld,R,oa]
  have F:fm bM fn n aq aD ro cs c8 K=fm bM fn n aq aD ro cs c8 c1:=by unfold fm;rw[ar.1,ar.2]
  rw[F]
  exact h1 (iK _ _ _ _ U aO)
 |cons x rest al=>
  intro au K h j be a
  obtain⟨i,g,op⟩:=x
  show DJ i g op rest (yY rest) ⟨fL C bo bv bO v,av,fin,D,fm bM fn n aq aD ro cs c8 K⟩ C t au h j=some v
  have a:=(show(match DW op with
   | .no=>N0 g au (λah=>So bM.rd op C h j au K ah (aw (hC (dstsOf av.toList) K))) (λv h j=>BL C bM fin ah (λK=>aw (hC (dstsOf av.toList) K)) rest ((i,v)::au) K h j) h j
   | .defer b1 f args=>bR (g.isNone&&bM.bb) (eL b1 au K f λmq=>sv b1 au K args λcp=>Hy mq cp K λK=>BL C bM fin ah (λK=>aw (hC (dstsOf av.toList) K)) rest ((i,undef)::au) K h j) False
   | .recover=>bR (g.isNone&& !bM.rd) (GA bM.jE K λv K=>BL C bM fin ah (λK=>aw (hC (dstsOf av.toList) K)) rest ((i,v)::au) K h j) False) from a)
  cases A6:DW op with
  |no=>
   rw[A6]at a
   obtain⟨w,R,U,ar⟩:=NZ ((aer ..).mp a)
   simp only[DJ,NX,R,oa]
   cases w with
   |false=>simp only[Zv,ZB];exact al _ _ _ _ be (ar rfl)
   |true=>
    simp only[ZD]
    have aO:=U rfl
    rw[Nq]
    unfold So at aO
    cases aF:mA op with
    |hX=>
     simp only[aF]at aO ⊢
     obtain⟨ad,bN,cv⟩:=M2 be aO
     rw[bN]
     exact al _ _ _ _ be cv
    |make=>
     simp only[aF]at aO ⊢
     obtain⟨ad,cR,bN,cv⟩:=ar0 be aO
     simp only[M5,l0,bN,he,oa]
     exact al _ _ _ _ be cv
    |fe=>
     simp only[aF]at aO ⊢
     obtain⟨r,bN,cv⟩:=aab be aO
     rw[bN]
     have p0:nI r (fL C bo bv bO v) C (.sL av au i rest fin) D (fm bM fn n aq aD ro cs c8 K) t h j=some v:=by
      refine VK aI bp cG (λad h j an=>⟨_,rfl, ?_⟩) (λad h j todo an=> ?_) cv
      ·exact kv cG (al _ _ _ _ be an)
      ·rw[aky];exact cx (hC (dstsOf av.toList) K) _ _ _ _ _ (WH be _) an
     cases r with
     |val ad=>exact al _ _ _ _ be cv
     |fv ad T ao=>exact al _ _ _ _ be cv
     |_=>exact p0
  |defer b1 f args=>
   rw[A6]at a
   obtain⟨c,rfl,rfl⟩:=au3 A6
   have a:=(show bR (g.isNone&&bM.bb) _ False from a)
   cases g with
   |some g=>exact a.elim
   |none=>
    cases l4:bM.bb with
    |false=>rw[l4]at a;exact a.elim
    |true=>
     rw[l4]at a
     obtain⟨mq,R,U⟩:=hj be (show eL b1 au K f _ from a)
     obtain⟨cp,ar,aO⟩:=DK be U
     have jk:=bp.bb l4
     subst jk
     cases mq with
     |func g first fH=>
      simp only[DJ,NX,og,oa,ZD]
      rw[Nq]
      have aF:mA (.fe b1 (.defer ⟨.value f,c.1,c.2⟩))= .fe:=rfl
      have ag:hJ (.fe b1 (.defer ⟨.value f,c.1,c.2⟩)) C h j au t=some (.defer ⟨.fn g fH,first++cp⟩):=by
       simp only[hJ,nd,P0,R,ar]
      simp only[aF,ag]
      have gf:fm bM fn n aq aD none cs c8 K=⟨fn,n,aq,K.bb,aD,none,bR K.rc c8 cs⟩:=by unfold fm;rw[l4];rfl
      show nI (.defer ⟨.fn g fH,first++cp⟩) (fL C bo bv bO v) C (.sL av au i rest fin) D (fm bM fn n aq aD none cs c8 K) t h j=some v
      rw[gf]
      show fL C bo bv bO v .run (.GH av ((i,undef)::au) rest fin::D) ⟨fn,n,aq,⟨.fn g fH,first++cp⟩::K.bb,aD,none,bR K.rc c8 cs⟩ t h j=some v
      have dc:(⟨fn,n,aq,⟨.fn g fH,first++cp⟩::K.bb,aD,none,bR K.rc c8 cs⟩:h9)=fm bM fn n aq aD none cs c8 (yT K ⟨.fn g fH,first++cp⟩):=by unfold fm;rw[l4];rfl
      rw[dc]
      exact h1 (kv cG (al _ (yT K ⟨.fn g fH,first++cp⟩) _ _ be aO))
     |_=>exact aO.elim
  |recover=>
   rw[A6]at a
   obtain⟨b1,dg,args,rfl,wL⟩:=au4 A6
   have a:=(show bR (g.isNone&& !bM.rd) _ False from a)
   cases g with
   |some g=>exact a.elim
   |none=>
    cases cz:bM.rd with
    |true=>rw[cz]at a;exact a.elim
    |false=>
     rw[cz]at a
     have jk:=bp.rd cz
     subst jk
     have a:GA bM.jE K (λv K=>BL C bM fin ah (λK=>aw (hC (dstsOf av.toList) K)) rest ((i,v)::au) K h j):=a
     simp only[DJ,NX,og,oa,ZD]
     rw[Nq]
     have aF:mA (.fe b1 (.call ⟨.builtin .recover,args,dg⟩))= .fe:=rfl
     have ag:hJ (.fe b1 (.call ⟨.builtin .recover,args,dg⟩)) C h j au t=some .recover:=by
      simp only[hJ,nd,Cz,HX,wL,pt]
     simp only[aF,ag]
     show nI .recover (fL C bo bv bO v) C (.sL av au i rest fin) D (fm bM fn n aq aD none cs c8 K) t h j=some v
     have key:∀ad c1,gR c1 t->BQ aD (bR K.rc c8 cs)=some (ad,bR c1.rc c8 cs)->c1.bb=K.bb->BL C bM fin ah (λK=>aw (hC (dstsOf av.toList) K)) rest ((i,ad)::au) c1 h j->nI .recover (fL C bo bv bO v) C (.sL av au i rest fin) D (fm bM fn n aq aD none cs c8 K) t h j=some v:=by
      intro ad c1 Ro R U ar
      show(match BQ aD (bR K.rc c8 cs)with
       |some (hI,akd)=>(match oA (.sL av au i rest fin) hI with|some hs=>fL C bo bv bO v .run (hs::D) ⟨fn,n,aq,bR bM.bb K.bb [],aD,none,akd⟩ t h j|none=>none)
       |none=>none)=some v
      rw[R]
      show fL C bo bv bO v .run (.GH av ((i,ad)::au) rest fin::D) ⟨fn,n,aq,bR bM.bb K.bb [],aD,none,bR c1.rc c8 cs⟩ t h j=some v
      have gf:(⟨fn,n,aq,bR bM.bb K.bb [],aD,none,bR c1.rc c8 cs⟩:h9)=fm bM fn n aq aD none cs c8 c1:=by unfold fm;rw[U]
      rw[gf]
      exact h1 (kv cG (al _ _ _ _ Ro ar))
     unfold GA at a
     cases ay:bM.jE with
     |none=>rw[ay]at a;exact a.elim
     |some p=>
      rw[ay]at a
      cases p with
      |none=>
       obtain⟨R,U⟩:=bp.none ay
       subst R
       refine key _ K be ?_ rfl a
       cases K.rc<;>exact U
      |some ad=>
       obtain⟨R,U⟩:=bp.some ad ay
       cases FC:K.rc with
       |true=>
        simp only[FC]at a
        refine key _ K be ?_ rfl a
        simp only[FC];exact U
       |false=>
        simp only[FC]at a
        refine key ad (NJ K) be ?_ rfl a
        simp only[FC];exact R
def akw(cG:Env C bo dK d4)(aI:H.same 30 v v=true)(bp:Af bM aD ro cs c8){av:Array Oper}{base:Nat}{fin:List (Nat×Nat)}{D:List dN}{K:dL}{t:S H}(be:gR K t){ah:gn}{aw:rJ}
 (iK:∀K t h j,gR K t->ah K h j->nC C bo bv bO .run D (fm bM fn n aq aD ro cs c8 K) t h j v)
 (cx:∀K t ad h j todo,gR K t->aw K ad h j->nC C bo bv bO (.panicking [⟨ad,false⟩]) todo (fm bM fn n aq aD ro cs c8 K) t h j v):
 ∀(k9:List wg) (au:List (Nat×H)) (h:S ak) (j:Nat),Pf C bM.rd base fin K ah (aw (hC (dstsOf av.toList) K)) k9 au h j->xV (fL C bo bv bO v) C av base au k9 fin D (fm bM fn n aq aD ro cs c8 K) t h j=some v:=by
 intro k9
 induction k9 with
 |nil=>intro au h j a;exact a.elim
 |cons s rest al=>
  intro au h j a
  obtain⟨ho,T,R,U⟩:=arK be (show M4 C base K s.tx au h _ from a)
  obtain⟨ar,aO⟩:=atU be U
  simp only[xV,R,ar,e2]
  cases gb:s.fe with
  |none=>
   simp only[gb]at aO
   obtain⟨c1,hb,bN,cv,dP,fq⟩:=W9 be aO
   simp only[Ld,bN,oa]
   have F:fm bM fn n aq aD ro cs c8 K=fm bM fn n aq aD ro cs c8 c1:=by unfold fm;rw[dP.1,dP.2]
   rw[F]
   exact h1 (iK _ _ _ _ cv fq)
  |some ag=>
   simp only[gb]at aO
   obtain⟨w,bN,cv,dP⟩:=NZ ((aer ..).mp aO)
   simp only[bN]
   cases w with
   |false=>simp only[jK];exact h1 (kv cG (al _ _ _ (dP rfl)))
   |true=>
    obtain⟨r,fq,j2⟩:=aab be (cv rfl)
    simp only[e2,fq]
    refine VK aI bp cG (λad h j an=>⟨_,rfl, ?_⟩) (λad h j todo an=> ?_) j2
    ·exact kv cG (al _ _ _ an)
    ·rw[akx];exact cx (hC (dstsOf av.toList) K) _ _ _ _ _ (WH be _) an
def aeN(C:aW)(bo:World)(bv:Nat)(bO:List Frame)(v:H)(b4:dL->h9)(D:List dN)(id:Nat):gn:=λK h j=>∀t,gR K t->Az id (fL C bo bv bO v) C D (b4 K) t h j=some v
def Lc{id:Nat}{al:hm}{C:aW}{eJ:dN}{D:List dN}{bM:tR}{cs c8:List gC}{nF:dL}{K:S H}{h:S ak}{j:Nat}(a:exitTo id (eJ::D)=exitTo id D):
 Az id al C (eJ::D) (fm bM fn n aq aD ro cs c8 nF) K h j=Az id al C D (fm bM fn n aq aD ro cs c8 nF) K h j:=by
 unfold Az
 rw[a]
 cases exitTo id D with
 |some e1=>rfl
 |none=>
  unfold n7 fm
  cases ro with
  |none=>rfl
  |some l=>rfl
def Oe(C:aW)(fn n aq:Nat)(c:Code):Prop:=
 ∀{bo:World}{dK:c6}{d4:Nat->Prop}(_:Env C bo dK d4) {bv:Nat}{bO:List Frame}{v:H}(_:H.same 30 v v=true) (bM:tR) (aD:Bool) (ro:Option Nat) (cs c8:List gC) (aw:rJ) (D:List dN) (ah:gn) (F:Nat->gn) (r:gn) (K:dL) (t:S H) (h:S ak) (j:Nat),Af bM aD ro cs c8->
  (∀K t ad h j todo,gR K t->aw K ad h j->nC C bo bv bO (.panicking [⟨ad,false⟩]) todo (fm bM fn n aq aD ro cs c8 K) t h j v)->
  (∀K t h j,gR K t->ah K h j->nC C bo bv bO .run D (fm bM fn n aq aD ro cs c8 K) t h j v)->
  (∀id K h j,F id K h j->aeN C bo bv bO v (fm bM fn n aq aD ro cs c8) D id K h j)->
  (∀K t h j todo,gR K t->r K h j->n7 (some .ret) (fL C bo bv bO v) C todo (fm bM fn n aq aD ro cs c8 K) t h j=some v)->
  gR K t->wq C n aq c bM aw ah F r K h j->ub c (fL C bo bv bO v) C D (fm bM fn n aq aD ro cs c8 K) t h j=some v
def auM{n:Nat}:∀(dl:List Nat) (cp:List H) (K:dL) (t:S H) (ah:dL->Prop),gR K t->GI n dl cp K ah->∃c1 hb,xl n dl cp t=some hb/\gR c1 hb/\ah c1:=by
 intro dl
 induction dl with
 |nil=>
  intro cp K t ah be a
  cases cp with
  |nil=>exact⟨K,t,rfl,be,a⟩
  |cons J cp=>exact a.elim
 |cons p dl al=>
  intro cp K t ah be a
  cases cp with
  |nil=>exact a.elim
  |cons J cp=>
   have a:=(show bR (Nat.blt p n) (GI n dl cp (ab K p J) ah) False from a)
   cases ai:Nat.blt p n with
   |false=>rw[ai]at a;exact a.elim
   |true=>
    rw[ai]at a
    obtain⟨c1,hb,R,U,ar⟩:=al cp _ _ ah (adN be p J) a
    exact⟨c1,hb,by simp only[xl,ai,e2,R],U,ar⟩
def BV(fn n aq:Nat)(ro:Option Nat)(cs:List gC)(K:dL):fm Br fn n aq false ro cs cs K=⟨fn,n,aq,[],false,ro,cs⟩:=by
 unfold fm Br
 cases K.rc<;>rfl
def RV{al:hm}{C:aW}{l fn n aq:Nat}{t0:S H}{params:List Nat}{assign body:Code}{KT:Nat}{iA:Option Code}{st:LoopState}{b:Bool}{ah:bG}{todo:List dN}{cs:List gC}{t:S H}{h:S ak}{j:Nat}{v:H}
 (aH:kt C l=true)(ay:ada iA=true)(df:st=bR iA.isNone .ready .done)(ai:b=iA.isNone)(a:K7 C l (λst p=> .loop st p fn n aq t0 params assign body KT) st iA b ah h j)
 (aF:∀ad h j,ah ad h j->sR al false cs ad h j=some v):n7 iA al C todo ⟨fn,n,aq,[],false,some l,cs⟩ t h j=some v:=by
 obtain⟨⟨adS,Gu,R⟩,U⟩:=a
 subst df ai
 have:=aF _ _ _ U
 simp only[n7,R,aH,ay,Yc,Yh,e2,he]
 exact this
def auo{C:aW}{fn n aq:Nat}{assign body:Code}(l1:Oe C fn n aq assign)(ek:Oe C fn n aq body){bo:World}{dK:c6}{d4:Nat->Prop}(cG:Env C bo dK d4){bv:Nat}{bO:List Frame}{v:H}(aI:H.same 30 v v=true){l:Nat}{t:S H}{params:List Nat}{KT:Nat}{cs:List gC}
 {K:dL}{h:S ak}{j:Nat}{args:List H}{ah aw:bG}(aB:aa C h l=some (.loop .ready none fn n aq t params assign body KT))(aH:kt C l=true)(be:gR K t)
 (gq:∀ad T ao,ah ad T ao->Ob C bo bv bO v cs ad T ao)(iI:∀ad T ao,aw ad T ao->Ku C bo bv bO v cs ad T ao)
 (a:GI n params args K λqN=>sB C (wq C n aq assign) (wq C n aq body) l (λst p=> .loop st p fn n aq t params assign body KT) ah aw qN h j):
 ND (fL C bo bv bO v) C l args cs h j=some v:=by
 obtain⟨qN,t1,bB,MC,R⟩:=auM _ _ _ _ _ be a
 unfold ND
 rw[aB]
 simp only[bB]
 have bp:Af Br false (some l) cs cs:=⟨λa=>(by cases a),λa=>(by cases a),λa=>(by cases a),λad a=>(by cases a)⟩
 have cx:∀(K:dL) (t:S H) (ad:H) (h:S ak) (j:Nat) (todo:List dN),gR K t->aw ad h j->nC C bo bv bO (.panicking [⟨ad,false⟩]) todo (fm Br fn n aq false (some l) cs cs K) t h j v:=by
  intro K t ad h j todo be an
  rw[BV]
  refine kv cG ?_
  have:=iI ad h j an
  show J1 [⟨ad,false⟩] todo (fL C bo bv bO v) C ⟨fn,n,aq,[],false,some l,cs⟩ t h j=some v
  cases cs with
  |nil=>exact this.elim
  |cons c rest=>exact this
 refine h1 (kv cG ?_)
 rw[<-BV fn n aq (some l) cs qN]
 refine l1 cG aI Br false (some l) cs cs (λ_=>aw) [.beginRound, .code body] _ _ _ qN t1 h j bp cx (λK t h j be an=> ?_) (λid K h j an=>an.elim) (λK t h j todo be an=>an.elim) MC R
 obtain⟨cB,cu⟩:=an
 refine kv cG ?_
 rw[BV]
 show Hn (fL C bo bv bO v) C [.code body] ⟨fn,n,aq,[],false,some l,cs⟩ t h j=some v
 unfold Hn
 simp only[cB,aH,e2,he]
 refine h1 (kv cG ?_)
 rw[<-BV fn n aq (some l) cs K]
 refine ek cG aI Br false (some l) cs cs (λ_=>aw) [] _ _ _ K t _ j bp cx (λK t h j be an=> ?_) (λid K h j an t be=> ?_) (λK t h j todo be an=> ?_) be cu
 ·refine kv cG ?_
  rw[BV]
  show n7 none (fL C bo bv bO v) C [] ⟨fn,n,aq,[],false,some l,cs⟩ t h j=some v
  exact RV aH rfl rfl rfl an gq
 ·rw[BV]
  show n7 (some (.exit id)) (fL C bo bv bO v) C (.code (.exit id)::[]) ⟨fn,n,aq,[],false,some l,cs⟩ t h j=some v
  exact RV aH rfl rfl rfl an gq
 ·rw[BV]
  exact RV aH rfl rfl rfl an gq
def O2:∀c:Code,Oe C fn n aq c:=by
 intro c
 induction c with
 |skip=>intro bo dK d4 cG bv bO v aI bM aD ro cs c8 aw D ah F r K t h j bp cx iK bt Z be a;exact h1 (iK _ _ _ _ be a)
 |region id av d=>
  intro bo dK d4 cG bv bO v aI bM aD ro cs c8 aw D ah F r K t h j bp cx iK bt Z be a
  cases d with
  |false=>
   obtain⟨an,R,U⟩:=sw.1 (show aj (Jv C n av aq) (λr=>BL C bM r.fin ah (λK=>aw (hC (dstsOf av.toList) K)) r.rest [] K h j) from a)
   show iY (Jv C n av aq) (λr=>Od.rec (motive:=λ_=>d6) (λrest fin=>yY rest ⟨fL C bo bv bO v,av,fin,D,fm bM fn n aq aD ro cs c8 K⟩ C t [] h j) r)=some v
   rw[R]
   exact auG cG aI bp iK cx _ _ _ _ _ be U
  |true=>
   obtain⟨an,R,U⟩:=sw.1 (show aj (Ju C n av aq) (λr=>eZ (j+av.size) λao=>Pf C bM.rd j r.fin K ah (aw (hC (dstsOf av.toList) K)) r.k9 [] h ao) from a)
   show iY (Ju C n av aq) (λr=>Oc.rec (motive:=λ_=>d6) (λk9 fin=>p3 j λj=>xV (fL C bo bv bO v) C av j [] k9 fin D (fm bM fn n aq aD ro cs c8 K) t h (j+av.size)) r)=some v
   rw[R]
   show p3 j (λj=>xV (fL C bo bv bO v) C av j [] an.k9 an.fin D (fm bM fn n aq aD ro cs c8 K) t h (j+av.size))=some v
   rw[l0]
   exact akw cG aI bp be iK cx _ _ _ _ U.out
 |seq J b mz hr=>
  intro bo dK d4 cG bv bO v aI bM aD ro cs c8 aw D ah F r K t h j bp cx iK bt Z be a
  refine mz cG aI bM aD ro cs c8 aw (.code b::D) (wq C n aq b bM aw ah F r) F r K t h j bp cx (λK t h j be a=> ?_) (λid K h j a t be=> ?_) Z be a
  ·exact kv cG (hr cG aI bM aD ro cs c8 aw D ah F r K t h j bp cx iK bt Z be a)
  ·rw[Lc (by simp[exitTo])]
   exact bt id K h j a t be
 |cond c J b mz hr=>
  intro bo dK d4 cG bv bO v aI bM aD ro cs c8 aw D ah F r K t h j bp cx iK bt Z be a
  obtain⟨ad,R,U⟩:=hj (au:=[]) (b1:=[]) be (show eL [] [] K c _ from a)
  obtain⟨NS,rfl,ar,aO⟩:=Wa U.out
  have bN:wx t c=some (.bool NS):=by
   cases c<;>first|(simp[iT,wx]at R;done)|simpa[iT,wx]using R
  show Hv c t (ub J (fL C bo bv bO v) C D (fm bM fn n aq aD ro cs c8 K) t h j) (ub b (fL C bo bv bO v) C D (fm bM fn n aq aD ro cs c8 K) t h j)=some v
  simp only[Hv,oa,bN]
  cases NS with
  |true=>exact mz cG aI bM aD ro cs c8 aw D ah F r K t h j bp cx iK bt Z be (ar rfl)
  |false=>exact hr cG aI bM aD ro cs c8 aw D ah F r K t h j bp cx iK bt Z be (aO rfl)
 |block id b hr=>
  intro bo dK d4 cG bv bO v aI bM aD ro cs c8 aw D ah F r K t h j bp cx iK bt Z be a
  refine hr cG aI bM aD ro cs c8 aw (.inBlock id::D) ah (Cp id ah F) r K t h j bp cx (λK t h j be a=>kv cG (h1 (iK K t h j be a))) (λtr K h j a t be=> ?_) Z be a.out
  unfold Cp at a
  rw[hB]at a
  by_cases Fo:id=tr
  ·rw[Zq Fo]at a
   have bB:exitTo tr (.inBlock id::D)=some D:=by simp[exitTo,Fo,hB]
   unfold Az
   rw[bB]
   exact h1 (iK K t h j be a)
  ·rw[Zh Fo]at a
   rw[Lc (by simp[exitTo,hB,Fo])]
   exact bt tr K h j a t be
 |loop b hr=>
  intro bo dK d4 cG bv bO v aI bM aD ro cs c8 aw D ah F r K t h j bp cx iK bt Z be a
  obtain⟨ol,⟨m,QT⟩,oD⟩:=(show fj (λOG=>wq C n aq b bM aw OG F r) K h j from a).out
  have Jr:∀m K t h j,ol m K h j->gR K t->ub b (fL C bo bv bO v) C (.inLoop b::D) (fm bM fn n aq aD ro cs c8 K) t h j=some v:=by
   intro m
   induction m using Nat.strongRecOn with
   |ind m pA=>
    intro K t h j QT be
    refine hr cG aI bM aD ro cs c8 aw (.inLoop b::D) _ F r K t h j bp cx (λK t h j be a=> ?_) (λid K h j a t be=> ?_) Z be (oD m K h j QT)
    ·obtain⟨gj,c2,uL⟩:=a
     exact kv cG (pA gj c2 K t h j uL be)
    ·rw[Lc (by simp[exitTo])]
     exact bt id K h j a t be
  exact Jr m K t h j QT be
 |rangeFunc f params assign body mz hr=>
  intro bo dK d4 cG bv bO v aI bM aD ro cs c8 aw D ah F r K t h j bp cx iK bt Z be a
  have a:=(show bR bM.bb (Pp f K λmq=>DO C n mq params.toList (sB C (wq C n aq assign) (wq C n aq body)) ah F r aw K h j) False from a)
  cases l4:bM.bb with
  |false=>rw[l4]at a;exact a.elim
  |true=>
   rw[l4]at a
   have jk:=bp.bb l4
   subst jk
   obtain⟨mq,R,U⟩:=hj (au:=[]) (b1:=[]) be (show eL [] [] K f _ from a)
   have bN:wx t f=some mq:=by
    cases f<;>first|(simpa[iT,wx]using R)|(simp[iT]at R;subst R;rfl)
   have QP:=U.low
   have Fv:=U.out
   have gf:∀K:dL,fm bM fn n aq aD none cs c8 K=⟨fn,n,aq,K.bb,aD,none,bR K.rc c8 cs⟩:=λK=>by unfold fm;rw[l4];rfl
   have AQ:kt C (j+1)=true:=OR Zo
   show JP f params assign body (fL C bo bv bO v) C D (fm bM fn n aq aD none cs c8 K) t h j=some v
   rw[gf]
   unfold JP
   rw[bN]
   cases mq with
   |func g first fH=>
    cases g with
    |func g=>
     simp only[l0]
     have Fv:=Fv (λst p=> .loop st p fn n aq t params.toList assign body j) ?_
     ·refine Fv bo dK d4 cG bv bO v aI _ (λad T ao an=> ?_) (λad T ao an=> ?_)
      ·obtain⟨st,p,cB,cu,ee⟩:=an
       show(match oA (.inRangeFunc (j+1)) ad with
        |some hs=>fL C bo bv bO v .run (hs::D) ⟨fn,n,aq,⟨.collected j,[]⟩::K.bb,aD,none,bR K.rc c8 cs⟩ t T ao
        |none=>none)=some v
       refine h1 (kv cG ?_)
       show ER (j+1) (fL C bo bv bO v) C D ⟨fn,n,aq,⟨.collected j,[]⟩::K.bb,aD,none,bR K.rc c8 cs⟩ t T ao=some v
       have bB:ER (j+1) (fL C bo bv bO v) C D ⟨fn,n,aq,⟨.collected j,[]⟩::K.bb,aD,none,bR K.rc c8 cs⟩ t T ao=fL C bo bv bO v .run ((p.map dN.code).toList++D) ⟨fn,n,aq,⟨.collected j,[]⟩::K.bb,aD,none,bR K.rc c8 cs⟩ t (bm C T (j+1) (some (.loop .exhausted p fn n aq t params.toList assign body j))) ao:=by
        unfold ER
        rw[cu]
        cases st with
        |busy=>exact absurd rfl cB
        |_=>simp only[AQ,e2,he]
       rw[bB]
       have dc:=gf (vh K j)
       have dZ:(⟨fn,n,aq,⟨.collected j,[]⟩::K.bb,aD,none,bR K.rc c8 cs⟩:h9)=fm bM fn n aq aD none cs c8 (vh K j):=dc.symm
       rw[dZ]
       have FI:gR (vh K j) t:=be
       cases p with
       |none=>exact h1 (iK _ _ _ _ FI ee)
       |some c=>
        refine h1 (kv cG ?_)
        unfold adb at ee
        cases c with
        |exit id=>exact bt id _ _ _ ee t FI
        |ret=>exact Z _ _ _ _ _ FI ee
        |_=>exact ee.elim
      ·refine h1 ?_
       have dZ:(⟨fn,n,aq,⟨.collected j,[]⟩::K.bb,aD,none,bR K.rc c8 cs⟩:h9)=fm bM fn n aq aD none cs c8 (vh K j):=(gf (vh K j)).symm
       have:=cx (vh K j) t ad T ao (.inRangeFunc (j+1)::D) be an
       rw[<-dZ]at this
       exact this
     ·
      intro args aX DF y9 ez aB bm ld xw mi Pn eM qT Kd lm O6 gq iI
      exact auo mz hr Pn lm aB AQ be gq iI bm
    |_=>exact Fv.elim
   |_=>exact Fv.elim
 |exit id=>
  intro bo dK d4 cG bv bO v aI bM aD ro cs c8 aw D ah F r K t h j bp cx iK bt Z be a
  exact bt id K h j a t be
 |scope b hr=>
  intro bo dK d4 cG bv bO v aI bM aD ro cs c8 aw D ah F r K t h j bp cx iK bt Z be a
  refine hr cG aI bM aD ro cs c8 aw (.inScope b::D) ah F r K t h j bp cx (λK t h j be a=>kv cG (h1 (iK K t h j be a))) (λid K h j a t be=> ?_) Z be a
  rw[Lc (by simp[exitTo])]
  exact bt id K h j a t be
 |label l=>intro bo dK d4 cG bv bO v aI bM aD ro cs c8 aw D ah F r K t h j bp cx iK bt Z be a;exact h1 (iK _ _ _ _ be a)
 |goto l=>intro bo dK d4 cG bv bO v aI bM aD ro cs c8 aw D ah F r K t h j bp cx iK bt Z be a;exact a.elim
 |ret=>
  intro bo dK d4 cG bv bO v aI bM aD ro cs c8 aw D ah F r K t h j bp cx iK bt Z be a
  exact Z _ _ _ _ _ be a
 |refuse s=>intro bo dK d4 cG bv bO v aI bM aD ro cs c8 aw D ah F r K t h j bp cx iK bt Z be a;exact a.elim
end
def OJ(args:List H):gR (cP args) (S.ofList args 0 .nil):=by
 intro n v a
 rw[kC]
 simpa[cP]using a
section
variable{C:aW}{dK:c6}{d4:Nat->Prop}{bo:World}{bv:Nat}{bO:List Frame}{v:H}{fn:Nat}{s2:Func}{n aq:Nat}{aD:Bool}{cs:List gC}
def NC(cG:Env C bo dK d4)(aI:H.same 30 v v=true)(ce:C.P.funcs[fn]? =some s2){bs:bG}(gq:∀ad h j,bs ad h j->sR (fL C bo bv bO v) aD cs ad h j=some v){K:dL}{t:S H}(be:gR K t):
 ∀(ds:List hy) (h:S ak) (j:Nat) (todo:List dN),m6 C s2.results.toList bs K ds h j->nC C bo bv bO .returning todo ⟨fn,n,aq,ds,aD,none,cs⟩ t h j v:=by
 intro ds
 induction ds with
 |nil=>
  intro h j todo a
  obtain⟨bk,R,U⟩:=at7 be (show qx C h K s2.results.toList (λbk=>bs (one bk) h j) from a)
  refine kv cG ?_
  show J2 todo (fL C bo bv bO v) C ⟨fn,n,aq,[],aD,none,cs⟩ t h j=some v
  simp only[J2,ce,R]
  exact gq _ _ _ U
 |cons d ds al=>
  intro h j todo a
  obtain⟨J8,cp⟩:=d
  refine kv cG ?_
  show xn ⟨J8,cp⟩ ds .returning todo (fL C bo bv bO v) C ⟨fn,n,aq,[],aD,none,cs⟩ t h j=some v
  cases J8 with
  |collected r=>
   have a:=(show Nh C r h (m6 C s2.results.toList bs K ds (bm C h r (some (.deferred none))) j) from a)
   simp only[xn,a.here,show kt C r=true from OR a.low,e2,he,YF]
   exact h1 (al _ _ _ a.go)
  |fn g cap=>
   have a:=(show sZ C g (cp++cap) none h j (λ_ h j=>m6 C s2.results.toList bs K ds h j) from a).out
   split at a
   ·rename_i f
    obtain⟨R,⟨wC,c,U,ar⟩,aO⟩:=a
    simp only[xn,Al,rN,R,U,ar]
    exact aO bo dK d4 cG bv bO v aI fn n aq t todo ds aD none cs λb T ao an=>h1 (al _ _ _ an)
   ·exact a.elim
def ac6(cG:Env C bo dK d4)(aI:H.same 30 v v=true)(ce:C.P.funcs[fn]? =some s2){bs eE:bG}(gq:∀ad h j,bs ad h j->sR (fL C bo bv bO v) aD cs ad h j=some v)(iI:∀ad h j,eE ad h j->Ku C bo bv bO v cs ad h j){K:dL}{t:S H}(be:gR K t)(ad:H):
 ∀(ds:List hy) (h:S ak) (j:Nat) (todo:List dN),vo C s2.results.toList bs eE K ad ds h j->nC C bo bv bO (.panicking [⟨ad,false⟩]) todo ⟨fn,n,aq,ds,aD,none,cs⟩ t h j v:=by
 intro ds
 induction ds with
 |nil=>
  intro h j todo a
  refine kv cG ?_
  have:=iI ad h j a
  show J1 [⟨ad,false⟩] todo (fL C bo bv bO v) C ⟨fn,n,aq,[],aD,none,cs⟩ t h j=some v
  cases cs with
  |nil=>exact this.elim
  |cons c rest=>exact this
 |cons d ds al=>
  intro h j todo a
  obtain⟨J8,cp⟩:=d
  refine kv cG ?_
  show xn ⟨J8,cp⟩ ds (.panicking [⟨ad,false⟩]) todo (fL C bo bv bO v) C ⟨fn,n,aq,[],aD,none,cs⟩ t h j=some v
  cases J8 with
  |collected r=>
   have a:=(show Nh C r h (vo C s2.results.toList bs eE K ad ds (bm C h r (some (.deferred none))) j) from a)
   simp only[xn,a.here,show kt C r=true from OR a.low,e2,he,YF]
   exact h1 (al _ _ _ a.go)
  |fn g cap=>
   have a:=(show sZ C g (cp++cap) (some ad) h j (λb h j=>bR b (m6 C s2.results.toList bs K ds h j) (vo C s2.results.toList bs eE K ad ds h j)) from a).out
   split at a
   ·rename_i f
    obtain⟨R,⟨wC,c,U,ar⟩,aO⟩:=a
    simp only[xn,Al,rN,R,U,ar]
    refine aO bo dK d4 cG bv bO v aI fn n aq t todo ds aD none cs λb T ao an=> ?_
    cases b with
    |true=>exact h1 (NC cG aI ce gq be ds T ao todo an)
    |false=>exact h1 (al _ _ _ an)
   ·exact a.elim
end
def PA{C:aW}{f dV:Nat}(az:cS C f dV=true):∃fn c,C.P.funcs[f]? =some fn/\fn.body=some c/\(Nat.ble dV fn.ntmps&&lC C (Nat.lor (kb c) (nx fn.results.toList)) c&&yU (Nat.lor (kb c) (nx fn.results.toList)) fn.results.toList)=true:=by
 unfold cS at az
 split at az
 ·rename_i fn ce
  split at az
  ·rename_i c ai;exact⟨fn,c,ce,ai,az⟩
  ·cases az
 ·cases az
def F3{al:hm}{C:aW}{fn n aq:Nat}{bb:List hy}{aD:Bool}{cs:List gC}{todo:List dN}{K:S H}{h:S ak}{j:Nat}{Y:Option Code}(bH:RE Y=true):n7 Y al C todo ⟨fn,n,aq,bb,aD,none,cs⟩ K h j=al .returning todo ⟨fn,n,aq,bb,aD,none,cs⟩ K h j:=by
 simp only[n7,bH,e2]
def G1(fn n aq:Nat)(aD:Bool)(ro:Option Nat)(cs:List gC)(K:dL):fm Gb fn n aq aD ro cs cs K=⟨fn,n,aq,[],aD,ro,cs⟩:=by
 unfold fm Gb
 cases K.rc<;>rfl
def G2(fn n aq:Nat)(aD:Bool)(ro:Option Nat)(cs:List gC)(K:dL):fm yI fn n aq aD ro cs cs K=⟨fn,n,aq,K.bb,aD,ro,cs⟩:=by
 unfold fm yI
 cases K.rc<;>rfl
def alG{C:aW}{f:Nat}{args:List H}{h:S ak}{j:Nat}{bs eE:bG}(az:cS C f args.length=true)(a:db C f args h j bs eE):tP C f args h j bs eE:=by
 intro bo dK d4 cG bv bO v aI cs gq iI
 obtain⟨fn,c,ce,ai,mv⟩:=PA az
 unfold db at a
 simp only[ce,ai]at a
 unfold nO
 simp only[ce,ai,l0,mv,e2]
 have bp:Af Gb false none cs cs:=⟨λ_=>rfl,λa=>(by cases a),λa=>(by cases a),λad a=>(by cases a)⟩
 have sd:∀K t h j todo,gR K t->qx C h K fn.results.toList (λbk=>bs (one bk) h j)->
  nC C bo bv bO .returning todo (fm Gb f fn.ntmps (Nat.lor (kb c) (nx fn.results.toList)) false none cs cs K) t h j v:=by
  intro K t h j todo be a
  rw[G1]
  exact NC cG aI ce (λad h j an=>gq ad h j an) be [] h j todo a
 refine h1 (kv cG ?_)
 rw[<-G1 f fn.ntmps (Nat.lor (kb c) (nx fn.results.toList)) false none cs (cP args)]
 refine O2 c cG aI Gb false none cs cs _ [] _ _ _ _ _ h j bp (λK t ad h j todo be a=> ?_) (λK t h j be a=> ?_) (λid K h j a=>a.elim) (λK t h j todo be a=> ?_) (OJ args) a
 ·rw[G1]
  exact ac6 (s2:=fn) (bs:=bs) cG aI ce (λad h j an=>gq ad h j an) (λad h j an=>iI ad h j an) be ad [] h j todo a
 ·refine kv cG ?_
  have:=sd K t h j [] be a
  rw[G1]at this ⊢
  show n7 none (fL C bo bv bO v) C [] ⟨f,fn.ntmps,Nat.lor (kb c) (nx fn.results.toList),[],false,none,cs⟩ t h j=some v
  rw[F3 rfl]
  exact h1 this
 ·have:=sd K t h j todo be a
  rw[G1]at this ⊢
  rw[F3 rfl]
  exact h1 this
def alH{C:aW}{f:Nat}{args:List H}{h:S ak}{j:Nat}{bs eE:bG}(az:cS C f args.length=true)(a:AC C f args h j bs eE):tP C f args h j bs eE:=by
 intro bo dK d4 cG bv bO v aI cs gq iI
 obtain⟨fn,c,ce,ai,mv⟩:=PA az
 unfold AC at a
 simp only[ce,ai]at a
 unfold nO
 simp only[ce,ai,l0,mv,e2]
 have bp:Af yI false none cs cs:=⟨λ_=>rfl,λ_=>rfl,λa=>(by cases a),λad a=>(by cases a)⟩
 have sd:∀K t h j todo,gR K t->m6 C fn.results.toList bs K K.bb h j->
  nC C bo bv bO .returning todo (fm yI f fn.ntmps (Nat.lor (kb c) (nx fn.results.toList)) false none cs cs K) t h j v:=by
  intro K t h j todo be a
  rw[G2]
  exact NC cG aI ce (λad h j an=>gq ad h j an) be K.bb h j todo a
 refine h1 (kv cG ?_)
 rw[show(⟨f,fn.ntmps,Nat.lor (kb c) (nx fn.results.toList),[],false,none,cs⟩:h9)=fm yI f fn.ntmps (Nat.lor (kb c) (nx fn.results.toList)) false none cs cs (cP args) from(G2 f fn.ntmps (Nat.lor (kb c) (nx fn.results.toList)) false none cs (cP args)).symm]
 refine O2 c cG aI yI false none cs cs _ [] _ _ _ _ _ h j bp (λK t ad h j todo be a=> ?_) (λK t h j be a=> ?_) (λid K h j a=>a.elim) (λK t h j todo be a=> ?_) (OJ args) a
 ·rw[G2]
  exact ac6 (s2:=fn) (bs:=bs) cG aI ce (λad h j an=>gq ad h j an) (λad h j an=>iI ad h j an) be ad K.bb h j todo a
 ·refine kv cG ?_
  have:=sd K t h j [] be a
  rw[G2]at this ⊢
  show n7 none (fL C bo bv bO v) C [] ⟨f,fn.ntmps,Nat.lor (kb c) (nx fn.results.toList),K.bb,false,none,cs⟩ t h j=some v
  rw[F3 rfl]
  exact h1 this
 ·have:=sd K t h j todo be a
  rw[G2]at this ⊢
  rw[F3 rfl]
  exact h1 this
def Xh{C:aW}{f:Nat}{args:List H}{jE:Option H}{h:S ak}{j:Nat}{bs:Bool->S ak->Nat->Prop}(az:cS C f args.length=true)(a:x2 C f args jE h j bs)
 {bo:World}{dK:c6}{d4:Nat->Prop}(cG:Env C bo dK d4){bv:Nat}{bO:List Frame}{v:H}(aI:H.same 30 v v=true){cs c8:List gC}(bp:Af ⟨false,false,some jE⟩ true none cs c8)
 (anM:∀b ad h j,bs b h j->sR (fL C bo bv bO v) true (bR b c8 cs) ad h j=some v):nO (fL C bo bv bO v) C f args true cs h j=some v:=by
 obtain⟨fn,c,ce,ai,mv⟩:=PA az
 unfold x2 at a
 simp only[ce,ai]at a
 unfold nO
 simp only[ce,ai,l0,mv,e2]
 have sd:∀K t h j todo,gR K t->qx C h K fn.results.toList (λ_=>bs K.rc h j)->
  nC C bo bv bO .returning todo (fm ⟨false,false,some jE⟩ f fn.ntmps (Nat.lor (kb c) (nx fn.results.toList)) true none cs c8 K) t h j v:=by
  intro K t h j todo be a
  exact NC (bs:=λ_ h j=>bs K.rc h j) cG aI ce (λad h j an=>anM K.rc ad h j an) be [] h j todo a
 refine h1 (kv cG ?_)
 refine O2 c cG aI ⟨false,false,some jE⟩ true none cs c8 _ [] _ _ _ (cP args) _ h j bp (λK t ad h j todo be a=>a.elim) (λK t h j be a=> ?_) (λid K h j a=>a.elim) (λK t h j todo be a=> ?_) (OJ args) a
 ·refine kv cG ?_
  show n7 none (fL C bo bv bO v) C [] ⟨f,fn.ntmps,Nat.lor (kb c) (nx fn.results.toList),[],true,none,bR K.rc c8 cs⟩ t h j=some v
  rw[F3 rfl]
  exact h1 (sd K t h j [] be a)
 ·show n7 (some .ret) (fL C bo bv bO v) C todo ⟨f,fn.ntmps,Nat.lor (kb c) (nx fn.results.toList),[],true,none,bR K.rc c8 cs⟩ t h j=some v
  rw[F3 rfl]
  exact h1 (sd K t h j todo be a)
def Lh{C:aW}{f:Nat}{args:List H}{jE:Option H}{h:S ak}{j:Nat}{bs:Bool->S ak->Nat->Prop}(az:cS C f args.length=true)(a:x2 C f args jE h j bs):Tp C f args jE h j bs:=by
 intro bo dK d4 cG bv bO v aI Pz aL Ga qN S5 akD Hx SE qT gq
 cases jE with
 |none=>
  refine Xh az a cG aI (c8:=_) ⟨λ_=>rfl,λa=>(by cases a),λa=>⟨rfl,rfl⟩,λad a=>(by cases a)⟩ (λb ad h j an=> ?_)
  have:=gq b h j an
  cases b<;>exact this
 |some p=>
  refine Xh az a cG aI (c8:=(⟨Pz,aL,Ga,qN,S5,akD, .panicking [⟨p,true⟩],Hx,SE⟩:gC)::qT) ⟨λ_=>rfl,λa=>(by cases a),λa=>(by cases a),λad a=> ?_⟩ (λb ad h j an=> ?_)
  ·simp only[Zf]at a
   subst a
   exact⟨rfl,rfl⟩
  ·have:=gq b h j an
   cases b<;>exact this
def ajV{C:aW}{bo:World}{dK:c6}{d4:Nat->Prop}(cG:Env C bo dK d4){f:Nat}{args:List H}{v:H}(aI:H.same 30 v v=true)(hg:ew d4 args)
 (a:tP C f args .nil C.a7 (λad _ _=>ad=v) (λ_ _ _=>False)):Calls C.P f (bX dK args).toArray bo λF bV=>(∃Q,F= .returned (aN Q v))/\Below bo.heap.size bo bV:=by
 intro qT
 have bS:Ends C bo f qT v (lone (Frame.enter C.P f (bX dK args).toArray .normal) qT bo):=
  K8 VM cG.base (Below.refl _ _) cG.hL (Zi _) .nil (λ_=>rfl) hg
   (a bo dK d4 cG f qT v aI [] (λad T ao F=>by subst F;rfl) (λad T ao F=>F.elim))
 obtain⟨Q,bV,fr,bB,cF,fp,jM⟩:=bS
 exact⟨.returned (aN Q v),bV,fr,⟨⟨Q,rfl⟩,jM⟩,bB,fp,cF⟩
end
end Go.bg

