/- A part of the proof of the claim's last text: what it is used for is said there; no condition of its own. -/
import Derived.Test.YtpfajohmofnkfaaGreatDoorYi
set_option maxHeartbeats 8000000
set_option linter.unusedVariables false
set_option linter.unusedSimpArgs false
namespace Go.al
noncomputable section
open Go.RowKit (Below)
abbrev bY:=H->U an->Nat->Prop
structure dw where
 g:Nat->Option H
 a8:List hj:=[]
 rc:Bool:=false
instance:CoeFun dw (λ_=>Nat->Option H):=⟨dw.g⟩
def ac(J:dw)(d:Nat)(v:H):dw:=⟨λn=>bC (Nat.beq d n) (some v) (J.g n),J.a8,J.rc⟩
def hG(l:List Nat)(J:dw):dw:=⟨λn=>bC (l9 n l) none (J.g n),J.a8,J.rc⟩
def AN(J:dw)(d:hj):dw:=⟨J.g,d::J.a8,J.rc⟩
def Ry(J:dw):dw:=⟨J.g,J.a8,true⟩
abbrev ga:=dw->U an->Nat->Prop
abbrev sd:=dw->bY
structure ti where
 rd:Bool
 a8:Bool
 j8:Option (Option H)
def am{α:Type}(W:Option α)(aj:α->Prop):Prop:=Option.rec (motive:=λ_=>Prop) False (λI=>aj I) W
theorem aqh{α:Type}{W:Option α}{aj:α->Prop}{I:α}(a:W=some I)(B:aj I):am W aj:=by subst a;exact B
theorem rS{α:Type}{W:Option α}{aj:α->Prop}:am W aj↔∃I,W=some I/\aj I:=by
 cases W with
 |none=>simp[am]
 |some I=>simp[am]
structure D{α:Type}(W:Option α)(aj:α->Prop):Prop where
 out:am W aj
theorem aqi{α:Type}(W:Option α)(aj:α->Prop):D W aj=am W aj:=propext ⟨λa=>a.out,λa=>⟨a⟩⟩
theorem fH{α:Type}{W:Option α}{aj:α->Prop}{I:α}(a:W=some I)(B:aj I):D W aj:=⟨aqh a B⟩
theorem km{α:Type}{W:Option α}{aj:α->Prop}:D W aj↔∃I,W=some I/\aj I:=by rw[aqi];exact rS
def ahf(v:H)(I b:Prop):Prop:=H.rec (motive_1:=λ_=>Prop) (motive_2:=λ_=>Prop)
 (λt=>(t=true->I)/\(t=false->b)) (λ_ _=>False) (λ_=>False) (λ_ _=>False) False (λ_ _ _ _=>False) (λ_ _ _ _=>False) False (λ_=>False) False
 (λ_ _ _ _ _=>False) False (λ_ _ _=>False) False (λ_ _=>False) (λ_ _=>False) False (λ_ _ _ _=>False) v
structure ba(v:H)(I b:Prop):Prop where
 out:ahf v I b
theorem UL{v:H}{I b:Prop}(a:ba v I b):∃t,v= .bool t/\(t=true->I)/\(t=false->b):=by
 have a:=a.out
 cases v with
 |bool t=>exact⟨t,rfl,a⟩
 |_=>exact a.elim
def akf(k2:Bool)(v:H)(I b:Prop):Prop:=H.rec (motive_1:=λ_=>Prop) (motive_2:=λ_=>Prop)
 (λt=>(t=k2->I)/\(t=(!k2)->b)) (λ_ _=>b) (λ_=>b) (λ_ _=>b) b (λ_ _ _ _=>b) (λ_ _ _ _=>b) b (λ_=>b) b
 (λ_ _ _ _ _=>b) b (λ_ _ _=>b) b (λ_ _=>b) (λ_ _=>b) b (λ_ _ _ _=>b) v
structure az(k2:Bool)(v:H)(I b:Prop):Prop where
 out:akf k2 v I b
structure aO(dF:bY)(body:bY->Prop):Prop where
 out:body dF
theorem an9(dF:bY)(body:bY->Prop):aO dF body=body dF:=propext ⟨λa=>a.out,λa=>⟨a⟩⟩
structure a7(dF:ga)(body:ga->Prop):Prop where
 out:body dF
structure cW(dF:H->Prop)(body:(H->Prop)->Prop):Prop where
 out:body dF
structure eb(dF:H->U an->Prop)(body:(H->U an->Prop)->Prop):Prop where
 out:body dF
theorem an7(dF:H->U an->Prop)(body:(H->U an->Prop)->Prop):eb dF body=body dF:=propext ⟨λa=>a.out,λa=>⟨a⟩⟩
structure Qk(dF:Prop)(body:Prop->Prop):Prop where
 out:body dF
theorem an8(dF:Prop)(body:Prop->Prop):Qk dF body=body dF:=propext ⟨λa=>a.out,λa=>⟨a⟩⟩
theorem j6{dF:ga}{body:ga->Prop}(lM:ga)(M:∀aa:ga,(∀J h k,lM J h k->aa J h k)->body aa)(R:∀J h k,lM J h k->dF J h k):a7 dF body:=⟨M dF R⟩
structure fD(n:Nat)(aj:Nat->Prop):Prop where
 out:aj n
structure cU(C:aX)(h:U an)(k:Nat)(v:H)(cJ:an)(aj:bY):Prop where
 out:aj v (bm C h k (some cJ)) (k+1)
structure kG(C:aX)(h:U an)(b:Nat)(v:H)(cJ:an)(aj:H->U an->Prop):Prop where
 out:aj v (bm C h b (some cJ))
structure wQ(C:aX)(h:U an)(b:Nat)(I:H)(aj:H->U an->Prop):Prop where
 out:aj (.ptr b 0) (bm C h b (some (.cells (U.ofList I.cells 0 .nil) I.cells.length .own)))
structure j0(C:aX)(h:U an)(k:Nat)(I:H)(aj:bY):Prop where
 out:aj (.ptr k 0) (bm C h k (some (.cells (U.ofList I.cells 0 .nil) I.cells.length .own))) (k+1)
section
variable(C:aX)(bk:World)(bt:Nat)(bJ:List Frame)(v:H)
def MS(cs:List gi):bY:=λad h k=>sj (fu C bk bt bJ v) false cs ad h k=some v
def I8(cs:List gi):bY:=λad h k=>match cs with
 |c::rest=>abK (fu C bk bt bJ v) c rest [⟨ad,false⟩] h k=some v
 |[]=>False
end
def th(C:aX)(f:Nat)(args:List H)(h:U an)(k:Nat)(bR eS:bY):Prop:=
 ∀(bk:World) (dB:cY) (dU:Nat->Prop) (_:Env C bk dB dU) (bt:Nat) (bJ:List Frame) (v:H) (_:H.same 30 v v=true) (cs:List gi),
  (∀ad V av,bR ad V av->MS C bk bt bJ v cs ad V av)->(∀ad V av,eS ad V av->I8 C bk bt bJ v cs ad V av)->
  nj (fu C bk bt bJ v) C f args false cs h k=some v
theorem th.mono{C:aX}{f:Nat}{args:List H}{h:U an}{k:Nat}{bR eS qe FN:bY}(a:th C f args h k bR eS)(j2:∀ad h k,bR ad h k->qe ad h k)(jz:∀ad h k,eS ad h k->FN ad h k):
 th C f args h k qe FN:=
 λbk dB dU cF bt bJ v aH cs M R=>a bk dB dU cF bt bJ v aH cs (λad h k ar=>M ad h k (j2 ad h k ar)) (λad h k ar=>R ad h k (jz ad h k ar))
def Mh(ah:g4)(C:aX)(l:Nat)(args:List H)(cs:List gi)(h:U an)(k:Nat):dP:=match ab C h l with
 |some (.loop _ _ fn n ap cT params assign body _)=>(match ws n params args cT with
  |some cT=>ah .run [.code assign, .beginRound, .code body] ⟨fn,n,ap,[],false,some l,cs⟩ cT h k
  |none=>none)
 |_=>none
def yp(C:aX)(l:Nat)(args:List H)(h:U an)(k:Nat)(bR eS:bY):Prop:=
 ∀(bk:World) (dB:cY) (dU:Nat->Prop) (_:Env C bk dB dU) (bt:Nat) (bJ:List Frame) (v:H) (_:H.same 30 v v=true) (cs:List gi),
  (∀ad V av,bR ad V av->MS C bk bt bJ v cs ad V av)->(∀ad V av,eS ad V av->I8 C bk bt bJ v cs ad V av)->
  Mh (fu C bk bt bJ v) C l args cs h k=some v
theorem yp.mono{C:aX}{l:Nat}{args:List H}{h:U an}{k:Nat}{bR eS qe FN:bY}(a:yp C l args h k bR eS)(j2:∀ad h k,bR ad h k->qe ad h k)(jz:∀ad h k,eS ad h k->FN ad h k):
 yp C l args h k qe FN:=
 λbk dB dU cF bt bJ v aH cs M R=>a bk dB dU cF bt bJ v aH cs (λad h k ar=>M ad h k (j2 ad h k ar)) (λad h k ar=>R ad h k (jz ad h k ar))
def Sk(C:aX)(f:Nat)(args:List H)(j8:Option H)(h:U an)(k:Nat)(bR:Bool->U an->Nat->Prop):Prop:=
 ∀(bk:World) (dB:cY) (dU:Nat->Prop) (_:Env C bk dB dU) (bt:Nat) (bJ:List Frame) (v:H) (_:H.same 30 v v=true) (fn n ap:Nat) (J:U H) (todo:List dy) (ds:List hj) (aB:Bool) (ro:Option Nat) (cs:List gi),
  (∀b V av,bR b V av->fu C bk bt bJ v (match j8,b with|none,_=> .returning|some _,true=> .returning|some ad,false=> .panicking [⟨ad,false⟩]) todo ⟨fn,n,ap,ds,aB,ro,cs⟩ J V av=some v)->
  nj (fu C bk bt bJ v) C f args true (⟨fn,n,ap,J,todo,ds,(match j8 with|none=> .returning|some ad=> .panicking [⟨ad,false⟩]),aB,ro⟩::cs) h k=some v
structure a6(C:aX)(f:Nat)(args:List H)(h:U an)(k:Nat)(aj aw:bY):Prop where
 out:(∃ad,C.hf f args=some ad/\aj ad h k)\/(C.hf f args=none/\(∃fn c,C.P.funcs[f]? =some fn/\fn.body=some c)/\th C f args h k aj aw)
structure gn(W:Option dz)(h:U an)(k:Nat)(aj:bY):Prop where
 out:match W with
 |some (.val v)=>aj v h k
 |some (.eW v V av)=>aj v V av
 |_=>False
theorem arn(W:Option dz)(h:U an)(k:Nat)(aj:bY):gn W h k aj=(match W with
 |some (.val v)=>aj v h k
 |some (.eW v V av)=>aj v V av
 |_=>False):=propext ⟨λa=>a.out,λa=>⟨a⟩⟩
theorem aro{W:Option dz}{h:U an}{k:Nat}{aj:bY}{v:H}(a:W=some (.val v))(B:aj v h k):gn W h k aj:=by subst a;exact⟨B⟩
theorem kI{W:Option dz}{h V:U an}{k av:Nat}{aj:bY}{v:H}(a:W=some (.eW v V av))(B:aj v V av):gn W h k aj:=by subst a;exact⟨B⟩
structure yL(W:Option dz)(h:U an)(k:Nat)(aj:bY):Prop where
 out:match W with
 |some (.val v)=>aj v h k
 |some (.eW v V av)=>aj v V av
 |some (.fork l)=>l≠[]/\∀ad V,(ad,V)∈l->aj ad V k
 |_=>False
theorem ajr(W:Option dz)(h:U an)(k:Nat)(aj:bY):yL W h k aj=(match W with
 |some (.val v)=>aj v h k
 |some (.eW v V av)=>aj v V av
 |some (.fork l)=>l≠[]/\∀ad V,(ad,V)∈l->aj ad V k
 |_=>False):=propext ⟨λa=>a.out,λa=>⟨a⟩⟩
def Bf(C:aX)(rd:Bool)(W:Option dz)(h:U an)(k:Nat)(aj aw:bY):Prop:=match W with
 |some (.val v)=>aj v h k
 |some (.eW v V av)=>aj v V av
 |some (.enter f args)=>th C f args h k aj aw
 |some (.round l args)=>yp C l args h k aj aw
 |some (.known _ _ v)=>aj v h k
 |some (.panic v)=>bC rd False (aw v h k)
 |some (.fork l)=>l≠[]/\∀ad V,(ad,V)∈l->aj ad V k
 |_=>False
def ja(x:jU)(ak:List (Nat×H))(J:dw)(aj:H->Prop):Prop:=
 jU.rec (motive:=λ_=>Prop) (λaa=>am (d8 ak aa) aj) (λn=>am (J n) aj) (λI=>aj I) x
def J0(ak:List (Nat×H))(J:dw)(l:List jU):(List H->Prop)->Prop:=
 List.rec (motive:=λ_=>(List H->Prop)->Prop) (λaj=>aj []) (λx _ ah aj=>ja x ak J λI=>ah λr=>aj (I::r)) l
def ep(bT:List (Nat×Nat))(ak:List (Nat×H))(J:dw)(W:Operand)(aj:H->Prop):Prop:=match W with
 | .tmp t=>(match d8 bT t with|some aa=>am (d8 ak aa) aj|none=>am (J t) aj)
 | .const v=>am (CC v) aj
 | .global g=>aj (.ptr g 0)
 | .func f=>aj (.func (.func f) [] [])
def rR(bT:List (Nat×Nat))(ak:List (Nat×H))(J:dw)(l:List Operand):(List H->Prop)->Prop:=
 List.rec (motive:=λ_=>(List H->Prop)->Prop) (λaj=>aj []) (λx _ ah aj=>ep bT ak J x λI=>ah λr=>aj (I::r)) l
def AK(bT:List (Nat×Nat))(ak:List (Nat×H))(J:dw)(l:List (Nat×Operand)):(List (Nat×H)->Prop)->Prop:=
 List.rec (motive:=λ_=>(List (Nat×H)->Prop)->Prop) (λaj=>aj []) (λx _ ah aj=>ep bT ak J x.2 λI=>ah λr=>aj ((x.1,I)::r)) l
def L2(bT:List (Nat×Nat))(ak:List (Nat×H))(J:dw)(W:Option Operand)(aj:Option H->Prop):Prop:=match W with
 |none=>aj none
 |some x=>ep bT ak J x λI=>aj (some I)
def j7:Operand:= .global 0
def he:Operand:= .global 1
def md:Operand:= .global 2
def ip(I:H):Operand->Option H:=λ_=>some I
def two(I b:H):Operand->Option H:=λW=>match W with| .global 0=>some I|_=>some b
def aci(I b c:H):Operand->Option H:=λW=>match W with| .global 0=>some I| .global 1=>some b|_=>some c
def Ey(n bd:Nat)(I i:H):Option H:=match m4 i with|some i=>IY n bd I i|none=>none
def fp(bd:Nat)(I i:H):Option H:=match m4 i with|some i=>A1 bd I i|none=>none
def Vy(C:aX)(t f:Nat)(I:H):Option H:=H1 C t j7 f .nil (ip I)
def U1(C:aX)(h:U an)(s d:Nat)(I:H):Option H:=H0 C s d j7 h (ip I)
def π(C:aX)(t:Nat)(I:H):Option H:=H2 C t j7 .nil (ip I)
def Uy(C:aX)(t:Nat)(ok:Bool)(I:H):Option H:=HZ C j7 t ok .nil (ip I)
def Gt(C:aX)(h:U an)(I:H):Option H:=EG C j7 h (ip I)
def q9(C:aX)(h:U an)(b:Builtin)(cM:List TypeId)(br:List H):Option H:=match b,br with
 | .len,[x]=>(match cM with|t::_=>Jm C h t x|_=>none)
 | .cap,[x]=>(match cM with|t::_=>Jf C t x|_=>none)
 | .max,x::l=>nR true x l
 | .min,x::l=>nR false x l
 |_,_=>none
def ce(C:aX)(h:U an)(s:Nat)(I v:H):Option (U an):=match I with
 | .ptr b W=>bC (Nat.beq v.cells.length s&&Nat.blt 0 s) (q7 C h b W v.cells) none
 |_=>none
def DW(C:aX)(h:U an)(k:Nat)(b:Builtin)(cM:List TypeId)(br:List H):Option dz:=match b,br with
 | .append,[s,x]=>(match cM with
   |st::h9::_=>(match C.P.underlying h9 with
    |some (.int _)=>(match m4 x with|some n=>Jj C h k st s n|none=>none)
    |some (.slice _)=>Di C h k st s x
    |some .string=>Di C h k st s x
    |_=>none)
   |_=>none)
 | .copy,[d,x]=>(match cM with|st::_=>Jh C h k st d x|_=>none)
 | .clear,[x]=>(match cM with|t::_=>Jg C h k t x|_=>none)
 | .delete,[m,B]=>(match cM with|t::_=>Ji C h k t m B|_=>none)
 |_,_=>none
structure nx(C:aX)(lV:H)(cm:List H)(h:U an)(k:Nat)(aj aw:bY):Prop where
 out:match lV with
 | .func fn first fl=>(match fn with| .func f=>a6 C f ((first++cm)++fl) h k aj aw| .yield l=>yp C l (first++cm) h k aj aw|_=>False)
 |_=>False
def Mr(C:aX)(t len:Nat)(c8:List (Nat×H))(b:Nat):Option (H×an):=match C.P.underlying t with
 |some (.slice dE)=>(match iq C dE,qa C dE with
  |some s,some bl=>bC (Nat.ble (len*s) 16777216&&Nat.beq bl.cells.length s) ((match yJ (λi=>some (i*s,s)) (jG len bl.cells) c8 with
    |some cs=>some (H.slice b 0 len len,an.cells (U.ofList cs 0 .nil) cs.length .own)
    |none=>none))<|none
  |_,_=>none)
 |_=>none
structure xW(aw:bY)(I:H)(h:U an)(k:Nat):Prop where
 out:match I with| .iface t v=>aw (.iface t v) h k|_=>False
theorem aqu(aw:bY)(I:H)(h:U an)(k:Nat):xW aw I h k=(match I with| .iface t v=>aw (.iface t v) h k|_=>False):=propext ⟨λa=>a.out,λa=>⟨a⟩⟩
structure aaO(C:aX)(rd:Bool)(ko:H)(name:String)(cm:List H)(h:U an)(k:Nat)(aj aw:bY):Prop where
 out:match ko with
 | .iface t v=>Bf C rd (Dj C h t v name cm) h k aj aw
 |_=>False
theorem apr(C:aX)(rd:Bool)(ko:H)(name:String)(cm:List H)(h:U an)(k:Nat)(aj aw:bY):aaO C rd ko name cm h k aj aw=(match ko with
 | .iface t v=>Bf C rd (Dj C h t v name cm) h k aj aw
 |_=>False):=propext ⟨λa=>a.out,λa=>⟨a⟩⟩
def aav(bT:List (Nat×Nat))(W:Op):aX->U an->List (Nat×H)->dw->(H->Prop)->Prop:=match W with
 | .build t jF=>λC _ ak J aj=>AK bT ak J jF.toList λc8=>D (Je C t c8) aj
 | .binOp op t x j _=>λC h ak J aj=>ep bT ak J x λI=>ep bT ak J j λb=>D (dn C h op t (pU x||pU j) I b) aj
 | .unOp op _ x=>λ_ _ ak J aj=>ep bT ak J x λI=>D (fT op I) aj
 | .convert s d x=>λC h ak J aj=>ep bT ak J x λI=>D (U1 C h s d I) aj
 | .makeInterface t x=>λC _ ak J aj=>ep bT ak J x λI=>D (π C t I) aj
 | .makeFunc fn first fl=>λ_ _ ak J aj=>(match fn with
   | .func f=>rR bT ak J first.toList λI=>rR bT ak J fl.toList λb=>aj (.func (.func f) I b)
   |_=>False)
 | .slice t x bP aN gM=>λC h ak J aj=>ep bT ak J x λI=>L2 bT ak J bP λl=>L2 bT ak J aN λa=>L2 bT ak J gM λm=>D (Jo C h t I l a m) aj
 | .field t x f=>λC _ ak J aj=>ep bT ak J x λI=>D (Vy C t f I) aj
 | .index t x i=>λC _ ak J aj=>ep bT ak J x λI=>ep bT ak J i λb=>D (Jk C t I b) aj
 | .lookup t m B ok=>λC h ak J aj=>ep bT ak J m λI=>ep bT ak J B λb=>D (Jn C h t I b ok) aj
 | .typeAssert x _ t ok=>λC _ ak J aj=>ep bT ak J x λI=>D (Uy C t ok I) aj
 | .entry dY=>λC h ak J aj=>ep bT ak J dY λI=>D (Gt C h I) aj
 | .call c=>λC h ak J aj=>(match c with
   |⟨.builtin b,args,cM⟩=>rR bT ak J args.toList λbr=>D (q9 C h b cM.toList br) aj
   |_=>False)
 |_=>λ_ _ _ _ _=>False
def EM(op:jl):aX->U an->List (Nat×H)->dw->(H->Prop)->Prop:=match op with
 | .Cr x=>λ_ _ ak J aj=>ja x ak J aj
 | .pick c I b=>λ_ _ ak J aj=>ja c ak J λc=>cW aj λaj=>ba c (ja I ak J aj) (ja b ak J aj)
 | .fy I=>λC h ak J aj=>ja I ak J λI=>D (ao C h I) aj
 | .As n I=>λC h ak J aj=>ja I ak J λI=>D (cL C h n I) aj
 | .off d x=>λ_ _ ak J aj=>ja x ak J λI=>D (bf d I) aj
 | .Aj n bd x i=>λ_ _ ak J aj=>ja x ak J λI=>ja i ak J λi=>D (Ey n bd I i) aj
 | .Ak bd x i=>λ_ _ ak J aj=>ja x ak J λI=>ja i ak J λi=>D (fp bd I i) aj
 | .Cy x=>λ_ _ ak J aj=>ja x ak J λI=>D (cz I) aj
 | .HN op x j=>λ_ _ ak J aj=>ja x ak J λI=>ja j ak J λb=>D (aL op I b) aj
 | .ext i x=>λ_ _ ak J aj=>ja x ak J λI=>D (c9 i I) aj
 | .hQ bT W=>aav bT W
 |_=>λ_ _ _ _ _=>False
def aaI(op:jl):aX->U an->Nat->List (Nat×H)->dw->bY->Prop:=match op with
 | .make bT W=>(match W with
   | .alloc t=>λC h b _ _ aj=>D (Co C t (ip undef) b) λr=>cU C h b r.1 r.2 aj
   | .box _ x=>λC h b ak J aj=>ep bT ak J x λI=>j0 C h b I aj
   | .buildSlice t len jF=>λC h b ak J aj=>AK bT ak J jF.toList λc8=>D (Mr C t len c8 b) λr=>cU C h b r.1 r.2 aj
   | .makeMap _ none=>λC h b _ _ aj=>cU C h b (.map b) (.map [] 0) aj
   |_=>λ_ _ _ _ _ _=>False)
 |_=>λ_ _ _ _ _ _=>False
def QO(op:jl):aX->U an->Nat->List (Nat×H)->dw->(H->U an->Prop)->Prop:=match op with
 | .make bT W=>(match W with
   | .alloc t=>λC h b _ _ aj=>D (Co C t (ip undef) b) λr=>kG C h b r.1 r.2 aj
   | .box _ x=>λC h b ak J aj=>ep bT ak J x λI=>wQ C h b I aj
   | .buildSlice t len jF=>λC h b ak J aj=>AK bT ak J jF.toList λc8=>D (Mr C t len c8 b) λr=>kG C h b r.1 r.2 aj
   | .makeMap _ none=>λC h b _ _ aj=>kG C h b (.map b) (.map [] 0) aj
   |_=>λ_ _ _ _ _ _=>False)
 |_=>λ_ _ _ _ _ _=>False
def Pe(rd:Bool)(op:jl):aX->U an->Nat->List (Nat×H)->dw->bY->bY->Prop:=match op with
 | .st n I v=>λC h k ak J aj _=>ja I ak J λI=>ja v ak J λv=>D (ce C h n I v) λh=>aj undef h k
 | .call f args=>λC h k ak J aj aw=>J0 ak J args λcm=>a6 C f cm h k aj aw
 | .e1 bT W=>(match W with
   | .mapUpdate t m B x=>λC h k ak J aj _=>ep bT ak J m λI=>ep bT ak J B λb=>ep bT ak J x λc=>gn (FX C h k t I b c) h k aj
   | .insert t m B x=>λC h k ak J aj _=>ep bT ak J m λI=>ep bT ak J B λb=>ep bT ak J x λc=>gn (FX C h k t I b c) h k aj
   | .mapEntry t m B=>λC h k ak J aj _=>ep bT ak J m λI=>ep bT ak J B λb=>gn (GW C t j7 he h k (two I b)) h k aj
   | .entryStore _ m s x=>λC h k ak J aj _=>ep bT ak J m λI=>ep bT ak J s λb=>ep bT ak J x λc=>gn (GO C j7 he md h k (aci I b c)) h k aj
   | .makeSlice t l c=>λC h k ak J aj _=>ep bT ak J l λI=>ep bT ak J c λb=>gn (GV C t j7 he h k (two I b)) h k aj
   | .makeMap t (some r)=>λC h k ak J aj _=>ep bT ak J r λI=>gn (GU C t j7 h k (ip I)) h k aj
   | .convert s d x=>λC h k ak J aj _=>ep bT ak J x λI=>gn (GZ C s d j7 h k (ip I)) h k aj
   | .range t x=>λC h k ak J aj _=>ep bT ak J x λI=>gn (GX C t j7 h k (ip I)) h k aj
   | .next dY xI=>λC h k ak J aj _=>ep bT ak J dY λI=>yL (oR C j7 xI h k (ip I)) h k aj
   | .panic x=>λ_ h k ak J _ aw=>bC rd False (ep bT ak J x λI=>xW aw I h k)
   | .call c=>λC h k ak J aj aw=>(match c with
     |⟨.value f,args,_⟩=>ep bT ak J f λlV=>rR bT ak J args.toList λcm=>nx C lV cm h k aj aw
     |⟨.builtin b,args,cM⟩=>rR bT ak J args.toList λbr=>gn (DW C h k b cM.toList br) h k aj
     |⟨.invoke r name,args,_⟩=>ep bT ak J r λko=>rR bT ak J args.toList λcm=>aaO C rd ko name cm h k aj aw)
   |_=>λ_ _ _ _ _ _ _=>False)
 |_=>λ_ _ _ _ _ _ _=>False
def Q7(rd:Bool)(op:jl)(C:aX)(h:U an)(k:Nat)(ak:List (Nat×H))(J:dw)(aj aw:bY):Prop:=match l6 op with
 | .hQ=>EM op C h ak J λv=>aj v h k
 | .make=>aaI op C h k ak J aj
 | .e1=>Pe rd op C h k ak J aj aw
inductive Spec where
 |no
 |defer (bT:List (Nat×Nat)) (f:Operand) (args:List Operand)
 |recover
def CU(op:jl):Spec:=match op with
 | .e1 bT W=>(match W with
   | .defer c=>(match c with|⟨.value f,args,_⟩=> .defer bT f args.toList|_=> .no)
   | .call c=>(match c with|⟨.builtin b,args,_⟩=>(match b,args.toList with| .recover,[]=> .recover|_,_=> .no)|_=> .no)
   |_=> .no)
 |_=> .no
def JF(lV:H)(cm:List H)(J:dw)(aj:dw->Prop):Prop:=match lV with
 | .func fn first fl=>aj (AN J ⟨.fn fn fl,first++cm⟩)
 |_=>False
def IA(j8:Option (Option H))(J:dw)(aj:H->dw->Prop):Prop:=match j8 with
 |none=>False
 |some none=>aj .nilIface J
 |some (some ad)=>bC J.rc (aj .nilIface J) (aj ad (Ry J))
def MF(g:Option (Nat×Bool))(ak:List (Nat×H))(I b:Prop):Prop:=match g with
 |none=>I
 |some (aa,k2)=>am (d8 ak aa) λv=>az k2 v I b
def MH(g:Option (Nat×Bool))(ak:List (Nat×H))(oi:bY->Prop)(dF:bY)(h:U an)(k:Nat):Prop:=match g with
 |none=>oi dF
 |some (aa,k2)=>aO dF λaj=>am (d8 ak aa) λv=>az k2 v (oi aj) (aj undef h k)
def qU(g:Option (Nat×Bool))(ak:List (Nat×H))(oi:(H->U an->Prop)->Prop)(dF:H->U an->Prop)(h:U an):Prop:=match g with
 |none=>oi dF
 |some (aa,k2)=>eb dF λaj=>am (d8 ak aa) λv=>az k2 v (oi aj) (aj undef h)
def Sb(g:Option (Nat×Bool))(ak:List (Nat×H))(oi:Prop->Prop)(dF:Prop):Prop:=match g with
 |none=>oi dF
 |some (aa,k2)=>Qk dF λaj=>am (d8 ak aa) λv=>az k2 v (oi aj) aj
theorem acF(g:Option (Nat×Bool))(ak:List (Nat×H))(oi:bY->Prop)(dF:bY)(h:U an)(k:Nat):MH g ak oi dF h k=MF g ak (oi dF) (dF undef h k):=by
 cases g with
 |none=>rfl
 |some p=>exact an9 _ _
theorem atA(g:Option (Nat×Bool))(ak:List (Nat×H))(oi:(H->U an->Prop)->Prop)(dF:H->U an->Prop)(h:U an):qU g ak oi dF h=MF g ak (oi dF) (dF undef h):=by
 cases g with
 |none=>rfl
 |some p=>exact an7 _ _
theorem atB(g:Option (Nat×Bool))(ak:List (Nat×H))(oi:Prop->Prop)(dF:Prop):Sb g ak oi dF=MF g ak (oi dF) dF:=by
 cases g with
 |none=>rfl
 |some p=>exact an8 _ _
def Gy(l:List (Nat×Nat)):List (Nat×H)->dw->(dw->Prop)->Prop:=
 List.rec (motive:=λ_=>List (Nat×H)->dw->(dw->Prop)->Prop) (λ_ J aj=>aj J)
  (λp _ ah ak J aj=>am (d8 ak p.1) λv=>ah ak (ac J p.2 v) aj) l
def AS(C:aX)(bG:ti)(fin:List (Nat×Nat))(aj:ga)(aw:sd)(rest:List e4):List (Nat×H)->dw->U an->Nat->Prop:=
 List.rec (motive:=λ_=>List (Nat×H)->dw->U an->Nat->Prop) (λak J h k=>Gy fin ak J λJ=>aj J h k)
  (λx _ ah ak J h k=>match CU x.op with
   | .no=>MH x.g ak (λaj=>Q7 bG.rd x.op C h k ak J aj (aw J)) (λv h k=>ah ((x.i,v)::ak) J h k) h k
   | .defer bT f args=>bC (x.g.isNone&&bG.a8) (ep bT ak J f λlV=>rR bT ak J args λcm=>JF lV cm J λJ=>ah ((x.i,undef)::ak) J h k) False
   | .recover=>bC (x.g.isNone&& !bG.rd) (IA bG.j8 J λv J=>ah ((x.i,v)::ak) J h k) False) rest
def LC(C:aX)(base:Nat)(J:dw)(l:List e4):List (Nat×H)->U an->(List (Nat×H)->U an->Prop)->Prop:=
 List.rec (motive:=λ_=>List (Nat×H)->U an->(List (Nat×H)->U an->Prop)->Prop) (λak h aj=>aj ak h)
  (λx _ ah ak h aj=>qU x.g ak (λaa=>match l6 x.op with
   | .make=>QO x.op C h (base+x.i) ak J aa
   |_=>EM x.op C h ak J λv=>aa v h) (λv h=>ah ((x.i,v)::ak) h aj) h) l
structure h8(x:H)(W:Option H)(aj:Prop):Prop where
 out:am W λad=>H.same 30 x ad=true/\aj
def Rh(C:aX)(J:dw)(ak:List (Nat×H))(h:U an)(l:List e4):Prop->Prop:=
 List.rec (motive:=λ_=>Prop->Prop) (λaj=>aj) (λx _ ah aj=>Sb x.g ak (λar=>EM x.op C h ak J λv=>h8 v (d8 ak x.i) ar) (ah aj)) l
def NV(C:aX)(rd:Bool)(base:Nat)(fin:List (Nat×Nat))(J:dw)(aj:ga)(aw:bY)(kL:List vl):List (Nat×H)->U an->Nat->Prop:=
 List.rec (motive:=λ_=>List (Nat×H)->U an->Nat->Prop) (λ_ _ _=>False)
  (λs _ ah ak h k=>LC C base J s.sY ak h λak h=>Rh C J ak h s.Rg (match s.e1 with
   |none=>Gy fin ak J λJ=>aj J h k
   |some a=>MH a.g ak (λaj=>Pe rd a.op C h k ak J aj aw) (λv h k=>ah ((a.i,v)::ak) h k) h k)) kL
structure fO(body:ga->ga)(J:dw)(h:U an)(k:Nat):Prop where
 out:∃lM:Nat->ga,(∃m,lM m J h k)/\∀m J h k,lM m J h k->body (λJ h k=>∃fY,fY<m/\lM fY J h k) J h k
def Bu(id:Nat)(aj:ga)(E:Nat->ga):Nat->ga:=λsT=>bC (Nat.beq id sT) aj (E sT)
def N5(W:Operand)(J:dw)(aj:H->Prop):Prop:=ep [] [] J W aj
def arj(C:aX)(n ap:Nat)(bG:ti)(aw:sd)(aq:Array Oper)(yF:Bool)(aj:ga):ga:=λJ h k=>Bool.rec (motive:=λ_=>Prop)
 (am (If C n aq ap) λr=>AS C bG r.fin aj (λJ=>aw (hG (dstsOf aq.toList) J)) r.rest [] J h k)
 (am (Ie C n aq ap) λr=>fD (k+aq.size) λav=>NV C bG.rd k r.fin J aj (aw (hG (dstsOf aq.toList) J)) r.kL [] h av) yF
def Fm(n:Nat):List Nat->List H->dw->(dw->Prop)->Prop
 |[],[],J,aj=>aj J
 |p::c8,I::cm,J,aj=>bC (Nat.blt p n) (Fm n c8 cm (ac J p I) aj) False
 |_,_,_,_=>False
structure aha(C:aX)(l:Nat)(mk:LoopState->Option Code->an)(h:U an)(B:Prop):Prop where
 here:ab C h l=some (mk .ready none)
 go:B
structure JW(C:aX)(l:Nat)(mk:LoopState->Option Code->an)(st:LoopState)(p:Option Code)(b:Bool)(aj:bY)(h:U an)(k:Nat):Prop where
 here:∃ab2 E8,ab C h l=some (mk ab2 E8)
 go:aj (.bool b) (bm C h l (some (mk st p))) k
abbrev I5:=ti->sd->ga->(Nat->ga)->ga->ga
def Aw:ti:=⟨true,false,none⟩
def rY(C:aX)(d6 bg:I5)(l:Nat)(mk:LoopState->Option Code->an)(aj aw:bY):ga:=λJ h k=>
 d6 Aw (λ_=>aw) (λJ h k=>aha C l mk h (bg Aw (λ_=>aw) (λ_ h k=>JW C l mk .ready none true aj h k) (λid _ h k=>JW C l mk .done (some (.exit id)) false aj h k)
   (λ_ h k=>JW C l mk .done (some .ret) false aj h k) J (bm C h l (some (mk .busy none))) k)) (λ_ _ _ _=>False) (λ_ _ _=>False) J h k
def abq(p:Option Code)(aj:ga)(E:Nat->ga)(r:ga):ga:=match p with
 |none=>aj
 |some c=>(match c with| .exit id=>E id| .ret=>r|_=>λ_ _ _=>False)
def uB(J:dw)(k:Nat):dw:=AN J ⟨.collected k,[]⟩
structure CO(C:aX)(n:Nat)(lV:H)(params:List Nat)(eS:Nat->(LoopState->Option Code->an)->bY->bY->ga)(aj:ga)(E:Nat->ga)(r:ga)(aw:sd)(J:dw)(h:U an)(k:Nat):Prop where
 low:C.bj<=k
 out:match lV with
  | .func fn first fl=>(match fn with
    | .func g=>∀mk:LoopState->Option Code->an,
       (∀args V av ye d5,ab C V (k+1)=some (mk .ready none)->Fm n params args J (λvm=>eS (k+1) mk ye d5 vm V av)->yp C (k+1) args V av ye d5)->
       th C g (first++[.func (.yield (k+1)) [] []]++fl) (bm C (bm C h k (some (.deferred (some [])))) (k+1) (some (mk .ready none))) (k+2)
        (λ_ V av=>∃st p,st≠ .busy/\ab C V (k+1)=some (mk st p)/\abq p aj E r (uB J k) (bm C V (k+1) (some (mk .exhausted p))) av)
        (aw (uB J k))
    |_=>False)
  |_=>False
def vs(C:aX)(n ap:Nat)(c:Code):I5:=
 Code.rec (motive:=λ_=>I5)
  (λ_ _ aj _ _=>aj)
  (λ_ aq d bG aw aj _ _=>arj C n ap bG aw aq d aj)
  (λ_ _ l5 hb bG aw aj E r=>l5 bG aw (hb bG aw aj E r) E r)
  (λc _ _ l5 hb bG aw aj E r J h k=>N5 c J λv=>a7 aj λaj=>ba v (l5 bG aw aj E r J h k) (hb bG aw aj E r J h k))
  (λid _ hb bG aw aj E r J h k=>a7 aj λaj=>hb bG aw aj (Bu id aj E) r J h k)
  (λ_ hb bG aw _ E r=>fO λNi=>hb bG aw Ni E r)
  (λf params _ _ l5 hb bG aw aj E r J h k=>bC bG.a8 (N5 f J λlV=>CO C n lV params.toList (rY C l5 hb) aj E r aw J h k) False)
  (λid _ _ _ E _=>E id)
  (λ_ hb bG aw aj E r=>hb bG aw aj E r)
  (λ_ _ _ aj _ _=>aj)
  (λ_ _ _ _ _ _ _ _ _=>False)
  (λ_ _ _ _ r=>r)
  (λ_ _ _ _ _ _ _ _ _=>False) c
def p6(C:aX)(h:U an)(J:dw)(l:List ResultVar):(List H->Prop)->Prop:=
 List.rec (motive:=λ_=>(List H->Prop)->Prop) (λaj=>aj [])
  (λx _ ah aj=>ResultVar.rec (motive:=λ_=>Prop) (λt=>am (J t) λv=>ah λr=>aj (v::r)) (λI t=>am (J I) λp=>D (oH C h t p) λv=>ah λr=>aj (v::r)) x) l
def c2(l:List H):dw:=⟨λn=>o6 l n,[],false⟩
structure yD(C:aX)(fn:Fn)(cm:List H)(j8:Option H)(h:U an)(k:Nat)(bR:Bool->U an->Nat->Prop):Prop where
 out:match fn with
  | .func f=>C.hf f cm=none/\(∃fn c,C.P.funcs[f]? =some fn/\fn.body=some c)/\Sk C f cm j8 h k bR
  |_=>False
structure LU(C:aX)(r:Nat)(h:U an)(B:Prop):Prop where
 low:C.bj<=r
 here:ab C h r=some (.deferred (some []))
 go:B
def ol(C:aX)(IC:List ResultVar)(bR:bY)(J:dw)(ds:List hj):U an->Nat->Prop:=
 List.rec (motive:=λ_=>U an->Nat->Prop) (λh k=>p6 C h J IC λbr=>bR (one br) h k)
  (λd _ ah h k=>match d.target with
   | .collected r=>LU C r h (ah (bm C h r (some (.deferred none))) k)
   | .fn fn cap=>yD C fn (d.args++cap) none h k λ_ h k=>ah h k) ds
def wm(C:aX)(IC:List ResultVar)(bR eS:bY)(J:dw)(ad:H):List hj->U an->Nat->Prop
 |[],h,k=>eS ad h k
 |d::ds,h,k=>match d.target with
   | .collected r=>LU C r h (wm C IC bR eS J ad ds (bm C h r (some (.deferred none))) k)
   | .fn fn cap=>yD C fn (d.args++cap) (some ad) h k λb h k=>bC b (ol C IC bR J ds h k) (wm C IC bR eS J ad ds h k)
def ER:ti:=⟨false,false,none⟩
def xP:ti:=⟨false,true,none⟩
def By(C:aX)(f:Nat)(args:List H)(h:U an)(k:Nat)(bR eS:bY):Prop:=match C.P.funcs[f]? with
 |some fn=>(match fn.body with
  |some c=>vs C fn.ntmps (Nat.lor (jP c) (m6 fn.results.toList)) c xP (λJ ad h k=>wm C fn.results.toList bR eS J ad J.a8 h k) (λJ h k=>ol C fn.results.toList bR J J.a8 h k) (λ_ _ _ _=>False)
    (λJ h k=>ol C fn.results.toList bR J J.a8 h k) (c2 args) h k
  |none=>False)
 |none=>False
def DF(C:aX)(f:Nat)(args:List H)(j8:Option H)(h:U an)(k:Nat)(bR:Bool->U an->Nat->Prop):Prop:=match C.P.funcs[f]? with
 |some fn=>(match fn.body with
  |some c=>vs C fn.ntmps (Nat.lor (jP c) (m6 fn.results.toList)) c ⟨false,false,some j8⟩ (λ_ _ _ _=>False) (λJ h k=>p6 C h J fn.results.toList λ_=>bR J.rc h k) (λ_ _ _ _=>False)
    (λJ h k=>p6 C h J fn.results.toList λ_=>bR J.rc h k) (c2 args) h k
  |none=>False)
 |none=>False
def du(C:aX)(f:Nat)(args:List H)(h:U an)(k:Nat)(bR eS:bY):Prop:=match C.P.funcs[f]? with
 |some fn=>(match fn.body with
  |some c=>vs C fn.ntmps (Nat.lor (jP c) (m6 fn.results.toList)) c ER (λ_=>eS) (λJ h k=>p6 C h J fn.results.toList λbr=>bR (one br) h k) (λ_ _ _ _=>False)
    (λJ h k=>p6 C h J fn.results.toList λbr=>bR (one br) h k) (c2 args) h k
  |none=>False)
 |none=>False
def da(C:aX)(f cX:Nat):Bool:=match C.P.funcs[f]? with
 |some fn=>(match fn.body with
  |some c=>Nat.ble cX fn.ntmps&&la C (Nat.lor (jP c) (m6 fn.results.toList)) c&&xY (Nat.lor (jP c) (m6 fn.results.toList)) fn.results.toList
  |none=>false)
 |none=>false
end
end Go.al

