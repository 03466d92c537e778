/- Part of the proof of the last text; no conditions -/
import Derived.Test.YtbbkkkpgjaopkaaGreatDoorYh
set_option maxHeartbeats 8000000
set_option linter.all false
namespace Go.bp
noncomputable section
section
variable{C:aM}{h:R ag}{j:Nat}
def jV{D b:Nat}(a:D<=b):Nat.ble D b=true:=by simpa using a
def abB:∀(k:List Nat) (h:R ag) (e:Nat),(∀x∈k,C.a6<=x)->e∉k->Z C (k4 C k h) e=Z C h e:=by
 intro k
 induction k with
 |nil=>intro h e _ _;rfl
 |cons D k ah=>
  intro h e az F
  simp only[Zq,YV]at F
  simp only[k4]
  rw[ah _ _ (λx af=>az x (Zt _ af)) F.2,aK (az D (Zv ..)) F.1]
def kc(C:aM)(h:R ag)(s:z)(aO:Nat)(k:List z)(cR:List Nat):Prop:=
 (s= .aV/\k=[]/\cR=[])\/∃b eb n c,s= .fh b 0 n aO/\k.length=n*aO/\cR=b::eb/\(∀x∈cR,C.a6<=x)/\b∉eb/\Z C h b=some (.cells c (n*aO) (.grow eb))/\wb c k
def kc.ad{S:R ag}{s:z}{aO:Nat}{k:List z}{cR:List Nat}(a:kc C h s aO k cR)(aG:∀e∈cR,Z C S e=Z C h e):kc C S s aO k cR:=by
 rcases a with a|⟨b,eb,n,c,I,M,ak,aA,bq,bV,c2⟩
 ·exact .inl a
 ·exact .inr ⟨b,eb,n,c,I,M,ak,aA,bq,by rw[aG b (by rw[ak];exact Zv ..)];exact bV,c2⟩
def td{aO o b n:Nat}{k:List z}{c:R z}{st:nt}(a:Z C h b=some (.cells c n st))(ay:wb c k)(az:k.length=o*aO)(cap:Nat):kS C h aO (.slice b 0 o cap)=some (o,k):=by
 have bX:∀(m V:Nat),V+m<=k.length->c.kI V m=some ((k.drop V).take m):=by
  intro m
  induction m with
  |zero=>intro V _;simp[R.kI]
  |succ m ah=>
   intro V bb
   have I:c.get V=some k[V]:=by rw[ay V,Zf Zo]
   simp only[R.kI,I,ah (V+1) Zo]
   rw[Zz (by omega:V<k.length),Yh]
 simp only[kS,mo,cellsOf,a]
 rw[bX (o*aO) 0 Zo]
 simp[<-az]
def f6{b:fE->fE}{H:da}{h:R ag}{j:Nat}(rf:Nat->fE)(m:Nat)(a2:rf m H h j)(a:∀m H h j,rf m H h j->b (λH h j=>∃eH,eH<m/\rf eH H h j) H h j):fQ b H h j:=⟨⟨rf,⟨m,a2⟩,a⟩⟩
def W1{c:R z}{k:List z}(ay:wb c k):∀(m V:Nat),V+m<=k.length->c.kI V m=some ((k.drop V).take m):=by
 intro m
 induction m with
 |zero=>intro V _;simp[R.kI]
 |succ m ah=>
  intro V bb
  have I:c.get V=some k[V]:=by rw[ay V,Zf Zo]
  simp only[R.kI,I,ah (V+1) Zo]
  rw[Zz (by omega:V<k.length),Yh]
def u0{aO:Nat}:∀{ba:List (List z)},(∀r∈ba,r.length=aO)->ba.flatten.length=ba.length*aO:=by
 intro ba
 induction ba with
 |nil=>intro _;simp
 |cons D k ah=>
  intro a
  rw[Yi,ZP,a D (Zv ..),ah (λr U=>a r (Zt _ U)),ZG,Z3]
  omega
abbrev zC(l:List z)(n:Nat):Option ag:=some (.cells (R.ofList l 0 .nil) n .own)
def zD(i:Nat)(h:i<1000000000:=by omega):bg .add (.Z (i:Int)) (.Z 1)=some (.Z ((i+1:Nat):Int)):=by rw[eO (by omega) (by omega)];rfl
def zE{p:Prop}(h:p:=by simp(disch:=omega) only[aK]):p:=h
def zJ{z7:aM}{z8 z9:R ag}{b o:Nat}{v:Option z}(h:Z z7 z9 b=Z z7 z8 b)(k:aR z7 z8 (.ptr b o)=v):aR z7 z9 (.ptr b o)=v:=by rw[c6,h,<-c6];exact k
abbrev zG(T:da)(a:Nat)(x:z)(b:Nat)(y:z):da:=ac (ac T a x) b y
abbrev zH(T:da)(a:Nat)(x:z)(b:Nat)(y:z)(c:Nat)(z:z):da:=ac (zG T a x b y) c z
abbrev zI(T:da)(a:Nat)(x:z)(b:Nat)(y:z)(c:Nat)(w:z)(d:Nat)(u:z):da:=zG (zG T a x b y) c w d u
end
end
end Go.bp

namespace Go.aS
abbrev bc:=List Nat
structure hS where
 b:Bool
 s:Bool
 w:Int
 deriving DecidableEq
structure Tok where
 kind:Int
 text:bc
 at_:Int
 n:Int
 ty:hS
inductive bx where
 |mk (kind at_:Int) (name:bc) (no:Bool) (ty:hS) (n:Int) (args:List bx)
structure ep where
 name:bc
 at_:Int
 ty:hS
 on:bc
 fX:Int
 no:Bool
structure eL where
 left:List bc
 cS:List Int
 at_:Int
 right:bx
structure Node where
 name:bc
 at_:Int
 eh:List ep
 out:List ep
 loc:List ep
 eqs:List eL
def dw:hS:=⟨false,false,0⟩
def bx.kind:bx->Int| .mk o _ _ _ _ _ _=>o
def bx.args:bx->List bx| .mk _ _ _ _ _ _ k=>k
abbrev fP(α:Type):=Option (Except Int (α×List Tok))
def ok{α:Type}(D:α)(k:List Tok):fP α:=some (.ok (D,k))
def bad{α:Type}(at_:Int):fP α:=some (.error at_)
def andThen{α d8:Type}(x:fP α)(f:α->List Tok->fP d8):fP d8:=match x with
 |none=>none
 |some (.error D)=>some (.error D)
 |some (.ok (D,k))=>f D k
def gI(x:Tok)(s:bc):Bool:=(x.kind=2||x.kind=6)&&x.text=s
def lC(s:bc):List Tok->Option (Option Tok×List Tok)
 |[]=>none
 |x::k=>if gI x s then some (some x,k)else some (none,x::k)
def hO{d8:Type}(s:bc)(k:List Tok)(f:Option Tok->List Tok->fP d8):fP d8:=match lC s k with
 |none=>none
 |some (x,k)=>f x k
def ed(s:bc):List Tok->fP Tok
 |[]=>none
 |x::k=>if gI x s then ok x k else bad x.at_
def ib(o:Int):List Tok->fP Tok
 |[]=>none
 |x::k=>if x.kind=o then ok x k else bad x.at_
def ao:Nat->List (bc×Int)
 |0=>[([111,114],7),([120,111,114],8)]
 |1=>[([97,110,100],9)]
 |2=>[([61],10),([60,62],11),([60,61],13),([62,61],15),([60],12),([62],14)]
 |3=>[([43],16),([45],17)]
 |4=>[([42],18)]
 |_=>[]
def oh:List (bc×Int)->List Tok->Option (Option bx×List Tok)
 |[],k=>some (none,k)
 |(s,o)::os,k=>match lC s k with
  |none=>none
  |some (some x,k)=>some (some (.mk o x.at_ [] false dw 0 []),k)
  |some (none,k)=>oh os k
def bx.at_:bx->Int| .mk _ D _ _ _ _ _=>D
def s0(B:bx):Option Bool:=if B.kind=1 then some true else if B.kind=4 then(match B.args with|[]=>none|D::_=>some (decide (D.kind=1)))else some false
def bx.name:bx->bc| .mk _ _ s _ _ _ _=>s
def bx.no:bx->Bool| .mk _ _ _ b _ _ _=>b
def bx.ty:bx->hS| .mk _ _ _ _ t _ _=>t
def bx.n:bx->Int| .mk _ _ _ _ _ n _=>n
def two(B:bx)(D b:bx):bx:= .mk B.kind B.at_ [] false dw 0 [D,b]
def xy:List (bc×Int):=[([110,111,116],3),([45],4),([112,114,101],5)]
mutual
def level:Nat->Nat->List Tok->fP bx
 |0,_,_=>none
 |n+1,o,k=>if o=5 then shift n k else andThen (level n (o+1) k) λleft k=>oP n o left k
def oP:Nat->Nat->bx->List Tok->fP bx
 |0,_,_,_=>none
 |n+1,o,left,k=>match oh (ao o) k with
  |none=>none
  |some (none,k)=>ok left k
  |some (some B,k)=>andThen (level n (o+1) k) λr k=>if o=2 then ok (two B left r) k else oP n o (two B left r) k
def shift:Nat->List Tok->fP bx
 |0,_=>none
 |n+1,k=>andThen (vO n k) λleft k=>oZ n left k
def oZ:Nat->bx->List Tok->fP bx
 |0,_,_=>none
 |n+1,left,k=>hO [60,60] k λx k=>match x with
  |some x=>o0 n 19 x left k
  |none=>hO [62,62] k λx k=>match x with
   |some x=>o0 n 20 x left k
   |none=>ok left k
def o0:Nat->Int->Tok->bx->List Tok->fP bx
 |0,_,_,_,_=>none
 |n+1,o,x,left,k=>andThen (ib 4 k) λm k=>if 63<m.n then bad m.at_ else oZ n (.mk o x.at_ [] false dw m.n [left]) k
def vO:Nat->List Tok->fP bx
 |0,_=>none
 |n+1,k=>match oh xy k with
  |none=>none
  |some (some B,k)=>andThen (vO n k) λD k=>ok (.mk B.kind B.at_ [] false dw 0 [D]) k
  |some (none,k)=>andThen (part n k) λleft k=>mN n left k
def mN:Nat->bx->List Tok->fP bx
 |0,_,_=>none
 |n+1,left,k=>hO [119,104,101,110] k λx k=>match x with
  |none=>ok left k
  |some x=>hO [110,111,116] k λno k=>andThen (ib 1 k) λc k=>mN n (.mk 6 x.at_ c.text no.isSome dw 0 [left]) k
def part:Nat->List Tok->fP bx
 |0,_=>none
 |_+1,[]=>none
 |n+1,x::k=>
  if x.kind=5 then ok (.mk 1 x.at_ [] false x.ty x.n []) k
  else if x.kind=2&&(x.text=[116,114,117,101]||x.text=[102,97,108,115,101])then ok (.mk 1 x.at_ [] false ⟨true,false,1⟩ (if x.text=[116,114,117,101]then 1 else 0) []) k
  else if x.kind=1 then hO [40] k λe k=>match e with
   |none=>ok (.mk 2 x.at_ x.text false dw 0 []) k
   |some _=>andThen (list n k) λcf k=>ok (.mk 25 x.at_ x.text false dw 0 cf) k
  else if x.kind=3 then andThen (ed [40] k) λ_ k=>andThen (arrow n k) λB k=>andThen (ed [41] k) λ_ k=>ok (.mk 26 x.at_ [] false x.ty 0 [B]) k
  else if x.kind=6&&x.text=[40]then andThen (arrow n k) λB k=>andThen (ed [41] k) λ_ k=>ok B k
  else if x.kind=2&&x.text=[105,102]then andThen (arrow n k) λc k=>andThen (ed [116,104,101,110] k) λ_ k=>andThen (arrow n k) λD k=>andThen (ed [101,108,115,101] k) λ_ k=>andThen (arrow n k) λb k=>ok (.mk 23 x.at_ [] false dw 0 [c,D,b]) k
  else if x.kind=2&&x.text=[109,101,114,103,101]then andThen (ib 1 k) λc k=>andThen (part n k) λD k=>andThen (part n k) λb k=>ok (.mk 24 x.at_ c.text false dw 0 [D,b]) k
  else bad x.at_
def list:Nat->List Tok->fP (List bx)
 |0,_=>none
 |n+1,k=>hO [41] k λe k=>match e with
  |some _=>ok [] k
  |none=>andThen (arrow n k) λB k=>oQ n [B] k
def oQ:Nat->List bx->List Tok->fP (List bx)
 |0,_,_=>none
 |n+1,cf,k=>hO [44] k λe k=>match e with
  |none=>andThen (ed [41] k) λ_ k=>ok cf k
  |some _=>andThen (arrow n k) λB k=>oQ n (cf++[B]) k
def lm:Nat->List Tok->fP bx
 |0,_=>none
 |n+1,k=>andThen (level n 0 k) λleft k=>hO [102,98,121] k λx k=>match x with
  |none=>ok left k
  |some x=>match s0 left with
   |none=>none
   |some true=>andThen (lm n k) λr k=>ok (.mk 21 x.at_ [] false dw 0 [left,r]) k
   |some false=>bad x.at_
def arrow:Nat->List Tok->fP bx
 |0,_=>none
 |n+1,k=>andThen (lm n k) λleft k=>hO [45,62] k λx k=>match x with
  |none=>ok left k
  |some x=>andThen (arrow n k) λr k=>ok (.mk 22 x.at_ [] false dw 0 [left,r]) k
end
def qS:Nat->List Tok->List Tok->fP (List Tok)
 |0,_,_=>none
 |n+1,cf,k=>andThen (ib 1 k) λx k=>hO [44] k λe k=>match e with
  |none=>ok (cf++[x]) k
  |some _=>qS n (cf++[x]) k
def pf(ty:hS)(on:bc)(fX:Int)(no:Bool)(x:Tok):ep:=⟨x.text,x.at_,ty,on,fX,no⟩
def xN:Nat->List Tok->Option bc
 |_,[]=>none
 |0,x::_=>some x.text
 |i+1,_::k=>xN i k
def wy(loc:Bool)(o:List ep->List Tok->fP (List ep))(ds:List ep)(k:List Tok):fP (List ep):=match xN 0 k with
 |none=>none
 |some s=>if s=[59]then(if loc then(match xN 1 k with
   |none=>none
   |some s=>if s=[108,101,116]then ok ds k else o ds (k.drop 1))else o ds (k.drop 1))
  else ok ds k
def yn(w:Option Tok)(k:List Tok):fP (bc×Int×Bool):=match w with
 |none=>ok ([],0,false) k
 |some _=>hO [110,111,116] k λno k=>andThen (ib 1 k) λon k=>ok (on.text,on.at_,no.isSome) k
def Bh(loc:Bool)(o:List ep->List Tok->fP (List ep))(ds:List ep)(b9:List Tok)(k:List Tok):fP (List ep):=
 andThen (ed [58] k) λ_ k=>andThen (ib 3 k) λt k=>hO [119,104,101,110] k λw k=>
 andThen (yn w k) λr k=>wy loc o (ds++b9.map (pf t.ty r.1 r.2.1 r.2.2)) k
def iA:Nat->Bool->List ep->List Tok->fP (List ep)
 |0,_,_,_=>none
 |n+1,loc,ds,k=>andThen (qS n [] k) λb9 k=>Bh loc (iA n loc) ds b9 k
def tC(n:Nat)(k:List Tok):fP eL:=hO [40] k λe k=>
 andThen (match e with
  |some _=>andThen (ib 1 k) λx k=>andThen (ed [44] k) λ_ k=>andThen (qS n [x] k) λb9 k=>andThen (ed [41] k) λ_ k=>ok b9 k
  |none=>andThen (ib 1 k) λx k=>ok [x] k) λb9 k=>
 andThen (ed [61] k) λB k=>andThen (arrow n k) λr k=>andThen (ed [59] k) λ_ k=>ok ⟨b9.map Tok.text,b9.map Tok.at_,B.at_,r⟩ k
def ll:Nat->List eL->List Tok->fP (List eL)
 |0,_,_=>none
 |n+1,b8,k=>hO [116,101,108] k λe k=>match e with
  |some _=>ok b8 k
  |none=>andThen (tC n k) λal k=>ll n (b8++[al]) k
def node(n:Nat)(k:List Tok):fP Node:=
 andThen (ed [110,111,100,101] k) λ_ k=>andThen (ib 1 k) λx k=>andThen (ed [40] k) λ_ k=>hO [41] k λe k=>
 andThen (match e with
  |some _=>ok [] k
  |none=>andThen (iA n false [] k) λds k=>andThen (ed [41] k) λ_ k=>ok ds k) λeh k=>
 andThen (ed [114,101,116,117,114,110,115] k) λ_ k=>andThen (ed [40] k) λ_ k=>andThen (iA n false [] k) λout k=>andThen (ed [41] k) λ_ k=>
 hO [118,97,114] k λe k=>andThen (match e with
  |some _=>andThen (iA n true [] k) λds k=>andThen (ed [59] k) λ_ k=>ok ds k
  |none=>ok [] k) λloc k=>
 andThen (ed [108,101,116] k) λ_ k=>andThen (ll n [] k) λb8 k=>ok ⟨x.text,x.at_,eh,out,loc,b8⟩ k
def nodes:Nat->List Node->List Tok->fP (List Node)
 |0,_,_=>none
 |n+1,ax,k=>andThen (node n k) λg k=>match k with
  |[]=>none
  |x::_=>if x.kind=7 then ok (ax++[g]) k else nodes n (ax++[g]) k
end Go.aS

namespace Go.bp
noncomputable section
open Go.aS
section
variable{C:aM}{h S a1:R ag}{j aq aP:Nat}
def tr{q3:List z}{ai:bN}(a:ai (.ptr j 0) (bn C h j (zC q3 q3.length)) (j+1)):ar (kB q3 j) λr=>g1 C h j r.1 r.2 ai:=⟨⟨a⟩⟩
def N4{b:Nat}{q3:List z}{ai:z->R ag->Prop}(a:ai (.ptr b 0) (bn C h b (zC q3 q3.length))):ar (kB q3 b) λr=>l7 C h b r.1 r.2 ai:=⟨⟨a⟩⟩
def tE(cs:List z):Bp cs []=some cs:=rfl
def tD(cs:List z)(off size:Nat)(v:z)(db:List (Nat×Nat×z)):Bp cs ((off,size,v)::db)=if v.cells.length=size/\off+size<=cs.length then Bp (nk cs off v.cells) db else none:=by
 have B:∀D b:Nat,(Nat.beq D b=true)=(D=b):=λD b=>propext ⟨Zj,λa=>by subst a;exact Y0 D⟩
 simp only[Bp,eU,Zn,B,Nat.ble_eq]
def pM(c:R z)(V:Nat)(v:z):dP c V [v]=c.set V (some v):=by simp[dP]
def bS{b n:Nat}{c:R z}{st:nt}(a:Z C h b=some (.cells c n st))(V:Nat):aR C h (.ptr b V)=c.get V:=by rw[c6,a]
def Pv{w:Bool}{D b:Prop}(a:b):im w bp.undef D b:=⟨a⟩
def sY(b V n c:Nat):gl (.slice b V n c)=some (.Z (n:Int)):=by simp[gl,oL]
def vC(b V n c:Nat):gl (.fh b V n c)=some (.Z (n:Int)):=by simp[gl,oL]
def Ai:gl .aV=some (.Z 0):=rfl
def vD(s:List Nat):lK (.str s)=some (.Z (s.length:Int)):=by simp[lK,oL]
def Cx:∀D b:List Nat,l8 D b=decide (D=b):=by
 intro D
 induction D with
 |nil=>intro b;cases b<;>simp[l8]
 |cons x D ah=>
  intro b
  cases b with
  |nil=>simp[l8]
  |cons e b=>
   simp only[l8,ah]
   by_cases a:x=e<;>simp[a]
def C2(t:Nat)(sv:Bool)(D b:List Nat):dc C h .eql t sv (.str D) (.str b)=some (.bool (decide (D=b))):=by
 simp[dc,wl,uR,Cx]
def AI(t:Nat)(sv:Bool)(D b:List Nat):dc C h .neq t sv (.str D) (.str b)=some (.bool (decide (D≠b))):=by
 simp[dc,wl,uR,Cx]
def Br(off aO:Nat)(cs:List z):tF false off aO (.agg cs)=cs[off]? :=by simp[tF,eU]
def Bq(off aO:Nat)(cs:List z):tF true off aO (.agg cs)=some (.agg ((cs.drop off).take aO)):=by simp[tF,eU]
def ye(t:Nat)(br v:z):J6 t br true (.iface t v)=some (.tuple [v, .zT]):=by simp[J6,eU]
def Be(o:IntKind)(x:Int):mU .u64 (.int o x)=some (.int .u64 (x%18446744073709551616)):=by simp[mU,ki,n4]
def V7{o:IntKind}{x:Int}(I: -9223372036854775808<=x)(M:x<9223372036854775808):mU .i64 (.int o x)=some (.Z x):=by simp[mU,ki,wrap64 I M]
def Bf(s:List Nat):ajj (.str s)=some (.str s):=rfl
structure co(C:aM)(X:List Nat)(h:R ag)(j:Nat)(S:R ag)(aq:Nat):Prop where
 le:j<=aq
 ad:∀b,b<j->b∉X->Z C S b=Z C h b
def co.refl(X:List Nat)(h:R ag)(j:Nat):co C X h j h j:=⟨Zi _,λ_ _ _=>rfl⟩
def co.trans{X:List Nat}{a1 aT be:R ag}{aP bk bF:Nat}(a:co C X a1 aP aT bk)(o:co C X aT bk be bF):co C X a1 aP be bF:=
 ⟨ZA a.le o.le,λb aj af=>(o.ad b (ZN aj a.le) af).trans (a.ad b aj af)⟩
def co.of{X:List Nat}(a:bD C h j S aq):co C X h j S aq:=⟨a.le,λb aj _=>a.ad b aj⟩
def co.fA{X:List Nat}(a:co C X h j S aq)(b V:Nat)(aj:b<j)(af:b∉X):aR C S (.ptr b V)=aR C h (.ptr b V):=by rw[c6,c6,a.ad b aj af]
def co.down{X nv:List Nat}{a6:Nat}(a:co C X h j S aq)(aL:a6<=j)(af:∀b∈X,b∈nv\/a6<=b):co C nv h a6 S aq:=
 ⟨ZA aL a.le,λb aj F=>a.ad b Zo (λB=>by rcases af b B with a|a;exact F a;omega)⟩
structure ee(C:aM)(h:R ag)(P:Nat->Prop)(b:Nat)(bf:z)(aO:Nat)(ba:List (List z)):Prop where
 aj:ba≠[]->P b
 many:ba.length<=300000
 wide:∀r∈ba,r.length=aO
 len:gl bf=some (.Z (ba.length:Int))
 gZ:∀(i:Nat),i<ba.length->hr aO bf (.Z (i:Int))=some (.ptr b (i*aO))
 cell:∀(i:Nat) r (W:Nat) v,ba[i]? =some r->r[W]? =some v->aR C h (.ptr b (i*aO+W))=some v
def ee.ad{P:Nat->Prop}{b aO:Nat}{bf:z}{ba:List (List z)}(a:ee C h P b bf aO ba)(o:∀e,P e->Z C S e=Z C h e):ee C S P b bf aO ba:=
 ⟨a.aj,a.many,a.wide,a.len,a.gZ,λi r W v aE bB=>by
  have aG:=o b (a.aj (λB=>by rw[B]at aE;cases aE))
  rw[c6,aG, <-c6];exact a.cell i r W v aE bB⟩
def ee.lift{P bh:Nat->Prop}{b aO:Nat}{bf:z}{ba:List (List z)}(a:ee C h P b bf aO ba)(o:∀e,P e->bh e):ee C h bh b bf aO ba:=
 ⟨λB=>o _ (a.aj B),a.many,a.wide,a.len,a.gZ,a.cell⟩
def W0{c:R z}:∀(r:List z) (V:Nat),(∀W v,r[W]? =some v->c.get (V+W)=some v)->c.kI V r.length=some r:=by
 intro r
 induction r with
 |nil=>intro V _;rfl
 |cons D r ah=>
  intro V a
  have a2:=a 0 D rfl
  rw[ZS]at a2
  have I:=ah (V+1) (λW v bB=>by have:=a (W+1) v (by simpa using bB);rw[Nat.add_right_comm];simpa[Z0,zo,Nat.add_left_comm]using this)
  simp[R.kI,a2,I]
def ee.row{P:Nat->Prop}{b aO:Nat}{bf:z}{ba:List (List z)}(a:ee C h P b bf aO ba)(aD:0<aO){i:Nat}{r:List z}(aE:ba[i]? =some r):d0 C h aO (.ptr b (i*aO))=some (.agg r):=by
 have az:=a.wide r (Zl aE)
 have a2:∃v,r[0]? =some v:=by
  cases r with
  |nil=>simp at az;omega
  |cons D k=>exact⟨D,rfl⟩
 obtain⟨v,bt⟩:=a2
 have ay:=a.cell i r 0 v aE bt
 rw[c6]at ay
 rw[IG]
 split at ay
 ·rename_i c _ _ aj
  have:=W0 (c:=c) r (i*aO) (λW v bB=>by
   have:=a.cell i r W v aE bB
   rw[c6,aj]at this
   exact this)
  rw[az]at this
  rw[this];rfl
 ·cases ay
def O1{aO:Nat}:∀(ba:List (List z)),(∀r∈ba,r.length=aO)->∀(i:Nat) r (W:Nat) v,ba[i]? =some r->r[W]? =some v->ba.flatten[i*aO+W]? =some v:=by
 intro ba
 induction ba with
 |nil=>intro _ i r W v aE;simp at aE
 |cons D k ah=>
  intro U i r W v aE bB
  have aC:=U D (Zv ..)
  have rI:W<r.length:=(Zb.1 bB).1
  cases i with
  |zero=>
   simp at aE;subst aE
   rw[Yi,zr,ZQ,Z2 Zo];exact bB
  |succ i=>
   simp at aE
   rw[Yi,ZF (by rw[aC,Z3];omega),aC]
   have:(i+1)*aO+W-aO=i*aO+W:=by rw[Z3];omega
   rw[this]
   exact ah (λr kN=>U r (Zt _ kN)) i r W v aE bB
def kc.FF{aO:Nat}{s:z}{ba:List (List z)}{cR:List Nat}(a:kc C h s aO ba.flatten cR)(d9:0<aO)(U:∀r∈ba,r.length=aO)(aX:ba.length<=300000){P:Nat->Prop}(az:∀e∈cR,P e):∃b,ee C h P b s aO ba:=by
 have gj:=u0 U
 have Z:∀(ba:List (List z)),(∀r∈ba,r.length=aO)->∀(i:Nat) r (W:Nat) v,ba[i]? =some r->r[W]? =some v->ba.flatten[i*aO+W]? =some v:=by
  intro ba
  induction ba with
  |nil=>intro _ i r W v aE;simp at aE
  |cons D k ah=>
   intro U i r W v aE bB
   have aC:=U D (Zv ..)
   have rI:W<r.length:=(Zb.1 bB).1
   cases i with
   |zero=>
    simp at aE;subst aE
    rw[Yi,zr,ZQ,Z2 Zo];exact bB
   |succ i=>
    simp at aE
    rw[Yi,ZF (by rw[aC,Z3];omega),aC]
    have:(i+1)*aO+W-aO=i*aO+W:=by rw[Z3];omega
    rw[this]
    exact ah (λr kN=>U r (Zt _ kN)) i r W v aE bB
 rcases a with ⟨I,M,ak⟩|⟨b,eb,n,c,I,M,ak,aA,bq,bV,c2⟩
 ·have Qw:ba.length=0:=by
   rw[M,ZY]at gj
   rcases Nat.mul_eq_zero.1 gj.symm with a|a
   ·exact a
   ·omega
  have Qw:ba=[]:=YW.1 Qw
  subst Qw I
  exact⟨0,λB=>absurd rfl B,Zs,U,rfl,λi aE=>by simp at aE,λi r W v aE=>by simp at aE⟩
 ·have aL:n=ba.length:=YM d9 (by rw[<-M,gj])
  subst aL I
  refine⟨b,λ_=>az b (by rw[ak];exact Zv ..),aX,U,vC ..,λi aE=>by rw[Iw _ aE,ZQ],λi r W v aE bB=> ?_⟩
  rw[c6,bV]
  exact(c2 _).trans (Z ba U i r W v aE bB)
def MQ{b aO o cap:Nat}{ba:List (List z)}{st:nt}(aj:Z C h b=some (.cells (R.ofList ba.flatten 0 .nil) (o*aO) st))(aG:ba.length=o)(U:∀r∈ba,r.length=aO)(aX:o<=300000){P:Nat->Prop}(b1:P b):ee C h P b (.slice b 0 o cap) aO ba:=by
 subst aG
 have Z:∀(ba:List (List z)),(∀r∈ba,r.length=aO)->∀(i:Nat) r (W:Nat) v,ba[i]? =some r->r[W]? =some v->ba.flatten[i*aO+W]? =some v:=by
  intro ba
  induction ba with
  |nil=>intro _ i r W v aE;simp at aE
  |cons D k ah=>
   intro U i r W v aE bB
   have aC:=U D (Zv ..)
   have rI:W<r.length:=(Zb.1 bB).1
   cases i with
   |zero=>
    simp at aE;subst aE
    rw[Yi,zr,ZQ,Z2 Zo];exact bB
   |succ i=>
    simp at aE
    rw[Yi,ZF (by rw[aC,Z3];omega),aC]
    have:(i+1)*aO+W-aO=i*aO+W:=by rw[Z3];omega
    rw[this]
    exact ah (λr kN=>U r (Zt _ kN)) i r W v aE bB
 refine⟨λ_=>b1,aX,U,sY ..,λi aE=>by rw[Iv _ aE,ZQ],λi r W v aE bB=> ?_⟩
 rw[c6,aj]
 exact(lO _ _).trans (Z ba U i r W v aE bB)
def k7(t:hS):List z:=[.bool t.b, .bool t.s, .Z t.w]
def Gn(C:aM)(h:R ag)(b:Nat):Prop:=∃c n,Z C h b=some (.cells c n .own)/\8<n
def AY(C:aM)(h:R ag)(b o:Nat):Prop:=C.a6<=b/\∃c n,Z C h b=some (.cells c n .own)/\o<=n
def AY.ad{b o:Nat}(a:AY C h b o)(al:Z C S b=Z C h b):AY C S b o:=by unfold AY;rw[al];exact a
def Gn.ad{b:Nat}(a:Gn C h b)(o:Z C S b=Z C h b):Gn C S b:=by unfold Gn;rw[o];exact a
mutual
def cm(C:aM)(h:R ag):(Nat->Prop)->bx->z->Prop
 |P, .mk kind at_ name no ty n args,v=>∃b,v= .ptr b 0/\P b/\Gn C h b/\aR C h (.ptr b 0)=some (.Z kind)/\aR C h (.ptr b 1)=some (.Z at_)/\aR C h (.ptr b 2)=some (.str name)/\aR C h (.ptr b 3)=some (.bool no)
   /\aR C h (.ptr b 4)=some (.bool ty.b)/\aR C h (.ptr b 5)=some (.bool ty.s)/\aR C h (.ptr b 6)=some (.Z ty.w)/\aR C h (.ptr b 7)=some (.int .u64 n)
   /\∃bf cD bj,aR C h (.ptr b 8)=some bf/\ee C h P cD bf 1 (bj.map λv=>[v])/\(bj≠[]->cD≠b/\(kind=24->AY C h cD bj.length))/\dh C h (λe=>P e/\e≠b/\e≠cD) args bj
def dh(C:aM)(h:R ag):(Nat->Prop)->List bx->List z->Prop
 |_,[],bj=>bj=[]
 |P,B::b3,bj=>∃v o3 bh,bj=v::o3/\(∀e,bh e->P e)/\cm C h bh B v/\dh C h (λe=>P e/\¬bh e) b3 o3
end
mutual
def cm.ad{P:Nat->Prop}(o:∀e,P e->Z C S e=Z C h e):∀(B:bx) (v:z),cm C h P B v->cm C S P B v
 | .mk kind at_ name no ty n args,v,a=>by
   unfold cm at a ⊢
   obtain⟨b,I,b1,bb,M,ak,aA,bq,bV,c2,eg,hf,bf,cD,bj,jX,nH,m4,sF⟩:=a
   have az:∀V,aR C S (.ptr b V)=aR C h (.ptr b V):=λV=>by rw[c6,c6,o b b1]
   exact⟨b,I,b1,bb.ad (o b b1),by rw[az];exact M,by rw[az];exact ak,by rw[az];exact aA,by rw[az];exact bq,by rw[az];exact bV,by rw[az];exact c2,by rw[az];exact eg,by rw[az];exact hf,bf,cD,bj,by rw[az];exact jX,nH.ad o,(λbt=>⟨(m4 bt).1,λaG=>((m4 bt).2 aG).ad (o cD (nH.aj (by simpa using bt)))⟩),dh.ad (λe F=>o e F.1) args bj sF⟩
def dh.ad{P:Nat->Prop}(o:∀e,P e->Z C S e=Z C h e):∀(b3:List bx) (bj:List z),dh C h P b3 bj->dh C S P b3 bj
 |[],bj,a=>by unfold dh at a ⊢;exact a
 |B::b3,bj,a=>by
  unfold dh at a ⊢
  obtain⟨v,o3,bh,I,bJ,M,ak⟩:=a
  exact⟨v,o3,bh,I,bJ,cm.ad (λe F=>o e (bJ e F)) B v M,dh.ad (λe F=>o e F.1) b3 o3 ak⟩
end
mutual
def cm.lift{P bh:Nat->Prop}(o:∀e,P e->bh e):∀(B:bx) (v:z),cm C h P B v->cm C h bh B v
 | .mk kind at_ name no ty n args,v,a=>by
   unfold cm at a ⊢
   obtain⟨b,I,b1,bb,M,ak,aA,bq,bV,c2,eg,hf,bf,cD,bj,jX,nH,m4,sF⟩:=a
   exact⟨b,I,o b b1,bb,M,ak,aA,bq,bV,c2,eg,hf,bf,cD,bj,jX,nH.lift o,m4,dh.lift (λe F=>⟨o e F.1,F.2⟩) args bj sF⟩
def dh.lift{P bh:Nat->Prop}(o:∀e,P e->bh e):∀(b3:List bx) (bj:List z),dh C h P b3 bj->dh C h bh b3 bj
 |[],bj,a=>by unfold dh at a ⊢;exact a
 |B::b3,bj,a=>by
  unfold dh at a ⊢
  obtain⟨v,o3,c7,I,bJ,M,ak⟩:=a
  exact⟨v,o3,c7,I,λe F=>o e (bJ e F),M,dh.lift (λe F=>⟨o e F.1,F.2⟩) b3 o3 ak⟩
end
def dh.nil{P:Nat->Prop}:dh C h P [] []:=by unfold dh;rfl
def gN(kind at_:Int)(name:bc)(no:Bool)(ty:hS)(n:Int)(bf:z):List z:=[.Z kind, .Z at_, .str name, .bool no, .bool ty.b, .bool ty.s, .Z ty.w, .int .u64 n,bf]
def RN:8<9:=by decide
def cm.of{P:Nat->Prop}{b cD:Nat}{kind at_ n:Int}{name:bc}{no:Bool}{ty:hS}{bf:z}{m:Nat}{st:nt}{args:List bx}{bj:List z}(aj:Z C h b=some (.cells (R.ofList (gN kind at_ name no ty n bf) 0 .nil) m st))(b1:P b)
 (aD:ee C h P cD bf 1 (bj.map λv=>[v]))(m4:bj≠[]->cD≠b)(aC:dh C h (λe=>P e/\e≠b/\e≠cD) args bj)(bb:st= .own:=by rfl)(aX:8<m:=by exact RN)(bQ:kind=24->bj≠[]->AY C h cD bj.length:=by exact λa=>absurd a Zd):cm C h P (.mk kind at_ name no ty n args) (.ptr b 0):=by
 unfold cm
 refine⟨b,rfl,b1,⟨_,_,bb▸aj,aX⟩, ?_, ?_, ?_, ?_, ?_, ?_, ?_, ?_,bf,cD,bj, ?_,aD,(λbt=>⟨m4 bt,λaG=>bQ aG bt⟩),aC⟩<;>(rw[bS aj,lO];rfl)
def ee.nil(P:Nat->Prop)(aO:Nat):ee C h P 0 .aV aO []:=⟨λB=>absurd rfl B,Zs,Zs,rfl,λi aE=>by simp at aE,λi r W v aE=>by simp at aE⟩
def cm.leaf{P:Nat->Prop}{b:Nat}{kind at_ n:Int}{name:bc}{no:Bool}{ty:hS}{m:Nat}{st:nt}(aj:Z C h b=some (.cells (R.ofList (gN kind at_ name no ty n .aV) 0 .nil) m st))(b1:P b)(bb:st= .own:=by rfl)(aX:8<m:=by exact RN):cm C h P (.mk kind at_ name no ty n []) (.ptr b 0):=
 cm.of (bj:=[]) aj b1 (ee.nil P 1) (λa=>absurd rfl a) dh.nil bb aX (λ_ a=>absurd rfl a)
def O0:∀bj:List z,(bj.map λv=>[v]).flatten=bj:=by
 intro bj
 induction bj with
 |nil=>rfl
 |cons D k ah=>simp[ah]
def cm.lit{P:Nat->Prop}{b cD o cap:Nat}{kind at_ n:Int}{name:bc}{no:Bool}{ty:hS}{m:Nat}{st gn:nt}{args:List bx}{bj:List z}(aj:Z C h b=some (.cells (R.ofList (gN kind at_ name no ty n (.slice cD 0 o cap)) 0 .nil) m st))(b1:P b)
 (Ev:Z C h cD=some (.cells (R.ofList bj 0 .nil) o gn))(PM:P cD)(aG:bj.length=o)(hh:o<=1000)(m4:cD≠b)(aC:dh C h (λe=>P e/\e≠b/\e≠cD) args bj)(bb:st= .own:=by rfl)(aX:8<m:=by exact RN)(an7:gn= .own:=by rfl)(gu:C.a6<=cD:=by(omega)):cm C h P (.mk kind at_ name no ty n args) (.ptr b 0):=
 cm.of aj b1 (MQ (ba:=bj.map λv=>[v]) (by rw[O0,Yc];exact Ev) (by simpa using aG) Zs Zo PM) (λ_=>m4) aC bb aX (λ_ _=>⟨gu,_,_,an7▸Ev,Zo⟩)
def dh.one{P bh:Nat->Prop}{B:bx}{v:z}(a:cm C h bh B v)(bJ:∀e,bh e->P e):dh C h P [B] [v]:=by
 unfold dh;exact⟨v,[],bh,rfl,bJ,a,dh.nil⟩
def dh.two{P bh c7:Nat->Prop}{B f:bx}{v w:z}(a:cm C h bh B v)(o:cm C h c7 f w)(bJ:∀e,bh e->P e)(U:∀e,c7 e->P e/\¬bh e):dh C h P [B,f] [v,w]:=by
 unfold dh;exact⟨v,[w],bh,rfl,bJ,a,dh.one o U⟩
def dh.snoc{bh:Nat->Prop}{B:bx}{v:z}(o:cm C h bh B v):∀{b3:List bx}{bj:List z}{oa P:Nat->Prop},dh C h oa b3 bj->(∀e,oa e->P e)->(∀e,bh e->P e/\¬oa e)->dh C h P (b3++[B]) (bj++[v]):=by
 intro b3
 induction b3 with
 |nil=>intro bj oa P a I M;unfold dh at a;subst a;exact dh.one o (λe F=>(M e F).1)
 |cons D k ah=>
  intro bj oa P a I M
  unfold dh at a
  obtain⟨w,o3,c7,rfl,bJ,ak,aA⟩:=a
  show dh C h P (D::(k++[B])) (w::(o3++[v]))
  unfold dh
  exact⟨w,o3++[v],c7,rfl,λe F=>I e (bJ e F),ak,ah aA (λe F=>⟨I e F.1,F.2⟩) (λe F=>⟨⟨(M e F).1,λio=>(M e F).2 (bJ e io)⟩,λoJ=>(M e F).2 oJ.1⟩)⟩
def cm.ptr{P:Nat->Prop}:∀{B:bx}{v:z},cm C h P B v->∃b,v= .ptr b 0/\P b/\aR C h (.ptr b 0)=some (.Z B.kind)
 | .mk ..,_,a=>by
   unfold cm at a
   obtain⟨b,I,b1,_,M,_⟩:=a
   exact⟨b,I,b1,M⟩
def cm.open{P:Nat->Prop}:∀{B:bx}{v:z},cm C h P B v->∃b bf cD bj,v= .ptr b 0/\P b/\aR C h (.ptr b 0)=some (.Z B.kind)/\aR C h (.ptr b 1)=some (.Z B.at_)/\aR C h (.ptr b 2)=some (.str B.name)/\aR C h (.ptr b 3)=some (.bool B.no)
 /\aR C h (.ptr b 4)=some (.bool B.ty.b)/\aR C h (.ptr b 5)=some (.bool B.ty.s)/\aR C h (.ptr b 6)=some (.Z B.ty.w)/\aR C h (.ptr b 7)=some (.int .u64 B.n)
 /\aR C h (.ptr b 8)=some bf/\ee C h P cD bf 1 (bj.map λv=>[v])/\dh C h P B.args bj
 | .mk ..,_,a=>by
   unfold cm at a
   obtain⟨b,I,b1,bb,M,ak,aA,bq,bV,c2,eg,hf,bf,cD,bj,jX,nH,m4,sF⟩:=a
   exact⟨b,bf,cD,bj,I,b1,M,ak,aA,bq,bV,c2,eg,hf,jX,nH,dh.lift (λe F=>F.1) _ _ sF⟩
def dh.len:∀{b3:List bx}{bj:List z}{P:Nat->Prop},dh C h P b3 bj->bj.length=b3.length:=by
 intro b3
 induction b3 with
 |nil=>intro bj P a;unfold dh at a;subst a;rfl
 |cons D k ah=>
  intro bj P a
  unfold dh at a
  obtain⟨w,o3,bh,rfl,bJ,I,M⟩:=a
  simp[ah M]
def dh.get:∀{b3:List bx}{bj:List z}{P:Nat->Prop},dh C h P b3 bj->∀(i:Nat) B,b3[i]? =some B->∃v,bj[i]? =some v/\cm C h P B v:=by
 intro b3
 induction b3 with
 |nil=>intro bj P a i B bl;simp at bl
 |cons D k ah=>
  intro bj P a i B bl
  unfold dh at a
  obtain⟨w,o3,bh,rfl,bJ,I,M⟩:=a
  cases i with
  |zero=>simp at bl;subst bl;exact⟨w,rfl,cm.lift bJ _ _ I⟩
  |succ i=>
   obtain⟨v,ak,aA⟩:=ah M i B (by simpa using bl)
   exact⟨v,by simpa using ak,cm.lift (λe F=>F.1) _ _ aA⟩
def ee.one{P:Nat->Prop}{b:Nat}{bf:z}{bj:List z}(a:ee C h P b bf 1 (bj.map λv=>[v])){i:Nat}{v:z}(aE:bj[i]? =some v):hr 1 bf (.Z (i:Int))=some (.ptr b i)/\aR C h (.ptr b i)=some v/\P b:=by
 have jt:=(Zb.1 aE).1
 have I:=a.gZ i (by simpa using jt)
 have M:=a.cell i [v] 0 v (by rw[Zw,aE];rfl) rfl
 rw[Yc]at I
 rw[Yc,ZS]at M
 exact⟨I,M,a.aj (λB=>by simp at B;subst B;simp at aE)⟩
def aif{aO o:Nat}{x:z}{m:List z}(af:kS C h aO x=some (o,m))(aG:0<o)(aj:o<=1048576):
 kC C h j aO .aV x=some (.fl (.fh j 0 o aO) (bn C h j (some (.cells (R.ofList m 0 .nil) m.length (.grow [])))) (j+1)):=by
 simp only[kC,af]
 rw[hw,Zg Zo]
 simp[wo,sD,jV aj,mz]
def aid{aO o b n:Nat}{x:z}{m:List z}{c:R z}{eb:List Nat}(ce:0<aO)(af:kS C h aO x=some (o,m))(aG:0<o)(aj:n+o<=1048576)(alT:iI m=true)
 (aL:C.a6<=b)(bb:Z C h b=some (.cells c (n*aO) (.grow eb))):
 kC C h j aO (.fh b 0 n aO) x=some (.fl (.fh j 0 (n+o) aO) (bn C (bn C h b (some (.cells c (n*aO) .jA))) j (some (.cells (dP c (n*aO) m) (n*aO+m.length) (.grow (b::eb))))) (j+1)):=by
 simp only[kC,af]
 rw[hw,Zg Zo]
 have cO:¬(0+(n+o)*aO<=n*aO):=by
  have:0<o*aO:=Nat.mul_pos aG ce
  rw[Z3];omega
 have PV:Nat.ble (0+(n+o)*aO) (n*aO)=false:=by
  cases bJ:Nat.ble (0+(n+o)*aO) (n*aO)with
  |false=>rfl
  |true=>exact absurd (iN bJ) cO
 simp only[wo,Gy,bb,iB,jV aL,jV aj,alT,PV]
 simp[eU,mz]
def aie{aO o b n:Nat}{x:z}{m k:List z}{c:R z}{st:nt}{al:Nat}(ce:0<aO)(af:kS C h aO x=some (o,m))(aG:0<o)(aj:n+o<=1048576)
 (bb:Z C h b=some (.cells c al st))(ay:wb c k)(az:k.length=n*aO):
 kC C h j aO (.slice b 0 n n) x=some (.fl (.fh j 0 (n+o) aO) (bn C h j (some (.cells (R.ofList (k++m) 0 .nil) (k++m).length (.grow [])))) (j+1)):=by
 simp only[kC,af]
 rw[hw,Zg Zo]
 have PV:Nat.ble (n+o) n=false:=by
  cases bJ:Nat.ble (n+o) n with
  |false=>rfl
  |true=>exact absurd (iN bJ) Zo
 have HG:mo C h b 0 (n*aO)=some k:=by
  simp only[mo,cellsOf,bb]
  rw[W1 ay _ _ Zo]
  simp[<-az]
 simp only[wo,PV,kE,HG,sD,jV aj,fj,mz,lG,gB]
def gU(C:aM)(h:R ag)(s:z)(aO:Nat)(k:List z)(cR:List Nat):Prop:=
 kc C h s aO k cR\/∃b n c st,s= .slice b 0 n n/\k.length=n*aO/\cR=[b]/\Z C h b=some (.cells c (n*aO) st)/\wb c k/\st= .own/\C.a6<=b
def gU.ad{s:z}{aO:Nat}{k:List z}{cR:List Nat}(a:gU C h s aO k cR)(aG:∀e∈cR,Z C S e=Z C h e):gU C S s aO k cR:=by
 rcases a with a|⟨b,n,c,st,I,M,ak,aA,bq⟩
 ·exact .inl (a.ad aG)
 ·exact .inr ⟨b,n,c,st,I,M,ak,by rw[aG b (by rw[ak];exact Zv ..)];exact aA,bq⟩
def gU.append{aO o:Nat}{s x:z}{k m:List z}{cR:List Nat}(a:gU C h s aO k cR)(ce:0<aO)(af:kS C h aO x=some (o,m))(aX:m.length=o*aO)(aG:0<o)(I:iI m=true)
 (aj:k.length+m.length<=1048576)(aL:C.a6<=j)(cO:∀e∈cR,e<j):
 ∃eP S iy,kC C h j aO s x=some (.fl eP S (j+1))/\kc C S eP aO (k++m) iy/\(∀e∈iy,e=j\/e∈cR)/\∀e,e≠j->e∉cR->Z C S e=Z C h e:=by
 have φ:o<=o*aO:=YX o ce
 rcases a with (⟨rfl,rfl,rfl⟩|⟨b,eb,n,c,rfl,M,rfl,aA,bq,bV,c2⟩)|⟨b,n,c,st,rfl,M,rfl,aA,bq,_⟩
 ·refine⟨_,_,[j],aif af aG (by simp at aj;omega), .inr ⟨j,[],o,_,rfl,by simpa using aX,rfl,by simpa using aL,Zs,by rw[bv aL,aX], ?_⟩,Zs,λe F _=>aK aL F⟩
  simpa using pt m
 ·have jf:n<=n*aO:=YX n ce
  have fV:b<j:=cO b (Zv ..)
  refine⟨_,_,j::b::eb,aid ce af aG Zo I (aA b (Zv ..)) bV, .inr ⟨j,b::eb,n+o,dP c (n*aO) m,rfl,by rw[ZP,M,aX,Z3],rfl, ?_, ?_, ?_, ?_⟩, ?_,λe F Io=> ?_⟩
  ·intro e F
   rcases Zq.1 F with rfl|F
   ·exact aL
   ·exact aA e F
  ·intro ay
   have:=cO j ay
   omega
  ·rw[bv aL,aX,Z3]
  ·rw[<-M];exact c2.app m
  ·intro e F
   rcases Zq.1 F with rfl|F
   ·exact .inl rfl
   ·exact .inr F
  ·simp only[Zq,YV]at Io
   rw[aK aL F,aK (aA b (Zv ..)) Io.1]
 ·have jf:n<=n*aO:=YX n ce
  refine⟨_,_,[j],aie ce af aG Zo aA bq M, .inr ⟨j,[],n+o,_,rfl,by rw[ZP,M,aX,Z3],rfl,by simpa using aL,Zs,by rw[bv aL,ZP,M,aX,Z3],pt _⟩,Zs,λe F _=>aK aL F⟩
def gU.FF{aO:Nat}{s:z}{ba:List (List z)}{cR:List Nat}(a:gU C h s aO ba.flatten cR)(d9:0<aO)(U:∀r∈ba,r.length=aO)(aX:ba.length<=300000){P:Nat->Prop}(az:∀e∈cR,P e):∃b,ee C h P b s aO ba:=by
 rcases a with a|⟨b,n,c,st,rfl,M,rfl,aA,bq,_⟩
 ·exact a.FF d9 U aX az
 ·have gj:=u0 U
  have aL:n=ba.length:=YM d9 (by rw[<-M,gj])
  subst aL
  refine⟨b,λ_=>az b (Zv ..),aX,U,sY ..,λi aE=>by rw[Iv _ aE,ZQ],λi r W v aE bB=> ?_⟩
  rw[c6,aA]
  exact(bq _).trans (O1 ba U i r W v aE bB)
def gU.MP{s:z}{bj:List z}{cR:List Nat}(a:gU C h s 1 bj cR){P:Nat->Prop}(aX:bj.length<=300000)(az:∀e∈cR,P e):∃b,ee C h P b s 1 (bj.map λv=>[v]):=by
 have cu:gU C h s 1 (bj.map λv=>[v]).flatten cR:=by rw[O0];exact a
 exact cu.FF Zd Zs (by simpa using aX) az
structure gL(C:aM)(h:R ag)(ef:Nat->Prop)(b:Nat)(bf:z)(aO:Nat)(ba:List (List z)):Prop where
 rd:ee C h ef b bf aO ba
 wr:ba≠[]->C.a6<=b/\∃c n st,Z C h b=some (.cells c n st)/\ba.length*aO<=n/\(st= .own\/∃eb,st= .grow eb/\b∉eb/\∀e∈eb,ef e/\C.a6<=e)
def gL.ad{ef:Nat->Prop}{b aO:Nat}{bf:z}{ba:List (List z)}(a:gL C h ef b bf aO ba)(o:∀e,ef e->Z C S e=Z C h e):gL C S ef b bf aO ba:=
 ⟨a.rd.ad o,λU=>by rw[o b (a.rd.aj U)];exact a.wr U⟩
def gL.lift{ef bh:Nat->Prop}{b aO:Nat}{bf:z}{ba:List (List z)}(a:gL C h ef b bf aO ba)(o:∀e,ef e->bh e):gL C h bh b bf aO ba:=
 ⟨a.rd.lift o,λU=>by
  obtain⟨a2,c,n,st,I,M,ak⟩:=a.wr U
  exact⟨a2,c,n,st,I,M,ak.imp id λ⟨eb,B,aj,F⟩=>⟨eb,B,aj,λe aX=>⟨o e (F e aX).1,(F e aX).2⟩⟩⟩⟩
def gL.nil(ef:Nat->Prop)(aO:Nat):gL C h ef 0 .aV aO []:=⟨ee.nil ef aO,λa=>absurd rfl a⟩
def gU.MR{aO:Nat}{s:z}{ba:List (List z)}{cR:List Nat}(a:gU C h s aO ba.flatten cR)(d9:0<aO)(U:∀r∈ba,r.length=aO)(aX:ba.length<=300000){ef:Nat->Prop}(az:∀e∈cR,ef e):∃b,gL C h ef b s aO ba:=by
 have gj:=u0 U
 obtain⟨b,cW⟩:=a.FF d9 U aX az
 rcases a with (⟨rfl,M,rfl⟩|⟨dT,eb,n,c,rfl,M,rfl,aA,bq,bV,c2⟩)|⟨dT,n,c,st,rfl,M,rfl,aA,bq,rfl,a2⟩
 ·rw[M,ZY]at gj
  have:ba=[]:=YW.1 (by rcases Nat.mul_eq_zero.1 gj.symm with a|a<;>omega)
  subst this
  exact⟨0,gL.nil ef aO⟩
 ·refine⟨b,cW,λc5=> ?_⟩
  have d7:=cW.gZ 0 (Yo.2 c5)
  have aL:n=ba.length:=YM d9 (by rw[<-M,gj])
  have av:=Yo.2 c5
  rw[Iw _ Zo]at d7
  simp only[Ze,z.ptr.injEq]at d7
  obtain⟨rfl,_⟩:=d7
  exact⟨aA _ (Zv ..),c,_,_,bV,by rw[aL];omega, .inr ⟨eb,rfl,bq,λe F=>⟨az e (Zt _ F),aA e (Zt _ F)⟩⟩⟩
 ·refine⟨b,cW,λc5=> ?_⟩
  have d7:=cW.gZ 0 (Yo.2 c5)
  have aL:n=ba.length:=YM d9 (by rw[<-M,gj])
  have av:=Yo.2 c5
  rw[Iv _ Zo]at d7
  simp only[Ze,z.ptr.injEq]at d7
  obtain⟨rfl,_⟩:=d7
  exact⟨a2,c,_,_,aA,by rw[aL];omega, .inl rfl⟩
def gU.ata{s:z}{bj:List z}{cR:List Nat}(a:gU C h s 1 bj cR){ef:Nat->Prop}(aX:bj.length<=300000)(az:∀e∈cR,ef e):∃b,gL C h ef b s 1 (bj.map λv=>[v]):=by
 have cu:gU C h s 1 (bj.map λv=>[v]).flatten cR:=by rw[O0];exact a
 exact cu.MR Zd Zs (by simpa using aX) az
def gL.store{ef:Nat->Prop}{b aO:Nat}{bf:z}{ba:List (List z)}(a:gL C h ef b bf aO ba){i W:Nat}{r:List z}(aE:ba[i]? =some r)(bB:W<aO){v:z}(bt:v.cells=[v])(I:nV v=true):
 ∃S,fc C h 1 (.ptr b (i*aO+W)) v=some S/\gL C S ef b bf aO (ba.set i (r.set W v))/\∀e,¬ef e->Z C S e=Z C h e:=by
 have c5:ba≠[]:=λB=>by rw[B]at aE;simp at aE
 obtain⟨jt,ann⟩:=Zb.1 aE
 obtain⟨a2,c,n,st,aj,aL,cK⟩:=a.wr c5
 have rP:=a.rd.wide r (Zl aE)
 have yO:i*aO+W+1<=n:=by
  have:(i+1)*aO<=ba.length*aO:=Nat.mul_le_mul_right aO jt
  rw[Z3]at this;omega
 have BD:=a.rd.aj c5
 have eD:(ba.set i (r.set W v)).length=ba.length:=Y4
 have aap:ba.set i (r.set W v)≠[]:=λB=>by rw[B]at eD;exact c5 (Yd eD.symm)
 have m6:∀(S:R ag) (aQ:Nat) (gn:nt),Z C S b=some (.cells (c.set (i*aO+W) (some v)) aQ gn)->ee C S ef b bf aO (ba.set i (r.set W v)):=λS aQ gn bX=>by
  refine⟨λ_=>BD,by rw[eD];exact a.rd.many,λal bJ=> ?_,by rw[eD];exact a.rd.len,λo aG=>a.rd.gZ o (by rw[eD]at aG;exact aG),λo al m w aG aX=> ?_⟩
  ·rcases YO bJ with bJ|rfl
   ·exact a.rd.wide al bJ
   ·rw[Y4];exact rP
  ·rw[bS bX,R.jF]
   rw[Z8]at aG
   by_cases BN:i=o
   ·subst BN
    simp only[ZE,jt]at aG
    cases aG
    rw[Z8]at aX
    by_cases Qi:W=m
    ·subst Qi
     simp only[ZE,rP,bB]at aX
     rw[Zp rfl];exact aX
    ·rw[Zg Qi]at aX
     rw[Zg Zo]
     have:=a.rd.cell i r m w aE aX
     rw[bS aj]at this;exact this
   ·rw[Zg BN]at aG
    have vu:=a.rd.wide al (Zl aG)
    have anT:=(Zb.1 aX).1
    have w5:=(Zb.1 aG).1
    rw[Zg (λB=>BN ?_)]
    ·have:=a.rd.cell o al m w aG aX
     rw[bS aj]at this;exact this
    ·have l0:m<aO:=Zo
     have bA:(o*aO+m)/aO=o:=by rw[zo,Y9 _ _ Zo,Nat.div_eq_of_lt l0,ZQ]
     have cg:(i*aO+W)/aO=i:=by rw[zo,Y9 _ _ Zo,Nat.div_eq_of_lt bB,ZQ]
     rw[<-bA, <-cg,B]
 have uh:∀S,og C h b (i*aO+W) [v]=some S->fc C h 1 (.ptr b (i*aO+W)) v=some S:=λS a=>by
  simp only[fc,bt];exact a
 have qb:iI [v]=true:=by simp[iI,I]
 rcases cK with rfl|⟨eb,rfl,amE,nN⟩
 ·refine⟨bn C h b (some (.cells (c.set (i*aO+W) (some v)) n .own)),uh _ ?_,⟨m6 _ _ _ (bv a2),λ_=>⟨a2,_,_,_,bv a2,by rw[eD];exact aL, .inl rfl⟩⟩,λe F=>aK a2 (λB=>F (B▸BD))⟩
  have bA:Nat.ble (i*aO+W+1) n=true:=jV yO
  have cg:iB C b=true:=by simp[iB,jV a2]
  simp[og,aj,bA,cg,qb,eU,pM,gB]
 ·have oA:∀e,Z C (bn C (k4 C eb h) b (some (.cells (c.set (i*aO+W) (some v)) n (.grow [])))) e=if e=b then some (.cells (c.set (i*aO+W) (some v)) n (.grow []))else Z C (k4 C eb h) e:=λe=>fq _ a2 e
  refine⟨bn C (k4 C eb h) b (some (.cells (c.set (i*aO+W) (some v)) n (.grow []))),uh _ ?_,⟨m6 _ _ _ (by rw[oA,Zp rfl]),λ_=>⟨a2,_,_,_,by rw[oA,Zp rfl],by rw[eD];exact aL, .inr ⟨[],rfl,Zs,Zs⟩⟩⟩,λe F=> ?_⟩
  ·have bA:Nat.ble (i*aO+W+1) n=true:=jV yO
   have cg:iB C b=true:=by simp[iB,jV a2]
   simp[og,aj,bA,cg,qb,eU,pM,gB]
  ·rw[oA,Zg (show ¬e=b from λB=>F (B▸BD)),abB _ _ _ (λx af=>(nN x af).2) (λaf=>F (nN e af).1)]
end
end
noncomputable section
structure iw(G:Prop):Prop where
 V:G
def Pc{bR A:Prop}(f:bR)(a:bR->A:=by intro f;(simp(disch:=omega) only[CW,vU,CX,A7,yd,A8,CN,CM,Co,xp,wC,Ae,Cg,qQ,vB,Ag,Cj,Ck,Cl,Ci,Di,Dk,Dl,Dm,Dn,Do,Dp,Dj,xQ,Dh,lO,z.cells,Dt,Ds,Dr,CC,B8,B7,y5,B6,B5,B9,C2,AI,Br,Bq,ye,Be,Bf,sY,vC,Ai,vD,fd,tE,tD,nk,zw,Ye,zx,Yg,Yj,zh,Z9,ZZ,ZG,ZY,Yp,Ya,Yh,YY,ZU,ZQ,ZS,ZE,ZD,reduceIte,Nat.reduceEqDiff,Nat.reduceAdd,Nat.reduceMul,Nat.reduceLT,Nat.reduceBEq,YD,Yl,Ys,Yt,fj,kE,Y5,Yu,YF,Nat.reduceLeDiff,Nat.reduceSub,it,f])):A:=a f
def ale{bR A:Prop}(f:bR)(a:bR->A:=by intro f;(simp(disch:=omega) only[CW,vU,CX,A7,yd,A8,CN,CM,Co,xp,wC,Ae,Cg,qQ,vB,Ag,Cj,Ck,Cl,Ci,Di,Dk,Dl,Dm,Dn,Do,Dp,Dj,xQ,Dh,lO,z.cells,Dt,Ds,Dr,CC,B8,B7,y5,B6,B5,B9,C2,AI,Br,Bq,ye,Be,Bf,sY,vC,Ai,vD,fd,tE,tD,nk,zw,Ye,zx,Yg,Yj,zh,Z9,ZZ,ZG,ZY,Yp,Ya,Yh,YY,ZU,ZQ,ZS,ZE,ZD,reduceIte,Nat.reduceEqDiff,Nat.reduceAdd,Nat.reduceMul,Nat.reduceLT,Nat.reduceBEq,YD,Yl,Ys,Yt,fj,kE,Y5,Yu,YF,Nat.reduceLeDiff,Nat.reduceSub,it,f]);rfl):A:=a f
def alf{bR A bd:Prop}(f:bR)(t:bd)(a:bR->bd->A:=by intro f t;(simp(disch:=omega) only[CW,vU,CX,A7,yd,A8,CN,CM,Co,xp,wC,Ae,Cg,qQ,vB,Ag,Cj,Ck,Cl,Ci,Di,Dk,Dl,Dm,Dn,Do,Dp,Dj,xQ,Dh,lO,z.cells,Dt,Ds,Dr,CC,B8,B7,y5,B6,B5,B9,C2,AI,Br,Bq,ye,Be,Bf,sY,vC,Ai,vD,fd,tE,tD,nk,zw,Ye,zx,Yg,Yj,zh,Z9,ZZ,ZG,ZY,Yp,Ya,Yh,YY,ZU,ZQ,ZS,ZE,ZD,reduceIte,Nat.reduceEqDiff,Nat.reduceAdd,Nat.reduceMul,Nat.reduceLT,Nat.reduceBEq,YD,Yl,Ys,Yt,fj,kE,Y5,Yu,YF,Nat.reduceLeDiff,Nat.reduceSub,it,f]);exact t):A:=a f t
def ak7{bR A bd:Prop}(f:bR)(o:iw bd)(a:bR->iw bd->A:=by intro f o;(simp(disch:=omega) only[CW,vU,CX,A7,yd,A8,CN,CM,Co,xp,wC,Ae,Cg,qQ,vB,Ag,Cj,Ck,Cl,Ci,Di,Dk,Dl,Dm,Dn,Do,Dp,Dj,xQ,Dh,lO,z.cells,Dt,Ds,Dr,CC,B8,B7,y5,B6,B5,B9,C2,AI,Br,Bq,ye,Be,Bf,sY,vC,Ai,vD,fd,tE,tD,nk,zw,Ye,zx,Yg,Yj,zh,Z9,ZZ,ZG,ZY,Yp,Ya,Yh,YY,ZU,ZQ,ZS,ZE,ZD,reduceIte,Nat.reduceEqDiff,Nat.reduceAdd,Nat.reduceMul,Nat.reduceLT,Nat.reduceBEq,YD,Yl,Ys,Yt,fj,kE,Y5,Yu,YF,Nat.reduceLeDiff,Nat.reduceSub,it,f]);exact o.V):A:=a f o
def cr{bR A bd:Prop}(f:bR)(o:iw bd)(a:bR->iw bd->A:=by intro f o;(repeat(with_reducible first|refine gQ ?_ |refine s8 ?_ |refine s7 ?_ |refine tr ?_ |refine N4 ?_ |refine Kb ?_ |refine RT ?_ |refine RS ?_ |refine Rk ?_ |refine Rm ?_ |refine Rj ?_ |refine Rl ?_ |refine RF ?_ |refine Oe ?_ |refine RR ?_ |refine RQ ?_ |refine Ek ?_ |refine Ej ?_ |refine Ei ?_ |refine Eh ?_ |refine Pv ?_ |refine uQ ?_ |refine uP ?_ |refine Rf ?_ |refine Sl ?_ |refine Sm ?_ |(refine gm (j8 (by(first|assumption|(simp(disch:=omega) only[bv,aK,f]<;>rfl)|(simp(disch:=omega) only[bv,aK,f]))) Zo rfl Zd Zd rfl) ?_)|((conv=>whnf;arg 1;simp(disch:=omega) only[CW,vU,CX,A7,yd,A8,CN,CM,Co,xp,wC,Ae,Cg,qQ,vB,Ag,Cj,Ck,Cl,Ci,Di,Dk,Dl,Dm,Dn,Do,Dp,Dj,xQ,Dh,lO,z.cells,Dt,Ds,Dr,CC,B8,B7,y5,B6,B5,B9,C2,AI,Br,Bq,ye,Be,Bf,sY,vC,Ai,vD,fd,tE,tD,nk,zw,Ye,zx,Yg,Yj,zh,Z9,ZZ,ZG,ZY,Yp,Ya,Yh,YY,ZU,ZQ,ZS,ZE,ZD,reduceIte,Nat.reduceEqDiff,Nat.reduceAdd,Nat.reduceMul,Nat.reduceLT,Nat.reduceBEq,YD,Yl,Ys,Yt,fj,kE,Y5,Yu,YF,Nat.reduceLeDiff,Nat.reduceSub,it,f]);(first|refine s8 ?_ |refine s7 ?_ |refine uQ ?_ |refine uP ?_ |refine Ek ?_ |refine Ej ?_ |refine Ei ?_ |refine Eh ?_))|dsimp only));exact o.V):A:=a f o
def rs{bR A bd:Prop}(f:bR)(o:iw bd)(a:bR->iw bd->A:=by intro f o;(repeat(with_reducible first|refine s8 ?_ |refine s7 ?_ |refine tr ?_ |refine N4 ?_ |refine Kb ?_ |refine RT ?_ |refine RS ?_ |refine Rk ?_ |refine Rm ?_ |refine Rj ?_ |refine Rl ?_ |refine RF ?_ |refine Oe ?_ |refine RR ?_ |refine RQ ?_ |refine Ek ?_ |refine Ej ?_ |refine Ei ?_ |refine Eh ?_ |refine Pv ?_ |refine uQ ?_ |refine uP ?_ |refine Rf ?_ |refine Sl ?_ |refine Sm ?_ |(refine gm (j8 (by(first|assumption|(simp(disch:=omega) only[bv,aK,f]<;>rfl)|(simp(disch:=omega) only[bv,aK,f]))) Zo rfl Zd Zd rfl) ?_)|((conv=>whnf;arg 1;simp(disch:=omega) only[CW,vU,CX,A7,yd,A8,CN,CM,Co,xp,wC,Ae,Cg,qQ,vB,Ag,Cj,Ck,Cl,Ci,Di,Dk,Dl,Dm,Dn,Do,Dp,Dj,xQ,Dh,lO,z.cells,Dt,Ds,Dr,CC,B8,B7,y5,B6,B5,B9,C2,AI,Br,Bq,ye,Be,Bf,sY,vC,Ai,vD,fd,tE,tD,nk,zw,Ye,zx,Yg,Yj,zh,Z9,ZZ,ZG,ZY,Yp,Ya,Yh,YY,ZU,ZQ,ZS,ZE,ZD,reduceIte,Nat.reduceEqDiff,Nat.reduceAdd,Nat.reduceMul,Nat.reduceLT,Nat.reduceBEq,YD,Yl,Ys,Yt,fj,kE,Y5,Yu,YF,Nat.reduceLeDiff,Nat.reduceSub,it,f]);(first|refine s8 ?_ |refine s7 ?_ |refine uQ ?_ |refine uP ?_ |refine Ek ?_ |refine Ej ?_ |refine Ei ?_ |refine Eh ?_))|dsimp only));exact o.V):A:=a f o
def sz{bR A bd:Prop}(f:bR)(o:iw bd)(a:bR->iw bd->A:=by intro f o;(with_reducible first|refine gQ ?_ |refine s8 ?_ |refine s7 ?_ |refine tr ?_ |refine N4 ?_ |refine Kb ?_ |refine RT ?_ |refine RS ?_ |refine Rk ?_ |refine Rm ?_ |refine Rj ?_ |refine Rl ?_ |refine RF ?_ |refine Oe ?_ |refine RR ?_ |refine RQ ?_ |refine Ek ?_ |refine Ej ?_ |refine Ei ?_ |refine Eh ?_ |refine Pv ?_ |refine uQ ?_ |refine uP ?_ |refine Rf ?_ |refine Sl ?_ |refine Sm ?_ |(refine gm (j8 (by(first|assumption|(simp(disch:=omega) only[bv,aK,f]<;>rfl)|(simp(disch:=omega) only[bv,aK,f]))) Zo rfl Zd Zd rfl) ?_)|((conv=>whnf;arg 1;simp(disch:=omega) only[CW,vU,CX,A7,yd,A8,CN,CM,Co,xp,wC,Ae,Cg,qQ,vB,Ag,Cj,Ck,Cl,Ci,Di,Dk,Dl,Dm,Dn,Do,Dp,Dj,xQ,Dh,lO,z.cells,Dt,Ds,Dr,CC,B8,B7,y5,B6,B5,B9,C2,AI,Br,Bq,ye,Be,Bf,sY,vC,Ai,vD,fd,tE,tD,nk,zw,Ye,zx,Yg,Yj,zh,Z9,ZZ,ZG,ZY,Yp,Ya,Yh,YY,ZU,ZQ,ZS,ZE,ZD,reduceIte,Nat.reduceEqDiff,Nat.reduceAdd,Nat.reduceMul,Nat.reduceLT,Nat.reduceBEq,YD,Yl,Ys,Yt,fj,kE,Y5,Yu,YF,Nat.reduceLeDiff,Nat.reduceSub,it,f]);(first|refine s8 ?_ |refine s7 ?_ |refine uQ ?_ |refine uP ?_ |refine Ek ?_ |refine Ej ?_ |refine Ei ?_ |refine Eh ?_))|dsimp only);exact o.V):A:=a f o
def bC{A:Prop}(a:A:=by exact Pc trivial):A:=a
def gC{A:Prop}(a:A:=by exact ale trivial):A:=a
def aY{A bd:Prop}(t:bd)(a:bd->A:=by intro t;exact alf trivial t):A:=a t
def yw{A bd:Prop}(o:iw bd)(a:iw bd->A:=by intro o;refine ak7 trivial ⟨?_⟩;exact o.V):A:=a o
def cV{A bd:Prop}(o:iw bd)(a:iw bd->A:=by intro o;refine cr trivial ⟨?_⟩;exact o.V):A:=a o
def u1{A bd:Prop}(o:iw bd)(a:iw bd->A:=by intro o;refine rs trivial ⟨?_⟩;exact o.V):A:=a o
def hy{A bd:Prop}(o:iw bd)(a:iw bd->A:=by intro o;refine sz trivial ⟨?_⟩;exact o.V):A:=a o
def dL{A:Prop}(a:A:=by exact⟨Zo,λb aj=>zE⟩):A:=a
def dk{A bd lb kw:Prop}(bz:lb)(ez:kw)(o:iw bd)(a:lb->kw->iw bd->A:=by intro bz ez o;refine cr (Za @bz @ez) ⟨?_⟩;exact o.V):A:=a @bz @ez o
def eW{A bd lb kw n8:Prop}(bz:lb)(ez:kw)(e5:n8)(o:iw bd)(a:lb->kw->n8->iw bd->A:=by intro bz ez e5 o;refine cr (Za @bz (Za @ez @e5)) ⟨?_⟩;exact o.V):A:=a @bz @ez @e5 o
def hT{A bd lb kw n8 tm:Prop}(bz:lb)(ez:kw)(e5:n8)(f3:tm)(o:iw bd)(a:lb->kw->n8->tm->iw bd->A:=by intro bz ez e5 f3 o;refine cr (Za @bz (Za @ez (Za @e5 @f3))) ⟨?_⟩;exact o.V):A:=a @bz @ez @e5 @f3 o
def gV{A bd lb kw n8 tm xZ:Prop}(bz:lb)(ez:kw)(e5:n8)(f3:tm)(om:xZ)(o:iw bd)(a:lb->kw->n8->tm->xZ->iw bd->A:=by intro bz ez e5 f3 om o;refine cr (Za @bz (Za @ez (Za @e5 (Za @f3 @om)))) ⟨?_⟩;exact o.V):A:=a @bz @ez @e5 @f3 @om o
def ln{A bd lb kw n8 tm xZ Gg:Prop}(bz:lb)(ez:kw)(e5:n8)(f3:tm)(om:xZ)(wF:Gg)(o:iw bd)(a:lb->kw->n8->tm->xZ->Gg->iw bd->A:=by intro bz ez e5 f3 om wF o;refine cr (Za @bz (Za @ez (Za @e5 (Za @f3 (Za @om @wF))))) ⟨?_⟩;exact o.V):A:=a @bz @ez @e5 @f3 @om @wF o
def eQ{A bd lb kw n8 tm xZ Gg To:Prop}(bz:lb)(ez:kw)(e5:n8)(f3:tm)(om:xZ)(wF:Gg)(OV:To)(o:iw bd)(a:lb->kw->n8->tm->xZ->Gg->To->iw bd->A:=by intro bz ez e5 f3 om wF OV o;refine cr (Za @bz (Za @ez (Za @e5 (Za @f3 (Za @om (Za @wF @OV)))))) ⟨?_⟩;exact o.V):A:=a @bz @ez @e5 @f3 @om @wF @OV o
def G9{A bd lb kw:Prop}(bz:lb)(ez:kw)(o:iw bd)(a:lb->kw->iw bd->A:=by intro bz ez o;refine rs (Za @bz @ez) ⟨?_⟩;exact o.V):A:=a @bz @ez o
def gO{A bd lb kw n8:Prop}(bz:lb)(ez:kw)(e5:n8)(o:iw bd)(a:lb->kw->n8->iw bd->A:=by intro bz ez e5 o;refine rs (Za @bz (Za @ez @e5)) ⟨?_⟩;exact o.V):A:=a @bz @ez @e5 o
def a7.Zm{C:aM}{f:Nat}{wp:List z}{h:R ag}{j:Nat}{ai j9 aw:bN}(a:a7 C f wp h j ai zK)(o:∀aa S aQ,ai aa S aQ->j9 aa S aQ):a7 C f wp h j j9 aw:=a.mono o (λ_ _ _ a=>a.elim)
end
noncomputable section
open Go.RowKit (Below)
def MD(jE:List Nat)(V:Nat->List z->Option z)(k:List (Nat×List z×z))(f:Nat)(args:List z):Option z:=bK (r0 f jE) (qk V k f args) (V f args)
section
variable{P:Program}{w:World}
def Env.aqm{nm:List (String×Nat)}(jv:x3 P nm){laid:List (String×DataW Unit)}{jE:List Nat}{V:Nat->List z->Option z}{k:List (Nat×List z×z)}(a:laidMet P laid w){dx:cQ}{dE:Nat->Prop}
 (cA:Env ⟨P,mH (gF P nm laid P.globals.size).2 .nil,(gF P nm laid P.globals.size).1,V,P.globals.size⟩ w dx dE)(aZ:Jq k=true)
 (kK:∀x∈k,∃m,xE ⟨P,mH (gF P nm laid P.globals.size).2 .nil,(gF P nm laid P.globals.size).1,V,P.globals.size⟩ m x.1 x.2.1=some x.2.2):
 ∃J Y,Env ⟨P,mH (gF P nm laid P.globals.size).2 .nil,(gF P nm laid P.globals.size).1,MD jE V k,P.globals.size⟩ w J Y:=by
 obtain⟨J,Y,ak,aA⟩:=RA (gS:=MD jE V k) jv a
 have m1:=acy cA aZ kK
 refine⟨J,Y,cA.jM,⟨λf args v bb=> ?_,λf args v bb J pJ m3=> ?_⟩,ak,aA⟩
 ·have bb:bK (r0 f jE) (qk V k f args) (V f args)=some v:=bb
  rw[eU]at bb
  split at bb
  ·exact m1.val f args v bb
  ·exact cA.gS.val f args v bb
 ·have bb:bK (r0 f jE) (qk V k f args) (V f args)=some v:=bb
  rw[eU]at bb
  split at bb
  ·exact m1.ok f args v bb J pJ m3
  ·exact cA.gS.ok f args v bb J pJ m3
end
end
end Go.bp

