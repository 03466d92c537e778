/- Part of the proof of the last text; no conditions -/
import Derived.Test.YtmipngjbcdamjaaGreatDoorYd
import Derived.RangeFuncRecord
import Derived.Orders
import Derived.ChangeReads
import GoSem.ClaimJoined
set_option maxHeartbeats 8000000
set_option linter.all false
namespace Go.S
open Go.RowKit (Below)
section
variable{C:aC}{A bF bY:bE}{F bu b8:Nat->Prop}{h E:I ae}{j ar aB:Nat}{w aM:World}{n ac:Nat}{ad:Array Oper}
variable{aI:World}{aQ:Nat}{aX:List Frame}{v:y}{V:dK}
variable{fn:Nat}{aA:List dM}{ao:Bool}{ro:Option Nat}{cs:List dq}{B:I y}{tmps:Array Value}{aG:List Item}{U:List Frame}{aF ak:Nat}
structure eg(C:aC)(aI:World)(aQ:Nat)(aX:List Frame)(fn ac:Nat)(aA:List dM)(ao:Bool)(ro:Option Nat)(cs:List dq)(h:I ae)(j:Nat)(A:bE)(F:Nat->Prop)(w:World)(bv:Nat)(U:List Frame):Prop where
 M:bD C A F h j aI.heap.size w
 fc:Below aI.heap.size aI w
 dS:is C A F
 eJ:bv<=j
 dR:jP C F fn ac aA ro
 bot:cs=[]->fn=aQ/\ao=false/\ro=none
 cs:gR C A F h aQ aX bv cs U
def eg.cv{bv:Nat}(e:eg C aI aQ aX fn ac aA ao ro cs h j A F w bv U):aI.heap.size<=w.heap.size:=e.fc.size
def eg.ext{bv:Nat}(e:eg C aI aQ aX fn ac aA ao ro cs h j A F w bv U)(M:bD C bF bu E ar aI.heap.size aM)(a:dW C bv A F h aI.heap.size w bF bu E aM)(b:j<=ar):
 eg C aI aQ aX fn ac aA ao ro cs E ar bF bu aM bv U:=
 ⟨M,e.fc.trans a.below,e.dS.T a.dZ a.ej,ZD e.eJ b,e.dR.T a.ej,e.bot,e.cs.T a⟩
def eg.state{bv:Nat}{todo:List bV}(e:eg C aI aQ aX fn ac aA ao ro cs h j A F w bv U)(a:m5 C A F h bv j n ac B tmps todo aG):
 m4 C aI aQ aX .run todo fn n ac aA ao ro cs B h j A F w bv tmps aG U:=⟨e.M,e.fc,e.dS,e.eJ,e.dR,trivial,e.bot,e.cs,a⟩
def m4.Eh{todo:List bV}{bv:Nat}(e:m4 C aI aQ aX .run todo fn n ac aA ao ro cs B h j A F w bv tmps aG U):eg C aI aQ aX fn ac aA ao ro cs h j A F w bv U/\m5 C A F h bv j n ac B tmps todo aG:=
 ⟨⟨e.M,e.fc,e.dS,e.eJ,e.dR,e.bot,e.cs⟩,e.todo⟩
def gR.inv{bv aj:Nat}{todo:List bV}{aV:fa}(e:gR C A F h aQ aX bv (⟨fn,aj,ac,B,todo,aA,aV,ao,ro⟩::cs) U):
 ∃aF tmps aG a,U=bg A fn aA ao ro tmps aG (dh A aV)::a/\l1 C A F h aF bv aj ac B tmps aV todo aG/\hN F aV/\jP C F fn ac aA ro/\(cs=[]->fn=aQ/\ao=false/\ro=none)/\aF<=bv/\gR C A F h aQ aX aF cs a:=by
 cases e with
 |cons b i c d f g=>exact⟨_,_,_,_,rfl,b,i,c,d,f,g⟩
def xD(G:gg C aI aQ aX V){f:Nat}{args:List y}{bv:Nat}{ni:Bool}{b:List dq}{d:List Frame}(M:bD C A F h j aI.heap.size w)(ab:Below aI.heap.size aI w)(dS:is C A F)(au:bv<=j)
 (x:gR C A F h aQ aX bv b d)(i:b=[]->f=aQ/\ni=false)(n:cd F args)(e:hl V C f args ni b h j=some v):Ends C aI aQ aX v (lone (Frame.enter C.P f (aU A args).toArray (if ni then .deferred else .normal)) d w):=by
 unfold hl at e
 split at e
 ·rename_i func m
  split at e
  ·rename_i c s
   simp only[fZ,cg,Zq]at e
   obtain⟨⟨⟨g,p⟩,r⟩,e⟩:=e
   have g:=et g
   have z:Frame.enter C.P f (aU A args).toArray (if ni then .deferred else .normal)=bg A f [] ni none ((aU A args).toArray++Array.replicate (func.ntmps-args.length) Go.undef) [.code c] (dh A .run):=by
    simp[Frame.enter,bg,dh,m,s,eH]
   rw[z]
   refine G _ _ _ _ _ _ _ _ _ _ _ _ v e A F w bv _ _ d ?_
   refine⟨M,ab,dS,au,⟨Zs,Zs,func,m,r⟩,trivial,λl=>⟨(i l).1,(i l).2,rfl⟩,x, .plain (.cons (.code p) .nil) ⟨?_, ?_⟩⟩
   ·simp[eH];omega
   ·intro t N _ a
    rw[fG]at a
    have O:t<args.length:=(Zf.1 a).1
    refine⟨?_,mm n a⟩
    rw[Ys (by simpa[eH]using O)]
    simp[md,a]
  ·simp at e
 ·simp at e
def rm(i:gg C aI aQ aX V){f:Nat}{args:List y}{bv:Nat}{a:List dq}{b:List Frame}(M:bD C A F h j aI.heap.size w)(ab:Below aI.heap.size aI w)(dS:is C A F)(au:bv<=j)
 (g:gR C A F h aQ aX bv a b)(d:a=[]->f=aQ)(c:cd F args)(e:hl V C f args false a h j=some v):Ends C aI aQ aX v (lone (Frame.enter C.P f (aU A args).toArray .normal) b w):=
 xD (ni:=false) i M ab dS au g (λl=>⟨d l,rfl⟩) c e
def oG(r:gg C aI aQ aX V){a:bV}{o:List bV}{N:y}(m:eg C aI aQ aX fn ac aA ao ro cs h j A F w aF U)(s:fV C A F h aF ak n ac B tmps (a::o) aG)(p:ak<=j)(i:bd F N)
 (e:(match g1 a N with|some b=>V .run (b::o) ⟨fn,n,ac,aA,ao,ro,cs⟩ B h j|none=>none)=some v):
 Ends C aI aQ aX v (lone ((bg A fn aA ao ro tmps aG .run).finish (ai A N)) U w):=by
 obtain⟨x,z,b,t,c3,c,d,f,g⟩:=FR (fn:=fn) (aA:=aA) (ao:=ao) (ro:=ro) (mode:= .run) s p i
 cases c
 rw[d]at e
 rw[f]
 exact r _ _ _ _ _ _ _ _ _ _ _ _ v e A F w aF t c3 U (m.state g)
def Hd{f:Nat}{args:List y}{N:y}(c:Env C aI bY b8)(ab:Below aI.heap.size aI w)(g:C.dy f args=some N):
 (
  (∀a,(callFunc f (aU a args).toArray).run C.P w= .ok (.value (ai a N)) w)\/
  ((∀a,(callFunc f (aU a args).toArray).run C.P w= .ok (.enter f (aU a args).toArray) w)/\∀a,Calls C.P f (aU a args).toArray w λl aM=>l= .returned (ai a N)/\Below w.heap.size w aM))/\∀bm,bd bm N:=by
 obtain⟨⟨d,i⟩,b,p⟩:=c.dy.val f args N g
 refine⟨?_,i⟩
 rcases c.dy.ok f args N g bY w ab with e|⟨m,n⟩
 ·left;intro a;rw[b a bY,d a bY];exact e
 ·right;exact⟨λa=>by rw[b a bY];exact m,λa=>by rw[b a bY,d a bY];exact n⟩
mutual
def su:∀(d:Nat) (x c:y),y.same d x c=true->x=c
 |0,_,_,e=>by simp[y.same]at e
 |d+1,x,c,e=>by
  unfold y.same at e
  split at e<;>(try(cases e;done))
  ·simp at e;rw[e]
  ·simp at e;rw[e.1,e.2]
  ·rw[(qh _ _).1 e]
  ·simp only[Zq]at e;rw[Zh e.1,Zh e.2]
  ·rfl
  ·simp only[Zq]at e;rw[Zh e.1.1.1,Zh e.1.1.2,Zh e.1.2,Zh e.2]
  ·simp only[Zq]at e;rw[Zh e.1.1.1,Zh e.1.1.2,Zh e.1.2,Zh e.2]
  ·rfl
  ·rw[Zh e]
  ·rfl
  ·simp only[Zq,Zc]at e
   rw[e.1.1,qv d _ _ e.1.2,qv d _ _ e.2]
  ·rfl
  ·simp only[Zq]at e;rw[Zh e.1,su d _ _ e.2]
  ·rfl
  ·rw[qv d _ _ e]
  ·rw[qv d _ _ e]
def qv:∀(d:Nat) (x c:List y),jx (y.same d) x c=true->x=c
 |_,[],[],_=>rfl
 |_,[],_::_,e=>by simp[jx]at e
 |_,_::_,[],e=>by simp[jx]at e
 |d,a::x,b::c,e=>by
  simp only[jx,Zq]at e
  rw[su d _ _ e.1,qv d _ _ e.2]
end
def Ends.same{bM:Machine}{a:y}(f:∀A,ai A a=ai A v)(e:Ends C aI aQ aX a bM):Ends C aI aQ aX v bM:=by
 obtain⟨A,aM,fr,b,c,d⟩:=e
 exact⟨A,aM,fr,b,by rw[<-f];exact c,d⟩
def Gb{d:bV}{o:List bV}{aw:d1}:∀(k:List (y×I ae)) (v:y),k3 V d o aw B j k=some v->∀N E,(N,E)∈k->
 ∃c,(match g1 d N with|some f=>V .run (f::o) aw B E j|none=>none)=some c/\∀A,ai A c=ai A v:=by
 intro k
 induction k with
 |nil=>intro v e;simp[k3]at e
 |cons p k t=>
  intro v e N E b
  obtain⟨a,z⟩:=p
  cases k with
  |nil=>
   simp only[k3]at e
   simp at b
   obtain⟨rfl,rfl⟩:=b
   exact⟨v,e,λ_=>rfl⟩
  |cons L k=>
   simp only[k3]at e
   split at e
   ·rename_i f m
    split at e
    ·rename_i x w r s
     simp only[cg,Zu]at e
     obtain⟨n,rfl⟩:=e
     rcases Zz.1 b with l|b
     ·cases l
      exact⟨x,by rw[m];exact r,λ_=>rfl⟩
     ·obtain⟨c,g,i⟩:=t w s N E b
      exact⟨c,g,λA=>by rw[i A,su _ _ _ n]⟩
    ·simp at e
   ·simp at e
def Lg{N:y}{bJ:List dq}{bv:Nat}{aG:List Item}(s:gR C A F h aQ aX bv cs U)(e:mR ao cs=some (N,bJ)):
 ∃a,gR C A F h aQ aX bv bJ a/\bd F N/\(bJ=[]->cs=[])/\
  (Go.tryRecover (bg A fn aA ao none tmps aG .run) U=some (ai A N,a)\/(Go.tryRecover (bg A fn aA ao none tmps aG .run) U=none/\ai A N= .nilIface/\a=U)):=by
 unfold mR at e
 rw[cN]at e
 cases ao with
 |false=>
  simp at e
  obtain⟨rfl,rfl⟩:=e
  exact⟨U,s,trivial,id, .inr ⟨by simp[Go.tryRecover,bg],rfl,rfl⟩⟩
 |true=>
  simp only[ZP]at e
  cases cs with
  |nil=>simp at e
  |cons c rest=>
   obtain⟨g,aj,x,w,z,f,b,d,m⟩:=c
   obtain⟨T4,n,c3,a,rfl,bf,bo,X,Y,Z,T0⟩:=s.inv
   have same:(N,bJ)=(y.nilIface,(⟨g,aj,x,w,z,f,b,d,m⟩:dq)::rest)->(∀v i,dh A b≠ .panicking (⟨v,false,false⟩::i))->
    ∃r,gR C A F h aQ aX bv bJ r/\bd F N/\(bJ=[]->(⟨g,aj,x,w,z,f,b,d,m⟩:dq)::rest=[])/\
     (Go.tryRecover (bg A fn aA true none tmps aG .run) (bg A g f d m n c3 (dh A b)::a)=some (ai A N,r)\/
      (Go.tryRecover (bg A fn aA true none tmps aG .run) (bg A g f d m n c3 (dh A b)::a)=none/\ai A N= .nilIface/\r=bg A g f d m n c3 (dh A b)::a)):=by
    intro l T3
    simp only[Y5]at l
    obtain⟨rfl,rfl⟩:=l
    refine⟨_,s,trivial,λl=>(by cases l), .inr ⟨?_,rfl,rfl⟩⟩
    simp only[Go.tryRecover,bg,ZP]
   simp only at e
   split at e
   ·rename_i v i
    simp only[Zu,Y5]at e
    obtain⟨rfl,rfl⟩:=e
    have O:hN F (.panicking (⟨v,true⟩::i)):=by
     intro p t
     rcases Zz.1 t with rfl|t
     ·exact bo ⟨v,false⟩ (Zl ..)
     ·exact bo p (Zi _ t)
    refine⟨bg A g f d m n c3 (dh A (.panicking (⟨v,true⟩::i)))::a, .cons (aV:= .panicking (⟨v,true⟩::i)) bf O X Y Z T0,bo ⟨v,false⟩ (Zl ..),λl=>(by cases l), .inl ?_⟩
    simp[Go.tryRecover,bg,dh,iQ]
   ·rename_i P
    simp only[Zu]at e
    refine same e.symm λv i l=> ?_
    cases b with
    |run=>cases l
    |returning=>cases l
    |panicking G=>
     cases G with
     |nil=>cases l
     |cons p bH=>
      obtain⟨T2,T1⟩:=p
      cases T1 with
      |true=>simp[dh,iQ]at l
      |false=>exact P T2 bH rfl
def Kf{aj:Nat}:∀(bH:List Nat) (b:List y) (B c:I y) (tmps:Array Value),es A F aj ac B tmps->cd F b->kq aj bH b B=some c->
 bH.length=b.length/\es A F aj ac c ((bH.zip (aU A b)).foldl (λtmps p=>tmps.setIfInBounds p.1 p.2) tmps):=by
 intro bH
 induction bH with
 |nil=>
  intro b B c tmps d _ e
  cases b with
  |nil=>simp[kq]at e;subst e;exact⟨rfl,by simpa[aU]using d⟩
  |cons a b=>simp[kq]at e
 |cons p bH s=>
  intro b B c tmps d n e
  cases b with
  |nil=>simp[kq]at e
  |cons a b=>
   simp only[kq,cg]at e
   obtain⟨m,e⟩:=e
   have m:=e0 m
   have r:es A F aj ac (B.set p (some a)) (tmps.setIfInBounds p (ai A a)):=by
    refine⟨by simp[d.size],λt N au f=> ?_⟩
    rw[I.gn]at f
    by_cases l:p=t
    ·subst l
     simp at f;subst f
     exact⟨by simp[d.size,m],n.1⟩
    ·simp[l]at f
     obtain⟨g,i⟩:=d.val t N au f
     exact⟨by rw[Array.getElem?_setIfInBounds_ne l];exact g,i⟩
   obtain⟨g,i⟩:=s b _ c _ r n.2 e
   exact⟨by simp[g],by simpa[aU]using i⟩
def wY(U8:Env C aI bY b8)(z:gg C aI aQ aX V){T4:bV}{o:List bV}{i:Nat}{k:List Nat}{D:Oper}{r:b1}(c:eg C aI aQ aX fn ac aA ao ro cs h j A F w aF U)
 (O:fV C A F h aF ak n ac B tmps (T4::o) (.inRegion ad (i::k)::aG))(Y:aF<=ak)(x:ak<=j)(G:ad[i]? =some D)(P:Region.wanted D (yielded ad tmps)=true)
 (s:dP C A F h j aI.heap.size w (execOp (e9 tmps) D) r)(e:gC r V C T4 o ⟨fn,n,ac,aA,ao,ro,cs⟩ B h j=some v):
 Ends C aI aQ aX v (lone (bg A fn aA ao ro tmps (.inRegion ad (i::k)::aG) .run) U w):=by
 have UG:aF<=j:=ZD Y x
 have done:∀v N E ar,lV C A F h j aI.heap.size w (execOp (e9 tmps) D) N E ar->(match g1 T4 N with|some UM=>V .run (UM::o) ⟨fn,n,ac,aA,ao,ro,cs⟩ B E ar|none=>none)=some v->
  Ends C aI aQ aX v (lone (bg A fn aA ao ro tmps (.inRegion ad (i::k)::aG) .run) U w):=by
  intro v N E ar X e
  obtain⟨bF,bu,aM,gv,U4,U5,U6,U7,Z,T6⟩:=X
  have UL:gv= .value (ai bF N)\/(gv= .skip/\ai bF N=Go.undef):=U5.imp id λ⟨a,b⟩=>⟨a,by rw[b];rfl⟩
  refine .head (n0 G P U4 UL) ?_
  rw[<-oU Z.dZ c.dR]
  exact oG z (c.ext U7 (Z.mono UG) T6) (O.T (Z.mono x)) (ZD x T6) U6 e
 cases r with
 |val N=>exact done v N h j s e
 |cy N E ar=>exact done v N E ar s e
 |enter f args=>
  obtain⟨m,g⟩:=s
  refine .head (AN G P m) ?_
  simp only[gC]at e
  refine rm z c.M c.fc c.dS x ?_ (λl=>by simp[n1]at l) g e
  exact .cons (aV:= .run) O trivial c.dR c.bot Y c.cs
 |known f args N=>
  obtain⟨m,g,T2⟩:=s
  obtain⟨T3,T8⟩:=Hd U8 c.fc m
  simp only[gC]at e
  rcases T3 with T3|⟨UD,UE⟩
  ·rw[T3 A]at g
   refine .head (n0 G P g (.inl rfl)) ?_
   exact oG z c O x (T8 F) e
  ·rw[UD A]at g
   refine .head (AN G P g) ?_
   obtain⟨l,aM,fr,⟨rfl,T9⟩,UK,_,UF⟩:=UE A (bg A fn aA ao ro tmps (.inRegion ad (i::k)::aG) .run::U)
   refine .steps UK (.head (step_leave_returned UF) ?_)
   have U0:dW C ak A F h aI.heap.size w A F h aM:=⟨λ_ _=>rfl,λ_ e=>e,λ_ e=> .inl e,λ_ _ _=>rfl,T9.mono c.cv⟩
   exact oG z (c.ext (c.M.later T9) (U0.mono Y) (Zp _)) (O.T U0) x (T8 F) e
 |round b args=>
  obtain⟨m,g,T2⟩:=s
  simp only[gC]at e
  split at e
  ·rename_i st UZ T7 aj UW U1 params assign body UU UI
   split at e
   ·rename_i U2 UB
    obtain⟨T5,eP,lr,UX,UO,UP,UY,UQ⟩:=c.M.obj b _ UI T2
    obtain⟨UR,US⟩:=Kf params args U1 U2 T5 lr g UB
    rw[run_yield eP (by simp[eH,UR])]at m
    refine .head (KP G P m) ?_
    have TY:Frame.round (A b).bc T7 (((params.toArray).zip (aU A args).toArray).foldl (λtmps (t,a)=>tmps.setIfInBounds t a) T5) assign body .normal=
     bg A T7 [] false (some b) ((params.zip (aU A args)).foldl (λtmps p=>tmps.setIfInBounds p.1 p.2) T5) [.code assign, .beginRound, .code body] (dh A .run):=by
     simp[Frame.round,bg,dh]
    simp only at TY ⊢
    rw[TY]
    refine z _ _ _ _ _ _ _ _ _ _ _ _ v e A F w ak _ _ _ ?_
    refine⟨c.M,c.fc,c.dS,x,⟨Zs,λk au=>(by cases au;exact T2),UQ⟩,trivial,λl=>by simp[n1]at l, .cons (aV:= .run) O trivial c.dR c.bot Y c.cs, ?_⟩
    exact .plain (.cons (.code UO) (.cons .begin (.cons (.code UP) .nil))) US
   ·simp at e
  ·simp at e
 |defer d=>
  obtain⟨m,g⟩:=s
  simp only[gC]at e
  cases ro with
  |some b=>simp at e
  |none=>
   simp only at e
   refine .head (KB G P m) ?_
   have UC:jP C F fn ac (d::aA) none:=⟨λU3 X=>by
    rcases Zz.1 X with rfl|X
    ·exact g
    ·exact c.dR.aA U3 X,c.dR.ro,c.dR.fn⟩
   exact oG (N:=undef) z ⟨c.M,c.fc,c.dS,c.eJ,UC,c.bot,c.cs⟩ O x trivial e
 |recover=>
  simp only[gC]at e
  cases ro with
  |some b=>simp at e
  |none=>
   simp only at e
   split at e
   ·rename_i N bJ UJ
    obtain⟨UV,T0,T1,U9,UA⟩:=Lg (fn:=fn) (aA:=aA) (tmps:=tmps) (aG:= .inRegion ad (i::k)::aG) c.cs UJ
    refine .head (KL G P s UA) ?_
    exact oG (N:=N) z ⟨c.M,c.fc,c.dS,c.eJ,c.dR,λl=>c.bot (U9 l),T0⟩ O x T1 e
   ·simp at e
 |panic N=>
  obtain⟨m,g⟩:=s
  simp only[gC]at e
  cases ro with
  |some b=>simp at e
  |none=>
   simp only at e
   refine .head (KK G P m) ?_
   refine z _ _ _ _ _ _ _ _ _ _ _ _ v e A F w aF tmps _ U ?_
   exact⟨c.M,c.fc,c.dS,c.eJ,c.dR,λp TZ=>by simp at TZ;subst TZ;exact g,c.bot,c.cs,O.drop⟩
 |fork UN=>
  obtain⟨N,E,UH,X⟩:=s
  simp only[gC]at e
  obtain⟨UT,T0,T1⟩:=Gb UN v e N E UH
  exact .same T1 (done UT N E j X T0)
def yG{D:Op}{c:Operand->Option y}{b:Nat}{N:y}{bN:ae}{bm:Nat->Prop}(e:hH D C c b=some (N,bN)):jg C bm bN:=by
 have key:∀k:List y,jg C bm (.cells (I.ofList k 0 .nil) k.length .own):=λk=>⟨λ_ _ _ e=>(by cases e),λ_ _ _ e=>(by cases e;exact oV)⟩
 have a:jg C bm (.map [] 0):=⟨λ_ _ _ e=>(by cases e),λ_ _ _ e=>(by cases e)⟩
 cases D<;>simp only[hH]at e<;>(try(cases e;done))
 case alloc t=>unfold nB at e;split at e<;>simp at e;rw[<-e.2];exact key _
 case box t x=>unfold p7 at e;split at e<;>simp at e;rw[<-e.2];exact key _
 case buildSlice t len parts=>
  unfold p8 at e
  split at e
  ·split at e
   ·simp only[cg]at e
    obtain⟨_,e⟩:=e
    split at e<;>simp at e
    rw[<-e.2];exact key _
   ·simp at e
  ·simp at e
 case makeMap t r=>cases r<;>simp at e;rw[<-e.2];exact a
def Fb{i:Nat}(ak:ad.toList.drop i=[]):ad.size<=i:=by simpa using ak
def FV{ac:Nat}{aa:List (Nat×y)}:∀(k:List Oper) (i:Nat) (wr:List (Nat×Nat)) (b B a:I y),(∀t,cF ac t=true->B.get t=match cf wr t with|some H=>cf aa H|none=>b.get t)->
 k0 aa (ff ac k i) B=some a->∀t,cF ac t=true->a.get t=match cf (jL k i wr) t with|some H=>cf aa H|none=>b.get t:=by
 intro k
 induction k with
 |nil=>intro i wr b B a f e;simp[ff,k0]at e;subst e;exact f
 |cons D k V=>
  intro i wr b B a f e
  simp only[ff]at e
  simp only[jL]
  split at e
  ·rename_i d g
   rw[cN]at e
   split at e
   ·rename_i ab
    simp only[k0]at e
    split at e
    ·rename_i N m
     simp only[dF]at e
     refine V (i+1) _ b _ a (λt c=> ?_) e
     rw[I.gn,oi,g]
     by_cases l:d=t
     ·subst l;simp[m]
     ·simp[l];exact f t c
    ·simp at e
   ·rename_i ab
    refine V (i+1) _ b _ a (λt c=> ?_) e
    rw[oi,g]
    have l:d≠t:=λl=>ab (by rw[l];exact c)
    simp[l];exact f t c
  ·rename_i g
   refine V (i+1) _ b _ a (λt c=> ?_) e
   rw[oi,g]
   simp;exact f t c
def xN{aa:List (Nat×y)}{B a:I y}(f:gV A F ac (λ_=>True) (d0 ad ad.size) aa B tmps)(c:tmps.size=n)(e:k0 aa (ff ac ad.toList 0) B=some a):es A F n ac a tmps:=by
 refine⟨c,λt N au d=> ?_⟩
 have:=FV (ac:=ac) (aa:=aa) ad.toList 0 [] B B a (λ_ _=>rfl) e t au
 rw[d]at this
 apply f t N trivial
 have l:d0 ad ad.size=jL ad.toList 0 []:=by unfold d0;rw[Zt Zs]
 rw[l]
 cases b:cf (jL ad.toList 0 []) t with
 |some H=>rw[b]at this;exact this.symm
 |none=>rw[b]at this;exact⟨au,this.symm⟩
def AD(T8:Env C aI bY b8)(TY:gg C aI aQ aX V){o:List bV}{fin:List (Nat×Nat)}:∀(rest:List cE) (aa:List (Nat×y)) (h:I ae) (j:Nat) (A:bE) (F:Nat->Prop) (w:World) (tmps:Array Value) (k:List Nat) (U:List Frame),
 eg C aI aQ aX fn ac aA ao ro cs h j A F w aF U->fx C A F ac o aG->sZ C A F n ac ad aa rest fin B tmps k->
 lA rest ⟨V,ad,fin,o,⟨fn,n,ac,aA,ao,ro,cs⟩⟩ C B aa h j=some v->Ends C aI aQ aX v (lone (bg A fn aA ao ro tmps (.inRegion ad k::aG) .run) U w):=by
 intro rest
 induction rest with
 |nil=>
  intro aa h j A F w tmps k U d z T6 e
  obtain⟨i,ak,rfl,t,rfl,m,P⟩:=T6
  have UP:ad.size<=i:=by
   cases s:ad.toList.drop i with
   |nil=>exact Fb s
   |cons D UJ=>
    rw[s]at t
    obtain⟨_,_,r,_,_,_,_,_,l⟩:=tf t
    cases l
  have:i=ad.size:=Zo
  subst this
  simp only[YV,List.range'_zero]
  have c:pA ⟨V,ad,ff ac ad.toList 0,o,⟨fn,n,ac,aA,ao,ro,cs⟩⟩ C B aa h j=some v:=e
  simp only[pA,rs,gN]at c
  split at c
  ·rename_i UN UB
   refine .head AP ?_
   exact TY _ _ _ _ _ _ _ _ _ _ _ _ v c A F w aF tmps aG U (d.state (.plain z (xN m P UB)))
  ·simp at c
 |cons x rest T1=>
  intro aa h j A F w tmps k U d z T6 e
  obtain⟨i,ak,rfl,t,rfl,m,P⟩:=T6
  cases s:ad.toList.drop i with
  |nil=>rw[s]at t;simp[ix]at t
  |cons D UJ=>
   rw[s]at t
   obtain⟨g,op,r,U0,Y,U1,U2,T2,l⟩:=tf t
   cases l
   obtain⟨f,U3,UO⟩:=tv s
   rw[<-qB f, <-U3]at T2
   have UD:List.range' i (ad.size-i)=i::List.range' (i+1) (ad.size-(i+1)):=by
    rw[show ad.size-i=(ad.size-(i+1))+1 by omega,List.range'_succ]
   rw[UD]
   have T9:=xx U1
   have T0:∀(bF:bE) (bu:Nat->Prop) (N:y),gV bF bu ac (λ_=>True) (d0 ad i) aa B tmps->bd bu N->sZ C bF bu n ac ad ((i,N)::aa) rest (ff ac ad.toList 0) B (hv tmps D.dst (ai bF N)) (List.range' (i+1) (ad.size-(i+1))):=by
    intro bF bu N UF UA
    exact⟨i+1,Zo,rfl,T2,rfl,UF.put f (by rw[P];exact T9) UA,by rw[sm];exact P⟩
   have Z:∀(bF:bE) (N:Value),(bg bF fn aA ao ro tmps (.inRegion ad (i::List.range' (i+1) (ad.size-(i+1)))::aG) .run).finish N=bg bF fn aA ao ro (hv tmps D.dst N) (.inRegion ad (List.range' (i+1) (ad.size-(i+1)))::aG) .run:=by
    intro bF N
    rw[ru (g:=bg bF fn aA ao ro tmps _ .run) rfl f];rfl
   have c:nM i g op rest (lA rest) ⟨V,ad,ff ac ad.toList 0,o,⟨fn,n,ac,aA,ao,ro,cs⟩⟩ C B aa h j=some v:=e
   simp only[nM,sD,gN]at c
   split at c
   ·rename_i wd UI
    have X:=sH ak U0 m (λ_ _ _ _ _=>trivial) (Sub.refl aa) UI
    cases wd with
    |false=>
     simp only[ZR,ZM]at c
     refine .head (u9 f X) ?_
     rw[Z]
     exact T1 _ _ _ _ _ _ _ _ _ d z (T0 A F undef m trivial) c
    |true=>
     simp only[ZP]at c
     have T4:ei A F (e9 tmps) (ek (d0 ad i) aa B) D.op.operands.toList:=xG m (λ_ _=>trivial) U2 d.dS
     rw[sb]at c
     cases iA:f1 op with
     |dV=>
      simp only[iA,gN]at c
      split at c
      ·rename_i N UE
       obtain⟨aH,aZ⟩:=yx d.M T4 Y UE
       refine .head (n0 f X aH (.inl rfl)) ?_
       rw[Z]
       exact T1 _ _ _ _ _ _ _ _ _ d z (T0 A F N m aZ) c
      ·simp at c
     |make=>
      simp only[iA,gN]at c
      split at c
      ·rename_i T7 G
       simp only[rY,fZ]at G
       split at G
       ·rename_i N bN TZ
        simp only[dF,Zu]at G
        subst G
        have T5:=ig d.M
        obtain⟨fv,UK,UL,UM⟩:=yF (w:=w) (A:=A) T5 T4 (rZ Y TZ)
        have p:dW C aF A F h aI.heap.size w (c2 A j ⟨w.heap.size,0,0⟩) (add F j) (aS C h j (some bN)) (w.alloc fv):=
         ⟨hZ T5,λ_ e=> .inl e,λx e=>e.elim .inl (λe=> .inr (zu d.eJ)),λx p UQ=>by rw[cw _ d.M.aP,Zj (zu d.eJ)],Below.alloc (Below.refl _ _) d.cv _⟩
        have UC:=d.M.alloc d.M.aP (Yo _) (Ye _) T5 d.cv rfl (E:=aS C h j (some bN)) (by rw[cw _ d.M.aP,Zv rfl]) (λx p=> .inl (by rw[cw _ d.M.aP,Zj p])) UM (yG (rZ Y TZ))
        refine .head (n0 f X UK (.inl rfl)) ?_
        rw[Z, <-oU p.dZ d.dR]
        exact T1 _ _ _ _ _ _ _ _ _ (d.ext UC p (Ye _)) (z.T p.dZ p.ej) (T0 _ _ N (m.T p.dZ p.ej) UL) c
       ·simp at G
      ·simp at c
     |cB=>
      simp only[iA,gN]at c
      split at c
      ·rename_i T7 G
       have T3:=x9 d.M d.cv T8.eQ T4 Y G
       have UH:fV C A F h aF j n ac B tmps (.iI ad aa i rest (ff ac ad.toList 0)::o) (.inRegion ad (i::List.range' (i+1) (ad.size-(i+1)))::aG):=
        .seq z ⟨D,f,T9,rfl,T2,rfl,m,P⟩
       have now:∀N E ar,lV C A F h j aI.heap.size w (execOp (e9 tmps) D) N E ar->lA rest ⟨V,ad,ff ac ad.toList 0,o,⟨fn,n,ac,aA,ao,ro,cs⟩⟩ C B ((i,N)::aa) E ar=some v->
        Ends C aI aQ aX v (lone (bg A fn aA ao ro tmps (.inRegion ad (i::List.range' (i+1) (ad.size-(i+1)))::aG) .run) U w):=by
        intro N E ar s e
        obtain⟨bF,bu,aM,gv,U4,U5,U6,U7,O,U8⟩:=s
        have UG:gv= .value (ai bF N)\/(gv= .skip/\ai bF N=Go.undef):=U5.imp id λ⟨a,b⟩=>⟨a,by rw[b];rfl⟩
        refine .head (n0 f X U4 UG) ?_
        rw[Z, <-oU O.dZ d.dR]
        exact T1 _ _ _ _ _ _ _ _ _ (d.ext U7 (O.mono d.eJ) U8) (z.T O.dZ O.ej) (T0 _ _ N (m.T O.dZ O.ej) U6) e
       have U9:gC T7 V C (.iI ad aa i rest (ff ac ad.toList 0)) o ⟨fn,n,ac,aA,ao,ro,cs⟩ B h j=some v->Ends C aI aQ aX v (lone (bg A fn aA ao ro tmps (.inRegion ad (i::List.range' (i+1) (ad.size-(i+1)))::aG) .run) U w):=
        λe=>wY T8 TY d UH d.eJ (Zp _) f X T3 e
       cases T7 with
       |val N=>exact now N h j T3 c
       |cy N E ar=>exact now N E ar T3 c
       |_=>exact U9 c
      ·simp at c
   ·simp at c
end
def ER{k:List Bool}(e:k.count false=0):∀b∈k,b=true:=by
 intro b ab
 cases b with
 |true=>rfl
 |false=>exact absurd ab (List.count_eq_zero.1 e)
def J7{ad:Array Oper}(C:nK ad.toList 0=true):∀(fuel t:Nat) (a:Array Bool),a.size=ad.size->a.toList.count false=fuel->
 jU ad (λi=>a.getD i false=true) (Region.linearise.go .any ad fuel t a []):=by
 intro fuel
 induction fuel with
 |zero=>
  intro t a w n
  simp only[Region.linearise.go,List.reverse_nil]
  refine .nil λi ak=> ?_
  have b:i<a.size:=Zo
  have:=ER n a[i] Zs
  simp[b,this]
 |succ fuel V=>
  intro t a w n
  simp only[Region.linearise.go]
  have G:∃i,i<ad.size/\a.getD i true=false:=by
   have r:false∈a.toList:=by
    rw[<-List.count_pos_iff];omega
   obtain⟨i,ak⟩:=ZZ.1 r
   have b:i<a.size:=by have:=(Zf.1 ak).1;simpa using this
   refine⟨i,Zo, ?_⟩
   rw[ZK]at ak
   simp[ak]
  have X:∃i,i<ad.size/\a.getD i true=false/\∀H,H<i->a.getD H false=true:=by
   have key:∀m,(∃i,i<m/\i<ad.size/\a.getD i true=false)->∃i,i<ad.size/\a.getD i true=false/\∀H,H<i->a.getD H false=true:=by
    intro m
    induction m with
    |zero=>rintro⟨i,e,_⟩;omega
    |succ m T0=>
     rintro⟨i,f,c,g⟩
     by_cases L:∃i,i<m/\i<ad.size/\a.getD i true=false
     ·exact T0 L
     ·have:i=m:=by
       rcases zg i m with e|e
       ·exact absurd ⟨i,e,c,g⟩ L
       ·omega
      subst this
      refine⟨i,c,g,λH O=> ?_⟩
      have b:H<a.size:=Zo
      cases ab:a[H]with
      |true=>simp[b,ab]
      |false=>exact absurd ⟨H,O,Zo,by simp[b,ab]⟩ L
   obtain⟨i,f,c⟩:=G
   exact key (i+1) ⟨i,Zo,f,c⟩
  obtain⟨i0,v,Z,z⟩:=X
  have Y:i0∈Region.ready .any ad a:=by
   rw[mem_ready]
   refine⟨Z,ad[i0],Array.getElem?_eq_getElem v,λl p ab=> ?_⟩
   have:=IE C i0 ad[i0] (by rw[ZK];exact Array.getElem?_eq_getElem v) l (by simpa using p) ab
   exact z _ Zo
  change jU ad _ (match (Region.ready .any ad a)[t%(Region.ready .any ad a).length]? with
   |some i=>Region.linearise.go .any ad fuel (t/(Region.ready .any ad a).length) (a.setIfInBounds i true) [i]
   |none=>[].reverse)
  have P:0<(Region.ready .any ad a).length:=List.length_pos_of_mem Y
  have b:t%(Region.ready .any ad a).length<(Region.ready .any ad a).length:=zt _ P
  rw[Ze b]
  simp only[]
  generalize ak:(Region.ready .any ad a)[t%(Region.ready .any ad a).length]=i
  have r:i∈Region.ready .any ad a:=by rw[<-ak];exact List.getElem_mem b
  obtain⟨f,D,c,g⟩:=mem_ready.1 r
  have T1:i<ad.size:=(ZI.1 c).1
  have d:i<a.size:=Zo
  have s:a[i]=false:=by simpa[d]using f
  rw[linearise_go_acc,List.reverse_singleton,List.singleton_append]
  refine .cons c (by simp[d,s]) (λl p ab=>g l (by simpa using p) ab) ?_
  have x:add (λi=>a.getD i false=true) i=λH=>(a.setIfInBounds i true).getD H false=true:=by
   funext H
   apply propext
   unfold add
   by_cases l:H=i
   ·subst l;simp[d]
   ·rw[getD_set_ne false (λL=>l L.symm)]
    simp[l]
  rw[x]
  refine V _ _ (by simpa using w) ?_
  rw[Array.toList_setIfInBounds,List.count_set (by simpa using d)]
  have:(a.toList[i]'(by simpa using d))=false:=by simpa using s
  simp[this,n]
def J8{ad:Array Oper}(a:nK ad.toList 0=true)(t:Nat):jU ad (λ_=>False) (Region.schedule true ad t):=by
 simp only[Region.schedule,Bool.true_or,ZP,Region.linearise]
 have:=J7 a ad.size t (Array.replicate ad.size false) Zs Zs
 have l:(λi=>(Array.replicate ad.size false).getD i false=true)=λ_=>False:=by
  funext i
  apply propext
  by_cases e:i<ad.size<;>simp[e]
 rw[l]at this
 exact this
section
variable{C:aC}{A bF bY:bE}{F bu b8:Nat->Prop}{h E:I ae}{j ar aB:Nat}{w aM:World}{n ac:Nat}{ad:Array Oper}
variable{aI:World}{aQ:Nat}{aX:List Frame}{v:y}{V:dK}
variable{fn:Nat}{aA:List dM}{ao:Bool}{ro:Option Nat}{cs:List dq}{B:I y}{tmps:Array Value}{aG:List Item}{U:List Frame}{aF ak:Nat}
def GR{op:eD}(b:f1 op= .dV)(a:mO op=false)(h E:I ae)(aa:List (Nat×y))(B:I y):dk op C h aa B=dk op C E aa B:=by
 cases op<;>simp only[dk]<;>(try rfl)<;>simp[mO]at a
 case dV a6 D=>cases D<;>simp[mO]at a<;>rfl
def hf.refl(h:I ae):hf C h h:=λ_=> .inl rfl
def hf.trans{ay aO a:I ae}(e:hf C ay aO)(o:hf C aO a):hf C ay a:=λx=>by
 rcases e x with e|e
 ·rcases o x with o|o
  ·exact .inl (e.trans o)
  ·exact .inr (e.trans o)
 ·exact .inr e
def yu(h:I ae):hf C .nil h:=by
 intro b
 unfold J
 rw[cN,cN]
 split
 ·exact .inl rfl
 ·exact .inr rfl
def E2{base:Nat}(U4:C.aP<=base):∀(k:List cE) (aa:List (Nat×y)) (h:I ae) (c:List (Nat×y)) (E:I ae),(k.Pairwise λa b=>a.i≠b.i)->(∀x∈k,cf aa x.i=none/\J C h (base+x.i)=none/\gq x.op=false)->
 j4 C base B k aa h=some (c,E)->Sub aa c/\hf C h E/\(∀i,cf c i≠none->cf aa i≠none\/∃x∈k,x.i=i)/\(∀b,J C E b≠J C h b->∃x∈k,b=base+x.i)/\
 ∀x∈k,∃N,(∀F,qE C F E base c B x N)/\pe C E c B x N:=by
 intro k
 induction k with
 |nil=>
  intro aa h c E _ _ e
  simp[j4]at e
  obtain⟨rfl,rfl⟩:=e
  exact⟨Sub.refl _,hf.refl _,λi e=> .inl e,λb e=>absurd rfl e,Zs⟩
 |cons x k V=>
  intro aa h c E P O e
  rw[List.pairwise_cons]at P
  obtain⟨X,TY⟩:=P
  obtain⟨s,t,v⟩:=O x (Zl ..)
  have step:∀(N:y) (ay:I ae),hf C h ay->(∀b,J C ay b≠J C h b->b=base+x.i)->j4 C base B k ((x.i,N)::aa) ay=some (c,E)->
   (∀c E,Sub ((x.i,N)::aa) c->hf C ay E->(J C ay (base+x.i)≠none->J C E (base+x.i)=J C ay (base+x.i))->(∀F,qE C F E base c B x N)/\pe C E c B x N)->
   Sub aa c/\hf C h E/\(∀i,cf c i≠none->cf aa i≠none\/∃d∈x::k,d.i=i)/\(∀b,J C E b≠J C h b->∃d∈x::k,b=base+d.i)/\∀d∈x::k,∃N,(∀F,qE C F E base c B d N)/\pe C E c B d N:=by
   intro N ay T6 G T3 U1
   have U0:Sub aa ((x.i,N)::aa):=Sub.cons s
   have T4:∀d∈k,cf ((x.i,N)::aa) d.i=none/\J C ay (base+d.i)=none/\gq d.op=false:=by
    intro d iW
    obtain⟨T0,T1,T2⟩:=O d (Zi _ iW)
    have T8:=X d iW
    refine⟨by rw[h7,Zj T8];exact T0, ?_,T2⟩
    by_cases L:J C ay (base+d.i)=J C h (base+d.i)
    ·rw[L];exact T1
    ·have:=G _ L;omega
   obtain⟨bf,bo,U2,Z,U3⟩:=V _ _ _ _ TY T4 T3
   have r:J C E (base+x.i)=J C ay (base+x.i):=by
    by_cases L:J C E (base+x.i)=J C ay (base+x.i)
    ·exact L
    ·obtain⟨d,iW,l⟩:=Z _ L
     exact absurd Zo (X d iW)
   refine⟨U0.trans bf,T6.trans bo,λi ak=> ?_,λb ab=> ?_,λd iW=> ?_⟩
   ·rcases U2 i ak with m|⟨d,m,w⟩
    ·rw[h7]at m
     split at m
     ·rename_i l;exact .inr ⟨x,Zl ..,l⟩
     ·exact .inl m
    ·exact .inr ⟨d,Zi _ m,w⟩
   ·by_cases L:J C E b=J C ay b
    ·rw[L]at ab
     exact⟨x,Zl ..,G b ab⟩
    ·obtain⟨d,m,w⟩:=Z b L
     exact⟨d,Zi _ m,w⟩
   ·rcases Zz.1 iW with rfl|iW
    ·exact⟨N,U1 c E bf bo (λ_=>r)⟩
    ·exact U3 d iW
  have r:∀(N:y) (c:List (Nat×y)),Sub ((x.i,N)::aa) c->cf c x.i=some N:=λN c f=>f _ _ (by rw[h7,Zv rfl])
  simp only[j4]at e
  split at e
  ·simp at e
  ·rename_i p
   refine step undef h (hf.refl _) (λb ab=>absurd rfl ab) e λc E f au _=> ?_
   have g:Sub aa c:=(Sub.cons s).trans f
   exact⟨λF=>⟨r _ _ f,aa,false,g,p,λ_=>rfl,Zs⟩,aa, .nil,false,g,yu _,p,Zs⟩
  ·rename_i p
   cases n:f1 x.op with
   |make=>
    rw[n]at e
    simp only at e
    split at e
    ·rename_i N bN T7
     simp only[dF]at e
     have ab:C.aP<=base+x.i:=Zo
     refine step N _ (λb=> ?_) (λb z=> ?_) e λc E f au T5=> ?_
     ·rw[cw _ ab]
      by_cases l:b=base+x.i
      ·subst l;exact .inr t
      ·rw[Zj l];exact .inl rfl
     ·rw[cw _ ab]at z
      by_cases l:b=base+x.i
      ·exact l
      ·rw[Zj l]at z;exact absurd rfl z
     ·have g:Sub aa c:=(Sub.cons s).trans f
      have T9:J C E (base+x.i)=some bN:=by
       rw[T5 (by rw[cw _ ab,Zv rfl];simp),cw _ ab,Zv rfl]
      exact⟨λF=>⟨r _ _ f,aa,true,g,p,Zs,λ_=>⟨v,λ_=>⟨bN,T7,T9⟩,λL=>by rw[n]at L;cases L⟩⟩,aa,h,true,g,
       (by
        intro b
        rcases au b with L|L
        ·rw[cw _ ab]at L
         by_cases l:b=base+x.i
         ·subst l;exact .inr t
         ·rw[Zj l]at L;exact .inl L
        ·rw[cw _ ab]at L
         by_cases l:b=base+x.i
         ·subst l;exact .inr t
         ·rw[Zj l]at L;exact .inr L),p,λ_ L=>by rw[n]at L;cases L⟩
    ·simp at e
   |dV=>
    rw[n]at e
    simp only at e
    split at e
    ·rename_i N Y
     refine step N h (hf.refl _) (λb ab=>absurd rfl ab) e λc E f au _=> ?_
     have g:Sub aa c:=(Sub.cons s).trans f
     exact⟨λF=>⟨r _ _ f,aa,true,g,p,Zs,λ_=>⟨v,λL=>(by rw[n]at L;cases L),λ_ TZ dc=>by rw[GR n TZ dc h];exact Y⟩⟩,aa,h,true,g,au,p,λ_ _=>Y⟩
    ·simp at e
   |cB=>simp[gq,n]at v
end
section
variable{C:aC}{A bF bY:bE}{F bu b8:Nat->Prop}{h E:I ae}{j ar aB:Nat}{w aM:World}{n ac:Nat}{ad:Array Oper}
variable{aI:World}{aQ:Nat}{aX:List Frame}{v:y}{V:dK}
variable{fn:Nat}{aA:List dM}{ao:Bool}{ro:Option Nat}{cs:List dq}{B:I y}{tmps:Array Value}{aG:List Item}{U:List Frame}{aF ak:Nat}
def E3{aa:List (Nat×y)}:∀(k:List cE),nk C B aa h k=true->∀x∈k,∃b,gQ x.g aa=some b/\(b=true->∃N,dk x.op C h aa B=some N/\cf aa x.i=some N):=by
 intro k
 induction k with
 |nil=>intro _ x e;simp at e
 |cons a k V=>
  intro e x c
  simp only[nk]at e
  split at e
  ·simp at e
  ·rename_i d
   rcases Zz.1 c with rfl|c
   ·exact⟨false,d,Zs⟩
   ·exact V e x c
  ·rename_i d
   split at e
   ·rename_i N i f g
    simp only[Zq]at e
    have:=su _ _ _ e.1
    subst this
    rcases Zz.1 c with rfl|c
    ·exact⟨true,d,λ_=>⟨N,f,g⟩⟩
    ·exact V e.2 x c
   ·simp at e
def KV{d6:List hg}{o:Nat}{au:List (c1×cE)}:∃s rest,ln d6 o au=s::rest/\s.iX=iP o d6/\s.uR=nV o d6/\
 (match au with|[]=>s.cB=none/\rest=[]|a::b=>s.cB=some a.2/\rest=ln d6 (o+1) b):=by
 cases au with
 |nil=>exact⟨_,_,rfl,rfl,rfl,rfl,rfl⟩
 |cons a au=>exact⟨_,_,rfl,rfl,rfl,rfl,rfl⟩
def l6{o:Nat}:∀{d6:List hg}{x:cE},x∈iP o d6↔∃k∈d6,k.aF=o/\k.x=x:=by
 intro d6
 induction d6 with
 |nil=>intro x;simp[iP]
 |cons a d6 V=>
  intro x
  simp only[iP,d5]
  by_cases e:a.aF=o
  ·simp only[e,ZP,Zz,V]
   constructor
   ·rintro(rfl|⟨k,b,c,d⟩)
    ·exact⟨a, .inl rfl,e,rfl⟩
    ·exact⟨k, .inr b,c,d⟩
   ·rintro⟨k,rfl|b,c,d⟩
    ·exact .inl d.symm
    ·exact .inr ⟨k,b,c,d⟩
  ·simp only[e,ZM,V]
   constructor
   ·rintro⟨k,b,c,d⟩;exact⟨k, .tail _ b,c,d⟩
   ·rintro⟨k,b,c,d⟩
    rcases Zz.1 b with rfl|b
    ·exact absurd c e
    ·exact⟨k,b,c,d⟩
def Ju{o:Nat}:∀{d6:List hg}{k:hg},k∈d6->k.aF<o->o<=k.ak->mO k.x.op=true->k.x∈nV o d6:=by
 intro d6
 induction d6 with
 |nil=>intro k e;simp at e
 |cons a d6 V=>
  intro k au d b c
  simp only[nV,cN]
  rcases Zz.1 au with rfl|au
  ·rw[Zv]
   ·exact Zl ..
   ·have f:Nat.blt k.aF o=true:=by simp[Nat.blt];omega
    have g:Nat.ble o k.ak=true:=by simpa using b
    simp[f,g,c]
  ·split
   ·exact Zi _ (V au d b c)
   ·exact V au d b c
def Ek{o:Nat}:∀{d6:List hg},(d6.Pairwise λa b=>a.x.i<b.x.i)->(iP o d6).Pairwise λa b=>a.i≠b.i:=by
 intro d6
 induction d6 with
 |nil=>intro _;simp[iP]
 |cons a d6 V=>
  intro e
  rw[List.pairwise_cons]at e
  simp only[iP,d5]
  split
  ·rw[List.pairwise_cons]
   refine⟨λx d=> ?_,V e.2⟩
   obtain⟨k,c,_,rfl⟩:=l6.1 d
   have:=e.1 k c;omega
  ·exact V e.2
def Ha(op:eD):gq op=true/\f1 op= .cB\/gq op=false/\(f1 op= .dV\/f1 op= .make):=by
 unfold gq
 cases f1 op<;>simp
def If(UR:Env C aI bY b8)(UE:gg C aI aQ aX V){o:List bV}{base f:Nat}{aa:List (Nat×y)}(UW:aF<=base)(U0:base+ad.size<=j)(VO:C.aP<=base){s:jV}{rest:List jV}
 (T4:match (dd C n ac ad).drop f with|[]=>s.cB=none|O::UV=>s.cB=some O.2/\rest=ln (fD C n ac ad) (f+1) UV)
 (e:(match s.cB with
    |none=>pE (ff ac ad.toList 0) aa B λB=>V .run o ⟨fn,n,ac,aA,ao,ro,cs⟩ B h j
    |some e=>(match gQ e.g aa with
     |none=>none
     |some w=>aT (w) ((match dQ e.op C h j aa B with
       |some r=>gC r V C (.lG ad base aa e.i rest (ff ac ad.toList 0)) o ⟨fn,n,ac,aA,ao,ro,cs⟩ B h j
       |none=>none))<|V .run (.drawn ad base ((e.i,undef)::aa) rest (ff ac ad.toList 0)::o) ⟨fn,n,ac,aA,ao,ro,cs⟩ B h j))=some v):
 ∀(k:List Nat) (A:bE) (F:Nat->Prop) (w:World) (tmps:Array Value) (bm:Nat->Prop),eg C aI aQ aX fn ac aA ao ro cs h j A F w aF U->fx C A F ac o aG->h2 C A F h base n ac ad aa f (f+1) B tmps bm->jU ad bm k->
  (∀k∈fD C n ac ad,k.aF<f+1->¬bm k.x.i->∃N,cf aa k.x.i=some N/\pe C h aa B k.x N)->Ends C aI aQ aX v (lone (bg A fn aA ao ro tmps (.inRegion ad k::aG) .run) U w):=by
 intro k
 induction k with
 |nil=>
  intro A F w tmps bm c Z a UM UJ
  cases UM with
  |nil UT=>
   have UA:(dd C n ac ad).drop f=[]:=by
    cases d:(dd C n ac ad).drop f with
    |nil=>rfl
    |cons O UV=>
     exfalso
     have TZ:(dd C n ac ad)[f]? =some O:=by
      have:((dd C n ac ad).drop f)[0]? =some O:=by rw[d];rfl
      rwa[Yz]at this
     have U8:=UT O.1.i (E5 a.st (Zg TZ)).1
     have:=(a.done f O TZ).1 U8
     omega
   rw[UA]at T4
   simp only at T4
   rw[T4]at e
   simp only[rs,gN]at e
   split at e
   ·rename_i VM Uu
    refine .head AP ?_
    have VD:gV A F ac (λ_=>True) (d0 ad ad.size) aa B tmps:=by
     obtain⟨_,Um,Un⟩:=qD ad ad.size (Zp _)
     intro t N _ T1
     apply a.nj t N
     split at T1
     ·rename_i H UF
      obtain⟨Uo,Up,Uq⟩:=Um t H UF
      left
      refine⟨H,UT H Uo,Up,λUQ UG Uz=> ?_,T1⟩
      rcases zg H UQ with T0|mn
      ·exact absurd Uz (Uq UQ T0 (a.kg UQ UG))
      ·exact mn
     ·rename_i UF
      exact .inr ⟨λH UG=>Un t UF H (a.kg H UG),T1⟩
    exact UE _ _ _ _ _ _ _ _ _ _ _ _ v e A F w aF tmps aG U (c.state (.plain Z (xN VD a.size Uu)))
   ·simp at e
 |cons i k UP=>
  intro A F w tmps bm c Z a UM UJ
  cases UM with
  |cons m U3 Y TY=>
   rename_i D
   have ak:i<ad.size:=(ZI.1 m).1
   obtain⟨p,x,o',Ug,Uh,z3,z4,z5,Ui⟩:=kS a.st i ak
   have V5:o'=D:=by
    have:=z5.oper
    rw[z4,m]at this
    exact(Yd this).symm
   subst V5
   have U5:=E6 a.st a.closed a.kg a.nj Uh m U3 Y
   have UX:=px a.closed (r1 Uh) (by rw[z3];exact m) Y
   have P:=z5
   have U2:=P.g
   have T9:=P.op
   have Ub:=P.reads
   rw[z4]at U2 T9 Ub
   have UB:∀T6,Sub T6 aa->ei A F (e9 tmps) (ek (d0 ad i) T6 B) o'.op.operands.toList:=by
    intro T6 V9
    refine xG (X:=λt=>cF p.r t=true) (λt N Uv T1=>U5 t N Uv ?_) (λt VB=>Jg Ui VB) Ub c.dS
    split at T1
    ·exact V9 _ _ T1
    ·exact T1
   have UC:∀H b t,o'.guard=some (H,b)->j7 H (d0 ad i)=some t->cF p.r t=true:=by
    intro H b t U6 U7
    rw[Ui.r,oo,z3]
    have:cF (rI (d0 ad i) o'.guard) t=true:=by
     rw[U6]
     simp only[rI,U7]
     rw[qZ];simp
    rw[this];simp
   have U1:∀(bF:bE) (N:Value),(bg bF fn aA ao ro tmps (.inRegion ad (i::k)::aG) .run).finish N=bg bF fn aA ao ro (hv tmps o'.dst N) (.inRegion ad k::aG) .run:=by
    intro bF N
    rw[ru (g:=bg bF fn aA ao ro tmps _ .run) rfl m];rfl
   rcases Ha x.op with ⟨UD,iA⟩|⟨UD,iA⟩
   ·
    have V1:(p,x)∈dd C n ac ad:=by rw[ra];exact YE.2 ⟨Zg Ug,UD⟩
    obtain⟨L,d⟩:=ZZ.1 V1
    have V6:L=f:=by
     rcases YU L f with T0|l|iV
     ·exact absurd ((a.done L _ d).2 T0) (by simpa only[z3]using U3)
     ·exact l
     ·exfalso
      have V2:L-1<(dd C n ac ad).length:=zu (Zf.1 d).1
      have Ua:(dd C n ac ad)[L-1]? =some ((dd C n ac ad)[L-1]):=Ze V2
      have UU:=a.st.chain
      rw[rA]at UU
      have ab:=GG UU (L-1) ((dd C n ac ad)[L-1]).1 p (by rw[Zw,Ua];rfl) (by rw[show L-1+1=L by omega,Zw,d];rfl)
      have U8:=UX _ ab
      have:=(a.done (L-1) _ Ua).1 U8
      omega
    subst V6
    have UA:(dd C n ac ad).drop L=(p,x)::(dd C n ac ad).drop (L+1):=by
     have T0:=(Zf.1 d).1
     rw[ZY T0,(Zf.1 d).2]
    rw[UA]at T4
    simp only at T4
    obtain⟨V8,Uc⟩:=T4
    rw[V8]at e
    simp only at e
    have TZ:ad[((p,x):c1×cE).1.i]? =some o':=by simp only[z3];exact m
    split at e
    ·simp at e
    ·rename_i wd VE
     have T2:=sH (zm ak) U2 U5 UC (Sub.refl aa) VE
     have UY:¬bm ((p,x):c1×cE).1.i:=by simpa only[z3]using U3
     have VH:x.i=((p,x):c1×cE).1.i:=by simp only[z3,z4]
     cases wd with
     |false=>
      simp only[fB]at e
      refine .head (u9 m T2) ?_
      rw[U1]
      rw[VH,Uc]at e
      have:=a.cB d TZ UY Y (v:=undef) trivial P.dst
      exact UE _ _ _ _ _ _ _ _ _ _ _ _ v e A F w aF _ _ U (c.state (.drawn Z UW U0 this (by simp only[z3];exact TY)))
     |true=>
      simp only[cS]at e
      split at e
      ·rename_i r M
       have Us:=x9 c.M c.cv UR.eQ (UB aa (Sub.refl aa)) T9 M
       have VA:fV C A F h aF j n ac B tmps (.lG ad base aa x.i rest (ff ac ad.toList 0)::o) (.inRegion ad (i::k)::aG):=by
        have Ud:=fV.drawn (aF:=aF) (ak:=j) (k:=k) Z UW U0 a d TZ UY Y (by simp only[z3];exact TY)
        simp only[z3]at Ud
        rw[Uc,z4]
        exact Ud
       exact wY UR UE c VA c.eJ (Zp _) m T2 Us e
      ·simp at e
   ·
    have V3:=Zg Ug
    have T7:(⟨x,jl p.m (hM (dd C n ac ad)),mo p.i (hM (dd C n ac ad))⟩:hg)∈fD C n ac ad:=by
     rw[re];exact ZB.2 ⟨(p,x),YE.2 ⟨V3,by simp[UD]⟩,rfl⟩
    have T8:jl p.m (hM (dd C n ac ad))<f+1:=by
     have:=EQ p.m (hM (dd C n ac ad)) f (λL O d VN=>by
      rw[rA,Zw]at d
      cases UO:(dd C n ac ad)[L]? with
      |none=>rw[UO]at d;cases d
      |some z=>
       rw[UO]at d;cases d
       cases ab:cF p.m z.1.i with
       |false=>rfl
       |true=>have:=(a.done L z UO).1 (UX _ ab);omega)
     omega
    have T3:¬bm x.i:=by rw[z4];exact U3
    obtain⟨N,U4,VC⟩:=a.ahead _ T7 T8
    obtain⟨jq,T6,b,US,VF,Ux,Uy⟩:=VC T3
    have T2:=sH (zm ak) U2 U5 UC US VF
    have UL:ad[x.i]? =some o':=by rw[z4];exact m
    have UK:∀h3:Nat->Prop,(∀H,bm H->h3 H)->∀k∈fD C n ac ad,k.aF<f+1->¬h3 k.x.i->∃N,cf aa k.x.i=some N/\pe C h aa B k.x N:=λh3 Ut VI U6 U7 Ur=>UJ VI U6 U7 (λL=>Ur (Ut _ L))
    have U9:add bm x.i=add bm i:=by rw[z4]
    cases b with
    |false=>
     have:N=undef:=Ux rfl
     subst this
     refine .head (u9 m T2) ?_
     rw[U1]
     have G:=a.dV (bF:=A) (bu:=F) T7 T8 UL T3 Y U4 (λ_ _=>rfl) (λ_ e=>e) (λ_ e=> .inl e) (by trivial) P.dst
     simp only[U9]at G
     exact UP A F w _ _ c Z G TY (UK _ λ_ e=> .inl e)
    |true=>
     obtain⟨_,V4,_⟩:=Uy rfl
     rcases iA with iA|iA
     ·obtain⟨VP,UN,Uk,Uj,Ul,aL,aR,Ue,Uf⟩:=UJ _ T7 T8 T3
      simp only at UN Ue Uf
      rw[U4]at UN;cases UN
      have VG:=sH (zm ak) U2 U5 UC aL Ue
      have U0:Ul=true:=by rw[<-VG,T2]
      have V0:=Uf U0 iA
      have V7:bD C A F Uj j aI.heap.size w:=c.M.xK aR
      obtain⟨aH,aZ⟩:=yx V7 (UB Uk aL) T9 V0
      refine .head (n0 m T2 aH (.inl rfl)) ?_
      rw[U1]
      have G:=a.dV (bF:=A) (bu:=F) T7 T8 UL T3 Y U4 (λ_ _=>rfl) (λ_ e=>e) (λ_ e=> .inl e) aZ P.dst
      simp only[U9]at G
      exact UP A F w _ _ c Z G TY (UK _ λ_ e=> .inl e)
     ·obtain⟨bN,UH,UZ⟩:=V4 iA
      simp only at UH UZ
      have UI:¬F (base+x.i):=λL=>T3 (a.ids x.i (by rw[z4];exact ak) L)
      obtain⟨fv,VJ,VK,VL⟩:=yF (w:=w) (A:=A) UI (UB T6 US) (rZ T9 UH)
      have T0:base+x.i<j:=by rw[z4];omega
      have Uw:=c.M.alloc (ar:=j) (E:=h) (b:=base+x.i) Zo T0 (Zp _) UI c.cv rfl UZ (λ_ _=> .inl rfl) VL (yG (rZ T9 UH))
      have T5:dW C aF A F h aI.heap.size w (c2 A (base+x.i) ⟨w.heap.size,0,0⟩) (add F (base+x.i)) h (w.alloc fv):=
       ⟨hZ UI,λ_ e=> .inl e,λO e=>e.elim .inl (λe=> .inr Zo),λ_ _ _=>rfl,Below.alloc (Below.refl _ _) c.cv _⟩
      refine .head (n0 m T2 VJ (.inl rfl)) ?_
      rw[U1, <-oU T5.dZ c.dR]
      have G:=a.dV (bF:=c2 A (base+x.i) ⟨w.heap.size,0,0⟩) (bu:=add F (base+x.i)) T7 T8 UL T3 Y U4 T5.dZ T5.ej (λ_ e=>e) VK P.dst
      simp only[U9]at G
      exact UP _ _ _ _ _ (c.ext Uw T5 (Zp _)) (Z.T T5.dZ T5.ej) G TY (UK _ λ_ e=> .inl e)
end
section
variable{C:aC}{A bF bY:bE}{F bu b8:Nat->Prop}{h E:I ae}{j ar aB:Nat}{w aM:World}{n ac:Nat}{ad:Array Oper}
variable{aI:World}{aQ:Nat}{aX:List Frame}{v:y}{V:dK}
variable{fn:Nat}{aA:List dM}{ao:Bool}{ro:Option Nat}{cs:List dq}{B:I y}{tmps:Array Value}{aG:List Item}{U:List Frame}{aF ak:Nat}
def bD.more(M:bD C A F h j aB w)(g:j<=ar)(a:∀b,F b->J C E b=J C h b)(m:∀b D,J C E b=some D->b<ar):bD C A F E ar aB w:=by
 refine⟨ZD M.aP g,λb e=>Z5 (M.lt b e) g,m,λb D e d=>M.obj b D (by rw[<-a b d];exact e) d,λb c D o' e i d f=>M.sep b c D o' (by rw[<-a b d];exact e) (by rw[<-a c f];exact i) d f,λb D ab e d=>M.base b D ab (by rw[<-a b d];exact e) d,λb D e d=>M.cj b D (by rw[<-a b d];exact e) d⟩
def yy(t:hb C n ac ad){k g:hg}(au:k∈fD C n ac ad)(r:g∈fD C n ac ad)(e:k.x.i=g.x.i):k=g:=by
 obtain⟨a,p⟩:=ZZ.1 au
 obtain⟨b,ab⟩:=ZZ.1 r
 obtain⟨i,c⟩:=Zf.1 p
 obtain⟨m,d⟩:=Zf.1 ab
 have f:=tt t
 rw[YQ]at f
 rcases YU a b with s|l|iV
 ·have:=f a b i m s
  rw[c,d]at this;omega
 ·subst l;rw[<-c,d]
 ·have:=f b a m i iV
  rw[c,d]at this;omega
def xv(UI:Env C aI bY b8)(UV:gg C aI aQ aX V){o:List bV}{base r:Nat}{aa:List (Nat×y)}{bm:Nat->Prop}{k:List Nat}(U0:eg C aI aQ aX fn ac aA ao ro cs h j A F w aF U)
 (UW:fx C A F ac o aG)(UX:aF<=base)(UQ:base+ad.size<=j)(U7:C.aP<=base)(a:h2 C A F h base n ac ad aa r r B tmps bm)(Uc:jU ad bm k)
 (e:kU V C ad base aa (ln (fD C n ac ad) r ((dd C n ac ad).drop r)) (ff ac ad.toList 0) o ⟨fn,n,ac,aA,ao,ro,cs⟩ B h j=some v):Ends C aI aQ aX v (lone (bg A fn aA ao ro tmps (.inRegion ad k::aG) .run) U w):=by
 obtain⟨s,rest,UF,UG,UH,T4⟩:=KV (d6:=fD C n ac ad) (o:=r) (au:=(dd C n ac ad).drop r)
 rw[UF]at e
 simp only[kU]at e
 split at e
 ·simp at e
 ·rename_i U3 E U5
  simp only[cg]at e
  obtain⟨U8,e⟩:=e
  rw[UG]at U5
  rw[UH]at U8
  have UT:∀x∈iP r (fD C n ac ad),cf aa x.i=none/\J C h (base+x.i)=none/\gq x.op=false:=by
   intro x O
   obtain⟨c,f,Z,rfl⟩:=l6.1 O
   have G:cf aa c.x.i=none:=by
    cases G:cf aa c.x.i with
    |none=>rfl
    |some N=>
     exfalso
     rcases a.keys _ N G with ⟨Ug,d,m,T0⟩|⟨p,T2,d,m,_⟩
     ·have:=yy a.st d f m
      subst this;omega
     ·exact rT a.st f d m.symm
   obtain⟨_,_,T0,_⟩:=rg f
   exact⟨G,a.free _ (rf a.st f) G,T0⟩
  obtain⟨bf,bo,Uf,T3,U1⟩:=E2 U7 _ _ _ _ _ (Ek (tt a.st)) UT U5
  have Ud:∀b,F b->J C E b=J C h b:=by
   intro b ab
   by_cases L:J C E b=J C h b
   ·exact L
   ·obtain⟨x,O,l⟩:=T3 b L
    obtain⟨c,f,Z,rfl⟩:=l6.1 O
    have P:=a.ids _ (rf a.st f) (l▸ab)
    have:=a.iX c f P
    omega
  have Ub:bD C A F E j aI.heap.size w:=U0.M.more (Zp _) Ud (λb D ab=>by
   by_cases L:J C E b=J C h b
   ·exact U0.M.jF b D (by rw[<-L];exact ab)
   ·obtain⟨x,O,l⟩:=T3 b L
    obtain⟨c,f,Z,rfl⟩:=l6.1 O
    have:=rf a.st f
    omega)
  have O:dW C aF A F h aI.heap.size w A F E w:=⟨λ_ _=>rfl,λ_ e=>e,λ_ e=> .inl e,λb _ U6=>by
   by_cases L:J C E b=J C h b
   ·exact L
   ·obtain⟨x,O,l⟩:=T3 b L
    omega,Below.refl _ _⟩
  have UP:=U0.ext Ub O (Zp _)
  have UR:h2 C A F E base n ac ad U3 r (r+1) B tmps bm:=by
   refine⟨a.st,a.size,a.rN,a.ch,a.closed,a.kg,a.done,λc f Z=>Nat.lt_succ_of_lt (a.iX c f Z), ?_, ?_, ?_, ?_,a.ids, ?_⟩
   ·intro i N X
    rcases Uf i (by rw[X];simp)with f|⟨x,f,Z⟩
    ·cases G:cf aa i with
     |none=>exact absurd G f
     |some Y=>
      rcases a.keys i Y G with ⟨c,d,m,T0⟩|g
      ·exact .inl ⟨c,d,m,Zo⟩
      ·exact .inr g
    ·obtain⟨c,d,m,rfl⟩:=l6.1 f
     exact .inl ⟨c,d,Z,Zo⟩
   ·intro p T2 T1 Ua
    obtain⟨N,X⟩:=a.jq p T2 T1 Ua
    exact⟨N,bf _ _ X⟩
   ·intro c f Z
    by_cases L:c.aF=r
    ·obtain⟨N,d,m⟩:=U1 c.x (l6.2 ⟨c,f,L,rfl⟩)
     exact⟨N,(d F).key,λ_=>d F⟩
    ·obtain⟨N,d,m⟩:=a.ahead c f Zo
     refine⟨N,bf _ _ d,λP=> ?_⟩
     obtain⟨_,T8,b,T9,TY,U4,TZ⟩:=m P
     refine⟨bf _ _ d,T8,b,T9.trans bf,TY,U4,λab=> ?_⟩
     obtain⟨UM,UN,UJ⟩:=TZ ab
     refine⟨UM,λUY=> ?_,UJ⟩
     obtain⟨bN,UK,UL⟩:=UN UY
     refine⟨bN,UK, ?_⟩
     by_cases UA:J C E (base+c.x.i)=J C h (base+c.x.i)
     ·rw[UA];exact UL
     ·obtain⟨x,O,l⟩:=T3 _ UA
      obtain⟨Ug,U2,Uh,rfl⟩:=l6.1 O
      have:=yy a.st f U2 Zo
      subst this;omega
   ·intro t N X
    apply a.nj t N
    rcases X with ⟨H,P,US,UZ,X⟩|X
    ·left
     refine⟨H,P,US,UZ, ?_⟩
     have jq:∃Y,cf aa H=some Y:=by
      rcases xu a.st H (a.kg H P)with ⟨c,d,m⟩|⟨p,T2,d,m⟩
      ·obtain⟨Y,T0,_⟩:=a.ahead c d (a.iX c d (by rw[m];exact P))
       exact⟨Y,by rw[<-m];exact T0⟩
      ·obtain⟨Y,T0⟩:=a.jq p T2 d ((a.done p T2 d).1 (by rw[m];exact P))
       exact⟨Y,by rw[<-m];exact T0⟩
     obtain⟨Y,U9⟩:=jq
     have:=bf _ _ U9
     rw[X]at this
     cases this
     exact U9
    ·exact .inr X
   ·intro i ak G
    have Ue:cf aa i=none:=by
     cases T5:cf aa i with
     |none=>rfl
     |some N=>rw[bf _ _ T5]at G;cases G
    by_cases L:J C E (base+i)=J C h (base+i)
    ·rw[L];exact a.free i ak Ue
    ·obtain⟨x,O,l⟩:=T3 _ L
     obtain⟨N,d,_⟩:=U1 x O
     have:x.i=i:=Zo
     rw[<-this,(d F).key]at G
     cases G
  refine If UI UV UX UQ U7 (s:=s) (rest:=rest) ?_ e k A F w tmps bm UP UW UR Uc ?_
  ·cases T5:(dd C n ac ad).drop r with
   |nil=>rw[T5]at T4;exact T4.1
   |cons T2 Un=>rw[T5]at T4;exact T4
  ·intro c f Z P
   by_cases L:c.aF=r
   ·obtain⟨N,d,m⟩:=U1 c.x (l6.2 ⟨c,f,L,rfl⟩)
    exact⟨N,(d F).key,m⟩
   ·obtain⟨N,d,m⟩:=a.ahead c f Zo
    refine⟨N,bf _ _ d, ?_⟩
    obtain⟨_,T8,b,T9,TY,U4,TZ⟩:=m P
    by_cases T6:mO c.x.op=true
    ·have UU:r<=c.ak:=by
      obtain⟨p,U2,Uh,Uo,Ui⟩:=rg f
      obtain⟨_,Uu,UD,z3,z4,z5⟩:=kT a.st U2
      rw[Ui]
      refine GJ _ _ _ (by rw[rA,Zn];exact a.rN) λL T2 T1 U6=> ?_
      rw[rA,Zw]at T1
      cases T7:(dd C n ac ad)[L]? with
      |none=>rw[T7]at T1;cases T1
      |some z=>
       rw[T7]at T1;cases T1
       cases ab:cF z.1.m p.i with
       |false=>rfl
       |true=>
        exfalso
        have UO:=(a.done L z T7).2 U6
        obtain⟨Up,Uq,Ur,Us,Um,Ut,UC⟩:=kT a.st (rb (Zg T7)).1
        have:=px a.closed (Zg Um) UC.oper (a.closed _ _ UC.oper UO) _ ab
        simp only at UD
        rw[<-UD]at this
        exact P this
     obtain⟨UE,Uj,Uk⟩:=E3 _ U8 c.x (Ju f Zo UU T6)
     refine⟨U3,E,UE,Sub.refl _,hf.refl _,Uj,λab _=> ?_⟩
     obtain⟨Y,Ul,UB⟩:=Uk ab
     rw[bf _ _ d]at UB
     cases UB
     exact Ul
    ·have T6:mO c.x.op=false:=by simpa using T6
     refine⟨T8, .nil,b,T9.trans bf,yu _,TY,λab iA=> ?_⟩
     exact(TZ ab).2.2 iA T6 .nil
def FM{o:List bV}(id:Nat)(e:fx C A F ac o aG){ct:List bV}(a:exitTo id o=some ct):∃c3,Go.exitTo id aG=some c3/\fx C A F ac ct c3:=by
 induction e with
 |nil=>simp[exitTo]at a
 |cons d f V=>
  cases d<;>simp only[exitTo]at a
  case inBlock g=>
   rw[d5]at a
   split at a
   ·rename_i l
    simp at a;subst a
    exact⟨_,by simp[Go.exitTo,l],f⟩
   ·rename_i l
    obtain⟨c3,b,c⟩:=V a
    have:(g==id)=false:=by simpa using l
    exact⟨c3,by simp[Go.exitTo,this,b],c⟩
  all_goals
   obtain⟨c3,b,c⟩:=V a
   exact⟨c3,by simp[Go.exitTo,b],c⟩
def xI(dS:is C A F){n:Nat}(r:es A F n ac B tmps){x:Operand}{N:y}(a:lu C ac [] x=true)(e:j8 B x=some N):e9 tmps x=ai A N/\bd F N:=by
 cases x with
 |tmp t=>
  simp only[lu,Ei]at a
  obtain⟨m,p⟩:=r.val t N a e
  exact⟨by simp[e9,m],p⟩
 |const c=>exact r6 e
 |global g=>
  simp[j8]at e;subst e
  simp only[lu]at a
  obtain⟨b,d,i⟩:=dS g (e0 a)
  exact⟨by simp[e9,ai,d,i],b⟩
 |func f=>
  simp[j8]at e;subst e
  exact⟨by simp[e9,ai,ga,aU],trivial,trivial,trivial⟩
def gV.start{n:Nat}(a:es A F n ac B tmps):gV A F ac (λ_=>True) (d0 ad 0) [] B tmps:=by
 intro t N _ e
 rw[qC]at e
 exact a.val t N e.1 e.2
def Jz(s:Env C aI bY b8)(O:gg C aI aQ aX V){o:List bV}{id:Nat}{m:Bool}(c:eg C aI aQ aX fn ac aA ao ro cs h j A F w aF U)(P:fx C A F ac o aG)(g:es A F n ac B tmps)
 (e:At ad m V C o ⟨fn,n,ac,aA,ao,ro,cs⟩ B h j=some v):Ends C aI aQ aX v (lone (bg A fn aA ao ro tmps (.code (.region id ad m)::aG) .run) U w):=by
 cases m with
 |false=>
  have a:uU n ac ad V C o ⟨fn,n,ac,aA,ao,ro,cs⟩ B h j=some v:=e
  simp only[uU,gN]at a
  split at a
  ·rename_i r M
   obtain⟨rest,fin⟩:=r
   have d:lA rest ⟨V,ad,fin,o,⟨fn,n,ac,aA,ao,ro,cs⟩⟩ C B [] h j=some v:=a
   unfold qf at M
   split at M
   ·rename_i bJ f
    simp at M
    obtain⟨rfl,rfl⟩:=M
    refine .head KM ?_
    refine AD s O bJ [] h j A F w tmps _ U c P ⟨0,zc _, ?_,f,rfl,gV.start g,g.size⟩ d
    rw[List.range_eq_range'];rfl
   ·simp at M
  ·simp at a
 |true=>
  have a:uT n ac ad V C o ⟨fn,n,ac,aA,ao,ro,cs⟩ B h j=some v:=e
  simp only[uT,gN]at a
  split at a
  ·rename_i r M
   obtain⟨fj,fin⟩:=r
   have d:hL j (λj=>kU V C ad j [] fj fin o ⟨fn,n,ac,aA,ao,ro,cs⟩ B h (j+ad.size))=some v:=a
   rw[fZ]at d
   unfold qc at M
   split at M
   ·simp at M
   ·rename_i bJ f
    simp only[cg,Zq,Zu]at M
    obtain⟨⟨⟨G,X⟩,Y⟩,Z⟩:=M
    have x:j5 C n ac ad=bJ:=by unfold j5;rw[f];rfl
    have T5:hb C n ac ad:=⟨by rw[x];exact f,G,X,by unfold dd;rw[x];exact Y⟩
    have T6:fj=ln (fD C n ac ad) 0 ((dd C n ac ad).drop 0)/\fin=ff ac ad.toList 0:=by
     have l:=Z
     cases l
     refine⟨?_,rfl⟩
     rw[Yf]
     unfold fD dd
     rw[x];rfl
    obtain⟨rfl,rfl⟩:=T6
    refine .head KN ?_
    rw[s.eQ.mixed]
    have T7:dW C aF A F h aI.heap.size w A F h w.drew:=⟨λ_ _=>rfl,λ_ e=>e,λ_ e=> .inl e,λ_ _ _=>rfl,Below.drew (Below.refl _ _)⟩
    have T4:bD C A F h (j+ad.size) aI.heap.size w.drew:=c.M.drew.more (zh _ _) (λ_ _=>rfl) (λb D ab=>Z5 (c.M.jF b D ab) (zh _ _))
    refine xv s O (bm:=λ_=>False) (c.ext T4 T7 (zh _ _)) P c.eJ (Zp _) c.M.aP ?_ (J8 G _) d
    refine⟨T5,g.size,zc _,c.M.aP,λ_ _ _ e=>e.elim,λ_ e=>e.elim,λp T8 _=>⟨λe=>e.elim,λe=>Zo⟩,λ_ _ e=>e.elim,λi N z=>by simp at z,λp T8 _ e=>Zo,λT9 _ e=>Zo, ?_, ?_, ?_⟩
    ·intro t N z
     rcases z with ⟨H,e,_⟩|⟨_,T0,T1⟩
     ·exact e.elim
     ·exact g.val t N T0 T1
    ·intro i _ T2
     have:=c.M.lt _ T2;omega
    ·intro i _ _
     cases T3:J C h (j+i)with
     |none=>rfl
     |some D=>have:=c.M.jF _ D T3;omega
  ·simp at a
end
section
variable{C:aC}{A bF bY:bE}{F bu b8:Nat->Prop}{h E:I ae}{j ar aB:Nat}{w aM:World}{n ac:Nat}{ad:Array Oper}
variable{aI:World}{aQ:Nat}{aX:List Frame}{v:y}{V:dK}
variable{fn:Nat}{aA:List dM}{ao:Bool}{ro:Option Nat}{cs:List dq}{B:I y}{tmps:Array Value}{aG:List Item}{U:List Frame}{aF ak:Nat}
def FL{o:List bV}(id:Nat)(e:fx C A F ac o aG)(a:exitTo id o=none):Go.exitTo id aG=none:=by
 induction e with
 |nil=>rfl
 |cons b d V=>
  cases b<;>simp only[exitTo]at a
  case inBlock c=>
   rw[d5]at a
   split at a
   ·simp at a
   ·rename_i l
    have:(c==id)=false:=by simpa using l
    simp[Go.exitTo,this,V a]
  all_goals simp[Go.exitTo,V a]
def ut(m:eg C aI aQ aX fn ac aA ao ro cs h j A F w aF U){b:Nat}{st e7:LoopState}{n mJ:Option Code}{a aj g:Nat}{i:I y}{params:List Nat}{assign body:Code}{d:Nat}
 (t:C.aP<=b)(p:F b)(r:J C h b=some (.loop st n a aj g i params assign body d))(v:∀c,mJ=some c->oM c):
 ∃f,w.heap[(A b).bc]? =some (.loop ⟨st,n,a,f,params.toArray,assign,body,(A d).bc⟩)/\sS C a g/\(∀c,n=some c->oM c)/\
  eg C aI aQ aX fn ac aA ao ro cs (aS C h b (some (.loop e7 mJ a aj g i params assign body d))) j A F (w.putObj (A b).bc (.loop ⟨e7,mJ,a,f,params.toArray,assign,body,(A d).bc⟩)) aF U:=by
 obtain⟨f,eP,lr,G,O,P,X,s⟩:=m.M.obj b _ r p
 obtain⟨aM,bf,bo,z⟩:=putObj m.M (bv:=aF) (o':= .loop ⟨e7,mJ,a,f,params.toArray,assign,body,(A d).bc⟩) (fv:= .loop e7 mJ a aj g i params assign body d) t p r ⟨Zs,Zs⟩ eP Zs
  (λaM x=>⟨f,x,lr,G,O,P,v,s⟩) ⟨λ_ _ _ e=>(by cases e),λ_ _ _ e=>(by cases e)⟩
 rw[run_setObj_loop _ eP]at bf
 simp only[Result.ok.injEq]at bf
 obtain⟨_,rfl⟩:=bf
 exact⟨f,eP,s,X,m.ext bo z (Zp _)⟩
def w9(s:gg C aI aQ aX V){N:y}{bM:Machine}(a:eg C aI aQ aX fn ac aA false ro cs h j A F w aF U)(t:cs≠[])(r:bd F N)
 (x:∀g b,U=g::b->step C.P bM= .next (lone (g.finish (ai A N)) b w))(e:ji V false cs N h j=some v):Ends C aI aQ aX v bM:=by
 cases cs with
 |nil=>exact absurd rfl t
 |cons c rest=>
  obtain⟨p,aj,X,i,f,n,Y,m,Z⟩:=c
  obtain⟨T2,T3,c3,b,rfl,bf,bo,z,G,O,P⟩:=a.cs.inv
  refine .head (x _ _ rfl) ?_
  cases Y with
  |run=>
   have d:uV V f ⟨p,aj,X,n,m,Z,rest⟩ N i h j=some v:=e
   cases f with
   |nil=>simp[uV]at d
   |cons T1 o=>exact oG s ⟨a.M,a.fc,a.dS,ZD O a.eJ,z,G,P⟩ bf a.eJ r d
  |returning=>simp[ji]at e
  |panicking T0=>simp[ji]at e
def uq(m:gg C aI aQ aX V){todo:List bV}{b:Option Code}(f:(b=none/\aG=[])\/(b=some .ret/\∃o,aG= .code .ret::o)\/(∃id o,b=some (.exit id)/\aG= .code (.exit id)::o/\Go.exitTo id o=none))
 (a:eg C aI aQ aX fn ac aA ao ro cs h j A F w aF U)(X:es A F n ac B tmps)
 (e:hr b V C todo ⟨fn,n,ac,aA,ao,ro,cs⟩ B h j=some v):Ends C aI aQ aX v (lone (bg A fn aA ao ro tmps aG .run) U w):=by
 unfold hr at e
 cases ro with
 |some k=>
  simp only at e
  split at e
  ·rename_i st T5 T0 aj T3 Y params assign body Z z
   simp only[cg,Zq,dF]at e
   obtain⟨⟨⟨t,T2⟩,d⟩,e⟩:=e
   have d:ao=false:=by simpa using d
   subst d
   have s:=a.dR.ro k rfl
   have G:∀c,b=some c->oM c:=by
    intro c r
    subst r
    rcases f with ⟨l,_⟩|⟨l,_⟩|⟨id,o,l,_⟩
    ·cases l
    ·cases l;exact .inl rfl
    ·cases l;exact .inr ⟨id,rfl⟩
   obtain⟨T6,eP,T4,_,p⟩:=ut a (e7:=aT b.isNone .ready .done) (mJ:=b) (et t) s z G
   have x:cs≠[]:=λl=>by have:=(a.bot l).2.2;cases this
   refine w9 (N:= .bool b.isNone) m p x trivial (λg T1 l=> ?_) e
   subst l
   refine KQ f ?_
   have:=run_endRound (P:=C.P) b eP
   rw[this]
   cases b<;>rfl
  ·simp at e
 |none=>
  simp only[cg]at e
  have O:m4 C aI aQ aX .returning todo fn n ac aA ao none cs B h j A F w aF tmps aG U:=⟨a.M,a.fc,a.dS,a.eJ,a.dR,trivial,a.bot,a.cs,X⟩
  have i:=m _ _ _ _ _ _ _ _ _ _ _ _ v e.2 A F w aF tmps aG U O
  rcases f with ⟨rfl,rfl⟩|⟨rfl,o,rfl⟩|⟨id,o,rfl,rfl,_⟩
  ·exact .head KC i
  ·exact .head KO i
  ·simp[ua]at e
def Js(UK:Env C aI bY b8)(UW:gg C aI aQ aX V){f:Operand}{params:Array Nat}{assign body:Code}{o:List bV}(a:eg C aI aQ aX fn ac aA ao ro cs h j A F w aF U)(T0:es A F n ac B tmps)
 (UB:fC C ac (.rangeFunc f params assign body)=true)(U6:fx C A F ac o aG)(e:qq f params assign body V C o ⟨fn,n,ac,aA,ao,ro,cs⟩ B h j=some v):
 Ends C aI aQ aX v (lone (bg A fn aA ao ro tmps (.code (.rangeFunc f params assign body)::aG) .run) U w):=by
 simp only[fC,Zq]at UB
 obtain⟨US,U9,UA⟩:=UB
 unfold qq at e
 split at e
 ·rename_i g first G Ui aL rX Ug Uf Uq Ue UP UR
  cases UR
  obtain⟨UH,T2⟩:=xI a.dS T0 US UP
  have UC:∀(b:Nat) (p:World),(resolve (e9 tmps) {callee:= .value f,args:= #[.const (.func (.yield b) #[] #[])],argTypes:= #[]} 0).run C.P p=
   .ok ⟨.fn (.func g) (aU A G).toArray,(aU A first).toArray++ #[.func (.yield b) #[] #[]]⟩ p:=by
   intro b p
   have UJ:e9 tmps (.const (.func (.yield b) #[] #[]))= .func (.yield b) #[] #[]:=rfl
   simp[resolve,UH,ai,ga,Deferred.ofValue,UJ]
  have U5:∀(b:Nat) (t:bE) (z:Nat->Prop) (ay:I ae) (T7:Nat) (p:World) (T1:List dq) (TY:List Frame) (bv:Nat) (P:Nat),(∀x,F x->t x=A x)->(∀x,F x->z x)->z P->(t P).bc=b->
   bD C t z ay T7 aI.heap.size p->Below aI.heap.size aI p->is C t z->bv<=T7->gR C t z ay aQ aX bv T1 TY->T1≠[]->hl V C g (first++[.func (.yield P) [] []]++G) false T1 ay T7=some v->
   ∃args,(invoke (.fn (.func g) (aU A G).toArray) ((aU A first).toArray++ #[.func (.yield b) #[] #[]])).run C.P p= .ok (.enter g args) p/\Ends C aI aQ aX v (lone (Frame.enter C.P g args .normal) TY p):=by
   intro b t z ay T7 p T1 TY bv P UD U4 UX ab T5 UM UU X UO UZ e
   have UV:cd z (first++[.func (.yield P) [] []]++G):=ml (ml (h9 U4 _ T2.2.1) ⟨⟨UX,trivial,trivial⟩,trivial⟩) (h9 U4 _ T2.2.2)
   refine⟨(aU t (first++[.func (.yield P) [] []]++G)).toArray, ?_,rm UW T5 UM UU X UO (λl=>absurd l UZ) UV e⟩
   have UN:∃func c,C.P.funcs[g]? =some func/\func.body=some c:=by
    unfold hl at e
    split at e
    ·rename_i func T3
     split at e
     ·rename_i c s;exact⟨func,c,T3,s⟩
     ·simp at e
    ·simp at e
   obtain⟨func,c,T3,s⟩:=UN
   have UY:func.name≠ "runtime.NumGoroutine":=by simpa using UK.eQ.num g func T3 (by simp[s])
   have UL:(aU t (first++[.func (.yield P) [] []]++G)).toArray=((aU A first).toArray++ #[.func (.yield b) #[] #[]])++(aU A G).toArray:=by
    rw[nh,nh,kO UD T2.2.1,kO UD T2.2.2]
    simp[aU,ai,ga,ab]
   rw[UL]
   simp[invoke,callFunc,T3,UY,s]
  cases ro with
  |none=>
   simp only[fZ]at e
   have Y:=ig a.M
   have T5:=a.M.alloc (b:=j) (ar:=j+1) (pl:=⟨w.heap.size,0,0⟩) (bN:= .deferred (some [])) (D:= .deferred (some [])) (E:=aS C h j (some (.deferred (some [])))) a.M.aP (Yo _) (Ye _) Y a.cv rfl
    (by rw[cw _ a.M.aP,Zv rfl]) (λx i=> .inl (by rw[cw _ a.M.aP,Zj i])) ⟨by rw[World.alloc_heap_new];rfl,λk au=>by cases au;simp⟩ ⟨λ_ _ _ e=>(by cases e),λ_ _ _ e=>(by cases e)⟩
   have U1:dW C j A F h aI.heap.size w (c2 A j ⟨w.heap.size,0,0⟩) (add F j) (aS C h j (some (.deferred (some [])))) (w.alloc (.deferred (some []))):=
    ⟨hZ Y,λ_ e=> .inl e,λUG e=>e.elim .inl (λe=> .inr Zo),λx _ U7=>by rw[cw _ a.M.aP,Zj Zo],Below.alloc (Below.refl _ _) a.cv _⟩
   have T4:C.aP<=j+1:=Nat.le_succ_of_le a.M.aP
   have U8:=ig T5
   have U3:aI.heap.size<=(w.alloc (.deferred (some []))).heap.size:=by rw[World.size_alloc];have:=a.cv;omega
   have UE:(c2 A j ⟨w.heap.size,0,0⟩ j)=⟨w.heap.size,0,0⟩:=fk ..
   have T6:=hZ (A:=c2 A j ⟨w.heap.size,0,0⟩) (pl:=⟨w.heap.size+1,0,0⟩) U8
   have Z:=T5.alloc (b:=j+1) (ar:=j+2) (pl:=⟨w.heap.size+1,0,0⟩) (bN:= .loop .ready none fn n ac B params.toList assign body j) (D:= .loop {state:= .ready,pending:=none,fn,tmps,params,assign,body,defers:=w.heap.size})
    (E:=aS C (aS C h j (some (.deferred (some [])))) (j+1) (some (.loop .ready none fn n ac B params.toList assign body j))) T4 (Yo _) (Ye _) U8 U3 (by rw[World.size_alloc])
    (by rw[cw _ T4,Zv rfl]) (λx i=> .inl (by rw[cw _ T4,Zj i]))
    ⟨tmps,by
     rw[show(⟨w.heap.size+1,0,0⟩:fU).bc=(w.alloc (.deferred (some []))).heap.size by rw[World.size_alloc],World.alloc_heap_new,T6 j (.inr rfl),UE],
     (T0.T U1.dZ U1.ej).T T6 (λ_ e=> .inl e), .inl (.inr rfl),U9,UA,λc s=>(by cases s),a.dR.fn⟩
    ⟨λ_ _ _ e=>(by cases e),λ_ _ _ e=>(by cases e)⟩
   have Ua:dW C (j+1) (c2 A j ⟨w.heap.size,0,0⟩) (add F j) (aS C h j (some (.deferred (some [])))) aI.heap.size (w.alloc (.deferred (some []))) (c2 (c2 A j ⟨w.heap.size,0,0⟩) (j+1) ⟨w.heap.size+1,0,0⟩) (add (add F j) (j+1))
    (aS C (aS C h j (some (.deferred (some [])))) (j+1) (some (.loop .ready none fn n ac B params.toList assign body j))) ((w.alloc (.deferred (some []))).alloc (.loop {state:= .ready,pending:=none,fn,tmps,params,assign,body,defers:=w.heap.size})):=
    ⟨T6,λ_ e=> .inl e,λUG e=>e.elim .inl (λe=> .inr Zo),λx _ U7=>by rw[cw _ T4,Zj Zo],Below.alloc (Below.refl _ _) U3 _⟩
   have i:=U1.trans (Ye j) Ua
   have m:=a.ext Z (i.mono a.eJ) (ZD (Ye _) (Ye _))
   have UT:jP C (add (add F j) (j+1)) fn ac (⟨.collected j,[]⟩::aA) none:=⟨λd O=>by
    rcases Zz.1 O with rfl|O
    ·exact⟨.inl (.inr rfl),trivial⟩
    ·exact m.dR.aA d O,m.dR.ro,m.dR.fn⟩
   have U0:fV C (c2 (c2 A j ⟨w.heap.size,0,0⟩) (j+1) ⟨w.heap.size+1,0,0⟩) (add (add F j) (j+1)) (aS C (aS C h j (some (.deferred (some [])))) (j+1) (some (.loop .ready none fn n ac B params.toList assign body j))) aF (j+2) n ac B tmps
    (.inRangeFunc (j+1)::o) (.inRangeFunc (w.heap.size+1)::aG):=by
    have:=fV.dm (aF:=aF) (ak:=j+2) (h:=aS C (aS C h j (some (.deferred (some [])))) (j+1) (some (.loop .ready none fn n ac B params.toList assign body j))) (U6.T i.dZ i.ej) (T0.T i.dZ i.ej) (k:=j+1) (.inr rfl)
    rw[fk]at this
    exact this
   have X:aF<=j+2:=zu a.eJ
   obtain⟨args,T8,T9⟩:=U5 (w.heap.size+1) _ _ _ _ _ _ _ (j+2) (j+1) i.dZ i.ej (.inr rfl) (by rw[fk]) Z m.fc m.dS (Zp _)
    (.cons (aV:= .run) U0 trivial UT a.bot X m.cs) Zs e
   refine .head (AO (run_enterLoop_outer fn tmps params assign body) (UC _ _) T8) ?_
   have TZ:({bg A fn aA ao none tmps (.inRangeFunc (w.heap.size+1)::aG) .run with defers:=[{target:= .collected w.heap.size,args:= #[]}]++aA.map (fz A)}:Frame)=
    bg (c2 (c2 A j ⟨w.heap.size,0,0⟩) (j+1) ⟨w.heap.size+1,0,0⟩) fn (⟨.collected j,[]⟩::aA) ao none tmps (.inRangeFunc (w.heap.size+1)::aG) .run:=by
    have l:aA.map (fz (c2 (c2 A j ⟨w.heap.size,0,0⟩) (j+1) ⟨w.heap.size+1,0,0⟩))=aA.map (fz A):=Yw λd O=>te i.dZ (a.dR.aA d O)
    have UI:fz (c2 (c2 A j ⟨w.heap.size,0,0⟩) (j+1) ⟨w.heap.size+1,0,0⟩) ⟨.collected j,[]⟩={target:= .collected w.heap.size,args:= #[]}:=by
     simp only[fz,nd,aU]
     rw[T6 j (.inr rfl),UE]
    simp only[bg,ZS,l,UI,YZ,List.nil_append,YD]
   rw[TZ]
   exact T9
  |some k=>
   simp only[fZ]at e
   split at e
   ·rename_i st Up Uh aj Uj Ub Uo Uc Ud r au
    have O:=a.dR.ro k rfl
    obtain⟨Ur,eP,lr,UF,Uk,Ul,Um,Un⟩:=a.M.obj k _ au O
    have Y:=ig a.M
    have U2:=hZ (A:=A) (pl:=⟨w.heap.size,0,0⟩) Y
    have Z:=a.M.alloc (b:=j) (ar:=j+1) (pl:=⟨w.heap.size,0,0⟩) (bN:= .loop .ready none fn n ac B params.toList assign body r) (D:= .loop {state:= .ready,pending:=none,fn,tmps,params,assign,body,defers:=(A r).bc})
     (E:=aS C h j (some (.loop .ready none fn n ac B params.toList assign body r))) a.M.aP (Yo _) (Ye _) Y a.cv rfl
     (by rw[cw _ a.M.aP,Zv rfl]) (λx i=> .inl (by rw[cw _ a.M.aP,Zj i]))
     ⟨tmps,by rw[World.alloc_heap_new,U2 r UF],T0.T U2 (λ_ e=> .inl e), .inl UF,U9,UA,λc s=>(by cases s),a.dR.fn⟩
     ⟨λ_ _ _ e=>(by cases e),λ_ _ _ e=>(by cases e)⟩
    have i:dW C j A F h aI.heap.size w (c2 A j ⟨w.heap.size,0,0⟩) (add F j) (aS C h j (some (.loop .ready none fn n ac B params.toList assign body r))) (w.alloc (.loop {state:= .ready,pending:=none,fn,tmps,params,assign,body,defers:=(A r).bc})):=
     ⟨U2,λ_ e=> .inl e,λUG e=>e.elim .inl (λe=> .inr Zo),λx _ U7=>by rw[cw _ a.M.aP,Zj Zo],Below.alloc (Below.refl _ _) a.cv _⟩
    have m:=a.ext Z (i.mono a.eJ) (Ye _)
    have U0:fV C (c2 A j ⟨w.heap.size,0,0⟩) (add F j) (aS C h j (some (.loop .ready none fn n ac B params.toList assign body r))) aF (j+1) n ac B tmps (.inRangeFunc j::o) (.inRangeFunc w.heap.size::aG):=by
     have:=fV.dm (aF:=aF) (ak:=j+1) (h:=aS C h j (some (.loop .ready none fn n ac B params.toList assign body r))) (U6.T i.dZ i.ej) (T0.T i.dZ i.ej) (k:=j) (.inr rfl)
     rw[fk]at this
     exact this
    have X:aF<=j+1:=zu a.eJ
    obtain⟨args,T8,T9⟩:=U5 w.heap.size _ _ _ _ _ _ _ (j+1) j i.dZ i.ej (.inr rfl) (by rw[fk]) Z m.fc m.dS (Zp _)
     (.cons (aV:= .run) U0 trivial m.dR a.bot X m.cs) Zs e
    have UQ:(Instr.enterLoop fn tmps params assign body ((some k).map λk=>(A k).bc)).run C.P w= .ok (w.heap.size,[]) (w.alloc (.loop {state:= .ready,pending:=none,fn,tmps,params,assign,body,defers:=(A r).bc})):=by
     unfold Instr.enterLoop
     simp only[ZJ,Sem.run_bind,run_getLoop eP,run_newObj_alloc,Result.andThen,Sem.run_pure]
    refine .head (AO UQ (UC _ _) T8) ?_
    have TZ:({bg A fn aA ao (some k) tmps (.inRangeFunc w.heap.size::aG) .run with defers:=[]++aA.map (fz A)}:Frame)=bg A fn aA ao (some k) tmps (.inRangeFunc w.heap.size::aG) (dh A .run):=rfl
    rw[TZ, <-oU i.dZ a.dR]
    exact T9
   ·simp at e
 ·simp at e
def xh(O:Env C aI bY b8)(x:gg C aI aQ aX V)(p:eg C aI aQ aX fn ac aA ao ro cs h j A F w aF U)(r:es A F n ac B tmps):∀(c:Code) (o:List bV) (aG:List Item),fC C ac c=true->fx C A F ac o aG->
 jk c V C o ⟨fn,n,ac,aA,ao,ro,cs⟩ B h j=some v->Ends C aI aQ aX v (lone (bg A fn aA ao ro tmps (.code c::aG) .run) U w):=by
 intro c
 have go:∀o aG,fx C A F ac o aG->V .run o ⟨fn,n,ac,aA,ao,ro,cs⟩ B h j=some v->Ends C aI aQ aX v (lone (bg A fn aA ao ro tmps aG .run) U w):=
  λo aG d e=>x _ _ _ _ _ _ _ _ _ _ _ _ v e A F w aF tmps aG U (p.state (.plain d r))
 induction c with
 |skip=>intro o aG _ d e;exact .head KT (go o aG d e)
 |region id ad T0=>intro o aG _ d e;exact Jz O x p d r e
 |seq a b G m=>
  intro o aG g d e
  simp only[fC,Zq]at g
  exact .head KS (G (.code b::o) (.code b::aG) g.1 (.cons (.code g.2) d) e)
 |cond c a b G m=>
  intro o aG g d e
  simp only[fC,Zq]at g
  have i:pt c B (jk a V C o ⟨fn,n,ac,aA,ao,ro,cs⟩ B h j) (jk b V C o ⟨fn,n,ac,aA,ao,ro,cs⟩ B h j)=some v:=e
  simp only[pt,gN]at i
  split at i
  ·rename_i N Z
   obtain⟨P,_⟩:=xI p.dS r g.1 Z
   cases N with
   |bool t=>
    refine .head (KA (t:=t) (by rw[P];rfl)) ?_
    cases t with
    |true=>exact G o aG g.2.1 d i
    |false=>exact m o aG g.2.2 d i
   |_=>simp at i
  ·simp at i
 |block id b m=>intro o aG g d e;exact .head Kz (m (.inBlock id::o) (.inBlock id::aG) g (.cons .inBlock d) e)
 |loop b m=>intro o aG g d e;exact .head KJ (m (.inLoop b::o) (.inLoop b::aG) g (.cons (.inLoop g) d) e)
 |rangeFunc f params assign body _ _=>intro o aG g d e;exact Js O x p r g d e
 |exit id=>
  intro o aG _ d e
  have i:mf id V C o ⟨fn,n,ac,aA,ao,ro,cs⟩ B h j=some v:=e
  unfold mf at i
  split at i
  ·rename_i ct z
   obtain⟨c3,X,Y⟩:=FM id d z
   exact .head (KE X) (go ct c3 Y i)
  ·rename_i z
   exact uq x (.inr (.inr ⟨id,aG,rfl,rfl,FL id d z⟩)) p r i
 |scope b m=>intro o aG g d e;exact .head KR (m (.inScope b::o) (.inScope b::aG) g (.cons (.inScope g) d) e)
 |label k=>intro o aG _ d e;exact .head KI (go o aG d e)
 |goto k=>intro o aG _ _ e;exact absurd e (by simp[jk,nI])
 |ret=>intro o aG _ d e;exact uq x (.inr (.inl ⟨rfl,aG,rfl⟩)) p r e
 |refuse s=>intro o aG _ _ e;exact absurd e (by simp[jk,nI])
def JF(P:bD C A F h j aB w)(v:es A F n ac B tmps){aw:ResultVar->Sem Value}(G:∀t,aw (.tmp t)=pure (tmps.getD t Go.undef))(O:∀a t,aw (.cell a t)=do loadVar t (<-asAddr (tmps.getD a Go.undef))):
 ∀(k:List ResultVar) (aE:List y),lx ac k=true->ko C h B k=some aE->(k.mapM aw).run C.P w= .ok (aU A aE) w/\cd F aE:=by
 intro k
 induction k with
 |nil=>intro aE _ e;simp[ko]at e;subst e;exact⟨by simp[aU],trivial⟩
 |cons x k V=>
  intro aE c e
  cases x with
  |tmp t=>
   simp only[lx,Zq]at c
   simp only[ko]at e
   split at e
   ·rename_i N r d M
    simp at e;subst e
    obtain⟨f,g⟩:=v.val t N c.1 d
    obtain⟨i,m⟩:=V r c.2 M
    refine⟨?_,g,m⟩
    simp[zb,G,f,i,aU]
   ·simp at e
  |cell a t=>
   simp only[lx,Zq]at c
   simp only[ko]at e
   split at e
   ·rename_i p X
    split at e
    ·rename_i N r d M
     simp at e;subst e
     obtain⟨f,g⟩:=v.val a p c.1 X
     obtain⟨i,m⟩:=V r c.2 M
     obtain⟨s,z⟩:=wV P g d
     refine⟨?_,z,m⟩
     cases p with
     |ptr b D=>
      simp only[Instr.loadAt,Instr.sureAddr,ai,Sem.run_bind,Sem.run_pure,Result.andThen_ok]at s
      simp[zb,O,f,ai,asAddr,s,i,aU]
     |_=>simp[iO,br,W]at d;split at d<;>simp at d
    ·simp at e
   ·simp at e
def IP(aE:List y):(if e:(aU A aE).toArray.size=1 then(aU A aE).toArray[0]else Value.tuple (aU A aE).toArray)=ai A (one aE):=by
 match aE with
 |[]=>simp[one,aU,ai]
 |[a]=>simp[one,aU]
 |a::b::r=>simp[one,aU,ai]
def IN{aE:List y}(e:cd F aE):bd F (one aE):=by
 match aE,e with
 |[],e=>exact e
 |[a],e=>exact e.1
 |a::b::r,e=>exact e
def eg.defs(a:eg C aI aQ aX fn ac aA ao ro cs h j A F w aF U){b:List dM}(e:∀d∈b,ka F d):eg C aI aQ aX fn ac b ao ro cs h j A F w aF U:=
 ⟨a.M,a.fc,a.dS,a.eJ,⟨e,a.dR.ro,a.dR.fn⟩,a.bot,a.cs⟩
def eg.vh{todo:List bV}{aV:fa}(d:aV≠ .run)(b:hN F aV)(a:eg C aI aQ aX fn ac aA ao ro cs h j A F w aF U)(c:es A F n ac B tmps):
 m4 C aI aQ aX aV todo fn n ac aA ao ro cs B h j A F w aF tmps aG U:=by
 cases aV with
 |run=>exact absurd rfl d
 |returning=>exact⟨a.M,a.fc,a.dS,a.eJ,a.dR,b,a.bot,a.cs,c⟩
 |panicking f=>exact⟨a.M,a.fc,a.dS,a.eJ,a.dR,b,a.bot,a.cs,c⟩
def xp(Z:Env C aI bY b8)(G:gg C aI aQ aX V){d:dM}{ds:List dM}{aV:fa}{todo:List bV}(p:aV≠ .run)(x:hN F aV)(a:eg C aI aQ aX fn ac (d::ds) ao ro cs h j A F w aF U)(X:es A F n ac B tmps)
 (e:ku d ds aV todo V C ⟨fn,n,ac,[],ao,ro,cs⟩ B h j=some v):Ends C aI aQ aX v (lone (bg A fn (d::ds) ao ro tmps aG (dh A aV)) U w):=by
 have m:ka F d:=a.dR.aA d (Zl ..)
 have z:∀d∈ds,ka F d:=λc i=>a.dR.aA c (Zi _ i)
 have t:dh A aV≠ .run:=by cases aV<;>simp[dh]at p ⊢
 unfold ku at e
 split at e
 rename_i U5 aL rX U4 U3 U6 U2 T7
 cases T7
 split at e
 ·rename_i r Y
  split at e
  ·rename_i b O
   simp only[cg,dF]at e
   obtain⟨T6,e⟩:=e
   have i:F r:=m.1
   obtain⟨eP,lr⟩:=a.M.obj r _ O i
   simp only[ZJ]at eP
   obtain⟨aM,bf,bo,U1⟩:=putObj a.M (bv:=aF) (o':= .deferred none) (fv:= .deferred none) (et T6) i O ⟨Zs,Zs⟩ eP Zs
    (λaM U0=>⟨by simpa using U0,λk au=>by cases au⟩) ⟨λ_ _ _ e=>(by cases e),λ_ _ _ e=>(by cases e)⟩
   have TZ:(Instr.takeDeferred (A r).bc).run C.P w= .ok (b.map (fz A)) aM:=by
    have l:aM=w.putObj (A r).bc (.deferred none):=by
     have:(Go.setObj (A r).bc (.deferred none)).run C.P w= .ok () (w.putObj (A r).bc (.deferred none)):=by simp[Go.setObj,Sem.run,eP,World.putObj]
     rw[this]at bf
     simp only[Result.ok.injEq]at bf
     exact bf.2.symm
    rw[l]
    exact run_takeDeferred eP
   refine .head (KU (bu:=b++ds) t TZ (by rw[YF])) ?_
   have T5:∀d∈b++ds,ka F d:=λc T4=>by
    rcases Zr.1 T4 with L|L
    ·exact lr b rfl c L
    ·exact z c L
   have T3:=(a.defs T5).ext bo U1 (Zp _)
   exact G _ _ _ _ _ _ _ _ _ _ _ _ v e A F aM aF tmps aG U (T3.vh p x X)
  ·simp at e
 ·rename_i f s args
  split at e
  ·rename_i g Y T8
   have T2:=ye (A:=A) (h:=h) (j:=j) (aB:=aI.heap.size) (w:=w) Z.eQ m.1.1 m.1.2 m.2 T8
   obtain⟨T0,T1⟩:=T2
   have TY:=step_defer (P:=C.P) (fr:=bg A fn (⟨.fn f s,args⟩::ds) ao ro tmps aG (dh A aV)) (cs:=U) (w:=w) (d:=fz A ⟨.fn f s,args⟩) (ds:=ds.map (fz A)) t rfl rfl T0
   refine .head TY ?_
   have T9:l1 C A F h aF j n ac B tmps aV todo aG:=by
    cases aV with
    |run=>exact absurd rfl p
    |_=>exact X
   exact xD (ni:=true) G a.M a.fc a.dS (Zp _) (.cons (aV:=aV) T9 x ((a.defs z).dR) a.bot a.eJ a.cs) (λl=>by cases l) T1 e
  ·simp at e
def Fa(A:bE):∀(k:List io),(k.map (iQ A)).dropWhile (!·.goexit)=[]:=by
 intro k
 induction k with
 |nil=>rfl
 |cons a k V=>simp[iQ,V]
def Kj(A:bE)(a:List io):settle (dh A (.panicking a))=dh A (kw a):=by
 cases a with
 |nil=>rfl
 |cons p k=>
  obtain⟨v,r⟩:=p
  cases r with
  |false=>simp[dh,settle,kw,iQ]
  |true=>simp[dh,settle,kw,iQ,Fa]
def Ls{a:List io}(e:hN F (.panicking a)):hN F (kw a):=by
 unfold kw
 split
 ·trivial
 ·exact e
def Lt(a:List io):kw a≠ .run:=by
 unfold kw
 split<;>simp
def JH(U1:Env C aI bY b8)(X:gg C aI aQ aX V){todo:List bV}(b:eg C aI aQ aX fn ac aA ao ro cs h j A F w aF U)(T6:es A F n ac B tmps)
 (e:qx todo V C ⟨fn,n,ac,aA,ao,ro,cs⟩ B h j=some v):Ends C aI aQ aX v (lone (bg A fn aA ao ro tmps aG .returning) U w):=by
 unfold qx at e
 cases aA with
 |cons d ds=>exact xp (aV:= .returning) U1 X Zs trivial b T6 e
 |nil=>
  simp only at e
  split at e
  ·rename_i f T0
   obtain⟨U9,T4,U4⟩:=b.dR.fn
   rw[T0]at T4;cases T4
   split at e
   ·rename_i aE U6
    have Y:(results f tmps).run C.P w= .ok (ai A (one aE)) w/\cd F aE:=by
     unfold results
     rw[Sem.run_bind,Array.mapM_eq_mapM_toList,Sem.run_map]
     obtain⟨U7,U8⟩:=JF b.M T6 (aw:=λx=>match x with| .tmp t=>pure (tmps.getD t Go.undef)| .cell a t=>do loadVar t (<-asAddr (tmps.getD a Go.undef))) (λ_=>rfl) (λ_ _=>rfl) _ _ U4 U6
     refine⟨?_,U8⟩
     refine(congrArg (λr=>Result.andThen (Result.andThen r _) _) U7).trans ?_
     simp only[Result.andThen_ok,Sem.run_pure]
     rw[<-IP]
    obtain⟨Y,U2⟩:=Y
    cases ao with
    |false=>
     have T5:(bg A fn [] false ro tmps aG .returning).leaving C.P w (.returned (ai A (one aE))):=⟨rfl,rfl,rfl,f,T0,Y⟩
     cases cs with
     |nil=>
      simp only[ji,fB,Zu]at e
      subst e
      obtain⟨b2,be,b6⟩:=b.bot rfl
      have U3:=b.cs
      cases U3 with
      |nil=>exact⟨A,w,_, .refl _ _,T5,b2,b.fc⟩
     |cons c rest=>
      refine w9 X b Zs (IN U2) (λg O l=> ?_) e
      subst l
      exact step_leave_returned T5
    |true=>
     cases cs with
     |nil=>have:=(b.bot rfl).2.1;cases this
     |cons c rest=>
      obtain⟨p,aj,T2,T3,U0,m,TZ,i,s⟩:=c
      obtain⟨T1,G,c3,O,rfl,bf,bo,T7,T8,T9,TY⟩:=b.cs.inv
      have U5:=step_going_returned (P:=C.P) (fr:=bg A fn [] true ro tmps aG .returning) (c:=bg A p m i s G c3 (dh A TZ)) (cs:=O) (w:=w) (v:=ai A (one aE)) rfl ⟨rfl,rfl,f,T0,Y⟩
      refine .head U5 ?_
      cases TZ with
      |run=>simp[ji]at e
      |returning=>
       have Z:V .returning U0 ⟨p,aj,T2,m,i,s,rest⟩ T3 h j=some v:=e
       exact X _ _ _ _ _ _ _ _ _ _ _ _ v Z A F w T1 G c3 O ⟨b.M,b.fc,b.dS,ZD T9 b.eJ,T7,trivial,T8,TY,bf⟩
      |panicking z=>
       have Z:V (kw z) U0 ⟨p,aj,T2,m,i,s,rest⟩ T3 h j=some v:=e
       have l:({bg A p m i s G c3 (dh A (.panicking z))with mode:=settle (bg A p m i s G c3 (dh A (.panicking z))).mode}:Frame)=bg A p m i s G c3 (dh A (kw z)):=by
        rw[show(bg A p m i s G c3 (dh A (.panicking z))).mode=dh A (.panicking z) from rfl,Kj]
        rfl
       rw[l]
       have ab:eg C aI aQ aX p T2 m i s rest h j A F w T1 O:=⟨b.M,b.fc,b.dS,ZD T9 b.eJ,T7,T8,TY⟩
       exact X _ _ _ _ _ _ _ _ _ _ _ _ v Z A F w T1 G c3 O (ab.vh (Lt z) (Ls bo) bf)
   ·simp at e
  ·simp at e
def Jq(A:bE)(a:List io)(aV:fa):raised (dh A aV) (a.map (iQ A))=dh A (nS a aV):=by
 cases aV<;>simp[dh,raised,nS]
def Jk{a:List io}{aV:fa}(e:hN F (.panicking a))(b:hN F aV):hN F (nS a aV):=by
 cases aV with
 |panicking ht=>
  intro p c
  rcases Zr.1 c with L|L
  ·exact e p L
  ·exact b p L
 |_=>exact e
def I0(Z:Env C aI bY b8)(z:gg C aI aQ aX V){todo:List bV}{a:List io}(x:hN F (.panicking a))(p:eg C aI aQ aX fn ac aA ao ro cs h j A F w aF U)(T3:es A F n ac B tmps)
 (e:qw a todo V C ⟨fn,n,ac,aA,ao,ro,cs⟩ B h j=some v):Ends C aI aQ aX v (lone (bg A fn aA ao ro tmps aG (dh A (.panicking a))) U w):=by
 unfold qw at e
 cases aA with
 |cons d ds=>exact xp (aV:= .panicking a) Z z Zs x p T3 e
 |nil=>
  simp only at e
  cases cs with
  |nil=>simp at e
  |cons c rest=>
   obtain⟨m,aj,O,Y,X,i,b,g,r⟩:=c
   obtain⟨G,s,c3,t,rfl,bf,bo,T4,T5,T6,T7⟩:=p.cs.inv
   obtain⟨f,T1,_⟩:=p.dR.fn
   have T2:=step_going_panicked (P:=C.P) (fr:=bg A fn [] ao ro tmps aG (dh A (.panicking a))) (c:=bg A m i g r s c3 (dh A b)) (cs:=t) (w:=w) (chain:=a.map (iQ A)) ⟨rfl,rfl,f,T1⟩
   refine .head T2 ?_
   have l:({bg A m i g r s c3 (dh A b)with mode:=raised (bg A m i g r s c3 (dh A b)).mode (a.map (iQ A))}:Frame)=bg A m i g r s c3 (dh A (nS a b)):=by
    rw[show(bg A m i g r s c3 (dh A b)).mode=dh A b from rfl,Jq]
    rfl
   rw[l]
   have T0:V (nS a b) X ⟨m,aj,O,i,g,r,rest⟩ (jm X Y) h j=some v:=e
   have ab:eg C aI aQ aX m O i g r rest h j A F w G t:=⟨p.M,p.fc,p.dS,ZD T6 p.eJ,T4,T5,T7⟩
   exact z _ _ _ _ _ _ _ _ _ _ _ _ v T0 A F w G s c3 t (ab.vh (by cases b<;>simp[nS]) (Jk x bo) bf.drop)
def AQ(r:Env C aI bY b8)(i:gg C aI aQ aX V):gg C aI aQ aX λaV todo aw B h j=>va V C aV todo aw B h j:=by
 intro aV todo fn n ac aA ao ro cs B h j v Z A F w bv tmps aG U b
 cases aV with
 |run=>
  obtain⟨f,U1⟩:=b.Eh
  have X:AR todo V C ⟨fn,n,ac,aA,ao,ro,cs⟩ B h j=some v:=Z
  cases U1 with
  |plain g t=>
   cases g with
   |nil=>
    have m:hr none V C [] ⟨fn,n,ac,aA,ao,ro,cs⟩ B h j=some v:=X
    exact uq i (.inl ⟨rfl,rfl⟩) f t m
   |cons ak g=>
    rename_i a x o aG
    have m:yf a V C o ⟨fn,n,ac,aA,ao,ro,cs⟩ B h j=some v:=X
    have go:∀o aG,fx C A F ac o aG->V .run o ⟨fn,n,ac,aA,ao,ro,cs⟩ B h j=some v->Ends C aI aQ aX v (lone (bg A fn aA ao ro tmps aG .run) U w):=
     λo aG g e=>i _ _ _ _ _ _ _ _ _ _ _ _ v e A F w bv tmps aG U (f.state (.plain g t))
    cases ak with
    |code P=>exact xh r i f t _ o aG P g m
    |inBlock=>exact .head KF (go o aG g m)
    |inLoop P=>exact .head KG (xh r i f t _ _ _ P (.cons (.inLoop P) g) m)
    |inScope P=>exact .head KH (go o aG g m)
    |nn G=>
     rename_i k
     have d:oz k V C o ⟨fn,n,ac,aA,ao,ro,cs⟩ B h j=some v:=m
     unfold oz at d
     split at d
     ·rename_i st p T5 aj T7 T3 params assign body T4 O
      have Y:st≠ .busy->aT (eV C k) (ew (aS C h k (some (.loop .exhausted p T5 aj T7 T3 params assign body T4))) λh=>V .run ((p.map bV.code).toList++o) ⟨fn,n,ac,aA,ao,ro,cs⟩ B h j) none=some v->
       Ends C aI aQ aX v (lone (bg A fn aA ao ro tmps (.endRangeFunc (A k).bc::aG) .run) U w):=by
       intro U0 s
       simp only[cg,dF]at s
       obtain⟨T1,s⟩:=s
       have T2:∀c,p=some c->oM c:=by
        obtain⟨_,_,_,_,_,_,z,_⟩:=f.M.obj k _ O G
        exact z
       obtain⟨U3,eP,U2,z,T0⟩:=ut f (e7:= .exhausted) (mJ:=p) (et T1) G O T2
       refine .head (KD (run_endLoop eP U0)) ?_
       refine i _ _ _ _ _ _ _ _ _ _ _ _ v s A F _ bv tmps _ U (T0.state (.plain ?_ t))
       cases p with
       |none=>exact g
       |some c=>
        have TY:fC C ac c=true:=by
         rcases z c rfl with rfl|⟨id,rfl⟩<;>rfl
        exact .cons (.code TY) g
      cases st with
      |busy=>simp at d
      |ready=>exact Y Zs d
      |done=>exact Y Zs d
      |exhausted=>exact Y Zs d
     ·simp at d
    |begin=>
     have d:pp V C o ⟨fn,n,ac,aA,ao,ro,cs⟩ B h j=some v:=m
     unfold pp at d
     cases ro with
     |none=>simp at d
     |some k=>
      simp only at d
      split at d
      ·rename_i p T5 aj T7 T3 params assign body T4 O
       simp only[cg,dF]at d
       obtain⟨T1,d⟩:=d
       have G:=f.dR.ro k rfl
       have T2:∀c,p=some c->oM c:=by
        obtain⟨_,_,_,_,_,_,z,_⟩:=f.M.obj k _ O G
        exact z
       obtain⟨U3,eP,U2,z,T0⟩:=ut f (e7:= .busy) (mJ:=p) (et T1) G O T2
       refine .head (Ky (run_beginRound eP rfl)) ?_
       exact i _ _ _ _ _ _ _ _ _ _ _ _ v d A F _ bv tmps aG U (T0.state (.plain g t))
      ·simp at d
  |seq g TZ=>exact AD r i _ _ _ _ _ _ _ _ _ _ f g TZ X
  |drawn g s T8 T6 T9=>exact xv r i f g s T8 T6.ch T6 T9 X
 |returning=>
  have f:eg C aI aQ aX fn ac aA ao ro cs h j A F w bv U:=⟨b.M,b.fc,b.dS,b.eJ,b.dR,b.bot,b.cs⟩
  exact JH (todo:=todo) r i f b.todo Z
 |panicking U4=>
  have f:eg C aI aQ aX fn ac aA ao ro cs h j A F w bv U:=⟨b.M,b.fc,b.dS,b.eJ,b.dR,b.bot,b.cs⟩
  exact I0 (todo:=todo) r i b.mode f b.todo Z
def J5(a:Env C aI bY b8):∀n,gg C aI aQ aX (run C n):=by
 intro n
 induction n with
 |zero=>intro aV todo fn n ac aA ao ro cs B h j v e;simp[run]at e
 |succ m b=>exact AQ a b
def J2(a:Env C aI bY b8){m f:Nat}{args:List y}(c:cd b8 args)(e:gP C m f args=some v):
 Calls C.P f (aU bY args).toArray aI λl aM=>(∃A,l= .returned (ai A v))/\Below aI.heap.size aI aM:=by
 intro b
 have p:Ends C aI f b v (lone (Frame.enter C.P f (aU bY args).toArray .normal) b aI):=
  rm (J5 a m) a.base (Below.refl _ _) a.dS (Zp _) .nil (λ_=>rfl) c e
 obtain⟨A,aM,fr,d,g,i,n⟩:=p
 exact⟨.returned (ai A v),aM,fr,⟨⟨A,rfl⟩,n⟩,d,i,g⟩
end
noncomputable section
open Go.RowKit (Below)
abbrev fb:=Option (List y×Nat×List (Nat×ae))
def ny(P:Program)(next:Nat->DataW Unit->Nat->fb):List Field->List (DataW Unit)->Nat->Nat->fb
 |[],[],_,n=>some ([],n,[])
 |f::eL,d::ds,off,n=>aT (Nat.beq f.offset off) (match next f.type d n with
  |some (k,aL,os)=>aT (Nat.beq k.length (P.cellsOf f.type)) (match ny P next eL ds (off+k.length) aL with
   |some (a,aR,b)=>some (k++a,aR,os++b)
   |none=>none) none
  |none=>none) none
 |_,_,_,_=>none
def oN(P:Program)(next:Nat->DataW Unit->Nat->fb)(l:Nat):List (DataW Unit)->Nat->fb
 |[],n=>some ([],n,[])
 |d::ds,n=>match next l d n with
  |some (k,aL,os)=>aT (Nat.beq k.length (P.cellsOf l)) (match oN P next l ds aL with
   |some (a,aR,b)=>some (k++a,aR,os++b)
   |none=>none) none
  |none=>none
def pY:Lit->Option y
 | .bool b=>some (.bool b)
 | .int o n=>some (.int o n)
 | .string s=>some (.str (s.map (·.toNat)))
 |_=>none
def um(P:Program)(l:Nat)(k:List y):Option y:=match P.underlying l with
 |some (.struct _)=>some (.agg k)
 |some (.array _ _)=>some (.agg k)
 |some _=>(match k with|[v]=>some v|_=>none)
 |none=>none
def si(P:Program)(o:Nat):Bool:=match P.underlying o with|some .bool=>true|some (.int _)=>true|some .string=>true|_=>false
def p5(P:Program)(next:Nat->DataW Unit->Nat->fb)(l:Nat):List (Lit×DataW Unit)->Nat->Option (List (y×y)×Nat×List (Nat×ae))
 |[],n=>some ([],n,[])
 |(key,d)::am,n=>match pY key,next l d n with
  |some a,some (k,aL,os)=>(match um P l k,p5 P next l am aL with
   |some v,some (r,aR,b)=>some ((a,v)::r,aR,os++b)
   |_,_=>none)
  |_,_=>none
def o2(k:List y):ae:= .cells (I.ofList k 0 .nil) k.length .own
def ki(P:Program):Nat->Nat->DataW Unit->Nat->fb
 |0,_,_,_=>none
 |m+1,t,d,n=>match P.underlying t,d with
  |some .bool, .lit (.bool b)=>some ([.bool b],n,[])
  |some (.int _), .lit (.int o i)=>some ([.int o i],n,[])
  |some .string, .lit (.string s)=>some ([.str (s.map (·.toNat))],n,[])
  |some (.pointer _), .nil=>some ([.bC],n,[])
  |some (.pointer l), .ptr d=>(match ki P m l d (n+1)with
   |some (k,aL,os)=>aT (Nat.beq k.length (P.cellsOf l)&&Nat.blt 0 k.length) (some ([.ptr n 0],aL,(n,o2 k)::os)) none
   |none=>none)
  |some (.slice _), .nil=>some ([.az],n,[])
  |some (.slice l), .slice am a=>(match a with
   |[]=>(match oN P (ki P m) l am (n+1)with
    |some (k,aL,os)=>aT (Nat.blt 0 k.length) (some ([.slice n 0 am.length am.length],aL,(n,o2 k)::os)) none
    |none=>none)
   |_::_=>none)
  |some (.struct eL), .agg ds=>(match ny P (ki P m) eL.toList ds 0 n with
   |some (k,aL,os)=>aT (Nat.beq k.length (P.cellsOf t)) (some (k,aL,os)) none
   |none=>none)
  |some (.array _ l), .agg ds=>(match oN P (ki P m) l ds n with
   |some (k,aL,os)=>aT (Nat.beq k.length (P.cellsOf t)) (some (k,aL,os)) none
   |none=>none)
  |some (.interface _), .nil=>some ([.nilIface],n,[])
  |some (.map _ _), .nil=>some ([.fF],n,[])
  |some (.map o l), .map am=>aT (si P o) (match p5 P (ki P m) l am (n+1)with
   |some (r,aL,os)=>some ([.map n],aL,(n, .look r)::os)
   |none=>none) none
  |_,_=>none
section
variable{C:aC}{P:Program}{w:World}
def ir(w:World)(bH:List MemPlace):Prop:=∀b off,MemPlace.cell b off∈bH->∃c t,w.heap[b]? =some (.cells c t (0,0))
def n8(D:ae):Prop:=∀C F,jg C F D
def Lays(C:aC)(w:World)(n:Nat)(cs:List Value)(r:List y×Nat×List (Nat×ae)):Prop:=
 n<=r.2.1/\(∀x∈r.2.2,n<=x.1/\x.1<r.2.1/\n8 x.2)/\∃f:Nat->fU,∀A F,(∀b,n<=b->b<r.2.1->A b=f b/\F b)->cs=aU A r.1/\cd F r.1/\∀x∈r.2.2,eF C A F x.2 (A x.1) w
def Lays.plain{n:Nat}{cs:List Value}{k:List y}(e:∀A F,cs=aU A k/\cd F k):Lays C w n cs (k,n,[]):=
 ⟨Zp _,Zs,λ_=>default,λA F _=>⟨(e A F).1,(e A F).2,Zs⟩⟩
def Lays.app{n aL aR:Nat}{m p:List Value}{s t:List y}{v z:List (Nat×ae)}(a:Lays C w n m (s,aL,v))(c:Lays C w aL p (t,aR,z)):Lays C w n (m++p) (s++t,aR,v++z):=by
 obtain⟨aH,aZ,T0,a3⟩:=a
 obtain⟨b2,be,T1,b6⟩:=c
 refine⟨ZD aH b2, ?_,λb=>if b<aL then T0 b else T1 b, ?_⟩
 ·intro x d
  rcases Zr.1 d with e|e
  ·obtain⟨f,g,i⟩:=aZ x e
   exact⟨f,Z5 g b2,i⟩
  ·obtain⟨f,g,i⟩:=be x e
   exact⟨ZD aH f,g,i⟩
 ·intro A F r
  obtain⟨G,O,P⟩:=a3 A F (λb a c=>by
   have T3:b<aL:=c
   have:=r b a (Z5 c b2)
   simp only[Zv T3]at this
   exact this)
  obtain⟨X,Y,Z⟩:=b6 A F (λb a c=>by
   have T2:¬b<aL:=zn.2 a
   have:=r b (ZD aH a) c
   simp only[Zj T2]at this
   exact this)
  refine⟨by rw[nh, <-G, <-X],ml O Y, ?_⟩
  intro x d
  rcases Zr.1 d with e|e
  ·exact P x e
  ·exact Z x e
def nC{α g:Type}{f:α->Option g}:∀{k:List α}{r:List g},k.mapM f=some r->r.length=k.length/\∀(i:Nat) (a:α) (b:g),k[i]? =some a->r[i]? =some b->f a=some b:=by
 intro k
 induction k with
 |nil=>intro r e;simp at e;subst e;simp
 |cons a k V=>
  intro r e
  simp only[zb,Option.bind_eq_bind,ZX]at e
  obtain⟨b,ab,t,M,e⟩:=e
  simp at e;subst e
  obtain⟨p,s⟩:=V M
  refine⟨by simp[p],λi m n c d=> ?_⟩
  cases i with
  |zero=>simp at c d;subst c;subst d;exact ab
  |succ i=>exact s i m n (by simpa using c) (by simpa using d)
def yH{α d:Type}{f:α->Option d}{a:α}{k:List α}{r:List d}(e:(a::k).mapM f=some r):∃b c,r=b::c/\f a=some b/\k.mapM f=some c:=by
 simp only[zb,Option.bind_eq_bind,ZX]at e
 obtain⟨b,ab,c,M,e⟩:=e
 simp at e;subst e
 exact⟨b,c,rfl,ab,M⟩
def ir.of{bH df:List MemPlace}(e:ir w bH)(a:∀x∈df,x∈bH):ir w df:=λb off ab=>e b off (a _ ab)
def qK(C:aC)(w:World)(next:Nat->DataW Unit->Nat->fb)(dj:TypeId->List Value->Option (DataW Unit×List MemPlace)):Prop:=
 ∀t d n r,next t d n=some r->∀cs bH,dj t cs=some (d,bH)->ir w bH->Lays C w n cs r
variable{next:Nat->DataW Unit->Nat->fb}{dj:TypeId->List Value->Option (DataW Unit×List MemPlace)}
def Hw(s:qK C w next dj){cs:List Value}:∀(eL:List Field) (ds:List (DataW Unit)) (off n:Nat) (r:List y×Nat×List (Nat×ae)),ny P next eL ds off n=some r->
 ∀b:List (DataW Unit×List MemPlace),(eL.mapM λf=>dj f.type ((cs.drop f.offset).take (P.cellsOf f.type)))=some b->b.map (·.1)=ds->ir w (b.flatMap (·.2))->Lays C w n ((cs.drop off).take r.1.length) r:=by
 intro eL
 induction eL with
 |nil=>
  intro ds off n r e b _ _ _
  cases ds with
  |nil=>simp[ny]at e;subst e;exact .plain λA F=>⟨by simp[aU],trivial⟩
  |cons d ds=>simp[ny]at e
 |cons f eL V=>
  intro ds off n r e b a c m
  cases ds with
  |nil=>simp[ny]at e
  |cons d ds=>
   simp only[ny,cg]at e
   obtain⟨g,e⟩:=e
   have g:=Zh g
   split at e
   ·rename_i k aL os M
    simp only[cg]at e
    obtain⟨au,e⟩:=e
    have au:=Zh au
    split at e
    ·rename_i X aR Y t
     simp at e;subst e
     obtain⟨G,O,rfl,v,z⟩:=yH a
     simp at c
     obtain⟨rfl,c⟩:=c
     have i:=s _ _ _ _ M _ G.2 (by rw[v]) (m.of (by intro x a;simp;exact .inl a))
     have p:=V ds (off+k.length) aL _ t O z c (m.of (by intro x a;simp only[za,Zr];exact .inr a))
     rw[g, <-au]at i
     have:=i.app p
     simp only[ZT]
     rw[List.take_add,List.drop_drop]
     exact this
    ·simp at e
   ·simp at e
def xV(cs:List Value)(o:Nat):∀(m i0:Nat),(List.range' i0 m).flatMap (λi=>(cs.drop (i*o)).take o)=(cs.drop (i0*o)).take (m*o):=by
 intro m
 induction m with
 |zero=>intro i0;simp
 |succ m V=>
  intro i0
  rw[List.range'_succ,za,V,Z7 m 1 o,Nat.one_mul,zs (m*o) o,List.take_add,List.drop_drop,Z7 i0 1 o,Nat.one_mul]
def yn(t:qK C w next dj){l:Nat}{g:Nat->List Value}:∀(ds:List (DataW Unit)) (i0 n:Nat) (r:List y×Nat×List (Nat×ae)),oN P next l ds n=some r->
 ∀b:List (DataW Unit×List MemPlace),((List.range' i0 ds.length).mapM λi=>dj l (g i))=some b->b.map (·.1)=ds->ir w (b.flatMap (·.2))->Lays C w n ((List.range' i0 ds.length).flatMap g) r/\r.1.length=ds.length*P.cellsOf l:=by
 intro ds
 induction ds with
 |nil=>
  intro i0 n r e b _ _ _
  simp[oN]at e;subst e
  exact⟨.plain λA F=>⟨by simp[aU],trivial⟩,Zs⟩
 |cons d ds V=>
  intro i0 n r e b a c f
  simp only[oN]at e
  split at e
  ·rename_i k aL os M
   simp only[cg]at e
   obtain⟨au,e⟩:=e
   have au:=Zh au
   split at e
   ·rename_i Y aR Z v
    simp at e;subst e
    simp only[ZC,List.range'_succ]at a
    obtain⟨O,X,rfl,z,G⟩:=yH a
    simp at c
    obtain⟨rfl,c⟩:=c
    have m:=t _ _ _ _ M _ O.2 (by rw[z]) (f.of (by intro x a;simp;exact .inl a))
    obtain⟨p,s⟩:=V (i0+1) aL _ v X G c (f.of (by intro x a;simp only[za,Zr];exact .inr a))
    refine⟨?_, ?_⟩
    ·simp only[ZC,List.range'_succ,za]
     exact m.app p
    ·simp only[ZT,ZC,s,au,zr]
     omega
   ·simp at e
  ·simp at e
end
end
end Go.S

