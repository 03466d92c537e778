/- Part of the proof of the last text; no conditions -/
import Derived.Test.YtmipngjbcdamjaaGreatDoorYd
import Derived.RangeFuncRecord
import Derived.Orders
import Derived.ChangeReads
import GoSem.ClaimJoined
set_option maxHeartbeats 8000000
set_option linter.all false
namespace Go.Q
open Go.RowKit (Below)
section
variable{C:ax}{u bD bV:bC}{D bq b6:Nat->Prop}{S B:F ac}{nx nx' az:Nat}{w aK:World}{n aa:Nat}{ab:Array Oper}
variable{aF:World}{aO:Nat}{aU:List Frame}{v:q}{U:dG}
variable{fn:Nat}{av:List dI}{am:Bool}{ro:Option Nat}{cs:List dn}{y:F q}{tmps:Array Value}{aD:List Item}{T:List Frame}{aC ai:Nat}
structure ec(C:ax)(aF:World)(aO:Nat)(aU:List Frame)(fn aa:Nat)(av:List dI)(am:Bool)(ro:Option Nat)(cs:List dn)(S:F ac)(nx:Nat)(u:bC)(D:Nat->Prop)(w:World)(bs:Nat)(T:List Frame):Prop where
 K:bA C u D S nx aF.heap.size w
 fc:Below aF.heap.size aF w
 dP:ip C u D
 eH:bs<=nx
 dO:jM C D fn aa av ro
 bot:cs=[]->fn=aO/\am=false/\ro=none
 cs:gO C u D S aO aU bs cs T
def ec.cp{bs:Nat}(e:ec C aF aO aU fn aa av am ro cs S nx u D w bs T):aF.heap.size<=w.heap.size:=e.fc.size
def ec.ext{bs:Nat}(e:ec C aF aO aU fn aa av am ro cs S nx u D w bs T)(K:bA C bD bq B nx' aF.heap.size aK)(a:dU C bs u D S aF.heap.size w bD bq B aK)(b:nx<=nx'):
 ec C aF aO aU fn aa av am ro cs B nx' bD bq aK bs T:=
 ⟨K,e.fc.trans a.below,e.dP.R a.dX a.ef,ZD e.eH b,e.dO.R a.ef,e.bot,e.cs.R a⟩
def ec.state{bs:Nat}{todo:List bS}(e:ec C aF aO aU fn aa av am ro cs S nx u D w bs T)(a:m1 C u D S bs nx n aa y tmps todo aD):
 m0 C aF aO aU .run todo fn n aa av am ro cs y S nx u D w bs tmps aD T:=⟨e.K,e.fc,e.dP,e.eH,e.dO,trivial,e.bot,e.cs,a⟩
def m0.Ek{todo:List bS}{bs:Nat}(e:m0 C aF aO aU .run todo fn n aa av am ro cs y S nx u D w bs tmps aD T):ec C aF aO aU fn aa av am ro cs S nx u D w bs T/\m1 C u D S bs nx n aa y tmps todo aD:=
 ⟨⟨e.K,e.fc,e.dP,e.eH,e.dO,e.bot,e.cs⟩,e.todo⟩
def gO.inv{bs ah:Nat}{todo:List bS}{aS:fa}(e:gO C u D S aO aU bs (⟨fn,ah,aa,y,todo,av,aS,am,ro⟩::cs) T):
 ∃aC tmps aD a,T=bd u fn av am ro tmps aD (de u aS)::a/\lZ C u D S aC bs ah aa y tmps aS todo aD/\hI D aS/\jM C D fn aa av ro/\(cs=[]->fn=aO/\am=false/\ro=none)/\aC<=bs/\gO C u D S aO aU aC cs a:=by
 cases e with
 |cons b i c d f g=>exact⟨_,_,_,_,rfl,b,i,c,d,f,g⟩
def xC(G:gc C aF aO aU U){f:Nat}{args:List q}{bs:Nat}{nc:Bool}{b:List dn}{d:List Frame}(K:bA C u D S nx aF.heap.size w)(Y:Below aF.heap.size aF w)(dP:ip C u D)(ap:bs<=nx)
 (x:gO C u D S aO aU bs b d)(i:b=[]->f=aO/\nc=false)(n:ca D args)(e:hi U C f args nc b S nx=some v):Ends C aF aO aU v (lone (Frame.enter C.P f (aR u args).toArray (if nc then .deferred else .normal)) d w):=by
 unfold hi at e
 split at e
 ·rename_i func m
  split at e
  ·rename_i c s
   simp only[fX,ce,Zq]at e
   obtain⟨⟨⟨g,p⟩,r⟩,e⟩:=e
   have g:=ep g
   have z:Frame.enter C.P f (aR u args).toArray (if nc then .deferred else .normal)=bd u f [] nc none ((aR u args).toArray++Array.replicate (func.ntmps-args.length) Go.undef) [.code c] (de u .run):=by
    simp[Frame.enter,bd,de,m,s,eF]
   rw[z]
   refine G _ _ _ _ _ _ _ _ _ _ _ _ v e u D w bs _ _ d ?_
   refine⟨K,Y,dP,ap,⟨Zs,Zs,func,m,r⟩,trivial,λj=>⟨(i j).1,(i j).2,rfl⟩,x, .plain (.cons (.code p) .nil) ⟨?_, ?_⟩⟩
   ·simp[eF];omega
   ·intro t L _ a
    rw[fD]at a
    have O:t<args.length:=(Zf.1 a).1
    refine⟨?_,mj n a⟩
    rw[Ys (by simpa[eF]using O)]
    simp[mb,a]
  ·simp at e
 ·simp at e
def rl(i:gc C aF aO aU U){f:Nat}{args:List q}{bs:Nat}{a:List dn}{b:List Frame}(K:bA C u D S nx aF.heap.size w)(Y:Below aF.heap.size aF w)(dP:ip C u D)(ap:bs<=nx)
 (g:gO C u D S aO aU bs a b)(d:a=[]->f=aO)(c:ca D args)(e:hi U C f args false a S nx=some v):Ends C aF aO aU v (lone (Frame.enter C.P f (aR u args).toArray .normal) b w):=
 xC (nc:=false) i K Y dP ap g (λj=>⟨d j,rfl⟩) c e
def oE(r:gc C aF aO aU U){a:bS}{k:List bS}{L:q}(m:ec C aF aO aU fn aa av am ro cs S nx u D w aC T)(s:fU C u D S aC ai n aa y tmps (a::k) aD)(p:ai<=nx)(i:ba D L)
 (e:(match gX a L with|some b=>U .run (b::k) ⟨fn,n,aa,av,am,ro,cs⟩ y S nx|none=>none)=some v):
 Ends C aF aO aU v (lone ((bd u fn av am ro tmps aD .run).finish (af u L)) T w):=by
 obtain⟨x,z,b,t,c0,c,d,f,g⟩:=FU (fn:=fn) (av:=av) (am:=am) (ro:=ro) (mode:= .run) s p i
 cases c
 rw[d]at e
 rw[f]
 exact r _ _ _ _ _ _ _ _ _ _ _ _ v e u D w aC t c0 T (m.state g)
def He{f:Nat}{args:List q}{L:q}(c:Env C aF bV b6)(Y:Below aF.heap.size aF w)(g:C.dv f args=some L):
 (
  (∀a,(callFunc f (aR a args).toArray).run C.P w= .ok (.value (af a L)) w)\/
  ((∀a,(callFunc f (aR a args).toArray).run C.P w= .ok (.enter f (aR a args).toArray) w)/\∀a,Calls C.P f (aR a args).toArray w λj aK=>j= .returned (af a L)/\Below w.heap.size w aK))/\∀bk,ba bk L:=by
 obtain⟨⟨d,i⟩,b,p⟩:=c.dv.val f args L g
 refine⟨?_,i⟩
 rcases c.dv.ok f args L g bV w Y with e|⟨m,n⟩
 ·left;intro a;rw[b a bV,d a bV];exact e
 ·right;exact⟨λa=>by rw[b a bV];exact m,λa=>by rw[b a bV,d a bV];exact n⟩
mutual
def su:∀(d:Nat) (x c:q),q.same d x c=true->x=c
 |0,_,_,e=>by simp[q.same]at e
 |d+1,x,c,e=>by
  unfold q.same at e
  split at e<;>(try(cases e;done))
  ·simp at e;rw[e]
  ·simp at e;rw[e.1,e.2]
  ·rw[(qf _ _).1 e]
  ·simp only[Zq]at e;rw[Zh e.1,Zh e.2]
  ·rfl
  ·simp only[Zq]at e;rw[Zh e.1.1.1,Zh e.1.1.2,Zh e.1.2,Zh e.2]
  ·simp only[Zq]at e;rw[Zh e.1.1.1,Zh e.1.1.2,Zh e.1.2,Zh e.2]
  ·rfl
  ·rw[Zh e]
  ·rfl
  ·simp only[Zq,Zc]at e
   rw[e.1.1,qt d _ _ e.1.2,qt d _ _ e.2]
  ·rfl
  ·simp only[Zq]at e;rw[Zh e.1,su d _ _ e.2]
  ·rfl
  ·rw[qt d _ _ e]
  ·rw[qt d _ _ e]
def qt:∀(d:Nat) (x c:List q),ju (q.same d) x c=true->x=c
 |_,[],[],_=>rfl
 |_,[],_::_,e=>by simp[ju]at e
 |_,_::_,[],e=>by simp[ju]at e
 |d,a::x,b::c,e=>by
  simp only[ju,Zq]at e
  rw[su d _ _ e.1,qt d _ _ e.2]
end
def Ends.same{bI:Machine}{a:q}(f:∀u,af u a=af u v)(e:Ends C aF aO aU a bI):Ends C aF aO aU v bI:=by
 obtain⟨u,aK,fr,b,c,d⟩:=e
 exact⟨u,aK,fr,b,by rw[<-f];exact c,d⟩
def Ge{d:bS}{k:List bS}{ar:dZ}:∀(h:List (q×F ac)) (v:q),k1 U d k ar y nx h=some v->∀L B,(L,B)∈h->
 ∃c,(match gX d L with|some f=>U .run (f::k) ar y B nx|none=>none)=some c/\∀u,af u c=af u v:=by
 intro h
 induction h with
 |nil=>intro v e;simp[k1]at e
 |cons p h t=>
  intro v e L B b
  obtain⟨a,z⟩:=p
  cases h with
  |nil=>
   simp only[k1]at e
   simp at b
   obtain⟨rfl,rfl⟩:=b
   exact⟨v,e,λ_=>rfl⟩
  |cons J h=>
   simp only[k1]at e
   split at e
   ·rename_i f m
    split at e
    ·rename_i x w r s
     simp only[ce,Zu]at e
     obtain⟨n,rfl⟩:=e
     rcases Zz.1 b with j|b
     ·cases j
      exact⟨x,by rw[m];exact r,λ_=>rfl⟩
     ·obtain⟨c,g,i⟩:=t w s L B b
      exact⟨c,g,λu=>by rw[i u,su _ _ _ n]⟩
    ·simp at e
   ·simp at e
def Lg{L:q}{bG:List dn}{bs:Nat}{aD:List Item}(s:gO C u D S aO aU bs cs T)(e:mN am cs=some (L,bG)):
 ∃a,gO C u D S aO aU bs bG a/\ba D L/\(bG=[]->cs=[])/\
  (Go.tryRecover (bd u fn av am none tmps aD .run) T=some (af u L,a)\/(Go.tryRecover (bd u fn av am none tmps aD .run) T=none/\af u L= .nilIface/\a=T)):=by
 unfold mN at e
 rw[cK]at e
 cases am with
 |false=>
  simp at e
  obtain⟨rfl,rfl⟩:=e
  exact⟨T,s,trivial,id, .inr ⟨by simp[Go.tryRecover,bd],rfl,rfl⟩⟩
 |true=>
  simp only[ZP]at e
  cases cs with
  |nil=>simp at e
  |cons c rest=>
   obtain⟨g,ah,x,w,z,f,b,d,m⟩:=c
   obtain⟨T5,n,c0,a,rfl,bc,bl,X,Z,T0,T1⟩:=s.inv
   have same:(L,bG)=(q.nilIface,(⟨g,ah,x,w,z,f,b,d,m⟩:dn)::rest)->(∀v i,de u b≠ .panicking (⟨v,false,false⟩::i))->
    ∃r,gO C u D S aO aU bs bG r/\ba D L/\(bG=[]->(⟨g,ah,x,w,z,f,b,d,m⟩:dn)::rest=[])/\
     (Go.tryRecover (bd u fn av true none tmps aD .run) (bd u g f d m n c0 (de u b)::a)=some (af u L,r)\/
      (Go.tryRecover (bd u fn av true none tmps aD .run) (bd u g f d m n c0 (de u b)::a)=none/\af u L= .nilIface/\r=bd u g f d m n c0 (de u b)::a)):=by
    intro j T4
    simp only[Y5]at j
    obtain⟨rfl,rfl⟩:=j
    refine⟨_,s,trivial,λj=>(by cases j), .inr ⟨?_,rfl,rfl⟩⟩
    simp only[Go.tryRecover,bd,ZP]
   simp only at e
   split at e
   ·rename_i v i
    simp only[Zu,Y5]at e
    obtain⟨rfl,rfl⟩:=e
    have O:hI D (.panicking (⟨v,true⟩::i)):=by
     intro p t
     rcases Zz.1 t with rfl|t
     ·exact bl ⟨v,false⟩ (Zl ..)
     ·exact bl p (Zi _ t)
    refine⟨bd u g f d m n c0 (de u (.panicking (⟨v,true⟩::i)))::a, .cons (aS:= .panicking (⟨v,true⟩::i)) bc O X Z T0 T1,bl ⟨v,false⟩ (Zl ..),λj=>(by cases j), .inl ?_⟩
    simp[Go.tryRecover,bd,de,iO]
   ·rename_i P
    simp only[Zu]at e
    refine same e.symm λv i j=> ?_
    cases b with
    |run=>cases j
    |returning=>cases j
    |panicking G=>
     cases G with
     |nil=>cases j
     |cons p bE=>
      obtain⟨T3,T2⟩:=p
      cases T2 with
      |true=>simp[de,iO]at j
      |false=>exact P T3 bE rfl
def Kg{ah:Nat}:∀(bE:List Nat) (b:List q) (y c:F q) (tmps:Array Value),eo u D ah aa y tmps->ca D b->ko ah bE b y=some c->
 bE.length=b.length/\eo u D ah aa c ((bE.zip (aR u b)).foldl (λtmps p=>tmps.setIfInBounds p.1 p.2) tmps):=by
 intro bE
 induction bE with
 |nil=>
  intro b y c tmps d _ e
  cases b with
  |nil=>simp[ko]at e;subst e;exact⟨rfl,by simpa[aR]using d⟩
  |cons a b=>simp[ko]at e
 |cons p bE s=>
  intro b y c tmps d n e
  cases b with
  |nil=>simp[ko]at e
  |cons a b=>
   simp only[ko,ce]at e
   obtain⟨m,e⟩:=e
   have m:=e0 m
   have r:eo u D ah aa (y.set p (some a)) (tmps.setIfInBounds p (af u a)):=by
    refine⟨by simp[d.size],λt L ap f=> ?_⟩
    rw[F.gj]at f
    by_cases j:p=t
    ·subst j
     simp at f;subst f
     exact⟨by simp[d.size,m],n.1⟩
    ·simp[j]at f
     obtain⟨g,i⟩:=d.val t L ap f
     exact⟨by rw[Array.getElem?_setIfInBounds_ne j];exact g,i⟩
   obtain⟨g,i⟩:=s b _ c _ r n.2 e
   exact⟨by simp[g],by simpa[aR]using i⟩
def wX(U9:Env C aF bV b6)(z:gc C aF aO aU U){T5:bS}{k:List bS}{i:Nat}{h:List Nat}{A:Oper}{r:bY}(c:ec C aF aO aU fn aa av am ro cs S nx u D w aC T)
 (O:fU C u D S aC ai n aa y tmps (T5::k) (.inRegion ab (i::h)::aD))(Z:aC<=ai)(x:ai<=nx)(G:ab[i]? =some A)(P:Region.wanted A (yielded ab tmps)=true)
 (s:dM C u D S nx aF.heap.size w (execOp (e9 tmps) A) r)(e:gy r U C T5 k ⟨fn,n,aa,av,am,ro,cs⟩ y S nx=some v):
 Ends C aF aO aU v (lone (bd u fn av am ro tmps (.inRegion ab (i::h)::aD) .run) T w):=by
 have UH:aC<=nx:=ZD Z x
 have done:∀v L B nx',lT C u D S nx aF.heap.size w (execOp (e9 tmps) A) L B nx'->(match gX T5 L with|some UN=>U .run (UN::k) ⟨fn,n,aa,av,am,ro,cs⟩ y B nx'|none=>none)=some v->
  Ends C aF aO aU v (lone (bd u fn av am ro tmps (.inRegion ab (i::h)::aD) .run) T w):=by
  intro v L B nx' X e
  obtain⟨bD,bq,aK,gr,U5,U6,U7,U8,T0,T7⟩:=X
  have UM:gr= .value (af bD L)\/(gr= .skip/\af bD L=Go.undef):=U6.imp id λ⟨a,b⟩=>⟨a,by rw[b];rfl⟩
  refine .head (nX G P U5 UM) ?_
  rw[<-oS T0.dX c.dO]
  exact oE z (c.ext U8 (T0.mono UH) T7) (O.R (T0.mono x)) (ZD x T7) U7 e
 cases r with
 |val L=>exact done v L S nx s e
 |cu L B nx'=>exact done v L B nx' s e
 |enter f args=>
  obtain⟨m,g⟩:=s
  refine .head (AQ G P m) ?_
  simp only[gy]at e
  refine rl z c.K c.fc c.dP x ?_ (λj=>by simp[nY]at j) g e
  exact .cons (aS:= .run) O trivial c.dO c.bot Z c.cs
 |known f args L=>
  obtain⟨m,g,T3⟩:=s
  obtain⟨T4,T9⟩:=He U9 c.fc m
  simp only[gy]at e
  rcases T4 with T4|⟨UE,UF⟩
  ·rw[T4 u]at g
   refine .head (nX G P g (.inl rfl)) ?_
   exact oE z c O x (T9 D) e
  ·rw[UE u]at g
   refine .head (AQ G P g) ?_
   obtain⟨j,aK,fr,⟨rfl,TY⟩,UL,_,UG⟩:=UF u (bd u fn av am ro tmps (.inRegion ab (i::h)::aD) .run::T)
   refine .steps UL (.head (step_leave_returned UG) ?_)
   have U1:dU C ai u D S aF.heap.size w u D S aK:=⟨λ_ _=>rfl,λ_ e=>e,λ_ e=> .inl e,λ_ _ _=>rfl,TY.mono c.cp⟩
   exact oE z (c.ext (c.K.later TY) (U1.mono Z) (Zp _)) (O.R U1) x (T9 D) e
 |round b args=>
  obtain⟨m,g,T3⟩:=s
  simp only[gy]at e
  split at e
  ·rename_i st Ua T8 ah UX U2 params assign body UV UJ
   split at e
   ·rename_i U3 UC
    obtain⟨T6,eN,lp,UY,UP,UQ,UZ,UR⟩:=c.K.obj b _ UJ T3
    obtain⟨US,UT⟩:=Kg params args U2 U3 T6 lp g UC
    rw[run_yield eN (by simp[eF,US])]at m
    refine .head (KQ G P m) ?_
    have TZ:Frame.round (u b).a8 T8 (((params.toArray).zip (aR u args).toArray).foldl (λtmps (t,a)=>tmps.setIfInBounds t a) T6) assign body .normal=
     bd u T8 [] false (some b) ((params.zip (aR u args)).foldl (λtmps p=>tmps.setIfInBounds p.1 p.2) T6) [.code assign, .beginRound, .code body] (de u .run):=by
     simp[Frame.round,bd,de]
    simp only at TZ ⊢
    rw[TZ]
    refine z _ _ _ _ _ _ _ _ _ _ _ _ v e u D w ai _ _ _ ?_
    refine⟨c.K,c.fc,c.dP,x,⟨Zs,λh ap=>(by cases ap;exact T3),UR⟩,trivial,λj=>by simp[nY]at j, .cons (aS:= .run) O trivial c.dO c.bot Z c.cs, ?_⟩
    exact .plain (.cons (.code UP) (.cons .begin (.cons (.code UQ) .nil))) UT
   ·simp at e
  ·simp at e
 |defer d=>
  obtain⟨m,g⟩:=s
  simp only[gy]at e
  cases ro with
  |some b=>simp at e
  |none=>
   simp only at e
   refine .head (KC G P m) ?_
   have UD:jM C D fn aa (d::av) none:=⟨λU4 X=>by
    rcases Zz.1 X with rfl|X
    ·exact g
    ·exact c.dO.av U4 X,c.dO.ro,c.dO.fn⟩
   exact oE (L:=undef) z ⟨c.K,c.fc,c.dP,c.eH,UD,c.bot,c.cs⟩ O x trivial e
 |recover=>
  simp only[gy]at e
  cases ro with
  |some b=>simp at e
  |none=>
   simp only at e
   split at e
   ·rename_i L bG UK
    obtain⟨UW,T1,T2,UA,UB⟩:=Lg (fn:=fn) (av:=av) (tmps:=tmps) (aD:= .inRegion ab (i::h)::aD) c.cs UK
    refine .head (KM G P s UB) ?_
    exact oE (L:=L) z ⟨c.K,c.fc,c.dP,c.eH,c.dO,λj=>c.bot (UA j),T1⟩ O x T2 e
   ·simp at e
 |panic L=>
  obtain⟨m,g⟩:=s
  simp only[gy]at e
  cases ro with
  |some b=>simp at e
  |none=>
   simp only at e
   refine .head (KL G P m) ?_
   refine z _ _ _ _ _ _ _ _ _ _ _ _ v e u D w aC tmps _ T ?_
   exact⟨c.K,c.fc,c.dP,c.eH,c.dO,λp U0=>by simp at U0;subst U0;exact g,c.bot,c.cs,O.drop⟩
 |fork UO=>
  obtain⟨L,B,UI,X⟩:=s
  simp only[gy]at e
  obtain⟨UU,T1,T2⟩:=Ge UO v e L B UI
  exact .same T2 (done UU L B nx X T1)
def yH{A:Op}{c:Operand->Option q}{b:Nat}{L:q}{bJ:ac}{bk:Nat->Prop}(e:hD A C c b=some (L,bJ)):je C bk bJ:=by
 have key:∀h:List q,je C bk (.cells (F.ofList h 0 .nil) h.length .own):=λh=>⟨λ_ _ _ e=>(by cases e),λ_ _ _ e=>(by cases e;exact oT)⟩
 have a:je C bk (.map [] 0):=⟨λ_ _ _ e=>(by cases e),λ_ _ _ e=>(by cases e)⟩
 cases A<;>simp only[hD]at e<;>(try(cases e;done))
 case alloc t=>unfold ny at e;split at e<;>simp at e;rw[<-e.2];exact key _
 case box t x=>unfold p5 at e;split at e<;>simp at e;rw[<-e.2];exact key _
 case buildSlice t len parts=>
  unfold p6 at e
  split at e
  ·split at e
   ·simp only[ce]at e
    obtain⟨_,e⟩:=e
    split at e<;>simp at e
    rw[<-e.2];exact key _
   ·simp at e
  ·simp at e
 case makeMap t r=>cases r<;>simp at e;rw[<-e.2];exact a
def Fg{i:Nat}(ai:ab.toList.drop i=[]):ab.size<=i:=by simpa using ai
def FY{aa:Nat}{V:List (Nat×q)}:∀(h:List Oper) (i:Nat) (wr:List (Nat×Nat)) (b y a:F q),(∀t,cB aa t=true->y.get t=match cd wr t with|some E=>cd V E|none=>b.get t)->
 kY V (ff aa h i) y=some a->∀t,cB aa t=true->a.get t=match cd (jI h i wr) t with|some E=>cd V E|none=>b.get t:=by
 intro h
 induction h with
 |nil=>intro i wr b y a f e;simp[ff,kY]at e;subst e;exact f
 |cons A h U=>
  intro i wr b y a f e
  simp only[ff]at e
  simp only[jI]
  split at e
  ·rename_i d g
   rw[cK]at e
   split at e
   ·rename_i Y
    simp only[kY]at e
    split at e
    ·rename_i L m
     simp only[dB]at e
     refine U (i+1) _ b _ a (λt c=> ?_) e
     rw[F.gj,oe,g]
     by_cases j:d=t
     ·subst j;simp[m]
     ·simp[j];exact f t c
    ·simp at e
   ·rename_i Y
    refine U (i+1) _ b _ a (λt c=> ?_) e
    rw[oe,g]
    have j:d≠t:=λj=>Y (by rw[j];exact c)
    simp[j];exact f t c
  ·rename_i g
   refine U (i+1) _ b _ a (λt c=> ?_) e
   rw[oe,g]
   simp;exact f t c
def xN{V:List (Nat×q)}{y a:F q}(f:gS u D aa (λ_=>True) (dY ab ab.size) V y tmps)(c:tmps.size=n)(e:kY V (ff aa ab.toList 0) y=some a):eo u D n aa a tmps:=by
 refine⟨c,λt L ap d=> ?_⟩
 have:=FY (aa:=aa) (V:=V) ab.toList 0 [] y y a (λ_ _=>rfl) e t ap
 rw[d]at this
 apply f t L trivial
 have j:dY ab ab.size=jI ab.toList 0 []:=by unfold dY;rw[Zt Zs]
 rw[j]
 cases b:cd (jI ab.toList 0 []) t with
 |some E=>rw[b]at this;exact this.symm
 |none=>rw[b]at this;exact⟨ap,this.symm⟩
def AG(T9:Env C aF bV b6)(TZ:gc C aF aO aU U){k:List bS}{fin:List (Nat×Nat)}:∀(rest:List cA) (V:List (Nat×q)) (S:F ac) (nx:Nat) (u:bC) (D:Nat->Prop) (w:World) (tmps:Array Value) (h:List Nat) (T:List Frame),
 ec C aF aO aU fn aa av am ro cs S nx u D w aC T->fv C u D aa k aD->sY C u D n aa ab V rest fin y tmps h->
 ly rest ⟨U,ab,fin,k,⟨fn,n,aa,av,am,ro,cs⟩⟩ C y V S nx=some v->Ends C aF aO aU v (lone (bd u fn av am ro tmps (.inRegion ab h::aD) .run) T w):=by
 intro rest
 induction rest with
 |nil=>
  intro V S nx u D w tmps h T d z T7 e
  obtain⟨i,ai,rfl,t,rfl,m,P⟩:=T7
  have UQ:ab.size<=i:=by
   cases s:ab.toList.drop i with
   |nil=>exact Fg s
   |cons A UK=>
    rw[s]at t
    obtain⟨_,_,r,_,_,_,_,_,j⟩:=tf t
    cases j
  have:i=ab.size:=Zo
  subst this
  simp only[YV,List.range'_zero]
  have c:py ⟨U,ab,ff aa ab.toList 0,k,⟨fn,n,aa,av,am,ro,cs⟩⟩ C y V S nx=some v:=e
  simp only[py,rs,gL]at c
  split at c
  ·rename_i UO UC
   refine .head AS ?_
   exact TZ _ _ _ _ _ _ _ _ _ _ _ _ v c u D w aC tmps aD T (d.state (.plain z (xN m P UC)))
  ·simp at c
 |cons x rest T2=>
  intro V S nx u D w tmps h T d z T7 e
  obtain⟨i,ai,rfl,t,rfl,m,P⟩:=T7
  cases s:ab.toList.drop i with
  |nil=>rw[s]at t;simp[iv]at t
  |cons A UK=>
   rw[s]at t
   obtain⟨g,op,r,U1,Z,U2,U3,T3,j⟩:=tf t
   cases j
   obtain⟨f,U4,UP⟩:=tu s
   rw[<-qz f, <-U4]at T3
   have UE:List.range' i (ab.size-i)=i::List.range' (i+1) (ab.size-(i+1)):=by
    rw[show ab.size-i=(ab.size-(i+1))+1 by omega,List.range'_succ]
   rw[UE]
   have TY:=xw U2
   have T1:∀(bD:bC) (bq:Nat->Prop) (L:q),gS bD bq aa (λ_=>True) (dY ab i) V y tmps->ba bq L->sY C bD bq n aa ab ((i,L)::V) rest (ff aa ab.toList 0) y (hs tmps A.dst (af bD L)) (List.range' (i+1) (ab.size-(i+1))):=by
    intro bD bq L UG UB
    exact⟨i+1,Zo,rfl,T3,rfl,UG.put f (by rw[P];exact TY) UB,by rw[sn];exact P⟩
   have T0:∀(bD:bC) (L:Value),(bd bD fn av am ro tmps (.inRegion ab (i::List.range' (i+1) (ab.size-(i+1)))::aD) .run).finish L=bd bD fn av am ro (hs tmps A.dst L) (.inRegion ab (List.range' (i+1) (ab.size-(i+1)))::aD) .run:=by
    intro bD L
    rw[ru (g:=bd bD fn av am ro tmps _ .run) rfl f];rfl
   have c:nJ i g op rest (ly rest) ⟨U,ab,ff aa ab.toList 0,k,⟨fn,n,aa,av,am,ro,cs⟩⟩ C y V S nx=some v:=e
   simp only[nJ,sC,gL]at c
   split at c
   ·rename_i wd UJ
    have X:=sG ai U1 m (λ_ _ _ _ _=>trivial) (Sub.refl V) UJ
    cases wd with
    |false=>
     simp only[ZR,ZM]at c
     refine .head (u7 f X) ?_
     rw[T0]
     exact T2 _ _ _ _ _ _ _ _ _ d z (T1 u D undef m trivial) c
    |true=>
     simp only[ZP]at c
     have T5:ee u D (e9 tmps) (eg (dY ab i) V y) A.op.operands.toList:=xG m (λ_ _=>trivial) U3 d.dP
     rw[sc]at c
     cases iy:fZ op with
     |dT=>
      simp only[iy,gL]at c
      split at c
      ·rename_i L UF
       obtain⟨aE,aW⟩:=yy d.K T5 Z UF
       refine .head (nX f X aE (.inl rfl)) ?_
       rw[T0]
       exact T2 _ _ _ _ _ _ _ _ _ d z (T1 u D L m aW) c
      ·simp at c
     |make=>
      simp only[iy,gL]at c
      split at c
      ·rename_i T8 G
       simp only[rZ,fX]at G
       split at G
       ·rename_i L bJ U0
        simp only[dB,Zu]at G
        subst G
        have T6:=ib d.K
        obtain⟨ft,UL,UM,UN⟩:=yG (w:=w) (u:=u) T6 T5 (r0 Z U0)
        have p:dU C aC u D S aF.heap.size w (cZ u nx ⟨w.heap.size,0,0⟩) (add D nx) (aP C S nx (some bJ)) (w.alloc ft):=
         ⟨hU T6,λ_ e=> .inl e,λx e=>e.elim .inl (λe=> .inr (zu d.eH)),λx p UR=>by rw[cr _ d.K.aN,Zj (zu d.eH)],Below.alloc (Below.refl _ _) d.cp _⟩
        have UD:=d.K.alloc d.K.aN (Yo _) (Ye _) T6 d.cp rfl (B:=aP C S nx (some bJ)) (by rw[cr _ d.K.aN,Zv rfl]) (λx p=> .inl (by rw[cr _ d.K.aN,Zj p])) UN (yH (r0 Z U0))
        refine .head (nX f X UL (.inl rfl)) ?_
        rw[T0, <-oS p.dX d.dO]
        exact T2 _ _ _ _ _ _ _ _ _ (d.ext UD p (Ye _)) (z.R p.dX p.ef) (T1 _ _ L (m.R p.dX p.ef) UM) c
       ·simp at G
      ·simp at c
     |cy=>
      simp only[iy,gL]at c
      split at c
      ·rename_i T8 G
       have T4:=ya d.K d.cp T9.eO T5 Z G
       have UI:fU C u D S aC nx n aa y tmps (.iG ab V i rest (ff aa ab.toList 0)::k) (.inRegion ab (i::List.range' (i+1) (ab.size-(i+1)))::aD):=
        .seq z ⟨A,f,TY,rfl,T3,rfl,m,P⟩
       have now:∀L B nx',lT C u D S nx aF.heap.size w (execOp (e9 tmps) A) L B nx'->ly rest ⟨U,ab,ff aa ab.toList 0,k,⟨fn,n,aa,av,am,ro,cs⟩⟩ C y ((i,L)::V) B nx'=some v->
        Ends C aF aO aU v (lone (bd u fn av am ro tmps (.inRegion ab (i::List.range' (i+1) (ab.size-(i+1)))::aD) .run) T w):=by
        intro L B nx' s e
        obtain⟨bD,bq,aK,gr,U5,U6,U7,U8,O,U9⟩:=s
        have UH:gr= .value (af bD L)\/(gr= .skip/\af bD L=Go.undef):=U6.imp id λ⟨a,b⟩=>⟨a,by rw[b];rfl⟩
        refine .head (nX f X U5 UH) ?_
        rw[T0, <-oS O.dX d.dO]
        exact T2 _ _ _ _ _ _ _ _ _ (d.ext U8 (O.mono d.eH) U9) (z.R O.dX O.ef) (T1 _ _ L (m.R O.dX O.ef) U7) e
       have UA:gy T8 U C (.iG ab V i rest (ff aa ab.toList 0)) k ⟨fn,n,aa,av,am,ro,cs⟩ y S nx=some v->Ends C aF aO aU v (lone (bd u fn av am ro tmps (.inRegion ab (i::List.range' (i+1) (ab.size-(i+1)))::aD) .run) T w):=
        λe=>wX T9 TZ d UI d.eH (Zp _) f X T4 e
       cases T8 with
       |val L=>exact now L S nx T4 c
       |cu L B nx'=>exact now L B nx' T4 c
       |_=>exact UA c
      ·simp at c
   ·simp at c
end
def EV{h:List Bool}(e:h.count false=0):∀b∈h,b=true:=by
 intro b Y
 cases b with
 |true=>rfl
 |false=>exact absurd Y (List.count_eq_zero.1 e)
def J8{ab:Array Oper}(C:nH ab.toList 0=true):∀(fuel t:Nat) (a:Array Bool),a.size=ab.size->a.toList.count false=fuel->
 jR ab (λi=>a.getD i false=true) (Region.linearise.go .any ab fuel t a []):=by
 intro fuel
 induction fuel with
 |zero=>
  intro t a w n
  simp only[Region.linearise.go,List.reverse_nil]
  refine .nil λi ai=> ?_
  have b:i<a.size:=Zo
  have:=EV n a[i] Zs
  simp[b,this]
 |succ fuel U=>
  intro t a w n
  simp only[Region.linearise.go]
  have G:∃i,i<ab.size/\a.getD i true=false:=by
   have r:false∈a.toList:=by
    rw[<-List.count_pos_iff];omega
   obtain⟨i,ai⟩:=ZZ.1 r
   have b:i<a.size:=by have:=(Zf.1 ai).1;simpa using this
   refine⟨i,Zo, ?_⟩
   rw[ZK]at ai
   simp[ai]
  have S:∃i,i<ab.size/\a.getD i true=false/\∀E,E<i->a.getD E false=true:=by
   have key:∀m,(∃i,i<m/\i<ab.size/\a.getD i true=false)->∃i,i<ab.size/\a.getD i true=false/\∀E,E<i->a.getD E false=true:=by
    intro m
    induction m with
    |zero=>rintro⟨i,e,_⟩;omega
    |succ m T0=>
     rintro⟨i,f,c,g⟩
     by_cases J:∃i,i<m/\i<ab.size/\a.getD i true=false
     ·exact T0 J
     ·have:i=m:=by
       rcases zg i m with e|e
       ·exact absurd ⟨i,e,c,g⟩ J
       ·omega
      subst this
      refine⟨i,c,g,λE O=> ?_⟩
      have b:E<a.size:=Zo
      cases Y:a[E]with
      |true=>simp[b,Y]
      |false=>exact absurd ⟨E,O,Zo,by simp[b,Y]⟩ J
   obtain⟨i,f,c⟩:=G
   exact key (i+1) ⟨i,Zo,f,c⟩
  obtain⟨i0,v,Z,z⟩:=S
  have X:i0∈Region.ready .any ab a:=by
   rw[mem_ready]
   refine⟨Z,ab[i0],Array.getElem?_eq_getElem v,λj p Y=> ?_⟩
   have:=IJ C i0 ab[i0] (by rw[ZK];exact Array.getElem?_eq_getElem v) j (by simpa using p) Y
   exact z _ Zo
  change jR ab _ (match (Region.ready .any ab a)[t%(Region.ready .any ab a).length]? with
   |some i=>Region.linearise.go .any ab fuel (t/(Region.ready .any ab a).length) (a.setIfInBounds i true) [i]
   |none=>[].reverse)
  have P:0<(Region.ready .any ab a).length:=List.length_pos_of_mem X
  have b:t%(Region.ready .any ab a).length<(Region.ready .any ab a).length:=zt _ P
  rw[Ze b]
  simp only[]
  generalize ai:(Region.ready .any ab a)[t%(Region.ready .any ab a).length]=i
  have r:i∈Region.ready .any ab a:=by rw[<-ai];exact List.getElem_mem b
  obtain⟨f,A,c,g⟩:=mem_ready.1 r
  have T1:i<ab.size:=(ZI.1 c).1
  have d:i<a.size:=Zo
  have s:a[i]=false:=by simpa[d]using f
  rw[linearise_go_acc,List.reverse_singleton,List.singleton_append]
  refine .cons c (by simp[d,s]) (λj p Y=>g j (by simpa using p) Y) ?_
  have x:add (λi=>a.getD i false=true) i=λE=>(a.setIfInBounds i true).getD E false=true:=by
   funext E
   apply propext
   unfold add
   by_cases j:E=i
   ·subst j;simp[d]
   ·rw[getD_set_ne false (λJ=>j J.symm)]
    simp[j]
  rw[x]
  refine U _ _ (by simpa using w) ?_
  rw[Array.toList_setIfInBounds,List.count_set (by simpa using d)]
  have:(a.toList[i]'(by simpa using d))=false:=by simpa using s
  simp[this,n]
def J9{ab:Array Oper}(a:nH ab.toList 0=true)(t:Nat):jR ab (λ_=>False) (Region.schedule true ab t):=by
 simp only[Region.schedule,Bool.true_or,ZP,Region.linearise]
 have:=J8 a ab.size t (Array.replicate ab.size false) Zs Zs
 have j:(λi=>(Array.replicate ab.size false).getD i false=true)=λ_=>False:=by
  funext i
  apply propext
  by_cases e:i<ab.size<;>simp[e]
 rw[j]at this
 exact this
section
variable{C:ax}{u bD bV:bC}{D bq b6:Nat->Prop}{S B:F ac}{nx nx' az:Nat}{w aK:World}{n aa:Nat}{ab:Array Oper}
variable{aF:World}{aO:Nat}{aU:List Frame}{v:q}{U:dG}
variable{fn:Nat}{av:List dI}{am:Bool}{ro:Option Nat}{cs:List dn}{y:F q}{tmps:Array Value}{aD:List Item}{T:List Frame}{aC ai:Nat}
def GS{op:eB}(b:fZ op= .dT)(a:mK op=false)(S B:F ac)(V:List (Nat×q))(y:F q):di op C S V y=di op C B V y:=by
 cases op<;>simp only[di]<;>(try rfl)<;>simp[mK]at a
 case dT a1 A=>cases A<;>simp[mK]at a<;>rfl
def hc.refl(S:F ac):hc C S S:=λ_=> .inl rfl
def hc.trans{ay aM a:F ac}(e:hc C ay aM)(k:hc C aM a):hc C ay a:=λx=>by
 rcases e x with e|e
 ·rcases k x with k|k
  ·exact .inl (e.trans k)
  ·exact .inr (e.trans k)
 ·exact .inr e
def yv(S:F ac):hc C .nil S:=by
 intro b
 unfold H
 rw[cK,cK]
 split
 ·exact .inl rfl
 ·exact .inr rfl
def E6{base:Nat}(U5:C.aN<=base):∀(h:List cA) (V:List (Nat×q)) (S:F ac) (c:List (Nat×q)) (B:F ac),(h.Pairwise λa b=>a.i≠b.i)->(∀x∈h,cd V x.i=none/\H C S (base+x.i)=none/\gl x.op=false)->
 j1 C base y h V S=some (c,B)->Sub V c/\hc C S B/\(∀i,cd c i≠none->cd V i≠none\/∃x∈h,x.i=i)/\(∀b,H C B b≠H C S b->∃x∈h,b=base+x.i)/\
 ∀x∈h,∃L,(∀D,qC C D B base c y x L)/\pc C B c y x L:=by
 intro h
 induction h with
 |nil=>
  intro V S c B _ _ e
  simp[j1]at e
  obtain⟨rfl,rfl⟩:=e
  exact⟨Sub.refl _,hc.refl _,λi e=> .inl e,λb e=>absurd rfl e,Zs⟩
 |cons x h U=>
  intro V S c B P O e
  rw[List.pairwise_cons]at P
  obtain⟨X,TZ⟩:=P
  obtain⟨s,t,v⟩:=O x (Zl ..)
  have step:∀(L:q) (ay:F ac),hc C S ay->(∀b,H C ay b≠H C S b->b=base+x.i)->j1 C base y h ((x.i,L)::V) ay=some (c,B)->
   (∀c B,Sub ((x.i,L)::V) c->hc C ay B->(H C ay (base+x.i)≠none->H C B (base+x.i)=H C ay (base+x.i))->(∀D,qC C D B base c y x L)/\pc C B c y x L)->
   Sub V c/\hc C S B/\(∀i,cd c i≠none->cd V i≠none\/∃d∈x::h,d.i=i)/\(∀b,H C B b≠H C S b->∃d∈x::h,b=base+d.i)/\∀d∈x::h,∃L,(∀D,qC C D B base c y d L)/\pc C B c y d L:=by
   intro L ay T7 G T4 U2
   have U1:Sub V ((x.i,L)::V):=Sub.cons s
   have T5:∀d∈h,cd ((x.i,L)::V) d.i=none/\H C ay (base+d.i)=none/\gl d.op=false:=by
    intro d iU
    obtain⟨T1,T2,T3⟩:=O d (Zi _ iU)
    have T9:=X d iU
    refine⟨by rw[h3,Zj T9];exact T1, ?_,T3⟩
    by_cases J:H C ay (base+d.i)=H C S (base+d.i)
    ·rw[J];exact T2
    ·have:=G _ J;omega
   obtain⟨bc,bl,U3,T0,U4⟩:=U _ _ _ _ TZ T5 T4
   have r:H C B (base+x.i)=H C ay (base+x.i):=by
    by_cases J:H C B (base+x.i)=H C ay (base+x.i)
    ·exact J
    ·obtain⟨d,iU,j⟩:=T0 _ J
     exact absurd Zo (X d iU)
   refine⟨U1.trans bc,T7.trans bl,λi ai=> ?_,λb Y=> ?_,λd iU=> ?_⟩
   ·rcases U3 i ai with m|⟨d,m,w⟩
    ·rw[h3]at m
     split at m
     ·rename_i j;exact .inr ⟨x,Zl ..,j⟩
     ·exact .inl m
    ·exact .inr ⟨d,Zi _ m,w⟩
   ·by_cases J:H C B b=H C ay b
    ·rw[J]at Y
     exact⟨x,Zl ..,G b Y⟩
    ·obtain⟨d,m,w⟩:=T0 b J
     exact⟨d,Zi _ m,w⟩
   ·rcases Zz.1 iU with rfl|iU
    ·exact⟨L,U2 c B bc bl (λ_=>r)⟩
    ·exact U4 d iU
  have r:∀(L:q) (c:List (Nat×q)),Sub ((x.i,L)::V) c->cd c x.i=some L:=λL c f=>f _ _ (by rw[h3,Zv rfl])
  simp only[j1]at e
  split at e
  ·simp at e
  ·rename_i p
   refine step undef S (hc.refl _) (λb Y=>absurd rfl Y) e λc B f ap _=> ?_
   have g:Sub V c:=(Sub.cons s).trans f
   exact⟨λD=>⟨r _ _ f,V,false,g,p,λ_=>rfl,Zs⟩,V, .nil,false,g,yv _,p,Zs⟩
  ·rename_i p
   cases n:fZ x.op with
   |make=>
    rw[n]at e
    simp only at e
    split at e
    ·rename_i L bJ T8
     simp only[dB]at e
     have Y:C.aN<=base+x.i:=Zo
     refine step L _ (λb=> ?_) (λb z=> ?_) e λc B f ap T6=> ?_
     ·rw[cr _ Y]
      by_cases j:b=base+x.i
      ·subst j;exact .inr t
      ·rw[Zj j];exact .inl rfl
     ·rw[cr _ Y]at z
      by_cases j:b=base+x.i
      ·exact j
      ·rw[Zj j]at z;exact absurd rfl z
     ·have g:Sub V c:=(Sub.cons s).trans f
      have TY:H C B (base+x.i)=some bJ:=by
       rw[T6 (by rw[cr _ Y,Zv rfl];simp),cr _ Y,Zv rfl]
      exact⟨λD=>⟨r _ _ f,V,true,g,p,Zs,λ_=>⟨v,λ_=>⟨bJ,T8,TY⟩,λJ=>by rw[n]at J;cases J⟩⟩,V,S,true,g,
       (by
        intro b
        rcases ap b with J|J
        ·rw[cr _ Y]at J
         by_cases j:b=base+x.i
         ·subst j;exact .inr t
         ·rw[Zj j]at J;exact .inl J
        ·rw[cr _ Y]at J
         by_cases j:b=base+x.i
         ·subst j;exact .inr t
         ·rw[Zj j]at J;exact .inr J),p,λ_ J=>by rw[n]at J;cases J⟩
    ·simp at e
   |dT=>
    rw[n]at e
    simp only at e
    split at e
    ·rename_i L Z
     refine step L S (hc.refl _) (λb Y=>absurd rfl Y) e λc B f ap _=> ?_
     have g:Sub V c:=(Sub.cons s).trans f
     exact⟨λD=>⟨r _ _ f,V,true,g,p,Zs,λ_=>⟨v,λJ=>(by rw[n]at J;cases J),λ_ U0 c9=>by rw[GS n U0 c9 S];exact Z⟩⟩,V,S,true,g,ap,p,λ_ _=>Z⟩
    ·simp at e
   |cy=>simp[gl,n]at v
end
section
variable{C:ax}{u bD bV:bC}{D bq b6:Nat->Prop}{S B:F ac}{nx nx' az:Nat}{w aK:World}{n aa:Nat}{ab:Array Oper}
variable{aF:World}{aO:Nat}{aU:List Frame}{v:q}{U:dG}
variable{fn:Nat}{av:List dI}{am:Bool}{ro:Option Nat}{cs:List dn}{y:F q}{tmps:Array Value}{aD:List Item}{T:List Frame}{aC ai:Nat}
def E7{V:List (Nat×q)}:∀(h:List cA),nf C y V S h=true->∀x∈h,∃b,gN x.g V=some b/\(b=true->∃L,di x.op C S V y=some L/\cd V x.i=some L):=by
 intro h
 induction h with
 |nil=>intro _ x e;simp at e
 |cons a h U=>
  intro e x c
  simp only[nf]at e
  split at e
  ·simp at e
  ·rename_i d
   rcases Zz.1 c with rfl|c
   ·exact⟨false,d,Zs⟩
   ·exact U e x c
  ·rename_i d
   split at e
   ·rename_i L i f g
    simp only[Zq]at e
    have:=su _ _ _ e.1
    subst this
    rcases Zz.1 c with rfl|c
    ·exact⟨true,d,λ_=>⟨L,f,g⟩⟩
    ·exact U e.2 x c
   ·simp at e
def KW{d3:List hd}{k:Nat}{ap:List (cX×cA)}:∃s rest,ll d3 k ap=s::rest/\s.iV=iN k d3/\s.uP=nS k d3/\
 (match ap with|[]=>s.cy=none/\rest=[]|a::b=>s.cy=some a.2/\rest=ll d3 (k+1) b):=by
 cases ap with
 |nil=>exact⟨_,_,rfl,rfl,rfl,rfl,rfl⟩
 |cons a ap=>exact⟨_,_,rfl,rfl,rfl,rfl,rfl⟩
def l4{k:Nat}:∀{d3:List hd}{x:cA},x∈iN k d3↔∃h∈d3,h.aC=k/\h.x=x:=by
 intro d3
 induction d3 with
 |nil=>intro x;simp[iN]
 |cons a d3 U=>
  intro x
  simp only[iN,d2]
  by_cases e:a.aC=k
  ·simp only[e,ZP,Zz,U]
   constructor
   ·rintro(rfl|⟨h,b,c,d⟩)
    ·exact⟨a, .inl rfl,e,rfl⟩
    ·exact⟨h, .inr b,c,d⟩
   ·rintro⟨h,rfl|b,c,d⟩
    ·exact .inl d.symm
    ·exact .inr ⟨h,b,c,d⟩
  ·simp only[e,ZM,U]
   constructor
   ·rintro⟨h,b,c,d⟩;exact⟨h, .tail _ b,c,d⟩
   ·rintro⟨h,b,c,d⟩
    rcases Zz.1 b with rfl|b
    ·exact absurd c e
    ·exact⟨h,b,c,d⟩
def Jz{k:Nat}:∀{d3:List hd}{h:hd},h∈d3->h.aC<k->k<=h.ai->mK h.x.op=true->h.x∈nS k d3:=by
 intro d3
 induction d3 with
 |nil=>intro h e;simp at e
 |cons a d3 U=>
  intro h ap d b c
  simp only[nS,cK]
  rcases Zz.1 ap with rfl|ap
  ·rw[Zv]
   ·exact Zl ..
   ·have f:Nat.blt h.aC k=true:=by simp[Nat.blt];omega
    have g:Nat.ble k h.ai=true:=by simpa using b
    simp[f,g,c]
  ·split
   ·exact Zi _ (U ap d b c)
   ·exact U ap d b c
def En{k:Nat}:∀{d3:List hd},(d3.Pairwise λa b=>a.x.i<b.x.i)->(iN k d3).Pairwise λa b=>a.i≠b.i:=by
 intro d3
 induction d3 with
 |nil=>intro _;simp[iN]
 |cons a d3 U=>
  intro e
  rw[List.pairwise_cons]at e
  simp only[iN,d2]
  split
  ·rw[List.pairwise_cons]
   refine⟨λx d=> ?_,U e.2⟩
   obtain⟨h,c,_,rfl⟩:=l4.1 d
   have:=e.1 h c;omega
  ·exact U e.2
def Hb(op:eB):gl op=true/\fZ op= .cy\/gl op=false/\(fZ op= .dT\/fZ op= .make):=by
 unfold gl
 cases fZ op<;>simp
def Ii(US:Env C aF bV b6)(UF:gc C aF aO aU U){k:List bS}{base f:Nat}{V:List (Nat×q)}(UX:aC<=base)(U1:base+ab.size<=nx)(VO:C.aN<=base){s:jS}{rest:List jS}
 (T5:match (da C n aa ab).drop f with|[]=>s.cy=none|O::UW=>s.cy=some O.2/\rest=ll (fB C n aa ab) (f+1) UW)
 (e:(match s.cy with
    |none=>pC (ff aa ab.toList 0) V y λy=>U .run k ⟨fn,n,aa,av,am,ro,cs⟩ y S nx
    |some e=>(match gN e.g V with
     |none=>none
     |some w=>aQ (w) ((match dN e.op C S nx V y with
       |some r=>gy r U C (.lE ab base V e.i rest (ff aa ab.toList 0)) k ⟨fn,n,aa,av,am,ro,cs⟩ y S nx
       |none=>none))<|U .run (.drawn ab base ((e.i,undef)::V) rest (ff aa ab.toList 0)::k) ⟨fn,n,aa,av,am,ro,cs⟩ y S nx))=some v):
 ∀(h:List Nat) (u:bC) (D:Nat->Prop) (w:World) (tmps:Array Value) (bk:Nat->Prop),ec C aF aO aU fn aa av am ro cs S nx u D w aC T->fv C u D aa k aD->hX C u D S base n aa ab V f (f+1) y tmps bk->jR ab bk h->
  (∀h∈fB C n aa ab,h.aC<f+1->¬bk h.x.i->∃L,cd V h.x.i=some L/\pc C S V y h.x L)->Ends C aF aO aU v (lone (bd u fn av am ro tmps (.inRegion ab h::aD) .run) T w):=by
 intro h
 induction h with
 |nil=>
  intro u D w tmps bk c T0 a UN UK
  cases UN with
  |nil UU=>
   have UB:(da C n aa ab).drop f=[]:=by
    cases d:(da C n aa ab).drop f with
    |nil=>rfl
    |cons O UW=>
     exfalso
     have U0:(da C n aa ab)[f]? =some O:=by
      have:((da C n aa ab).drop f)[0]? =some O:=by rw[d];rfl
      rwa[Yz]at this
     have U9:=UU O.1.i (E9 a.st (Zg U0)).1
     have:=(a.done f O U0).1 U9
     omega
   rw[UB]at T5
   simp only at T5
   rw[T5]at e
   simp only[rs,gL]at e
   split at e
   ·rename_i VM Uu
    refine .head AS ?_
    have VD:gS u D aa (λ_=>True) (dY ab ab.size) V y tmps:=by
     obtain⟨_,Un,f3⟩:=qB ab ab.size (Zp _)
     intro t L _ T2
     apply a.nd t L
     split at T2
     ·rename_i E UG
      obtain⟨Uo,Up,Uq⟩:=Un t E UG
      left
      refine⟨E,UU E Uo,Up,λUR UH Uz=> ?_,T2⟩
      rcases zg E UR with T1|ml
      ·exact absurd Uz (Uq UR T1 (a.kd UR UH))
      ·exact ml
     ·rename_i UG
      exact .inr ⟨λE UH=>f3 t UG E (a.kd E UH),T2⟩
    exact UF _ _ _ _ _ _ _ _ _ _ _ _ v e u D w aC tmps aD T (c.state (.plain T0 (xN VD a.size Uu)))
   ·simp at e
 |cons i h UQ=>
  intro u D w tmps bk c T0 a UN UK
  cases UN with
  |cons m U4 Z TZ=>
   rename_i A
   have ai:i<ab.size:=(ZI.1 m).1
   obtain⟨p,x,o',Uh,Ui,z3,z4,z5,Uj⟩:=kQ a.st i ai
   have V5:o'=A:=by
    have:=z5.oper
    rw[z4,m]at this
    exact(Yd this).symm
   subst V5
   have U6:=Fa a.st a.closed a.kd a.nd Ui m U4 Z
   have UY:=pv a.closed (r2 Ui) (by rw[z3];exact m) Z
   have P:=z5
   have U3:=P.g
   have TY:=P.op
   have Uc:=P.reads
   rw[z4]at U3 TY Uc
   have UC:∀T7,Sub T7 V->ee u D (e9 tmps) (eg (dY ab i) T7 y) o'.op.operands.toList:=by
    intro T7 V9
    refine xG (X:=λt=>cB p.r t=true) (λt L Uv T2=>U6 t L Uv ?_) (λt VB=>Jl Uj VB) Uc c.dP
    split at T2
    ·exact V9 _ _ T2
    ·exact T2
   have UD:∀E b t,o'.guard=some (E,b)->j4 E (dY ab i)=some t->cB p.r t=true:=by
    intro E b t U7 U8
    rw[Uj.r,oj,z3]
    have:cB (rI (dY ab i) o'.guard) t=true:=by
     rw[U7]
     simp only[rI,U8]
     rw[qX];simp
    rw[this];simp
   have U2:∀(bD:bC) (L:Value),(bd bD fn av am ro tmps (.inRegion ab (i::h)::aD) .run).finish L=bd bD fn av am ro (hs tmps o'.dst L) (.inRegion ab h::aD) .run:=by
    intro bD L
    rw[ru (g:=bd bD fn av am ro tmps _ .run) rfl m];rfl
   rcases Hb x.op with ⟨UE,iy⟩|⟨UE,iy⟩
   ·
    have V1:(p,x)∈da C n aa ab:=by rw[q9];exact YE.2 ⟨Zg Uh,UE⟩
    obtain⟨J,d⟩:=ZZ.1 V1
    have V6:J=f:=by
     rcases YU J f with T1|j|iT
     ·exact absurd ((a.done J _ d).2 T1) (by simpa only[z3]using U4)
     ·exact j
     ·exfalso
      have V2:J-1<(da C n aa ab).length:=zu (Zf.1 d).1
      have Ub:(da C n aa ab)[J-1]? =some ((da C n aa ab)[J-1]):=Ze V2
      have UV:=a.st.chain
      rw[rA]at UV
      have Y:=GI UV (J-1) ((da C n aa ab)[J-1]).1 p (by rw[Zw,Ub];rfl) (by rw[show J-1+1=J by omega,Zw,d];rfl)
      have U9:=UY _ Y
      have:=(a.done (J-1) _ Ub).1 U9
      omega
    subst V6
    have UB:(da C n aa ab).drop J=(p,x)::(da C n aa ab).drop (J+1):=by
     have T1:=(Zf.1 d).1
     rw[ZY T1,(Zf.1 d).2]
    rw[UB]at T5
    simp only at T5
    obtain⟨V8,Ud⟩:=T5
    rw[V8]at e
    simp only at e
    have U0:ab[((p,x):cX×cA).1.i]? =some o':=by simp only[z3];exact m
    split at e
    ·simp at e
    ·rename_i wd VE
     have T3:=sG (zm ai) U3 U6 UD (Sub.refl V) VE
     have UZ:¬bk ((p,x):cX×cA).1.i:=by simpa only[z3]using U4
     have VH:x.i=((p,x):cX×cA).1.i:=by simp only[z3,z4]
     cases wd with
     |false=>
      simp only[fz]at e
      refine .head (u7 m T3) ?_
      rw[U2]
      rw[VH,Ud]at e
      have:=a.cy d U0 UZ Z (v:=undef) trivial P.dst
      exact UF _ _ _ _ _ _ _ _ _ _ _ _ v e u D w aC _ _ T (c.state (.drawn T0 UX U1 this (by simp only[z3];exact TZ)))
     |true=>
      simp only[cO]at e
      split at e
      ·rename_i r K
       have Us:=ya c.K c.cp US.eO (UC V (Sub.refl V)) TY K
       have VA:fU C u D S aC nx n aa y tmps (.lE ab base V x.i rest (ff aa ab.toList 0)::k) (.inRegion ab (i::h)::aD):=by
        have Ue:=fU.drawn (aC:=aC) (ai:=nx) (h:=h) T0 UX U1 a d U0 UZ Z (by simp only[z3];exact TZ)
        simp only[z3]at Ue
        rw[Ud,z4]
        exact Ue
       exact wX US UF c VA c.eH (Zp _) m T3 Us e
      ·simp at e
   ·
    have V3:=Zg Uh
    have T8:(⟨x,jj p.m (hH (da C n aa ab)),mm p.i (hH (da C n aa ab))⟩:hd)∈fB C n aa ab:=by
     rw[rb];exact ZB.2 ⟨(p,x),YE.2 ⟨V3,by simp[UE]⟩,rfl⟩
    have T9:jj p.m (hH (da C n aa ab))<f+1:=by
     have:=EU p.m (hH (da C n aa ab)) f (λJ O d VN=>by
      rw[rA,Zw]at d
      cases UP:(da C n aa ab)[J]? with
      |none=>rw[UP]at d;cases d
      |some z=>
       rw[UP]at d;cases d
       cases Y:cB p.m z.1.i with
       |false=>rfl
       |true=>have:=(a.done J z UP).1 (UY _ Y);omega)
     omega
    have T4:¬bk x.i:=by rw[z4];exact U4
    obtain⟨L,U5,VC⟩:=a.ahead _ T8 T9
    obtain⟨jo,T7,b,UT,VF,Ux,Uy⟩:=VC T4
    have T3:=sG (zm ai) U3 U6 UD UT VF
    have UM:ab[x.i]? =some o':=by rw[z4];exact m
    have UL:∀hY:Nat->Prop,(∀E,bk E->hY E)->∀h∈fB C n aa ab,h.aC<f+1->¬hY h.x.i->∃L,cd V h.x.i=some L/\pc C S V y h.x L:=λhY Ut VI U7 U8 Ur=>UK VI U7 U8 (λJ=>Ur (Ut _ J))
    have UA:add bk x.i=add bk i:=by rw[z4]
    cases b with
    |false=>
     have:L=undef:=Ux rfl
     subst this
     refine .head (u7 m T3) ?_
     rw[U2]
     have G:=a.dT (bD:=u) (bq:=D) T8 T9 UM T4 Z U5 (λ_ _=>rfl) (λ_ e=>e) (λ_ e=> .inl e) (by trivial) P.dst
     simp only[UA]at G
     exact UQ u D w _ _ c T0 G TZ (UL _ λ_ e=> .inl e)
    |true=>
     obtain⟨_,V4,_⟩:=Uy rfl
     rcases iy with iy|iy
     ·obtain⟨VP,UO,Ul,Uk,Um,aG,aL,Uf,Ug⟩:=UK _ T8 T9 T4
      simp only at UO Uf Ug
      rw[U5]at UO;cases UO
      have VG:=sG (zm ai) U3 U6 UD aG Uf
      have U1:Um=true:=by rw[<-VG,T3]
      have V0:=Ug U1 iy
      have V7:bA C u D Uk nx aF.heap.size w:=c.K.xK aL
      obtain⟨aE,aW⟩:=yy V7 (UC Ul aG) TY V0
      refine .head (nX m T3 aE (.inl rfl)) ?_
      rw[U2]
      have G:=a.dT (bD:=u) (bq:=D) T8 T9 UM T4 Z U5 (λ_ _=>rfl) (λ_ e=>e) (λ_ e=> .inl e) aW P.dst
      simp only[UA]at G
      exact UQ u D w _ _ c T0 G TZ (UL _ λ_ e=> .inl e)
     ·obtain⟨bJ,UI,Ua⟩:=V4 iy
      simp only at UI Ua
      have UJ:¬D (base+x.i):=λJ=>T4 (a.ids x.i (by rw[z4];exact ai) J)
      obtain⟨ft,VJ,VK,VL⟩:=yG (w:=w) (u:=u) UJ (UC T7 UT) (r0 TY UI)
      have T1:base+x.i<nx:=by rw[z4];omega
      have Uw:=c.K.alloc (nx':=nx) (B:=S) (b:=base+x.i) Zo T1 (Zp _) UJ c.cp rfl Ua (λ_ _=> .inl rfl) VL (yH (r0 TY UI))
      have T6:dU C aC u D S aF.heap.size w (cZ u (base+x.i) ⟨w.heap.size,0,0⟩) (add D (base+x.i)) S (w.alloc ft):=
       ⟨hU UJ,λ_ e=> .inl e,λO e=>e.elim .inl (λe=> .inr Zo),λ_ _ _=>rfl,Below.alloc (Below.refl _ _) c.cp _⟩
      refine .head (nX m T3 VJ (.inl rfl)) ?_
      rw[U2, <-oS T6.dX c.dO]
      have G:=a.dT (bD:=cZ u (base+x.i) ⟨w.heap.size,0,0⟩) (bq:=add D (base+x.i)) T8 T9 UM T4 Z U5 T6.dX T6.ef (λ_ e=>e) VK P.dst
      simp only[UA]at G
      exact UQ _ _ _ _ _ (c.ext Uw T6 (Zp _)) (T0.R T6.dX T6.ef) G TZ (UL _ λ_ e=> .inl e)
end
section
variable{C:ax}{u bD bV:bC}{D bq b6:Nat->Prop}{S B:F ac}{nx nx' az:Nat}{w aK:World}{n aa:Nat}{ab:Array Oper}
variable{aF:World}{aO:Nat}{aU:List Frame}{v:q}{U:dG}
variable{fn:Nat}{av:List dI}{am:Bool}{ro:Option Nat}{cs:List dn}{y:F q}{tmps:Array Value}{aD:List Item}{T:List Frame}{aC ai:Nat}
def bA.more(K:bA C u D S nx az w)(g:nx<=nx')(a:∀b,D b->H C B b=H C S b)(m:∀b A,H C B b=some A->b<nx'):bA C u D B nx' az w:=by
 refine⟨ZD K.aN g,λb e=>Z5 (K.lt b e) g,m,λb A e d=>K.obj b A (by rw[<-a b d];exact e) d,λb c A o' e i d f=>K.sep b c A o' (by rw[<-a b d];exact e) (by rw[<-a c f];exact i) d f,λb A Y e d=>K.base b A Y (by rw[<-a b d];exact e) d,λb A e d=>K.ch b A (by rw[<-a b d];exact e) d⟩
def yz(t:g8 C n aa ab){h g:hd}(ap:h∈fB C n aa ab)(r:g∈fB C n aa ab)(e:h.x.i=g.x.i):h=g:=by
 obtain⟨a,p⟩:=ZZ.1 ap
 obtain⟨b,Y⟩:=ZZ.1 r
 obtain⟨i,c⟩:=Zf.1 p
 obtain⟨m,d⟩:=Zf.1 Y
 have f:=ts t
 rw[YQ]at f
 rcases YU a b with s|j|iT
 ·have:=f a b i m s
  rw[c,d]at this;omega
 ·subst j;rw[<-c,d]
 ·have:=f b a m i iT
  rw[c,d]at this;omega
def xu(UJ:Env C aF bV b6)(UW:gc C aF aO aU U){k:List bS}{base r:Nat}{V:List (Nat×q)}{bk:Nat->Prop}{h:List Nat}(U1:ec C aF aO aU fn aa av am ro cs S nx u D w aC T)
 (UX:fv C u D aa k aD)(UY:aC<=base)(UR:base+ab.size<=nx)(U8:C.aN<=base)(a:hX C u D S base n aa ab V r r y tmps bk)(Ud:jR ab bk h)
 (e:kS U C ab base V (ll (fB C n aa ab) r ((da C n aa ab).drop r)) (ff aa ab.toList 0) k ⟨fn,n,aa,av,am,ro,cs⟩ y S nx=some v):Ends C aF aO aU v (lone (bd u fn av am ro tmps (.inRegion ab h::aD) .run) T w):=by
 obtain⟨s,rest,UG,UH,UI,T5⟩:=KW (d3:=fB C n aa ab) (k:=r) (ap:=(da C n aa ab).drop r)
 rw[UG]at e
 simp only[kS]at e
 split at e
 ·simp at e
 ·rename_i U4 B U6
  simp only[ce]at e
  obtain⟨U9,e⟩:=e
  rw[UH]at U6
  rw[UI]at U9
  have UU:∀x∈iN r (fB C n aa ab),cd V x.i=none/\H C S (base+x.i)=none/\gl x.op=false:=by
   intro x O
   obtain⟨c,f,T0,rfl⟩:=l4.1 O
   have G:cd V c.x.i=none:=by
    cases G:cd V c.x.i with
    |none=>rfl
    |some L=>
     exfalso
     rcases a.keys _ L G with ⟨Uh,d,m,T1⟩|⟨p,T3,d,m,_⟩
     ·have:=yz a.st d f m
      subst this;omega
     ·exact rU a.st f d m.symm
   obtain⟨_,_,T1,_⟩:=rf f
   exact⟨G,a.free _ (re a.st f) G,T1⟩
  obtain⟨bc,bl,Ug,T4,U2⟩:=E6 U8 _ _ _ _ _ (En (ts a.st)) UU U6
  have Ue:∀b,D b->H C B b=H C S b:=by
   intro b Y
   by_cases J:H C B b=H C S b
   ·exact J
   ·obtain⟨x,O,j⟩:=T4 b J
    obtain⟨c,f,T0,rfl⟩:=l4.1 O
    have P:=a.ids _ (re a.st f) (j▸Y)
    have:=a.iV c f P
    omega
  have Uc:bA C u D B nx aF.heap.size w:=U1.K.more (Zp _) Ue (λb A Y=>by
   by_cases J:H C B b=H C S b
   ·exact U1.K.jC b A (by rw[<-J];exact Y)
   ·obtain⟨x,O,j⟩:=T4 b J
    obtain⟨c,f,T0,rfl⟩:=l4.1 O
    have:=re a.st f
    omega)
  have O:dU C aC u D S aF.heap.size w u D B w:=⟨λ_ _=>rfl,λ_ e=>e,λ_ e=> .inl e,λb _ U7=>by
   by_cases J:H C B b=H C S b
   ·exact J
   ·obtain⟨x,O,j⟩:=T4 b J
    omega,Below.refl _ _⟩
  have UQ:=U1.ext Uc O (Zp _)
  have US:hX C u D B base n aa ab U4 r (r+1) y tmps bk:=by
   refine⟨a.st,a.size,a.rO,a.cf,a.closed,a.kd,a.done,λc f T0=>Nat.lt_succ_of_lt (a.iV c f T0), ?_, ?_, ?_, ?_,a.ids, ?_⟩
   ·intro i L X
    rcases Ug i (by rw[X];simp)with f|⟨x,f,T0⟩
    ·cases G:cd V i with
     |none=>exact absurd G f
     |some Z=>
      rcases a.keys i Z G with ⟨c,d,m,T1⟩|g
      ·exact .inl ⟨c,d,m,Zo⟩
      ·exact .inr g
    ·obtain⟨c,d,m,rfl⟩:=l4.1 f
     exact .inl ⟨c,d,T0,Zo⟩
   ·intro p T3 T2 Ub
    obtain⟨L,X⟩:=a.jo p T3 T2 Ub
    exact⟨L,bc _ _ X⟩
   ·intro c f T0
    by_cases J:c.aC=r
    ·obtain⟨L,d,m⟩:=U2 c.x (l4.2 ⟨c,f,J,rfl⟩)
     exact⟨L,(d D).key,λ_=>d D⟩
    ·obtain⟨L,d,m⟩:=a.ahead c f Zo
     refine⟨L,bc _ _ d,λP=> ?_⟩
     obtain⟨_,T9,b,TY,TZ,U5,U0⟩:=m P
     refine⟨bc _ _ d,T9,b,TY.trans bc,TZ,U5,λY=> ?_⟩
     obtain⟨UN,UO,UK⟩:=U0 Y
     refine⟨UN,λUZ=> ?_,UK⟩
     obtain⟨bJ,UL,UM⟩:=UO UZ
     refine⟨bJ,UL, ?_⟩
     by_cases UB:H C B (base+c.x.i)=H C S (base+c.x.i)
     ·rw[UB];exact UM
     ·obtain⟨x,O,j⟩:=T4 _ UB
      obtain⟨Uh,U3,Ui,rfl⟩:=l4.1 O
      have:=yz a.st f U3 Zo
      subst this;omega
   ·intro t L X
    apply a.nd t L
    rcases X with ⟨E,P,UT,Ua,X⟩|X
    ·left
     refine⟨E,P,UT,Ua, ?_⟩
     have jo:∃Z,cd V E=some Z:=by
      rcases xt a.st E (a.kd E P)with ⟨c,d,m⟩|⟨p,T3,d,m⟩
      ·obtain⟨Z,T1,_⟩:=a.ahead c d (a.iV c d (by rw[m];exact P))
       exact⟨Z,by rw[<-m];exact T1⟩
      ·obtain⟨Z,T1⟩:=a.jo p T3 d ((a.done p T3 d).1 (by rw[m];exact P))
       exact⟨Z,by rw[<-m];exact T1⟩
     obtain⟨Z,UA⟩:=jo
     have:=bc _ _ UA
     rw[X]at this
     cases this
     exact UA
    ·exact .inr X
   ·intro i ai G
    have Uf:cd V i=none:=by
     cases T6:cd V i with
     |none=>rfl
     |some L=>rw[bc _ _ T6]at G;cases G
    by_cases J:H C B (base+i)=H C S (base+i)
    ·rw[J];exact a.free i ai Uf
    ·obtain⟨x,O,j⟩:=T4 _ J
     obtain⟨L,d,_⟩:=U2 x O
     have:x.i=i:=Zo
     rw[<-this,(d D).key]at G
     cases G
  refine Ii UJ UW UY UR U8 (s:=s) (rest:=rest) ?_ e h u D w tmps bk UQ UX US Ud ?_
  ·cases T6:(da C n aa ab).drop r with
   |nil=>rw[T6]at T5;exact T5.1
   |cons T3 Uo=>rw[T6]at T5;exact T5
  ·intro c f T0 P
   by_cases J:c.aC=r
   ·obtain⟨L,d,m⟩:=U2 c.x (l4.2 ⟨c,f,J,rfl⟩)
    exact⟨L,(d D).key,m⟩
   ·obtain⟨L,d,m⟩:=a.ahead c f Zo
    refine⟨L,bc _ _ d, ?_⟩
    obtain⟨_,T9,b,TY,TZ,U5,U0⟩:=m P
    by_cases T7:mK c.x.op=true
    ·have UV:r<=c.ai:=by
      obtain⟨p,U3,Ui,Up,Uj⟩:=rf f
      obtain⟨_,Uv,UE,z3,z4,z5⟩:=kR a.st U3
      rw[Uj]
      refine GL _ _ _ (by rw[rA,Zn];exact a.rO) λJ T3 T2 U7=> ?_
      rw[rA,Zw]at T2
      cases T8:(da C n aa ab)[J]? with
      |none=>rw[T8]at T2;cases T2
      |some z=>
       rw[T8]at T2;cases T2
       cases Y:cB z.1.m p.i with
       |false=>rfl
       |true=>
        exfalso
        have UP:=(a.done J z T8).2 U7
        obtain⟨Uq,Ur,Us,Ut,Un,Uu,UD⟩:=kR a.st (ra (Zg T8)).1
        have:=pv a.closed (Zg Un) UD.oper (a.closed _ _ UD.oper UP) _ Y
        simp only at UE
        rw[<-UE]at this
        exact P this
     obtain⟨UF,Uk,Ul⟩:=E7 _ U9 c.x (Jz f Zo UV T7)
     refine⟨U4,B,UF,Sub.refl _,hc.refl _,Uk,λY _=> ?_⟩
     obtain⟨Z,Um,UC⟩:=Ul Y
     rw[bc _ _ d]at UC
     cases UC
     exact Um
    ·have T7:mK c.x.op=false:=by simpa using T7
     refine⟨T9, .nil,b,TY.trans bc,yv _,TZ,λY iy=> ?_⟩
     exact(U0 Y).2.2 iy T7 .nil
def FP{k:List bS}(id:Nat)(e:fv C u D aa k aD){co:List bS}(a:exitTo id k=some co):∃c0,Go.exitTo id aD=some c0/\fv C u D aa co c0:=by
 induction e with
 |nil=>simp[exitTo]at a
 |cons d f U=>
  cases d<;>simp only[exitTo]at a
  case inBlock g=>
   rw[d2]at a
   split at a
   ·rename_i j
    simp at a;subst a
    exact⟨_,by simp[Go.exitTo,j],f⟩
   ·rename_i j
    obtain⟨c0,b,c⟩:=U a
    have:(g==id)=false:=by simpa using j
    exact⟨c0,by simp[Go.exitTo,this,b],c⟩
  all_goals
   obtain⟨c0,b,c⟩:=U a
   exact⟨c0,by simp[Go.exitTo,b],c⟩
def xI(dP:ip C u D){n:Nat}(r:eo u D n aa y tmps){x:Operand}{L:q}(a:lr C aa [] x=true)(e:j5 y x=some L):e9 tmps x=af u L/\ba D L:=by
 cases x with
 |tmp t=>
  simp only[lr,El]at a
  obtain⟨m,p⟩:=r.val t L a e
  exact⟨by simp[e9,m],p⟩
 |const c=>exact r7 e
 |global g=>
  simp[j5]at e;subst e
  simp only[lr]at a
  obtain⟨b,d,i⟩:=dP g (e0 a)
  exact⟨by simp[e9,af,d,i],b⟩
 |func f=>
  simp[j5]at e;subst e
  exact⟨by simp[e9,af,f7,aR],trivial,trivial,trivial⟩
def gS.start{n:Nat}(a:eo u D n aa y tmps):gS u D aa (λ_=>True) (dY ab 0) [] y tmps:=by
 intro t L _ e
 rw[qA]at e
 exact a.val t L e.1 e.2
def JC(s:Env C aF bV b6)(O:gc C aF aO aU U){k:List bS}{id:Nat}{m:Bool}(c:ec C aF aO aU fn aa av am ro cs S nx u D w aC T)(P:fv C u D aa k aD)(g:eo u D n aa y tmps)
 (e:Av ab m U C k ⟨fn,n,aa,av,am,ro,cs⟩ y S nx=some v):Ends C aF aO aU v (lone (bd u fn av am ro tmps (.code (.region id ab m)::aD) .run) T w):=by
 cases m with
 |false=>
  have a:uS n aa ab U C k ⟨fn,n,aa,av,am,ro,cs⟩ y S nx=some v:=e
  simp only[uS,gL]at a
  split at a
  ·rename_i r K
   obtain⟨rest,fin⟩:=r
   have d:ly rest ⟨U,ab,fin,k,⟨fn,n,aa,av,am,ro,cs⟩⟩ C y [] S nx=some v:=a
   unfold qd at K
   split at K
   ·rename_i bG f
    simp at K
    obtain⟨rfl,rfl⟩:=K
    refine .head KN ?_
    refine AG s O bG [] S nx u D w tmps _ T c P ⟨0,zc _, ?_,f,rfl,gS.start g,g.size⟩ d
    rw[List.range_eq_range'];rfl
   ·simp at K
  ·simp at a
 |true=>
  have a:uR n aa ab U C k ⟨fn,n,aa,av,am,ro,cs⟩ y S nx=some v:=e
  simp only[uR,gL]at a
  split at a
  ·rename_i r K
   obtain⟨fi,fin⟩:=r
   have d:hG nx (λnx=>kS U C ab nx [] fi fin k ⟨fn,n,aa,av,am,ro,cs⟩ y S (nx+ab.size))=some v:=a
   rw[fX]at d
   unfold qa at K
   split at K
   ·simp at K
   ·rename_i bG f
    simp only[ce,Zq,Zu]at K
    obtain⟨⟨⟨G,X⟩,Z⟩,T0⟩:=K
    have x:j2 C n aa ab=bG:=by unfold j2;rw[f];rfl
    have T6:g8 C n aa ab:=⟨by rw[x];exact f,G,X,by unfold da;rw[x];exact Z⟩
    have T7:fi=ll (fB C n aa ab) 0 ((da C n aa ab).drop 0)/\fin=ff aa ab.toList 0:=by
     have j:=T0
     cases j
     refine⟨?_,rfl⟩
     rw[Yf]
     unfold fB da
     rw[x];rfl
    obtain⟨rfl,rfl⟩:=T7
    refine .head KO ?_
    rw[s.eO.mixed]
    have T8:dU C aC u D S aF.heap.size w u D S w.drew:=⟨λ_ _=>rfl,λ_ e=>e,λ_ e=> .inl e,λ_ _ _=>rfl,Below.drew (Below.refl _ _)⟩
    have T5:bA C u D S (nx+ab.size) aF.heap.size w.drew:=c.K.drew.more (zh _ _) (λ_ _=>rfl) (λb A Y=>Z5 (c.K.jC b A Y) (zh _ _))
    refine xu s O (bk:=λ_=>False) (c.ext T5 T8 (zh _ _)) P c.eH (Zp _) c.K.aN ?_ (J9 G _) d
    refine⟨T6,g.size,zc _,c.K.aN,λ_ _ _ e=>e.elim,λ_ e=>e.elim,λp T9 _=>⟨λe=>e.elim,λe=>Zo⟩,λ_ _ e=>e.elim,λi L z=>by simp at z,λp T9 _ e=>Zo,λTY _ e=>Zo, ?_, ?_, ?_⟩
    ·intro t L z
     rcases z with ⟨E,e,_⟩|⟨_,T1,T2⟩
     ·exact e.elim
     ·exact g.val t L T1 T2
    ·intro i _ T3
     have:=c.K.lt _ T3;omega
    ·intro i _ _
     cases T4:H C S (nx+i)with
     |none=>rfl
     |some A=>have:=c.K.jC _ A T4;omega
  ·simp at a
end
section
variable{C:ax}{u bD bV:bC}{D bq b6:Nat->Prop}{S B:F ac}{nx nx' az:Nat}{w aK:World}{n aa:Nat}{ab:Array Oper}
variable{aF:World}{aO:Nat}{aU:List Frame}{v:q}{U:dG}
variable{fn:Nat}{av:List dI}{am:Bool}{ro:Option Nat}{cs:List dn}{y:F q}{tmps:Array Value}{aD:List Item}{T:List Frame}{aC ai:Nat}
def FO{k:List bS}(id:Nat)(e:fv C u D aa k aD)(a:exitTo id k=none):Go.exitTo id aD=none:=by
 induction e with
 |nil=>rfl
 |cons b d U=>
  cases b<;>simp only[exitTo]at a
  case inBlock c=>
   rw[d2]at a
   split at a
   ·simp at a
   ·rename_i j
    have:(c==id)=false:=by simpa using j
    simp[Go.exitTo,this,U a]
  all_goals simp[Go.exitTo,U a]
def ur(m:ec C aF aO aU fn aa av am ro cs S nx u D w aC T){b:Nat}{st e7:LoopState}{n mF:Option Code}{a ah g:Nat}{i:F q}{params:List Nat}{assign body:Code}{d:Nat}
 (t:C.aN<=b)(p:D b)(r:H C S b=some (.loop st n a ah g i params assign body d))(v:∀c,mF=some c->oK c):
 ∃f,w.heap[(u b).a8]? =some (.loop ⟨st,n,a,f,params.toArray,assign,body,(u d).a8⟩)/\sR C a g/\(∀c,n=some c->oK c)/\
  ec C aF aO aU fn aa av am ro cs (aP C S b (some (.loop e7 mF a ah g i params assign body d))) nx u D (w.putObj (u b).a8 (.loop ⟨e7,mF,a,f,params.toArray,assign,body,(u d).a8⟩)) aC T:=by
 obtain⟨f,eN,lp,G,O,P,X,s⟩:=m.K.obj b _ r p
 obtain⟨aK,bc,bl,z⟩:=putObj m.K (bs:=aC) (o':= .loop ⟨e7,mF,a,f,params.toArray,assign,body,(u d).a8⟩) (ft:= .loop e7 mF a ah g i params assign body d) t p r ⟨Zs,Zs⟩ eN Zs
  (λaK x=>⟨f,x,lp,G,O,P,v,s⟩) ⟨λ_ _ _ e=>(by cases e),λ_ _ _ e=>(by cases e)⟩
 rw[run_setObj_loop _ eN]at bc
 simp only[Result.ok.injEq]at bc
 obtain⟨_,rfl⟩:=bc
 exact⟨f,eN,s,X,m.ext bl z (Zp _)⟩
def w8(s:gc C aF aO aU U){L:q}{bI:Machine}(a:ec C aF aO aU fn aa av false ro cs S nx u D w aC T)(t:cs≠[])(r:ba D L)
 (x:∀g b,T=g::b->step C.P bI= .next (lone (g.finish (af u L)) b w))(e:jg U false cs L S nx=some v):Ends C aF aO aU v bI:=by
 cases cs with
 |nil=>exact absurd rfl t
 |cons c rest=>
  obtain⟨p,ah,X,i,f,n,Z,m,T0⟩:=c
  obtain⟨T3,T4,c0,b,rfl,bc,bl,z,G,O,P⟩:=a.cs.inv
  refine .head (x _ _ rfl) ?_
  cases Z with
  |run=>
   have d:uT U f ⟨p,ah,X,n,m,T0,rest⟩ L i S nx=some v:=e
   cases f with
   |nil=>simp[uT]at d
   |cons T2 k=>exact oE s ⟨a.K,a.fc,a.dP,ZD O a.eH,z,G,P⟩ bc a.eH r d
  |returning=>simp[jg]at e
  |panicking T1=>simp[jg]at e
def un(m:gc C aF aO aU U){todo:List bS}{b:Option Code}(f:(b=none/\aD=[])\/(b=some .ret/\∃k,aD= .code .ret::k)\/(∃id k,b=some (.exit id)/\aD= .code (.exit id)::k/\Go.exitTo id k=none))
 (a:ec C aF aO aU fn aa av am ro cs S nx u D w aC T)(X:eo u D n aa y tmps)
 (e:ho b U C todo ⟨fn,n,aa,av,am,ro,cs⟩ y S nx=some v):Ends C aF aO aU v (lone (bd u fn av am ro tmps aD .run) T w):=by
 unfold ho at e
 cases ro with
 |some h=>
  simp only at e
  split at e
  ·rename_i st T6 T1 ah T4 Z params assign body T0 z
   simp only[ce,Zq,dB]at e
   obtain⟨⟨⟨t,T3⟩,d⟩,e⟩:=e
   have d:am=false:=by simpa using d
   subst d
   have s:=a.dO.ro h rfl
   have G:∀c,b=some c->oK c:=by
    intro c r
    subst r
    rcases f with ⟨j,_⟩|⟨j,_⟩|⟨id,k,j,_⟩
    ·cases j
    ·cases j;exact .inl rfl
    ·cases j;exact .inr ⟨id,rfl⟩
   obtain⟨T7,eN,T5,_,p⟩:=ur a (e7:=aQ b.isNone .ready .done) (mF:=b) (ep t) s z G
   have x:cs≠[]:=λj=>by have:=(a.bot j).2.2;cases this
   refine w8 (L:= .bool b.isNone) m p x trivial (λg T2 j=> ?_) e
   subst j
   refine KR f ?_
   have:=run_endRound (P:=C.P) b eN
   rw[this]
   cases b<;>rfl
  ·simp at e
 |none=>
  simp only[ce]at e
  have O:m0 C aF aO aU .returning todo fn n aa av am none cs y S nx u D w aC tmps aD T:=⟨a.K,a.fc,a.dP,a.eH,a.dO,trivial,a.bot,a.cs,X⟩
  have i:=m _ _ _ _ _ _ _ _ _ _ _ _ v e.2 u D w aC tmps aD T O
  rcases f with ⟨rfl,rfl⟩|⟨rfl,k,rfl⟩|⟨id,k,rfl,rfl,_⟩
  ·exact .head KD i
  ·exact .head KP i
  ·simp[t7]at e
def Jx(UL:Env C aF bV b6)(UX:gc C aF aO aU U){f:Operand}{params:Array Nat}{assign body:Code}{k:List bS}(a:ec C aF aO aU fn aa av am ro cs S nx u D w aC T)(T1:eo u D n aa y tmps)
 (UC:fA C aa (.rangeFunc f params assign body)=true)(U7:fv C u D aa k aD)(e:qo f params assign body U C k ⟨fn,n,aa,av,am,ro,cs⟩ y S nx=some v):
 Ends C aF aO aU v (lone (bd u fn av am ro tmps (.code (.rangeFunc f params assign body)::aD) .run) T w):=by
 simp only[fA,Zq]at UC
 obtain⟨UT,UA,UB⟩:=UC
 unfold qo at e
 split at e
 ·rename_i g first G Uj aG rY Uh Ug Ur Uf UQ US
  cases US
  obtain⟨UI,T3⟩:=xI a.dP T1 UT UQ
  have UD:∀(b:Nat) (p:World),(resolve (e9 tmps) {callee:= .value f,args:= #[.const (.func (.yield b) #[] #[])],argTypes:= #[]} 0).run C.P p=
   .ok ⟨.fn (.func g) (aR u G).toArray,(aR u first).toArray++ #[.func (.yield b) #[] #[]]⟩ p:=by
   intro b p
   have UK:e9 tmps (.const (.func (.yield b) #[] #[]))= .func (.yield b) #[] #[]:=rfl
   simp[resolve,UI,af,f7,Deferred.ofValue,UK]
  have U6:∀(b:Nat) (t:bC) (z:Nat->Prop) (ay:F ac) (T8:Nat) (p:World) (T2:List dn) (TZ:List Frame) (bs:Nat) (P:Nat),(∀x,D x->t x=u x)->(∀x,D x->z x)->z P->(t P).a8=b->
   bA C t z ay T8 aF.heap.size p->Below aF.heap.size aF p->ip C t z->bs<=T8->gO C t z ay aO aU bs T2 TZ->T2≠[]->hi U C g (first++[.func (.yield P) [] []]++G) false T2 ay T8=some v->
   ∃args,(invoke (.fn (.func g) (aR u G).toArray) ((aR u first).toArray++ #[.func (.yield b) #[] #[]])).run C.P p= .ok (.enter g args) p/\Ends C aF aO aU v (lone (Frame.enter C.P g args .normal) TZ p):=by
   intro b t z ay T8 p T2 TZ bs P UE U5 UY Y T6 UN UV X UP Ua e
   have UW:ca z (first++[.func (.yield P) [] []]++G):=mi (mi (h5 U5 _ T3.2.1) ⟨⟨UY,trivial,trivial⟩,trivial⟩) (h5 U5 _ T3.2.2)
   refine⟨(aR t (first++[.func (.yield P) [] []]++G)).toArray, ?_,rl UX T6 UN UV X UP (λj=>absurd j Ua) UW e⟩
   have UO:∃func c,C.P.funcs[g]? =some func/\func.body=some c:=by
    unfold hi at e
    split at e
    ·rename_i func T4
     split at e
     ·rename_i c s;exact⟨func,c,T4,s⟩
     ·simp at e
    ·simp at e
   obtain⟨func,c,T4,s⟩:=UO
   have UZ:func.name≠ "runtime.NumGoroutine":=by simpa using UL.eO.num g func T4 (by simp[s])
   have UM:(aR t (first++[.func (.yield P) [] []]++G)).toArray=((aR u first).toArray++ #[.func (.yield b) #[] #[]])++(aR u G).toArray:=by
    rw[nb,nb,kM UE T3.2.1,kM UE T3.2.2]
    simp[aR,af,f7,Y]
   rw[UM]
   simp[invoke,callFunc,T4,UZ,s]
  cases ro with
  |none=>
   simp only[fX]at e
   have Z:=ib a.K
   have T6:=a.K.alloc (b:=nx) (nx':=nx+1) (pl:=⟨w.heap.size,0,0⟩) (bJ:= .deferred (some [])) (A:= .deferred (some [])) (B:=aP C S nx (some (.deferred (some [])))) a.K.aN (Yo _) (Ye _) Z a.cp rfl
    (by rw[cr _ a.K.aN,Zv rfl]) (λx i=> .inl (by rw[cr _ a.K.aN,Zj i])) ⟨by rw[World.alloc_heap_new];rfl,λh ap=>by cases ap;simp⟩ ⟨λ_ _ _ e=>(by cases e),λ_ _ _ e=>(by cases e)⟩
   have U2:dU C nx u D S aF.heap.size w (cZ u nx ⟨w.heap.size,0,0⟩) (add D nx) (aP C S nx (some (.deferred (some [])))) (w.alloc (.deferred (some []))):=
    ⟨hU Z,λ_ e=> .inl e,λUH e=>e.elim .inl (λe=> .inr Zo),λx _ U8=>by rw[cr _ a.K.aN,Zj Zo],Below.alloc (Below.refl _ _) a.cp _⟩
   have T5:C.aN<=nx+1:=Nat.le_succ_of_le a.K.aN
   have U9:=ib T6
   have U4:aF.heap.size<=(w.alloc (.deferred (some []))).heap.size:=by rw[World.size_alloc];have:=a.cp;omega
   have UF:(cZ u nx ⟨w.heap.size,0,0⟩ nx)=⟨w.heap.size,0,0⟩:=fj ..
   have T7:=hU (u:=cZ u nx ⟨w.heap.size,0,0⟩) (pl:=⟨w.heap.size+1,0,0⟩) U9
   have T0:=T6.alloc (b:=nx+1) (nx':=nx+2) (pl:=⟨w.heap.size+1,0,0⟩) (bJ:= .loop .ready none fn n aa y params.toList assign body nx) (A:= .loop {state:= .ready,pending:=none,fn,tmps,params,assign,body,defers:=w.heap.size})
    (B:=aP C (aP C S nx (some (.deferred (some [])))) (nx+1) (some (.loop .ready none fn n aa y params.toList assign body nx))) T5 (Yo _) (Ye _) U9 U4 (by rw[World.size_alloc])
    (by rw[cr _ T5,Zv rfl]) (λx i=> .inl (by rw[cr _ T5,Zj i]))
    ⟨tmps,by
     rw[show(⟨w.heap.size+1,0,0⟩:fS).a8=(w.alloc (.deferred (some []))).heap.size by rw[World.size_alloc],World.alloc_heap_new,T7 nx (.inr rfl),UF],
     (T1.R U2.dX U2.ef).R T7 (λ_ e=> .inl e), .inl (.inr rfl),UA,UB,λc s=>(by cases s),a.dO.fn⟩
    ⟨λ_ _ _ e=>(by cases e),λ_ _ _ e=>(by cases e)⟩
   have Ub:dU C (nx+1) (cZ u nx ⟨w.heap.size,0,0⟩) (add D nx) (aP C S nx (some (.deferred (some [])))) aF.heap.size (w.alloc (.deferred (some []))) (cZ (cZ u nx ⟨w.heap.size,0,0⟩) (nx+1) ⟨w.heap.size+1,0,0⟩) (add (add D nx) (nx+1))
    (aP C (aP C S nx (some (.deferred (some [])))) (nx+1) (some (.loop .ready none fn n aa y params.toList assign body nx))) ((w.alloc (.deferred (some []))).alloc (.loop {state:= .ready,pending:=none,fn,tmps,params,assign,body,defers:=w.heap.size})):=
    ⟨T7,λ_ e=> .inl e,λUH e=>e.elim .inl (λe=> .inr Zo),λx _ U8=>by rw[cr _ T5,Zj Zo],Below.alloc (Below.refl _ _) U4 _⟩
   have i:=U2.trans (Ye nx) Ub
   have m:=a.ext T0 (i.mono a.eH) (ZD (Ye _) (Ye _))
   have UU:jM C (add (add D nx) (nx+1)) fn aa (⟨.collected nx,[]⟩::av) none:=⟨λd O=>by
    rcases Zz.1 O with rfl|O
    ·exact⟨.inl (.inr rfl),trivial⟩
    ·exact m.dO.av d O,m.dO.ro,m.dO.fn⟩
   have U1:fU C (cZ (cZ u nx ⟨w.heap.size,0,0⟩) (nx+1) ⟨w.heap.size+1,0,0⟩) (add (add D nx) (nx+1)) (aP C (aP C S nx (some (.deferred (some [])))) (nx+1) (some (.loop .ready none fn n aa y params.toList assign body nx))) aC (nx+2) n aa y tmps
    (.inRangeFunc (nx+1)::k) (.inRangeFunc (w.heap.size+1)::aD):=by
    have:=fU.dk (aC:=aC) (ai:=nx+2) (S:=aP C (aP C S nx (some (.deferred (some [])))) (nx+1) (some (.loop .ready none fn n aa y params.toList assign body nx))) (U7.R i.dX i.ef) (T1.R i.dX i.ef) (h:=nx+1) (.inr rfl)
    rw[fj]at this
    exact this
   have X:aC<=nx+2:=zu a.eH
   obtain⟨args,T9,TY⟩:=U6 (w.heap.size+1) _ _ _ _ _ _ _ (nx+2) (nx+1) i.dX i.ef (.inr rfl) (by rw[fj]) T0 m.fc m.dP (Zp _)
    (.cons (aS:= .run) U1 trivial UU a.bot X m.cs) Zs e
   refine .head (AR (run_enterLoop_outer fn tmps params assign body) (UD _ _) T9) ?_
   have U0:({bd u fn av am none tmps (.inRangeFunc (w.heap.size+1)::aD) .run with defers:=[{target:= .collected w.heap.size,args:= #[]}]++av.map (fx u)}:Frame)=
    bd (cZ (cZ u nx ⟨w.heap.size,0,0⟩) (nx+1) ⟨w.heap.size+1,0,0⟩) fn (⟨.collected nx,[]⟩::av) am none tmps (.inRangeFunc (w.heap.size+1)::aD) .run:=by
    have j:av.map (fx (cZ (cZ u nx ⟨w.heap.size,0,0⟩) (nx+1) ⟨w.heap.size+1,0,0⟩))=av.map (fx u):=Yw λd O=>te i.dX (a.dO.av d O)
    have UJ:fx (cZ (cZ u nx ⟨w.heap.size,0,0⟩) (nx+1) ⟨w.heap.size+1,0,0⟩) ⟨.collected nx,[]⟩={target:= .collected w.heap.size,args:= #[]}:=by
     simp only[fx,m9,aR]
     rw[T7 nx (.inr rfl),UF]
    simp only[bd,ZS,j,UJ,YZ,List.nil_append,YD]
   rw[U0]
   exact TY
  |some h=>
   simp only[fX]at e
   split at e
   ·rename_i st Uq Ui ah Uk Uc Up Ud Ue r ap
    have O:=a.dO.ro h rfl
    obtain⟨Us,eN,lp,UG,Ul,Um,Un,Uo⟩:=a.K.obj h _ ap O
    have Z:=ib a.K
    have U3:=hU (u:=u) (pl:=⟨w.heap.size,0,0⟩) Z
    have T0:=a.K.alloc (b:=nx) (nx':=nx+1) (pl:=⟨w.heap.size,0,0⟩) (bJ:= .loop .ready none fn n aa y params.toList assign body r) (A:= .loop {state:= .ready,pending:=none,fn,tmps,params,assign,body,defers:=(u r).a8})
     (B:=aP C S nx (some (.loop .ready none fn n aa y params.toList assign body r))) a.K.aN (Yo _) (Ye _) Z a.cp rfl
     (by rw[cr _ a.K.aN,Zv rfl]) (λx i=> .inl (by rw[cr _ a.K.aN,Zj i]))
     ⟨tmps,by rw[World.alloc_heap_new,U3 r UG],T1.R U3 (λ_ e=> .inl e), .inl UG,UA,UB,λc s=>(by cases s),a.dO.fn⟩
     ⟨λ_ _ _ e=>(by cases e),λ_ _ _ e=>(by cases e)⟩
    have i:dU C nx u D S aF.heap.size w (cZ u nx ⟨w.heap.size,0,0⟩) (add D nx) (aP C S nx (some (.loop .ready none fn n aa y params.toList assign body r))) (w.alloc (.loop {state:= .ready,pending:=none,fn,tmps,params,assign,body,defers:=(u r).a8})):=
     ⟨U3,λ_ e=> .inl e,λUH e=>e.elim .inl (λe=> .inr Zo),λx _ U8=>by rw[cr _ a.K.aN,Zj Zo],Below.alloc (Below.refl _ _) a.cp _⟩
    have m:=a.ext T0 (i.mono a.eH) (Ye _)
    have U1:fU C (cZ u nx ⟨w.heap.size,0,0⟩) (add D nx) (aP C S nx (some (.loop .ready none fn n aa y params.toList assign body r))) aC (nx+1) n aa y tmps (.inRangeFunc nx::k) (.inRangeFunc w.heap.size::aD):=by
     have:=fU.dk (aC:=aC) (ai:=nx+1) (S:=aP C S nx (some (.loop .ready none fn n aa y params.toList assign body r))) (U7.R i.dX i.ef) (T1.R i.dX i.ef) (h:=nx) (.inr rfl)
     rw[fj]at this
     exact this
    have X:aC<=nx+1:=zu a.eH
    obtain⟨args,T9,TY⟩:=U6 w.heap.size _ _ _ _ _ _ _ (nx+1) nx i.dX i.ef (.inr rfl) (by rw[fj]) T0 m.fc m.dP (Zp _)
     (.cons (aS:= .run) U1 trivial m.dO a.bot X m.cs) Zs e
    have UR:(Instr.enterLoop fn tmps params assign body ((some h).map λh=>(u h).a8)).run C.P w= .ok (w.heap.size,[]) (w.alloc (.loop {state:= .ready,pending:=none,fn,tmps,params,assign,body,defers:=(u r).a8})):=by
     unfold Instr.enterLoop
     simp only[ZJ,Sem.run_bind,run_getLoop eN,run_newObj_alloc,Result.andThen,Sem.run_pure]
    refine .head (AR UR (UD _ _) T9) ?_
    have U0:({bd u fn av am (some h) tmps (.inRangeFunc w.heap.size::aD) .run with defers:=[]++av.map (fx u)}:Frame)=bd u fn av am (some h) tmps (.inRangeFunc w.heap.size::aD) (de u .run):=rfl
    rw[U0, <-oS i.dX a.dO]
    exact TY
   ·simp at e
 ·simp at e
def xg(O:Env C aF bV b6)(x:gc C aF aO aU U)(p:ec C aF aO aU fn aa av am ro cs S nx u D w aC T)(r:eo u D n aa y tmps):∀(c:Code) (k:List bS) (aD:List Item),fA C aa c=true->fv C u D aa k aD->
 ji c U C k ⟨fn,n,aa,av,am,ro,cs⟩ y S nx=some v->Ends C aF aO aU v (lone (bd u fn av am ro tmps (.code c::aD) .run) T w):=by
 intro c
 have go:∀k aD,fv C u D aa k aD->U .run k ⟨fn,n,aa,av,am,ro,cs⟩ y S nx=some v->Ends C aF aO aU v (lone (bd u fn av am ro tmps aD .run) T w):=
  λk aD d e=>x _ _ _ _ _ _ _ _ _ _ _ _ v e u D w aC tmps aD T (p.state (.plain d r))
 induction c with
 |skip=>intro k aD _ d e;exact .head KU (go k aD d e)
 |region id ab T1=>intro k aD _ d e;exact JC O x p d r e
 |seq a b G m=>
  intro k aD g d e
  simp only[fA,Zq]at g
  exact .head KT (G (.code b::k) (.code b::aD) g.1 (.cons (.code g.2) d) e)
 |cond c a b G m=>
  intro k aD g d e
  simp only[fA,Zq]at g
  have i:pr c y (ji a U C k ⟨fn,n,aa,av,am,ro,cs⟩ y S nx) (ji b U C k ⟨fn,n,aa,av,am,ro,cs⟩ y S nx)=some v:=e
  simp only[pr,gL]at i
  split at i
  ·rename_i L T0
   obtain⟨P,_⟩:=xI p.dP r g.1 T0
   cases L with
   |bool t=>
    refine .head (KB (t:=t) (by rw[P];rfl)) ?_
    cases t with
    |true=>exact G k aD g.2.1 d i
    |false=>exact m k aD g.2.2 d i
   |_=>simp at i
  ·simp at i
 |block id b m=>intro k aD g d e;exact .head KA (m (.inBlock id::k) (.inBlock id::aD) g (.cons .inBlock d) e)
 |loop b m=>intro k aD g d e;exact .head KK (m (.inLoop b::k) (.inLoop b::aD) g (.cons (.inLoop g) d) e)
 |rangeFunc f params assign body _ _=>intro k aD g d e;exact Jx O x p r g d e
 |exit id=>
  intro k aD _ d e
  have i:md id U C k ⟨fn,n,aa,av,am,ro,cs⟩ y S nx=some v:=e
  unfold md at i
  split at i
  ·rename_i co z
   obtain⟨c0,X,Z⟩:=FP id d z
   exact .head (KF X) (go co c0 Z i)
  ·rename_i z
   exact un x (.inr (.inr ⟨id,aD,rfl,rfl,FO id d z⟩)) p r i
 |scope b m=>intro k aD g d e;exact .head KS (m (.inScope b::k) (.inScope b::aD) g (.cons (.inScope g) d) e)
 |label h=>intro k aD _ d e;exact .head KJ (go k aD d e)
 |goto h=>intro k aD _ _ e;exact absurd e (by simp[ji,nF])
 |ret=>intro k aD _ d e;exact un x (.inr (.inl ⟨rfl,aD,rfl⟩)) p r e
 |refuse s=>intro k aD _ _ e;exact absurd e (by simp[ji,nF])
def JI(P:bA C u D S nx az w)(v:eo u D n aa y tmps){ar:ResultVar->Sem Value}(G:∀t,ar (.tmp t)=pure (tmps.getD t Go.undef))(O:∀a t,ar (.cell a t)=do loadVar t (<-asAddr (tmps.getD a Go.undef))):
 ∀(h:List ResultVar) (aB:List q),lv aa h=true->km C S y h=some aB->(h.mapM ar).run C.P w= .ok (aR u aB) w/\ca D aB:=by
 intro h
 induction h with
 |nil=>intro aB _ e;simp[km]at e;subst e;exact⟨by simp[aR],trivial⟩
 |cons x h U=>
  intro aB c e
  cases x with
  |tmp t=>
   simp only[lv,Zq]at c
   simp only[km]at e
   split at e
   ·rename_i L r d K
    simp at e;subst e
    obtain⟨f,g⟩:=v.val t L c.1 d
    obtain⟨i,m⟩:=U r c.2 K
    refine⟨?_,g,m⟩
    simp[zb,G,f,i,aR]
   ·simp at e
  |cell a t=>
   simp only[lv,Zq]at c
   simp only[km]at e
   split at e
   ·rename_i p X
    split at e
    ·rename_i L r d K
     simp at e;subst e
     obtain⟨f,g⟩:=v.val a p c.1 X
     obtain⟨i,m⟩:=U r c.2 K
     obtain⟨s,z⟩:=wU P g d
     refine⟨?_,z,m⟩
     cases p with
     |ptr b A=>
      simp only[Instr.loadAt,Instr.sureAddr,af,Sem.run_bind,Sem.run_pure,Result.andThen_ok]at s
      simp[zb,O,f,af,asAddr,s,i,aR]
     |_=>simp[iM,br,W]at d;split at d<;>simp at d
    ·simp at e
   ·simp at e
def IU(aB:List q):(if e:(aR u aB).toArray.size=1 then(aR u aB).toArray[0]else Value.tuple (aR u aB).toArray)=af u (one aB):=by
 match aB with
 |[]=>simp[one,aR,af]
 |[a]=>simp[one,aR]
 |a::b::r=>simp[one,aR,af]
def IT{aB:List q}(e:ca D aB):ba D (one aB):=by
 match aB,e with
 |[],e=>exact e
 |[a],e=>exact e.1
 |a::b::r,e=>exact e
def ec.defs(a:ec C aF aO aU fn aa av am ro cs S nx u D w aC T){b:List dI}(e:∀d∈b,j7 D d):ec C aF aO aU fn aa b am ro cs S nx u D w aC T:=
 ⟨a.K,a.fc,a.dP,a.eH,⟨e,a.dO.ro,a.dO.fn⟩,a.bot,a.cs⟩
def ec.vg{todo:List bS}{aS:fa}(d:aS≠ .run)(b:hI D aS)(a:ec C aF aO aU fn aa av am ro cs S nx u D w aC T)(c:eo u D n aa y tmps):
 m0 C aF aO aU aS todo fn n aa av am ro cs y S nx u D w aC tmps aD T:=by
 cases aS with
 |run=>exact absurd rfl d
 |returning=>exact⟨a.K,a.fc,a.dP,a.eH,a.dO,b,a.bot,a.cs,c⟩
 |panicking f=>exact⟨a.K,a.fc,a.dP,a.eH,a.dO,b,a.bot,a.cs,c⟩
def xo(T0:Env C aF bV b6)(G:gc C aF aO aU U){d:dI}{ds:List dI}{aS:fa}{todo:List bS}(p:aS≠ .run)(x:hI D aS)(a:ec C aF aO aU fn aa (d::ds) am ro cs S nx u D w aC T)(X:eo u D n aa y tmps)
 (e:ks d ds aS todo U C ⟨fn,n,aa,[],am,ro,cs⟩ y S nx=some v):Ends C aF aO aU v (lone (bd u fn (d::ds) am ro tmps aD (de u aS)) T w):=by
 have m:j7 D d:=a.dO.av d (Zl ..)
 have z:∀d∈ds,j7 D d:=λc i=>a.dO.av c (Zi _ i)
 have t:de u aS≠ .run:=by cases aS<;>simp[de]at p ⊢
 unfold ks at e
 split at e
 rename_i U6 aG rY U5 U4 U7 U3 T8
 cases T8
 split at e
 ·rename_i r Z
  split at e
  ·rename_i b O
   simp only[ce,dB]at e
   obtain⟨T7,e⟩:=e
   have i:D r:=m.1
   obtain⟨eN,lp⟩:=a.K.obj r _ O i
   simp only[ZJ]at eN
   obtain⟨aK,bc,bl,U2⟩:=putObj a.K (bs:=aC) (o':= .deferred none) (ft:= .deferred none) (ep T7) i O ⟨Zs,Zs⟩ eN Zs
    (λaK U1=>⟨by simpa using U1,λh ap=>by cases ap⟩) ⟨λ_ _ _ e=>(by cases e),λ_ _ _ e=>(by cases e)⟩
   have U0:(Instr.takeDeferred (u r).a8).run C.P w= .ok (b.map (fx u)) aK:=by
    have j:aK=w.putObj (u r).a8 (.deferred none):=by
     have:(Go.setObj (u r).a8 (.deferred none)).run C.P w= .ok () (w.putObj (u r).a8 (.deferred none)):=by simp[Go.setObj,Sem.run,eN,World.putObj]
     rw[this]at bc
     simp only[Result.ok.injEq]at bc
     exact bc.2.symm
    rw[j]
    exact run_takeDeferred eN
   refine .head (KV (bq:=b++ds) t U0 (by rw[YF])) ?_
   have T6:∀d∈b++ds,j7 D d:=λc T5=>by
    rcases Zr.1 T5 with J|J
    ·exact lp b rfl c J
    ·exact z c J
   have T4:=(a.defs T6).ext bl U2 (Zp _)
   exact G _ _ _ _ _ _ _ _ _ _ _ _ v e u D aK aC tmps aD T (T4.vg p x X)
  ·simp at e
 ·rename_i f s args
  split at e
  ·rename_i g Z T9
   have T3:=yf (u:=u) (S:=S) (nx:=nx) (az:=aF.heap.size) (w:=w) T0.eO m.1.1 m.1.2 m.2 T9
   obtain⟨T1,T2⟩:=T3
   have TZ:=step_defer (P:=C.P) (fr:=bd u fn (⟨.fn f s,args⟩::ds) am ro tmps aD (de u aS)) (cs:=T) (w:=w) (d:=fx u ⟨.fn f s,args⟩) (ds:=ds.map (fx u)) t rfl rfl T1
   refine .head TZ ?_
   have TY:lZ C u D S aC nx n aa y tmps aS todo aD:=by
    cases aS with
    |run=>exact absurd rfl p
    |_=>exact X
   exact xC (nc:=true) G a.K a.fc a.dP (Zp _) (.cons (aS:=aS) TY x ((a.defs z).dO) a.bot a.eH a.cs) (λj=>by cases j) T2 e
  ·simp at e
def Ff(u:bC):∀(h:List ik),(h.map (iO u)).dropWhile (!·.goexit)=[]:=by
 intro h
 induction h with
 |nil=>rfl
 |cons a h U=>simp[iO,U]
def Kk(u:bC)(a:List ik):settle (de u (.panicking a))=de u (ku a):=by
 cases a with
 |nil=>rfl
 |cons p h=>
  obtain⟨v,r⟩:=p
  cases r with
  |false=>simp[de,settle,ku,iO]
  |true=>simp[de,settle,ku,iO,Ff]
def Lr{a:List ik}(e:hI D (.panicking a)):hI D (ku a):=by
 unfold ku
 split
 ·trivial
 ·exact e
def Ls(a:List ik):ku a≠ .run:=by
 unfold ku
 split<;>simp
def JK(U2:Env C aF bV b6)(X:gc C aF aO aU U){todo:List bS}(b:ec C aF aO aU fn aa av am ro cs S nx u D w aC T)(T7:eo u D n aa y tmps)
 (e:qv todo U C ⟨fn,n,aa,av,am,ro,cs⟩ y S nx=some v):Ends C aF aO aU v (lone (bd u fn av am ro tmps aD .returning) T w):=by
 unfold qv at e
 cases av with
 |cons d ds=>exact xo (aS:= .returning) U2 X Zs trivial b T7 e
 |nil=>
  simp only at e
  split at e
  ·rename_i f T1
   obtain⟨UA,T5,U5⟩:=b.dO.fn
   rw[T1]at T5;cases T5
   split at e
   ·rename_i aB U7
    have Z:(results f tmps).run C.P w= .ok (af u (one aB)) w/\ca D aB:=by
     unfold results
     rw[Sem.run_bind,Array.mapM_eq_mapM_toList,Sem.run_map]
     obtain⟨U8,U9⟩:=JI b.K T7 (ar:=λx=>match x with| .tmp t=>pure (tmps.getD t Go.undef)| .cell a t=>do loadVar t (<-asAddr (tmps.getD a Go.undef))) (λ_=>rfl) (λ_ _=>rfl) _ _ U5 U7
     refine⟨?_,U9⟩
     refine(congrArg (λr=>Result.andThen (Result.andThen r _) _) U8).trans ?_
     simp only[Result.andThen_ok,Sem.run_pure]
     rw[<-IU]
    obtain⟨Z,U3⟩:=Z
    cases am with
    |false=>
     have T6:(bd u fn [] false ro tmps aD .returning).leaving C.P w (.returned (af u (one aB))):=⟨rfl,rfl,rfl,f,T1,Z⟩
     cases cs with
     |nil=>
      simp only[jg,fz,Zu]at e
      subst e
      obtain⟨b0,bb,b4⟩:=b.bot rfl
      have U4:=b.cs
      cases U4 with
      |nil=>exact⟨u,w,_, .refl _ _,T6,b0,b.fc⟩
     |cons c rest=>
      refine w8 X b Zs (IT U3) (λg O j=> ?_) e
      subst j
      exact step_leave_returned T6
    |true=>
     cases cs with
     |nil=>have:=(b.bot rfl).2.1;cases this
     |cons c rest=>
      obtain⟨p,ah,T3,T4,U1,m,U0,i,s⟩:=c
      obtain⟨T2,G,c0,O,rfl,bc,bl,T8,T9,TY,TZ⟩:=b.cs.inv
      have U6:=step_going_returned (P:=C.P) (fr:=bd u fn [] true ro tmps aD .returning) (c:=bd u p m i s G c0 (de u U0)) (cs:=O) (w:=w) (v:=af u (one aB)) rfl ⟨rfl,rfl,f,T1,Z⟩
      refine .head U6 ?_
      cases U0 with
      |run=>simp[jg]at e
      |returning=>
       have T0:U .returning U1 ⟨p,ah,T3,m,i,s,rest⟩ T4 S nx=some v:=e
       exact X _ _ _ _ _ _ _ _ _ _ _ _ v T0 u D w T2 G c0 O ⟨b.K,b.fc,b.dP,ZD TY b.eH,T8,trivial,T9,TZ,bc⟩
      |panicking z=>
       have T0:U (ku z) U1 ⟨p,ah,T3,m,i,s,rest⟩ T4 S nx=some v:=e
       have j:({bd u p m i s G c0 (de u (.panicking z))with mode:=settle (bd u p m i s G c0 (de u (.panicking z))).mode}:Frame)=bd u p m i s G c0 (de u (ku z)):=by
        rw[show(bd u p m i s G c0 (de u (.panicking z))).mode=de u (.panicking z) from rfl,Kk]
        rfl
       rw[j]
       have Y:ec C aF aO aU p T3 m i s rest S nx u D w T2 O:=⟨b.K,b.fc,b.dP,ZD TY b.eH,T8,T9,TZ⟩
       exact X _ _ _ _ _ _ _ _ _ _ _ _ v T0 u D w T2 G c0 O (Y.vg (Ls z) (Lr bl) bc)
   ·simp at e
  ·simp at e
def Jv(u:bC)(a:List ik)(aS:fa):raised (de u aS) (a.map (iO u))=de u (nP a aS):=by
 cases aS<;>simp[de,raised,nP]
def Jp{a:List ik}{aS:fa}(e:hI D (.panicking a))(b:hI D aS):hI D (nP a aS):=by
 cases aS with
 |panicking hq=>
  intro p c
  rcases Zr.1 c with J|J
  ·exact e p J
  ·exact b p J
 |_=>exact e
def I5(T0:Env C aF bV b6)(z:gc C aF aO aU U){todo:List bS}{a:List ik}(x:hI D (.panicking a))(p:ec C aF aO aU fn aa av am ro cs S nx u D w aC T)(T4:eo u D n aa y tmps)
 (e:qu a todo U C ⟨fn,n,aa,av,am,ro,cs⟩ y S nx=some v):Ends C aF aO aU v (lone (bd u fn av am ro tmps aD (de u (.panicking a))) T w):=by
 unfold qu at e
 cases av with
 |cons d ds=>exact xo (aS:= .panicking a) T0 z Zs x p T4 e
 |nil=>
  simp only at e
  cases cs with
  |nil=>simp at e
  |cons c rest=>
   obtain⟨m,ah,O,Z,X,i,b,g,r⟩:=c
   obtain⟨G,s,c0,t,rfl,bc,bl,T5,T6,T7,T8⟩:=p.cs.inv
   obtain⟨f,T2,_⟩:=p.dO.fn
   have T3:=step_going_panicked (P:=C.P) (fr:=bd u fn [] am ro tmps aD (de u (.panicking a))) (c:=bd u m i g r s c0 (de u b)) (cs:=t) (w:=w) (chain:=a.map (iO u)) ⟨rfl,rfl,f,T2⟩
   refine .head T3 ?_
   have j:({bd u m i g r s c0 (de u b)with mode:=raised (bd u m i g r s c0 (de u b)).mode (a.map (iO u))}:Frame)=bd u m i g r s c0 (de u (nP a b)):=by
    rw[show(bd u m i g r s c0 (de u b)).mode=de u b from rfl,Jv]
    rfl
   rw[j]
   have T1:U (nP a b) X ⟨m,ah,O,i,g,r,rest⟩ (jk X Z) S nx=some v:=e
   have Y:ec C aF aO aU m O i g r rest S nx u D w G t:=⟨p.K,p.fc,p.dP,ZD T7 p.eH,T5,T6,T8⟩
   exact z _ _ _ _ _ _ _ _ _ _ _ _ v T1 u D w G s c0 t (Y.vg (by cases b<;>simp[nP]) (Jp x bl) bc.drop)
def AT(r:Env C aF bV b6)(i:gc C aF aO aU U):gc C aF aO aU λaS todo ar y S nx=>u9 U C aS todo ar y S nx:=by
 intro aS todo fn n aa av am ro cs y S nx v T0 u D w bs tmps aD T b
 cases aS with
 |run=>
  obtain⟨f,U2⟩:=b.Ek
  have X:AU todo U C ⟨fn,n,aa,av,am,ro,cs⟩ y S nx=some v:=T0
  cases U2 with
  |plain g t=>
   cases g with
   |nil=>
    have m:ho none U C [] ⟨fn,n,aa,av,am,ro,cs⟩ y S nx=some v:=X
    exact un i (.inl ⟨rfl,rfl⟩) f t m
   |cons ai g=>
    rename_i a x k aD
    have m:yg a U C k ⟨fn,n,aa,av,am,ro,cs⟩ y S nx=some v:=X
    have go:∀k aD,fv C u D aa k aD->U .run k ⟨fn,n,aa,av,am,ro,cs⟩ y S nx=some v->Ends C aF aO aU v (lone (bd u fn av am ro tmps aD .run) T w):=
     λk aD g e=>i _ _ _ _ _ _ _ _ _ _ _ _ v e u D w bs tmps aD T (f.state (.plain g t))
    cases ai with
    |code P=>exact xg r i f t _ k aD P g m
    |inBlock=>exact .head KG (go k aD g m)
    |inLoop P=>exact .head KH (xg r i f t _ _ _ P (.cons (.inLoop P) g) m)
    |inScope P=>exact .head KI (go k aD g m)
    |nh G=>
     rename_i h
     have d:ox h U C k ⟨fn,n,aa,av,am,ro,cs⟩ y S nx=some v:=m
     unfold ox at d
     split at d
     ·rename_i st p T6 ah T8 T4 params assign body T5 O
      have Z:st≠ .busy->aQ (eS C h) (et (aP C S h (some (.loop .exhausted p T6 ah T8 T4 params assign body T5))) λS=>U .run ((p.map bS.code).toList++k) ⟨fn,n,aa,av,am,ro,cs⟩ y S nx) none=some v->
       Ends C aF aO aU v (lone (bd u fn av am ro tmps (.endRangeFunc (u h).a8::aD) .run) T w):=by
       intro U1 s
       simp only[ce,dB]at s
       obtain⟨T2,s⟩:=s
       have T3:∀c,p=some c->oK c:=by
        obtain⟨_,_,_,_,_,_,z,_⟩:=f.K.obj h _ O G
        exact z
       obtain⟨U4,eN,U3,z,T1⟩:=ur f (e7:= .exhausted) (mF:=p) (ep T2) G O T3
       refine .head (KE (run_endLoop eN U1)) ?_
       refine i _ _ _ _ _ _ _ _ _ _ _ _ v s u D _ bs tmps _ T (T1.state (.plain ?_ t))
       cases p with
       |none=>exact g
       |some c=>
        have TZ:fA C aa c=true:=by
         rcases z c rfl with rfl|⟨id,rfl⟩<;>rfl
        exact .cons (.code TZ) g
      cases st with
      |busy=>simp at d
      |ready=>exact Z Zs d
      |done=>exact Z Zs d
      |exhausted=>exact Z Zs d
     ·simp at d
    |begin=>
     have d:pn U C k ⟨fn,n,aa,av,am,ro,cs⟩ y S nx=some v:=m
     unfold pn at d
     cases ro with
     |none=>simp at d
     |some h=>
      simp only at d
      split at d
      ·rename_i p T6 ah T8 T4 params assign body T5 O
       simp only[ce,dB]at d
       obtain⟨T2,d⟩:=d
       have G:=f.dO.ro h rfl
       have T3:∀c,p=some c->oK c:=by
        obtain⟨_,_,_,_,_,_,z,_⟩:=f.K.obj h _ O G
        exact z
       obtain⟨U4,eN,U3,z,T1⟩:=ur f (e7:= .busy) (mF:=p) (ep T2) G O T3
       refine .head (Kz (run_beginRound eN rfl)) ?_
       exact i _ _ _ _ _ _ _ _ _ _ _ _ v d u D _ bs tmps aD T (T1.state (.plain g t))
      ·simp at d
  |seq g U0=>exact AG r i _ _ _ _ _ _ _ _ _ _ f g U0 X
  |drawn g s T9 T7 TY=>exact xu r i f g s T9 T7.cf T7 TY X
 |returning=>
  have f:ec C aF aO aU fn aa av am ro cs S nx u D w bs T:=⟨b.K,b.fc,b.dP,b.eH,b.dO,b.bot,b.cs⟩
  exact JK (todo:=todo) r i f b.todo T0
 |panicking U5=>
  have f:ec C aF aO aU fn aa av am ro cs S nx u D w bs T:=⟨b.K,b.fc,b.dP,b.eH,b.dO,b.bot,b.cs⟩
  exact I5 (todo:=todo) r i b.mode f b.todo T0
def J6(a:Env C aF bV b6):∀n,gc C aF aO aU (run C n):=by
 intro n
 induction n with
 |zero=>intro aS todo fn n aa av am ro cs y S nx v e;simp[run]at e
 |succ m b=>exact AT a b
def J3(a:Env C aF bV b6){m f:Nat}{args:List q}(c:ca b6 args)(e:g5 C m f args=some v):
 Calls C.P f (aR bV args).toArray aF λj aK=>(∃u,j= .returned (af u v))/\Below aF.heap.size aF aK:=by
 intro b
 have p:Ends C aF f b v (lone (Frame.enter C.P f (aR bV args).toArray .normal) b aF):=
  rl (J6 a m) a.base (Below.refl _ _) a.dP (Zp _) .nil (λ_=>rfl) c e
 obtain⟨u,aK,fr,d,g,i,n⟩:=p
 exact⟨.returned (af u v),aK,fr,⟨⟨u,rfl⟩,n⟩,d,i,g⟩
end
noncomputable section
open Go.RowKit (Below)
abbrev fb:=Option (List q×Nat×List (Nat×ac))
def nu(P:Program)(next:Nat->DataW Unit->Nat->fb):List Field->List (DataW Unit)->Nat->Nat->fb
 |[],[],_,n=>some ([],n,[])
 |f::eJ,d::ds,off,n=>aQ (Nat.beq f.offset off) (match next f.type d n with
  |some (h,aG,os)=>aQ (Nat.beq h.length (P.cellsOf f.type)) (match nu P next eJ ds (off+h.length) aG with
   |some (a,aL,b)=>some (h++a,aL,os++b)
   |none=>none) none
  |none=>none) none
 |_,_,_,_=>none
def oL(P:Program)(next:Nat->DataW Unit->Nat->fb)(j:Nat):List (DataW Unit)->Nat->fb
 |[],n=>some ([],n,[])
 |d::ds,n=>match next j d n with
  |some (h,aG,os)=>aQ (Nat.beq h.length (P.cellsOf j)) (match oL P next j ds aG with
   |some (a,aL,b)=>some (h++a,aL,os++b)
   |none=>none) none
  |none=>none
def pW:Lit->Option q
 | .bool b=>some (.bool b)
 | .int k n=>some (.int k n)
 | .string s=>some (.str (s.map (·.toNat)))
 |_=>none
def uk(P:Program)(j:Nat)(h:List q):Option q:=match P.underlying j with
 |some (.struct _)=>some (.agg h)
 |some (.array _ _)=>some (.agg h)
 |some _=>(match h with|[v]=>some v|_=>none)
 |none=>none
def sj(P:Program)(k:Nat):Bool:=match P.underlying k with|some .bool=>true|some (.int _)=>true|some .string=>true|_=>false
def p3(P:Program)(next:Nat->DataW Unit->Nat->fb)(j:Nat):List (Lit×DataW Unit)->Nat->Option (List (q×q)×Nat×List (Nat×ac))
 |[],n=>some ([],n,[])
 |(key,d)::ak,n=>match pW key,next j d n with
  |some a,some (h,aG,os)=>(match uk P j h,p3 P next j ak aG with
   |some v,some (r,aL,b)=>some ((a,v)::r,aL,os++b)
   |_,_=>none)
  |_,_=>none
def o0(h:List q):ac:= .cells (F.ofList h 0 .nil) h.length .own
def kg(P:Program):Nat->Nat->DataW Unit->Nat->fb
 |0,_,_,_=>none
 |m+1,t,d,n=>match P.underlying t,d with
  |some .bool, .lit (.bool b)=>some ([.bool b],n,[])
  |some (.int _), .lit (.int k i)=>some ([.int k i],n,[])
  |some .string, .lit (.string s)=>some ([.str (s.map (·.toNat))],n,[])
  |some (.pointer _), .nil=>some ([.bt],n,[])
  |some (.pointer j), .ptr d=>(match kg P m j d (n+1)with
   |some (h,aG,os)=>aQ (Nat.beq h.length (P.cellsOf j)&&Nat.blt 0 h.length) (some ([.ptr n 0],aG,(n,o0 h)::os)) none
   |none=>none)
  |some (.slice _), .nil=>some ([.aw],n,[])
  |some (.slice j), .slice ak a=>(match a with
   |[]=>(match oL P (kg P m) j ak (n+1)with
    |some (h,aG,os)=>aQ (Nat.blt 0 h.length) (some ([.slice n 0 ak.length ak.length],aG,(n,o0 h)::os)) none
    |none=>none)
   |_::_=>none)
  |some (.struct eJ), .agg ds=>(match nu P (kg P m) eJ.toList ds 0 n with
   |some (h,aG,os)=>aQ (Nat.beq h.length (P.cellsOf t)) (some (h,aG,os)) none
   |none=>none)
  |some (.array _ j), .agg ds=>(match oL P (kg P m) j ds n with
   |some (h,aG,os)=>aQ (Nat.beq h.length (P.cellsOf t)) (some (h,aG,os)) none
   |none=>none)
  |some (.interface _), .nil=>some ([.nilIface],n,[])
  |some (.map _ _), .nil=>some ([.fq],n,[])
  |some (.map k j), .map ak=>aQ (sj P k) (match p3 P (kg P m) j ak (n+1)with
   |some (r,aG,os)=>some ([.map n],aG,(n, .look r)::os)
   |none=>none) none
  |_,_=>none
section
variable{C:ax}{P:Program}{w:World}
def io(w:World)(bE:List MemPlace):Prop:=∀b off,MemPlace.cell b off∈bE->∃c t,w.heap[b]? =some (.cells c t (0,0))
def n5(A:ac):Prop:=∀C D,je C D A
def Lays(C:ax)(w:World)(n:Nat)(cs:List Value)(r:List q×Nat×List (Nat×ac)):Prop:=
 n<=r.2.1/\(∀x∈r.2.2,n<=x.1/\x.1<r.2.1/\n5 x.2)/\∃f:Nat->fS,∀u D,(∀b,n<=b->b<r.2.1->u b=f b/\D b)->cs=aR u r.1/\ca D r.1/\∀x∈r.2.2,eD C u D x.2 (u x.1) w
def Lays.plain{n:Nat}{cs:List Value}{h:List q}(e:∀u D,cs=aR u h/\ca D h):Lays C w n cs (h,n,[]):=
 ⟨Zp _,Zs,λ_=>default,λu D _=>⟨(e u D).1,(e u D).2,Zs⟩⟩
def Lays.app{n aG aL:Nat}{m p:List Value}{s t:List q}{v z:List (Nat×ac)}(a:Lays C w n m (s,aG,v))(c:Lays C w aG p (t,aL,z)):Lays C w n (m++p) (s++t,aL,v++z):=by
 obtain⟨aE,aW,T0,a3⟩:=a
 obtain⟨b0,bb,T1,b4⟩:=c
 refine⟨ZD aE b0, ?_,λb=>if b<aG then T0 b else T1 b, ?_⟩
 ·intro x d
  rcases Zr.1 d with e|e
  ·obtain⟨f,g,i⟩:=aW x e
   exact⟨f,Z5 g b0,i⟩
  ·obtain⟨f,g,i⟩:=bb x e
   exact⟨ZD aE f,g,i⟩
 ·intro u D r
  obtain⟨G,O,P⟩:=a3 u D (λb a c=>by
   have T3:b<aG:=c
   have:=r b a (Z5 c b0)
   simp only[Zv T3]at this
   exact this)
  obtain⟨S,X,Z⟩:=b4 u D (λb a c=>by
   have T2:¬b<aG:=zn.2 a
   have:=r b (ZD aE a) c
   simp only[Zj T2]at this
   exact this)
  refine⟨by rw[nb, <-G, <-S],mi O X, ?_⟩
  intro x d
  rcases Zr.1 d with e|e
  ·exact P x e
  ·exact Z x e
def nz{α g:Type}{f:α->Option g}:∀{h:List α}{r:List g},h.mapM f=some r->r.length=h.length/\∀(i:Nat) (a:α) (b:g),h[i]? =some a->r[i]? =some b->f a=some b:=by
 intro h
 induction h with
 |nil=>intro r e;simp at e;subst e;simp
 |cons a h U=>
  intro r e
  simp only[zb,Option.bind_eq_bind,ZX]at e
  obtain⟨b,Y,t,K,e⟩:=e
  simp at e;subst e
  obtain⟨p,s⟩:=U K
  refine⟨by simp[p],λi m n c d=> ?_⟩
  cases i with
  |zero=>simp at c d;subst c;subst d;exact Y
  |succ i=>exact s i m n (by simpa using c) (by simpa using d)
def yI{α d:Type}{f:α->Option d}{a:α}{h:List α}{r:List d}(e:(a::h).mapM f=some r):∃b c,r=b::c/\f a=some b/\h.mapM f=some c:=by
 simp only[zb,Option.bind_eq_bind,ZX]at e
 obtain⟨b,Y,c,K,e⟩:=e
 simp at e;subst e
 exact⟨b,c,rfl,Y,K⟩
def io.of{bE dc:List MemPlace}(e:io w bE)(a:∀x∈dc,x∈bE):io w dc:=λb off Y=>e b off (a _ Y)
def qI(C:ax)(w:World)(next:Nat->DataW Unit->Nat->fb)(dh:TypeId->List Value->Option (DataW Unit×List MemPlace)):Prop:=
 ∀t d n r,next t d n=some r->∀cs bE,dh t cs=some (d,bE)->io w bE->Lays C w n cs r
variable{next:Nat->DataW Unit->Nat->fb}{dh:TypeId->List Value->Option (DataW Unit×List MemPlace)}
def Hx(s:qI C w next dh){cs:List Value}:∀(eJ:List Field) (ds:List (DataW Unit)) (off n:Nat) (r:List q×Nat×List (Nat×ac)),nu P next eJ ds off n=some r->
 ∀b:List (DataW Unit×List MemPlace),(eJ.mapM λf=>dh f.type ((cs.drop f.offset).take (P.cellsOf f.type)))=some b->b.map (·.1)=ds->io w (b.flatMap (·.2))->Lays C w n ((cs.drop off).take r.1.length) r:=by
 intro eJ
 induction eJ with
 |nil=>
  intro ds off n r e b _ _ _
  cases ds with
  |nil=>simp[nu]at e;subst e;exact .plain λu D=>⟨by simp[aR],trivial⟩
  |cons d ds=>simp[nu]at e
 |cons f eJ U=>
  intro ds off n r e b a c m
  cases ds with
  |nil=>simp[nu]at e
  |cons d ds=>
   simp only[nu,ce]at e
   obtain⟨g,e⟩:=e
   have g:=Zh g
   split at e
   ·rename_i h aG os K
    simp only[ce]at e
    obtain⟨ap,e⟩:=e
    have ap:=Zh ap
    split at e
    ·rename_i S aL X t
     simp at e;subst e
     obtain⟨G,O,rfl,v,z⟩:=yI a
     simp at c
     obtain⟨rfl,c⟩:=c
     have i:=s _ _ _ _ K _ G.2 (by rw[v]) (m.of (by intro x a;simp;exact .inl a))
     have p:=U ds (off+h.length) aG _ t O z c (m.of (by intro x a;simp only[za,Zr];exact .inr a))
     rw[g, <-ap]at i
     have:=i.app p
     simp only[ZT]
     rw[List.take_add,List.drop_drop]
     exact this
    ·simp at e
   ·simp at e
def xV(cs:List Value)(k:Nat):∀(m i0:Nat),(List.range' i0 m).flatMap (λi=>(cs.drop (i*k)).take k)=(cs.drop (i0*k)).take (m*k):=by
 intro m
 induction m with
 |zero=>intro i0;simp
 |succ m U=>
  intro i0
  rw[List.range'_succ,za,U,Z7 m 1 k,Nat.one_mul,zs (m*k) k,List.take_add,List.drop_drop,Z7 i0 1 k,Nat.one_mul]
def yo(t:qI C w next dh){j:Nat}{g:Nat->List Value}:∀(ds:List (DataW Unit)) (i0 n:Nat) (r:List q×Nat×List (Nat×ac)),oL P next j ds n=some r->
 ∀b:List (DataW Unit×List MemPlace),((List.range' i0 ds.length).mapM λi=>dh j (g i))=some b->b.map (·.1)=ds->io w (b.flatMap (·.2))->Lays C w n ((List.range' i0 ds.length).flatMap g) r/\r.1.length=ds.length*P.cellsOf j:=by
 intro ds
 induction ds with
 |nil=>
  intro i0 n r e b _ _ _
  simp[oL]at e;subst e
  exact⟨.plain λu D=>⟨by simp[aR],trivial⟩,Zs⟩
 |cons d ds U=>
  intro i0 n r e b a c f
  simp only[oL]at e
  split at e
  ·rename_i h aG os K
   simp only[ce]at e
   obtain⟨ap,e⟩:=e
   have ap:=Zh ap
   split at e
   ·rename_i X aL Z v
    simp at e;subst e
    simp only[ZC,List.range'_succ]at a
    obtain⟨O,S,rfl,z,G⟩:=yI a
    simp at c
    obtain⟨rfl,c⟩:=c
    have m:=t _ _ _ _ K _ O.2 (by rw[z]) (f.of (by intro x a;simp;exact .inl a))
    obtain⟨p,s⟩:=U (i0+1) aG _ v S G c (f.of (by intro x a;simp only[za,Zr];exact .inr a))
    refine⟨?_, ?_⟩
    ·simp only[ZC,List.range'_succ,za]
     exact m.app p
    ·simp only[ZT,ZC,s,ap,zr]
     omega
   ·simp at e
  ·simp at e
end
end
end Go.Q

