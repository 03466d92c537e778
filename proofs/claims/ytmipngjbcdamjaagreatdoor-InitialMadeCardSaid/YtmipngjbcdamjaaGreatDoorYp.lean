/- Part of the proof of the last text; no conditions -/
import Derived.Test.YtmipngjbcdamjaaGreatDoorYo
set_option maxHeartbeats 8000000
set_option linter.all false
namespace Go.Proofs.YtmipngjbcdamjaaGreatDoor
open Go.S Go.a8
noncomputable section
section
variable{aw:Nat->Option dT}{w:Nat->Nat}
def jR(l:bk):Prop:=hC l/\(dL l).length<=120000
def nO(w:Nat->Nat):Option Nat->Nat
 |none=>1
 |some c=>w c
def gz(w:Nat->Nat):List (Option Nat)->Nat
 |[]=>0
 |D::k=>nO w D+gz w k
structure gh(aw:Nat->Option dT)(w:Nat->Nat)(s:Nat):Prop where
 pos:∀b,1<=w b
 sum:∀b d,aw b=some d->s+gz w d.args<=w b
def KZ{bM:Nat}:∀(k:List (Option Nat)),(∀D∈k,nO w D<=bM)->gz w k<=k.length*bM:=by
 intro k
 induction k with
 |nil=>intro _;simp[gz]
 |cons D k V=>
  intro e
  have b:=e D (Zl ..)
  have c:=V λD a=>e D (Zi _ a)
  rw[ZC,zr]
  simp only[gz]
  omega
def AU(w:Nat->Nat)(D:Option Nat):∀(k:List (Option Nat)),gz w (k++[D])=gz w k+nO w D:=by
 intro k
 induction k with
 |nil=>simp[gz]
 |cons a k V=>simp only[YZ,gz,V];omega
def AT{v w:Nat->Nat}:∀(k:List (Option Nat)),(∀c,some c∈k->v c=w c)->gz v k=gz w k:=by
 intro k
 induction k with
 |nil=>intro _;rfl
 |cons a k V=>
  intro e
  simp only[gz]
  rw[V λc b=>e c (Zi _ b)]
  cases a with
  |none=>rfl
  |some c=>simp only[nO];rw[e c (Zl ..)]
def yQ:(dL g8).length=1:=by unfold g8;rw[mL];rfl
def gh.size(e:gh aw w 1):∀(o:Nat) (D:Option Nat),(dL (ha aw o D)).length<=nO w D:=by
 have f:∀D,(dL g8).length<=nO w D:=λD=>by
  rw[yQ]
  cases D with
  |none=>exact Zp _
  |some c=>exact e.pos c
 intro o
 induction o with
 |zero=>exact f
 |succ o V=>
  intro D
  cases D with
  |none=>exact f none
  |some b=>
   cases ab:aw b with
   |none=>simp only[ha,ab];exact f (some b)
   |some d=>
    simp only[ha,ab]
    rw[mL]
    have key:∀k:List (Option Nat),(ez (k.map (ha aw o))).length<=gz w k:=by
     intro k
     induction k with
     |nil=>simp[ez,gz]
     |cons a k m=>
      have:=V a
      simp only[ZS,ez,gz,ZT]
      omega
    have g:=key d.args
    have i:=e.sum b d ab
    rw[ZC]
    show(ez (d.args.map (ha aw o))).length+1<=w b
    omega
def gh.less{s:Nat}(e:gh aw w (s+1)):gh aw w s:=⟨e.pos,λb d l=>zu (e.sum b d l)⟩
def gh.tQ{s b:Nat}{d a:dT}(e:gh aw w s)(ab:aw b=some d)(g:a.args=d.args):gh (λc=>if c=b then some a else aw c) w s:=by
 refine⟨e.pos,λbe f l=> ?_⟩
 split at l
 ·rename_i L
  cases l
  rw[g,L]
  exact e.sum b d ab
 ·exact e.sum be f l
def gh.Ji{l:Nat}{d b:dT}(e:gh aw w 2)(i:aw l=some d)(g:b.args=d.args++[none]):gh (λc=>if c=l then some b else aw c) w 1:=by
 refine⟨e.pos,λbe f a=> ?_⟩
 split at a
 ·rename_i L
  cases a
  have:=e.sum l d i
  rw[g,L,AU]
  show 1+(gz w d.args+1)<=w l
  omega
 ·have:=e.sum be f a;omega
def gh.Jj{l a:Nat}{d m leaf:dT}(e:gh aw w 2)(t:∀b d c,aw b=some d->some c∈d.args->aw c≠none)(p:aw a=none)(au:leaf.args=[])(i:aw l=some d)(s:m.args=d.args++[some a]):
 gh (λf=>if f=l then some m else if f=a then some leaf else aw f) (λf=>if f=a then 1 else w f) 1:=by
 have r:∀b d,aw b=some d->gz (λf=>if f=a then 1 else w f) d.args=gz w d.args:=λb d ab=>AT _ λc z=>by
  have v:c≠a:=λl=>t b d c ab z (by rw[l];exact p)
  simp only[v,ZM]
 refine⟨λb=> ?_,λbe n g=> ?_⟩
 ·split
  ·exact Zp _
  ·exact e.pos b
 ·have x:l≠a:=λl=>by rw[l,p]at i;cases i
  split at g
  ·rename_i L
   cases g
   have:=e.sum l d i
   subst L
   rw[s,AU,r be d i,Zj x]
   show 1+(gz w d.args+(if a=a then 1 else w a))<=w be
   rw[Zv rfl]
   omega
  ·split at g
   ·rename_i L
    cases g
    rw[au,Zv L]
    exact Zp _
   ·rename_i L
    rw[r be n g,Zj L]
    have:=e.sum be n g
    omega
def gh.over{b t:Nat}{d:dT}(e:gh aw w 1)(m:∀b d c,aw b=some d->some c∈d.args->aw c≠none)(ab:aw b=none)(r:aw t≠none)(i:d.args=[some t]):
 gh (λa=>if a=b then some d else aw a) (λa=>if a=b then w t+1 else w a) 1:=by
 have s:t≠b:=λl=>r (by rw[l];exact ab)
 refine⟨λa=> ?_,λbe g f=> ?_⟩
 ·split
  ·omega
  ·exact e.pos a
 ·split at f
  ·rename_i L
   cases f
   rw[i,Zv L]
   show 1+((if t=b then w t+1 else w t)+0)<=w t+1
   rw[Zj s]
   omega
  ·rename_i L
   rw[Zj L,AT (w:=w) _ λc p=>by
    have n:c≠b:=λl=>m be g c f p (by rw[l];exact ab)
    simp only[n,ZM]]
   exact e.sum be g f
def n4(b7:Nat->Nat):Nat->Nat:=λb=>2*3^(b7 b+1) -1
def uP(n:Nat):1<=3^n:=Nat.one_le_pow n 3 Zd
def dg.wt{X:bU}{h:I ae}{F:Nat->Prop}{b7:Nat->Nat}(e:dg X h fH F aw b7):gh aw (n4 b7) 2:=by
 refine⟨λb=> ?_,λb d ab=> ?_⟩
 ·have:=uP (b7 b+1)
  unfold n4
  omega
 ·have f:=KZ (w:=n4 b7) (bM:=2*3^b7 b-1) d.args λD g=>by
   have i:=uP (b7 b)
   cases D with
   |none=>show 1<=_;omega
   |some c=>
    have a:=(e.f0 b d c ab g).2
    have m:3^(b7 c+1)<=3^b7 b:=Nat.pow_le_pow_right Zd a
    show 2*3^(b7 c+1) -1<=_
    omega
  have a:=zd (2*3^b7 b-1) (e.ok b d ab).ee
  have i:=uP (b7 b)
  unfold n4 at f ⊢
  rw[Nat.pow_succ]
  omega
def A5{b7:Nat->Nat}{b:Nat}(e:b7 b<=9):n4 b7 b<=118097:=by
 have a:3^(b7 b+1)<=3^10:=Nat.pow_le_pow_right Zd Zo
 unfold n4
 rw[show(3:Nat)^10=59049 from by decide]at a
 omega
def Hb:jR g8:=⟨ub,by rw[yQ];decide⟩
end
def m6(X:bU)(h:I ae)(F:Nat->Prop)(v:y)(n:Nat):Prop:=∃aw b7 w b,v= .ptr b 0/\dg X h fH F aw b7/\aw b≠none/\1<=b7 b/\gh aw w 1/\w b<=n
structure mV where
 left:List aW
 at_:Int
 dB:y
structure fw where
 name:aW
 cl:List bx
 out:List bx
 loc:List bx
 eqs:List mV
def iL(X:bU)(h:I ae)(bp:Nat->Prop)(L:mV)(row:List y):Prop:=∃(R:Nat->Nat) (ax:y) (b:Nat),row=[ax, .az, .Z L.at_,L.dB]/\ci X h (λa=>bp a/\R a=1) b ax 1 (dt L.left)/\fo X h fH (λa=>bp a/\R a=0) L.dB 9
def jS(X:bU)(h:I ae)(bp:Nat->Prop)(g:fw)(row:List y):Prop:=∃(R:Nat->Nat) (bA bB ax b:y) (b2 be b6 c4:Nat) (rows:List (List y)),row=[.str g.name, .Z 0,bA,bB,ax,b]
 /\er X h (λa=>bp a/\R a=1) b2 bA 8 (g.cl.map bP)/\er X h (λa=>bp a/\R a=2) be bB 8 (g.out.map bP)/\er X h (λa=>bp a/\R a=3) b6 ax 8 (g.loc.map bP)/\er X h (λa=>bp a/\R a=4) c4 b 4 rows
 /\rows.length=g.eqs.length/\∀(i:Nat) L row,g.eqs[i]? =some L->rows[i]? =some row->iL X h (λa=>bp a/\R a=5+i) L row
structure kB(g:fw):Prop where
 nm:g.name∈gu
 cl:∀d∈g.cl,jd d
 out:∃ds t,g.out=ds++[⟨gx,0,t,[],0,false⟩]/\∀d∈ds,jd d
 loc:∀d∈g.loc,jd d
 left:∀L∈g.eqs,∀w∈L.left,w∈gu
 ee:g.eqs.length<=100
 ap:g.cl.length<=100/\g.out.length<=100/\g.loc.length<=100
structure hB(g:Go.a8.Node):Prop where
 g6:vp g
 bad:hE g->sW g
 ap:g.cl.length<=1000/\g.out.length<=1000/\g.loc.length<=1000/\g.eqs.length<=1000
 ee:∀L∈g.eqs,(dL L.right).length<=120000
section
variable{X:bU}{h E cH ay aO:I ae}{j ar aL aR bz:Nat}{bp d2:Nat->Prop}
def fo.to{aG:dT->Prop}{v:y}{n:Nat}(e:fo X h aG bp v n)(o:∀a,bp a->J X E a=J X h a)(L:∀a,bp a->d2 a)(au:∀a,d2 a->(u X).aP<=a):fo X E aG d2 v n:=(e.T o).lift L au (Zp _)
def iL.to{L:mV}{row:List y}(e:iL X h bp L row)(o:∀a,bp a->J X E a=J X h a)(au:∀a,bp a->d2 a)(d:∀a,d2 a->(u X).aP<=a):iL X E d2 L row:=by
 obtain⟨R,ax,b,f,g,i⟩:=e
 exact⟨R,ax,b,f,(g.T λa c=>o a c.1).lift λa c=>⟨au a c.1,c.2⟩,i.to (λa c=>o a c.1) (λa c=>⟨au a c.1,c.2⟩) λa c=>d a c.1⟩
def jS.to{g:fw}{row:List y}(e:jS X h bp g row)(o:∀a,bp a->J X E a=J X h a)(au:∀a,bp a->d2 a)(f:∀a,d2 a->(u X).aP<=a):jS X E d2 g row:=by
 obtain⟨R,bA,bB,ax,x,b2,be,b6,c4,rows,m,n,p,r,s,t,v⟩:=e
 have c:∀i a,bp a/\R a=i->J X E a=J X h a:=λi a b=>o a b.1
 have d:∀i a,bp a/\R a=i->d2 a/\R a=i:=λi a b=>⟨au a b.1,b.2⟩
 exact⟨R,bA,bB,ax,x,b2,be,b6,c4,rows,m,(n.T (c _)).lift (d _),(p.T (c _)).lift (d _),(r.T (c _)).lift (d _),(s.T (c _)).lift (d _),t,λi L row w M=>(v i L row w M).to (c _) (d _) λa b=>f a b.1⟩
def fH.fn{d:dT}(e:fH d):n7 d:=⟨λl=>by have:=e.bf;rw[l]at this;exact absurd this Zd,by
 rcases e.nm with e|e
 ·rw[e];exact lo
 ·exact lp _ e,e.aL,e.aR,zu e.ee⟩
def m6.pD{v:y}{n:Nat}(e:m6 X h bp v n)(r:n<=120000):∃l,bT X h bp l v/\jR l:=by
 obtain⟨aw,b7,w,b,rfl,a,c,m,d,p⟩:=e
 obtain⟨f,g⟩:=A1 (a.qA λ_=>fH.fn) (b7 b+1) (some b) (λi l=>by cases l;exact⟨c,Zo⟩) Zo
 exact⟨_,f,g,by have:_<=w b:=d.size (b7 b+1) (some b);omega⟩
def fo.AZ{v:y}(e:fo X h fH bp v 9):m6 X h bp v 118097:=by
 obtain⟨aw,b7,b,c,a,d,f,g⟩:=e
 exact⟨aw,b7,_,b,c,a,d,f,a.wt.less,A5 g⟩
def fo.pD{v:y}(e:fo X h fH bp v 9):∃l,bT X h bp l v/\jR l:=e.AZ.pD Zd
def m6.T{v:y}{n:Nat}(e:m6 X h bp v n)(o:∀a,bp a->J X E a=J X h a):m6 X E bp v n:=by
 obtain⟨aw,b7,w,b,c,d,f⟩:=e
 exact⟨aw,b7,w,b,c,d.T o,f⟩
def pB{ax:y}{w:y}(e:bL ax=some w)(a:Int)(dB:y)(M:d9 dB=true):cR [ax, .az, .Z a,dB]=true:=by
 simp[cR,(fg e).2.1,M,show d9 (.Z a)=true from rfl,show d9 .az=true from rfl]
def iL.read{L:mV}{row:List y}(e:iL X h bp L row):∃l,jN X h bp (bT X h bp) ⟨L.left,[],L.at_,l⟩ row/\jR l:=by
 obtain⟨R,ax,b,rfl,c,d⟩:=e
 obtain⟨l,f,g⟩:=d.pD
 obtain⟨aw,b7,bq,i,_⟩:=d
 refine⟨l,⟨ax, .az,b,0,L.dB,rfl,c.lift λm a=>a.1,⟨ci.nil _ _,trivial⟩,bT.to (λ_ _=>rfl) (λm a=>a.1) _ _ f,pB c.len _ _ (by rw[i];rfl)⟩,g⟩
def tD{df:List mV}{rows:List (List y)}(au:rows.length=df.length)(e:∀(i:Nat) L row,df[i]? =some L->rows[i]? =some row->∃dz,jN X h bp (bT X h bp) dz row/\(∀w∈dz.left,w∈L.left)/\jR dz.right):
 ∃am:List dO,gd X h bp (bT X h bp) am rows/\∀dz∈am,jR dz.right/\∃L∈df,∀w∈dz.left,w∈L.left:=by
 induction df generalizing rows with
 |nil=>exact⟨[],⟨by simpa using au,λi L row c=>by simp at c⟩,λL e=>by cases e⟩
 |cons L df V=>
  cases rows with
  |nil=>simp at au
  |cons row rows=>
   obtain⟨dz,f,g,m⟩:=e 0 L row rfl rfl
   obtain⟨am,d,n⟩:=V (rows:=rows) (by simpa using au) λi L row c M=>e (i+1) L row (by simpa using c) (by simpa using M)
   refine⟨dz::am,⟨by simp[d.len],λi p r a M=> ?_⟩,λp a=> ?_⟩
   ·cases i with
    |zero=>simp at a M;subst a M;exact f
    |succ i=>exact d.all i p r (by simpa using a) (by simpa using M)
   ·rcases Zz.1 a with rfl|a
    ·exact⟨m,L,Zl ..,g⟩
    ·obtain⟨aH,b,aZ,a3⟩:=n p a
     exact⟨aH,b,Zi _ aZ,a3⟩
def jd.g6{d:bx}(e:jd d):it d:=⟨lp _ e.nm,by
 rcases e.on with l|l
 ·rw[l];exact lo
 ·exact lp _ l⟩
def sc:gx∈d8:=by decide
def IX:gx∉gu:=by decide
def rG{g:fw}(i:kB g){out:List bx}{am:List dO}{nm:aW}{loc:List bx}(s:nm∈d8)(t:∀d∈out,it d)(r:∀d∈loc,it d)(f:∀dz∈am,jR dz.right/\∃L∈g.eqs,∀w∈dz.left,w∈L.left)
 (v:out.length<=1000/\loc.length<=1000/\am.length<=1000)(ab:hE ⟨nm,0,g.cl,out,loc,am⟩->∃d∈out,d.name=gx):hB ⟨nm,0,g.cl,out,loc,am⟩:=by
 have au:∀L∈am,∀w∈L.left,w∈gu:=λL b w c=>by
  obtain⟨_,x,m,n⟩:=f L b
  exact i.left x m w (n w c)
 refine⟨⟨s,λd a=> ?_,λL b w c=>lp _ (au L b w c),λL b=>(f L b).1.1⟩,λp=> ?_,(by have:=i.ap.1;exact⟨by show g.cl.length<=1000;omega,v⟩),λL b=>(f L b).1.2⟩
 ·rcases Zr.1 a with a|a
  ·exact(i.cl d a).g6
  ·rcases Zr.1 a with a|a
   ·exact t d a
   ·exact r d a
 ·obtain⟨d,a,l⟩:=ab p
  exact⟨d,a,λL b c=>IX (by rw[<-l];exact au L b _ c)⟩
def kB.qn{g:fw}(b:kB g):∀d∈g.out,it d:=λd a=>by
 obtain⟨ds,t,l,e⟩:=b.out
 rw[l]at a
 rcases Zr.1 a with a|a
 ·exact(e d a).g6
 ·simp at a;subst a;exact⟨sc,lo⟩
def kB.y6{g:fw}(a:kB g):∃d∈g.out,d.name=gx:=by
 obtain⟨ds,t,l,e⟩:=a.out
 exact⟨_,by rw[l];exact ZQ _ (Zl ..),rfl⟩
def jS.read{g:fw}{row:List y}(e:jS X h bp g row)(a:kB g):∃hn,fT X h bp (bT X h bp) hn row/\hB hn:=by
 obtain⟨R,bA,bB,ax,P,b2,be,b6,c4,rows,rfl,p,r,s,t,x,z⟩:=e
 obtain⟨am,m,n⟩:=tD x (bp:=bp) λi L row G M=>by
  obtain⟨l,aH,aZ⟩:=(z i L row G M).read
  exact⟨_,aH.to (λ_ _=>rfl) (λb c=>c.1) (λv=>bT.to (λ_ _=>rfl) (λb c=>c.1) _ _),λw O=>O,aZ⟩
 have f:∀i b,bp b/\R b=i->bp b:=λi b c=>c.1
 exact⟨⟨g.name,0,g.cl,g.out,g.loc,am⟩,⟨bA,bB,ax,P,b2,be,b6,c4,rows,rfl,p.rd.lift (f _),r.rd.lift (f _),s.rd.lift (f _),t.rd.lift (f _),m⟩,rG a (lp _ a.nm) a.qn (λd C=>(a.loc d C).g6) n ⟨zu a.ap.2.1,zu a.ap.2.2,by have:=m.len;have:=a.ee;omega⟩ λ_=>a.y6⟩
structure hi(X:bU)(h:I ae)(aF n:Nat)(R:Nat->Nat)(ax:y)(U:List fw)(rows:List (List y))(aJ:List Nat):Prop where
 aP:(u X).aP<=aF
 ii:cX X h ax 6 rows.flatten aJ
 aJ:∀a∈aJ,aF<=a/\a<n/\R a=1
 wd:∀r∈rows,r.length=6
 len:rows.length=U.length
 ee:U.length<=100
 jD:∀(i:Nat) g row,U[i]? =some g->rows[i]? =some row->jS X h (λa=>aF<=a/\a<n/\R a=2+i) g row
 ok:∀g∈U,kB g
def yW{P:Nat->Prop}{U:List fw}{rows:List (List y)}(au:rows.length=U.length)(e:∀(i:Nat) g row,U[i]? =some g->rows[i]? =some row->∃hn,fT X h P (bT X h P) hn row/\hB hn):
 ∃c:List Go.a8.Node,f9 X h P (bT X h P) c rows/\∀g∈c,hB g:=by
 induction U generalizing rows with
 |nil=>exact⟨[],⟨by simpa using au,λi L row b=>by simp at b⟩,λL e=>by cases e⟩
 |cons L df V=>
  cases rows with
  |nil=>simp at au
  |cons row rows=>
   obtain⟨dz,f,m⟩:=e 0 L row rfl rfl
   obtain⟨am,d,n⟩:=V (rows:=rows) (by simpa using au) λi L row b M=>e (i+1) L row (by simpa using b) (by simpa using M)
   refine⟨dz::am,⟨by simp[d.len],λi p r a M=> ?_⟩,λp a=> ?_⟩
   ·cases i with
    |zero=>simp at a M;subst a M;exact f
    |succ i=>exact d.all i p r (by simpa using a) (by simpa using M)
   ·rcases Zz.1 a with rfl|a
    ·exact m
    ·exact n p a
def sT.to{P bn:Nat->Prop}(o:∀a,P a->J X E a=J X h a)(au:∀a,P a->bn a){g:Go.a8.Node}{row:List y}(e:fT X h P (bT X h P) g row):fT X E bn (bT X E bn) g row:=
 fT.to o au (λL _ v e=>bT.to o au _ _ e) e
def jf(X:bU)(h:I ae)(P:Nat->Prop)(v:y):Prop:=∃U,gf X h P U v/\U.length<=1000/\∀g∈U,hB g
def hi.made{aF n bX:Nat}{R:Nat->Nat}{ax:y}{U:List fw}{rows:List (List y)}{aJ:List Nat}(e:hi X h aF n R ax U rows aJ){P:Nat->Prop}(f:∀a,aF<=a->a<n->P a)(s:P bX)(v:W X h (.ptr bX 0)=some ax):jf X h P (.ptr bX 0):=by
 obtain⟨p,d,r⟩:=yW (P:=P) e.len λi g row m M=>by
  obtain⟨hn,aH,aZ⟩:=(e.jD i g row m M).read (e.ok g (Zg m))
  exact⟨hn,sT.to (λ_ _=>rfl) (λa c=>f a c.1 c.2.1) aH,aZ⟩
 obtain⟨b,t⟩:=e.ii.gO (P:=P) Zd e.wd (by rw[e.len];have:=e.ee;omega) λa c=>f a (e.aJ a c).1 (e.aJ a c).2.1
 exact⟨p,⟨bX,ax,b,rows,rfl,s,v,t,d⟩,by have:=d.len;have:=e.len;have:=e.ee;omega,r⟩
end
section
variable{X:bU}{h E cH ay aO:I ae}{j ar aL aR bz:Nat}{bp d2 P:Nat->Prop}
def dg.tQ{aG c3:dT->Prop}{F:Nat->Prop}{aw:Nat->Option dT}{b7:Nat->Nat}(e:dg X h aG F aw b7)(r:∀d,aG d->c3 d){b:Nat}{d g:dT}(ab:aw b=some d){c:I y}(s:J X E b=some (.cells c 9 .own))(M:dJ c g.cells)
 (i:g.args=d.args)(v:g.ax=d.ax)(m:g.aJ=d.aJ)(o:∀a,F a->a≠b->J X E a=J X h a)(t:c3 g):dg X E c3 F (λa=>if a=b then some g else aw a) b7:=by
 have ch:∀a∈d.aJ,a≠b:=λa f l=>by have:=(e.bc b d ab a f).2;rw[l,ab]at this;cases this
 refine(e.qA r).set ab (λ_ e=>e) e.low ⟨c,s,M⟩ ?_ (λa f=> ?_) (λn e1=> ?_) (λa f p _=>o a f p) t
 ·rw[i,v,m]
  exact(e.arg b d ab).T λa f=>o a (e.bc b d ab a f).1 (ch a f)
 ·rw[m]at f
  exact⟨(e.bc b d ab a f).1,(e.bc b d ab a f).2,ch a f, .inl f⟩
 ·rw[i]at e1
  exact e.f0 b d n ab e1
def LK(x a:Int):∃z:Int,ah .xor (.Z x) (.Z a)=some (.Z z):=by
 simp only[ah,fM,f2,fJ,fq,fB,cS,ry]
 exact⟨_,rfl⟩
def dg.push{aG:dT->Prop}{F:Nat->Prop}{aw:Nat->Option dT}{b7:Nat->Nat}(e:dg X h aG F aw b7){l cM:Nat}{d:dT}(ab:aw l=some d){D:Option Nat}(T6:∀c,D=some c->aw c≠none/\b7 c<b7 l)
 (Y:J X h cM=zy [na D] 1)(i:∀a,F a->a<j)(C:(u X).aP<=j)(au:d.args.length<=1000):
 ∃(g:y) (ay:I ae) (c:I y),d4 X h j 1 d.ax (.slice cM 0 1 1)=some (.cy g ay (j+1))/\g.cells=[g]/\d9 g=true/\J X ay l=some (.cells c 9 .own)/\(∀a,a≠j->¬F a->J X ay a=J X h a)
  /\∀(aO:I ae) (c3:dT->Prop),J X aO l=some (.cells (c.set 8 (some g)) 9 .own)->(∀a,a≠l->J X aO a=J X ay a)->(∀d,aG d->c3 d)->(∀ax aJ,c3 {d with args:=d.args++[D],ax:=ax,aJ:=aJ})->
   ∃ax aJ,dg X aO c3 (λa=>F a\/a=j) (λa=>if a=l then some {d with args:=d.args++[D],ax:=ax,aJ:=aJ}else aw a) b7:=by
 have Z:=e.arg l d ab
 have m:=e.bc l d ab
 obtain⟨T0,O,T4,T5⟩:=e.cell l d ab
 have TY:=i l T0
 have T7:Go.S.cR [na D]=true:=by cases D<;>rfl
 obtain⟨g,ay,t,T3,G,w,r⟩:=Z.append (j:=j) (o:=1) Zd (hx Y (dl _) rfl 1) rfl Zd T7 Zx C (λa f=>i a (m a f).1)
 obtain⟨T8,T9,_⟩:=dc.one G
 have x:l∉d.aJ:=λe=>by have:=(m l e).2;rw[ab]at this;cases this
 have z:l∉t:=λe=>by
  rcases w l e with e|e
  ·omega
  ·exact x e
 refine⟨g,ay,O,T3,T8,T9,by rw[r l Zo x];exact T4,λa n p=>r a n λe=>p (m a e).1,λaO c3 P bo T1 T2=>⟨g,t, ?_⟩⟩
 refine(e.qA T1).set (E:=aO) (b:=l) (d:=d) ab (λa f=> .inl f) (λa f=>by rcases f with f|rfl;exact e.low a f;exact C) ⟨_,P,λL=> ?_⟩ (.inl ?_) (λa f=> ?_) (λv e1=> ?_) (λa f n p=> ?_) (T2 _ _)
 ·rw[I.gn]
  by_cases s:L=8
  ·subst s;rw[Zv rfl];rfl
  ·rw[Zj (λl=>s l.symm),T5 L]
   show d.cells[L]? =(c5 _ _ _ _ _ _ _)[L]?
   unfold dT.cells c5
   match L with
   |0=>rfl
   |1=>rfl
   |2=>rfl
   |3=>rfl
   |4=>rfl
   |5=>rfl
   |6=>rfl
   |7=>rfl
   |8=>exact absurd rfl s
   |L+9=>rfl
 ·rw[YF]
  exact G.T λa f=>bo a (λe=>z (e▸f))
 ·rcases w a f with rfl|jr
  ·exact⟨.inr rfl,pG e (λe=>zu (i _ e)),Zo, .inr (λe=>zu (i _ e))⟩
  ·exact⟨.inl (m a jr).1,(m a jr).2,λe=>z (e▸f), .inl jr⟩
 ·rcases Zr.1 e1 with e1|e1
  ·exact e.f0 l d v ab e1
  ·simp at e1
   exact T6 v e1.symm
 ·rw[bo a n,r a (zu (i a f)) p]
def hi.node{aF n bX:Nat}{R:Nat->Nat}{ax:y}{U:List fw}{rows:List (List y)}{aJ:List Nat}(e:hi X h aF n R ax U rows aJ){r bO:Nat}{hw:List y}{hn:Go.a8.Node}(M:r<rows.length)
 (z:∀a,aF<=a->a<n->R a≠1->R a≠2+r->J X E a=J X h a)(G:ci X E P bO ax 6 (rows.set r hw))(w:fT X E P (bT X E P) hn hw)(x:hB hn)
 (v:∀a,aF<=a->a<n->P a)(C:P bX)(O:W X E (.ptr bX 0)=some ax):jf X E P (.ptr bX 0):=by
 obtain⟨s,d,t⟩:=yW (X:=X) (h:=E) (P:=P) (U:=U) (rows:=rows.set r hw) (by rw[YR];exact e.len) λi g row f b=>by
  rw[Yr]at b
  by_cases m:r=i
  ·subst m
   simp only[ZP,M]at b
   cases b
   exact⟨hn,w,x⟩
  ·rw[Zj m]at b
   obtain⟨p,aH,aZ⟩:=(e.jD i g row f b).read (e.ok g (Zg f))
   exact⟨p,sT.to (λa c=>z a c.1 c.2.1 Zo Zo) (λa c=>v a c.1 c.2.1) aH,aZ⟩
 exact⟨s,⟨bX,ax,bO,_,rfl,C,O,G,d⟩,by have:=d.len;rw[YR]at this;have:=e.len;have:=e.ee;omega,t⟩
def sx{α:Type}{k:List α}{i:Nat}{x:α}(e:k[i]? =some x):k.set i x=k:=by
 obtain⟨a,rfl⟩:=Zf.1 e
 exact List.set_getElem_self a
def hi.eq{aF n bX:Nat}{R:Nat->Nat}{ax:y}{U:List fw}{rows:List (List y)}{aJ:List Nat}(e:hi X h aF n R ax U rows aJ){r:Nat}{g:fw}{dp:Nat->Nat}{bA bB C z:y}{b2 be b6 c4:Nat}{x:List (List y)}
 (T9:U[r]? =some g)(M:rows[r]? =some [.str g.name, .Z 0,bA,bB,C,z])
 (G:er X h (λa=>(aF<=a/\a<n/\R a=2+r)/\dp a=1) b2 bA 8 (g.cl.map bP))(T0:er X h (λa=>(aF<=a/\a<n/\R a=2+r)/\dp a=2) be bB 8 (g.out.map bP))(T1:er X h (λa=>(aF<=a/\a<n/\R a=2+r)/\dp a=3) b6 C 8 (g.loc.map bP))
 (T2:x.length=g.eqs.length)(T7:∀(i:Nat) L row,g.eqs[i]? =some L->x[i]? =some row->iL X h (λa=>(aF<=a/\a<n/\R a=2+r)/\dp a=5+i) L row)
 {o:Nat}{L:mV}(T4:g.eqs[o]? =some L){hw:List y}{dz:dO}(m:∀a,aF<=a->a<n->¬(R a=2+r/\(dp a=4\/dp a=5+o))->J X E a=J X h a)
 (U1:ci X E P c4 z 4 (x.set o hw))(U0:jN X E P (bT X E P) dz hw)(au:∀w∈dz.left,w∈L.left)(TY:jR dz.right)
 (f:∀a,aF<=a->a<n->P a)(s:P bX)(U4:W X E (.ptr bX 0)=some ax):jf X E P (.ptr bX 0):=by
 have c:=e.ok g (Zg T9)
 have U2:=(Zf.1 M).1
 obtain⟨bO,U3⟩:=e.ii.gO (P:=λa=>aF<=a/\a<n/\R a=1) Zd e.wd (by rw[e.len];have:=e.ee;omega) λa b=>e.aJ a b
 obtain⟨am,Z,T5⟩:=tD (X:=X) (h:=E) (bp:=P) (df:=g.eqs) (rows:=x.set o hw) (by rw[YR];exact T2) λi p row s t=>by
  rw[Yr]at t
  by_cases T3:o=i
  ·subst T3
   rw[T4]at s
   cases s
   have TZ:o<x.length:=by rw[T2];exact(Zf.1 T4).1
   simp only[ZP,TZ]at t
   cases t
   exact⟨dz,U0,au,TY⟩
  ·rw[Zj T3]at t
   obtain⟨l,aH,aZ⟩:=(T7 i p row s t).read
   exact⟨_,aH.to (λa b=>m a b.1.1 b.1.2.1 Zo) (λa b=>f a b.1.1 b.1.2.1) (λv=>bT.to (λa b=>m a b.1.1 b.1.2.1 Zo) (λa b=>f a b.1.1 b.1.2.1) _ _),λw U5=>U5,aZ⟩
 have O:∀i,i≠4->i≠5+o->∀a,(aF<=a/\a<n/\R a=2+r)/\dp a=i->J X E a=J X h a:=λi ak U6 a b=>m a b.1.1 b.1.2.1 Zo
 have Y:∀i a,(aF<=a/\a<n/\R a=2+r)/\dp a=i->P a:=λi a b=>f a b.1.1 b.1.2.1
 refine e.node (r:=r) (bO:=bO) (hw:=[.str g.name, .Z 0,bA,bB,C,z]) (hn:=⟨g.name,0,g.cl,g.out,g.loc,am⟩) U2 (λa T6 G T0 T1=>m a T6 G Zo) (by rw[sx M];exact(U3.T λa b=>m a b.1 b.2.1 Zo).lift λa b=>f a b.1 b.2.1)
  ⟨bA,bB,C,z,b2,be,b6,c4,_,rfl,(G.rd.T (O 1 Zd Zo)).lift (Y _),(T0.rd.T (O 2 Zd Zo)).lift (Y _),(T1.rd.T (O 3 Zd Zo)).lift (Y _),U1,Z⟩
  (rG c (lp _ c.nm) c.qn (λd T8=>(c.loc d T8).g6) T5 ⟨zu c.ap.2.1,zu c.ap.2.2,by have:=Z.len;rw[YR]at this;have:=c.ee;omega⟩ λ_=>c.y6) f s U4
def jS.parts{g:fw}{row:List y}{dp:Nat->Nat}{c:List (List y)}(d:∀a,bp a->P a)(x:kB g)
 (m:c.length=g.eqs.length)(n:∀(i:Nat) L row,g.eqs[i]? =some L->c[i]? =some row->iL X h (λa=>bp a/\dp a=5+i) L row)(f:∀a,bp a->dp a≠2->J X E a=J X h a):
 ∃am:List dO,gd X E P (bT X E P) am c/\∀dz∈am,jR dz.right/\∃L∈g.eqs,∀w∈dz.left,w∈L.left:=
 tD m λi p row r s=>by
  obtain⟨l,aH,aZ⟩:=(n i p row r s).read
  exact⟨_,aH.to (λa b=>f a b.1 Zo) (λa b=>d a b.1) (λv=>bT.to (λa b=>f a b.1 Zo) (λa b=>d a b.1) _ _),λw t=>t,aZ⟩
end
def pu:bx:=⟨[],0,cm,[],0,false⟩
def JA(n:Nat):eA n (bP pu)=((List.replicate n pu).map bP).flatten:=by
 induction n with
 |zero=>rfl
 |succ n V=>rw[List.replicate_succ,ZS,Z9, <-V];rfl
section
variable{X:bU}{h E cH ay aO:I ae}{j ar aL aR bz:Nat}{bp d2 P:Nat->Prop}
def Ii(d:(u X).aP<=j):uw X h j 8 [.str [], .Z 0, .zF, .zF, .Z 0, .str [], .Z 0, .zF] (.Z 300) (.Z 300)=some (.cy (.slice j 0 300 300) (aS X h j (zy ((List.replicate 300 pu).map bP).flatten (300*8))) (j+1)):=by
 rw[<-JA]
 have a:f3 (.Z 300)=some 300:=rfl
 have b:Nat.ble 300 1048576=true:=rfl
 have c:Nat.ble 300 300=true:=rfl
 simp only[uw,a,b,c,Yi,cS,gt,fZ,dF]
 rfl
def Ki{k:List bx}{i H:Nat}{d a:bx}{v:y}(e:(bP d).set H v=bP a):(k.map bP).set i ((bP d).set H v)=(k.set i a).map bP:=by
 rw[e,List.map_set]
def hi.IW{aF n bX:Nat}{R:Nat->Nat}{ax:y}{U:List fw}{rows:List (List y)}{aJ:List Nat}(e:hi X h aF n R ax U rows aJ){r:Nat}{g:fw}{dp:Nat->Nat}{bA bB t s:y}{b2 be b6 c4:Nat}{C:List (List y)}
 (T8:U[r]? =some g)(M:rows[r]? =some [.str g.name, .Z 0,bA,bB,t,s])
 (T1:er X h (λa=>(aF<=a/\a<n/\R a=2+r)/\dp a=1) b2 bA 8 (g.cl.map bP))(T2:er X h (λa=>(aF<=a/\a<n/\R a=2+r)/\dp a=2) be bB 8 (g.out.map bP))(T3:er X h (λa=>(aF<=a/\a<n/\R a=2+r)/\dp a=3) b6 t 8 (g.loc.map bP))
 (T4:er X h (λa=>(aF<=a/\a<n/\R a=2+r)/\dp a=4) c4 s 4 C)(T5:C.length=g.eqs.length)(T6:∀(i:Nat) L row,g.eqs[i]? =some L->C[i]? =some row->iL X h (λa=>(aF<=a/\a<n/\R a=2+r)/\dp a=5+i) L row)
 {i H:Nat}{d c:bx}{v:y}(ak:g.out[i]? =some d)(TY:H<8)(w:(bP d).set H v=bP c)(U6:v.cells=[v])(T0:d9 v=true)(TZ:it c)(ab:jc c->c.name=gx)
 (m:∀a,aF<=a->a<n->P a)(U2:P bX)(U9:bX<aF)(U5:W X h (.ptr bX 0)=some ax):
 ∃E,bj X h 1 (.ptr be (i*8+H)) v=some E/\jf X E P (.ptr bX 0)/\∀a,¬(aF<=a/\a<n)->J X E a=J X h a:=by
 have f:=e.ok g (Zg T8)
 have U3:=(Zf.1 M).1
 have T9:=(Zf.1 ak).1
 obtain⟨bO,U4⟩:=e.ii.gO (P:=λa=>aF<=a/\a<n/\R a=1) Zd e.wd (by rw[e.len];have:=e.ee;omega) λa b=>e.aJ a b
 obtain⟨E,U7,Y,U8⟩:=T2.store (i:=i) (H:=H) (r:=bP d) (by rw[Zw,ak];rfl) TY U6 T0
 rw[Ki w]at Y
 have bf:∀a,¬((aF<=a/\a<n/\R a=2+r)/\dp a=2)->J X E a=J X h a:=U8
 have p:∀i a,(aF<=a/\a<n/\R a=2+r)/\dp a=i->P a:=λi a b=>m a b.1.1 b.1.2.1
 obtain⟨am,G,Z⟩:=jS.parts (E:=E) (P:=P) (row:=[]) (dp:=dp) (λa b=>m a b.1 b.2.1) f T5 T6 λa b U1=>bf a λe=>U1 e.2
 have U0:∀x∈g.out.set i c,it x:=λx z=>by
  rcases YP z with z|rfl
  ·exact f.qn x z
  ·exact TZ
 have O:c∈g.out.set i c:=List.mem_set T9 c
 refine⟨E,U7,e.node (r:=r) (bO:=bO) (hw:=[.str g.name, .Z 0,bA,bB,t,s]) (hn:=⟨g.name,0,g.cl,g.out.set i c,g.loc,am⟩) U3 (λa aH aZ a3 a4=>bf a Zo) (by rw[sx M];exact(U4.T λa b=>bf a Zo).lift λa b=>m a b.1 b.2.1)
  ⟨bA,bB,t,s,b2,be,b6,c4,_,rfl,(T1.rd.T λa b=>bf a Zo).lift (p _),Y.rd.lift (p _),(T3.rd.T λa b=>bf a Zo).lift (p _),(T4.rd.T λa b=>bf a Zo).lift (p _),G⟩
  (rG f (lp _ f.nm) U0 (λd w=>(f.loc d w).g6) Z ⟨by rw[YR];have:=f.ap.2.1;omega,zu f.ap.2.2,by have:=G.len;have:=f.ee;omega⟩ λT7=>⟨c,O,ab (T7.decl c (ZQ _ (Z2 _ O)))⟩) m U2 (zF (bf bX Zo) U5),λa b=>bf a Zo⟩
def hi.uY{aF n bX:Nat}{R:Nat->Nat}{ax:y}{U:List fw}{rows:List (List y)}{aJ:List Nat}(e:hi X h aF n R ax U rows aJ){r:Nat}{g:fw}{dp:Nat->Nat}{bA bB C c:y}{b2 c4 bO:Nat}{p:List (List y)}
 (U0:er X h (λa=>aF<=a/\a<n/\R a=1) bO ax 6 rows)(T4:U[r]? =some g)(M:rows[r]? =some [.str g.name, .Z 0,bA,bB,C,c])
 (Y:er X h (λa=>(aF<=a/\a<n/\R a=2+r)/\dp a=1) b2 bA 8 (g.cl.map bP))(Z:er X h (λa=>(aF<=a/\a<n/\R a=2+r)/\dp a=4) c4 c 4 p)(T0:p.length=g.eqs.length)(T1:∀(i:Nat) L row,g.eqs[i]? =some L->p[i]? =some row->iL X h (λa=>(aF<=a/\a<n/\R a=2+r)/\dp a=5+i) L row)
 {H:Nat}{v s t:y}{nm:aW}{out loc:List bx}{be b6:Nat}(T5:H<6)(T2:([.str g.name, .Z 0,bA,bB,C,c]:List y).set H v=[.str nm, .Z 0,bA,s,t,c])(U2:v.cells=[v])(O:d9 v=true)
 (T9:ci X h (λa=>P a/\¬(aF<=a/\a<n/\R a=1)) be s 8 (out.map bP))(au:ci X h (λa=>P a/\¬(aF<=a/\a<n/\R a=1)) b6 t 8 (loc.map bP))(T8:nm∈d8)(T7:∀d∈out,it d)(T6:∀d∈loc,it d)
 (U4:out.length<=1000)(U3:loc.length<=1000)(ab:∀am,hE ⟨nm,0,g.cl,out,loc,am⟩->False)
 (f:∀a,aF<=a->a<n->P a)(TY:P bX)(U8:bX<aF)(U1:W X h (.ptr bX 0)=some ax):
 ∃E,bj X h 1 (.ptr bO (r*6+H)) v=some E/\jf X E P (.ptr bX 0)/\∀a,¬(aF<=a/\a<n)->J X E a=J X h a:=by
 have m:=e.ok g (Zg T4)
 have TZ:=(Zf.1 M).1
 obtain⟨E,U5,z,U6⟩:=U0.store (i:=r) (H:=H) M T5 U2 O
 rw[T2]at z
 have bf:∀a,¬(aF<=a/\a<n/\R a=1)->J X E a=J X h a:=U6
 have x:∀i a,(aF<=a/\a<n/\R a=2+r)/\dp a=i->P a:=λi a b=>f a b.1.1 b.1.2.1
 obtain⟨am,w,G⟩:=jS.parts (E:=E) (P:=P) (row:=[]) (dp:=dp) (λa b=>f a b.1 b.2.1) m T0 T1 λa b U7=>bf a Zo
 exact⟨E,U5,e.node (r:=r) (bO:=bO) (hn:=⟨nm,0,g.cl,out,loc,am⟩) TZ (λa aH aZ a3 a4=>bf a Zo) (z.rd.lift λa b=>f a b.1 b.2.1)
  ⟨bA,s,t,c,b2,be,b6,c4,_,rfl,(Y.rd.T λa b=>bf a Zo).lift (x _),(T9.T λa b=>bf a b.2).lift λa b=>b.1,(au.T λa b=>bf a b.2).lift λa b=>b.1,(Z.rd.T λa b=>bf a Zo).lift (x _),w⟩
  (rG m T8 T7 T6 G ⟨U4,U3,by have:=w.len;have:=m.ee;omega⟩ λT3=>(ab am T3).elim) f TY (zF (bf bX Zo) U1),λa b=>bf a Zo⟩
end
def Iu:∀s∈gu,s++[97]∈d8:=by decide
def Iv:∀s∈gu,s.length<=32:=by decide
def LH:c7 [53,120]=false:=by decide
def K8:c7 [116,104,101,110]=false:=by decide
def LG:([53,120]:aW)∈d8:=by decide
def K7:([116,104,101,110]:aW)∈d8:=by decide
def Lq:([117,56]:aW)∈d8:=by decide
section
variable{X:bU}{h E cH ay aO:I ae}{j ar aL aR bz:Nat}{bp d2 P:Nat->Prop}
def hi.T{aF n:Nat}{R:Nat->Nat}{ax:y}{U:List fw}{rows:List (List y)}{aJ:List Nat}(e:hi X h aF n R ax U rows aJ)(o:∀a,aF<=a->a<n->J X E a=J X h a):hi X E aF n R ax U rows aJ:=
 ⟨e.aP,e.ii.T λa b=>o a (e.aJ a b).1 (e.aJ a b).2.1,e.aJ,e.wd,e.len,e.ee,λi g row c M=>(e.jD i g row c M).to (λa b=>o a b.1 b.2.1) (λ_ e=>e) λa b=>ZD e.aP b.1,e.ok⟩
def HX{bX:Nat}{P:Nat->Prop}(a:P bX)(b:W X h (.ptr bX 0)=some .az):jf X h P (.ptr bX 0):=
 ⟨[],⟨bX, .az,0,[],rfl,a,b,ci.nil _ _,⟨rfl,λi g row e=>by simp at e⟩⟩,Zs,λg e=>by cases e⟩
set_option maxRecDepth 100000 in
def Kv(UV:dX X)(Wz:eK X h bz){aF n bX:Nat}{R:Nat->Nat}{ax:y}{U:List fw}{rows:List (List y)}{aJ:List Nat}(e:hi X h aF n R ax U rows aJ)(ο:bz<aF)(VJ:bX<aF)(Ug:bz≠bX)(π:n<=j)(ξ:aF<=j)(XF:U≠[])
 (φ:(u X).aP<=bX)(VK:∃c,J X h bX=some (.cells c 1 .own)/\c.get 0=some ax){G:Nat}(Vi:G<256):
 aN X 20 [.ptr bX 0, .ptr bz 0, .Z (G:Int)] h j (λN E ar=>jf X E (λa=>a=bX\/(aF<=a/\a<ar)) (.ptr bX 0)/\j<=ar) zG:=by
 refine zB UV (Ce X) ?_
 rw[Cf]
 unfold vW
 obtain⟨We,VK,VL⟩:=VK
 have WP:=e.aP
 have Xl:W X h (.ptr bX 0)=some ax:=by rw[ba VK];exact VL
 have ε:0<U.length:=Z6.2 XF
 have δ:=e.ee
 have ν:=e.len
 obtain⟨Xx,XV⟩:=e.ii.gO (P:=λa=>aF<=a/\a<n/\R a=1) Zd e.wd (by rw[e.len];omega) λa f=>e.aJ a f
 have XL:=XV.len
 refine cn @Xl @XL ⟨?_⟩
 refine(eO UV Wz (j:=j+13) (n:=rows.length) Zo Zo Zo).Zm ?_
 rintro jae ay aL ⟨r,rfl,M,X0,W8⟩
 have η:=W8.le
 have W9:∀a,a<j->a≠bz->J X ay a=J X h a:=λa f TY=>W8.T a Zo (by simpa using TY)
 have U8:=e.T (E:=ay) λa aH aZ=>W9 a Zo Zo
 have WV:J X ay bX=some (.cells We 1 .own):=by rw[W9 bX Zo (λl=>Ug l.symm)];exact VK
 have V7:W X ay (.ptr bX 0)=some ax:=by rw[ba WV];exact VL
 obtain⟨bO,Ui⟩:=U8.ii.qs (bp:=λa=>aF<=a/\a<n/\R a=1) Zd e.wd (by rw[e.len];omega) λa f=>e.aJ a f
 have XH:=Ui.rd.cT r M
 obtain⟨row,UF⟩:∃row,rows[r]? =some row:=⟨_,Ze M⟩
 obtain⟨g,UZ⟩:=zx U r
 have UM:=e.ok g (Zg UZ)
 obtain⟨dp,bA,bB,Xs,VN,b2,be,b6,c4,UJ,XX,UL,UU,VV,Us,Ut,V2⟩:=U8.jD r g row UZ UF
 subst XX
 have UR:=Ui.rd.cell r _ 3 bB UF rfl
 have W0:=Ui.rd.cell r _ 5 VN UF rfl
 have VR:ah .rem (.Z (G:Int)) (.Z 3)=some (.Z ((G%3:Nat):Int)):=rL (n:=3) Zd
 refine cn @XH @V7 ⟨?_⟩
 refine fi (cX.same e.ii).2.2 ?_
 have Vn:=Us.rd.len
 have T5:∀bW:Nat,n<=bW->∀a,aF<=a->a<n->(a=bX\/(aF<=a/\a<bW)):=λbW U7 a aH aZ=> .inr ⟨aH,Zo⟩
 by_cases UX:G%3=0\/UJ.length=0
 ·by_cases WH:G%3=0
  all_goals
   first
   |(
     have VQ:decide (((G%3:Nat):Int)=0)=true:=zK
     refine cn @VR @VQ ⟨?_⟩)
   |(
     have VQ:decide (((G%3:Nat):Int)=0)=false:=zJ
     have Wn:decide ((UJ.length:Int)=0)=true:=zK
     refine de @VR @VQ @W0 @Vn @Wn ⟨?_⟩)
   obtain⟨ds,Uc,WU,_⟩:=UM.out
   have υ:g.out.length=ds.length+1:=by rw[WU];simp
   have UO:=UU.rd.len
   rw[Zn]at UO
   have XN:=UU.rd.many
   rw[Zn]at XN
   have US:ah .sub (.Z (g.out.length:Int)) (.Z 1)=some (.Z (ds.length:Int)):=by rw[g4 Zo Zo,show(g.out.length:Int) -1=(ds.length:Int) by omega]
   have Ub:=UU.rd.cT ds.length (by rw[Zn];omega)
   have WS:g.out[ds.length]? =some ⟨gx,0,Uc,[],0,false⟩:=by rw[WU];simp
   have UK:ah .rem (.Z (G:Int)) (.Z 8)=some (.Z ((G%8:Nat):Int)):=rL (n:=8) Zd
   have UI:=UU.rd.cell ds.length (bP ⟨gx,0,Uc,[],0,false⟩) 7 .zF (by rw[Zw,WS];rfl) rfl
   have Xa:((G%8:Nat):Int)<8/\0<=((G%8:Nat):Int):=Zo
   generalize ((G%8:Nat):Int)=p at UK Xa
   have VI:=λ(H:Nat) (U4:bx) (v:y) (bW:Nat) (U7:n<=bW) (WJ:H<8) (UX:(bP ⟨gx,0,Uc,[],0,false⟩).set H v=bP U4) (Vs:v.cells=[v]) (Wu:d9 v=true) (UN:it U4) (ab:jc U4->U4.name=gx)=>U8.IW (P:=λa=>a=bX\/(aF<=a/\a<bW)) UZ UF UL UU VV Us Ut V2 WS WJ UX Vs Wu UN ab (T5 bW U7) (.inl rfl) VJ V7
   have XQ:∀bW:Nat,n<=bW->ci X ay (λa=>(a=bX\/(aF<=a/\a<bW))/\¬(aF<=a/\a<n/\R a=1)) be bB 8 (g.out.map bP):=λbW U7=>UU.rd.lift λa f=>⟨T5 bW U7 a f.1.1 f.1.2.1,Zo⟩
   have WR:∀bW:Nat,n<=bW->ci X ay (λa=>(a=bX\/(aF<=a/\a<bW))/\¬(aF<=a/\a<n/\R a=1)) b6 Xs 8 (g.loc.map bP):=λbW U7=>VV.rd.lift λa f=>⟨T5 bW U7 a f.1.1 f.1.2.1,Zo⟩
   have Wb:g.out.length<=1000:=zu UM.ap.2.1
   have Wa:g.loc.length<=1000:=zu UM.ap.2.2
   have WO:∀d∈g.loc,it d:=λd UX=>(UM.loc d UX).g6
   rcases(show p=0\/p=1\/p=2\/p=3\/p=4\/p=5\/p=6\/p=7 by omega)with L|L|L|L|L|L|L|L
   ·have T7:decide (p=0)=true:=zK
    refine bs @UR @UO @US @Ub @UK @UI @T7 ⟨?_⟩
    obtain⟨Uq,T1,Z,T0⟩:=VI 0 ⟨[53,120],0,Uc,[],0,false⟩ (.str [53,120]) (aL+12) Zo Zd rfl rfl rfl ⟨LG,lo⟩ (λU0=>by have:=U0.nm;rw[LH]at this;cases this)
    refine cD T1 ?_
    refine bl ⟨?_⟩
    exact⟨Z,Zo⟩
   ·have T7:decide (p=0)=false:=zJ
    have U2:decide (p=1)=true:=zK
    refine bs @UR @UO @US @Ub @UK @UI (Za @T7 @U2) ⟨?_⟩
    obtain⟨Uq,T1,Z,T0⟩:=VI 4 ⟨gx,0,⟨Uc.b,Uc.s,65⟩,[],0,false⟩ (.Z 65) (aL+12) Zo Zd rfl rfl rfl ⟨sc,lo⟩ (λ_=>rfl)
    refine cD T1 ?_
    refine bl ⟨?_⟩
    exact⟨Z,Zo⟩
   ·have T7:decide (p=0)=false:=zJ
    have U2:decide (p=1)=false:=zJ
    have UC:decide (p=2)=true:=zK
    refine bs @UR @UO @US @Ub @UK @UI (Za @T7 (Za @U2 @UC)) ⟨?_⟩
    obtain⟨Uq,T1,Z,T0⟩:=VI 7 ⟨gx,0,Uc,[],0,true⟩ .zT (aL+12) Zo Zd rfl rfl rfl ⟨sc,lo⟩ (λ_=>rfl)
    refine cD T1 ?_
    refine bl ⟨?_⟩
    exact⟨Z,Zo⟩
   ·have T7:decide (p=0)=false:=zJ
    have U2:decide (p=1)=false:=zJ
    have UC:decide (p=2)=false:=zJ
    have UP:decide (p=3)=true:=zK
    refine bs @UR @UO @US @Ub @UK @UI (Za @T7 (Za @U2 (Za @UC @UP))) ⟨?_⟩
    obtain⟨Uq,T1,Z,T0⟩:=U8.uY (P:=λa=>a=bX\/(aF<=a/\a<aL+12)) (H:=0) (v:= .str [116,104,101,110]) Ui UZ UF UL Us Ut V2 Zd rfl rfl rfl (XQ _ Zo) (WR _ Zo) K7 UM.qn WO Wb Wa (λam U0=>by have:=U0.nm;rw[K8]at this;cases this) (T5 _ Zo) (.inl rfl) VJ V7
    refine cD T1 ?_
    refine bl ⟨?_⟩
    exact⟨Z,Zo⟩
   ·have T7:decide (p=0)=false:=zJ
    have U2:decide (p=1)=false:=zJ
    have UC:decide (p=2)=false:=zJ
    have UP:decide (p=3)=false:=zJ
    have Un:decide (p=4)=true:=zK
    refine bs @UR @UO @US @Ub @UK @UI (Za @T7 (Za @U2 (Za @UC (Za @UP @Un)))) ⟨?_⟩
    obtain⟨Uq,T1,Z,T0⟩:=U8.uY (P:=λa=>a=bX\/(aF<=a/\a<aL+12)) (H:=3) (v:= .az) (out:=[]) Ui UZ UF UL Us Ut V2 Zd rfl rfl rfl (ci.nil _ _) (WR _ Zo) (lp _ UM.nm) (λd UX=>by cases UX) WO Zs Wa (λam U0=>U0.out rfl) (T5 _ Zo) (.inl rfl) VJ V7
    refine cD T1 ?_
    refine bl ⟨?_⟩
    exact⟨Z,Zo⟩
   ·have T7:decide (p=0)=false:=zJ
    have U2:decide (p=1)=false:=zJ
    have UC:decide (p=2)=false:=zJ
    have UP:decide (p=3)=false:=zJ
    have Un:decide (p=4)=false:=zJ
    have VC:decide (p=5)=true:=zK
    refine bs @UR @UO @US @Ub @UK @UI (Za @T7 (Za @U2 (Za @UC (Za @UP (Za @Un @VC))))) ⟨?_⟩
    refine bl ⟨?_⟩
    exact⟨HX (.inl rfl) (by rw[ba (bb Zo)];exact hA ..),Zo⟩
   ·have T7:decide (p=0)=false:=zJ
    have U2:decide (p=1)=false:=zJ
    have UC:decide (p=2)=false:=zJ
    have UP:decide (p=3)=false:=zJ
    have Un:decide (p=4)=false:=zJ
    have VC:decide (p=5)=false:=zJ
    have Vx:decide (p=6)=true:=zK
    refine bs @UR @UO @US @Ub @UK @UI (Za @T7 (Za @U2 (Za @UC (Za @UP (Za @Un (Za @VC @Vx)))))) ⟨?_⟩
    obtain⟨Uq,T1,Z,T0⟩:=VI 5 ⟨gx,0,Uc,[117,56],0,false⟩ (.str [117,56]) (aL+12) Zo Zd rfl rfl rfl ⟨sc,Lq⟩ (λ_=>rfl)
    refine cD T1 ?_
    refine bl ⟨?_⟩
    exact⟨Z,Zo⟩
   ·have T7:decide (p=0)=false:=zJ
    have U2:decide (p=1)=false:=zJ
    have UC:decide (p=2)=false:=zJ
    have UP:decide (p=3)=false:=zJ
    have Un:decide (p=4)=false:=zJ
    have VC:decide (p=5)=false:=zJ
    have Vx:decide (p=6)=false:=zJ
    have Xt:decide (p=7)=true:=zK
    refine bs @UR @UO @US @Ub @UK @UI (Za @T7 (Za @U2 (Za @UC (Za @UP (Za @Un (Za @VC (Za @Vx @Xt))))))) ⟨?_⟩
    refine eX (Ii Zo) ?_
    generalize Vc:aS X ay (aL+12) _=aO
    have Wr:J X aO (aL+12)=zy ((List.replicate 300 pu).map bP).flatten (300*8):=by rw[<-Vc,bb Zo]
    have bo:∀a,a<aL+12->J X aO a=J X ay a:=λa f=>by rw[<-Vc,aY Zo Zo]
    clear Vc
    have XG:=U8.T (E:=aO) λa aH aZ=>bo a Zo
    have UH:∀i a,(aF<=a/\a<n/\R a=2+r)/\dp a=i->J X aO a=J X ay a:=λi a f=>bo a Zo
    obtain⟨Uq,T1,Z,T0⟩:=XG.uY (P:=λa=>a=bX\/(aF<=a/\a<aL+12+1)) (H:=4) (v:= .slice (aL+12) 0 300 300) (loc:=List.replicate 300 pu) (Ui.T λa f=>bo a Zo) UZ UF (UL.T (UH 1)) (Us.T (UH 4)) Ut (λi L row Uh M=>(V2 i L row Uh M).to (UH _) (λ_ e=>e) λa f=>ZD WP f.1.1) Zd rfl rfl rfl
     ((UU.rd.T (UH 2)).lift λa f=>⟨T5 _ Zo a f.1.1 f.1.2.1,Zo⟩) (Ar (o:=300) (by exact Wr) Zs (by intro x Xd;obtain⟨d,_,rfl⟩:=ZB.1 Xd;rfl) Zd ⟨.inr ⟨Zo,Zo⟩,Zo⟩) (lp _ UM.nm) UM.qn (λd UX=>by rw[List.eq_of_mem_replicate UX];exact⟨lo,lo⟩) Wb Zs
     (λam U0=>by have:=U0.vars;simp at this) (T5 _ Zo) (.inl rfl) VJ (zF (bo bX Zo) V7)
    refine bl ⟨?_⟩
    refine cD T1 ?_
    refine bl ⟨?_⟩
    exact⟨Z,Zo⟩
 ·have WH:decide (((G%3:Nat):Int)=0)=false:=zJ
  have XB:decide ((UJ.length:Int)=0)=false:=zJ
  refine de @VR @WH @W0 @Vn @XB ⟨?_⟩
  have χ:=UM.ee
  refine(eO UV X0 (j:=aL+13) (n:=UJ.length) Zo Zo Zo).Zm ?_
  rintro jaf aO aR ⟨o,rfl,Vj,X1,WA⟩
  have θ:=WA.le
  have VM:∀a,a<aL->a≠bz->J X aO a=J X ay a:=λa f TY=>WA.T a Zo (by simpa using TY)
  have UH:∀i a,(aF<=a/\a<n/\R a=2+r)/\dp a=i->J X aO a=J X ay a:=λi a f=>VM a Zo Zo
  have Vi:=U8.T (E:=aO) λa aH aZ=>VM a Zo Zo
  have W3:=UL.T (UH 1)
  have W4:=UU.T (UH 2)
  have W5:=VV.T (UH 3)
  have VF:=Us.T (UH 4)
  have VX:∀(i:Nat) L row,g.eqs[i]? =some L->UJ[i]? =some row->iL X aO (λa=>(aF<=a/\a<n/\R a=2+r)/\dp a=5+i) L row:=λi L row Uh M=>(V2 i L row Uh M).to (UH _) (λ_ e=>e) λa f=>ZD WP f.1.1
  have WW:J X aO bX=some (.cells We 1 .own):=by rw[VM bX Zo (λl=>Ug l.symm)];exact WV
  have Wl:=(Ui.T (E:=aO) λa f=>VM a Zo Zo).rd.cell r _ 5 VN UF rfl
  obtain⟨Xp,Ux⟩:∃row,UJ[o]? =some row:=⟨_,Ze Vj⟩
  obtain⟨L,Uh⟩:=zx g.eqs o
  obtain⟨Up,Um,VO,rfl,Uw,Vp⟩:=VX o L Xp Uh Ux
  obtain⟨aw,b7,bq,Uy,TZ,V3,_,XW⟩:=id Vp
  have XI:=VF.rd.cT o Vj
  have W1:=VF.rd.cell o _ 3 L.dB Ux rfl
  rw[Uy]at W1
  refine cn @XI @Wl ⟨?_⟩
  refine fi (fg Vn).2.2 ?_
  refine k4 @W1 ⟨?_⟩
  have s:∀a,((aF<=a/\a<n/\R a=2+r)/\dp a=5+o)/\Up a=0->aF<=a/\a<n:=λa f=>⟨f.1.1.1,f.1.1.2.1⟩
  have Vr:n4 b7 bq<=120000:=ZD (A5 XW) Zd
  have WZ:∃d,aw bq=some d:=Yb.1 V3
  have fin:∀(E:I ae) (bW:Nat) (bu:Nat->Prop) (h4:Nat->Option dT) (nX:Nat->Nat),n<=bW->dg X E n7 bu h4 nX->h4 bq≠none->(∀o,(dL (ha h4 o (some bq))).length<=120000)->(∀a,bu a->aF<=a/\a<bW)->(∀a,aF<=a->a<n->¬(((aF<=a/\a<n/\R a=2+r)/\dp a=5+o)/\Up a=0)->J X E a=J X aO a)->J X E bX=J X aO bX->jf X E (λa=>a=bX\/(aF<=a/\a<bW)) (.ptr bX 0):=by
   intro E bW bu h4 nX U7 Wx Wy XZ Ww UN Vo
   obtain⟨U1,T3⟩:=A1 Wx (nX bq+1) (some bq) (λb l=>by cases l;exact⟨Wy,Zo⟩) Zo
   refine Vi.eq (c4:=c4) (E:=E) (P:=λa=>a=bX\/(aF<=a/\a<bW)) UZ UF W3 W4 W5 Ut VX Uh (hw:=[Um, .az, .Z L.at_,L.dB]) (dz:=⟨L.left,[],L.at_,ha h4 (nX bq+1) (some bq)⟩) (λa aH aZ a3=>UN a aH aZ (λa4=>a3 ⟨a4.1.1.2.2, .inr a4.1.2⟩)) ?_ ?_ (λw Uj=>Uj) ⟨T3,XZ _⟩ (T5 bW U7) (.inl rfl) (by rw[b0,Vo, <-b0,ba WW];exact VL)
   ·rw[sx Ux]
    exact(VF.rd.T λa f=>UN a f.1.1 f.1.2.1 Zo).lift λa f=>T5 bW U7 a f.1.1 f.1.2.1
   ·exact⟨Um, .az,VO,0,L.dB,rfl,(Uw.T λa f=>UN a f.1.1.1 f.1.1.2.1 Zo).lift λa f=>T5 bW U7 a f.1.1.1 f.1.1.2.1,⟨ci.nil _ _,trivial⟩,by rw[Uy];exact bT.to (λ_ _=>rfl) (λa f=> .inr (Ww a f)) _ _ U1,pB Uw.len _ _ (by rw[Uy];rfl)⟩
  refine cU (λVE E aj=>∃(l:Nat) (d:dT),VE.g 1=some (.ptr bz 0)/\VE.g 2=some (.Z (G:Int))/\VE.g 8=some (.ptr c4 (o*4))/\VE.g 9=some (.ptr l 0)/\aw l=some d/\eK X E bz/\aR<=aj/\∀a,a<aR->a≠bz->J X E a=J X aO a) (λjac WL=> ?_) ?_
  ·obtain⟨Wp,XC⟩:=Yb.1 V3
   refine cQ (λm B E aj=>∃(l:Nat) (d:dT),B.g 1=some (.ptr bz 0)/\B.g 2=some (.Z (G:Int))/\B.g 8=some (.ptr c4 (o*4))/\B.g 9=some (.ptr l 0)/\aw l=some d/\b7 l<=m/\eK X E bz/\aR<=aj/\∀a,a<aR->a≠bz->J X E a=J X aO a)
    (b7 bq) ⟨bq,Wp,aK,aK,aK,aK,XC,Zp _,X1,Zp _,λ_ _ _=>rfl⟩ ?_
   rintro m B Wh Xn ⟨l,d,U1,T3,UB,t9,Y,jab,X2,ρ,WM⟩
   have α:=TZ.T (E:=Wh) λa f=>WM a (zu (s a f)) (zu (s a f))
   have U9:=TZ.ok l d Y
   refine bG @U1 ⟨?_⟩
   refine(eO UV X2 (j:=Xn) (n:=2) Zo Zo Zo).Zm ?_
   rintro jag Vz Xo ⟨Vv,rfl,ω,Va,WB⟩
   have ι:=WB.le
   have V4:∀a,a<aR->a≠bz->J X Vz a=J X aO a:=λa f TY=>by rw[WB.T a Zo (by simpa using TY),WM a f TY]
   have VY:=TZ.T (E:=Vz) λa f=>V4 a (zu (s a f)) (zu (s a f))
   by_cases Vq:(Vv:Int)=1
   ·have UT:decide ((Vv:Int)=1)=true:=by simp only[Zc];exact Vq
    have Ul:=VY.oO Y (i:=8) (v:=d.ax) rfl
    obtain⟨Xw,WX⟩:=(VY.arg l d Y).qr (P:=λa=>aF<=a/\a<n) (by rw[Zn];have:=U9.ee;omega) (λa f=>s a (VY.bc l d Y a f).1)
    have Vf:=WX.len
    rw[Zn,Zn]at Vf
    by_cases X8:0<d.args.length
    ·have VS:decide ((0:Int)<(d.args.length:Int))=true:=zK
     refine dw @UT @t9 @Ul @Vf @VS @U1 ⟨?_⟩
     refine(eO UV Va (j:=Xo+14) (n:=d.args.length) Zo X8 (zu U9.ee)).Zm ?_
     rintro jah T6 C ⟨i,rfl,ak,Vb,WC⟩
     have κ:=WC.le
     have Ua:∀a,a<aR->a≠bz->J X T6 a=J X aO a:=λa f TY=>by rw[WC.T a Zo (by simpa using TY),V4 a f TY]
     have U6:=TZ.T (E:=T6) λa f=>Ua a (zu (s a f)) (zu (s a f))
     obtain⟨D,WQ⟩:∃D,d.args[i]? =some D:=⟨_,Ze ak⟩
     have WT:=Zg WQ
     obtain⟨c,rfl⟩:=Yb.1 (U9.full D WT)
     obtain⟨XA,β⟩:=TZ.f0 l d c Y WT
     obtain⟨Wo,UY⟩:=Yb.1 XA
     have XT:=WX.T (E:=T6) λa f=>by rw[Ua a Zo Zo,V4 a Zo Zo]
     obtain⟨VA,VB,jak⟩:=XT.one (i:=i) (v:= .ptr c 0) (by rw[Zw,WQ];rfl)
     have Xj:=U6.oO Y (i:=8) (v:=d.ax) rfl
     refine cz @VA @VB @Xj ⟨?_⟩
     refine fi (cX.same (U6.arg l d Y)).2.2 ?_
     refine bl ⟨?_⟩
     exact⟨b7 c,Zo,c,Wo,an U1,an T3,an UB,aK,UY,Zp _,Vb,Zo,Ua⟩
    ·have VS:decide ((0:Int)<(d.args.length:Int))=false:=zJ
     refine de @UT @t9 @Ul @Vf @VS ⟨?_⟩
     exact WL _ _ _ ⟨l,d,an U1,an T3,an UB,an t9,Y,Va,Zo,V4⟩
   ·have UT:decide ((Vv:Int)=1)=false:=by simp only[Zb];exact Vq
    refine bG @UT ⟨?_⟩
    exact WL _ _ _ ⟨l,d,an U1,an T3,an UB,an t9,Y,Va,Zo,V4⟩
  ·rintro B T6 C ⟨l,d,U1,T3,UB,t9,Y,Vb,σ,Ua⟩
   have U5:ah .rem (.Z (G:Int)) (.Z 11)=some (.Z ((G%11:Nat):Int)):=rL (n:=11) Zd
   have Xb:((G%11:Nat):Int)<11/\0<=((G%11:Nat):Int):=Zo
   generalize ((G%11:Nat):Int)=bI at U5 Xb
   have Vl:∀a,((aF<=a/\a<n/\R a=2+r)/\dp a=5+o)/\Up a=0->J X T6 a=J X aO a:=λa f=>Ua a (zu (s a f)) (zu (s a f))
   have U6:=TZ.T (E:=T6) Vl
   have U9:=TZ.ok l d Y
   have z:=fH.fn U9
   obtain⟨VG,Xy,Xz,Uu⟩:=U6.cell l d Y
   have γ:=s l VG
   have VW:=VF.T (E:=T6) λa f=>Ua a Zo Zo
   have Uf:∀a,aF<=a->a<n->J X T6 a=J X aO a:=λa aH aZ=>Ua a Zo Zo
   have Uv:J X T6 bX=J X aO bX:=Ua bX Zo (λl=>Ug l.symm)
   have WZ:bq<n:=by
    obtain⟨Wq,XD⟩:=WZ
    exact(s bq (TZ.cell bq Wq XD).1).2
   have UY:d.cells=c5 d.kind d.at_ d.name d.no d.ty d.n d.ax:=rfl
   have Uz:=λ(i:Nat) (v:y) (Vs:d.cells[i]? =some v)=>U6.oO Y Vs
   have Ur:∀(E:I ae) (c:I y) (U4:dT),J X E l=some (.cells c 9 .own)->dJ c U4.cells->U4.args=d.args->U4.ax=d.ax->U4.aJ=d.aJ->n7 U4->(∀a,a≠l->J X E a=J X T6 a)->jf X E (λa=>a=bX\/(aF<=a/\a<C)) (.ptr bX 0):=by
    intro E c U4 hn XS WG XY X9 UN Vm
    have U0:=U6.tQ (E:=E) (λ_=>fH.fn) Y hn XS WG XY X9 (λa _ Ug=>Vm a Ug) UN
    refine fin E C _ _ b7 Zo U0 ?_ (λo=>ZD ((TZ.wt.less.tQ Y WG).size o (some bq)) Vr) (λa f=>⟨(s a f).1,zu (s a f).2⟩) (λa aH aZ a3=>by rw[Vm a (λUd=>a3 (Ud▸VG)),Uf a aH aZ]) (by rw[Vm bX Zo,Uv])
    show(if bq=l then some U4 else aw bq)≠none
    split
    ·simp
    ·exact V3
   have VT:∀(E:I ae) (bW:Nat) (hw:List y) (dz:dO),n<=bW->(∀a,aF<=a->a<n->¬((aF<=a/\a<n/\R a=2+r)/\(dp a=4\/dp a=5+o))->J X E a=J X aO a)->ci X E (λa=>a=bX\/(aF<=a/\a<bW)) c4 VN 4 (UJ.set o hw)->jN X E (λa=>a=bX\/(aF<=a/\a<bW)) (bT X E (λa=>a=bX\/(aF<=a/\a<bW))) dz hw->(∀w∈dz.left,w∈L.left)->jR dz.right->J X E bX=J X aO bX->jf X E (λa=>a=bX\/(aF<=a/\a<bW)) (.ptr bX 0):=by
    intro E bW hw dz U7 UN XU XR au XJ Vo
    exact Vi.eq (c4:=c4) (E:=E) UZ UF W3 W4 W5 Ut VX Uh (hw:=hw) (dz:=dz) (λa aH aZ a3=>UN a aH aZ (λa4=>a3 ⟨a4.1.2.2,a4.2⟩)) XU XR au XJ (T5 bW U7) (.inl rfl) (by rw[b0,Vo, <-b0,ba WW];exact VL)
   show Q _ _
   rcases(show bI=0\/bI=1\/bI=2\/bI=3\/bI=4\/bI=5\/bI=6\/bI=7\/bI=8\/bI=9\/bI=10 by omega)with w|w|w|w|w|w|w|w|w|w|w
   ·have O:decide (bI=0)=true:=zK
    refine cP @T3 @U5 @O @t9 ⟨?_⟩
    exact⟨Ur _ _ {d with kind:=27} (bb Zo) ((Uu.put (D:=0) (aE:=[.Z 27]) (by rw[UY];simp[c5]))) rfl rfl rfl ⟨Zs,z.nm,z.aL,z.aR,z.ee⟩ λa f=>aY Zo f,Zo⟩
   ·have O:decide (bI=0)=false:=zJ
    have T2:decide (bI=1)=true:=zK
    have Xg:=Uz 2 (.str d.name) rfl
    have XP:d.name++[97]∈d8:=by
     rcases U9.nm with e|e
     ·rw[e];decide
     ·exact Iu _ e
    have ζ:d.name.length<=32:=by
     rcases U9.nm with e|e
     ·rw[e];decide
     ·exact Iv _ e
    have Wm:ce X T6 .add 9 true (.str d.name) (.str [97])=some (.str (d.name++[97])):=by
     have:Nat.ble (d.name.length+[97].length) 1000000000=true:=gk Zx
     simp only[ce,m8,this,cS]
    refine bs @T3 @U5 @O @T2 @t9 @Xg @Wm ⟨?_⟩
    exact⟨Ur _ _ {d with name:=d.name++[97]} (bb Zo) ((Uu.put (D:=2) (aE:=[.str (d.name++[97])]) (by rw[UY];simp[c5]))) rfl rfl rfl ⟨z.bf,XP,z.aL,z.aR,z.ee⟩ λa f=>aY Zo f,Zo⟩
   ·have O:decide (bI=0)=false:=zJ
    have T2:decide (bI=1)=false:=zJ
    have T4:decide (bI=2)=true:=zK
    have UI:=Uz 7 (.int .u64 d.n) rfl
    have Wj:=GK d.n 64
    refine bs @T3 @U5 @O @T2 @T4 @t9 (Za @UI @Wj) ⟨?_⟩
    exact⟨Ur _ _ {d with n:=(d.n+64)%18446744073709551616} (bb Zo) ((Uu.put (D:=7) (aE:=[.int .u64 ((d.n+64)%18446744073709551616)]) (by rw[UY];simp[c5]))) rfl rfl rfl ⟨z.bf,z.nm,(n3 _).1,(n3 _).2,z.ee⟩ λa f=>aY Zo f,Zo⟩
   ·have O:decide (bI=0)=false:=zJ
    have T2:decide (bI=1)=false:=zJ
    have T4:decide (bI=2)=false:=zJ
    have T8:decide (bI=3)=true:=zK
    have Ul:=Uz 8 d.ax rfl
    refine bs @T3 @U5 @O @T2 @T4 @T8 (Za @t9 @Ul) ⟨?_⟩
    refine(vi UV (j:=C+11) Zo [97]).Zm ?_
    rintro jai UE V8 ⟨rfl,Ws,XO,W7⟩
    have Xk:W X UE (.ptr l 8)=some d.ax:=by rw[W7.cZ _ _ Zo];exact Ul
    refine bG @Xk ⟨?_⟩
    refine fi (cX.same (U6.arg l d Y)).2.2 ?_
    generalize Ue:aS X UE (C+6) _=T9
    have VU:J X T9 (C+6)=zy [.ptr (C+11) 0] 1:=by rw[<-Ue,bb Zo]
    have Wc:∀a,a≠C+6->J X T9 a=J X UE a:=λa f=>by rw[<-Ue,aY Zo f]
    clear Ue
    have Uk:∀a,a<C->J X T9 a=J X T6 a:=λa f=>by rw[Wc a Zo,W7.T a Zo]
    have Vd:=(U6.qA λ_=>fH.fn).up.add (E:=T9) (bu:=λa=>(((aF<=a/\a<n/\R a=2+r)/\dp a=5+o)/\Up a=0)\/a=C+11) (b:=C+11) (r:=0) (d:=⟨2,0,[97],false,cm,0,[], .az,[]⟩) (λa f=> .inl f) (λa f=>by rcases f with f|rfl;exact U6.low a f;omega) (.inr rfl) (λf=>zu (s _ f))
     (by rw[Wc _ Zo];exact Ws) (dl _) (.inl (.inl ⟨rfl,rfl,rfl⟩)) (λa f=>by cases f) (λc UW=>by cases UW) (λa f=>Uk a (zu (s a f))) ⟨Zs,Zd,Zs,Zs,Zs⟩
    have WI:l≠C+11:=Zo
    obtain⟨Vw,V0,VP,Vg,Vt,Vu,V1,V6,Vh⟩:=Vd.push (j:=V8) (cM:=C+6) (l:=l) (d:=d) (by simp only[WI,ZM];exact Y) (D:=some (C+11)) (λc UW=>by cases UW;simp[WI]) VU (λa f=>by rcases f with f|rfl;(have:=s a f;omega);omega) Zo (zu U9.ee)
    refine eX Vg ?_
    refine bl ⟨?_⟩
    refine cD (kt V1 Zo Zo Vt Vu) ?_
    refine bl ⟨?_⟩
    obtain⟨Xr,Wk,U0⟩:=Vh (aS X V0 l (some (.cells (VP.set 8 (some Vw)) 9 .own))) n7 (bb Zo) (λa f=>aY Zo f) (λ_ e=>e) (λ_ _=>⟨z.bf,z.nm,z.aL,z.aR,by simp;have:=U9.ee;omega⟩)
    refine⟨fin _ (V8+1) _ _ _ Zo U0 ?_ (λo=>ZD ((TZ.wt.Jj (leaf:=⟨2,0,[97],false,cm,0,[], .az,[]⟩) (λb d c U8 UL=>(TZ.f0 b d c U8 UL).1) (pG TZ λf=>zu (s _ f)) rfl Y rfl).size o (some bq)) (by have:bq≠C+11:=Zo;simp only[nO,this,ZM];exact Vr)) (λa f=>by rcases f with (f|rfl)|rfl;(have:=s a f;omega);omega;omega) (λa aH aZ a3=> ?_) ?_,Zo⟩
    ·show(if bq=l then some _ else if bq=C+11 then some _ else aw bq)≠none
     split
     ·simp
     ·split
      ·simp
      ·exact V3
    ·rw[aY Zo (λUd:a=l=>a3 (by rw[Ud];exact VG)),V6 a Zo (λf=>by rcases f with f|f;exact a3 f;omega),Uk a Zo,Uf a aH aZ]
    ·rw[aY Zo Zo,V6 bX Zo (λf=>by rcases f with f|f;(have:=s _ f;omega);omega),Uk bX Zo,Uv]
   ·have O:decide (bI=0)=false:=zJ
    have T2:decide (bI=1)=false:=zJ
    have T4:decide (bI=2)=false:=zJ
    have T8:decide (bI=3)=false:=zJ
    have U3:decide (bI=4)=true:=zK
    have Ul:=Uz 8 d.ax rfl
    refine bs @T3 @U5 @O @T2 @T4 @T8 (Za @U3 (Za @t9 @Ul)) ⟨?_⟩
    generalize Ue:aS X T6 C _=T9
    have VU:J X T9 C=zy [.bC] 1:=by rw[<-Ue,bb Zo]
    have Uk:∀a,a<C->J X T9 a=J X T6 a:=λa f=>by rw[<-Ue,aY Zo Zo]
    clear Ue
    have Vd:=(U6.qA λ_=>fH.fn).T (E:=T9) λa f=>Uk a (zu (s a f))
    obtain⟨Vw,V0,VP,Vg,Vt,Vu,V1,V6,Vh⟩:=Vd.push (j:=C+1) (cM:=C) (l:=l) (d:=d) Y (D:=none) (λc UW=>by cases UW) VU (λa f=>zu (s a f)) Zo (zu U9.ee)
    refine eX Vg ?_
    refine bl ⟨?_⟩
    refine cD (kt V1 Zo Zo Vt Vu) ?_
    refine bl ⟨?_⟩
    obtain⟨Xr,Wk,U0⟩:=Vh (aS X V0 l (some (.cells (VP.set 8 (some Vw)) 9 .own))) n7 (bb Zo) (λa f=>aY Zo f) (λ_ e=>e) (λ_ _=>⟨z.bf,z.nm,z.aL,z.aR,by simp;have:=U9.ee;omega⟩)
    refine⟨fin _ (C+1+1) _ _ _ Zo U0 ?_ (λo=>ZD ((TZ.wt.Ji Y rfl).size o (some bq)) Vr) (λa f=>by rcases f with f|rfl;(have:=s a f;omega);omega) (λa aH aZ a3=> ?_) ?_,Zo⟩
    ·show(if bq=l then some _ else aw bq)≠none
     split
     ·simp
     ·exact V3
    ·rw[aY Zo (λUd:a=l=>a3 (by rw[Ud];exact VG)),V6 a Zo a3,Uk a Zo,Uf a aH aZ]
    ·rw[aY Zo Zo,V6 bX Zo (λf=>zu (s _ f)),Uk bX Zo,Uv]
   ·have O:decide (bI=0)=false:=zJ
    have T2:decide (bI=1)=false:=zJ
    have T4:decide (bI=2)=false:=zJ
    have T8:decide (bI=3)=false:=zJ
    have U3:decide (bI=4)=false:=zJ
    have UD:decide (bI=5)=true:=zK
    have Xh:=Uz 3 (.bool d.no) rfl
    refine bs @T3 @U5 @O @T2 @T4 @T8 (Za @U3 (Za @UD (Za @t9 @Xh))) ⟨?_⟩
    exact⟨Ur _ _ {d with no:= !d.no} (bb Zo) ((Uu.put (D:=3) (aE:=[.bool (!d.no)]) (by rw[UY];simp[c5]))) rfl rfl rfl ⟨z.bf,z.nm,z.aL,z.aR,z.ee⟩ λa f=>aY Zo f,Zo⟩
   ·have O:decide (bI=0)=false:=zJ
    have T2:decide (bI=1)=false:=zJ
    have T4:decide (bI=2)=false:=zJ
    have T8:decide (bI=3)=false:=zJ
    have U3:decide (bI=4)=false:=zJ
    have UD:decide (bI=5)=false:=zJ
    have UQ:decide (bI=6)=true:=zK
    have Xi:=Uz 6 (.Z d.ty.w) rfl
    obtain⟨Wg,Xe⟩:=LK d.ty.w 8
    refine bs @T3 @U5 @O @T2 @T4 @T8 (Za @U3 (Za @UD (Za @UQ (Za @t9 (Za @Xi @Xe))))) ⟨?_⟩
    exact⟨Ur _ _ {d with ty:=⟨d.ty.b,d.ty.s,Wg⟩} (bb Zo) ((Uu.put (D:=6) (aE:=[.Z Wg]) (by rw[UY];simp[c5]))) rfl rfl rfl ⟨z.bf,z.nm,z.aL,z.aR,z.ee⟩ λa f=>aY Zo f,Zo⟩
   ·have O:decide (bI=0)=false:=zJ
    have T2:decide (bI=1)=false:=zJ
    have T4:decide (bI=2)=false:=zJ
    have T8:decide (bI=3)=false:=zJ
    have U3:decide (bI=4)=false:=zJ
    have UD:decide (bI=5)=false:=zJ
    have UQ:decide (bI=6)=false:=zJ
    have Uo:decide (bI=7)=true:=zK
    refine bs @T3 @U5 @O @T2 @T4 @T8 (Za @U3 (Za @UD (Za @UQ (Za @Uo @UB)))) ⟨?_⟩
    obtain⟨UE,T1,Z,T0⟩:=VW.store (i:=o) (H:=0) Ux Zd (v:= .az) rfl rfl
    refine cD T1 ?_
    refine bl ⟨?_⟩
    obtain⟨ex,VA,VB⟩:=(Vp.T (E:=UE) λa f=>by rw[T0 a Zo,Vl a f]).pD
    exact⟨VT UE C _ ⟨[],[],L.at_,ex⟩ Zo (λa aH aZ a3=>by rw[T0 a Zo,Uf a aH aZ]) (Z.rd.lift λa f=>T5 C Zo a f.1.1 f.1.2.1) ⟨.az, .az,0,0,L.dB,rfl,ci.nil _ _,⟨ci.nil _ _,trivial⟩,bT.to (λ_ _=>rfl) (λa f=> .inr ⟨(s a f).1,zu (s a f).2⟩) _ _ VA,by rw[Uy];rfl⟩ (λw Uj=>by cases Uj) VB (by rw[T0 bX Zo,Uv]),Zo⟩
   ·have O:decide (bI=0)=false:=zJ
    have T2:decide (bI=1)=false:=zJ
    have T4:decide (bI=2)=false:=zJ
    have T8:decide (bI=3)=false:=zJ
    have U3:decide (bI=4)=false:=zJ
    have UD:decide (bI=5)=false:=zJ
    have UQ:decide (bI=6)=false:=zJ
    have Uo:decide (bI=7)=false:=zJ
    have VD:decide (bI=8)=true:=zK
    refine bs @T3 @U5 @O @T2 @T4 @T8 (Za @U3 (Za @UD (Za @UQ (Za @Uo (Za @VD @t9))))) ⟨?_⟩
    exact⟨Ur _ _ {d with kind:=21} (bb Zo) ((Uu.put (D:=0) (aE:=[.Z 21]) (by rw[UY];simp[c5]))) rfl rfl rfl ⟨Zs,z.nm,z.aL,z.aR,z.ee⟩ λa f=>aY Zo f,Zo⟩
   ·have O:decide (bI=0)=false:=zJ
    have T2:decide (bI=1)=false:=zJ
    have T4:decide (bI=2)=false:=zJ
    have T8:decide (bI=3)=false:=zJ
    have U3:decide (bI=4)=false:=zJ
    have UD:decide (bI=5)=false:=zJ
    have UQ:decide (bI=6)=false:=zJ
    have Uo:decide (bI=7)=false:=zJ
    have VD:decide (bI=8)=false:=zJ
    have Vy:decide (bI=9)=true:=zK
    refine bs @T3 @U5 @O @T2 @T4 @T8 (Za @U3 (Za @UD (Za @UQ (Za @Uo (Za @VD @Vy))))) ⟨?_⟩
    refine cQ (λm B E aj=>∃(UG t:Nat),B.g 1=some (.ptr bz 0)/\B.g 8=some (.ptr c4 (o*4))/\B.g 10=some (.Z (UG:Int))/\UG+m=300/\eK X E bz/\C<=aj/\er X E (λa=>(aF<=a/\a<n/\R a=2+r)/\dp a=4) c4 VN 4 (UJ.set o [Um, .az, .Z L.at_, .ptr t 0])
     /\m6 X E (λa=>(((aF<=a/\a<n/\R a=2+r)/\dp a=5+o)/\Up a=0)\/(C<=a/\a<aj)) (.ptr t 0) (118097+UG)/\∀a,a<C->a≠bz->¬((aF<=a/\a<n/\R a=2+r)/\dp a=4)->J X E a=J X T6 a)
     300 ⟨0,bq,an U1,an UB,cA,Zo,Vb,Zp _,by rw[<-Uy,sx Ux];exact VW,by rw[<-Uy];exact(Vp.to Vl (λa f=> .inl f) (λa f=>by rcases f with f|f;exact U6.low a f;omega)).AZ,λ_ _ _ _=>rfl⟩ ?_
    clear U1 UB
    rintro m B UE V8 ⟨UG,t,U1,UB,Wf,WJ,X3,XO,X6,X5,Vk⟩
    refine cn @Wf @U1 ⟨?_⟩
    refine(eO UV X3 (j:=V8) (n:=20) Zo Zo Zo).Zm ?_
    rintro jaj T9 UA ⟨V9,rfl,jaa,X4,WD⟩
    have μ:=WD.le
    have V5:∀a,a<V8->a≠bz->J X T9 a=J X UE a:=λa f TY=>WD.T a Zo (by simpa using TY)
    have Ve:=X6.T (E:=T9) λa f=>V5 a Zo Zo
    have XM:∀bW a,((((aF<=a/\a<n/\R a=2+r)/\dp a=5+o)/\Up a=0)\/(C<=a/\a<bW))->(u X).aP<=a:=λbW a f=>by rcases f with f|f;exact U6.low a f;omega
    have WF:=X5.T (E:=T9) λa f=>V5 a (by rcases f with f|f;(have:=s a f;omega);omega) (by rcases f with f|f;(have:=s a f;omega);omega)
    have W2:ah .add (.Z 190) (.Z (V9:Int))=some (.Z (190+(V9:Int))):=cx Zo Zo
    have XK:o<UJ.length:=Vj
    have WY:(UJ.set o [Um, .az, .Z L.at_, .ptr t 0])[o]? =some [Um, .az, .Z L.at_, .ptr t 0]:=by rw[Yr];simp only[ZP,XK]
    by_cases WK:(UG:Int)<190+(V9:Int)
    ·have UT:decide ((UG:Int)<190+(V9:Int))=true:=by simp only[Zc];exact WK
     have Ud:=zz UG
     have Xm:=Ve.rd.cell o _ 3 (.ptr t 0) WY rfl
     refine cP @W2 @UT @UB @Xm ⟨?_⟩
     refine(yZ UV (j:=UA) Zo 3 t).Zm ?_
     rintro u8 V0 Wd ⟨rfl,Wt,V1,τ,VH⟩
     have X7:=Ve.T (E:=V0) λa f=>VH.T a Zo
     obtain⟨Wi,T1,Z,T0⟩:=X7.store (i:=o) (H:=3) WY Zd (v:= .ptr (UA+1) 0) rfl rfl
     refine bl ⟨?_⟩
     refine cD T1 ?_
     refine cn @Wf @Ud ⟨?_⟩
     rw[List.set_set]at Z
     obtain⟨Xv,Xq,wt,jad,XE,VZ,WE,Vq,Xc,ψ⟩:=WF
     cases XE
     have Wv:=VZ.add (E:=Wi) (bu:=λa=>(((aF<=a/\a<n/\R a=2+r)/\dp a=5+o)/\Up a=0)\/(C<=a/\a<Wd)) (b:=UA+1) (r:=Xq t+1) (d:=⟨3,0,[],false,cm,0,[some t], .slice UA 0 1 1,[UA]⟩) (λa f=>by rcases f with f|f;exact .inl f;exact .inr ⟨f.1,Zo⟩) (XM Wd) (.inr ⟨Zo,Zo⟩) (λf=>by rcases f with f|f;(have:=s _ f;omega);omega)
      (by rw[T0 _ Zo];exact V1) (dl _) (.inr ⟨UA,1,_, .own,rfl,rfl,rfl,by rw[T0 _ Zo];exact Wt,dl _,rfl,Zo⟩) (λa f=>by simp at f;subst f;exact⟨.inr ⟨Zo,Zo⟩,λf=>by rcases f with f|f;(have:=s _ f;omega);omega,Zo⟩) (λc UW=>by simp at UW;subst UW;exact⟨WE,Zo⟩)
      (λa f=>by
       have Xf:¬((aF<=a/\a<n/\R a=2+r)/\dp a=4):=by rcases f with f|f;omega;omega
       rw[T0 a Xf,VH.T a (by rcases f with f|f;(have:=s a f;omega);omega)]) ⟨Zs,Zs, .inl rfl,Zs,Zs,Zs,Zs⟩
     refine⟨m-1,Zo,UG+1,UA+1,an U1,an UB,aK,Zo,(X4.T (VH.T _ Zo)).T (T0 _ Zo),Zo,Z,⟨_,_,_,UA+1,rfl,Wv,Zs,Zs,Xc.over (λb d c U8 UL=>(VZ.f0 b d c U8 UL).1) (pG VZ λf=>by rcases f with f|f;(have:=s _ f;omega);omega) WE rfl,Zx⟩,λa f TY W6=> ?_⟩
     rw[T0 a W6,VH.T a Zo,V5 a Zo TY,Vk a f TY W6]
    ·have UT:decide ((UG:Int)<190+(V9:Int))=false:=by simp only[Zb];exact WK
     refine cn @W2 @UT ⟨?_⟩
     obtain⟨ex,VA,VB⟩:=WF.pD Zo
     have WN:∀a,aF<=a->a<n->¬((aF<=a/\a<n/\R a=2+r)/\dp a=4)->J X T9 a=J X aO a:=λa aH aZ a3=>by rw[V5 a Zo Zo,Vk a Zo Zo a3,Uf a aH aZ]
     exact⟨VT T9 UA _ ⟨L.left,[],L.at_,ex⟩ Zo (λa aH aZ a3=>WN a aH aZ (λa4=>a3 ⟨a4.1, .inl a4.2⟩)) (Ve.rd.lift λa f=>T5 UA Zo a f.1.1 f.1.2.1) ⟨Um, .az,VO,0, .ptr t 0,rfl,(Uw.T λa f=>WN a f.1.1.1 f.1.1.2.1 Zo).lift λa f=>T5 UA Zo a f.1.1.1 f.1.1.2.1,⟨ci.nil _ _,trivial⟩,bT.to (λ_ _=>rfl) (λa f=>by rcases f with f|f;exact .inr ⟨(s a f).1,zu (s a f).2⟩;exact .inr ⟨Zo,Zo⟩) _ _ VA,pB Uw.len _ _ rfl⟩ (λw Uj=>Uj) VB (by rw[V5 bX Zo (λl=>Ug l.symm),Vk bX Zo (λl=>Ug l.symm) Zo,Uv]),Zo⟩
   ·have O:decide (bI=0)=false:=zJ
    have T2:decide (bI=1)=false:=zJ
    have T4:decide (bI=2)=false:=zJ
    have T8:decide (bI=3)=false:=zJ
    have U3:decide (bI=4)=false:=zJ
    have UD:decide (bI=5)=false:=zJ
    have UQ:decide (bI=6)=false:=zJ
    have Uo:decide (bI=7)=false:=zJ
    have VD:decide (bI=8)=false:=zJ
    have Vy:decide (bI=9)=false:=zJ
    have Xu:decide (bI=10)=true:=zK
    refine bs @T3 @U5 @O @T2 @T4 @T8 (Za @U3 (Za @UD (Za @UQ (Za @Uo (Za @VD (Za @Vy (Za @Xu @UB))))))) ⟨?_⟩
    obtain⟨UE,T1,Z,T0⟩:=VW.store (i:=o) (H:=3) Ux Zd (v:= .bC) rfl rfl
    refine cD T1 ?_
    refine bl ⟨?_⟩
    exact⟨VT UE C _ ⟨L.left,[],L.at_,g8⟩ Zo (λa aH aZ a3=>by rw[T0 a Zo,Uf a aH aZ]) (Z.rd.lift λa f=>T5 C Zo a f.1.1 f.1.2.1) ⟨Um, .az,VO,0, .bC,rfl,(Uw.T λa f=>by rw[T0 a Zo,Uf a f.1.1.1 f.1.1.2.1]).lift λa f=>T5 C Zo a f.1.1.1 f.1.1.2.1,⟨ci.nil _ _,trivial⟩,(by show bT _ _ _ g8 .bC;unfold g8 bT;exact .inl ⟨rfl,rfl⟩),pB Uw.len _ _ rfl⟩ (λw Uj=>Uj) Hb (by rw[T0 bX Zo,Uv]),Zo⟩
end
def Ig{C:aC}{h:I ae}(x a:Int):j0 C h .min [3,3] [.Z x, .Z a]=some (.Z (min x a)):=by
 show hG false (.Z x) [.Z a]=_
 simp only[hG,cN,jt,ZR,ZM]
 congr 2
 simp only[Zc]
 split<;>omega
section
variable{X:bU}{h E cH ay aO:I ae}{j ar aL aR bz:Nat}{bp d2 P:Nat->Prop}
def dJ.set{c:I y}{k:List y}(e:dJ c k){i:Nat}(ak:i<k.length)(v:y):dJ (c.set i (some v)) (k.set i v):=by
 intro H
 rw[I.gn,Yr]
 by_cases a:i=H
 ·rw[Zv a,Zv a,Zv ak]
 ·rw[Zj a,Zj a];exact e H
def cX.HF{C:aC}{h:I ae}{s:y}{k:List y}{aJ:List Nat}(e:cX C h s 1 k aJ):∃w,bL s=some w:=by
 rcases e with (⟨rfl,_⟩|⟨b,cj,n,c,rfl,_⟩)|⟨b,n,c,st,rfl,_⟩
 ·exact⟨_,rfl⟩
 ·exact⟨_,ib ..⟩
 ·exact⟨_,hP ..⟩
def sU(X:bU)(ax:y)(n:Nat):Prop:=∀H,H<n->∃(p:y) (x:Nat),bK 1 ax (.Z (H:Int))=some p/\(∀E,W X E p=some (.int .u16 (x:Int)))/\x<65536
structure lX(X:bU)(h:I ae)(d aH aZ a3 n cL:Nat)(name:aW)(cl out loc:List bx)(o:Nat):Prop where
 le:(u X).aP<=d/\d<=aH/\aH<=aZ/\aZ<=a3/\a3=cL/\cL<n
 ex:∃(R:Nat->Nat) (bA bB g f:y) (b2 be b6:Nat) (c:I y) (eqs:List mV) (b:List (List y)) (aJ:List Nat),(∀a,a<aH->R a=1)/\(∀a,aH<=a->a<aZ->R a=2)/\(∀a,aZ<=a->a<a3->R a=3)
  /\J X h cL=some (.cells c 6 .own)/\dJ c [.str name, .Z 0,bA,bB,g,f]
  /\er X h (λa=>d<=a/\a<aH) b2 bA 8 (cl.map bP)/\er X h (λa=>aH<=a/\a<aZ) be bB 8 (out.map bP)/\er X h (λa=>aZ<=a/\a<a3) b6 g 8 (loc.map bP)
  /\cX X h f 4 b.flatten aJ/\(∀a∈aJ,cL<a/\a<n/\R a=4)/\b.length=eqs.length/\(∀r∈b,r.length=4/\cR r=true)/\eqs.length=o/\(∀L∈eqs,∀w∈L.left,w∈gu)
  /\∀(i:Nat) L row,eqs[i]? =some L->b[i]? =some row->iL X h (λa=>(cL<a/\a<n)/\R a=5+i) L row
def lX.T{f aH aZ a3 n aj cL o:Nat}{name:aW}{cl out loc:List bx}(e:lX X h f aH aZ a3 n cL name cl out loc o)(d:∀a,f<=a->a<n->J X E a=J X h a)(T7:n<=aj):lX X E f aH aZ a3 aj cL name cl out loc o:=by
 obtain⟨t,v,w,x,z,C⟩:=e.le
 obtain⟨R,bA,bB,T6,T5,b2,be,b6,c,eqs,Y,aJ,bf,bo,s,m,p,G,O,P,Z,g,T0,T1,T2,T3,T4⟩:=e.ex
 exact⟨⟨t,v,w,x,z,Zo⟩,R,bA,bB,T6,T5,b2,be,b6,c,eqs,Y,aJ,bf,bo,s,by rw[d cL Zo C];exact m,p,G.T λa b=>d a Zo Zo,O.T λa b=>d a Zo Zo,P.T λa b=>d a Zo Zo,
  Z.T λa b=>d a (zu (g a b)) (g a b).2.1,λa b=>zu (g a b),T0,T1,T2,T3,λi L row r M=>(T4 i L row r M).to (λa b=>d a Zo Zo) (λa b=>⟨⟨b.1.1,Zo⟩,b.2⟩) λa b=>Zo⟩
def lX.done{p aH aZ a3 n cL o:Nat}{name:aW}{cl out loc:List bx}(e:lX X h p aH aZ a3 n cL name cl out loc o)(T9:o<=100)(G:name∈gu)(O:∀d∈cl,jd d)(P:∃ds t,out=ds++[⟨gx,0,t,[],0,false⟩]/\∀d∈ds,jd d)(Y:∀d∈loc,jd d)(Z:cl.length<=100/\out.length<=100/\loc.length<=100):
 ∃(g:fw) (bA bB m f:y) (c:I y),kB g/\J X h cL=some (.cells c 6 .own)/\dJ c [.str name, .Z 0,bA,bB,m,f]/\cR [.str name, .Z 0,bA,bB,m,f]=true/\jS X h (λa=>p<=a/\a<n) g [.str name, .Z 0,bA,bB,m,f]:=by
 obtain⟨TY,TZ,U0,U1,U2,U3⟩:=e.le
 obtain⟨R,bA,bB,m,f,b2,be,b6,c,eqs,T2,aJ,bf,bo,T1,z,C,s,v,w,T3,T4,T5,T6,U4,T7,T8⟩:=e.ex
 obtain⟨c4,x⟩:=T3.qs (bp:=λa=>(p<=a/\a<n)/\R a=4) Zd (λr M=>(T6 r M).1) Zo (λa b=>zu (T4 a b))
 refine⟨⟨name,cl,out,loc,eqs⟩,bA,bB,m,f,c,⟨G,O,P,Y,T7,by show eqs.length<=100;omega,Z⟩,z,C, ?_,R,bA,bB,m,f,b2,be,b6,c4,T2,rfl,s.lift λa b=>⟨⟨b.1,Zo⟩,bf a b.2⟩,v.lift λa b=>⟨⟨Zo,Zo⟩,bo a b.1 b.2⟩,w.lift λa b=>⟨⟨Zo,Zo⟩,T1 a b.1 b.2⟩,x,T5,λi L row T0 M=>(T8 i L row T0 M).to (λ_ _=>rfl) (λa b=>⟨⟨Zo,b.1.2⟩,b.2⟩) λa b=>Zo⟩
 simp[Go.S.cR,(fg s.rd.len).2.1,(fg v.rd.len).2.1,(fg w.rd.len).2.1,(fg x.rd.len).2.1,show d9 (.Z 0)=true from rfl,show d9 (.str name)=true from rfl]
end
section
variable{X:bU}{h E cH ay aO:I ae}{j ar aL aR bz:Nat}{bp d2 P:Nat->Prop}
set_option maxRecDepth 100000 in
def HV(z:dX X)(Vc:(u X).aP<=j){a0 aH:y}{WY:Int}{n:Nat}(Xu:bL a0=some (.Z WY))(ε:∀E,il X E 1 a0 none (some (.Z (min WY 400))) none=some aH)(W1:bL aH=some (.Z (n:Int)))(Xz:n<=400)(XS:sU X aH n){T1:Nat}(θ:T1<256):
 aN X 5 [a0, .int .u8 (T1:Int)] h j (λN E ar=>jf X E (λa=>j<=a/\a<ar) N/\j<=ar) zG:=by
 refine zB z (C2 X) ?_
 rw[C3]
 unfold wl
 have Xc:cr [.az, .Z 0] [(0,1,aH)]=some (.agg [aH, .Z 0]):=by
  simp[cr,gH,gI,(fg W1).1,e5]
 refine cz @Xu @Ig @ε ⟨?_⟩
 refine cD Xc ?_
 refine ho ⟨?_⟩
 generalize V3:aS X _ (j+1) _=ay
 have X4:J X ay j=zy [aH, .Z 0] 2:=by rw[<-V3,aY Zo Zo,bb Vc];rfl
 have X7:J X ay (j+1)=zy [.az] 1:=by rw[<-V3,bb Zo];rfl
 clear V3
 have XP:eK X ay j:=⟨Vc,_,aH,n,0,X4,rfl,rfl,W1,Xz,zc _,XS⟩
 refine cU (λt E aj=>∃(R:Nat->Nat) (ax:y) (U:List fw) (rows:List (List y)) (aJ:List Nat) (c:I y),t.g 1=some (.int .u8 (T1:Int))/\t.g 5=some (.ptr j 0)/\t.g 6=some (.ptr (j+1) 0)/\U≠[]/\j+2<=aj/\hi X E (j+2) aj R ax U rows aJ/\eK X E j/\J X E (j+1)=some (.cells c 1 .own)/\c.get 0=some ax) (λjbb Xo=> ?_) ?_
 ·refine cQ (λm B E aj=>∃(i:Nat) (R:Nat->Nat) (ax:y) (U:List fw) (rows:List (List y)) (aJ:List Nat) (c:I y),B.g 1=some (.int .u8 (T1:Int))/\B.g 5=some (.ptr j 0)/\B.g 6=some (.ptr (j+1) 0)/\B.g 7=some (.Z (i:Int))/\i+m=3/\U.length=i/\j+2<=aj/\hi X E (j+2) aj R ax U rows aJ/\eK X E j/\J X E (j+1)=some (.cells c 1 .own)/\c.get 0=some ax)
   3 ⟨0,λ_=>0, .az,[],[],[],_,aK,aK,aK,cA,rfl,rfl,Zp _,⟨Zo, .inl (.inl ⟨rfl,rfl,rfl⟩),Zs,Zs,rfl,Zs,λi g row e=>by simp at e,Zs⟩,XP,X7,rfl⟩ ?_
  rintro m B aO T5 ⟨i,R,ax,U,rows,aJ,Uf,C,t5,v,T2,ak,UZ,jaG,T3,V2,UI,UJ⟩
  refine cn @T2 @t5 ⟨?_⟩
  refine(eO z V2 (j:=T5) (n:=3) Zo Zo Zo).Zm ?_
  rintro jan Ul Wa ⟨VQ,rfl,jaX,Vm,Ve⟩
  have jaH:=Ve.le
  have VL:∀a,a<T5->a≠j->J X Ul a=J X aO a:=λa f p=>Ve.T a f (by simpa using p)
  by_cases Vw:(i:Int)<=(VQ:Int)
  ·have U5:decide ((i:Int)<=(VQ:Int))=true:=by simp only[Zc];exact Vw
   have Uu:=zz i
   refine cn @U5 @t5 ⟨?_⟩
   refine(kk z Vm (j:=Wa) Zo Zo).Zm ?_
   rintro jbf jao χ ⟨s,rfl,ζ,XE,Vf⟩
   have jaI:=Vf.le
   refine bG @t5 ⟨?_⟩
   refine(tp z XE (j:=χ) (n:=3) Zo Zo Zo Zo).Zm ?_
   rintro bA jap TY ⟨Us,jat,VH,Vq,jaB,Xq,XF,Vg⟩
   have jaJ:=Vg.le
   refine bG @t5 ⟨?_⟩
   refine(tp z XF (j:=TY) (n:=2) Zo Zo Zo Zo).Zm ?_
   rintro jbe Um Wb ⟨U8,jau,W8,UH,jaC,Xs,XG,Uy⟩
   have jaK:=Uy.le
   refine(sB z (j:=Wb) (h:=Um) Zo).Zm ?_
   rintro jbg jaq ψ ⟨γ,α,Vd⟩
   refine bG @t5 ⟨?_⟩
   refine(eO z (XG.T (Vd.T _ Zo)) (j:=ψ) (n:=8) Zo Zo Zo).Zm ?_
   rintro u8 Un Y ⟨VR,rfl,W5,XH,Uz⟩
   have jaL:=Uz.le
   have W6:=γ.T (E:=Un) (λa f=>by subst f;exact Uz.T _ α Zx)
   obtain⟨ty,κ⟩:∃ty,oc[VR]? =some ty:=⟨_,Ze W5⟩
   have Xn:=W6.cT VR W5
   have W7:=W6.row Zd (i:=VR) (r:=eS ty) (by rw[Zw,κ];rfl)
   have ι:eS ty=[.bool ty.b, .bool ty.s, .Z ty.w]:=rfl
   rw[ι]at W7
   refine cn @Xn @W7 ⟨?_⟩
   generalize V4:aS X Un Y _=UP
   have Wx:J X UP Y=zy (bP ⟨gx,0,ty,[],0,false⟩) 8:=by rw[<-V4,bb Zo];rfl
   have WK:∀a,a<Y->J X UP a=J X Un a:=λa f=>by rw[<-V4,aY Zo Zo]
   clear V4
   have WJ:∀a,a<Wb->a≠j->J X UP a=J X Um a:=λa f p=>by rw[WK a Zo,Uz.T a Zo (by simpa using p),Vd.T a f]
   have Xh:=tw U8
   obtain⟨bB,UQ,VY,XY,VK,Xe,Vz⟩:=(W8.T (E:=UP) (λa f=>by have:=UH a f;exact WJ a Zo Zo)).append (j:=Y+1) (o:=1) Zd (hx Wx (dl _) rfl 1) rfl Zd rfl (by rw[Xh];simp[bP];omega) Zo (λa f=>zu (UH a f))
   refine eX XY ?_
   have WM:∀a,a<TY->a≠j->J X UQ a=J X Um a:=λa f p=>by rw[Vz a Zo (λe=>zu (UH a e)),WJ a Zo p]
   refine bG @t5 ⟨?_⟩
   refine(tp z (XH.T (E:=UQ) (by rw[Vz _ Zo (λe=>zu (UH _ e)),WK _ Zo])) (j:=Y+1+1) (n:=3) Zo Zo Zo Zo).Zm ?_
   rintro Uj fy cL ⟨Ut,jav,VI,Vr,jaD,Xt,XI,Vh⟩
   have jaM:=Vh.le
   obtain⟨Wp,Wq,_⟩:=cX.same VH
   obtain⟨Wr,Ws,_⟩:=Go.S.dc.one VK
   obtain⟨Wt,Wu,_⟩:=cX.same VI
   have Xf:cr [.str [], .Z 0, .az, .az, .az, .az] [(0,1, .str s),(2,1,bA),(3,1,bB),(4,1,Uj)]=some (.agg [.str s, .Z 0,bA,bB,Uj, .az]):=by
    have cs:(y.str s).cells=[.str s]:=rfl
    simp[cr,gH,gI,Wp,Wr,Wt,cs,e5]
   refine cD Xf ?_
   refine bl ⟨?_⟩
   refine cD (e8 (o:=6) (b:=cL) (D:=0) (n:=6) (c:=I.ofList [.str [], .Z 0, .az, .az, .az, .az] 0 .nil) (bb Zo) Zo rfl Zd Zd (by simp[y.cells,cR,Wq,Ws,Wu,show d9 (.str s)=true from rfl,show d9 (.Z 0)=true from rfl,show d9 .az=true from rfl])) ?_
   generalize V5:aS X _ cL _=T8
   have nu:J X T8 cL=zy [.str s, .Z 0,bA,bB,Uj, .az] 6:=by rw[<-V5,bb Zo];rfl
   have VN:∀a,a<cL->J X T8 a=J X fy a:=λa f=>by rw[<-V5,aY Zo Zo,aY Zo Zo]
   clear V5
   have VM:∀a,a<Y+1+1->a≠j->J X T8 a=J X UQ a:=λa f p=>by rw[VN a Zo,Vh.T a Zo (by simpa using p)]
   have π:∀a,a<T5->a≠j->J X T8 a=J X aO a:=λa f p=>by
    have U1:a∉[j]:=by simpa using p
    rw[VM a Zo p,WM a Zo p,Uy.T a Zo U1,Vg.T a Zo U1,Vf.T a Zo U1,VL a f p]
   obtain⟨b2,U4⟩:=(VH.T (E:=T8) λa f=>by have:=Vq a f;rw[VM a Zo Zo,WM a Zo Zo,Uy.T a Zo Zx]).qs (bp:=λa=>T5<=a/\a<TY) Zd (by intro r M;obtain⟨d,_,rfl⟩:=ZB.1 M;rfl) (by rw[Zn];omega) (λa f=>zu (Vq a f))
   have WC:cX X UQ bB 8 (((U8++[⟨gx,0,ty,[],0,false⟩]:List bx).map bP).flatten) VY:=by rw[tx];exact .inl VK
   have Vu:∀a∈VY,TY<=a/\a<Y+1+1:=λa f=>by
    rcases Xe a f with rfl|e
    ·omega
    ·have:=UH a e;omega
   obtain⟨be,UO⟩:=(WC.T (E:=T8) λa f=>by have:=Vu a f;exact VM a Zo Zo).qs (bp:=λa=>TY<=a/\a<Y+1+1) Zd (by intro r M;obtain⟨d,_,rfl⟩:=ZB.1 M;rfl) (by rw[Zn];simp;omega) Vu
   obtain⟨b6,Wf⟩:=(VI.T (E:=T8) λa f=>by have:=Vr a f;exact VN a Zo).qs (bp:=λa=>Y+1+1<=a/\a<cL) Zd (by intro r M;obtain⟨d,_,rfl⟩:=ZB.1 M;rfl) (by rw[Zn];omega) (λa f=>zu (Vr a f))
   have XT:lX X T8 T5 TY (Y+1+1) cL (cL+1) cL s Us (U8++[⟨gx,0,ty,[],0,false⟩]) Ut 0:=⟨⟨Zo,Zo,Zo,Zo,rfl,Zo⟩,λa=>if a<TY then 1 else if a<Y+1+1 then 2 else 3,bA,bB,Uj, .az,b2,be,b6,_,[],[],[],
    λa f=>Zv f,λa x O=>(Zj Zo).trans (Zv O),λa x O=>(Zj Zo).trans (Zj Zo),nu,dl _,U4,UO,Wf, .inl (.inl ⟨rfl,rfl,rfl⟩),Zs,rfl,Zs,rfl,Zs,λi L row e=>by simp at e⟩
   have XJ:=XI.T (VN _ Zo)
   clear U4 UO Wf VK WC VH W8 VI nu
   refine bG @t5 ⟨?_⟩
   refine(eO z XJ (j:=cL+1) (n:=5) Zo Zo Zo).Zm ?_
   rintro jbh VW jD ⟨rd,rfl,jaY,XK,Vi⟩
   have Xx:=Vi.le
   have WN:∀a,a<cL+1->a≠j->J X VW a=J X T8 a:=λa f p=>Vi.T a f (by simpa using p)
   have XU:=XT.T (E:=VW) (aj:=jD) (λa aH aZ=>WN a Zo Zo) Xx
   refine cU (λt E aj=>∃(o:Nat),o<=100/\t.g 1=some (.int .u8 (T1:Int))/\t.g 5=some (.ptr j 0)/\t.g 6=some (.ptr (j+1) 0)/\t.g 7=some (.Z (i:Int))/\t.g 8=some (.ptr cL 0)/\lX X E T5 TY (Y+1+1) cL aj cL s Us (U8++[⟨gx,0,ty,[],0,false⟩]) Ut o/\eK X E j/\∀a,a<T5->a≠j->J X E a=J X aO a) (λjbc Xp=> ?_) ?_
   ·refine cQ (λZ B E aj=>∃(o:Nat),o+Z<=5/\B.g 1=some (.int .u8 (T1:Int))/\B.g 5=some (.ptr j 0)/\B.g 6=some (.ptr (j+1) 0)/\B.g 7=some (.Z (i:Int))/\B.g 8=some (.ptr cL 0)/\B.g 9=some (.Z (Z:Int))/\lX X E T5 TY (Y+1+1) cL aj cL s Us (U8++[⟨gx,0,ty,[],0,false⟩]) Ut o/\eK X E j/\∀a,a<T5->a≠j->J X E a=J X aO a)
     rd ⟨0,Zo,an C,an t5,an v,an T2,aK,aK,XU,XK,λa f p=>by rw[WN a Zo p,π a f p]⟩ ?_
    clear C t5 v T2
    rintro Z Wi T6 bW ⟨o,jaE,C,t5,v,T2,T7,t9,U9,UX,UC⟩
    obtain⟨WT,WU,WV,WW,WX,ρ⟩:=id U9.le
    cases Z with
    |zero=>
     have Ur:decide ((0:Int)<((0:Nat):Int))=false:=rfl
     refine cn @t9 @Ur ⟨?_⟩
     exact Xp _ _ _ ⟨o,Zo,an C,an t5,an v,an T2,an T7,U9,UX,UC⟩
    |succ Z=>
     have Ur:decide ((0:Int)<((Z+1:Nat):Int))=true:=zK
     have Wv:ah .sub (.Z ((Z+1:Nat):Int)) (.Z 1)=some (.Z (Z:Int)):=by rw[g4 Zo Zo,show((Z+1:Nat):Int) -1=(Z:Int) by omega]
     refine cz @t9 @Ur @t5 ⟨?_⟩
     refine(kk z UX (j:=bW) Zo Zo).Zm ?_
     rintro jbi U6 b9 ⟨U4,rfl,WF,XL,Vj⟩
     have jaN:=Vj.le
     refine bl ⟨?_⟩
     generalize V7:aS X U6 b9 _=U7
     have Wz:J X U7 b9=zy [.str U4] 1:=by rw[<-V7,bb Zo]
     have WP:∀a,a<b9->J X U7 a=J X U6 a:=λa f=>by rw[<-V7,aY Zo Zo]
     clear V7
     refine bG @t5 ⟨?_⟩
     refine(eO z (XL.T (WP _ Zo)) (j:=b9+1) (n:=7) Zo Zo Zo).Zm ?_
     rintro jbj UF t0 ⟨UN,rfl,jaZ,XM,V0⟩
     have jaO:=V0.le
     have Ww:ah .add (.Z 2) (.Z (UN:Int))=some (.Z ((2+UN:Nat):Int)):=by rw[cx Zo Zo];rfl
     refine bG @Ww ⟨?_⟩
     refine(FN z (2+UN) Zo UF t0 XM Zo Zo).Zm ?_
     rintro dB jar UE ⟨Vo,XN,V1⟩
     have jaP:=V1.le
     obtain⟨aw,b7,bq,δ,jaz⟩:=id Vo
     refine bG @t5 ⟨?_⟩
     refine(eO z XN (j:=UE) (n:=9) Zo Zo Zo).Zm ?_
     rintro jbk Wh G ⟨at_,rfl,jaA,XO,UW⟩
     have jaQ:=UW.le
     subst δ
     refine bl ⟨?_⟩
     generalize V9:aS X _ G _=dc
     have X3:J X dc G=zy [.slice b9 0 1 1, .az, .Z (at_:Int), .ptr bq 0] 4:=by rw[<-V9,bb Zo];rfl
     have Ub:∀a,a<G->J X dc a=J X Wh a:=λa f=>by rw[<-V9,aY Zo Zo,aY Zo Zo]
     clear V9
     refine bG @t5 ⟨?_⟩
     refine(eO z (XO.T (Ub _ Zo)) (j:=G+1) (n:=4) Zo Zo Zo).Zm ?_
     rintro jbl T9 nm ⟨VS,rfl,jba,Vn,Vk⟩
     have jaR:=Vk.le
     have Uc:∀a,a<G+1->a≠j->J X T9 a=J X dc a:=λa f p=>Vk.T a f (by simpa using p)
     have UV:J X T9 G=zy [.slice b9 0 1 1, .az, .Z (at_:Int), .ptr bq 0] 4:=by rw[Uc _ Zo Zo];exact X3
     have X5:J X T9 b9=zy [.str U4] 1:=by rw[Uc _ Zo Zo,Ub _ Zo,UW.T _ Zo Zx,V1.T _ Zo Zx,V0.T _ Zo Zx];exact Wz
     have Vp:fo X T9 fH (dm t0 UE) (.ptr bq 0) (2+UN+1):=Vo.T λa f=>by have:=f.1;have:=f.2;rw[Uc _ Zo Zo,Ub _ Zo,UW.T _ Zo Zx]
     have WL:∀a,a<bW->a≠j->J X T9 a=J X T6 a:=λa f p=>by
      have U1:a∉[j]:=by simpa using p
      rw[Uc _ Zo p,Ub _ Zo,UW.T _ Zo U1,V1.T _ Zo U1,V0.T _ Zo U1,WP _ Zo,Vj.T _ f U1]
     refine ho ⟨?_⟩
     refine cU (λt E aj=>∃(ax:y) (left:List aW) (Uq:List Nat) (c:I y),t.g 1=some (.int .u8 (T1:Int))/\t.g 5=some (.ptr j 0)/\t.g 6=some (.ptr (j+1) 0)/\t.g 7=some (.Z (i:Int))/\t.g 8=some (.ptr cL 0)/\t.g 9=some (.Z ((Z+1:Nat):Int))/\t.g 10=some (.ptr G 0)
      /\nm<=aj/\J X E G=some (.cells c 4 .own)/\dJ c [ax, .az, .Z (at_:Int), .ptr bq 0]/\cX X E ax 1 (left.map y.str) Uq/\left.length<=2/\(∀a∈Uq,bW<=a/\a<aj/\a≠G/\¬(t0<=a/\a<UE))/\(∀w∈left,w∈gu)/\fo X E fH (dm t0 UE) (.ptr bq 0) (2+UN+1)/\eK X E j/\∀a,a<bW->a≠j->J X E a=J X T6 a) (λjbd Vx=> ?_) ?_
     ·have W9:cX X T9 (.slice b9 0 1 1) 1 ([U4].map y.str) [b9]:= .inr ⟨b9,1,_, .own,rfl,rfl,rfl,X5,dl _,rfl,Zo⟩
      by_cases x:(VS:Int)=1
      ·have Uv:decide ((VS:Int)=1)=true:=by simp only[Zc];exact x
       have WZ:∀E,Go.S.J X E G=zy [.slice b9 0 1 1, .az, .Z (at_:Int), .ptr bq 0] 4->W X E (.ptr G 0)=some (.slice b9 0 1 1):=λE e=>by rw[ba e];rfl
       have υ:=WZ T9 UV
       refine cz @Uv @υ @t5 ⟨?_⟩
       refine(kk z Vn (j:=nm+8) Zo Zo).Zm ?_
       rintro jbm UR gv ⟨UO,rfl,μ,XQ,Vl⟩
       have jaS:=Vl.le
       have g6:∀a,a<nm->a≠j->J X UR a=J X T9 a:=λa f p=>Vl.T a Zo (by simpa using p)
       have φ:=WZ UR (by rw[g6 _ Zo Zo];exact UV)
       refine bG @φ ⟨?_⟩
       refine fi (by simp[y.same]) ?_
       generalize VA:aS X UR (nm+4) _=Uo
       have go:J X Uo (nm+4)=zy [.str UO] 1:=by rw[<-VA,bb Zo]
       have Ud:∀a,a≠nm+4->J X Uo a=J X UR a:=λa f=>by rw[<-VA,aY Zo f]
       clear VA
       obtain⟨VV,VX,Wo,Xa,WD,Vv,VG⟩:=(W9.T (E:=Uo) (λa f=>by simp at f;subst f;rw[Ud _ Zo,g6 _ Zo Zo])).append (j:=gv) (o:=1) Zd (hx go (dl _) rfl 1) rfl Zd rfl Zs Zo (λa f=>by simp at f;omega)
       refine eX Xa ?_
       obtain⟨UL,UM,_⟩:=Go.S.dc.one WD
       have Ux:J X VX G=zy [.slice b9 0 1 1, .az, .Z (at_:Int), .ptr bq 0] 4:=by rw[VG _ Zo Zx,Ud _ Zo,g6 _ Zo Zo];exact UV
       refine bl ⟨?_⟩
       refine cD (kt Ux Zo Zo UL UM) ?_
       refine bl ⟨?_⟩
       have UD:∀a,a<nm->a≠j->a≠G->a≠b9->J X (aS X VX G (some (.cells ((I.ofList [.slice b9 0 1 1, .az, .Z (at_:Int), .ptr bq 0] 0 .nil).set 0 (some VV)) 4 .own))) a=J X T9 a:=λa f p x O=>by
        rw[aY Zo x,VG a Zo Zx,Ud a Zo,g6 a f p]
       refine Vx _ _ _ ⟨VV,[U4,UO],Wo,_,an C,an t5,an v,an T2,an T7,an t9,aK,Zo,bb Zo,dJ.set (dl [.slice b9 0 1 1, .az, .Z (at_:Int), .ptr bq 0]) Zs VV, .inl (WD.T λa f=>aY Zo (λl=> ?_)),Zs,λa f=> ?_,λw U3=> ?_,Vp.T λa f=> ?_,XQ.T ?_,λa f p=>by rw[UD a Zo p Zo Zo,WL a f p]⟩
       ·rcases Vv a f with e|e
        ·omega
        ·simp at e;omega
       ·rcases Vv a f with rfl|e
        ·exact⟨Zo,Zo,Zo,Zo⟩
        ·simp at e;subst e;exact⟨Zo,Zo,Zo,Zo⟩
       ·simp at U3;rcases U3 with rfl|rfl
        ·exact WF
        ·exact μ
       ·have:=f.1;have:=f.2
        exact UD a Zo Zo Zo Zo
       ·rw[aY Zo Zo,VG _ Zo Zx,Ud _ Zo]
      ·have Uv:decide ((VS:Int)=1)=false:=by simp only[Zb];exact x
       refine bG @Uv ⟨?_⟩
       exact Vx _ _ _ ⟨.slice b9 0 1 1,[U4],[b9],_,an C,an t5,an v,an T2,an T7,an t9,aK,Zp _,UV,dl _,W9,Zs,λa f=>by simp at f;subst f;exact⟨Zo,Zo,Zo,Zo⟩,λw U3=>by simp at U3;subst U3;exact WF,Vp,Vn,WL⟩
     ·clear C t5 v T2 T7 t9
      rintro jas UG T0 ⟨ax,left,Uq,jax,C,t5,v,T2,T7,t9,jam,jaV,Ux,Xg,VJ,jaT,Xd,Xy,XX,XR,UD⟩
      obtain⟨b,Ua⟩:=VJ.qr (P:=λa=>((cL<a/\a<T0)/\bW<=a/\a≠T0+1)/\(if t0<=a/\a<UE then 0 else 1)=1) Zx (λa f=>by have:=Xd a f;exact⟨⟨⟨Zo,Zo⟩,Zo,Zo⟩,Zj this.2.2.2⟩)
      rw[YH]at Ua
      have Ua:ci X UG _ b ax 1 (dt left):=Ua
      have jaW:T0<T0+1+1:=Zo
      have Xw:=rQ Ux Xg rfl
      obtain⟨Wg,jaj,jak,jal,jai,Wj,Wk,Wl,VZ,eqs,Wc,UU,WG,WH,WI,Va,Vb,jaa,jab,jac,jad,TZ,jae,Wd,jaf,jag,jah⟩:=U9.ex
      have σ:W X UG (.ptr cL 5)=some jai:=by rw[b0,UD cL Zo Zo,Va];exact Vb 5
      obtain⟨jbn,ο⟩:=cX.HF VJ
      have W3:=pB ο (at_:Int) (.ptr bq 0) rfl
      refine cz @T7 @σ @jam ⟨?_⟩
      refine cD Xw ?_
      obtain⟨jay,_,_⟩:=cX.same VJ
      have η:dC 1 [.az, .az, .Z 0, .bC] [(0,4, .agg [ax, .az, .Z (at_:Int), .ptr bq 0])] T0=some (.slice T0 0 1 1, .cells (I.ofList [ax, .az, .Z (at_:Int), .ptr bq 0] 0 .nil) 4 .own):=by
       simp[dC,gH,gI,e5,y.cells]
      refine cD η ?_
      refine bl ⟨?_⟩
      generalize VB:aS X UG T0 _=US
      have X9:J X US T0=zy [ax, .az, .Z (at_:Int), .ptr bq 0] 4:=by rw[<-VB,bb Zo]
      have WR:∀a,a<T0->J X US a=J X UG a:=λa f=>by rw[<-VB,aY Zo Zo]
      clear VB
      have ξ:=iz (rows:=Wc) (ap:=4) (λr M=>(Wd r M).1)
      have WO:∀a,a<bW->a≠j->J X US a=J X T6 a:=λa f p=>by rw[WR a Zo,UD a f p]
      obtain⟨VU,Up,Wn,Xb,WA,Vs,Vy⟩:=(jad.T (E:=US) (λa f=>by have:=TZ a f;exact WO a Zo Zo)).append (j:=T0+1) (o:=1) Zd (hx X9 (dl _) rfl 1) rfl Zd W3 (by rw[ξ];simp;omega) Zo (λa f=>zu (TZ a f))
      refine eX Xb ?_
      obtain⟨UL,UM,_⟩:=Go.S.dc.one WA
      have X6:J X Up cL=some (.cells VZ 6 .own):=by rw[Vy _ Zo (λe=>zu (TZ _ e)),WO _ Zo Zo];exact Va
      refine bG @T7 ⟨?_⟩
      refine cD (kt X6 Zo Zo UL UM) ?_
      generalize VC:aS X Up cL _=UT
      have XB:J X UT cL=some (.cells (VZ.set 5 (some VU)) 6 .own):=by rw[<-VC,bb Zo]
      have WS:∀a,a≠cL->J X UT a=J X Up a:=λa f=>by rw[<-VC,aY Zo f]
      clear VC
      have Ue:∀a,a<T0->a≠cL->a∉UU->J X UT a=J X UG a:=λa f x O=>by rw[WS a x,Vy a Zo O,WR a f]
      have UK:∀a,a<bW->a≠j->a≠cL->a∉UU->J X UT a=J X T6 a:=λa f p x O=>by rw[Ue a Zo x O,UD a f p]
      have UY:∀a,Wg a≠4->a∉UU:=λa f e=>f (TZ a e).2.2
      refine cn @t9 @Wv ⟨?_⟩
      refine⟨Z,Zo,o+1,Zo,an C,an t5,an v,an T2,an T7,aK,⟨⟨WT,WU,WV,WW,WX,Zo⟩,λa=>if a<bW then Wg a else if a=T0+1 then 4 else 5+o,jaj,jak,jal,VU,Wj,Wk,Wl,_,eqs++[⟨left,at_, .ptr bq 0⟩],Wc++[[ax, .az, .Z (at_:Int), .ptr bq 0]],Wn,λa f=>(Zv Zo).trans (WG a f),λa x O=>(Zv Zo).trans (WH a x O),λa x O=>(Zv Zo).trans (WI a x O),XB,dJ.set Vb Zs VU,jaa.T λa f=>UK a Zo Zo Zo (UY a (by rw[WG a f.2];decide)),jab.T λa f=>UK a Zo Zo Zo (UY a (by rw[WH a f.1 f.2];decide)),jac.T λa f=>UK a Zo Zo Zo (UY a (by rw[WI a f.1 f.2];decide)), ?_,λa f=> ?_,Zx,λr M=> ?_,Zx,λL UA w U3=> ?_,λH ω VT UB T4=> ?_⟩,XR.T ?_,λa f p=> ?_⟩
      ·rw[YG]
       have:([[ax, .az, .Z (at_:Int), .ptr bq 0]]:List (List y)).flatten=[ax, .az, .Z (at_:Int), .ptr bq 0]:=by simp
       rw[this]
       exact .inl (WA.T λa f=>WS a (λl=>by
        rcases Vs a f with e|e
        ·omega
        ·have:=TZ a e;omega))
      ·rcases Vs a f with rfl|e
       ·exact⟨Zo,Zo,(Zj Zo).trans (Zv rfl)⟩
       ·have:=TZ a e
        exact⟨Zo,Zo,(Zv Zo).trans this.2.2⟩
      ·rcases Zr.1 M with M|M
       ·exact Wd r M
       ·simp at M;subst M;exact⟨rfl,W3⟩
      ·rcases Zr.1 UA with UA|UA
       ·exact jag L UA w U3
       ·simp at UA;subst UA;exact Xy w U3
      ·by_cases VD:H<eqs.length
       ·rw[ZA VD]at UB
        rw[ZA Zo]at T4
        refine(jah H ω VT UB T4).to (λa f=>UK a Zo Zo Zo (UY a Zo)) (λa f=>⟨Zo,(Zv Zo).trans f.2⟩) λa f=>Zo
       ·have VF:=(Zf.1 UB).1
        simp at VF
        have VE:H=eqs.length:=Zo
        subst VE
        rw[Zy (Zp _),YV]at UB
        rw[Zy Zo,jae,YV]at T4
        simp at UB T4
        subst UB T4
        have W2:∀a,bW<=a->a∉UU:=λa f e=>zu (TZ a e)
        rw[jaf]
        refine⟨λa=>if t0<=a/\a<UE then 0 else 1,ax,b,rfl, ?_, ?_⟩
        ·exact(Ua.T λa f=>Ue a Zo Zo (W2 a Zo)).lift λa f=>⟨⟨Zo,(Zj Zo).trans (Zj Zo)⟩,f.2⟩
        ·refine XX.to (λa f=>by have:=f.1;have:=f.2;exact Ue a Zo Zo (W2 a Zo)) (λa f=> ?_) (λa f=>Zo)|>.lift (λ_ e=>e) (λa f=>Zo) Zo
         have:=f.1
         have:=f.2
         exact⟨⟨⟨Zo,Zo⟩,(Zj Zo).trans (Zj Zo)⟩,Zv ⟨f.1,f.2⟩⟩
      ·exact Ue _ Zo Zo (λe=>zu (TZ _ e))
      ·rw[UK a Zo p Zo (λe=>zu (TZ _ e)),UC a f p]
   ·rintro Wi T6 ne ⟨o,Xr,C,t5,v,T2,T7,U9,UX,UC⟩
    obtain⟨WT,WU,WV,WW,WX,ρ⟩:=U9.le
    obtain⟨g,Uh,Ui,Uk,Ug,jaw,Xl,X0,X1,β,XV⟩:=U9.done Xr ζ Xq ⟨U8,ty,rfl,Xs⟩ Xt ⟨Zo,Zx,Zo⟩
    have W4:J X T6 (j+1)=some (.cells Uf 1 .own):=by rw[UC _ Zo Zo];exact UI
    have τ:W X T6 (.ptr (j+1) 0)=some ax:=by rw[ba W4];exact UJ
    have Xv:=rQ X0 X1 rfl
    refine cz @v @T7 @τ ⟨?_⟩
    refine cD Xv ?_
    refine bl ⟨?_⟩
    generalize V6:aS X T6 (ne+6) _=U6
    have Wy:J X U6 (ne+6)=zy [.str s, .Z 0,Uh,Ui,Uk,Ug] 6:=by rw[<-V6,bb Zo]
    have VO:∀a,a≠ne+6->J X U6 a=J X T6 a:=λa f=>by rw[<-V6,aY Zo f]
    clear V6
    have ν:=iz T3.wd
    have U2:=T3.aJ
    have Xk:=T3.len
    obtain⟨We,U7,Wm,XZ,WB,Vt,W0⟩:=(T3.ii.T (E:=U6) (λa f=>by have:=U2 a f;rw[VO a Zo,UC a Zo Zo])).append (j:=ne+11) (o:=1) Zd (hx Wy (dl _) rfl 1) rfl Zd β (by rw[ν];simp;omega) Zo (λa f=>zu (U2 a f))
    refine eX XZ ?_
    obtain⟨UL,UM,_⟩:=Go.S.dc.one WB
    have X8:J X U7 (j+1)=some (.cells Uf 1 .own):=by rw[W0 _ Zo (λe=>zu (U2 _ e)),VO _ Zo];exact W4
    refine bl ⟨?_⟩
    refine cD (kt X8 Zo Zo UL UM) ?_
    generalize V8:aS X U7 (j+1) _=UF
    have X2:J X UF (j+1)=some (.cells (Uf.set 0 (some We)) 1 .own):=by rw[<-V8,bb Zo]
    have WQ:∀a,a≠j+1->J X UF a=J X U7 a:=λa f=>by rw[<-V8,aY Zo f]
    clear V8
    have VP:∀a,a≠j+1->a≠ne+6->a≠ne+11->a∉aJ->J X UF a=J X T6 a:=λa x O XC XD=>by rw[WQ a x,W0 a XC XD,VO a O]
    refine cn @T2 @Uu ⟨?_⟩
    refine⟨m-1,Zo,i+1,λa=>if a<T5 then R a else if a=ne+11 then 1 else 2+i,We,U++[g],rows++[[.str s, .Z 0,Uh,Ui,Uk,Ug]],Wm,_,an C,an t5,an v,aK,Zo,Zx,Zo,⟨Zo, ?_,λa f=> ?_,λr M=> ?_,Zx,Zx,λH Uw VT gp T4=> ?_,λUw gp=> ?_⟩,UX.T (VP j Zo Zo Zo (λe=>zu (U2 _ e))),X2,by rw[I.gn,Zv rfl]⟩
    ·rw[YG]
     have:([[.str s, .Z 0,Uh,Ui,Uk,Ug]]:List (List y)).flatten=[.str s, .Z 0,Uh,Ui,Uk,Ug]:=by simp
     rw[this]
     exact .inl (WB.T λa f=>WQ a (λl=>by
      rcases Vt a f with e|e
      ·omega
      ·have:=U2 a e;omega))
    ·rcases Vt a f with rfl|e
     ·exact⟨Zo,Zo,by rw[Zj Zo,Zv rfl]⟩
     ·have:=U2 a e
      exact⟨Zo,Zo,by rw[Zv this.2.1];exact this.2.2⟩
    ·rcases Zr.1 M with M|M
     ·exact T3.wd r M
     ·simp at M;subst M;rfl
    ·by_cases VD:H<U.length
     ·rw[ZA VD]at gp
      rw[ZA Zo]at T4
      refine(T3.jD H Uw VT gp T4).to (λa f=> ?_) (λa f=>⟨f.1,Zo,by rw[Zv f.2.1];exact f.2.2⟩) λa f=>Zo
      rw[VP a Zo Zo Zo (λe=>zu (U2 a e)),UC a Zo Zo]
     ·have VF:=(Zf.1 gp).1
      simp at VF
      have VE:H=U.length:=Zo
      subst VE
      rw[Zy (Zp _),YV]at gp
      rw[Zy Zo,Xk,YV]at T4
      simp at gp T4
      subst gp T4
      refine XV.to (λa f=>VP a Zo Zo Zo (λe=>zu (U2 a e))) (λa f=>⟨Zo,Zo,by rw[Zj Zo,Zj Zo,UZ]⟩) λa f=>Zo
    ·rcases Zr.1 gp with gp|gp
     ·exact T3.ok Uw gp
     ·simp at gp;subst gp;exact Xl
  ·have U5:decide ((i:Int)<=(VQ:Int))=false:=by simp only[Zb];exact Vw
   refine bG @U5 ⟨?_⟩
   refine Xo _ _ _ ⟨R,ax,U,rows,aJ,Uf,an C,an t5,an v,λl=>by subst l;simp at UZ;omega,Zo, ?_,Vm,by rw[VL _ Zo Zo];exact UI,UJ⟩
   have U0:=T3.T (E:=Ul) λa aH aZ=>VL a aZ Zo
   exact⟨U0.aP,U0.ii,λa f=>zu (U0.aJ a f),U0.wd,U0.len,U0.ee,λH g row Xi M=>(U0.jD H g row Xi M).to (λ_ _=>rfl) (λa f=>Zo) λa f=>Zo,U0.ok⟩
 ·rintro B aO aR ⟨R,ax,U,rows,aJ,c,C,t5,v,Xj,jaF,T3,V2,UI,UJ⟩
  show Q _ _
  by_cases WE:(0:Int)<(T1:Int)
  ·have U5:decide ((0:Int)<(T1:Int))=true:=by simp only[Zc];exact WE
   have Uu:iS .i64 (.int .u8 (T1:Int))=some (.Z (T1:Int)):=xo Zo Zo
   refine de @C @U5 @v @t5 @Uu ⟨?_⟩
   refine(Kv z V2 T3 (bX:=j+1) Zo Zo Zo (j:=aR) Zo Zo Xj Zo ⟨c,UI,UJ⟩ θ).Zm ?_
   rintro jan Ul Wa ⟨⟨XA,XW,UZ,Xm⟩,jaU⟩
   refine bG @v ⟨?_⟩
   exact⟨⟨XA,XW.T (λ_ _=>rfl) (λa f=>by rcases f with rfl|f<;>omega),UZ,Xm⟩,Zo⟩
  ·have U5:decide ((0:Int)<(T1:Int))=false:=by simp only[Zb];exact WE
   refine cz @C @U5 @v ⟨?_⟩
   exact⟨T3.made (λa aH aZ=>Zo) Zo (by rw[ba UI];exact UJ),Zo⟩
end
section
variable{X:bU}{h E cH ay aO:I ae}{j ar aL aR bz:Nat}{bp d2 P:Nat->Prop}
def I4(b:Nat):ce X h .eql 59 true (.ptr b 0) .bC=some .zF:=Zk
def Ad:ce X h .eql 59 true .bC .bC=some .zT:=Zk
def uD(T0:dX X){b:Nat}{ax:y}{ds:List bx}(U0:(u X).aP<=j)(v:ci X h P b ax 8 (ds.map bP))(T1:∀a,P a->a<j)(U3:ds.length<=1000):
 aN X 21 [ax] h j (λN E ar=>∃aJ,cX X E N 8 (ds.map bP).flatten aJ/\(∀a∈aJ,j<=a/\a<ar)/\a1 X h j E ar) zG:=by
 refine zB T0 (Cg X) ?_
 rw[Ch]
 unfold vX
 have t:=v.len
 rw[Zn]at t
 refine bl ⟨?_⟩
 refine cQ (λm B E aj=>∃(H:Nat) (s:y) (aJ:List Nat),B.g 0=some ax/\B.g 3=some s/\B.g 4=some (.Z (H:Int))/\H+m=ds.length/\cX X E s 8 ((ds.take H).map bP).flatten aJ/\(∀a∈aJ,j<=a/\a<aj)/\a1 X h j E aj)
  ds.length ⟨0, .az,[],aK,aK,cA,Zo, .inl (.inl ⟨rfl,rfl,rfl⟩),Zs,a1.refl _ _⟩ ?_
 rintro m B ay aL ⟨H,s,aJ,t0,t3,t4,U1,w,f,g⟩
 have U2:=g.le
 cases m with
 |zero=>
  have d:=zv H ds.length
  rw[Zt Zo]at w
  refine de @t4 @t0 @t @d @t3 ⟨?_⟩
  exact⟨aJ,w,f,g⟩
 |succ m=>
  have O:=zw H ds.length
  have Y:=zz H
  obtain⟨d,x⟩:=zx ds H
  have T6:=v.cT H (by rw[Zn];omega)
  have z:=(v.T (λa c=>g.T a (T1 a c))).row (i:=H) (r:=bP d) Zd (by rw[Zw,x];rfl)
  have T4:bP d=[.str d.name, .Z d.at_, .bool d.ty.b, .bool d.ty.s, .Z d.ty.w, .str d.on, .Z d.di, .bool d.no]:=rfl
  rw[T4]at z
  refine bs @t4 @t0 @t @O @t3 @T6 @z ⟨?_⟩
  generalize p:aS X ay aL _=n
  have Z:J X n aL=zy (bP d) 8:=by rw[<-p,bb Zo];rfl
  have C:∀a,a<aL->J X n a=J X ay a:=λa c=>by rw[<-p,aY Zo Zo]
  clear p
  have T5:=tw (ds.take H)
  have T9:(ds.take H).length=H:=by rw[Yq];omega
  obtain⟨TY,TZ,G,T2,T8,T3,T7⟩:=(w.T (E:=n) (λa c=>C a (f a c).2)).append (j:=aL+1) (o:=1) Zd (hx Z (dl _) rfl 1) rfl Zd rfl (by rw[T5,T9];simp[bP];omega) Zo (λa c=>zu (f a c))
  refine eX T2 ?_
  refine cn @t4 @Y ⟨?_⟩
  refine⟨m,Zo,H+1,TY,G,an t0,aK,aK,Zo,by rw[ZG,x,zk,tx];exact .inl T8,λa c=> ?_,Zo,λa c=> ?_⟩
  ·rcases T3 a c with rfl|c
   ·omega
   ·have:=f a c;omega
  ·rw[T7 a Zo (λe=>zu (f a e)),C a Zo,g.T a c]
def du.snoc{C:aC}{h:I ae}{P:Nat->Prop}{l:bk}{v:y}(c:bT C h P l v):∀{am:List bk}{aE:List y},du C h P am aE->du C h P (am++[l]) (aE++[v]):=by
 intro am
 induction am with
 |nil=>intro aE e;unfold du at e;subst e;show du C h P [l] [v];unfold du;exact⟨v,[],rfl,c,by unfold du;rfl⟩
 |cons a k V=>
  intro aE e
  unfold du at e
  obtain⟨w,b,rfl,d,f⟩:=e
  show du C h P (a::(k++[l])) (w::(b++[v]))
  unfold du
  exact⟨w,b++[v],rfl,d,V f⟩
def bT.val{C:aC}{h:I ae}{P:Nat->Prop}{l:bk}{v:y}(e:bT C h P l v):v.cells=[v]/\d9 v=true/\(v= .bC\/∃b,v= .ptr b 0):=by
 by_cases a:l.kind= -1
 ·rw[e.nil a];exact⟨rfl,rfl, .inl rfl⟩
 ·obtain⟨b,_,_,_,rfl,_⟩:=e.root a
  exact⟨rfl,rfl, .inr ⟨b,rfl⟩⟩
def IB(UM:dX X):∀(bW:Nat) (l:bk),SizeOf.sizeOf l<bW->∀(h:I ae) (j:Nat) (P:Nat->Prop) (v:y),(u X).aP<=j->bT X h P l v->(∀f,P f->f<j)->
 aN X 22 [v] h j (λN E ar=>bT X E (dm j ar) l N/\a1 X h j E ar) zG:=by
 intro bW
 induction bW with
 |zero=>intro l e;omega
 |succ bW V=>
  intro l Uf h j P v Ue U6 T5
  refine zB UM (Ci X) ?_
  rw[Cj]
  unfold vY
  by_cases C:l.kind= -1
  ·rw[U6.nil C]
   refine bG @Ad ⟨?_⟩
   refine⟨?_,a1.refl _ _⟩
   cases l with
   |mk o a nm no t n args=>unfold bT;exact .inl ⟨C,rfl⟩
  ·obtain⟨b,ax,bO,aE,rfl,ab,a0,aH,aZ,a3,a4,a5,dY,d3,dE,U0,has⟩:=U6.root C
   have UP:=T5 b ab
   have O:=U0.len
   have UU:=has.len
   have U7:=U0.many
   rw[Zn]at O U7
   rw[UU]at O U7
   refine bs @I4 @a0 @aH @aZ @a3 @a4 (Za @a5 (Za @dY @d3)) ⟨?_⟩
   generalize T6:aS X h (j+25) _=ay
   have U5:J X ay (j+25)=zy (c5 l.kind l.at_ l.name l.no l.ty l.n .az) 9:=by rw[<-T6,bb Zo];rfl
   have bf:∀f,f≠j+25->J X ay f=J X h f:=λf g=>by rw[<-T6,aY Zo g]
   clear T6
   refine cQ (λm B E aj=>∃(H:Nat) (s:y) (T0:List y) (aJ:List Nat) (c:I y),B.g 0=some (.ptr b 0)/\B.g 3=some (.ptr (j+25) 0)/\B.g 4=some (.Z (H:Int))/\H+m=l.args.length/\j+27<=aj/\J X E (j+25)=some (.cells c 9 .own)/\dJ c (c5 l.kind l.at_ l.name l.no l.ty l.n s)
    /\cX X E s 1 T0 aJ/\(∀f∈aJ,j+27<=f/\f<aj)/\du X E (λf=>(j+27<=f/\f<aj)/\f∉aJ) (l.args.take H) T0/\a1 X h j E aj)
    l.args.length ⟨0, .az,[],[],_,aK,aK,cA,Zo,Zp _,U5,dl _, .inl (.inl ⟨rfl,rfl,rfl⟩),Zs,by show du _ _ _ [] [];unfold du;rfl,Zo,λf g=>bf f Zo⟩ ?_
   clear U5 bf
   rintro m B aO aR ⟨H,s,T0,aJ,c,t0,t3,t4,Ug,Uj,T3,TZ,U1,p,x,r⟩
   have Uh:=r.le
   have UD:W X aO (.ptr b 8)=some ax:=by rw[r.cZ _ _ UP];exact dE
   cases m with
   |zero=>
    have d:=zv H l.args.length
    rw[Zt Zo]at x
    refine dw @t4 @t0 @UD @O @d @t3 ⟨?_⟩
    refine⟨?_,r⟩
    obtain⟨Ud,UQ⟩:=U1.qr (P:=dm j aR) (by rw[x.len];omega) (λf g=>by have:=p f g;exact⟨Zo,Zo⟩)
    have:=bT.of (P:=dm j aR) C T3 (λi v UT=>by rw[TZ i];exact UT) ⟨Zo,Zo⟩ UQ (du.to (λ_ _=>rfl) (λf g=>⟨Zo,g.1.2⟩) _ _ x)
    cases l;exact this
   |succ m=>
    have d:=zw H l.args.length
    have UF:=zz H
    obtain⟨a,T9⟩:=zx l.args H
    obtain⟨w,UV,UO⟩:=has.get H a T9
    have UB:∀f,P f->J X aO f=J X h f:=λf g=>r.T f (T5 f g)
    obtain⟨Ua,Ub,Ul⟩:=(U0.T UB).one UV
    have UC:W X aO (.ptr (j+25) 8)=some s:=by rw[ba T3,TZ 8];rfl
    have Uk:=AL (Zg T9)
    refine bs @t4 @t0 @UD @O @d @t3 (Za @UC (Za @Ua @Ub)) ⟨?_⟩
    refine(V a Zo aO (aR+18) P w Zo (bT.to UB (λ_ e=>e) _ _ UO) (λf g=>zu (T5 f g))).Zm ?_
    rintro N T1 UE ⟨U9,T4⟩
    have Ui:=T4.le
    obtain⟨Un,Uc,US⟩:=bT.val U9
    have UR:dC 1 [.bC] [(0,1,N)] (aR+13)=some (.slice (aR+13) 0 1 1, .cells (I.ofList [N] 0 .nil) 1 .own):=by rcases US with rfl|⟨Um,rfl⟩<;>rfl
    refine cD UR ?_
    have UX:W X T1 (.ptr (j+25) 8)=some s:=by rw[T4.cZ _ _ Zo];exact UC
    refine bG @UX ⟨?_⟩
    refine fi (cX.same U1).2.2 ?_
    generalize T7:aS X T1 (aR+13) _=z
    have UG:J X z (aR+13)=zy [N] 1:=by rw[<-T7,bb Zo]
    have UA:∀f,f≠aR+13->J X z f=J X T1 f:=λf g=>by rw[<-T7,aY Zo g]
    clear T7
    have Y:∀f,f<aR->J X z f=J X aO f:=λf g=>by rw[UA f Zo,T4.T f Zo]
    have UW:=x.len
    obtain⟨U2,T2,U4,UN,U8,TY,G⟩:=(U1.T (E:=z) (λf g=>Y f (p f g).2)).append (j:=UE) (o:=1) Zd (hx UG (dl _) rfl 1) rfl Zd (by simp[Go.S.cR,Uc]) (by rw[UW,Yq];simp;omega) Zo (λf g=>zu (p f g))
    refine eX UN ?_
    obtain⟨UY,UZ,_⟩:=dc.one U8
    have UH:J X T2 (j+25)=some (.cells c 9 .own):=by rw[G _ Zo (λe=>zu (p _ e)),Y _ Zo];exact T3
    refine bl ⟨?_⟩
    refine cD (kt UH Zo Zo UY UZ) ?_
    generalize T8:aS X T2 (j+25) _=U3
    have UI:J X U3 (j+25)=some (.cells (c.set 8 (some U2)) 9 .own):=by rw[<-T8,bb Zo]
    have Z:∀f,f≠j+25->J X U3 f=J X T2 f:=λf g=>by rw[<-T8,aY Zo g]
    clear T8
    refine cn @t4 @UF ⟨?_⟩
    refine⟨m,Zo,H+1,U2,T0++[N],U4,_,an t0,an t3,aK,Zo,Zo,UI,dJ.set TZ (by simp[c5]) U2, .inl (U8.T λf g=>Z f (λl=> ?_)),λf g=> ?_, ?_,Zo,λf g=> ?_⟩
    ·rcases TY f g with e|e
     ·omega
     ·have:=p f e;omega
    ·rcases TY f g with rfl|e
     ·omega
     ·have:=p f e;omega
    ·rw[ZG,T9,zk]
     have ch:∀f,f∉aJ->f≠UE->f∉U4:=λf UJ UK UL=>by
      rcases TY f UL with e|e
      ·exact UK e
      ·exact UJ e
     refine du.snoc (bT.to (λf g=> ?_) (λf g=>⟨by have:=g.1;have:=g.2;omega,ch f (λe=>by have:=p f e;have:=g.1;omega) (zu g.2)⟩) _ _ U9) (du.to (λf g=> ?_) (λf g=>⟨Zo,ch f g.2 Zo⟩) _ _ x)
     ·have:=g.1
      have:=g.2
      rw[Z f Zo,G f Zo (λe=>zu (p f e)),UA f Zo]
     ·rw[Z f Zo,G f Zo g.2,Y f Zo]
    ·rw[Z f Zo,G f Zo (λe=>zu (p f e)),Y f Zo,r.T f g]
end
end
end Go.Proofs.YtmipngjbcdamjaaGreatDoor

