/- Part of the proof of the last text; no conditions -/
import Derived.Test.YtmipngjbcdamjaaGreatDoorYj
set_option maxHeartbeats 8000000
set_option linter.all false
namespace Go.Proofs.YtmipngjbcdamjaaGreatDoor
open Go.Q Go.a6
noncomputable section
section
variable{X:bQ}{S B cE ay aM:F ac}{nx nx' aG aL bw:Nat}{bm d0 P:Nat->Prop}
def dd.tP{aD c0:dQ->Prop}{D:Nat->Prop}{ar:Nat->Option dQ}{b5:Nat->Nat}(e:dd X S aD D ar b5)(r:∀d,aD d->c0 d){b:Nat}{d g:dQ}(Y:ar b=some d){c:F q}(s:H X B b=some (.cells c 9 .own))(K:dF c g.cells)
 (i:g.args=d.args)(v:g.au=d.au)(m:g.aH=d.aH)(k:∀a,D a->a≠b->H X B a=H X S a)(t:c0 g):dd X B c0 D (λa=>if a=b then some g else ar a) b5:=by
 have cf:∀a∈d.aH,a≠b:=λa f j=>by have:=(e.a8 b d Y a f).2;rw[j,Y]at this;cases this
 refine(e.qy r).set Y (λ_ e=>e) e.low ⟨c,s,K⟩ ?_ (λa f=> ?_) (λn e1=> ?_) (λa f p _=>k a f p) t
 ·rw[i,v,m]
  exact(e.arg b d Y).R λa f=>k a (e.a8 b d Y a f).1 (cf a f)
 ·rw[m]at f
  exact⟨(e.a8 b d Y a f).1,(e.a8 b d Y a f).2,cf a f, .inl f⟩
 ·rw[i]at e1
  exact e.fY b d n Y e1
def LJ(x a:Int):∃z:Int,ag .xor (.Z x) (.Z a)=some (.Z z):=by
 simp only[ag,fK,f0,fH,fm,fz,cO,ry]
 exact⟨_,rfl⟩
def dd.push{aD:dQ->Prop}{D:Nat->Prop}{ar:Nat->Option dQ}{b5:Nat->Nat}(e:dd X S aD D ar b5){j cJ:Nat}{d:dQ}(Y:ar j=some d){A:Option Nat}(T7:∀c,A=some c->ar c≠none/\b5 c<b5 j)
 (Z:H X S cJ=zy [m6 A] 1)(i:∀a,D a->a<nx)(C:(o X).aN<=nx)(ap:d.args.length<=1000):
 ∃(g:q) (ay:F ac) (c:F q),d1 X S nx 1 d.au (.slice cJ 0 1 1)=some (.cu g ay (nx+1))/\g.cells=[g]/\d5 g=true/\H X ay j=some (.cells c 9 .own)/\(∀a,a≠nx->¬D a->H X ay a=H X S a)
  /\∀(aM:F ac) (c0:dQ->Prop),H X aM j=some (.cells (c.set 8 (some g)) 9 .own)->(∀a,a≠j->H X aM a=H X ay a)->(∀d,aD d->c0 d)->(∀au aH,c0 {d with args:=d.args++[A],au:=au,aH:=aH})->
   ∃au aH,dd X aM c0 (λa=>D a\/a=nx) (λa=>if a=j then some {d with args:=d.args++[A],au:=au,aH:=aH}else ar a) b5:=by
 have T0:=e.arg j d Y
 have m:=e.a8 j d Y
 obtain⟨T1,O,T5,T6⟩:=e.cell j d Y
 have TZ:=i j T1
 have T8:Go.Q.cN [m6 A]=true:=by cases A<;>rfl
 obtain⟨g,ay,t,T4,G,w,r⟩:=T0.append (nx:=nx) (k:=1) Zd (hu Z (dj _) rfl 1) rfl Zd T8 Zx C (λa f=>i a (m a f).1)
 obtain⟨T9,TY,_⟩:=c9.one G
 have x:j∉d.aH:=λe=>by have:=(m j e).2;rw[Y]at this;cases this
 have z:j∉t:=λe=>by
  rcases w j e with e|e
  ·omega
  ·exact x e
 refine⟨g,ay,O,T4,T9,TY,by rw[r j Zo x];exact T5,λa n p=>r a n λe=>p (m a e).1,λaM c0 P bl T2 T3=>⟨g,t, ?_⟩⟩
 refine(e.qy T2).set (B:=aM) (b:=j) (d:=d) Y (λa f=> .inl f) (λa f=>by rcases f with f|rfl;exact e.low a f;exact C) ⟨_,P,λJ=> ?_⟩ (.inl ?_) (λa f=> ?_) (λv e1=> ?_) (λa f n p=> ?_) (T3 _ _)
 ·rw[F.gj]
  by_cases s:J=8
  ·subst s;rw[Zv rfl];rfl
  ·rw[Zj (λj=>s j.symm),T6 J]
   show d.cells[J]? =(c2 _ _ _ _ _ _ _)[J]?
   unfold dQ.cells c2
   match J with
   |0=>rfl
   |1=>rfl
   |2=>rfl
   |3=>rfl
   |4=>rfl
   |5=>rfl
   |6=>rfl
   |7=>rfl
   |8=>exact absurd rfl s
   |J+9=>rfl
 ·rw[YF]
  exact G.R λa f=>bl a (λe=>z (e▸f))
 ·rcases w a f with rfl|jp
  ·exact⟨.inr rfl,pE e (λe=>zu (i _ e)),Zo, .inr (λe=>zu (i _ e))⟩
  ·exact⟨.inl (m a jp).1,(m a jp).2,λe=>z (e▸f), .inl jp⟩
 ·rcases Zr.1 e1 with e1|e1
  ·exact e.fY j d v Y e1
  ·simp at e1
   exact T7 v e1.symm
 ·rw[bl a n,r a (zu (i a f)) p]
def hf.node{aC n bU:Nat}{M:Nat->Nat}{au:q}{T:List fu}{rows:List (List q)}{aH:List Nat}(e:hf X S aC n M au T rows aH){r bL:Nat}{ht:List q}{hk:Go.a6.Node}(K:r<rows.length)
 (z:∀a,aC<=a->a<n->M a≠1->M a≠2+r->H X B a=H X S a)(G:cg X B P bL au 6 (rows.set r ht))(w:fR X B P (bR X B P) hk ht)(x:h0 hk)
 (v:∀a,aC<=a->a<n->P a)(C:P bU)(O:W X B (.ptr bU 0)=some au):jd X B P (.ptr bU 0):=by
 obtain⟨s,d,t⟩:=yX (X:=X) (S:=B) (P:=P) (T:=T) (rows:=rows.set r ht) (by rw[YR];exact e.len) λi g row f b=>by
  rw[Yr]at b
  by_cases m:r=i
  ·subst m
   simp only[ZP,K]at b
   cases b
   exact⟨hk,w,x⟩
  ·rw[Zj m]at b
   obtain⟨p,aE,aW⟩:=(e.jA i g row f b).read (e.ok g (Zg f))
   exact⟨p,sS.to (λa c=>z a c.1 c.2.1 Zo Zo) (λa c=>v a c.1 c.2.1) aE,aW⟩
 exact⟨s,⟨bU,au,bL,_,rfl,C,O,G,d⟩,by have:=d.len;rw[YR]at this;have:=e.len;have:=e.ea;omega,t⟩
def sw{α:Type}{h:List α}{i:Nat}{x:α}(e:h[i]? =some x):h.set i x=h:=by
 obtain⟨a,rfl⟩:=Zf.1 e
 exact List.set_getElem_self a
def hf.eq{aC n bU:Nat}{M:Nat->Nat}{au:q}{T:List fu}{rows:List (List q)}{aH:List Nat}(e:hf X S aC n M au T rows aH){r:Nat}{g:fu}{dm:Nat->Nat}{bx bz C z:q}{b0 bb b4 c1:Nat}{x:List (List q)}
 (TY:T[r]? =some g)(K:rows[r]? =some [.str g.name, .Z 0,bx,bz,C,z])
 (G:en X S (λa=>(aC<=a/\a<n/\M a=2+r)/\dm a=1) b0 bx 8 (g.cj.map bO))(T1:en X S (λa=>(aC<=a/\a<n/\M a=2+r)/\dm a=2) bb bz 8 (g.out.map bO))(T2:en X S (λa=>(aC<=a/\a<n/\M a=2+r)/\dm a=3) b4 C 8 (g.loc.map bO))
 (T3:x.length=g.eqs.length)(T8:∀(i:Nat) J row,g.eqs[i]? =some J->x[i]? =some row->iJ X S (λa=>(aC<=a/\a<n/\M a=2+r)/\dm a=5+i) J row)
 {k:Nat}{J:mR}(T5:g.eqs[k]? =some J){ht:List q}{dw:dL}(m:∀a,aC<=a->a<n->¬(M a=2+r/\(dm a=4\/dm a=5+k))->H X B a=H X S a)
 (U2:cg X B P c1 z 4 (x.set k ht))(U1:jK X B P (bR X B P) dw ht)(ap:∀w∈dw.left,w∈J.left)(TZ:jO dw.right)
 (f:∀a,aC<=a->a<n->P a)(s:P bU)(U5:W X B (.ptr bU 0)=some au):jd X B P (.ptr bU 0):=by
 have c:=e.ok g (Zg TY)
 have U3:=(Zf.1 K).1
 obtain⟨bL,U4⟩:=e.ie.gM (P:=λa=>aC<=a/\a<n/\M a=1) Zd e.wd (by rw[e.len];have:=e.ea;omega) λa b=>e.aH a b
 obtain⟨ak,T0,T6⟩:=tC (X:=X) (S:=B) (bm:=P) (dc:=g.eqs) (rows:=x.set k ht) (by rw[YR];exact T3) λi p row s t=>by
  rw[Yr]at t
  by_cases T4:k=i
  ·subst T4
   rw[T5]at s
   cases s
   have U0:k<x.length:=by rw[T3];exact(Zf.1 T5).1
   simp only[ZP,U0]at t
   cases t
   exact⟨dw,U1,ap,TZ⟩
  ·rw[Zj T4]at t
   obtain⟨j,aE,aW⟩:=(T8 i p row s t).read
   exact⟨_,aE.to (λa b=>m a b.1.1 b.1.2.1 Zo) (λa b=>f a b.1.1 b.1.2.1) (λv=>bR.to (λa b=>m a b.1.1 b.1.2.1 Zo) (λa b=>f a b.1.1 b.1.2.1) _ _),λw U6=>U6,aW⟩
 have O:∀i,i≠4->i≠5+k->∀a,(aC<=a/\a<n/\M a=2+r)/\dm a=i->H X B a=H X S a:=λi ai U7 a b=>m a b.1.1 b.1.2.1 Zo
 have Z:∀i a,(aC<=a/\a<n/\M a=2+r)/\dm a=i->P a:=λi a b=>f a b.1.1 b.1.2.1
 refine e.node (r:=r) (bL:=bL) (ht:=[.str g.name, .Z 0,bx,bz,C,z]) (hk:=⟨g.name,0,g.cj,g.out,g.loc,ak⟩) U3 (λa T7 G T1 T2=>m a T7 G Zo) (by rw[sw K];exact(U4.R λa b=>m a b.1 b.2.1 Zo).lift λa b=>f a b.1 b.2.1)
  ⟨bx,bz,C,z,b0,bb,b4,c1,_,rfl,(G.rd.R (O 1 Zd Zo)).lift (Z _),(T1.rd.R (O 2 Zd Zo)).lift (Z _),(T2.rd.R (O 3 Zd Zo)).lift (Z _),U2,T0⟩
  (rG c (ln _ c.nm) c.ql (λd T9=>(c.loc d T9).g1) T6 ⟨zu c.an.2.1,zu c.an.2.2,by have:=T0.len;rw[YR]at this;have:=c.ea;omega⟩ λ_=>c.y7) f s U5
def jP.parts{g:fu}{row:List q}{dm:Nat->Nat}{c:List (List q)}(d:∀a,bm a->P a)(x:kz g)
 (m:c.length=g.eqs.length)(n:∀(i:Nat) J row,g.eqs[i]? =some J->c[i]? =some row->iJ X S (λa=>bm a/\dm a=5+i) J row)(f:∀a,bm a->dm a≠2->H X B a=H X S a):
 ∃ak:List dL,ga X B P (bR X B P) ak c/\∀dw∈ak,jO dw.right/\∃J∈g.eqs,∀w∈dw.left,w∈J.left:=
 tC m λi p row r s=>by
  obtain⟨j,aE,aW⟩:=(n i p row r s).read
  exact⟨_,aE.to (λa b=>f a b.1 Zo) (λa b=>d a b.1) (λv=>bR.to (λa b=>f a b.1 Zo) (λa b=>d a b.1) _ _),λw t=>t,aW⟩
end
def ps:bv:=⟨[],0,ck,[],0,false⟩
def JD(n:Nat):ew n (bO ps)=((List.replicate n ps).map bO).flatten:=by
 induction n with
 |zero=>rfl
 |succ n U=>rw[List.replicate_succ,ZS,Z9, <-U];rfl
section
variable{X:bQ}{S B cE ay aM:F ac}{nx nx' aG aL bw:Nat}{bm d0 P:Nat->Prop}
def Il(d:(o X).aN<=nx):uu X S nx 8 [.str [], .Z 0, .zF, .zF, .Z 0, .str [], .Z 0, .zF] (.Z 300) (.Z 300)=some (.cu (.slice nx 0 300 300) (aP X S nx (zy ((List.replicate 300 ps).map bO).flatten (300*8))) (nx+1)):=by
 rw[<-JD]
 have a:f1 (.Z 300)=some 300:=rfl
 have b:Nat.ble 300 1048576=true:=rfl
 have c:Nat.ble 300 300=true:=rfl
 simp only[uu,a,b,c,Yi,cO,gp,fX,dB]
 rfl
def Kj{h:List bv}{i E:Nat}{d a:bv}{v:q}(e:(bO d).set E v=bO a):(h.map bO).set i ((bO d).set E v)=(h.set i a).map bO:=by
 rw[e,List.map_set]
def hf.I1{aC n bU:Nat}{M:Nat->Nat}{au:q}{T:List fu}{rows:List (List q)}{aH:List Nat}(e:hf X S aC n M au T rows aH){r:Nat}{g:fu}{dm:Nat->Nat}{bx bz t s:q}{b0 bb b4 c1:Nat}{C:List (List q)}
 (T9:T[r]? =some g)(K:rows[r]? =some [.str g.name, .Z 0,bx,bz,t,s])
 (T2:en X S (λa=>(aC<=a/\a<n/\M a=2+r)/\dm a=1) b0 bx 8 (g.cj.map bO))(T3:en X S (λa=>(aC<=a/\a<n/\M a=2+r)/\dm a=2) bb bz 8 (g.out.map bO))(T4:en X S (λa=>(aC<=a/\a<n/\M a=2+r)/\dm a=3) b4 t 8 (g.loc.map bO))
 (T5:en X S (λa=>(aC<=a/\a<n/\M a=2+r)/\dm a=4) c1 s 4 C)(T6:C.length=g.eqs.length)(T7:∀(i:Nat) J row,g.eqs[i]? =some J->C[i]? =some row->iJ X S (λa=>(aC<=a/\a<n/\M a=2+r)/\dm a=5+i) J row)
 {i E:Nat}{d c:bv}{v:q}(ai:g.out[i]? =some d)(TZ:E<8)(w:(bO d).set E v=bO c)(U7:v.cells=[v])(T1:d5 v=true)(U0:iq c)(Y:ja c->c.name=gt)
 (m:∀a,aC<=a->a<n->P a)(U3:P bU)(UA:bU<aC)(U6:W X S (.ptr bU 0)=some au):
 ∃B,bj X S 1 (.ptr bb (i*8+E)) v=some B/\jd X B P (.ptr bU 0)/\∀a,¬(aC<=a/\a<n)->H X B a=H X S a:=by
 have f:=e.ok g (Zg T9)
 have U4:=(Zf.1 K).1
 have TY:=(Zf.1 ai).1
 obtain⟨bL,U5⟩:=e.ie.gM (P:=λa=>aC<=a/\a<n/\M a=1) Zd e.wd (by rw[e.len];have:=e.ea;omega) λa b=>e.aH a b
 obtain⟨B,U8,Z,U9⟩:=T3.store (i:=i) (E:=E) (r:=bO d) (by rw[Zw,ai];rfl) TZ U7 T1
 rw[Kj w]at Z
 have bc:∀a,¬((aC<=a/\a<n/\M a=2+r)/\dm a=2)->H X B a=H X S a:=U9
 have p:∀i a,(aC<=a/\a<n/\M a=2+r)/\dm a=i->P a:=λi a b=>m a b.1.1 b.1.2.1
 obtain⟨ak,G,T0⟩:=jP.parts (B:=B) (P:=P) (row:=[]) (dm:=dm) (λa b=>m a b.1 b.2.1) f T6 T7 λa b U2=>bc a λe=>U2 e.2
 have U1:∀x∈g.out.set i c,iq x:=λx z=>by
  rcases YP z with z|rfl
  ·exact f.ql x z
  ·exact U0
 have O:c∈g.out.set i c:=List.mem_set TY c
 refine⟨B,U8,e.node (r:=r) (bL:=bL) (ht:=[.str g.name, .Z 0,bx,bz,t,s]) (hk:=⟨g.name,0,g.cj,g.out.set i c,g.loc,ak⟩) U4 (λa aE aW a3 a4=>bc a Zo) (by rw[sw K];exact(U5.R λa b=>bc a Zo).lift λa b=>m a b.1 b.2.1)
  ⟨bx,bz,t,s,b0,bb,b4,c1,_,rfl,(T2.rd.R λa b=>bc a Zo).lift (p _),Z.rd.lift (p _),(T4.rd.R λa b=>bc a Zo).lift (p _),(T5.rd.R λa b=>bc a Zo).lift (p _),G⟩
  (rG f (ln _ f.nm) U1 (λd w=>(f.loc d w).g1) T0 ⟨by rw[YR];have:=f.an.2.1;omega,zu f.an.2.2,by have:=G.len;have:=f.ea;omega⟩ λT8=>⟨c,O,Y (T8.decl c (ZQ _ (Z2 _ O)))⟩) m U3 (zF (bc bU Zo) U6),λa b=>bc a Zo⟩
def hf.uW{aC n bU:Nat}{M:Nat->Nat}{au:q}{T:List fu}{rows:List (List q)}{aH:List Nat}(e:hf X S aC n M au T rows aH){r:Nat}{g:fu}{dm:Nat->Nat}{bx bz C c:q}{b0 c1 bL:Nat}{p:List (List q)}
 (U1:en X S (λa=>aC<=a/\a<n/\M a=1) bL au 6 rows)(T5:T[r]? =some g)(K:rows[r]? =some [.str g.name, .Z 0,bx,bz,C,c])
 (Z:en X S (λa=>(aC<=a/\a<n/\M a=2+r)/\dm a=1) b0 bx 8 (g.cj.map bO))(T0:en X S (λa=>(aC<=a/\a<n/\M a=2+r)/\dm a=4) c1 c 4 p)(T1:p.length=g.eqs.length)(T2:∀(i:Nat) J row,g.eqs[i]? =some J->p[i]? =some row->iJ X S (λa=>(aC<=a/\a<n/\M a=2+r)/\dm a=5+i) J row)
 {E:Nat}{v s t:q}{nm:aT}{out loc:List bv}{bb b4:Nat}(T6:E<6)(T3:([.str g.name, .Z 0,bx,bz,C,c]:List q).set E v=[.str nm, .Z 0,bx,s,t,c])(U3:v.cells=[v])(O:d5 v=true)
 (TY:cg X S (λa=>P a/\¬(aC<=a/\a<n/\M a=1)) bb s 8 (out.map bO))(ap:cg X S (λa=>P a/\¬(aC<=a/\a<n/\M a=1)) b4 t 8 (loc.map bO))(T9:nm∈ek)(T8:∀d∈out,iq d)(T7:∀d∈loc,iq d)
 (U5:out.length<=1000)(U4:loc.length<=1000)(Y:∀ak,hA ⟨nm,0,g.cj,out,loc,ak⟩->False)
 (f:∀a,aC<=a->a<n->P a)(TZ:P bU)(U9:bU<aC)(U2:W X S (.ptr bU 0)=some au):
 ∃B,bj X S 1 (.ptr bL (r*6+E)) v=some B/\jd X B P (.ptr bU 0)/\∀a,¬(aC<=a/\a<n)->H X B a=H X S a:=by
 have m:=e.ok g (Zg T5)
 have U0:=(Zf.1 K).1
 obtain⟨B,U6,z,U7⟩:=U1.store (i:=r) (E:=E) K T6 U3 O
 rw[T3]at z
 have bc:∀a,¬(aC<=a/\a<n/\M a=1)->H X B a=H X S a:=U7
 have x:∀i a,(aC<=a/\a<n/\M a=2+r)/\dm a=i->P a:=λi a b=>f a b.1.1 b.1.2.1
 obtain⟨ak,w,G⟩:=jP.parts (B:=B) (P:=P) (row:=[]) (dm:=dm) (λa b=>f a b.1 b.2.1) m T1 T2 λa b U8=>bc a Zo
 exact⟨B,U6,e.node (r:=r) (bL:=bL) (hk:=⟨nm,0,g.cj,out,loc,ak⟩) U0 (λa aE aW a3 a4=>bc a Zo) (z.rd.lift λa b=>f a b.1 b.2.1)
  ⟨bx,s,t,c,b0,bb,b4,c1,_,rfl,(Z.rd.R λa b=>bc a Zo).lift (x _),(TY.R λa b=>bc a b.2).lift λa b=>b.1,(ap.R λa b=>bc a b.2).lift λa b=>b.1,(T0.rd.R λa b=>bc a Zo).lift (x _),w⟩
  (rG m T9 T8 T7 G ⟨U5,U4,by have:=w.len;have:=m.ea;omega⟩ λT4=>(Y ak T4).elim) f TZ (zF (bc bU Zo) U2),λa b=>bc a Zo⟩
end
def Iz:∀s∈gq,s++[97]∈ek:=by decide
def IA:∀s∈gq,s.length<=32:=by decide
def LG:c4 [53,120]=false:=by decide
def K9:c4 [116,104,101,110]=false:=by decide
def LF:([53,120]:aT)∈ek:=by decide
def K8:([116,104,101,110]:aT)∈ek:=by decide
def Lp:([117,56]:aT)∈ek:=by decide
section
variable{X:bQ}{S B cE ay aM:F ac}{nx nx' aG aL bw:Nat}{bm d0 P:Nat->Prop}
def hf.R{aC n:Nat}{M:Nat->Nat}{au:q}{T:List fu}{rows:List (List q)}{aH:List Nat}(e:hf X S aC n M au T rows aH)(k:∀a,aC<=a->a<n->H X B a=H X S a):hf X B aC n M au T rows aH:=
 ⟨e.aN,e.ie.R λa b=>k a (e.aH a b).1 (e.aH a b).2.1,e.aH,e.wd,e.len,e.ea,λi g row c K=>(e.jA i g row c K).to (λa b=>k a b.1 b.2.1) (λ_ e=>e) λa b=>ZD e.aN b.1,e.ok⟩
def H0{bU:Nat}{P:Nat->Prop}(a:P bU)(b:W X S (.ptr bU 0)=some .aw):jd X S P (.ptr bU 0):=
 ⟨[],⟨bU, .aw,0,[],rfl,a,b,cg.nil _ _,⟨rfl,λi g row e=>by simp at e⟩⟩,Zs,λg e=>by cases e⟩
set_option maxRecDepth 100000 in
def Kw(UW:dV X)(X0:eI X S bw){aC n bU:Nat}{M:Nat->Nat}{au:q}{T:List fu}{rows:List (List q)}{aH:List Nat}(e:hf X S aC n M au T rows aH)(π:bw<aC)(VK:bU<aC)(Uh:bw≠bU)(ρ:n<=nx)(ο:aC<=nx)(XG:T≠[])
 (χ:(o X).aN<=bU)(VL:∃c,H X S bU=some (.cells c 1 .own)/\c.get 0=some au){G:Nat}(Vj:G<256):
 aJ X 20 [.ptr bU 0, .ptr bw 0, .Z (G:Int)] S nx (λL B nx'=>jd X B (λa=>a=bU\/(aC<=a/\a<nx')) (.ptr bU 0)/\nx<=nx') zG:=by
 refine zB UW (Cg X) ?_
 rw[Ch]
 unfold vU
 obtain⟨Wf,VL,VM⟩:=VL
 have WQ:=e.aN
 have Xm:W X S (.ptr bU 0)=some au:=by rw[aZ VL];exact VM
 have ζ:0<T.length:=Z6.2 XG
 have ε:=e.ea
 have ξ:=e.len
 obtain⟨Xy,XW⟩:=e.ie.gM (P:=λa=>aC<=a/\a<n/\M a=1) Zd e.wd (by rw[e.len];omega) λa f=>e.aH a f
 have XM:=XW.len
 refine ci @Xm @XM ⟨?_⟩
 refine(eM UW X0 (nx:=nx+13) (n:=rows.length) Zo Zo Zo).Zm ?_
 rintro jaf ay aG ⟨r,rfl,K,X1,W9⟩
 have θ:=W9.le
 have WA:∀a,a<nx->a≠bw->H X ay a=H X S a:=λa f TZ=>W9.R a Zo (by simpa using TZ)
 have U9:=e.R (B:=ay) λa aE aW=>WA a Zo Zo
 have WW:H X ay bU=some (.cells Wf 1 .own):=by rw[WA bU Zo (λj=>Uh j.symm)];exact VL
 have V8:W X ay (.ptr bU 0)=some au:=by rw[aZ WW];exact VM
 obtain⟨bL,Uj⟩:=U9.ie.qq (bm:=λa=>aC<=a/\a<n/\M a=1) Zd e.wd (by rw[e.len];omega) λa f=>e.aH a f
 have XI:=Uj.rd.cP r K
 obtain⟨row,UG⟩:∃row,rows[r]? =some row:=⟨_,Ze K⟩
 obtain⟨g,Ua⟩:=zx T r
 have UN:=e.ok g (Zg Ua)
 obtain⟨dm,bx,bz,Xt,VO,b0,bb,b4,c1,UK,XY,UM,UV,VW,Ut,Uu,V3⟩:=U9.jA r g row Ua UG
 subst XY
 have US:=Uj.rd.cell r _ 3 bz UG rfl
 have W1:=Uj.rd.cell r _ 5 VO UG rfl
 have VS:ag .rem (.Z (G:Int)) (.Z 3)=some (.Z ((G%3:Nat):Int)):=rL (n:=3) Zd
 refine ci @XI @V8 ⟨?_⟩
 refine eV (cT.same e.ie).2.2 ?_
 have Vo:=Ut.rd.len
 have T6:∀bT:Nat,n<=bT->∀a,aC<=a->a<n->(a=bU\/(aC<=a/\a<bT)):=λbT U8 a aE aW=> .inr ⟨aE,Zo⟩
 by_cases UY:G%3=0\/UK.length=0
 ·by_cases WI:G%3=0
  all_goals
   first
   |(
     have VR:decide (((G%3:Nat):Int)=0)=true:=zK
     refine ci @VS @VR ⟨?_⟩)
   |(
     have VR:decide (((G%3:Nat):Int)=0)=false:=zJ
     have Wo:decide ((UK.length:Int)=0)=true:=zK
     refine db @VS @VR @W1 @Vo @Wo ⟨?_⟩)
   obtain⟨ds,Ud,WV,_⟩:=UN.out
   have φ:g.out.length=ds.length+1:=by rw[WV];simp
   have UP:=UV.rd.len
   rw[Zn]at UP
   have XO:=UV.rd.many
   rw[Zn]at XO
   have UT:ag .sub (.Z (g.out.length:Int)) (.Z 1)=some (.Z (ds.length:Int)):=by rw[g0 Zo Zo,show(g.out.length:Int) -1=(ds.length:Int) by omega]
   have Uc:=UV.rd.cP ds.length (by rw[Zn];omega)
   have WT:g.out[ds.length]? =some ⟨gt,0,Ud,[],0,false⟩:=by rw[WV];simp
   have UL:ag .rem (.Z (G:Int)) (.Z 8)=some (.Z ((G%8:Nat):Int)):=rL (n:=8) Zd
   have UJ:=UV.rd.cell ds.length (bO ⟨gt,0,Ud,[],0,false⟩) 7 .zF (by rw[Zw,WT];rfl) rfl
   have Xb:((G%8:Nat):Int)<8/\0<=((G%8:Nat):Int):=Zo
   generalize ((G%8:Nat):Int)=p at UL Xb
   have VJ:=λ(E:Nat) (U5:bv) (v:q) (bT:Nat) (U8:n<=bT) (WK:E<8) (UY:(bO ⟨gt,0,Ud,[],0,false⟩).set E v=bO U5) (Vt:v.cells=[v]) (Wv:d5 v=true) (UO:iq U5) (Y:ja U5->U5.name=gt)=>U9.I1 (P:=λa=>a=bU\/(aC<=a/\a<bT)) Ua UG UM UV VW Ut Uu V3 WT WK UY Vt Wv UO Y (T6 bT U8) (.inl rfl) VK V8
   have XR:∀bT:Nat,n<=bT->cg X ay (λa=>(a=bU\/(aC<=a/\a<bT))/\¬(aC<=a/\a<n/\M a=1)) bb bz 8 (g.out.map bO):=λbT U8=>UV.rd.lift λa f=>⟨T6 bT U8 a f.1.1 f.1.2.1,Zo⟩
   have WS:∀bT:Nat,n<=bT->cg X ay (λa=>(a=bU\/(aC<=a/\a<bT))/\¬(aC<=a/\a<n/\M a=1)) b4 Xt 8 (g.loc.map bO):=λbT U8=>VW.rd.lift λa f=>⟨T6 bT U8 a f.1.1 f.1.2.1,Zo⟩
   have Wc:g.out.length<=1000:=zu UN.an.2.1
   have Wb:g.loc.length<=1000:=zu UN.an.2.2
   have WP:∀d∈g.loc,iq d:=λd UY=>(UN.loc d UY).g1
   rcases(show p=0\/p=1\/p=2\/p=3\/p=4\/p=5\/p=6\/p=7 by omega)with J|J|J|J|J|J|J|J
   ·have T8:decide (p=0)=true:=zK
    refine bo @US @UP @UT @Uc @UL @UJ @T8 ⟨?_⟩
    obtain⟨Ur,T2,T0,T1⟩:=VJ 0 ⟨[53,120],0,Ud,[],0,false⟩ (.str [53,120]) (aG+12) Zo Zd rfl rfl rfl ⟨LF,lm⟩ (λU1=>by have:=U1.nm;rw[LG]at this;cases this)
    refine cz T2 ?_
    refine bh ⟨?_⟩
    exact⟨T0,Zo⟩
   ·have T8:decide (p=0)=false:=zJ
    have U3:decide (p=1)=true:=zK
    refine bo @US @UP @UT @Uc @UL @UJ (Za @T8 @U3) ⟨?_⟩
    obtain⟨Ur,T2,T0,T1⟩:=VJ 4 ⟨gt,0,⟨Ud.b,Ud.s,65⟩,[],0,false⟩ (.Z 65) (aG+12) Zo Zd rfl rfl rfl ⟨sd,lm⟩ (λ_=>rfl)
    refine cz T2 ?_
    refine bh ⟨?_⟩
    exact⟨T0,Zo⟩
   ·have T8:decide (p=0)=false:=zJ
    have U3:decide (p=1)=false:=zJ
    have UD:decide (p=2)=true:=zK
    refine bo @US @UP @UT @Uc @UL @UJ (Za @T8 (Za @U3 @UD)) ⟨?_⟩
    obtain⟨Ur,T2,T0,T1⟩:=VJ 7 ⟨gt,0,Ud,[],0,true⟩ .zT (aG+12) Zo Zd rfl rfl rfl ⟨sd,lm⟩ (λ_=>rfl)
    refine cz T2 ?_
    refine bh ⟨?_⟩
    exact⟨T0,Zo⟩
   ·have T8:decide (p=0)=false:=zJ
    have U3:decide (p=1)=false:=zJ
    have UD:decide (p=2)=false:=zJ
    have UQ:decide (p=3)=true:=zK
    refine bo @US @UP @UT @Uc @UL @UJ (Za @T8 (Za @U3 (Za @UD @UQ))) ⟨?_⟩
    obtain⟨Ur,T2,T0,T1⟩:=U9.uW (P:=λa=>a=bU\/(aC<=a/\a<aG+12)) (E:=0) (v:= .str [116,104,101,110]) Uj Ua UG UM Ut Uu V3 Zd rfl rfl rfl (XR _ Zo) (WS _ Zo) K8 UN.ql WP Wc Wb (λak U1=>by have:=U1.nm;rw[K9]at this;cases this) (T6 _ Zo) (.inl rfl) VK V8
    refine cz T2 ?_
    refine bh ⟨?_⟩
    exact⟨T0,Zo⟩
   ·have T8:decide (p=0)=false:=zJ
    have U3:decide (p=1)=false:=zJ
    have UD:decide (p=2)=false:=zJ
    have UQ:decide (p=3)=false:=zJ
    have Uo:decide (p=4)=true:=zK
    refine bo @US @UP @UT @Uc @UL @UJ (Za @T8 (Za @U3 (Za @UD (Za @UQ @Uo)))) ⟨?_⟩
    obtain⟨Ur,T2,T0,T1⟩:=U9.uW (P:=λa=>a=bU\/(aC<=a/\a<aG+12)) (E:=3) (v:= .aw) (out:=[]) Uj Ua UG UM Ut Uu V3 Zd rfl rfl rfl (cg.nil _ _) (WS _ Zo) (ln _ UN.nm) (λd UY=>by cases UY) WP Zs Wb (λak U1=>U1.out rfl) (T6 _ Zo) (.inl rfl) VK V8
    refine cz T2 ?_
    refine bh ⟨?_⟩
    exact⟨T0,Zo⟩
   ·have T8:decide (p=0)=false:=zJ
    have U3:decide (p=1)=false:=zJ
    have UD:decide (p=2)=false:=zJ
    have UQ:decide (p=3)=false:=zJ
    have Uo:decide (p=4)=false:=zJ
    have VD:decide (p=5)=true:=zK
    refine bo @US @UP @UT @Uc @UL @UJ (Za @T8 (Za @U3 (Za @UD (Za @UQ (Za @Uo @VD))))) ⟨?_⟩
    refine bh ⟨?_⟩
    exact⟨H0 (.inl rfl) (by rw[aZ (a7 Zo)];exact hx ..),Zo⟩
   ·have T8:decide (p=0)=false:=zJ
    have U3:decide (p=1)=false:=zJ
    have UD:decide (p=2)=false:=zJ
    have UQ:decide (p=3)=false:=zJ
    have Uo:decide (p=4)=false:=zJ
    have VD:decide (p=5)=false:=zJ
    have Vy:decide (p=6)=true:=zK
    refine bo @US @UP @UT @Uc @UL @UJ (Za @T8 (Za @U3 (Za @UD (Za @UQ (Za @Uo (Za @VD @Vy)))))) ⟨?_⟩
    obtain⟨Ur,T2,T0,T1⟩:=VJ 5 ⟨gt,0,Ud,[117,56],0,false⟩ (.str [117,56]) (aG+12) Zo Zd rfl rfl rfl ⟨sd,Lp⟩ (λ_=>rfl)
    refine cz T2 ?_
    refine bh ⟨?_⟩
    exact⟨T0,Zo⟩
   ·have T8:decide (p=0)=false:=zJ
    have U3:decide (p=1)=false:=zJ
    have UD:decide (p=2)=false:=zJ
    have UQ:decide (p=3)=false:=zJ
    have Uo:decide (p=4)=false:=zJ
    have VD:decide (p=5)=false:=zJ
    have Vy:decide (p=6)=false:=zJ
    have Xu:decide (p=7)=true:=zK
    refine bo @US @UP @UT @Uc @UL @UJ (Za @T8 (Za @U3 (Za @UD (Za @UQ (Za @Uo (Za @VD (Za @Vy @Xu))))))) ⟨?_⟩
    refine eU (Il Zo) ?_
    generalize Vd:aP X ay (aG+12) _=aM
    have Ws:H X aM (aG+12)=zy ((List.replicate 300 ps).map bO).flatten (300*8):=by rw[<-Vd,a7 Zo]
    have bl:∀a,a<aG+12->H X aM a=H X ay a:=λa f=>by rw[<-Vd,aV Zo Zo]
    clear Vd
    have XH:=U9.R (B:=aM) λa aE aW=>bl a Zo
    have UI:∀i a,(aC<=a/\a<n/\M a=2+r)/\dm a=i->H X aM a=H X ay a:=λi a f=>bl a Zo
    obtain⟨Ur,T2,T0,T1⟩:=XH.uW (P:=λa=>a=bU\/(aC<=a/\a<aG+12+1)) (E:=4) (v:= .slice (aG+12) 0 300 300) (loc:=List.replicate 300 ps) (Uj.R λa f=>bl a Zo) Ua UG (UM.R (UI 1)) (Ut.R (UI 4)) Uu (λi J row Ui K=>(V3 i J row Ui K).to (UI _) (λ_ e=>e) λa f=>ZD WQ f.1.1) Zd rfl rfl rfl
     ((UV.rd.R (UI 2)).lift λa f=>⟨T6 _ Zo a f.1.1 f.1.2.1,Zo⟩) (As (k:=300) (by exact Ws) Zs (by intro x Xe;obtain⟨d,_,rfl⟩:=ZB.1 Xe;rfl) Zd ⟨.inr ⟨Zo,Zo⟩,Zo⟩) (ln _ UN.nm) UN.ql (λd UY=>by rw[List.eq_of_mem_replicate UY];exact⟨lm,lm⟩) Wc Zs
     (λak U1=>by have:=U1.vars;simp at this) (T6 _ Zo) (.inl rfl) VK (zF (bl bU Zo) V8)
    refine bh ⟨?_⟩
    refine cz T2 ?_
    refine bh ⟨?_⟩
    exact⟨T0,Zo⟩
 ·have WI:decide (((G%3:Nat):Int)=0)=false:=zJ
  have XC:decide ((UK.length:Int)=0)=false:=zJ
  refine db @VS @WI @W1 @Vo @XC ⟨?_⟩
  have ψ:=UN.ea
  refine(eM UW X1 (nx:=aG+13) (n:=UK.length) Zo Zo Zo).Zm ?_
  rintro jag aM aL ⟨k,rfl,Vk,X2,WB⟩
  have ι:=WB.le
  have VN:∀a,a<aG->a≠bw->H X aM a=H X ay a:=λa f TZ=>WB.R a Zo (by simpa using TZ)
  have UI:∀i a,(aC<=a/\a<n/\M a=2+r)/\dm a=i->H X aM a=H X ay a:=λi a f=>VN a Zo Zo
  have Vj:=U9.R (B:=aM) λa aE aW=>VN a Zo Zo
  have W4:=UM.R (UI 1)
  have W5:=UV.R (UI 2)
  have W6:=VW.R (UI 3)
  have VG:=Ut.R (UI 4)
  have VY:∀(i:Nat) J row,g.eqs[i]? =some J->UK[i]? =some row->iJ X aM (λa=>(aC<=a/\a<n/\M a=2+r)/\dm a=5+i) J row:=λi J row Ui K=>(V3 i J row Ui K).to (UI _) (λ_ e=>e) λa f=>ZD WQ f.1.1
  have WX:H X aM bU=some (.cells Wf 1 .own):=by rw[VN bU Zo (λj=>Uh j.symm)];exact WW
  have Wm:=(Uj.R (B:=aM) λa f=>VN a Zo Zo).rd.cell r _ 5 VO UG rfl
  obtain⟨Xq,Uy⟩:∃row,UK[k]? =some row:=⟨_,Ze Vk⟩
  obtain⟨J,Ui⟩:=zx g.eqs k
  obtain⟨Uq,Un,VP,rfl,Ux,Vq⟩:=VY k J Xq Ui Uy
  obtain⟨ar,b5,bn,Uz,U0,V4,_,XX⟩:=id Vq
  have XJ:=VG.rd.cP k Vk
  have W2:=VG.rd.cell k _ 3 J.dy Uy rfl
  rw[Uz]at W2
  refine ci @XJ @Wm ⟨?_⟩
  refine eV (fg Vo).2.2 ?_
  refine k2 @W2 ⟨?_⟩
  have s:∀a,((aC<=a/\a<n/\M a=2+r)/\dm a=5+k)/\Uq a=0->aC<=a/\a<n:=λa f=>⟨f.1.1.1,f.1.1.2.1⟩
  have Vs:n1 b5 bn<=120000:=ZD (A9 XX) Zd
  have Wa:∃d,ar bn=some d:=Yb.1 V4
  have fin:∀(B:F ac) (bT:Nat) (bq:Nat->Prop) (hZ:Nat->Option dQ) (nU:Nat->Nat),n<=bT->dd X B n4 bq hZ nU->hZ bn≠none->(∀k,(dH (g7 hZ k (some bn))).length<=120000)->(∀a,bq a->aC<=a/\a<bT)->(∀a,aC<=a->a<n->¬(((aC<=a/\a<n/\M a=2+r)/\dm a=5+k)/\Uq a=0)->H X B a=H X aM a)->H X B bU=H X aM bU->jd X B (λa=>a=bU\/(aC<=a/\a<bT)) (.ptr bU 0):=by
   intro B bT bq hZ nU U8 Wy Wz Xa Wx UO Vp
   obtain⟨U2,T4⟩:=A4 Wy (nU bn+1) (some bn) (λb j=>by cases j;exact⟨Wz,Zo⟩) Zo
   refine Vj.eq (c1:=c1) (B:=B) (P:=λa=>a=bU\/(aC<=a/\a<bT)) Ua UG W4 W5 W6 Uu VY Ui (ht:=[Un, .aw, .Z J.at_,J.dy]) (dw:=⟨J.left,[],J.at_,g7 hZ (nU bn+1) (some bn)⟩) (λa aE aW a3=>UO a aE aW (λa4=>a3 ⟨a4.1.1.2.2, .inr a4.1.2⟩)) ?_ ?_ (λw Uk=>Uk) ⟨T4,Xa _⟩ (T6 bT U8) (.inl rfl) (by rw[bX,Vp, <-bX,aZ WX];exact VM)
   ·rw[sw Uy]
    exact(VG.rd.R λa f=>UO a f.1.1 f.1.2.1 Zo).lift λa f=>T6 bT U8 a f.1.1 f.1.2.1
   ·exact⟨Un, .aw,VP,0,J.dy,rfl,(Ux.R λa f=>UO a f.1.1.1 f.1.1.2.1 Zo).lift λa f=>T6 bT U8 a f.1.1.1 f.1.1.2.1,⟨cg.nil _ _,trivial⟩,by rw[Uz];exact bR.to (λ_ _=>rfl) (λa f=> .inr (Wx a f)) _ _ U2,pz Ux.len _ _ (by rw[Uz];rfl)⟩
  refine cQ (λVF B ah=>∃(j:Nat) (d:dQ),VF.g 1=some (.ptr bw 0)/\VF.g 2=some (.Z (G:Int))/\VF.g 8=some (.ptr c1 (k*4))/\VF.g 9=some (.ptr j 0)/\ar j=some d/\eI X B bw/\aL<=ah/\∀a,a<aL->a≠bw->H X B a=H X aM a) (λjad WM=> ?_) ?_
  ·obtain⟨Wq,XD⟩:=Yb.1 V4
   refine cM (λm y B ah=>∃(j:Nat) (d:dQ),y.g 1=some (.ptr bw 0)/\y.g 2=some (.Z (G:Int))/\y.g 8=some (.ptr c1 (k*4))/\y.g 9=some (.ptr j 0)/\ar j=some d/\b5 j<=m/\eI X B bw/\aL<=ah/\∀a,a<aL->a≠bw->H X B a=H X aM a)
    (b5 bn) ⟨bn,Wq,aI,aI,aI,aI,XD,Zp _,X2,Zp _,λ_ _ _=>rfl⟩ ?_
   rintro m y Wi Xo ⟨j,d,U2,T4,UC,t9,Z,jac,X3,σ,WN⟩
   have β:=U0.R (B:=Wi) λa f=>WN a (zu (s a f)) (zu (s a f))
   have UA:=U0.ok j d Z
   refine bB @U2 ⟨?_⟩
   refine(eM UW X3 (nx:=Xo) (n:=2) Zo Zo Zo).Zm ?_
   rintro jah W0 Xp ⟨Vw,rfl,jaa,Vb,WC⟩
   have κ:=WC.le
   have V5:∀a,a<aL->a≠bw->H X W0 a=H X aM a:=λa f TZ=>by rw[WC.R a Zo (by simpa using TZ),WN a f TZ]
   have VZ:=U0.R (B:=W0) λa f=>V5 a (zu (s a f)) (zu (s a f))
   by_cases Vr:(Vw:Int)=1
   ·have UU:decide ((Vw:Int)=1)=true:=by simp only[Zc];exact Vr
    have Um:=VZ.oM Z (i:=8) (v:=d.au) rfl
    obtain⟨Xx,WY⟩:=(VZ.arg j d Z).qp (P:=λa=>aC<=a/\a<n) (by rw[Zn];have:=UA.ea;omega) (λa f=>s a (VZ.a8 j d Z a f).1)
    have Vg:=WY.len
    rw[Zn,Zn]at Vg
    by_cases X9:0<d.args.length
    ·have VT:decide ((0:Int)<(d.args.length:Int))=true:=zK
     refine dp @UU @t9 @Um @Vg @VT @U2 ⟨?_⟩
     refine(eM UW Vb (nx:=Xp+14) (n:=d.args.length) Zo X9 (zu UA.ea)).Zm ?_
     rintro jai T7 C ⟨i,rfl,ai,Vc,WD⟩
     have μ:=WD.le
     have Ub:∀a,a<aL->a≠bw->H X T7 a=H X aM a:=λa f TZ=>by rw[WD.R a Zo (by simpa using TZ),V5 a f TZ]
     have U7:=U0.R (B:=T7) λa f=>Ub a (zu (s a f)) (zu (s a f))
     obtain⟨A,WR⟩:∃A,d.args[i]? =some A:=⟨_,Ze ai⟩
     have WU:=Zg WR
     obtain⟨c,rfl⟩:=Yb.1 (UA.full A WU)
     obtain⟨XB,γ⟩:=U0.fY j d c Z WU
     obtain⟨Wp,UZ⟩:=Yb.1 XB
     have XU:=WY.R (B:=T7) λa f=>by rw[Ub a Zo Zo,V5 a Zo Zo]
     obtain⟨VB,VC,jal⟩:=XU.one (i:=i) (v:= .ptr c 0) (by rw[Zw,WR];rfl)
     have Xk:=U7.oM Z (i:=8) (v:=d.au) rfl
     refine cw @VB @VC @Xk ⟨?_⟩
     refine eV (cT.same (U7.arg j d Z)).2.2 ?_
     refine bh ⟨?_⟩
     exact⟨b5 c,Zo,c,Wp,al U2,al T4,al UC,aI,UZ,Zp _,Vc,Zo,Ub⟩
    ·have VT:decide ((0:Int)<(d.args.length:Int))=false:=zJ
     refine db @UU @t9 @Um @Vg @VT ⟨?_⟩
     exact WM _ _ _ ⟨j,d,al U2,al T4,al UC,al t9,Z,Vb,Zo,V5⟩
   ·have UU:decide ((Vw:Int)=1)=false:=by simp only[Zb];exact Vr
    refine bB @UU ⟨?_⟩
    exact WM _ _ _ ⟨j,d,al U2,al T4,al UC,al t9,Z,Vb,Zo,V5⟩
  ·rintro y T7 C ⟨j,d,U2,T4,UC,t9,Z,Vc,τ,Ub⟩
   have U6:ag .rem (.Z (G:Int)) (.Z 11)=some (.Z ((G%11:Nat):Int)):=rL (n:=11) Zd
   have Xc:((G%11:Nat):Int)<11/\0<=((G%11:Nat):Int):=Zo
   generalize ((G%11:Nat):Int)=bF at U6 Xc
   have Vm:∀a,((aC<=a/\a<n/\M a=2+r)/\dm a=5+k)/\Uq a=0->H X T7 a=H X aM a:=λa f=>Ub a (zu (s a f)) (zu (s a f))
   have U7:=U0.R (B:=T7) Vm
   have UA:=U0.ok j d Z
   have z:=fE.fn UA
   obtain⟨VH,Xz,α,Uv⟩:=U7.cell j d Z
   have δ:=s j VH
   have VX:=VG.R (B:=T7) λa f=>Ub a Zo Zo
   have Ug:∀a,aC<=a->a<n->H X T7 a=H X aM a:=λa aE aW=>Ub a Zo Zo
   have Uw:H X T7 bU=H X aM bU:=Ub bU Zo (λj=>Uh j.symm)
   have Wa:bn<n:=by
    obtain⟨Wr,XE⟩:=Wa
    exact(s bn (U0.cell bn Wr XE).1).2
   have UZ:d.cells=c2 d.kind d.at_ d.name d.no d.ty d.n d.au:=rfl
   have V0:=λ(i:Nat) (v:q) (Vt:d.cells[i]? =some v)=>U7.oM Z Vt
   have Us:∀(B:F ac) (c:F q) (U5:dQ),H X B j=some (.cells c 9 .own)->dF c U5.cells->U5.args=d.args->U5.au=d.au->U5.aH=d.aH->n4 U5->(∀a,a≠j->H X B a=H X T7 a)->jd X B (λa=>a=bU\/(aC<=a/\a<C)) (.ptr bU 0):=by
    intro B c U5 hk XT WH XZ XA UO Vn
    have U1:=U7.tP (B:=B) (λ_=>fE.fn) Z hk XT WH XZ XA (λa _ Uh=>Vn a Uh) UO
    refine fin B C _ _ b5 Zo U1 ?_ (λk=>ZD ((U0.wt.less.tP Z WH).size k (some bn)) Vs) (λa f=>⟨(s a f).1,zu (s a f).2⟩) (λa aE aW a3=>by rw[Vn a (λUe=>a3 (Ue▸VH)),Ug a aE aW]) (by rw[Vn bU Zo,Uw])
    show(if bn=j then some U5 else ar bn)≠none
    split
    ·simp
    ·exact V4
   have VU:∀(B:F ac) (bT:Nat) (ht:List q) (dw:dL),n<=bT->(∀a,aC<=a->a<n->¬((aC<=a/\a<n/\M a=2+r)/\(dm a=4\/dm a=5+k))->H X B a=H X aM a)->cg X B (λa=>a=bU\/(aC<=a/\a<bT)) c1 VO 4 (UK.set k ht)->jK X B (λa=>a=bU\/(aC<=a/\a<bT)) (bR X B (λa=>a=bU\/(aC<=a/\a<bT))) dw ht->(∀w∈dw.left,w∈J.left)->jO dw.right->H X B bU=H X aM bU->jd X B (λa=>a=bU\/(aC<=a/\a<bT)) (.ptr bU 0):=by
    intro B bT ht dw U8 UO XV XS ap XK Vp
    exact Vj.eq (c1:=c1) (B:=B) Ua UG W4 W5 W6 Uu VY Ui (ht:=ht) (dw:=dw) (λa aE aW a3=>UO a aE aW (λa4=>a3 ⟨a4.1.2.2,a4.2⟩)) XV XS ap XK (T6 bT U8) (.inl rfl) (by rw[bX,Vp, <-bX,aZ WX];exact VM)
   show N _ _
   rcases(show bF=0\/bF=1\/bF=2\/bF=3\/bF=4\/bF=5\/bF=6\/bF=7\/bF=8\/bF=9\/bF=10 by omega)with w|w|w|w|w|w|w|w|w|w|w
   ·have O:decide (bF=0)=true:=zK
    refine cV @T4 @U6 @O @t9 ⟨?_⟩
    exact⟨Us _ _ {d with kind:=27} (a7 Zo) ((Uv.put (A:=0) (aB:=[.Z 27]) (by rw[UZ];simp[c2]))) rfl rfl rfl ⟨Zs,z.nm,z.aG,z.aL,z.ea⟩ λa f=>aV Zo f,Zo⟩
   ·have O:decide (bF=0)=false:=zJ
    have T3:decide (bF=1)=true:=zK
    have Xh:=V0 2 (.str d.name) rfl
    have XQ:d.name++[97]∈ek:=by
     rcases UA.nm with e|e
     ·rw[e];decide
     ·exact Iz _ e
    have η:d.name.length<=32:=by
     rcases UA.nm with e|e
     ·rw[e];decide
     ·exact IA _ e
    have Wn:bZ X T7 .add 9 true (.str d.name) (.str [97])=some (.str (d.name++[97])):=by
     have:Nat.ble (d.name.length+[97].length) 1000000000=true:=gg Zx
     simp only[bZ,m4,this,cO]
    refine bo @T4 @U6 @O @T3 @t9 @Xh @Wn ⟨?_⟩
    exact⟨Us _ _ {d with name:=d.name++[97]} (a7 Zo) ((Uv.put (A:=2) (aB:=[.str (d.name++[97])]) (by rw[UZ];simp[c2]))) rfl rfl rfl ⟨z.bc,XQ,z.aG,z.aL,z.ea⟩ λa f=>aV Zo f,Zo⟩
   ·have O:decide (bF=0)=false:=zJ
    have T3:decide (bF=1)=false:=zJ
    have T5:decide (bF=2)=true:=zK
    have UJ:=V0 7 (.int .u64 d.n) rfl
    have Wk:=GM d.n 64
    refine bo @T4 @U6 @O @T3 @T5 @t9 (Za @UJ @Wk) ⟨?_⟩
    exact⟨Us _ _ {d with n:=(d.n+64)%18446744073709551616} (a7 Zo) ((Uv.put (A:=7) (aB:=[.int .u64 ((d.n+64)%18446744073709551616)]) (by rw[UZ];simp[c2]))) rfl rfl rfl ⟨z.bc,z.nm,(n0 _).1,(n0 _).2,z.ea⟩ λa f=>aV Zo f,Zo⟩
   ·have O:decide (bF=0)=false:=zJ
    have T3:decide (bF=1)=false:=zJ
    have T5:decide (bF=2)=false:=zJ
    have T9:decide (bF=3)=true:=zK
    have Um:=V0 8 d.au rfl
    refine bo @T4 @U6 @O @T3 @T5 @T9 (Za @t9 @Um) ⟨?_⟩
    refine(vh UW (nx:=C+11) Zo [97]).Zm ?_
    rintro jaj UF V9 ⟨rfl,Wt,XP,W8⟩
    have Xl:W X UF (.ptr j 8)=some d.au:=by rw[W8.cW _ _ Zo];exact Um
    refine bB @Xl ⟨?_⟩
    refine eV (cT.same (U7.arg j d Z)).2.2 ?_
    generalize Uf:aP X UF (C+6) _=TY
    have VV:H X TY (C+6)=zy [.ptr (C+11) 0] 1:=by rw[<-Uf,a7 Zo]
    have Wd:∀a,a≠C+6->H X TY a=H X UF a:=λa f=>by rw[<-Uf,aV Zo f]
    clear Uf
    have Ul:∀a,a<C->H X TY a=H X T7 a:=λa f=>by rw[Wd a Zo,W8.R a Zo]
    have Ve:=(U7.qy λ_=>fE.fn).up.add (B:=TY) (bq:=λa=>(((aC<=a/\a<n/\M a=2+r)/\dm a=5+k)/\Uq a=0)\/a=C+11) (b:=C+11) (r:=0) (d:=⟨2,0,[97],false,ck,0,[], .aw,[]⟩) (λa f=> .inl f) (λa f=>by rcases f with f|rfl;exact U7.low a f;omega) (.inr rfl) (λf=>zu (s _ f))
     (by rw[Wd _ Zo];exact Wt) (dj _) (.inl (.inl ⟨rfl,rfl,rfl⟩)) (λa f=>by cases f) (λc UX=>by cases UX) (λa f=>Ul a (zu (s a f))) ⟨Zs,Zd,Zs,Zs,Zs⟩
    have WJ:j≠C+11:=Zo
    obtain⟨Vx,V1,VQ,Vh,Vu,Vv,V2,V7,Vi⟩:=Ve.push (nx:=V9) (cJ:=C+6) (j:=j) (d:=d) (by simp only[WJ,ZM];exact Z) (A:=some (C+11)) (λc UX=>by cases UX;simp[WJ]) VV (λa f=>by rcases f with f|rfl;(have:=s a f;omega);omega) Zo (zu UA.ea)
    refine eU Vh ?_
    refine bh ⟨?_⟩
    refine cz (kr V2 Zo Zo Vu Vv) ?_
    refine bh ⟨?_⟩
    obtain⟨Xs,Wl,U1⟩:=Vi (aP X V1 j (some (.cells (VQ.set 8 (some Vx)) 9 .own))) n4 (a7 Zo) (λa f=>aV Zo f) (λ_ e=>e) (λ_ _=>⟨z.bc,z.nm,z.aG,z.aL,by simp;have:=UA.ea;omega⟩)
    refine⟨fin _ (V9+1) _ _ _ Zo U1 ?_ (λk=>ZD ((U0.wt.Jo (leaf:=⟨2,0,[97],false,ck,0,[], .aw,[]⟩) (λb d c U9 UM=>(U0.fY b d c U9 UM).1) (pE U0 λf=>zu (s _ f)) rfl Z rfl).size k (some bn)) (by have:bn≠C+11:=Zo;simp only[nL,this,ZM];exact Vs)) (λa f=>by rcases f with (f|rfl)|rfl;(have:=s a f;omega);omega;omega) (λa aE aW a3=> ?_) ?_,Zo⟩
    ·show(if bn=j then some _ else if bn=C+11 then some _ else ar bn)≠none
     split
     ·simp
     ·split
      ·simp
      ·exact V4
    ·rw[aV Zo (λUe:a=j=>a3 (by rw[Ue];exact VH)),V7 a Zo (λf=>by rcases f with f|f;exact a3 f;omega),Ul a Zo,Ug a aE aW]
    ·rw[aV Zo Zo,V7 bU Zo (λf=>by rcases f with f|f;(have:=s _ f;omega);omega),Ul bU Zo,Uw]
   ·have O:decide (bF=0)=false:=zJ
    have T3:decide (bF=1)=false:=zJ
    have T5:decide (bF=2)=false:=zJ
    have T9:decide (bF=3)=false:=zJ
    have U4:decide (bF=4)=true:=zK
    have Um:=V0 8 d.au rfl
    refine bo @T4 @U6 @O @T3 @T5 @T9 (Za @U4 (Za @t9 @Um)) ⟨?_⟩
    generalize Uf:aP X T7 C _=TY
    have VV:H X TY C=zy [.bt] 1:=by rw[<-Uf,a7 Zo]
    have Ul:∀a,a<C->H X TY a=H X T7 a:=λa f=>by rw[<-Uf,aV Zo Zo]
    clear Uf
    have Ve:=(U7.qy λ_=>fE.fn).R (B:=TY) λa f=>Ul a (zu (s a f))
    obtain⟨Vx,V1,VQ,Vh,Vu,Vv,V2,V7,Vi⟩:=Ve.push (nx:=C+1) (cJ:=C) (j:=j) (d:=d) Z (A:=none) (λc UX=>by cases UX) VV (λa f=>zu (s a f)) Zo (zu UA.ea)
    refine eU Vh ?_
    refine bh ⟨?_⟩
    refine cz (kr V2 Zo Zo Vu Vv) ?_
    refine bh ⟨?_⟩
    obtain⟨Xs,Wl,U1⟩:=Vi (aP X V1 j (some (.cells (VQ.set 8 (some Vx)) 9 .own))) n4 (a7 Zo) (λa f=>aV Zo f) (λ_ e=>e) (λ_ _=>⟨z.bc,z.nm,z.aG,z.aL,by simp;have:=UA.ea;omega⟩)
    refine⟨fin _ (C+1+1) _ _ _ Zo U1 ?_ (λk=>ZD ((U0.wt.Jn Z rfl).size k (some bn)) Vs) (λa f=>by rcases f with f|rfl;(have:=s a f;omega);omega) (λa aE aW a3=> ?_) ?_,Zo⟩
    ·show(if bn=j then some _ else ar bn)≠none
     split
     ·simp
     ·exact V4
    ·rw[aV Zo (λUe:a=j=>a3 (by rw[Ue];exact VH)),V7 a Zo a3,Ul a Zo,Ug a aE aW]
    ·rw[aV Zo Zo,V7 bU Zo (λf=>zu (s _ f)),Ul bU Zo,Uw]
   ·have O:decide (bF=0)=false:=zJ
    have T3:decide (bF=1)=false:=zJ
    have T5:decide (bF=2)=false:=zJ
    have T9:decide (bF=3)=false:=zJ
    have U4:decide (bF=4)=false:=zJ
    have UE:decide (bF=5)=true:=zK
    have Xi:=V0 3 (.bool d.no) rfl
    refine bo @T4 @U6 @O @T3 @T5 @T9 (Za @U4 (Za @UE (Za @t9 @Xi))) ⟨?_⟩
    exact⟨Us _ _ {d with no:= !d.no} (a7 Zo) ((Uv.put (A:=3) (aB:=[.bool (!d.no)]) (by rw[UZ];simp[c2]))) rfl rfl rfl ⟨z.bc,z.nm,z.aG,z.aL,z.ea⟩ λa f=>aV Zo f,Zo⟩
   ·have O:decide (bF=0)=false:=zJ
    have T3:decide (bF=1)=false:=zJ
    have T5:decide (bF=2)=false:=zJ
    have T9:decide (bF=3)=false:=zJ
    have U4:decide (bF=4)=false:=zJ
    have UE:decide (bF=5)=false:=zJ
    have UR:decide (bF=6)=true:=zK
    have Xj:=V0 6 (.Z d.ty.w) rfl
    obtain⟨Wh,Xf⟩:=LJ d.ty.w 8
    refine bo @T4 @U6 @O @T3 @T5 @T9 (Za @U4 (Za @UE (Za @UR (Za @t9 (Za @Xj @Xf))))) ⟨?_⟩
    exact⟨Us _ _ {d with ty:=⟨d.ty.b,d.ty.s,Wh⟩} (a7 Zo) ((Uv.put (A:=6) (aB:=[.Z Wh]) (by rw[UZ];simp[c2]))) rfl rfl rfl ⟨z.bc,z.nm,z.aG,z.aL,z.ea⟩ λa f=>aV Zo f,Zo⟩
   ·have O:decide (bF=0)=false:=zJ
    have T3:decide (bF=1)=false:=zJ
    have T5:decide (bF=2)=false:=zJ
    have T9:decide (bF=3)=false:=zJ
    have U4:decide (bF=4)=false:=zJ
    have UE:decide (bF=5)=false:=zJ
    have UR:decide (bF=6)=false:=zJ
    have Up:decide (bF=7)=true:=zK
    refine bo @T4 @U6 @O @T3 @T5 @T9 (Za @U4 (Za @UE (Za @UR (Za @Up @UC)))) ⟨?_⟩
    obtain⟨UF,T2,T0,T1⟩:=VX.store (i:=k) (E:=0) Uy Zd (v:= .aw) rfl rfl
    refine cz T2 ?_
    refine bh ⟨?_⟩
    obtain⟨ex,VB,VC⟩:=(Vq.R (B:=UF) λa f=>by rw[T1 a Zo,Vm a f]).pB
    exact⟨VU UF C _ ⟨[],[],J.at_,ex⟩ Zo (λa aE aW a3=>by rw[T1 a Zo,Ug a aE aW]) (T0.rd.lift λa f=>T6 C Zo a f.1.1 f.1.2.1) ⟨.aw, .aw,0,0,J.dy,rfl,cg.nil _ _,⟨cg.nil _ _,trivial⟩,bR.to (λ_ _=>rfl) (λa f=> .inr ⟨(s a f).1,zu (s a f).2⟩) _ _ VB,by rw[Uz];rfl⟩ (λw Uk=>by cases Uk) VC (by rw[T1 bU Zo,Uw]),Zo⟩
   ·have O:decide (bF=0)=false:=zJ
    have T3:decide (bF=1)=false:=zJ
    have T5:decide (bF=2)=false:=zJ
    have T9:decide (bF=3)=false:=zJ
    have U4:decide (bF=4)=false:=zJ
    have UE:decide (bF=5)=false:=zJ
    have UR:decide (bF=6)=false:=zJ
    have Up:decide (bF=7)=false:=zJ
    have VE:decide (bF=8)=true:=zK
    refine bo @T4 @U6 @O @T3 @T5 @T9 (Za @U4 (Za @UE (Za @UR (Za @Up (Za @VE @t9))))) ⟨?_⟩
    exact⟨Us _ _ {d with kind:=21} (a7 Zo) ((Uv.put (A:=0) (aB:=[.Z 21]) (by rw[UZ];simp[c2]))) rfl rfl rfl ⟨Zs,z.nm,z.aG,z.aL,z.ea⟩ λa f=>aV Zo f,Zo⟩
   ·have O:decide (bF=0)=false:=zJ
    have T3:decide (bF=1)=false:=zJ
    have T5:decide (bF=2)=false:=zJ
    have T9:decide (bF=3)=false:=zJ
    have U4:decide (bF=4)=false:=zJ
    have UE:decide (bF=5)=false:=zJ
    have UR:decide (bF=6)=false:=zJ
    have Up:decide (bF=7)=false:=zJ
    have VE:decide (bF=8)=false:=zJ
    have Vz:decide (bF=9)=true:=zK
    refine bo @T4 @U6 @O @T3 @T5 @T9 (Za @U4 (Za @UE (Za @UR (Za @Up (Za @VE @Vz))))) ⟨?_⟩
    refine cM (λm y B ah=>∃(UH t:Nat),y.g 1=some (.ptr bw 0)/\y.g 8=some (.ptr c1 (k*4))/\y.g 10=some (.Z (UH:Int))/\UH+m=300/\eI X B bw/\C<=ah/\en X B (λa=>(aC<=a/\a<n/\M a=2+r)/\dm a=4) c1 VO 4 (UK.set k [Un, .aw, .Z J.at_, .ptr t 0])
     /\m2 X B (λa=>(((aC<=a/\a<n/\M a=2+r)/\dm a=5+k)/\Uq a=0)\/(C<=a/\a<ah)) (.ptr t 0) (118097+UH)/\∀a,a<C->a≠bw->¬((aC<=a/\a<n/\M a=2+r)/\dm a=4)->H X B a=H X T7 a)
     300 ⟨0,bn,al U2,al UC,cx,Zo,Vc,Zp _,by rw[<-Uz,sw Uy];exact VX,by rw[<-Uz];exact(Vq.to Vm (λa f=> .inl f) (λa f=>by rcases f with f|f;exact U7.low a f;omega)).A2,λ_ _ _ _=>rfl⟩ ?_
    clear U2 UC
    rintro m y UF V9 ⟨UH,t,U2,UC,Wg,WK,X4,XP,X7,X6,Vl⟩
    refine ci @Wg @U2 ⟨?_⟩
    refine(eM UW X4 (nx:=V9) (n:=20) Zo Zo Zo).Zm ?_
    rintro jak TY UB ⟨VA,rfl,jab,X5,WE⟩
    have ν:=WE.le
    have V6:∀a,a<V9->a≠bw->H X TY a=H X UF a:=λa f TZ=>WE.R a Zo (by simpa using TZ)
    have Vf:=X7.R (B:=TY) λa f=>V6 a Zo Zo
    have XN:∀bT a,((((aC<=a/\a<n/\M a=2+r)/\dm a=5+k)/\Uq a=0)\/(C<=a/\a<bT))->(o X).aN<=a:=λbT a f=>by rcases f with f|f;exact U7.low a f;omega
    have WG:=X6.R (B:=TY) λa f=>V6 a (by rcases f with f|f;(have:=s a f;omega);omega) (by rcases f with f|f;(have:=s a f;omega);omega)
    have W3:ag .add (.Z 190) (.Z (VA:Int))=some (.Z (190+(VA:Int))):=ct Zo Zo
    have XL:k<UK.length:=Vk
    have WZ:(UK.set k [Un, .aw, .Z J.at_, .ptr t 0])[k]? =some [Un, .aw, .Z J.at_, .ptr t 0]:=by rw[Yr];simp only[ZP,XL]
    by_cases WL:(UH:Int)<190+(VA:Int)
    ·have UU:decide ((UH:Int)<190+(VA:Int))=true:=by simp only[Zc];exact WL
     have Ue:=zz UH
     have Xn:=Vf.rd.cell k _ 3 (.ptr t 0) WZ rfl
     refine cV @W3 @UU @UC @Xn ⟨?_⟩
     refine(y0 UW (nx:=UB) Zo 3 t).Zm ?_
     rintro u8 V1 We ⟨rfl,Wu,V2,υ,VI⟩
     have X8:=Vf.R (B:=V1) λa f=>VI.R a Zo
     obtain⟨Wj,T2,T0,T1⟩:=X8.store (i:=k) (E:=3) WZ Zd (v:= .ptr (UB+1) 0) rfl rfl
     refine bh ⟨?_⟩
     refine cz T2 ?_
     refine ci @Wg @Ue ⟨?_⟩
     rw[List.set_set]at T0
     obtain⟨Xw,Xr,wt,jae,XF,Va,WF,Vr,Xd,ω⟩:=WG
     cases XF
     have Ww:=Va.add (B:=Wj) (bq:=λa=>(((aC<=a/\a<n/\M a=2+r)/\dm a=5+k)/\Uq a=0)\/(C<=a/\a<We)) (b:=UB+1) (r:=Xr t+1) (d:=⟨3,0,[],false,ck,0,[some t], .slice UB 0 1 1,[UB]⟩) (λa f=>by rcases f with f|f;exact .inl f;exact .inr ⟨f.1,Zo⟩) (XN We) (.inr ⟨Zo,Zo⟩) (λf=>by rcases f with f|f;(have:=s _ f;omega);omega)
      (by rw[T1 _ Zo];exact V2) (dj _) (.inr ⟨UB,1,_, .own,rfl,rfl,rfl,by rw[T1 _ Zo];exact Wu,dj _,rfl,Zo⟩) (λa f=>by simp at f;subst f;exact⟨.inr ⟨Zo,Zo⟩,λf=>by rcases f with f|f;(have:=s _ f;omega);omega,Zo⟩) (λc UX=>by simp at UX;subst UX;exact⟨WF,Zo⟩)
      (λa f=>by
       have Xg:¬((aC<=a/\a<n/\M a=2+r)/\dm a=4):=by rcases f with f|f;omega;omega
       rw[T1 a Xg,VI.R a (by rcases f with f|f;(have:=s a f;omega);omega)]) ⟨Zs,Zs, .inl rfl,Zs,Zs,Zs,Zs⟩
     refine⟨m-1,Zo,UH+1,UB+1,al U2,al UC,aI,Zo,(X5.R (VI.R _ Zo)).R (T1 _ Zo),Zo,T0,⟨_,_,_,UB+1,rfl,Ww,Zs,Zs,Xd.over (λb d c U9 UM=>(Va.fY b d c U9 UM).1) (pE Va λf=>by rcases f with f|f;(have:=s _ f;omega);omega) WF rfl,Zx⟩,λa f TZ W7=> ?_⟩
     rw[T1 a W7,VI.R a Zo,V6 a Zo TZ,Vl a f TZ W7]
    ·have UU:decide ((UH:Int)<190+(VA:Int))=false:=by simp only[Zb];exact WL
     refine ci @W3 @UU ⟨?_⟩
     obtain⟨ex,VB,VC⟩:=WG.pB Zo
     have WO:∀a,aC<=a->a<n->¬((aC<=a/\a<n/\M a=2+r)/\dm a=4)->H X TY a=H X aM a:=λa aE aW a3=>by rw[V6 a Zo Zo,Vl a Zo Zo a3,Ug a aE aW]
     exact⟨VU TY UB _ ⟨J.left,[],J.at_,ex⟩ Zo (λa aE aW a3=>WO a aE aW (λa4=>a3 ⟨a4.1, .inl a4.2⟩)) (Vf.rd.lift λa f=>T6 UB Zo a f.1.1 f.1.2.1) ⟨Un, .aw,VP,0, .ptr t 0,rfl,(Ux.R λa f=>WO a f.1.1.1 f.1.1.2.1 Zo).lift λa f=>T6 UB Zo a f.1.1.1 f.1.1.2.1,⟨cg.nil _ _,trivial⟩,bR.to (λ_ _=>rfl) (λa f=>by rcases f with f|f;exact .inr ⟨(s a f).1,zu (s a f).2⟩;exact .inr ⟨Zo,Zo⟩) _ _ VB,pz Ux.len _ _ rfl⟩ (λw Uk=>Uk) VC (by rw[V6 bU Zo (λj=>Uh j.symm),Vl bU Zo (λj=>Uh j.symm) Zo,Uw]),Zo⟩
   ·have O:decide (bF=0)=false:=zJ
    have T3:decide (bF=1)=false:=zJ
    have T5:decide (bF=2)=false:=zJ
    have T9:decide (bF=3)=false:=zJ
    have U4:decide (bF=4)=false:=zJ
    have UE:decide (bF=5)=false:=zJ
    have UR:decide (bF=6)=false:=zJ
    have Up:decide (bF=7)=false:=zJ
    have VE:decide (bF=8)=false:=zJ
    have Vz:decide (bF=9)=false:=zJ
    have Xv:decide (bF=10)=true:=zK
    refine bo @T4 @U6 @O @T3 @T5 @T9 (Za @U4 (Za @UE (Za @UR (Za @Up (Za @VE (Za @Vz (Za @Xv @UC))))))) ⟨?_⟩
    obtain⟨UF,T2,T0,T1⟩:=VX.store (i:=k) (E:=3) Uy Zd (v:= .bt) rfl rfl
    refine cz T2 ?_
    refine bh ⟨?_⟩
    exact⟨VU UF C _ ⟨J.left,[],J.at_,g3⟩ Zo (λa aE aW a3=>by rw[T1 a Zo,Ug a aE aW]) (T0.rd.lift λa f=>T6 C Zo a f.1.1 f.1.2.1) ⟨Un, .aw,VP,0, .bt,rfl,(Ux.R λa f=>by rw[T1 a Zo,Ug a f.1.1.1 f.1.1.2.1]).lift λa f=>T6 C Zo a f.1.1.1 f.1.1.2.1,⟨cg.nil _ _,trivial⟩,(by show bR _ _ _ g3 .bt;unfold g3 bR;exact .inl ⟨rfl,rfl⟩),pz Ux.len _ _ rfl⟩ (λw Uk=>Uk) Hc (by rw[T1 bU Zo,Uw]),Zo⟩
end
def Ij{C:ax}{S:F ac}(x a:Int):jX C S .min [3,3] [.Z x, .Z a]=some (.Z (min x a)):=by
 show hC false (.Z x) [.Z a]=_
 simp only[hC,cK,jr,ZR,ZM]
 congr 2
 simp only[Zc]
 split<;>omega
section
variable{X:bQ}{S B cE ay aM:F ac}{nx nx' aG aL bw:Nat}{bm d0 P:Nat->Prop}
def dF.set{c:F q}{h:List q}(e:dF c h){i:Nat}(ai:i<h.length)(v:q):dF (c.set i (some v)) (h.set i v):=by
 intro E
 rw[F.gj,Yr]
 by_cases a:i=E
 ·rw[Zv a,Zv a,Zv ai]
 ·rw[Zj a,Zj a];exact e E
def cT.HG{C:ax}{S:F ac}{s:q}{h:List q}{aH:List Nat}(e:cT C S s 1 h aH):∃w,bK s=some w:=by
 rcases e with (⟨rfl,_⟩|⟨b,ch,n,c,rfl,_⟩)|⟨b,n,c,st,rfl,_⟩
 ·exact⟨_,rfl⟩
 ·exact⟨_,h8 ..⟩
 ·exact⟨_,hK ..⟩
def sT(X:bQ)(au:q)(n:Nat):Prop:=∀E,E<n->∃(p:q) (x:Nat),bH 1 au (.Z (E:Int))=some p/\(∀B,W X B p=some (.int .u16 (x:Int)))/\x<65536
structure lV(X:bQ)(S:F ac)(d aE aW a3 n cI:Nat)(name:aT)(cj out loc:List bv)(k:Nat):Prop where
 le:(o X).aN<=d/\d<=aE/\aE<=aW/\aW<=a3/\a3=cI/\cI<n
 ex:∃(M:Nat->Nat) (bx bz g f:q) (b0 bb b4:Nat) (c:F q) (eqs:List mR) (b:List (List q)) (aH:List Nat),(∀a,a<aE->M a=1)/\(∀a,aE<=a->a<aW->M a=2)/\(∀a,aW<=a->a<a3->M a=3)
  /\H X S cI=some (.cells c 6 .own)/\dF c [.str name, .Z 0,bx,bz,g,f]
  /\en X S (λa=>d<=a/\a<aE) b0 bx 8 (cj.map bO)/\en X S (λa=>aE<=a/\a<aW) bb bz 8 (out.map bO)/\en X S (λa=>aW<=a/\a<a3) b4 g 8 (loc.map bO)
  /\cT X S f 4 b.flatten aH/\(∀a∈aH,cI<a/\a<n/\M a=4)/\b.length=eqs.length/\(∀r∈b,r.length=4/\cN r=true)/\eqs.length=k/\(∀J∈eqs,∀w∈J.left,w∈gq)
  /\∀(i:Nat) J row,eqs[i]? =some J->b[i]? =some row->iJ X S (λa=>(cI<a/\a<n)/\M a=5+i) J row
def lV.R{f aE aW a3 n ah cI k:Nat}{name:aT}{cj out loc:List bv}(e:lV X S f aE aW a3 n cI name cj out loc k)(d:∀a,f<=a->a<n->H X B a=H X S a)(T8:n<=ah):lV X B f aE aW a3 ah cI name cj out loc k:=by
 obtain⟨t,v,w,x,z,C⟩:=e.le
 obtain⟨M,bx,bz,T7,T6,b0,bb,b4,c,eqs,Z,aH,bc,bl,s,m,p,G,O,P,T0,g,T1,T2,T3,T4,T5⟩:=e.ex
 exact⟨⟨t,v,w,x,z,Zo⟩,M,bx,bz,T7,T6,b0,bb,b4,c,eqs,Z,aH,bc,bl,s,by rw[d cI Zo C];exact m,p,G.R λa b=>d a Zo Zo,O.R λa b=>d a Zo Zo,P.R λa b=>d a Zo Zo,
  T0.R λa b=>d a (zu (g a b)) (g a b).2.1,λa b=>zu (g a b),T1,T2,T3,T4,λi J row r K=>(T5 i J row r K).to (λa b=>d a Zo Zo) (λa b=>⟨⟨b.1.1,Zo⟩,b.2⟩) λa b=>Zo⟩
def lV.done{p aE aW a3 n cI k:Nat}{name:aT}{cj out loc:List bv}(e:lV X S p aE aW a3 n cI name cj out loc k)(TY:k<=100)(G:name∈gq)(O:∀d∈cj,jb d)(P:∃ds t,out=ds++[⟨gt,0,t,[],0,false⟩]/\∀d∈ds,jb d)(Z:∀d∈loc,jb d)(T0:cj.length<=100/\out.length<=100/\loc.length<=100):
 ∃(g:fu) (bx bz m f:q) (c:F q),kz g/\H X S cI=some (.cells c 6 .own)/\dF c [.str name, .Z 0,bx,bz,m,f]/\cN [.str name, .Z 0,bx,bz,m,f]=true/\jP X S (λa=>p<=a/\a<n) g [.str name, .Z 0,bx,bz,m,f]:=by
 obtain⟨TZ,U0,U1,U2,U3,U4⟩:=e.le
 obtain⟨M,bx,bz,m,f,b0,bb,b4,c,eqs,T3,aH,bc,bl,T2,z,C,s,v,w,T4,T5,T6,T7,U5,T8,T9⟩:=e.ex
 obtain⟨c1,x⟩:=T4.qq (bm:=λa=>(p<=a/\a<n)/\M a=4) Zd (λr K=>(T7 r K).1) Zo (λa b=>zu (T5 a b))
 refine⟨⟨name,cj,out,loc,eqs⟩,bx,bz,m,f,c,⟨G,O,P,Z,T8,by show eqs.length<=100;omega,T0⟩,z,C, ?_,M,bx,bz,m,f,b0,bb,b4,c1,T3,rfl,s.lift λa b=>⟨⟨b.1,Zo⟩,bc a b.2⟩,v.lift λa b=>⟨⟨Zo,Zo⟩,bl a b.1 b.2⟩,w.lift λa b=>⟨⟨Zo,Zo⟩,T2 a b.1 b.2⟩,x,T6,λi J row T1 K=>(T9 i J row T1 K).to (λ_ _=>rfl) (λa b=>⟨⟨Zo,b.1.2⟩,b.2⟩) λa b=>Zo⟩
 simp[Go.Q.cN,(fg s.rd.len).2.1,(fg v.rd.len).2.1,(fg w.rd.len).2.1,(fg x.rd.len).2.1,show d5 (.Z 0)=true from rfl,show d5 (.str name)=true from rfl]
end
section
variable{X:bQ}{S B cE ay aM:F ac}{nx nx' aG aL bw:Nat}{bm d0 P:Nat->Prop}
set_option maxRecDepth 100000 in
def HY(z:dV X)(Vd:(o X).aN<=nx){a0 aE:q}{WZ:Int}{n:Nat}(Xv:bK a0=some (.Z WZ))(ζ:∀B,ii X B 1 a0 none (some (.Z (min WZ 400))) none=some aE)(W2:bK aE=some (.Z (n:Int)))(α:n<=400)(XT:sT X aE n){T2:Nat}(ι:T2<256):
 aJ X 5 [a0, .int .u8 (T2:Int)] S nx (λL B nx'=>jd X B (λa=>nx<=a/\a<nx') L/\nx<=nx') zG:=by
 refine zB z (C6 X) ?_
 rw[C7]
 unfold wk
 have Xd:cq [.aw, .Z 0] [(0,1,aE)]=some (.agg [aE, .Z 0]):=by
  simp[cq,gE,gF,(fg W2).1,e5]
 refine cw @Xv @Ij @ζ ⟨?_⟩
 refine cz Xd ?_
 refine hl ⟨?_⟩
 generalize V4:aP X _ (nx+1) _=ay
 have X5:H X ay nx=zy [aE, .Z 0] 2:=by rw[<-V4,aV Zo Zo,a7 Vd];rfl
 have X8:H X ay (nx+1)=zy [.aw] 1:=by rw[<-V4,a7 Zo];rfl
 clear V4
 have XQ:eI X ay nx:=⟨Vd,_,aE,n,0,X5,rfl,rfl,W2,α,zc _,XT⟩
 refine cQ (λt B ah=>∃(M:Nat->Nat) (au:q) (T:List fu) (rows:List (List q)) (aH:List Nat) (c:F q),t.g 1=some (.int .u8 (T2:Int))/\t.g 5=some (.ptr nx 0)/\t.g 6=some (.ptr (nx+1) 0)/\T≠[]/\nx+2<=ah/\hf X B (nx+2) ah M au T rows aH/\eI X B nx/\H X B (nx+1)=some (.cells c 1 .own)/\c.get 0=some au) (λjbc Xp=> ?_) ?_
 ·refine cM (λm y B ah=>∃(i:Nat) (M:Nat->Nat) (au:q) (T:List fu) (rows:List (List q)) (aH:List Nat) (c:F q),y.g 1=some (.int .u8 (T2:Int))/\y.g 5=some (.ptr nx 0)/\y.g 6=some (.ptr (nx+1) 0)/\y.g 7=some (.Z (i:Int))/\i+m=3/\T.length=i/\nx+2<=ah/\hf X B (nx+2) ah M au T rows aH/\eI X B nx/\H X B (nx+1)=some (.cells c 1 .own)/\c.get 0=some au)
   3 ⟨0,λ_=>0, .aw,[],[],[],_,aI,aI,aI,cx,rfl,rfl,Zp _,⟨Zo, .inl (.inl ⟨rfl,rfl,rfl⟩),Zs,Zs,rfl,Zs,λi g row e=>by simp at e,Zs⟩,XQ,X8,rfl⟩ ?_
  rintro m y aM T6 ⟨i,M,au,T,rows,aH,Ug,C,t5,v,T3,ai,Ua,jaH,T4,V3,UJ,UK⟩
  refine ci @T3 @t5 ⟨?_⟩
  refine(eM z V3 (nx:=T6) (n:=3) Zo Zo Zo).Zm ?_
  rintro jao Um Wb ⟨VR,rfl,jaY,Vn,Vf⟩
  have jaI:=Vf.le
  have VM:∀a,a<T6->a≠nx->H X Um a=H X aM a:=λa f p=>Vf.R a f (by simpa using p)
  by_cases Vx:(i:Int)<=(VR:Int)
  ·have U6:decide ((i:Int)<=(VR:Int))=true:=by simp only[Zc];exact Vx
   have Uv:=zz i
   refine ci @U6 @t5 ⟨?_⟩
   refine(ki z Vn (nx:=Wb) Zo Zo).Zm ?_
   rintro jbg jap ψ ⟨s,rfl,η,XF,Vg⟩
   have jaJ:=Vg.le
   refine bB @t5 ⟨?_⟩
   refine(tn z XF (nx:=ψ) (n:=3) Zo Zo Zo Zo).Zm ?_
   rintro bx jaq TZ ⟨Ut,jau,VI,Vr,jaC,Xr,XG,Vh⟩
   have jaK:=Vh.le
   refine bB @t5 ⟨?_⟩
   refine(tn z XG (nx:=TZ) (n:=2) Zo Zo Zo Zo).Zm ?_
   rintro jbf Un Wc ⟨U9,jav,W9,UI,jaD,Xt,XH,Uz⟩
   have jaL:=Uz.le
   refine(sA z (nx:=Wc) (S:=Un) Zo).Zm ?_
   rintro jbh jar ω ⟨δ,β,Ve⟩
   refine bB @t5 ⟨?_⟩
   refine(eM z (XH.R (Ve.R _ Zo)) (nx:=ω) (n:=8) Zo Zo Zo).Zm ?_
   rintro u8 Uo Z ⟨VS,rfl,W6,XI,V0⟩
   have jaM:=V0.le
   have W7:=δ.R (B:=Uo) (λa f=>by subst f;exact V0.R _ β Zx)
   obtain⟨ty,μ⟩:∃ty,n9[VS]? =some ty:=⟨_,Ze W6⟩
   have Xo:=W7.cP VS W6
   have W8:=W7.row Zd (i:=VS) (r:=eP ty) (by rw[Zw,μ];rfl)
   have κ:eP ty=[.bool ty.b, .bool ty.s, .Z ty.w]:=rfl
   rw[κ]at W8
   refine ci @Xo @W8 ⟨?_⟩
   generalize V5:aP X Uo Z _=UQ
   have Wy:H X UQ Z=zy (bO ⟨gt,0,ty,[],0,false⟩) 8:=by rw[<-V5,a7 Zo];rfl
   have WL:∀a,a<Z->H X UQ a=H X Uo a:=λa f=>by rw[<-V5,aV Zo Zo]
   clear V5
   have WK:∀a,a<Wc->a≠nx->H X UQ a=H X Un a:=λa f p=>by rw[WL a Zo,V0.R a Zo (by simpa using p),Ve.R a f]
   have Xi:=tv U9
   obtain⟨bz,UR,VZ,XZ,VL,Xf,W0⟩:=(W9.R (B:=UQ) (λa f=>by have:=UI a f;exact WK a Zo Zo)).append (nx:=Z+1) (k:=1) Zd (hu Wy (dj _) rfl 1) rfl Zd rfl (by rw[Xi];simp[bO];omega) Zo (λa f=>zu (UI a f))
   refine eU XZ ?_
   have WN:∀a,a<TZ->a≠nx->H X UR a=H X Un a:=λa f p=>by rw[W0 a Zo (λe=>zu (UI a e)),WK a Zo p]
   refine bB @t5 ⟨?_⟩
   refine(tn z (XI.R (B:=UR) (by rw[W0 _ Zo (λe=>zu (UI _ e)),WL _ Zo])) (nx:=Z+1+1) (n:=3) Zo Zo Zo Zo).Zm ?_
   rintro Uk fw cI ⟨Uu,jaw,VJ,Vs,jaE,Xu,XJ,Vi⟩
   have jaN:=Vi.le
   obtain⟨Wq,Wr,_⟩:=cT.same VI
   obtain⟨Ws,Wt,_⟩:=Go.Q.c9.one VL
   obtain⟨Wu,Wv,_⟩:=cT.same VJ
   have Xg:cq [.str [], .Z 0, .aw, .aw, .aw, .aw] [(0,1, .str s),(2,1,bx),(3,1,bz),(4,1,Uk)]=some (.agg [.str s, .Z 0,bx,bz,Uk, .aw]):=by
    have cs:(q.str s).cells=[.str s]:=rfl
    simp[cq,gE,gF,Wq,Ws,Wu,cs,e5]
   refine cz Xg ?_
   refine bh ⟨?_⟩
   refine cz (e8 (k:=6) (b:=cI) (A:=0) (n:=6) (c:=F.ofList [.str [], .Z 0, .aw, .aw, .aw, .aw] 0 .nil) (a7 Zo) Zo rfl Zd Zd (by simp[q.cells,cN,Wr,Wt,Wv,show d5 (.str s)=true from rfl,show d5 (.Z 0)=true from rfl,show d5 .aw=true from rfl])) ?_
   generalize V6:aP X _ cI _=T9
   have np:H X T9 cI=zy [.str s, .Z 0,bx,bz,Uk, .aw] 6:=by rw[<-V6,a7 Zo];rfl
   have VO:∀a,a<cI->H X T9 a=H X fw a:=λa f=>by rw[<-V6,aV Zo Zo,aV Zo Zo]
   clear V6
   have VN:∀a,a<Z+1+1->a≠nx->H X T9 a=H X UR a:=λa f p=>by rw[VO a Zo,Vi.R a Zo (by simpa using p)]
   have ρ:∀a,a<T6->a≠nx->H X T9 a=H X aM a:=λa f p=>by
    have U2:a∉[nx]:=by simpa using p
    rw[VN a Zo p,WN a Zo p,Uz.R a Zo U2,Vh.R a Zo U2,Vg.R a Zo U2,VM a f p]
   obtain⟨b0,U5⟩:=(VI.R (B:=T9) λa f=>by have:=Vr a f;rw[VN a Zo Zo,WN a Zo Zo,Uz.R a Zo Zx]).qq (bm:=λa=>T6<=a/\a<TZ) Zd (by intro r K;obtain⟨d,_,rfl⟩:=ZB.1 K;rfl) (by rw[Zn];omega) (λa f=>zu (Vr a f))
   have WD:cT X UR bz 8 (((U9++[⟨gt,0,ty,[],0,false⟩]:List bv).map bO).flatten) VZ:=by rw[tw];exact .inl VL
   have Vv:∀a∈VZ,TZ<=a/\a<Z+1+1:=λa f=>by
    rcases Xf a f with rfl|e
    ·omega
    ·have:=UI a e;omega
   obtain⟨bb,UP⟩:=(WD.R (B:=T9) λa f=>by have:=Vv a f;exact VN a Zo Zo).qq (bm:=λa=>TZ<=a/\a<Z+1+1) Zd (by intro r K;obtain⟨d,_,rfl⟩:=ZB.1 K;rfl) (by rw[Zn];simp;omega) Vv
   obtain⟨b4,Wg⟩:=(VJ.R (B:=T9) λa f=>by have:=Vs a f;exact VO a Zo).qq (bm:=λa=>Z+1+1<=a/\a<cI) Zd (by intro r K;obtain⟨d,_,rfl⟩:=ZB.1 K;rfl) (by rw[Zn];omega) (λa f=>zu (Vs a f))
   have XU:lV X T9 T6 TZ (Z+1+1) cI (cI+1) cI s Ut (U9++[⟨gt,0,ty,[],0,false⟩]) Uu 0:=⟨⟨Zo,Zo,Zo,Zo,rfl,Zo⟩,λa=>if a<TZ then 1 else if a<Z+1+1 then 2 else 3,bx,bz,Uk, .aw,b0,bb,b4,_,[],[],[],
    λa f=>Zv f,λa x O=>(Zj Zo).trans (Zv O),λa x O=>(Zj Zo).trans (Zj Zo),np,dj _,U5,UP,Wg, .inl (.inl ⟨rfl,rfl,rfl⟩),Zs,rfl,Zs,rfl,Zs,λi J row e=>by simp at e⟩
   have XK:=XJ.R (VO _ Zo)
   clear U5 UP Wg VL WD VI W9 VJ np
   refine bB @t5 ⟨?_⟩
   refine(eM z XK (nx:=cI+1) (n:=5) Zo Zo Zo).Zm ?_
   rintro jbi VX jA ⟨rd,rfl,jaZ,XL,Vj⟩
   have Xy:=Vj.le
   have WO:∀a,a<cI+1->a≠nx->H X VX a=H X T9 a:=λa f p=>Vj.R a f (by simpa using p)
   have XV:=XU.R (B:=VX) (ah:=jA) (λa aE aW=>WO a Zo Zo) Xy
   refine cQ (λt B ah=>∃(k:Nat),k<=100/\t.g 1=some (.int .u8 (T2:Int))/\t.g 5=some (.ptr nx 0)/\t.g 6=some (.ptr (nx+1) 0)/\t.g 7=some (.Z (i:Int))/\t.g 8=some (.ptr cI 0)/\lV X B T6 TZ (Z+1+1) cI ah cI s Ut (U9++[⟨gt,0,ty,[],0,false⟩]) Uu k/\eI X B nx/\∀a,a<T6->a≠nx->H X B a=H X aM a) (λjbd Xq=> ?_) ?_
   ·refine cM (λT0 y B ah=>∃(k:Nat),k+T0<=5/\y.g 1=some (.int .u8 (T2:Int))/\y.g 5=some (.ptr nx 0)/\y.g 6=some (.ptr (nx+1) 0)/\y.g 7=some (.Z (i:Int))/\y.g 8=some (.ptr cI 0)/\y.g 9=some (.Z (T0:Int))/\lV X B T6 TZ (Z+1+1) cI ah cI s Ut (U9++[⟨gt,0,ty,[],0,false⟩]) Uu k/\eI X B nx/\∀a,a<T6->a≠nx->H X B a=H X aM a)
     rd ⟨0,Zo,al C,al t5,al v,al T3,aI,aI,XV,XL,λa f p=>by rw[WO a Zo p,ρ a f p]⟩ ?_
    clear C t5 v T3
    rintro T0 Wj T7 bT ⟨k,jaF,C,t5,v,T3,T8,t9,UA,UY,UD⟩
    obtain⟨WU,WV,WW,WX,WY,σ⟩:=id UA.le
    cases T0 with
    |zero=>
     have Us:decide ((0:Int)<((0:Nat):Int))=false:=rfl
     refine ci @t9 @Us ⟨?_⟩
     exact Xq _ _ _ ⟨k,Zo,al C,al t5,al v,al T3,al T8,UA,UY,UD⟩
    |succ T0=>
     have Us:decide ((0:Int)<((T0+1:Nat):Int))=true:=zK
     have Ww:ag .sub (.Z ((T0+1:Nat):Int)) (.Z 1)=some (.Z (T0:Int)):=by rw[g0 Zo Zo,show((T0+1:Nat):Int) -1=(T0:Int) by omega]
     refine cw @t9 @Us @t5 ⟨?_⟩
     refine(ki z UY (nx:=bT) Zo Zo).Zm ?_
     rintro jbj U7 b7 ⟨U5,rfl,WG,XM,Vk⟩
     have jaO:=Vk.le
     refine bh ⟨?_⟩
     generalize V8:aP X U7 b7 _=U8
     have X0:H X U8 b7=zy [.str U5] 1:=by rw[<-V8,a7 Zo]
     have WQ:∀a,a<b7->H X U8 a=H X U7 a:=λa f=>by rw[<-V8,aV Zo Zo]
     clear V8
     refine bB @t5 ⟨?_⟩
     refine(eM z (XM.R (WQ _ Zo)) (nx:=b7+1) (n:=7) Zo Zo Zo).Zm ?_
     rintro jbk UG t0 ⟨UO,rfl,jba,XN,V1⟩
     have jaP:=V1.le
     have Wx:ag .add (.Z 2) (.Z (UO:Int))=some (.Z ((2+UO:Nat):Int)):=by rw[ct Zo Zo];rfl
     refine bB @Wx ⟨?_⟩
     refine(FQ z (2+UO) Zo UG t0 XN Zo Zo).Zm ?_
     rintro dy jas UF ⟨Vp,XO,V2⟩
     have jaQ:=V2.le
     obtain⟨ar,b5,bn,ε,jaA⟩:=id Vp
     refine bB @t5 ⟨?_⟩
     refine(eM z XO (nx:=UF) (n:=9) Zo Zo Zo).Zm ?_
     rintro jbl Wi G ⟨at_,rfl,jaB,XP,UX⟩
     have jaR:=UX.le
     subst ε
     refine bh ⟨?_⟩
     generalize VA:aP X _ G _=c9
     have X4:H X c9 G=zy [.slice b7 0 1 1, .aw, .Z (at_:Int), .ptr bn 0] 4:=by rw[<-VA,a7 Zo];rfl
     have Uc:∀a,a<G->H X c9 a=H X Wi a:=λa f=>by rw[<-VA,aV Zo Zo,aV Zo Zo]
     clear VA
     refine bB @t5 ⟨?_⟩
     refine(eM z (XP.R (Uc _ Zo)) (nx:=G+1) (n:=4) Zo Zo Zo).Zm ?_
     rintro jbm TY nm ⟨VT,rfl,jbb,Vo,Vl⟩
     have jaS:=Vl.le
     have Ud:∀a,a<G+1->a≠nx->H X TY a=H X c9 a:=λa f p=>Vl.R a f (by simpa using p)
     have UW:H X TY G=zy [.slice b7 0 1 1, .aw, .Z (at_:Int), .ptr bn 0] 4:=by rw[Ud _ Zo Zo];exact X4
     have X6:H X TY b7=zy [.str U5] 1:=by rw[Ud _ Zo Zo,Uc _ Zo,UX.R _ Zo Zx,V2.R _ Zo Zx,V1.R _ Zo Zx];exact X0
     have Vq:fk X TY fE (dk t0 UF) (.ptr bn 0) (2+UO+1):=Vp.R λa f=>by have:=f.1;have:=f.2;rw[Ud _ Zo Zo,Uc _ Zo,UX.R _ Zo Zx]
     have WM:∀a,a<bT->a≠nx->H X TY a=H X T7 a:=λa f p=>by
      have U2:a∉[nx]:=by simpa using p
      rw[Ud _ Zo p,Uc _ Zo,UX.R _ Zo U2,V2.R _ Zo U2,V1.R _ Zo U2,WQ _ Zo,Vk.R _ f U2]
     refine hl ⟨?_⟩
     refine cQ (λt B ah=>∃(au:q) (left:List aT) (Ur:List Nat) (c:F q),t.g 1=some (.int .u8 (T2:Int))/\t.g 5=some (.ptr nx 0)/\t.g 6=some (.ptr (nx+1) 0)/\t.g 7=some (.Z (i:Int))/\t.g 8=some (.ptr cI 0)/\t.g 9=some (.Z ((T0+1:Nat):Int))/\t.g 10=some (.ptr G 0)
      /\nm<=ah/\H X B G=some (.cells c 4 .own)/\dF c [au, .aw, .Z (at_:Int), .ptr bn 0]/\cT X B au 1 (left.map q.str) Ur/\left.length<=2/\(∀a∈Ur,bT<=a/\a<ah/\a≠G/\¬(t0<=a/\a<UF))/\(∀w∈left,w∈gq)/\fk X B fE (dk t0 UF) (.ptr bn 0) (2+UO+1)/\eI X B nx/\∀a,a<bT->a≠nx->H X B a=H X T7 a) (λjbe Vy=> ?_) ?_
     ·have WA:cT X TY (.slice b7 0 1 1) 1 ([U5].map q.str) [b7]:= .inr ⟨b7,1,_, .own,rfl,rfl,rfl,X6,dj _,rfl,Zo⟩
      by_cases x:(VT:Int)=1
      ·have Uw:decide ((VT:Int)=1)=true:=by simp only[Zc];exact x
       have Wa:∀B,Go.Q.H X B G=zy [.slice b7 0 1 1, .aw, .Z (at_:Int), .ptr bn 0] 4->W X B (.ptr G 0)=some (.slice b7 0 1 1):=λB e=>by rw[aZ e];rfl
       have φ:=Wa TY UW
       refine cw @Uw @φ @t5 ⟨?_⟩
       refine(ki z Vo (nx:=nm+8) Zo Zo).Zm ?_
       rintro jbn US gr ⟨UP,rfl,ν,XR,Vm⟩
       have jaT:=Vm.le
       have g1:∀a,a<nm->a≠nx->H X US a=H X TY a:=λa f p=>Vm.R a Zo (by simpa using p)
       have χ:=Wa US (by rw[g1 _ Zo Zo];exact UW)
       refine bB @χ ⟨?_⟩
       refine eV (by simp[q.same]) ?_
       generalize VB:aP X US (nm+4) _=Up
       have go:H X Up (nm+4)=zy [.str UP] 1:=by rw[<-VB,a7 Zo]
       have Ue:∀a,a≠nm+4->H X Up a=H X US a:=λa f=>by rw[<-VB,aV Zo f]
       clear VB
       obtain⟨VW,VY,Wp,Xb,WE,Vw,VH⟩:=(WA.R (B:=Up) (λa f=>by simp at f;subst f;rw[Ue _ Zo,g1 _ Zo Zo])).append (nx:=gr) (k:=1) Zd (hu go (dj _) rfl 1) rfl Zd rfl Zs Zo (λa f=>by simp at f;omega)
       refine eU Xb ?_
       obtain⟨UM,UN,_⟩:=Go.Q.c9.one WE
       have Uy:H X VY G=zy [.slice b7 0 1 1, .aw, .Z (at_:Int), .ptr bn 0] 4:=by rw[VH _ Zo Zx,Ue _ Zo,g1 _ Zo Zo];exact UW
       refine bh ⟨?_⟩
       refine cz (kr Uy Zo Zo UM UN) ?_
       refine bh ⟨?_⟩
       have UE:∀a,a<nm->a≠nx->a≠G->a≠b7->H X (aP X VY G (some (.cells ((F.ofList [.slice b7 0 1 1, .aw, .Z (at_:Int), .ptr bn 0] 0 .nil).set 0 (some VW)) 4 .own))) a=H X TY a:=λa f p x O=>by
        rw[aV Zo x,VH a Zo Zx,Ue a Zo,g1 a f p]
       refine Vy _ _ _ ⟨VW,[U5,UP],Wp,_,al C,al t5,al v,al T3,al T8,al t9,aI,Zo,a7 Zo,dF.set (dj [.slice b7 0 1 1, .aw, .Z (at_:Int), .ptr bn 0]) Zs VW, .inl (WE.R λa f=>aV Zo (λj=> ?_)),Zs,λa f=> ?_,λw U4=> ?_,Vq.R λa f=> ?_,XR.R ?_,λa f p=>by rw[UE a Zo p Zo Zo,WM a f p]⟩
       ·rcases Vw a f with e|e
        ·omega
        ·simp at e;omega
       ·rcases Vw a f with rfl|e
        ·exact⟨Zo,Zo,Zo,Zo⟩
        ·simp at e;subst e;exact⟨Zo,Zo,Zo,Zo⟩
       ·simp at U4;rcases U4 with rfl|rfl
        ·exact WG
        ·exact ν
       ·have:=f.1;have:=f.2
        exact UE a Zo Zo Zo Zo
       ·rw[aV Zo Zo,VH _ Zo Zx,Ue _ Zo]
      ·have Uw:decide ((VT:Int)=1)=false:=by simp only[Zb];exact x
       refine bB @Uw ⟨?_⟩
       exact Vy _ _ _ ⟨.slice b7 0 1 1,[U5],[b7],_,al C,al t5,al v,al T3,al T8,al t9,aI,Zp _,UW,dj _,WA,Zs,λa f=>by simp at f;subst f;exact⟨Zo,Zo,Zo,Zo⟩,λw U4=>by simp at U4;subst U4;exact WG,Vq,Vo,WM⟩
     ·clear C t5 v T3 T8 t9
      rintro jat UH T1 ⟨au,left,Ur,jay,C,t5,v,T3,T8,t9,jan,jaW,Uy,Xh,VK,jaU,Xe,Xz,XY,XS,UE⟩
      obtain⟨b,Ub⟩:=VK.qp (P:=λa=>((cI<a/\a<T1)/\bT<=a/\a≠T1+1)/\(if t0<=a/\a<UF then 0 else 1)=1) Zx (λa f=>by have:=Xe a f;exact⟨⟨⟨Zo,Zo⟩,Zo,Zo⟩,Zj this.2.2.2⟩)
      rw[YH]at Ub
      have Ub:cg X UH _ b au 1 (dr left):=Ub
      have jaX:T1<T1+1+1:=Zo
      have Xx:=rR Uy Xh rfl
      obtain⟨Wh,jak,jal,jam,jaj,Wk,Wl,Wm,Va,eqs,Wd,UV,WH,WI,WJ,Vb,Vc,jab,jac,jad,jae,U0,jaf,We,jag,jah,jai⟩:=UA.ex
      have τ:W X UH (.ptr cI 5)=some jaj:=by rw[bX,UE cI Zo Zo,Vb];exact Vc 5
      obtain⟨jbo,π⟩:=cT.HG VK
      have W4:=pz π (at_:Int) (.ptr bn 0) rfl
      refine cw @T8 @τ @jan ⟨?_⟩
      refine cz Xx ?_
      obtain⟨jaz,_,_⟩:=cT.same VK
      have θ:dz 1 [.aw, .aw, .Z 0, .bt] [(0,4, .agg [au, .aw, .Z (at_:Int), .ptr bn 0])] T1=some (.slice T1 0 1 1, .cells (F.ofList [au, .aw, .Z (at_:Int), .ptr bn 0] 0 .nil) 4 .own):=by
       simp[dz,gE,gF,e5,q.cells]
      refine cz θ ?_
      refine bh ⟨?_⟩
      generalize VC:aP X UH T1 _=UT
      have XA:H X UT T1=zy [au, .aw, .Z (at_:Int), .ptr bn 0] 4:=by rw[<-VC,a7 Zo]
      have WS:∀a,a<T1->H X UT a=H X UH a:=λa f=>by rw[<-VC,aV Zo Zo]
      clear VC
      have ο:=ix (rows:=Wd) (an:=4) (λr K=>(We r K).1)
      have WP:∀a,a<bT->a≠nx->H X UT a=H X T7 a:=λa f p=>by rw[WS a Zo,UE a f p]
      obtain⟨VV,Uq,Wo,Xc,WB,Vt,Vz⟩:=(jae.R (B:=UT) (λa f=>by have:=U0 a f;exact WP a Zo Zo)).append (nx:=T1+1) (k:=1) Zd (hu XA (dj _) rfl 1) rfl Zd W4 (by rw[ο];simp;omega) Zo (λa f=>zu (U0 a f))
      refine eU Xc ?_
      obtain⟨UM,UN,_⟩:=Go.Q.c9.one WB
      have X7:H X Uq cI=some (.cells Va 6 .own):=by rw[Vz _ Zo (λe=>zu (U0 _ e)),WP _ Zo Zo];exact Vb
      refine bB @T8 ⟨?_⟩
      refine cz (kr X7 Zo Zo UM UN) ?_
      generalize VD:aP X Uq cI _=UU
      have XC:H X UU cI=some (.cells (Va.set 5 (some VV)) 6 .own):=by rw[<-VD,a7 Zo]
      have WT:∀a,a≠cI->H X UU a=H X Uq a:=λa f=>by rw[<-VD,aV Zo f]
      clear VD
      have Uf:∀a,a<T1->a≠cI->a∉UV->H X UU a=H X UH a:=λa f x O=>by rw[WT a x,Vz a Zo O,WS a f]
      have UL:∀a,a<bT->a≠nx->a≠cI->a∉UV->H X UU a=H X T7 a:=λa f p x O=>by rw[Uf a Zo x O,UE a f p]
      have UZ:∀a,Wh a≠4->a∉UV:=λa f e=>f (U0 a e).2.2
      refine ci @t9 @Ww ⟨?_⟩
      refine⟨T0,Zo,k+1,Zo,al C,al t5,al v,al T3,al T8,aI,⟨⟨WU,WV,WW,WX,WY,Zo⟩,λa=>if a<bT then Wh a else if a=T1+1 then 4 else 5+k,jak,jal,jam,VV,Wk,Wl,Wm,_,eqs++[⟨left,at_, .ptr bn 0⟩],Wd++[[au, .aw, .Z (at_:Int), .ptr bn 0]],Wo,λa f=>(Zv Zo).trans (WH a f),λa x O=>(Zv Zo).trans (WI a x O),λa x O=>(Zv Zo).trans (WJ a x O),XC,dF.set Vc Zs VV,jab.R λa f=>UL a Zo Zo Zo (UZ a (by rw[WH a f.2];decide)),jac.R λa f=>UL a Zo Zo Zo (UZ a (by rw[WI a f.1 f.2];decide)),jad.R λa f=>UL a Zo Zo Zo (UZ a (by rw[WJ a f.1 f.2];decide)), ?_,λa f=> ?_,Zx,λr K=> ?_,Zx,λJ UB w U4=> ?_,λE jaa VU UC T5=> ?_⟩,XS.R ?_,λa f p=> ?_⟩
      ·rw[YG]
       have:([[au, .aw, .Z (at_:Int), .ptr bn 0]]:List (List q)).flatten=[au, .aw, .Z (at_:Int), .ptr bn 0]:=by simp
       rw[this]
       exact .inl (WB.R λa f=>WT a (λj=>by
        rcases Vt a f with e|e
        ·omega
        ·have:=U0 a e;omega))
      ·rcases Vt a f with rfl|e
       ·exact⟨Zo,Zo,(Zj Zo).trans (Zv rfl)⟩
       ·have:=U0 a e
        exact⟨Zo,Zo,(Zv Zo).trans this.2.2⟩
      ·rcases Zr.1 K with K|K
       ·exact We r K
       ·simp at K;subst K;exact⟨rfl,W4⟩
      ·rcases Zr.1 UB with UB|UB
       ·exact jah J UB w U4
       ·simp at UB;subst UB;exact Xz w U4
      ·by_cases VE:E<eqs.length
       ·rw[ZA VE]at UC
        rw[ZA Zo]at T5
        refine(jai E jaa VU UC T5).to (λa f=>UL a Zo Zo Zo (UZ a Zo)) (λa f=>⟨Zo,(Zv Zo).trans f.2⟩) λa f=>Zo
       ·have VG:=(Zf.1 UC).1
        simp at VG
        have VF:E=eqs.length:=Zo
        subst VF
        rw[Zy (Zp _),YV]at UC
        rw[Zy Zo,jaf,YV]at T5
        simp at UC T5
        subst UC T5
        have W3:∀a,bT<=a->a∉UV:=λa f e=>zu (U0 a e)
        rw[jag]
        refine⟨λa=>if t0<=a/\a<UF then 0 else 1,au,b,rfl, ?_, ?_⟩
        ·exact(Ub.R λa f=>Uf a Zo Zo (W3 a Zo)).lift λa f=>⟨⟨Zo,(Zj Zo).trans (Zj Zo)⟩,f.2⟩
        ·refine XY.to (λa f=>by have:=f.1;have:=f.2;exact Uf a Zo Zo (W3 a Zo)) (λa f=> ?_) (λa f=>Zo)|>.lift (λ_ e=>e) (λa f=>Zo) Zo
         have:=f.1
         have:=f.2
         exact⟨⟨⟨Zo,Zo⟩,(Zj Zo).trans (Zj Zo)⟩,Zv ⟨f.1,f.2⟩⟩
      ·exact Uf _ Zo Zo (λe=>zu (U0 _ e))
      ·rw[UL a Zo p Zo (λe=>zu (U0 _ e)),UD a f p]
   ·rintro Wj T7 ne ⟨k,Xs,C,t5,v,T3,T8,UA,UY,UD⟩
    obtain⟨WU,WV,WW,WX,WY,σ⟩:=UA.le
    obtain⟨g,Ui,Uj,Ul,Uh,jax,Xm,X1,X2,γ,XW⟩:=UA.done Xs η Xr ⟨U9,ty,rfl,Xt⟩ Xu ⟨Zo,Zx,Zo⟩
    have W5:H X T7 (nx+1)=some (.cells Ug 1 .own):=by rw[UD _ Zo Zo];exact UJ
    have υ:W X T7 (.ptr (nx+1) 0)=some au:=by rw[aZ W5];exact UK
    have Xw:=rR X1 X2 rfl
    refine cw @v @T8 @υ ⟨?_⟩
    refine cz Xw ?_
    refine bh ⟨?_⟩
    generalize V7:aP X T7 (ne+6) _=U7
    have Wz:H X U7 (ne+6)=zy [.str s, .Z 0,Ui,Uj,Ul,Uh] 6:=by rw[<-V7,a7 Zo]
    have VP:∀a,a≠ne+6->H X U7 a=H X T7 a:=λa f=>by rw[<-V7,aV Zo f]
    clear V7
    have ξ:=ix T4.wd
    have U3:=T4.aH
    have Xl:=T4.len
    obtain⟨Wf,U8,Wn,Xa,WC,Vu,W1⟩:=(T4.ie.R (B:=U7) (λa f=>by have:=U3 a f;rw[VP a Zo,UD a Zo Zo])).append (nx:=ne+11) (k:=1) Zd (hu Wz (dj _) rfl 1) rfl Zd γ (by rw[ξ];simp;omega) Zo (λa f=>zu (U3 a f))
    refine eU Xa ?_
    obtain⟨UM,UN,_⟩:=Go.Q.c9.one WC
    have X9:H X U8 (nx+1)=some (.cells Ug 1 .own):=by rw[W1 _ Zo (λe=>zu (U3 _ e)),VP _ Zo];exact W5
    refine bh ⟨?_⟩
    refine cz (kr X9 Zo Zo UM UN) ?_
    generalize V9:aP X U8 (nx+1) _=UG
    have X3:H X UG (nx+1)=some (.cells (Ug.set 0 (some Wf)) 1 .own):=by rw[<-V9,a7 Zo]
    have WR:∀a,a≠nx+1->H X UG a=H X U8 a:=λa f=>by rw[<-V9,aV Zo f]
    clear V9
    have VQ:∀a,a≠nx+1->a≠ne+6->a≠ne+11->a∉aH->H X UG a=H X T7 a:=λa x O XD XE=>by rw[WR a x,W1 a XD XE,VP a O]
    refine ci @T3 @Uv ⟨?_⟩
    refine⟨m-1,Zo,i+1,λa=>if a<T6 then M a else if a=ne+11 then 1 else 2+i,Wf,T++[g],rows++[[.str s, .Z 0,Ui,Uj,Ul,Uh]],Wn,_,al C,al t5,al v,aI,Zo,Zx,Zo,⟨Zo, ?_,λa f=> ?_,λr K=> ?_,Zx,Zx,λE Ux VU gk T5=> ?_,λUx gk=> ?_⟩,UY.R (VQ nx Zo Zo Zo (λe=>zu (U3 _ e))),X3,by rw[F.gj,Zv rfl]⟩
    ·rw[YG]
     have:([[.str s, .Z 0,Ui,Uj,Ul,Uh]]:List (List q)).flatten=[.str s, .Z 0,Ui,Uj,Ul,Uh]:=by simp
     rw[this]
     exact .inl (WC.R λa f=>WR a (λj=>by
      rcases Vu a f with e|e
      ·omega
      ·have:=U3 a e;omega))
    ·rcases Vu a f with rfl|e
     ·exact⟨Zo,Zo,by rw[Zj Zo,Zv rfl]⟩
     ·have:=U3 a e
      exact⟨Zo,Zo,by rw[Zv this.2.1];exact this.2.2⟩
    ·rcases Zr.1 K with K|K
     ·exact T4.wd r K
     ·simp at K;subst K;rfl
    ·by_cases VE:E<T.length
     ·rw[ZA VE]at gk
      rw[ZA Zo]at T5
      refine(T4.jA E Ux VU gk T5).to (λa f=> ?_) (λa f=>⟨f.1,Zo,by rw[Zv f.2.1];exact f.2.2⟩) λa f=>Zo
      rw[VQ a Zo Zo Zo (λe=>zu (U3 a e)),UD a Zo Zo]
     ·have VG:=(Zf.1 gk).1
      simp at VG
      have VF:E=T.length:=Zo
      subst VF
      rw[Zy (Zp _),YV]at gk
      rw[Zy Zo,Xl,YV]at T5
      simp at gk T5
      subst gk T5
      refine XW.to (λa f=>VQ a Zo Zo Zo (λe=>zu (U3 a e))) (λa f=>⟨Zo,Zo,by rw[Zj Zo,Zj Zo,Ua]⟩) λa f=>Zo
    ·rcases Zr.1 gk with gk|gk
     ·exact T4.ok Ux gk
     ·simp at gk;subst gk;exact Xm
  ·have U6:decide ((i:Int)<=(VR:Int))=false:=by simp only[Zb];exact Vx
   refine bB @U6 ⟨?_⟩
   refine Xp _ _ _ ⟨M,au,T,rows,aH,Ug,al C,al t5,al v,λj=>by subst j;simp at Ua;omega,Zo, ?_,Vn,by rw[VM _ Zo Zo];exact UJ,UK⟩
   have U1:=T4.R (B:=Um) λa aE aW=>VM a aW Zo
   exact⟨U1.aN,U1.ie,λa f=>zu (U1.aH a f),U1.wd,U1.len,U1.ea,λE g row Xj K=>(U1.jA E g row Xj K).to (λ_ _=>rfl) (λa f=>Zo) λa f=>Zo,U1.ok⟩
 ·rintro y aM aL ⟨M,au,T,rows,aH,c,C,t5,v,Xk,jaG,T4,V3,UJ,UK⟩
  show N _ _
  by_cases WF:(0:Int)<(T2:Int)
  ·have U6:decide ((0:Int)<(T2:Int))=true:=by simp only[Zc];exact WF
   have Uv:iQ .i64 (.int .u8 (T2:Int))=some (.Z (T2:Int)):=xn Zo Zo
   refine db @C @U6 @v @t5 @Uv ⟨?_⟩
   refine(Kw z V3 T4 (bU:=nx+1) Zo Zo Zo (nx:=aL) Zo Zo Xk Zo ⟨c,UJ,UK⟩ ι).Zm ?_
   rintro jao Um Wb ⟨⟨XB,XX,Ua,Xn⟩,jaV⟩
   refine bB @v ⟨?_⟩
   exact⟨⟨XB,XX.R (λ_ _=>rfl) (λa f=>by rcases f with rfl|f<;>omega),Ua,Xn⟩,Zo⟩
  ·have U6:decide ((0:Int)<(T2:Int))=false:=by simp only[Zb];exact WF
   refine cw @C @U6 @v ⟨?_⟩
   exact⟨T4.made (λa aE aW=>Zo) Zo (by rw[aZ UJ];exact UK),Zo⟩
end
section
variable{X:bQ}{S B cE ay aM:F ac}{nx nx' aG aL bw:Nat}{bm d0 P:Nat->Prop}
def I9(b:Nat):bZ X S .eql 59 true (.ptr b 0) .bt=some .zF:=Zk
def Ae:bZ X S .eql 59 true .bt .bt=some .zT:=Zk
def uB(T1:dV X){b:Nat}{au:q}{ds:List bv}(U1:(o X).aN<=nx)(v:cg X S P b au 8 (ds.map bO))(T2:∀a,P a->a<nx)(U4:ds.length<=1000):
 aJ X 21 [au] S nx (λL B nx'=>∃aH,cT X B L 8 (ds.map bO).flatten aH/\(∀a∈aH,nx<=a/\a<nx')/\aX X S nx B nx') zG:=by
 refine zB T1 (Ci X) ?_
 rw[Cj]
 unfold vV
 have t:=v.len
 rw[Zn]at t
 refine bh ⟨?_⟩
 refine cM (λm y B ah=>∃(E:Nat) (s:q) (aH:List Nat),y.g 0=some au/\y.g 3=some s/\y.g 4=some (.Z (E:Int))/\E+m=ds.length/\cT X B s 8 ((ds.take E).map bO).flatten aH/\(∀a∈aH,nx<=a/\a<ah)/\aX X S nx B ah)
  ds.length ⟨0, .aw,[],aI,aI,cx,Zo, .inl (.inl ⟨rfl,rfl,rfl⟩),Zs,aX.refl _ _⟩ ?_
 rintro m y ay aG ⟨E,s,aH,t0,t3,t4,U2,w,f,g⟩
 have U3:=g.le
 cases m with
 |zero=>
  have d:=zv E ds.length
  rw[Zt Zo]at w
  refine db @t4 @t0 @t @d @t3 ⟨?_⟩
  exact⟨aH,w,f,g⟩
 |succ m=>
  have O:=zw E ds.length
  have Z:=zz E
  obtain⟨d,x⟩:=zx ds E
  have T7:=v.cP E (by rw[Zn];omega)
  have z:=(v.R (λa c=>g.R a (T2 a c))).row (i:=E) (r:=bO d) Zd (by rw[Zw,x];rfl)
  have T5:bO d=[.str d.name, .Z d.at_, .bool d.ty.b, .bool d.ty.s, .Z d.ty.w, .str d.on, .Z d.dg, .bool d.no]:=rfl
  rw[T5]at z
  refine bo @t4 @t0 @t @O @t3 @T7 @z ⟨?_⟩
  generalize p:aP X ay aG _=n
  have T0:H X n aG=zy (bO d) 8:=by rw[<-p,a7 Zo];rfl
  have C:∀a,a<aG->H X n a=H X ay a:=λa c=>by rw[<-p,aV Zo Zo]
  clear p
  have T6:=tv (ds.take E)
  have TY:(ds.take E).length=E:=by rw[Yq];omega
  obtain⟨TZ,U0,G,T3,T9,T4,T8⟩:=(w.R (B:=n) (λa c=>C a (f a c).2)).append (nx:=aG+1) (k:=1) Zd (hu T0 (dj _) rfl 1) rfl Zd rfl (by rw[T6,TY];simp[bO];omega) Zo (λa c=>zu (f a c))
  refine eU T3 ?_
  refine ci @t4 @Z ⟨?_⟩
  refine⟨m,Zo,E+1,TZ,G,al t0,aI,aI,Zo,by rw[ZG,x,zk,tw];exact .inl T9,λa c=> ?_,Zo,λa c=> ?_⟩
  ·rcases T4 a c with rfl|c
   ·omega
   ·have:=f a c;omega
  ·rw[T8 a Zo (λe=>zu (f a e)),C a Zo,g.R a c]
def dt.snoc{C:ax}{S:F ac}{P:Nat->Prop}{j:bg}{v:q}(c:bR C S P j v):∀{ak:List bg}{aB:List q},dt C S P ak aB->dt C S P (ak++[j]) (aB++[v]):=by
 intro ak
 induction ak with
 |nil=>intro aB e;unfold dt at e;subst e;show dt C S P [j] [v];unfold dt;exact⟨v,[],rfl,c,by unfold dt;rfl⟩
 |cons a h U=>
  intro aB e
  unfold dt at e
  obtain⟨w,b,rfl,d,f⟩:=e
  show dt C S P (a::(h++[j])) (w::(b++[v]))
  unfold dt
  exact⟨w,b++[v],rfl,d,U f⟩
def bR.val{C:ax}{S:F ac}{P:Nat->Prop}{j:bg}{v:q}(e:bR C S P j v):v.cells=[v]/\d5 v=true/\(v= .bt\/∃b,v= .ptr b 0):=by
 by_cases a:j.kind= -1
 ·rw[e.nil a];exact⟨rfl,rfl, .inl rfl⟩
 ·obtain⟨b,_,_,_,rfl,_⟩:=e.root a
  exact⟨rfl,rfl, .inr ⟨b,rfl⟩⟩
def IG(UN:dV X):∀(bT:Nat) (j:bg),SizeOf.sizeOf j<bT->∀(S:F ac) (nx:Nat) (P:Nat->Prop) (v:q),(o X).aN<=nx->bR X S P j v->(∀f,P f->f<nx)->
 aJ X 22 [v] S nx (λL B nx'=>bR X B (dk nx nx') j L/\aX X S nx B nx') zG:=by
 intro bT
 induction bT with
 |zero=>intro j e;omega
 |succ bT U=>
  intro j Ug S nx P v Uf U7 T6
  refine zB UN (Ck X) ?_
  rw[Cl]
  unfold vW
  by_cases C:j.kind= -1
  ·rw[U7.nil C]
   refine bB @Ae ⟨?_⟩
   refine⟨?_,aX.refl _ _⟩
   cases j with
   |mk k a nm no t n args=>unfold bR;exact .inl ⟨C,rfl⟩
  ·obtain⟨b,au,bL,aB,rfl,Y,a0,aE,aW,a3,a4,a5,dS,dW,dA,U1,has⟩:=U7.root C
   have UQ:=T6 b Y
   have O:=U1.len
   have UV:=has.len
   have U8:=U1.many
   rw[Zn]at O U8
   rw[UV]at O U8
   refine bo @I9 @a0 @aE @aW @a3 @a4 (Za @a5 (Za @dS @dW)) ⟨?_⟩
   generalize T7:aP X S (nx+25) _=ay
   have U6:H X ay (nx+25)=zy (c2 j.kind j.at_ j.name j.no j.ty j.n .aw) 9:=by rw[<-T7,a7 Zo];rfl
   have bc:∀f,f≠nx+25->H X ay f=H X S f:=λf g=>by rw[<-T7,aV Zo g]
   clear T7
   refine cM (λm y B ah=>∃(E:Nat) (s:q) (T1:List q) (aH:List Nat) (c:F q),y.g 0=some (.ptr b 0)/\y.g 3=some (.ptr (nx+25) 0)/\y.g 4=some (.Z (E:Int))/\E+m=j.args.length/\nx+27<=ah/\H X B (nx+25)=some (.cells c 9 .own)/\dF c (c2 j.kind j.at_ j.name j.no j.ty j.n s)
    /\cT X B s 1 T1 aH/\(∀f∈aH,nx+27<=f/\f<ah)/\dt X B (λf=>(nx+27<=f/\f<ah)/\f∉aH) (j.args.take E) T1/\aX X S nx B ah)
    j.args.length ⟨0, .aw,[],[],_,aI,aI,cx,Zo,Zp _,U6,dj _, .inl (.inl ⟨rfl,rfl,rfl⟩),Zs,by show dt _ _ _ [] [];unfold dt;rfl,Zo,λf g=>bc f Zo⟩ ?_
   clear U6 bc
   rintro m y aM aL ⟨E,s,T1,aH,c,t0,t3,t4,Uh,Uk,T4,U0,U2,p,x,r⟩
   have Ui:=r.le
   have UE:W X aM (.ptr b 8)=some au:=by rw[r.cW _ _ UQ];exact dA
   cases m with
   |zero=>
    have d:=zv E j.args.length
    rw[Zt Zo]at x
    refine dp @t4 @t0 @UE @O @d @t3 ⟨?_⟩
    refine⟨?_,r⟩
    obtain⟨Ue,UR⟩:=U2.qp (P:=dk nx aL) (by rw[x.len];omega) (λf g=>by have:=p f g;exact⟨Zo,Zo⟩)
    have:=bR.of (P:=dk nx aL) C T4 (λi v UU=>by rw[U0 i];exact UU) ⟨Zo,Zo⟩ UR (dt.to (λ_ _=>rfl) (λf g=>⟨Zo,g.1.2⟩) _ _ x)
    cases j;exact this
   |succ m=>
    have d:=zw E j.args.length
    have UG:=zz E
    obtain⟨a,TY⟩:=zx j.args E
    obtain⟨w,UW,UP⟩:=has.get E a TY
    have UC:∀f,P f->H X aM f=H X S f:=λf g=>r.R f (T6 f g)
    obtain⟨Ub,Uc,Um⟩:=(U1.R UC).one UW
    have UD:W X aM (.ptr (nx+25) 8)=some s:=by rw[aZ T4,U0 8];rfl
    have Ul:=AO (Zg TY)
    refine bo @t4 @t0 @UE @O @d @t3 (Za @UD (Za @Ub @Uc)) ⟨?_⟩
    refine(U a Zo aM (aL+18) P w Zo (bR.to UC (λ_ e=>e) _ _ UP) (λf g=>zu (T6 f g))).Zm ?_
    rintro L T2 UF ⟨UA,T5⟩
    have Uj:=T5.le
    obtain⟨Uo,Ud,UT⟩:=bR.val UA
    have US:dz 1 [.bt] [(0,1,L)] (aL+13)=some (.slice (aL+13) 0 1 1, .cells (F.ofList [L] 0 .nil) 1 .own):=by rcases UT with rfl|⟨Un,rfl⟩<;>rfl
    refine cz US ?_
    have UY:W X T2 (.ptr (nx+25) 8)=some s:=by rw[T5.cW _ _ Zo];exact UD
    refine bB @UY ⟨?_⟩
    refine eV (cT.same U2).2.2 ?_
    generalize T8:aP X T2 (aL+13) _=z
    have UH:H X z (aL+13)=zy [L] 1:=by rw[<-T8,a7 Zo]
    have UB:∀f,f≠aL+13->H X z f=H X T2 f:=λf g=>by rw[<-T8,aV Zo g]
    clear T8
    have Z:∀f,f<aL->H X z f=H X aM f:=λf g=>by rw[UB f Zo,T5.R f Zo]
    have UX:=x.len
    obtain⟨U3,T3,U5,UO,U9,TZ,G⟩:=(U2.R (B:=z) (λf g=>Z f (p f g).2)).append (nx:=UF) (k:=1) Zd (hu UH (dj _) rfl 1) rfl Zd (by simp[Go.Q.cN,Ud]) (by rw[UX,Yq];simp;omega) Zo (λf g=>zu (p f g))
    refine eU UO ?_
    obtain⟨UZ,Ua,_⟩:=c9.one U9
    have UI:H X T3 (nx+25)=some (.cells c 9 .own):=by rw[G _ Zo (λe=>zu (p _ e)),Z _ Zo];exact T4
    refine bh ⟨?_⟩
    refine cz (kr UI Zo Zo UZ Ua) ?_
    generalize T9:aP X T3 (nx+25) _=U4
    have UJ:H X U4 (nx+25)=some (.cells (c.set 8 (some U3)) 9 .own):=by rw[<-T9,a7 Zo]
    have T0:∀f,f≠nx+25->H X U4 f=H X T3 f:=λf g=>by rw[<-T9,aV Zo g]
    clear T9
    refine ci @t4 @UG ⟨?_⟩
    refine⟨m,Zo,E+1,U3,T1++[L],U5,_,al t0,al t3,aI,Zo,Zo,UJ,dF.set U0 (by simp[c2]) U3, .inl (U9.R λf g=>T0 f (λj=> ?_)),λf g=> ?_, ?_,Zo,λf g=> ?_⟩
    ·rcases TZ f g with e|e
     ·omega
     ·have:=p f e;omega
    ·rcases TZ f g with rfl|e
     ·omega
     ·have:=p f e;omega
    ·rw[ZG,TY,zk]
     have cf:∀f,f∉aH->f≠UF->f∉U5:=λf UK UL UM=>by
      rcases TZ f UM with e|e
      ·exact UL e
      ·exact UK e
     refine dt.snoc (bR.to (λf g=> ?_) (λf g=>⟨by have:=g.1;have:=g.2;omega,cf f (λe=>by have:=p f e;have:=g.1;omega) (zu g.2)⟩) _ _ UA) (dt.to (λf g=> ?_) (λf g=>⟨Zo,cf f g.2 Zo⟩) _ _ x)
     ·have:=g.1
      have:=g.2
      rw[T0 f Zo,G f Zo (λe=>zu (p f e)),UB f Zo]
     ·rw[T0 f Zo,G f Zo g.2,Z f Zo]
    ·rw[T0 f Zo,G f Zo (λe=>zu (p f e)),Z f Zo,r.R f g]
end
end
end Go.Proofs.YtmipngjbcdamjaaGreatDoor

