/- Part of the proof of the last text; no conditions -/
import Derived.Test.YtpeabpmnlmaabaaGreatDoorYd
import Derived.ChangeReads
import GoSem.ClaimJoined
import Derived.Lib.Bytealg
import Derived.LaidLaws
set_option maxHeartbeats 8000000
set_option linter.all false
namespace Go.bd
noncomputable section
open Go.RowKit (Below)
abbrev xj:=Option (List D×Nat×List (Nat×af))
def FD(P:Program)(next:Nat->DataW Unit->Nat->xj):List Field->List (DataW Unit)->Nat->Nat->xj
 |[],[],_,n=>some ([],n,[])
 |f::jF,d::ds,off,n=>bW (Nat.beq f.offset off) (match next f.type d n with
  |some (l,aO,os)=>bW (Nat.beq l.length (P.cellsOf f.type)) (match FD P next jF ds (off+l.length) aO with
   |some (cR,aZ,uj)=>some (l++cR,aZ,os++uj)
   |none=>none) none
  |none=>none) none
 |_,_,_,_=>none
def IT(P:Program)(next:Nat->DataW Unit->Nat->xj)(E:Nat):List (DataW Unit)->Nat->xj
 |[],n=>some ([],n,[])
 |d::ds,n=>match next E d n with
  |some (l,aO,os)=>bW (Nat.beq l.length (P.cellsOf E)) (match IT P next E ds aO with
   |some (cR,aZ,uj)=>some (l++cR,aZ,os++uj)
   |none=>none) none
  |none=>none
def Mi:Lit->Option D
 | .bool b=>some (.bool b)
 | .int z n=>some (.int z n)
 | .string s=>some (.str (s.map (·.toNat)))
 |_=>none
def Wv(P:Program)(E:Nat)(l:List D):Option D:=match P.underlying E with
 |some (.struct _)=>some (.agg l)
 |some (.array _ _)=>some (.agg l)
 |some _=>(match l with|[v]=>some v|_=>none)
 |none=>none
def QT(P:Program)(z:Nat):Bool:=match P.underlying z with|some .bool=>true|some (.int _)=>true|some .string=>true|_=>false
def Mn(P:Program)(next:Nat->DataW Unit->Nat->xj)(E:Nat):List (Lit×DataW Unit)->Nat->Option (List (D×D)×Nat×List (Nat×af))
 |[],n=>some ([],n,[])
 |(key,d)::cb,n=>match Mi key,next E d n with
  |some IS,some (l,aO,os)=>(match Wv P E l,Mn P next E cb aO with
   |some v,some (r,aZ,uj)=>some ((IS,v)::r,aZ,os++uj)
   |_,_=>none)
  |_,_=>none
def Jr(l:List D):af:= .cells (Q.ofList l 0 .nil) l.length .own
def yl(P:Program):Nat->Nat->DataW Unit->Nat->xj
 |0,_,_,_=>none
 |m+1,t,d,n=>match P.underlying t,d with
  |some .bool, .lit (.bool b)=>some ([.bool b],n,[])
  |some (.int _), .lit (.int z i)=>some ([.int z i],n,[])
  |some .string, .lit (.string s)=>some ([.str (s.map (·.toNat))],n,[])
  |some (.pointer _), .nil=>some ([.cJ],n,[])
  |some (.pointer E), .ptr d=>(match yl P m E d (n+1)with
   |some (l,aO,os)=>bW (Nat.beq l.length (P.cellsOf E)&&Nat.blt 0 l.length) (some ([.ptr n 0],aO,(n,Jr l)::os)) none
   |none=>none)
  |some (.slice _), .nil=>some ([.aV],n,[])
  |some (.slice E), .slice cb ajw=>(match ajw with
   |[]=>(match IT P (yl P m) E cb (n+1)with
    |some (l,aO,os)=>bW (Nat.blt 0 l.length) (some ([.slice n 0 cb.length cb.length],aO,(n,Jr l)::os)) none
    |none=>none)
   |_::_=>none)
  |some (.struct jF), .agg ds=>(match FD P (yl P m) jF.toList ds 0 n with
   |some (l,aO,os)=>bW (Nat.beq l.length (P.cellsOf t)) (some (l,aO,os)) none
   |none=>none)
  |some (.array _ E), .agg ds=>(match IT P (yl P m) E ds n with
   |some (l,aO,os)=>bW (Nat.beq l.length (P.cellsOf t)) (some (l,aO,os)) none
   |none=>none)
  |some (.interface _), .nil=>some ([.nilIface],n,[])
  |some (.map _ _), .nil=>some ([.mF],n,[])
  |some (.map z E), .map cb=>bW (QT P z) (match Mn P (yl P m) E cb (n+1)with
   |some (r,aO,os)=>some ([.map n],aO,(n, .look r)::os)
   |none=>none) none
  |_,_=>none
section
variable{C:aK}{P:Program}{w:World}
def tg(w:World)(dq:List MemPlace):Prop:=∀b off,MemPlace.cell b off∈dq->∃c t,w.heap[b]? =some (.cells c t (0,0))
def G4(W:af):Prop:=∀C ad,xl C ad W
def Lays(C:aK)(w:World)(n:Nat)(cs:List Value)(r:List D×Nat×List (Nat×af)):Prop:=
 n<=r.2.1/\(∀x∈r.2.2,n<=x.1/\x.1<r.2.1/\G4 x.2)/\∃f:Nat->m8,∀T ad,(∀b,n<=b->b<r.2.1->T b=f b/\ad b)->cs=b4 T r.1/\ew ad r.1/\∀x∈r.2.2,kA C T ad x.2 (T x.1) w
def Lays.plain{n:Nat}{cs:List Value}{l:List D}(a:∀T ad,cs=b4 T l/\ew ad l):Lays C w n cs (l,n,[]):=
 ⟨Zj _,Zs,λ_=>default,λT ad _=>⟨(a T ad).1,(a T ad).2,Zs⟩⟩
def Lays.app{n aO aZ:Nat}{sp S2:List Value}{eo cR:List D}{aiI uj:List (Nat×af)}(M:Lays C w n sp (eo,aO,aiI))(R:Lays C w aO S2 (cR,aZ,uj)):Lays C w n (sp++S2) (eo++cR,aZ,aiI++uj):=by
 obtain⟨bb,b5,eR,a3⟩:=M
 obtain⟨bY,co,fk,cY⟩:=R
 refine⟨ZB bb bY, ?_,λb=>if b<aO then eR b else fk b, ?_⟩
 ·intro x ae
  rcases Zz.1 ae with a|a
  ·obtain⟨cN,cA,eb⟩:=b5 x a
   exact⟨cN,ZN cA bY,eb⟩
  ·obtain⟨cN,cA,eb⟩:=co x a
   exact⟨ZB bb cN,cA,eb⟩
 ·intro T ad dR
  obtain⟨cX,dN,g6⟩:=a3 T ad (λb M R=>by
   have HT:b<aO:=R
   have:=dR b M (ZN R bY)
   simp only[Zr HT]at this
   exact this)
  obtain⟨cT,cy,e1⟩:=cY T ad (λb M R=>by
   have uU:¬b<aO:=zo.2 M
   have:=dR b (ZB bb M) R
   simp only[Zh uU]at this
   exact this)
  refine⟨by rw[Eg, <-cX, <-cT],Ca dN cy, ?_⟩
  intro x ae
  rcases Zz.1 ae with a|a
  ·exact g6 x a
  ·exact e1 x a
def FP{α eZ:Type}{f:α->Option eZ}:∀{l:List α}{r:List eZ},l.mapM f=some r->r.length=l.length/\∀(i:Nat) (H:α) (b:eZ),l[i]? =some H->r[i]? =some b->f H=some b:=by
 intro l
 induction l with
 |nil=>intro r a;simp at a;subst a;simp
 |cons H l ai=>
  intro r a
  simp only[za,Option.bind_eq_bind,ZY]at a
  obtain⟨b,ag,ia,Y,a⟩:=a
  simp at a;subst a
  obtain⟨M,R⟩:=ai Y
  refine⟨by simp[M],λi fL dM az km=> ?_⟩
  cases i with
  |zero=>simp at az km;subst az;subst km;exact ag
  |succ i=>exact R i fL dM (by simpa using az) (by simpa using km)
def ah7{α eZ:Type}{f:α->Option eZ}{H:α}{l:List α}{r:List eZ}(a:(H::l).mapM f=some r):∃b ia,r=b::ia/\f H=some b/\l.mapM f=some ia:=by
 simp only[za,Option.bind_eq_bind,ZY]at a
 obtain⟨b,ag,ia,Y,a⟩:=a
 simp at a;subst a
 exact⟨b,ia,rfl,ag,Y⟩
def tg.of{dq c9:List MemPlace}(a:tg w dq)(aD:∀x∈c9,x∈dq):tg w c9:=λb off ag=>a b off (aD _ ag)
def NF(C:aK)(w:World)(next:Nat->DataW Unit->Nat->xj)(eM:TypeId->List Value->Option (DataW Unit×List MemPlace)):Prop:=
 ∀t d n r,next t d n=some r->∀cs dq,eM t cs=some (d,dq)->tg w dq->Lays C w n cs r
variable{next:Nat->DataW Unit->Nat->xj}{eM:TypeId->List Value->Option (DataW Unit×List MemPlace)}
def ayE(jV:NF C w next eM){cs:List Value}:∀(jF:List Field) (ds:List (DataW Unit)) (off n:Nat) (r:List D×Nat×List (Nat×af)),FD P next jF ds off n=some r->
 ∀cn:List (DataW Unit×List MemPlace),(jF.mapM λf=>eM f.type ((cs.drop f.offset).take (P.cellsOf f.type)))=some cn->cn.map (·.1)=ds->tg w (cn.flatMap (·.2))->Lays C w n ((cs.drop off).take r.1.length) r:=by
 intro jF
 induction jF with
 |nil=>
  intro ds off n r a cn _ _ _
  cases ds with
  |nil=>simp[FD]at a;subst a;exact .plain λT ad=>⟨by simp[b4],trivial⟩
  |cons d ds=>simp[FD]at a
 |cons f jF ai=>
  intro ds off n r a cn ae aF ch
  cases ds with
  |nil=>simp[FD]at a
  |cons d ds=>
   simp only[FD,e7]at a
   obtain⟨Vu,a⟩:=a
   have Vu:=Zn Vu
   split at a
   ·rename_i l aO os Y
    simp only[e7]at a
    obtain⟨aC,a⟩:=a
    have aC:=Zn aC
    split at a
    ·rename_i cR aZ uj hy
     simp at a;subst a
     obtain⟨e,m6,rfl,B,V1⟩:=ah7 ae
     simp at aF
     obtain⟨rfl,aF⟩:=aF
     have M:=jV _ _ _ _ Y _ e.2 (by rw[B]) (ch.of (by intro x ae;simp;exact .inl ae))
     have R:=ai ds (off+l.length) aO _ hy m6 V1 aF (ch.of (by intro x ae;simp only[YW,Zz];exact .inr ae))
     rw[Vu, <-aC]at M
     have:=M.app R
     simp only[ZH]
     rw[List.take_add,zl]
     exact this
    ·simp at a
   ·simp at a
def ad2(cs:List Value)(z:Nat):∀(m i0:Nat),(List.range' i0 m).flatMap (λi=>(cs.drop (i*z)).take z)=(cs.drop (i0*z)).take (m*z):=by
 intro m
 induction m with
 |zero=>intro i0;simp
 |succ m ai=>
  intro i0
  rw[List.range'_succ,YW,ai,Z0 m 1 z,Nat.one_mul,Nat.add_comm (m*z) z,List.take_add,zl,Z0 i0 1 z,Nat.one_mul]
def ahL(jV:NF C w next eM){E:Nat}{g:Nat->List Value}:∀(ds:List (DataW Unit)) (i0 n:Nat) (r:List D×Nat×List (Nat×af)),IT P next E ds n=some r->
 ∀cn:List (DataW Unit×List MemPlace),((List.range' i0 ds.length).mapM λi=>eM E (g i))=some cn->cn.map (·.1)=ds->tg w (cn.flatMap (·.2))->Lays C w n ((List.range' i0 ds.length).flatMap g) r/\r.1.length=ds.length*P.cellsOf E:=by
 intro ds
 induction ds with
 |nil=>
  intro i0 n r a cn _ _ _
  simp[IT]at a;subst a
  exact⟨.plain λT ad=>⟨by simp[b4],trivial⟩,Zs⟩
 |cons d ds ai=>
  intro i0 n r a cn ae aF ch
  simp only[IT]at a
  split at a
  ·rename_i l aO os Y
   simp only[e7]at a
   obtain⟨aC,a⟩:=a
   have aC:=Zn aC
   split at a
   ·rename_i cR aZ uj hy
    simp at a;subst a
    simp only[ZF,List.range'_succ]at ae
    obtain⟨e,m6,rfl,B,V1⟩:=ah7 ae
    simp at aF
    obtain⟨rfl,aF⟩:=aF
    have M:=jV _ _ _ _ Y _ e.2 (by rw[B]) (ch.of (by intro x ae;simp;exact .inl ae))
    obtain⟨R,ak⟩:=ai (i0+1) aO _ hy m6 V1 aF (ch.of (by intro x ae;simp only[YW,Zz];exact .inr ae))
    refine⟨?_, ?_⟩
    ·simp only[ZF,List.range'_succ,YW]
     exact M.app R
    ·simp only[ZH,ZF,ak,aC,Nat.succ_mul]
     omega
   ·simp at a
  ·simp at a
end
end
noncomputable section
open Go.RowKit (Below)
section
variable{C:aK}{P:Program}{w:World}
def SS{H:Addr}{v:Value}(a:w.cell? H=some v):H.spot=none/\∃cp ty vi,w.heap[H.block]? =some (.cells cp ty vi)/\cp[H.off]? =some v:=by
 unfold World.cell? at a
 split at a
 ·rename_i c ty vi ag
  split at a
  ·cases a
  ·rename_i aD
   refine⟨?_,c,ty,vi,ag,a⟩
   cases b0:H.spot with
   |none=>rfl
   |some x=>rw[b0]at aD;exact absurd rfl aD
 ·cases a
def Sp(H:Addr)(S:Nat):(H.add S).block=H.block:=by unfold Addr.add;split<;>rfl
def acl(H:Addr)(S:Nat):(H.add S).off=H.off+S:=by unfold Addr.add;split<;>simp_all
def SV{H:Addr}{z:Nat}{g:List Value}{cp:Array Value}{ty:TypeId}{vi:Nat×Nat}(ag:w.heap[H.block]? =some (.cells cp ty vi))(a:w.cells? 0 H z=some g):g=(cp.toList.drop H.off).take z/\g.length=z:=by
 unfold World.cells? at a
 rw[Zr (YK _)]at a
 obtain⟨M,R⟩:=FP a
 rw[List.length_range]at M
 have key:∀S,S<z->cp[H.off+S]? =g[S]? :=by
  intro S bE
  have b2:g[S]? =some g[S]:=Ze Zo
  have:=R S S g[S] (by simp[bE]) b2
  obtain⟨_,Hj,aDD,aGN,cN,cA⟩:=SS this
  rw[Sp,ag]at cN
  cases cN
  rw[acl]at cA
  rw[cA,b2]
 refine⟨Y9 λS=> ?_,M⟩
 by_cases bE:S<z
 ·rw[YX bE,YH, <-key S bE];simp
 ·rw[Z4 Zo,Z4 Zx]
def W0(l:List D):G4 (Jr l):=λ_ _=>⟨λ_ _ _ a=>(by cases a),λ_ _ _ a=>(by cases a;exact Jb)⟩
def aAi(l:List (D×D)):G4 (.look l):=λ_ _=>⟨λ_ _ _ a=>(by cases a),λ_ _ _ a=>(by cases a)⟩
def Xp{T:db}{ad:Nat->Prop}{l:List D}{pl:m8}{cp:Array Value}{ty:TypeId}(ag:w.heap[pl.cL]? =some (.cells cp ty (0,0)))(aC:(cp.toList.drop pl.ei).take l.length=b4 T l)(g:ew ad l)(ch:0<l.length):kA C T ad (Jr l) pl w:=by
 have fg:l.length<=cp.size-pl.ei:=by
  have:=congrArg List.length aC
  rw[ki]at this
  simp at this
  omega
 refine⟨cp,ty,0,0,ag,rfl,Zo,λi v bB=> ?_⟩
 rw[mZ]at bB
 have aG:i<l.length:=(Zc.1 bB).1
 refine⟨?_,Cb g bB⟩
 have:=congrArg (λx:List Value=>x[i]?) aC
 simp only[YX aG,YH,ZO,BW,bB,ZT]at this
 exact this
def Lays.block{n aO:Nat}{os:List (Nat×af)}{cs:List Value}{l:List D}{ac:D}{x:Value}{cU:af}(pl:m8)(a:Lays C w (n+1) cs (l,aO,os))(bf:G4 cU)
 (h7:∀T ad,T n=pl->ad n->cs=b4 T l->ew ad l->kA C T ad cU pl w/\x=aQ T ac/\cm ad ac):Lays C w n [x] ([ac],aO,(n,cU)::os):=by
 obtain⟨bb,b5,f,a3⟩:=a
 have bb:n+1<=aO:=bb
 refine⟨by simp only;omega, ?_,λb=>if b=n then pl else f b, ?_⟩
 ·intro e B
  rcases Zt.1 B with rfl|B
  ·exact⟨Zj _,by simp only;omega,bf⟩
  ·obtain⟨cN,cA,eb⟩:=b5 e B
   exact⟨Zo,cA,eb⟩
 ·intro T ad dR
  have aE:=dR n (Zj _) (by simp only;omega)
  simp only[ZE]at aE
  obtain⟨cX,dN,g6⟩:=a3 T ad (λb M R=>by
   have:=dR b Zo R
   have dQ:b≠n:=Zo
   simp only[Zh dQ]at this
   exact this)
  obtain⟨fd,fX,hZ⟩:=h7 T ad aE.1 aE.2 cX dN
  refine⟨by simp[b4,fX],⟨hZ,trivial⟩, ?_⟩
  intro e B
  rcases Zt.1 B with rfl|B
  ·simp only[aE.1];exact fd
  ·exact g6 e B
def aiS{α eZ:Type}{f:α->eZ}{H m:List eZ}(a:H.Perm m):∀l:List α,l.map f=H->∃ce:List α,ce.Perm l/\ce.map f=m:=by
 induction a with
 |nil=>intro l a;simp at a;subst a;exact⟨[], .refl _,rfl⟩
 |cons x _ ai=>
  intro l a
  cases l with
  |nil=>simp at a
  |cons e l=>
   simp at a
   obtain⟨ce,M,R⟩:=ai l a.2
   exact⟨e::ce,M.cons e,by simp[a.1,R]⟩
 |swap x e fy=>
  intro l a
  cases l with
  |nil=>simp at a
  |cons p l=>
   cases l with
   |nil=>simp at a
   |cons aj l=>
    simp at a
    obtain⟨rfl,rfl,rfl⟩:=a
    exact⟨aj::p::l, .swap _ _ _,Zs⟩
 |trans _ _ V3 L5=>
  intro l a
  obtain⟨eo,M,R⟩:=V3 l a
  obtain⟨cR,ak,aA⟩:=L5 eo R
  exact⟨cR,ak.trans M,aA⟩
def insert_perm{ti:Type}(x:Lit×DataW ti):∀l,(DataW.insert x l).Perm (x::l):=by
 intro l
 induction l with
 |nil=>exact .refl _
 |cons e l ai=>
  simp only[DataW.insert]
  split
  ·exact .refl _
  ·exact(ai.cons e).trans (.swap _ _ _)
def sorted_perm{ti:Type}:∀l:List (Lit×DataW ti),(l.foldr DataW.insert []).Perm l:=by
 intro l
 induction l with
 |nil=>exact .refl _
 |cons x l ai=>exact(insert_perm x _).trans (ai.cons x)
def ayc{z:Nat}{v:Value}{key:Lit}{IS:D}(aw:QT P z=true)(a:keyOf P z v=some key)(aJ:Mi key=some IS)(T:db)(ad:Nat->Prop):v=aQ T IS/\cm ad IS:=by
 unfold QT at aw
 unfold keyOf at a
 have E:mapKey P z v=some key:=by
  cases bg:P.underlying z with
  |none=>rw[bg]at aw;cases aw
  |some ac=>rw[bg]at a aw;cases ac<;>first|exact a|cases aw
 unfold mapKey at E
 split at E
 ·simp at E;subst E;simp[Mi]at aJ;subst aJ;exact⟨rfl,trivial⟩
 ·split at E
  ·rename_i aj Ge n _ b0
   simp at E;subst E;simp[Mi]at aJ;subst aJ
   exact⟨by rw[b0.1];rfl,trivial⟩
  ·cases E
 ·split at E
  ·rename_i s _ _
   simp at E;subst E;simp[Mi]at aJ;subst aJ
   refine⟨by simp only[aQ];rw[SI], ?_⟩
   intro x ae
   simp at ae
   obtain⟨b,_,rfl⟩:=ae
   exact b.toNat_lt
  ·cases E
 ·cases E
def aDY{E:Nat}{v:Value}{l:List D}{ac:D}{T:db}{ad:Nat->Prop}(b7:v.formed P E=true)(bg:Wv P E l=some ac)(ax:v.cells.toList=b4 T l)(g:ew ad l):v=aQ T ac/\cm ad ac:=by
 unfold Wv at bg
 unfold Value.formed at b7
 cases aF:P.underlying E with
 |none=>rw[aF]at bg;cases bg
 |some M7=>
  rw[aF]at bg b7
  have agg:(∃cs,v= .agg cs)->ac= .agg l->v=aQ T ac/\cm ad ac:=by
   rintro⟨cs,rfl⟩ rfl
   refine⟨?_,g⟩
   simp only[Value.cells]at ax
   simp only[aQ, <-ax]
  have aCr:v.cells= #[v]->(∃x,l=[x]/\ac=x)->v=aQ T ac/\cm ad ac:=by
   rintro M ⟨x,rfl,rfl⟩
   rw[M]at ax
   simp[b4]at ax
   exact⟨ax,g.1⟩
  cases v<;>cases M7<;>simp only at b7 bg<;>first
   |(cases b7;done)
   |(simp at bg;exact agg ⟨_,rfl⟩ bg.symm)
   |(
     split at bg
     ·simp at bg;exact aCr rfl ⟨_,rfl,bg.symm⟩
     ·cases bg)
end
end
noncomputable section
open Go.RowKit (Below)
section
variable{C:aK}{P:Program}{w:World}
variable{next:Nat->DataW Unit->Nat->xj}{eM:TypeId->List Value->Option (DataW Unit×List MemPlace)}
def ayD(jV:NF C w next eM){z E:Nat}(aw:QT P z=true):∀(cb:List (Lit×DataW Unit)) (n:Nat) (r:List (D×D)×Nat×List (Nat×af)),Mn P next E cb n=some r->
 ∀kg:List (MapEntry×((Lit×DataW Unit)×List MemPlace)),kg.map (·.2.1)=cb->(∀bm∈kg,keyOf P z bm.1.key=some bm.2.1.1/\bm.1.val.formed P E=true/\eM E bm.1.val.cells.toList=some (bm.2.1.2,bm.2.2)/\tg w bm.2.2)->
 n<=r.2.1/\(∀x∈r.2.2,n<=x.1/\x.1<r.2.1/\G4 x.2)/\r.1.length=kg.length/\∃f:Nat->m8,∀T ad,(∀b,n<=b->b<r.2.1->T b=f b/\ad b)->
  kg.map (·.1)=(List.zipWith (λ(p:D×D) (bm:MapEntry×((Lit×DataW Unit)×List MemPlace))=>(p.1,p.2,bm.1.born)) r.1 kg).map (ms T)/\(∀p∈r.1,cm ad p.1/\cm ad p.2)/\∀x∈r.2.2,kA C T ad x.2 (T x.1) w:=by
 intro cb
 induction cb with
 |nil=>
  intro n r a kg H4 _
  simp[Mn]at a;subst a
  simp at H4;subst H4
  exact⟨Zj _,Zs,rfl,λ_=>default,λT ad _=>⟨rfl,Zs,Zs⟩⟩
 |cons H cb ai=>
  obtain⟨key,d⟩:=H
  intro n r a kg H4 k0
  simp only[Mn]at a
  split at a
  ·rename_i IS l aO os avw aE
   split at a
   ·rename_i v jZ aZ uj bB Y
    simp at a;subst a
    cases kg with
    |nil=>simp at H4
    |cons bm kg=>
     simp at H4
     obtain⟨IG,IH⟩:=H4
     obtain⟨bI,bN,cH,dg⟩:=k0 bm (Zv ..)
     rw[IG]at bI cH
     obtain⟨bb,b5,eR,a3⟩:=jV _ _ _ _ aE _ _ cH dg
     obtain⟨bY,co,b3,fk,cY⟩:=ai aO _ Y kg IH (λbm ch=>k0 bm (Zw _ ch))
     have bb:n<=aO:=bb
     have bY:aO<=aZ:=bY
     refine⟨ZB bb bY, ?_,by simpa using b3,λb=>if b<aO then eR b else fk b, ?_⟩
     ·intro x ae
      rcases Zz.1 ae with aj|aj
      ·obtain⟨cN,cA,eb⟩:=b5 x aj
       exact⟨cN,ZN cA bY,eb⟩
      ·obtain⟨cN,cA,eb⟩:=co x aj
       exact⟨ZB bb cN,cA,eb⟩
     ·intro T ad dR
      obtain⟨cX,dN,g6⟩:=a3 T ad (λb M R=>by
       have HT:b<aO:=R
       have:=dR b M (ZN R bY)
       simp only[Zr HT]at this
       exact this)
      obtain⟨cT,cy,e1⟩:=cY T ad (λb M R=>by
       have uU:¬b<aO:=zo.2 M
       have:=dR b (ZB bb M) R
       simp only[Zh uU]at this
       exact this)
      obtain⟨bQ,ct⟩:=ayc aw bI avw T ad
      obtain⟨kQ,kx⟩:=aDY bN bB cX dN
      refine⟨?_, ?_, ?_⟩
      ·simp only[ZP,List.zipWith_cons_cons,cT]
       congr 1
       obtain⟨⟨aHk,aHl,aHj⟩,_⟩:=bm
       simp only[ms]at bQ kQ ⊢
       rw[<-bQ, <-kQ]
      ·intro p aw
       rcases Zt.1 aw with rfl|aw
       ·exact⟨ct,kx⟩
       ·exact cy p aw
      ·intro x ae
       rcases Zz.1 ae with aj|aj
       ·exact g6 x aj
       ·exact e1 x aj
   ·simp at a
  ·simp at a
def akA{kg:List (MapEntry×((Lit×DataW Unit)×List MemPlace))}:∀(r:List (D×D)) (kg:List (MapEntry×((Lit×DataW Unit)×List MemPlace))),r.length=kg.length->
 (List.zipWith (λ(p:D×D) (bm:MapEntry×((Lit×DataW Unit)×List MemPlace))=>(p.1,p.2,bm.1.born)) r kg).map (λE=>(E.1,E.2.1))=r:=by
 intro r
 induction r with
 |nil=>intro kg _;simp
 |cons p r ai=>
  intro kg a
  cases kg with
  |nil=>simp at a
  |cons bm kg=>simp[ai kg (by simpa using a)]
def azm{α eZ:Type}{f g:α->Option eZ}:∀{l:List α},(∀x∈l,f x=g x)->l.mapM f=l.mapM g:=by
 intro l
 induction l with
 |nil=>intro _;rfl
 |cons H l ai=>intro a;simp[za,a H Zs,ai λx ae=>a x (by simp[ae])]
def asn{α eZ:Type}{f g:α->List eZ}:∀{l:List α},(∀x∈l,f x=g x)->l.flatMap f=l.flatMap g:=by
 intro l
 induction l with
 |nil=>intro _;rfl
 |cons H l ai=>intro a;simp[YW,a H Zs,ai λx ae=>a x (by simp[ae])]
end
end
noncomputable section
open Go.RowKit (Below)
section
variable{C:aK}{P:Program}{w:World}
abbrev rd(P:Program)(w:World)(aj:Nat):TypeId->List Value->Option (DataW Unit×List MemPlace):=DataW.trod (λ_=>()) P w 0 (λ_=>true) false aj
def Q4{H:Addr}{z:Nat}(a:0<z):MemPlace.cell H.block H.off∈MemPlace.row H z:=by
 unfold MemPlace.row
 exact ZI.2 ⟨0,by simp[a],Zs⟩
def ahN:∀(m aj:Nat),NF C w (yl P m) (rd P w aj):=by
 intro m
 induction m with
 |zero=>intro aj t d n r a;simp[yl]at a
 |succ m ai=>
  intro aj t d n r a cs dq Y ch
  cases aj with
  |zero=>simp[rd,DataW.trod]at Y
  |succ aj=>
   have L6:=ai aj
   simp only[yl]at a
   split at a
   ·
    rename_i b bg
    simp at a;subst a
    match cs with
    |[]=>simp[rd,DataW.trod,bg]at Y
    |_::_::_=>simp[rd,DataW.trod,bg]at Y
    |[c]=>
     cases c<;>simp[rd,DataW.trod,bg]at Y
     obtain⟨rfl,rfl⟩:=Y
     exact .plain λT ad=>⟨rfl,trivial,trivial⟩
   ·
    rename_i eY z i bg
    simp at a;subst a
    match cs with
    |[]=>simp[rd,DataW.trod,bg]at Y
    |_::_::_=>simp[rd,DataW.trod,bg]at Y
    |[c]=>
     cases c<;>simp[rd,DataW.trod,bg]at Y
     obtain⟨⟨rfl,_⟩,⟨rfl,rfl⟩,rfl⟩:=Y
     exact .plain λT ad=>⟨rfl,trivial,trivial⟩
   ·
    rename_i s bg
    simp at a;subst a
    match cs with
    |[]=>simp[rd,DataW.trod,bg]at Y
    |_::_::_=>simp[rd,DataW.trod,bg]at Y
    |[c]=>
     cases c<;>simp[rd,DataW.trod,bg]at Y
     obtain⟨_,rfl,rfl⟩:=Y
     refine .plain λT ad=>⟨by simp only[b4,aQ];rw[SI], ?_,trivial⟩
     intro x ae
     simp at ae
     obtain⟨b,_,rfl⟩:=ae
     exact b.toNat_lt
   ·
    rename_i E bg
    simp at a;subst a
    match cs with
    |[]=>simp[rd,DataW.trod,bg]at Y
    |_::_::_=>simp[rd,DataW.trod,bg]at Y
    |[c]=>
     cases c<;>simp[rd,DataW.trod,bg]at Y
     rename_i H
     cases H with
     |none=>exact .plain λT ad=>⟨rfl,trivial,trivial⟩
     |some H=>simp[ZY]at Y
   ·
    rename_i E d bg
    split at a
    ·rename_i l aO os aC
     simp only[e7,Zp,Zf]at a
     obtain⟨⟨M,R⟩,rfl⟩:=a
     have M:=Zn M
     have R:=l1 R
     match cs with
     |[]=>simp[rd,DataW.trod,bg]at Y
     |_::_::_=>simp[rd,DataW.trod,bg]at Y
     |[c]=>
      cases c<;>simp[rd,DataW.trod,bg]at Y
      rename_i W
      cases W with
      |none=>simp at Y
      |some H=>
       simp only[ZY,Function.comp,Yg,YN,DataW.ptr.injEq]at Y
       obtain⟨dc,ax,x,ae,rfl,rfl⟩:=Y
       obtain⟨cp,ty,ag⟩:=ch H.block H.off (Zz.2 (.inl (Q4 Zo)))
       obtain⟨bI,bN⟩:=SV ag ax
       have Fi:H.spot=none:=by
        unfold World.cells? at ax
        rw[Zr (YK _)]at ax
        obtain⟨bQ,ct⟩:=FP ax
        have:=ct 0 0 dc[0] (by rw[List.getElem?_range Zo]) (Ze Zo)
        exact(SS (show w.cell? H=some _ from this)).1
       have AL:=L6 _ _ _ _ aC dc x.2 ae (ch.of λe B=>Zz.2 (.inr B))
       refine Lays.block ⟨H.block,H.off,0⟩ AL (W0 l) λT ad dR fU it b2=>⟨Xp ag ?_ b2 R, ?_,fU⟩
       ·simp only
        rw[M, <-bI,it]
       ·simp only[aQ,dR]
        obtain⟨ra,apE,cu⟩:=H
        have Fi:cu=none:=Fi
        subst Fi
        rfl
    ·simp at a
   ·
    rename_i E bg
    simp at a;subst a
    match cs with
    |[]=>simp[rd,DataW.trod,bg]at Y
    |_::_::_=>simp[rd,DataW.trod,bg]at Y
    |[c]=>
     cases c<;>(try(simp[rd,DataW.trod,bg]at Y;done))
     rename_i H len cap
     cases H with
     |none=>
      simp only[rd,DataW.trod,bg]at Y
      split at Y<;>simp_all
      exact .plain λT ad=>⟨rfl,trivial,trivial⟩
     |some H=>
      simp[rd,DataW.trod,bg,ZY]at Y
   ·
    rename_i E cb ajw bg
    split at a
    ·split at a
     ·rename_i l aO os aC
      simp only[e7,Zf]at a
      obtain⟨R,rfl⟩:=a
      have R:=l1 R
      match cs with
      |[]=>simp[rd,DataW.trod,bg]at Y
      |_::_::_=>simp[rd,DataW.trod,bg]at Y
      |[c]=>
       cases c<;>(try(simp[rd,DataW.trod,bg]at Y;done))
       rename_i W len cap
       cases W with
       |none=>
        simp only[rd,DataW.trod,bg]at Y
        split at Y<;>simp_all
       |some H=>
        simp only[rd,DataW.trod,bg]at Y
        split at Y
        ·rename_i nh
         simp only[ZY,Yg,YN,DataW.slice.injEq,ZE]at Y
         obtain⟨Tl,bC,rest,yf,⟨bz,cF⟩,rfl⟩:=Y
         have awv:rest=[]:=by simpa using cF
         subst awv
         obtain⟨bQ,_⟩:=FP yf
         obtain⟨ct,c1⟩:=FP bC
         simp at bQ ct
         have hx:cap=len:=Zo
         subst hx
         have fg:cb.length=cap:=by rw[<-bz];simp[ct]
         simp only[Z5,ZR,Yt]at ch
         obtain⟨jw,j0⟩:=ahL (C:=C) (w:=w) L6 (E:=E) (g:=λi=>(w.cells? 0 (H.add (i*P.cellsOf E)) (P.cellsOf E)).getD []) cb 0 (n+1) _ aC Tl
          (by
           rw[fg, <-List.range_eq_range']
           rw[<-bC]
           have k0:∀i∈List.range cap,(w.cells? 0 (H.add (i*P.cellsOf E)) (P.cellsOf E)).isSome=true:=by
            intro i aG
            have lJ:i<cap:=by simpa using aG
            have:=c1 i i Tl[i] (by simp[lJ]) (Ze Zo)
            simp only[ZY]at this
            obtain⟨dB,cN,_⟩:=this
            rw[cN];rfl
           exact azm λi aG=>by
            have:=k0 i aG
            cases b0:w.cells? 0 (H.add (i*P.cellsOf E)) (P.cellsOf E)with
            |none=>rw[b0]at this;cases this
            |some dB=>simp)
          bz (ch.of λe B=>Zz.2 (.inr B))
         simp only at j0
         have Iv:0<cap*P.cellsOf E:=by rw[<-fg, <-j0];exact R
         obtain⟨cp,ty,ag⟩:=ch H.block H.off (Zz.2 (.inl (Q4 (by rw[ct];exact Iv))))
         have aJ:0<P.cellsOf E:=Nat.pos_of_mul_pos_left Iv
         have tH:0<cap:=Nat.pos_of_mul_pos_right Iv
         have U:∀i,i<cap->∃dB,w.cells? 0 (H.add (i*P.cellsOf E)) (P.cellsOf E)=some dB:=by
          intro i lJ
          have:=c1 i i Tl[i] (by simp[lJ]) (Ze Zo)
          simp only[ZY]at this
          obtain⟨dB,cN,_⟩:=this
          exact⟨dB,cN⟩
         have Fi:H.spot=none:=by
          obtain⟨dB,cN⟩:=U 0 tH
          have ni:=(SV (H:=H.add (0*P.cellsOf E)) (by rw[Sp];exact ag) cN).2
          unfold World.cells? at cN
          rw[Zr (YK _)]at cN
          obtain⟨_,ct⟩:=FP cN
          have:=ct 0 0 dB[0] (by rw[List.getElem?_range Zo]) (Ze Zo)
          have aX:(H.add (0*P.cellsOf E)).add 0=H:=by simp[Addr.add]
          rw[aX]at this
          exact(SS this).1
         have ava:(List.range' 0 cb.length).flatMap (λi=>(w.cells? 0 (H.add (i*P.cellsOf E)) (P.cellsOf E)).getD [])=(cp.toList.drop H.off).take (cap*P.cellsOf E):=by
          rw[fg]
          have:∀i∈List.range' 0 cap,(w.cells? 0 (H.add (i*P.cellsOf E)) (P.cellsOf E)).getD []=((cp.toList.drop H.off).drop (i*P.cellsOf E)).take (P.cellsOf E):=by
           intro i aG
           have lJ:i<cap:=by simpa using aG
           obtain⟨dB,cN⟩:=U i lJ
           obtain⟨bI,_⟩:=SV (H:=H.add (i*P.cellsOf E)) (by rw[Sp];exact ag) cN
           rw[cN,YQ,bI,acl,zl]
          rw[asn this,ad2,zn,Yb]
         rw[ava]at jw
         refine Lays.block ⟨H.block,H.off,0⟩ jw (W0 l) λT ad dR fU it b2=>⟨Xp ag ?_ b2 R, ?_,fU⟩
         ·simp only
          rw[j0,fg];exact it
         ·simp only[aQ,dR,fg]
          obtain⟨ra,apE,cu⟩:=H
          have Fi:cu=none:=Fi
          subst Fi
          rfl
        ·simp at Y
     ·simp at a
    ·simp at a
   ·
    rename_i jF ds bg
    split at a
    ·rename_i l aO os aC
     simp only[e7,Zf]at a
     obtain⟨M,rfl⟩:=a
     have M:=Zn M
     have dd:rd P w (aj+1) t cs=(if cs.length=P.cellsOf t then(jF.toList.mapM λf=>rd P w aj f.type ((cs.drop f.offset).take (P.cellsOf f.type))).map λcn=>(.agg (cn.map (·.1)),cn.flatMap (·.2))else none):=by
      simp only[rd]
      rw[DataW.trod_step]
      unfold DataW.trodStep
      rw[bg]
     rw[dd]at Y
     split at Y
     case isFalse=>cases Y
     rename_i fg
     simp only[Yg,YN,DataW.agg.injEq]at Y
     obtain⟨cn,ae,aF,rfl⟩:=Y
     have:=ayE (C:=C) (w:=w) L6 (cs:=cs) jF.toList ds 0 n _ aC cn ae aF ch
     simp only[Yb]at this
     rw[ZA Zo]at this
     exact this
    ·simp at a
   ·
    rename_i z E ds bg
    split at a
    ·rename_i l aO os aC
     simp only[e7,Zf]at a
     obtain⟨M,rfl⟩:=a
     have M:=Zn M
     have dd:rd P w (aj+1) t cs=(if cs.length=P.cellsOf t then((List.range z).mapM λi=>rd P w aj E ((cs.drop (i*P.cellsOf E)).take (P.cellsOf E))).map λcn=>(.agg (cn.map (·.1)),cn.flatMap (·.2))else none):=by
      simp only[rd]
      rw[DataW.trod_step]
      unfold DataW.trodStep
      rw[bg]
     rw[dd]at Y
     split at Y
     case isFalse=>cases Y
     rename_i fg
     simp only[Yg,YN,DataW.agg.injEq]at Y
     obtain⟨cn,ae,aF,rfl⟩:=Y
     have kn:ds.length=z:=by
      have:=(FP ae).1
      rw[<-aF];simpa using this
     obtain⟨jw,j0⟩:=ahL (C:=C) (w:=w) L6 (E:=E) (g:=λi=>(cs.drop (i*P.cellsOf E)).take (P.cellsOf E)) ds 0 n _ aC cn (by rw[kn, <-List.range_eq_range'];exact ae) aF ch
     rw[ad2,zn,Yb,ZA (by simp only at j0;omega)]at jw
     exact jw
    ·simp at a
   ·
    rename_i E bg
    simp at a;subst a
    match cs with
    |[]=>simp[rd,DataW.trod,bg]at Y
    |_::_::_=>simp[rd,DataW.trod,bg]at Y
    |[c]=>
     cases c<;>simp[rd,DataW.trod,bg]at Y
     all_goals first
      |exact .plain λT ad=>⟨rfl,trivial,trivial⟩
      |(split at Y<;>simp_all)
   ·
    rename_i z E bg
    simp at a;subst a
    match cs with
    |[]=>simp[rd,DataW.trod,bg]at Y
    |_::_::_=>simp[rd,DataW.trod,bg]at Y
    |[c]=>
     cases c<;>simp[rd,DataW.trod,bg]at Y
     rename_i b
     cases b with
     |none=>exact .plain λT ad=>⟨rfl,trivial,trivial⟩
     |some b=>
      simp only at Y
      split at Y
      ·split at Y
       ·simp only[ZY]at Y
        obtain⟨dm,_,ak⟩:=Y
        split at ak<;>simp at ak
       ·cases Y
      ·cases Y
   ·
    rename_i z E cb bg
    simp only[e7]at a
    obtain⟨aw,a⟩:=a
    split at a
    ·rename_i fd aO os aC
     simp at a;subst a
     match cs with
     |[]=>simp[rd,DataW.trod,bg]at Y
     |_::_::_=>simp[rd,DataW.trod,bg]at Y
     |[c]=>
      cases c<;>(try(simp[rd,DataW.trod,bg]at Y;done))
      rename_i b
      cases b with
      |none=>simp[rd,DataW.trod,bg]at Y
      |some b=>
       simp only[rd,DataW.trod,bg]at Y
       split at Y
       ·rename_i KF fe ag
        split at Y
        ·simp only[ZY]at Y
         obtain⟨dm,bU,Y⟩:=Y
         split at Y
         ·simp only[Zf,YN,DataW.map.injEq]at Y
          obtain⟨aD,rfl⟩:=Y
          obtain⟨bQ,ct⟩:=FP bU
          have aFy:dm.length=KF.toList.length:=bQ
          have aup:(KF.toList.zip dm).map (·.2.1)=dm.map (·.1):=by
           have Ti:(λx:MapEntry×((Lit×DataW Unit)×List MemPlace)=>x.2.1)=(λe:(Lit×DataW Unit)×List MemPlace=>e.1)∘Prod.snd:=rfl
           rw[Ti, <-YI,List.map_snd_zip Zo]
          obtain⟨kg,ae7,ae8⟩:=aiS (sorted_perm (dm.map (·.1))).symm (KF.toList.zip dm) aup
          rw[aD]at ae8
          have k0:∀bm∈kg,keyOf P z bm.1.key=some bm.2.1.1/\bm.1.val.formed P E=true/\rd P w aj E bm.1.val.cells.toList=some (bm.2.1.2,bm.2.2)/\tg w bm.2.2:=by
           intro bm IG
           have IH:=ae7.mem_iff.1 IG
           obtain⟨i,aG⟩:=ZZ.1 IH
           rw[List.getElem?_zip_eq_some]at aG
           have:=ct i _ _ aG.1 aG.2
           simp only[ZY]at this
           obtain⟨key,cN,cA⟩:=this
           split at cA
           ·rename_i b7
            simp only[Yg]at cA
            obtain⟨e,eb,fW⟩:=cA
            rw[<-fW]
            refine⟨cN,b7,eb,ch.of λp aw=> ?_⟩
            refine Zw _ (List.mem_flatMap.2 ⟨bm.2,Zl aG.2, ?_⟩)
            rw[<-fW];exact aw
           ·cases cA
          obtain⟨bb,b5,a0,f,a3⟩:=ayD (C:=C) (w:=w) L6 aw cb (n+1) _ aC kg ae8 k0
          have bb:n+1<=aO:=bb
          refine⟨by simp only;omega, ?_,λx=>if x=n then⟨b,0,0⟩else f x, ?_⟩
          ·intro e B
           rcases Zt.1 B with rfl|B
           ·exact⟨Zj _,by simp only;omega,aAi _⟩
           ·obtain⟨cN,cA,eb⟩:=b5 e B
            exact⟨Zo,cA,eb⟩
          ·intro T ad dR
           have aE:=dR n (Zj _) (by simp only;omega)
           simp only[ZE]at aE
           obtain⟨cX,dN,g6⟩:=a3 T ad (λx M R=>by
            have:=dR x Zo R
            have dQ:x≠n:=Zo
            simp only[Zh dQ]at this
            exact this)
           refine⟨by simp[b4,aQ,aE.1],⟨aE.2,trivial⟩, ?_⟩
           intro e B
           rcases Zt.1 B with rfl|B
           ·simp only[aE.1]
            have agx:(kg.map (·.1)).Perm KF.toList:=by
             have:=ae7.map (·.1)
             rwa[List.map_fst_zip Zo]at this
            rw[cX]at agx
            obtain⟨mK,fQ,hY⟩:=aiS agx _ rfl
            refine⟨KF,fe,mK,ag,hY.symm, ?_, ?_⟩
            ·have:=fQ.map (λE=>(E.1,E.2.1))
             rwa[akA (kg:=kg) _ kg a0]at this
            ·intro x ae
             have rJ:=fQ.mem_iff.1 ae
             have bp:(x.1,x.2.1)∈fd:=by
              have:=List.mem_map_of_mem (f:=λE:D×D×Nat=>(E.1,E.2.1)) rJ
              rwa[akA (kg:=kg) _ kg a0]at this
             exact dN _ bp
           ·exact g6 e B
         ·simp at Y
        ·simp at Y
       ·simp at Y
    ·simp at a
   ·simp at a
end
end
noncomputable section
open Go.RowKit (Below)
def n2:List (Nat×af)->Q af->Q af
 |[],I=>I
 |(b,W)::l,I=>n2 l (I.set b (some W))
section
variable{C:aK}{P:Program}{w:World}
def Xw(b:Nat)(W:af):∀(l:List (Nat×af)) (I:Q af),(n2 l I).get b=some W->(b,W)∈l\/I.get b=some W:=by
 intro l
 induction l with
 |nil=>intro I a;exact .inr a
 |cons x l ai=>
  obtain⟨dM,o'⟩:=x
  intro I a
  rcases ai _ a with a|a
  ·exact .inl (Zw _ a)
  ·rw[Q.kW]at a
   by_cases E:dM=b
   ·subst E;simp at a;subst a;exact .inl (Zv ..)
   ·simp[E]at a;exact .inr a
def aj6{nm:String}{g:Nat}{cs:Array Value}(b2:P.globalNamed nm=some g)(a:w.var? P nm=some cs):∃ty vi,w.heap[g]? =some (.cells cs ty vi):=by
 unfold World.var? at a
 rw[b2]at a
 simp only[ZL]at a
 split at a
 ·rename_i c ty vi ag
  simp at a;subst a
  exact⟨ty,vi,ag⟩
 ·cases a
def δ(C:aK)(w:World)(jM n:Nat)(r:Nat×List (Nat×af)):Prop:=
 n<=r.1/\(∀x∈r.2,(x.1<jM\/n<=x.1)/\(x.1<jM\/x.1<r.1)/\G4 x.2)/\
  ∃f:Nat->m8,∀T ad,(∀b,n<=b->b<r.1->T b=f b/\ad b)->(∀g,g<jM->T g=⟨g,0,0⟩/\ad g)->∀x∈r.2,kA C T ad x.2 (T x.1) w
end
end
noncomputable section
open Go.RowKit (Below)
def y1:List Nat->Bool
 |[]=>true
 |x::s=>Nat.blt x 256&&y1 s
def AV:List Nat->Nat->Nat->Int
 |[],_,_=> .negSucc 0
 |x::s,c,i=>bW (Nat.beq x c) (.ofNat i) (AV s c (i+1))
def yu(ca:Nat)(f:Nat)(args:List D):Option D:=
 bW (Nat.beq f ca) (match args with
  |[.str s, .int .u8 (.ofNat c)]=>bW (y1 s&&Nat.blt c 256) (some (.int .i64 (AV s c 0))) none
  |_=>none) none
section
variable{C:aK}{P:Program}{w:World}
def Sr:∀{s:List Nat},y1 s=true->∀x∈s,x<256:=by
 intro s
 induction s with
 |nil=>intro _ x a;cases a
 |cons H s ai=>
  intro a x ae
  simp only[y1,Zp]at a
  rcases Zt.1 ae with rfl|ae
  ·exact l1 a.1
  ·exact ai a.2 x ae
def axK:∀(s:List Nat) (c i:Nat),(∀x∈s,x<256)->c<256->AV s c i=(if Lib.indexByte (s.map UInt8.ofNat) (UInt8.ofNat c)= -1 then -1 else Lib.indexByte (s.map UInt8.ofNat) (UInt8.ofNat c)+i):=by
 intro s
 induction s with
 |nil=>intro c i _ _;simp[AV,Lib.indexByte]
 |cons H s ai=>
  intro c i aD ax
  have az:=aD H (Zv ..)
  have aG:=ai c (i+1) (λx ae=>aD x (Zw _ ae)) ax
  simp only[AV,ZP,Lib.indexByte,h4]
  by_cases E:H=c
  ·subst E;simp
  ·have dQ:(UInt8.ofNat H==UInt8.ofNat c)=false:=by
    rw[beq_eq_false_iff_ne]
    intro aj
    have:=congrArg UInt8.toNat aj
    simp at this
    rw[YF az,YF ax]at this
    exact E this
   rw[Zh E,aG,dQ]
   have Cq:=Lib.indexByte_ge (s.map UInt8.ofNat) (UInt8.ofNat c)
   by_cases aj:Lib.indexByte (s.map UInt8.ofNat) (UInt8.ofNat c)= -1
   ·simp[aj]
   ·simp only[aj,ZD]
    have:¬(Lib.indexByte (s.map UInt8.ofNat) (UInt8.ofNat c)+1= -1):=Zo
    simp[aj,this]
    omega
def aiE{ca f:Nat}{args:List D}{v:D}(a:yu ca f args=some v):f=ca/\∃s c,args=[.str s, .int .u8 (.ofNat c)]/\v= .int .i64 (AV s c 0)/\(∀x∈s,x<256)/\c<256:=by
 unfold yu at a
 rw[h4]at a
 split at a
 ·rename_i E
  split at a
  ·rename_i s c
   simp only[e7,Zp,Zf]at a
   exact⟨E,s,c,rfl,a.2.symm,Sr a.1.1,l1 a.1.2⟩
  ·simp at a
 ·simp at a
def aAy{ca:Nat}{fn:Func}(b7:P.funcs[ca]? =some fn)(aE:(fn.name== "runtime.NumGoroutine")=false)(ag:fn.body=none)(M:Extern.findNext fn=none)(R:Extern.find fn=some Extern.BytealgIndexByte.indexByte)
 {f:Nat}{args:List D}{v:D}(a:yu ca f args=some v)(T:db)(w:World):(callFunc f (b4 T args).toArray).run P w= .ok (.value (aQ T v)) w:=by
 obtain⟨rfl,s,c,rfl,rfl,aD,ax⟩:=aiE a
 have pg:=Lib.run_indexByteString (P:=P) (gg s) (Int.ofNat c) w
 have E:Lib.indexByte (gg s).data.toList (Int.ofNat c).toNat.toUInt8=AV s c 0:=by
  rw[axK s c 0 aD ax]
  have:(gg s).data.toList=s.map UInt8.ofNat:=by simp[gg]
  rw[this]
  have Cq:=Lib.indexByte_ge (s.map UInt8.ofNat) (UInt8.ofNat c)
  show Lib.indexByte (s.map UInt8.ofNat) (UInt8.ofNat c)=_
  split
  ·rename_i aj;exact aj
  ·simp
 rw[E]at pg
 have it:(b4 T [.str s, .int .u8 (.ofNat c)]).toArray= #[.string (gg s), .int .u8 (Int.ofNat c)]:=rfl
 rw[it]
 have PB:¬fn.name= "runtime.NumGoroutine":=by simpa using aE
 simp only[callFunc,Sem.run_bind]
 simp[b7,PB,ag,M,R,aQ]
 exact congrArg (λr=>Result.andThen r (λH b1=>Result.ok (Next.value H) b1)) pg
end
end
noncomputable section
open Go.RowKit (Below)
mutual
def rR:D->Bool
 | .bool _=>true
 | .int _ _=>true
 | .str s=>y1 s
 | .cJ=>true
 | .aV=>true
 | .mF=>true
 | .nilFunc=>true
 | .nilIface=>true
 | .iface _ v=>rR v
 | .agg l=>Dq l
 | .tuple l=>Dq l
 |_=>false
def Dq:List D->Bool
 |[]=>true
 |v::l=>rR v&&Dq l
end
mutual
def QU:∀v,rR v=true->cm (λ_=>False) v
 | .bool _,_=>trivial
 | .int _ _,_=>trivial
 | .str s,a=>Sr (by simpa[rR]using a)
 | .cJ,_=>trivial
 | .aV,_=>trivial
 | .mF,_=>trivial
 | .nilFunc,_=>trivial
 | .nilIface,_=>trivial
 | .iface _ v,a=>by
   have:=QU v (by simpa[rR]using a)
   simpa[cm]using this
 | .agg l,a=>ML l (by simpa[rR]using a)
 | .tuple l,a=>ML l (by simpa[rR]using a)
 | .ptr _ _,a=>by simp[rR]at a
 | .slice ..,a=>by simp[rR]at a
 | .fj ..,a=>by simp[rR]at a
 | .map _,a=>by simp[rR]at a
 | .func ..,a=>by simp[rR]at a
def ML:∀l,Dq l=true->ew (λ_=>False) l
 |[],_=>trivial
 |v::l,a=>by
  simp only[Dq,Zp]at a
  exact⟨QU v a.1,ML l a.2⟩
end
def aiT{v:D}(a:rR v=true):(∀T iV,aQ T v=aQ iV v)/\∀ad,cm ad v:=
 ⟨λ_ _=>rg (λ_ a=>a.elim) (QU v a),λ_=>pO (λ_ a=>a.elim) v (QU v a)⟩
def W8{l:List D}(a:Dq l=true):(∀T iV,b4 T l=b4 iV l)/\∀ad,ew ad l:=
 ⟨λ_ _=>y9 (λ_ a=>a.elim) (ML l a),λ_=>sv (λ_ a=>a.elim) l (ML l a)⟩
def aiU{H b:D}(a:QS H b=true):H=b:=by
 unfold QS at a
 split at a
 ·simp only[aqa,Y2]at a;rw[a]
 ·simp only[Zp,ahw,CO,Zg]at a;rw[a.1,a.2]
 ·rw[(Mz _ _).1 a]
 ·rfl
 ·rfl
 ·rfl
 ·cases a
def aA0:∀{H b:List D},Ga H b=true->H=b:=by
 intro H
 induction H with
 |nil=>intro b a;cases b<;>simp[Ga]at a;rfl
 |cons x H ai=>
  intro b a
  cases b with
  |nil=>simp[Ga]at a
  |cons e b=>
   simp only[Ga,Zp]at a
   rw[aiU a.1,ai a.2]
def S7(x e:D):Bool:=match x,e with
 | .agg H, .agg b=>Ga H b
 |x,e=>QS x e
def aq4{H b:D}(a:S7 H b=true):H=b:=by
 unfold S7 at a
 split at a
 ·rw[aA0 a]
 ·exact aiU a
def HA:List D->List D->Bool
 |[],[]=>true
 |H::x,b::e=>S7 H b&&HA x e
 |_,_=>false
def aq5:∀{H b:List D},HA H b=true->H=b:=by
 intro H
 induction H with
 |nil=>intro b a;cases b<;>simp[HA]at a;rfl
 |cons x H ai=>
  intro b a
  cases b with
  |nil=>simp[HA]at a
  |cons e b=>
   simp only[HA,Zp]at a
   rw[aq4 a.1,ai a.2]
def yk(f:Nat)(args:List D):List (Nat×List D×D)->Option D
 |[]=>none
 |(g,cu,v)::l=>bW (Nat.beq f g) (bW (HA args cu) (some v)<|yk f args l) (yk f args l)
def ahD{f:Nat}{args:List D}{v:D}:∀{l:List (Nat×List D×D)},yk f args l=some v->(f,args,v)∈l:=by
 intro l
 induction l with
 |nil=>intro a;simp[yk]at a
 |cons x l ai=>
  obtain⟨g,cu,ac⟩:=x
  intro a
  simp only[yk]at a
  rw[fN]at a
  split at a
  ·rename_i aj
   rw[fN]at a
   split at a
   ·rename_i cA
    simp at a;subst a
    rw[Zn aj,aq5 cA]
    exact Zv ..
   ·exact Zw _ (ai a)
  ·exact Zw _ (ai a)
def rO(W:Nat->List D->Option D)(l:List (Nat×List D×D))(f:Nat)(args:List D):Option D:=
 match yk f args l with|some v=>some v|none=>W f args
def M5:List (Nat×List D×D)->Bool
 |[]=>true
 |x::l=>(Dq x.2.1&&rR x.2.2)&&M5 l
def ajL:∀{l:List (Nat×List D×D)},M5 l=true->∀x∈l,Dq x.2.1=true/\rR x.2.2=true:=by
 intro l
 induction l with
 |nil=>intro _ x a;cases a
 |cons H l ai=>
  intro a x ae
  simp only[M5,Zp]at a
  rcases Zt.1 ae with rfl|ae
  ·exact a.1
  ·exact ai a.2 x ae
section
variable{P:Program}{w:World}
def arx{ai:hP}{C:aK}{f:Nat}{args:List D}{b:Bool}{cs:List g4}{h:Q af}{j:Nat}{v:D}(a:o3 ai C f args b cs h j=some v):∃fn c,C.P.funcs[f]? =some fn/\fn.body=some c:=by
 unfold o3 at a
 split at a
 ·rename_i fn b7
  split at a
  ·rename_i c ax;exact⟨fn,c,b7,ax⟩
  ·simp at a
 ·simp at a
def aiG{G:Q af}{a2 jM:Nat}{W:Nat->List D->Option D}{dY:db}{ed:Nat->Prop}{l:List (Nat×List D×D)}(cM:Env ⟨P,G,a2,W,jM⟩ w dY ed)(be:M5 l=true)
 (k0:∀x∈l,∃m,Bb ⟨P,G,a2,W,jM⟩ m x.1 x.2.1=some x.2.2):R4 ⟨P,G,a2,rO W l,jM⟩ w:=by
 refine⟨λf args v bf=> ?_,λf args v bf T q6 ag=> ?_⟩
 ·have bf:rO W l f args=some v:=bf
  unfold rO at bf
  split at bf
  ·rename_i ac bg
   simp at bf;subst bf
   obtain⟨M,R⟩:=ajL be _ (ahD bg)
   exact⟨aiT R,W8 M⟩
  ·exact cM.hB.val f args v bf
 ·have bf:rO W l f args=some v:=bf
  unfold rO at bf
  split at bf
  ·rename_i ac bg
   simp at bf;subst bf
   have bp:=ahD bg
   obtain⟨M,R⟩:=ajL be _ bp
   obtain⟨m,pg⟩:=k0 _ bp
   obtain⟨fn,c,b7,ax⟩:=arx pg
   right
   have aE:fn.name≠ "runtime.NumGoroutine":=by simpa using cM.kN.num f fn b7 (by simp[ax])
   refine⟨?_, ?_⟩
   ·have rz:P.funcs[f]? =some fn:=b7
    simp[callFunc,rz,aE,ax]
   ·have au5:=cM.later ag
    have:=aBZ au5 (f:=f) (args:=args) ((W8 M).2 ed) pg
    rw[(W8 M).1 T dY]
    exact this.mono λE b1 ⟨⟨iV,bC⟩,km⟩=>⟨by rw[bC,(aiT R).1 iV T],km⟩
  ·exact cM.hB.ok f args v bf T q6 ag
end
end
noncomputable section
open Go.RowKit (Below)
def Kh:List (String×Nat)->String->Option Nat
 |[],_=>none
 |(H,ac)::l,s=>bW (H==s) (some ac) (Kh l s)
def Qn(P:Program)(nm:List (String×Nat))(t:Nat)(d:DataW Unit)(n:Nat):xj:=match P.underlying t,d with
 |some (.interface _), .iface s (.ptr l3)=>(match Kh nm s with
  |some ac=>(match P.underlying ac with
   |some (.pointer _)=>(match yl P 39 ac (.ptr l3) n with
    |some ([x],aO,os)=>some ([.iface ac x],aO,os)
    |_=>none)
   |_=>none)
  |none=>none)
 |_,_=>yl P 40 t d n
def hm(P:Program)(nm:List (String×Nat)):List (String×DataW Unit)->Nat->Nat×List (Nat×af)
 |[],n=>(n,[])
 |(v,d)::r,n=>match P.globalNamed v with
  |some g=>(match P.globals[g]? with
   |some i7=>(match Qn P nm i7.type d n with
    |some (l,aO,os)=>bW (Nat.blt 0 l.length) (match hm P nm r aO with|(aZ,uj)=>(aZ,(g,Jr l)::(os++uj))) (hm P nm r n)
    |none=>hm P nm r n)
   |none=>hm P nm r n)
  |none=>hm P nm r n
def BG(P:Program)(nm:List (String×Nat)):Prop:=∀x∈nm,∀ac,P.typeName? 3 ac=some x.1->ac=x.2
section
variable{C:aK}{P:Program}{w:World}
def apN{s:String}{ac:Nat}:∀{l:List (String×Nat)},Kh l s=some ac->(s,ac)∈l:=by
 intro l
 induction l with
 |nil=>intro a;simp[Kh]at a
 |cons x l ai=>
  obtain⟨H,b⟩:=x
  intro a
  simp only[Kh]at a
  rw[fN]at a
  split at a
  ·rename_i aj
   simp at a aj;subst a;subst aj
   exact Zv ..
  ·exact Zw _ (ai a)
def ayF{nm:List (String×Nat)}(jb:BG P nm){t:Nat}{d:DataW Unit}{n:Nat}{r:List D×Nat×List (Nat×af)}(a:Qn P nm t d n=some r){aj:Nat}{cs:List Value}{dq:List MemPlace}(Y:rd P w aj t cs=some (d,dq))(ch:tg w dq)
 (fs:∀ac v,cs=[.iface ac v]->Value.okWide P w .any 0 ac v):Lays C w n cs r:=by
 unfold Qn at a
 split at a
 ·rename_i iT s l3 aG
  split at a
  ·rename_i ac bg
   split at a
   ·rename_i E aw
    split at a
    ·rename_i x aO os aC
     simp at a;subst a
     obtain⟨eR,rZ,v,rfl,aE,M⟩:=iface_of_trod aG Y
     obtain rfl:=jb _ (apN bg) rZ aE
     obtain⟨fk,H,dc,Ge,bB,_,_,_⟩:=ptr_of_trod aw M
     have ok:=fs _ _ rfl
     have AQ:v= .pointer (some H):=by
      unfold Value.okWide at ok
      simp only[aw]at ok
      unfold Cell.okWide at ok
      cases v<;>simp[Value.cells,Cell.ok,aw]at ok bB
      subst bB
      rfl
     have gS:=ahN (C:=C) (w:=w) 39 eR _ _ _ _ aC _ _ M ch
     obtain⟨bb,b5,f,a3⟩:=gS
     refine⟨bb,b5,f,λT ad dR=> ?_⟩
     obtain⟨cX,dN,g6⟩:=a3 T ad dR
     refine⟨?_,⟨dN.1,trivial⟩,g6⟩
     subst AQ
     have E:Value.pointer (some H)=aQ T x:=by
      simp[Value.cells,b4]at cX
      exact cX
     simp only[b4,aQ,E]
    ·simp at a
   ·simp at a
  ·simp at a
 ·exact ahN (C:=C) (w:=w) 40 aj _ _ _ _ a cs dq Y ch
def ahM{nm:List (String×Nat)}(jb:BG P nm){jM:Nat}:∀(laid:List (String×DataW Unit)) (n:Nat) (dq:List MemPlace),P.globals.size=jM->DataW.LaidVars P w laid dq->tg w dq->
 (∀b off,MemPlace.cell b off∈dq->∀ac v,w.cell? ⟨b,off,none⟩=some (.iface ac v)->Value.okWide P w .any 0 ac v)->δ C w jM n (hm P nm laid n):=by
 intro laid
 induction laid with
 |nil=>
  intro n dq _ _ _ _
  exact⟨Zj _,by simp[hm],λ_=>default,λT ad _ _=>by simp[hm]⟩
 |cons H r ai=>
  obtain⟨v0,d⟩:=H
  intro n dq LG gS ch afH
  obtain⟨g,t,cs,fuel,p,aj,b2,be,bB,aF,Y,rfl⟩:=gS
  have ag4:tg w aj:=ch.of λe B=>Zz.2 (.inr B)
  have afI:∀b off,MemPlace.cell b off∈aj->∀ac v,w.cell? ⟨b,off,none⟩=some (.iface ac v)->Value.okWide P w .any 0 ac v:=λb off ag=>afH b off (Zz.2 (.inr ag))
  have skip:hm P nm ((v0,d)::r) n=hm P nm r n->δ C w jM n (hm P nm ((v0,d)::r) n):=λE=>by rw[E];exact ai n aj LG Y ag4 afI
  simp only[Yg]at be
  obtain⟨i7,wn,rfl⟩:=be
  have U1:g<jM:=by rw[<-LG];exact(ZM.1 wn).1
  have fs:∀ac v,cs.toList=[.iface ac v]->Value.okWide P w .any 0 ac v:=by
   intro ac v it
   obtain⟨ty,vi,ag⟩:=aj6 b2 bB
   have eT:cs.size=1:=by have:=congrArg List.length it;simpa using this
   refine afH g 0 (Zz.2 (.inl (Zz.2 (.inl (Q4 (H:=⟨g,0,none⟩) (z:=cs.size) Zo))))) ac v ?_
   have aX:cs[0]? =some (.iface ac v):=by rw[<-ZO,it];rfl
   simp[World.cell?,ag,aX]
  cases aC:Qn P nm i7.type d n with
  |none=>exact skip (by simp[hm,b2,wn,aC])
  |some fd=>
   obtain⟨l,aO,os⟩:=fd
   by_cases Iv:0<l.length
   ·have bC:hm P nm ((v0,d)::r) n=((hm P nm r aO).1,(g,Jr l)::(os++(hm P nm r aO).2)):=by
     have:Nat.blt 0 l.length=true:=by simp[Nat.blt];omega
     simp[hm,b2,wn,aC,this]
    obtain⟨bb,b5,eR,a3⟩:=ayF (C:=C) (w:=w) jb aC (cs:=cs.toList) (dq:=p) aF (ch.of λe B=>Zz.2 (.inl (Zz.2 (.inr B)))) fs
    obtain⟨bY,co,fk,cY⟩:=ai aO aj LG Y ag4 afI
    have bb:n<=aO:=bb
    rw[bC]
    refine⟨ZB bb bY, ?_,λb=>if b<aO then eR b else fk b, ?_⟩
    ·intro x ae
     rcases Zt.1 ae with rfl|ae
     ·exact⟨.inl U1, .inl U1,W0 l⟩
     ·rcases Zz.1 ae with aj|aj
      ·obtain⟨cN,cA,eb⟩:=b5 x aj
       exact⟨.inr cN, .inr (ZN cA bY),eb⟩
      ·obtain⟨cN,cA,eb⟩:=co x aj
       exact⟨cN.imp id (λa=>ZB bb a),cA,eb⟩
    ·intro T ad dR d6
     obtain⟨cX,dN,g6⟩:=a3 T ad (λb M R=>by
      have HT:b<aO:=R
      have:=dR b M (ZN R bY)
      simp only[Zr HT]at this
      exact this)
     have e1:=cY T ad (λb M R=>by
      have uU:¬b<aO:=zo.2 M
      have:=dR b (ZB bb M) R
      simp only[Zh uU]at this
      exact this) d6
     intro x ae
     rcases Zt.1 ae with rfl|ae
     ·obtain⟨axn,aEZ⟩:=d6 g U1
      obtain⟨ty,vi,ag⟩:=aj6 b2 bB
      have eT:cs.size=l.length:=by
       have:=congrArg List.length cX
       rw[ki]at this
       simpa using this
      obtain⟨fS,hp,km⟩:=ch g 0 (Zz.2 (.inl (Zz.2 (.inl (Q4 (H:=⟨g,0,none⟩) (z:=cs.size) Zo)))))
      rw[ag]at km
      have aww:vi=(0,0):=by
       simp only[Zf,Obj.cells.injEq]at km
       exact km.2.2
      rw[aww]at ag
      simp only[axn]
      refine Xp (pl:=⟨g,0,0⟩) ag ?_ dN Iv
      simp only[Yb]
      rw[ZA Zx]
      exact cX
     ·rcases Zz.1 ae with aj|aj
      ·exact g6 x aj
      ·exact e1 x aj
   ·exact skip (by
     have l7:l.length=0:=Zo
     have:Nat.blt 0 l.length=false:=by rw[l7];rfl
     simp[hm,b2,wn,aC,this])
def Wu{nm:List (String×Nat)}(jb:BG P nm){laid:List (String×DataW Unit)}{hB:Nat->List D->Option D}(a:laidMet P laid w):
 ∃T ad,dn ⟨P,n2 (hm P nm laid P.globals.size).2 .nil,(hm P nm laid P.globals.size).1,hB,P.globals.size⟩ T ad .nil (hm P nm laid P.globals.size).1 w.heap.size w/\
  th ⟨P,n2 (hm P nm laid P.globals.size).2 .nil,(hm P nm laid P.globals.size).1,hB,P.globals.size⟩ T ad:=by
 obtain⟨dq,gS,_,l7⟩:=a
 have ch:tg w dq:=λb off ag=>(l7 b off ag).1
 obtain⟨bb,b5,f,a3⟩:=ahM (C:=⟨P,n2 (hm P nm laid P.globals.size).2 .nil,(hm P nm laid P.globals.size).1,hB,P.globals.size⟩) jb laid P.globals.size dq rfl gS ch (λb off ag=>(l7 b off ag).2)
 generalize aE:hm P nm laid P.globals.size=r at bb b5 a3 ⊢
 obtain⟨a2,os⟩:=r
 simp only at bb b5 a3 ⊢
 have Vt:∀b W,U ⟨P,n2 os .nil,a2,hB,P.globals.size⟩ .nil b=some W->(b,W)∈os/\b<a2:=by
  intro b W bf
  unfold U at bf
  rw[fN]at bf
  split at bf
  ·rename_i ag
   rcases Xw b W os .nil bf with aj|aj
   ·exact⟨aj,l1 ag⟩
   ·simp at aj
  ·simp at bf
 refine⟨λb=>if b<P.globals.size then⟨b,0,0⟩else f b,λb=>b<a2,⟨Zj _,λ_ a=>a,λb W bf=>(Vt b W bf).2, ?_, ?_, ?_, ?_⟩, ?_⟩
 ·intro b W bf _
  have:=a3 (λb=>if b<P.globals.size then⟨b,0,0⟩else f b) (λb=>b<a2) (λb M R=>⟨by rw[Zh Zo],R⟩) (λg b2=>⟨by rw[Zr b2],Zo⟩) (b,W) (Vt b W bf).1
  exact this
 ·intro b dM W o' _ _ d _ _ ag
  exact absurd d (zo.2 ag)
 ·intro b W ag _ d
  exact absurd d (zo.2 ag)
 ·intro b W bf _
  exact(b5 (b,W) (Vt b W bf).1).2.2 _ _
 ·intro g b2
  have b2:g<P.globals.size:=b2
  exact⟨Zo,by simp[b2],by simp[b2]⟩
def Env.ayv{nm:List (String×Nat)}(jb:BG P nm){laid:List (String×DataW Unit)}{ca:Nat}{fn:Func}(kN:yV P)(b7:P.funcs[ca]? =some fn)(aE:(fn.name== "runtime.NumGoroutine")=false)(ag:fn.body=none)(M:Extern.findNext fn=none)
 (R:Extern.find fn=some Extern.BytealgIndexByte.indexByte)(a:laidMet P laid w):
 ∃T ad,Env ⟨P,n2 (hm P nm laid P.globals.size).2 .nil,(hm P nm laid P.globals.size).1,yu ca,P.globals.size⟩ w T ad:=by
 obtain⟨T,ad,ak,aA⟩:=Wu (hB:=yu ca) jb a
 refine⟨T,ad,kN,⟨λf args v bf=> ?_,λf args v bf T w _=> .inl (aAy b7 aE ag M R bf T w)⟩,ak,aA⟩
 obtain⟨rfl,s,c,rfl,rfl,aD,ax⟩:=aiE bf
 exact⟨⟨λ_ _=>rfl,λ_=>trivial⟩,λ_ _=>rfl,λ_=>⟨aD,trivial,trivial⟩⟩
end
end
noncomputable section
open Go.RowKit (Below)
def yt(ca:Nat)(W:Nat->List D->Option D)(f:Nat)(args:List D):Option D:=
 bW (Nat.beq f ca) (match args with
  |[.str s]=>bW (y1 s&&Nat.ble s.length 281474976710656) (some (.str s)) none
  |_=>none) (W f args)
section
variable{P:Program}{w:World}
def aiD{ca f:Nat}{W:Nat->List D->Option D}{args:List D}{v:D}(a:yt ca W f args=some v):
 (f=ca/\∃s,args=[.str s]/\v= .str s/\(∀x∈s,x<256)/\s.length<=281474976710656)\/W f args=some v:=by
 unfold yt at a
 rw[h4]at a
 split at a
 ·rename_i E
  split at a
  ·rename_i s
   simp only[e7,Zp,Zf]at a
   exact .inl ⟨E,s,rfl,a.2.symm,Sr a.1.1,jR a.1.2⟩
  ·simp at a
 ·exact .inr a
def Env.ayu{nm:List (String×Nat)}(jb:BG P nm){laid:List (String×DataW Unit)}{W:Nat->List D->Option D}{ca:Nat}{fn:Func}{c:Code}(b7:P.funcs[ca]? =some fn)(aE:(fn.name== "runtime.NumGoroutine")=false)(ag:fn.body=some c)
 (atQ:∀(s:ByteArray) (w:World),s.size<=281474976710656->Calls P ca #[.string s] w λE b1=>E= .returned (.string s)/\Below w.heap.size w b1)(a:laidMet P laid w){dY:db}{ed:Nat->Prop}
 (cM:Env ⟨P,n2 (hm P nm laid P.globals.size).2 .nil,(hm P nm laid P.globals.size).1,W,P.globals.size⟩ w dY ed):
 ∃T ad,Env ⟨P,n2 (hm P nm laid P.globals.size).2 .nil,(hm P nm laid P.globals.size).1,yt ca W,P.globals.size⟩ w T ad:=by
 obtain⟨T,ad,ak,aA⟩:=Wu (hB:=yt ca W) jb a
 refine⟨T,ad,cM.kN,⟨λf args v bf=> ?_,λf args v bf T q6 l4=> ?_⟩,ak,aA⟩
 ·rcases aiD bf with ⟨rfl,s,rfl,rfl,aD,_⟩|bf
  ·exact⟨⟨λ_ _=>rfl,λ_=>aD⟩,λ_ _=>rfl,λ_=>⟨aD,trivial⟩⟩
  ·exact cM.hB.val f args v bf
 ·rcases aiD bf with ⟨rfl,s,rfl,rfl,aD,aC⟩|bf
  ·right
   have PB:¬fn.name= "runtime.NumGoroutine":=by simpa using aE
   refine⟨by simp[callFunc,b7,PB,ag], ?_⟩
   have:=atQ (gg s) q6 (by simpa[gg,ByteArray.size]using aC)
   exact this
  ·exact cM.hB.ok f args v bf T q6 l4
end
end
noncomputable section
open Go.RowKit (Below)
def ajr(C:aK):List (Nat×af)->Q af->Q af
 |[],I=>I
 |(b,W)::l,I=>ajr C l (bj C I b (some W))
def pick(C:aK)(h:Q af):List Nat->List (Nat×af)
 |[]=>[]
 |b::l=>match U C h b with|some W=>(b,W)::pick C h l|none=>pick C h l
def adt(C:aK):List Nat->Bool
 |[]=>true
 |b::l=>kV C b&&adt C l
def ax7(C:aK)(L:List Nat)(h:Q af):Q af:=ajr C (pick C h L) .nil
def aAZ(todo:List d1):Bool:=match todo with| .drawn .. ::_=>false|_=>true
def ait:List g4->Bool
 |[]=>true
 |c::l=>(match c with|⟨_,_,_,_,todo,_,_,_,_⟩=>(match todo with| .Bn .. ::_=>false|_=>true))&&ait l
def kl(C:aK)(L:List Nat)(b:hP):hP:=λbR todo ca I h j=>match ca with
 |⟨fn,n,ao,bh,ay,ro,cs⟩=>bW (aAZ todo&&ait cs&&adt C L) (b bR todo ⟨fn,n,ao,bh,ay,ro,cs⟩ I (ax7 C L h) j) none
section
variable{C:aK}{T dY:db}{ad ed:Nat->Prop}{h S':Q af}{j bo:Nat}{w:World}
variable{bl:World}{bF:Nat}{bT:List Frame}{v:D}{b:hP}
def oQ(C:aK)(bl:World)(bF:Nat)(bT:List Frame)(bR:lw)(todo:List d1)(ca:iK)(I:Q D)(h:Q af)(j:Nat)(v:D):Prop:=
 ∀T ad w dh tmps bw am,D3 C bl bF bT bR todo ca.fn ca.n ca.ao ca.bh ca.ay ca.ro ca.cs I h j T ad w dh tmps bw am->Ends C bl bF bT v (lone (cr T ca.fn ca.bh ca.ay ca.ro tmps bw (g7 T bR)) am w)
open Classical in
def only(AZ:lw)(XP:List d1)(lz:iK)(si:Q D)(aI:Q af)(F2:Nat)(v:D):hP:=λbR todo ca I h j=>
 if bR=AZ/\todo=XP/\ca=lz/\I=si/\h=aI/\j=F2 then some v else none
end
end
noncomputable section
open Go.RowKit (Below)
def low(ad:Nat->Prop)(N:Nat)(b:Nat):Prop:=ad b/\b<N
section
variable{ad:Nat->Prop}{N:Nat}
end
end
noncomputable section
open Go.RowKit (Below)
section
variable{C:aK}{T dY:db}{ad ed:Nat->Prop}{h S':Q af}{j bo N:Nat}{w:World}
variable{bl:World}{bF g:Nat}{bT:List Frame}{v:D}{b:hP}
open Classical in
def f7(C:aK)(bl:World)(bF:Nat)(bT:List Frame)(v:D):hP:=λbR todo ca I h j=>if oQ C bl bF bT bR todo ca I h j v then some v else none
def aco:oc C bl bF bT (f7 C bl bF bT v):=by
 intro bR todo fn n ao bh ay ro cs I h j ac bg T ad w dh tmps bw am dd
 unfold f7 at bg
 split at bg
 ·rename_i a
  simp at bg;subst bg
  exact a T ad w dh tmps bw am dd
 ·cases bg
def iz{bR:lw}{todo:List d1}{ca:iK}{I:Q D}(a:oQ C bl bF bT bR todo ca I h j v):f7 C bl bF bT v bR todo ca I h j=some v:=by
 unfold f7
 rw[Zr a]
def ast{eP:d1}{z:List d1}{ca:iK}{I:Q D}(aD:D.same 30 v v=true):∀l:List (D×Q af),l≠[]->(∀ac S',(ac,S')∈l->∃hX,pM eP ac=some hX/\oQ C bl bF bT .run (hX::z) ca I S' j v)->
 Al (f7 C bl bF bT v) eP z ca I j l=some v:=by
 intro l
 induction l with
 |nil=>intro a;exact absurd rfl a
 |cons p l mT=>
  obtain⟨ac,S'⟩:=p
  intro _ k0
  obtain⟨hX,M,R⟩:=k0 ac S' (Zv ..)
  cases l with
  |nil=>simp only[Al,M];exact iz R
  |cons aj l=>
   have ai:=mT Zs (λac S' a=>k0 ac S' (Zw _ a))
   simp only[Al,M,iz R]
   rw[ai]
   simp only[aD,fo]
end
end
noncomputable section
open Go.RowKit (Below)
abbrev bJ:=D->Q af->Nat->Prop
structure cV where
 g:Nat->Option D
 bh:List h3:=[]
 rc:Bool:=false
instance:CoeFun cV (λ_=>Nat->Option D):=⟨cV.g⟩
def Z(I:cV)(d:Nat)(v:D):cV:=⟨λn=>bW (Nat.beq d n) (some v) (I.g n),I.bh,I.rc⟩
def h5(l:List Nat)(I:cV):cV:=⟨λn=>bW (rN n l) none (I.g n),I.bh,I.rc⟩
def A7(I:cV)(d:h3):cV:=⟨I.g,d::I.bh,I.rc⟩
def Ra(I:cV):cV:=⟨I.g,I.bh,true⟩
abbrev fB:=cV->Q af->Nat->Prop
abbrev tm:=cV->bJ
structure vD where
 rd:Bool
 bh:Bool
 ka:Option (Option D)
def cw{α:Type}(W:Option α)(ah:α->Prop):Prop:=Option.rec (motive:=λ_=>Prop) False (λH=>ah H) W
def aAv{α:Type}{W:Option α}{ah:α->Prop}{H:α}(a:W=some H)(z:ah H):cw W ah:=by subst a;exact z
def ui{α:Type}{W:Option α}{ah:α->Prop}:cw W ah↔∃H,W=some H/\ah H:=by
 cases W with
 |none=>simp[cw]
 |some H=>simp[cw]
structure ap{α:Type}(W:Option α)(ah:α->Prop):Prop where
 out:cw W ah
def aAw{α:Type}(W:Option α)(ah:α->Prop):ap W ah=cw W ah:=propext ⟨λa=>a.out,λa=>⟨a⟩⟩
def f8{α:Type}{W:Option α}{ah:α->Prop}{H:α}(a:W=some H)(z:ah H):ap W ah:=⟨aAv a z⟩
def lp{α:Type}{W:Option α}{ah:α->Prop}:ap W ah↔∃H,W=some H/\ah H:=by rw[aAw];exact ui
def ap9(v:D)(H b:Prop):Prop:=D.rec (motive_1:=λ_=>Prop) (motive_2:=λ_=>Prop)
 (λt=>(t=true->H)/\(t=false->b)) (λ_ _=>False) (λ_=>False) (λ_ _=>False) False (λ_ _ _ _=>False) (λ_ _ _ _=>False) False (λ_=>False) False
 (λ_ _ _ _ _=>False) False (λ_ _ _=>False) False (λ_ _=>False) (λ_ _=>False) False (λ_ _ _ _=>False) v
structure aR(v:D)(H b:Prop):Prop where
 out:ap9 v H b
def acN{v:D}{H b:Prop}(a:aR v H b):∃t,v= .bool t/\(t=true->H)/\(t=false->b):=by
 have a:=a.out
 cases v with
 |bool t=>exact⟨t,rfl,a⟩
 |_=>exact a.elim
def atw(mc:Bool)(v:D)(H b:Prop):Prop:=D.rec (motive_1:=λ_=>Prop) (motive_2:=λ_=>Prop)
 (λt=>(t=mc->H)/\(t=(!mc)->b)) (λ_ _=>b) (λ_=>b) (λ_ _=>b) b (λ_ _ _ _=>b) (λ_ _ _ _=>b) b (λ_=>b) b
 (λ_ _ _ _ _=>b) b (λ_ _ _=>b) b (λ_ _=>b) (λ_ _=>b) b (λ_ _ _ _=>b) v
structure iB(mc:Bool)(v:D)(H b:Prop):Prop where
 out:atw mc v H b
structure p0(dK:bJ)(body:bJ->Prop):Prop where
 out:body dK
def axR(dK:bJ)(body:bJ->Prop):p0 dK body=body dK:=propext ⟨λa=>a.out,λa=>⟨a⟩⟩
structure bk(dK:fB)(body:fB->Prop):Prop where
 out:body dK
structure cS(dK:D->Prop)(body:(D->Prop)->Prop):Prop where
 out:body dK
structure wE(dK:D->Q af->Prop)(body:(D->Q af->Prop)->Prop):Prop where
 out:body dK
def axP(dK:D->Q af->Prop)(body:(D->Q af->Prop)->Prop):wE dK body=body dK:=propext ⟨λa=>a.out,λa=>⟨a⟩⟩
structure Me(dK:Prop)(body:Prop->Prop):Prop where
 out:body dK
def axQ(dK:Prop)(body:Prop->Prop):Me dK body=body dK:=propext ⟨λa=>a.out,λa=>⟨a⟩⟩
def iR{dK:fB}{body:fB->Prop}(tj:fB)(M:∀S:fB,(∀I h j,tj I h j->S I h j)->body S)(R:∀I h j,tj I h j->dK I h j):bk dK body:=⟨M dK R⟩
structure fb(n:Nat)(ah:Nat->Prop):Prop where
 out:ah n
structure gO(C:aK)(h:Q af)(j:Nat)(v:D)(cU:af)(ah:bJ):Prop where
 out:ah v (bj C h j (some cU)) (j+1)
structure mE(C:aK)(h:Q af)(b:Nat)(v:D)(cU:af)(ah:D->Q af->Prop):Prop where
 out:ah v (bj C h b (some cU))
structure y6(C:aK)(h:Q af)(b:Nat)(H:D)(ah:D->Q af->Prop):Prop where
 out:ah (.ptr b 0) (bj C h b (some (.cells (Q.ofList H.cells 0 .nil) H.cells.length .own)))
structure ha(C:aK)(h:Q af)(j:Nat)(H:D)(ah:bJ):Prop where
 out:ah (.ptr j 0) (bj C h j (some (.cells (Q.ofList H.cells 0 .nil) H.cells.length .own))) (j+1)
section
variable(C:aK)(bl:World)(bF:Nat)(bT:List Frame)(v:D)
def RU(cs:List g4):bJ:=λac h j=>uD (f7 C bl bF bT v) false cs ac h j=some v
def NE(cs:List g4):bJ:=λac h j=>match cs with
 |c::rest=>ajc (f7 C bl bF bT v) c rest [⟨ac,false⟩] h j=some v
 |[]=>False
end
def vB(C:aK)(f:Nat)(args:List D)(h:Q af)(j:Nat)(bu eM:bJ):Prop:=
 ∀(bl:World) (dY:db) (ed:Nat->Prop) (_:Env C bl dY ed) (bF:Nat) (bT:List Frame) (v:D) (_:D.same 30 v v=true) (cs:List g4),
  (∀ac S' an,bu ac S' an->RU C bl bF bT v cs ac S' an)->(∀ac S' an,eM ac S' an->NE C bl bF bT v cs ac S' an)->
  o3 (f7 C bl bF bT v) C f args false cs h j=some v
def vB.mono{C:aK}{f:Nat}{args:List D}{h:Q af}{j:Nat}{bu eM se J0:bJ}(a:vB C f args h j bu eM)(gE:∀ac h j,bu ac h j->se ac h j)(jV:∀ac h j,eM ac h j->J0 ac h j):
 vB C f args h j se J0:=
 λbl dY ed cM bF bT v aD cs M R=>a bl dY ed cM bF bT v aD cs (λac h j aj=>M ac h j (gE ac h j aj)) (λac h j aj=>R ac h j (jV ac h j aj))
def Q3(ai:hP)(C:aK)(l:Nat)(args:List D)(cs:List g4)(h:Q af)(j:Nat):ef:=match U C h l with
 |some (.loop _ _ fn n ao c4 params assign body _)=>(match yA n params args c4 with
  |some c4=>ai .run [.code assign, .beginRound, .code body] ⟨fn,n,ao,[],false,some l,cs⟩ c4 h j
  |none=>none)
 |_=>none
def BJ(C:aK)(l:Nat)(args:List D)(h:Q af)(j:Nat)(bu eM:bJ):Prop:=
 ∀(bl:World) (dY:db) (ed:Nat->Prop) (_:Env C bl dY ed) (bF:Nat) (bT:List Frame) (v:D) (_:D.same 30 v v=true) (cs:List g4),
  (∀ac S' an,bu ac S' an->RU C bl bF bT v cs ac S' an)->(∀ac S' an,eM ac S' an->NE C bl bF bT v cs ac S' an)->
  Q3 (f7 C bl bF bT v) C l args cs h j=some v
def BJ.mono{C:aK}{l:Nat}{args:List D}{h:Q af}{j:Nat}{bu eM se J0:bJ}(a:BJ C l args h j bu eM)(gE:∀ac h j,bu ac h j->se ac h j)(jV:∀ac h j,eM ac h j->J0 ac h j):
 BJ C l args h j se J0:=
 λbl dY ed cM bF bT v aD cs M R=>a bl dY ed cM bF bT v aD cs (λac h j aj=>M ac h j (gE ac h j aj)) (λac h j aj=>R ac h j (jV ac h j aj))
def X9(C:aK)(f:Nat)(args:List D)(ka:Option D)(h:Q af)(j:Nat)(bu:Bool->Q af->Nat->Prop):Prop:=
 ∀(bl:World) (dY:db) (ed:Nat->Prop) (_:Env C bl dY ed) (bF:Nat) (bT:List Frame) (v:D) (_:D.same 30 v v=true) (fn n ao:Nat) (I:Q D) (todo:List d1) (ds:List h3) (ay:Bool) (ro:Option Nat) (cs:List g4),
  (∀b S' an,bu b S' an->f7 C bl bF bT v (match ka,b with|none,_=> .returning|some _,true=> .returning|some ac,false=> .panicking [⟨ac,false⟩]) todo ⟨fn,n,ao,ds,ay,ro,cs⟩ I S' an=some v)->
  o3 (f7 C bl bF bT v) C f args true (⟨fn,n,ao,I,todo,ds,(match ka with|none=> .returning|some ac=> .panicking [⟨ac,false⟩]),ay,ro⟩::cs) h j=some v
structure aU(C:aK)(f:Nat)(args:List D)(h:Q af)(j:Nat)(ah av:bJ):Prop where
 out:(∃ac,C.hB f args=some ac/\ah ac h j)\/(C.hB f args=none/\(∃fn c,C.P.funcs[f]? =some fn/\fn.body=some c)/\vB C f args h j ah av)
structure h0(W:Option ee)(h:Q af)(j:Nat)(ah:bJ):Prop where
 out:match W with
 |some (.val v)=>ah v h j
 |some (.fv v S' an)=>ah v S' an
 |_=>False
def aBB(W:Option ee)(h:Q af)(j:Nat)(ah:bJ):h0 W h j ah=(match W with
 |some (.val v)=>ah v h j
 |some (.fv v S' an)=>ah v S' an
 |_=>False):=propext ⟨λa=>a.out,λa=>⟨a⟩⟩
def Xk{W:Option ee}{h:Q af}{j:Nat}{ah:bJ}{v:D}(a:W=some (.val v))(z:ah v h j):h0 W h j ah:=by subst a;exact⟨z⟩
def kb{W:Option ee}{h S':Q af}{j an:Nat}{ah:bJ}{v:D}(a:W=some (.fv v S' an))(z:ah v S' an):h0 W h j ah:=by subst a;exact⟨z⟩
structure HJ(W:Option ee)(h:Q af)(j:Nat)(ah:bJ):Prop where
 out:match W with
 |some (.val v)=>ah v h j
 |some (.fv v S' an)=>ah v S' an
 |some (.fork l)=>l≠[]/\∀ac S',(ac,S')∈l->ah ac S' j
 |_=>False
def asv(W:Option ee)(h:Q af)(j:Nat)(ah:bJ):HJ W h j ah=(match W with
 |some (.val v)=>ah v h j
 |some (.fv v S' an)=>ah v S' an
 |some (.fork l)=>l≠[]/\∀ac S',(ac,S')∈l->ah ac S' j
 |_=>False):=propext ⟨λa=>a.out,λa=>⟨a⟩⟩
def D8(C:aK)(rd:Bool)(W:Option ee)(h:Q af)(j:Nat)(ah av:bJ):Prop:=match W with
 |some (.val v)=>ah v h j
 |some (.fv v S' an)=>ah v S' an
 |some (.enter f args)=>vB C f args h j ah av
 |some (.round l args)=>BJ C l args h j ah av
 |some (.known _ _ v)=>ah v h j
 |some (.panic v)=>bW rd False (av v h j)
 |some (.fork l)=>l≠[]/\∀ac S',(ac,S')∈l->ah ac S' j
 |_=>False
def j3(x:kT)(aq:List (Nat×D))(I:cV)(ah:D->Prop):Prop:=
 kT.rec (motive:=λ_=>Prop) (λS=>cw (ev aq S) ah) (λn=>cw (I n) ah) (λH=>ah H) x
def Oo(aq:List (Nat×D))(I:cV)(l:List kT):(List D->Prop)->Prop:=
 List.rec (motive:=λ_=>(List D->Prop)->Prop) (λah=>ah []) (λx _ ai ah=>j3 x aq I λH=>ai λr=>ah (H::r)) l
def eW(b8:List (Nat×Nat))(aq:List (Nat×D))(I:cV)(W:Operand)(ah:D->Prop):Prop:=match W with
 | .tmp t=>(match ev b8 t with|some S=>cw (ev aq S) ah|none=>cw (I t) ah)
 | .const v=>cw (F4 v) ah
 | .global g=>ah (.ptr g 0)
 | .func f=>ah (.func (.func f) [] [])
def uh(b8:List (Nat×Nat))(aq:List (Nat×D))(I:cV)(l:List Operand):(List D->Prop)->Prop:=
 List.rec (motive:=λ_=>(List D->Prop)->Prop) (λah=>ah []) (λx _ ai ah=>eW b8 aq I x λH=>ai λr=>ah (H::r)) l
def Do(b8:List (Nat×Nat))(aq:List (Nat×D))(I:cV)(l:List (Nat×Operand)):(List (Nat×D)->Prop)->Prop:=
 List.rec (motive:=λ_=>(List (Nat×D)->Prop)->Prop) (λah=>ah []) (λx _ ai ah=>eW b8 aq I x.2 λH=>ai λr=>ah ((x.1,H)::r)) l
def QM(b8:List (Nat×Nat))(aq:List (Nat×D))(I:cV)(W:Option Operand)(ah:Option D->Prop):Prop:=match W with
 |none=>ah none
 |some x=>eW b8 aq I x λH=>ah (some H)
def k4:Operand:= .global 0
def g9:Operand:= .global 1
def nt:Operand:= .global 2
def k5(H:D):Operand->Option D:=λ_=>some H
def two(H b:D):Operand->Option D:=λW=>match W with| .global 0=>some H|_=>some b
def ajQ(H b c:D):Operand->Option D:=λW=>match W with| .global 0=>some H| .global 1=>some b|_=>some c
def IL(n bt:Nat)(H i:D):Option D:=match nV i with|some i=>Np n bt H i|none=>none
def gy(bt:Nat)(H i:D):Option D:=match nV i with|some i=>DB bt H i|none=>none
def adP(C:aK)(t f:Nat)(H:D):Option D:=Ml C t k4 f .nil (k5 H)
def ac8(C:aK)(h:Q af)(s d:Nat)(H:D):Option D:=Mk C s d k4 h (k5 H)
def ahc(C:aK)(t:Nat)(H:D):Option D:=Mm C t k4 .nil (k5 H)
def acy(C:aK)(t:Nat)(ok:Bool)(H:D):Option D:=Mj C k4 t ok .nil (k5 H)
def adx(C:aK)(h:Q af)(H:D):Option D:=Wo C k4 h (k5 H)
def ts(C:aK)(h:Q af)(b:Builtin)(di:List TypeId)(br:List D):Option D:=match b,br with
 | .len,[x]=>(match di with|t::_=>NO C h t x|_=>none)
 | .cap,[x]=>(match di with|t::_=>NL C t x|_=>none)
 | .max,x::l=>pC true x l
 | .min,x::l=>pC false x l
 |_,_=>none
def gq(C:aK)(h:Q af)(s:Nat)(H v:D):Option (Q af):=match H with
 | .ptr b W=>bW (Nat.beq v.cells.length s&&Nat.blt 0 s) (xr C h b W v.cells) none
 |_=>none
def H6(C:aK)(h:Q af)(j:Nat)(b:Builtin)(di:List TypeId)(br:List D):Option ee:=match b,br with
 | .append,[s,x]=>(match di with
   |st::iU::_=>(match C.P.underlying iU with
    |some (.int _)=>(match nV x with|some n=>NM C h j st s n|none=>none)
    |some (.slice _)=>He C h j st s x
    |some .string=>He C h j st s x
    |_=>none)
   |_=>none)
 |_,_=>none
structure jq(C:aK)(nd:D)(cu:List D)(h:Q af)(j:Nat)(ah av:bJ):Prop where
 out:match nd with
 | .func fn first fY=>(match fn with| .func f=>aU C f ((first++cu)++fY) h j ah av| .yield l=>BJ C l (first++cu) h j ah av|_=>False)
 |_=>False
def Rd(C:aK)(t len:Nat)(dq:List (Nat×D))(b:Nat):Option (D×af):=match C.P.underlying t with
 |some (.slice ek)=>(match jO C ek,uz C ek with
  |some s,some bm=>bW (Nat.ble (len*s) 16777216&&Nat.beq bm.cells.length s) ((match B6 (λi=>some (i*s,s)) (lr len bm.cells) dq with
    |some cs=>some (D.slice b 0 len len,af.cells (Q.ofList cs 0 .nil) cs.length .own)
    |none=>none))<|none
  |_,_=>none)
 |_=>none
structure wS(av:bJ)(H:D)(h:Q af)(j:Nat):Prop where
 out:match H with| .iface t v=>av (.iface t v) h j|_=>False
def aAK(av:bJ)(H:D)(h:Q af)(j:Nat):wS av H h j=(match H with| .iface t v=>av (.iface t v) h j|_=>False):=propext ⟨λa=>a.out,λa=>⟨a⟩⟩
structure aib(C:aK)(rd:Bool)(kc:D)(name:String)(cu:List D)(h:Q af)(j:Nat)(ah av:bJ):Prop where
 out:match kc with
 | .iface t v=>D8 C rd (Hf C h t v name cu) h j ah av
 |_=>False
def azq(C:aK)(rd:Bool)(kc:D)(name:String)(cu:List D)(h:Q af)(j:Nat)(ah av:bJ):aib C rd kc name cu h j ah av=(match kc with
 | .iface t v=>D8 C rd (Hf C h t v name cu) h j ah av
 |_=>False):=propext ⟨λa=>a.out,λa=>⟨a⟩⟩
def ahR(b8:List (Nat×Nat))(W:Op):aK->Q af->List (Nat×D)->cV->(D->Prop)->Prop:=match W with
 | .build t kv=>λC _ aq I ah=>Do b8 aq I kv.toList λdq=>ap (NK C t dq) ah
 | .binOp op t x e _=>λC h aq I ah=>eW b8 aq I x λH=>eW b8 aq I e λb=>ap (c5 C h op t (rL x||rL e) H b) ah
 | .unOp op _ x=>λ_ _ aq I ah=>eW b8 aq I x λH=>ap (gm op H) ah
 | .convert s d x=>λC h aq I ah=>eW b8 aq I x λH=>ap (ac8 C h s d H) ah
 | .makeInterface t x=>λC _ aq I ah=>eW b8 aq I x λH=>ap (ahc C t H) ah
 | .makeFunc fn first fY=>λ_ _ aq I ah=>(match fn with
   | .func f=>uh b8 aq I first.toList λH=>uh b8 aq I fY.toList λb=>ah (.func (.func f) H b)
   |_=>False)
 | .slice t x bL aG hA=>λC h aq I ah=>eW b8 aq I x λH=>QM b8 aq I bL λl=>QM b8 aq I aG λa=>QM b8 aq I hA λm=>ap (NQ C h t H l a m) ah
 | .field t x f=>λC _ aq I ah=>eW b8 aq I x λH=>ap (adP C t f H) ah
 | .index t x i=>λC _ aq I ah=>eW b8 aq I x λH=>eW b8 aq I i λb=>ap (NN C t H b) ah
 | .lookup t m z ok=>λC h aq I ah=>eW b8 aq I m λH=>eW b8 aq I z λb=>ap (NP C h t H b ok) ah
 | .typeAssert x _ t ok=>λC _ aq I ah=>eW b8 aq I x λH=>ap (acy C t ok H) ah
 | .entry eP=>λC h aq I ah=>eW b8 aq I eP λH=>ap (adx C h H) ah
 | .call c=>λC h aq I ah=>(match c with
   |⟨.builtin b,args,di⟩=>uh b8 aq I args.toList λbr=>ap (ts C h b di.toList br) ah
   |_=>False)
 |_=>λ_ _ _ _ _=>False
def IV(op:ke):aK->Q af->List (Nat×D)->cV->(D->Prop)->Prop:=match op with
 | .FS x=>λ_ _ aq I ah=>j3 x aq I ah
 | .pick c H b=>λ_ _ aq I ah=>j3 c aq I λc=>cS ah λah=>aR c (j3 H aq I ah) (j3 b aq I ah)
 | .eV H=>λC h aq I ah=>j3 H aq I λH=>ap (aP C h H) ah
 | .CY n H=>λC h aq I ah=>j3 H aq I λH=>ap (cG C h n H) ah
 | .off d x=>λ_ _ aq I ah=>j3 x aq I λH=>ap (gr d H) ah
 | .CP n bt x i=>λ_ _ aq I ah=>j3 x aq I λH=>j3 i aq I λi=>ap (IL n bt H i) ah
 | .CQ bt x i=>λ_ _ aq I ah=>j3 x aq I λH=>j3 i aq I λi=>ap (gy bt H i) ah
 | .FX x=>λ_ _ aq I ah=>j3 x aq I λH=>ap (s5 H) ah
 | .L4 op x e=>λ_ _ aq I ah=>j3 x aq I λH=>j3 e aq I λb=>ap (bn op H b) ah
 | .ext i x=>λ_ _ aq I ah=>j3 x aq I λH=>ap (n8 i H) ah
 | .ix b8 W=>ahR b8 W
 |_=>λ_ _ _ _ _=>False
def ah4(op:ke):aK->Q af->Nat->List (Nat×D)->cV->bJ->Prop:=match op with
 | .make b8 W=>(match W with
   | .alloc t=>λC h b _ _ ah=>ap (FO C t (k5 undef) b) λr=>gO C h b r.1 r.2 ah
   | .box _ x=>λC h b aq I ah=>eW b8 aq I x λH=>ha C h b H ah
   | .buildSlice t len kv=>λC h b aq I ah=>Do b8 aq I kv.toList λdq=>ap (Rd C t len dq b) λr=>gO C h b r.1 r.2 ah
   | .makeMap _ none=>λC h b _ _ ah=>gO C h b (.map b) (.map [] 0) ah
   |_=>λ_ _ _ _ _ _=>False)
 |_=>λ_ _ _ _ _ _=>False
def WL(op:ke):aK->Q af->Nat->List (Nat×D)->cV->(D->Q af->Prop)->Prop:=match op with
 | .make b8 W=>(match W with
   | .alloc t=>λC h b _ _ ah=>ap (FO C t (k5 undef) b) λr=>mE C h b r.1 r.2 ah
   | .box _ x=>λC h b aq I ah=>eW b8 aq I x λH=>y6 C h b H ah
   | .buildSlice t len kv=>λC h b aq I ah=>Do b8 aq I kv.toList λdq=>ap (Rd C t len dq b) λr=>mE C h b r.1 r.2 ah
   | .makeMap _ none=>λC h b _ _ ah=>mE C h b (.map b) (.map [] 0) ah
   |_=>λ_ _ _ _ _ _=>False)
 |_=>λ_ _ _ _ _ _=>False
def UR(rd:Bool)(op:ke):aK->Q af->Nat->List (Nat×D)->cV->bJ->bJ->Prop:=match op with
 | .st n H v=>λC h j aq I ah _=>j3 H aq I λH=>j3 v aq I λv=>ap (gq C h n H v) λh=>ah undef h j
 | .call f args=>λC h j aq I ah av=>Oo aq I args λcu=>aU C f cu h j ah av
 | .fw b8 W=>(match W with
   | .mapUpdate t m z x=>λC h j aq I ah _=>eW b8 aq I m λH=>eW b8 aq I z λb=>eW b8 aq I x λc=>h0 (J9 C h j t H b c) h j ah
   | .insert t m z x=>λC h j aq I ah _=>eW b8 aq I m λH=>eW b8 aq I z λb=>eW b8 aq I x λc=>h0 (J9 C h j t H b c) h j ah
   | .mapEntry t m z=>λC h j aq I ah _=>eW b8 aq I m λH=>eW b8 aq I z λb=>h0 (K9 C t k4 g9 h j (two H b)) h j ah
   | .entryStore _ m s x=>λC h j aq I ah _=>eW b8 aq I m λH=>eW b8 aq I s λb=>eW b8 aq I x λc=>h0 (K1 C k4 g9 nt h j (ajQ H b c)) h j ah
   | .makeSlice t l c=>λC h j aq I ah _=>eW b8 aq I l λH=>eW b8 aq I c λb=>h0 (K8 C t k4 g9 h j (two H b)) h j ah
   | .makeMap t (some r)=>λC h j aq I ah _=>eW b8 aq I r λH=>h0 (K7 C t k4 h j (k5 H)) h j ah
   | .convert s d x=>λC h j aq I ah _=>eW b8 aq I x λH=>h0 (Lc C s d k4 h j (k5 H)) h j ah
   | .range t x=>λC h j aq I ah _=>eW b8 aq I x λH=>h0 (La C t k4 h j (k5 H)) h j ah
   | .next eP AU=>λC h j aq I ah _=>eW b8 aq I eP λH=>HJ (xW C k4 AU h j (k5 H)) h j ah
   | .panic x=>λ_ h j aq I _ av=>bW rd False (eW b8 aq I x λH=>wS av H h j)
   | .call c=>λC h j aq I ah av=>(match c with
     |⟨.value f,args,_⟩=>eW b8 aq I f λnd=>uh b8 aq I args.toList λcu=>jq C nd cu h j ah av
     |⟨.builtin b,args,di⟩=>uh b8 aq I args.toList λbr=>h0 (H6 C h j b di.toList br) h j ah
     |⟨.invoke r name,args,_⟩=>eW b8 aq I r λkc=>uh b8 aq I args.toList λcu=>aib C rd kc name cu h j ah av)
   |_=>λ_ _ _ _ _ _ _=>False)
 |_=>λ_ _ _ _ _ _ _=>False
def W3(rd:Bool)(op:ke)(C:aK)(h:Q af)(j:Nat)(aq:List (Nat×D))(I:cV)(ah av:bJ):Prop:=match np op with
 | .ix=>IV op C h aq I λv=>ah v h j
 | .make=>ah4 op C h j aq I ah
 | .fw=>UR rd op C h j aq I ah av
inductive Spec where
 |no
 |defer (b8:List (Nat×Nat)) (f:Operand) (args:List Operand)
 |recover
def Gq(op:ke):Spec:=match op with
 | .fw b8 W=>(match W with
   | .defer c=>(match c with|⟨.value f,args,_⟩=> .defer b8 f args.toList|_=> .no)
   | .call c=>(match c with|⟨.builtin b,args,_⟩=>(match b,args.toList with| .recover,[]=> .recover|_,_=> .no)|_=> .no)
   |_=> .no)
 |_=> .no
def Ku(nd:D)(cu:List D)(I:cV)(ah:cV->Prop):Prop:=match nd with
 | .func fn first fY=>ah (A7 I ⟨.fn fn fY,first++cu⟩)
 |_=>False
def Jo(ka:Option (Option D))(I:cV)(ah:D->cV->Prop):Prop:=match ka with
 |none=>False
 |some none=>ah .nilIface I
 |some (some ac)=>bW I.rc (ah .nilIface I) (ah ac (Ra I))
def Rv(g:Option (Nat×Bool))(aq:List (Nat×D))(H b:Prop):Prop:=match g with
 |none=>H
 |some (S,mc)=>cw (ev aq S) λv=>iB mc v H b
def Rx(g:Option (Nat×Bool))(aq:List (Nat×D))(p9:bJ->Prop)(dK:bJ)(h:Q af)(j:Nat):Prop:=match g with
 |none=>p9 dK
 |some (S,mc)=>p0 dK λah=>cw (ev aq S) λv=>iB mc v (p9 ah) (ah undef h j)
def s4(g:Option (Nat×Bool))(aq:List (Nat×D))(p9:(D->Q af->Prop)->Prop)(dK:D->Q af->Prop)(h:Q af):Prop:=match g with
 |none=>p9 dK
 |some (S,mc)=>wE dK λah=>cw (ev aq S) λv=>iB mc v (p9 ah) (ah undef h)
def XY(g:Option (Nat×Bool))(aq:List (Nat×D))(p9:Prop->Prop)(dK:Prop):Prop:=match g with
 |none=>p9 dK
 |some (S,mc)=>Me dK λah=>cw (ev aq S) λv=>iB mc v (p9 ah) ah
def ake(g:Option (Nat×Bool))(aq:List (Nat×D))(p9:bJ->Prop)(dK:bJ)(h:Q af)(j:Nat):Rx g aq p9 dK h j=Rv g aq (p9 dK) (dK undef h j):=by
 cases g with
 |none=>rfl
 |some p=>exact axR _ _
def aD8(g:Option (Nat×Bool))(aq:List (Nat×D))(p9:(D->Q af->Prop)->Prop)(dK:D->Q af->Prop)(h:Q af):s4 g aq p9 dK h=Rv g aq (p9 dK) (dK undef h):=by
 cases g with
 |none=>rfl
 |some p=>exact axP _ _
def aD9(g:Option (Nat×Bool))(aq:List (Nat×D))(p9:Prop->Prop)(dK:Prop):XY g aq p9 dK=Rv g aq (p9 dK) dK:=by
 cases g with
 |none=>rfl
 |some p=>exact axQ _ _
def KL(l:List (Nat×Nat)):List (Nat×D)->cV->(cV->Prop)->Prop:=
 List.rec (motive:=λ_=>List (Nat×D)->cV->(cV->Prop)->Prop) (λ_ I ah=>ah I)
  (λp _ ai aq I ah=>cw (ev aq p.1) λv=>ai aq (Z I p.2 v) ah) l
def Du(C:aK)(bR:vD)(fin:List (Nat×Nat))(ah:fB)(av:tm)(rest:List fz):List (Nat×D)->cV->Q af->Nat->Prop:=
 List.rec (motive:=λ_=>List (Nat×D)->cV->Q af->Nat->Prop) (λaq I h j=>KL fin aq I λI=>ah I h j)
  (λx _ ai aq I h j=>match Gq x.op with
   | .no=>Rx x.g aq (λah=>W3 bR.rd x.op C h j aq I ah (av I)) (λv h j=>ai ((x.i,v)::aq) I h j) h j
   | .defer b8 f args=>bW (x.g.isNone&&bR.bh) (eW b8 aq I f λnd=>uh b8 aq I args λcu=>Ku nd cu I λI=>ai ((x.i,undef)::aq) I h j) False
   | .recover=>bW (x.g.isNone&& !bR.rd) (Jo bR.ka I λv I=>ai ((x.i,v)::aq) I h j) False) rest
def Qq(C:aK)(base:Nat)(I:cV)(l:List fz):List (Nat×D)->Q af->(List (Nat×D)->Q af->Prop)->Prop:=
 List.rec (motive:=λ_=>List (Nat×D)->Q af->(List (Nat×D)->Q af->Prop)->Prop) (λaq h ah=>ah aq h)
  (λx _ ai aq h ah=>s4 x.g aq (λS=>match np x.op with
   | .make=>WL x.op C h (base+x.i) aq I S
   |_=>IV x.op C h aq I λv=>S v h) (λv h=>ai ((x.i,v)::aq) h ah) h) l
structure gb(x:D)(W:Option D)(ah:Prop):Prop where
 out:cw W λac=>D.same 30 x ac=true/\ah
def Xf(C:aK)(I:cV)(aq:List (Nat×D))(h:Q af)(l:List fz):Prop->Prop:=
 List.rec (motive:=λ_=>Prop->Prop) (λah=>ah) (λx _ ai ah=>XY x.g aq (λaj=>IV x.op C h aq I λv=>gb v (ev aq x.i) aj) (ai ah)) l
def Te(C:aK)(rd:Bool)(base:Nat)(fin:List (Nat×Nat))(I:cV)(ah:fB)(av:bJ)(lS:List xo):List (Nat×D)->Q af->Nat->Prop:=
 List.rec (motive:=λ_=>List (Nat×D)->Q af->Nat->Prop) (λ_ _ _=>False)
  (λs _ ai aq h j=>Qq C base I s.vc aq h λaq h=>Xf C I aq h s.Xe (match s.fw with
   |none=>KL fin aq I λI=>ah I h j
   |some a=>Rx a.g aq (λah=>UR rd a.op C h j aq I ah av) (λv h j=>ai ((a.i,v)::aq) h j) h j)) lS
structure e2(body:fB->fB)(I:cV)(h:Q af)(j:Nat):Prop where
 out:∃tj:Nat->fB,(∃m,tj m I h j)/\∀m I h j,tj m I h j->body (λI h j=>∃gN,gN<m/\tj gN I h j) I h j
def Eu(id:Nat)(ah:fB)(E:Nat->fB):Nat->fB:=λu6=>bW (Nat.beq id u6) ah (E u6)
def Tp(W:Operand)(I:cV)(ah:D->Prop):Prop:=eW [] [] I W ah
def aBx(C:aK)(n ao:Nat)(bR:vD)(av:tm)(ar:Array Oper)(B0:Bool)(ah:fB):fB:=λI h j=>Bool.rec (motive:=λ_=>Prop)
 (cw (Mx C n ar ao) λr=>Du C bR r.fin ah (λI=>av (h5 (dstsOf ar.toList) I)) r.rest [] I h j)
 (cw (Mw C n ar ao) λr=>fb (j+ar.size) λan=>Te C bR.rd j r.fin I ah (av (h5 (dstsOf ar.toList) I)) r.lS [] h an) B0
def Ju(n:Nat):List Nat->List D->cV->(cV->Prop)->Prop
 |[],[],I,ah=>ah I
 |p::dq,H::cu,I,ah=>bW (Nat.blt p n) (Ju n dq cu (Z I p H) ah) False
 |_,_,_,_=>False
structure ap2(C:aK)(l:Nat)(mk:LoopState->Option Code->af)(h:Q af)(z:Prop):Prop where
 here:U C h l=some (mk .ready none)
 go:z
structure Ok(C:aK)(l:Nat)(mk:LoopState->Option Code->af)(st:LoopState)(p:Option Code)(b:Bool)(ah:bJ)(h:Q af)(j:Nat):Prop where
 here:∃ajy Jh,U C h l=some (mk ajy Jh)
 go:ah (.bool b) (bj C h l (some (mk st p))) j
abbrev NB:=vD->tm->fB->(Nat->fB)->fB->fB
def C8:vD:=⟨true,false,none⟩
def un(C:aK)(A bo:NB)(l:Nat)(mk:LoopState->Option Code->af)(ah av:bJ):fB:=λI h j=>
 A C8 (λ_=>av) (λI h j=>ap2 C l mk h (bo C8 (λ_=>av) (λ_ h j=>Ok C l mk .ready none true ah h j) (λid _ h j=>Ok C l mk .done (some (.exit id)) false ah h j)
   (λ_ h j=>Ok C l mk .done (some .ret) false ah h j) I (bj C h l (some (mk .busy none))) j)) (λ_ _ _ _=>False) (λ_ _ _=>False) I h j
def aiR(p:Option Code)(ah:fB)(E:Nat->fB)(r:fB):fB:=match p with
 |none=>ah
 |some c=>(match c with| .exit id=>E id| .ret=>r|_=>λ_ _ _=>False)
def wN(I:cV)(j:Nat):cV:=A7 I ⟨.collected j,[]⟩
structure Gg(C:aK)(n:Nat)(nd:D)(params:List Nat)(eM:Nat->(LoopState->Option Code->af)->bJ->bJ->fB)(ah:fB)(E:Nat->fB)(r:fB)(av:tm)(I:cV)(h:Q af)(j:Nat):Prop where
 low:C.a2<=j
 out:match nd with
  | .func fn first fY=>(match fn with
    | .func g=>∀mk:LoopState->Option Code->af,
       (∀args S' an Bq eE,U C S' (j+1)=some (mk .ready none)->Ju n params args I (λsi=>eM (j+1) mk Bq eE si S' an)->BJ C (j+1) args S' an Bq eE)->
       vB C g (first++[.func (.yield (j+1)) [] []]++fY) (bj C (bj C h j (some (.deferred (some [])))) (j+1) (some (mk .ready none))) (j+2)
        (λ_ S' an=>∃st p,st≠ .busy/\U C S' (j+1)=some (mk st p)/\aiR p ah E r (wN I j) (bj C S' (j+1) (some (mk .exhausted p))) an)
        (av (wN I j))
    |_=>False)
  |_=>False
def xD(C:aK)(n ao:Nat)(c:Code):NB:=
 Code.rec (motive:=λ_=>NB)
  (λ_ _ ah _ _=>ah)
  (λ_ ar d bR av ah _ _=>aBx C n ao bR av ar d ah)
  (λ_ _ mA hW bR av ah E r=>mA bR av (hW bR av ah E r) E r)
  (λc _ _ mA hW bR av ah E r I h j=>Tp c I λv=>bk ah λah=>aR v (mA bR av ah E r I h j) (hW bR av ah E r I h j))
  (λid _ hW bR av ah E r I h j=>bk ah λah=>hW bR av ah (Eu id ah E) r I h j)
  (λ_ hW bR av _ E r=>e2 λSq=>hW bR av Sq E r)
  (λf params _ _ mA hW bR av ah E r I h j=>bW bR.bh (Tp f I λnd=>Gg C n nd params.toList (un C mA hW) ah E r av I h j) False)
  (λid _ _ _ E _=>E id)
  (λ_ hW bR av ah E r=>hW bR av ah E r)
  (λ_ _ _ ah _ _=>ah)
  (λ_ _ _ _ _ _ _ _ _=>False)
  (λ_ _ _ _ r=>r)
  (λ_ _ _ _ _ _ _ _ _=>False) c
def rS(C:aK)(h:Q af)(I:cV)(l:List ResultVar):(List D->Prop)->Prop:=
 List.rec (motive:=λ_=>(List D->Prop)->Prop) (λah=>ah [])
  (λx _ ai ah=>ResultVar.rec (motive:=λ_=>Prop) (λt=>cw (I t) λv=>ai λr=>ah (v::r)) (λH t=>cw (I H) λp=>ap (mj C h t p) λv=>ai λr=>ah (v::r)) x) l
def cP(l:List D):cV:=⟨λn=>sY l n,[],false⟩
structure uK(C:aK)(fn:Fn)(cu:List D)(ka:Option D)(h:Q af)(j:Nat)(bu:Bool->Q af->Nat->Prop):Prop where
 out:match fn with
  | .func f=>C.hB f cu=none/\(∃fn c,C.P.funcs[f]? =some fn/\fn.body=some c)/\X9 C f cu ka h j bu
  |_=>False
structure QD(C:aK)(r:Nat)(h:Q af)(z:Prop):Prop where
 low:C.a2<=r
 here:U C h r=some (.deferred (some []))
 go:z
def n0(C:aK)(MV:List ResultVar)(bu:bJ)(I:cV)(ds:List h3):Q af->Nat->Prop:=
 List.rec (motive:=λ_=>Q af->Nat->Prop) (λh j=>rS C h I MV λbr=>bu (one br) h j)
  (λd _ ai h j=>match d.target with
   | .collected r=>QD C r h (ai (bj C h r (some (.deferred none))) j)
   | .fn fn cap=>uK C fn (d.args++cap) none h j λ_ h j=>ai h j) ds
def wR(C:aK)(MV:List ResultVar)(bu eM:bJ)(I:cV)(ac:D):List h3->Q af->Nat->Prop
 |[],h,j=>eM ac h j
 |d::ds,h,j=>match d.target with
   | .collected r=>QD C r h (wR C MV bu eM I ac ds (bj C h r (some (.deferred none))) j)
   | .fn fn cap=>uK C fn (d.args++cap) (some ac) h j λb h j=>bW b (n0 C MV bu I ds h j) (wR C MV bu eM I ac ds h j)
def I0:vD:=⟨false,false,none⟩
def AZ:vD:=⟨false,true,none⟩
def B7(C:aK)(f:Nat)(args:List D)(h:Q af)(j:Nat)(bu eM:bJ):Prop:=match C.P.funcs[f]? with
 |some fn=>(match fn.body with
  |some c=>xD C fn.ntmps (Nat.lor (kK c) (oH fn.results.toList)) c AZ (λI ac h j=>wR C fn.results.toList bu eM I ac I.bh h j) (λI h j=>n0 C fn.results.toList bu I I.bh h j) (λ_ _ _ _=>False)
    (λI h j=>n0 C fn.results.toList bu I I.bh h j) (cP args) h j
  |none=>False)
 |none=>False
def Ak(C:aK)(f:Nat)(args:List D)(ka:Option D)(h:Q af)(j:Nat)(bu:Bool->Q af->Nat->Prop):Prop:=match C.P.funcs[f]? with
 |some fn=>(match fn.body with
  |some c=>xD C fn.ntmps (Nat.lor (kK c) (oH fn.results.toList)) c ⟨false,false,some ka⟩ (λ_ _ _ _=>False) (λI h j=>rS C h I fn.results.toList λ_=>bu I.rc h j) (λ_ _ _ _=>False)
    (λI h j=>rS C h I fn.results.toList λ_=>bu I.rc h j) (cP args) h j
  |none=>False)
 |none=>False
def c2(C:aK)(f:Nat)(args:List D)(h:Q af)(j:Nat)(bu eM:bJ):Prop:=match C.P.funcs[f]? with
 |some fn=>(match fn.body with
  |some c=>xD C fn.ntmps (Nat.lor (kK c) (oH fn.results.toList)) c I0 (λ_=>eM) (λI h j=>rS C h I fn.results.toList λbr=>bu (one br) h j) (λ_ _ _ _=>False)
    (λI h j=>rS C h I fn.results.toList λbr=>bu (one br) h j) (cP args) h j
  |none=>False)
 |none=>False
def cQ(C:aK)(f dT:Nat):Bool:=match C.P.funcs[f]? with
 |some fn=>(match fn.body with
  |some c=>Nat.ble dT fn.ntmps&&mo C (Nat.lor (kK c) (oH fn.results.toList)) c&&A8 (Nat.lor (kK c) (oH fn.results.toList)) fn.results.toList
  |none=>false)
 |none=>false
end
end Go.bd

