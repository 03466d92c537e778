/- Part of the proof of the last text; no conditions -/
import Derived.Test.YtpeabpmnlmaabaaGreatDoorYd
import Derived.ChangeReads
import GoSem.ClaimJoined
import Derived.Lib.Bytealg
import Derived.LaidLaws
set_option maxHeartbeats 8000000
set_option linter.all false
namespace Go.ba
noncomputable section
open Go.RowKit (Below)
abbrev wM:=Option (List D×Nat×List (Nat×af))
def EU(P:Program)(next:Nat->DataW Unit->Nat->wM):List Field->List (DataW Unit)->Nat->Nat->wM
 |[],[],_,n=>some ([],n,[])
 |f::jE,d::ds,off,n=>bV (Nat.beq f.offset off) (match next f.type d n with
  |some (k,aM,os)=>bV (Nat.beq k.length (P.cellsOf f.type)) (match EU P next jE ds (off+k.length) aM with
   |some (cr,aR,tT)=>some (k++cr,aR,os++tT)
   |none=>none) none
  |none=>none) none
 |_,_,_,_=>none
def H9(P:Program)(next:Nat->DataW Unit->Nat->wM)(E:Nat):List (DataW Unit)->Nat->wM
 |[],n=>some ([],n,[])
 |d::ds,n=>match next E d n with
  |some (k,aM,os)=>bV (Nat.beq k.length (P.cellsOf E)) (match H9 P next E ds aM with
   |some (cr,aR,tT)=>some (k++cr,aR,os++tT)
   |none=>none) none
  |none=>none
def LM:Lit->Option D
 | .bool b=>some (.bool b)
 | .int y n=>some (.int y n)
 | .string s=>some (.str (s.map (·.toNat)))
 |_=>none
def VV(P:Program)(E:Nat)(k:List D):Option D:=match P.underlying E with
 |some (.struct _)=>some (.agg k)
 |some (.array _ _)=>some (.agg k)
 |some _=>(match k with|[v]=>some v|_=>none)
 |none=>none
def QA(P:Program)(y:Nat):Bool:=match P.underlying y with|some .bool=>true|some (.int _)=>true|some .string=>true|_=>false
def LV(P:Program)(next:Nat->DataW Unit->Nat->wM)(E:Nat):List (Lit×DataW Unit)->Nat->Option (List (D×D)×Nat×List (Nat×af))
 |[],n=>some ([],n,[])
 |(key,d)::ca,n=>match LM key,next E d n with
  |some H8,some (k,aM,os)=>(match VV P E k,LV P next E ca aM with
   |some v,some (r,aR,tT)=>some ((H8,v)::r,aR,os++tT)
   |_,_=>none)
  |_,_=>none
def IJ(k:List D):af:= .cells (R.ofList k 0 .nil) k.length .own
def xM(P:Program):Nat->Nat->DataW Unit->Nat->wM
 |0,_,_,_=>none
 |m+1,t,d,n=>match P.underlying t,d with
  |some .bool, .lit (.bool b)=>some ([.bool b],n,[])
  |some (.int _), .lit (.int y i)=>some ([.int y i],n,[])
  |some .string, .lit (.string s)=>some ([.str (s.map (·.toNat))],n,[])
  |some (.pointer _), .nil=>some ([.cF],n,[])
  |some (.pointer E), .ptr d=>(match xM P m E d (n+1)with
   |some (k,aM,os)=>bV (Nat.beq k.length (P.cellsOf E)&&Nat.blt 0 k.length) (some ([.ptr n 0],aM,(n,IJ k)::os)) none
   |none=>none)
  |some (.slice _), .nil=>some ([.aT],n,[])
  |some (.slice E), .slice ca aiB=>(match aiB with
   |[]=>(match H9 P (xM P m) E ca (n+1)with
    |some (k,aM,os)=>bV (Nat.blt 0 k.length) (some ([.slice n 0 ca.length ca.length],aM,(n,IJ k)::os)) none
    |none=>none)
   |_::_=>none)
  |some (.struct jE), .agg ds=>(match EU P (xM P m) jE.toList ds 0 n with
   |some (k,aM,os)=>bV (Nat.beq k.length (P.cellsOf t)) (some (k,aM,os)) none
   |none=>none)
  |some (.array _ E), .agg ds=>(match H9 P (xM P m) E ds n with
   |some (k,aM,os)=>bV (Nat.beq k.length (P.cellsOf t)) (some (k,aM,os)) none
   |none=>none)
  |some (.interface _), .nil=>some ([.nilIface],n,[])
  |some (.map _ _), .nil=>some ([.mv],n,[])
  |some (.map y E), .map ca=>bV (QA P y) (match LV P (xM P m) E ca (n+1)with
   |some (r,aM,os)=>some ([.map n],aM,(n, .look r)::os)
   |none=>none) none
  |_,_=>none
section
variable{C:aL}{P:Program}{w:World}
def sY(w:World)(dp:List MemPlace):Prop:=∀b off,MemPlace.cell b off∈dp->∃c t,w.heap[b]? =some (.cells c t (0,0))
def Gj(V:af):Prop:=∀C ad,wO C ad V
def Lays(C:aL)(w:World)(n:Nat)(cs:List Value)(r:List D×Nat×List (Nat×af)):Prop:=
 n<=r.2.1/\(∀x∈r.2.2,n<=x.1/\x.1<r.2.1/\Gj x.2)/\∃f:Nat->m4,∀S ad,(∀b,n<=b->b<r.2.1->S b=f b/\ad b)->cs=b2 S r.1/\eu ad r.1/\∀x∈r.2.2,kr C S ad x.2 (S x.1) w
def Lays.plain{n:Nat}{cs:List Value}{k:List D}(a:∀S ad,cs=b2 S k/\eu ad k):Lays C w n cs (k,n,[]):=
 ⟨Zj _,Zs,λ_=>default,λS ad _=>⟨(a S ad).1,(a S ad).2,Zs⟩⟩
def Lays.app{n aM aR:Nat}{r7 Sz:List Value}{c7 cr:List D}{ahL tT:List (Nat×af)}(J:Lays C w n r7 (c7,aM,ahL))(Q:Lays C w aM Sz (cr,aR,tT)):Lays C w n (r7++Sz) (c7++cr,aR,ahL++tT):=by
 obtain⟨a7,b6,eQ,a3⟩:=J
 obtain⟨bZ,cu,fd,c0⟩:=Q
 refine⟨ZA a7 bZ, ?_,λb=>if b<aM then eQ b else fd b, ?_⟩
 ·intro x ae
  rcases Zz.1 ae with a|a
  ·obtain⟨cN,cB,ea⟩:=b6 x a
   exact⟨cN,ZN cB bZ,ea⟩
  ·obtain⟨cN,cB,ea⟩:=cu x a
   exact⟨ZA a7 cN,cB,ea⟩
 ·intro S ad dP
  obtain⟨cX,dI,gZ⟩:=a3 S ad (λb J Q=>by
   have Hd:b<aM:=Q
   have:=dP b J (ZN Q bZ)
   simp only[Zp Hd]at this
   exact this)
  obtain⟨c1,cH,eY⟩:=c0 S ad (λb J Q=>by
   have uH:¬b<aM:=zm.2 J
   have:=dP b (ZA a7 J) Q
   simp only[Zh uH]at this
   exact this)
  refine⟨by rw[DI, <-cX, <-c1],BM dI cH, ?_⟩
  intro x ae
  rcases Zz.1 ae with a|a
  ·exact gZ x a
  ·exact eY x a
def E6{α eJ:Type}{f:α->Option eJ}:∀{k:List α}{r:List eJ},k.mapM f=some r->r.length=k.length/\∀(i:Nat) (F:α) (b:eJ),k[i]? =some F->r[i]? =some b->f F=some b:=by
 intro k
 induction k with
 |nil=>intro r a;simp at a;subst a;simp
 |cons F k ai=>
  intro r a
  simp only[Y7,Option.bind_eq_bind,ZV]at a
  obtain⟨b,ag,h7,Y,a⟩:=a
  simp at a;subst a
  obtain⟨J,Q⟩:=ai Y
  refine⟨by simp[J],λi fu dK aA kg=> ?_⟩
  cases i with
  |zero=>simp at aA kg;subst aA;subst kg;exact ag
  |succ i=>exact Q i fu dK (by simpa using aA) (by simpa using kg)
def aha{α eJ:Type}{f:α->Option eJ}{F:α}{k:List α}{r:List eJ}(a:(F::k).mapM f=some r):∃b h7,r=b::h7/\f F=some b/\k.mapM f=some h7:=by
 simp only[Y7,Option.bind_eq_bind,ZV]at a
 obtain⟨b,ag,h7,Y,a⟩:=a
 simp at a;subst a
 exact⟨b,h7,rfl,ag,Y⟩
def sY.of{dp cT:List MemPlace}(a:sY w dp)(aD:∀x∈cT,x∈dp):sY w cT:=λb off ag=>a b off (aD _ ag)
def Nf(C:aL)(w:World)(next:Nat->DataW Unit->Nat->wM)(eK:TypeId->List Value->Option (DataW Unit×List MemPlace)):Prop:=
 ∀t d n r,next t d n=some r->∀cs dp,eK t cs=some (d,dp)->sY w dp->Lays C w n cs r
variable{next:Nat->DataW Unit->Nat->wM}{eK:TypeId->List Value->Option (DataW Unit×List MemPlace)}
def axw(jT:Nf C w next eK){cs:List Value}:∀(jE:List Field) (ds:List (DataW Unit)) (off n:Nat) (r:List D×Nat×List (Nat×af)),EU P next jE ds off n=some r->
 ∀ci:List (DataW Unit×List MemPlace),(jE.mapM λf=>eK f.type ((cs.drop f.offset).take (P.cellsOf f.type)))=some ci->ci.map (·.1)=ds->sY w (ci.flatMap (·.2))->Lays C w n ((cs.drop off).take r.1.length) r:=by
 intro jE
 induction jE with
 |nil=>
  intro ds off n r a ci _ _ _
  cases ds with
  |nil=>simp[EU]at a;subst a;exact .plain λS ad=>⟨by simp[b2],trivial⟩
  |cons d ds=>simp[EU]at a
 |cons f jE ai=>
  intro ds off n r a ci ae aE cm
  cases ds with
  |nil=>simp[EU]at a
  |cons d ds=>
   simp only[EU,e5]at a
   obtain⟨US,a⟩:=a
   have US:=Zl US
   split at a
   ·rename_i k aM os Y
    simp only[e5]at a
    obtain⟨az,a⟩:=a
    have az:=Zl az
    split at a
    ·rename_i cr aR tT hr
     simp at a;subst a
     obtain⟨e,m0,rfl,B,Vp⟩:=aha ae
     simp at aE
     obtain⟨rfl,aE⟩:=aE
     have J:=jT _ _ _ _ Y _ e.2 (by rw[B]) (cm.of (by intro x ae;simp;exact .inl ae))
     have Q:=ai ds (off+k.length) aM _ hr m0 Vp aE (cm.of (by intro x ae;simp only[YR,Zz];exact .inr ae))
     rw[US, <-az]at J
     have:=J.app Q
     simp only[ZK]
     rw[List.take_add,zj]
     exact this
    ·simp at a
   ·simp at a
def adj(cs:List Value)(y:Nat):∀(m i0:Nat),(List.range' i0 m).flatMap (λi=>(cs.drop (i*y)).take y)=(cs.drop (i0*y)).take (m*y):=by
 intro m
 induction m with
 |zero=>intro i0;simp
 |succ m ai=>
  intro i0
  rw[List.range'_succ,YR,ai,Z7 m 1 y,Nat.one_mul,Nat.add_comm (m*y) y,List.take_add,zj,Z7 i0 1 y,Nat.one_mul]
def agN(jT:Nf C w next eK){E:Nat}{g:Nat->List Value}:∀(ds:List (DataW Unit)) (i0 n:Nat) (r:List D×Nat×List (Nat×af)),H9 P next E ds n=some r->
 ∀ci:List (DataW Unit×List MemPlace),((List.range' i0 ds.length).mapM λi=>eK E (g i))=some ci->ci.map (·.1)=ds->sY w (ci.flatMap (·.2))->Lays C w n ((List.range' i0 ds.length).flatMap g) r/\r.1.length=ds.length*P.cellsOf E:=by
 intro ds
 induction ds with
 |nil=>
  intro i0 n r a ci _ _ _
  simp[H9]at a;subst a
  exact⟨.plain λS ad=>⟨by simp[b2],trivial⟩,Zs⟩
 |cons d ds ai=>
  intro i0 n r a ci ae aE cm
  simp only[H9]at a
  split at a
  ·rename_i k aM os Y
   simp only[e5]at a
   obtain⟨az,a⟩:=a
   have az:=Zl az
   split at a
   ·rename_i cr aR tT hr
    simp at a;subst a
    simp only[ZF,List.range'_succ]at ae
    obtain⟨e,m0,rfl,B,Vp⟩:=aha ae
    simp at aE
    obtain⟨rfl,aE⟩:=aE
    have J:=jT _ _ _ _ Y _ e.2 (by rw[B]) (cm.of (by intro x ae;simp;exact .inl ae))
    obtain⟨Q,ak⟩:=ai (i0+1) aM _ hr m0 Vp aE (cm.of (by intro x ae;simp only[YR,Zz];exact .inr ae))
    refine⟨?_, ?_⟩
    ·simp only[ZF,List.range'_succ,YR]
     exact J.app Q
    ·simp only[ZK,ZF,ak,az,Nat.succ_mul]
     omega
   ·simp at a
  ·simp at a
end
end
noncomputable section
open Go.RowKit (Below)
section
variable{C:aL}{P:Program}{w:World}
def Sr{F:Addr}{v:Value}(a:w.cell? F=some v):F.spot=none/\∃co ty u3,w.heap[F.block]? =some (.cells co ty u3)/\co[F.off]? =some v:=by
 unfold World.cell? at a
 split at a
 ·rename_i c ty u3 ag
  split at a
  ·cases a
  ·rename_i aD
   refine⟨?_,c,ty,u3,ag,a⟩
   cases b3:F.spot with
   |none=>rfl
   |some x=>rw[b3]at aD;exact absurd rfl aD
 ·cases a
def R0(F:Addr)(T:Nat):(F.add T).block=F.block:=by unfold Addr.add;split<;>rfl
def abK(F:Addr)(T:Nat):(F.add T).off=F.off+T:=by unfold Addr.add;split<;>simp_all
def St{F:Addr}{y:Nat}{g:List Value}{co:Array Value}{ty:TypeId}{u3:Nat×Nat}(ag:w.heap[F.block]? =some (.cells co ty u3))(a:w.cells? 0 F y=some g):g=(co.toList.drop F.off).take y/\g.length=y:=by
 unfold World.cells? at a
 rw[Zp (YN _)]at a
 obtain⟨J,Q⟩:=E6 a
 rw[List.length_range]at J
 have key:∀T,T<y->co[F.off+T]? =g[T]? :=by
  intro T bJ
  have bP:g[T]? =some g[T]:=Ze Zo
  have:=Q T T g[T] (by simp[bJ]) bP
  obtain⟨_,Gy,aCA,aFB,cN,cB⟩:=Sr this
  rw[R0,ag]at cN
  cases cN
  rw[abK]at cB
  rw[cB,bP]
 refine⟨Y5 λT=> ?_,J⟩
 by_cases bJ:T<y
 ·rw[YS bJ,YE, <-key T bJ];simp
 ·rw[Z2 Zo,Z2 Zx]
def Wt(k:List D):Gj (IJ k):=λ_ _=>⟨λ_ _ _ a=>(by cases a),λ_ _ _ a=>(by cases a;exact It)⟩
def azb(k:List (D×D)):Gj (.look k):=λ_ _=>⟨λ_ _ _ a=>(by cases a),λ_ _ _ a=>(by cases a)⟩
def WR{S:c6}{ad:Nat->Prop}{k:List D}{pl:m4}{co:Array Value}{ty:TypeId}(ag:w.heap[pl.cJ]? =some (.cells co ty (0,0)))(az:(co.toList.drop pl.eh).take k.length=b2 S k)(g:eu ad k)(cm:0<k.length):kr C S ad (IJ k) pl w:=by
 have eT:k.length<=co.size-pl.eh:=by
  have:=congrArg List.length az
  rw[kd]at this
  simp at this
  omega
 refine⟨co,ty,0,0,ag,rfl,Zo,λi v bv=> ?_⟩
 rw[mR]at bv
 have aN:i<k.length:=(Zb.1 bv).1
 refine⟨?_,BN g bv⟩
 have:=congrArg (λx:List Value=>x[i]?) az
 simp only[YS aN,YE,ZO,Bx,bv,ZR]at this
 exact this
def Lays.block{n aM:Nat}{os:List (Nat×af)}{cs:List Value}{k:List D}{ac:D}{x:Value}{cV:af}(pl:m4)(a:Lays C w (n+1) cs (k,aM,os))(bh:Gj cV)
 (h4:∀S ad,S n=pl->ad n->cs=b2 S k->eu ad k->kr C S ad cV pl w/\x=aO S ac/\cj ad ac):Lays C w n [x] ([ac],aM,(n,cV)::os):=by
 obtain⟨a7,b6,f,a3⟩:=a
 have a7:n+1<=aM:=a7
 refine⟨by simp only;omega, ?_,λb=>if b=n then pl else f b, ?_⟩
 ·intro e B
  rcases Zt.1 B with rfl|B
  ·exact⟨Zj _,by simp only;omega,bh⟩
  ·obtain⟨cN,cB,ea⟩:=b6 e B
   exact⟨Zo,cB,ea⟩
 ·intro S ad dP
  have aF:=dP n (Zj _) (by simp only;omega)
  simp only[ZE]at aF
  obtain⟨cX,dI,gZ⟩:=a3 S ad (λb J Q=>by
   have:=dP b Zo Q
   have dS:b≠n:=Zo
   simp only[Zh dS]at this
   exact this)
  obtain⟨e8,fR,hY⟩:=h4 S ad aF.1 aF.2 cX dI
  refine⟨by simp[b2,fR],⟨hY,trivial⟩, ?_⟩
  intro e B
  rcases Zt.1 B with rfl|B
  ·simp only[aF.1];exact e8
  ·exact gZ e B
def ahV{α eJ:Type}{f:α->eJ}{F m:List eJ}(a:F.Perm m):∀k:List α,k.map f=F->∃bM:List α,bM.Perm k/\bM.map f=m:=by
 induction a with
 |nil=>intro k a;simp at a;subst a;exact⟨[], .refl _,rfl⟩
 |cons x _ ai=>
  intro k a
  cases k with
  |nil=>simp at a
  |cons e k=>
   simp at a
   obtain⟨bM,J,Q⟩:=ai k a.2
   exact⟨e::bM,J.cons e,by simp[a.1,Q]⟩
 |swap x e eZ=>
  intro k a
  cases k with
  |nil=>simp at a
  |cons p k=>
   cases k with
   |nil=>simp at a
   |cons aj k=>
    simp at a
    obtain⟨rfl,rfl,rfl⟩:=a
    exact⟨aj::p::k, .swap _ _ _,Zs⟩
 |trans _ _ Vs LB=>
  intro k a
  obtain⟨c7,J,Q⟩:=Vs k a
  obtain⟨cr,ak,ay⟩:=LB c7 Q
  exact⟨cr,ak.trans J,ay⟩
def insert_perm{s0:Type}(x:Lit×DataW s0):∀k,(DataW.insert x k).Perm (x::k):=by
 intro k
 induction k with
 |nil=>exact .refl _
 |cons e k ai=>
  simp only[DataW.insert]
  split
  ·exact .refl _
  ·exact(ai.cons e).trans (.swap _ _ _)
def sorted_perm{s0:Type}:∀k:List (Lit×DataW s0),(k.foldr DataW.insert []).Perm k:=by
 intro k
 induction k with
 |nil=>exact .refl _
 |cons x k ai=>exact(insert_perm x _).trans (ai.cons x)
def aw6{y:Nat}{v:Value}{key:Lit}{H8:D}(aw:QA P y=true)(a:keyOf P y v=some key)(aH:LM key=some H8)(S:c6)(ad:Nat->Prop):v=aO S H8/\cj ad H8:=by
 unfold QA at aw
 unfold keyOf at a
 have E:mapKey P y v=some key:=by
  cases bc:P.underlying y with
  |none=>rw[bc]at aw;cases aw
  |some ac=>rw[bc]at a aw;cases ac<;>first|exact a|cases aw
 unfold mapKey at E
 split at E
 ·simp at E;subst E;simp[LM]at aH;subst aH;exact⟨rfl,trivial⟩
 ·split at E
  ·rename_i aj Mm n _ b3
   simp at E;subst E;simp[LM]at aH;subst aH
   exact⟨by rw[b3.1];rfl,trivial⟩
  ·cases E
 ·split at E
  ·rename_i s _ _
   simp at E;subst E;simp[LM]at aH;subst aH
   refine⟨by simp only[aO];rw[Sj], ?_⟩
   intro x ae
   simp at ae
   obtain⟨b,_,rfl⟩:=ae
   exact b.toNat_lt
  ·cases E
 ·cases E
def aCV{E:Nat}{v:Value}{k:List D}{ac:D}{S:c6}{ad:Nat->Prop}(cb:v.formed P E=true)(bc:VV P E k=some ac)(ax:v.cells.toList=b2 S k)(g:eu ad k):v=aO S ac/\cj ad ac:=by
 unfold VV at bc
 unfold Value.formed at cb
 cases aE:P.underlying E with
 |none=>rw[aE]at bc;cases bc
 |some MH=>
  rw[aE]at bc cb
  have agg:(∃cs,v= .agg cs)->ac= .agg k->v=aO S ac/\cj ad ac:=by
   rintro⟨cs,rfl⟩ rfl
   refine⟨?_,g⟩
   simp only[Value.cells]at ax
   simp only[aO, <-ax]
  have aBr:v.cells= #[v]->(∃x,k=[x]/\ac=x)->v=aO S ac/\cj ad ac:=by
   rintro J ⟨x,rfl,rfl⟩
   rw[J]at ax
   simp[b2]at ax
   exact⟨ax,g.1⟩
  cases v<;>cases MH<;>simp only at cb bc<;>first
   |(cases cb;done)
   |(simp at bc;exact agg ⟨_,rfl⟩ bc.symm)
   |(
     split at bc
     ·simp at bc;exact aBr rfl ⟨_,rfl,bc.symm⟩
     ·cases bc)
end
end
noncomputable section
open Go.RowKit (Below)
section
variable{C:aL}{P:Program}{w:World}
variable{next:Nat->DataW Unit->Nat->wM}{eK:TypeId->List Value->Option (DataW Unit×List MemPlace)}
def axv(jT:Nf C w next eK){y E:Nat}(aw:QA P y=true):∀(ca:List (Lit×DataW Unit)) (n:Nat) (r:List (D×D)×Nat×List (Nat×af)),LV P next E ca n=some r->
 ∀kb:List (MapEntry×((Lit×DataW Unit)×List MemPlace)),kb.map (·.2.1)=ca->(∀bu∈kb,keyOf P y bu.1.key=some bu.2.1.1/\bu.1.val.formed P E=true/\eK E bu.1.val.cells.toList=some (bu.2.1.2,bu.2.2)/\sY w bu.2.2)->
 n<=r.2.1/\(∀x∈r.2.2,n<=x.1/\x.1<r.2.1/\Gj x.2)/\r.1.length=kb.length/\∃f:Nat->m4,∀S ad,(∀b,n<=b->b<r.2.1->S b=f b/\ad b)->
  kb.map (·.1)=(List.zipWith (λ(p:D×D) (bu:MapEntry×((Lit×DataW Unit)×List MemPlace))=>(p.1,p.2,bu.1.born)) r.1 kb).map (mf S)/\(∀p∈r.1,cj ad p.1/\cj ad p.2)/\∀x∈r.2.2,kr C S ad x.2 (S x.1) w:=by
 intro ca
 induction ca with
 |nil=>
  intro n r a kb Ho _
  simp[LV]at a;subst a
  simp at Ho;subst Ho
  exact⟨Zj _,Zs,rfl,λ_=>default,λS ad _=>⟨rfl,Zs,Zs⟩⟩
 |cons F ca ai=>
  obtain⟨key,d⟩:=F
  intro n r a kb Ho ly
  simp only[LV]at a
  split at a
  ·rename_i H8 k aM os auv aF
   split at a
   ·rename_i v jX aR tT bv Y
    simp at a;subst a
    cases kb with
    |nil=>simp at Ho
    |cons bu kb=>
     simp at Ho
     obtain⟨EF,HZ⟩:=Ho
     obtain⟨bK,b1,cM,dF⟩:=ly bu (Zv ..)
     rw[EF]at bK cM
     obtain⟨a7,b6,eQ,a3⟩:=jT _ _ _ _ aF _ _ cM dF
     obtain⟨bZ,cu,b7,fd,c0⟩:=ai aM _ Y kb HZ (λbu cm=>ly bu (Zu _ cm))
     have a7:n<=aM:=a7
     have bZ:aM<=aR:=bZ
     refine⟨ZA a7 bZ, ?_,by simpa using b7,λb=>if b<aM then eQ b else fd b, ?_⟩
     ·intro x ae
      rcases Zz.1 ae with aj|aj
      ·obtain⟨cN,cB,ea⟩:=b6 x aj
       exact⟨cN,ZN cB bZ,ea⟩
      ·obtain⟨cN,cB,ea⟩:=cu x aj
       exact⟨ZA a7 cN,cB,ea⟩
     ·intro S ad dP
      obtain⟨cX,dI,gZ⟩:=a3 S ad (λb J Q=>by
       have Hd:b<aM:=Q
       have:=dP b J (ZN Q bZ)
       simp only[Zp Hd]at this
       exact this)
      obtain⟨c1,cH,eY⟩:=c0 S ad (λb J Q=>by
       have uH:¬b<aM:=zm.2 J
       have:=dP b (ZA a7 J) Q
       simp only[Zh uH]at this
       exact this)
      obtain⟨bW,cq⟩:=aw6 aw bK auv S ad
      obtain⟨im,ai7⟩:=aCV b1 bv cX dI
      refine⟨?_, ?_, ?_⟩
      ·simp only[ZP,List.zipWith_cons_cons,c1]
       congr 1
       obtain⟨⟨aGa,aGb,aF9⟩,_⟩:=bu
       simp only[mf]at bW im ⊢
       rw[<-bW, <-im]
      ·intro p aw
       rcases Zt.1 aw with rfl|aw
       ·exact⟨cq,ai7⟩
       ·exact cH p aw
      ·intro x ae
       rcases Zz.1 ae with aj|aj
       ·exact gZ x aj
       ·exact eY x aj
   ·simp at a
  ·simp at a
def ajA{kb:List (MapEntry×((Lit×DataW Unit)×List MemPlace))}:∀(r:List (D×D)) (kb:List (MapEntry×((Lit×DataW Unit)×List MemPlace))),r.length=kb.length->
 (List.zipWith (λ(p:D×D) (bu:MapEntry×((Lit×DataW Unit)×List MemPlace))=>(p.1,p.2,bu.1.born)) r kb).map (λE=>(E.1,E.2.1))=r:=by
 intro r
 induction r with
 |nil=>intro kb _;simp
 |cons p r ai=>
  intro kb a
  cases kb with
  |nil=>simp at a
  |cons bu kb=>simp[ai kb (by simpa using a)]
def aye{α eJ:Type}{f g:α->Option eJ}:∀{k:List α},(∀x∈k,f x=g x)->k.mapM f=k.mapM g:=by
 intro k
 induction k with
 |nil=>intro _;rfl
 |cons F k ai=>intro a;simp[Y7,a F Zs,ai λx ae=>a x (by simp[ae])]
def ari{α eJ:Type}{f g:α->List eJ}:∀{k:List α},(∀x∈k,f x=g x)->k.flatMap f=k.flatMap g:=by
 intro k
 induction k with
 |nil=>intro _;rfl
 |cons F k ai=>intro a;simp[YR,a F Zs,ai λx ae=>a x (by simp[ae])]
end
end
noncomputable section
open Go.RowKit (Below)
section
variable{C:aL}{P:Program}{w:World}
abbrev rd(P:Program)(w:World)(aj:Nat):TypeId->List Value->Option (DataW Unit×List MemPlace):=DataW.trod (λ_=>()) P w 0 (λ_=>true) false aj
def QL{F:Addr}{y:Nat}(a:0<y):MemPlace.cell F.block F.off∈MemPlace.row F y:=by
 unfold MemPlace.row
 exact ZG.2 ⟨0,by simp[a],Zs⟩
def agP:∀(m aj:Nat),Nf C w (xM P m) (rd P w aj):=by
 intro m
 induction m with
 |zero=>intro aj t d n r a;simp[xM]at a
 |succ m ai=>
  intro aj t d n r a cs dp Y cm
  cases aj with
  |zero=>simp[rd,DataW.trod]at Y
  |succ aj=>
   have LC:=ai aj
   simp only[xM]at a
   split at a
   ·
    rename_i b bc
    simp at a;subst a
    match cs with
    |[]=>simp[rd,DataW.trod,bc]at Y
    |_::_::_=>simp[rd,DataW.trod,bc]at Y
    |[c]=>
     cases c<;>simp[rd,DataW.trod,bc]at Y
     obtain⟨rfl,rfl⟩:=Y
     exact .plain λS ad=>⟨rfl,trivial,trivial⟩
   ·
    rename_i e2 y i bc
    simp at a;subst a
    match cs with
    |[]=>simp[rd,DataW.trod,bc]at Y
    |_::_::_=>simp[rd,DataW.trod,bc]at Y
    |[c]=>
     cases c<;>simp[rd,DataW.trod,bc]at Y
     obtain⟨⟨rfl,_⟩,⟨rfl,rfl⟩,rfl⟩:=Y
     exact .plain λS ad=>⟨rfl,trivial,trivial⟩
   ·
    rename_i s bc
    simp at a;subst a
    match cs with
    |[]=>simp[rd,DataW.trod,bc]at Y
    |_::_::_=>simp[rd,DataW.trod,bc]at Y
    |[c]=>
     cases c<;>simp[rd,DataW.trod,bc]at Y
     obtain⟨_,rfl,rfl⟩:=Y
     refine .plain λS ad=>⟨by simp only[b2,aO];rw[Sj], ?_,trivial⟩
     intro x ae
     simp at ae
     obtain⟨b,_,rfl⟩:=ae
     exact b.toNat_lt
   ·
    rename_i E bc
    simp at a;subst a
    match cs with
    |[]=>simp[rd,DataW.trod,bc]at Y
    |_::_::_=>simp[rd,DataW.trod,bc]at Y
    |[c]=>
     cases c<;>simp[rd,DataW.trod,bc]at Y
     rename_i F
     cases F with
     |none=>exact .plain λS ad=>⟨rfl,trivial,trivial⟩
     |some F=>simp[ZV]at Y
   ·
    rename_i E d bc
    split at a
    ·rename_i k aM os az
     simp only[e5,Zq,Zf]at a
     obtain⟨⟨J,Q⟩,rfl⟩:=a
     have J:=Zl J
     have Q:=lS Q
     match cs with
     |[]=>simp[rd,DataW.trod,bc]at Y
     |_::_::_=>simp[rd,DataW.trod,bc]at Y
     |[c]=>
      cases c<;>simp[rd,DataW.trod,bc]at Y
      rename_i V
      cases V with
      |none=>simp at Y
      |some F=>
       simp only[ZV,Function.comp,Yg,YT,DataW.ptr.injEq]at Y
       obtain⟨c9,ax,x,ae,rfl,rfl⟩:=Y
       obtain⟨co,ty,ag⟩:=cm F.block F.off (Zz.2 (.inl (QL Zo)))
       obtain⟨bK,b1⟩:=St ag ax
       have EB:F.spot=none:=by
        unfold World.cells? at ax
        rw[Zp (YN _)]at ax
        obtain⟨bW,cq⟩:=E6 ax
        have:=cq 0 0 c9[0] (by rw[List.getElem?_range Zo]) (Ze Zo)
        exact(Sr (show w.cell? F=some _ from this)).1
       have Ao:=LC _ _ _ _ az c9 x.2 ae (cm.of λe B=>Zz.2 (.inr B))
       refine Lays.block ⟨F.block,F.off,0⟩ Ao (Wt k) λS ad dP fX is bP=>⟨WR ag ?_ bP Q, ?_,fX⟩
       ·simp only
        rw[J, <-bK,is]
       ·simp only[aO,dP]
        obtain⟨q5,aoz,cp⟩:=F
        have EB:cp=none:=EB
        subst EB
        rfl
    ·simp at a
   ·
    rename_i E bc
    simp at a;subst a
    match cs with
    |[]=>simp[rd,DataW.trod,bc]at Y
    |_::_::_=>simp[rd,DataW.trod,bc]at Y
    |[c]=>
     cases c<;>(try(simp[rd,DataW.trod,bc]at Y;done))
     rename_i F len cap
     cases F with
     |none=>
      simp only[rd,DataW.trod,bc]at Y
      split at Y<;>simp_all
      exact .plain λS ad=>⟨rfl,trivial,trivial⟩
     |some F=>
      simp[rd,DataW.trod,bc,ZV]at Y
   ·
    rename_i E ca aiB bc
    split at a
    ·split at a
     ·rename_i k aM os az
      simp only[e5,Zf]at a
      obtain⟨Q,rfl⟩:=a
      have Q:=lS Q
      match cs with
      |[]=>simp[rd,DataW.trod,bc]at Y
      |_::_::_=>simp[rd,DataW.trod,bc]at Y
      |[c]=>
       cases c<;>(try(simp[rd,DataW.trod,bc]at Y;done))
       rename_i V len cap
       cases V with
       |none=>
        simp only[rd,DataW.trod,bc]at Y
        split at Y<;>simp_all
       |some F=>
        simp only[rd,DataW.trod,bc]at Y
        split at Y
        ·rename_i nc
         simp only[ZV,Yg,YT,DataW.slice.injEq,ZE]at Y
         obtain⟨SR,bz,rest,qD,⟨bD,cG⟩,rfl⟩:=Y
         have avq:rest=[]:=by simpa using cG
         subst avq
         obtain⟨bW,_⟩:=E6 qD
         obtain⟨cq,cS⟩:=E6 bz
         simp at bW cq
         have g1:cap=len:=Zo
         subst g1
         have eT:ca.length=cap:=by rw[<-bD];simp[cq]
         simp only[Z3,ZX,Yv]at cm
         obtain⟨jw,jY⟩:=agN (C:=C) (w:=w) LC (E:=E) (g:=λi=>(w.cells? 0 (F.add (i*P.cellsOf E)) (P.cellsOf E)).getD []) ca 0 (n+1) _ az SR
          (by
           rw[eT, <-List.range_eq_range']
           rw[<-bz]
           have ly:∀i∈List.range cap,(w.cells? 0 (F.add (i*P.cellsOf E)) (P.cellsOf E)).isSome=true:=by
            intro i aN
            have lz:i<cap:=by simpa using aN
            have:=cS i i SR[i] (by simp[lz]) (Ze Zo)
            simp only[ZV]at this
            obtain⟨dH,cN,_⟩:=this
            rw[cN];rfl
           exact aye λi aN=>by
            have:=ly i aN
            cases b3:w.cells? 0 (F.add (i*P.cellsOf E)) (P.cellsOf E)with
            |none=>rw[b3]at this;cases this
            |some dH=>simp)
          bD (cm.of λe B=>Zz.2 (.inr B))
         simp only at jY
         have HN:0<cap*P.cellsOf E:=by rw[<-eT, <-jY];exact Q
         obtain⟨co,ty,ag⟩:=cm F.block F.off (Zz.2 (.inl (QL (by rw[cq];exact HN))))
         have aH:0<P.cellsOf E:=Nat.pos_of_mul_pos_left HN
         have tp:0<cap:=Nat.pos_of_mul_pos_right HN
         have U:∀i,i<cap->∃dH,w.cells? 0 (F.add (i*P.cellsOf E)) (P.cellsOf E)=some dH:=by
          intro i lz
          have:=cS i i SR[i] (by simp[lz]) (Ze Zo)
          simp only[ZV]at this
          obtain⟨dH,cN,_⟩:=this
          exact⟨dH,cN⟩
         have EB:F.spot=none:=by
          obtain⟨dH,cN⟩:=U 0 tp
          have om:=(St (F:=F.add (0*P.cellsOf E)) (by rw[R0];exact ag) cN).2
          unfold World.cells? at cN
          rw[Zp (YN _)]at cN
          obtain⟨_,cq⟩:=E6 cN
          have:=cq 0 0 dH[0] (by rw[List.getElem?_range Zo]) (Ze Zo)
          have aY:(F.add (0*P.cellsOf E)).add 0=F:=by simp[Addr.add]
          rw[aY]at this
          exact(Sr this).1
         have at7:(List.range' 0 ca.length).flatMap (λi=>(w.cells? 0 (F.add (i*P.cellsOf E)) (P.cellsOf E)).getD [])=(co.toList.drop F.off).take (cap*P.cellsOf E):=by
          rw[eT]
          have:∀i∈List.range' 0 cap,(w.cells? 0 (F.add (i*P.cellsOf E)) (P.cellsOf E)).getD []=((co.toList.drop F.off).drop (i*P.cellsOf E)).take (P.cellsOf E):=by
           intro i aN
           have lz:i<cap:=by simpa using aN
           obtain⟨dH,cN⟩:=U i lz
           obtain⟨bK,_⟩:=St (F:=F.add (i*P.cellsOf E)) (by rw[R0];exact ag) cN
           rw[cN,YG,bK,abK,zj]
          rw[ari this,adj,zl,Yb]
         rw[at7]at jw
         refine Lays.block ⟨F.block,F.off,0⟩ jw (Wt k) λS ad dP fX is bP=>⟨WR ag ?_ bP Q, ?_,fX⟩
         ·simp only
          rw[jY,eT];exact is
         ·simp only[aO,dP,eT]
          obtain⟨q5,aoz,cp⟩:=F
          have EB:cp=none:=EB
          subst EB
          rfl
        ·simp at Y
     ·simp at a
    ·simp at a
   ·
    rename_i jE ds bc
    split at a
    ·rename_i k aM os az
     simp only[e5,Zf]at a
     obtain⟨J,rfl⟩:=a
     have J:=Zl J
     have dj:rd P w (aj+1) t cs=(if cs.length=P.cellsOf t then(jE.toList.mapM λf=>rd P w aj f.type ((cs.drop f.offset).take (P.cellsOf f.type))).map λci=>(.agg (ci.map (·.1)),ci.flatMap (·.2))else none):=by
      simp only[rd]
      rw[DataW.trod_step]
      unfold DataW.trodStep
      rw[bc]
     rw[dj]at Y
     split at Y
     case isFalse=>cases Y
     rename_i eT
     simp only[Yg,YT,DataW.agg.injEq]at Y
     obtain⟨ci,ae,aE,rfl⟩:=Y
     have:=axw (C:=C) (w:=w) LC (cs:=cs) jE.toList ds 0 n _ az ci ae aE cm
     simp only[Yb]at this
     rw[ZB Zo]at this
     exact this
    ·simp at a
   ·
    rename_i y E ds bc
    split at a
    ·rename_i k aM os az
     simp only[e5,Zf]at a
     obtain⟨J,rfl⟩:=a
     have J:=Zl J
     have dj:rd P w (aj+1) t cs=(if cs.length=P.cellsOf t then((List.range y).mapM λi=>rd P w aj E ((cs.drop (i*P.cellsOf E)).take (P.cellsOf E))).map λci=>(.agg (ci.map (·.1)),ci.flatMap (·.2))else none):=by
      simp only[rd]
      rw[DataW.trod_step]
      unfold DataW.trodStep
      rw[bc]
     rw[dj]at Y
     split at Y
     case isFalse=>cases Y
     rename_i eT
     simp only[Yg,YT,DataW.agg.injEq]at Y
     obtain⟨ci,ae,aE,rfl⟩:=Y
     have kh:ds.length=y:=by
      have:=(E6 ae).1
      rw[<-aE];simpa using this
     obtain⟨jw,jY⟩:=agN (C:=C) (w:=w) LC (E:=E) (g:=λi=>(cs.drop (i*P.cellsOf E)).take (P.cellsOf E)) ds 0 n _ az ci (by rw[kh, <-List.range_eq_range'];exact ae) aE cm
     rw[adj,zl,Yb,ZB (by simp only at jY;omega)]at jw
     exact jw
    ·simp at a
   ·
    rename_i E bc
    simp at a;subst a
    match cs with
    |[]=>simp[rd,DataW.trod,bc]at Y
    |_::_::_=>simp[rd,DataW.trod,bc]at Y
    |[c]=>
     cases c<;>simp[rd,DataW.trod,bc]at Y
     all_goals first
      |exact .plain λS ad=>⟨rfl,trivial,trivial⟩
      |(split at Y<;>simp_all)
   ·
    rename_i y E bc
    simp at a;subst a
    match cs with
    |[]=>simp[rd,DataW.trod,bc]at Y
    |_::_::_=>simp[rd,DataW.trod,bc]at Y
    |[c]=>
     cases c<;>simp[rd,DataW.trod,bc]at Y
     rename_i b
     cases b with
     |none=>exact .plain λS ad=>⟨rfl,trivial,trivial⟩
     |some b=>
      simp only at Y
      split at Y
      ·split at Y
       ·simp only[ZV]at Y
        obtain⟨dm,_,ak⟩:=Y
        split at ak<;>simp at ak
       ·cases Y
      ·cases Y
   ·
    rename_i y E ca bc
    simp only[e5]at a
    obtain⟨aw,a⟩:=a
    split at a
    ·rename_i e8 aM os az
     simp at a;subst a
     match cs with
     |[]=>simp[rd,DataW.trod,bc]at Y
     |_::_::_=>simp[rd,DataW.trod,bc]at Y
     |[c]=>
      cases c<;>(try(simp[rd,DataW.trod,bc]at Y;done))
      rename_i b
      cases b with
      |none=>simp[rd,DataW.trod,bc]at Y
      |some b=>
       simp only[rd,DataW.trod,bc]at Y
       split at Y
       ·rename_i J3 fa ag
        split at Y
        ·simp only[ZV]at Y
         obtain⟨dm,bT,Y⟩:=Y
         split at Y
         ·simp only[Zf,YT,DataW.map.injEq]at Y
          obtain⟨aD,rfl⟩:=Y
          obtain⟨bW,cq⟩:=E6 bT
          have aEp:dm.length=J3.toList.length:=bW
          have ath:(J3.toList.zip dm).map (·.2.1)=dm.map (·.1):=by
           have SO:(λx:MapEntry×((Lit×DataW Unit)×List MemPlace)=>x.2.1)=(λe:(Lit×DataW Unit)×List MemPlace=>e.1)∘Prod.snd:=rfl
           rw[SO, <-YH,List.map_snd_zip Zo]
          obtain⟨kb,aen,aeo⟩:=ahV (sorted_perm (dm.map (·.1))).symm (J3.toList.zip dm) ath
          rw[aD]at aeo
          have ly:∀bu∈kb,keyOf P y bu.1.key=some bu.2.1.1/\bu.1.val.formed P E=true/\rd P w aj E bu.1.val.cells.toList=some (bu.2.1.2,bu.2.2)/\sY w bu.2.2:=by
           intro bu EF
           have HZ:=aen.mem_iff.1 EF
           obtain⟨i,aN⟩:=ZY.1 HZ
           rw[List.getElem?_zip_eq_some]at aN
           have:=cq i _ _ aN.1 aN.2
           simp only[ZV]at this
           obtain⟨key,cN,cB⟩:=this
           split at cB
           ·rename_i cb
            simp only[Yg]at cB
            obtain⟨e,ea,fQ⟩:=cB
            rw[<-fQ]
            refine⟨cN,cb,ea,cm.of λp aw=> ?_⟩
            refine Zu _ (List.mem_flatMap.2 ⟨bu.2,Zn aN.2, ?_⟩)
            rw[<-fQ];exact aw
           ·cases cB
          obtain⟨a7,b6,a0,f,a3⟩:=axv (C:=C) (w:=w) LC aw ca (n+1) _ az kb aeo ly
          have a7:n+1<=aM:=a7
          refine⟨by simp only;omega, ?_,λx=>if x=n then⟨b,0,0⟩else f x, ?_⟩
          ·intro e B
           rcases Zt.1 B with rfl|B
           ·exact⟨Zj _,by simp only;omega,azb _⟩
           ·obtain⟨cN,cB,ea⟩:=b6 e B
            exact⟨Zo,cB,ea⟩
          ·intro S ad dP
           have aF:=dP n (Zj _) (by simp only;omega)
           simp only[ZE]at aF
           obtain⟨cX,dI,gZ⟩:=a3 S ad (λx J Q=>by
            have:=dP x Zo Q
            have dS:x≠n:=Zo
            simp only[Zh dS]at this
            exact this)
           refine⟨by simp[b2,aO,aF.1],⟨aF.2,trivial⟩, ?_⟩
           intro e B
           rcases Zt.1 B with rfl|B
           ·simp only[aF.1]
            have afE:(kb.map (·.1)).Perm J3.toList:=by
             have:=aen.map (·.1)
             rwa[List.map_fst_zip Zo]at this
            rw[cX]at afE
            obtain⟨mC,fK,hX⟩:=ahV afE _ rfl
            refine⟨J3,fa,mC,ag,hX.symm, ?_, ?_⟩
            ·have:=fK.map (λE=>(E.1,E.2.1))
             rwa[ajA (kb:=kb) _ kb a0]at this
            ·intro x ae
             have rv:=fK.mem_iff.1 ae
             have bo:(x.1,x.2.1)∈e8:=by
              have:=List.mem_map_of_mem (f:=λE:D×D×Nat=>(E.1,E.2.1)) rv
              rwa[ajA (kb:=kb) _ kb a0]at this
             exact dI _ bo
           ·exact gZ e B
         ·simp at Y
        ·simp at Y
       ·simp at Y
    ·simp at a
   ·simp at a
end
end
noncomputable section
open Go.RowKit (Below)
def nX:List (Nat×af)->R af->R af
 |[],H=>H
 |(b,V)::k,H=>nX k (H.set b (some V))
section
variable{C:aL}{P:Program}{w:World}
def WY(b:Nat)(V:af):∀(k:List (Nat×af)) (H:R af),(nX k H).get b=some V->(b,V)∈k\/H.get b=some V:=by
 intro k
 induction k with
 |nil=>intro H a;exact .inr a
 |cons x k ai=>
  obtain⟨dK,o'⟩:=x
  intro H a
  rcases ai _ a with a|a
  ·exact .inl (Zu _ a)
  ·rw[R.kN]at a
   by_cases E:dK=b
   ·subst E;simp at a;subst a;exact .inl (Zv ..)
   ·simp[E]at a;exact .inr a
def aja{nm:String}{g:Nat}{cs:Array Value}(bP:P.globalNamed nm=some g)(a:w.var? P nm=some cs):∃ty u3,w.heap[g]? =some (.cells cs ty u3):=by
 unfold World.var? at a
 rw[bP]at a
 simp only[ZL]at a
 split at a
 ·rename_i c ty u3 ag
  simp at a;subst a
  exact⟨ty,u3,ag⟩
 ·cases a
def XE(C:aL)(w:World)(pf n:Nat)(r:Nat×List (Nat×af)):Prop:=
 n<=r.1/\(∀x∈r.2,(x.1<pf\/n<=x.1)/\(x.1<pf\/x.1<r.1)/\Gj x.2)/\
  ∃f:Nat->m4,∀S ad,(∀b,n<=b->b<r.1->S b=f b/\ad b)->(∀g,g<pf->S g=⟨g,0,0⟩/\ad g)->∀x∈r.2,kr C S ad x.2 (S x.1) w
end
end
noncomputable section
open Go.RowKit (Below)
def yx:List Nat->Bool
 |[]=>true
 |x::s=>Nat.blt x 256&&yx s
def Ax:List Nat->Nat->Nat->Int
 |[],_,_=> .negSucc 0
 |x::s,c,i=>bV (Nat.beq x c) (.ofNat i) (Ax s c (i+1))
def xT(b9:Nat)(f:Nat)(args:List D):Option D:=
 bV (Nat.beq f b9) (match args with
  |[.str s, .int .u8 (.ofNat c)]=>bV (yx s&&Nat.blt c 256) (some (.int .i64 (Ax s c 0))) none
  |_=>none) none
section
variable{C:aL}{P:Program}{w:World}
def R2:∀{s:List Nat},yx s=true->∀x∈s,x<256:=by
 intro s
 induction s with
 |nil=>intro _ x a;cases a
 |cons F s ai=>
  intro a x ae
  simp only[yx,Zq]at a
  rcases Zt.1 ae with rfl|ae
  ·exact lS a.1
  ·exact ai a.2 x ae
def awE:∀(s:List Nat) (c i:Nat),(∀x∈s,x<256)->c<256->Ax s c i=(if Lib.indexByte (s.map UInt8.ofNat) (UInt8.ofNat c)= -1 then -1 else Lib.indexByte (s.map UInt8.ofNat) (UInt8.ofNat c)+i):=by
 intro s
 induction s with
 |nil=>intro c i _ _;simp[Ax,Lib.indexByte]
 |cons F s ai=>
  intro c i aD ax
  have aA:=aD F (Zv ..)
  have aN:=ai c (i+1) (λx ae=>aD x (Zu _ ae)) ax
  simp only[Ax,ZP,Lib.indexByte,h1]
  by_cases E:F=c
  ·subst E;simp
  ·have dS:(UInt8.ofNat F==UInt8.ofNat c)=false:=by
    rw[beq_eq_false_iff_ne]
    intro aj
    have:=congrArg UInt8.toNat aj
    simp at this
    rw[YC aA,YC ax]at this
    exact E this
   rw[Zh E,aN,dS]
   have B4:=Lib.indexByte_ge (s.map UInt8.ofNat) (UInt8.ofNat c)
   by_cases aj:Lib.indexByte (s.map UInt8.ofNat) (UInt8.ofNat c)= -1
   ·simp[aj]
   ·simp only[aj,ZC]
    have:¬(Lib.indexByte (s.map UInt8.ofNat) (UInt8.ofNat c)+1= -1):=Zo
    simp[aj,this]
    omega
def ahH{b9 f:Nat}{args:List D}{v:D}(a:xT b9 f args=some v):f=b9/\∃s c,args=[.str s, .int .u8 (.ofNat c)]/\v= .int .i64 (Ax s c 0)/\(∀x∈s,x<256)/\c<256:=by
 unfold xT at a
 rw[h1]at a
 split at a
 ·rename_i E
  split at a
  ·rename_i s c
   simp only[e5,Zq,Zf]at a
   exact⟨E,s,c,rfl,a.2.symm,R2 a.1.1,lS a.1.2⟩
  ·simp at a
 ·simp at a
def azr{b9:Nat}{fn:Func}(cb:P.funcs[b9]? =some fn)(aF:(fn.name== "runtime.NumGoroutine")=false)(ag:fn.body=none)(J:Extern.findNext fn=none)(Q:Extern.find fn=some Extern.BytealgIndexByte.indexByte)
 {f:Nat}{args:List D}{v:D}(a:xT b9 f args=some v)(S:c6)(w:World):(callFunc f (b2 S args).toArray).run P w= .ok (.value (aO S v)) w:=by
 obtain⟨rfl,s,c,rfl,rfl,aD,ax⟩:=ahH a
 have pb:=Lib.run_indexByteString (P:=P) (gj s) (Int.ofNat c) w
 have E:Lib.indexByte (gj s).data.toList (Int.ofNat c).toNat.toUInt8=Ax s c 0:=by
  rw[awE s c 0 aD ax]
  have:(gj s).data.toList=s.map UInt8.ofNat:=by simp[gj]
  rw[this]
  have B4:=Lib.indexByte_ge (s.map UInt8.ofNat) (UInt8.ofNat c)
  show Lib.indexByte (s.map UInt8.ofNat) (UInt8.ofNat c)=_
  split
  ·rename_i aj;exact aj
  ·simp
 rw[E]at pb
 have is:(b2 S [.str s, .int .u8 (.ofNat c)]).toArray= #[.string (gj s), .int .u8 (Int.ofNat c)]:=rfl
 rw[is]
 have Pj:¬fn.name= "runtime.NumGoroutine":=by simpa using aF
 simp only[callFunc,Sem.run_bind]
 simp[cb,Pj,ag,J,Q,aO]
 exact congrArg (λr=>Result.andThen r (λF b0=>Result.ok (Next.value F) b0)) pb
end
end
noncomputable section
open Go.RowKit (Below)
mutual
def rG:D->Bool
 | .bool _=>true
 | .int _ _=>true
 | .str s=>yx s
 | .cF=>true
 | .aT=>true
 | .mv=>true
 | .nilFunc=>true
 | .nilIface=>true
 | .iface _ v=>rG v
 | .agg k=>CV k
 | .tuple k=>CV k
 |_=>false
def CV:List D->Bool
 |[]=>true
 |v::k=>rG v&&CV k
end
mutual
def QB:∀v,rG v=true->cj (λ_=>False) v
 | .bool _,_=>trivial
 | .int _ _,_=>trivial
 | .str s,a=>R2 (by simpa[rG]using a)
 | .cF,_=>trivial
 | .aT,_=>trivial
 | .mv,_=>trivial
 | .nilFunc,_=>trivial
 | .nilIface,_=>trivial
 | .iface _ v,a=>by
   have:=QB v (by simpa[rG]using a)
   simpa[cj]using this
 | .agg k,a=>Ml k (by simpa[rG]using a)
 | .tuple k,a=>Ml k (by simpa[rG]using a)
 | .ptr _ _,a=>by simp[rG]at a
 | .slice ..,a=>by simp[rG]at a
 | .fc ..,a=>by simp[rG]at a
 | .map _,a=>by simp[rG]at a
 | .func ..,a=>by simp[rG]at a
def Ml:∀k,CV k=true->eu (λ_=>False) k
 |[],_=>trivial
 |v::k,a=>by
  simp only[CV,Zq]at a
  exact⟨QB v a.1,Ml k a.2⟩
end
def ahX{v:D}(a:rG v=true):(∀S iX,aO S v=aO iX v)/\∀ad,cj ad v:=
 ⟨λ_ _=>q8 (λ_ a=>a.elim) (QB v a),λ_=>pJ (λ_ a=>a.elim) v (QB v a)⟩
def WA{k:List D}(a:CV k=true):(∀S iX,b2 S k=b2 iX k)/\∀ad,eu ad k:=
 ⟨λ_ _=>yF (λ_ a=>a.elim) (Ml k a),λ_=>sc (λ_ a=>a.elim) k (Ml k a)⟩
def ahY{F b:D}(a:Qz F b=true):F=b:=by
 unfold Qz at a
 split at a
 ·simp only[ao8,YZ]at a;rw[a]
 ·simp only[Zq,agA,H2,Zg]at a;rw[a.1,a.2]
 ·rw[(Ma _ _).1 a]
 ·rfl
 ·rfl
 ·rfl
 ·cases a
def azU:∀{F b:List D},Fr F b=true->F=b:=by
 intro F
 induction F with
 |nil=>intro b a;cases b<;>simp[Fr]at a;rfl
 |cons x F ai=>
  intro b a
  cases b with
  |nil=>simp[Fr]at a
  |cons e b=>
   simp only[Fr,Zq]at a
   rw[ahY a.1,ai a.2]
def SF(x e:D):Bool:=match x,e with
 | .agg F, .agg b=>Fr F b
 |x,e=>Qz x e
def apZ{F b:D}(a:SF F b=true):F=b:=by
 unfold SF at a
 split at a
 ·rw[azU a]
 ·exact ahY a
def GS:List D->List D->Bool
 |[],[]=>true
 |F::x,b::e=>SF F b&&GS x e
 |_,_=>false
def ap0:∀{F b:List D},GS F b=true->F=b:=by
 intro F
 induction F with
 |nil=>intro b a;cases b<;>simp[GS]at a;rfl
 |cons x F ai=>
  intro b a
  cases b with
  |nil=>simp[GS]at a
  |cons e b=>
   simp only[GS,Zq]at a
   rw[apZ a.1,ai a.2]
def xL(f:Nat)(args:List D):List (Nat×List D×D)->Option D
 |[]=>none
 |(g,cp,v)::k=>bV (Nat.beq f g) (bV (GS args cp) (some v)<|xL f args k) (xL f args k)
def agH{f:Nat}{args:List D}{v:D}:∀{k:List (Nat×List D×D)},xL f args k=some v->(f,args,v)∈k:=by
 intro k
 induction k with
 |nil=>intro a;simp[xL]at a
 |cons x k ai=>
  obtain⟨g,cp,ac⟩:=x
  intro a
  simp only[xL]at a
  rw[fF]at a
  split at a
  ·rename_i aj
   rw[fF]at a
   split at a
   ·rename_i cB
    simp at a;subst a
    rw[Zl aj,ap0 cB]
    exact Zv ..
   ·exact Zu _ (ai a)
  ·exact Zu _ (ai a)
def rD(V:Nat->List D->Option D)(k:List (Nat×List D×D))(f:Nat)(args:List D):Option D:=
 match xL f args k with|some v=>some v|none=>V f args
def MG:List (Nat×List D×D)->Bool
 |[]=>true
 |x::k=>(CV x.2.1&&rG x.2.2)&&MG k
def aiP:∀{k:List (Nat×List D×D)},MG k=true->∀x∈k,CV x.2.1=true/\rG x.2.2=true:=by
 intro k
 induction k with
 |nil=>intro _ x a;cases a
 |cons F k ai=>
  intro a x ae
  simp only[MG,Zq]at a
  rcases Zt.1 ae with rfl|ae
  ·exact a.1
  ·exact ai a.2 x ae
section
variable{P:Program}{w:World}
def aqs{ai:hP}{C:aL}{f:Nat}{args:List D}{b:Bool}{cs:List gY}{h:R af}{j:Nat}{v:D}(a:oY ai C f args b cs h j=some v):∃fn c,C.P.funcs[f]? =some fn/\fn.body=some c:=by
 unfold oY at a
 split at a
 ·rename_i fn cb
  split at a
  ·rename_i c ax;exact⟨fn,c,cb,ax⟩
  ·simp at a
 ·simp at a
def ahJ{G:R af}{a6 pf:Nat}{V:Nat->List D->Option D}{dU:c6}{d5:Nat->Prop}{k:List (Nat×List D×D)}(cK:Env ⟨P,G,a6,V,pf⟩ w dU d5)(a8:MG k=true)
 (ly:∀x∈k,∃m,AQ ⟨P,G,a6,V,pf⟩ m x.1 x.2.1=some x.2.2):RG ⟨P,G,a6,rD V k,pf⟩ w:=by
 refine⟨λf args v bh=> ?_,λf args v bh S qZ ag=> ?_⟩
 ·have bh:rD V k f args=some v:=bh
  unfold rD at bh
  split at bh
  ·rename_i ac bc
   simp at bh;subst bh
   obtain⟨J,Q⟩:=aiP a8 _ (agH bc)
   exact⟨ahX Q,WA J⟩
  ·exact cK.hu.val f args v bh
 ·have bh:rD V k f args=some v:=bh
  unfold rD at bh
  split at bh
  ·rename_i ac bc
   simp at bh;subst bh
   have bo:=agH bc
   obtain⟨J,Q⟩:=aiP a8 _ bo
   obtain⟨m,pb⟩:=ly _ bo
   obtain⟨fn,c,cb,ax⟩:=aqs pb
   right
   have aF:fn.name≠ "runtime.NumGoroutine":=by simpa using cK.kE.num f fn cb (by simp[ax])
   refine⟨?_, ?_⟩
   ·have rp:P.funcs[f]? =some fn:=cb
    simp[callFunc,rp,aF,ax]
   ·have at1:=cK.later ag
    have:=aAZ at1 (f:=f) (args:=args) ((WA J).2 d5) pb
    rw[(WA J).1 S dU]
    exact this.mono λE b0 ⟨⟨iX,bz⟩,kg⟩=>⟨by rw[bz,(ahX Q).1 iX S],kg⟩
  ·exact cK.hu.ok f args v bh S qZ ag
end
end
noncomputable section
open Go.RowKit (Below)
def JE:List (String×Nat)->String->Option Nat
 |[],_=>none
 |(F,ac)::k,s=>bV (F==s) (some ac) (JE k s)
def P4(P:Program)(nm:List (String×Nat))(t:Nat)(d:DataW Unit)(n:Nat):wM:=match P.underlying t,d with
 |some (.interface _), .iface s (.ptr lU)=>(match JE nm s with
  |some ac=>(match P.underlying ac with
   |some (.pointer _)=>(match xM P 39 ac (.ptr lU) n with
    |some ([x],aM,os)=>some ([.iface ac x],aM,os)
    |_=>none)
   |_=>none)
  |none=>none)
 |_,_=>xM P 40 t d n
def hf(P:Program)(nm:List (String×Nat)):List (String×DataW Unit)->Nat->Nat×List (Nat×af)
 |[],n=>(n,[])
 |(v,d)::r,n=>match P.globalNamed v with
  |some g=>(match P.globals[g]? with
   |some iB=>(match P4 P nm iB.type d n with
    |some (k,aM,os)=>bV (Nat.blt 0 k.length) (match hf P nm r aM with|(aR,tT)=>(aR,(g,IJ k)::(os++tT))) (hf P nm r n)
    |none=>hf P nm r n)
   |none=>hf P nm r n)
  |none=>hf P nm r n
def Bg(P:Program)(nm:List (String×Nat)):Prop:=∀x∈nm,∀ac,P.typeName? 3 ac=some x.1->ac=x.2
section
variable{C:aL}{P:Program}{w:World}
def aoM{s:String}{ac:Nat}:∀{k:List (String×Nat)},JE k s=some ac->(s,ac)∈k:=by
 intro k
 induction k with
 |nil=>intro a;simp[JE]at a
 |cons x k ai=>
  obtain⟨F,b⟩:=x
  intro a
  simp only[JE]at a
  rw[fF]at a
  split at a
  ·rename_i aj
   simp at a aj;subst a;subst aj
   exact Zv ..
  ·exact Zu _ (ai a)
def axx{nm:List (String×Nat)}(jg:Bg P nm){t:Nat}{d:DataW Unit}{n:Nat}{r:List D×Nat×List (Nat×af)}(a:P4 P nm t d n=some r){aj:Nat}{cs:List Value}{dp:List MemPlace}(Y:rd P w aj t cs=some (d,dp))(cm:sY w dp)
 (gf:∀ac v,cs=[.iface ac v]->Value.okWide P w .any 0 ac v):Lays C w n cs r:=by
 unfold P4 at a
 split at a
 ·rename_i iV s lU aN
  split at a
  ·rename_i ac bc
   split at a
   ·rename_i E aw
    split at a
    ·rename_i x aM os az
     simp at a;subst a
     obtain⟨eQ,sL,v,rfl,aF,J⟩:=iface_of_trod aN Y
     obtain rfl:=jg _ (aoM bc) sL aF
     obtain⟨fd,F,c9,Mm,bv,_,_,_⟩:=ptr_of_trod aw J
     have ok:=gf _ _ rfl
     have Ar:v= .pointer (some F):=by
      unfold Value.okWide at ok
      simp only[aw]at ok
      unfold Cell.okWide at ok
      cases v<;>simp[Value.cells,Cell.ok,aw]at ok bv
      subst bv
      rfl
     have gT:=agP (C:=C) (w:=w) 39 eQ _ _ _ _ az _ _ J cm
     obtain⟨a7,b6,f,a3⟩:=gT
     refine⟨a7,b6,f,λS ad dP=> ?_⟩
     obtain⟨cX,dI,gZ⟩:=a3 S ad dP
     refine⟨?_,⟨dI.1,trivial⟩,gZ⟩
     subst Ar
     have E:Value.pointer (some F)=aO S x:=by
      simp[Value.cells,b2]at cX
      exact cX
     simp only[b2,aO,E]
    ·simp at a
   ·simp at a
  ·simp at a
 ·exact agP (C:=C) (w:=w) 40 aj _ _ _ _ a cs dp Y cm
def agO{nm:List (String×Nat)}(jg:Bg P nm){pf:Nat}:∀(laid:List (String×DataW Unit)) (n:Nat) (dp:List MemPlace),P.globals.size=pf->DataW.LaidVars P w laid dp->sY w dp->
 (∀b off,MemPlace.cell b off∈dp->∀ac v,w.cell? ⟨b,off,none⟩=some (.iface ac v)->Value.okWide P w .any 0 ac v)->XE C w pf n (hf P nm laid n):=by
 intro laid
 induction laid with
 |nil=>
  intro n dp _ _ _ _
  exact⟨Zj _,by simp[hf],λ_=>default,λS ad _ _=>by simp[hf]⟩
 |cons F r ai=>
  obtain⟨v0,d⟩:=F
  intro n dp Lb gT cm aeV
  obtain⟨g,t,cs,fuel,p,aj,bP,a8,bv,aE,Y,rfl⟩:=gT
  have aga:sY w aj:=cm.of λe B=>Zz.2 (.inr B)
  have aeW:∀b off,MemPlace.cell b off∈aj->∀ac v,w.cell? ⟨b,off,none⟩=some (.iface ac v)->Value.okWide P w .any 0 ac v:=λb off ag=>aeV b off (Zz.2 (.inr ag))
  have skip:hf P nm ((v0,d)::r) n=hf P nm r n->XE C w pf n (hf P nm ((v0,d)::r) n):=λE=>by rw[E];exact ai n aj Lb Y aga aeW
  simp only[Yg]at a8
  obtain⟨iB,O2,rfl⟩:=a8
  have Ut:g<pf:=by rw[<-Lb];exact(ZM.1 O2).1
  have gf:∀ac v,cs.toList=[.iface ac v]->Value.okWide P w .any 0 ac v:=by
   intro ac v is
   obtain⟨ty,u3,ag⟩:=aja bP bv
   have eN:cs.size=1:=by have:=congrArg List.length is;simpa using this
   refine aeV g 0 (Zz.2 (.inl (Zz.2 (.inl (QL (F:=⟨g,0,none⟩) (y:=cs.size) Zo))))) ac v ?_
   have aY:cs[0]? =some (.iface ac v):=by rw[<-ZO,is];rfl
   simp[World.cell?,ag,aY]
  cases az:P4 P nm iB.type d n with
  |none=>exact skip (by simp[hf,bP,O2,az])
  |some e8=>
   obtain⟨k,aM,os⟩:=e8
   by_cases HN:0<k.length
   ·have bz:hf P nm ((v0,d)::r) n=((hf P nm r aM).1,(g,IJ k)::(os++(hf P nm r aM).2)):=by
     have:Nat.blt 0 k.length=true:=by simp[Nat.blt];omega
     simp[hf,bP,O2,az,this]
    obtain⟨a7,b6,eQ,a3⟩:=axx (C:=C) (w:=w) jg az (cs:=cs.toList) (dp:=p) aE (cm.of λe B=>Zz.2 (.inl (Zz.2 (.inr B)))) gf
    obtain⟨bZ,cu,fd,c0⟩:=ai aM aj Lb Y aga aeW
    have a7:n<=aM:=a7
    rw[bz]
    refine⟨ZA a7 bZ, ?_,λb=>if b<aM then eQ b else fd b, ?_⟩
    ·intro x ae
     rcases Zt.1 ae with rfl|ae
     ·exact⟨.inl Ut, .inl Ut,Wt k⟩
     ·rcases Zz.1 ae with aj|aj
      ·obtain⟨cN,cB,ea⟩:=b6 x aj
       exact⟨.inr cN, .inr (ZN cB bZ),ea⟩
      ·obtain⟨cN,cB,ea⟩:=cu x aj
       exact⟨cN.imp id (λa=>ZA a7 a),cB,ea⟩
    ·intro S ad dP d7
     obtain⟨cX,dI,gZ⟩:=a3 S ad (λb J Q=>by
      have Hd:b<aM:=Q
      have:=dP b J (ZN Q bZ)
      simp only[Zp Hd]at this
      exact this)
     have eY:=c0 S ad (λb J Q=>by
      have uH:¬b<aM:=zm.2 J
      have:=dP b (ZA a7 J) Q
      simp only[Zh uH]at this
      exact this) d7
     intro x ae
     rcases Zt.1 ae with rfl|ae
     ·obtain⟨awh,aDQ⟩:=d7 g Ut
      obtain⟨ty,u3,ag⟩:=aja bP bv
      have eN:cs.size=k.length:=by
       have:=congrArg List.length cX
       rw[kd]at this
       simpa using this
      obtain⟨f9,hh,kg⟩:=cm g 0 (Zz.2 (.inl (Zz.2 (.inl (QL (F:=⟨g,0,none⟩) (y:=cs.size) Zo)))))
      rw[ag]at kg
      have avr:u3=(0,0):=by
       simp only[Zf,Obj.cells.injEq]at kg
       exact kg.2.2
      rw[avr]at ag
      simp only[awh]
      refine WR (pl:=⟨g,0,0⟩) ag ?_ dI HN
      simp only[Yb]
      rw[ZB Zx]
      exact cX
     ·rcases Zz.1 ae with aj|aj
      ·exact gZ x aj
      ·exact eY x aj
   ·exact skip (by
     have lZ:k.length=0:=Zo
     have:Nat.blt 0 k.length=false:=by rw[lZ];rfl
     simp[hf,bP,O2,az,this])
def VU{nm:List (String×Nat)}(jg:Bg P nm){laid:List (String×DataW Unit)}{hu:Nat->List D->Option D}(a:laidMet P laid w):
 ∃S ad,dn ⟨P,nX (hf P nm laid P.globals.size).2 .nil,(hf P nm laid P.globals.size).1,hu,P.globals.size⟩ S ad .nil (hf P nm laid P.globals.size).1 w.heap.size w/\
  sZ ⟨P,nX (hf P nm laid P.globals.size).2 .nil,(hf P nm laid P.globals.size).1,hu,P.globals.size⟩ S ad:=by
 obtain⟨dp,gT,_,lZ⟩:=a
 have cm:sY w dp:=λb off ag=>(lZ b off ag).1
 obtain⟨a7,b6,f,a3⟩:=agO (C:=⟨P,nX (hf P nm laid P.globals.size).2 .nil,(hf P nm laid P.globals.size).1,hu,P.globals.size⟩) jg laid P.globals.size dp rfl gT cm (λb off ag=>(lZ b off ag).2)
 generalize aF:hf P nm laid P.globals.size=r at a7 b6 a3 ⊢
 obtain⟨a6,os⟩:=r
 simp only at a7 b6 a3 ⊢
 have UR:∀b V,U ⟨P,nX os .nil,a6,hu,P.globals.size⟩ .nil b=some V->(b,V)∈os/\b<a6:=by
  intro b V bh
  unfold U at bh
  rw[fF]at bh
  split at bh
  ·rename_i ag
   rcases WY b V os .nil bh with aj|aj
   ·exact⟨aj,lS ag⟩
   ·simp at aj
  ·simp at bh
 refine⟨λb=>if b<P.globals.size then⟨b,0,0⟩else f b,λb=>b<a6,⟨Zj _,λ_ a=>a,λb V bh=>(UR b V bh).2, ?_, ?_, ?_, ?_⟩, ?_⟩
 ·intro b V bh _
  have:=a3 (λb=>if b<P.globals.size then⟨b,0,0⟩else f b) (λb=>b<a6) (λb J Q=>⟨by rw[Zh Zo],Q⟩) (λg bP=>⟨by rw[Zp bP],Zo⟩) (b,V) (UR b V bh).1
  exact this
 ·intro b dK V o' _ _ d _ _ ag
  exact absurd d (zm.2 ag)
 ·intro b V ag _ d
  exact absurd d (zm.2 ag)
 ·intro b V bh _
  exact(b6 (b,V) (UR b V bh).1).2.2 _ _
 ·intro g bP
  have bP:g<P.globals.size:=bP
  exact⟨Zo,by simp[bP],by simp[bP]⟩
def Env.axn{nm:List (String×Nat)}(jg:Bg P nm){laid:List (String×DataW Unit)}{b9:Nat}{fn:Func}(kE:yr P)(cb:P.funcs[b9]? =some fn)(aF:(fn.name== "runtime.NumGoroutine")=false)(ag:fn.body=none)(J:Extern.findNext fn=none)
 (Q:Extern.find fn=some Extern.BytealgIndexByte.indexByte)(a:laidMet P laid w):
 ∃S ad,Env ⟨P,nX (hf P nm laid P.globals.size).2 .nil,(hf P nm laid P.globals.size).1,xT b9,P.globals.size⟩ w S ad:=by
 obtain⟨S,ad,ak,ay⟩:=VU (hu:=xT b9) jg a
 refine⟨S,ad,kE,⟨λf args v bh=> ?_,λf args v bh S w _=> .inl (azr cb aF ag J Q bh S w)⟩,ak,ay⟩
 obtain⟨rfl,s,c,rfl,rfl,aD,ax⟩:=ahH bh
 exact⟨⟨λ_ _=>rfl,λ_=>trivial⟩,λ_ _=>rfl,λ_=>⟨aD,trivial,trivial⟩⟩
end
end
noncomputable section
open Go.RowKit (Below)
def xS(b9:Nat)(V:Nat->List D->Option D)(f:Nat)(args:List D):Option D:=
 bV (Nat.beq f b9) (match args with
  |[.str s]=>bV (yx s&&Nat.ble s.length 281474976710656) (some (.str s)) none
  |_=>none) (V f args)
section
variable{P:Program}{w:World}
def ahG{b9 f:Nat}{V:Nat->List D->Option D}{args:List D}{v:D}(a:xS b9 V f args=some v):
 (f=b9/\∃s,args=[.str s]/\v= .str s/\(∀x∈s,x<256)/\s.length<=281474976710656)\/V f args=some v:=by
 unfold xS at a
 rw[h1]at a
 split at a
 ·rename_i E
  split at a
  ·rename_i s
   simp only[e5,Zq,Zf]at a
   exact .inl ⟨E,s,rfl,a.2.symm,R2 a.1.1,jQ a.1.2⟩
  ·simp at a
 ·exact .inr a
def Env.axm{nm:List (String×Nat)}(jg:Bg P nm){laid:List (String×DataW Unit)}{V:Nat->List D->Option D}{b9:Nat}{fn:Func}{c:Code}(cb:P.funcs[b9]? =some fn)(aF:(fn.name== "runtime.NumGoroutine")=false)(ag:fn.body=some c)
 (Ot:∀(s:ByteArray) (w:World),s.size<=281474976710656->Calls P b9 #[.string s] w λE b0=>E= .returned (.string s)/\Below w.heap.size w b0)(a:laidMet P laid w){dU:c6}{d5:Nat->Prop}
 (cK:Env ⟨P,nX (hf P nm laid P.globals.size).2 .nil,(hf P nm laid P.globals.size).1,V,P.globals.size⟩ w dU d5):
 ∃S ad,Env ⟨P,nX (hf P nm laid P.globals.size).2 .nil,(hf P nm laid P.globals.size).1,xS b9 V,P.globals.size⟩ w S ad:=by
 obtain⟨S,ad,ak,ay⟩:=VU (hu:=xS b9 V) jg a
 refine⟨S,ad,cK.kE,⟨λf args v bh=> ?_,λf args v bh S qZ lX=> ?_⟩,ak,ay⟩
 ·rcases ahG bh with ⟨rfl,s,rfl,rfl,aD,_⟩|bh
  ·exact⟨⟨λ_ _=>rfl,λ_=>aD⟩,λ_ _=>rfl,λ_=>⟨aD,trivial⟩⟩
  ·exact cK.hu.val f args v bh
 ·rcases ahG bh with ⟨rfl,s,rfl,rfl,aD,az⟩|bh
  ·right
   have Pj:¬fn.name= "runtime.NumGoroutine":=by simpa using aF
   refine⟨by simp[callFunc,cb,Pj,ag], ?_⟩
   have:=Ot (gj s) qZ (by simpa[gj,ByteArray.size]using az)
   exact this
  ·exact cK.hu.ok f args v bh S qZ lX
end
end
noncomputable section
open Go.RowKit (Below)
def aiw(C:aL):List (Nat×af)->R af->R af
 |[],H=>H
 |(b,V)::k,H=>aiw C k (bi C H b (some V))
def pick(C:aL)(h:R af):List Nat->List (Nat×af)
 |[]=>[]
 |b::k=>match U C h b with|some V=>(b,V)::pick C h k|none=>pick C h k
def acL(C:aL):List Nat->Bool
 |[]=>true
 |b::k=>kM C b&&acL C k
def aw1(C:aL)(L:List Nat)(h:R af):R af:=aiw C (pick C h L) .nil
def azT(todo:List dV):Bool:=match todo with| .drawn .. ::_=>false|_=>true
def ahx:List gY->Bool
 |[]=>true
 |c::k=>(match c with|⟨_,_,_,_,todo,_,_,_,_⟩=>(match todo with| .AY .. ::_=>false|_=>true))&&ahx k
def ii(C:aL)(L:List Nat)(b:hP):hP:=λbR todo b9 H h j=>match b9 with
 |⟨fn,n,ao,bd,aB,ro,cs⟩=>bV (azT todo&&ahx cs&&acL C L) (b bR todo ⟨fn,n,ao,bd,aB,ro,cs⟩ H (aw1 C L h) j) none
section
variable{C:aL}{S dU:c6}{ad d5:Nat->Prop}{h S':R af}{j bm:Nat}{w:World}
variable{bj:World}{bE:Nat}{bS:List Frame}{v:D}{b:hP}
def oL(C:aL)(bj:World)(bE:Nat)(bS:List Frame)(bR:ll)(todo:List dV)(b9:iL)(H:R D)(h:R af)(j:Nat)(v:D):Prop:=
 ∀S ad w df tmps bx an,Du C bj bE bS bR todo b9.fn b9.n b9.ao b9.bd b9.aB b9.ro b9.cs H h j S ad w df tmps bx an->Ends C bj bE bS v (lone (ct S b9.fn b9.bd b9.aB b9.ro tmps bx (g0 S bR)) an w)
open Classical in
def only(AE:ll)(Xf:List dV)(lo:iL)(r0:R D)(aK:R af)(Fj:Nat)(v:D):hP:=λbR todo b9 H h j=>
 if bR=AE/\todo=Xf/\b9=lo/\H=r0/\h=aK/\j=Fj then some v else none
end
end
noncomputable section
open Go.RowKit (Below)
def low(ad:Nat->Prop)(N:Nat)(b:Nat):Prop:=ad b/\b<N
section
variable{ad:Nat->Prop}{N:Nat}
end
end
noncomputable section
open Go.RowKit (Below)
section
variable{C:aL}{S dU:c6}{ad d5:Nat->Prop}{h S':R af}{j bm N:Nat}{w:World}
variable{bj:World}{bE g:Nat}{bS:List Frame}{v:D}{b:hP}
open Classical in
def f3(C:aL)(bj:World)(bE:Nat)(bS:List Frame)(v:D):hP:=λbR todo b9 H h j=>if oL C bj bE bS bR todo b9 H h j v then some v else none
def abN:n7 C bj bE bS (f3 C bj bE bS v):=by
 intro bR todo fn n ao bd aB ro cs H h j ac bc S ad w df tmps bx an dj
 unfold f3 at bc
 split at bc
 ·rename_i a
  simp at bc;subst bc
  exact a S ad w df tmps bx an dj
 ·cases bc
def iA{bR:ll}{todo:List dV}{b9:iL}{H:R D}(a:oL C bj bE bS bR todo b9 H h j v):f3 C bj bE bS v bR todo b9 H h j=some v:=by
 unfold f3
 rw[Zp a]
def arn{eO:dV}{y:List dV}{b9:iL}{H:R D}(aD:D.same 30 v v=true):∀k:List (D×R af),k≠[]->(∀ac S',(ac,S')∈k->∃hW,pH eO ac=some hW/\oL C bj bE bS .run (hW::y) b9 H S' j v)->
 yR (f3 C bj bE bS v) eO y b9 H j k=some v:=by
 intro k
 induction k with
 |nil=>intro a;exact absurd rfl a
 |cons p k nL=>
  obtain⟨ac,S'⟩:=p
  intro _ ly
  obtain⟨hW,J,Q⟩:=ly ac S' (Zv ..)
  cases k with
  |nil=>simp only[yR,J];exact iA Q
  |cons aj k=>
   have ai:=nL Zs (λac S' a=>ly ac S' (Zu _ a))
   simp only[yR,J,iA Q]
   rw[ai]
   simp only[aD,ff]
end
end
noncomputable section
open Go.RowKit (Below)
abbrev bI:=D->R af->Nat->Prop
structure cU where
 g:Nat->Option D
 bd:List h0:=[]
 rc:Bool:=false
instance:CoeFun cU (λ_=>Nat->Option D):=⟨cU.g⟩
def Z(H:cU)(d:Nat)(v:D):cU:=⟨λn=>bV (Nat.beq d n) (some v) (H.g n),H.bd,H.rc⟩
def h2(k:List Nat)(H:cU):cU:=⟨λn=>bV (rB n k) none (H.g n),H.bd,H.rc⟩
def AN(H:cU)(d:h0):cU:=⟨H.g,d::H.bd,H.rc⟩
def QQ(H:cU):cU:=⟨H.g,H.bd,true⟩
abbrev ft:=cU->R af->Nat->Prop
abbrev s4:=cU->bI
structure vk where
 rd:Bool
 bd:Bool
 j7:Option (Option D)
def cz{α:Type}(V:Option α)(ah:α->Prop):Prop:=Option.rec (motive:=λ_=>Prop) False (λF=>ah F) V
def azo{α:Type}{V:Option α}{ah:α->Prop}{F:α}(a:V=some F)(y:ah F):cz V ah:=by subst a;exact y
def tS{α:Type}{V:Option α}{ah:α->Prop}:cz V ah↔∃F,V=some F/\ah F:=by
 cases V with
 |none=>simp[cz]
 |some F=>simp[cz]
structure ar{α:Type}(V:Option α)(ah:α->Prop):Prop where
 out:cz V ah
def azp{α:Type}(V:Option α)(ah:α->Prop):ar V ah=cz V ah:=propext ⟨λa=>a.out,λa=>⟨a⟩⟩
def f7{α:Type}{V:Option α}{ah:α->Prop}{F:α}(a:V=some F)(y:ah F):ar V ah:=⟨azo a y⟩
def lf{α:Type}{V:Option α}{ah:α->Prop}:ar V ah↔∃F,V=some F/\ah F:=by rw[azp];exact tS
def ao7(v:D)(F b:Prop):Prop:=D.rec (motive_1:=λ_=>Prop) (motive_2:=λ_=>Prop)
 (λt=>(t=true->F)/\(t=false->b)) (λ_ _=>False) (λ_=>False) (λ_ _=>False) False (λ_ _ _ _=>False) (λ_ _ _ _=>False) False (λ_=>False) False
 (λ_ _ _ _ _=>False) False (λ_ _ _=>False) False (λ_ _=>False) (λ_ _=>False) False (λ_ _ _ _=>False) v
structure aV(v:D)(F b:Prop):Prop where
 out:ao7 v F b
def ab7{v:D}{F b:Prop}(a:aV v F b):∃t,v= .bool t/\(t=true->F)/\(t=false->b):=by
 have a:=a.out
 cases v with
 |bool t=>exact⟨t,rfl,a⟩
 |_=>exact a.elim
def asp(l4:Bool)(v:D)(F b:Prop):Prop:=D.rec (motive_1:=λ_=>Prop) (motive_2:=λ_=>Prop)
 (λt=>(t=l4->F)/\(t=(!l4)->b)) (λ_ _=>b) (λ_=>b) (λ_ _=>b) b (λ_ _ _ _=>b) (λ_ _ _ _=>b) b (λ_=>b) b
 (λ_ _ _ _ _=>b) b (λ_ _ _=>b) b (λ_ _=>b) (λ_ _=>b) b (λ_ _ _ _=>b) v
structure iO(l4:Bool)(v:D)(F b:Prop):Prop where
 out:asp l4 v F b
structure pX(dJ:bI)(body:bI->Prop):Prop where
 out:body dJ
def awL(dJ:bI)(body:bI->Prop):pX dJ body=body dJ:=propext ⟨λa=>a.out,λa=>⟨a⟩⟩
structure bk(dJ:ft)(body:ft->Prop):Prop where
 out:body dJ
structure c4(dJ:D->Prop)(body:(D->Prop)->Prop):Prop where
 out:body dJ
structure wc(dJ:D->R af->Prop)(body:(D->R af->Prop)->Prop):Prop where
 out:body dJ
def awJ(dJ:D->R af->Prop)(body:(D->R af->Prop)->Prop):wc dJ body=body dJ:=propext ⟨λa=>a.out,λa=>⟨a⟩⟩
structure PV(dJ:Prop)(body:Prop->Prop):Prop where
 out:body dJ
def awK(dJ:Prop)(body:Prop->Prop):PV dJ body=body dJ:=propext ⟨λa=>a.out,λa=>⟨a⟩⟩
def jW{dJ:ft}{body:ft->Prop}(s1:ft)(J:∀T:ft,(∀H h j,s1 H h j->T H h j)->body T)(Q:∀H h j,s1 H h j->dJ H h j):bk dJ body:=⟨J dJ Q⟩
structure eW(n:Nat)(ah:Nat->Prop):Prop where
 out:ah n
structure gu(C:aL)(h:R af)(j:Nat)(v:D)(cV:af)(ah:bI):Prop where
 out:ah v (bi C h j (some cV)) (j+1)
structure ms(C:aL)(h:R af)(b:Nat)(v:D)(cV:af)(ah:D->R af->Prop):Prop where
 out:ah v (bi C h b (some cV))
structure yC(C:aL)(h:R af)(b:Nat)(F:D)(ah:D->R af->Prop):Prop where
 out:ah (.ptr b 0) (bi C h b (some (.cells (R.ofList F.cells 0 .nil) F.cells.length .own)))
structure hn(C:aL)(h:R af)(j:Nat)(F:D)(ah:bI):Prop where
 out:ah (.ptr j 0) (bi C h j (some (.cells (R.ofList F.cells 0 .nil) F.cells.length .own))) (j+1)
section
variable(C:aL)(bj:World)(bE:Nat)(bS:List Frame)(v:D)
def Rw(cs:List gY):bI:=λac h j=>up (f3 C bj bE bS v) false cs ac h j=some v
def Nd(cs:List gY):bI:=λac h j=>match cs with
 |c::rest=>aih (f3 C bj bE bS v) c rest [⟨ac,false⟩] h j=some v
 |[]=>False
end
def vi(C:aL)(f:Nat)(args:List D)(h:R af)(j:Nat)(bg eK:bI):Prop:=
 ∀(bj:World) (dU:c6) (d5:Nat->Prop) (_:Env C bj dU d5) (bE:Nat) (bS:List Frame) (v:D) (_:D.same 30 v v=true) (cs:List gY),
  (∀ac S' am,bg ac S' am->Rw C bj bE bS v cs ac S' am)->(∀ac S' am,eK ac S' am->Nd C bj bE bS v cs ac S' am)->
  oY (f3 C bj bE bS v) C f args false cs h j=some v
def vi.mono{C:aL}{f:Nat}{args:List D}{h:R af}{j:Nat}{bg eK nA Jn:bI}(a:vi C f args h j bg eK)(gz:∀ac h j,bg ac h j->nA ac h j)(jT:∀ac h j,eK ac h j->Jn ac h j):
 vi C f args h j nA Jn:=
 λbj dU d5 cK bE bS v aD cs J Q=>a bj dU d5 cK bE bS v aD cs (λac h j aj=>J ac h j (gz ac h j aj)) (λac h j aj=>Q ac h j (jT ac h j aj))
def QK(ai:hP)(C:aL)(k:Nat)(args:List D)(cs:List gY)(h:R af)(j:Nat):ec:=match U C h k with
 |some (.loop _ _ fn n ao c3 params assign body _)=>(match x0 n params args c3 with
  |some c3=>ai .run [.code assign, .beginRound, .code body] ⟨fn,n,ao,[],false,some k,cs⟩ c3 h j
  |none=>none)
 |_=>none
def Bj(C:aL)(k:Nat)(args:List D)(h:R af)(j:Nat)(bg eK:bI):Prop:=
 ∀(bj:World) (dU:c6) (d5:Nat->Prop) (_:Env C bj dU d5) (bE:Nat) (bS:List Frame) (v:D) (_:D.same 30 v v=true) (cs:List gY),
  (∀ac S' am,bg ac S' am->Rw C bj bE bS v cs ac S' am)->(∀ac S' am,eK ac S' am->Nd C bj bE bS v cs ac S' am)->
  QK (f3 C bj bE bS v) C k args cs h j=some v
def Bj.mono{C:aL}{k:Nat}{args:List D}{h:R af}{j:Nat}{bg eK nA Jn:bI}(a:Bj C k args h j bg eK)(gz:∀ac h j,bg ac h j->nA ac h j)(jT:∀ac h j,eK ac h j->Jn ac h j):
 Bj C k args h j nA Jn:=
 λbj dU d5 cK bE bS v aD cs J Q=>a bj dU d5 cK bE bS v aD cs (λac h j aj=>J ac h j (gz ac h j aj)) (λac h j aj=>Q ac h j (jT ac h j aj))
def XB(C:aL)(f:Nat)(args:List D)(j7:Option D)(h:R af)(j:Nat)(bg:Bool->R af->Nat->Prop):Prop:=
 ∀(bj:World) (dU:c6) (d5:Nat->Prop) (_:Env C bj dU d5) (bE:Nat) (bS:List Frame) (v:D) (_:D.same 30 v v=true) (fn n ao:Nat) (H:R D) (todo:List dV) (ds:List h0) (aB:Bool) (ro:Option Nat) (cs:List gY),
  (∀b S' am,bg b S' am->f3 C bj bE bS v (match j7,b with|none,_=> .returning|some _,true=> .returning|some ac,false=> .panicking [⟨ac,false⟩]) todo ⟨fn,n,ao,ds,aB,ro,cs⟩ H S' am=some v)->
  oY (f3 C bj bE bS v) C f args true (⟨fn,n,ao,H,todo,ds,(match j7 with|none=> .returning|some ac=> .panicking [⟨ac,false⟩]),aB,ro⟩::cs) h j=some v
structure aW(C:aL)(f:Nat)(args:List D)(h:R af)(j:Nat)(ah av:bI):Prop where
 out:(∃ac,C.hu f args=some ac/\ah ac h j)\/(C.hu f args=none/\(∃fn c,C.P.funcs[f]? =some fn/\fn.body=some c)/\vi C f args h j ah av)
structure hN(V:Option eb)(h:R af)(j:Nat)(ah:bI):Prop where
 out:match V with
 |some (.val v)=>ah v h j
 |some (.fq v S' am)=>ah v S' am
 |_=>False
def aAz(V:Option eb)(h:R af)(j:Nat)(ah:bI):hN V h j ah=(match V with
 |some (.val v)=>ah v h j
 |some (.fq v S' am)=>ah v S' am
 |_=>False):=propext ⟨λa=>a.out,λa=>⟨a⟩⟩
def WM{V:Option eb}{h:R af}{j:Nat}{ah:bI}{v:D}(a:V=some (.val v))(y:ah v h j):hN V h j ah:=by subst a;exact⟨y⟩
def j8{V:Option eb}{h S':R af}{j am:Nat}{ah:bI}{v:D}(a:V=some (.fq v S' am))(y:ah v S' am):hN V h j ah:=by subst a;exact⟨y⟩
structure G2(V:Option eb)(h:R af)(j:Nat)(ah:bI):Prop where
 out:match V with
 |some (.val v)=>ah v h j
 |some (.fq v S' am)=>ah v S' am
 |some (.fork k)=>k≠[]/\∀ac S',(ac,S')∈k->ah ac S' j
 |_=>False
def arp(V:Option eb)(h:R af)(j:Nat)(ah:bI):G2 V h j ah=(match V with
 |some (.val v)=>ah v h j
 |some (.fq v S' am)=>ah v S' am
 |some (.fork k)=>k≠[]/\∀ac S',(ac,S')∈k->ah ac S' j
 |_=>False):=propext ⟨λa=>a.out,λa=>⟨a⟩⟩
def DB(C:aL)(rd:Bool)(V:Option eb)(h:R af)(j:Nat)(ah av:bI):Prop:=match V with
 |some (.val v)=>ah v h j
 |some (.fq v S' am)=>ah v S' am
 |some (.enter f args)=>vi C f args h j ah av
 |some (.round k args)=>Bj C k args h j ah av
 |some (.known _ _ v)=>ah v h j
 |some (.panic v)=>bV rd False (av v h j)
 |some (.fork k)=>k≠[]/\∀ac S',(ac,S')∈k->ah ac S' j
 |_=>False
def j1(x:kJ)(ap:List (Nat×D))(H:cU)(ah:D->Prop):Prop:=
 kJ.rec (motive:=λ_=>Prop) (λT=>cz (es ap T) ah) (λn=>cz (H n) ah) (λF=>ah F) x
def N1(ap:List (Nat×D))(H:cU)(k:List kJ):(List D->Prop)->Prop:=
 List.rec (motive:=λ_=>(List D->Prop)->Prop) (λah=>ah []) (λx _ ai ah=>j1 x ap H λF=>ai λr=>ah (F::r)) k
def eR(b5:List (Nat×Nat))(ap:List (Nat×D))(H:cU)(V:Operand)(ah:D->Prop):Prop:=match V with
 | .tmp t=>(match es b5 t with|some T=>cz (es ap T) ah|none=>cz (H t) ah)
 | .const v=>cz (Fk v) ah
 | .global g=>ah (.ptr g 0)
 | .func f=>ah (.func (.func f) [] [])
def tR(b5:List (Nat×Nat))(ap:List (Nat×D))(H:cU)(k:List Operand):(List D->Prop)->Prop:=
 List.rec (motive:=λ_=>(List D->Prop)->Prop) (λah=>ah []) (λx _ ai ah=>eR b5 ap H x λF=>ai λr=>ah (F::r)) k
def CT(b5:List (Nat×Nat))(ap:List (Nat×D))(H:cU)(k:List (Nat×Operand)):(List (Nat×D)->Prop)->Prop:=
 List.rec (motive:=λ_=>(List (Nat×D)->Prop)->Prop) (λah=>ah []) (λx _ ai ah=>eR b5 ap H x.2 λF=>ai λr=>ah ((x.1,F)::r)) k
def Qt(b5:List (Nat×Nat))(ap:List (Nat×D))(H:cU)(V:Option Operand)(ah:Option D->Prop):Prop:=match V with
 |none=>ah none
 |some x=>eR b5 ap H x λF=>ah (some F)
def kT:Operand:= .global 0
def g2:Operand:= .global 1
def nr:Operand:= .global 2
def kU(F:D):Operand->Option D:=λ_=>some F
def two(F b:D):Operand->Option D:=λV=>match V with| .global 0=>some F|_=>some b
def aiU(F b c:D):Operand->Option D:=λV=>match V with| .global 0=>some F| .global 1=>some b|_=>some c
def H4(n bs:Nat)(F i:D):Option D:=match nP i with|some i=>MX n bs F i|none=>none
def gt(bs:Nat)(F i:D):Option D:=match nP i with|some i=>C8 bs F i|none=>none
def ac5(C:aL)(t f:Nat)(F:D):Option D:=LS C t kT f .nil (kU F)
def acr(C:aL)(h:R af)(s d:Nat)(F:D):Option D:=LR C s d kT h (kU F)
def agh(C:aL)(t:Nat)(F:D):Option D:=LU C t kT .nil (kU F)
def abU(C:aL)(t:Nat)(ok:Bool)(F:D):Option D:=LQ C kT t ok .nil (kU F)
def acP(C:aL)(h:R af)(F:D):Option D:=VO C kT h (kU F)
def tb(C:aL)(h:R af)(b:Builtin)(dg:List TypeId)(br:List D):Option D:=match b,br with
 | .len,[x]=>(match dg with|t::_=>No C h t x|_=>none)
 | .cap,[x]=>(match dg with|t::_=>Nk C t x|_=>none)
 | .max,x::k=>pA true x k
 | .min,x::k=>pA false x k
 |_,_=>none
def gg(C:aL)(h:R af)(s:Nat)(F v:D):Option (R af):=match F with
 | .ptr b V=>bV (Nat.beq v.cells.length s&&Nat.blt 0 s) (wU C h b V v.cells) none
 |_=>none
def Hp(C:aL)(h:R af)(j:Nat)(b:Builtin)(dg:List TypeId)(br:List D):Option eb:=match b,br with
 | .append,[s,x]=>(match dg with
   |st::iW::_=>(match C.P.underlying iW with
    |some (.int _)=>(match nP x with|some n=>Nl C h j st s n|none=>none)
    |some (.slice _)=>Gt C h j st s x
    |some .string=>Gt C h j st s x
    |_=>none)
   |_=>none)
 |_,_=>none
structure iS(C:aL)(m9:D)(cp:List D)(h:R af)(j:Nat)(ah av:bI):Prop where
 out:match m9 with
 | .func fn first fT=>(match fn with| .func f=>aW C f ((first++cp)++fT) h j ah av| .yield k=>Bj C k (first++cp) h j ah av|_=>False)
 |_=>False
def QS(C:aL)(t len:Nat)(dp:List (Nat×D))(b:Nat):Option (D×af):=match C.P.underlying t with
 |some (.slice ei)=>(match jL C ei,ui C ei with
  |some s,some bu=>bV (Nat.ble (len*s) 16777216&&Nat.beq bu.cells.length s) ((match BH (λi=>some (i*s,s)) (lh len bu.cells) dp with
    |some cs=>some (D.slice b 0 len len,af.cells (R.ofList cs 0 .nil) cs.length .own)
    |none=>none))<|none
  |_,_=>none)
 |_=>none
structure ws(av:bI)(F:D)(h:R af)(j:Nat):Prop where
 out:match F with| .iface t v=>av (.iface t v) h j|_=>False
def azD(av:bI)(F:D)(h:R af)(j:Nat):ws av F h j=(match F with| .iface t v=>av (.iface t v) h j|_=>False):=propext ⟨λa=>a.out,λa=>⟨a⟩⟩
structure ahe(C:aL)(rd:Bool)(kF:D)(name:String)(cp:List D)(h:R af)(j:Nat)(ah av:bI):Prop where
 out:match kF with
 | .iface t v=>DB C rd (Gu C h t v name cp) h j ah av
 |_=>False
def ayi(C:aL)(rd:Bool)(kF:D)(name:String)(cp:List D)(h:R af)(j:Nat)(ah av:bI):ahe C rd kF name cp h j ah av=(match kF with
 | .iface t v=>DB C rd (Gu C h t v name cp) h j ah av
 |_=>False):=propext ⟨λa=>a.out,λa=>⟨a⟩⟩
def agV(b5:List (Nat×Nat))(V:Op):aL->R af->List (Nat×D)->cU->(D->Prop)->Prop:=match V with
 | .build t kp=>λC _ ap H ah=>CT b5 ap H kp.toList λdp=>ar (Nj C t dp) ah
 | .binOp op t x e _=>λC h ap H ah=>eR b5 ap H x λF=>eR b5 ap H e λb=>ar (dc C h op t (ry x||ry e) F b) ah
 | .unOp op _ x=>λ_ _ ap H ah=>eR b5 ap H x λF=>ar (gi op F) ah
 | .convert s d x=>λC h ap H ah=>eR b5 ap H x λF=>ar (acr C h s d F) ah
 | .makeInterface t x=>λC _ ap H ah=>eR b5 ap H x λF=>ar (agh C t F) ah
 | .makeFunc fn first fT=>λ_ _ ap H ah=>(match fn with
   | .func f=>tR b5 ap H first.toList λF=>tR b5 ap H fT.toList λb=>ah (.func (.func f) F b)
   |_=>False)
 | .slice t x bG aN ht=>λC h ap H ah=>eR b5 ap H x λF=>Qt b5 ap H bG λk=>Qt b5 ap H aN λa=>Qt b5 ap H ht λm=>ar (Nq C h t F k a m) ah
 | .field t x f=>λC _ ap H ah=>eR b5 ap H x λF=>ar (ac5 C t f F) ah
 | .index t x i=>λC _ ap H ah=>eR b5 ap H x λF=>eR b5 ap H i λb=>ar (Nn C t F b) ah
 | .lookup t m y ok=>λC h ap H ah=>eR b5 ap H m λF=>eR b5 ap H y λb=>ar (Np C h t F b ok) ah
 | .typeAssert x _ t ok=>λC _ ap H ah=>eR b5 ap H x λF=>ar (abU C t ok F) ah
 | .entry eO=>λC h ap H ah=>eR b5 ap H eO λF=>ar (acP C h F) ah
 | .call c=>λC h ap H ah=>(match c with
   |⟨.builtin b,args,dg⟩=>tR b5 ap H args.toList λbr=>ar (tb C h b dg.toList br) ah
   |_=>False)
 |_=>λ_ _ _ _ _=>False
def Ib(op:j9):aL->R af->List (Nat×D)->cU->(D->Prop)->Prop:=match op with
 | .E8 x=>λ_ _ ap H ah=>j1 x ap H ah
 | .pick c F b=>λ_ _ ap H ah=>j1 c ap H λc=>c4 ah λah=>aV c (j1 F ap H ah) (j1 b ap H ah)
 | .ep F=>λC h ap H ah=>j1 F ap H λF=>ar (aI C h F) ah
 | .Cw n F=>λC h ap H ah=>j1 F ap H λF=>ar (cZ C h n F) ah
 | .off d x=>λ_ _ ap H ah=>j1 x ap H λF=>ar (hk d F) ah
 | .Cn n bs x i=>λ_ _ ap H ah=>j1 x ap H λF=>j1 i ap H λi=>ar (H4 n bs F i) ah
 | .Co bs x i=>λ_ _ ap H ah=>j1 x ap H λF=>j1 i ap H λi=>ar (gt bs F i) ah
 | .Fe x=>λ_ _ ap H ah=>j1 x ap H λF=>ar (sO F) ah
 | .LA op x e=>λ_ _ ap H ah=>j1 x ap H λF=>j1 e ap H λb=>ar (bl op F b) ah
 | .ext i x=>λ_ _ ap H ah=>j1 x ap H λF=>ar (n3 i F) ah
 | .iu b5 V=>agV b5 V
 |_=>λ_ _ _ _ _=>False
def ag7(op:j9):aL->R af->Nat->List (Nat×D)->cU->bI->Prop:=match op with
 | .make b5 V=>(match V with
   | .alloc t=>λC h b _ _ ah=>ar (E5 C t (kU undef) b) λr=>gu C h b r.1 r.2 ah
   | .box _ x=>λC h b ap H ah=>eR b5 ap H x λF=>hn C h b F ah
   | .buildSlice t len kp=>λC h b ap H ah=>CT b5 ap H kp.toList λdp=>ar (QS C t len dp b) λr=>gu C h b r.1 r.2 ah
   | .makeMap _ none=>λC h b _ _ ah=>gu C h b (.map b) (.map [] 0) ah
   |_=>λ_ _ _ _ _ _=>False)
 |_=>λ_ _ _ _ _ _=>False
def Wd(op:j9):aL->R af->Nat->List (Nat×D)->cU->(D->R af->Prop)->Prop:=match op with
 | .make b5 V=>(match V with
   | .alloc t=>λC h b _ _ ah=>ar (E5 C t (kU undef) b) λr=>ms C h b r.1 r.2 ah
   | .box _ x=>λC h b ap H ah=>eR b5 ap H x λF=>yC C h b F ah
   | .buildSlice t len kp=>λC h b ap H ah=>CT b5 ap H kp.toList λdp=>ar (QS C t len dp b) λr=>ms C h b r.1 r.2 ah
   | .makeMap _ none=>λC h b _ _ ah=>ms C h b (.map b) (.map [] 0) ah
   |_=>λ_ _ _ _ _ _=>False)
 |_=>λ_ _ _ _ _ _=>False
def Uk(rd:Bool)(op:j9):aL->R af->Nat->List (Nat×D)->cU->bI->bI->Prop:=match op with
 | .st n F v=>λC h j ap H ah _=>j1 F ap H λF=>j1 v ap H λv=>ar (gg C h n F v) λh=>ah undef h j
 | .call f args=>λC h j ap H ah av=>N1 ap H args λcp=>aW C f cp h j ah av
 | .fo b5 V=>(match V with
   | .mapUpdate t m y x=>λC h j ap H ah _=>eR b5 ap H m λF=>eR b5 ap H y λb=>eR b5 ap H x λc=>hN (Jx C h j t F b c) h j ah
   | .insert t m y x=>λC h j ap H ah _=>eR b5 ap H m λF=>eR b5 ap H y λb=>eR b5 ap H x λc=>hN (Jx C h j t F b c) h j ah
   | .mapEntry t m y=>λC h j ap H ah _=>eR b5 ap H m λF=>eR b5 ap H y λb=>hN (Kz C t kT g2 h j (two F b)) h j ah
   | .entryStore _ m s x=>λC h j ap H ah _=>eR b5 ap H m λF=>eR b5 ap H s λb=>eR b5 ap H x λc=>hN (Ks C kT g2 nr h j (aiU F b c)) h j ah
   | .makeSlice t k c=>λC h j ap H ah _=>eR b5 ap H k λF=>eR b5 ap H c λb=>hN (Ky C t kT g2 h j (two F b)) h j ah
   | .makeMap t (some r)=>λC h j ap H ah _=>eR b5 ap H r λF=>hN (Kx C t kT h j (kU F)) h j ah
   | .convert s d x=>λC h j ap H ah _=>eR b5 ap H x λF=>hN (KC C s d kT h j (kU F)) h j ah
   | .range t x=>λC h j ap H ah _=>eR b5 ap H x λF=>hN (KA C t kT h j (kU F)) h j ah
   | .next eO Aw=>λC h j ap H ah _=>eR b5 ap H eO λF=>G2 (xn C kT Aw h j (kU F)) h j ah
   | .panic x=>λ_ h j ap H _ av=>bV rd False (eR b5 ap H x λF=>ws av F h j)
   | .call c=>λC h j ap H ah av=>(match c with
     |⟨.value f,args,_⟩=>eR b5 ap H f λm9=>tR b5 ap H args.toList λcp=>iS C m9 cp h j ah av
     |⟨.builtin b,args,dg⟩=>tR b5 ap H args.toList λbr=>hN (Hp C h j b dg.toList br) h j ah
     |⟨.invoke r name,args,_⟩=>eR b5 ap H r λkF=>tR b5 ap H args.toList λcp=>ahe C rd kF name cp h j ah av)
   |_=>λ_ _ _ _ _ _ _=>False)
 |_=>λ_ _ _ _ _ _ _=>False
def Ww(rd:Bool)(op:j9)(C:aL)(h:R af)(j:Nat)(ap:List (Nat×D))(H:cU)(ah av:bI):Prop:=match nn op with
 | .iu=>Ib op C h ap H λv=>ah v h j
 | .make=>ag7 op C h j ap H ah
 | .fo=>Uk rd op C h j ap H ah av
inductive Spec where
 |no
 |defer (b5:List (Nat×Nat)) (f:Operand) (args:List Operand)
 |recover
def FG(op:j9):Spec:=match op with
 | .fo b5 V=>(match V with
   | .defer c=>(match c with|⟨.value f,args,_⟩=> .defer b5 f args.toList|_=> .no)
   | .call c=>(match c with|⟨.builtin b,args,_⟩=>(match b,args.toList with| .recover,[]=> .recover|_,_=> .no)|_=> .no)
   |_=> .no)
 |_=> .no
def JS(m9:D)(cp:List D)(H:cU)(ah:cU->Prop):Prop:=match m9 with
 | .func fn first fT=>ah (AN H ⟨.fn fn fT,first++cp⟩)
 |_=>False
def IG(j7:Option (Option D))(H:cU)(ah:D->cU->Prop):Prop:=match j7 with
 |none=>False
 |some none=>ah .nilIface H
 |some (some ac)=>bV H.rc (ah .nilIface H) (ah ac (QQ H))
def Q7(g:Option (Nat×Bool))(ap:List (Nat×D))(F b:Prop):Prop:=match g with
 |none=>F
 |some (T,l4)=>cz (es ap T) λv=>iO l4 v F b
def Q9(g:Option (Nat×Bool))(ap:List (Nat×D))(p1:bI->Prop)(dJ:bI)(h:R af)(j:Nat):Prop:=match g with
 |none=>p1 dJ
 |some (T,l4)=>pX dJ λah=>cz (es ap T) λv=>iO l4 v (p1 ah) (ah undef h j)
def sN(g:Option (Nat×Bool))(ap:List (Nat×D))(p1:(D->R af->Prop)->Prop)(dJ:D->R af->Prop)(h:R af):Prop:=match g with
 |none=>p1 dJ
 |some (T,l4)=>wc dJ λah=>cz (es ap T) λv=>iO l4 v (p1 ah) (ah undef h)
def Xs(g:Option (Nat×Bool))(ap:List (Nat×D))(p1:Prop->Prop)(dJ:Prop):Prop:=match g with
 |none=>p1 dJ
 |some (T,l4)=>PV dJ λah=>cz (es ap T) λv=>iO l4 v (p1 ah) ah
def ajj(g:Option (Nat×Bool))(ap:List (Nat×D))(p1:bI->Prop)(dJ:bI)(h:R af)(j:Nat):Q9 g ap p1 dJ h j=Q7 g ap (p1 dJ) (dJ undef h j):=by
 cases g with
 |none=>rfl
 |some p=>exact awL _ _
def aC3(g:Option (Nat×Bool))(ap:List (Nat×D))(p1:(D->R af->Prop)->Prop)(dJ:D->R af->Prop)(h:R af):sN g ap p1 dJ h=Q7 g ap (p1 dJ) (dJ undef h):=by
 cases g with
 |none=>rfl
 |some p=>exact awJ _ _
def aC4(g:Option (Nat×Bool))(ap:List (Nat×D))(p1:Prop->Prop)(dJ:Prop):Xs g ap p1 dJ=Q7 g ap (p1 dJ) dJ:=by
 cases g with
 |none=>rfl
 |some p=>exact awK _ _
def Ka(k:List (Nat×Nat)):List (Nat×D)->cU->(cU->Prop)->Prop:=
 List.rec (motive:=λ_=>List (Nat×D)->cU->(cU->Prop)->Prop) (λ_ H ah=>ah H)
  (λp _ ai ap H ah=>cz (es ap p.1) λv=>ai ap (Z H p.2 v) ah) k
def CZ(C:aL)(bR:vk)(fin:List (Nat×Nat))(ah:ft)(av:s4)(rest:List fs):List (Nat×D)->cU->R af->Nat->Prop:=
 List.rec (motive:=λ_=>List (Nat×D)->cU->R af->Nat->Prop) (λap H h j=>Ka fin ap H λH=>ah H h j)
  (λx _ ai ap H h j=>match FG x.op with
   | .no=>Q9 x.g ap (λah=>Ww bR.rd x.op C h j ap H ah (av H)) (λv h j=>ai ((x.i,v)::ap) H h j) h j
   | .defer b5 f args=>bV (x.g.isNone&&bR.bd) (eR b5 ap H f λm9=>tR b5 ap H args λcp=>JS m9 cp H λH=>ai ((x.i,undef)::ap) H h j) False
   | .recover=>bV (x.g.isNone&& !bR.rd) (IG bR.j7 H λv H=>ai ((x.i,v)::ap) H h j) False) rest
def P8(C:aL)(base:Nat)(H:cU)(k:List fs):List (Nat×D)->R af->(List (Nat×D)->R af->Prop)->Prop:=
 List.rec (motive:=λ_=>List (Nat×D)->R af->(List (Nat×D)->R af->Prop)->Prop) (λap h ah=>ah ap h)
  (λx _ ai ap h ah=>sN x.g ap (λT=>match nn x.op with
   | .make=>Wd x.op C h (base+x.i) ap H T
   |_=>Ib x.op C h ap H λv=>T v h) (λv h=>ai ((x.i,v)::ap) h ah) h) k
structure gn(x:D)(V:Option D)(ah:Prop):Prop where
 out:cz V λac=>D.same 30 x ac=true/\ah
def WH(C:aL)(H:cU)(ap:List (Nat×D))(h:R af)(k:List fs):Prop->Prop:=
 List.rec (motive:=λ_=>Prop->Prop) (λah=>ah) (λx _ ai ah=>Xs x.g ap (λaj=>Ib x.op C h ap H λv=>gn v (es ap x.i) aj) (ai ah)) k
def SK(C:aL)(rd:Bool)(base:Nat)(fin:List (Nat×Nat))(H:cU)(ah:ft)(av:bI)(lH:List wR):List (Nat×D)->R af->Nat->Prop:=
 List.rec (motive:=λ_=>List (Nat×D)->R af->Nat->Prop) (λ_ _ _=>False)
  (λs _ ai ap h j=>P8 C base H s.uZ ap h λap h=>WH C H ap h s.WG (match s.fo with
   |none=>Ka fin ap H λH=>ah H h j
   |some a=>Q9 a.g ap (λah=>Uk rd a.op C h j ap H ah av) (λv h j=>ai ((a.i,v)::ap) h j) h j)) lH
structure fg(body:ft->ft)(H:cU)(h:R af)(j:Nat):Prop where
 out:∃s1:Nat->ft,(∃m,s1 m H h j)/\∀m H h j,s1 m H h j->body (λH h j=>∃gH,gH<m/\s1 gH H h j) H h j
def DU(id:Nat)(ah:ft)(E:Nat->ft):Nat->ft:=λuW=>bV (Nat.beq id uW) ah (E uW)
def SX(V:Operand)(H:cU)(ah:D->Prop):Prop:=eR [] [] H V ah
def aAv(C:aL)(n ao:Nat)(bR:vk)(av:s4)(aq:Array Oper)(BC:Bool)(ah:ft):ft:=λH h j=>Bool.rec (motive:=λ_=>Prop)
 (cz (L7 C n aq ao) λr=>CZ C bR r.fin ah (λH=>av (h2 (dstsOf aq.toList) H)) r.rest [] H h j)
 (cz (L6 C n aq ao) λr=>eW (j+aq.size) λam=>SK C bR.rd j r.fin H ah (av (h2 (dstsOf aq.toList) H)) r.lH [] h am) BC
def IM(n:Nat):List Nat->List D->cU->(cU->Prop)->Prop
 |[],[],H,ah=>ah H
 |p::dp,F::cp,H,ah=>bV (Nat.blt p n) (IM n dp cp (Z H p F) ah) False
 |_,_,_,_=>False
structure ao1(C:aL)(k:Nat)(mk:LoopState->Option Code->af)(h:R af)(y:Prop):Prop where
 here:U C h k=some (mk .ready none)
 go:y
structure NX(C:aL)(k:Nat)(mk:LoopState->Option Code->af)(st:LoopState)(p:Option Code)(b:Bool)(ah:bI)(h:R af)(j:Nat):Prop where
 here:∃aiD Iz,U C h k=some (mk aiD Iz)
 go:ah (.bool b) (bi C h k (some (mk st p))) j
abbrev M8:=vk->s4->ft->(Nat->ft)->ft->ft
def CF:vk:=⟨true,false,none⟩
def tZ(C:aL)(A bm:M8)(k:Nat)(mk:LoopState->Option Code->af)(ah av:bI):ft:=λH h j=>
 A CF (λ_=>av) (λH h j=>ao1 C k mk h (bm CF (λ_=>av) (λ_ h j=>NX C k mk .ready none true ah h j) (λid _ h j=>NX C k mk .done (some (.exit id)) false ah h j)
   (λ_ h j=>NX C k mk .done (some .ret) false ah h j) H (bi C h k (some (mk .busy none))) j)) (λ_ _ _ _=>False) (λ_ _ _=>False) H h j
def ahU(p:Option Code)(ah:ft)(E:Nat->ft)(r:ft):ft:=match p with
 |none=>ah
 |some c=>(match c with| .exit id=>E id| .ret=>r|_=>λ_ _ _=>False)
def wn(H:cU)(j:Nat):cU:=AN H ⟨.collected j,[]⟩
structure Fv(C:aL)(n:Nat)(m9:D)(params:List Nat)(eK:Nat->(LoopState->Option Code->af)->bI->bI->ft)(ah:ft)(E:Nat->ft)(r:ft)(av:s4)(H:cU)(h:R af)(j:Nat):Prop where
 low:C.a6<=j
 out:match m9 with
  | .func fn first fT=>(match fn with
    | .func g=>∀mk:LoopState->Option Code->af,
       (∀args S' am A2 eE,U C S' (j+1)=some (mk .ready none)->IM n params args H (λr0=>eK (j+1) mk A2 eE r0 S' am)->Bj C (j+1) args S' am A2 eE)->
       vi C g (first++[.func (.yield (j+1)) [] []]++fT) (bi C (bi C h j (some (.deferred (some [])))) (j+1) (some (mk .ready none))) (j+2)
        (λ_ S' am=>∃st p,st≠ .busy/\U C S' (j+1)=some (mk st p)/\ahU p ah E r (wn H j) (bi C S' (j+1) (some (mk .exhausted p))) am)
        (av (wn H j))
    |_=>False)
  |_=>False
def w4(C:aL)(n ao:Nat)(c:Code):M8:=
 Code.rec (motive:=λ_=>M8)
  (λ_ _ ah _ _=>ah)
  (λ_ aq d bR av ah _ _=>aAv C n ao bR av aq d ah)
  (λ_ _ nj hV bR av ah E r=>nj bR av (hV bR av ah E r) E r)
  (λc _ _ nj hV bR av ah E r H h j=>SX c H λv=>bk ah λah=>aV v (nj bR av ah E r H h j) (hV bR av ah E r H h j))
  (λid _ hV bR av ah E r H h j=>bk ah λah=>hV bR av ah (DU id ah E) r H h j)
  (λ_ hV bR av _ E r=>fg λR1=>hV bR av R1 E r)
  (λf params _ _ nj hV bR av ah E r H h j=>bV bR.bd (SX f H λm9=>Fv C n m9 params.toList (tZ C nj hV) ah E r av H h j) False)
  (λid _ _ _ E _=>E id)
  (λ_ hV bR av ah E r=>hV bR av ah E r)
  (λ_ _ _ ah _ _=>ah)
  (λ_ _ _ _ _ _ _ _ _=>False)
  (λ_ _ _ _ r=>r)
  (λ_ _ _ _ _ _ _ _ _=>False) c
def rI(C:aL)(h:R af)(H:cU)(k:List ResultVar):(List D->Prop)->Prop:=
 List.rec (motive:=λ_=>(List D->Prop)->Prop) (λah=>ah [])
  (λx _ ai ah=>ResultVar.rec (motive:=λ_=>Prop) (λt=>cz (H t) λv=>ai λr=>ah (v::r)) (λF t=>cz (H F) λp=>ar (l8 C h t p) λv=>ai λr=>ah (v::r)) x) k
def cP(k:List D):cU:=⟨λn=>sE k n,[],false⟩
structure uw(C:aL)(fn:Fn)(cp:List D)(j7:Option D)(h:R af)(j:Nat)(bg:Bool->R af->Nat->Prop):Prop where
 out:match fn with
  | .func f=>C.hu f cp=none/\(∃fn c,C.P.funcs[f]? =some fn/\fn.body=some c)/\XB C f cp j7 h j bg
  |_=>False
structure Qm(C:aL)(r:Nat)(h:R af)(y:Prop):Prop where
 low:C.a6<=r
 here:U C h r=some (.deferred (some []))
 go:y
def nV(C:aL)(Mu:List ResultVar)(bg:bI)(H:cU)(ds:List h0):R af->Nat->Prop:=
 List.rec (motive:=λ_=>R af->Nat->Prop) (λh j=>rI C h H Mu λbr=>bg (one br) h j)
  (λd _ ai h j=>match d.target with
   | .collected r=>Qm C r h (ai (bi C h r (some (.deferred none))) j)
   | .fn fn cap=>uw C fn (d.args++cap) none h j λ_ h j=>ai h j) ds
def wr(C:aL)(Mu:List ResultVar)(bg eK:bI)(H:cU)(ac:D):List h0->R af->Nat->Prop
 |[],h,j=>eK ac h j
 |d::ds,h,j=>match d.target with
   | .collected r=>Qm C r h (wr C Mu bg eK H ac ds (bi C h r (some (.deferred none))) j)
   | .fn fn cap=>uw C fn (d.args++cap) (some ac) h j λb h j=>bV b (nV C Mu bg H ds h j) (wr C Mu bg eK H ac ds h j)
def Ii:vk:=⟨false,false,none⟩
def AE:vk:=⟨false,true,none⟩
def BI(C:aL)(f:Nat)(args:List D)(h:R af)(j:Nat)(bg eK:bI):Prop:=match C.P.funcs[f]? with
 |some fn=>(match fn.body with
  |some c=>w4 C fn.ntmps (Nat.lor (kC c) (oD fn.results.toList)) c AE (λH ac h j=>wr C fn.results.toList bg eK H ac H.bd h j) (λH h j=>nV C fn.results.toList bg H H.bd h j) (λ_ _ _ _=>False)
    (λH h j=>nV C fn.results.toList bg H H.bd h j) (cP args) h j
  |none=>False)
 |none=>False
def yQ(C:aL)(f:Nat)(args:List D)(j7:Option D)(h:R af)(j:Nat)(bg:Bool->R af->Nat->Prop):Prop:=match C.P.funcs[f]? with
 |some fn=>(match fn.body with
  |some c=>w4 C fn.ntmps (Nat.lor (kC c) (oD fn.results.toList)) c ⟨false,false,some j7⟩ (λ_ _ _ _=>False) (λH h j=>rI C h H fn.results.toList λ_=>bg H.rc h j) (λ_ _ _ _=>False)
    (λH h j=>rI C h H fn.results.toList λ_=>bg H.rc h j) (cP args) h j
  |none=>False)
 |none=>False
def cY(C:aL)(f:Nat)(args:List D)(h:R af)(j:Nat)(bg eK:bI):Prop:=match C.P.funcs[f]? with
 |some fn=>(match fn.body with
  |some c=>w4 C fn.ntmps (Nat.lor (kC c) (oD fn.results.toList)) c Ii (λ_=>eK) (λH h j=>rI C h H fn.results.toList λbr=>bg (one br) h j) (λ_ _ _ _=>False)
    (λH h j=>rI C h H fn.results.toList λbr=>bg (one br) h j) (cP args) h j
  |none=>False)
 |none=>False
def cQ(C:aL)(f d9:Nat):Bool:=match C.P.funcs[f]? with
 |some fn=>(match fn.body with
  |some c=>Nat.ble d9 fn.ntmps&&mc C (Nat.lor (kC c) (oD fn.results.toList)) c&&AO (Nat.lor (kC c) (oD fn.results.toList)) fn.results.toList
  |none=>false)
 |none=>false
end
end Go.ba

