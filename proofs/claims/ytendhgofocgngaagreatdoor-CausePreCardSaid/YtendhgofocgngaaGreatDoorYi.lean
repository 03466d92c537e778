/- Part of the proof of the last text; no conditions -/
import Derived.Test.YtendhgofocgngaaGreatDoorYh
import Derived.ChangeReads
import GoSem.ClaimJoined
import Derived.Lib.Bytealg
import Derived.LaidLaws
set_option maxHeartbeats 8000000
set_option linter.all false
namespace Go.bn
noncomputable section
open Go.RowKit (Below)
abbrev vH:=Option (List z×Nat×List (Nat×ai))
def DO(P:Program)(next:Nat->DataW Unit->Nat->vH):List Field->List (DataW Unit)->Nat->Nat->vH
 |[],[],_,n=>some ([],n,[])
 |f::kg,d::ds,off,n=>bI (Nat.beq f.offset off) (match next f.type d n with
  |some (k,aL,os)=>bI (Nat.beq k.length (P.cellsOf f.type)) (match DO P next kg ds (off+k.length) aL with
   |some (b9,bc,sP)=>some (k++b9,bc,os++sP)
   |none=>none) none
  |none=>none) none
 |_,_,_,_=>none
def G0(P:Program)(next:Nat->DataW Unit->Nat->vH)(B:Nat):List (DataW Unit)->Nat->vH
 |[],n=>some ([],n,[])
 |d::ds,n=>match next B d n with
  |some (k,aL,os)=>bI (Nat.beq k.length (P.cellsOf B)) (match G0 P next B ds aL with
   |some (b9,bc,sP)=>some (k++b9,bc,os++sP)
   |none=>none) none
  |none=>none
def Ki:Lit->Option z
 | .bool b=>some (.bool b)
 | .int o n=>some (.int o n)
 | .string s=>some (.str (s.map (·.toNat)))
 |_=>none
def T1(P:Program)(B:Nat)(k:List z):Option z:=match P.underlying B with
 |some (.struct _)=>some (.agg k)
 |some (.array _ _)=>some (.agg k)
 |some _=>(match k with|[v]=>some v|_=>none)
 |none=>none
def OP(P:Program)(o:Nat):Bool:=match P.underlying o with|some .bool=>true|some (.int _)=>true|some .string=>true|_=>false
def Kp(P:Program)(next:Nat->DataW Unit->Nat->vH)(B:Nat):List (Lit×DataW Unit)->Nat->Option (List (z×z)×Nat×List (Nat×ai))
 |[],n=>some ([],n,[])
 |(key,d)::a1,n=>match Ki key,next B d n with
  |some GZ,some (k,aL,os)=>(match T1 P B k,Kp P next B a1 aL with
   |some v,some (r,bc,sP)=>some ((GZ,v)::r,bc,os++sP)
   |_,_=>none)
  |_,_=>none
def Hp(k:List z):ai:= .cells (S.ofList k 0 .nil) k.length .own
def wO(P:Program):Nat->Nat->DataW Unit->Nat->vH
 |0,_,_,_=>none
 |m+1,t,d,n=>match P.underlying t,d with
  |some .bool, .lit (.bool b)=>some ([.bool b],n,[])
  |some (.int _), .lit (.int o i)=>some ([.int o i],n,[])
  |some .string, .lit (.string s)=>some ([.str (s.map (·.toNat))],n,[])
  |some (.pointer _), .nil=>some ([.cW],n,[])
  |some (.pointer B), .ptr d=>(match wO P m B d (n+1)with
   |some (k,aL,os)=>bI (Nat.beq k.length (P.cellsOf B)&&Nat.blt 0 k.length) (some ([.ptr n 0],aL,(n,Hp k)::os)) none
   |none=>none)
  |some (.slice _), .nil=>some ([.a2],n,[])
  |some (.slice B), .slice a1 ags=>(match ags with
   |[]=>(match G0 P (wO P m) B a1 (n+1)with
    |some (k,aL,os)=>bI (Nat.blt 0 k.length) (some ([.slice n 0 a1.length a1.length],aL,(n,Hp k)::os)) none
    |none=>none)
   |_::_=>none)
  |some (.struct kg), .agg ds=>(match DO P (wO P m) kg.toList ds 0 n with
   |some (k,aL,os)=>bI (Nat.beq k.length (P.cellsOf t)) (some (k,aL,os)) none
   |none=>none)
  |some (.array _ B), .agg ds=>(match G0 P (wO P m) B ds n with
   |some (k,aL,os)=>bI (Nat.beq k.length (P.cellsOf t)) (some (k,aL,os)) none
   |none=>none)
  |some (.interface _), .nil=>some ([.nilIface],n,[])
  |some (.map _ _), .nil=>some ([.mf],n,[])
  |some (.map o B), .map a1=>bI (OP P o) (match Kp P (wO P m) B a1 (n+1)with
   |some (r,aL,os)=>some ([.map n],aL,(n, .look r)::os)
   |none=>none) none
  |_,_=>none
section
variable{C:aK}{P:Program}{w:World}
def rW(w:World)(df:List MemPlace):Prop:=∀b off,MemPlace.cell b off∈df->∃c t,w.heap[b]? =some (.cells c t (0,0))
def Fl(U:ai):Prop:=∀C Y,uh C Y U
def Lays(C:aK)(w:World)(n:Nat)(cs:List Value)(r:List z×Nat×List (Nat×ai)):Prop:=
 n<=r.2.1/\(∀x∈r.2.2,n<=x.1/\x.1<r.2.1/\Fl x.2)/\∃f:Nat->mq,∀J Y,(∀b,n<=b->b<r.2.1->J b=f b/\Y b)->cs=bK J r.1/\d0 Y r.1/\∀x∈r.2.2,jU C J Y x.2 (J x.1) w
def Lays.plain{n:Nat}{cs:List Value}{k:List z}(a:∀J Y,cs=bK J k/\d0 Y k):Lays C w n cs (k,n,[]):=
 ⟨Zh _,Zs,λ_=>default,λJ Y _=>⟨(a J Y).1,(a J Y).2,Zs⟩⟩
def Lays.app{n aL bc:Nat}{qS QL:List Value}{cO b9:List z}{afz sP:List (Nat×ai)}(H:Lays C w n qS (cO,aL,afz))(K:Lays C w aL QL (b9,bc,sP)):Lays C w n (qS++QL) (cO++b9,bc,afz++sP):=by
 obtain⟨bd,ca,ef,a3⟩:=H
 obtain⟨ch,cD,ev,di⟩:=K
 refine⟨Zy bd ch, ?_,λb=>if b<aL then ef b else ev b, ?_⟩
 ·intro x af
  rcases Zx.1 af with a|a
  ·obtain⟨cP,cG,d4⟩:=ca x a
   exact⟨cP,ZN cG ch,d4⟩
  ·obtain⟨cP,cG,d4⟩:=cD x a
   exact⟨Zy bd cP,cG,d4⟩
 ·intro J Y dB
  obtain⟨dF,dR,g3⟩:=a3 J Y (λb H K=>by
   have F4:b<aL:=K
   have:=dB b H (ZN K ch)
   simp only[Zq F4]at this
   exact this)
  obtain⟨cI,cE,eV⟩:=di J Y (λb H K=>by
   have q0:¬b<aL:=zx.2 H
   have:=dB b (Zy bd H) K
   simp only[Zg q0]at this
   exact this)
  refine⟨by rw[CD, <-dF, <-cI],AX dR cE, ?_⟩
  intro x af
  rcases Zx.1 af with a|a
  ·exact g3 x a
  ·exact eV x a
def D2{α en:Type}{f:α->Option en}:∀{k:List α}{r:List en},k.mapM f=some r->r.length=k.length/\∀(i:Nat) (E:α) (b:en),k[i]? =some E->r[i]? =some b->f E=some b:=by
 intro k
 induction k with
 |nil=>intro r a;simp at a;subst a;simp
 |cons E k ag=>
  intro r a
  simp only[zi,Option.bind_eq_bind,Z1]at a
  obtain⟨b,ah,fL,V,a⟩:=a
  simp at a;subst a
  obtain⟨H,K⟩:=ag V
  refine⟨by simp[H],λi fu dw aB jm=> ?_⟩
  cases i with
  |zero=>simp at aB jm;subst aB;subst jm;exact ah
  |succ i=>exact K i fu dw (by simpa using aB) (by simpa using jm)
def aeZ{α en:Type}{f:α->Option en}{E:α}{k:List α}{r:List en}(a:(E::k).mapM f=some r):∃b fL,r=b::fL/\f E=some b/\k.mapM f=some fL:=by
 simp only[zi,Option.bind_eq_bind,Z1]at a
 obtain⟨b,ah,fL,V,a⟩:=a
 simp at a;subst a
 exact⟨b,fL,rfl,ah,V⟩
def rW.of{df cf:List MemPlace}(a:rW w df)(aD:∀x∈cf,x∈df):rW w cf:=λb off ah=>a b off (aD _ ah)
def Lx(C:aK)(w:World)(next:Nat->DataW Unit->Nat->vH)(dK:TypeId->List Value->Option (DataW Unit×List MemPlace)):Prop:=
 ∀t d n r,next t d n=some r->∀cs df,dK t cs=some (d,df)->rW w df->Lays C w n cs r
variable{next:Nat->DataW Unit->Nat->vH}{dK:TypeId->List Value->Option (DataW Unit×List MemPlace)}
def auP(jv:Lx C w next dK){cs:List Value}:∀(kg:List Field) (ds:List (DataW Unit)) (off n:Nat) (r:List z×Nat×List (Nat×ai)),DO P next kg ds off n=some r->
 ∀ci:List (DataW Unit×List MemPlace),(kg.mapM λf=>dK f.type ((cs.drop f.offset).take (P.cellsOf f.type)))=some ci->ci.map (·.1)=ds->rW w (ci.flatMap (·.2))->Lays C w n ((cs.drop off).take r.1.length) r:=by
 intro kg
 induction kg with
 |nil=>
  intro ds off n r a ci _ _ _
  cases ds with
  |nil=>simp[DO]at a;subst a;exact .plain λJ Y=>⟨by simp[bK],trivial⟩
  |cons d ds=>simp[DO]at a
 |cons f kg ag=>
  intro ds off n r a ci af aI ce
  cases ds with
  |nil=>simp[DO]at a
  |cons d ds=>
   simp only[DO,d6]at a
   obtain⟨SY,a⟩:=a
   have SY:=Zj SY
   split at a
   ·rename_i k aL os V
    simp only[d6]at a
    obtain⟨aw,a⟩:=a
    have aw:=Zj aw
    split at a
    ·rename_i b9 bc sP hf
     simp at a;subst a
     obtain⟨e,pX,rfl,D,TC⟩:=aeZ af
     simp at aI
     obtain⟨rfl,aI⟩:=aI
     have H:=jv _ _ _ _ V _ e.2 (by rw[D]) (ce.of (by intro x af;simp;exact .inl af))
     have K:=ag ds (off+k.length) aL _ hf pX TC aI (ce.of (by intro x af;simp only[Ys,Zx];exact .inr af))
     rw[SY, <-aw]at H
     have:=H.app K
     simp only[ZU]
     rw[List.take_add,zv]
     exact this
    ·simp at a
   ·simp at a
def aa7(cs:List Value)(o:Nat):∀(m i0:Nat),(List.range' i0 m).flatMap (λi=>(cs.drop (i*o)).take o)=(cs.drop (i0*o)).take (m*o):=by
 intro m
 induction m with
 |zero=>intro i0;simp
 |succ m ag=>
  intro i0
  rw[List.range'_succ,Ys,ag,Z9 m 1 o,Nat.one_mul,Nat.add_comm (m*o) o,List.take_add,zv,Z9 i0 1 o,Nat.one_mul]
def aeE(jv:Lx C w next dK){B:Nat}{g:Nat->List Value}:∀(ds:List (DataW Unit)) (i0 n:Nat) (r:List z×Nat×List (Nat×ai)),G0 P next B ds n=some r->
 ∀ci:List (DataW Unit×List MemPlace),((List.range' i0 ds.length).mapM λi=>dK B (g i))=some ci->ci.map (·.1)=ds->rW w (ci.flatMap (·.2))->Lays C w n ((List.range' i0 ds.length).flatMap g) r/\r.1.length=ds.length*P.cellsOf B:=by
 intro ds
 induction ds with
 |nil=>
  intro i0 n r a ci _ _ _
  simp[G0]at a;subst a
  exact⟨.plain λJ Y=>⟨by simp[bK],trivial⟩,Zs⟩
 |cons d ds ag=>
  intro i0 n r a ci af aI ce
  simp only[G0]at a
  split at a
  ·rename_i k aL os V
   simp only[d6]at a
   obtain⟨aw,a⟩:=a
   have aw:=Zj aw
   split at a
   ·rename_i b9 bc sP hf
    simp at a;subst a
    simp only[ZD,List.range'_succ]at af
    obtain⟨e,pX,rfl,D,TC⟩:=aeZ af
    simp at aI
    obtain⟨rfl,aI⟩:=aI
    have H:=jv _ _ _ _ V _ e.2 (by rw[D]) (ce.of (by intro x af;simp;exact .inl af))
    obtain⟨K,ak⟩:=ag (i0+1) aL _ hf pX TC aI (ce.of (by intro x af;simp only[Ys,Zx];exact .inr af))
    refine⟨?_, ?_⟩
    ·simp only[ZD,List.range'_succ,Ys]
     exact H.app K
    ·simp only[ZU,ZD,ak,aw,Nat.succ_mul]
     omega
   ·simp at a
  ·simp at a
end
end
end Go.bn

namespace Go.bn
noncomputable section
open Go.RowKit (Below)
section
variable{C:aK}{P:Program}{w:World}
def QD{E:Addr}{v:Value}(a:w.cell? E=some v):E.spot=none/\∃bU ty tU,w.heap[E.block]? =some (.cells bU ty tU)/\bU[E.off]? =some v:=by
 unfold World.cell? at a
 split at a
 ·rename_i c ty tU ah
  split at a
  ·cases a
  ·rename_i aD
   refine⟨?_,c,ty,tU,ah,a⟩
   cases bP:E.spot with
   |none=>rfl
   |some x=>rw[bP]at aD;exact absurd rfl aD
 ·cases a
def Qf(E:Addr)(W:Nat):(E.add W).block=E.block:=by unfold Addr.add;split<;>rfl
def XW(E:Addr)(W:Nat):(E.add W).off=E.off+W:=by unfold Addr.add;split<;>simp_all
def QF{E:Addr}{o:Nat}{g:List Value}{bU:Array Value}{ty:TypeId}{tU:Nat×Nat}(ah:w.heap[E.block]? =some (.cells bU ty tU))(a:w.cells? 0 E o=some g):g=(bU.toList.drop E.off).take o/\g.length=o:=by
 unfold World.cells? at a
 rw[Zq (zu _)]at a
 obtain⟨H,K⟩:=D2 a
 rw[List.length_range]at H
 have key:∀W,W<o->bU[E.off+W]? =g[W]? :=by
  intro W bx
  have bS:g[W]? =some g[W]:=Ze Zo
  have:=K W W g[W] (by simp[bx]) bS
  obtain⟨_,AA,azE,aCV,cP,cG⟩:=QD this
  rw[Qf,ah]at cP
  cases cP
  rw[XW]at cG
  rw[cG,bS]
 refine⟨Y3 λW=> ?_,H⟩
 by_cases bx:W<o
 ·rw[YN bx,Yk, <-key W bx];simp
 ·rw[ZX Zo,ZX (by simp;omega)]
def Ux(k:List z):Fl (Hp k):=λ_ _=>⟨λ_ _ _ a=>(by cases a),λ_ _ _ a=>(by cases a;exact Hg)⟩
def awr(k:List (z×z)):Fl (.look k):=λ_ _=>⟨λ_ _ _ a=>(by cases a),λ_ _ _ a=>(by cases a)⟩
def UX{J:c1}{Y:Nat->Prop}{k:List z}{pl:mq}{bU:Array Value}{ty:TypeId}(ah:w.heap[pl.cr]? =some (.cells bU ty (0,0)))(aw:(bU.toList.drop pl.dH).take k.length=bK J k)(g:d0 Y k)(ce:0<k.length):jU C J Y (Hp k) pl w:=by
 have ej:k.length<=bU.size-pl.dH:=by
  have:=congrArg List.length aw
  rw[jH]at this
  simp at this
  omega
 refine⟨bU,ty,0,0,ah,rfl,Zo,λi v bo=> ?_⟩
 rw[mg]at bo
 have aA:i<k.length:=(Zb.1 bo).1
 refine⟨?_,AY g bo⟩
 have:=congrArg (λx:List Value=>x[i]?) aw
 simp only[YN aA,Yk,ZM,AK,bo,ZK]at this
 exact this
def Lays.block{n aL:Nat}{os:List (Nat×ai)}{cs:List Value}{k:List z}{ac:z}{x:Value}{cN:ai}(pl:mq)(a:Lays C w (n+1) cs (k,aL,os))(aS:Fl cN)
 (gw:∀J Y,J n=pl->Y n->cs=bK J k->d0 Y k->jU C J Y cN pl w/\x=aF J ac/\b7 Y ac):Lays C w n [x] ([ac],aL,(n,cN)::os):=by
 obtain⟨bd,ca,f,a3⟩:=a
 have bd:n+1<=aL:=bd
 refine⟨by simp only;omega, ?_,λb=>if b=n then pl else f b, ?_⟩
 ·intro e D
  rcases Zr.1 D with rfl|D
  ·exact⟨Zh _,by simp only;omega,aS⟩
  ·obtain⟨cP,cG,d4⟩:=ca e D
   exact⟨Zo,cG,d4⟩
 ·intro J Y dB
  have aM:=dB n (Zh _) (by simp only;omega)
  simp only[ZC]at aM
  obtain⟨dF,dR,g3⟩:=a3 J Y (λb H K=>by
   have:=dB b Zo K
   have cK:b≠n:=Zo
   simp only[Zg cK]at this
   exact this)
  obtain⟨fc,fQ,ia⟩:=gw J Y aM.1 aM.2 dF dR
  refine⟨by simp[bK,fQ],⟨ia,trivial⟩, ?_⟩
  intro e D
  rcases Zr.1 D with rfl|D
  ·simp only[aM.1];exact fc
  ·exact g3 e D
def afK{α en:Type}{f:α->en}{E m:List en}(a:E.Perm m):∀k:List α,k.map f=E->∃bQ:List α,bQ.Perm k/\bQ.map f=m:=by
 induction a with
 |nil=>intro k a;simp at a;subst a;exact⟨[], .refl _,rfl⟩
 |cons x _ ag=>
  intro k a
  cases k with
  |nil=>simp at a
  |cons e k=>
   simp at a
   obtain⟨bQ,H,K⟩:=ag k a.2
   exact⟨e::bQ,H.cons e,by simp[a.1,K]⟩
 |swap x e fH=>
  intro k a
  cases k with
  |nil=>simp at a
  |cons p k=>
   cases k with
   |nil=>simp at a
   |cons al k=>
    simp at a
    obtain⟨rfl,rfl,rfl⟩:=a
    exact⟨al::p::k, .swap _ _ _,Zs⟩
 |trans _ _ TE J7=>
  intro k a
  obtain⟨cO,H,K⟩:=TE k a
  obtain⟨b9,ak,ay⟩:=J7 cO K
  exact⟨b9,ak.trans H,ay⟩
def insert_perm{nu:Type}(x:Lit×DataW nu):∀k,(DataW.insert x k).Perm (x::k):=by
 intro k
 induction k with
 |nil=>exact .refl _
 |cons e k ag=>
  simp only[DataW.insert]
  split
  ·exact .refl _
  ·exact(ag.cons e).trans (.swap _ _ _)
def sorted_perm{nu:Type}:∀k:List (Lit×DataW nu),(k.foldr DataW.insert []).Perm k:=by
 intro k
 induction k with
 |nil=>exact .refl _
 |cons x k ag=>exact(insert_perm x _).trans (ag.cons x)
def aus{o:Nat}{v:Value}{key:Lit}{GZ:z}(av:OP P o=true)(a:keyOf P o v=some key)(aC:Ki key=some GZ)(J:c1)(Y:Nat->Prop):v=aF J GZ/\b7 Y GZ:=by
 unfold OP at av
 unfold keyOf at a
 have B:mapKey P o v=some key:=by
  cases aX:P.underlying o with
  |none=>rw[aX]at av;cases av
  |some ac=>rw[aX]at a av;cases ac<;>first|exact a|cases av
 unfold mapKey at B
 split at B
 ·simp at B;subst B;simp[Ki]at aC;subst aC;exact⟨rfl,trivial⟩
 ·split at B
  ·rename_i al l3 n _ bP
   simp at B;subst B;simp[Ki]at aC;subst aC
   exact⟨by rw[bP.1];rfl,trivial⟩
  ·cases B
 ·split at B
  ·rename_i s _ _
   simp at B;subst B;simp[Ki]at aC;subst aC
   refine⟨by simp only[aF];rw[Qw], ?_⟩
   intro x af
   simp at af
   obtain⟨b,_,rfl⟩:=af
   exact b.toNat_lt
  ·cases B
 ·cases B
def azX{B:Nat}{v:Value}{k:List z}{ac:z}{J:c1}{Y:Nat->Prop}(b8:v.formed P B=true)(aX:T1 P B k=some ac)(ax:v.cells.toList=bK J k)(g:d0 Y k):v=aF J ac/\b7 Y ac:=by
 unfold T1 at aX
 unfold Value.formed at b8
 cases aI:P.underlying B with
 |none=>rw[aI]at aX;cases aX
 |some azt=>
  rw[aI]at aX b8
  have agg:(∃cs,v= .agg cs)->ac= .agg k->v=aF J ac/\b7 Y ac:=by
   rintro⟨cs,rfl⟩ rfl
   refine⟨?_,g⟩
   simp only[Value.cells]at ax
   simp only[aF, <-ax]
  have ayv:v.cells= #[v]->(∃x,k=[x]/\ac=x)->v=aF J ac/\b7 Y ac:=by
   rintro H ⟨x,rfl,rfl⟩
   rw[H]at ax
   simp[bK]at ax
   exact⟨ax,g.1⟩
  cases v<;>cases azt<;>simp only at b8 aX<;>first
   |(cases b8;done)
   |(simp at aX;exact agg ⟨_,rfl⟩ aX.symm)
   |(
     split at aX
     ·simp at aX;exact ayv rfl ⟨_,rfl,aX.symm⟩
     ·cases aX)
end
end
end Go.bn

namespace Go.bn
noncomputable section
open Go.RowKit (Below)
section
variable{C:aK}{P:Program}{w:World}
variable{next:Nat->DataW Unit->Nat->vH}{dK:TypeId->List Value->Option (DataW Unit×List MemPlace)}
def auO(jv:Lx C w next dK){o B:Nat}(av:OP P o=true):∀(a1:List (Lit×DataW Unit)) (n:Nat) (r:List (z×z)×Nat×List (Nat×ai)),Kp P next B a1 n=some r->
 ∀d8:List (MapEntry×((Lit×DataW Unit)×List MemPlace)),d8.map (·.2.1)=a1->(∀aG∈d8,keyOf P o aG.1.key=some aG.2.1.1/\aG.1.val.formed P B=true/\dK B aG.1.val.cells.toList=some (aG.2.1.2,aG.2.2)/\rW w aG.2.2)->
 n<=r.2.1/\(∀x∈r.2.2,n<=x.1/\x.1<r.2.1/\Fl x.2)/\r.1.length=d8.length/\∃f:Nat->mq,∀J Y,(∀b,n<=b->b<r.2.1->J b=f b/\Y b)->
  d8.map (·.1)=(List.zipWith (λ(p:z×z) (aG:MapEntry×((Lit×DataW Unit)×List MemPlace))=>(p.1,p.2,aG.1.born)) r.1 d8).map (fz J)/\(∀p∈r.1,b7 Y p.1/\b7 Y p.2)/\∀x∈r.2.2,jU C J Y x.2 (J x.1) w:=by
 intro a1
 induction a1 with
 |nil=>
  intro n r a d8 tu _
  simp[Kp]at a;subst a
  simp at tu;subst tu
  exact⟨Zh _,Zs,rfl,λ_=>default,λJ Y _=>⟨rfl,Zs,Zs⟩⟩
 |cons E a1 ag=>
  obtain⟨key,d⟩:=E
  intro n r a d8 tu is
  simp only[Kp]at a
  split at a
  ·rename_i GZ k aL os arx aM
   split at a
   ·rename_i v jC bc sP bo V
    simp at a;subst a
    cases d8 with
    |nil=>simp at tu
    |cons aG d8=>
     simp at tu
     obtain⟨GM,GN⟩:=tu
     obtain⟨b4,b1,cM,eu⟩:=is aG (Zu ..)
     rw[GM]at b4 cM
     obtain⟨bd,ca,ef,a3⟩:=jv _ _ _ _ aM _ _ cM eu
     obtain⟨ch,cD,ck,ev,di⟩:=ag aL _ V d8 GN (λaG ce=>is aG (Zt _ ce))
     have bd:n<=aL:=bd
     have ch:aL<=bc:=ch
     refine⟨Zy bd ch, ?_,by simpa using ck,λb=>if b<aL then ef b else ev b, ?_⟩
     ·intro x af
      rcases Zx.1 af with al|al
      ·obtain⟨cP,cG,d4⟩:=ca x al
       exact⟨cP,ZN cG ch,d4⟩
      ·obtain⟨cP,cG,d4⟩:=cD x al
       exact⟨Zy bd cP,cG,d4⟩
     ·intro J Y dB
      obtain⟨dF,dR,g3⟩:=a3 J Y (λb H K=>by
       have F4:b<aL:=K
       have:=dB b H (ZN K ch)
       simp only[Zq F4]at this
       exact this)
      obtain⟨cI,cE,eV⟩:=di J Y (λb H K=>by
       have q0:¬b<aL:=zx.2 H
       have:=dB b (Zy bd H) K
       simp only[Zg q0]at this
       exact this)
      obtain⟨bJ,b2⟩:=aus av b4 arx J Y
      obtain⟨EP,agQ⟩:=azX b1 bo dF dR
      refine⟨?_, ?_, ?_⟩
      ·simp only[ZE,List.zipWith_cons_cons,cI]
       congr 1
       obtain⟨⟨aDs,aDt,aDr⟩,_⟩:=aG
       simp only[fz]at bJ EP ⊢
       rw[<-bJ, <-EP]
      ·intro p av
       rcases Zr.1 av with rfl|av
       ·exact⟨b2,agQ⟩
       ·exact cE p av
      ·intro x af
       rcases Zx.1 af with al|al
       ·exact g3 x al
       ·exact eV x al
   ·simp at a
  ·simp at a
def ahi{d8:List (MapEntry×((Lit×DataW Unit)×List MemPlace))}:∀(r:List (z×z)) (d8:List (MapEntry×((Lit×DataW Unit)×List MemPlace))),r.length=d8.length->
 (List.zipWith (λ(p:z×z) (aG:MapEntry×((Lit×DataW Unit)×List MemPlace))=>(p.1,p.2,aG.1.born)) r d8).map (λB=>(B.1,B.2.1))=r:=by
 intro r
 induction r with
 |nil=>intro d8 _;simp
 |cons p r ag=>
  intro d8 a
  cases d8 with
  |nil=>simp at a
  |cons aG d8=>simp[ag d8 (by simpa using a)]
def avu{α en:Type}{f g:α->Option en}:∀{k:List α},(∀x∈k,f x=g x)->k.mapM f=k.mapM g:=by
 intro k
 induction k with
 |nil=>intro _;rfl
 |cons E k ag=>intro a;simp[zi,a E Zs,ag λx af=>a x (by simp[af])]
def aou{α en:Type}{f g:α->List en}:∀{k:List α},(∀x∈k,f x=g x)->k.flatMap f=k.flatMap g:=by
 intro k
 induction k with
 |nil=>intro _;rfl
 |cons E k ag=>intro a;simp[Ys,a E Zs,ag λx af=>a x (by simp[af])]
end
end
end Go.bn

namespace Go.bn
noncomputable section
open Go.RowKit (Below)
section
variable{C:aK}{P:Program}{w:World}
abbrev rd(P:Program)(w:World)(al:Nat):TypeId->List Value->Option (DataW Unit×List MemPlace):=DataW.trod (λ_=>()) P w 0 (λ_=>true) false al
def O2{E:Addr}{o:Nat}(a:0<o):MemPlace.cell E.block E.off∈MemPlace.row E o:=by
 unfold MemPlace.row
 exact ZB.2 ⟨0,by simp[a],Zs⟩
def aeG:∀(m al:Nat),Lx C w (wO P m) (rd P w al):=by
 intro m
 induction m with
 |zero=>intro al t d n r a;simp[wO]at a
 |succ m ag=>
  intro al t d n r a cs df V ce
  cases al with
  |zero=>simp[rd,DataW.trod]at V
  |succ al=>
   have J8:=ag al
   simp only[wO]at a
   split at a
   ·
    rename_i b aX
    simp at a;subst a
    match cs with
    |[]=>simp[rd,DataW.trod,aX]at V
    |_::_::_=>simp[rd,DataW.trod,aX]at V
    |[c]=>
     cases c<;>simp[rd,DataW.trod,aX]at V
     obtain⟨rfl,rfl⟩:=V
     exact .plain λJ Y=>⟨rfl,trivial,trivial⟩
   ·
    rename_i eA o i aX
    simp at a;subst a
    match cs with
    |[]=>simp[rd,DataW.trod,aX]at V
    |_::_::_=>simp[rd,DataW.trod,aX]at V
    |[c]=>
     cases c<;>simp[rd,DataW.trod,aX]at V
     obtain⟨⟨rfl,_⟩,⟨rfl,rfl⟩,rfl⟩:=V
     exact .plain λJ Y=>⟨rfl,trivial,trivial⟩
   ·
    rename_i s aX
    simp at a;subst a
    match cs with
    |[]=>simp[rd,DataW.trod,aX]at V
    |_::_::_=>simp[rd,DataW.trod,aX]at V
    |[c]=>
     cases c<;>simp[rd,DataW.trod,aX]at V
     obtain⟨_,rfl,rfl⟩:=V
     refine .plain λJ Y=>⟨by simp only[bK,aF];rw[Qw], ?_,trivial⟩
     intro x af
     simp at af
     obtain⟨b,_,rfl⟩:=af
     exact b.toNat_lt
   ·
    rename_i B aX
    simp at a;subst a
    match cs with
    |[]=>simp[rd,DataW.trod,aX]at V
    |_::_::_=>simp[rd,DataW.trod,aX]at V
    |[c]=>
     cases c<;>simp[rd,DataW.trod,aX]at V
     rename_i E
     cases E with
     |none=>exact .plain λJ Y=>⟨rfl,trivial,trivial⟩
     |some E=>simp[Z1]at V
   ·
    rename_i B d aX
    split at a
    ·rename_i k aL os aw
     simp only[d6,Zp,Zf]at a
     obtain⟨⟨H,K⟩,rfl⟩:=a
     have H:=Zj H
     have K:=ks K
     match cs with
     |[]=>simp[rd,DataW.trod,aX]at V
     |_::_::_=>simp[rd,DataW.trod,aX]at V
     |[c]=>
      cases c<;>simp[rd,DataW.trod,aX]at V
      rename_i U
      cases U with
      |none=>simp at V
      |some E=>
       simp only[Z1,Function.comp,Yl,YT,DataW.ptr.injEq]at V
       obtain⟨c3,ax,x,af,rfl,rfl⟩:=V
       obtain⟨bU,ty,ah⟩:=ce E.block E.off (Zx.2 (.inl (O2 Zo)))
       obtain⟨b4,b1⟩:=QF ah ax
       have Dt:E.spot=none:=by
        unfold World.cells? at ax
        rw[Zq (zu _)]at ax
        obtain⟨bJ,b2⟩:=D2 ax
        have:=b2 0 0 c3[0] (by rw[List.getElem?_range Zo]) (Ze Zo)
        exact(QD (show w.cell? E=some _ from this)).1
       have yw:=J8 _ _ _ _ aw c3 x.2 af (ce.of λe D=>Zx.2 (.inr D))
       refine Lays.block ⟨E.block,E.off,0⟩ yw (Ux k) λJ Y dB gv hJ bS=>⟨UX ah ?_ bS K, ?_,gv⟩
       ·simp only
        rw[H, <-b4,hJ]
       ·simp only[aF,dB]
        obtain⟨p2,alu,cg⟩:=E
        have Dt:cg=none:=Dt
        subst Dt
        rfl
    ·simp at a
   ·
    rename_i B aX
    simp at a;subst a
    match cs with
    |[]=>simp[rd,DataW.trod,aX]at V
    |_::_::_=>simp[rd,DataW.trod,aX]at V
    |[c]=>
     cases c<;>(try(simp[rd,DataW.trod,aX]at V;done))
     rename_i E len cap
     cases E with
     |none=>
      simp only[rd,DataW.trod,aX]at V
      split at V<;>simp_all
      exact .plain λJ Y=>⟨rfl,trivial,trivial⟩
     |some E=>
      simp[rd,DataW.trod,aX,Z1]at V
   ·
    rename_i B a1 ags aX
    split at a
    ·split at a
     ·rename_i k aL os aw
      simp only[d6,Zf]at a
      obtain⟨K,rfl⟩:=a
      have K:=ks K
      match cs with
      |[]=>simp[rd,DataW.trod,aX]at V
      |_::_::_=>simp[rd,DataW.trod,aX]at V
      |[c]=>
       cases c<;>(try(simp[rd,DataW.trod,aX]at V;done))
       rename_i U len cap
       cases U with
       |none=>
        simp only[rd,DataW.trod,aX]at V
        split at V<;>simp_all
       |some E=>
        simp only[rd,DataW.trod,aX]at V
        split at V
        ·rename_i l8
         simp only[Z1,Yl,YT,DataW.slice.injEq,ZC]at V
         obtain⟨Q5,a7,rest,qp,⟨bw,b3⟩,rfl⟩:=V
         have asK:rest=[]:=by simpa using b3
         subst asK
         obtain⟨bJ,_⟩:=D2 qp
         obtain⟨b2,cF⟩:=D2 a7
         simp at bJ b2
         have g4:cap=len:=Zo
         subst g4
         have ej:a1.length=cap:=by rw[<-bw];simp[b2]
         simp only[ZY,ZR,Z0]at ce
         obtain⟨kI,lB⟩:=aeE (C:=C) (w:=w) J8 (B:=B) (g:=λi=>(w.cells? 0 (E.add (i*P.cellsOf B)) (P.cellsOf B)).getD []) a1 0 (n+1) _ aw Q5
          (by
           rw[ej, <-List.range_eq_range']
           rw[<-a7]
           have is:∀i∈List.range cap,(w.cells? 0 (E.add (i*P.cellsOf B)) (P.cellsOf B)).isSome=true:=by
            intro i aA
            have ky:i<cap:=by simpa using aA
            have:=cF i i Q5[i] (by simp[ky]) (Ze Zo)
            simp only[Z1]at this
            obtain⟨dE,cP,_⟩:=this
            rw[cP];rfl
           exact avu λi aA=>by
            have:=is i aA
            cases bP:w.cells? 0 (E.add (i*P.cellsOf B)) (P.cellsOf B)with
            |none=>rw[bP]at this;cases this
            |some dE=>simp)
          bw (ce.of λe D=>Zx.2 (.inr D))
         simp only at lB
         have u3:0<cap*P.cellsOf B:=by rw[<-ej, <-lB];exact K
         obtain⟨bU,ty,ah⟩:=ce E.block E.off (Zx.2 (.inl (O2 (by rw[b2];exact u3))))
         have aC:0<P.cellsOf B:=Nat.pos_of_mul_pos_left u3
         have x9:0<cap:=Nat.pos_of_mul_pos_right u3
         have Z:∀i,i<cap->∃dE,w.cells? 0 (E.add (i*P.cellsOf B)) (P.cellsOf B)=some dE:=by
          intro i ky
          have:=cF i i Q5[i] (by simp[ky]) (Ze Zo)
          simp only[Z1]at this
          obtain⟨dE,cP,_⟩:=this
          exact⟨dE,cP⟩
         have Dt:E.spot=none:=by
          obtain⟨dE,cP⟩:=Z 0 x9
          have nJ:=(QF (E:=E.add (0*P.cellsOf B)) (by rw[Qf];exact ah) cP).2
          unfold World.cells? at cP
          rw[Zq (zu _)]at cP
          obtain⟨_,b2⟩:=D2 cP
          have:=b2 0 0 dE[0] (by rw[List.getElem?_range Zo]) (Ze Zo)
          have a8:(E.add (0*P.cellsOf B)).add 0=E:=by simp[Addr.add]
          rw[a8]at this
          exact(QD this).1
         have aq2:(List.range' 0 a1.length).flatMap (λi=>(w.cells? 0 (E.add (i*P.cellsOf B)) (P.cellsOf B)).getD [])=(bU.toList.drop E.off).take (cap*P.cellsOf B):=by
          rw[ej]
          have:∀i∈List.range' 0 cap,(w.cells? 0 (E.add (i*P.cellsOf B)) (P.cellsOf B)).getD []=((bU.toList.drop E.off).drop (i*P.cellsOf B)).take (P.cellsOf B):=by
           intro i aA
           have ky:i<cap:=by simpa using aA
           obtain⟨dE,cP⟩:=Z i ky
           obtain⟨b4,_⟩:=QF (E:=E.add (i*P.cellsOf B)) (by rw[Qf];exact ah) cP
           rw[cP,YL,b4,XW,zv]
          rw[aou this,aa7,zm,Yg]
         rw[aq2]at kI
         refine Lays.block ⟨E.block,E.off,0⟩ kI (Ux k) λJ Y dB gv hJ bS=>⟨UX ah ?_ bS K, ?_,gv⟩
         ·simp only
          rw[lB,ej];exact hJ
         ·simp only[aF,dB,ej]
          obtain⟨p2,alu,cg⟩:=E
          have Dt:cg=none:=Dt
          subst Dt
          rfl
        ·simp at V
     ·simp at a
    ·simp at a
   ·
    rename_i kg ds aX
    split at a
    ·rename_i k aL os aw
     simp only[d6,Zf]at a
     obtain⟨H,rfl⟩:=a
     have H:=Zj H
     have cX:rd P w (al+1) t cs=(if cs.length=P.cellsOf t then(kg.toList.mapM λf=>rd P w al f.type ((cs.drop f.offset).take (P.cellsOf f.type))).map λci=>(.agg (ci.map (·.1)),ci.flatMap (·.2))else none):=by
      simp only[rd]
      rw[DataW.trod_step]
      unfold DataW.trodStep
      rw[aX]
     rw[cX]at V
     split at V
     case isFalse=>cases V
     rename_i ej
     simp only[Yl,YT,DataW.agg.injEq]at V
     obtain⟨ci,af,aI,rfl⟩:=V
     have:=auP (C:=C) (w:=w) J8 (cs:=cs) kg.toList ds 0 n _ aw ci af aI ce
     simp only[Yg]at this
     rw[ZH Zo]at this
     exact this
    ·simp at a
   ·
    rename_i o B ds aX
    split at a
    ·rename_i k aL os aw
     simp only[d6,Zf]at a
     obtain⟨H,rfl⟩:=a
     have H:=Zj H
     have cX:rd P w (al+1) t cs=(if cs.length=P.cellsOf t then((List.range o).mapM λi=>rd P w al B ((cs.drop (i*P.cellsOf B)).take (P.cellsOf B))).map λci=>(.agg (ci.map (·.1)),ci.flatMap (·.2))else none):=by
      simp only[rd]
      rw[DataW.trod_step]
      unfold DataW.trodStep
      rw[aX]
     rw[cX]at V
     split at V
     case isFalse=>cases V
     rename_i ej
     simp only[Yl,YT,DataW.agg.injEq]at V
     obtain⟨ci,af,aI,rfl⟩:=V
     have j2:ds.length=o:=by
      have:=(D2 af).1
      rw[<-aI];simpa using this
     obtain⟨kI,lB⟩:=aeE (C:=C) (w:=w) J8 (B:=B) (g:=λi=>(cs.drop (i*P.cellsOf B)).take (P.cellsOf B)) ds 0 n _ aw ci (by rw[j2, <-List.range_eq_range'];exact af) aI ce
     rw[aa7,zm,Yg,ZH (by simp only at lB;omega)]at kI
     exact kI
    ·simp at a
   ·
    rename_i B aX
    simp at a;subst a
    match cs with
    |[]=>simp[rd,DataW.trod,aX]at V
    |_::_::_=>simp[rd,DataW.trod,aX]at V
    |[c]=>
     cases c<;>simp[rd,DataW.trod,aX]at V
     all_goals first
      |exact .plain λJ Y=>⟨rfl,trivial,trivial⟩
      |(split at V<;>simp_all)
   ·
    rename_i o B aX
    simp at a;subst a
    match cs with
    |[]=>simp[rd,DataW.trod,aX]at V
    |_::_::_=>simp[rd,DataW.trod,aX]at V
    |[c]=>
     cases c<;>simp[rd,DataW.trod,aX]at V
     rename_i b
     cases b with
     |none=>exact .plain λJ Y=>⟨rfl,trivial,trivial⟩
     |some b=>
      simp only at V
      split at V
      ·split at V
       ·simp only[Z1]at V
        obtain⟨dh,_,ak⟩:=V
        split at ak<;>simp at ak
       ·cases V
      ·cases V
   ·
    rename_i o B a1 aX
    simp only[d6]at a
    obtain⟨av,a⟩:=a
    split at a
    ·rename_i fc aL os aw
     simp at a;subst a
     match cs with
     |[]=>simp[rd,DataW.trod,aX]at V
     |_::_::_=>simp[rd,DataW.trod,aX]at V
     |[c]=>
      cases c<;>(try(simp[rd,DataW.trod,aX]at V;done))
      rename_i b
      cases b with
      |none=>simp[rd,DataW.trod,aX]at V
      |some b=>
       simp only[rd,DataW.trod,aX]at V
       split at V
       ·rename_i IC dn ah
        split at V
        ·simp only[Z1]at V
         obtain⟨dh,cd,V⟩:=V
         split at V
         ·simp only[Zf,YT,DataW.map.injEq]at V
          obtain⟨aD,rfl⟩:=V
          obtain⟨bJ,b2⟩:=D2 cd
          have aBC:dh.length=IC.toList.length:=bJ
          have aql:(IC.toList.zip dh).map (·.2.1)=dh.map (·.1):=by
           have Q3:(λx:MapEntry×((Lit×DataW Unit)×List MemPlace)=>x.2.1)=(λe:(Lit×DataW Unit)×List MemPlace=>e.1)∘Prod.snd:=rfl
           rw[Q3, <-YA,List.map_snd_zip Zo]
          obtain⟨d8,abY,abZ⟩:=afK (sorted_perm (dh.map (·.1))).symm (IC.toList.zip dh) aql
          rw[aD]at abZ
          have is:∀aG∈d8,keyOf P o aG.1.key=some aG.2.1.1/\aG.1.val.formed P B=true/\rd P w al B aG.1.val.cells.toList=some (aG.2.1.2,aG.2.2)/\rW w aG.2.2:=by
           intro aG GM
           have GN:=abY.mem_iff.1 GM
           obtain⟨i,aA⟩:=Z2.1 GN
           rw[List.getElem?_zip_eq_some]at aA
           have:=b2 i _ _ aA.1 aA.2
           simp only[Z1]at this
           obtain⟨key,cP,cG⟩:=this
           split at cG
           ·rename_i b8
            simp only[Yl]at cG
            obtain⟨e,d4,fK⟩:=cG
            rw[<-fK]
            refine⟨cP,b8,d4,ce.of λp av=> ?_⟩
            refine Zt _ (List.mem_flatMap.2 ⟨aG.2,Zn aA.2, ?_⟩)
            rw[<-fK];exact av
           ·cases cG
          obtain⟨bd,ca,a0,f,a3⟩:=auO (C:=C) (w:=w) J8 av a1 (n+1) _ aw d8 abZ is
          have bd:n+1<=aL:=bd
          refine⟨by simp only;omega, ?_,λx=>if x=n then⟨b,0,0⟩else f x, ?_⟩
          ·intro e D
           rcases Zr.1 D with rfl|D
           ·exact⟨Zh _,by simp only;omega,awr _⟩
           ·obtain⟨cP,cG,d4⟩:=ca e D
            exact⟨Zo,cG,d4⟩
          ·intro J Y dB
           have aM:=dB n (Zh _) (by simp only;omega)
           simp only[ZC]at aM
           obtain⟨dF,dR,g3⟩:=a3 J Y (λx H K=>by
            have:=dB x Zo K
            have cK:x≠n:=Zo
            simp only[Zg cK]at this
            exact this)
           refine⟨by simp[bK,aF,aM.1],⟨aM.2,trivial⟩, ?_⟩
           intro e D
           rcases Zr.1 D with rfl|D
           ·simp only[aM.1]
            have ado:(d8.map (·.1)).Perm IC.toList:=by
             have:=abY.map (·.1)
             rwa[List.map_fst_zip Zo]at this
            rw[dF]at ado
            obtain⟨jX,e7,hh⟩:=afK ado _ rfl
            refine⟨IC,dn,jX,ah,hh.symm, ?_, ?_⟩
            ·have:=e7.map (λB=>(B.1,B.2.1))
             rwa[ahi (d8:=d8) _ d8 a0]at this
            ·intro x af
             have qs:=e7.mem_iff.1 af
             have aZ:(x.1,x.2.1)∈fc:=by
              have:=List.mem_map_of_mem (f:=λB:z×z×Nat=>(B.1,B.2.1)) qs
              rwa[ahi (d8:=d8) _ d8 a0]at this
             exact dR _ aZ
           ·exact g3 e D
         ·simp at V
        ·simp at V
       ·simp at V
    ·simp at a
   ·simp at a
end
end
end Go.bn

namespace Go.bn
noncomputable section
open Go.RowKit (Below)
def ni:List (Nat×ai)->S ai->S ai
 |[],I=>I
 |(b,U)::k,I=>ni k (I.set b (some U))
section
variable{C:aK}{P:Program}{w:World}
def U4(b:Nat)(U:ai):∀(k:List (Nat×ai)) (I:S ai),(ni k I).get b=some U->(b,U)∈k\/I.get b=some U:=by
 intro k
 induction k with
 |nil=>intro I a;exact .inr a
 |cons x k ag=>
  obtain⟨dw,o'⟩:=x
  intro I a
  rcases ag _ a with a|a
  ·exact .inl (Zt _ a)
  ·rw[S.kw]at a
   by_cases B:dw=b
   ·subst B;simp at a;subst a;exact .inl (Zu ..)
   ·simp[B]at a;exact .inr a
def agT{nm:String}{g:Nat}{cs:Array Value}(bS:P.globalNamed nm=some g)(a:w.var? P nm=some cs):∃ty tU,w.heap[g]? =some (.cells cs ty tU):=by
 unfold World.var? at a
 rw[bS]at a
 simp only[ZQ]at a
 split at a
 ·rename_i c ty tU ah
  simp at a;subst a
  exact⟨ty,tU,ah⟩
 ·cases a
def VO(C:aK)(w:World)(pf n:Nat)(r:Nat×List (Nat×ai)):Prop:=
 n<=r.1/\(∀x∈r.2,(x.1<pf\/n<=x.1)/\(x.1<pf\/x.1<r.1)/\Fl x.2)/\
  ∃f:Nat->mq,∀J Y,(∀b,n<=b->b<r.1->J b=f b/\Y b)->(∀g,g<pf->J g=⟨g,0,0⟩/\Y g)->∀x∈r.2,jU C J Y x.2 (J x.1) w
end
end
end Go.bn

namespace Go.bn
noncomputable section
open Go.RowKit (Below)
def xy:List Nat->Bool
 |[]=>true
 |x::s=>Nat.blt x 256&&xy s
def yE:List Nat->Nat->Nat->Int
 |[],_,_=> .negSucc 0
 |x::s,c,i=>bI (Nat.beq x c) (.ofNat i) (yE s c (i+1))
def wY(bZ:Nat)(f:Nat)(args:List z):Option z:=
 bI (Nat.beq f bZ) (match args with
  |[.str s, .int .u8 (.ofNat c)]=>bI (xy s&&Nat.blt c 256) (some (.int .i64 (yE s c 0))) none
  |_=>none) none
section
variable{C:aK}{P:Program}{w:World}
def Qh:∀{s:List Nat},xy s=true->∀x∈s,x<256:=by
 intro s
 induction s with
 |nil=>intro _ x a;cases a
 |cons E s ag=>
  intro a x af
  simp only[xy,Zp]at a
  rcases Zr.1 af with rfl|af
  ·exact ks a.1
  ·exact ag a.2 x af
def at7:∀(s:List Nat) (c i:Nat),(∀x∈s,x<256)->c<256->yE s c i=(if Lib.indexByte (s.map UInt8.ofNat) (UInt8.ofNat c)= -1 then -1 else Lib.indexByte (s.map UInt8.ofNat) (UInt8.ofNat c)+i):=by
 intro s
 induction s with
 |nil=>intro c i _ _;simp[yE,Lib.indexByte]
 |cons E s ag=>
  intro c i aD ax
  have aB:=aD E (Zu ..)
  have aA:=ag c (i+1) (λx af=>aD x (Zt _ af)) ax
  simp only[yE,ZE,Lib.indexByte,hl]
  by_cases B:E=c
  ·subst B;simp
  ·have cK:(UInt8.ofNat E==UInt8.ofNat c)=false:=by
    rw[beq_eq_false_iff_ne]
    intro al
    have:=congrArg UInt8.toNat al
    simp at this
    rw[YI aB,YI ax]at this
    exact B this
   rw[Zg B,aA,cK]
   have A9:=Lib.indexByte_ge (s.map UInt8.ofNat) (UInt8.ofNat c)
   by_cases al:Lib.indexByte (s.map UInt8.ofNat) (UInt8.ofNat c)= -1
   ·simp[al]
   ·simp only[al,ZA]
    have:¬(Lib.indexByte (s.map UInt8.ofNat) (UInt8.ofNat c)+1= -1):=Zo
    simp[al,this]
    omega
def afv{bZ f:Nat}{args:List z}{v:z}(a:wY bZ f args=some v):f=bZ/\∃s c,args=[.str s, .int .u8 (.ofNat c)]/\v= .int .i64 (yE s c 0)/\(∀x∈s,x<256)/\c<256:=by
 unfold wY at a
 rw[hl]at a
 split at a
 ·rename_i B
  split at a
  ·rename_i s c
   simp only[d6,Zp,Zf]at a
   exact⟨B,s,c,rfl,a.2.symm,Qh a.1.1,ks a.1.2⟩
  ·simp at a
 ·simp at a
def awD{bZ:Nat}{fn:Func}(b8:P.funcs[bZ]? =some fn)(aM:(fn.name== "runtime.NumGoroutine")=false)(ah:fn.body=none)(H:Extern.findNext fn=none)(K:Extern.find fn=some Extern.BytealgIndexByte.indexByte)
 {f:Nat}{args:List z}{v:z}(a:wY bZ f args=some v)(J:c1)(w:World):(callFunc f (bK J args).toArray).run P w= .ok (.value (aF J v)) w:=by
 obtain⟨rfl,s,c,rfl,rfl,aD,ax⟩:=afv a
 have lY:=Lib.run_indexByteString (P:=P) (fp s) (Int.ofNat c) w
 have B:Lib.indexByte (fp s).data.toList (Int.ofNat c).toNat.toUInt8=yE s c 0:=by
  rw[at7 s c 0 aD ax]
  have:(fp s).data.toList=s.map UInt8.ofNat:=by simp[fp]
  rw[this]
  have A9:=Lib.indexByte_ge (s.map UInt8.ofNat) (UInt8.ofNat c)
  show Lib.indexByte (s.map UInt8.ofNat) (UInt8.ofNat c)=_
  split
  ·rename_i al;exact al
  ·simp
 rw[B]at lY
 have hJ:(bK J [.str s, .int .u8 (.ofNat c)]).toArray= #[.string (fp s), .int .u8 (Int.ofNat c)]:=rfl
 rw[hJ]
 have Gt:¬fn.name= "runtime.NumGoroutine":=by simpa using aM
 simp only[callFunc,Sem.run_bind]
 simp[b8,Gt,ah,H,K,aF]
 exact congrArg (λr=>Result.andThen r (λE bE=>Result.ok (Next.value E) bE)) lY
end
end
end Go.bn

namespace Go.bn
noncomputable section
open Go.RowKit (Below)
mutual
def qA:z->Bool
 | .bool _=>true
 | .int _ _=>true
 | .str s=>xy s
 | .cW=>true
 | .a2=>true
 | .mf=>true
 | .nilFunc=>true
 | .nilIface=>true
 | .iface _ v=>qA v
 | .agg k=>B0 k
 | .tuple k=>B0 k
 |_=>false
def B0:List z->Bool
 |[]=>true
 |v::k=>qA v&&B0 k
end
mutual
def OQ:∀v,qA v=true->b7 (λ_=>False) v
 | .bool _,_=>trivial
 | .int _ _,_=>trivial
 | .str s,a=>Qh (by simpa[qA]using a)
 | .cW,_=>trivial
 | .a2,_=>trivial
 | .mf,_=>trivial
 | .nilFunc,_=>trivial
 | .nilIface,_=>trivial
 | .iface _ v,a=>by
   have:=OQ v (by simpa[qA]using a)
   simpa[b7]using this
 | .agg k,a=>KO k (by simpa[qA]using a)
 | .tuple k,a=>KO k (by simpa[qA]using a)
 | .ptr _ _,a=>by simp[qA]at a
 | .slice ..,a=>by simp[qA]at a
 | .el ..,a=>by simp[qA]at a
 | .map _,a=>by simp[qA]at a
 | .func ..,a=>by simp[qA]at a
def KO:∀k,B0 k=true->d0 (λ_=>False) k
 |[],_=>trivial
 |v::k,a=>by
  simp only[B0,Zp]at a
  exact⟨OQ v a.1,KO k a.2⟩
end
def afL{v:z}(a:qA v=true):(∀J iE,aF J v=aF iE v)/\∀Y,b7 Y v:=
 ⟨λ_ _=>p4 (λ_ a=>a.elim) (OQ v a),λ_=>oZ (λ_ a=>a.elim) v (OQ v a)⟩
def UG{k:List z}(a:B0 k=true):(∀J iE,bK J k=bK iE k)/\∀Y,d0 Y k:=
 ⟨λ_ _=>xG (λ_ a=>a.elim) (KO k a),λ_=>qZ (λ_ a=>a.elim) k (KO k a)⟩
def afM{E b:z}(a:OO E b=true):E=b:=by
 unfold OO at a
 split at a
 ·simp only[al6,Y8]at a;rw[a]
 ·simp only[Zp,aew,yB,Zi]at a;rw[a.1,a.2]
 ·rw[(KF _ _).1 a]
 ·rfl
 ·rfl
 ·rfl
 ·cases a
def aw2:∀{E b:List z},Eo E b=true->E=b:=by
 intro E
 induction E with
 |nil=>intro b a;cases b<;>simp[Eo]at a;rfl
 |cons x E ag=>
  intro b a
  cases b with
  |nil=>simp[Eo]at a
  |cons e b=>
   simp only[Eo,Zp]at a
   rw[afM a.1,ag a.2]
def QT(x e:z):Bool:=match x,e with
 | .agg E, .agg b=>Eo E b
 |x,e=>OO x e
def am0{E b:z}(a:QT E b=true):E=b:=by
 unfold QT at a
 split at a
 ·rw[aw2 a]
 ·exact afM a
def FN:List z->List z->Bool
 |[],[]=>true
 |E::x,b::e=>QT E b&&FN x e
 |_,_=>false
def am1:∀{E b:List z},FN E b=true->E=b:=by
 intro E
 induction E with
 |nil=>intro b a;cases b<;>simp[FN]at a;rfl
 |cons x E ag=>
  intro b a
  cases b with
  |nil=>simp[FN]at a
  |cons e b=>
   simp only[FN,Zp]at a
   rw[am0 a.1,ag a.2]
def wN(f:Nat)(args:List z):List (Nat×List z×z)->Option z
 |[]=>none
 |(g,cg,v)::k=>bI (Nat.beq f g) (bI (FN args cg) (some v)<|wN f args k) (wN f args k)
def aeA{f:Nat}{args:List z}{v:z}:∀{k:List (Nat×List z×z)},wN f args k=some v->(f,args,v)∈k:=by
 intro k
 induction k with
 |nil=>intro a;simp[wN]at a
 |cons x k ag=>
  obtain⟨g,cg,ac⟩:=x
  intro a
  simp only[wN]at a
  rw[eR]at a
  split at a
  ·rename_i al
   rw[eR]at a
   split at a
   ·rename_i cG
    simp at a;subst a
    rw[Zj al,am1 cG]
    exact Zu ..
   ·exact Zt _ (ag a)
  ·exact Zt _ (ag a)
def qy(U:Nat->List z->Option z)(k:List (Nat×List z×z))(f:Nat)(args:List z):Option z:=
 match wN f args k with|some v=>some v|none=>U f args
def K6:List (Nat×List z×z)->Bool
 |[]=>true
 |x::k=>(B0 x.2.1&&qA x.2.2)&&K6 k
def agC:∀{k:List (Nat×List z×z)},K6 k=true->∀x∈k,B0 x.2.1=true/\qA x.2.2=true:=by
 intro k
 induction k with
 |nil=>intro _ x a;cases a
 |cons E k ag=>
  intro a x af
  simp only[K6,Zp]at a
  rcases Zr.1 af with rfl|af
  ·exact a.1
  ·exact ag a.2 x af
section
variable{P:Program}{w:World}
def anB{ag:hr}{C:aK}{f:Nat}{args:List z}{b:Bool}{cs:List gz}{h:S ai}{j:Nat}{v:z}(a:oa ag C f args b cs h j=some v):∃fn c,C.P.funcs[f]? =some fn/\fn.body=some c:=by
 unfold oa at a
 split at a
 ·rename_i fn b8
  split at a
  ·rename_i c ax;exact⟨fn,c,b8,ax⟩
  ·simp at a
 ·simp at a
def afx{G:S ai}{bf pf:Nat}{U:Nat->List z->Option z}{dD:c1}{dQ:Nat->Prop}{k:List (Nat×List z×z)}(cB:Env ⟨P,G,bf,U,pf⟩ w dD dQ)(bh:K6 k=true)
 (is:∀x∈k,∃m,yX ⟨P,G,bf,U,pf⟩ m x.1 x.2.1=some x.2.2):PY ⟨P,G,bf,qy U k,pf⟩ w:=by
 refine⟨λf args v aS=> ?_,λf args v aS J nr ah=> ?_⟩
 ·have aS:qy U k f args=some v:=aS
  unfold qy at aS
  split at aS
  ·rename_i ac aX
   simp at aS;subst aS
   obtain⟨H,K⟩:=agC bh _ (aeA aX)
   exact⟨afL K,UG H⟩
  ·exact cB.g7.val f args v aS
 ·have aS:qy U k f args=some v:=aS
  unfold qy at aS
  split at aS
  ·rename_i ac aX
   simp at aS;subst aS
   have aZ:=aeA aX
   obtain⟨H,K⟩:=agC bh _ aZ
   obtain⟨m,lY⟩:=is _ aZ
   obtain⟨fn,c,b8,ax⟩:=anB lY
   right
   have aM:fn.name≠ "runtime.NumGoroutine":=by simpa using cB.kk.num f fn b8 (by simp[ax])
   refine⟨?_, ?_⟩
   ·have qi:P.funcs[f]? =some fn:=b8
    simp[callFunc,qi,aM,ax]
   ·have aq0:=cB.later ah
    have:=ax4 aq0 (f:=f) (args:=args) ((UG H).2 dQ) lY
    rw[(UG H).1 J dD]
    exact this.mono λB bE ⟨⟨iE,a7⟩,jm⟩=>⟨by rw[a7,(afL K).1 iE J],jm⟩
  ·exact cB.g7.ok f args v aS J nr ah
end
end
end Go.bn

namespace Go.bn
noncomputable section
open Go.RowKit (Below)
def If:List (String×Nat)->String->Option Nat
 |[],_=>none
 |(E,ac)::k,s=>bI (E==s) (some ac) (If k s)
def Oh(P:Program)(nm:List (String×Nat))(t:Nat)(d:DataW Unit)(n:Nat):vH:=match P.underlying t,d with
 |some (.interface _), .iface s (.ptr lq)=>(match If nm s with
  |some ac=>(match P.underlying ac with
   |some (.pointer _)=>(match wO P 39 ac (.ptr lq) n with
    |some ([x],aL,os)=>some ([.iface ac x],aL,os)
    |_=>none)
   |_=>none)
  |none=>none)
 |_,_=>wO P 40 t d n
def gX(P:Program)(nm:List (String×Nat)):List (String×DataW Unit)->Nat->Nat×List (Nat×ai)
 |[],n=>(n,[])
 |(v,d)::r,n=>match P.globalNamed v with
  |some g=>(match P.globals[g]? with
   |some h5=>(match Oh P nm h5.type d n with
    |some (k,aL,os)=>bI (Nat.blt 0 k.length) (match gX P nm r aL with|(bc,sP)=>(bc,(g,Hp k)::(os++sP))) (gX P nm r n)
    |none=>gX P nm r n)
   |none=>gX P nm r n)
  |none=>gX P nm r n
def Ao(P:Program)(nm:List (String×Nat)):Prop:=∀x∈nm,∀ac,P.typeName? 3 ac=some x.1->ac=x.2
section
variable{C:aK}{P:Program}{w:World}
def alK{s:String}{ac:Nat}:∀{k:List (String×Nat)},If k s=some ac->(s,ac)∈k:=by
 intro k
 induction k with
 |nil=>intro a;simp[If]at a
 |cons x k ag=>
  obtain⟨E,b⟩:=x
  intro a
  simp only[If]at a
  rw[eR]at a
  split at a
  ·rename_i al
   simp at a al;subst a;subst al
   exact Zu ..
  ·exact Zt _ (ag a)
def auQ{nm:List (String×Nat)}(gf:Ao P nm){t:Nat}{d:DataW Unit}{n:Nat}{r:List z×Nat×List (Nat×ai)}(a:Oh P nm t d n=some r){al:Nat}{cs:List Value}{df:List MemPlace}(V:rd P w al t cs=some (d,df))(ce:rW w df)
 (fj:∀ac v,cs=[.iface ac v]->Value.okWide P w .any 0 ac v):Lays C w n cs r:=by
 unfold Oh at a
 split at a
 ·rename_i iz s lq aA
  split at a
  ·rename_i ac aX
   split at a
   ·rename_i B av
    split at a
    ·rename_i x aL os aw
     simp at a;subst a
     obtain⟨ef,rG,v,rfl,aM,H⟩:=iface_of_trod aA V
     obtain rfl:=gf _ (alK aX) rG aM
     obtain⟨ev,E,c3,l3,bo,_,_,_⟩:=ptr_of_trod av H
     have ok:=fj _ _ rfl
     have yz:v= .pointer (some E):=by
      unfold Value.okWide at ok
      simp only[av]at ok
      unfold Cell.okWide at ok
      cases v<;>simp[Value.cells,Cell.ok,av]at ok bo
      subst bo
      rfl
     have gj:=aeG (C:=C) (w:=w) 39 ef _ _ _ _ aw _ _ H ce
     obtain⟨bd,ca,f,a3⟩:=gj
     refine⟨bd,ca,f,λJ Y dB=> ?_⟩
     obtain⟨dF,dR,g3⟩:=a3 J Y dB
     refine⟨?_,⟨dR.1,trivial⟩,g3⟩
     subst yz
     have B:Value.pointer (some E)=aF J x:=by
      simp[Value.cells,bK]at dF
      exact dF
     simp only[bK,aF,B]
    ·simp at a
   ·simp at a
  ·simp at a
 ·exact aeG (C:=C) (w:=w) 40 al _ _ _ _ a cs df V ce
def aeF{nm:List (String×Nat)}(gf:Ao P nm){pf:Nat}:∀(laid:List (String×DataW Unit)) (n:Nat) (df:List MemPlace),P.globals.size=pf->DataW.LaidVars P w laid df->rW w df->
 (∀b off,MemPlace.cell b off∈df->∀ac v,w.cell? ⟨b,off,none⟩=some (.iface ac v)->Value.okWide P w .any 0 ac v)->VO C w pf n (gX P nm laid n):=by
 intro laid
 induction laid with
 |nil=>
  intro n df _ _ _ _
  exact⟨Zh _,by simp[gX],λ_=>default,λJ Y _ _=>by simp[gX]⟩
 |cons E r ag=>
  obtain⟨v0,d⟩:=E
  intro n df JD gj ce acB
  obtain⟨g,t,cs,fuel,p,al,bS,bh,bo,aI,V,rfl⟩:=gj
  have ad2:rW w al:=ce.of λe D=>Zx.2 (.inr D)
  have acC:∀b off,MemPlace.cell b off∈al->∀ac v,w.cell? ⟨b,off,none⟩=some (.iface ac v)->Value.okWide P w .any 0 ac v:=λb off ah=>acB b off (Zx.2 (.inr ah))
  have skip:gX P nm ((v0,d)::r) n=gX P nm r n->VO C w pf n (gX P nm ((v0,d)::r) n):=λB=>by rw[B];exact ag n al JD V ad2 acC
  simp only[Yl]at bh
  obtain⟨h5,Gj,rfl⟩:=bh
  have Sx:g<pf:=by rw[<-JD];exact(ZS.1 Gj).1
  have fj:∀ac v,cs.toList=[.iface ac v]->Value.okWide P w .any 0 ac v:=by
   intro ac v hJ
   obtain⟨ty,tU,ah⟩:=agT bS bo
   have dW:cs.size=1:=by have:=congrArg List.length hJ;simpa using this
   refine acB g 0 (Zx.2 (.inl (Zx.2 (.inl (O2 (E:=⟨g,0,none⟩) (o:=cs.size) Zo))))) ac v ?_
   have a8:cs[0]? =some (.iface ac v):=by rw[<-ZM,hJ];rfl
   simp[World.cell?,ah,a8]
  cases aw:Oh P nm h5.type d n with
  |none=>exact skip (by simp[gX,bS,Gj,aw])
  |some fc=>
   obtain⟨k,aL,os⟩:=fc
   by_cases u3:0<k.length
   ·have a7:gX P nm ((v0,d)::r) n=((gX P nm r aL).1,(g,Hp k)::(os++(gX P nm r aL).2)):=by
     have:Nat.blt 0 k.length=true:=by simp[Nat.blt];omega
     simp[gX,bS,Gj,aw,this]
    obtain⟨bd,ca,ef,a3⟩:=auQ (C:=C) (w:=w) gf aw (cs:=cs.toList) (df:=p) aI (ce.of λe D=>Zx.2 (.inl (Zx.2 (.inr D)))) fj
    obtain⟨ch,cD,ev,di⟩:=ag aL al JD V ad2 acC
    have bd:n<=aL:=bd
    rw[a7]
    refine⟨Zy bd ch, ?_,λb=>if b<aL then ef b else ev b, ?_⟩
    ·intro x af
     rcases Zr.1 af with rfl|af
     ·exact⟨.inl Sx, .inl Sx,Ux k⟩
     ·rcases Zx.1 af with al|al
      ·obtain⟨cP,cG,d4⟩:=ca x al
       exact⟨.inr cP, .inr (ZN cG ch),d4⟩
      ·obtain⟨cP,cG,d4⟩:=cD x al
       exact⟨cP.imp id (λa=>Zy bd a),cG,d4⟩
    ·intro J Y dB eN
     obtain⟨dF,dR,g3⟩:=a3 J Y (λb H K=>by
      have F4:b<aL:=K
      have:=dB b H (ZN K ch)
      simp only[Zq F4]at this
      exact this)
     have eV:=di J Y (λb H K=>by
      have q0:¬b<aL:=zx.2 H
      have:=dB b (Zy bd H) K
      simp only[Zg q0]at this
      exact this) eN
     intro x af
     rcases Zr.1 af with rfl|af
     ·obtain⟨atK,aA2⟩:=eN g Sx
      obtain⟨ty,tU,ah⟩:=agT bS bo
      have dW:cs.size=k.length:=by
       have:=congrArg List.length dF
       rw[jH]at this
       simpa using this
      obtain⟨gp,g8,jm⟩:=ce g 0 (Zx.2 (.inl (Zx.2 (.inl (O2 (E:=⟨g,0,none⟩) (o:=cs.size) Zo)))))
      rw[ah]at jm
      have asL:tU=(0,0):=by
       simp only[Zf,Obj.cells.injEq]at jm
       exact jm.2.2
      rw[asL]at ah
      simp only[atK]
      refine UX (pl:=⟨g,0,0⟩) ah ?_ dR u3
      simp only[Yg]
      rw[ZH (by simp;omega)]
      exact dF
     ·rcases Zx.1 af with al|al
      ·exact g3 x al
      ·exact eV x al
   ·exact skip (by
     have kA:k.length=0:=Zo
     have:Nat.blt 0 k.length=false:=by rw[kA];rfl
     simp[gX,bS,Gj,aw,this])
def TZ{nm:List (String×Nat)}(gf:Ao P nm){laid:List (String×DataW Unit)}{g7:Nat->List z->Option z}(a:laidMet P laid w):
 ∃J Y,cV ⟨P,ni (gX P nm laid P.globals.size).2 .nil,(gX P nm laid P.globals.size).1,g7,P.globals.size⟩ J Y .nil (gX P nm laid P.globals.size).1 w.heap.size w/\
  rX ⟨P,ni (gX P nm laid P.globals.size).2 .nil,(gX P nm laid P.globals.size).1,g7,P.globals.size⟩ J Y:=by
 obtain⟨df,gj,_,kA⟩:=a
 have ce:rW w df:=λb off ah=>(kA b off ah).1
 obtain⟨bd,ca,f,a3⟩:=aeF (C:=⟨P,ni (gX P nm laid P.globals.size).2 .nil,(gX P nm laid P.globals.size).1,g7,P.globals.size⟩) gf laid P.globals.size df rfl gj ce (λb off ah=>(kA b off ah).2)
 generalize aM:gX P nm laid P.globals.size=r at bd ca a3 ⊢
 obtain⟨bf,os⟩:=r
 simp only at bd ca a3 ⊢
 have SX:∀b U,Z ⟨P,ni os .nil,bf,g7,P.globals.size⟩ .nil b=some U->(b,U)∈os/\b<bf:=by
  intro b U aS
  unfold Z at aS
  rw[eR]at aS
  split at aS
  ·rename_i ah
   rcases U4 b U os .nil aS with al|al
   ·exact⟨al,ks ah⟩
   ·simp at al
  ·simp at aS
 refine⟨λb=>if b<P.globals.size then⟨b,0,0⟩else f b,λb=>b<bf,⟨Zh _,λ_ a=>a,λb U aS=>(SX b U aS).2, ?_, ?_, ?_, ?_⟩, ?_⟩
 ·intro b U aS _
  have:=a3 (λb=>if b<P.globals.size then⟨b,0,0⟩else f b) (λb=>b<bf) (λb H K=>⟨by rw[Zg Zo],K⟩) (λg bS=>⟨by rw[Zq bS],Zo⟩) (b,U) (SX b U aS).1
  exact this
 ·intro b dw U o' _ _ d _ _ ah
  exact absurd d (zx.2 ah)
 ·intro b U ah _ d
  exact absurd d (zx.2 ah)
 ·intro b U aS _
  exact(ca (b,U) (SX b U aS).1).2.2 _ _
 ·intro g bS
  have bS:g<P.globals.size:=bS
  exact⟨Zo,by simp[bS],by simp[bS]⟩
def Env.auH{nm:List (String×Nat)}(gf:Ao P nm){laid:List (String×DataW Unit)}{bZ:Nat}{fn:Func}(kk:xt P)(wC:HU P w)(b8:P.funcs[bZ]? =some fn)(aM:(fn.name== "runtime.NumGoroutine")=false)(ah:fn.body=none)(H:Extern.findNext fn=none)
 (K:Extern.find fn=some Extern.BytealgIndexByte.indexByte)(a:laidMet P laid w):
 ∃J Y,Env ⟨P,ni (gX P nm laid P.globals.size).2 .nil,(gX P nm laid P.globals.size).1,wY bZ,P.globals.size⟩ w J Y:=by
 obtain⟨J,Y,ak,ay⟩:=TZ (g7:=wY bZ) gf a
 refine⟨J,Y,kk,⟨λf args v aS=> ?_,λf args v aS J w _=> .inl (awD b8 aM ah H K aS J w)⟩,ak,ay,wC⟩
 obtain⟨rfl,s,c,rfl,rfl,aD,ax⟩:=afv aS
 exact⟨⟨λ_ _=>rfl,λ_=>trivial⟩,λ_ _=>rfl,λ_=>⟨aD,trivial,trivial⟩⟩
end
end
end Go.bn

namespace Go.bn
noncomputable section
open Go.RowKit (Below)
def wX(bZ:Nat)(U:Nat->List z->Option z)(f:Nat)(args:List z):Option z:=
 bI (Nat.beq f bZ) (match args with
  |[.str s]=>bI (xy s&&Nat.ble s.length 281474976710656) (some (.str s)) none
  |_=>none) (U f args)
section
variable{P:Program}{w:World}
def afu{bZ f:Nat}{U:Nat->List z->Option z}{args:List z}{v:z}(a:wX bZ U f args=some v):
 (f=bZ/\∃s,args=[.str s]/\v= .str s/\(∀x∈s,x<256)/\s.length<=281474976710656)\/U f args=some v:=by
 unfold wX at a
 rw[hl]at a
 split at a
 ·rename_i B
  split at a
  ·rename_i s
   simp only[d6,Zp,Zf]at a
   exact .inl ⟨B,s,rfl,a.2.symm,Qh a.1.1,iV a.1.2⟩
  ·simp at a
 ·exact .inr a
def Env.auG{nm:List (String×Nat)}(gf:Ao P nm){laid:List (String×DataW Unit)}{U:Nat->List z->Option z}{bZ:Nat}{fn:Func}{c:Code}(b8:P.funcs[bZ]? =some fn)(aM:(fn.name== "runtime.NumGoroutine")=false)(ah:fn.body=some c)
 (MS:∀(s:ByteArray) (w:World),s.size<=281474976710656->Calls P bZ #[.string s] w λB bE=>B= .returned (.string s)/\Below w.heap.size w bE)(a:laidMet P laid w){dD:c1}{dQ:Nat->Prop}
 (cB:Env ⟨P,ni (gX P nm laid P.globals.size).2 .nil,(gX P nm laid P.globals.size).1,U,P.globals.size⟩ w dD dQ):
 ∃J Y,Env ⟨P,ni (gX P nm laid P.globals.size).2 .nil,(gX P nm laid P.globals.size).1,wX bZ U,P.globals.size⟩ w J Y:=by
 obtain⟨J,Y,ak,ay⟩:=TZ (g7:=wX bZ U) gf a
 refine⟨J,Y,cB.kk,⟨λf args v aS=> ?_,λf args v aS J nr ls=> ?_⟩,ak,ay,cB.mem⟩
 ·rcases afu aS with ⟨rfl,s,rfl,rfl,aD,_⟩|aS
  ·exact⟨⟨λ_ _=>rfl,λ_=>aD⟩,λ_ _=>rfl,λ_=>⟨aD,trivial⟩⟩
  ·exact cB.g7.val f args v aS
 ·rcases afu aS with ⟨rfl,s,rfl,rfl,aD,aw⟩|aS
  ·right
   have Gt:¬fn.name= "runtime.NumGoroutine":=by simpa using aM
   refine⟨by simp[callFunc,b8,Gt,ah], ?_⟩
   have:=MS (fp s) nr (by simpa[fp,ByteArray.size]using aw)
   exact this
  ·exact cB.g7.ok f args v aS J nr ls
end
end
end Go.bn

namespace Go.bn
noncomputable section
open Go.RowKit (Below)
def agk(C:aK):List (Nat×ai)->S ai->S ai
 |[],I=>I
 |(b,U)::k,I=>agk C k (bp C I b (some U))
def pick(C:aK)(h:S ai):List Nat->List (Nat×ai)
 |[]=>[]
 |b::k=>match Z C h b with|some U=>(b,U)::pick C h k|none=>pick C h k
def aaE(C:aK):List Nat->Bool
 |[]=>true
 |b::k=>jI C b&&aaE C k
def aup(C:aK)(L:List Nat)(h:S ai):S ai:=agk C (pick C h L) .nil
def aw1(todo:List dJ):Bool:=match todo with| .drawn .. ::_=>false|_=>true
def afo:List gz->Bool
 |[]=>true
 |c::k=>(match c with|⟨_,_,_,_,todo,_,_,_,_⟩=>(match todo with| .y9 .. ::_=>false|_=>true))&&afo k
def abf(C:aK)(L:List Nat)(b:hr):hr:=λbN todo bZ I h j=>match bZ with
 |⟨fn,n,am,bg,aN,ro,cs⟩=>bI (aw1 todo&&afo cs&&aaE C L) (b bN todo ⟨fn,n,am,bg,aN,ro,cs⟩ I (aup C L h) j) none
section
variable{C:aK}{J dD:c1}{Y dQ:Nat->Prop}{h R:S ai}{j bj:Nat}{w:World}
variable{bl:World}{bD:Nat}{bO:List Frame}{v:z}{b:hr}
def n1(C:aK)(bl:World)(bD:Nat)(bO:List Frame)(bN:k1)(todo:List dJ)(bZ:ir)(I:S z)(h:S ai)(j:Nat)(v:z):Prop:=
 ∀J Y w cJ tmps bB aE,Cp C bl bD bO bN todo bZ.fn bZ.n bZ.am bZ.bg bZ.aN bZ.ro bZ.cs I h j J Y w cJ tmps bB aE->Ends C bl bD bO v (lone (cn J bZ.fn bZ.bg bZ.aN bZ.ro tmps bB (gB J bN)) aE w)
open Classical in
def only(yK:k1)(Vt:List dJ)(k4:ir)(qM:S z)(aU:S ai)(Ef:Nat)(v:z):hr:=λbN todo bZ I h j=>
 if bN=yK/\todo=Vt/\bZ=k4/\I=qM/\h=aU/\j=Ef then some v else none
end
end
end Go.bn

namespace Go.bn
noncomputable section
open Go.RowKit (Below)
def low(Y:Nat->Prop)(N:Nat)(b:Nat):Prop:=Y b/\b<N
section
variable{Y:Nat->Prop}{N:Nat}
end
end
end Go.bn

namespace Go.bn
noncomputable section
open Go.RowKit (Below)
section
variable{C:aK}{J dD:c1}{Y dQ:Nat->Prop}{h R:S ai}{j bj N:Nat}{w:World}
variable{bl:World}{bD g:Nat}{bO:List Frame}{v:z}{b:hr}
open Classical in
def fF(C:aK)(bl:World)(bD:Nat)(bO:List Frame)(v:z):hr:=λbN todo bZ I h j=>if n1 C bl bD bO bN todo bZ I h j v then some v else none
def XZ:nw C bl bD bO (fF C bl bD bO v):=by
 intro bN todo fn n am bg aN ro cs I h j ac aX J Y w cJ tmps bB aE cX
 unfold fF at aX
 split at aX
 ·rename_i a
  simp at aX;subst aX
  exact a J Y w cJ tmps bB aE cX
 ·cases aX
def ii{bN:k1}{todo:List dJ}{bZ:ir}{I:S z}(a:n1 C bl bD bO bN todo bZ I h j v):fF C bl bD bO v bN todo bZ I h j=some v:=by
 unfold fF
 rw[Zq a]
def aoz{d7:dJ}{o:List dJ}{bZ:ir}{I:S z}(aD:z.same 30 v v=true):∀k:List (z×S ai),k≠[]->(∀ac R,(ac,R)∈k->∃hg,od d7 ac=some hg/\n1 C bl bD bO .run (hg::o) bZ I R j v)->
 xT (fF C bl bD bO v) d7 o bZ I j k=some v:=by
 intro k
 induction k with
 |nil=>intro a;exact absurd rfl a
 |cons p k m5=>
  obtain⟨ac,R⟩:=p
  intro _ is
  obtain⟨hg,H,K⟩:=is ac R (Zu ..)
  cases k with
  |nil=>simp only[xT,H];exact ii K
  |cons al k=>
   have ag:=m5 Zs (λac R a=>is ac R (Zt _ a))
   simp only[xT,H,ii K]
   rw[ag]
   simp only[aD,eU]
end
end
end Go.bn

