/- Part of the proof of the last text; no conditions -/
import Derived.Test.YtmipngjbcdamjaaGreatDoorYa
import Derived.Laws.StructEq
import Derived.Laws.BytesString
import Derived.MapKept
import Derived.Laws.NewFold
import Derived.Laws.CopyRow
set_option maxHeartbeats 8000000
set_option linter.all false
namespace Go.Q
open Go.RowKit (Below)
section
variable{C:ax}{u:bC}{D:Nat->Prop}{S:F ac}{nx az:Nat}{w:World}
def yZ{a b:Nat}(c:a<256)(Y:b<256)(e:UInt8.ofNat a=UInt8.ofNat b):a=b:=by
 have:=congrArg UInt8.toNat e
 simp at this
 omega
def qf:∀(x c:List Nat),f2 x c=true↔x=c
 |[],[]=>by simp[f2]
 |[],_::_=>by simp[f2]
 |_::_,[]=>by simp[f2]
 |a::x,b::c=>by
  simp only[f2,Zq,qf x c,zj]
  exact⟨λ⟨e,j⟩=>⟨Zh e,j⟩,λ⟨e,j⟩=>⟨by rw[e];exact Y2 _,j⟩⟩
def H5:∀{x d:List Nat},(∀a∈x,a<256)->(∀a∈d,a<256)->x.map UInt8.ofNat=d.map UInt8.ofNat->x=d:=by
 intro x
 induction x with
 |nil=>intro d _ _ e;cases d with
  |nil=>rfl
  |cons b d=>simp at e
 |cons a x U=>
  intro d g i e
  cases d with
  |nil=>simp at e
  |cons b d=>
   simp only[ZS,zj]at e
   rw[yZ (g a Zs) (i b Zs) e.1,U (λc f=>g c (by simp[f])) (λc f=>i c (by simp[f])) e.2]
def q0(s:List Nat):(cF s).toList=s.map UInt8.ofNat:=by
 rw[ByteArray.toList_eq];simp[cF]
def vb{x b:List Nat}(c:∀a∈x,a<256)(d:∀a∈b,a<256):((cF x).toList==(cF b).toList)=f2 x b:=by
 rw[Z8,qf,Y3,q0,q0]
 exact⟨H5 c d,λe=>by rw[e]⟩
def AV:∀{x d:List Nat},(∀a∈x,a<256)->(∀a∈d,a<256)->Op.bytesLess (x.map UInt8.ofNat) (d.map UInt8.ofNat)=mA x d
 |[],[],_,_=>rfl
 |[],_::_,_,_=>rfl
 |_::_,[],_,_=>rfl
 |a::x,b::d,i,m=>by
  have g:=i a Zs
  have Y:=m b Zs
  have U:=AV (λc f=>i c (Zi _ f)) (λc f=>m c (Zi _ f))
  simp only[ZS,Op.bytesLess,mA,U]
  have n:decide (UInt8.ofNat a<UInt8.ofNat b)=Nat.blt a b:=by
   rw[Z8,Zc,UInt8.lt_iff_toNat_lt]
   simp[Nat.blt,YM g,YM Y];omega
  have p:(UInt8.ofNat a==UInt8.ofNat b)=Nat.beq a b:=by
   rw[Z8,Y3]
   exact⟨λe=>by rw[yZ g Y e];exact Y2 _,λe=>by rw[Zh e]⟩
  rw[n,p]
def sm(K:bA C u D S nx az w){b A:Nat}(Y:D b)(e:oQ C S b A=true):
 ∃c n st a2 ty aC ai,H C S b=some (.cells c n st)/\A<n/\w.heap[(u b).a8]? =some (.cells a2 ty (aC,ai))/\n8 st n (u b) a2.size aC ai/\(u b).b3+n<=a2.size/\st≠ .eA:=by
 unfold oQ at e
 split at e
 ·simp at e
 ·rename_i c n st a d
  obtain⟨a2,ty,aC,ai,f,g,i,_⟩:=K.obj b _ d Y
  exact⟨c,n,st,a2,ty,aC,ai,d,e0 (by simpa using e),f,g,i,λj=>(by subst j;first|exact a _ d|exact a _ rfl|exact a rfl|exact a d|simp_all)⟩
 ·simp at e
def y8{b A:Nat}(e:se C S b A=true):oQ C S b A=true/\C.aN<=b/\∃c n,H C S b=some (.cells c n .own):=by
 unfold se at e
 unfold oQ
 split at e
 ·rename_i c n a
  simp only[a,Zq]at e ⊢
  exact⟨e.2,ep e.1,c,n,rfl⟩
 ·simp at e
def uY{r:Nat}{a2:Array Value}{ty:TypeId}{f:Nat×Nat}(e:w.heap[r]? =some (.cells a2 ty f)):w.shape? r=some (ty,a2.size):=by
 simp[World.shape?,e]
def AD{P:Program}{p J:Nat}{x a:Nat}{aE aW:Array Value}{G O:TypeId}{s m c n:Nat}(r:p≠J)
 (b:w.heap[p]? =some (.cells aE G (s,m)))(d:w.heap[J]? =some (.cells aW O (c,n)))(X:m<=s)(T0:x<aE.size)(T1:a<aW.size)(Z:n<=c\/aW.size<=c):
 (sameAddr ⟨p,x,none⟩ ⟨J,a,none⟩).run P w= .ok false w/\(sameAddr ⟨J,a,none⟩ ⟨p,x,none⟩).run P w= .ok false w:=by
 have f:w.frozen? ⟨p,x,none⟩=false:=by simp[World.frozen?,b];omega
 have g:w.frozen? ⟨J,a,none⟩=false:=by simp[World.frozen?,d];omega
 have i:w.frozen? ⟨p,aE.size,none⟩=false:=by simp[World.frozen?,b];omega
 have t:=uY b
 have v:=uY d
 have S:aE.size≠0:=Zo
 have z:aW.size≠0:=Zo
 have C:J≠p:=λj=>r j.symm
 constructor
 ·simp[sameAddr,r,f,g,i,noView,viewAt,t,v,mayBeOne,stringish,z]
 ·simp[sameAddr,C,f,g,i,noView,viewAt,t,v,mayBeOne,stringish,S,z]
def Jm(K:bA C u D S nx az w){b A a o':Nat}{r:Bool}(Y:D b)(f:D a)(e:ptrEq C S b A a o'=some r):
 (sameAddr ⟨(u b).a8,(u b).b3+A,none⟩ ⟨(u a).a8,(u a).b3+o',none⟩).run C.P w= .ok r w:=by
 unfold ptrEq at e
 rw[d2]at e
 split at e
 ·rename_i j
  subst j
  simp at e;subst e
  simp only[sameAddr,Ym,ZP,Sem.run_pure]
  congr 1
  rw[Z8,Y3]
  constructor
  ·intro e;simp at e;rw[e];exact Y2 _
  ·intro e;rw[Zh e]
 ·rename_i T0
  simp only[ce,Yx,Zq,Zu]at e
  obtain⟨e,rfl⟩:=e
  rcases e with ⟨i,m⟩|⟨i,m⟩
  ·obtain⟨p,s,c,n,t⟩:=y8 i
   obtain⟨T1,aG,G,aE,T6,T3,T8,d,TY,O,X,bc,_⟩:=sm K Y p
   obtain⟨T2,aL,T5,aW,T7,T4,T9,g,TZ,P,Z,bl,z⟩:=sm K f m
   have x:G= .own:=by rw[t]at d;cases d;rfl
   subst x
   have v:(u b).a8≠(u a).a8:=by
    intro j
    rcases(K.sep b a _ _ d g Y f T0 s j).1 with ⟨_,_,_,_,J,_⟩|⟨_,_,_,_,_,J,_⟩|⟨_,_,_,_,_,_,J,_⟩<;>cases J
   exact(AD v O P (zf X.symm) Zo Zo (Z.free z)).1
  ·obtain⟨p,s,c,n,t⟩:=y8 i
   obtain⟨T1,aG,G,aE,T6,T3,T8,d,TY,O,X,bc,_⟩:=sm K f p
   obtain⟨T2,aL,T5,aW,T7,T4,T9,g,TZ,P,Z,bl,z⟩:=sm K Y m
   have x:G= .own:=by rw[t]at d;cases d;rfl
   subst x
   have v:(u a).a8≠(u b).a8:=by
    intro j
    rcases(K.sep a b _ _ d g f Y (λJ=>T0 J.symm) s j).1 with ⟨_,_,_,_,J,_⟩|⟨_,_,_,_,_,J,_⟩|⟨_,_,_,_,_,_,J,_⟩<;>cases J
   exact(AD v O P (zf X.symm) Zo Zo (Z.free z)).2
def DT{eq:Nat->q->q->Option Bool}{d:Nat}(m:∀t x i r,ba D x->ba D i->eq t x i=some r->(Op.equalIn d t (af u x) (af u i)).run C.P w= .ok r w):
 ∀(eJ:List Field) (c g:List q) (r:Bool),ca D c->ca D g->pd C eq eJ c g=some r->(Op.eqFields d (aR u c).toArray (aR u g).toArray eJ).run C.P w= .ok r w:=by
 intro eJ
 induction eJ with
 |nil=>intro c g r _ _ e;simp[pd]at e;subst e;simp[Op.eqFields]
 |cons f eJ U=>
  intro c g r p s e
  simp only[pd,ot,beq_eq_false_iff_ne]at e
  obtain⟨n,e⟩:=e
  split at e
  ·rename_i a b v Y
   obtain⟨aE,aW⟩:=pf (u:=u) (w:=w) p v
   obtain⟨b0,bb⟩:=pf (u:=u) (w:=w) s Y
   split at e
   ·rename_i j
    simp only[Op.eqFields,n,ne_eq,not_false_eq_true,ZP,Sem.run_bind,aE,b0,m _ _ _ _ aW bb j,Result.andThen_ok,Yn,ZR,ZM]
    exact U c g r p s e
   ·rename_i j
    simp at e;subst e
    simp only[Op.eqFields,n,ne_eq,not_false_eq_true,ZP,Sem.run_bind,aE,b0,m _ _ _ _ aW bb j,Result.andThen_ok,Yl,Sem.run_pure]
   ·simp at e
  ·simp at e
def s1(K:bA C u D S nx az w):∀(d f:Nat) (t:Nat) (x g:q) (r:Bool),d<=f->ba D x->ba D g->fG C S d t x g=some r->
 (Op.equalIn f t (af u x) (af u g)).run C.P w= .ok r w:=by
 intro d
 induction d with
 |zero=>intro f t x g r _ _ _ e;simp[fG]at e
 |succ d U=>
  intro f t x g r T2 m n e
  obtain⟨f,rfl⟩:∃j,f=j+1:=⟨f-1,Zo⟩
  unfold fG at e
  split at e
  ·rename_i c;simp at e;subst e;simp[Op.equalIn,run_underlying c,af]
  ·rename_i c;simp at e;obtain⟨rfl,rfl⟩:=e;simp[Op.equalIn,run_underlying c,af];rfl
  ·rename_i a b c
   simp at e;subst e
   rw[af,af,run_equalIn_string w f t _ _ c,vb m n]
  ·rename_i c;simp at e;subst e;simp[Op.equalIn,run_underlying c,af]
  ·rename_i c;simp at e;subst e;simp[Op.equalIn,run_underlying c,af]
  ·rename_i c;simp at e;subst e;simp[Op.equalIn,run_underlying c,af]
  ·rename_i j b A T1 o' c
   split at e
   ·rename_i s O
    rw[d2]at e
    split at e
    ·simp at e
    ·rename_i P
     have:=Jm K m n e
     simp[Op.equalIn,run_underlying c,af,f8 O,P,this]
   ·simp at e
  ·rename_i c;simp at e;subst e;simp[Op.equalIn,run_underlying c,af]
  ·rename_i c;simp at e;subst e;simp[Op.equalIn,run_underlying c,af]
  ·rename_i c;simp at e;subst e;simp[Op.equalIn,run_underlying c,af]
  ·rename_i X Z ty T0 c
   rw[d2]at e
   split at e
   ·rename_i j
    subst j
    split at e
    ·rename_i i ai
     simp only[ce]at e
     obtain⟨z,e⟩:=e
     have:=U f X Z T0 r Zo m n e
     simp[Op.equalIn,run_underlying c,af,typeInfo,ai,z,this]
    ·simp at e
   ·rename_i j
    simp at e;subst e
    simp[Op.equalIn,run_underlying c,af,j]
  all_goals first
   |(rename_i c;simp at e;subst e;simp[Op.equalIn,run_underlying c,af];done)
   |skip
  ·rename_i v T3 T4 c
   simp only[ot]at e
   obtain⟨G,e⟩:=e
   have p:C.P.fieldsOf t=v:=by simp[Program.fieldsOf,c]
   rw[af,af,run_equalIn_struct w f t _ _ (by rw[p];exact c) G,p]
   exact DT (λt x g r m n e=>U f t x g r Zo m n e) _ _ _ _ m n e
  ·simp at e
end
section
variable{C:ax}{u:bC}{D:Nat->Prop}{S:F ac}{nx az:Nat}{w:World}
def binOp_eql{t:TypeId}{X c:Value}(d:∀k a co b,¬(X= .int k a/\c= .int co b))(f:∀a b,¬(X= .string a/\c= .string b))
 (g:∀k a,X≠ .float k a)(i:∀k a b,X≠ .complex k a b):binOp .eql t X c=(do pure (.bool (<-Op.equal t X c)))/\binOp .neq t X c=(do pure (.bool (!(<-Op.equal t X c)))):=by
 constructor
 ·unfold binOp
  split
  all_goals first
   |rfl
   |exact absurd ⟨rfl,rfl⟩ (d _ _ _ _)
   |exact absurd ⟨rfl,rfl⟩ (f _ _)
   |exact absurd rfl (g _ _)
   |exact absurd rfl (i _ _ _)
   |simp_all
 ·unfold binOp
  split
  all_goals first
   |rfl
   |exact absurd ⟨rfl,rfl⟩ (d _ _ _ _)
   |exact absurd ⟨rfl,rfl⟩ (f _ _)
   |exact absurd rfl (g _ _)
   |exact absurd rfl (i _ _ _)
   |simp_all
def xi(u:bC)(v:q):(∀k a,af u v≠ .float k a)/\∀k a b,af u v≠ .complex k a b:=by
 cases v<;>simp[af]
def Fz{m:Nat}{t:TypeId}{a:Array (String×TypeId)}(c:C.P.underlying t=some (.interface a))(b:a.isEmpty=true):(Op.eqGuardIn (m+1) t .nilIface .nilIface).run C.P w= .ok false w:=by
 simp[Op.eqGuardIn,run_underlying c,b]
def FA{op:BinOp}{t:TypeId}{x b:Operand}{X a:Value}(e:(hJ x||hJ b)=true)(f:∀c d,¬(X= .agg c/\a= .agg d)):
 (eqGuard op t x b X a).run C.P w= .ok () w:=by
 cases op<;>first|rfl|(cases x<;>cases b<;>first|(simp[hJ]at e;done)|(cases X<;>cases a<;>first|rfl|exact absurd ⟨rfl,rfl⟩ (f _ _)))
def FB{op:BinOp}{t:TypeId}{x b:Operand}{a:Array (String×TypeId)}(f:C.P.underlying t=some (.interface a))(d:a.isEmpty=true):
 (eqGuard op t x b .nilIface .nilIface).run C.P w= .ok () w:=by
 have key:=Fz (C:=C) (w:=w) (m:=9999) f d
 have c:Op.maxDepth=9999+1:=rfl
 cases op<;>first|rfl|(cases x<;>cases b<;>first|rfl|(simp[eqGuard,c,key];done))
def FC{op:BinOp}{t:TypeId}{x b:Operand}(e:(hJ x||hJ b||(match C.P.underlying t with|some (.interface c)=>c.isEmpty|_=>false))=true):
 (eqGuard op t x b .nilIface .nilIface).run C.P w= .ok () w:=by
 by_cases a:(hJ x||hJ b)=true
 ·exact FA a Zs
 ·have a:(hJ x||hJ b)=false:=by simpa using a
  rw[a,Bool.false_or]at e
  split at e
  ·rename_i c d
   exact FB d e
  ·simp at e
def FD{op:BinOp}{t:TypeId}{x g:Operand}{X a:Value}(b:¬(X= .nilIface/\a= .nilIface))(f:∀c d,¬(X= .agg c/\a= .agg d)):
 (eqGuard op t x g X a).run C.P w= .ok () w:=by
 cases op<;>first|rfl|(cases X<;>cases a<;>first|rfl|exact absurd ⟨rfl,rfl⟩ b|exact absurd ⟨rfl,rfl⟩ (f _ _))
def rm{op:BinOp}{t:TypeId}{x i:Operand}{a b:q}(e:oz C t (hJ x||hJ i) a b=true):
 (eqGuard op t x i (af u a) (af u b)).run C.P w= .ok () w:=by
 unfold oz at e
 split at e
 ·exact FC e
 ·simp only[af]
  exact run_eqGuard_agg w op t x i _ _ (by simpa using e)
 ·rename_i aG aL
  refine FD ?_ ?_
  ·rintro⟨f,g⟩
   cases a<;>simp[af]at f
   cases b<;>simp[af]at g
   exact aG rfl rfl
  ·rintro c d ⟨f,g⟩
   cases a<;>simp[af]at f
   cases b<;>simp[af]at g
   exact aL _ _ rfl rfl
def D6{op:BinOp}{x b:List Nat}{v:q}(c:∀a∈x,a<256)(d:∀a∈b,a<256)(e:m4 op x b=some v):
 (Op.stringOp op (cF x) (cF b)).run C.P w= .ok (af u v) w/\ba D v:=by
 have f:=vb c d
 have g:Op.bytesLess (cF x).toList (cF b).toList=mA x b:=by rw[q0,q0];exact AV c d
 cases op<;>simp only[m4,jW,ce,Zu]at e<;>
  first
  |(
    obtain⟨i,rfl⟩:=e
    constructor
    ·have m:(cF x).size=x.length:=by simp[cF,ByteArray.size]
     have n:(cF b).size=b.length:=by simp[cF,ByteArray.size]
     have r:=ep i
     simp only[Op.stringOp,m,n]
     rw[Zj (by simp[IntKind.max,IntKind.signed,IntKind.bits];omega)]
     simp only[Sem.run_pure,af]
     congr 2
     apply ByteArray.ext
     simp[cF]
    ·simp only[ba]
     intro z p
     rcases Zr.1 p with e|e
     ·exact c z e
     ·exact d z e)
  |(subst e;exact⟨by simp only[Op.stringOp,f,g,Sem.run_pure,af],trivial⟩)
  |(simp at e)
def Hj(K:bA C u D S nx az w){op:BinOp}{t:Nat}{x f:Operand}{ad:Operand->Value}{P:Operand->Option q}{v:q}(O:ee u D ad P [x,f])
 (e:rP C op t x f S P=some v):(do eqGuard op t x f (ad x) (ad f);binOp op t (ad x) (ad f):Sem Value).run C.P w= .ok (af u v) w/\ba D v:=by
 unfold rP at e
 split at e
 ·rename_i a b T0 Y
  obtain⟨X,n⟩:=O x Zs a T0
  obtain⟨Z,p⟩:=O f Zs b Y
  rw[X,Z]
  unfold bZ at e
  split at e
  ·rename_i k i co E
   obtain⟨c,d,_⟩:=wR (C:=C) (u:=u) (D:=D) (w:=w) t e
   refine⟨?_,d⟩
   rw[Sem.run_bind,rm (by simp[oz])]
   exact c
  ·rename_i s T7
   obtain⟨c,d⟩:=D6 (C:=C) (u:=u) (D:=D) (w:=w) n p e
   refine⟨?_,d⟩
   rw[Sem.run_bind,rm (by simp[oz])]
   simp only[Result.andThen_ok,af,binOp]
   exact c
  ·rename_i T4 c6
   simp only[ce]at e
   obtain⟨T3,e⟩:=e
   have G:∀r,fG C S 50 t a b=some r->(Op.equal t (af u a) (af u b)).run C.P w= .ok r w:=λr g=>s1 K 50 _ t a b r Zd n p g
   have T1:∀k z co m,¬(af u a= .int k z/\af u b= .int co m):=by
    intro k z co m ⟨c,d⟩
    cases a<;>simp[af]at c
    cases b<;>simp[af]at d
    exact T4 _ _ _ _ rfl rfl
   have T2:∀z m,¬(af u a= .string z/\af u b= .string m):=by
    intro z m ⟨c,d⟩
    cases a<;>simp[af]at c
    cases b<;>simp[af]at d
    exact c6 _ _ rfl rfl
   obtain⟨T5,T6⟩:=binOp_eql (t:=t) T1 T2 (xi u a).1 (xi u a).2
   rw[Sem.run_bind,rm T3]
   split at e
   ·split at e
    ·rename_i r g
     simp at e;subst e
     exact⟨by simp[T5,G r g,af],trivial⟩
    ·simp at e
   ·split at e
    ·rename_i r g
     simp at e;subst e
     exact⟨by simp[T6,G r g,af],trivial⟩
    ·simp at e
   ·simp at e
 ·simp at e
end
section
variable{C:ax}{u:bC}{D:Nat->Prop}{S:F ac}{nx az:Nat}{w:World}
def DS{s d:Nat}{x v:q}(c:ba D x)(e:s0 C s d x=some v):(convert s d (af u x)).run C.P w= .ok (af u v) w/\ba D v:=by
 unfold s0 at e
 split at e
 ·rename_i f k g n b a
  simp at e;subst e
  simp[convert,run_underlying b,run_underlying a,Conv.intToInt,af,ba]
 ·rename_i f s b a
  simp at e;subst e
  refine⟨?_,c⟩
  simp[convert,run_underlying b,run_underlying a,af]
 ·simp at e
def ED:∀{h:List q}{s:List Nat},m8 h=some s->∃c6:List Nat,h=c6.map (λn=>q.int .u8 (Int.ofNat n))/\s=c6.map (·%256):=by
 intro h
 induction h with
 |nil=>intro s e;simp[m8]at e;subst e;exact⟨[],rfl,rfl⟩
 |cons a h U=>
  intro s e
  unfold m8 at e
  split at e
  ·rename_i f;simp at f
  ·rename_i n g b
   simp only[zj]at b
   obtain⟨rfl,rfl⟩:=b
   split at e
   ·rename_i r K
    simp at e;subst e
    obtain⟨c6,c,d⟩:=U K
    exact⟨n::c6,by simp[c],by simp[d]⟩
   ·simp at e
  ·simp at e
def F9(c6:List Nat):∀r:ByteArray,(c6.map Int.ofNat).foldl (λr (n:Int)=>r.push (UInt8.ofNat n.toNat)) r=⟨r.data++(c6.map UInt8.ofNat).toArray⟩:=by
 induction c6 with
 |nil=>intro r;simp
 |cons n c6 U=>
  intro r
  simp only[ZS,ZU,U]
  congr 1
  apply YC
  simp[ByteArray.push]
def l8(K:bA C u D S nx az w){b A n:Nat}{h:List q}(Y:D b)(e:fW C S b A n=some h):
 (loadCells ⟨(u b).a8,(u b).b3+A,none⟩ n).run C.P w= .ok (aR u h).toArray w/\ca D h:=by
 unfold fW at e
 split at e
 ·rename_i c d;exact q4 K Y d e
 ·simp only[ce,Zu]at e
  obtain⟨a,rfl⟩:=e
  have:n=0:=Zh a
  subst this
  refine⟨?_,trivial⟩
  have ap:=run_loadCells_list (P:=C.P) w ⟨(u b).a8,(u b).b3+A,none⟩ [] (λE v f=>by simp at f)
  simpa[aR]using ap
def A3(K:bA C u D S nx az w){b A n cap:Nat}{h:List q}{s:List Nat}(Y:D b)(e:fW C S b A n=some h)(f:m8 h=some s):
 (Conv.bytesToString (.slice (some ⟨(u b).a8,(u b).b3+A,none⟩) n cap)).run C.P w= .ok (af u (.str s)) w/\ba D (.str s):=by
 obtain⟨c,_⟩:=l8 K Y e
 obtain⟨c6,rfl,rfl⟩:=ED f
 have d:=run_bytesToString (P:=C.P) w ⟨(u b).a8,(u b).b3+A,none⟩ n cap (c6.map Int.ofNat) (by
  rw[c];congr 2
  rw[hh,YH,YH];rfl)
 constructor
 ·rw[d,F9]
  congr 2
  simp only[cF,YH]
  congr 1
  apply YC
  simp
  intro a _
  exact UInt8.toNat_inj.1 Zs
 ·simp only[ba]
  intro x g
  obtain⟨i,_,rfl⟩:=ZB.1 g
  exact zt _ Zd
def D7(K:bA C u D S nx az w){x v:q}(g:ba D x)(e:qU C S x=some v):(Conv.bytesToString (af u x)).run C.P w= .ok (af u v) w/\ba D v/\∃a h c,af u x= .slice a h c:=by
 unfold qU at e
 split at e
 ·simp at e;subst e;exact⟨rfl,by simp[ba],_,_,_,rfl⟩
 ·split at e
  ·rename_i h ap
   split at e
   ·rename_i s f
    simp at e;subst e
    obtain⟨b,d⟩:=A3 K g ap f
    exact⟨b,d,_,_,_,rfl⟩
   ·simp at e
  ·simp at e
 ·split at e
  ·rename_i h ap
   split at e
   ·rename_i s f
    simp at e;subst e
    obtain⟨b,d⟩:=A3 K g ap f
    exact⟨b,d,_,_,_,rfl⟩
   ·simp at e
  ·simp at e
 ·simp at e
def Hk(K:bA C u D S nx az w){s d:Nat}{x:Operand}{ad:Operand->Value}{f:Operand->Option q}{v:q}(P:ee u D ad f [x])
 (e:pY C s d x S f=some v):(convert s d (ad x)).run C.P w= .ok (af u v) w/\ba D v:=by
 unfold pY at e
 split at e
 ·rename_i a r
  obtain⟨j,g⟩:=P x Zs a r
  rw[j]
  split at e
  ·rename_i L z
   simp at e;subst e
   exact DS g z
  ·split at e
   ·rename_i m O G
    split at e
    ·rename_i t
     obtain⟨b,n,i,h,c,p⟩:=D7 K g e
     refine⟨?_,n⟩
     rw[p]at b ⊢
     rw[run_convert_bytes_string w s d m i h c O t G]
     exact b
    ·simp at e
   ·simp at e
 ·simp at e
def nv{A:Option q}{m d r:Nat}(e:hn A m d=some r):(A=none/\r=d)\/∃k,A=some (.int k (Int.ofNat r))/\r<=m:=by
 unfold hn at e
 split at e
 ·rename_i v
  split at e
  ·rename_i n b
   simp only[ce,Zu]at e
   obtain⟨a,rfl⟩:=e
   obtain⟨k,rfl⟩:=nD b
   exact .inr ⟨k,rfl,ep a⟩
  ·simp at e
 ·simp at e;exact .inl ⟨rfl,e.symm⟩
def run_sliceBound{P:Program}{k:IntKind}{n a:Nat}{code:BoundsCode}(e:n<=a):(Instr.sliceBound (.int k (Int.ofNat n)) a code).run P w= .ok n w:=by
 have b:(0:Int)<=Int.ofNat n/\Int.ofNat n<=(a:Int):=⟨Int.natCast_nonneg n,Int.ofNat_le.2 e⟩
 simp only[Instr.sliceBound,asIntOf,Sem.run_bind,Sem.run_pure,Result.andThen_ok]
 rw[Zv b]
 rfl
def po{oI:Bool}{len cap i:Nat}{aC ai c:Option q}{h e m:Nat}(d:cap<=i)(Y:gT len cap aC ai c=some (h,e,m)):
 (Instr.sliceBounds oI len i (aC.map (af u)) (ai.map (af u)) (c.map (af u))).run C.P w= .ok (h,e,if c.isSome then m else i) w/\h<=e/\(c=none->m=cap)/\m<=cap/\(e<=m\/e=len):=by
 unfold gT at Y
 split at Y
 ·simp at Y
 ·rename_i s v
  split at Y
  ·simp at Y
  ·rename_i n p
   split at Y
   ·simp at Y
   ·rename_i G ap
    simp at Y
    obtain⟨rfl,rfl,rfl⟩:=Y
    have t:G<=n:=by
     rcases nv ap with ⟨_,rfl⟩|⟨k,_,a⟩
     ·exact zc _
     ·exact a
    cases c with
    |none=>
     have x:s=cap:=by simpa[hn]using v.symm
     subst x
     have f:hn ai s len=some n:=by cases ai<;>exact p
     refine⟨?_,t,λ_=>rfl,Zp _,(nv f).elim (λe=> .inr e.2) (λ⟨_,_,e⟩=> .inl e)⟩
     rcases nv f with ⟨rfl,rfl⟩|⟨k,rfl,a⟩<;>rcases nv ap with ⟨rfl,rfl⟩|⟨bl,rfl,g⟩
     ·simp[Instr.sliceBounds]
     ·simp only[Instr.sliceBounds,YD,ZJ,af,Sem.run_bind,Sem.run_pure,Result.andThen_ok,run_sliceBound g,Z4,ZR,ZM]
     ·simp only[Instr.sliceBounds,YD,ZJ,af,Sem.run_bind,Sem.run_pure,Result.andThen_ok,run_sliceBound (ZD a d),Z4,ZR,ZM]
     ·simp only[Instr.sliceBounds,YD,ZJ,af,Sem.run_bind,Sem.run_pure,Result.andThen_ok,run_sliceBound (ZD a d),run_sliceBound g,Z4,ZR,ZM]
    |some O=>
     rcases nv v with ⟨b,_⟩|⟨k,b,a⟩
     ·cases b
     ·cases b
      cases ai with
      |none=>simp at p
      |some z=>
       have f:hn (some z) s len=some n:=p
       rcases nv f with ⟨b,_⟩|⟨co,b,r⟩
       ·cases b
       ·cases b
        refine⟨?_,t,(λe=>by cases e),a, .inl r⟩
        rcases nv ap with ⟨rfl,rfl⟩|⟨bl,rfl,g⟩
        ·simp only[Instr.sliceBounds,YD,ZJ,af,Sem.run_bind,Sem.run_pure,Result.andThen_ok,run_sliceBound (ZD a d),run_sliceBound r,Ya,ZP]
        ·simp only[Instr.sliceBounds,ZJ,af,Sem.run_bind,Sem.run_pure,Result.andThen_ok,run_sliceBound (ZD a d),run_sliceBound r,run_sliceBound g,Ya,ZP]
end
section
variable{C:ax}{u:bC}{D:Nat->Prop}{S:F ac}{nx az:Nat}{w:World}
def ER(m h A an:Nat):aQ (Nat.beq m h) A (A+h*an)=if m=h then A else A+h*an:=d2 _ _ _ _
def AN(K:bA C u D S nx az w){b n:Nat}(Y:D b)(e:jH C S b=some n):n<=(u b).room:=by
 unfold jH at e
 split at e
 ·rename_i c m ch d
  simp at e;subst e
  obtain⟨a2,ty,aC,ai,_,a,_,_⟩:=K.obj b _ d Y
  exact a.2.1
 ·rename_i c m d
  simp at e;subst e
  obtain⟨a2,ty,aC,ai,_,a,_,_⟩:=K.obj b _ d Y
  exact a.2.1
 ·simp at e
def u6{b A h e m an:Nat}:Value.slice (some (if m=h then(⟨(u b).a8,(u b).b3+A,none⟩:Addr)else(⟨(u b).a8,(u b).b3+A,none⟩:Addr).add (h*an))) (e-h) (m-h)
 =af u (.slice b (aQ (Nat.beq m h) A (A+h*an)) (e-h) (m-h)):=by
 rw[ER]
 simp only[af,h2]
 split
 ·rfl
 ·rw[Z1]
def D5(K:bA C u D S nx az w){t:Nat}{x v:q}{aC ai f:Option q}(i:ba D x)(e:qT C S t x aC ai f=some v):
 (Instr.sliceAt t (af u x) (aC.map (af u)) (ai.map (af u)) (f.map (af u))).run C.P w= .ok (af u v) w/\ba D v:=by
 unfold qT at e
 split at e
 ·rename_i s d
  cases f with
  |some _=>simp at e
  |none=>
   simp only at e
   split at e
   ·rename_i h g m Y
    simp at e;subst e
    obtain⟨a,O,_⟩:=po (C:=C) (u:=u) (w:=w) (oI:=false) (Zp _) Y
    have c:(cF s).size=s.length:=by simp[cF,ByteArray.size]
    constructor
    ·simp only[YD,Z4,ZR,ZM]at a
     simp[Instr.sliceAt,run_underlying d,Instr.slice,af,c,a]
     apply ByteArray.ext
     rw[ByteArray.data_extract]
     apply YC
     simp[cF,List.map_take,List.map_drop,List.take_drop]
    ·simp only[ba]at i ⊢
     intro z T4
     exact i z (List.mem_of_mem_drop (YS T4))
   ·simp at e
 ·rename_i bW b A len cap d
  split at e
  ·rename_i h g m an Y c
   simp at e;subst e
   obtain⟨a,O,p,_⟩:=po (C:=C) (u:=u) (w:=w) (oI:=true) (Zp cap) Y
   have G:(if f.isSome=true then m else cap)=m:=by cases f with
    |none=>simp[p rfl]
    |some _=>rfl
   rw[G]at a
   refine⟨?_,i⟩
   have:=u6 (u:=u) (b:=b) (A:=A) (h:=h) (e:=g) (m:=m) (an:=an)
   simp only[Instr.sliceAt,Sem.run_bind,run_underlying d,Result.andThen_ok,Instr.slice,af,a,f8 c,Sem.run_pure]
   rw[<-af, <-this]
   split<;>rfl
  ·simp at e
 ·rename_i bW d
  split at e
  ·rename_i r an Y c
   obtain⟨h,g,m⟩:=r
   simp at e;subst e
   obtain⟨a,O,p,T6,T7⟩:=po (C:=C) (u:=u) (w:=w) (oI:=true) (Zp 0) Y
   have G:m=0:=Zo
   have T2:g=0:=Zo
   have ap:h=0:=Zo
   subst G;subst T2;subst ap
   refine⟨?_,trivial⟩
   have T0:(Instr.sliceBounds true 0 0 (aC.map (af u)) (ai.map (af u)) (f.map (af u))).run C.P w= .ok (0,0,0) w:=by rw[a];split<;>rfl
   simp[Instr.sliceAt,run_underlying d,Instr.slice,af,T0,f8 c]
  ·simp at e
 ·rename_i bW b A len an d
  split at e
  ·rename_i T5 n c T3
   simp only[ce,Zq]at e
   obtain⟨⟨P,X⟩,e⟩:=e
   have P:an=T5:=Zh P
   subst P
   have X:0<an:=e0 X
   have T8:=AN K i T3
   have T1:(n-A)/an<=((u b).room-A)/an:=Nat.div_le_div_right Zo
   split at e
   ·rename_i h g m Y
    obtain⟨a,O,p,_⟩:=po (C:=C) (u:=u) (w:=w) (oI:=true) T1 Y
    cases f with
    |some T9=>
     simp at e;subst e
     refine⟨?_,i⟩
     have:=u6 (u:=u) (b:=b) (A:=A) (h:=h) (e:=g) (m:=m) (an:=an)
     simp only[Ya,ZP]at a
     simp only[Instr.sliceAt,Sem.run_bind,run_underlying d,Result.andThen_ok,Instr.slice,af,a,f8 c,Sem.run_pure]
     rw[<-af, <-this]
     split<;>rfl
    |none=>
     simp only[ce,Zu,Yx]at e
     obtain⟨ap,rfl⟩:=e
     refine⟨?_,i⟩
     simp only[Z4,ZR,ZM]at a
     simp only[Instr.sliceAt,Sem.run_bind,run_underlying d,Result.andThen_ok,Instr.slice,af,a,f8 c,Sem.run_pure]
     have Z:((u b).room-(A+h*an))/an=((u b).room-A)/an-h:=by
      rw[<-Nat.sub_sub,Nat.mul_comm h an,Nat.sub_mul_div]
     rw[Z]
     congr 1
     congr 1
     rcases ap with ap|ap
     ·have ap:=e0 ap
      rw[Zj Zo,ZJ,h2,Z1]
     ·have ap:h=0:=Zh ap
      subst ap
      split<;>simp[h2]
   ·simp at e
  ·simp at e
 ·rename_i n bW b A d
  split at e
  ·rename_i h g m an Y c
   simp at e;subst e
   obtain⟨a,O,p,_⟩:=po (C:=C) (u:=u) (w:=w) (oI:=false) (Zp n) Y
   have G:(if f.isSome=true then m else n)=m:=by cases f with
    |none=>simp[p rfl]
    |some _=>rfl
   rw[G]at a
   refine⟨?_,i⟩
   have:=u6 (u:=u) (b:=b) (A:=A) (h:=h) (e:=g) (m:=m) (an:=an)
   simp only[Instr.sliceAt,Sem.run_bind,run_underlying d,Result.andThen_ok,Instr.sureAddr,af,a,f8 c,Sem.run_pure]
   rw[<-af, <-this]
  ·simp at e
 ·simp at e
end
section
variable{C:ax}{u:bC}{D:Nat->Prop}{S:F ac}{nx az:Nat}{w:World}
def J4{α:Type}{P:Program}(f:α->PUnit->Sem (ForInStep PUnit)):∀(h:List α),(∀a∈h,(f a ⟨⟩).run P w= .ok (.yield ⟨⟩) w)->(forIn h PUnit.unit f).run P w= .ok ⟨⟩ w:=by
 intro h
 induction h with
 |nil=>intro _;simp[Sem.run_pure]
 |cons a h U=>intro e;simp[List.forIn_cons,e a Zs,U λb Y=>e b (by simp[Y])]
def qQ{j:Bool}:∀(n m t:Nat) (v:q),n<=m->ba D v->fV C n t v=true->(Instr.checkKey j m t (af u v)).run C.P w= .ok () w:=by
 intro n
 induction n with
 |zero=>intro m t v _ _ e;simp[fV]at e
 |succ n U=>
  intro m t v X g e
  obtain⟨m,rfl⟩:∃k,m=k+1:=⟨m-1,Zo⟩
  unfold fV at e
  split at e
  ·rename_i Z d x a
   split at e
   ·rename_i i ai
    simp only[Zq]at e
    have:=U m d x Zo g e.2
    simp[Instr.checkKey,run_underlying a,af,typeInfo,ai,e.1,this]
   ·simp at e
  ·rename_i a;simp[Instr.checkKey,run_underlying a,af]
  ·simp at e
  ·rename_i S cs a
   simp only[Instr.checkKey,Sem.run_bind,run_underlying a,Result.andThen_ok,af]
   rw[<-Array.forIn_toList]
   refine(congrArg (λr=>Result.andThen r _) (J4 _ _ ?_)).trans rfl
   intro f s
   have:=Yy.1 e f s
   simp only[Yx,Y3]at this
   by_cases c:f.name= "_"
   ·simp[c]
   ·rcases this with b|b
    ·exact absurd b c
    ·split at b
     ·rename_i p z
      obtain⟨O,P⟩:=pf (u:=u) (w:=w) g z
      simp[c,O,U m f.type p Zo P b]
     ·simp at b
  ·simp at e
  ·simp at e
  ·rename_i d aG aL G a T0 T1 T2
   simp only[Instr.checkKey,Sem.run_bind,run_underlying a,Result.andThen_ok]
   cases d<;>first
    |exact(aG _ rfl).elim
    |exact(aL _ rfl).elim
    |exact(G _ _ rfl).elim
    |rfl
  ·simp at e
def xj{x:q}{k:IntKind}{a:Int}(e:af u x= .int k a):x= .int k a:=by
 cases x<;>simp[af]at e
 obtain⟨rfl,rfl⟩:=e;rfl
def xh{x:q}{a:Bool}(e:af u x= .bool a):x= .bool a:=by
 cases x<;>simp[af]at e
 subst e;rfl
def xk{x:q}{a:ByteArray}(e:af u x= .string a):∃s,x= .str s/\a=cF s:=by
 cases x<;>simp[af]at e
 exact⟨_,rfl,e.symm⟩
def xa(a b:ByteArray):(a==b)=(a.toList==b.toList):=by
 show(a.data==b.data)=_
 rw[Z8,Y3,Y3,ByteArray.toList_eq,ByteArray.toList_eq]
 exact⟨λe=>by rw[e],λe=>Array.toList_inj.1 e⟩
def AE{d t:Nat}{n:TypeDesc}{x m:q}{r p:Bool}(i:C.P.underlying t=some n)(v:ba D x)(w:ba D m)
 (e:fG C S d t x m=some r)(c:Instr.sameNow n (af u x) (af u m)=some p):r=p:=by
 cases d with
 |zero=>simp[fG]at e
 |succ d=>
  unfold Instr.sameNow at c
  split at c
  ·rename_i z k a co b f g
   rw[xj f,xj g]at e
   simp[fG,i]at e
   split at c
   ·simp at c;rw[<-c, <-e.2];rfl
   ·simp at c
  ·rename_i a b f g
   obtain⟨s,rfl,rfl⟩:=xk f
   obtain⟨G,rfl,rfl⟩:=xk g
   simp[fG,i]at e
   simp at c
   rw[<-c, <-e,xa,vb v w]
  ·rename_i a b f g
   rw[xh f,xh g]at e
   simp[fG,i]at e
   simp at c;rw[<-c, <-e]
  ·simp at c
def hE(u:bC)(r:Option (Nat×q)):Option (Nat×Value):=r.map λx=>(x.1,af u x.2)
def F1{t:Nat}{p:TypeDesc}{k:q}(n:C.P.underlying t=some p)(m:ba D k):∀(ak:List (q×q×Nat)) (i:Nat) (r:Option (Nat×q)) (d:Option (Nat×Value)),
 (∀j∈ak,ba D j.1/\ba D j.2.1)->findKey C S t k ak i=some r->Instr.findNow p (af u k) (ak.map (cG u)) i=some d->d=hE u r:=by
 intro ak
 induction ak with
 |nil=>intro i r d _ e a;simp[findKey]at e;simp[Instr.findNow]at a;subst e;subst a;rfl
 |cons j ak U=>
  intro i r d f e a
  obtain⟨co,v,b⟩:=j
  simp only[findKey]at e
  simp only[ZS,Instr.findNow,cG]at a
  split at e
  ·rename_i c
   simp at e;subst e
   split at a
   ·simp at a;rw[<-a];rfl
   ·rename_i g
    have:=AE n m (f (co,v,b) (Zl ..)).1 c g
    simp at this
   ·simp at a
  ·rename_i c
   split at a
   ·rename_i g
    have:=AE n m (f (co,v,b) (Zl ..)).1 c g
    simp at this
   ·exact U _ _ _ (λj c=>f j (by simp[c])) e a
   ·simp at a
  ·simp at e
def FZ(K:bA C u D S nx az w){t:Nat}{k:q}(d:ba D k):∀(ak:List (q×q×Nat)) (i:Nat) (r:Option (Nat×q)),
 (∀j∈ak,ba D j.1/\ba D j.2.1)->findKey C S t k ak i=some r->(Instr.findAsking t (af u k) (ak.map (cG u)) i).run C.P w= .ok (hE u r) w:=by
 intro ak
 induction ak with
 |nil=>intro i r _ e;simp[findKey]at e;subst e;simp[Instr.findAsking,hE]
 |cons j ak U=>
  intro i r c e
  obtain⟨co,v,b⟩:=j
  simp only[findKey]at e
  have f:20<=Op.maxDepth:=by decide
  split at e
  ·rename_i a
   simp at e;subst e
   have:=s1 K 20 _ t k co true f d (c (co,v,b) (Zl ..)).1 a
   simp[Instr.findAsking,Op.equal,cG,this,hE]
  ·rename_i a
   have:=s1 K 20 _ t k co false f d (c (co,v,b) (Zl ..)).1 a
   simp[Instr.findAsking,Op.equal,cG,this]
   exact U _ _ (λj a=>c j (by simp[a])) e
  ·simp at e
def nk(K:bA C u D S nx az w){t:Nat}{f:TypeDesc}{k:q}{ak:List (q×q×Nat)}{r:Option (Nat×q)}(c:C.P.underlying t=some f)(a:ba D k)
 (b:∀j∈ak,ba D j.1/\ba D j.2.1)(e:findKey C S t k ak 0=some r):(Instr.findKey t (af u k) (ak.map (cG u))).run C.P w= .ok (hE u r) w:=by
 simp only[Instr.findKey,Sem.run_bind,run_underlying c,Result.andThen_ok]
 split
 ·rename_i g d
  rw[F1 c a ak 0 r g b e d];rfl
 ·exact FZ K a ak 0 r b e
def rt{t:Nat}{k:q}:∀(ak:List (q×q×Nat)) (i E:Nat) (v:q),findKey C S t k ak i=some (some (E,v))->i<=E/\∃j,ak[E-i]? =some j/\j.2.1=v:=by
 intro ak
 induction ak with
 |nil=>intro i E v e;simp[findKey]at e
 |cons j ak U=>
  intro i E v e
  obtain⟨co,d,b⟩:=j
  simp only[findKey]at e
  split at e
  ·simp at e
   obtain⟨rfl,rfl⟩:=e
   exact⟨Zp _,(co,d,b),Zs,rfl⟩
  ·obtain⟨f,j,a,c⟩:=U _ _ _ e
   refine⟨Zo,j, ?_,c⟩
   rw[show E-i=(E-(i+1))+1 by omega]
   simpa using a
  ·simp at e
def rN{t d:Nat}{k:q}(e:fV C d t k=true):∃a,C.P.underlying t=some a:=by
 cases d with
 |zero=>simp[fV]at e
 |succ d=>
  cases b:C.P.underlying t with
  |none=>simp[fV,b]at e
  |some a=>exact⟨a,rfl⟩
def iA(K:bA C u D S nx az w){r:Nat}{ak:List (q×q×Nat)}{a:Nat}(f:D r)(e:H C S r=some (.map ak a)):
 ∃a2,(getObj (u r).a8).run C.P w= .ok (.map a2 a) w/\w.heap[(u r).a8]? =some (.map a2 a)/\a2.toList=ak.map (cG u)/\∀j∈ak,ba D j.1/\ba D j.2.1:=by
 obtain⟨a2,b,c,d⟩:=K.obj r _ e f
 exact⟨a2,MapKept.run_getObj_map b,b,c,d⟩
def yC{t:Nat}{k:q}{a b:List (q×q)}(e:a.Perm b):∀r,hL C S t k a=some r->hL C S t k b=some r:=by
 induction e with
 |nil=>exact λ_ e=>e
 |cons x _ U=>
  obtain⟨co,v⟩:=x
  intro r e
  simp only[hL]at e ⊢
  split at e
  ·rename_i K c
   rw[U _ K,c];simpa using e
  ·rename_i K c
   rw[U _ K,c];simpa using e
  ·cases e
 |swap x z h=>
  obtain⟨s,G⟩:=x
  obtain⟨w,O⟩:=z
  intro r e
  simp only[hL]at e ⊢
  cases ap:hL C S t k h with
  |none=>simp[ap]at e
  |some f=>
   simp only[ap]at e
   cases d:fG C S 20 t k s with
   |none=>rw[d]at e;cases f<;>simp at e
   |some g=>
    cases i:fG C S 20 t k w with
    |none=>
     rw[d,i]at e
     cases g<;>cases f<;>simp at e
    |some m=>
     rw[d,i]at e
     cases g<;>cases m<;>cases f<;>simp at e ⊢ <;>exact e
 |trans _ _ n p=>exact λr e=>p r (n r e)
def yB{t:Nat}{k:q}:∀(ak:List (q×q×Nat)) (i:Nat) (r:Option q),hL C S t k (ak.map λj=>(j.1,j.2.1))=some r->∃c,findKey C S t k ak i=some c/\c.map (·.2)=r:=by
 intro ak
 induction ak with
 |nil=>intro i r e;simp[hL]at e;subst e;exact⟨none,rfl,rfl⟩
 |cons j ak U=>
  obtain⟨co,d,b⟩:=j
  intro i r e
  simp only[ZS,hL]at e
  simp only[findKey]
  split at e
  ·rename_i f K a
   simp at e;subst e
   rw[a]
   exact U (i+1) _ K
  ·rename_i K a
   simp at e;subst e
   rw[a]
   exact⟨some (i,d),rfl,rfl⟩
  ·cases e
def D0(K:bA C u D S nx az w){t:Nat}{m k v:q}{ok:Bool}(x:ba D m)(T1:ba D k)(e:qS C S t m k ok=some v):
 (Instr.lookup t (af u m) (af u k) ok).run C.P w= .ok (af u v) w/\ba D v:=by
 unfold qS at e
 split at e
 ·rename_i i T0 s
  have key:∀(ak:List (q×q×Nat)) (a2:Array MapEntry) (r:Option (Nat×q)),a2.toList=ak.map (cG u)->(∀j∈ak,ba D j.1/\ba D j.2.1)->fV C 20 i k=true->findKey C S i k ak 0=some r->
   (match r with|none=>(match hW C T0 with|some z=>some (aQ ok (.tuple [z, .bool false]) z)|none=>none)|some (_,v)=>some (aQ ok (.tuple [v, .bool true]) v))=some v->
   (do
    Instr.checkKey a2.isEmpty 10000 i (af u k)
    let(v,A)<-match<-Instr.findKey i (af u k) a2.toList with
     |some (_,v)=>pure (v,true)
     |none=>pure (<-zeroValue T0,false)
    pure (if ok then .tuple #[v, .bool A]else v):Sem Value).run C.P w= .ok (af u v) w/\ba D v:=by
   intro ak a2 r TY T3 T5 T2 g
   obtain⟨U2,U0⟩:=rN T5
   have b:=qQ (C:=C) (u:=u) (D:=D) (w:=w) (j:=a2.isEmpty) 20 10000 i k Zd T1 T5
   have c:=nk K U0 T1 T3 T2
   rw[TY]
   cases r with
   |none=>
    simp only at g
    split at g
    ·rename_i z U1
     obtain⟨T8,T9⟩:=lx U1 u D w
     simp at g;subst g
     cases ok
     ·exact⟨by simp[b,c,hE,T8],T9⟩
     ·exact⟨by simp[b,c,hE,T8,af,aR],⟨T9,trivial,trivial⟩⟩
    ·simp at g
   |some p=>
    obtain⟨E,L⟩:=p
    simp at g;subst g
    obtain⟨_,j,TZ,rfl⟩:=rt ak 0 E L T2
    have T4:=(T3 j (Zg TZ)).2
    cases ok
    ·exact⟨by simp[b,c,hE],T4⟩
    ·exact⟨by simp[b,c,hE,af,aR],⟨T4,trivial,trivial⟩⟩
  split at e
  ·simp at e
  ·rename_i a
   split at a
   ·simp only[ce,Zu]at a
    have:=key [] #[] none rfl Zs a.1 (by simp[findKey]) e
    refine⟨?_,this.2⟩
    rw[<-this.1]
    simp only[Instr.lookup,Sem.run_bind,run_underlying s,Result.andThen_ok,af,Sem.run_pure]
    rfl
   ·rename_i r
    split at a
    ·rename_i ak G f
     simp only[ce]at a
     obtain⟨a2,b,_,c,d⟩:=iA K x f
     have:=key ak a2 none c d a.1 a.2 e
     refine⟨?_,this.2⟩
     rw[<-this.1]
     simp only[Instr.lookup,Sem.run_bind,run_underlying s,Result.andThen_ok,af,Sem.run_pure,b]
     rfl
    ·rename_i ak f
     simp only[ce]at a
     obtain⟨a2,G,er,b,c,P,d⟩:=K.obj r _ f x
     have X:hL C S i k ak=some none:=by
      have:=a.2
      unfold rX at this
      split at this<;>simp at this
      all_goals(rename_i J;first|(rw[J,this.2])|exact J|(rw[J];simp[this]))
     obtain⟨Z,O,n⟩:=yB er 0 _ (yC P.symm _ X)
     cases Z with
     |none=>
      have:=key er a2 none c d a.1 O e
      refine⟨?_,this.2⟩
      rw[<-this.1]
      simp only[Instr.lookup,Sem.run_bind,run_underlying s,Result.andThen_ok,af,Sem.run_pure,MapKept.run_getObj_map b]
      rfl
     |some p=>
      obtain⟨T6,T7⟩:=p
      simp at n
    ·simp at a
   ·simp at a
  ·rename_i E L a
   split at a
   ·simp only[ce]at a
    simp at a
   ·rename_i r
    split at a
    ·rename_i ak G f
     simp only[ce]at a
     obtain⟨a2,b,_,c,d⟩:=iA K x f
     have:=key ak a2 (some (E,L)) c d a.1 a.2 e
     refine⟨?_,this.2⟩
     rw[<-this.1]
     simp only[Instr.lookup,Sem.run_bind,run_underlying s,Result.andThen_ok,af,Sem.run_pure,b]
     rfl
    ·rename_i ak f
     simp only[ce]at a
     obtain⟨a2,G,er,b,c,P,d⟩:=K.obj r _ f x
     have X:hL C S i k ak=some (some L):=by
      have:=a.2
      unfold rX at this
      split at this<;>simp at this
      all_goals(rename_i J;first|(rw[J,this.2])|exact J|(rw[J];simp[this]))
     obtain⟨Z,O,n⟩:=yB er 0 _ (yC P.symm _ X)
     cases Z with
     |none=>
      simp at n
     |some p=>
      obtain⟨T6,T7⟩:=p
      simp at n
      subst n
      have:=key er a2 (some (T6,T7)) c d a.1 O e
      refine⟨?_,this.2⟩
      rw[<-this.1]
      simp only[Instr.lookup,Sem.run_bind,run_underlying s,Result.andThen_ok,af,Sem.run_pure,MapKept.run_getObj_map b]
      rfl
    ·simp at a
   ·simp at a
 ·simp at e
end
section
variable{C:ax}{u:bC}{D:Nat->Prop}{S:F ac}{nx az:Nat}{w:World}
def Hm{t f:Nat}{x:Operand}{ad:Operand->Value}{a:Operand->Option q}{v:q}(s:ee u D ad a [x])
 (e:p0 C t x f S a=some v):(Instr.field t (ad x) f).run C.P w= .ok (af u v) w/\ba D v:=by
 unfold p0 at e
 split at e
 ·rename_i c cs p r
  obtain⟨j,g⟩:=s x Zs _ r
  rw[j]
  rw[ic]at e
  split at e
  ·rename_i b m
   have n:c[f]? =some b:=by rw[<-m];simp
   obtain⟨d,i⟩:=pf (u:=u) (w:=w) g e
   refine⟨?_,i⟩
   simp[Instr.field,run_underlying p,n,asAgg,af,d]
  ·simp at e
 ·simp at e
def Hn{t:Nat}{x:Operand}{ad:Operand->Value}{a:Operand->Option q}{v:q}(i:ee u D ad a [x])
 (e:p1 C t x S a=some v):(Instr.makeInterface t (ad x)).run C.P w= .ok (af u v) w/\ba D v:=by
 unfold p1 at e
 split at e
 ·simp at e
 ·rename_i d L b c f
  obtain⟨j,g⟩:=i x Zs _ f
  simp at e;subst e
  refine⟨?_,g⟩
  rw[j]
  cases d<;>first|exact(b _ rfl).elim|simp[Instr.makeInterface,run_underlying c,af]
 ·simp at e
def Hi{x:Operand}{t p:Nat}{ok:Bool}{ad:Operand->Value}{s:Operand->Option q}{v:q}(r:ee u D ad s [x])
 (e:pX C x p ok S s=some v):(Instr.typeAssert (ad x) t p ok).run C.P w= .ok (af u v) w/\ba D v:=by
 unfold pX at e
 split at e
 ·simp at e
 ·rename_i d a b f
  obtain⟨j,g⟩:=r x Zs _ f
  rw[j]
  simp only[ce]at e
  obtain⟨rfl,e⟩:=e
  split at e
  ·rename_i z i
   simp at e;subst e
   obtain⟨m,n⟩:=lx i u D w
   refine⟨?_,n,trivial,trivial⟩
   cases d<;>first|exact(a _ rfl).elim|simp[Instr.typeAssert,run_underlying b,af,aR,m]
  ·simp at e
 ·rename_i d G L a b f
  obtain⟨j,g⟩:=r x Zs _ f
  rw[j]
  rw[d2]at e
  split at e
  ·rename_i c
   subst c
   simp at e
   cases ok
   ·simp at e;subst e
    refine⟨?_,g⟩
    cases d<;>first|exact(a _ rfl).elim|simp[Instr.typeAssert,run_underlying b,af]
   ·simp at e;subst e
    refine⟨?_,g,trivial,trivial⟩
    cases d<;>first|exact(a _ rfl).elim|simp[Instr.typeAssert,run_underlying b,af,aR]
  ·rename_i c
   simp only[ce]at e
   obtain⟨rfl,e⟩:=e
   split at e
   ·rename_i z i
    simp at e;subst e
    obtain⟨m,n⟩:=lx i u D w
    refine⟨?_,n,trivial,trivial⟩
    cases d<;>first|exact(a _ rfl).elim|simp[Instr.typeAssert,run_underlying b,af,aR,m,c]
   ·simp at e
 ·simp at e
def uj:∀(h:List Nat),p2 h=h.getLast?:=by
 intro h
 induction h with
 |nil=>rfl
 |cons a h U=>
  cases h with
  |nil=>rfl
  |cons b h=>simp only[p2,List.getLast?_cons_cons];exact U
def xP(b:Nat):∀(ak:List (q×q×Nat)),(ak.map (cG u)).find? (·.born==b)=(mf b ak).map (cG u):=by
 intro ak
 induction ak with
 |nil=>rfl
 |cons j ak U=>
  simp only[ZS,mf,List.find?_cons,cG,d2]
  by_cases e:j.2.2=b
  ·simp[e,cG]
  ·have:(j.2.2==b)=false:=by simpa using e
   rw[this];simp only[e,ZM];exact U
def xQ(b:Nat):∀(ak:List (q×q×Nat)) j,mf b ak=some j->j∈ak:=by
 intro ak
 induction ak with
 |nil=>intro j e;simp[mf]at e
 |cons a ak U=>
  intro j e
  simp only[mf,d2]at e
  split at e
  ·simp at e;subst e;simp
  ·exact Zi _ (U j e)
def Hl(K:bA C u D S nx az w){i:Operand}{ad:Operand->Value}{T3:Operand->Option q}{v:q}(T7:ee u D ad T3 [i])
 (e:pZ C i S T3=some v):(Instr.entry (ad i)).run C.P w= .ok (af u v) w/\ba D v:=by
 unfold pZ at e
 split at e
 ·rename_i r T6
  obtain⟨j,g⟩:=T7 i Zs _ T6
  rw[j]
  split at e
  ·rename_i m T1 seen T2 O
   split at e
   ·rename_i a ak d f G
    simp only[ce]at e
    obtain⟨c,e⟩:=e
    have c:d=T2:=Zh c
    subst c
    split at e
    ·rename_i k L b Y
     simp at e;subst e
     obtain⟨P,t,T4⟩:=K.obj r _ O g
     obtain⟨a2,X,_,Z,T0⟩:=iA K (T4 m rfl) G
     have z:a2.find? (λj=>j.born==a)=some (cG u (k,L,b)):=by
      have:=xP (u:=u) a ak
      rw[<-Z,Y]at this
      rw[<-Array.find?_toList];exact this
     have x:seen.toArray.back?=some a:=by rw[<-f,uj];simp
     have H:(getObj (u r).a8).run C.P w= .ok (.mapIter (some (u m).a8) T1 seen.toArray d) w:=by simp[getObj,Sem.run,t]
     obtain⟨p,s⟩:=T0 _ (xQ a ak _ Y)
     refine⟨?_,p,s,trivial⟩
     simp[Instr.entry,af,P,H,x,X,z,cG,aR]
    ·simp at e
   ·simp at e
  ·rename_i m T1 n bL T2 T8 O
   split at e
   ·rename_i a ak d G
    simp only[ce]at e
    obtain⟨c,e⟩:=e
    have c:d=T2:=Zh c
    subst c
    split at e
    ·rename_i k L b Y
     simp at e;subst e
     obtain⟨P,T5,seen,t,_,f⟩:=K.obj r _ O g
     have f:=f a rfl
     obtain⟨a2,X,_,Z,T0⟩:=iA K T5 G
     have z:a2.find? (λj=>j.born==a)=some (cG u (k,L,b)):=by
      have:=xP (u:=u) a ak
      rw[<-Z,Y]at this
      rw[<-Array.find?_toList];exact this
     have x:seen.toArray.back?=some a:=by rw[<-f,uj];simp
     have H:(getObj (u r).a8).run C.P w= .ok (.mapIter (some (u m).a8) T1 seen.toArray d) w:=by simp[getObj,Sem.run,t]
     obtain⟨p,s⟩:=T0 _ (xQ a ak _ Y)
     refine⟨?_,p,s,trivial⟩
     simp[Instr.entry,af,P,H,x,X,z,cG,aR]
    ·simp at e
   ·simp at e
  ·simp at e
 ·simp at e
def DY(K:bA C u D S nx az w){t:Nat}{bu:Array TypeId}{ty:TypeId}{x v:q}{rest:List TypeId}(i:bu.toList=t::rest)(d:ba D x)(e:qR C S t x=some v):
 (Builtin.len_ bu ty #[af u x]).run C.P w= .ok (af u v) w/\ba D v:=by
 have b:bu[0]? =some t:=by rw[<-ZK,i];rfl
 unfold qR at e
 split at e<;>(try simp only[ye]at e)
 ·rename_i s a
  simp at e;subst e
  refine⟨?_,trivial⟩
  have p:(cF s).size=s.length:=by simp[cF,ByteArray.size]
  simp[Builtin.len_,b,run_underlying a,af,goInt,p]
 ·rename_i n c a
  simp at e;subst e
  refine⟨?_,trivial⟩
  simp[Builtin.len_,b,run_underlying a,goInt]
  simp[af]
 ·rename_i a2 a
  split at e
  ·rename_i n c z
   simp at e;subst e
   refine⟨?_,trivial⟩
   simp[Builtin.len_,b,run_underlying a,run_underlying z,goInt]
   simp[af]
  ·simp at e
 ·rename_i a
  simp at e;subst e
  refine⟨?_,trivial⟩
  simp[Builtin.len_,b,run_underlying a,af,goInt]
 ·rename_i a
  simp at e;subst e
  refine⟨?_,trivial⟩
  simp[Builtin.len_,b,run_underlying a,af,goInt]
 ·rename_i a
  simp at e;subst e
  refine⟨?_,trivial⟩
  simp[Builtin.len_,b,run_underlying a,af,goInt]
 ·rename_i a
  simp at e;subst e
  refine⟨?_,trivial⟩
  simp[Builtin.len_,b,run_underlying a,af,goInt]
 ·rename_i r a
  split at e
  ·rename_i ak G m
   simp at e;subst e
   obtain⟨a2,f,O,g,P⟩:=iA K d m
   refine⟨?_,trivial⟩
   have:a2.size=ak.length:=by rw[<-Array.length_toList,g,Zn]
   simp[Builtin.len_,b,run_underlying a,af,goInt,f,this]
  ·simp at e
 ·simp at e
def DR{t:Nat}{bu:Array TypeId}{ty:TypeId}{x v:q}{rest:List TypeId}(c:bu.toList=t::rest)(e:qK C t x=some v):
 (Builtin.cap_ bu ty #[af u x]).run C.P w= .ok (af u v) w/\ba D v:=by
 have b:bu[0]? =some t:=by rw[<-ZK,c];rfl
 unfold qK at e
 split at e<;>(try simp only[ye]at e)
 ·rename_i a
  simp at e;subst e
  refine⟨?_,trivial⟩
  simp[Builtin.cap_,b,run_underlying a,af,goInt]
 ·rename_i a
  simp at e;subst e
  refine⟨?_,trivial⟩
  simp[Builtin.cap_,b,run_underlying a,af,goInt]
 ·simp at e
def D2:∀(h:List q) (x v:q),hC true x h=some v->((aR u h).foldlM Builtin.max2 (af u x)).run C.P w= .ok (af u v) w/\(ba D x->ba D v):=by
 intro h
 induction h with
 |nil=>intro x v e;cases x<;>simp[hC]at e<;>subst e<;>simp[aR]
 |cons m h U=>
  intro x v e
  unfold hC at e
  split at e
  ·rename_i f;simp at f
  ·rename_i k a co b i d
   simp only[zj]at d
   obtain⟨rfl,rfl⟩:=d
   obtain⟨c,g⟩:=U _ _ e
   refine⟨?_,λ_=>g trivial⟩
   simp only[aR,List.foldlM_cons,Sem.run_bind,af,Builtin.max2,Sem.run_pure,Result.andThen_ok]
   simp only[cO,jr,cK,Zc,af]at c
   exact c
  ·simp at e
def D3:∀(h:List q) (x v:q),hC false x h=some v->((aR u h).foldlM Builtin.min2 (af u x)).run C.P w= .ok (af u v) w/\(ba D x->ba D v):=by
 intro h
 induction h with
 |nil=>intro x v e;cases x<;>simp[hC]at e<;>subst e<;>simp[aR]
 |cons m h U=>
  intro x v e
  unfold hC at e
  split at e
  ·rename_i f;simp at f
  ·rename_i k a co b i d
   simp only[zj]at d
   obtain⟨rfl,rfl⟩:=d
   obtain⟨c,g⟩:=U _ _ e
   refine⟨?_,λ_=>g trivial⟩
   simp only[aR,List.foldlM_cons,Sem.run_bind,af,Builtin.min2,Sem.run_pure,Result.andThen_ok]
   simp only[fz,jr,cK,Zc,af]at c
   exact c
  ·simp at e
end
section
variable{C:ax}{u:bC}{D:Nat->Prop}{S:F ac}{nx az:Nat}{w:World}
def ee.mono{ad:Operand->Value}{b:Operand->Option q}{h a:List Operand}(e:ee u D ad b h)(c:∀x∈a,x∈h):ee u D ad b a:=λx f v d=>e x (c x f) v d
def tE{ad:Operand->Value}{a:Operand->Option q}{A:Option Operand}{r:Option q}(c:ee u D ad a A.toList)(e:mD a A=some r):A.map ad=r.map (af u):=by
 cases A with
 |none=>simp[mD]at e;subst e;rfl
 |some x=>
  simp only[mD]at e
  split at e
  ·rename_i v b
   simp at e;subst e
   simp[(c x Zs v b).1]
  ·simp at e
def DZ(K:bA C u D S nx az w){oper:Oper}{ad:Operand->Value}{O:Operand->Option q}{v:q}(g:ee u D ad O oper.op.operands.toList)
 (e:gx oper.op C S O=some v):qD u D C.P w (execOp ad oper) v:=by
 obtain⟨dst,op,type,pos,after,guard⟩:=oper
 cases op<;>simp only[gx]at e<;>(try(cases e;done))<;>simp only[execOp]<;>simp only[Op.operands]at g
 case build t parts=>
  refine gf ?_
  unfold ua at e
  split at e
  ·rename_i bE T1
   obtain⟨n,r⟩:=xH (by simpa using g) T1
   have:=DQ (u:=u) (w:=w) r e
   rw[<-n]at this
   have j:(parts.map λx=>(x.1,ad x.2))=(parts.toList.map λx=>(x.1,ad x.2)).toArray:=by apply YC;simp
   rw[j];exact this
  ·simp at e
 case binOp op t x T7 T8=>exact gf (Hj K (by simpa using g) e)
 case unOp op t x=>
  refine gf ?_
  unfold uh at e
  split at e
  ·rename_i a z
   rw[(g x Zs a z).1]
   exact D8 e
  ·simp at e
 case convert s d x=>exact gf (Hk K (by simpa using g) e)
 case makeInterface t x=>exact gf (Hn (by simpa using g) e)
 case makeFunc fn first T3=>
  refine gf ?_
  unfold ud at e
  split at e
  ·rename_i a b z Y
   split at e
   ·simp at e;subst e
    obtain⟨aE,aW⟩:=iu (g.mono (by simp;intro x p;exact .inl p)) z
    obtain⟨b0,bb⟩:=iu (g.mono (by simp;intro x p;exact .inr p)) Y
    refine⟨?_,trivial,aW,bb⟩
    simp[Instr.makeFunc,aE,b0,af,f7]
   ·simp at e
  ·simp at e
 case slice t x aC ai T6=>
  refine gf ?_
  unfold ug at e
  split at e
  ·rename_i a h T4 m z ap Z T0
   have n:=g x Zs a z
   have r:=tE (g.mono (by simp;intro x p;exact .inr (.inl p))) ap
   have P:=tE (g.mono (by simp;intro x p;exact .inr (.inr (.inl p)))) Z
   have X:=tE (g.mono (by simp;intro x p;exact .inr (.inr (.inr p)))) T0
   rw[n.1,r,P,X]
   exact D5 K n.2 e
  ·simp at e
 case field t x f=>exact gf (Hm (by simpa using g) e)
 case index t x i=>
  refine gf ?_
  unfold ue at e
  split at e
  ·rename_i a b z Y
   have n:=g x Zs a z
   rw[n.1,(g i Zs b Y).1]
   exact DW n.2 e
  ·simp at e
 case lookup t m k ok=>
  refine gf ?_
  unfold uf at e
  split at e
  ·rename_i a b z Y
   have n:=g m Zs a z
   have r:=g k Zs b Y
   rw[n.1,r.1]
   exact D0 K n.2 r.2 e
  ·simp at e
 case entry T5=>exact gf (Hl K (by simpa using g) e)
 case typeAssert x t T2 ok=>exact gf (Hi (by simpa using g) e)
 case call c=>
  unfold uc at e
  split at e
  ·rename_i b args bu
   simp only[Call.operands]at g
   have G:ee u D ad O args.toList:=g.mono Zs
   unfold ub at e
   split at e
   ·rename_i x p
    obtain⟨aE,aW⟩:=iu G p
    split at e
    ·rename_i t rest z
     obtain⟨n,r⟩:=DY (ty:=type) K z aW.1 e
     refine⟨?_,r⟩
     simp[resolve,invoke,builtin,aE,aR,n]
    ·simp at e
   ·rename_i x p
    obtain⟨aE,aW⟩:=iu G p
    split at e
    ·rename_i t rest z
     obtain⟨n,r⟩:=DR (u:=u) (D:=D) (w:=w) (ty:=type) z e
     refine⟨?_,r⟩
     simp[resolve,invoke,builtin,aE,aR,n]
    ·simp at e
   ·rename_i x h p
    obtain⟨aE,aW⟩:=iu G p
    obtain⟨n,r⟩:=D2 (C:=C) (u:=u) (D:=D) (w:=w) h x v e
    refine⟨?_,r aW.1⟩
    simp[resolve,invoke,builtin,Builtin.max_,aE,aR,n]
   ·rename_i x h p
    obtain⟨aE,aW⟩:=iu G p
    obtain⟨n,r⟩:=D3 (C:=C) (u:=u) (D:=D) (w:=w) h x v e
    refine⟨?_,r aW.1⟩
    simp[resolve,invoke,builtin,Builtin.min_,aE,aR,n]
   ·simp at e
  ·simp at e
def yy(K:bA C u D S nx az w){oper:Oper}{ad:Operand->Value}{wr:List (Nat×Nat)}{V:List (Nat×q)}{y:F q}{c:eB}{v:q}
 (O:ee u D ad (eg wr V y) oper.op.operands.toList)(g:fy C wr oper.op=some c)(e:di c C S V y=some v):qD u D C.P w (execOp ad oper) v:=by
 have rest:∀A,oper.op=A->c= .dT wr A->qD u D C.P w (execOp ad oper) v:=by
  intro A U3 U1
  subst U1;subst U3
  exact DZ K O e
 obtain⟨dst,op,type,pos,after,guard⟩:=oper
 cases op<;>simp only[fy]at g<;>simp only[Op.operands]at O
 case move x=>
  split at g
  ·rename_i T3 X
   simp at g;subst g
   simp only[di,gi X]at e
   obtain⟨Z,T0⟩:=O x Zs v e
   exact⟨by simp[execOp,Z],T0⟩
  ·simp at g
 case assign x=>
  split at g
  ·rename_i T3 X
   simp at g;subst g
   simp only[di,gi X]at e
   obtain⟨Z,T0⟩:=O x Zs v e
   exact⟨by simp[execOp,Z],T0⟩
  ·simp at g
 case pick TY a b=>
  split at g
  ·rename_i U9 T9 U8 U0 T2 Y
   simp at g;subst g
   simp only[di,gi U0]at e
   split at e
   ·rename_i L P
    obtain⟨Z,T0⟩:=O TY Zs L P
    unfold sJ at e
    split at e
    ·rename_i t
     rw[gi T2,gi Y]at e
     simp only[execOp,Z,af]
     cases t
     ·obtain⟨p,G⟩:=O b Zs v (by simpa using e)
      exact⟨by simp[asBool,p],G⟩
     ·obtain⟨p,G⟩:=O a Zs v (by simpa using e)
      exact⟨by simp[asBool,p],G⟩
    ·simp at e
   ·simp at e
  ·simp at g
 case load t a=>
  split at g
  ·rename_i T9 s T2 Z T0
   simp at g;subst g
   simp only[di,gi T2]at e
   split at e
   ·rename_i L P
    obtain⟨p,G⟩:=O a Zs L P
    simp only[execOp,p]
    exact gf (wT K Z T0 G e)
   ·simp at e
  ·rename_i T9 T2 Z
   simp at g;subst g
   simp only[di,gi T2]at e
   split at e
   ·rename_i L P
    obtain⟨p,G⟩:=O a Zs L P
    simp only[execOp,p]
    exact gf (wS K Z G e)
   ·simp at e
  ·simp at g
 case fieldAddr s x f=>
  split at g
  ·rename_i UB T3 P X
   rw[ic]at g
   split at g
   ·rename_i UA U2
    split at g
    ·rename_i z T5
     simp only[ot]at g
     obtain⟨U5,g⟩:=g
     simp at g;subst g
     simp only[di,gi X]at e
     split at e
     ·rename_i L T4
      obtain⟨p,G⟩:=O x Zs L T4
      simp only[execOp,p]
      exact gf (FT P U2 T5 (by intro j;subst j;simp at U5) G e)
     ·simp at e
    ·simp at g
   ·simp at g
  ·simp at g
 case indexAddr t x i=>
  split at g
  ·rename_i n bW T3 U6 P X ai
   split at g
   ·rename_i an T5
    simp at g;subst g
    simp only[di,gi X,gi ai]at e
    split at e
    ·rename_i L T4
     split at e
     ·rename_i E T7
      split at e
      ·rename_i ah T8
       obtain⟨k,rfl⟩:=nD T8
       obtain⟨p,G⟩:=O x Zs L T4
       obtain⟨T1,T6⟩:=O i Zs _ T7
       simp only[execOp,p,T1,af]
       exact gf (GY P T5 G e)
      ·simp at e
     ·simp at e
    ·simp at e
   ·simp at g
  ·rename_i bW T3 U6 P X ai
   split at g
   ·rename_i an T5
    simp at g;subst g
    simp only[di,gi X,gi ai]at e
    split at e
    ·rename_i L T4
     split at e
     ·rename_i E T7
      split at e
      ·rename_i ah T8
       obtain⟨k,rfl⟩:=nD T8
       obtain⟨p,G⟩:=O x Zs L T4
       obtain⟨T1,T6⟩:=O i Zs _ T7
       simp only[execOp,p,T1,af]
       exact gf (G0 P T5 G e)
      ·simp at e
     ·simp at e
    ·simp at e
   ·simp at g
  ·simp at g
 case nilCheck x=>
  split at g
  ·rename_i T3 X
   simp at g;subst g
   simp only[di,gi X]at e
   split at e
   ·rename_i L P
    obtain⟨p,G⟩:=O x Zs L P
    obtain⟨rfl,T1⟩:=LI (C:=C) (u:=u) (w:=w) G e
    exact⟨T1 _ ad x rfl p,G⟩
   ·simp at e
  ·simp at g
 case binOp op t x U7 UD=>
  rw[cK]at g
  split at g
  ·split at g
   ·rename_i T3 UC X U4
    simp at g;subst g
    simp only[di,gi X,gi U4]at e
    split at e
    ·rename_i a T2
     split at e
     ·rename_i b Y
      obtain⟨Z,T0⟩:=O x Zs a T2
      obtain⟨p,G⟩:=O U7 Zs b Y
      obtain⟨T1,T6,k,i,co,E,rfl,rfl⟩:=wR (C:=C) (u:=u) (D:=D) (w:=w) t e
      simp only[execOp,Z,p]
      refine gf ⟨?_,T6⟩
      rw[Sem.run_bind,rm (by simp[oz])]
      exact T1
     ·simp at e
    ·simp at e
   ·simp at g
  ·simp at g;exact rest _ rfl g.symm
 case extract x i=>
  split at g
  ·rename_i T3 X
   simp at g;subst g
   simp only[di,gi X]at e
   split at e
   ·rename_i L P
    obtain⟨p,G⟩:=O x Zs L P
    simp only[execOp,p]
    exact gf (LH G e)
   ·simp at e
  ·simp at g
 case convert s d x=>
  rw[cK]at g
  split at g
  ·simp at g;subst g;simp[di]at e
  ·simp at g;exact rest _ rfl g.symm
 case store t a x=>
  split at g
  ·simp at g;subst g;simp[di]at e
  ·simp at g
 case makeMap t r=>cases r<;>simp[fy]at g<;>subst g<;>simp[di]at e
 case call TZ=>
  obtain⟨callee,args,bu⟩:=TZ
  cases callee with
  |builtin b=>
   cases b<;>simp[fy]at g<;>first
    |exact rest _ rfl g.symm
    |(subst g;simp[di]at e)
  |value f=>
   cases f<;>simp[fy]at g
   all_goals first
    |(subst g;simp[di]at e;done)
    |(
      split at g
      ·simp at g;subst g;simp[di]at e
      ·simp at g)
  |invoke r m=>simp[fy]at g;subst g;simp[di]at e
 all_goals(simp at g;first|exact rest _ rfl g.symm|(subst g;simp[di]at e))
end
def cr{C:ax}{S:F ac}{b:Nat}(A:Option ac)(Y:C.aN<=b)(x:Nat):H C (aP C S b A) x=if x=b then A else H C S x:=by
 unfold H aP
 rw[cK,cK]
 by_cases a:Nat.blt x C.aN=true
 ·have:=e0 a
  rw[Zv a,Zv a,Zj Zo]
 ·have iU:C.aN<=x:=by
   rcases zg x C.aN with e|e
   ·exact absurd (by simp[Nat.blt];omega) a
   ·exact e
  rw[Zj a,Zj a,F.gj]
  show(if b-C.aN=x-C.aN then A else S.get (x-C.aN))=_
  by_cases j:x=b
  ·rw[Zv Zo,Zv j]
  ·rw[Zj Zo,Zj j];rfl
def yb{C:ax}:∀(h:List Nat) (S:F ac) (x:Nat),(∀b∈h,C.aN<=b)->H C (fL C h S) x=if x∈h then none else H C S x:=by
 intro h
 induction h with
 |nil=>intro S x _;simp[fL]
 |cons b h U=>
  intro S x e
  simp only[fL]
  rw[U _ _ (λc d=>e c (by simp[d])),cr _ (e b Zs)]
  by_cases a:x∈h
  ·simp[a]
  ·by_cases j:x=b
   ·simp[j]
   ·simp[a,j]
def cZ(u:bC)(b:Nat)(pl:fS):bC:=λx=>if x=b then pl else u x
def add(D:Nat->Prop)(b:Nat):Nat->Prop:=λx=>D x\/x=b
structure dU(C:ax)(bs:Nat)(u:bC)(D:Nat->Prop)(S:F ac)(az:Nat)(w:World)(bD:bC)(bq:Nat->Prop)(B:F ac)(aK:World):Prop where
 dX:∀b,D b->bD b=u b
 ef:∀b,D b->bq b
 new:∀b,bq b->D b\/bs<=b
 R:∀b,¬D b->b<bs->H C B b=H C S b
 below:Below az w aK
def dU.refl{C:ax}{bs:Nat}{u:bC}{D:Nat->Prop}{S:F ac}{az:Nat}{w:World}:dU C bs u D S az w u D S w:=
 ⟨λ_ _=>rfl,λ_ e=>e,λ_ e=> .inl e,λ_ _ _=>rfl, .refl _ _⟩
def dU.trans{C:ax}{bs d:Nat}{u bD g:bC}{D bq a:Nat->Prop}{S B c:F ac}{az:Nat}{w aK f:World}(e:dU C bs u D S az w bD bq B aK)(ap:bs<=d)
 (k:dU C d bD bq B az aK g a c f):dU C bs u D S az w g a c f:=
 ⟨λb Y=>(k.dX b (e.ef b Y)).trans (e.dX b Y),λb Y=>k.ef b (e.ef b Y),
  λb Y=>(k.new b Y).elim (λY=>e.new b Y) (λY=> .inr Zo),
  λb Y m=>by
   have n:¬bq b:=λi=>(e.new b i).elim Y (λJ=>Zo)
   rw[k.R b n Zo,e.R b Y m],
  e.below.trans k.below⟩
section
variable{C:ax}{u bD:bC}{D bq:Nat->Prop}{S B:F ac}{nx nx' az:Nat}{w aK:World}
def hF(a:∀b,D b->bD b=u b){v:q}(g:ba D v):af bD v=af u v:=tk a v g
def kM(a:∀b,D b->bD b=u b){h:List q}(g:ca D h):aR bD h=aR u h:=ov a h g
def eo.R{n aa:Nat}{y:F q}{tmps:Array Value}(g:∀b,D b->bD b=u b)(d:∀b,D b->bq b)(e:eo u D n aa y tmps):eo bD bq n aa y tmps:=
 ⟨e.size,λt v ap f=>by
  obtain⟨c,a⟩:=e.val t v ap f
  exact⟨by rw[c,hF g a],gZ d v a⟩⟩
def te(a:∀b,D b->bD b=u b){d:dI}(g:j7 D d):fx bD d=fx u d:=by
 obtain⟨t,n⟩:=d
 obtain⟨c,f⟩:=g
 simp only[fx,kM a f]
 congr 1
 cases t with
 |fn fn cs=>
  obtain⟨i,m⟩:=c
  have j:f7 bD fn=f7 u fn:=by
   cases fn<;>simp only[f7]
   rw[a _ i]
  simp only[m9,j,kM a m]
 |collected r=>simp only[m9,a r c]
def x4(a:∀b,D b->bq b){d:dI}(g:j7 D d):j7 bq d:=by
 obtain⟨t,c⟩:=d
 refine⟨?_,h5 a _ g.2⟩
 cases t with
 |fn fn cs=>exact⟨by cases fn<;>first|exact a _ g.1.1|exact g.1.1,h5 a _ g.1.2⟩
 |collected r=>exact a _ g.1
def eD.R{A:ac}{pl:fS}(t:∀b,D b->bD b=u b)(r:∀b,D b->bq b)(x:aK.heap[pl.a8]? =w.heap[pl.a8]?)(e:eD C u D A pl w):eD C bD bq A pl aK:=by
 cases A with
 |cells c n st=>
  obtain⟨a2,ty,aC,ai,g,f,a,z⟩:=e
  refine⟨a2,ty,aC,ai,by rw[x,g],f,a,λi v T0=> ?_⟩
  obtain⟨Z,S⟩:=z i v T0
  exact⟨by rw[Z,hF t S],gZ r v S⟩
 |map ak P=>
  obtain⟨a2,g,f,a⟩:=e
  refine⟨a2,by rw[x,g], ?_,λj p=>⟨gZ r _ (a j p).1,gZ r _ (a j p).2⟩⟩
  rw[f]
  apply Yw
  intro j p
  simp only[cG,hF t (a j p).1,hF t (a j p).2]
 |look ak=>
  obtain⟨a2,P,er,g,f,z,a⟩:=e
  refine⟨a2,P,er,by rw[x,g], ?_,z,λj p=>⟨gZ r _ (a j p).1,gZ r _ (a j p).2⟩⟩
  rw[f]
  apply Yw
  intro j p
  simp only[cG,hF t (a j p).1,hF t (a j p).2]
 |kp s pos=>exact⟨e.1,by rw[x,e.2.1],e.2.2⟩
 |eT m T1 seen st=>
  obtain⟨G,g,f⟩:=e
  refine⟨G, ?_,λb Y=>r b (f b Y)⟩
  rw[x,g]
  cases m with
  |none=>rfl
  |some m=>simp only[ZJ,t m (f m rfl)]
 |jy m T1 n bL st T2=>
  obtain⟨G,g,seen,f,a⟩:=e
  exact⟨G,r m g,seen,by rw[x,f,t m g],a⟩
 |loop state pending fn n aa y params assign body av=>
  obtain⟨tmps,g,f,a,z⟩:=e
  exact⟨tmps,by rw[x,g,t av a],f.R t r,r _ a,z⟩
 |deferred X=>
  obtain⟨g,f⟩:=e
  refine⟨?_,λh ap d O=>x4 r (f h ap d O)⟩
  rw[x,g]
  cases X with
  |none=>rfl
  |some h=>
   simp only[ZJ]
   congr 3
   exact Yw λd O=>(te t (f h rfl d O)).symm
def eD.lt{A:ac}{pl:fS}(e:eD C u D A pl w):pl.a8<w.heap.size:=by
 have:∃x,w.heap[pl.a8]? =some x:=by
  cases A with
  |cells c n st=>obtain⟨a2,ty,aC,ai,a,_⟩:=e;exact⟨_,a⟩
  |map ak b=>obtain⟨a2,a,_⟩:=e;exact⟨_,a⟩
  |look ak=>obtain⟨a2,b,er,a,_⟩:=e;exact⟨_,a⟩
  |kp s pos=>exact⟨_,e.2.1⟩
  |eT m f seen st=>exact⟨_,e.2.1⟩
  |jy m f n bL st i=>obtain⟨_,_,seen,a,_⟩:=e;exact⟨_,a⟩
  |loop state pending fn n aa y params assign body av=>obtain⟨tmps,a,_⟩:=e;exact⟨_,a⟩
  |deferred g=>exact⟨_,e.1⟩
 obtain⟨x,d⟩:=this
 exact(ZI.1 d).1
def bA.alloc(K:bA C u D S nx az w){b:Nat}{pl:fS}{bJ:ac}{A:Obj}(Y:C.aN<=b)(U1:b<nx')(T8:nx<=nx')(T7:¬D b)(cp:az<=w.heap.size)(U2:pl.a8=w.heap.size)
 (T0:H C B b=some bJ)(T1:∀x,x≠b->H C B x=H C S x\/H C B x=none)(T9:eD C (cZ u b pl) (add D b) bJ pl (w.alloc A))(TY:je C (add D b) bJ):
 bA C (cZ u b pl) (add D b) B nx' az (w.alloc A):=by
 have p:∀x,D x->cZ u b pl x=u x:=λx a=>by
  unfold cZ;rw[Zj];intro j;subst j;exact T7 a
 have v:cZ u b pl b=pl:=by unfold cZ;rw[Zv rfl]
 have TZ:∀k,k<w.heap.size->(w.alloc A).heap[k]? =w.heap[k]? :=λk T6=>Below.heap_alloc _ _ _ T6
 have key:∀x d,H C B x=some d->add D b x->x≠b->H C S x=some d/\D x/\(u x).a8<w.heap.size:=by
  intro x d a m t
  have T2:D x:=m.resolve_right t
  rcases T1 x t with e|e
  ·have:H C S x=some d:=by rw[<-e,a]
   exact⟨this,T2,(K.obj x d this T2).lt⟩
  ·rw[e]at a;cases a
 refine⟨ZD K.aN T8, ?_, ?_, ?_, ?_, ?_, ?_⟩
 ·intro x a
  rcases a with a|a
  ·have:=K.lt x a;omega
  ·omega
 ·intro x d a
  by_cases j:x=b
  ·omega
  ·rcases T1 x j with e|e
   ·have:=K.jC x d (by rw[<-e,a]);omega
   ·rw[e]at a;cases a
 ·intro x d a m
  by_cases j:x=b
  ·subst j
   rw[T0]at a;cases a
   rw[v];exact T9
  ·obtain⟨g,f,s⟩:=key x d a m j
   rw[p x f]
   exact(K.obj x d g f).R p (λ_ e=> .inl e) (TZ _ s)
 ·intro x i d P a G bP X t O z
  by_cases j:x=b
  ·subst j
   by_cases r:i=x
   ·exact absurd r.symm t
   ·obtain⟨g,f,s⟩:=key i P G X r
    rw[v,p i f]at z
    omega
  ·obtain⟨g,f,s⟩:=key x d a bP j
   by_cases r:i=b
   ·subst r
    rw[v,p x f]at z
    omega
   ·obtain⟨T5,Z,U0⟩:=key i P G X r
    rw[p x f,p i Z]at z ⊢
    exact K.sep x i d P g T5 f Z t O z
 ·intro x d O a m
  by_cases j:x=b
  ·subst j;rw[v];omega
  ·obtain⟨g,f,s⟩:=key x d a m j
   rw[p x f]
   exact K.base x d O g f
 ·intro x d a m
  by_cases j:x=b
  ·subst j;rw[T0]at a;cases a;exact TY
  ·obtain⟨g,f,s⟩:=key x d a m j
   refine⟨λc n h ap i G=> ?_,(K.ch x d g f).2⟩
   obtain⟨T3,T4⟩:=(K.ch x d g f).1 c n h ap i G
   exact⟨.inl T3,T4⟩
def bA.xK(K:bA C u D S nx az w)(m:∀x,H C B x=H C S x\/H C B x=none):bA C u D B nx az w:=by
 have key:∀x a,H C B x=some a->H C S x=some a:=by
  intro x a b
  rcases m x with e|e
  ·rw[<-e,b]
  ·rw[e]at b;cases b
 exact⟨K.aN,K.lt,λx a b=>K.jC x a (key x a b),λx a b c=>K.obj x a (key x a b) c,
  λx g a f b r bP i p d n=>K.sep x g a f (key x a b) (key g f r) bP i p d n,λx a d b c=>K.base x a d (key x a b) c,λx a b c=>K.ch x a (key x a b) c⟩
def bA.put(K:bA C u D S nx az w){b:Nat}{bJ ft:ac}(Y:C.aN<=b)(t:D b)(O:H C S b=some bJ)(s:H C B b=some ft)
 (z:∀x,x≠b->H C B x=H C S x\/H C B x=none)(X:∀k,k≠(u b).a8->aK.heap[k]? =w.heap[k]?)
 (m:∀x a,x≠b->H C B x=some a->D x->(u x).a8=(u b).a8->False)(G:eD C u D ft (u b) aK)(P:je C D ft):bA C u D B nx az aK:=by
 have key:∀x a,x≠b->H C B x=some a->H C S x=some a:=by
  intro x a d c
  rcases z x d with e|e
  ·rw[<-e,c]
  ·rw[e]at c;cases c
 refine⟨K.aN,K.lt, ?_, ?_, ?_, ?_, ?_⟩
 ·intro x a c
  by_cases j:x=b
  ·subst j;exact K.lt x t
  ·exact K.jC x a (key x a j c)
 ·intro x a c bP
  by_cases j:x=b
  ·subst j;rw[s]at c;cases c;exact G
  ·exact(K.obj x a (key x a j c) bP).R (λ_ _=>rfl) (λ_ e=>e) (X _ λJ=>m x a j c bP J)
 ·intro x g a n c v bP p d f i
  by_cases j:x=b
  ·subst j
   exact(m g n (λJ=>d J.symm) v p i.symm).elim
  ·by_cases r:g=b
   ·subst r;exact(m x a j c bP i).elim
   ·exact K.sep x g a n (key x a j c) (key g n r v) bP p d f i
 ·intro x a f c bP
  by_cases j:x=b
  ·subst j;exact K.base x bJ f O t
  ·exact K.base x a f (key x a j c) bP
 ·intro x a c bP
  by_cases j:x=b
  ·subst j;rw[s]at c;cases c;exact P
  ·exact K.ch x a (key x a j c) bP
def n2(A:ac):Prop:=(∀c n,A≠ .cells c n .eA)/\(∀c n h,A≠ .cells c n (.grow h))
def bA.alone(K:bA C u D S nx az w){b:Nat}{bJ:ac}(Y:C.aN<=b)(f:D b)(m:H C S b=some bJ)(a:n2 bJ):
 ∀x d,x≠b->H C S x=some d->D x->(u x).a8=(u b).a8->False:=by
 intro x d i p bP g
 rcases(K.sep b x bJ d m p f bP (λJ=>i J.symm) Y g.symm).1 with ⟨c,n,_,_,J,_⟩|⟨c,n,h,_,_,J,_⟩|⟨_,_,_,c,n,_,J,_⟩
 ·exact a.1 _ _ J
 ·exact a.2 _ _ _ J
 ·exact a.1 _ _ J
end
section
variable{C:ax}{u bD:bC}{D bq:Nat->Prop}{S B:F ac}{nx nx' az:Nat}{w aK:World}
def jn(w:World)(A:Obj):(w.alloc A).heap[w.heap.size]? =some A:=by
 show(w.heap.push A)[w.heap.size]? =_
 simp
def fj(u:bC)(b:Nat)(pl:fS):cZ u b pl b=pl:=by unfold cZ;rw[Zv rfl]
def hU{b:Nat}{pl:fS}(a:¬D b):∀x,D x->cZ u b pl x=u x:=λx c=>by
 unfold cZ;rw[Zj];intro j;subst j;exact a c
def eF(u:bC)(h:List q):(aR u h).length=h.length:=by rw[hh,Zn]
def mb(u:bC)(h:List q)(i:Nat):(aR u h)[i]? =(h[i]?).map (af u):=by rw[hh,Zw]
def nb(u:bC)(a b:List q):aR u (a++b)=aR u a++aR u b:=by simp[hh]
def mi{a b:List q}(c:ca D a)(Y:ca D b):ca D (a++b):=by
 rw[iS]at*
 intro v d
 rcases Zr.1 d with e|e
 ·exact c v e
 ·exact Y v e
def mj{h:List q}(e:ca D h){i:Nat}{v:q}(a:h[i]? =some v):ba D v:=(iS D h).1 e v (Zg a)
def fD(h:List q)(i:Nat):(F.ofList h 0 .nil).get i=h[i]? :=by
 rw[F.rD]
 split
 ·simp
 ·rename_i e
  have:h.length<=i:=Zo
  rw[Z3 this];rfl
def q3{h:List q}(g:ca D h)(ty:TypeId)(r:Nat)(w:World):eD C u D (.cells (F.ofList h 0 .nil) h.length .own) ⟨w.heap.size,0,r⟩ (w.alloc (.cells (aR u h).toArray ty)):=by
 refine⟨_,ty,0,0,jn _ _,rfl,by simp[eF],λi v a=> ?_⟩
 rw[fD]at a
 refine⟨?_,mj g a⟩
 simp only[ZE,YO,mb,a,ZJ]
def nT(n:Nat)(z:List q):(ew n z).length=n*z.length:=by
 induction n with
 |zero=>simp[ew]
 |succ n U=>simp[ew,U,zr,zs]
def JE(z:List q):∀(n i:Nat),i<n*z.length->(ew n z)[i]? =z[i%z.length]? :=by
 intro n
 induction n with
 |zero=>intro i e;omega
 |succ n U=>
  intro i e
  simp only[ew]
  rw[zr]at e
  by_cases ai:i<z.length
  ·rw[ZA ai,YM ai]
  ·rw[Zy Zo,U _ Zo]
   congr 1
   exact(Nat.mod_eq_sub_mod Zo).symm
def rH{z:List q}(e:ca D z):∀n,ca D (ew n z):=by
 intro n
 induction n with
 |zero=>trivial
 |succ n U=>exact mi e U
def Aq(u:bC)(z:List q)(n:Nat):((Array.range (n*z.length)).map λi=>(aR u z).toArray[i%z.length]!)=(aR u (ew n z)).toArray:=by
 apply YC
 rw[Array.toList_map,Array.toList_range]
 show _=aR u (ew n z)
 apply Y9
 intro i
 rw[Zw,mb]
 by_cases ai:i<n*z.length
 ·rw[List.getElem?_range ai,JE z n i ai]
  have d:0<z.length:=by
   rcases Nat.eq_zero_or_pos z.length with e|e
   ·rw[e]at ai;omega
   ·exact e
  have a:i%z.length<z.length:=zt _ d
  simp only[ZJ]
  rw[Ze a]
  simp only[ZJ,Zu]
  rw[getElem!_pos _ _ (by simpa[eF]using a)]
  simp[hh]
 ·have b:(List.range (n*z.length))[i]? =none:=Z3 Zx
  have c:(ew n z)[i]? =none:=Z3 (by rw[nT];omega)
  rw[b,c];rfl
def Ar(u:bC)(z:List q)(s n:Nat)(c:z.length=s)(zero:Array Value)(a:n*s≠0->zero=(aR u z).toArray):
 ((Array.range (n*s)).map (zero[·%zero.size]!))=(aR u (ew n z)).toArray:=by
 subst c
 by_cases e:n*z.length=0
 ·have b:ew n z=[]:=YB.1 (by rw[nT];exact e)
  rw[e,b];simp[aR]
 ·rw[a e, <-Aq]
  simp[eF]
def yG{oper:Oper}{ad:Operand->Value}{X:Operand->Option q}{b:Nat}{v:q}{bJ:ac}(T1:¬D b)(G:ee u D ad X oper.op.operands.toList)
 (e:hD oper.op C X b=some (v,bJ)):∃A,(execOp ad oper).run C.P w= .ok (.value (af (cZ u b ⟨w.heap.size,0,0⟩) v)) (w.alloc A)/\ba (add D b) v/\
  eD C (cZ u b ⟨w.heap.size,0,0⟩) (add D b) bJ ⟨w.heap.size,0,0⟩ (w.alloc A):=by
 have O:=hU (u:=u) (pl:=⟨w.heap.size,0,0⟩) T1
 have m:∀x,D x->add D b x:=λ_ e=> .inl e
 obtain⟨dst,op,type,pos,after,guard⟩:=oper
 cases op<;>simp only[hD]at e<;>(try(cases e;done))<;>simp only[execOp]<;>simp only[Op.operands]at G
 case alloc t=>
  unfold ny at e
  split at e
  ·rename_i z p
   simp at e;obtain⟨rfl,rfl⟩:=e
   obtain⟨P,g⟩:=lx p u D w
   refine⟨.cells (aR u z.cells).toArray t, ?_, .inr rfl, ?_⟩
   ·simp[Instr.alloc,P,newVar,newRow,jh,af,fj]
   ·have:=q3 (C:=C) (u:=cZ u b ⟨w.heap.size,0,0⟩) (D:=add D b) (h5 m _ (iP g)) t 0 w
    rw[kM O (iP g)]at this
    exact this
  ·simp at e
 case box t x=>
  unfold p5 at e
  split at e
  ·rename_i L n
   simp at e;obtain⟨rfl,rfl⟩:=e
   obtain⟨d,a⟩:=G x Zs L n
   refine⟨.cells (aR u L.cells).toArray t, ?_, .inr rfl, ?_⟩
   ·simp[Instr.box,newVar,newRow,d,jh,af,fj]
   ·have:=q3 (C:=C) (u:=cZ u b ⟨w.heap.size,0,0⟩) (D:=add D b) (h5 m _ (iP a)) t 0 w
    rw[kM O (iP a)]at this
    exact this
  ·simp at e
 case buildSlice t len parts=>
  unfold p6 at e
  split at e
  ·rename_i bW bE n T3
   split at e
   ·rename_i s z T4 p
    simp only[ce,Zq]at e
    obtain⟨⟨d,a⟩,e⟩:=e
    have d:len*s<=16777216:=ep d
    have a:z.cells.length=s:=Zh a
    split at e
    ·rename_i cs T0
     simp at e;obtain⟨rfl,rfl⟩:=e
     obtain⟨P,g⟩:=lx p u D w
     obtain⟨T5,T6⟩:=xH (by simpa using G) T3
     obtain⟨Z,S⟩:=tH (u:=u) (qm:=λi=>some (i*s,s)) (λ_ _ e=>e) bE (ew len z.cells) cs (rH (iP g) len) T6 T0
     refine⟨.cells (aR u cs).toArray bW, ?_, .inr rfl, ?_⟩
     ·have j:(parts.map λx=>(x.1,ad x.2)).toList=bE.map λx=>(x.1,af u x.2):=by rw[<-T5];simp
      have iT:¬(len*s>2^24):=by
       have:(2:Nat)^24=16777216:=by decide
       omega
      have f:Instr.fill (λi=>some (i*s,s)) ((Array.range (len*s)).map ((if len*s=0 then #[]else(af u z).cells)[·%(if len*s=0 then #[]else(af u z).cells).size]!)) (parts.map λx=>(x.1,ad x.2)).toList=some (aR u cs).toArray:=by
       rw[Ar u z.cells s len a _ (λT2=>by rw[Zj T2,jh]),j]
       exact Z
      simp only[Instr.buildSlice,Sem.run_bind,run_underlying n,Result.andThen_ok,f8 T4]
      rw[Zj iT]
      by_cases c:len*s=0
      ·rw[Zv c]at f
       simp only[Zv c,Sem.run_bind,Sem.run_pure,Result.andThen_ok,f]
       simp[newRow,af,fj]
      ·simp only[Zj c]at f
       simp only[Zj c,Sem.run_bind,Sem.run_pure,Result.andThen_ok,P,f]
       simp[newRow,af,fj]
     ·have:=q3 (C:=C) (u:=cZ u b ⟨w.heap.size,0,0⟩) (D:=add D b) (h5 m _ S) bW 0 w
      rw[kM O S]at this
      exact this
    ·simp at e
   ·simp at e
  ·simp at e
 case makeMap t r=>
  cases r with
  |some r=>simp[hD]at e
  |none=>
   simp[hD]at e;obtain⟨rfl,rfl⟩:=e
   refine⟨.map #[] 0, ?_, .inr rfl, ?_⟩
   ·simp[Instr.makeMap,af,fj]
   ·exact⟨#[],jn _ _,rfl,Zs⟩
end
section
variable{C:ax}{u bD:bC}{D bq:Nat->Prop}{S B:F ac}{nx nx' az:Nat}{w aK:World}
def e6:Array Value->Nat->List Value->Array Value
 |c,_,[]=>c
 |c,A,v::h=>e6 (c.setIfInBounds A v) (A+1) h
def kn:∀(h:List Value) (c:Array Value) (A:Nat),(e6 c A h).size=c.size:=by
 intro h
 induction h with
 |nil=>intro c A;rfl
 |cons v h U=>intro c A;simp[e6,U]
def u4:∀(h:List Value) (c:Array Value) (A i:Nat),A+h.length<=c.size->(e6 c A h)[i]? =if A<=i/\i<A+h.length then h[i-A]? else c[i]? :=by
 intro h
 induction h with
 |nil=>intro c A i _;rw[Zj (by simp only[Z0];omega)];rfl
 |cons v h U=>
  intro c A i e
  simp only[ZC]at e
  simp only[e6]
  rw[U _ _ _ Zx]
  by_cases j:i=A
  ·subst j
   rw[Zj Zo,Zv Zs]
   have a:i<c.size:=Zo
   simp[a]
  ·by_cases J:A+1<=i/\i<A+1+h.length
   ·rw[Zv J,Zv Zx,show i-A=(i-(A+1))+1 by omega,ZN]
   ·rw[Zj J,Zj (by simp only[ZC];omega),Array.getElem?_setIfInBounds_ne (λe=>j e.symm)]
def uZ(P:Program)(g A:Nat)(t:TypeId)(aC ai:Nat):∀(aB:List Value) (i:Nat) (a:Array Value) (w:World),w.heap[g]? =some (.cells a t (aC,ai))->(ai<=aC\/a.size<=aC)->
 A+i+aB.length<=a.size->(∀v∈aB,v.oneCell'=true)->(storeCells ⟨g,A,none⟩ aB i).run P w= .ok () (w.setRow g (e6 a (A+i) aB)):=by
 intro aB
 induction aB with
 |nil=>
  intro i a w b _ _ _
  simp only[storeCells,e6]
  rw[setRow_self w g a t _ b];rfl
 |cons v aB U=>
  intro i a w b m ap c
  simp only[ZC]at ap
  have p:A+i<a.size:=Zo
  have d:(⟨g,A,none⟩:Addr).add i=⟨g,A+i,none⟩:=h2 _ _ _
  have f:w.cell? ⟨g,A+i,none⟩=some a[A+i]:=by simp[World.cell?,b,p]
  have n:w.frozen? ⟨g,A+i,none⟩=false:=by
   simp only[World.frozen?,b,Bool.and_eq_false_iff,Zb]
   omega
  have r:(store ((⟨g,A,none⟩:Addr).add i) v).run P w= .ok () (w.setRow g (a.setIfInBounds (A+i) v)):=by
   rw[d,run_store P w _ v _ (c v Zs),f]
   simp[n,setCell_eq_setRow w g (A+i) a t _ v b]
  have:=U (i+1) (a.setIfInBounds (A+i) v) (w.setRow g (a.setIfInBounds (A+i) v)) (setRow_heap w g a _ t _ b) (by simpa using m) Zx (λx s=>c x (by simp[s]))
  simp only[storeCells,Sem.run_bind,r,Result.andThen_ok,this,setRow_setRow,e6]
  rfl
def s8{p:Nat}(cp:az<=p)(cs:Array Value)(w:World):Below az w (w.setRow p cs):=
 ⟨rfl,rfl,rfl,by simp[World.setRow],λk a=>setRow_other w p k cs Zo⟩
def y1:∀{aB:List q},cN aB=true->∀v∈aR u aB,v.oneCell'=true:=by
 intro aB
 induction aB with
 |nil=>intro _ v b;simp[aR]at b
 |cons a h U=>
  intro e v b
  simp only[cN,Zq]at e
  simp only[aR,Zz]at b
  rcases b with rfl|b
  ·cases a<;>simp[d5]at e<;>rfl
  ·exact U e.2 v b
def Bi{c:F q}{a2:Array Value}{b3 A n:Nat}{aB:List q}(b:ca D aB)(f:A+aB.length<=n)(d:b3+n<=a2.size)
 (e:∀i v,c.get i=some v->a2[b3+i]? =some (af u v)/\ba D v):
 ∀i v,(cL c A aB).get i=some v->(e6 a2 (b3+A) (aR u aB))[b3+i]? =some (af u v)/\ba D v:=by
 intro i v a
 rw[vk,F.rD]at a
 rw[u4 _ _ _ _ (by rw[eF];omega),eF]
 split at a
 ·rename_i ai
  rw[Zv Zo,mb,show b3+i-(b3+A)=i-A by omega,a]
  exact⟨rfl,mj b a⟩
 ·rename_i ai
  rw[Zj Zo]
  exact e i v a
def sH{c:F q}{A n:Nat}{aB:List q}(b:A+aB.length<=n)(e:∀i v,c.get i=some v->i<n):∀i v,(cL c A aB).get i=some v->i<n:=by
 intro i v a
 rw[vk,F.rD]at a
 split at a
 ·omega
 ·exact e i v a
def oT{h:List q}:∀i v,(F.ofList h 0 .nil).get i=some v->i<h.length:=by
 intro i v a
 rw[fD]at a
 exact(Zf.1 a).1
def ph(K:bA C u D S nx az w){bs b A:Nat}{aB:List q}(d:D b)(T2:ca D aB)(e:gU C S b A aB=some B):
 ∃aK,(storeCells ⟨(u b).a8,(u b).b3+A,none⟩ (aR u aB)).run C.P w= .ok () aK/\bA C u D B nx az aK/\dU C bs u D S az w u D B aK:=by
 unfold gU at e
 split at e
 ·rename_i c n st f
  simp only[ce,Zq]at e
  obtain⟨⟨⟨i,P⟩,X⟩,e⟩:=e
  have i:A+aB.length<=n:=ep i
  have Y:C.aN<=b:=ep P
  obtain⟨a2,ty,aC,ai,aE,aW,a3,a4⟩:=K.obj b _ f d
  have T7:st≠ .eA:=λj=>(by subst j;simp at e)
  refine⟨w.setRow (u b).a8 (e6 a2 ((u b).b3+A) (aR u aB)), ?_, ?_⟩
  ·exact uZ C.P _ _ ty aC ai (aR u aB) 0 a2 w aE (aW.free T7) (by rw[eF];omega) (y1 X)
  have T8:=setRow_heap w (u b).a8 a2 (e6 a2 ((u b).b3+A) (aR u aB)) ty (aC,ai) aE
  have T1:=K.base b _ Y f d
  have z:Below az w (w.setRow (u b).a8 (e6 a2 ((u b).b3+A) (aR u aB))):=s8 T1 _ _
  have O:∀k,k≠(u b).a8->(w.setRow (u b).a8 (e6 a2 ((u b).b3+A) (aR u aB))).heap[k]? =w.heap[k]? :=λk T3=>setRow_other w _ k _ T3
  have fin:∀e7,n8 e7 n (u b) a2.size aC ai->eD C u D (.cells (cL c A aB) n e7) (u b) (w.setRow (u b).a8 (e6 a2 ((u b).b3+A) (aR u aB))):=by
   intro e7 t
   refine⟨_,ty,aC,ai,T8,by rw[kn];exact t,by rw[kn];exact a3,Bi T2 i a3 a4⟩
  have plain:∀e7,n2 (.cells c n st)->n8 e7 n (u b) a2.size aC ai->(∀h,e7≠ .grow h)->B=aP C S b (some (.cells (cL c A aB) n e7))->
   bA C u D B nx az (w.setRow (u b).a8 (e6 a2 ((u b).b3+A) (aR u aB)))/\dU C bs u D S az w u D B (w.setRow (u b).a8 (e6 a2 ((u b).b3+A) (aR u aB))):=by
   intro e7 T0 t T5 Z
   subst Z
   have s:H C (aP C S b (some (.cells (cL c A aB) n e7))) b=some (.cells (cL c A aB) n e7):=by rw[cr _ Y,Zv rfl]
   have g:∀x,x≠b->H C (aP C S b (some (.cells (cL c A aB) n e7))) x=H C S x:=λx a=>by rw[cr _ Y,Zj a]
   refine⟨K.put Y d f s (λx a=> .inl (g x a)) O ?_ (fin e7 t) ⟨λp ah h ap=>(by cases ap;exact absurd rfl (T5 _)),λp ah TY ap=>(by cases ap;exact sH i ((K.ch b _ f d).2 _ _ _ rfl))⟩, ?_⟩
   ·intro x v m a bP r
    rw[g x m]at a
    exact K.alone Y d f T0 x v m a bP r
   ·exact⟨λ_ _=>rfl,λ_ e=>e,λ_ e=> .inl e,λx a _=>g x (λj=>a (j▸d)),z⟩
  cases st with
  |own=>
   simp only[dB,Zu]at e
   exact plain .own ⟨Zs,Zs⟩ aW Zs e.symm
  |marked=>
   simp only[dB,Zu]at e
   exact plain .marked ⟨Zs,Zs⟩ aW Zs e.symm
  |grow ch=>
   simp only[dB,Zu]at e
   have G:=(K.ch b _ f d).1 _ _ _ rfl
   subst e
   have s:H C (aP C (fL C ch S) b (some (.cells (cL c A aB) n (.grow [])))) b=some (.cells (cL c A aB) n (.grow [])):=by rw[cr _ Y,Zv rfl]
   have g:∀x,x≠b->H C (aP C (fL C ch S) b (some (.cells (cL c A aB) n (.grow [])))) x=if x∈ch then none else H C S x:=λx a=>by
    rw[cr _ Y,Zj a,yb _ _ _ λTZ T9=>(G TZ T9).2]
   refine⟨K.put Y d f s (λx a=> ?_) O ?_ (fin (.grow []) aW) ⟨λp ah h ap=>(by cases ap;simp),λp ah TY ap=>(by cases ap;exact sH i ((K.ch b _ f d).2 _ _ _ rfl))⟩, ?_⟩
   ·rw[g x a];split
    ·exact .inr rfl
    ·exact .inl rfl
   ·intro x v m a bP r
    rw[g x m]at a
    split at a
    ·cases a
    ·rename_i T6
     rcases(K.sep b x _ v f a d bP (λJ=>m J.symm) Y r.symm).1 with ⟨_,_,_,_,J,_⟩|⟨_,_,h,_,_,J,_,ap,_⟩|⟨_,_,_,_,_,_,J,_⟩
     ·cases J
     ·cases J;exact T6 ap
     ·cases J
   ·exact⟨λ_ _=>rfl,λ_ e=>e,λ_ e=> .inl e,λx a _=>by
     rw[g x (λj=>a (j▸d)),Zj (λT4=>a (G x T4).1)],z⟩
  |eA=>simp at e
 ·simp at e
end
def lT(C:ax)(u:bC)(D:Nat->Prop)(S:F ac)(nx az:Nat)(w:World)(s:Sem Next)(v:q)(B:F ac)(nx':Nat):Prop:=
 ∃bD bq aK n,s.run C.P w= .ok n aK/\(n= .value (af bD v)\/(n= .skip/\v=undef))/\ba bq v/\bA C bD bq B nx' az aK/\dU C nx u D S az w bD bq B aK/\nx<=nx'
section
variable{C:ax}{u bD:bC}{D bq:Nat->Prop}{S B:F ac}{nx nx' az:Nat}{w aK:World}
def putObj(K:bA C u D S nx az w){bs b:Nat}{bJ ft:ac}{fs o':Obj}(Y:C.aN<=b)(d:D b)(i:H C S b=some bJ)(r:n2 bJ)(m:w.heap[(u b).a8]? =some fs)
 (t:∀c j f,fs≠ .cells c j f)(v:∀aK:World,aK.heap[(u b).a8]? =some o'->eD C u D ft (u b) aK)(z:je C D ft):
 ∃aK,(Go.setObj (u b).a8 o').run C.P w= .ok () aK/\bA C u D (aP C S b (some ft)) nx az aK/\dU C bs u D S az w u D (aP C S b (some ft)) aK:=by
 have G:(Go.setObj (u b).a8 o').run C.P w= .ok () {w with heap:=w.heap.setIfInBounds (u b).a8 o'}:=by
  cases fs<;>first
   |exact absurd rfl (t _ _ _)
   |simp[Go.setObj,Sem.run,m]
 obtain⟨bc,bl⟩:=MapKept.heap_set (o':=o') m
 have O:H C (aP C S b (some ft)) b=some ft:=by rw[cr _ Y,Zv rfl]
 have g:∀x,x≠b->H C (aP C S b (some ft)) x=H C S x:=λx a=>by rw[cr _ Y,Zj a]
 have X:=K.base b _ Y i d
 refine⟨_,G,K.put Y d i O (λx a=> .inl (g x a)) (λk n=>bl k n) ?_ (v _ bc) z, ?_⟩
 ·intro x P p a bP s
  rw[g x p]at a
  exact K.alone Y d i r x P p a bP s
 ·exact⟨λ_ _=>rfl,λ_ e=>e,λ_ e=> .inl e,λx a _=>g x (λj=>a (j▸d)),rfl,rfl,rfl,Zs,λk n=>bl k Zo⟩
def lz{r:Nat}{A:ac}{v:q}{a:bY}(e:setObj C S nx r A v=some a):a= .cu v (aP C S r (some A)) nx/\C.aN<=r:=by
 unfold setObj at e
 simp only[dB,ce,Zu]at e
 exact⟨e.2.symm,ep e.1⟩
def nQ(K:bA C u D S nx az w){bs r:Nat}{ak er:List (q×q×Nat)}{c jZ:Nat}{l3:Array MapEntry}(Y:C.aN<=r)(a:D r)(b:H C S r=some (.map ak c))
 (f:l3.toList=er.map (cG u))(g:∀j∈er,ba D j.1/\ba D j.2.1):
 ∃aK,(Go.setObj (u r).a8 (.map l3 jZ)).run C.P w= .ok () aK/\bA C u D (aP C S r (some (.map er jZ))) nx az aK/\dU C bs u D S az w u D (aP C S r (some (.map er jZ))) aK:=by
 obtain⟨a2,d,_,_⟩:=K.obj r _ b a
 exact putObj K Y a b ⟨Zs,Zs⟩ d Zs (λaK i=>⟨l3,i,f,g⟩) ⟨λ_ _ _ e=>(by cases e),λ_ _ _ e=>(by cases e)⟩
def KX(K:bA C u D S nx az w){s:Nat}{t:TypeId}{a v:q}{d:bY}(i:d6 C t=some s)(f:ba D a)(dC:ba D v)(e:sz C S nx s a v=some d):
 ∃B,d= .cu undef B nx/\∀L:Sem Next,(∀aK,(Instr.storeAt t (af u a) (af u v)).run C.P w= .ok () aK->L.run C.P w= .ok .skip aK)->lT C u D S nx az w L undef B nx:=by
 unfold sz at e
 split at e
 ·rename_i b A
  simp only[ce,Zq]at e
  obtain⟨⟨c,r⟩,e⟩:=e
  have c:v.cells.length=s:=Zh c
  split at e
  ·rename_i B g
   simp at e
   obtain⟨aK,bc,bl,p⟩:=ph K (bs:=nx) f (iP dC) g
   refine⟨B,e.symm,λL n=>⟨u,D,aK, .skip,n aK ?_, .inr ⟨rfl,rfl⟩,by trivial,bl,p,Zp _⟩⟩
   have m:(af u v).cells.size=s:=by rw[jh];simp[eF,c]
   simp only[Instr.storeAt,Instr.sureAddr,af,Sem.run_bind,Sem.run_pure,Result.andThen_ok,storeVar,f8 i,m,ne_eq,not_true_eq_false,ZM]
   simp only[jh]
   exact bc
  ·simp at e
 ·simp at e
def G9:∀(n:Nat),(∀(m:Nat) (x c:q),n<=m->ba D x->ba D c->gJ n x c=true->Instr.sameBits m (af u x) (af u c)=true)/\
 ∀(m:Nat) (a b:List q),n<=m->ca D a->ca D b->gJ.mr n a b=true->(aR u a).length=(aR u b).length/\((aR u a).zip (aR u b)).all (λ(x,c)=>Instr.sameBits m x c)=true:=by
 intro n
 induction n with
 |zero=>
  refine⟨λm x c _ _ _ e=>by simp[gJ]at e, ?_⟩
  intro m a
  induction a with
  |nil=>intro b _ _ _ e;cases b<;>simp[gJ.mr]at e<;>simp[aR]
  |cons x a _=>intro b _ _ _ e;cases b<;>simp[gJ.mr,gJ]at e
 |succ n U=>
  have one:∀(m:Nat) (x c:q),n+1<=m->ba D x->ba D c->gJ (n+1) x c=true->Instr.sameBits m (af u x) (af u c)=true:=by
   intro m x c f p r e
   obtain⟨m,rfl⟩:∃k,m=k+1:=⟨m-1,Zo⟩
   unfold gJ at e
   split at e<;>(try(cases e;done))
   ·simpa[af,Instr.sameBits]using e
   ·simp at e;obtain⟨rfl,rfl⟩:=e;simp[af,Instr.sameBits]
   ·rename_i a b
    have:=(qf _ _).1 e
    subst this
    simp only[af,Instr.sameBits]
    rw[xa];simp
   ·rename_i b A s o'
    simp only[Zq]at e
    have d:b=s:=Zh e.1
    have w:A=o':=Zh e.2
    subst d;subst w
    simp[af,Instr.sameBits]
   ·simp[af,Instr.sameBits]
   ·simp[af,Instr.sameBits]
   ·rename_i t v C G
    simp only[Zq]at e
    have d:t=C:=Zh e.1
    subst d
    simp[af,Instr.sameBits,U.1 m v G Zo p r e.2]
   ·rename_i a b
    obtain⟨bc,bl⟩:=U.2 m a b Zo p r e
    simp only[af,Instr.sameBits,Zq,Y3]
    exact⟨by simpa using bc,by simpa using bl⟩
  refine⟨one, ?_⟩
  intro m a
  induction a with
  |nil=>intro b _ _ _ e;cases b<;>simp[gJ.mr]at e<;>simp[aR]
  |cons x a z=>
   intro b f g i e
   cases b with
   |nil=>simp[gJ.mr]at e
   |cons c b=>
    simp only[gJ.mr,Zq]at e
    obtain⟨bc,bl⟩:=z b f g.2 i.2 e.2
    simp only[aR,ZC,List.zip_cons_cons,List.all_cons,Zq]
    exact⟨Zo,one m x c f g.1 i.1 e.1,bl⟩
def yi{hq new:q}(go:ba D hq)(a:ba D new)(e:gJ 20 hq new=true):(Instr.keyThatStays (af u hq) (af u new)).run C.P w= .ok (af u new) w:=by
 simp[Instr.keyThatStays,(G9 (u:=u) (D:=D) 20).1 10000 hq new Zd go a e]
def tA{a2:Array MapEntry}{ak:List (q×q×Nat)}{i:Nat}{j:q×q×Nat}(a:a2.toList=ak.map (cG u))(e:ak[i]? =some j):a2[i]? =some (cG u j):=by
 rw[<-ZK,a,Zw,e];rfl
def uv{a2:Array MapEntry}{ak:List (q×q×Nat)}{i:Nat}{j a:q×q×Nat}(f:MapEntry->MapEntry)(b:a2.toList=ak.map (cG u))(e:ak[i]? =some j)
 (c:f (cG u j)=cG u a):(a2.modify i f).toList=(ak.set i a).map (cG u):=by
 apply Y9
 intro E
 rw[ZK,Y6,Zw,Yr]
 have d:i<ak.length:=(Zf.1 e).1
 by_cases j:i=E
 ·subst j
  rw[Zv rfl,Zv rfl,Zv d,tA b e]
  simp[c]
 ·rw[Zj j,Zj j, <-ZK,b,Zw]
def tX{ak:List (q×q×Nat)}{i:Nat}{a:q×q×Nat}(c:∀j∈ak,ba D j.1/\ba D j.2.1)(b:ba D a.1/\ba D a.2.1):∀j∈ak.set i a,ba D j.1/\ba D j.2.1:=by
 intro j e
 rcases YP e with e|e
 ·exact c j e
 ·rw[e];exact b
def D1(K:bA C u D S nx az w){t:Nat}{m k v:q}{O:bY}(f:ba D m)(b:ba D k)(dC:ba D v)(e:pe C S nx t m k v=some O):
 ∃B aK,O= .cu undef B nx/\(Instr.mapUpdate t (af u m) (af u k) (af u v)).run C.P w= .ok () aK/\bA C u D B nx az aK/\dU C nx u D S az w u D B aK:=by
 unfold pe at e
 split at e
 ·rename_i Z T0 r G
  split at e
  ·rename_i ak c n
   simp only[ce]at e
   obtain⟨x,e⟩:=e
   obtain⟨T1,z⟩:=rN x
   obtain⟨a2,aE,aW,a3,a4⟩:=iA K f n
   have s:=qQ (C:=C) (u:=u) (D:=D) (w:=w) (j:=false) 20 10000 Z k Zd b x
   split at e
   ·rename_i i L d
    have g:=nk K z b a4 d
    obtain⟨_,j,a,rfl⟩:=rt ak 0 i L d
    simp only[YI]at a
    rw[ic,a]at e
    obtain⟨co,T2,born⟩:=j
    simp only[ce]at e
    obtain⟨X,e⟩:=e
    obtain⟨rfl,Y⟩:=lz e
    have P:=a4 _ (Zg a)
    obtain⟨aK,bc,bl,p⟩:=nQ K (bs:=nx) Y f n (jZ:=c) (er:=ak.set i (k,v,born)) (uv (λj=>{j with key:=af u k,val:=af u v}) a3 a rfl) (tX a4 ⟨b,dC⟩)
    refine⟨_,aK,rfl, ?_,bl,p⟩
    simp[Instr.mapUpdate,run_underlying G,af,aE,s,a3,g,hE,tA a3 a,cG,yi P.1 b X,bc]
   ·rename_i d
    have g:=nk K z b a4 d
    obtain⟨rfl,Y⟩:=lz e
    obtain⟨aK,bc,bl,p⟩:=nQ K (bs:=nx) Y f n (jZ:=c+1) (er:=ak++[(k,v,c)]) (l3:=a2.push {key:=af u k,val:=af u v,born:=c}) (by simp[a3,cG])
     (λj a=>(Zr.1 a).elim (a4 j) (λa=>by simp at a;subst a;exact⟨b,dC⟩))
    refine⟨_,aK,rfl, ?_,bl,p⟩
    simp[Instr.mapUpdate,run_underlying G,af,aE,s,a3,g,hE,bc]
   ·simp at e
  ·simp at e
 ·simp at e
end
def Gy(ia bI:Nat)(a:ia+(ia+768)/4<=bI):∀(r c:Nat),c<=bI->Builtin.growBy ia r c<=bI:=by
 intro r
 induction r with
 |zero=>intro c e;exact e
 |succ r U=>
  intro c e
  simp only[Builtin.growBy]
  split
  ·exact e
  ·exact U _ Zo
def nextslicecap_le{ia mC:Nat}(e:mC<ia):Builtin.nextslicecap ia mC<=2*ia+200:=by
 unfold Builtin.nextslicecap
 split
 ·omega
 ·split
  ·omega
  ·exact Gy ia _ Zo 4 mC Zo
def JW{ia mC bytes:Nat}(e:mC<ia)(d:ia<=1048576)(Y:bytes<=65536):¬(Builtin.nextslicecap ia mC*bytes>2^48):=by
 have a:=nextslicecap_le e
 have b:Builtin.nextslicecap ia mC*bytes<=(2*1048576+200)*65536:=Nat.mul_le_mul Zo Y
 have c:(2:Nat)^48=281474976710656:=by decide
 omega
def wrap_small{n:Nat}(b:n<=1048576):IntKind.i64.wrap (n:Int)=n:=by
 rw[<-Bg]
 simp only[hV,cK,Zc]
 have a:(n:Int)%18446744073709551616=n:=Int.emod_eq_of_lt Zo Zo
 rw[a,Zv Zo]
def td{n b:Nat}(a:n<=1048576)(c:b<=65536):¬((281474976710656:Int)<(n:Int)*(b:Int)):=by
 have d:n*b<=1048576*65536:=Nat.mul_le_mul a c
 have:((n*b:Nat):Int)<=((1048576*65536:Nat):Int):=Int.ofNat_le.2 d
 rw[Int.natCast_mul]at this
 omega
def ky(P:Program)(w:World)(bP:TypeDesc)(X:Value)(i:TypeInfo)(z:Value)(n:Nat)(new:Array Value):Prop:=
 ((bP= .string\/∃j,bP= .slice j)/\(Builtin.lenOf X).run P w= .ok n w/\(Builtin.firstCells i.size n X).run P w= .ok new w/\(Builtin.firstCells i.size n X).run P w.drew= .ok new w.drew)\/
 ((∃J,bP= .int J)/\(∃k,X= .int k (Int.ofNat n))/\n<=1048576/\i.bytes<=65536/\n*i.size≠0/\new=Builtin.zeroCells z.cells n)
section
variable{P:Program}{w aK:World}{bu:Array TypeId}{ty st d4 bW:TypeId}{i:TypeInfo}{bP:TypeDesc}{base:Option Addr}{dl fh n:Nat}{X z:Value}{hq new:Array Value}
def qW{a:Addr}(d:bu[0]? =some st)(f:bu[1]? =some d4)(p:P.underlying st=some (.slice bW))(r:P.underlying d4=some bP)(ai:P.info? bW=some i)(G:i.zero=some z)
 (v:ky P w bP X i z n new)(g:dl+n<=fh)(m:(storeCells (a.add (dl*i.size)) new.toList).run P w= .ok () aK):
 (Builtin.append_ bu ty #[.slice (some a) dl fh,X]).run P w= .ok (.slice (some a) (dl+n) fh) aK:=by
 have s:(#[Value.slice (some a) dl fh,X]:Array Value)[0]? =some (.slice (some a) dl fh):=rfl
 have t:(#[Value.slice (some a) dl fh,X]:Array Value)[1]? =some X:=rfl
 clear s t
 rcases v with ⟨O,b,c,_⟩|⟨⟨J,rfl⟩,⟨k,rfl⟩,b,c,S,rfl⟩
 ·rcases O with rfl|⟨_,rfl⟩<;>simp[Builtin.append_,d,f,run_underlying p,run_underlying r,sizeOf,typeInfo,ai,b,g,c,m]
 ·have x:=td b c
  have ap:¬((n:Int)<0):=Zo
  have C:=wrap_small b
  simp[Builtin.append_,d,f,run_underlying p,run_underlying r,sizeOf,typeInfo,ai,asInt,asIntOf,C,x,ap,g,S,zeroValue,G,m]
def w2(c:bu[0]? =some st)(d:bu[1]? =some d4)(s:P.underlying st=some (.slice bW))(v:P.underlying d4=some bP)(ai:P.info? bW=some i)(x:i.zero=some z)
 (G:ky P w bP X i z n new)(m:¬(dl+n<=fh))(Y:i.bytes<=65536)(S:dl+n<=1048576)(p:(Builtin.firstCells i.size dl (.slice base dl fh)).run P w.drew= .ok hq w.drew):
 ∃cap,dl+n<=cap/\(Builtin.append_ bu ty #[.slice base dl fh,X]).run P w=
  .ok (.slice (some ⟨w.heap.size,0,none⟩) (dl+n) cap) (w.drew.alloc (.cells (hq++new++Builtin.zeroCells z.cells (cap-(dl+n))) bW)):=by
 have K:=JW (ia:=dl+n) (mC:=fh) Zo S Y
 have r:¬(281474976710656<Builtin.nextslicecap (dl+n) fh*i.bytes):=by
  have T1:(2:Nat)^48=281474976710656:=by decide
  omega
 have f:¬((9223372036854775807:Int)<(dl:Int)+(n:Int)):=Zo
 refine⟨dl+n+(w.tape w.drawn (.appendCap (dl+n) fh bW))%(2^63-(dl+n)),Zo, ?_⟩
 have t:w.drew.heap.size=w.heap.size:=rfl
 have g:IntKind.i64.max=9223372036854775807:=by decide
 rcases G with ⟨T0,a,C,b⟩|⟨⟨J,rfl⟩,⟨k,rfl⟩,a,C,b,rfl⟩
 ·rcases T0 with rfl|⟨_,rfl⟩<;>
   simp[Builtin.append_,c,d,run_underlying s,run_underlying v,sizeOf,typeInfo,ai,a,m,b,zeroValue,x,g,f,r,Question.forced,Question.cut,p,newRow,t]
 ·have O:=td a C
  have ap:¬((n:Int)<0):=Zo
  have Z:=wrap_small a
  simp[Builtin.append_,c,d,run_underlying s,run_underlying v,sizeOf,typeInfo,ai,asInt,asIntOf,Z,O,ap,m,b,zeroValue,x,g,f,r,Question.forced,Question.cut,p,newRow,t]
end
end Go.Q

