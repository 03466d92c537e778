/- Part of the proof of the last text; no conditions -/
import Derived.Test.YtmipngjbcdamjaaGreatDoorYa
import Derived.Laws.StructEq
import Derived.Laws.BytesString
import Derived.MapKept
import Derived.Laws.NewFold
import Derived.Laws.CopyRow
set_option maxHeartbeats 8000000
set_option linter.all false
namespace Go.S
open Go.RowKit (Below)
section
variable{C:aC}{A:bE}{F:Nat->Prop}{h:I ae}{j aB:Nat}{w:World}
def yY{a b:Nat}(c:a<256)(ab:b<256)(e:UInt8.ofNat a=UInt8.ofNat b):a=b:=by
 have:=congrArg UInt8.toNat e
 simp at this
 omega
def qh:∀(x c:List Nat),f5 x c=true↔x=c
 |[],[]=>by simp[f5]
 |[],_::_=>by simp[f5]
 |_::_,[]=>by simp[f5]
 |a::x,b::c=>by
  simp only[f5,Zq,qh x c,zj]
  exact⟨λ⟨e,l⟩=>⟨Zh e,l⟩,λ⟨e,l⟩=>⟨by rw[e];exact Y2 _,l⟩⟩
def H2:∀{x d:List Nat},(∀a∈x,a<256)->(∀a∈d,a<256)->x.map UInt8.ofNat=d.map UInt8.ofNat->x=d:=by
 intro x
 induction x with
 |nil=>intro d _ _ e;cases d with
  |nil=>rfl
  |cons b d=>simp at e
 |cons a x V=>
  intro d g i e
  cases d with
  |nil=>simp at e
  |cons b d=>
   simp only[ZS,zj]at e
   rw[yY (g a Zs) (i b Zs) e.1,V (λc f=>g c (by simp[f])) (λc f=>i c (by simp[f])) e.2]
def q2(s:List Nat):(cI s).toList=s.map UInt8.ofNat:=by
 rw[ByteArray.toList_eq];simp[cI]
def vc{x b:List Nat}(c:∀a∈x,a<256)(d:∀a∈b,a<256):((cI x).toList==(cI b).toList)=f5 x b:=by
 rw[Z8,qh,Y3,q2,q2]
 exact⟨H2 c d,λe=>by rw[e]⟩
def AS:∀{x d:List Nat},(∀a∈x,a<256)->(∀a∈d,a<256)->Op.bytesLess (x.map UInt8.ofNat) (d.map UInt8.ofNat)=mE x d
 |[],[],_,_=>rfl
 |[],_::_,_,_=>rfl
 |_::_,[],_,_=>rfl
 |a::x,b::d,i,m=>by
  have g:=i a Zs
  have ab:=m b Zs
  have V:=AS (λc f=>i c (Zi _ f)) (λc f=>m c (Zi _ f))
  simp only[ZS,Op.bytesLess,mE,V]
  have n:decide (UInt8.ofNat a<UInt8.ofNat b)=Nat.blt a b:=by
   rw[Z8,Zc,UInt8.lt_iff_toNat_lt]
   simp[Nat.blt,YM g,YM ab];omega
  have p:(UInt8.ofNat a==UInt8.ofNat b)=Nat.beq a b:=by
   rw[Z8,Y3]
   exact⟨λe=>by rw[yY g ab e];exact Y2 _,λe=>by rw[Zh e]⟩
  rw[n,p]
def sl(M:bD C A F h j aB w){b D:Nat}(ab:F b)(e:oS C h b D=true):
 ∃c n st a7 ty aF ak,J C h b=some (.cells c n st)/\D<n/\w.heap[(A b).bc]? =some (.cells a7 ty (aF,ak))/\ob st n (A b) a7.size aF ak/\(A b).b5+n<=a7.size/\st≠ .eC:=by
 unfold oS at e
 split at e
 ·simp at e
 ·rename_i c n st a d
  obtain⟨a7,ty,aF,ak,f,g,i,_⟩:=M.obj b _ d ab
  exact⟨c,n,st,a7,ty,aF,ak,d,e0 (by simpa using e),f,g,i,λl=>(by subst l;first|exact a _ d|exact a _ rfl|exact a rfl|exact a d|simp_all)⟩
 ·simp at e
def y7{b D:Nat}(e:sd C h b D=true):oS C h b D=true/\C.aP<=b/\∃c n,J C h b=some (.cells c n .own):=by
 unfold sd at e
 unfold oS
 split at e
 ·rename_i c n a
  simp only[a,Zq]at e ⊢
  exact⟨e.2,et e.1,c,n,rfl⟩
 ·simp at e
def u0{r:Nat}{a7:Array Value}{ty:TypeId}{f:Nat×Nat}(e:w.heap[r]? =some (.cells a7 ty f)):w.shape? r=some (ty,a7.size):=by
 simp[World.shape?,e]
def AA{P:Program}{p L:Nat}{x a:Nat}{aH aZ:Array Value}{G O:TypeId}{s m c n:Nat}(r:p≠L)
 (b:w.heap[p]? =some (.cells aH G (s,m)))(d:w.heap[L]? =some (.cells aZ O (c,n)))(Y:m<=s)(T0:x<aH.size)(T1:a<aZ.size)(Z:n<=c\/aZ.size<=c):
 (sameAddr ⟨p,x,none⟩ ⟨L,a,none⟩).run P w= .ok false w/\(sameAddr ⟨L,a,none⟩ ⟨p,x,none⟩).run P w= .ok false w:=by
 have f:w.frozen? ⟨p,x,none⟩=false:=by simp[World.frozen?,b];omega
 have g:w.frozen? ⟨L,a,none⟩=false:=by simp[World.frozen?,d];omega
 have i:w.frozen? ⟨p,aH.size,none⟩=false:=by simp[World.frozen?,b];omega
 have t:=u0 b
 have v:=u0 d
 have X:aH.size≠0:=Zo
 have z:aZ.size≠0:=Zo
 have C:L≠p:=λl=>r l.symm
 constructor
 ·simp[sameAddr,r,f,g,i,noView,viewAt,t,v,mayBeOne,stringish,z]
 ·simp[sameAddr,C,f,g,i,noView,viewAt,t,v,mayBeOne,stringish,X,z]
def Jh(M:bD C A F h j aB w){b D a o':Nat}{r:Bool}(ab:F b)(f:F a)(e:ptrEq C h b D a o'=some r):
 (sameAddr ⟨(A b).bc,(A b).b5+D,none⟩ ⟨(A a).bc,(A a).b5+o',none⟩).run C.P w= .ok r w:=by
 unfold ptrEq at e
 rw[d5]at e
 split at e
 ·rename_i l
  subst l
  simp at e;subst e
  simp only[sameAddr,Ym,ZP,Sem.run_pure]
  congr 1
  rw[Z8,Y3]
  constructor
  ·intro e;simp at e;rw[e];exact Y2 _
  ·intro e;rw[Zh e]
 ·rename_i Z
  simp only[cg,Yx,Zq,Zu]at e
  obtain⟨e,rfl⟩:=e
  rcases e with ⟨i,m⟩|⟨i,m⟩
  ·obtain⟨p,s,c,n,t⟩:=y7 i
   obtain⟨T0,aL,G,aH,T5,T2,T7,d,T9,O,X,bf,_⟩:=sl M ab p
   obtain⟨T1,aR,T4,aZ,T6,T3,T8,g,TY,P,Y,bo,z⟩:=sl M f m
   have x:G= .own:=by rw[t]at d;cases d;rfl
   subst x
   have v:(A b).bc≠(A a).bc:=by
    intro l
    rcases(M.sep b a _ _ d g ab f Z s l).1 with ⟨_,_,_,_,L,_⟩|⟨_,_,_,_,_,L,_⟩|⟨_,_,_,_,_,_,L,_⟩<;>cases L
   exact(AA v O P (zf X.symm) Zo Zo (Y.free z)).1
  ·obtain⟨p,s,c,n,t⟩:=y7 i
   obtain⟨T0,aL,G,aH,T5,T2,T7,d,T9,O,X,bf,_⟩:=sl M f p
   obtain⟨T1,aR,T4,aZ,T6,T3,T8,g,TY,P,Y,bo,z⟩:=sl M ab m
   have x:G= .own:=by rw[t]at d;cases d;rfl
   subst x
   have v:(A a).bc≠(A b).bc:=by
    intro l
    rcases(M.sep a b _ _ d g f ab (λL=>Z L.symm) s l).1 with ⟨_,_,_,_,L,_⟩|⟨_,_,_,_,_,L,_⟩|⟨_,_,_,_,_,_,L,_⟩<;>cases L
   exact(AA v O P (zf X.symm) Zo Zo (Y.free z)).2
def DP{eq:Nat->y->y->Option Bool}{d:Nat}(m:∀t x i r,bd F x->bd F i->eq t x i=some r->(Op.equalIn d t (ai A x) (ai A i)).run C.P w= .ok r w):
 ∀(eL:List Field) (c g:List y) (r:Bool),cd F c->cd F g->pf C eq eL c g=some r->(Op.eqFields d (aU A c).toArray (aU A g).toArray eL).run C.P w= .ok r w:=by
 intro eL
 induction eL with
 |nil=>intro c g r _ _ e;simp[pf]at e;subst e;simp[Op.eqFields]
 |cons f eL V=>
  intro c g r p s e
  simp only[pf,ov,beq_eq_false_iff_ne]at e
  obtain⟨n,e⟩:=e
  split at e
  ·rename_i a b v ab
   obtain⟨aH,aZ⟩:=ph (A:=A) (w:=w) p v
   obtain⟨b2,be⟩:=ph (A:=A) (w:=w) s ab
   split at e
   ·rename_i l
    simp only[Op.eqFields,n,ne_eq,not_false_eq_true,ZP,Sem.run_bind,aH,b2,m _ _ _ _ aZ be l,Result.andThen_ok,Yn,ZR,ZM]
    exact V c g r p s e
   ·rename_i l
    simp at e;subst e
    simp only[Op.eqFields,n,ne_eq,not_false_eq_true,ZP,Sem.run_bind,aH,b2,m _ _ _ _ aZ be l,Result.andThen_ok,Yl,Sem.run_pure]
   ·simp at e
  ·simp at e
def s2(M:bD C A F h j aB w):∀(d f:Nat) (t:Nat) (x g:y) (r:Bool),d<=f->bd F x->bd F g->fW C h d t x g=some r->
 (Op.equalIn f t (ai A x) (ai A g)).run C.P w= .ok r w:=by
 intro d
 induction d with
 |zero=>intro f t x g r _ _ _ e;simp[fW]at e
 |succ d V=>
  intro f t x g r T1 m n e
  obtain⟨f,rfl⟩:∃l,f=l+1:=⟨f-1,Zo⟩
  unfold fW at e
  split at e
  ·rename_i c;simp at e;subst e;simp[Op.equalIn,run_underlying c,ai]
  ·rename_i c;simp at e;obtain⟨rfl,rfl⟩:=e;simp[Op.equalIn,run_underlying c,ai];rfl
  ·rename_i a b c
   simp at e;subst e
   rw[ai,ai,run_equalIn_string w f t _ _ c,vc m n]
  ·rename_i c;simp at e;subst e;simp[Op.equalIn,run_underlying c,ai]
  ·rename_i c;simp at e;subst e;simp[Op.equalIn,run_underlying c,ai]
  ·rename_i c;simp at e;subst e;simp[Op.equalIn,run_underlying c,ai]
  ·rename_i l b D T0 o' c
   split at e
   ·rename_i s O
    rw[d5]at e
    split at e
    ·simp at e
    ·rename_i P
     have:=Jh M m n e
     simp[Op.equalIn,run_underlying c,ai,gb O,P,this]
   ·simp at e
  ·rename_i c;simp at e;subst e;simp[Op.equalIn,run_underlying c,ai]
  ·rename_i c;simp at e;subst e;simp[Op.equalIn,run_underlying c,ai]
  ·rename_i c;simp at e;subst e;simp[Op.equalIn,run_underlying c,ai]
  ·rename_i X Y ty Z c
   rw[d5]at e
   split at e
   ·rename_i l
    subst l
    split at e
    ·rename_i i ak
     simp only[cg]at e
     obtain⟨z,e⟩:=e
     have:=V f X Y Z r Zo m n e
     simp[Op.equalIn,run_underlying c,ai,typeInfo,ak,z,this]
    ·simp at e
   ·rename_i l
    simp at e;subst e
    simp[Op.equalIn,run_underlying c,ai,l]
  all_goals first
   |(rename_i c;simp at e;subst e;simp[Op.equalIn,run_underlying c,ai];done)
   |skip
  ·rename_i v T2 T3 c
   simp only[ov]at e
   obtain⟨G,e⟩:=e
   have p:C.P.fieldsOf t=v:=by simp[Program.fieldsOf,c]
   rw[ai,ai,run_equalIn_struct w f t _ _ (by rw[p];exact c) G,p]
   exact DP (λt x g r m n e=>V f t x g r Zo m n e) _ _ _ _ m n e
  ·simp at e
end
section
variable{C:aC}{A:bE}{F:Nat->Prop}{h:I ae}{j aB:Nat}{w:World}
def binOp_eql{t:TypeId}{X c:Value}(d:∀o a ct b,¬(X= .int o a/\c= .int ct b))(f:∀a b,¬(X= .string a/\c= .string b))
 (g:∀o a,X≠ .float o a)(i:∀o a b,X≠ .complex o a b):binOp .eql t X c=(do pure (.bool (<-Op.equal t X c)))/\binOp .neq t X c=(do pure (.bool (!(<-Op.equal t X c)))):=by
 constructor
 ·unfold binOp
  split
  all_goals first
   |rfl
   |exact absurd ⟨rfl,rfl⟩ (d _ _ _ _)
   |exact absurd ⟨rfl,rfl⟩ (f _ _)
   |exact absurd rfl (g _ _)
   |exact absurd rfl (i _ _ _)
   |simp_all
 ·unfold binOp
  split
  all_goals first
   |rfl
   |exact absurd ⟨rfl,rfl⟩ (d _ _ _ _)
   |exact absurd ⟨rfl,rfl⟩ (f _ _)
   |exact absurd rfl (g _ _)
   |exact absurd rfl (i _ _ _)
   |simp_all
def xj(A:bE)(v:y):(∀o a,ai A v≠ .float o a)/\∀o a b,ai A v≠ .complex o a b:=by
 cases v<;>simp[ai]
def Fw{m:Nat}{t:TypeId}{a:Array (String×TypeId)}(c:C.P.underlying t=some (.interface a))(b:a.isEmpty=true):(Op.eqGuardIn (m+1) t .nilIface .nilIface).run C.P w= .ok false w:=by
 simp[Op.eqGuardIn,run_underlying c,b]
def Fx{op:BinOp}{t:TypeId}{x b:Operand}{X a:Value}(e:(hO x||hO b)=true)(f:∀c d,¬(X= .agg c/\a= .agg d)):
 (eqGuard op t x b X a).run C.P w= .ok () w:=by
 cases op<;>first|rfl|(cases x<;>cases b<;>first|(simp[hO]at e;done)|(cases X<;>cases a<;>first|rfl|exact absurd ⟨rfl,rfl⟩ (f _ _)))
def Fy{op:BinOp}{t:TypeId}{x b:Operand}{a:Array (String×TypeId)}(f:C.P.underlying t=some (.interface a))(d:a.isEmpty=true):
 (eqGuard op t x b .nilIface .nilIface).run C.P w= .ok () w:=by
 have key:=Fw (C:=C) (w:=w) (m:=9999) f d
 have c:Op.maxDepth=9999+1:=rfl
 cases op<;>first|rfl|(cases x<;>cases b<;>first|rfl|(simp[eqGuard,c,key];done))
def Fz{op:BinOp}{t:TypeId}{x b:Operand}(e:(hO x||hO b||(match C.P.underlying t with|some (.interface c)=>c.isEmpty|_=>false))=true):
 (eqGuard op t x b .nilIface .nilIface).run C.P w= .ok () w:=by
 by_cases a:(hO x||hO b)=true
 ·exact Fx a Zs
 ·have a:(hO x||hO b)=false:=by simpa using a
  rw[a,Bool.false_or]at e
  split at e
  ·rename_i c d
   exact Fy d e
  ·simp at e
def FA{op:BinOp}{t:TypeId}{x g:Operand}{X a:Value}(b:¬(X= .nilIface/\a= .nilIface))(f:∀c d,¬(X= .agg c/\a= .agg d)):
 (eqGuard op t x g X a).run C.P w= .ok () w:=by
 cases op<;>first|rfl|(cases X<;>cases a<;>first|rfl|exact absurd ⟨rfl,rfl⟩ b|exact absurd ⟨rfl,rfl⟩ (f _ _))
def rn{op:BinOp}{t:TypeId}{x i:Operand}{a b:y}(e:oB C t (hO x||hO i) a b=true):
 (eqGuard op t x i (ai A a) (ai A b)).run C.P w= .ok () w:=by
 unfold oB at e
 split at e
 ·exact Fz e
 ·simp only[ai]
  exact run_eqGuard_agg w op t x i _ _ (by simpa using e)
 ·rename_i aL aR
  refine FA ?_ ?_
  ·rintro⟨f,g⟩
   cases a<;>simp[ai]at f
   cases b<;>simp[ai]at g
   exact aL rfl rfl
  ·rintro c d ⟨f,g⟩
   cases a<;>simp[ai]at f
   cases b<;>simp[ai]at g
   exact aR _ _ rfl rfl
def D2{op:BinOp}{x b:List Nat}{v:y}(c:∀a∈x,a<256)(d:∀a∈b,a<256)(e:m8 op x b=some v):
 (Op.stringOp op (cI x) (cI b)).run C.P w= .ok (ai A v) w/\bd F v:=by
 have f:=vc c d
 have g:Op.bytesLess (cI x).toList (cI b).toList=mE x b:=by rw[q2,q2];exact AS c d
 cases op<;>simp only[m8,jZ,cg,Zu]at e<;>
  first
  |(
    obtain⟨i,rfl⟩:=e
    constructor
    ·have m:(cI x).size=x.length:=by simp[cI,ByteArray.size]
     have n:(cI b).size=b.length:=by simp[cI,ByteArray.size]
     have r:=et i
     simp only[Op.stringOp,m,n]
     rw[Zj (by simp[IntKind.max,IntKind.signed,IntKind.bits];omega)]
     simp only[Sem.run_pure,ai]
     congr 2
     apply ByteArray.ext
     simp[cI]
    ·simp only[bd]
     intro z p
     rcases Zr.1 p with e|e
     ·exact c z e
     ·exact d z e)
  |(subst e;exact⟨by simp only[Op.stringOp,f,g,Sem.run_pure,ai],trivial⟩)
  |(simp at e)
def Hi(M:bD C A F h j aB w){op:BinOp}{t:Nat}{x f:Operand}{af:Operand->Value}{P:Operand->Option y}{v:y}(O:ei A F af P [x,f])
 (e:rO C op t x f h P=some v):(do eqGuard op t x f (af x) (af f);binOp op t (af x) (af f):Sem Value).run C.P w= .ok (ai A v) w/\bd F v:=by
 unfold rO at e
 split at e
 ·rename_i a b Z ab
  obtain⟨X,n⟩:=O x Zs a Z
  obtain⟨Y,p⟩:=O f Zs b ab
  rw[X,Y]
  unfold ce at e
  split at e
  ·rename_i o i ct H
   obtain⟨c,d,_⟩:=wS (C:=C) (A:=A) (F:=F) (w:=w) t e
   refine⟨?_,d⟩
   rw[Sem.run_bind,rn (by simp[oB])]
   exact c
  ·rename_i s T6
   obtain⟨c,d⟩:=D2 (C:=C) (A:=A) (F:=F) (w:=w) n p e
   refine⟨?_,d⟩
   rw[Sem.run_bind,rn (by simp[oB])]
   simp only[Result.andThen_ok,ai,binOp]
   exact c
  ·rename_i T3 c9
   simp only[cg]at e
   obtain⟨T2,e⟩:=e
   have G:∀r,fW C h 50 t a b=some r->(Op.equal t (ai A a) (ai A b)).run C.P w= .ok r w:=λr g=>s2 M 50 _ t a b r Zd n p g
   have T0:∀o z ct m,¬(ai A a= .int o z/\ai A b= .int ct m):=by
    intro o z ct m ⟨c,d⟩
    cases a<;>simp[ai]at c
    cases b<;>simp[ai]at d
    exact T3 _ _ _ _ rfl rfl
   have T1:∀z m,¬(ai A a= .string z/\ai A b= .string m):=by
    intro z m ⟨c,d⟩
    cases a<;>simp[ai]at c
    cases b<;>simp[ai]at d
    exact c9 _ _ rfl rfl
   obtain⟨T4,T5⟩:=binOp_eql (t:=t) T0 T1 (xj A a).1 (xj A a).2
   rw[Sem.run_bind,rn T2]
   split at e
   ·split at e
    ·rename_i r g
     simp at e;subst e
     exact⟨by simp[T4,G r g,ai],trivial⟩
    ·simp at e
   ·split at e
    ·rename_i r g
     simp at e;subst e
     exact⟨by simp[T5,G r g,ai],trivial⟩
    ·simp at e
   ·simp at e
 ·simp at e
end
section
variable{C:aC}{A:bE}{F:Nat->Prop}{h:I ae}{j aB:Nat}{w:World}
def DO{s d:Nat}{x v:y}(c:bd F x)(e:s1 C s d x=some v):(convert s d (ai A x)).run C.P w= .ok (ai A v) w/\bd F v:=by
 unfold s1 at e
 split at e
 ·rename_i f o g n b a
  simp at e;subst e
  simp[convert,run_underlying b,run_underlying a,Conv.intToInt,ai,bd]
 ·rename_i f s b a
  simp at e;subst e
  refine⟨?_,c⟩
  simp[convert,run_underlying b,run_underlying a,ai]
 ·simp at e
def EA:∀{k:List y}{s:List Nat},nc k=some s->∃c9:List Nat,k=c9.map (λn=>y.int .u8 (Int.ofNat n))/\s=c9.map (·%256):=by
 intro k
 induction k with
 |nil=>intro s e;simp[nc]at e;subst e;exact⟨[],rfl,rfl⟩
 |cons a k V=>
  intro s e
  unfold nc at e
  split at e
  ·rename_i f;simp at f
  ·rename_i n g b
   simp only[zj]at b
   obtain⟨rfl,rfl⟩:=b
   split at e
   ·rename_i r M
    simp at e;subst e
    obtain⟨c9,c,d⟩:=V M
    exact⟨n::c9,by simp[c],by simp[d]⟩
   ·simp at e
  ·simp at e
def F6(c9:List Nat):∀r:ByteArray,(c9.map Int.ofNat).foldl (λr (n:Int)=>r.push (UInt8.ofNat n.toNat)) r=⟨r.data++(c9.map UInt8.ofNat).toArray⟩:=by
 induction c9 with
 |nil=>intro r;simp
 |cons n c9 V=>
  intro r
  simp only[ZS,ZU,V]
  congr 1
  apply YC
  simp[ByteArray.push]
def ma(M:bD C A F h j aB w){b D n:Nat}{k:List y}(ab:F b)(e:fY C h b D n=some k):
 (loadCells ⟨(A b).bc,(A b).b5+D,none⟩ n).run C.P w= .ok (aU A k).toArray w/\cd F k:=by
 unfold fY at e
 split at e
 ·rename_i c d;exact q5 M ab d e
 ·simp only[cg,Zu]at e
  obtain⟨a,rfl⟩:=e
  have:n=0:=Zh a
  subst this
  refine⟨?_,trivial⟩
  have au:=run_loadCells_list (P:=C.P) w ⟨(A b).bc,(A b).b5+D,none⟩ [] (λH v f=>by simp at f)
  simpa[aU]using au
def A0(M:bD C A F h j aB w){b D n cap:Nat}{k:List y}{s:List Nat}(ab:F b)(e:fY C h b D n=some k)(f:nc k=some s):
 (Conv.bytesToString (.slice (some ⟨(A b).bc,(A b).b5+D,none⟩) n cap)).run C.P w= .ok (ai A (.str s)) w/\bd F (.str s):=by
 obtain⟨c,_⟩:=ma M ab e
 obtain⟨c9,rfl,rfl⟩:=EA f
 have d:=run_bytesToString (P:=C.P) w ⟨(A b).bc,(A b).b5+D,none⟩ n cap (c9.map Int.ofNat) (by
  rw[c];congr 2
  rw[hk,YH,YH];rfl)
 constructor
 ·rw[d,F6]
  congr 2
  simp only[cI,YH]
  congr 1
  apply YC
  simp
  intro a _
  exact UInt8.toNat_inj.1 Zs
 ·simp only[bd]
  intro x g
  obtain⟨i,_,rfl⟩:=ZB.1 g
  exact zt _ Zd
def D3(M:bD C A F h j aB w){x v:y}(g:bd F x)(e:qW C h x=some v):(Conv.bytesToString (ai A x)).run C.P w= .ok (ai A v) w/\bd F v/\∃a k c,ai A x= .slice a k c:=by
 unfold qW at e
 split at e
 ·simp at e;subst e;exact⟨rfl,by simp[bd],_,_,_,rfl⟩
 ·split at e
  ·rename_i k au
   split at e
   ·rename_i s f
    simp at e;subst e
    obtain⟨b,d⟩:=A0 M g au f
    exact⟨b,d,_,_,_,rfl⟩
   ·simp at e
  ·simp at e
 ·split at e
  ·rename_i k au
   split at e
   ·rename_i s f
    simp at e;subst e
    obtain⟨b,d⟩:=A0 M g au f
    exact⟨b,d,_,_,_,rfl⟩
   ·simp at e
  ·simp at e
 ·simp at e
def Hj(M:bD C A F h j aB w){s d:Nat}{x:Operand}{af:Operand->Value}{f:Operand->Option y}{v:y}(P:ei A F af f [x])
 (e:p0 C s d x h f=some v):(convert s d (af x)).run C.P w= .ok (ai A v) w/\bd F v:=by
 unfold p0 at e
 split at e
 ·rename_i a r
  obtain⟨l,g⟩:=P x Zs a r
  rw[l]
  split at e
  ·rename_i N z
   simp at e;subst e
   exact DO g z
  ·split at e
   ·rename_i m O G
    split at e
    ·rename_i t
     obtain⟨b,n,i,k,c,p⟩:=D3 M g e
     refine⟨?_,n⟩
     rw[p]at b ⊢
     rw[run_convert_bytes_string w s d m i k c O t G]
     exact b
    ·simp at e
   ·simp at e
 ·simp at e
def nz{D:Option y}{m d r:Nat}(e:hq D m d=some r):(D=none/\r=d)\/∃o,D=some (.int o (Int.ofNat r))/\r<=m:=by
 unfold hq at e
 split at e
 ·rename_i v
  split at e
  ·rename_i n b
   simp only[cg,Zu]at e
   obtain⟨a,rfl⟩:=e
   obtain⟨o,rfl⟩:=nG b
   exact .inr ⟨o,rfl,et a⟩
  ·simp at e
 ·simp at e;exact .inl ⟨rfl,e.symm⟩
def run_sliceBound{P:Program}{o:IntKind}{n a:Nat}{code:BoundsCode}(e:n<=a):(Instr.sliceBound (.int o (Int.ofNat n)) a code).run P w= .ok n w:=by
 have b:(0:Int)<=Int.ofNat n/\Int.ofNat n<=(a:Int):=⟨Int.natCast_nonneg n,Int.ofNat_le.2 e⟩
 simp only[Instr.sliceBound,asIntOf,Sem.run_bind,Sem.run_pure,Result.andThen_ok]
 rw[Zv b]
 rfl
def pq{oK:Bool}{len cap i:Nat}{aF ak c:Option y}{k e m:Nat}(d:cap<=i)(ab:gW len cap aF ak c=some (k,e,m)):
 (Instr.sliceBounds oK len i (aF.map (ai A)) (ak.map (ai A)) (c.map (ai A))).run C.P w= .ok (k,e,if c.isSome then m else i) w/\k<=e/\(c=none->m=cap)/\m<=cap/\(e<=m\/e=len):=by
 unfold gW at ab
 split at ab
 ·simp at ab
 ·rename_i s v
  split at ab
  ·simp at ab
  ·rename_i n p
   split at ab
   ·simp at ab
   ·rename_i G au
    simp at ab
    obtain⟨rfl,rfl,rfl⟩:=ab
    have t:G<=n:=by
     rcases nz au with ⟨_,rfl⟩|⟨o,_,a⟩
     ·exact zc _
     ·exact a
    cases c with
    |none=>
     have x:s=cap:=by simpa[hq]using v.symm
     subst x
     have f:hq ak s len=some n:=by cases ak<;>exact p
     refine⟨?_,t,λ_=>rfl,Zp _,(nz f).elim (λe=> .inr e.2) (λ⟨_,_,e⟩=> .inl e)⟩
     rcases nz f with ⟨rfl,rfl⟩|⟨o,rfl,a⟩<;>rcases nz au with ⟨rfl,rfl⟩|⟨bo,rfl,g⟩
     ·simp[Instr.sliceBounds]
     ·simp only[Instr.sliceBounds,YD,ZJ,ai,Sem.run_bind,Sem.run_pure,Result.andThen_ok,run_sliceBound g,Z4,ZR,ZM]
     ·simp only[Instr.sliceBounds,YD,ZJ,ai,Sem.run_bind,Sem.run_pure,Result.andThen_ok,run_sliceBound (ZD a d),Z4,ZR,ZM]
     ·simp only[Instr.sliceBounds,YD,ZJ,ai,Sem.run_bind,Sem.run_pure,Result.andThen_ok,run_sliceBound (ZD a d),run_sliceBound g,Z4,ZR,ZM]
    |some O=>
     rcases nz v with ⟨b,_⟩|⟨o,b,a⟩
     ·cases b
     ·cases b
      cases ak with
      |none=>simp at p
      |some z=>
       have f:hq (some z) s len=some n:=p
       rcases nz f with ⟨b,_⟩|⟨ct,b,r⟩
       ·cases b
       ·cases b
        refine⟨?_,t,(λe=>by cases e),a, .inl r⟩
        rcases nz au with ⟨rfl,rfl⟩|⟨bo,rfl,g⟩
        ·simp only[Instr.sliceBounds,YD,ZJ,ai,Sem.run_bind,Sem.run_pure,Result.andThen_ok,run_sliceBound (ZD a d),run_sliceBound r,Ya,ZP]
        ·simp only[Instr.sliceBounds,ZJ,ai,Sem.run_bind,Sem.run_pure,Result.andThen_ok,run_sliceBound (ZD a d),run_sliceBound r,run_sliceBound g,Ya,ZP]
end
section
variable{C:aC}{A:bE}{F:Nat->Prop}{h:I ae}{j aB:Nat}{w:World}
def EN(m k D ap:Nat):aT (Nat.beq m k) D (D+k*ap)=if m=k then D else D+k*ap:=d5 _ _ _ _
def AK(M:bD C A F h j aB w){b n:Nat}(ab:F b)(e:jK C h b=some n):n<=(A b).room:=by
 unfold jK at e
 split at e
 ·rename_i c m cj d
  simp at e;subst e
  obtain⟨a7,ty,aF,ak,_,a,_,_⟩:=M.obj b _ d ab
  exact a.2.1
 ·rename_i c m d
  simp at e;subst e
  obtain⟨a7,ty,aF,ak,_,a,_,_⟩:=M.obj b _ d ab
  exact a.2.1
 ·simp at e
def u7{b D k e m ap:Nat}:Value.slice (some (if m=k then(⟨(A b).bc,(A b).b5+D,none⟩:Addr)else(⟨(A b).bc,(A b).b5+D,none⟩:Addr).add (k*ap))) (e-k) (m-k)
 =ai A (.slice b (aT (Nat.beq m k) D (D+k*ap)) (e-k) (m-k)):=by
 rw[EN]
 simp only[ai,h6]
 split
 ·rfl
 ·rw[Z1]
def D1(M:bD C A F h j aB w){t:Nat}{x v:y}{aF ak f:Option y}(i:bd F x)(e:qV C h t x aF ak f=some v):
 (Instr.sliceAt t (ai A x) (aF.map (ai A)) (ak.map (ai A)) (f.map (ai A))).run C.P w= .ok (ai A v) w/\bd F v:=by
 unfold qV at e
 split at e
 ·rename_i s d
  cases f with
  |some _=>simp at e
  |none=>
   simp only at e
   split at e
   ·rename_i k g m ab
    simp at e;subst e
    obtain⟨a,O,_⟩:=pq (C:=C) (A:=A) (w:=w) (oK:=false) (Zp _) ab
    have c:(cI s).size=s.length:=by simp[cI,ByteArray.size]
    constructor
    ·simp only[YD,Z4,ZR,ZM]at a
     simp[Instr.sliceAt,run_underlying d,Instr.slice,ai,c,a]
     apply ByteArray.ext
     rw[ByteArray.data_extract]
     apply YC
     simp[cI,List.map_take,List.map_drop,List.take_drop]
    ·simp only[bd]at i ⊢
     intro z T3
     exact i z (List.mem_of_mem_drop (YS T3))
   ·simp at e
 ·rename_i bZ b D len cap d
  split at e
  ·rename_i k g m ap ab c
   simp at e;subst e
   obtain⟨a,O,p,_⟩:=pq (C:=C) (A:=A) (w:=w) (oK:=true) (Zp cap) ab
   have G:(if f.isSome=true then m else cap)=m:=by cases f with
    |none=>simp[p rfl]
    |some _=>rfl
   rw[G]at a
   refine⟨?_,i⟩
   have:=u7 (A:=A) (b:=b) (D:=D) (k:=k) (e:=g) (m:=m) (ap:=ap)
   simp only[Instr.sliceAt,Sem.run_bind,run_underlying d,Result.andThen_ok,Instr.slice,ai,a,gb c,Sem.run_pure]
   rw[<-ai, <-this]
   split<;>rfl
  ·simp at e
 ·rename_i bZ d
  split at e
  ·rename_i r ap ab c
   obtain⟨k,g,m⟩:=r
   simp at e;subst e
   obtain⟨a,O,p,T5,T6⟩:=pq (C:=C) (A:=A) (w:=w) (oK:=true) (Zp 0) ab
   have G:m=0:=Zo
   have T1:g=0:=Zo
   have au:k=0:=Zo
   subst G;subst T1;subst au
   refine⟨?_,trivial⟩
   have Z:(Instr.sliceBounds true 0 0 (aF.map (ai A)) (ak.map (ai A)) (f.map (ai A))).run C.P w= .ok (0,0,0) w:=by rw[a];split<;>rfl
   simp[Instr.sliceAt,run_underlying d,Instr.slice,ai,Z,gb c]
  ·simp at e
 ·rename_i bZ b D len ap d
  split at e
  ·rename_i T4 n c T2
   simp only[cg,Zq]at e
   obtain⟨⟨P,X⟩,e⟩:=e
   have P:ap=T4:=Zh P
   subst P
   have X:0<ap:=e0 X
   have T7:=AK M i T2
   have T0:(n-D)/ap<=((A b).room-D)/ap:=Nat.div_le_div_right Zo
   split at e
   ·rename_i k g m ab
    obtain⟨a,O,p,_⟩:=pq (C:=C) (A:=A) (w:=w) (oK:=true) T0 ab
    cases f with
    |some T8=>
     simp at e;subst e
     refine⟨?_,i⟩
     have:=u7 (A:=A) (b:=b) (D:=D) (k:=k) (e:=g) (m:=m) (ap:=ap)
     simp only[Ya,ZP]at a
     simp only[Instr.sliceAt,Sem.run_bind,run_underlying d,Result.andThen_ok,Instr.slice,ai,a,gb c,Sem.run_pure]
     rw[<-ai, <-this]
     split<;>rfl
    |none=>
     simp only[cg,Zu,Yx]at e
     obtain⟨au,rfl⟩:=e
     refine⟨?_,i⟩
     simp only[Z4,ZR,ZM]at a
     simp only[Instr.sliceAt,Sem.run_bind,run_underlying d,Result.andThen_ok,Instr.slice,ai,a,gb c,Sem.run_pure]
     have Y:((A b).room-(D+k*ap))/ap=((A b).room-D)/ap-k:=by
      rw[<-Nat.sub_sub,Nat.mul_comm k ap,Nat.sub_mul_div]
     rw[Y]
     congr 1
     congr 1
     rcases au with au|au
     ·have au:=e0 au
      rw[Zj Zo,ZJ,h6,Z1]
     ·have au:k=0:=Zh au
      subst au
      split<;>simp[h6]
   ·simp at e
  ·simp at e
 ·rename_i n bZ b D d
  split at e
  ·rename_i k g m ap ab c
   simp at e;subst e
   obtain⟨a,O,p,_⟩:=pq (C:=C) (A:=A) (w:=w) (oK:=false) (Zp n) ab
   have G:(if f.isSome=true then m else n)=m:=by cases f with
    |none=>simp[p rfl]
    |some _=>rfl
   rw[G]at a
   refine⟨?_,i⟩
   have:=u7 (A:=A) (b:=b) (D:=D) (k:=k) (e:=g) (m:=m) (ap:=ap)
   simp only[Instr.sliceAt,Sem.run_bind,run_underlying d,Result.andThen_ok,Instr.sureAddr,ai,a,gb c,Sem.run_pure]
   rw[<-ai, <-this]
  ·simp at e
 ·simp at e
end
section
variable{C:aC}{A:bE}{F:Nat->Prop}{h:I ae}{j aB:Nat}{w:World}
def J3{α:Type}{P:Program}(f:α->PUnit->Sem (ForInStep PUnit)):∀(k:List α),(∀a∈k,(f a ⟨⟩).run P w= .ok (.yield ⟨⟩) w)->(forIn k PUnit.unit f).run P w= .ok ⟨⟩ w:=by
 intro k
 induction k with
 |nil=>intro _;simp[Sem.run_pure]
 |cons a k V=>intro e;simp[List.forIn_cons,e a Zs,V λb ab=>e b (by simp[ab])]
def qS{l:Bool}:∀(n m t:Nat) (v:y),n<=m->bd F v->fX C n t v=true->(Instr.checkKey l m t (ai A v)).run C.P w= .ok () w:=by
 intro n
 induction n with
 |zero=>intro m t v _ _ e;simp[fX]at e
 |succ n V=>
  intro m t v Y g e
  obtain⟨m,rfl⟩:∃o,m=o+1:=⟨m-1,Zo⟩
  unfold fX at e
  split at e
  ·rename_i Z d x a
   split at e
   ·rename_i i ak
    simp only[Zq]at e
    have:=V m d x Zo g e.2
    simp[Instr.checkKey,run_underlying a,ai,typeInfo,ak,e.1,this]
   ·simp at e
  ·rename_i a;simp[Instr.checkKey,run_underlying a,ai]
  ·simp at e
  ·rename_i X cs a
   simp only[Instr.checkKey,Sem.run_bind,run_underlying a,Result.andThen_ok,ai]
   rw[<-Array.forIn_toList]
   refine(congrArg (λr=>Result.andThen r _) (J3 _ _ ?_)).trans rfl
   intro f s
   have:=Yy.1 e f s
   simp only[Yx,Y3]at this
   by_cases c:f.name= "_"
   ·simp[c]
   ·rcases this with b|b
    ·exact absurd b c
    ·split at b
     ·rename_i p z
      obtain⟨O,P⟩:=ph (A:=A) (w:=w) g z
      simp[c,O,V m f.type p Zo P b]
     ·simp at b
  ·simp at e
  ·simp at e
  ·rename_i d aL aR G a T0 T1 T2
   simp only[Instr.checkKey,Sem.run_bind,run_underlying a,Result.andThen_ok]
   cases d<;>first
    |exact(aL _ rfl).elim
    |exact(aR _ rfl).elim
    |exact(G _ _ rfl).elim
    |rfl
  ·simp at e
def xk{x:y}{o:IntKind}{a:Int}(e:ai A x= .int o a):x= .int o a:=by
 cases x<;>simp[ai]at e
 obtain⟨rfl,rfl⟩:=e;rfl
def xi{x:y}{a:Bool}(e:ai A x= .bool a):x= .bool a:=by
 cases x<;>simp[ai]at e
 subst e;rfl
def xl{x:y}{a:ByteArray}(e:ai A x= .string a):∃s,x= .str s/\a=cI s:=by
 cases x<;>simp[ai]at e
 exact⟨_,rfl,e.symm⟩
def xb(a b:ByteArray):(a==b)=(a.toList==b.toList):=by
 show(a.data==b.data)=_
 rw[Z8,Y3,Y3,ByteArray.toList_eq,ByteArray.toList_eq]
 exact⟨λe=>by rw[e],λe=>Array.toList_inj.1 e⟩
def AB{d t:Nat}{n:TypeDesc}{x m:y}{r p:Bool}(i:C.P.underlying t=some n)(v:bd F x)(w:bd F m)
 (e:fW C h d t x m=some r)(c:Instr.sameNow n (ai A x) (ai A m)=some p):r=p:=by
 cases d with
 |zero=>simp[fW]at e
 |succ d=>
  unfold Instr.sameNow at c
  split at c
  ·rename_i z o a ct b f g
   rw[xk f,xk g]at e
   simp[fW,i]at e
   split at c
   ·simp at c;rw[<-c, <-e.2];rfl
   ·simp at c
  ·rename_i a b f g
   obtain⟨s,rfl,rfl⟩:=xl f
   obtain⟨G,rfl,rfl⟩:=xl g
   simp[fW,i]at e
   simp at c
   rw[<-c, <-e,xb,vc v w]
  ·rename_i a b f g
   rw[xi f,xi g]at e
   simp[fW,i]at e
   simp at c;rw[<-c, <-e]
  ·simp at c
def hJ(A:bE)(r:Option (Nat×y)):Option (Nat×Value):=r.map λx=>(x.1,ai A x.2)
def FY{t:Nat}{p:TypeDesc}{o:y}(n:C.P.underlying t=some p)(m:bd F o):∀(am:List (y×y×Nat)) (i:Nat) (r:Option (Nat×y)) (d:Option (Nat×Value)),
 (∀l∈am,bd F l.1/\bd F l.2.1)->findKey C h t o am i=some r->Instr.findNow p (ai A o) (am.map (cJ A)) i=some d->d=hJ A r:=by
 intro am
 induction am with
 |nil=>intro i r d _ e a;simp[findKey]at e;simp[Instr.findNow]at a;subst e;subst a;rfl
 |cons l am V=>
  intro i r d f e a
  obtain⟨ct,v,b⟩:=l
  simp only[findKey]at e
  simp only[ZS,Instr.findNow,cJ]at a
  split at e
  ·rename_i c
   simp at e;subst e
   split at a
   ·simp at a;rw[<-a];rfl
   ·rename_i g
    have:=AB n m (f (ct,v,b) (Zl ..)).1 c g
    simp at this
   ·simp at a
  ·rename_i c
   split at a
   ·rename_i g
    have:=AB n m (f (ct,v,b) (Zl ..)).1 c g
    simp at this
   ·exact V _ _ _ (λl c=>f l (by simp[c])) e a
   ·simp at a
  ·simp at e
def FW(M:bD C A F h j aB w){t:Nat}{o:y}(d:bd F o):∀(am:List (y×y×Nat)) (i:Nat) (r:Option (Nat×y)),
 (∀l∈am,bd F l.1/\bd F l.2.1)->findKey C h t o am i=some r->(Instr.findAsking t (ai A o) (am.map (cJ A)) i).run C.P w= .ok (hJ A r) w:=by
 intro am
 induction am with
 |nil=>intro i r _ e;simp[findKey]at e;subst e;simp[Instr.findAsking,hJ]
 |cons l am V=>
  intro i r c e
  obtain⟨ct,v,b⟩:=l
  simp only[findKey]at e
  have f:20<=Op.maxDepth:=by decide
  split at e
  ·rename_i a
   simp at e;subst e
   have:=s2 M 20 _ t o ct true f d (c (ct,v,b) (Zl ..)).1 a
   simp[Instr.findAsking,Op.equal,cJ,this,hJ]
  ·rename_i a
   have:=s2 M 20 _ t o ct false f d (c (ct,v,b) (Zl ..)).1 a
   simp[Instr.findAsking,Op.equal,cJ,this]
   exact V _ _ (λl a=>c l (by simp[a])) e
  ·simp at e
def nr(M:bD C A F h j aB w){t:Nat}{f:TypeDesc}{o:y}{am:List (y×y×Nat)}{r:Option (Nat×y)}(c:C.P.underlying t=some f)(a:bd F o)
 (b:∀l∈am,bd F l.1/\bd F l.2.1)(e:findKey C h t o am 0=some r):(Instr.findKey t (ai A o) (am.map (cJ A))).run C.P w= .ok (hJ A r) w:=by
 simp only[Instr.findKey,Sem.run_bind,run_underlying c,Result.andThen_ok]
 split
 ·rename_i g d
  rw[FY c a am 0 r g b e d];rfl
 ·exact FW M a am 0 r b e
def rt{t:Nat}{o:y}:∀(am:List (y×y×Nat)) (i H:Nat) (v:y),findKey C h t o am i=some (some (H,v))->i<=H/\∃l,am[H-i]? =some l/\l.2.1=v:=by
 intro am
 induction am with
 |nil=>intro i H v e;simp[findKey]at e
 |cons l am V=>
  intro i H v e
  obtain⟨ct,d,b⟩:=l
  simp only[findKey]at e
  split at e
  ·simp at e
   obtain⟨rfl,rfl⟩:=e
   exact⟨Zp _,(ct,d,b),Zs,rfl⟩
  ·obtain⟨f,l,a,c⟩:=V _ _ _ e
   refine⟨Zo,l, ?_,c⟩
   rw[show H-i=(H-(i+1))+1 by omega]
   simpa using a
  ·simp at e
def rM{t d:Nat}{o:y}(e:fX C d t o=true):∃a,C.P.underlying t=some a:=by
 cases d with
 |zero=>simp[fX]at e
 |succ d=>
  cases b:C.P.underlying t with
  |none=>simp[fX,b]at e
  |some a=>exact⟨a,rfl⟩
def iC(M:bD C A F h j aB w){r:Nat}{am:List (y×y×Nat)}{a:Nat}(f:F r)(e:J C h r=some (.map am a)):
 ∃a7,(getObj (A r).bc).run C.P w= .ok (.map a7 a) w/\w.heap[(A r).bc]? =some (.map a7 a)/\a7.toList=am.map (cJ A)/\∀l∈am,bd F l.1/\bd F l.2.1:=by
 obtain⟨a7,b,c,d⟩:=M.obj r _ e f
 exact⟨a7,MapKept.run_getObj_map b,b,c,d⟩
def yB{t:Nat}{o:y}{a b:List (y×y)}(e:a.Perm b):∀r,hQ C h t o a=some r->hQ C h t o b=some r:=by
 induction e with
 |nil=>exact λ_ e=>e
 |cons x _ V=>
  obtain⟨ct,v⟩:=x
  intro r e
  simp only[hQ]at e ⊢
  split at e
  ·rename_i M c
   rw[V _ M,c];simpa using e
  ·rename_i M c
   rw[V _ M,c];simpa using e
  ·cases e
 |swap x z k=>
  obtain⟨s,G⟩:=x
  obtain⟨w,O⟩:=z
  intro r e
  simp only[hQ]at e ⊢
  cases au:hQ C h t o k with
  |none=>simp[au]at e
  |some f=>
   simp only[au]at e
   cases d:fW C h 20 t o s with
   |none=>rw[d]at e;cases f<;>simp at e
   |some g=>
    cases i:fW C h 20 t o w with
    |none=>
     rw[d,i]at e
     cases g<;>cases f<;>simp at e
    |some m=>
     rw[d,i]at e
     cases g<;>cases m<;>cases f<;>simp at e ⊢ <;>exact e
 |trans _ _ n p=>exact λr e=>p r (n r e)
def yA{t:Nat}{o:y}:∀(am:List (y×y×Nat)) (i:Nat) (r:Option y),hQ C h t o (am.map λl=>(l.1,l.2.1))=some r->∃c,findKey C h t o am i=some c/\c.map (·.2)=r:=by
 intro am
 induction am with
 |nil=>intro i r e;simp[hQ]at e;subst e;exact⟨none,rfl,rfl⟩
 |cons l am V=>
  obtain⟨ct,d,b⟩:=l
  intro i r e
  simp only[ZS,hQ]at e
  simp only[findKey]
  split at e
  ·rename_i f M a
   simp at e;subst e
   rw[a]
   exact V (i+1) _ M
  ·rename_i M a
   simp at e;subst e
   rw[a]
   exact⟨some (i,d),rfl,rfl⟩
  ·cases e
def DW(M:bD C A F h j aB w){t:Nat}{m o v:y}{ok:Bool}(x:bd F m)(T0:bd F o)(e:qU C h t m o ok=some v):
 (Instr.lookup t (ai A m) (ai A o) ok).run C.P w= .ok (ai A v) w/\bd F v:=by
 unfold qU at e
 split at e
 ·rename_i i Z s
  have key:∀(am:List (y×y×Nat)) (a7:Array MapEntry) (r:Option (Nat×y)),a7.toList=am.map (cJ A)->(∀l∈am,bd F l.1/\bd F l.2.1)->fX C 20 i o=true->findKey C h i o am 0=some r->
   (match r with|none=>(match h1 C Z with|some z=>some (aT ok (.tuple [z, .bool false]) z)|none=>none)|some (_,v)=>some (aT ok (.tuple [v, .bool true]) v))=some v->
   (do
    Instr.checkKey a7.isEmpty 10000 i (ai A o)
    let(v,D)<-match<-Instr.findKey i (ai A o) a7.toList with
     |some (_,v)=>pure (v,true)
     |none=>pure (<-zeroValue Z,false)
    pure (if ok then .tuple #[v, .bool D]else v):Sem Value).run C.P w= .ok (ai A v) w/\bd F v:=by
   intro am a7 r T9 T2 T4 T1 g
   obtain⟨U1,TZ⟩:=rM T4
   have b:=qS (C:=C) (A:=A) (F:=F) (w:=w) (l:=a7.isEmpty) 20 10000 i o Zd T0 T4
   have c:=nr M TZ T0 T2 T1
   rw[T9]
   cases r with
   |none=>
    simp only at g
    split at g
    ·rename_i z U0
     obtain⟨T7,T8⟩:=lz U0 A F w
     simp at g;subst g
     cases ok
     ·exact⟨by simp[b,c,hJ,T7],T8⟩
     ·exact⟨by simp[b,c,hJ,T7,ai,aU],⟨T8,trivial,trivial⟩⟩
    ·simp at g
   |some p=>
    obtain⟨H,N⟩:=p
    simp at g;subst g
    obtain⟨_,l,TY,rfl⟩:=rt am 0 H N T1
    have T3:=(T2 l (Zg TY)).2
    cases ok
    ·exact⟨by simp[b,c,hJ],T3⟩
    ·exact⟨by simp[b,c,hJ,ai,aU],⟨T3,trivial,trivial⟩⟩
  split at e
  ·simp at e
  ·rename_i a
   split at a
   ·simp only[cg,Zu]at a
    have:=key [] #[] none rfl Zs a.1 (by simp[findKey]) e
    refine⟨?_,this.2⟩
    rw[<-this.1]
    simp only[Instr.lookup,Sem.run_bind,run_underlying s,Result.andThen_ok,ai,Sem.run_pure]
    rfl
   ·rename_i r
    split at a
    ·rename_i am G f
     simp only[cg]at a
     obtain⟨a7,b,_,c,d⟩:=iC M x f
     have:=key am a7 none c d a.1 a.2 e
     refine⟨?_,this.2⟩
     rw[<-this.1]
     simp only[Instr.lookup,Sem.run_bind,run_underlying s,Result.andThen_ok,ai,Sem.run_pure,b]
     rfl
    ·rename_i am f
     simp only[cg]at a
     obtain⟨a7,G,eu,b,c,P,d⟩:=M.obj r _ f x
     have X:hQ C h i o am=some none:=by
      have:=a.2
      unfold rW at this
      split at this<;>simp at this
      all_goals(rename_i L;first|(rw[L,this.2])|exact L|(rw[L];simp[this]))
     obtain⟨Y,O,n⟩:=yA eu 0 _ (yB P.symm _ X)
     cases Y with
     |none=>
      have:=key eu a7 none c d a.1 O e
      refine⟨?_,this.2⟩
      rw[<-this.1]
      simp only[Instr.lookup,Sem.run_bind,run_underlying s,Result.andThen_ok,ai,Sem.run_pure,MapKept.run_getObj_map b]
      rfl
     |some p=>
      obtain⟨T5,T6⟩:=p
      simp at n
    ·simp at a
   ·simp at a
  ·rename_i H N a
   split at a
   ·simp only[cg]at a
    simp at a
   ·rename_i r
    split at a
    ·rename_i am G f
     simp only[cg]at a
     obtain⟨a7,b,_,c,d⟩:=iC M x f
     have:=key am a7 (some (H,N)) c d a.1 a.2 e
     refine⟨?_,this.2⟩
     rw[<-this.1]
     simp only[Instr.lookup,Sem.run_bind,run_underlying s,Result.andThen_ok,ai,Sem.run_pure,b]
     rfl
    ·rename_i am f
     simp only[cg]at a
     obtain⟨a7,G,eu,b,c,P,d⟩:=M.obj r _ f x
     have X:hQ C h i o am=some (some N):=by
      have:=a.2
      unfold rW at this
      split at this<;>simp at this
      all_goals(rename_i L;first|(rw[L,this.2])|exact L|(rw[L];simp[this]))
     obtain⟨Y,O,n⟩:=yA eu 0 _ (yB P.symm _ X)
     cases Y with
     |none=>
      simp at n
     |some p=>
      obtain⟨T5,T6⟩:=p
      simp at n
      subst n
      have:=key eu a7 (some (T5,T6)) c d a.1 O e
      refine⟨?_,this.2⟩
      rw[<-this.1]
      simp only[Instr.lookup,Sem.run_bind,run_underlying s,Result.andThen_ok,ai,Sem.run_pure,MapKept.run_getObj_map b]
      rfl
    ·simp at a
   ·simp at a
 ·simp at e
end
section
variable{C:aC}{A:bE}{F:Nat->Prop}{h:I ae}{j aB:Nat}{w:World}
def Hl{t f:Nat}{x:Operand}{af:Operand->Value}{a:Operand->Option y}{v:y}(s:ei A F af a [x])
 (e:p2 C t x f h a=some v):(Instr.field t (af x) f).run C.P w= .ok (ai A v) w/\bd F v:=by
 unfold p2 at e
 split at e
 ·rename_i c cs p r
  obtain⟨l,g⟩:=s x Zs _ r
  rw[l]
  rw[ih]at e
  split at e
  ·rename_i b m
   have n:c[f]? =some b:=by rw[<-m];simp
   obtain⟨d,i⟩:=ph (A:=A) (w:=w) g e
   refine⟨?_,i⟩
   simp[Instr.field,run_underlying p,n,asAgg,ai,d]
  ·simp at e
 ·simp at e
def Hm{t:Nat}{x:Operand}{af:Operand->Value}{a:Operand->Option y}{v:y}(i:ei A F af a [x])
 (e:p3 C t x h a=some v):(Instr.makeInterface t (af x)).run C.P w= .ok (ai A v) w/\bd F v:=by
 unfold p3 at e
 split at e
 ·simp at e
 ·rename_i d N b c f
  obtain⟨l,g⟩:=i x Zs _ f
  simp at e;subst e
  refine⟨?_,g⟩
  rw[l]
  cases d<;>first|exact(b _ rfl).elim|simp[Instr.makeInterface,run_underlying c,ai]
 ·simp at e
def Hh{x:Operand}{t p:Nat}{ok:Bool}{af:Operand->Value}{s:Operand->Option y}{v:y}(r:ei A F af s [x])
 (e:pZ C x p ok h s=some v):(Instr.typeAssert (af x) t p ok).run C.P w= .ok (ai A v) w/\bd F v:=by
 unfold pZ at e
 split at e
 ·simp at e
 ·rename_i d a b f
  obtain⟨l,g⟩:=r x Zs _ f
  rw[l]
  simp only[cg]at e
  obtain⟨rfl,e⟩:=e
  split at e
  ·rename_i z i
   simp at e;subst e
   obtain⟨m,n⟩:=lz i A F w
   refine⟨?_,n,trivial,trivial⟩
   cases d<;>first|exact(a _ rfl).elim|simp[Instr.typeAssert,run_underlying b,ai,aU,m]
  ·simp at e
 ·rename_i d G N a b f
  obtain⟨l,g⟩:=r x Zs _ f
  rw[l]
  rw[d5]at e
  split at e
  ·rename_i c
   subst c
   simp at e
   cases ok
   ·simp at e;subst e
    refine⟨?_,g⟩
    cases d<;>first|exact(a _ rfl).elim|simp[Instr.typeAssert,run_underlying b,ai]
   ·simp at e;subst e
    refine⟨?_,g,trivial,trivial⟩
    cases d<;>first|exact(a _ rfl).elim|simp[Instr.typeAssert,run_underlying b,ai,aU]
  ·rename_i c
   simp only[cg]at e
   obtain⟨rfl,e⟩:=e
   split at e
   ·rename_i z i
    simp at e;subst e
    obtain⟨m,n⟩:=lz i A F w
    refine⟨?_,n,trivial,trivial⟩
    cases d<;>first|exact(a _ rfl).elim|simp[Instr.typeAssert,run_underlying b,ai,aU,m,c]
   ·simp at e
 ·simp at e
def ul:∀(k:List Nat),p4 k=k.getLast?:=by
 intro k
 induction k with
 |nil=>rfl
 |cons a k V=>
  cases k with
  |nil=>rfl
  |cons b k=>simp only[p4,List.getLast?_cons_cons];exact V
def xP(b:Nat):∀(am:List (y×y×Nat)),(am.map (cJ A)).find? (·.born==b)=(mh b am).map (cJ A):=by
 intro am
 induction am with
 |nil=>rfl
 |cons l am V=>
  simp only[ZS,mh,List.find?_cons,cJ,d5]
  by_cases e:l.2.2=b
  ·simp[e,cJ]
  ·have:(l.2.2==b)=false:=by simpa using e
   rw[this];simp only[e,ZM];exact V
def xQ(b:Nat):∀(am:List (y×y×Nat)) l,mh b am=some l->l∈am:=by
 intro am
 induction am with
 |nil=>intro l e;simp[mh]at e
 |cons a am V=>
  intro l e
  simp only[mh,d5]at e
  split at e
  ·simp at e;subst e;simp
  ·exact Zi _ (V l e)
def Hk(M:bD C A F h j aB w){i:Operand}{af:Operand->Value}{T2:Operand->Option y}{v:y}(T6:ei A F af T2 [i])
 (e:p1 C i h T2=some v):(Instr.entry (af i)).run C.P w= .ok (ai A v) w/\bd F v:=by
 unfold p1 at e
 split at e
 ·rename_i r T5
  obtain⟨l,g⟩:=T6 i Zs _ T5
  rw[l]
  split at e
  ·rename_i m T0 seen T1 O
   split at e
   ·rename_i a am d f G
    simp only[cg]at e
    obtain⟨c,e⟩:=e
    have c:d=T1:=Zh c
    subst c
    split at e
    ·rename_i o N b ab
     simp at e;subst e
     obtain⟨P,t,T3⟩:=M.obj r _ O g
     obtain⟨a7,X,_,Y,Z⟩:=iC M (T3 m rfl) G
     have z:a7.find? (λl=>l.born==a)=some (cJ A (o,N,b)):=by
      have:=xP (A:=A) a am
      rw[<-Y,ab]at this
      rw[<-Array.find?_toList];exact this
     have x:seen.toArray.back?=some a:=by rw[<-f,ul];simp
     have J:(getObj (A r).bc).run C.P w= .ok (.mapIter (some (A m).bc) T0 seen.toArray d) w:=by simp[getObj,Sem.run,t]
     obtain⟨p,s⟩:=Z _ (xQ a am _ ab)
     refine⟨?_,p,s,trivial⟩
     simp[Instr.entry,ai,P,J,x,X,z,cJ,aU]
    ·simp at e
   ·simp at e
  ·rename_i m T0 n bO T1 T7 O
   split at e
   ·rename_i a am d G
    simp only[cg]at e
    obtain⟨c,e⟩:=e
    have c:d=T1:=Zh c
    subst c
    split at e
    ·rename_i o N b ab
     simp at e;subst e
     obtain⟨P,T4,seen,t,_,f⟩:=M.obj r _ O g
     have f:=f a rfl
     obtain⟨a7,X,_,Y,Z⟩:=iC M T4 G
     have z:a7.find? (λl=>l.born==a)=some (cJ A (o,N,b)):=by
      have:=xP (A:=A) a am
      rw[<-Y,ab]at this
      rw[<-Array.find?_toList];exact this
     have x:seen.toArray.back?=some a:=by rw[<-f,ul];simp
     have J:(getObj (A r).bc).run C.P w= .ok (.mapIter (some (A m).bc) T0 seen.toArray d) w:=by simp[getObj,Sem.run,t]
     obtain⟨p,s⟩:=Z _ (xQ a am _ ab)
     refine⟨?_,p,s,trivial⟩
     simp[Instr.entry,ai,P,J,x,X,z,cJ,aU]
    ·simp at e
   ·simp at e
  ·simp at e
 ·simp at e
def DU(M:bD C A F h j aB w){t:Nat}{bw:Array TypeId}{ty:TypeId}{x v:y}{rest:List TypeId}(i:bw.toList=t::rest)(d:bd F x)(e:qT C h t x=some v):
 (Builtin.len_ bw ty #[ai A x]).run C.P w= .ok (ai A v) w/\bd F v:=by
 have b:bw[0]? =some t:=by rw[<-ZK,i];rfl
 unfold qT at e
 split at e<;>(try simp only[yd]at e)
 ·rename_i s a
  simp at e;subst e
  refine⟨?_,trivial⟩
  have p:(cI s).size=s.length:=by simp[cI,ByteArray.size]
  simp[Builtin.len_,b,run_underlying a,ai,goInt,p]
 ·rename_i n c a
  simp at e;subst e
  refine⟨?_,trivial⟩
  simp[Builtin.len_,b,run_underlying a,goInt]
  simp[ai]
 ·rename_i a7 a
  split at e
  ·rename_i n c z
   simp at e;subst e
   refine⟨?_,trivial⟩
   simp[Builtin.len_,b,run_underlying a,run_underlying z,goInt]
   simp[ai]
  ·simp at e
 ·rename_i a
  simp at e;subst e
  refine⟨?_,trivial⟩
  simp[Builtin.len_,b,run_underlying a,ai,goInt]
 ·rename_i a
  simp at e;subst e
  refine⟨?_,trivial⟩
  simp[Builtin.len_,b,run_underlying a,ai,goInt]
 ·rename_i a
  simp at e;subst e
  refine⟨?_,trivial⟩
  simp[Builtin.len_,b,run_underlying a,ai,goInt]
 ·rename_i a
  simp at e;subst e
  refine⟨?_,trivial⟩
  simp[Builtin.len_,b,run_underlying a,ai,goInt]
 ·rename_i r a
  split at e
  ·rename_i am G m
   simp at e;subst e
   obtain⟨a7,f,O,g,P⟩:=iC M d m
   refine⟨?_,trivial⟩
   have:a7.size=am.length:=by rw[<-Array.length_toList,g,Zn]
   simp[Builtin.len_,b,run_underlying a,ai,goInt,f,this]
  ·simp at e
 ·simp at e
def DN{t:Nat}{bw:Array TypeId}{ty:TypeId}{x v:y}{rest:List TypeId}(c:bw.toList=t::rest)(e:qM C t x=some v):
 (Builtin.cap_ bw ty #[ai A x]).run C.P w= .ok (ai A v) w/\bd F v:=by
 have b:bw[0]? =some t:=by rw[<-ZK,c];rfl
 unfold qM at e
 split at e<;>(try simp only[yd]at e)
 ·rename_i a
  simp at e;subst e
  refine⟨?_,trivial⟩
  simp[Builtin.cap_,b,run_underlying a,ai,goInt]
 ·rename_i a
  simp at e;subst e
  refine⟨?_,trivial⟩
  simp[Builtin.cap_,b,run_underlying a,ai,goInt]
 ·simp at e
def DY:∀(k:List y) (x v:y),hG true x k=some v->((aU A k).foldlM Builtin.max2 (ai A x)).run C.P w= .ok (ai A v) w/\(bd F x->bd F v):=by
 intro k
 induction k with
 |nil=>intro x v e;cases x<;>simp[hG]at e<;>subst e<;>simp[aU]
 |cons m k V=>
  intro x v e
  unfold hG at e
  split at e
  ·rename_i f;simp at f
  ·rename_i o a ct b i d
   simp only[zj]at d
   obtain⟨rfl,rfl⟩:=d
   obtain⟨c,g⟩:=V _ _ e
   refine⟨?_,λ_=>g trivial⟩
   simp only[aU,List.foldlM_cons,Sem.run_bind,ai,Builtin.max2,Sem.run_pure,Result.andThen_ok]
   simp only[cS,jt,cN,Zc,ai]at c
   exact c
  ·simp at e
def DZ:∀(k:List y) (x v:y),hG false x k=some v->((aU A k).foldlM Builtin.min2 (ai A x)).run C.P w= .ok (ai A v) w/\(bd F x->bd F v):=by
 intro k
 induction k with
 |nil=>intro x v e;cases x<;>simp[hG]at e<;>subst e<;>simp[aU]
 |cons m k V=>
  intro x v e
  unfold hG at e
  split at e
  ·rename_i f;simp at f
  ·rename_i o a ct b i d
   simp only[zj]at d
   obtain⟨rfl,rfl⟩:=d
   obtain⟨c,g⟩:=V _ _ e
   refine⟨?_,λ_=>g trivial⟩
   simp only[aU,List.foldlM_cons,Sem.run_bind,ai,Builtin.min2,Sem.run_pure,Result.andThen_ok]
   simp only[fB,jt,cN,Zc,ai]at c
   exact c
  ·simp at e
end
section
variable{C:aC}{A:bE}{F:Nat->Prop}{h:I ae}{j aB:Nat}{w:World}
def ei.mono{af:Operand->Value}{b:Operand->Option y}{k a:List Operand}(e:ei A F af b k)(c:∀x∈a,x∈k):ei A F af b a:=λx f v d=>e x (c x f) v d
def tF{af:Operand->Value}{a:Operand->Option y}{D:Option Operand}{r:Option y}(c:ei A F af a D.toList)(e:mH a D=some r):D.map af=r.map (ai A):=by
 cases D with
 |none=>simp[mH]at e;subst e;rfl
 |some x=>
  simp only[mH]at e
  split at e
  ·rename_i v b
   simp at e;subst e
   simp[(c x Zs v b).1]
  ·simp at e
def DV(M:bD C A F h j aB w){oper:Oper}{af:Operand->Value}{O:Operand->Option y}{v:y}(g:ei A F af O oper.op.operands.toList)
 (e:gB oper.op C h O=some v):qF A F C.P w (execOp af oper) v:=by
 obtain⟨dst,op,type,pos,after,guard⟩:=oper
 cases op<;>simp only[gB]at e<;>(try(cases e;done))<;>simp only[execOp]<;>simp only[Op.operands]at g
 case build t parts=>
  refine gj ?_
  unfold uc at e
  split at e
  ·rename_i bH T0
   obtain⟨n,r⟩:=xH (by simpa using g) T0
   have:=DM (A:=A) (w:=w) r e
   rw[<-n]at this
   have l:(parts.map λx=>(x.1,af x.2))=(parts.toList.map λx=>(x.1,af x.2)).toArray:=by apply YC;simp
   rw[l];exact this
  ·simp at e
 case binOp op t x T6 T7=>exact gj (Hi M (by simpa using g) e)
 case unOp op t x=>
  refine gj ?_
  unfold uj at e
  split at e
  ·rename_i a z
   rw[(g x Zs a z).1]
   exact D4 e
  ·simp at e
 case convert s d x=>exact gj (Hj M (by simpa using g) e)
 case makeInterface t x=>exact gj (Hm (by simpa using g) e)
 case makeFunc fn first T2=>
  refine gj ?_
  unfold uf at e
  split at e
  ·rename_i a b z ab
   split at e
   ·simp at e;subst e
    obtain⟨aH,aZ⟩:=iw (g.mono (by simp;intro x p;exact .inl p)) z
    obtain⟨b2,be⟩:=iw (g.mono (by simp;intro x p;exact .inr p)) ab
    refine⟨?_,trivial,aZ,be⟩
    simp[Instr.makeFunc,aH,b2,ai,ga]
   ·simp at e
  ·simp at e
 case slice t x aF ak T5=>
  refine gj ?_
  unfold ui at e
  split at e
  ·rename_i a k T3 m z au Y Z
   have n:=g x Zs a z
   have r:=tF (g.mono (by simp;intro x p;exact .inr (.inl p))) au
   have P:=tF (g.mono (by simp;intro x p;exact .inr (.inr (.inl p)))) Y
   have X:=tF (g.mono (by simp;intro x p;exact .inr (.inr (.inr p)))) Z
   rw[n.1,r,P,X]
   exact D1 M n.2 e
  ·simp at e
 case field t x f=>exact gj (Hl (by simpa using g) e)
 case index t x i=>
  refine gj ?_
  unfold ug at e
  split at e
  ·rename_i a b z ab
   have n:=g x Zs a z
   rw[n.1,(g i Zs b ab).1]
   exact DS n.2 e
  ·simp at e
 case lookup t m o ok=>
  refine gj ?_
  unfold uh at e
  split at e
  ·rename_i a b z ab
   have n:=g m Zs a z
   have r:=g o Zs b ab
   rw[n.1,r.1]
   exact DW M n.2 r.2 e
  ·simp at e
 case entry T4=>exact gj (Hk M (by simpa using g) e)
 case typeAssert x t T1 ok=>exact gj (Hh (by simpa using g) e)
 case call c=>
  unfold ue at e
  split at e
  ·rename_i b args bw
   simp only[Call.operands]at g
   have G:ei A F af O args.toList:=g.mono Zs
   unfold ud at e
   split at e
   ·rename_i x p
    obtain⟨aH,aZ⟩:=iw G p
    split at e
    ·rename_i t rest z
     obtain⟨n,r⟩:=DU (ty:=type) M z aZ.1 e
     refine⟨?_,r⟩
     simp[resolve,invoke,builtin,aH,aU,n]
    ·simp at e
   ·rename_i x p
    obtain⟨aH,aZ⟩:=iw G p
    split at e
    ·rename_i t rest z
     obtain⟨n,r⟩:=DN (A:=A) (F:=F) (w:=w) (ty:=type) z e
     refine⟨?_,r⟩
     simp[resolve,invoke,builtin,aH,aU,n]
    ·simp at e
   ·rename_i x k p
    obtain⟨aH,aZ⟩:=iw G p
    obtain⟨n,r⟩:=DY (C:=C) (A:=A) (F:=F) (w:=w) k x v e
    refine⟨?_,r aZ.1⟩
    simp[resolve,invoke,builtin,Builtin.max_,aH,aU,n]
   ·rename_i x k p
    obtain⟨aH,aZ⟩:=iw G p
    obtain⟨n,r⟩:=DZ (C:=C) (A:=A) (F:=F) (w:=w) k x v e
    refine⟨?_,r aZ.1⟩
    simp[resolve,invoke,builtin,Builtin.min_,aH,aU,n]
   ·simp at e
  ·simp at e
def yx(M:bD C A F h j aB w){oper:Oper}{af:Operand->Value}{wr:List (Nat×Nat)}{aa:List (Nat×y)}{B:I y}{c:eD}{v:y}
 (O:ei A F af (ek wr aa B) oper.op.operands.toList)(g:fA C wr oper.op=some c)(e:dk c C h aa B=some v):qF A F C.P w (execOp af oper) v:=by
 have rest:∀D,oper.op=D->c= .dV wr D->qF A F C.P w (execOp af oper) v:=by
  intro D U2 U0
  subst U0;subst U2
  exact DV M O e
 obtain⟨dst,op,type,pos,after,guard⟩:=oper
 cases op<;>simp only[fA]at g<;>simp only[Op.operands]at O
 case move x=>
  split at g
  ·rename_i T2 X
   simp at g;subst g
   simp only[dk,gm X]at e
   obtain⟨Y,Z⟩:=O x Zs v e
   exact⟨by simp[execOp,Y],Z⟩
  ·simp at g
 case assign x=>
  split at g
  ·rename_i T2 X
   simp at g;subst g
   simp only[dk,gm X]at e
   obtain⟨Y,Z⟩:=O x Zs v e
   exact⟨by simp[execOp,Y],Z⟩
  ·simp at g
 case pick T9 a b=>
  split at g
  ·rename_i U8 T8 U7 TZ T1 ab
   simp at g;subst g
   simp only[dk,gm TZ]at e
   split at e
   ·rename_i N P
    obtain⟨Y,Z⟩:=O T9 Zs N P
    unfold sK at e
    split at e
    ·rename_i t
     rw[gm T1,gm ab]at e
     simp only[execOp,Y,ai]
     cases t
     ·obtain⟨p,G⟩:=O b Zs v (by simpa using e)
      exact⟨by simp[asBool,p],G⟩
     ·obtain⟨p,G⟩:=O a Zs v (by simpa using e)
      exact⟨by simp[asBool,p],G⟩
    ·simp at e
   ·simp at e
  ·simp at g
 case load t a=>
  split at g
  ·rename_i T8 s T1 Y Z
   simp at g;subst g
   simp only[dk,gm T1]at e
   split at e
   ·rename_i N P
    obtain⟨p,G⟩:=O a Zs N P
    simp only[execOp,p]
    exact gj (wU M Y Z G e)
   ·simp at e
  ·rename_i T8 T1 Y
   simp at g;subst g
   simp only[dk,gm T1]at e
   split at e
   ·rename_i N P
    obtain⟨p,G⟩:=O a Zs N P
    simp only[execOp,p]
    exact gj (wT M Y G e)
   ·simp at e
  ·simp at g
 case fieldAddr s x f=>
  split at g
  ·rename_i UA T2 P X
   rw[ih]at g
   split at g
   ·rename_i U9 U1
    split at g
    ·rename_i z T4
     simp only[ov]at g
     obtain⟨U4,g⟩:=g
     simp at g;subst g
     simp only[dk,gm X]at e
     split at e
     ·rename_i N T3
      obtain⟨p,G⟩:=O x Zs N T3
      simp only[execOp,p]
      exact gj (FQ P U1 T4 (by intro l;subst l;simp at U4) G e)
     ·simp at e
    ·simp at g
   ·simp at g
  ·simp at g
 case indexAddr t x i=>
  split at g
  ·rename_i n bZ T2 U5 P X ak
   split at g
   ·rename_i ap T4
    simp at g;subst g
    simp only[dk,gm X,gm ak]at e
    split at e
    ·rename_i N T3
     split at e
     ·rename_i H T6
      split at e
      ·rename_i aj T7
       obtain⟨o,rfl⟩:=nG T7
       obtain⟨p,G⟩:=O x Zs N T3
       obtain⟨T0,T5⟩:=O i Zs _ T6
       simp only[execOp,p,T0,ai]
       exact gj (GX P T4 G e)
      ·simp at e
     ·simp at e
    ·simp at e
   ·simp at g
  ·rename_i bZ T2 U5 P X ak
   split at g
   ·rename_i ap T4
    simp at g;subst g
    simp only[dk,gm X,gm ak]at e
    split at e
    ·rename_i N T3
     split at e
     ·rename_i H T6
      split at e
      ·rename_i aj T7
       obtain⟨o,rfl⟩:=nG T7
       obtain⟨p,G⟩:=O x Zs N T3
       obtain⟨T0,T5⟩:=O i Zs _ T6
       simp only[execOp,p,T0,ai]
       exact gj (GZ P T4 G e)
      ·simp at e
     ·simp at e
    ·simp at e
   ·simp at g
  ·simp at g
 case nilCheck x=>
  split at g
  ·rename_i T2 X
   simp at g;subst g
   simp only[dk,gm X]at e
   split at e
   ·rename_i N P
    obtain⟨p,G⟩:=O x Zs N P
    obtain⟨rfl,T0⟩:=LJ (C:=C) (A:=A) (w:=w) G e
    exact⟨T0 _ af x rfl p,G⟩
   ·simp at e
  ·simp at g
 case binOp op t x U6 UC=>
  rw[cN]at g
  split at g
  ·split at g
   ·rename_i T2 UB X U3
    simp at g;subst g
    simp only[dk,gm X,gm U3]at e
    split at e
    ·rename_i a T1
     split at e
     ·rename_i b ab
      obtain⟨Y,Z⟩:=O x Zs a T1
      obtain⟨p,G⟩:=O U6 Zs b ab
      obtain⟨T0,T5,o,i,ct,H,rfl,rfl⟩:=wS (C:=C) (A:=A) (F:=F) (w:=w) t e
      simp only[execOp,Y,p]
      refine gj ⟨?_,T5⟩
      rw[Sem.run_bind,rn (by simp[oB])]
      exact T0
     ·simp at e
    ·simp at e
   ·simp at g
  ·simp at g;exact rest _ rfl g.symm
 case extract x i=>
  split at g
  ·rename_i T2 X
   simp at g;subst g
   simp only[dk,gm X]at e
   split at e
   ·rename_i N P
    obtain⟨p,G⟩:=O x Zs N P
    simp only[execOp,p]
    exact gj (LI G e)
   ·simp at e
  ·simp at g
 case convert s d x=>
  rw[cN]at g
  split at g
  ·simp at g;subst g;simp[dk]at e
  ·simp at g;exact rest _ rfl g.symm
 case store t a x=>
  split at g
  ·simp at g;subst g;simp[dk]at e
  ·simp at g
 case makeMap t r=>cases r<;>simp[fA]at g<;>subst g<;>simp[dk]at e
 case call TY=>
  obtain⟨callee,args,bw⟩:=TY
  cases callee with
  |builtin b=>
   cases b<;>simp[fA]at g<;>first
    |exact rest _ rfl g.symm
    |(subst g;simp[dk]at e)
  |value f=>
   cases f<;>simp[fA]at g
   all_goals first
    |(subst g;simp[dk]at e;done)
    |(
      split at g
      ·simp at g;subst g;simp[dk]at e
      ·simp at g)
  |invoke r m=>simp[fA]at g;subst g;simp[dk]at e
 all_goals(simp at g;first|exact rest _ rfl g.symm|(subst g;simp[dk]at e))
end
def cw{C:aC}{h:I ae}{b:Nat}(D:Option ae)(ab:C.aP<=b)(x:Nat):J C (aS C h b D) x=if x=b then D else J C h x:=by
 unfold J aS
 rw[cN,cN]
 by_cases a:Nat.blt x C.aP=true
 ·have:=e0 a
  rw[Zv a,Zv a,Zj Zo]
 ·have iW:C.aP<=x:=by
   rcases zg x C.aP with e|e
   ·exact absurd (by simp[Nat.blt];omega) a
   ·exact e
  rw[Zj a,Zj a,I.gn]
  show(if b-C.aP=x-C.aP then D else h.get (x-C.aP))=_
  by_cases l:x=b
  ·rw[Zv Zo,Zv l]
  ·rw[Zj Zo,Zj l];rfl
def ya{C:aC}:∀(k:List Nat) (h:I ae) (x:Nat),(∀b∈k,C.aP<=b)->J C (fN C k h) x=if x∈k then none else J C h x:=by
 intro k
 induction k with
 |nil=>intro h x _;simp[fN]
 |cons b k V=>
  intro h x e
  simp only[fN]
  rw[V _ _ (λc d=>e c (by simp[d])),cw _ (e b Zs)]
  by_cases a:x∈k
  ·simp[a]
  ·by_cases l:x=b
   ·simp[l]
   ·simp[a,l]
def c2(A:bE)(b:Nat)(pl:fU):bE:=λx=>if x=b then pl else A x
def add(F:Nat->Prop)(b:Nat):Nat->Prop:=λx=>F x\/x=b
structure dW(C:aC)(bv:Nat)(A:bE)(F:Nat->Prop)(h:I ae)(aB:Nat)(w:World)(bF:bE)(bu:Nat->Prop)(E:I ae)(aM:World):Prop where
 dZ:∀b,F b->bF b=A b
 ej:∀b,F b->bu b
 new:∀b,bu b->F b\/bv<=b
 T:∀b,¬F b->b<bv->J C E b=J C h b
 below:Below aB w aM
def dW.refl{C:aC}{bv:Nat}{A:bE}{F:Nat->Prop}{h:I ae}{aB:Nat}{w:World}:dW C bv A F h aB w A F h w:=
 ⟨λ_ _=>rfl,λ_ e=>e,λ_ e=> .inl e,λ_ _ _=>rfl, .refl _ _⟩
def dW.trans{C:aC}{bv d:Nat}{A bF g:bE}{F bu a:Nat->Prop}{h E c:I ae}{aB:Nat}{w aM f:World}(e:dW C bv A F h aB w bF bu E aM)(au:bv<=d)
 (o:dW C d bF bu E aB aM g a c f):dW C bv A F h aB w g a c f:=
 ⟨λb ab=>(o.dZ b (e.ej b ab)).trans (e.dZ b ab),λb ab=>o.ej b (e.ej b ab),
  λb ab=>(o.new b ab).elim (λab=>e.new b ab) (λab=> .inr Zo),
  λb ab m=>by
   have n:¬bu b:=λi=>(e.new b i).elim ab (λL=>Zo)
   rw[o.T b n Zo,e.T b ab m],
  e.below.trans o.below⟩
section
variable{C:aC}{A bF:bE}{F bu:Nat->Prop}{h E:I ae}{j ar aB:Nat}{w aM:World}
def hK(a:∀b,F b->bF b=A b){v:y}(g:bd F v):ai bF v=ai A v:=tl a v g
def kO(a:∀b,F b->bF b=A b){k:List y}(g:cd F k):aU bF k=aU A k:=ox a k g
def es.T{n ac:Nat}{B:I y}{tmps:Array Value}(g:∀b,F b->bF b=A b)(d:∀b,F b->bu b)(e:es A F n ac B tmps):es bF bu n ac B tmps:=
 ⟨e.size,λt v au f=>by
  obtain⟨c,a⟩:=e.val t v au f
  exact⟨by rw[c,hK g a],g3 d v a⟩⟩
def te(a:∀b,F b->bF b=A b){d:dM}(g:ka F d):fz bF d=fz A d:=by
 obtain⟨t,n⟩:=d
 obtain⟨c,f⟩:=g
 simp only[fz,kO a f]
 congr 1
 cases t with
 |fn fn cs=>
  obtain⟨i,m⟩:=c
  have l:ga bF fn=ga A fn:=by
   cases fn<;>simp only[ga]
   rw[a _ i]
  simp only[nd,l,kO a m]
 |collected r=>simp only[nd,a r c]
def x3(a:∀b,F b->bu b){d:dM}(g:ka F d):ka bu d:=by
 obtain⟨t,c⟩:=d
 refine⟨?_,h9 a _ g.2⟩
 cases t with
 |fn fn cs=>exact⟨by cases fn<;>first|exact a _ g.1.1|exact g.1.1,h9 a _ g.1.2⟩
 |collected r=>exact a _ g.1
def eF.T{D:ae}{pl:fU}(t:∀b,F b->bF b=A b)(r:∀b,F b->bu b)(x:aM.heap[pl.bc]? =w.heap[pl.bc]?)(e:eF C A F D pl w):eF C bF bu D pl aM:=by
 cases D with
 |cells c n st=>
  obtain⟨a7,ty,aF,ak,g,f,a,z⟩:=e
  refine⟨a7,ty,aF,ak,by rw[x,g],f,a,λi v T0=> ?_⟩
  obtain⟨Z,X⟩:=z i v T0
  exact⟨by rw[Z,hK t X],g3 r v X⟩
 |map am P=>
  obtain⟨a7,g,f,a⟩:=e
  refine⟨a7,by rw[x,g], ?_,λl p=>⟨g3 r _ (a l p).1,g3 r _ (a l p).2⟩⟩
  rw[f]
  apply Yw
  intro l p
  simp only[cJ,hK t (a l p).1,hK t (a l p).2]
 |look am=>
  obtain⟨a7,P,eu,g,f,z,a⟩:=e
  refine⟨a7,P,eu,by rw[x,g], ?_,z,λl p=>⟨g3 r _ (a l p).1,g3 r _ (a l p).2⟩⟩
  rw[f]
  apply Yw
  intro l p
  simp only[cJ,hK t (a l p).1,hK t (a l p).2]
 |kr s pos=>exact⟨e.1,by rw[x,e.2.1],e.2.2⟩
 |eW m T1 seen st=>
  obtain⟨G,g,f⟩:=e
  refine⟨G, ?_,λb ab=>r b (f b ab)⟩
  rw[x,g]
  cases m with
  |none=>rfl
  |some m=>simp only[ZJ,t m (f m rfl)]
 |jB m T1 n bO st T2=>
  obtain⟨G,g,seen,f,a⟩:=e
  exact⟨G,r m g,seen,by rw[x,f,t m g],a⟩
 |loop state pending fn n ac B params assign body aA=>
  obtain⟨tmps,g,f,a,z⟩:=e
  exact⟨tmps,by rw[x,g,t aA a],f.T t r,r _ a,z⟩
 |deferred Y=>
  obtain⟨g,f⟩:=e
  refine⟨?_,λk au d O=>x3 r (f k au d O)⟩
  rw[x,g]
  cases Y with
  |none=>rfl
  |some k=>
   simp only[ZJ]
   congr 3
   exact Yw λd O=>(te t (f k rfl d O)).symm
def eF.lt{D:ae}{pl:fU}(e:eF C A F D pl w):pl.bc<w.heap.size:=by
 have:∃x,w.heap[pl.bc]? =some x:=by
  cases D with
  |cells c n st=>obtain⟨a7,ty,aF,ak,a,_⟩:=e;exact⟨_,a⟩
  |map am b=>obtain⟨a7,a,_⟩:=e;exact⟨_,a⟩
  |look am=>obtain⟨a7,b,eu,a,_⟩:=e;exact⟨_,a⟩
  |kr s pos=>exact⟨_,e.2.1⟩
  |eW m f seen st=>exact⟨_,e.2.1⟩
  |jB m f n bO st i=>obtain⟨_,_,seen,a,_⟩:=e;exact⟨_,a⟩
  |loop state pending fn n ac B params assign body aA=>obtain⟨tmps,a,_⟩:=e;exact⟨_,a⟩
  |deferred g=>exact⟨_,e.1⟩
 obtain⟨x,d⟩:=this
 exact(ZI.1 d).1
def bD.alloc(M:bD C A F h j aB w){b:Nat}{pl:fU}{bN:ae}{D:Obj}(ab:C.aP<=b)(U0:b<ar)(T7:j<=ar)(T6:¬F b)(cv:aB<=w.heap.size)(U1:pl.bc=w.heap.size)
 (Z:J C E b=some bN)(T0:∀x,x≠b->J C E x=J C h x\/J C E x=none)(T8:eF C (c2 A b pl) (add F b) bN pl (w.alloc D))(T9:jg C (add F b) bN):
 bD C (c2 A b pl) (add F b) E ar aB (w.alloc D):=by
 have p:∀x,F x->c2 A b pl x=A x:=λx a=>by
  unfold c2;rw[Zj];intro l;subst l;exact T6 a
 have v:c2 A b pl b=pl:=by unfold c2;rw[Zv rfl]
 have TY:∀o,o<w.heap.size->(w.alloc D).heap[o]? =w.heap[o]? :=λo T5=>Below.heap_alloc _ _ _ T5
 have key:∀x d,J C E x=some d->add F b x->x≠b->J C h x=some d/\F x/\(A x).bc<w.heap.size:=by
  intro x d a m t
  have T1:F x:=m.resolve_right t
  rcases T0 x t with e|e
  ·have:J C h x=some d:=by rw[<-e,a]
   exact⟨this,T1,(M.obj x d this T1).lt⟩
  ·rw[e]at a;cases a
 refine⟨ZD M.aP T7, ?_, ?_, ?_, ?_, ?_, ?_⟩
 ·intro x a
  rcases a with a|a
  ·have:=M.lt x a;omega
  ·omega
 ·intro x d a
  by_cases l:x=b
  ·omega
  ·rcases T0 x l with e|e
   ·have:=M.jF x d (by rw[<-e,a]);omega
   ·rw[e]at a;cases a
 ·intro x d a m
  by_cases l:x=b
  ·subst l
   rw[Z]at a;cases a
   rw[v];exact T8
  ·obtain⟨g,f,s⟩:=key x d a m l
   rw[p x f]
   exact(M.obj x d g f).T p (λ_ e=> .inl e) (TY _ s)
 ·intro x i d P a G bQ X t O z
  by_cases l:x=b
  ·subst l
   by_cases r:i=x
   ·exact absurd r.symm t
   ·obtain⟨g,f,s⟩:=key i P G X r
    rw[v,p i f]at z
    omega
  ·obtain⟨g,f,s⟩:=key x d a bQ l
   by_cases r:i=b
   ·subst r
    rw[v,p x f]at z
    omega
   ·obtain⟨T4,Y,TZ⟩:=key i P G X r
    rw[p x f,p i Y]at z ⊢
    exact M.sep x i d P g T4 f Y t O z
 ·intro x d O a m
  by_cases l:x=b
  ·subst l;rw[v];omega
  ·obtain⟨g,f,s⟩:=key x d a m l
   rw[p x f]
   exact M.base x d O g f
 ·intro x d a m
  by_cases l:x=b
  ·subst l;rw[Z]at a;cases a;exact T9
  ·obtain⟨g,f,s⟩:=key x d a m l
   refine⟨λc n k au i G=> ?_,(M.cj x d g f).2⟩
   obtain⟨T2,T3⟩:=(M.cj x d g f).1 c n k au i G
   exact⟨.inl T2,T3⟩
def bD.xK(M:bD C A F h j aB w)(m:∀x,J C E x=J C h x\/J C E x=none):bD C A F E j aB w:=by
 have key:∀x a,J C E x=some a->J C h x=some a:=by
  intro x a b
  rcases m x with e|e
  ·rw[<-e,b]
  ·rw[e]at b;cases b
 exact⟨M.aP,M.lt,λx a b=>M.jF x a (key x a b),λx a b c=>M.obj x a (key x a b) c,
  λx g a f b r bQ i p d n=>M.sep x g a f (key x a b) (key g f r) bQ i p d n,λx a d b c=>M.base x a d (key x a b) c,λx a b c=>M.cj x a (key x a b) c⟩
def bD.put(M:bD C A F h j aB w){b:Nat}{bN fv:ae}(ab:C.aP<=b)(t:F b)(O:J C h b=some bN)(s:J C E b=some fv)
 (z:∀x,x≠b->J C E x=J C h x\/J C E x=none)(X:∀o,o≠(A b).bc->aM.heap[o]? =w.heap[o]?)
 (m:∀x a,x≠b->J C E x=some a->F x->(A x).bc=(A b).bc->False)(G:eF C A F fv (A b) aM)(P:jg C F fv):bD C A F E j aB aM:=by
 have key:∀x a,x≠b->J C E x=some a->J C h x=some a:=by
  intro x a d c
  rcases z x d with e|e
  ·rw[<-e,c]
  ·rw[e]at c;cases c
 refine⟨M.aP,M.lt, ?_, ?_, ?_, ?_, ?_⟩
 ·intro x a c
  by_cases l:x=b
  ·subst l;exact M.lt x t
  ·exact M.jF x a (key x a l c)
 ·intro x a c bQ
  by_cases l:x=b
  ·subst l;rw[s]at c;cases c;exact G
  ·exact(M.obj x a (key x a l c) bQ).T (λ_ _=>rfl) (λ_ e=>e) (X _ λL=>m x a l c bQ L)
 ·intro x g a n c v bQ p d f i
  by_cases l:x=b
  ·subst l
   exact(m g n (λL=>d L.symm) v p i.symm).elim
  ·by_cases r:g=b
   ·subst r;exact(m x a l c bQ i).elim
   ·exact M.sep x g a n (key x a l c) (key g n r v) bQ p d f i
 ·intro x a f c bQ
  by_cases l:x=b
  ·subst l;exact M.base x bN f O t
  ·exact M.base x a f (key x a l c) bQ
 ·intro x a c bQ
  by_cases l:x=b
  ·subst l;rw[s]at c;cases c;exact P
  ·exact M.cj x a (key x a l c) bQ
def n5(D:ae):Prop:=(∀c n,D≠ .cells c n .eC)/\(∀c n k,D≠ .cells c n (.grow k))
def bD.alone(M:bD C A F h j aB w){b:Nat}{bN:ae}(ab:C.aP<=b)(f:F b)(m:J C h b=some bN)(a:n5 bN):
 ∀x d,x≠b->J C h x=some d->F x->(A x).bc=(A b).bc->False:=by
 intro x d i p bQ g
 rcases(M.sep b x bN d m p f bQ (λL=>i L.symm) ab g.symm).1 with ⟨c,n,_,_,L,_⟩|⟨c,n,k,_,_,L,_⟩|⟨_,_,_,c,n,_,L,_⟩
 ·exact a.1 _ _ L
 ·exact a.2 _ _ _ L
 ·exact a.1 _ _ L
end
section
variable{C:aC}{A bF:bE}{F bu:Nat->Prop}{h E:I ae}{j ar aB:Nat}{w aM:World}
def jp(w:World)(D:Obj):(w.alloc D).heap[w.heap.size]? =some D:=by
 show(w.heap.push D)[w.heap.size]? =_
 simp
def fk(A:bE)(b:Nat)(pl:fU):c2 A b pl b=pl:=by unfold c2;rw[Zv rfl]
def hZ{b:Nat}{pl:fU}(a:¬F b):∀x,F x->c2 A b pl x=A x:=λx c=>by
 unfold c2;rw[Zj];intro l;subst l;exact a c
def eH(A:bE)(k:List y):(aU A k).length=k.length:=by rw[hk,Zn]
def md(A:bE)(k:List y)(i:Nat):(aU A k)[i]? =(k[i]?).map (ai A):=by rw[hk,Zw]
def nh(A:bE)(a b:List y):aU A (a++b)=aU A a++aU A b:=by simp[hk]
def ml{a b:List y}(c:cd F a)(ab:cd F b):cd F (a++b):=by
 rw[iU]at*
 intro v d
 rcases Zr.1 d with e|e
 ·exact c v e
 ·exact ab v e
def mm{k:List y}(e:cd F k){i:Nat}{v:y}(a:k[i]? =some v):bd F v:=(iU F k).1 e v (Zg a)
def fG(k:List y)(i:Nat):(I.ofList k 0 .nil).get i=k[i]? :=by
 rw[I.rD]
 split
 ·simp
 ·rename_i e
  have:k.length<=i:=Zo
  rw[Z3 this];rfl
def q4{k:List y}(g:cd F k)(ty:TypeId)(r:Nat)(w:World):eF C A F (.cells (I.ofList k 0 .nil) k.length .own) ⟨w.heap.size,0,r⟩ (w.alloc (.cells (aU A k).toArray ty)):=by
 refine⟨_,ty,0,0,jp _ _,rfl,by simp[eH],λi v a=> ?_⟩
 rw[fG]at a
 refine⟨?_,mm g a⟩
 simp only[ZE,YO,md,a,ZJ]
def nW(n:Nat)(z:List y):(eA n z).length=n*z.length:=by
 induction n with
 |zero=>simp[eA]
 |succ n V=>simp[eA,V,zr,zs]
def JB(z:List y):∀(n i:Nat),i<n*z.length->(eA n z)[i]? =z[i%z.length]? :=by
 intro n
 induction n with
 |zero=>intro i e;omega
 |succ n V=>
  intro i e
  simp only[eA]
  rw[zr]at e
  by_cases ak:i<z.length
  ·rw[ZA ak,YM ak]
  ·rw[Zy Zo,V _ Zo]
   congr 1
   exact(Nat.mod_eq_sub_mod Zo).symm
def rH{z:List y}(e:cd F z):∀n,cd F (eA n z):=by
 intro n
 induction n with
 |zero=>trivial
 |succ n V=>exact ml e V
def Ap(A:bE)(z:List y)(n:Nat):((Array.range (n*z.length)).map λi=>(aU A z).toArray[i%z.length]!)=(aU A (eA n z)).toArray:=by
 apply YC
 rw[Array.toList_map,Array.toList_range]
 show _=aU A (eA n z)
 apply Y9
 intro i
 rw[Zw,md]
 by_cases ak:i<n*z.length
 ·rw[List.getElem?_range ak,JB z n i ak]
  have d:0<z.length:=by
   rcases Nat.eq_zero_or_pos z.length with e|e
   ·rw[e]at ak;omega
   ·exact e
  have a:i%z.length<z.length:=zt _ d
  simp only[ZJ]
  rw[Ze a]
  simp only[ZJ,Zu]
  rw[getElem!_pos _ _ (by simpa[eH]using a)]
  simp[hk]
 ·have b:(List.range (n*z.length))[i]? =none:=Z3 Zx
  have c:(eA n z)[i]? =none:=Z3 (by rw[nW];omega)
  rw[b,c];rfl
def Aq(A:bE)(z:List y)(s n:Nat)(c:z.length=s)(zero:Array Value)(a:n*s≠0->zero=(aU A z).toArray):
 ((Array.range (n*s)).map (zero[·%zero.size]!))=(aU A (eA n z)).toArray:=by
 subst c
 by_cases e:n*z.length=0
 ·have b:eA n z=[]:=YB.1 (by rw[nW];exact e)
  rw[e,b];simp[aU]
 ·rw[a e, <-Ap]
  simp[eH]
def yF{oper:Oper}{af:Operand->Value}{Y:Operand->Option y}{b:Nat}{v:y}{bN:ae}(T1:¬F b)(G:ei A F af Y oper.op.operands.toList)
 (e:hH oper.op C Y b=some (v,bN)):∃D,(execOp af oper).run C.P w= .ok (.value (ai (c2 A b ⟨w.heap.size,0,0⟩) v)) (w.alloc D)/\bd (add F b) v/\
  eF C (c2 A b ⟨w.heap.size,0,0⟩) (add F b) bN ⟨w.heap.size,0,0⟩ (w.alloc D):=by
 have O:=hZ (A:=A) (pl:=⟨w.heap.size,0,0⟩) T1
 have m:∀x,F x->add F b x:=λ_ e=> .inl e
 obtain⟨dst,op,type,pos,after,guard⟩:=oper
 cases op<;>simp only[hH]at e<;>(try(cases e;done))<;>simp only[execOp]<;>simp only[Op.operands]at G
 case alloc t=>
  unfold nB at e
  split at e
  ·rename_i z p
   simp at e;obtain⟨rfl,rfl⟩:=e
   obtain⟨P,g⟩:=lz p A F w
   refine⟨.cells (aU A z.cells).toArray t, ?_, .inr rfl, ?_⟩
   ·simp[Instr.alloc,P,newVar,newRow,jj,ai,fk]
   ·have:=q4 (C:=C) (A:=c2 A b ⟨w.heap.size,0,0⟩) (F:=add F b) (h9 m _ (iR g)) t 0 w
    rw[kO O (iR g)]at this
    exact this
  ·simp at e
 case box t x=>
  unfold p7 at e
  split at e
  ·rename_i N n
   simp at e;obtain⟨rfl,rfl⟩:=e
   obtain⟨d,a⟩:=G x Zs N n
   refine⟨.cells (aU A N.cells).toArray t, ?_, .inr rfl, ?_⟩
   ·simp[Instr.box,newVar,newRow,d,jj,ai,fk]
   ·have:=q4 (C:=C) (A:=c2 A b ⟨w.heap.size,0,0⟩) (F:=add F b) (h9 m _ (iR a)) t 0 w
    rw[kO O (iR a)]at this
    exact this
  ·simp at e
 case buildSlice t len parts=>
  unfold p8 at e
  split at e
  ·rename_i bZ bH n T3
   split at e
   ·rename_i s z T4 p
    simp only[cg,Zq]at e
    obtain⟨⟨d,a⟩,e⟩:=e
    have d:len*s<=16777216:=et d
    have a:z.cells.length=s:=Zh a
    split at e
    ·rename_i cs T0
     simp at e;obtain⟨rfl,rfl⟩:=e
     obtain⟨P,g⟩:=lz p A F w
     obtain⟨T5,T6⟩:=xH (by simpa using G) T3
     obtain⟨Z,X⟩:=tI (A:=A) (qo:=λi=>some (i*s,s)) (λ_ _ e=>e) bH (eA len z.cells) cs (rH (iR g) len) T6 T0
     refine⟨.cells (aU A cs).toArray bZ, ?_, .inr rfl, ?_⟩
     ·have l:(parts.map λx=>(x.1,af x.2)).toList=bH.map λx=>(x.1,ai A x.2):=by rw[<-T5];simp
      have iV:¬(len*s>2^24):=by
       have:(2:Nat)^24=16777216:=by decide
       omega
      have f:Instr.fill (λi=>some (i*s,s)) ((Array.range (len*s)).map ((if len*s=0 then #[]else(ai A z).cells)[·%(if len*s=0 then #[]else(ai A z).cells).size]!)) (parts.map λx=>(x.1,af x.2)).toList=some (aU A cs).toArray:=by
       rw[Aq A z.cells s len a _ (λT2=>by rw[Zj T2,jj]),l]
       exact Z
      simp only[Instr.buildSlice,Sem.run_bind,run_underlying n,Result.andThen_ok,gb T4]
      rw[Zj iV]
      by_cases c:len*s=0
      ·rw[Zv c]at f
       simp only[Zv c,Sem.run_bind,Sem.run_pure,Result.andThen_ok,f]
       simp[newRow,ai,fk]
      ·simp only[Zj c]at f
       simp only[Zj c,Sem.run_bind,Sem.run_pure,Result.andThen_ok,P,f]
       simp[newRow,ai,fk]
     ·have:=q4 (C:=C) (A:=c2 A b ⟨w.heap.size,0,0⟩) (F:=add F b) (h9 m _ X) bZ 0 w
      rw[kO O X]at this
      exact this
    ·simp at e
   ·simp at e
  ·simp at e
 case makeMap t r=>
  cases r with
  |some r=>simp[hH]at e
  |none=>
   simp[hH]at e;obtain⟨rfl,rfl⟩:=e
   refine⟨.map #[] 0, ?_, .inr rfl, ?_⟩
   ·simp[Instr.makeMap,ai,fk]
   ·exact⟨#[],jp _ _,rfl,Zs⟩
end
section
variable{C:aC}{A bF:bE}{F bu:Nat->Prop}{h E:I ae}{j ar aB:Nat}{w aM:World}
def e6:Array Value->Nat->List Value->Array Value
 |c,_,[]=>c
 |c,D,v::k=>e6 (c.setIfInBounds D v) (D+1) k
def kp:∀(k:List Value) (c:Array Value) (D:Nat),(e6 c D k).size=c.size:=by
 intro k
 induction k with
 |nil=>intro c D;rfl
 |cons v k V=>intro c D;simp[e6,V]
def u5:∀(k:List Value) (c:Array Value) (D i:Nat),D+k.length<=c.size->(e6 c D k)[i]? =if D<=i/\i<D+k.length then k[i-D]? else c[i]? :=by
 intro k
 induction k with
 |nil=>intro c D i _;rw[Zj (by simp only[Z0];omega)];rfl
 |cons v k V=>
  intro c D i e
  simp only[ZC]at e
  simp only[e6]
  rw[V _ _ _ Zx]
  by_cases l:i=D
  ·subst l
   rw[Zj Zo,Zv Zs]
   have a:i<c.size:=Zo
   simp[a]
  ·by_cases L:D+1<=i/\i<D+1+k.length
   ·rw[Zv L,Zv Zx,show i-D=(i-(D+1))+1 by omega,ZN]
   ·rw[Zj L,Zj (by simp only[ZC];omega),Array.getElem?_setIfInBounds_ne (λe=>l e.symm)]
def u1(P:Program)(g D:Nat)(t:TypeId)(aF ak:Nat):∀(aE:List Value) (i:Nat) (a:Array Value) (w:World),w.heap[g]? =some (.cells a t (aF,ak))->(ak<=aF\/a.size<=aF)->
 D+i+aE.length<=a.size->(∀v∈aE,v.oneCell'=true)->(storeCells ⟨g,D,none⟩ aE i).run P w= .ok () (w.setRow g (e6 a (D+i) aE)):=by
 intro aE
 induction aE with
 |nil=>
  intro i a w b _ _ _
  simp only[storeCells,e6]
  rw[setRow_self w g a t _ b];rfl
 |cons v aE V=>
  intro i a w b m au c
  simp only[ZC]at au
  have p:D+i<a.size:=Zo
  have d:(⟨g,D,none⟩:Addr).add i=⟨g,D+i,none⟩:=h6 _ _ _
  have f:w.cell? ⟨g,D+i,none⟩=some a[D+i]:=by simp[World.cell?,b,p]
  have n:w.frozen? ⟨g,D+i,none⟩=false:=by
   simp only[World.frozen?,b,Bool.and_eq_false_iff,Zb]
   omega
  have r:(store ((⟨g,D,none⟩:Addr).add i) v).run P w= .ok () (w.setRow g (a.setIfInBounds (D+i) v)):=by
   rw[d,run_store P w _ v _ (c v Zs),f]
   simp[n,setCell_eq_setRow w g (D+i) a t _ v b]
  have:=V (i+1) (a.setIfInBounds (D+i) v) (w.setRow g (a.setIfInBounds (D+i) v)) (setRow_heap w g a _ t _ b) (by simpa using m) Zx (λx s=>c x (by simp[s]))
  simp only[storeCells,Sem.run_bind,r,Result.andThen_ok,this,setRow_setRow,e6]
  rfl
def s8{p:Nat}(cv:aB<=p)(cs:Array Value)(w:World):Below aB w (w.setRow p cs):=
 ⟨rfl,rfl,rfl,by simp[World.setRow],λo a=>setRow_other w p o cs Zo⟩
def y0:∀{aE:List y},cR aE=true->∀v∈aU A aE,v.oneCell'=true:=by
 intro aE
 induction aE with
 |nil=>intro _ v b;simp[aU]at b
 |cons a k V=>
  intro e v b
  simp only[cR,Zq]at e
  simp only[aU,Zz]at b
  rcases b with rfl|b
  ·cases a<;>simp[d9]at e<;>rfl
  ·exact V e.2 v b
def Be{c:I y}{a7:Array Value}{b5 D n:Nat}{aE:List y}(b:cd F aE)(f:D+aE.length<=n)(d:b5+n<=a7.size)
 (e:∀i v,c.get i=some v->a7[b5+i]? =some (ai A v)/\bd F v):
 ∀i v,(cO c D aE).get i=some v->(e6 a7 (b5+D) (aU A aE))[b5+i]? =some (ai A v)/\bd F v:=by
 intro i v a
 rw[vl,I.rD]at a
 rw[u5 _ _ _ _ (by rw[eH];omega),eH]
 split at a
 ·rename_i ak
  rw[Zv Zo,md,show b5+i-(b5+D)=i-D by omega,a]
  exact⟨rfl,mm b a⟩
 ·rename_i ak
  rw[Zj Zo]
  exact e i v a
def sI{c:I y}{D n:Nat}{aE:List y}(b:D+aE.length<=n)(e:∀i v,c.get i=some v->i<n):∀i v,(cO c D aE).get i=some v->i<n:=by
 intro i v a
 rw[vl,I.rD]at a
 split at a
 ·omega
 ·exact e i v a
def oV{k:List y}:∀i v,(I.ofList k 0 .nil).get i=some v->i<k.length:=by
 intro i v a
 rw[fG]at a
 exact(Zf.1 a).1
def pj(M:bD C A F h j aB w){bv b D:Nat}{aE:List y}(d:F b)(T1:cd F aE)(e:gX C h b D aE=some E):
 ∃aM,(storeCells ⟨(A b).bc,(A b).b5+D,none⟩ (aU A aE)).run C.P w= .ok () aM/\bD C A F E j aB aM/\dW C bv A F h aB w A F E aM:=by
 unfold gX at e
 split at e
 ·rename_i c n st f
  simp only[cg,Zq]at e
  obtain⟨⟨⟨i,P⟩,X⟩,e⟩:=e
  have i:D+aE.length<=n:=et i
  have ab:C.aP<=b:=et P
  obtain⟨a7,ty,aF,ak,aH,aZ,a3,a4⟩:=M.obj b _ f d
  have T6:st≠ .eC:=λl=>(by subst l;simp at e)
  refine⟨w.setRow (A b).bc (e6 a7 ((A b).b5+D) (aU A aE)), ?_, ?_⟩
  ·exact u1 C.P _ _ ty aF ak (aU A aE) 0 a7 w aH (aZ.free T6) (by rw[eH];omega) (y0 X)
  have T7:=setRow_heap w (A b).bc a7 (e6 a7 ((A b).b5+D) (aU A aE)) ty (aF,ak) aH
  have T0:=M.base b _ ab f d
  have z:Below aB w (w.setRow (A b).bc (e6 a7 ((A b).b5+D) (aU A aE))):=s8 T0 _ _
  have O:∀o,o≠(A b).bc->(w.setRow (A b).bc (e6 a7 ((A b).b5+D) (aU A aE))).heap[o]? =w.heap[o]? :=λo T2=>setRow_other w _ o _ T2
  have fin:∀e7,ob e7 n (A b) a7.size aF ak->eF C A F (.cells (cO c D aE) n e7) (A b) (w.setRow (A b).bc (e6 a7 ((A b).b5+D) (aU A aE))):=by
   intro e7 t
   refine⟨_,ty,aF,ak,T7,by rw[kp];exact t,by rw[kp];exact a3,Be T1 i a3 a4⟩
  have plain:∀e7,n5 (.cells c n st)->ob e7 n (A b) a7.size aF ak->(∀k,e7≠ .grow k)->E=aS C h b (some (.cells (cO c D aE) n e7))->
   bD C A F E j aB (w.setRow (A b).bc (e6 a7 ((A b).b5+D) (aU A aE)))/\dW C bv A F h aB w A F E (w.setRow (A b).bc (e6 a7 ((A b).b5+D) (aU A aE))):=by
   intro e7 Z t T4 Y
   subst Y
   have s:J C (aS C h b (some (.cells (cO c D aE) n e7))) b=some (.cells (cO c D aE) n e7):=by rw[cw _ ab,Zv rfl]
   have g:∀x,x≠b->J C (aS C h b (some (.cells (cO c D aE) n e7))) x=J C h x:=λx a=>by rw[cw _ ab,Zj a]
   refine⟨M.put ab d f s (λx a=> .inl (g x a)) O ?_ (fin e7 t) ⟨λp aj k au=>(by cases au;exact absurd rfl (T4 _)),λp aj T9 au=>(by cases au;exact sI i ((M.cj b _ f d).2 _ _ _ rfl))⟩, ?_⟩
   ·intro x v m a bQ r
    rw[g x m]at a
    exact M.alone ab d f Z x v m a bQ r
   ·exact⟨λ_ _=>rfl,λ_ e=>e,λ_ e=> .inl e,λx a _=>g x (λl=>a (l▸d)),z⟩
  cases st with
  |own=>
   simp only[dF,Zu]at e
   exact plain .own ⟨Zs,Zs⟩ aZ Zs e.symm
  |marked=>
   simp only[dF,Zu]at e
   exact plain .marked ⟨Zs,Zs⟩ aZ Zs e.symm
  |grow cj=>
   simp only[dF,Zu]at e
   have G:=(M.cj b _ f d).1 _ _ _ rfl
   subst e
   have s:J C (aS C (fN C cj h) b (some (.cells (cO c D aE) n (.grow [])))) b=some (.cells (cO c D aE) n (.grow [])):=by rw[cw _ ab,Zv rfl]
   have g:∀x,x≠b->J C (aS C (fN C cj h) b (some (.cells (cO c D aE) n (.grow [])))) x=if x∈cj then none else J C h x:=λx a=>by
    rw[cw _ ab,Zj a,ya _ _ _ λTY T8=>(G TY T8).2]
   refine⟨M.put ab d f s (λx a=> ?_) O ?_ (fin (.grow []) aZ) ⟨λp aj k au=>(by cases au;simp),λp aj T9 au=>(by cases au;exact sI i ((M.cj b _ f d).2 _ _ _ rfl))⟩, ?_⟩
   ·rw[g x a];split
    ·exact .inr rfl
    ·exact .inl rfl
   ·intro x v m a bQ r
    rw[g x m]at a
    split at a
    ·cases a
    ·rename_i T5
     rcases(M.sep b x _ v f a d bQ (λL=>m L.symm) ab r.symm).1 with ⟨_,_,_,_,L,_⟩|⟨_,_,k,_,_,L,_,au,_⟩|⟨_,_,_,_,_,_,L,_⟩
     ·cases L
     ·cases L;exact T5 au
     ·cases L
   ·exact⟨λ_ _=>rfl,λ_ e=>e,λ_ e=> .inl e,λx a _=>by
     rw[g x (λl=>a (l▸d)),Zj (λT3=>a (G x T3).1)],z⟩
  |eC=>simp at e
 ·simp at e
end
def lV(C:aC)(A:bE)(F:Nat->Prop)(h:I ae)(j aB:Nat)(w:World)(s:Sem Next)(v:y)(E:I ae)(ar:Nat):Prop:=
 ∃bF bu aM n,s.run C.P w= .ok n aM/\(n= .value (ai bF v)\/(n= .skip/\v=undef))/\bd bu v/\bD C bF bu E ar aB aM/\dW C j A F h aB w bF bu E aM/\j<=ar
section
variable{C:aC}{A bF:bE}{F bu:Nat->Prop}{h E:I ae}{j ar aB:Nat}{w aM:World}
def putObj(M:bD C A F h j aB w){bv b:Nat}{bN fv:ae}{fu o':Obj}(ab:C.aP<=b)(d:F b)(i:J C h b=some bN)(r:n5 bN)(m:w.heap[(A b).bc]? =some fu)
 (t:∀c l f,fu≠ .cells c l f)(v:∀aM:World,aM.heap[(A b).bc]? =some o'->eF C A F fv (A b) aM)(z:jg C F fv):
 ∃aM,(Go.setObj (A b).bc o').run C.P w= .ok () aM/\bD C A F (aS C h b (some fv)) j aB aM/\dW C bv A F h aB w A F (aS C h b (some fv)) aM:=by
 have G:(Go.setObj (A b).bc o').run C.P w= .ok () {w with heap:=w.heap.setIfInBounds (A b).bc o'}:=by
  cases fu<;>first
   |exact absurd rfl (t _ _ _)
   |simp[Go.setObj,Sem.run,m]
 obtain⟨bf,bo⟩:=MapKept.heap_set (o':=o') m
 have O:J C (aS C h b (some fv)) b=some fv:=by rw[cw _ ab,Zv rfl]
 have g:∀x,x≠b->J C (aS C h b (some fv)) x=J C h x:=λx a=>by rw[cw _ ab,Zj a]
 have X:=M.base b _ ab i d
 refine⟨_,G,M.put ab d i O (λx a=> .inl (g x a)) (λo n=>bo o n) ?_ (v _ bf) z, ?_⟩
 ·intro x P p a bQ s
  rw[g x p]at a
  exact M.alone ab d i r x P p a bQ s
 ·exact⟨λ_ _=>rfl,λ_ e=>e,λ_ e=> .inl e,λx a _=>g x (λl=>a (l▸d)),rfl,rfl,rfl,Zs,λo n=>bo o Zo⟩
def lB{r:Nat}{D:ae}{v:y}{a:b1}(e:setObj C h j r D v=some a):a= .cy v (aS C h r (some D)) j/\C.aP<=r:=by
 unfold setObj at e
 simp only[dF,cg,Zu]at e
 exact⟨e.2.symm,et e.1⟩
def nT(M:bD C A F h j aB w){bv r:Nat}{am eu:List (y×y×Nat)}{c j2:Nat}{l5:Array MapEntry}(ab:C.aP<=r)(a:F r)(b:J C h r=some (.map am c))
 (f:l5.toList=eu.map (cJ A))(g:∀l∈eu,bd F l.1/\bd F l.2.1):
 ∃aM,(Go.setObj (A r).bc (.map l5 j2)).run C.P w= .ok () aM/\bD C A F (aS C h r (some (.map eu j2))) j aB aM/\dW C bv A F h aB w A F (aS C h r (some (.map eu j2))) aM:=by
 obtain⟨a7,d,_,_⟩:=M.obj r _ b a
 exact putObj M ab a b ⟨Zs,Zs⟩ d Zs (λaM i=>⟨l5,i,f,g⟩) ⟨λ_ _ _ e=>(by cases e),λ_ _ _ e=>(by cases e)⟩
def KW(M:bD C A F h j aB w){s:Nat}{t:TypeId}{a v:y}{d:b1}(i:ea C t=some s)(f:bd F a)(dH:bd F v)(e:sA C h j s a v=some d):
 ∃E,d= .cy undef E j/\∀N:Sem Next,(∀aM,(Instr.storeAt t (ai A a) (ai A v)).run C.P w= .ok () aM->N.run C.P w= .ok .skip aM)->lV C A F h j aB w N undef E j:=by
 unfold sA at e
 split at e
 ·rename_i b D
  simp only[cg,Zq]at e
  obtain⟨⟨c,r⟩,e⟩:=e
  have c:v.cells.length=s:=Zh c
  split at e
  ·rename_i E g
   simp at e
   obtain⟨aM,bf,bo,p⟩:=pj M (bv:=j) f (iR dH) g
   refine⟨E,e.symm,λN n=>⟨A,F,aM, .skip,n aM ?_, .inr ⟨rfl,rfl⟩,by trivial,bo,p,Zp _⟩⟩
   have m:(ai A v).cells.size=s:=by rw[jj];simp[eH,c]
   simp only[Instr.storeAt,Instr.sureAddr,ai,Sem.run_bind,Sem.run_pure,Result.andThen_ok,storeVar,gb i,m,ne_eq,not_true_eq_false,ZM]
   simp only[jj]
   exact bf
  ·simp at e
 ·simp at e
def G8:∀(n:Nat),(∀(m:Nat) (x c:y),n<=m->bd F x->bd F c->gL n x c=true->Instr.sameBits m (ai A x) (ai A c)=true)/\
 ∀(m:Nat) (a b:List y),n<=m->cd F a->cd F b->gL.mw n a b=true->(aU A a).length=(aU A b).length/\((aU A a).zip (aU A b)).all (λ(x,c)=>Instr.sameBits m x c)=true:=by
 intro n
 induction n with
 |zero=>
  refine⟨λm x c _ _ _ e=>by simp[gL]at e, ?_⟩
  intro m a
  induction a with
  |nil=>intro b _ _ _ e;cases b<;>simp[gL.mw]at e<;>simp[aU]
  |cons x a _=>intro b _ _ _ e;cases b<;>simp[gL.mw,gL]at e
 |succ n V=>
  have one:∀(m:Nat) (x c:y),n+1<=m->bd F x->bd F c->gL (n+1) x c=true->Instr.sameBits m (ai A x) (ai A c)=true:=by
   intro m x c f p r e
   obtain⟨m,rfl⟩:∃o,m=o+1:=⟨m-1,Zo⟩
   unfold gL at e
   split at e<;>(try(cases e;done))
   ·simpa[ai,Instr.sameBits]using e
   ·simp at e;obtain⟨rfl,rfl⟩:=e;simp[ai,Instr.sameBits]
   ·rename_i a b
    have:=(qh _ _).1 e
    subst this
    simp only[ai,Instr.sameBits]
    rw[xb];simp
   ·rename_i b D s o'
    simp only[Zq]at e
    have d:b=s:=Zh e.1
    have w:D=o':=Zh e.2
    subst d;subst w
    simp[ai,Instr.sameBits]
   ·simp[ai,Instr.sameBits]
   ·simp[ai,Instr.sameBits]
   ·rename_i t v C G
    simp only[Zq]at e
    have d:t=C:=Zh e.1
    subst d
    simp[ai,Instr.sameBits,V.1 m v G Zo p r e.2]
   ·rename_i a b
    obtain⟨bf,bo⟩:=V.2 m a b Zo p r e
    simp only[ai,Instr.sameBits,Zq,Y3]
    exact⟨by simpa using bf,by simpa using bo⟩
  refine⟨one, ?_⟩
  intro m a
  induction a with
  |nil=>intro b _ _ _ e;cases b<;>simp[gL.mw]at e<;>simp[aU]
  |cons x a z=>
   intro b f g i e
   cases b with
   |nil=>simp[gL.mw]at e
   |cons c b=>
    simp only[gL.mw,Zq]at e
    obtain⟨bf,bo⟩:=z b f g.2 i.2 e.2
    simp only[aU,ZC,List.zip_cons_cons,List.all_cons,Zq]
    exact⟨Zo,one m x c f g.1 i.1 e.1,bo⟩
def yh{ht new:y}(go:bd F ht)(a:bd F new)(e:gL 20 ht new=true):(Instr.keyThatStays (ai A ht) (ai A new)).run C.P w= .ok (ai A new) w:=by
 simp[Instr.keyThatStays,(G8 (A:=A) (F:=F) 20).1 10000 ht new Zd go a e]
def tB{a7:Array MapEntry}{am:List (y×y×Nat)}{i:Nat}{l:y×y×Nat}(a:a7.toList=am.map (cJ A))(e:am[i]? =some l):a7[i]? =some (cJ A l):=by
 rw[<-ZK,a,Zw,e];rfl
def ux{a7:Array MapEntry}{am:List (y×y×Nat)}{i:Nat}{l a:y×y×Nat}(f:MapEntry->MapEntry)(b:a7.toList=am.map (cJ A))(e:am[i]? =some l)
 (c:f (cJ A l)=cJ A a):(a7.modify i f).toList=(am.set i a).map (cJ A):=by
 apply Y9
 intro H
 rw[ZK,Y6,Zw,Yr]
 have d:i<am.length:=(Zf.1 e).1
 by_cases l:i=H
 ·subst l
  rw[Zv rfl,Zv rfl,Zv d,tB b e]
  simp[c]
 ·rw[Zj l,Zj l, <-ZK,b,Zw]
def tY{am:List (y×y×Nat)}{i:Nat}{a:y×y×Nat}(c:∀l∈am,bd F l.1/\bd F l.2.1)(b:bd F a.1/\bd F a.2.1):∀l∈am.set i a,bd F l.1/\bd F l.2.1:=by
 intro l e
 rcases YP e with e|e
 ·exact c l e
 ·rw[e];exact b
def DX(M:bD C A F h j aB w){t:Nat}{m o v:y}{O:b1}(f:bd F m)(b:bd F o)(dH:bd F v)(e:pg C h j t m o v=some O):
 ∃E aM,O= .cy undef E j/\(Instr.mapUpdate t (ai A m) (ai A o) (ai A v)).run C.P w= .ok () aM/\bD C A F E j aB aM/\dW C j A F h aB w A F E aM:=by
 unfold pg at e
 split at e
 ·rename_i Y Z r G
  split at e
  ·rename_i am c n
   simp only[cg]at e
   obtain⟨x,e⟩:=e
   obtain⟨T0,z⟩:=rM x
   obtain⟨a7,aH,aZ,a3,a4⟩:=iC M f n
   have s:=qS (C:=C) (A:=A) (F:=F) (w:=w) (l:=false) 20 10000 Y o Zd b x
   split at e
   ·rename_i i N d
    have g:=nr M z b a4 d
    obtain⟨_,l,a,rfl⟩:=rt am 0 i N d
    simp only[YI]at a
    rw[ih,a]at e
    obtain⟨ct,T1,born⟩:=l
    simp only[cg]at e
    obtain⟨X,e⟩:=e
    obtain⟨rfl,ab⟩:=lB e
    have P:=a4 _ (Zg a)
    obtain⟨aM,bf,bo,p⟩:=nT M (bv:=j) ab f n (j2:=c) (eu:=am.set i (o,v,born)) (ux (λl=>{l with key:=ai A o,val:=ai A v}) a3 a rfl) (tY a4 ⟨b,dH⟩)
    refine⟨_,aM,rfl, ?_,bo,p⟩
    simp[Instr.mapUpdate,run_underlying G,ai,aH,s,a3,g,hJ,tB a3 a,cJ,yh P.1 b X,bf]
   ·rename_i d
    have g:=nr M z b a4 d
    obtain⟨rfl,ab⟩:=lB e
    obtain⟨aM,bf,bo,p⟩:=nT M (bv:=j) ab f n (j2:=c+1) (eu:=am++[(o,v,c)]) (l5:=a7.push {key:=ai A o,val:=ai A v,born:=c}) (by simp[a3,cJ])
     (λl a=>(Zr.1 a).elim (a4 l) (λa=>by simp at a;subst a;exact⟨b,dH⟩))
    refine⟨_,aM,rfl, ?_,bo,p⟩
    simp[Instr.mapUpdate,run_underlying G,ai,aH,s,a3,g,hJ,bf]
   ·simp at e
  ·simp at e
 ·simp at e
end
def Gw(ie bM:Nat)(a:ie+(ie+768)/4<=bM):∀(r c:Nat),c<=bM->Builtin.growBy ie r c<=bM:=by
 intro r
 induction r with
 |zero=>intro c e;exact e
 |succ r V=>
  intro c e
  simp only[Builtin.growBy]
  split
  ·exact e
  ·exact V _ Zo
def nextslicecap_le{ie mG:Nat}(e:mG<ie):Builtin.nextslicecap ie mG<=2*ie+200:=by
 unfold Builtin.nextslicecap
 split
 ·omega
 ·split
  ·omega
  ·exact Gw ie _ Zo 4 mG Zo
def JV{ie mG bytes:Nat}(e:mG<ie)(d:ie<=1048576)(ab:bytes<=65536):¬(Builtin.nextslicecap ie mG*bytes>2^48):=by
 have a:=nextslicecap_le e
 have b:Builtin.nextslicecap ie mG*bytes<=(2*1048576+200)*65536:=Nat.mul_le_mul Zo ab
 have c:(2:Nat)^48=281474976710656:=by decide
 omega
def wrap_small{n:Nat}(b:n<=1048576):IntKind.i64.wrap (n:Int)=n:=by
 rw[<-Bc]
 simp only[h0,cN,Zc]
 have a:(n:Int)%18446744073709551616=n:=Int.emod_eq_of_lt Zo Zo
 rw[a,Zv Zo]
def td{n b:Nat}(a:n<=1048576)(c:b<=65536):¬((281474976710656:Int)<(n:Int)*(b:Int)):=by
 have d:n*b<=1048576*65536:=Nat.mul_le_mul a c
 have:((n*b:Nat):Int)<=((1048576*65536:Nat):Int):=Int.ofNat_le.2 d
 rw[Int.natCast_mul]at this
 omega
def kA(P:Program)(w:World)(bQ:TypeDesc)(X:Value)(i:TypeInfo)(z:Value)(n:Nat)(new:Array Value):Prop:=
 ((bQ= .string\/∃l,bQ= .slice l)/\(Builtin.lenOf X).run P w= .ok n w/\(Builtin.firstCells i.size n X).run P w= .ok new w/\(Builtin.firstCells i.size n X).run P w.drew= .ok new w.drew)\/
 ((∃L,bQ= .int L)/\(∃o,X= .int o (Int.ofNat n))/\n<=1048576/\i.bytes<=65536/\n*i.size≠0/\new=Builtin.zeroCells z.cells n)
section
variable{P:Program}{w aM:World}{bw:Array TypeId}{ty st d7 bZ:TypeId}{i:TypeInfo}{bQ:TypeDesc}{base:Option Addr}{dn fh n:Nat}{X z:Value}{ht new:Array Value}
def qY{a:Addr}(d:bw[0]? =some st)(f:bw[1]? =some d7)(p:P.underlying st=some (.slice bZ))(r:P.underlying d7=some bQ)(ak:P.info? bZ=some i)(G:i.zero=some z)
 (v:kA P w bQ X i z n new)(g:dn+n<=fh)(m:(storeCells (a.add (dn*i.size)) new.toList).run P w= .ok () aM):
 (Builtin.append_ bw ty #[.slice (some a) dn fh,X]).run P w= .ok (.slice (some a) (dn+n) fh) aM:=by
 have s:(#[Value.slice (some a) dn fh,X]:Array Value)[0]? =some (.slice (some a) dn fh):=rfl
 have t:(#[Value.slice (some a) dn fh,X]:Array Value)[1]? =some X:=rfl
 clear s t
 rcases v with ⟨O,b,c,_⟩|⟨⟨L,rfl⟩,⟨o,rfl⟩,b,c,Y,rfl⟩
 ·rcases O with rfl|⟨_,rfl⟩<;>simp[Builtin.append_,d,f,run_underlying p,run_underlying r,sizeOf,typeInfo,ak,b,g,c,m]
 ·have x:=td b c
  have au:¬((n:Int)<0):=Zo
  have C:=wrap_small b
  simp[Builtin.append_,d,f,run_underlying p,run_underlying r,sizeOf,typeInfo,ak,asInt,asIntOf,C,x,au,g,Y,zeroValue,G,m]
def w3(c:bw[0]? =some st)(d:bw[1]? =some d7)(s:P.underlying st=some (.slice bZ))(v:P.underlying d7=some bQ)(ak:P.info? bZ=some i)(x:i.zero=some z)
 (G:kA P w bQ X i z n new)(m:¬(dn+n<=fh))(ab:i.bytes<=65536)(Y:dn+n<=1048576)(p:(Builtin.firstCells i.size dn (.slice base dn fh)).run P w.drew= .ok ht w.drew):
 ∃cap,dn+n<=cap/\(Builtin.append_ bw ty #[.slice base dn fh,X]).run P w=
  .ok (.slice (some ⟨w.heap.size,0,none⟩) (dn+n) cap) (w.drew.alloc (.cells (ht++new++Builtin.zeroCells z.cells (cap-(dn+n))) bZ)):=by
 have M:=JV (ie:=dn+n) (mG:=fh) Zo Y ab
 have r:¬(281474976710656<Builtin.nextslicecap (dn+n) fh*i.bytes):=by
  have T1:(2:Nat)^48=281474976710656:=by decide
  omega
 have f:¬((9223372036854775807:Int)<(dn:Int)+(n:Int)):=Zo
 refine⟨dn+n+(w.tape w.drawn (.appendCap (dn+n) fh bZ))%(2^63-(dn+n)),Zo, ?_⟩
 have t:w.drew.heap.size=w.heap.size:=rfl
 have g:IntKind.i64.max=9223372036854775807:=by decide
 rcases G with ⟨T0,a,C,b⟩|⟨⟨L,rfl⟩,⟨o,rfl⟩,a,C,b,rfl⟩
 ·rcases T0 with rfl|⟨_,rfl⟩<;>
   simp[Builtin.append_,c,d,run_underlying s,run_underlying v,sizeOf,typeInfo,ak,a,m,b,zeroValue,x,g,f,r,Question.forced,Question.cut,p,newRow,t]
 ·have O:=td a C
  have au:¬((n:Int)<0):=Zo
  have Z:=wrap_small a
  simp[Builtin.append_,c,d,run_underlying s,run_underlying v,sizeOf,typeInfo,ak,asInt,asIntOf,Z,O,au,m,b,zeroValue,x,g,f,r,Question.forced,Question.cut,p,newRow,t]
end
end Go.S

