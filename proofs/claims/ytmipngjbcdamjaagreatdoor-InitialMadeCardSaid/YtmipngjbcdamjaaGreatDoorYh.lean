/- Part of the proof of the last text; no conditions -/
import Derived.Test.YtmipngjbcdamjaaGreatDoorYg
import Derived.Test.YtmipngjbcdamjaaGreatDoorProg
set_option maxHeartbeats 8000000
set_option linter.all false
namespace Go.S
noncomputable section
open Go.a8
section
variable{C:aC}{h E ay:I ae}{j ar aL:Nat}
def hI{a:List y}{R:bh}(e:R (.ptr j 0) (aS C h j (zy a a.length)) (j+1)):q (cu a j) λr=>b4 C h j r.1 r.2 R:=⟨⟨e⟩⟩
def pk{b:Nat}{a:List y}{R:y->I ae->Prop}(e:R (.ptr b 0) (aS C h b (zy a a.length))):q (cu a b) λr=>fO C h b r.1 r.2 R:=⟨⟨e⟩⟩
def gI(cs:List y):nq cs []=some cs:=rfl
def gH(cs:List y)(off size:Nat)(v:y)(bH:List (Nat×Nat×y)):nq cs ((off,size,v)::bH)=if v.cells.length=size/\off+size<=cs.length then nq (e5 cs off v.cells) bH else none:=by
 have l:∀a b:Nat,(Nat.beq a b=true)=(a=b):=λa b=>propext ⟨Zh,λe=>by subst e;exact Y2 a⟩
 simp only[nq,cN,Zq,l,Nat.ble_eq]
def Bd(c:I y)(D:Nat)(v:y):cO c D [v]=c.set D (some v):=by simp[cO]
def ba{b n:Nat}{c:I y}{st:h5}(e:J C h b=some (.cells c n st))(D:Nat):W C h (.ptr b D)=c.get D:=by rw[b0,e]
def pH{w:Bool}{a b:Prop}(e:b):ag w S.undef a b:=⟨e⟩
def hP(b D n c:Nat):bL (.slice b D n c)=some (.Z (n:Int)):=by simp[bL,g5]
def ib(b D n c:Nat):bL (.cK b D n c)=some (.Z (n:Int)):=by simp[bL,g5]
def kj:bL .az=some (.Z 0):=rfl
def lk(s:List Nat):ys (.str s)=some (.Z (s.length:Int)):=by simp[ys,g5]
def qg:∀a b:List Nat,f5 a b=decide (a=b):=by
 intro a
 induction a with
 |nil=>intro b;cases b<;>simp[f5]
 |cons x a V=>
  intro b
  cases b with
  |nil=>simp[f5]
  |cons c b=>
   simp only[f5,V]
   by_cases e:x=c<;>simp[e]
def lE(t:Nat)(c:Bool)(a b:List Nat):ce C h .eql t c (.str a) (.str b)=some (.bool (decide (a=b))):=by
 simp[ce,m8,jZ,qg]
def lF(t:Nat)(c:Bool)(a b:List Nat):ce C h .neq t c (.str a) (.str b)=some (.bool (decide (a≠b))):=by
 simp[ce,m8,jZ,qg]
def k2(off ap:Nat)(cs:List y):rv false off ap (.agg cs)=cs[off]? :=by simp[rv,cN]
def k1(off ap:Nat)(cs:List y):rv true off ap (.agg cs)=some (.agg ((cs.drop off).take ap)):=by simp[rv,cN]
def kM(t:Nat)(z v:y):w6 t z true (.iface t v)=some (.tuple [v, .zT]):=by simp[w6,cN]
def kQ(o:IntKind)(x:Int):iS .u64 (.int o x)=some (.int .u64 (x%18446744073709551616)):=by simp[iS,fq,h0]
def xo{o:IntKind}{x:Int}(a: -9223372036854775808<=x)(b:x<9223372036854775808):iS .i64 (.int o x)=some (.Z x):=by simp[iS,fq,wrap64 a b]
def kR(s:List Nat):ES (.str s)=some (.str s):=rfl
structure iq(C:aC)(X:List Nat)(h:I ae)(j:Nat)(E:I ae)(ar:Nat):Prop where
 le:j<=ar
 T:∀b,b<j->b∉X->J C E b=J C h b
structure ci(C:aC)(h:I ae)(P:Nat->Prop)(b:Nat)(ax:y)(ap:Nat)(rows:List (List y)):Prop where
 ab:rows≠[]->P b
 many:rows.length<=300000
 wide:∀r∈rows,r.length=ap
 len:bL ax=some (.Z (rows.length:Int))
 cT:∀(i:Nat),i<rows.length->bK ap ax (.Z (i:Int))=some (.ptr b (i*ap))
 cell:∀(i:Nat) r (H:Nat) v,rows[i]? =some r->r[H]? =some v->W C h (.ptr b (i*ap+H))=some v
def ci.T{P:Nat->Prop}{b ap:Nat}{ax:y}{rows:List (List y)}(e:ci C h P b ax ap rows)(o:∀a,P a->J C E a=J C h a):ci C E P b ax ap rows:=
 ⟨e.ab,e.many,e.wide,e.len,e.cT,λi r H v ak c=>by
  have d:=o b (e.ab (λl=>by rw[l]at ak;cases ak))
  rw[b0,d, <-b0];exact e.cell i r H v ak c⟩
def ci.lift{P bn:Nat->Prop}{b ap:Nat}{ax:y}{rows:List (List y)}(e:ci C h P b ax ap rows)(o:∀a,P a->bn a):ci C h bn b ax ap rows:=
 ⟨λl=>o _ (e.ab l),e.many,e.wide,e.len,e.cT,e.cell⟩
def x2{c:I y}:∀(r:List y) (D:Nat),(∀H v,r[H]? =some v->c.get (D+H)=some v)->c.eM D r.length=some r:=by
 intro r
 induction r with
 |nil=>intro D _;rfl
 |cons a r V=>
  intro D e
  have b:=e 0 a rfl
  rw[ZH]at b
  have d:=V (D+1) (λH v f=>by have:=e (H+1) v (by simpa using f);rw[Nat.add_right_comm];simpa[Z1,zs,Nat.add_left_comm]using this)
  simp[I.eM,b,d]
def ci.row{P:Nat->Prop}{b ap:Nat}{ax:y}{rows:List (List y)}(e:ci C h P b ax ap rows)(n:0<ap){i:Nat}{r:List y}(ak:rows[i]? =some r):br C h ap (.ptr b (i*ap))=some (.agg r):=by
 have au:=e.wide r (Zg ak)
 have f:∃v,r[0]? =some v:=by
  cases r with
  |nil=>simp at au;omega
  |cons a k=>exact⟨a,rfl⟩
 obtain⟨v,m⟩:=f
 have d:=e.cell i r 0 v ak m
 rw[b0]at d
 rw[un]
 split at d
 ·rename_i c _ _ ab
  have:=x2 (c:=c) r (i*ap) (λH v g=>by
   have:=e.cell i r H v ak g
   rw[b0,ab]at this
   exact this)
  rw[au]at this
  rw[this];rfl
 ·cases d
def tP{ap:Nat}:∀(rows:List (List y)),(∀r∈rows,r.length=ap)->∀(i:Nat) r (H:Nat) v,rows[i]? =some r->r[H]? =some v->rows.flatten[i*ap+H]? =some v:=by
 intro rows
 induction rows with
 |nil=>intro _ i r H v ak;simp at ak
 |cons a k V=>
  intro M i r H v ak b
  have c:=M a (Zl ..)
  have f:H<r.length:=(Zf.1 b).1
  cases i with
  |zero=>
   simp at ak;subst ak
   rw[Z9,Y4,ZE,ZA Zo];exact b
  |succ i=>
   simp at ak
   rw[Z9,Zy (by rw[c,Z7];omega),c]
   have:(i+1)*ap+H-ap=i*ap+H:=by rw[Z7];omega
   rw[this]
   exact V (λr d=>M r (Zi _ d)) i r H v ak b
def dc.gO{ap:Nat}{s:y}{rows:List (List y)}{aJ:List Nat}(e:dc C h s ap rows.flatten aJ)(Y:0<ap)(M:∀r∈rows,r.length=ap)(G:rows.length<=300000){P:Nat->Prop}(au:∀Z∈aJ,P Z):∃b,ci C h P b s ap rows:=by
 have m:=iz M
 have J:∀(rows:List (List y)),(∀r∈rows,r.length=ap)->∀(i:Nat) r (H:Nat) v,rows[i]? =some r->r[H]? =some v->rows.flatten[i*ap+H]? =some v:=by
  intro rows
  induction rows with
  |nil=>intro _ i r H v ak;simp at ak
  |cons a k V=>
   intro M i r H v ak d
   have w:=M a (Zl ..)
   have T2:H<r.length:=(Zf.1 d).1
   cases i with
   |zero=>
    simp at ak;subst ak
    rw[Z9,Y4,ZE,ZA Zo];exact d
   |succ i=>
    simp at ak
    rw[Z9,Zy (by rw[w,Z7];omega),w]
    have:(i+1)*ap+H-ap=i*ap+H:=by rw[Z7];omega
    rw[this]
    exact V (λr X=>M r (Zi _ X)) i r H v ak d
 rcases e with ⟨f,g,t⟩|⟨b,cj,n,c,f,g,t,T0,T1,x,z⟩
 ·have p:rows.length=0:=by
   rw[g,Z0]at m
   rcases Nat.mul_eq_zero.1 m.symm with e|e
   ·exact e
   ·omega
  have p:rows=[]:=YB.1 p
  subst p f
  exact⟨0,λl=>absurd rfl l,Zs,M,rfl,λi ak=>by simp at ak,λi r H v ak=>by simp at ak⟩
 ·have O:n=rows.length:=YN Y (by rw[<-g,m])
  subst O f
  refine⟨b,λ_=>au b (by rw[t];exact Zl ..),G,M,ib ..,λi ak=>by rw[oL _ ak,ZE],λi r H v ak d=> ?_⟩
  rw[b0,x]
  exact(z _).trans (J rows M i r H v ak d)
def Ar{b ap o cap:Nat}{rows:List (List y)}{st:h5}(ab:J C h b=some (.cells (I.ofList rows.flatten 0 .nil) (o*ap) st))(g:rows.length=o)(M:∀r∈rows,r.length=ap)(m:o<=300000){P:Nat->Prop}(f:P b):ci C h P b (.slice b 0 o cap) ap rows:=by
 subst g
 have J:∀(rows:List (List y)),(∀r∈rows,r.length=ap)->∀(i:Nat) r (H:Nat) v,rows[i]? =some r->r[H]? =some v->rows.flatten[i*ap+H]? =some v:=by
  intro rows
  induction rows with
  |nil=>intro _ i r H v ak;simp at ak
  |cons a k V=>
   intro M i r H v ak c
   have d:=M a (Zl ..)
   have p:H<r.length:=(Zf.1 c).1
   cases i with
   |zero=>
    simp at ak;subst ak
    rw[Z9,Y4,ZE,ZA Zo];exact c
   |succ i=>
    simp at ak
    rw[Z9,Zy (by rw[d,Z7];omega),d]
    have:(i+1)*ap+H-ap=i*ap+H:=by rw[Z7];omega
    rw[this]
    exact V (λr n=>M r (Zi _ n)) i r H v ak c
 refine⟨λ_=>f,m,M,hP ..,λi ak=>by rw[mu _ ak,ZE],λi r H v ak c=> ?_⟩
 rw[b0,ab]
 exact(fG _ _).trans (J rows M i r H v ak c)
def eS(t:eb):List y:=[.bool t.b, .bool t.s, .Z t.w]
mutual
def bT(C:aC)(h:I ae)(P:Nat->Prop):bk->y->Prop
 | .mk kind at_ name no ty n args,v=>(kind= -1/\v= .bC)\/(kind≠ -1/\∃b ax bO aE,v= .ptr b 0/\P b/\W C h (.ptr b 0)=some (.Z kind)/\W C h (.ptr b 1)=some (.Z at_)/\W C h (.ptr b 2)=some (.str name)/\W C h (.ptr b 3)=some (.bool no)
    /\W C h (.ptr b 4)=some (.bool ty.b)/\W C h (.ptr b 5)=some (.bool ty.s)/\W C h (.ptr b 6)=some (.Z ty.w)/\W C h (.ptr b 7)=some (.int .u64 n)
    /\W C h (.ptr b 8)=some ax/\ci C h P bO ax 1 (aE.map λv=>[v])/\du C h P args aE)
def du(C:aC)(h:I ae)(P:Nat->Prop):List bk->List y->Prop
 |[],aE=>aE=[]
 |l::am,aE=>∃v a,aE=v::a/\bT C h P l v/\du C h P am a
end
mutual
def hD:bk->Prop
 | .mk kind _ _ _ _ _ args=>kind≠ -1/\jT args
def jT:List bk->Prop
 |[]=>True
 |l::am=>hD l/\jT am
end
mutual
def bT.to{P bn:Nat->Prop}(o:∀a,P a->J C E a=J C h a)(L:∀a,P a->bn a):∀(l:bk) (v:y),bT C h P l v->bT C E bn l v
 | .mk kind at_ name no ty n args,v,e=>by
   unfold bT at e ⊢
   rcases e with e|⟨m,b,ax,bO,aE,c,g,d,f,t,w,x,z,G,O,p,r,s⟩
   ·exact .inl e
   ·have au:∀D,W C E (.ptr b D)=W C h (.ptr b D):=λD=>by rw[b0,b0,o b g]
    exact .inr ⟨m,b,ax,bO,aE,c,L b g,by rw[au];exact d,by rw[au];exact f,by rw[au];exact t,by rw[au];exact w,by rw[au];exact x,by rw[au];exact z,by rw[au];exact G,by rw[au];exact O,by rw[au];exact p,(r.T o).lift L,du.to o L args aE s⟩
def du.to{P bn:Nat->Prop}(o:∀a,P a->J C E a=J C h a)(L:∀a,P a->bn a):∀(am:List bk) (aE:List y),du C h P am aE->du C E bn am aE
 |[],aE,e=>by unfold du at e ⊢;exact e
 |l::am,aE,e=>by
  unfold du at e ⊢
  obtain⟨v,i,c,d,f⟩:=e
  exact⟨v,i,c,bT.to o L l v d,du.to o L am i f⟩
end
def c5(kind at_:Int)(name:aW)(no:Bool)(ty:eb)(n:Int)(ax:y):List y:=[.Z kind, .Z at_, .str name, .bool no, .bool ty.b, .bool ty.s, .Z ty.w, .int .u64 n,ax]
def bT.of{P:Nat->Prop}{b bO:Nat}{kind at_ n:Int}{name:aW}{no:Bool}{ty:eb}{ax:y}{c:I y}{m:Nat}{st:h5}{args:List bk}{aE:List y}(g:kind≠ -1)(ab:J C h b=some (.cells c m st))(f:∀(i:Nat) v,(c5 kind at_ name no ty n ax)[i]? =some v->c.get i=some v)(a:P b)
 (p:ci C h P bO ax 1 (aE.map λv=>[v]))(d:du C h P args aE):bT C h P (.mk kind at_ name no ty n args) (.ptr b 0):=by
 unfold bT
 refine .inr ⟨g,b,ax,bO,aE,rfl,a, ?_, ?_, ?_, ?_, ?_, ?_, ?_, ?_, ?_,p,d⟩<;>(rw[ba ab];exact f _ _ rfl)
def bT.nil{P:Nat->Prop}:∀{l:bk}{v:y},bT C h P l v->l.kind= -1->v= .bC
 | .mk ..,_,e,a=>by
   unfold bT at e
   rcases e with e|⟨e,_⟩
   ·exact e.2
   ·exact absurd a e
def bT.root{P:Nat->Prop}:∀{l:bk}{v:y},bT C h P l v->l.kind≠ -1->∃b ax bO aE,v= .ptr b 0/\P b/\W C h (.ptr b 0)=some (.Z l.kind)/\W C h (.ptr b 1)=some (.Z l.at_)/\W C h (.ptr b 2)=some (.str l.name)/\W C h (.ptr b 3)=some (.bool l.no)
 /\W C h (.ptr b 4)=some (.bool l.ty.b)/\W C h (.ptr b 5)=some (.bool l.ty.s)/\W C h (.ptr b 6)=some (.Z l.ty.w)/\W C h (.ptr b 7)=some (.int .u64 l.n)
 /\W C h (.ptr b 8)=some ax/\ci C h P bO ax 1 (aE.map λv=>[v])/\du C h P l.args aE
 | .mk ..,_,e,a=>by
   unfold bT at e
   rcases e with e|⟨_,e⟩
   ·exact absurd e.1 a
   ·exact e
def ci.nil(P:Nat->Prop)(ap:Nat):ci C h P 0 .az ap []:=⟨λl=>absurd rfl l,Zs,Zs,rfl,λi ak=>by simp at ak,λi r H v ak=>by simp at ak⟩
def tO:∀aE:List y,(aE.map λv=>[v]).flatten=aE:=by
 intro aE
 induction aE with
 |nil=>rfl
 |cons a k V=>simp[V]
def du.len:∀{am:List bk}{aE:List y}{P:Nat->Prop},du C h P am aE->aE.length=am.length:=by
 intro am
 induction am with
 |nil=>intro aE P e;unfold du at e;subst e;rfl
 |cons a k V=>
  intro aE P e
  unfold du at e
  obtain⟨w,d,rfl,c,b⟩:=e
  simp[V b]
def du.get:∀{am:List bk}{aE:List y}{P:Nat->Prop},du C h P am aE->∀(i:Nat) l,am[i]? =some l->∃v,aE[i]? =some v/\bT C h P l v:=by
 intro am
 induction am with
 |nil=>intro aE P e i l b;simp at b
 |cons a k V=>
  intro aE P e i l b
  unfold du at e
  obtain⟨w,m,rfl,c,d⟩:=e
  cases i with
  |zero=>simp at b;subst b;exact⟨w,rfl,c⟩
  |succ i=>
   obtain⟨v,f,g⟩:=V d i l (by simpa using b)
   exact⟨v,by simpa using f,g⟩
def du.of{P:Nat->Prop}:∀{am:List bk}{aE:List y},aE.length=am.length->(∀(i:Nat) l v,am[i]? =some l->aE[i]? =some v->bT C h P l v)->du C h P am aE:=by
 intro am
 induction am with
 |nil=>intro aE e _;unfold du;exact Yc e
 |cons a k V=>
  intro aE e o
  cases aE with
  |nil=>simp at e
  |cons w aE=>
   unfold du
   exact⟨w,aE,rfl,o 0 a w rfl rfl,V (by simpa using e) λi l v b c=>o (i+1) l v (by simpa using b) (by simpa using c)⟩
def jT.get:∀{am:List bk},jT am->∀l∈am,hD l:=by
 intro am
 induction am with
 |nil=>intro _ l b;cases b
 |cons a k V=>
  intro e l b
  unfold jT at e
  rcases Zz.1 b with rfl|b
  ·exact e.1
  ·exact V e.2 l b
def hD.eq(l:bk):hD l=(l.kind≠ -1/\jT l.args):=by cases l;rw[hD];rfl
def da(C:aC)(h:I ae)(P:Nat->Prop)(l:bk)(v:y):Prop:=bT C h P l v/\hD l
def jO(C:aC)(h:I ae)(P:Nat->Prop)(am:List bk)(aE:List y):Prop:=du C h P am aE/\jT am
def da.T{P:Nat->Prop}(o:∀a,P a->J C E a=J C h a)(l:bk)(v:y)(e:da C h P l v):da C E P l v:=⟨bT.to o (λ_ e=>e) l v e.1,e.2⟩
def jO.T{P:Nat->Prop}(o:∀a,P a->J C E a=J C h a)(am:List bk)(aE:List y)(e:jO C h P am aE):jO C E P am aE:=⟨du.to o (λ_ e=>e) am aE e.1,e.2⟩
def da.lift{P bn:Nat->Prop}(o:∀a,P a->bn a)(l:bk)(v:y)(e:da C h P l v):da C h bn l v:=⟨bT.to (λ_ _=>rfl) o l v e.1,e.2⟩
def da.open{P:Nat->Prop}{l:bk}{v:y}(e:da C h P l v):∃b ax bO aE,v= .ptr b 0/\P b/\W C h (.ptr b 0)=some (.Z l.kind)/\W C h (.ptr b 1)=some (.Z l.at_)/\W C h (.ptr b 2)=some (.str l.name)/\W C h (.ptr b 3)=some (.bool l.no)
 /\W C h (.ptr b 4)=some (.bool l.ty.b)/\W C h (.ptr b 5)=some (.bool l.ty.s)/\W C h (.ptr b 6)=some (.Z l.ty.w)/\W C h (.ptr b 7)=some (.int .u64 l.n)
 /\W C h (.ptr b 8)=some ax/\ci C h P bO ax 1 (aE.map λv=>[v])/\jO C h P l.args aE:=by
 have a:=e.2
 rw[hD.eq]at a
 obtain⟨b,ax,bO,aE,c,x,i,m,n,p,r,s,t,w,d,f,g⟩:=e.1.root a.1
 exact⟨b,ax,bO,aE,c,x,i,m,n,p,r,s,t,w,d,f,g,a.2⟩
def jO.len{am:List bk}{aE:List y}{P:Nat->Prop}(e:jO C h P am aE):aE.length=am.length:=e.1.len
def jO.get{am:List bk}{aE:List y}{P:Nat->Prop}(e:jO C h P am aE)(i:Nat)(l:bk)(a:am[i]? =some l):∃v,aE[i]? =some v/\da C h P l v:=by
 obtain⟨v,b,c⟩:=e.1.get i l a
 exact⟨v,b,c,e.2.get l (Zg a)⟩
def da.ptr{P:Nat->Prop}{l:bk}{v:y}(e:da C h P l v):∃b,v= .ptr b 0/\P b/\W C h (.ptr b 0)=some (.Z l.kind):=by
 obtain⟨b,ax,bO,aE,a,d,c,_⟩:=e.open
 exact⟨b,a,d,c⟩
def ci.one{P:Nat->Prop}{b:Nat}{ax:y}{aE:List y}(e:ci C h P b ax 1 (aE.map λv=>[v])){i:Nat}{v:y}(ak:aE[i]? =some v):bK 1 ax (.Z (i:Int))=some (.ptr b i)/\W C h (.ptr b i)=some v/\P b:=by
 have d:=(Zf.1 ak).1
 have a:=e.cT i (by simpa using d)
 have c:=e.cell i [v] 0 v (by rw[Zw,ak];rfl) rfl
 rw[ZV]at a
 rw[ZV,ZH]at c
 exact⟨a,c,e.ab (λl=>by simp at l;subst l;simp at ak)⟩
def D9{ap o:Nat}{x:y}{m:List y}(a:gy C h ap x=some (o,m))(b:0<o)(ab:o<=1048576):
 d4 C h j ap .az x=some (.cy (.cK j 0 o ap) (aS C h j (some (.cells (I.ofList m 0 .nil) m.length (.grow [])))) (j+1)):=by
 simp only[d4,a]
 rw[d5,Zj Zo]
 simp[kI,kb,gk ab,gt]
def D7{ap o b n:Nat}{x:y}{m:List y}{c:I y}{cj:List Nat}(t:0<ap)(s:gy C h ap x=some (o,m))(f:0<o)(ab:n+o<=1048576)(a:cR m=true)
 (i:C.aP<=b)(p:J C h b=some (.cells c (n*ap) (.grow cj))):
 d4 C h j ap (.cK b 0 n ap) x=some (.cy (.cK j 0 (n+o) ap) (aS C (aS C h b (some (.cells c (n*ap) .eC))) j (some (.cells (cO c (n*ap) m) (n*ap+m.length) (.grow (b::cj))))) (j+1)):=by
 simp only[d4,s]
 rw[d5,Zj Zo]
 have g:¬(0+(n+o)*ap<=n*ap):=by
  have:0<o*ap:=Nat.mul_pos f t
  rw[Z7];omega
 have d:Nat.ble (0+(n+o)*ap) (n*ap)=false:=by
  cases r:Nat.ble (0+(n+o)*ap) (n*ap)with
  |false=>rfl
  |true=>exact absurd (et r) g
 simp only[kI,pm,p,eV,gk i,gk ab,a,d]
 simp[cN,gt]
def D8{ap o b n:Nat}{x:y}{m k:List y}{c:I y}{st:h5}{L:Nat}(s:0<ap)(p:gy C h ap x=some (o,m))(r:0<o)(ab:n+o<=1048576)
 (g:J C h b=some (.cells c L st))(d:dJ c k)(au:k.length=n*ap):
 d4 C h j ap (.slice b 0 n n) x=some (.cy (.cK j 0 (n+o) ap) (aS C h j (some (.cells (I.ofList (k++m) 0 .nil) (k++m).length (.grow [])))) (j+1)):=by
 simp only[d4,p]
 rw[d5,Zj Zo]
 have a:Nat.ble (n+o) n=false:=by
  cases i:Nat.ble (n+o) n with
  |false=>rfl
  |true=>exact absurd (et i) Zo
 have f:fY C h b 0 (n*ap)=some k:=by
  simp only[fY,cellsOf,g]
  rw[tW d _ _ Zo]
  simp[<-au]
 simp only[kI,a,fB,f,kb,gk ab,cS,gt,fZ,dF]
def cX(C:aC)(h:I ae)(s:y)(ap:Nat)(k:List y)(aJ:List Nat):Prop:=
 dc C h s ap k aJ\/∃b n c st,s= .slice b 0 n n/\k.length=n*ap/\aJ=[b]/\J C h b=some (.cells c (n*ap) st)/\dJ c k/\st= .own/\C.aP<=b
def cX.T{s:y}{ap:Nat}{k:List y}{aJ:List Nat}(e:cX C h s ap k aJ)(d:∀f∈aJ,J C E f=J C h f):cX C E s ap k aJ:=by
 rcases e with e|⟨b,n,c,st,g,i,a,m,p⟩
 ·exact .inl (e.T d)
 ·exact .inr ⟨b,n,c,st,g,i,a,by rw[d b (by rw[a];exact Zl ..)];exact m,p⟩
def cX.append{ap o:Nat}{s x:y}{k m:List y}{aJ:List Nat}(e:cX C h s ap k aJ)(r:0<ap)(v:gy C h ap x=some (o,m))(i:m.length=o*ap)(t:0<o)(X:cR m=true)
 (ab:k.length+m.length<=1048576)(f:C.aP<=j)(G:∀a∈aJ,a<j):
 ∃P E w,d4 C h j ap s x=some (.cy P E (j+1))/\dc C E P ap (k++m) w/\(∀a∈w,a=j\/a∈aJ)/\∀a,a≠j->a∉aJ->J C E a=J C h a:=by
 have T3:o<=o*ap:=Nat.le_mul_of_pos_right o r
 rcases e with (⟨rfl,rfl,rfl⟩|⟨b,cj,n,c,rfl,g,rfl,p,z,Y,Z⟩)|⟨b,n,c,st,rfl,g,rfl,p,z,_⟩
 ·refine⟨_,_,[j],D9 v t (by simp at ab;omega), .inr ⟨j,[],o,_,rfl,by simpa using i,rfl,by simpa using f,Zs,by rw[bb f,i], ?_⟩,Zs,λa d _=>aY f d⟩
  simpa using dl m
 ·have T1:n<=n*ap:=Nat.le_mul_of_pos_right n r
  have T2:b<j:=G b (Zl ..)
  refine⟨_,_,j::b::cj,D7 r v t Zo X (p b (Zl ..)) Y, .inr ⟨j,b::cj,n+o,cO c (n*ap) m,rfl,by rw[ZT,g,i,Z7],rfl, ?_, ?_, ?_, ?_⟩, ?_,λa d O=> ?_⟩
  ·intro a d
   rcases Zz.1 d with rfl|d
   ·exact f
   ·exact p a d
  ·intro T0
   have:=G j T0
   omega
  ·rw[bb f,i,Z7]
  ·rw[<-g];exact Z.app m
  ·intro a d
   rcases Zz.1 d with rfl|d
   ·exact .inl rfl
   ·exact .inr d
  ·simp only[Zz,not_or]at O
   rw[aY f d,aY (p b (Zl ..)) O.1]
 ·have T1:n<=n*ap:=Nat.le_mul_of_pos_right n r
  refine⟨_,_,[j],D8 r v t Zo p z g, .inr ⟨j,[],n+o,_,rfl,by rw[ZT,g,i,Z7],rfl,by simpa using f,Zs,by rw[bb f,ZT,g,i,Z7],dl _⟩,Zs,λa d _=>aY f d⟩
def cX.gO{ap:Nat}{s:y}{rows:List (List y)}{aJ:List Nat}(e:cX C h s ap rows.flatten aJ)(d:0<ap)(M:∀r∈rows,r.length=ap)(a:rows.length<=300000){P:Nat->Prop}(au:∀x∈aJ,P x):∃b,ci C h P b s ap rows:=by
 rcases e with e|⟨b,n,c,st,rfl,f,rfl,g,m,_⟩
 ·exact e.gO d M a au
 ·have p:=iz M
  have w:n=rows.length:=YN d (by rw[<-f,p])
  subst w
  refine⟨b,λ_=>au b (Zl ..),a,M,hP ..,λi ak=>by rw[mu _ ak,ZE],λi r H v ak t=> ?_⟩
  rw[b0,g]
  exact(m _).trans (tP rows M i r H v ak t)
def cX.qr{s:y}{aE:List y}{aJ:List Nat}(e:cX C h s 1 aE aJ){P:Nat->Prop}(c:aE.length<=300000)(au:∀d∈aJ,P d):∃b,ci C h P b s 1 (aE.map λv=>[v]):=by
 have a:cX C h s 1 (aE.map λv=>[v]).flatten aJ:=by rw[tO];exact e
 exact a.gO Zd Zs (by simpa using c) au
structure er(C:aC)(h:I ae)(bp:Nat->Prop)(b:Nat)(ax:y)(ap:Nat)(rows:List (List y)):Prop where
 rd:ci C h bp b ax ap rows
 wr:rows≠[]->C.aP<=b/\∃c n st,J C h b=some (.cells c n st)/\rows.length*ap<=n/\(st= .own\/∃cj,st= .grow cj/\b∉cj/\∀a∈cj,bp a/\C.aP<=a)
def er.T{bp:Nat->Prop}{b ap:Nat}{ax:y}{rows:List (List y)}(e:er C h bp b ax ap rows)(o:∀a,bp a->J C E a=J C h a):er C E bp b ax ap rows:=
 ⟨e.rd.T o,λM=>by rw[o b (e.rd.ab M)];exact e.wr M⟩
def er.lift{bp bn:Nat->Prop}{b ap:Nat}{ax:y}{rows:List (List y)}(e:er C h bp b ax ap rows)(o:∀a,bp a->bn a):er C h bn b ax ap rows:=
 ⟨e.rd.lift o,λM=>by
  obtain⟨g,c,n,st,i,m,p⟩:=e.wr M
  exact⟨g,c,n,st,i,m,p.imp id λ⟨cj,l,ab,f⟩=>⟨cj,l,ab,λa d=>⟨o a (f a d).1,(f a d).2⟩⟩⟩⟩
def er.nil(bp:Nat->Prop)(ap:Nat):er C h bp 0 .az ap []:=⟨ci.nil bp ap,λe=>absurd rfl e⟩
def cX.qs{ap:Nat}{s:y}{rows:List (List y)}{aJ:List Nat}(e:cX C h s ap rows.flatten aJ)(v:0<ap)(M:∀r∈rows,r.length=ap)(P:rows.length<=300000){bp:Nat->Prop}(au:∀p∈aJ,bp p):∃b,er C h bp b s ap rows:=by
 have i:=iz M
 obtain⟨b,m⟩:=e.gO v M P au
 rcases e with (⟨rfl,d,rfl⟩|⟨z,cj,n,c,rfl,d,rfl,g,w,O,Y⟩)|⟨z,n,c,st,rfl,d,rfl,g,w,rfl,G⟩
 ·rw[d,Z0]at i
  have:rows=[]:=YB.1 (by rcases Nat.mul_eq_zero.1 i.symm with e|e<;>omega)
  subst this
  exact⟨0,er.nil bp ap⟩
 ·refine⟨b,m,λf=> ?_⟩
  have a:=m.cT 0 (Z6.2 f)
  have t:n=rows.length:=YN v (by rw[<-d,i])
  have X:=Z6.2 f
  rw[oL _ Zo]at a
  simp only[Zu,y.ptr.injEq]at a
  obtain⟨rfl,_⟩:=a
  exact⟨g _ (Zl ..),c,_,_,O,by rw[t];omega, .inr ⟨cj,rfl,w,λp x=>⟨au p (Zi _ x),g p (Zi _ x)⟩⟩⟩
 ·refine⟨b,m,λf=> ?_⟩
  have a:=m.cT 0 (Z6.2 f)
  have t:n=rows.length:=YN v (by rw[<-d,i])
  have X:=Z6.2 f
  rw[mu _ Zo]at a
  simp only[Zu,y.ptr.injEq]at a
  obtain⟨rfl,_⟩:=a
  exact⟨G,c,_,_,g,by rw[t];omega, .inl rfl⟩
def er.store{bp:Nat->Prop}{b ap:Nat}{ax:y}{rows:List (List y)}(e:er C h bp b ax ap rows){i H:Nat}{r:List y}(ak:rows[i]? =some r)(T3:H<ap){v:y}(U2:v.cells=[v])(TY:d9 v=true):
 ∃E,bj C h 1 (.ptr b (i*ap+H)) v=some E/\er C E bp b ax ap (rows.set i (r.set H v))/\∀a,¬bp a->J C E a=J C h a:=by
 have X:rows≠[]:=λl=>by rw[l]at ak;simp at ak
 obtain⟨T2,U4⟩:=Zf.1 ak
 obtain⟨f,c,n,st,ab,T5,U1⟩:=e.wr X
 have T8:=e.rd.wide r (Zg ak)
 have T1:i*ap+H+1<=n:=by
  have:(i+1)*ap<=rows.length*ap:=zd ap T2
  rw[Z7]at this;omega
 have G:=e.rd.ab X
 have g:(rows.set i (r.set H v)).length=rows.length:=YR
 have U7:rows.set i (r.set H v)≠[]:=λl=>by rw[l]at g;exact X (Yc g.symm)
 have T0:∀(E:I ae) (aj:Nat) (e7:h5),J C E b=some (.cells (c.set (i*ap+H) (some v)) aj e7)->ci C E bp b ax ap (rows.set i (r.set H v)):=λE aj e7 TZ=>by
  refine⟨λ_=>G,by rw[g];exact e.rd.many,λL Y=> ?_,by rw[g];exact e.rd.len,λo d=>e.rd.cT o (by rw[g]at d;exact d),λo L m w d p=> ?_⟩
  ·rcases YP Y with Y|rfl
   ·exact e.rd.wide L Y
   ·rw[YR];exact T8
  ·rw[ba TZ,I.gn]
   rw[Yr]at d
   by_cases O:i=o
   ·subst O
    simp only[ZP,T2]at d
    cases d
    rw[Yr]at p
    by_cases T4:H=m
    ·subst T4
     simp only[ZP,T8,T3]at p
     rw[Zv rfl];exact p
    ·rw[Zj T4]at p
     rw[Zj Zo]
     have:=e.rd.cell i r m w ak p
     rw[ba ab]at this;exact this
   ·rw[Zj O]at d
    have U8:=e.rd.wide L (Zg d)
    have U6:=(Zf.1 p).1
    have U5:=(Zf.1 d).1
    rw[Zj (λl=>O ?_)]
    ·have:=e.rd.cell o L m w d p
     rw[ba ab]at this;exact this
    ·have U0:m<ap:=Zo
     have s:(o*ap+m)/ap=o:=by rw[zs,Nat.add_mul_div_right _ _ Zo,Nat.div_eq_of_lt U0,ZE]
     have t:(i*ap+H)/ap=i:=by rw[zs,Nat.add_mul_div_right _ _ Zo,Nat.div_eq_of_lt T3,ZE]
     rw[<-s, <-t,l]
 have T9:∀E,gX C h b (i*ap+H) [v]=some E->bj C h 1 (.ptr b (i*ap+H)) v=some E:=λE e=>by
  simp only[bj,U2];exact e
 have T7:cR [v]=true:=by simp[cR,TY]
 rcases U1 with rfl|⟨cj,rfl,U3,T6⟩
 ·refine⟨aS C h b (some (.cells (c.set (i*ap+H) (some v)) n .own)),T9 _ ?_,⟨T0 _ _ _ (bb f),λ_=>⟨f,_,_,_,bb f,by rw[g];exact T5, .inl rfl⟩⟩,λa z=>aY f (λl=>z (l▸G))⟩
  have s:Nat.ble (i*ap+H+1) n=true:=gk T1
  have t:eV C b=true:=by simp[eV,gk f]
  simp[gX,ab,s,t,T7,cN,Bd,dF]
 ·have P:∀a,J C (aS C (fN C cj h) b (some (.cells (c.set (i*ap+H) (some v)) n (.grow [])))) a=if a=b then some (.cells (c.set (i*ap+H) (some v)) n (.grow []))else J C (fN C cj h) a:=λa=>cw _ f a
  refine⟨aS C (fN C cj h) b (some (.cells (c.set (i*ap+H) (some v)) n (.grow []))),T9 _ ?_,⟨T0 _ _ _ (by rw[P,Zv rfl]),λ_=>⟨f,_,_,_,by rw[P,Zv rfl],by rw[g];exact T5, .inr ⟨[],rfl,Zs,Zs⟩⟩⟩,λa z=> ?_⟩
  ·have s:Nat.ble (i*ap+H+1) n=true:=gk T1
   have t:eV C b=true:=by simp[eV,gk f]
   simp[gX,ab,s,t,T7,cN,Bd,dF]
  ·rw[P,Zj (show ¬a=b from λl=>z (l▸G)),yi _ _ _ (λx Z=>(T6 x Z).2) (λZ=>z (T6 a Z).1)]
end
end
noncomputable section
structure eh(G:Prop):Prop where
 D:G
def x0{aw a:Prop}(f:aw)(e:aw->a:=by intro f;(simp(disch:=omega) only[lC,ja,lD,kJ,jW,kK,lw,lv,ll,jA,kV,jv,lc,jw,hp,lf,lg,lh,li,lj,ld,lH,lJ,lK,lL,lM,lN,lO,lP,lI,hA,kz,fG,y.cells,lS,lR,lQ,lq,k9,k7,k8,k6,k5,la,lE,lF,k2,k1,kM,kQ,kR,hP,ib,kj,lk,cr,gI,gH,e5,zo,zp,zq,Yg,Yh,YW,ZW,ZN,ZC,Z0,Yj,Yf,ZO,Yt,ZL,ZE,ZH,ZP,ZM,reduceIte,Nat.reduceEqDiff,Nat.reduceAdd,Nat.reduceMul,Nat.reduceLT,Nat.reduceBEq,Y1,YJ,Yn,Yl,cS,fB,YL,Yi,Ym,Nat.reduceLeDiff,Nat.reduceSub,dC,f])):a:=e f
def x1{aw a:Prop}(f:aw)(e:aw->a:=by intro f;(simp(disch:=omega) only[lC,ja,lD,kJ,jW,kK,lw,lv,ll,jA,kV,jv,lc,jw,hp,lf,lg,lh,li,lj,ld,lH,lJ,lK,lL,lM,lN,lO,lP,lI,hA,kz,fG,y.cells,lS,lR,lQ,lq,k9,k7,k8,k6,k5,la,lE,lF,k2,k1,kM,kQ,kR,hP,ib,kj,lk,cr,gI,gH,e5,zo,zp,zq,Yg,Yh,YW,ZW,ZN,ZC,Z0,Yj,Yf,ZO,Yt,ZL,ZE,ZH,ZP,ZM,reduceIte,Nat.reduceEqDiff,Nat.reduceAdd,Nat.reduceMul,Nat.reduceLT,Nat.reduceBEq,Y1,YJ,Yn,Yl,cS,fB,YL,Yi,Ym,Nat.reduceLeDiff,Nat.reduceSub,dC,f]);rfl):a:=e f
def Gm{aw a aB:Prop}(f:aw)(t:aB)(e:aw->aB->a:=by intro f t;(simp(disch:=omega) only[lC,ja,lD,kJ,jW,kK,lw,lv,ll,jA,kV,jv,lc,jw,hp,lf,lg,lh,li,lj,ld,lH,lJ,lK,lL,lM,lN,lO,lP,lI,hA,kz,fG,y.cells,lS,lR,lQ,lq,k9,k7,k8,k6,k5,la,lE,lF,k2,k1,kM,kQ,kR,hP,ib,kj,lk,cr,gI,gH,e5,zo,zp,zq,Yg,Yh,YW,ZW,ZN,ZC,Z0,Yj,Yf,ZO,Yt,ZL,ZE,ZH,ZP,ZM,reduceIte,Nat.reduceEqDiff,Nat.reduceAdd,Nat.reduceMul,Nat.reduceLT,Nat.reduceBEq,Y1,YJ,Yn,Yl,cS,fB,YL,Yi,Ym,Nat.reduceLeDiff,Nat.reduceSub,dC,f]);exact t):a:=e f t
def Gj{aw a aB:Prop}(f:aw)(o:eh aB)(e:aw->eh aB->a:=by intro f o;(simp(disch:=omega) only[lC,ja,lD,kJ,jW,kK,lw,lv,ll,jA,kV,jv,lc,jw,hp,lf,lg,lh,li,lj,ld,lH,lJ,lK,lL,lM,lN,lO,lP,lI,hA,kz,fG,y.cells,lS,lR,lQ,lq,k9,k7,k8,k6,k5,la,lE,lF,k2,k1,kM,kQ,kR,hP,ib,kj,lk,cr,gI,gH,e5,zo,zp,zq,Yg,Yh,YW,ZW,ZN,ZC,Z0,Yj,Yf,ZO,Yt,ZL,ZE,ZH,ZP,ZM,reduceIte,Nat.reduceEqDiff,Nat.reduceAdd,Nat.reduceMul,Nat.reduceLT,Nat.reduceBEq,Y1,YJ,Yn,Yl,cS,fB,YL,Yi,Ym,Nat.reduceLeDiff,Nat.reduceSub,dC,f]);exact o.D):a:=e f o
def bG{aw a aB:Prop}(f:aw)(o:eh aB)(e:aw->eh aB->a:=by intro f o;(repeat(with_reducible first|refine gr ?_ |refine i1 ?_ |refine iZ ?_ |refine hI ?_ |refine pk ?_ |refine l8 ?_ |refine qe ?_ |refine qd ?_ |refine pV ?_ |refine pX ?_ |refine pU ?_ |refine pW ?_ |refine p6 ?_ |refine pr ?_ |refine qb ?_ |refine qa ?_ |refine kf ?_ |refine ke ?_ |refine kd ?_ |refine kc ?_ |refine pH ?_ |refine jY ?_ |refine jX ?_ |refine pS ?_ |refine qt ?_ |refine qu ?_ |(refine cD (e8 (by(first|assumption|(simp(disch:=omega) only[bb,aY,f]<;>rfl)|(simp(disch:=omega) only[bb,aY,f]))) Zo rfl Zd Zd rfl) ?_)|((conv=>whnf;arg 1;simp(disch:=omega) only[lC,ja,lD,kJ,jW,kK,lw,lv,ll,jA,kV,jv,lc,jw,hp,lf,lg,lh,li,lj,ld,lH,lJ,lK,lL,lM,lN,lO,lP,lI,hA,kz,fG,y.cells,lS,lR,lQ,lq,k9,k7,k8,k6,k5,la,lE,lF,k2,k1,kM,kQ,kR,hP,ib,kj,lk,cr,gI,gH,e5,zo,zp,zq,Yg,Yh,YW,ZW,ZN,ZC,Z0,Yj,Yf,ZO,Yt,ZL,ZE,ZH,ZP,ZM,reduceIte,Nat.reduceEqDiff,Nat.reduceAdd,Nat.reduceMul,Nat.reduceLT,Nat.reduceBEq,Y1,YJ,Yn,Yl,cS,fB,YL,Yi,Ym,Nat.reduceLeDiff,Nat.reduceSub,dC,f]);(first|refine i1 ?_ |refine iZ ?_ |refine jY ?_ |refine jX ?_ |refine kf ?_ |refine ke ?_ |refine kd ?_ |refine kc ?_))|dsimp only));exact o.D):a:=e f o
def k4{aw a aB:Prop}(f:aw)(o:eh aB)(e:aw->eh aB->a:=by intro f o;(repeat(with_reducible first|refine i1 ?_ |refine iZ ?_ |refine hI ?_ |refine pk ?_ |refine l8 ?_ |refine qe ?_ |refine qd ?_ |refine pV ?_ |refine pX ?_ |refine pU ?_ |refine pW ?_ |refine p6 ?_ |refine pr ?_ |refine qb ?_ |refine qa ?_ |refine kf ?_ |refine ke ?_ |refine kd ?_ |refine kc ?_ |refine pH ?_ |refine jY ?_ |refine jX ?_ |refine pS ?_ |refine qt ?_ |refine qu ?_ |(refine cD (e8 (by(first|assumption|(simp(disch:=omega) only[bb,aY,f]<;>rfl)|(simp(disch:=omega) only[bb,aY,f]))) Zo rfl Zd Zd rfl) ?_)|((conv=>whnf;arg 1;simp(disch:=omega) only[lC,ja,lD,kJ,jW,kK,lw,lv,ll,jA,kV,jv,lc,jw,hp,lf,lg,lh,li,lj,ld,lH,lJ,lK,lL,lM,lN,lO,lP,lI,hA,kz,fG,y.cells,lS,lR,lQ,lq,k9,k7,k8,k6,k5,la,lE,lF,k2,k1,kM,kQ,kR,hP,ib,kj,lk,cr,gI,gH,e5,zo,zp,zq,Yg,Yh,YW,ZW,ZN,ZC,Z0,Yj,Yf,ZO,Yt,ZL,ZE,ZH,ZP,ZM,reduceIte,Nat.reduceEqDiff,Nat.reduceAdd,Nat.reduceMul,Nat.reduceLT,Nat.reduceBEq,Y1,YJ,Yn,Yl,cS,fB,YL,Yi,Ym,Nat.reduceLeDiff,Nat.reduceSub,dC,f]);(first|refine i1 ?_ |refine iZ ?_ |refine jY ?_ |refine jX ?_ |refine kf ?_ |refine ke ?_ |refine kd ?_ |refine kc ?_))|dsimp only));exact o.D):a:=e f o
def Gk{aw a aB:Prop}(f:aw)(o:eh aB)(e:aw->eh aB->a:=by intro f o;(with_reducible first|refine gr ?_ |refine i1 ?_ |refine iZ ?_ |refine hI ?_ |refine pk ?_ |refine l8 ?_ |refine qe ?_ |refine qd ?_ |refine pV ?_ |refine pX ?_ |refine pU ?_ |refine pW ?_ |refine p6 ?_ |refine pr ?_ |refine qb ?_ |refine qa ?_ |refine kf ?_ |refine ke ?_ |refine kd ?_ |refine kc ?_ |refine pH ?_ |refine jY ?_ |refine jX ?_ |refine pS ?_ |refine qt ?_ |refine qu ?_ |(refine cD (e8 (by(first|assumption|(simp(disch:=omega) only[bb,aY,f]<;>rfl)|(simp(disch:=omega) only[bb,aY,f]))) Zo rfl Zd Zd rfl) ?_)|((conv=>whnf;arg 1;simp(disch:=omega) only[lC,ja,lD,kJ,jW,kK,lw,lv,ll,jA,kV,jv,lc,jw,hp,lf,lg,lh,li,lj,ld,lH,lJ,lK,lL,lM,lN,lO,lP,lI,hA,kz,fG,y.cells,lS,lR,lQ,lq,k9,k7,k8,k6,k5,la,lE,lF,k2,k1,kM,kQ,kR,hP,ib,kj,lk,cr,gI,gH,e5,zo,zp,zq,Yg,Yh,YW,ZW,ZN,ZC,Z0,Yj,Yf,ZO,Yt,ZL,ZE,ZH,ZP,ZM,reduceIte,Nat.reduceEqDiff,Nat.reduceAdd,Nat.reduceMul,Nat.reduceLT,Nat.reduceBEq,Y1,YJ,Yn,Yl,cS,fB,YL,Yi,Ym,Nat.reduceLeDiff,Nat.reduceSub,dC,f]);(first|refine i1 ?_ |refine iZ ?_ |refine jY ?_ |refine jX ?_ |refine kf ?_ |refine ke ?_ |refine kd ?_ |refine kc ?_))|dsimp only);exact o.D):a:=e f o
def aK{a:Prop}(e:a:=by exact x0 trivial):a:=e
def cA{a:Prop}(e:a:=by exact x1 trivial):a:=e
def an{a aB:Prop}(t:aB)(e:aB->a:=by intro t;exact Gm trivial t):a:=e t
def oF{a aB:Prop}(o:eh aB)(e:eh aB->a:=by intro o;refine Gj trivial ⟨?_⟩;exact o.D):a:=e o
def bl{a aB:Prop}(o:eh aB)(e:eh aB->a:=by intro o;refine bG trivial ⟨?_⟩;exact o.D):a:=e o
def ho{a aB:Prop}(o:eh aB)(e:eh aB->a:=by intro o;refine k4 trivial ⟨?_⟩;exact o.D):a:=e o
def j9{a aB:Prop}(o:eh aB)(e:eh aB->a:=by intro o;refine Gk trivial ⟨?_⟩;exact o.D):a:=e o
def dG{a:Prop}(e:a:=by exact⟨Zo,λb ab=>zA⟩):a:=e
def cn{b aB c d:Prop}(aQ:c)(a:d)(o:eh aB)(e:c->d->eh aB->b:=by intro aQ a o;refine bG (Za @aQ @a) ⟨?_⟩;exact o.D):b:=e @aQ @a o
def cz{c aB d f g:Prop}(aQ:d)(a:f)(b:g)(o:eh aB)(e:d->f->g->eh aB->c:=by intro aQ a b o;refine bG (Za @aQ (Za @a @b)) ⟨?_⟩;exact o.D):c:=e @aQ @a @b o
def cP{d aB f g i m:Prop}(aQ:f)(a:g)(b:i)(c:m)(o:eh aB)(e:f->g->i->m->eh aB->d:=by intro aQ a b c o;refine bG (Za @aQ (Za @a (Za @b @c))) ⟨?_⟩;exact o.D):d:=e @aQ @a @b @c o
def de{d aB f g i m n:Prop}(aQ:f)(a:g)(b:i)(c:m)(f4:n)(o:eh aB)(e:f->g->i->m->n->eh aB->d:=by intro aQ a b c f4 o;refine bG (Za @aQ (Za @a (Za @b (Za @c @f4)))) ⟨?_⟩;exact o.D):d:=e @aQ @a @b @c @f4 o
def dw{f aB g i m n p r:Prop}(aQ:g)(a:i)(b:m)(c:n)(f4:p)(d:r)(o:eh aB)(e:g->i->m->n->p->r->eh aB->f:=by intro aQ a b c f4 d o;refine bG (Za @aQ (Za @a (Za @b (Za @c (Za @f4 @d))))) ⟨?_⟩;exact o.D):f:=e @aQ @a @b @c @f4 @d o
def bs{g aB i m n p r s t:Prop}(aQ:i)(a:m)(b:n)(c:p)(f4:r)(d:s)(f:t)(o:eh aB)(e:i->m->n->p->r->s->t->eh aB->g:=by intro aQ a b c f4 d f o;refine bG (Za @aQ (Za @a (Za @b (Za @c (Za @f4 (Za @d @f)))))) ⟨?_⟩;exact o.D):g:=e @aQ @a @b @c @f4 @d @f o
def tU{b aB c d:Prop}(aQ:c)(a:d)(o:eh aB)(e:c->d->eh aB->b:=by intro aQ a o;refine k4 (Za @aQ @a) ⟨?_⟩;exact o.D):b:=e @aQ @a o
def c6{c aB d f g:Prop}(aQ:d)(a:f)(b:g)(o:eh aB)(e:d->f->g->eh aB->c:=by intro aQ a b o;refine k4 (Za @aQ (Za @a @b)) ⟨?_⟩;exact o.D):c:=e @aQ @a @b o
def aN.Zm{C:aC}{f:Nat}{a:List y}{h:I ae}{j:Nat}{R b af:bh}(e:aN C f a h j R zG)(o:∀N E aj,R N E aj->b N E aj):aN C f a h j b af:=e.mono o (λ_ _ _ e=>e.elim)
end
noncomputable section
open Go.RowKit (Below)
def uJ(eL:List Nat)(D:Nat->List y->Option y)(k:List (Nat×List y×y))(f:Nat)(args:List y):Option y:=aT (ic f eL) (hu D k f args) (D f args)
section
variable{P:Program}{w:World}
def Env.Hp{nm:List (String×Nat)}(r:lW P nm){laid:List (String×DataW Unit)}{eL:List Nat}{D:Nat->List y->Option y}{k:List (Nat×List y×y)}(e:laidMet P laid w){bY:bE}{b8:Nat->Prop}
 (b:Env ⟨P,gc (dr P nm laid P.globals.size).2 .nil,(dr P nm laid P.globals.size).1,D,P.globals.size⟩ w bY b8)(s:qy k=true)
 (p:∀x∈k,∃m,gP ⟨P,gc (dr P nm laid P.globals.size).2 .nil,(dr P nm laid P.globals.size).1,D,P.globals.size⟩ m x.1 x.2.1=some x.2.2):
 ∃A F,Env ⟨P,gc (dr P nm laid P.globals.size).2 .nil,(dr P nm laid P.globals.size).1,uJ eL D k,P.globals.size⟩ w A F:=by
 obtain⟨A,F,i,n⟩:=uk (dy:=uJ eL D k) r e
 have c:=y4 b s p
 refine⟨A,F,b.eQ,⟨λf args v a=> ?_,λf args v a A g d=> ?_⟩,i,n⟩
 ·have a:aT (ic f eL) (hu D k f args) (D f args)=some v:=a
  rw[cN]at a
  split at a
  ·exact c.val f args v a
  ·exact b.dy.val f args v a
 ·have a:aT (ic f eL) (hu D k f args) (D f args)=some v:=a
  rw[cN]at a
  split at a
  ·exact c.ok f args v a A g d
  ·exact b.dy.ok f args v a A g d
end
end
end Go.S

namespace Go.Proofs.YtmipngjbcdamjaaGreatDoor
open Go.S
noncomputable section
structure bU where
 G:I ae
 aP:Nat
 O:Nat->List y->Option y
noncomputable def u(a:bU):aC:=⟨Tryz.prog,a.G,a.aP,a.O,Tryz.prog.globals.size⟩
instance:Coe bU aC:=⟨u⟩
variable (X : bU) (h : I ae) (j : Nat) (R af : bh) (a0 aH aZ a3 a4 a5 dY d3 dE : y)
end
open Go.S Go.a8
noncomputable section
def g6(f:Nat):Bool:=ic f [10,14,41,85,173,175]
structure dX(X:bU):Prop where
 none:∀f k,g6 f=false->X.O f k=none
set_option maxRecDepth 100000 in
def zB{z7:bU}(O:dX z7){f:Nat}{a:List y}{z9:I ae}{n:Nat}{u v:bh}(c:cb z7 f a.length=true)(h:co z7 f a z9 n u v)(b:g6 f=false:=by rfl):aN z7 f a z9 n u v:=cq c (O.none _ _ b) h
def dm(a b:Nat):Nat->Prop:=λc=>a<=c/\c<b
def pT(n:Int):y:= .Z n
def dt(a:List aW):List (List y):=a.map λs=>[.str s]
def bP(d:bx):List y:=[.str d.name, .Z d.at_, .bool d.ty.b, .bool d.ty.s, .Z d.ty.w, .str d.on, .Z d.di, .bool d.no]
def fg{v w:y}(e:bL v=some w):v.cells=[v]/\d9 v=true/\y.same 30 v v=true:=by
 cases v with
 |slice b D n c=>exact⟨rfl,rfl,by simp[y.same]⟩
 |cK b D n c=>exact⟨rfl,rfl,by simp[y.same]⟩
 |az=>exact⟨rfl,rfl,rfl⟩
 |_=>simp[bL]at e
section
variable{X:bU}{h E:I ae}{P bn:Nat->Prop}{bm h3:bk->y->Prop}
def jN(X:bU)(h:I ae)(P:Nat->Prop)(bm:bk->y->Prop)(L:dO)(row:List y):Prop:=∃ax ii b2 be dB,row=[ax,ii, .Z L.at_,dB]/\ci X h P b2 ax 1 (dt L.left)/\(ci X h P be ii 1 (L.bw.map λn=>[pT n])/\True)/\bm L.right dB/\cR row=true
def jN.to(o:∀a,P a->J X E a=J X h a)(au:∀a,P a->bn a){L:dO}(i:∀v,bm L.right v->h3 L.right v){row:List y}(e:jN X h P bm L row):jN X E bn h3 L row:=by
 obtain⟨ax,ii,b2,be,dB,b,c,d,f,g⟩:=e
 exact⟨ax,ii,b2,be,dB,b,(c.T o).lift au,⟨(d.1.T o).lift au,trivial⟩,i _ f,g⟩
structure gd(X:bU)(h:I ae)(P:Nat->Prop)(bm:bk->y->Prop)(df:List dO)(rows:List (List y)):Prop where
 len:rows.length=df.length
 all:∀(i:Nat) L row,df[i]? =some L->rows[i]? =some row->jN X h P bm L row
def gd.to(o:∀a,P a->J X E a=J X h a)(au:∀a,P a->bn a){df:List dO}(d:∀L∈df,∀v,bm L.right v->h3 L.right v){rows:List (List y)}(e:gd X h P bm df rows):gd X E bn h3 df rows:=
 ⟨e.len,λi L row b c=>(e.all i L row b c).to o au (d L (Zg b))⟩
def gd.get{df:List dO}{rows:List (List y)}(e:gd X h P bm df rows)(i:Nat)(L:dO)(a:df[i]? =some L):∃row,rows[i]? =some row/\jN X h P bm L row:=by
 have b:=(Zf.1 a).1
 obtain⟨row,M⟩:∃row,rows[i]? =some row:=⟨_,Ze (by rw[e.len];exact b)⟩
 exact⟨row,M,e.all i L row a M⟩
def gd.wide{df:List dO}{rows:List (List y)}(e:gd X h P bm df rows):rows.length=df.length/\∀r∈rows,r.length=4:=by
 refine⟨e.len,λr M=> ?_⟩
 obtain⟨i,ak,rfl⟩:=ze.1 M
 obtain⟨_,_,_,_,_,l,_⟩:=e.all i (df[i]'(by rw[<-e.len];exact ak)) rows[i] (Ze _) (Ze ak)
 rw[l];rfl
def fT(X:bU)(h:I ae)(P:Nat->Prop)(bm:bk->y->Prop)(g:Go.a8.Node)(row:List y):Prop:=∃bA bB ax a b2 be b6 c4 rows,row=[.str g.name, .Z g.at_,bA,bB,ax,a]/\ci X h P b2 bA 8 (g.cl.map bP)/\ci X h P be bB 8 (g.out.map bP)/\ci X h P b6 ax 8 (g.loc.map bP)/\ci X h P c4 a 4 rows/\gd X h P bm g.eqs rows
def fT.to(o:∀a,P a->J X E a=J X h a)(au:∀a,P a->bn a){g:Go.a8.Node}(m:∀L∈g.eqs,∀v,bm L.right v->h3 L.right v){row:List y}(e:fT X h P bm g row):fT X E bn h3 g row:=by
 obtain⟨bA,bB,ax,n,b2,be,b6,c4,rows,l,b,c,d,f,i⟩:=e
 exact⟨bA,bB,ax,n,b2,be,b6,c4,rows,l,(b.T o).lift au,(c.T o).lift au,(d.T o).lift au,(f.T o).lift au,i.to o au m⟩
def fT.cR{g:Go.a8.Node}{row:List y}(e:fT X h P bm g row):Go.S.cR row=true:=by
 obtain⟨bA,bB,ax,f,b2,be,b6,c4,rows,rfl,a,b,c,d,_⟩:=e
 simp[Go.S.cR,(fg a.len).2.1,(fg b.len).2.1,(fg c.len).2.1,(fg d.len).2.1,show d9 (.Z g.at_)=true from rfl,show d9 (.str g.name)=true from rfl]
structure f9(X:bU)(h:I ae)(P:Nat->Prop)(bm:bk->y->Prop)(U:List Go.a8.Node)(rows:List (List y)):Prop where
 len:rows.length=U.length
 all:∀(i:Nat) g row,U[i]? =some g->rows[i]? =some row->fT X h P bm g row
def f9.to(o:∀a,P a->J X E a=J X h a)(au:∀a,P a->bn a){U:List Go.a8.Node}(d:∀g∈U,∀L∈g.eqs,∀v,bm L.right v->h3 L.right v){rows:List (List y)}(e:f9 X h P bm U rows):f9 X E bn h3 U rows:=
 ⟨e.len,λi g row b c=>(e.all i g row b c).to o au (d g (Zg b))⟩
def f9.get{U:List Go.a8.Node}{rows:List (List y)}(e:f9 X h P bm U rows)(i:Nat)(g:Go.a8.Node)(a:U[i]? =some g):∃row,rows[i]? =some row/\fT X h P bm g row:=by
 have b:=(Zf.1 a).1
 obtain⟨row,M⟩:∃row,rows[i]? =some row:=⟨_,Ze (by rw[e.len];exact b)⟩
 exact⟨row,M,e.all i g row a M⟩
def f9.wide{U:List Go.a8.Node}{rows:List (List y)}(e:f9 X h P bm U rows):rows.length=U.length/\∀r∈rows,r.length=6:=by
 refine⟨e.len,λr M=> ?_⟩
 obtain⟨i,ak,rfl⟩:=ze.1 M
 obtain⟨_,_,_,_,_,_,_,_,_,l,_⟩:=e.all i (U[i]'(by rw[<-e.len];exact ak)) rows[i] (Ze _) (Ze ak)
 rw[l];rfl
def lY(X:bU)(h:I ae)(P:Nat->Prop)(bm:bk->y->Prop)(U:List Go.a8.Node)(v:y):Prop:=∃b ax bO rows,v= .ptr b 0/\P b/\W X h (.ptr b 0)=some ax/\ci X h P bO ax 6 rows/\f9 X h P bm U rows
def lY.to(o:∀a,P a->J X E a=J X h a)(au:∀a,P a->bn a){U:List Go.a8.Node}(m:∀g∈U,∀L∈g.eqs,∀v,bm L.right v->h3 L.right v){v:y}(e:lY X h P bm U v):lY X E bn h3 U v:=by
 obtain⟨b,ax,bO,rows,rfl,c,d,f,i⟩:=e
 exact⟨b,ax,bO,rows,rfl,au _ c,zF (o _ c) d,(f.T o).lift au,i.to o au m⟩
def fT.T{g:Go.a8.Node}{row:List y}(e:fT X h P (da X h P) g row)(o:∀a,P a->J X E a=J X h a)(au:∀a,P a->bn a):fT X E bn (da X E bn) g row:=
 e.to o au λL _ v e=>da.lift au _ _ (da.T o _ _ e)
def m0(X:bU)(h:I ae)(P:Nat->Prop)(g:Go.a8.Node)(row:List y):Prop:=fT X h P (da X h P) g row
def m1(X:bU)(h:I ae)(P:Nat->Prop)(U:List Go.a8.Node)(rows:List (List y)):Prop:=f9 X h P (da X h P) U rows
def kE(X:bU)(h:I ae)(P:Nat->Prop)(U:List Go.a8.Node)(v:y):Prop:=lY X h P (da X h P) U v
def m0.T{g:Go.a8.Node}{row:List y}(e:m0 X h P g row)(o:∀a,P a->J X E a=J X h a)(au:∀a,P a->bn a):m0 X E bn g row:=
 fT.to o au (λL _ v e=>da.lift au _ _ (da.T o _ _ e)) e
def m1.T{U:List Go.a8.Node}{rows:List (List y)}(e:m1 X h P U rows)(o:∀a,P a->J X E a=J X h a)(au:∀a,P a->bn a):m1 X E bn U rows:=
 f9.to o au (λg _ L _ v e=>da.lift au _ _ (da.T o _ _ e)) e
def kE.T{U:List Go.a8.Node}{v:y}(e:kE X h P U v)(o:∀a,P a->J X E a=J X h a)(au:∀a,P a->bn a):kE X E bn U v:=
 lY.to o au (λg _ L _ v e=>da.lift au _ _ (da.T o _ _ e)) e
def m1.get{U:List Go.a8.Node}{rows:List (List y)}(e:m1 X h P U rows)(i:Nat)(g:Go.a8.Node)(a:U[i]? =some g):∃row,rows[i]? =some row/\m0 X h P g row:=f9.get e i g a
def gf(X:bU)(h:I ae)(P:Nat->Prop)(U:List Go.a8.Node)(v:y):Prop:=lY X h P (bT X h P) U v
def gf.T{U:List Go.a8.Node}{v:y}(e:gf X h P U v)(o:∀a,P a->J X E a=J X h a)(au:∀a,P a->bn a):gf X E bn U v:=
 lY.to o au (λg _ L _ v e=>bT.to o au _ _ e) e
def gf.prog{U:List Go.a8.Node}{v:y}(e:gf X h P U v)(b:∀g∈U,∀L∈g.eqs,hD L.right):kE X h P U v:=
 lY.to (λ_ _=>rfl) (λ_ e=>e) (λg a L c v e=>⟨e,b g a L c⟩) e
end
end
end Go.Proofs.YtmipngjbcdamjaaGreatDoor

namespace Go.S
def dc.one{C:aC}{h:I ae}{s:y}{ap:Nat}{k:List y}{aJ:List Nat}(e:dc C h s ap k aJ):s.cells=[s]/\d9 s=true/\y.same 30 s s=true:=by
 rcases e with ⟨rfl,_⟩|⟨b,cj,n,c,rfl,_⟩
 ·exact⟨rfl,rfl,rfl⟩
 ·exact⟨rfl,rfl,by simp[y.same]⟩
end Go.S
namespace Go.Proofs.YtmipngjbcdamjaaGreatDoor
open Go.S Go.a8
noncomputable section
def l9{C:aC}{f:Nat}{b:List y}{R af:bh}{h:I ae}{j:Nat}(P:I ae->Prop)(c:P h)(e:∀a,P a->aN C f b a j R af):aN C f b h j R af:=e h c
def o3(o:IntKind)(x:Int):y.same 30 (.int o x) (.int o x)=true:=by
 simp only[y.same,mq];cases o<;>simp[f2]
def AM{s:aW}{k e:Nat}(o ct:IntKind)(a:k<=e)(b:e<=s.length):ks (.str s) (some (.int o (k:Int))) (some (.int ct (e:Int)))=some (.str ((s.drop k).take (e-k))):=by
 simp[ks,gW,hq,mD,cN,a,b]
def GM{x a:Int}(b: -9223372036854775808<=x*a)(c:x*a<9223372036854775808):ah .mul (.Z x) (.Z a)=some (.Z (x*a)):=by
 simp[ah,fM,f2,fJ,fq,wrap64 b c]
def LD{x:Int}(a:0<=x)(b:x<18446744073709551616):h0 .u64 x=x:=by
 simp only[h0];exact Int.emod_eq_of_lt a b
def I2{X:bU}{h:I ae}(b:Nat):ce X h .eql 59 true (.ptr b 0) .bC=some .zF:=Zk
structure Bk(G:Prop):Prop where
 out:G
def kP{G a:Prop}(b:Bk G->a)(c:G):a:=b ⟨c⟩
end
open Go.S
noncomputable section
variable (X : bU) (a : I ae) (b : Nat) (R af : bh) (a0 aH aZ a3 a4 a5 dY d3 dE : y)
def vy:Za0:=λa b c d e f g=>q (ce a d .eql 59 true b .bC) λh=>al (λd e i=>al (λe i j=>al (λd e i=>al (λd e i=>bS (λd=>av (λb c d=>Q (b 0) λe=>q (a2 e) λe=>q (aq 8 e) λe=>q (W a c e) λe=>q (bL e) λh=>av (λ_ a b=>f (.tuple []) a b) λf=>cC (λb c d e=>Q (c 19) λh=>Q (c 18) λi=>q (ah .lss h i) λh=>av (λc d e=>av (λa c d=>Q (a 19) λe=>q (ah .add e (.Z 1)) λe=>b (K a 19 e) c d) λb=>Q (c 17) λf=>Q (c 19) λh=>q (bK 1 f h) λf=>q (W a d f) λf=>Q (c 1) λh=>aN a 105 [f,h] d e (λ_ a d=>b (K c 5 f) a d) g) λa=>aD h (a (K c 20 h) d e) (f (K c 20 h) d e)) (zD b 17 e 18 h 19 (.Z 0)) c d) λa=>aD d (f (.tuple []) e i) (a (K (bR [b,c]) 13 d) e i)) λa=>aD h (a .zT) (a d)) λa=>ag false h (q (c0 .not d) λb=>a b e i) (a S.undef e i)) λb=>ag false h (lb a d [e] i j (λa c d=>b a c d) g) (b S.undef i j)) λa=>ag false h (a b e i) (a S.undef e i)) λa=>ag false h (a c d e) (a S.undef d e)
def BB:co X 105 [a0,aH]=vy X a0 aH:=Zk
def BA:cb X 105 2=true:=Zk
def v1:Za1:=λa b c d e f=>q (cu [.Z 0,.Z 0] d) λg=>b4 a c d g.1 g.2 λc d g=>aN a 7 [b] d g (λd g h=>q (ah .neq d (.Z 0)) λd=>av (λb c d=>Q (b 0) λg=>q (a2 g) λg=>q (aq 0 g) λg=>q (W a c g) λg=>q (bL g) λh=>av (λb c d=>q (cr [.Z 0,.Z 0] []) λf=>Q (b 2) λg=>q (bj a c 2 g f) λc=>Q (b 2) λb=>q (br a c 2 b) λa=>e a c d) λi=>cC (λb c d g=>Q (c 15) λh=>Q (c 14) λj=>q (ah .lss h j) λh=>av (λc d g=>av (λa c d=>Q (a 15) λe=>q (ah .add e (.Z 1)) λe=>b (K a 15 e) c d) λb=>Q (c 15) λh=>Q (c 13) λi=>Q (c 15) λj=>q (bK 6 i j) λi=>q (br a d 6 i) λi=>q (cu [.str [],.Z 0, .az, .az, .az, .az] g) λj=>b4 a d g j.1 j.2 λd g j=>q (bj a g 6 d i) λg=>Q (c 0) λi=>q (br a g 6 d) λk=>aN a 47 [k] g j (λg j k=>b4 a j k (.map k) (.map [] 0) λj k l=>q (cr [.bC,.Z 0, .bC, .fF,.Z 0,.Z 0] [(0,1,i),(1,1,h),(2,1,g),(3,1,j)]) λg=>eU a k l g λg i j=>aN a 48 [g] i j (λ_ f i=>q (a2 g) λj=>q (aq 4 j) λj=>q (aq 0 j) λj=>q (W a f j) λj=>q (ah .neq j (.Z 0)) λj=>av b λb=>aD j (q (a2 g) λb=>q (aq 4 b) λb=>q (br a f 2 b) λb=>Q (c 2) λd=>q (bj a f 2 d b) λb=>Q (c 2) λc=>q (br a b 2 c) λa=>e a b i) (b (zE c 4 d 3 h 5 g 34 j) f i)) f) f) λa=>aD h (a (K c 16 h) d g) (i (K c 16 h) d g)) (zD b 13 g 14 h 15 (.Z 0)) c d) λf=>aD d (q (cr [.Z 0,.Z 0] [(0,1,(.Z 1))]) λb=>q (bj a g 2 c b) λb=>q (br a b 2 c) λa=>e a b h) (f (zC (bR [b]) 2 c 8 d) g h)) f
def Cn:co X 24 [a0]=v1 X a0:=Zk
def Cm:cb X 24 1=true:=Zk
def wx:Za1:=λa b c d e f=>q (ce a c .eql 23 true b .bC) λg=>al (λc d h=>al (λc d h=>al (λc d h=>al (λc d h=>al (λc d h=>al (λc d h=>bS (λc=>al (λd g h=>al (λd g h=>al (λd g h=>al (λd g h=>al (λd g h=>al (λd g h=>bS (λc=>av (λb c d=>Q (b 0) λg=>q (a2 g) λg=>q (aq 0 g) λg=>q (W a c g) λg=>q (bL g) λh=>av (λa b c=>Q (a 3) λa=>e a b c) λi=>cC (λb c d g=>Q (c 30) λh=>Q (c 29) λj=>q (ah .lss h j) λh=>av (λc d g=>av (λa c d=>Q (a 30) λe=>q (ah .add e (.Z 1)) λe=>b (K a 30 e) c d) λb=>Q (c 28) λh=>Q (c 30) λi=>q (bK 6 h i) λh=>q (br a d 6 h) λh=>q (cu [.str [],.Z 0, .az, .az, .az, .az] g) λi=>b4 a d g i.1 i.2 λd g i=>q (bj a g 6 d h) λg=>q (br a g 6 d) λh=>aN a 23 [h] g i (λa f g=>av b λb=>q (ah .eql a (.Z 1)) λh=>av b λb=>aD h (e a f g) (q (ah .eql a (.Z 22)) λe=>av b λb=>aD e (b (zC (zE c 5 d 6 a 36 a 37 h) 40 e 3 a) f g) (b (K (zE c 5 d 6 a 36 a 37 h) 40 e) f g))) f) λa=>aD h (a (K c 31 h) d g) (i (K c 31 h) d g)) (zE b 3 (.Z 0) 28 g 29 h 30 (.Z 0)) c d) λa=>aD c (e (.Z 1) g h) (a (zC (bR [b]) 2 (.Z 0) 24 c) g h)) λa=>aD c (a .zT) (a d)) λa=>ag false c (q (ah .gtr d (.Z 64)) λb=>a b g h) (a S.undef g h)) λa=>ag false c (q (bL d) λb=>a b g h) (a S.undef g h)) λb=>ag false c (q (W a g d) λa=>b a g h) (b S.undef g h)) λa=>ag false c (q (aq 0 d) λb=>a b g h) (a S.undef g h)) λa=>ag false c (q (a2 d) λb=>a b g h) (a S.undef g h)) λa=>ag false c (a b d h) (a S.undef d h)) λa=>aD g (a .zT) (a c)) λa=>ag false g (q (ah .eql c (.Z 0)) λb=>a b d h) (a S.undef d h)) λa=>ag false g (q (bL c) λb=>a b d h) (a S.undef d h)) λb=>ag false g (q (W a d c) λa=>b a d h) (b S.undef d h)) λa=>ag false g (q (aq 0 c) λb=>a b d h) (a S.undef d h)) λa=>ag false g (q (a2 c) λb=>a b d h) (a S.undef d h)) λa=>ag false g (a b c d) (a S.undef c d)
def Dn:co X 7 [a0]=wx X a0:=Zk
def Dm:cb X 7 1=true:=Zk
def Av(a:aC)(b:bh):db:=λc d e=>hW a [] b c c.aA d e
def nP(a:aC)(b c:bh):iM:=λd e f g=>kn a [] b c d e d.aA f g
def wk:Za1:=λa b c d e f=>eU a c d b λc d g=>dx (g+15) λh=>q (W a d c) λi=>q (a2 i) λi=>q (aq 0 i) λi=>q (W a d i) λi=>q (a2 i) λi=>q (aq 0 i) λi=>q (W a d i) λi=>q (W a d c) λj=>q (a2 j) λj=>q (aq 1 j) λj=>q (W a d j) λj=>q (bK 6 i j) λi=>q (br a d 6 i) λi=>q (cu [.str [],.Z 0, .az, .az, .az, .az] (g+13)) λj=>fO a d (g+13) j.1 j.2 λd g=>q (bj a g 6 d i) λg=>dx (h+12) λh=>q (W a g c) λi=>q (a2 i) λi=>q (aq 0 i) λi=>q (W a g i) λi=>q (aq 0 d) λj=>q (W a g j) λj=>aN a 78 [i,j] g h (λg h i=>q (dD 0 g) λj=>q (dD 1 g) λ_=>q (W a h c) λg=>q (a2 g) λg=>q (aq 1 g) λg=>q (W a h g) λg=>q (ah .lss j g) λg=>av (λb c d=>Q (b 1) λg=>q (W a c g) λg=>Q (b 2) λh=>q (br a c 6 h) λh=>aN a 80 [g,h] c d (λ_ c d=>Q (b 2) λg=>q (aq 5 g) λg=>q (W a c g) λg=>q (bL g) λh=>av (λb c d=>Q (b 2) λg=>q (br a c 6 g) λg=>aN a 77 [g] c d (λc d g=>av (λb c d=>Av a e b c d) λh=>nU a 103 c [85,86] (iH a (λ_ _ b _ _ c d e=>Q (c 85) λf=>q (cu [.str [],.Z 0,.zF,.zF,.Z 0,.str [],.Z 0,.zF] e) λg=>b4 a d e g.1 g.2 λd e g=>Q (c 86) λh=>q (bj a e 8 d h) λa=>b (zC c 10 f 11 d) a g) (λ_ b c _ _ d e f=>av c λc=>dx (f+12) λf=>Q (d 10) λg=>q (ah .neq g (.Z 1)) λg=>ck (λe h=>ck (λe h=>ck (λe h=>ck (λe h=>ck (λh i=>ck (λh i=>ck (λe h=>ck (λe h=>bS (λe=>av c λc=>aD e (Q (d 1) λg=>q (W a h g) λg=>Q (d 11) λi=>q (aq 1 i) λi=>q (W a h i) λi=>aN a 79 [g,.Z 37,i] h f (λ_ a b=>c (K d 98 e) a b) (b (ed [99,100,101,102] (K d 98 e)))) (c (K d 98 e) h f)) λa=>aD g (a e) (a .zF)) λa=>ag true g (q (ah .eql e (.Z 0)) λb=>a b h) (a S.undef h)) λb=>ag true g (q (gs a i 9 (.Z 0) e h false) λa=>b a i) (b S.undef i)) λb=>ag true g (q (W a i h) λa=>b a i) (b S.undef i)) λa=>ag true g (Q (d 11) λb=>q (aq 0 b) λb=>a b h) (a S.undef h)) λb=>ag true g (q (W a h e) λa=>b a h) (b S.undef h)) λa=>ag true g (q (aq 3 e) λb=>a b h) (a S.undef h)) λa=>ag true g (q (a2 e) λb=>a b h) (a S.undef h)) λb=>ag true g (Q (d 1) λc=>q (W a e c) λa=>b a e) (b S.undef e))) h (np 4 h (λ_ _ _ _=>False)) (Av a e) (nP a e f) (K b 84 c) d g) (nP a e f (ed [83,84] b))) λi=>cC (λb c d g=>Q (c 51) λh=>Q (c 50) λj=>q (ah .lss h j) λh=>av (λc d g=>av (λa c d=>Q (a 51) λe=>q (ah .add e (.Z 1)) λe=>b (K a 51 e) c d) λb=>Q (c 49) λh=>Q (c 51) λi=>q (bK 4 h i) λh=>q (br a d 4 h) λh=>q (cu [.az, .az,.Z 0, .bC] g) λi=>b4 a d g i.1 i.2 λd g i=>q (bj a g 4 d h) λg=>q (aq 0 d) λh=>q (W a g h) λh=>q (bL h) λj=>av (λc d g=>Q (c 1) λh=>q (W a d h) λh=>Q (c 6) λi=>q (aq 3 i) λi=>q (W a d i) λi=>aN a 82 [h,i] d g (λ_ a d=>b c a d) (nP a e f (ed [78,79,80,81] c))) λb=>cC (λc d g h=>Q (d 58) λi=>Q (d 57) λj=>q (ah .lss i j) λi=>av (λb d g=>av (λa b d=>Q (a 58) λe=>q (ah .add e (.Z 1)) λe=>c (K a 58 e) b d) λc=>Q (b 58) λh=>Q (b 56) λi=>Q (b 58) λj=>q (bK 1 i j) λi=>q (W a d i) λi=>Q (b 6) λj=>q (aq 1 j) λj=>q (W a d j) λj=>q (bL j) λj=>q (ah .lss h j) λj=>av (λb d g=>Q (b 1) λh=>q (W a d h) λh=>Q (b 8) λi=>Q (b 9) λj=>aN a 81 [h,i,j] d g (λ_ a d=>c b a d) (nP a e f (ed [73,74,75,76] b))) λc=>aD j (Q (b 6) λe=>q (aq 1 e) λe=>q (W a d e) λe=>q (bK 1 e h) λe=>q (W a d e) λa=>c (K (zE b 7 h 8 i 9 (.Z 0) 67 j) 9 a) d g) (c (zE b 7 h 8 i 9 (.Z 0) 67 j) d g)) λa=>aD i (a (K d 59 i) g h) (b (K d 59 i) g h)) (zE c 6 d 56 h 57 j 58 (.Z 0)) g i) λa=>aD h (a (K c 52 h) d g) (i (K c 52 h) d g)) (zD b 49 g 50 h 51 (.Z 0)) c d) (nP a e f (ed [45,46,47] b))) λk=>aD g (q (W a h c) λl=>q (aq 1 d) λm=>q (W a h m) λm=>aN a 79 [l,.Z 24,m] h i (λ_ a e=>k (zE (bR [b]) 1 c 2 d 3 j 40 g) a e) (nP a e f (ed [41,42,43,44] (zE (bR [b]) 1 c 2 d 3 j 40 g)))) (k (zE (bR [b]) 1 c 2 d 3 j 40 g) h i)) (nP a e f (ed [26,27,28,29,30,31,32,25,33,34,3,4] (zC (bR [b]) 1 c 2 d)))
def CL:ns X 48 [a0] a b R af=wk X a0 a b R af:=Zk
def CK:cb X 48 1=true:=Zk
def wC:Za1:=λa b c d e _=>eU a c d b λa b c=>e (.func (.func 102) [] [a]) b c
def Dh:co X 77 [a0]=wC X a0:=Zk
def Dg:cb X 77 1=true:=Zk
def wD:Za0:=λa b c d e f g=>eU a d e c λd e h=>q (ce a e .eql 23 true b .bC) λi=>av (λb c d=>Q (b 0) λe=>q (a2 e) λe=>q (aq 0 e) λe=>q (W a c e) λe=>Q (b 3) λb=>aN a 103 [e,(.func (.func 104) [] [b])] c d (λb c d=>q (j0 a c .max [3,3] [b,.Z 0]) λa=>q (ah .geq b (.Z 0)) λb=>f (.tuple [a,b]) c d) g) λa=>aD i (f (.tuple [.Z 0,.zF]) e h) (a (zE (bR [b,c]) 3 d 4 (.Z 0) 5 .zF 8 i) e h)
def Dj:co X 78 [a0,aH]=wD X a0 aH:=Zk
def Di:cb X 78 2=true:=Zk
def vZ:Za1:=λa b c d e f=>eU a c d b λc d g=>q (aq 2 c) λh=>q (W a d h) λh=>q (bL h) λh=>q (aq 3 c) λi=>q (W a d i) λi=>q (bL i) λi=>q (ah .add h i) λh=>q (aq 4 c) λi=>q (W a d i) λi=>q (bL i) λi=>q (ah .add h i) λh=>q (aq 0 c) λi=>q (W a d i) λi=>aN a 41 [i] d g (λd g i=>q (c0 .not d) λd=>al (λg i j=>al (λg i j=>al (λg i j=>al (λg i j=>bS (λd=>al (λg i j=>al (λg i j=>bS (λd=>al (λg i j=>al (λg i j=>al (λg i j=>al (λg i j=>bS (λd=>al (λg i j=>al (λg i j=>al (λi j k=>al (λi j k=>al (λj k l=>al (λj k l=>al (λg i j=>al (λg i j=>al (λg i j=>al (λg i j=>bS (λd=>av (λb c d=>Q (b 1) λg=>q (aq 5 g) λg=>q (W a c g) λg=>q (bL g) λh=>av (λa b c=>Q (a 4) λa=>e a b c) λi=>cC (λb c d g=>Q (c 55) λh=>Q (c 54) λj=>q (ah .lss h j) λh=>av (λc d g=>av (λa c d=>Q (a 55) λe=>q (ah .add e (.Z 1)) λe=>b (K a 55 e) c d) λb=>Q (c 53) λh=>Q (c 55) λi=>q (bK 4 h i) λh=>q (br a d 4 h) λh=>q (cu [.az, .az,.Z 0, .bC] g) λi=>b4 a d g i.1 i.2 λd g i=>q (bj a g 4 d h) λg=>q (aq 3 d) λh=>q (W a g h) λh=>aN a 45 [h] g i (λg h i=>q (aq 0 d) λj=>q (W a h j) λj=>q (bL j) λj=>q (ah .eql j (.Z 0)) λj=>al (λh i k=>al (λh i k=>al (λi k l=>al (λa f h=>bS (λa=>al (λf h i=>al (λf h i=>bS (λa=>av (λa c d=>Q (a 8) λe=>q (ah .neq e (.Z 0)) λe=>av b λb=>aD e (Q (a 8) λf=>b (zC a 77 e 4 f) c d) (b (K a 77 e) c d)) λb=>aD a (e (.Z 1) h i) (b (zE c 6 d 7 (.func (.func 44) [] []) 8 g 75 a) h i)) λb=>aD a (b .zT) (b f)) λb=>ag false a (q (ah .eql f (.Z 1)) λa=>b a h i) (b S.undef h i)) λb=>ag false a (b g f h) (b S.undef f h)) λb=>aD j (b .zT) (b a)) λb=>ag false j (aN a 46 [h,i] k l (λa c d=>b a c d) f) (b S.undef k l)) λa=>ag false j (a (.func (.func 44) [] []) i k) (a S.undef i k)) λb=>ag false j (q (W a i h) λa=>b a i k) (b S.undef i k)) λa=>ag false j (q (aq 0 d) λb=>a b h i) (a S.undef h i)) f) λa=>aD h (a (K c 56 h) d g) (i (K c 56 h) d g)) (zE b 4 (.Z 0) 53 g 54 h 55 (.Z 0)) c d) λa=>aD d (e (.Z 1) i j) (a (zE (bR [b]) 1 c 2 (.Z 0) 3 h 51 d) i j)) λa=>aD d (a .zT) (a g)) λa=>ag false d (q (c0 .not g) λb=>a b i j) (a S.undef i j)) λb=>ag false d (aN a 42 [g] i j (λa c d=>b a c d) f) (b S.undef i j)) λb=>ag false d (aN a 43 [g] i j (λa c d=>b a c d) f) (b S.undef i j)) λb=>ag false d (q (dC 3 [.az, .az, .az] [(0,1,g),(1,1,i),(2,1,j)] l) λc=>b4 a k l c.1 c.2 λa c d=>b a c d) (b S.undef k l)) λb=>ag false d (q (W a k j) λa=>b a k l) (b S.undef k l)) λa=>ag false d (q (aq 4 c) λb=>a b j k) (a S.undef j k)) λb=>ag false d (q (W a j i) λa=>b a j k) (b S.undef j k)) λa=>ag false d (q (aq 3 c) λb=>a b i j) (a S.undef i j)) λb=>ag false d (q (W a i g) λa=>b a i j) (b S.undef i j)) λa=>ag false d (q (aq 2 c) λb=>a b i j) (a S.undef i j)) λa=>aD d (a .zT) (a g)) λa=>ag false d (q (ah .gtr g (.Z 4096)) λb=>a b i j) (a S.undef i j)) λa=>ag false d (q (bL g) λb=>a b i j) (a S.undef i j)) λb=>ag false d (q (W a i g) λa=>b a i j) (b S.undef i j)) λa=>ag false d (q (aq 5 c) λb=>a b i j) (a S.undef i j)) λa=>aD d (a .zT) (a g)) λa=>ag false d (q (ah .gtr g (.Z 256)) λb=>a b i j) (a S.undef i j)) λa=>ag false d (a h i j) (a S.undef i j)) λa=>aD d (a .zT) (a g)) λa=>ag false d (q (ah .eql g (.Z 0)) λb=>a b i j) (a S.undef i j)) λa=>ag false d (q (bL g) λb=>a b i j) (a S.undef i j)) λb=>ag false d (q (W a i g) λa=>b a i j) (b S.undef i j)) λa=>ag false d (q (aq 3 c) λb=>a b g i) (a S.undef g i)) f
def Cl:co X 23 [a0]=vZ X a0:=Zk
def Ck:cb X 23 1=true:=Zk
def wE:Za2:=λa b c d e f g _=>q (a2 b) λh=>q (aq 4 h) λh=>q (aq 0 h) λh=>q (W a e h) λh=>q (ah .eql h (.Z 0)) λh=>av (λ_ a b=>g (.tuple []) a b) λg=>aD h (q (cr [.Z 0,.Z 0] [(0,1,c),(1,1,d)]) λi=>q (a2 b) λj=>q (aq 4 j) λj=>q (bj a e 2 j i) λa=>g (K (bR [b,c,d]) 11 h) a f) (g (K (bR [b,c,d]) 11 h) e f)
def Dl:co X 79 [a0,aH,aZ]=wE X a0 aH aZ:=Zk
def Dk:cb X 79 3=true:=Zk
def uW(a:aC)(b:bh):db:=λc d e=>hW a [] b c c.aA d e
def se(a:aC)(b c:bh):iM:=λd e f g=>kn a [] b c d e d.aA f g
def wG:Za0:=λa b c d e f g=>eU a d e b λd e h=>eU a e h c λe h i=>b4 a h i (.map i) (.map [] 0) λh i j=>q (cu [.fF] j) λk=>b4 a i j k.1 k.2 λi j k=>q (bj a j 1 i h) λh=>q (br a h 6 e) λj=>aN a 77 [j] h k (λh j k=>av (λb c d=>Q (b 3) λe=>q (br a c 6 e) λe=>aN a 77 [e] c d (λc d e=>av (λb c d=>uW a f b c d) λh=>nU a 54 c [31,32] (iH a (λ_ _ b _ _ c d e=>q (cu [.str [],.Z 0,.zF,.zF,.Z 0,.str [],.Z 0,.zF] e) λf=>b4 a d e f.1 f.2 λd e f=>Q (c 32) λg=>q (bj a e 8 d g) λa=>b (K c 8 d) a f) (λ_ b c _ _ d e f=>av c λc=>dx (f+13) λg=>Q (d 2) λh=>q (W a e h) λh=>q (a2 h) λh=>q (aq 2 h) λh=>q (W a e h) λh=>Q (d 8) λi=>q (aq 5 i) λi=>q (W a e i) λi=>q (cu [.Z 0,.str [],.Z 0,.zF,.zF,.Z 0,.str [],.Z 0,.zF,.Z 0,.Z 0] (f+10)) λj=>fO a e (f+10) j.1 j.2 λe f=>aN a 83 [h,i] f g (λf g h=>q (dD 0 f) λi=>q (dD 1 f) λf=>q (bj a g 11 e i) λe=>q (c0 .not f) λg=>al (λe h i=>al (λe h i=>al (λe h i=>bS (λe=>av c λc=>aD e (Q (d 2) λg=>q (W a h g) λg=>Q (d 8) λj=>q (aq 6 j) λj=>q (W a h j) λj=>aN a 79 [g,.Z 23,j] h i (λ_ a b=>c (zC d 10 f 49 e) a b) (b (ed [50,51,52,53] (zC d 10 f 49 e)))) (c (zC d 10 f 49 e) h i)) λa=>aD g (a e) (a .zF)) λb=>ag true g (q (ce a h .neq 9 true e (.str [])) λa=>b a h i) (b S.undef h i)) λb=>ag true g (q (W a h e) λa=>b a h i) (b S.undef h i)) λa=>ag true g (Q (d 8) λb=>q (aq 5 b) λb=>a b e h) (a S.undef e h)) (b (ed [34,35,36,37,38,39,40,33,41,42,9,10] d)))) h (np 2 h (λ_ _ _ _=>False)) (uW a f) (se a f g) (K b 30 c) d e) (se a f g (ed [29,30] b))) λl=>nU a 54 h [14,15] (iH a (λ_ _ b _ _ c d e=>Q (c 14) λf=>q (cu [.str [],.Z 0,.zF,.zF,.Z 0,.str [],.Z 0,.zF] e) λg=>b4 a d e g.1 g.2 λd e g=>Q (c 15) λh=>q (bj a e 8 d h) λa=>b (zC c 5 f 6 d) a g) (λ_ b c _ _ d e f=>av c λc=>Q (d 4) λg=>q (W a e g) λg=>Q (d 6) λh=>q (aq 0 h) λh=>q (W a e h) λh=>q (gs a e 9 (.Z 0) g h false) λg=>q (ah .gtr g (.Z 0)) λg=>av (λb d e=>Q (b 4) λf=>q (W a d f) λf=>Q (b 6) λg=>q (aq 0 g) λg=>q (W a d g) λg=>Q (b 5) λh=>dA (nF a d e 9 f g h) d e λ_ a d=>c b a d) λc=>aD g (Q (d 2) λh=>q (W a e h) λh=>Q (d 6) λi=>q (aq 1 i) λi=>q (W a e i) λi=>aN a 79 [h,.Z 24,i] e f (λ_ a b=>c (K d 20 g) a b) (b (ed [21,22,23,24] (K d 20 g)))) (c (K d 20 g) e f))) l (np 0 l (λ_ _ _ _=>False)) (uW a f) (se a f g) (zE (bR [b,c]) 2 d 3 e 4 i 13 h) j k) (se a f g (ed [12,13] (zD (bR [b,c]) 2 d 3 e 4 i)))
def Dp:ns X 80 [a0,aH] a b R af=wG X a0 aH a b R af:=Zk
def Do:cb X 80 2=true:=Zk
def wH:Za2:=λa b c d e f g h=>q (a2 b) λi=>q (aq 2 i) λi=>q (W a e i) λi=>aN a 83 [i,c] e f (λe f i=>q (dD 0 e) λj=>q (dD 1 e) λe=>q (cu [.Z 0,.str [],.Z 0,.zF,.zF,.Z 0,.str [],.Z 0,.zF,.Z 0,.Z 0] i) λk=>b4 a f i k.1 k.2 λf i k=>q (bj a i 11 f j) λi=>q (a2 b) λj=>q (aq 3 j) λj=>q (W a i j) λj=>q (gs a i 9 (.Z 0) j c false) λl=>q (ah .add l (.Z 1)) λl=>dA (nF a i k 9 j c l) i k λ_ i j=>av (λ_ a b=>g (.tuple []) a b) λg=>q (c0 .not e) λk=>av g λg=>aD k (aN a 79 [b,.Z 23,d] i j (λ_ a h=>g (zD (bR [b,c,d]) 6 f 7 e 24 k) a h) h) (q (aq 0 f) λl=>q (W a i l) λl=>q (ah .eql l (.Z 1)) λl=>al (λi j m=>al (λi j m=>al (λi j m=>al (λi j m=>al (λj m n=>al (λi j m=>al (λi j m=>bS (λi=>av g λg=>aD i (aN a 79 [b,.Z 24,d] j m (λ_ a h=>g (zE (bR [b,c,d]) 6 f 7 e 24 k 30 i) a h) h) (g (zE (bR [b,c,d]) 6 f 7 e 24 k 30 i) j m)) λa=>aD l (a .zT) (a i)) λa=>ag false l (q (ah .gtr i (.Z 1)) λb=>a b j m) (a S.undef j m)) λb=>ag false l (q (gs a m 9 (.Z 0) i j false) λa=>b a m n) (b S.undef m n)) λa=>ag false l (a c j m) (a S.undef j m)) λb=>ag false l (q (W a j i) λa=>b a j m) (b S.undef j m)) λa=>ag false l (q (aq 3 i) λb=>a b j m) (a S.undef j m)) λa=>ag false l (q (a2 i) λb=>a b j m) (a S.undef j m)) λa=>ag false l (a b i j) (a S.undef i j))) h
def Dr:co X 81 [a0,aH,aZ]=wH X a0 aH aZ:=Zk
def Dq:cb X 81 3=true:=Zk
def wI:Za0:=λa b c d e f g=>eU a d e b λb d e=>aN a 105 [c,(.func (.func 106) [] [b])] d e (λ_ a b=>f (.tuple []) a b) g
def Dt:co X 82 [a0,aH]=wI X a0 aH:=Zk
def Ds:cb X 82 2=true:=Zk
def vv:Za0:=λa b c d e f g=>q (aq 2 c) λh=>q (W a d h) λh=>q (aq 3 c) λi=>q (W a d i) λi=>q (aq 4 c) λj=>q (W a d j) λj=>q (cr [.az, .az, .az] [(0,1,h),(1,1,i),(2,1,j)]) λh=>av (λ_ a b=>f (.tuple []) a b) λi=>cC (λb c d e=>Q (c 14) λh=>q (ah .lss h (.Z 3)) λh=>av (λc d e=>av (λa c d=>Q (a 14) λe=>q (ah .add e (.Z 1)) λe=>b (K a 14 e) c d) λb=>Q (c 14) λh=>Q (c 13) λi=>Q (c 14) λj=>q (t7 false 3 1 i j) λi=>q (bL i) λj=>av b λb=>cC (λc d e h=>Q (d 20) λi=>Q (d 19) λj=>q (ah .lss i j) λi=>av (λb d e=>av (λa b d=>Q (a 20) λe=>q (ah .add e (.Z 1)) λe=>c (K a 20 e) b d) λc=>Q (b 18) λh=>Q (b 20) λi=>q (bK 8 h i) λh=>q (br a d 8 h) λh=>q (cu [.str [],.Z 0,.zF,.zF,.Z 0,.str [],.Z 0,.zF] e) λi=>b4 a d e i.1 i.2 λd e i=>q (bj a e 8 d h) λe=>Q (b 0) λh=>Q (b 3) λj=>q (ah .add (.Z 1) j) λj=>q (br a e 8 d) λk=>lb a h [j,k] e i (λa e g=>q (c0 .not a) λa=>av c λc=>aD a (f (.tuple []) e g) (c (zC b 6 d 29 a) e g)) g) λa=>aD i (a (K d 21 i) e h) (b (K d 21 i) e h)) (K (zE c 3 h 4 i 18 i 19 j) 20 (.Z 0)) d e) λa=>aD h (a (K c 15 h) d e) (i (K c 15 h) d e)) (zC (bR [b,c]) 13 h 14 (.Z 0)) d e
def Bv:co X 102 [a0,aH]=vv X a0 aH:=Zk
def Bu:cb X 102 2=true:=Zk
def vw:Za0:=λa b c d e f g=>q (bL b) λh=>av (λ_ a b=>f (.Z (-1)) a b) λi=>cC (λb c d e=>Q (c 8) λh=>Q (c 7) λj=>q (ah .lss h j) λh=>av (λc d e=>av (λa c d=>Q (a 8) λe=>q (ah .add e (.Z 1)) λe=>b (K a 8 e) c d) λb=>Q (c 8) λh=>Q (c 1) λi=>Q (c 0) λj=>q (bK 6 j h) λj=>q (br a d 6 j) λj=>lb a i [j] d e (λa d e=>av b λb=>aD a (f h d e) (b (zC c 5 h 16 a) d e)) g) λa=>aD h (a (K c 9 h) d e) (i (K c 9 h) d e)) (zD (bR [b,c]) 4 (.Z 0) 7 h 8 (.Z 0)) d e
def Bx:co X 103 [a0,aH]=vw X a0 aH:=Zk
def Bw:cb X 103 2=true:=Zk
def vx:Za0:=λa b c d e f _=>eU a d e b λb d e=>q (aq 0 b) λb=>q (W a d b) λb=>q (W a d c) λc=>q (ce a d .eql 9 false b c) λa=>f a d e
def Bz:co X 104 [a0,aH]=vx X a0 aH:=Zk
def By:cb X 104 2=true:=Zk
def wc:Za1:=λa b c d e f=>q (bL b) λg=>av (λ_ a b=>e .zT a b) λh=>cC (λb c d g=>Q (c 7) λi=>Q (c 6) λj=>q (ah .lss i j) λi=>av (λc d g=>av (λa c d=>Q (a 7) λe=>q (ah .add e (.Z 1)) λe=>b (K a 7 e) c d) λb=>Q (c 5) λh=>Q (c 7) λi=>q (bK 8 h i) λh=>q (br a d 8 h) λh=>q (cu [.str [],.Z 0,.zF,.zF,.Z 0,.str [],.Z 0,.zF] g) λi=>b4 a d g i.1 i.2 λd g i=>q (bj a g 8 d h) λg=>q (aq 0 d) λh=>q (W a g h) λh=>aN a 41 [h] g i (λg h i=>q (c0 .not g) λg=>al (λh i j=>al (λh i j=>al (λh i j=>al (λh i j=>bS (λg=>al (λh i j=>al (λh i j=>al (λh i j=>al (λh i j=>al (λi j k=>al (λi j k=>al (λf i j=>al (λf i j=>al (λf h i=>bS (λf=>al (λg h i=>al (λg h i=>al (λg h i=>al (λg h i=>al (λh i j=>al (λa h i=>al (λa g h=>bS (λa=>av b λb=>aD a (e .zF g h) (b (zC c 4 d 40 a) g h)) λb=>aD f (b .zT) (b a)) λb=>ag false f (bS (λa=>b a h i) λb=>aD g (b a) (b .zF)) (b S.undef h i)) λb=>ag true g (q (W a i h) λa=>b a i j) (b S.undef i j)) λa=>ag true g (q (aq 7 d) λb=>a b h i) (a S.undef h i)) λa=>ag false f (a g h i) (a S.undef h i)) λb=>ag false f (q (ce a h .eql 9 true g (.str [])) λa=>b a h i) (b S.undef h i)) λb=>ag false f (q (W a h g) λa=>b a h i) (b S.undef h i)) λa=>ag false f (q (aq 5 d) λb=>a b h i) (a S.undef h i)) λa=>aD g (a .zT) (a f)) λa=>ag false g (bS (λb=>a b i j) λa=>aD h (a f) (a .zF)) (a S.undef i j)) λa=>ag true h (q (c0 .not f) λb=>a b i j) (a S.undef i j)) λb=>ag true h (aN a 41 [i] j k (λa c d=>b a c d) f) (b S.undef j k)) λb=>ag true h (q (W a j i) λa=>b a j k) (b S.undef j k)) λa=>ag true h (q (aq 5 d) λb=>a b i j) (a S.undef i j)) λa=>ag false g (a h i j) (a S.undef i j)) λb=>ag false g (q (ce a i .neq 9 true h (.str [])) λa=>b a i j) (b S.undef i j)) λb=>ag false g (q (W a i h) λa=>b a i j) (b S.undef i j)) λa=>ag false g (q (aq 5 d) λb=>a b i j) (a S.undef i j)) λa=>aD g (a .zT) (a h)) λb=>ag false g (q (ce a i .eql 9 true h (.str [])) λa=>b a i j) (b S.undef i j)) λb=>ag false g (aN a 65 [h] i j (λa c d=>b a c d) f) (b S.undef i j)) λb=>ag false g (q (br a i 3 h) λa=>b a i j) (b S.undef i j)) λa=>ag false g (q (aq 2 d) λb=>a b h i) (a S.undef h i)) f) λa=>aD i (a (K c 8 i) d g) (h (K c 8 i) d g)) (zE (bR [b]) 2 .zF 5 b 6 g 7 (.Z 0)) c d
def Cz:co X 42 [a0]=wc X a0:=Zk
def Cy:cb X 42 1=true:=Zk
def we:Za1:=λa b c d e f=>q (bL b) λg=>av (λb c d=>Q (b 3) λg=>aN a 73 [.az,g] c d (λc d f=>Q (b 0) λg=>q (bL g) λh=>av (λa b c=>Q (a 6) λa=>e a b c) λe=>cC (λb c d f=>Q (c 27) λg=>Q (c 26) λh=>q (ah .lss g h) λg=>av (λc d e=>av (λa c d=>Q (a 27) λe=>q (ah .add e (.Z 1)) λe=>b (K a 27 e) c d) λb=>Q (c 25) λf=>Q (c 27) λg=>q (bK 1 f g) λf=>q (W a d f) λf=>Q (c 6) λg=>dA (d4 a d e 8 g f) d e λa d e=>b (zC c 8 f 6 a) d e) λa=>aD g (a (K c 28 g) d f) (e (K c 28 g) d f)) (zE b 6 c 25 g 26 h 27 (.Z 0)) d f) f) λe=>cC (λb c d g=>Q (c 11) λh=>Q (c 10) λi=>q (ah .lss h i) λh=>av (λc d e=>av (λa c d=>Q (a 11) λe=>q (ah .add e (.Z 1)) λe=>b (K a 11 e) c d) λb=>Q (c 9) λg=>Q (c 11) λh=>q (bK 1 g h) λg=>q (W a d g) λa=>Q (c 3) λg=>q (bL a) λh=>q (ah .add g h) λg=>q (ah .lss g (.Z 0)) λh=>av b λb=>aD h (q (some (y.iface 9 (.str [108,101,110,32,111,117,116,32,111,102,32,114,97,110,103,101]))) λa=>sf f a d e) (b (zD c 5 a 3 g 20 h) d e)) λa=>aD h (a (K c 12 h) d g) (e (K c 12 h) d g)) (K (zE (bR [b]) 2 .az 3 (.Z 0) 9 b 10 g) 11 (.Z 0)) c d
def CB:co X 43 [a0]=we X a0:=Zk
def CA:cb X 43 1=true:=Zk
def wg:Za1:=λa b c d e f=>aN a 41 [b] c d (λa b c=>q (c0 .not a) λa=>e a b c) f
def CD:co X 44 [a0]=wg X a0:=Zk
def CC:cb X 44 1=true:=Zk
def wh:Za1:=λa b c d e f=>q (cu [.Z 0] d) λg=>b4 a c d g.1 g.2 λc d g=>q (bj a d 1 c (.Z 0)) λd=>q (cu [.Z 0] g) λh=>b4 a d g h.1 h.2 λd g h=>q (bj a g 1 d (.Z 0)) λg=>q (cu [.nilFunc] h) λi=>b4 a g h i.1 i.2 λg h i=>q (bj a h 1 g (.func (.func 74) [] [d,c,g])) λd=>q (W a d g) λg=>lb a g [b] d i (λ_ b d=>q (W a b c) λa=>e a b d) f
def CF:co X 45 [a0]=wh X a0:=Zk
def CE:cb X 45 1=true:=Zk
def wi:Za0:=λa b c d e f g=>aN a 76 [b,c] d e (λa b c=>q (ah .geq a (.Z 0)) λa=>f a b c) g
def CH:co X 46 [a0,aH]=wi X a0 aH:=Zk
def CG:cb X 46 2=true:=Zk
def vz:Za0:=λa b c d e f g=>aN a 107 [b] d e (λd e h=>av (λb c d=>Q (b 0) λe=>q (a2 e) λe=>q (aq 0 e) λe=>q (W a c e) λe=>q (ah .eql e (.Z 25)) λe=>av (λ_ a b=>f .zT a b) λf=>aD e (dx (d+14) λd=>Q (b 1) λh=>q (W a c h) λh=>q (a2 h) λh=>q (aq 0 h) λh=>q (W a c h) λh=>Q (b 0) λi=>q (a2 i) λi=>q (aq 2 i) λi=>q (W a c i) λi=>aN a 78 [h,i] c d (λc d h=>q (dD 0 c) λi=>q (dD 1 c) λc=>av f λf=>q (c0 .not c) λj=>av f λf=>aD j (dx (h+6) λh=>Q (b 1) λk=>q (W a d k) λk=>Q (b 0) λl=>q (a2 l) λl=>q (aq 1 l) λl=>q (W a d l) λl=>aN a 79 [k,.Z 23,l] d h (λ_ a d=>f (zE b 34 e 6 i 7 c 47 j) a d) g) (Q (b 1) λk=>q (W a d k) λk=>q (a2 k) λk=>q (aq 1 k) λk=>q (W a d k) λk=>q (ah .geq i k) λk=>av f λf=>aD k (dx (h+6) λh=>Q (b 1) λl=>q (W a d l) λl=>Q (b 0) λm=>q (a2 m) λm=>q (aq 1 m) λm=>q (W a d m) λm=>aN a 79 [l,.Z 25,m] d h (λ_ a d=>f (K (zE b 34 e 6 i 7 c 47 j) 56 k) a d) g) (f (K (zE b 34 e 6 i 7 c 47 j) 56 k) d h))) g) (f (K b 34 e) c d)) λf=>aD d (dx (h+15) λi=>q (W a e c) λj=>q (a2 j) λj=>q (aq 2 j) λj=>q (W a e j) λj=>q (a2 b) λk=>q (aq 2 k) λk=>q (W a e k) λk=>q (cu [.Z 0,.str [],.Z 0,.zF,.zF,.Z 0,.str [],.Z 0,.zF,.Z 0,.Z 0] (h+12)) λl=>fO a e (h+12) l.1 l.2 λe h=>aN a 83 [j,k] h i (λh i j=>q (dD 0 h) λk=>q (dD 1 h) λh=>q (bj a i 11 e k) λe=>q (c0 .not h) λi=>av f λf=>aD i (dx (j+6) λj=>q (W a e c) λk=>q (a2 b) λl=>q (aq 1 l) λl=>q (W a e l) λl=>aN a 79 [k,.Z 23,l] e j (λ_ a e=>f (zE (bR [b,c]) 3 .zF 9 d 5 h 23 i) a e) g) (f (zE (bR [b,c]) 3 .zF 9 d 5 h 23 i) e j)) g) (f (zC (bR [b,c]) 3 .zF 9 d) e h)) g
def BD:co X 106 [a0,aH]=vz X a0 aH:=Zk
def BC:cb X 106 2=true:=Zk
def vA:Za1:=λa b c d e _=>q (a2 b) λf=>q (aq 0 f) λf=>q (W a c f) λf=>q (ah .eql f (.Z 2)) λf=>al (λc d g=>al (λc d g=>al (λc d g=>al (λc d g=>al (λc d g=>bS (λc=>al (λb d f=>al (λb d f=>al (λb d f=>al (λa b d=>al (λa b d=>bS (λa=>e a b d) λb=>aD c (b .zT) (b a)) λe=>ag false c (q (ah .eql a (.Z 24)) λa=>e a b d) (e S.undef b d)) λe=>ag false c (q (W a d b) λa=>e a d f) (e S.undef d f)) λa=>ag false c (q (aq 0 b) λb=>a b d f) (a S.undef d f)) λa=>ag false c (q (a2 b) λb=>a b d f) (a S.undef d f)) λa=>ag false c (a b d g) (a S.undef d g)) λa=>aD f (a .zT) (a c)) λa=>ag false f (q (ah .eql c (.Z 6)) λb=>a b d g) (a S.undef d g)) λb=>ag false f (q (W a d c) λa=>b a d g) (b S.undef d g)) λa=>ag false f (q (aq 0 c) λb=>a b d g) (a S.undef d g)) λa=>ag false f (q (a2 c) λb=>a b d g) (a S.undef d g)) λa=>ag false f (a b c d) (a S.undef c d)
def BF:co X 107 [a0]=vA X a0:=Zk
def BE:cb X 107 1=true:=Zk
def wO:Za1:=λa b c d e _=>eU a c d b λc d f=>q (aq 0 c) λg=>q (W a d g) λg=>av (λb c d=>Q (b 1) λf=>q (aq 2 f) λf=>q (W a c f) λf=>q (ah .geq f (.Z 1)) λf=>al (λb c d=>al (λa b c=>al (λa b c=>bS (λa=>e a b c) λb=>aD f (b a) (b .zF)) λd=>ag true f (q (ah .leq a (.Z 64)) λa=>d a b c) (d S.undef b c)) λe=>ag true f (q (W a c b) λa=>e a c d) (e S.undef c d)) λa=>ag true f (Q (b 1) λb=>q (aq 2 b) λb=>a b c d) (a S.undef c d)) λh=>aD g (q (aq 1 c) λb=>q (W a d b) λb=>q (c0 .not b) λb=>al (λc d f=>al (λa c d=>al (λa c d=>bS (λa=>e a c d) λc=>aD b (c a) (c .zF)) λe=>ag true b (q (ah .eql a (.Z 1)) λa=>e a c d) (e S.undef c d)) λe=>ag true b (q (W a d c) λa=>e a d f) (e S.undef d f)) λa=>ag true b (q (aq 2 c) λb=>a b d f) (a S.undef d f)) (h (zD (bR [b]) 1 c 2 .zF 4 g) d f)
def DF:co X 94 [a0]=wO X a0:=Zk
def DE:cb X 94 1=true:=Zk
def wy:Za0:=λa b c d e f g=>q (ah .lss c (.Z 0)) λh=>av (λb c d=>Q (b 1) λe=>Q (b 0) λg=>q (j0 a c .cap [47] [g]) λg=>Q (b 0) λh=>q (bL h) λh=>q (ah .sub g h) λg=>q (ah .sub e g) λe=>q (ah .gtr e (.Z 0)) λg=>av (λa b c=>Q (a 0) λa=>f a b c) λf=>aD g (Q (b 0) λh=>Q (b 0) λi=>q (j0 a c .cap [47] [i]) λi=>q (il a c 8 h none (some i) none) λh=>dA (oI a c d .append [47,3] [h,e]) c d λc d h=>Q (b 0) λi=>q (bL i) λi=>q (il a d 8 c none (some i) none) λa=>f (zD b 1 e 16 g 0 a) d h) (f (zC b 1 e 16 g) c d)) λa=>aD h (q (some (y.iface 9 (.str [99,97,110,110,111,116,32,98,101,32,110,101,103,97,116,105,118,101]))) λa=>sf g a d e) (a (zC (bR [b,c]) 4 .az 6 h) d e)
def C9:co X 73 [a0,aH]=wy X a0 aH:=Zk
def C8:cb X 73 2=true:=Zk
def wz:Za3:=λa b c d e f g h i=>q (W a f c) λj=>q (ah .add j (.Z 1)) λj=>q (bj a f 1 c j) λf=>av (λb c d=>Q (b 1) λe=>q (W a c e) λe=>q (ah .sub e (.Z 1)) λe=>Q (b 1) λb=>q (bj a c 1 b e) λa=>h (.tuple []) a d) λh=>q (ce a f .eql 59 true b .bC) λj=>al (λf g k=>al (λf g k=>al (λf g k=>bS (λf=>av h λh=>aD f (q (bj a g 1 d (.Z 1)) λa=>h (K (bR [b,c,d,e]) 22 f) a k) (q (W a g c) λj=>q (ah .gtr j (.Z 200)) λj=>av h λh=>aD j (q (W a g d) λi=>q (ah .eql i (.Z 0)) λi=>av h λh=>aD i (q (bj a g 1 d (.Z 22)) λa=>h (zD (bR [b,c,d,e]) 22 f 30 j 34 i) a k) (h (zD (bR [b,c,d,e]) 22 f 30 j 34 i) g k)) (q (a2 b) λl=>q (aq 8 l) λl=>q (W a g l) λl=>q (bL l) λm=>av h λh=>cC (λb c d e=>Q (c 14) λf=>Q (c 13) λg=>q (ah .lss f g) λf=>av (λc d e=>av (λa c d=>Q (a 14) λe=>q (ah .add e (.Z 1)) λe=>b (K a 14 e) c d) λb=>Q (c 12) λf=>Q (c 14) λg=>q (bK 1 f g) λf=>q (W a d f) λf=>Q (c 3) λg=>q (W a d g) λg=>lb a g [f] d e (λ_ a d=>b (K c 6 f) a d) i) λa=>aD f (a (K c 15 f) d e) (h (K c 15 f) d e)) (K (zE (bR [b,c,d,e]) 22 f 30 j 12 l 13 m) 14 (.Z 0)) g k))) λa=>aD j (a .zT) (a f)) λa=>ag false j (q (c0 .not f) λb=>a b g k) (a S.undef g k)) λb=>ag false j (aN a 75 [f] g k (λa c d=>b a c d) i) (b S.undef g k)) λa=>ag false j (a b f g) (a S.undef f g)
def Db:co X 74 [a0,aH,aZ,a3]=wz X a0 aH aZ a3:=Zk
def Da:cb X 74 4=true:=Zk
def wA:Za1:=λa b c d e f=>dx (d+12) λg=>q (W a c (.ptr 1 0)) λh=>q (a2 b) λi=>q (aq 0 i) λi=>q (W a c i) λi=>q (gs a c 3 (.agg [.Z 0,.zF,.zF,.zF]) h i true) λh=>q (dD 0 h) λi=>q (dD 1 h) λh=>q (cu [.Z 0,.zF,.zF,.zF] (d+9)) λj=>fO a c (d+9) j.1 j.2 λc d=>q (bj a d 4 c i) λd=>q (c0 .not h) λi=>av (λb c d=>dx (d+34) λd=>Q (b 0) λg=>q (a2 g) λg=>q (aq 0 g) λg=>q (W a c g) λg=>q (ah .lss g (.Z 1)) λg=>ck (λc h=>ck (λc h=>ck (λc h=>ck (λc h=>ck (λc h=>bS (λc=>ck (λg h=>ck (λg h=>ck (λg h=>ck (λg h=>ck (λh i=>ck (λh i=>ck (λh i=>ck (λh i=>ck (λh i=>ck (λi j=>ck (λi j=>ck (λh i=>ck (λg h=>bS (λc=>ck (λg h=>ck (λg h=>ck (λg h=>ck (λg h=>al (λd g h=>bS (λc=>av (λb c d=>dx (d+33) λd=>Q (b 3) λg=>q (aq 1 g) λg=>q (W a c g) λg=>Q (b 0) λh=>q (a2 h) λh=>q (aq 2 h) λh=>q (W a c h) λh=>q (ce a c .neq 9 true h (.str [])) λh=>q (ce a c .neq 4 false g h) λg=>ck (λc h=>ck (λc h=>ck (λc h=>ck (λh i=>ck (λh i=>ck (λh i=>ck (λh i=>al (λd h i=>ck (λd h=>ck (λc d=>bS (λc=>ck (λd g=>ck (λd g=>ck (λd g=>ck (λd g=>ck (λd g=>ck (λg h=>ck (λg h=>ck (λg h=>ck (λg h=>ck (λg h=>ck (λd g=>bS (λc=>av (λb c d=>Q (b 3) λg=>q (aq 2 g) λg=>q (W a c g) λg=>q (c0 .not g) λg=>al (λc d h=>al (λc d h=>al (λc d h=>al (λc d h=>al (λd h i=>al (λc d h=>bS (λc=>al (λd g h=>al (λd g h=>al (λd g h=>al (λg h i=>al (λg h i=>al (λg h i=>al (λg h i=>al (λg h i=>al (λg h i=>al (λd g h=>bS (λc=>al (λd g h=>al (λd g h=>al (λd g h=>al (λd g h=>al (λg h i=>al (λg h i=>al (λg h i=>al (λg h i=>al (λg h i=>al (λd g h=>bS (λc=>av (λb c d=>Q (b 0) λg=>q (a2 g) λg=>q (aq 0 g) λg=>q (W a c g) λg=>av (λ_ a b=>e .zT a b) λh=>q (ah .eql g (.Z 1)) λi=>av h λh=>aD i (Q (b 0) λb=>aN a 101 [b] c d (λa b c=>e a b c) f) (q (ah .eql g (.Z 19)) λf=>av (λb c d=>Q (b 128) λf=>av h λg=>aD f (Q (b 0) λb=>q (a2 b) λb=>q (aq 7 b) λb=>q (W a c b) λa=>q (ah .leq a (.int .u64 63)) λa=>e a c d) (Q (b 123) λf=>q (ah .eql f (.Z 21)) λf=>av g λg=>aD f (Q (b 0) λb=>q (a2 b) λb=>q (aq 8 b) λb=>q (W a c b) λb=>q (bK 1 b (.Z 0)) λb=>q (W a c b) λb=>q (a2 b) λf=>q (aq 0 f) λf=>q (W a c f) λf=>q (ah .eql f (.Z 1)) λf=>al (λc d g=>al (λc d g=>al (λc d g=>al (λc d g=>al (λc d g=>al (λc d g=>al (λd g h=>al (λd g h=>al (λd g h=>al (λd g h=>al (λd g h=>al (λd g h=>al (λc d g=>al (λc d g=>al (λd g h=>al (λd g h=>al (λd g h=>al (λd g h=>al (λd g h=>al (λd g h=>al (λd g h=>al (λc d g=>al (λc d g=>al (λb d g=>al (λb d g=>al (λb d g=>al (λb d g=>al (λb d g=>al (λb d g=>al (λb d g=>al (λb d g=>al (λa b d=>al (λa b d=>al (λa b c=>bS (λa=>e a b c) λb=>aD f (b .zT) (b a)) λe=>ag false f (bS (λa=>e a b d) λb=>aD c (b a) (b .zF)) (e S.undef b d)) λe=>ag true c (q (ah .eql a (.Z 1)) λa=>e a b d) (e S.undef b d)) λe=>ag true c (q (W a d b) λa=>e a d g) (e S.undef d g)) λa=>ag true c (q (aq 0 b) λb=>a b d g) (a S.undef d g)) λa=>ag true c (q (a2 b) λb=>a b d g) (a S.undef d g)) λe=>ag true c (q (W a d b) λa=>e a d g) (e S.undef d g)) λa=>ag true c (q (bK 1 b (.Z 0)) λb=>a b d g) (a S.undef d g)) λe=>ag true c (q (W a d b) λa=>e a d g) (e S.undef d g)) λa=>ag true c (q (aq 8 b) λb=>a b d g) (a S.undef d g)) λa=>ag true c (q (a2 b) λb=>a b d g) (a S.undef d g)) λa=>ag true c (a b d g) (a S.undef d g)) λa=>ag false f (a c d g) (a S.undef d g)) λa=>ag false f (bS (λb=>a b g h) λa=>aD c (a d) (a .zF)) (a S.undef g h)) λb=>ag true c (q (ce a g .neq 59 true d .bC) λa=>b a g h) (b S.undef g h)) λb=>ag true c (q (W a g d) λa=>b a g h) (b S.undef g h)) λa=>ag true c (q (bK 1 d (.Z 0)) λb=>a b g h) (a S.undef g h)) λb=>ag true c (q (W a g d) λa=>b a g h) (b S.undef g h)) λa=>ag true c (q (aq 8 d) λb=>a b g h) (a S.undef g h)) λa=>ag true c (q (a2 d) λb=>a b g h) (a S.undef g h)) λa=>ag true c (a b d g) (a S.undef d g)) λa=>ag false f (a c d g) (a S.undef d g)) λa=>ag false f (bS (λb=>a b g h) λa=>aD c (a d) (a .zF)) (a S.undef g h)) λa=>ag true c (q (ah .eql d (.Z 1)) λb=>a b g h) (a S.undef g h)) λa=>ag true c (q (bL d) λb=>a b g h) (a S.undef g h)) λb=>ag true c (q (W a g d) λa=>b a g h) (b S.undef g h)) λa=>ag true c (q (aq 8 d) λb=>a b g h) (a S.undef g h)) λa=>ag true c (q (a2 d) λb=>a b g h) (a S.undef g h)) λa=>ag true c (a b d g) (a S.undef d g)) λa=>ag false f (a c d g) (a S.undef d g)) λa=>ag false f (q (ah .eql c (.Z 4)) λb=>a b d g) (a S.undef d g)) λb=>ag false f (q (W a d c) λa=>b a d g) (b S.undef d g)) λa=>ag false f (q (aq 0 c) λb=>a b d g) (a S.undef d g)) λa=>ag false f (q (a2 c) λb=>a b d g) (a S.undef d g)) λa=>ag false f (a b c d) (a S.undef c d)) (g (K b 136 f) c d))) λa=>aD f (a (zD b 123 g 124 i 128 f) c d) (q (ah .eql g (.Z 20)) λe=>a (zE b 123 g 124 i 128 f 128 e) c d))) λa=>aD c (e .zF g h) (a (K b 119 c) g h)) λa=>aD c (a .zT) (a d)) λa=>ag false c (bS (λb=>a b h i) λa=>aD d (a g) (a .zF)) (a S.undef h i)) λa=>ag true d (q (ah .neq g (.int .u64 0)) λb=>a b h i) (a S.undef h i)) λb=>ag true d (q (W a h g) λa=>b a h i) (b S.undef h i)) λa=>ag true d (q (aq 7 g) λb=>a b h i) (a S.undef h i)) λa=>ag true d (q (a2 g) λb=>a b h i) (a S.undef h i)) λa=>ag true d (Q (b 0) λb=>a b g h) (a S.undef g h)) λa=>ag false c (a d g h) (a S.undef g h)) λa=>ag false c (q (c0 .not d) λb=>a b g h) (a S.undef g h)) λb=>ag false c (q (W a g d) λa=>b a g h) (b S.undef g h)) λa=>ag false c (Q (b 3) λb=>q (aq 3 b) λb=>a b g h) (a S.undef g h)) λa=>aD c (a .zT) (a d)) λa=>ag false c (bS (λb=>a b h i) λa=>aD d (a g) (a .zF)) (a S.undef h i)) λa=>ag true d (q (c0 .not g) λb=>a b h i) (a S.undef h i)) λb=>ag true d (aN a 94 [g] h i (λa c d=>b a c d) f) (b S.undef h i)) λb=>ag true d (q (br a h 3 g) λa=>b a h i) (b S.undef h i)) λa=>ag true d (q (aq 4 g) λb=>a b h i) (a S.undef h i)) λa=>ag true d (q (a2 g) λb=>a b h i) (a S.undef h i)) λa=>ag true d (Q (b 0) λb=>a b g h) (a S.undef g h)) λa=>ag false c (a d g h) (a S.undef g h)) λb=>ag false c (q (W a g d) λa=>b a g h) (b S.undef g h)) λa=>ag false c (Q (b 3) λb=>q (aq 2 b) λb=>a b d h) (a S.undef d h)) λa=>aD g (a c) (a .zF)) λb=>ag true g (q (ce a h .neq 50 false c d) λa=>b a h i) (b S.undef h i)) λa=>ag true g (q (cr [.zF,.zF,.Z 0] []) λb=>a b d h) (a S.undef d h)) λb=>ag true g (q (br a d 3 c) λa=>b a d h) (b S.undef d h)) λa=>ag true g (q (aq 4 c) λb=>a b d h) (a S.undef d h)) λa=>ag true g (q (a2 c) λb=>a b d h) (a S.undef d h)) λa=>ag true g (Q (b 0) λb=>a b c d) (a S.undef c d)) λa=>aD c (e .zF g i) (a (K b 84 c) g i)) λa=>aD c (a .zT) (a d)) λa=>ag false c (bS (λb=>a b h) λa=>aD d (a g) (a .zF)) (a S.undef h)) λa=>ag true d (q (ah .neq g (.Z 6)) λb=>a b h) (a S.undef h)) λb=>ag true d (q (W a h g) λa=>b a h) (b S.undef h)) λa=>ag true d (q (aq 0 g) λb=>a b h) (a S.undef h)) λa=>ag true d (q (a2 g) λb=>a b h) (a S.undef h)) λa=>ag true d (Q (b 0) λb=>a b g) (a S.undef g)) λa=>ag false c (a d g) (a S.undef g)) λb=>ag false c (q (W a g d) λa=>b a g) (b S.undef g)) λa=>ag false c (q (aq 3 d) λb=>a b g) (a S.undef g)) λa=>ag false c (q (a2 d) λb=>a b g) (a S.undef g)) λa=>ag false c (Q (b 0) λb=>a b d) (a S.undef d)) λa=>aD g (a .zT) (a c)) λa=>ag false g (bS (λb=>a b h) λa=>aD c (a d) (a .zF)) (a S.undef h)) λa=>ag true c (q (c0 .not d) λb=>a b h) (a S.undef h)) λb=>ag true c (aN a 41 [h] i d (λa c d=>b a c d) f) (b S.undef i d)) λb=>ag true c (q (W a i h) λa=>b a i) (b S.undef i)) λa=>ag true c (q (aq 2 h) λb=>a b i) (a S.undef i)) λa=>ag true c (q (a2 h) λb=>a b i) (a S.undef i)) λa=>ag true c (Q (b 0) λb=>a b h) (a S.undef h)) λa=>ag false g (a c h) (a S.undef h)) λb=>ag false g (q (W a h c) λa=>b a h) (b S.undef h)) λa=>ag false g (Q (b 3) λb=>q (aq 1 b) λb=>a b c) (a S.undef c)) λa=>aD c (e .zF g h) (a (K b 51 c) g h)) λa=>aD c (a .zT) (a d)) λb=>ag false c (aN a 100 [g, .bC] h d (λa c d=>b a c d) f) (b S.undef h d)) λb=>ag false c (q (W a h g) λa=>b a h) (b S.undef h)) λa=>ag false c (q (aq 8 g) λb=>a b h) (a S.undef h)) λa=>ag false c (q (a2 g) λb=>a b h) (a S.undef h)) λa=>ag false c (Q (b 0) λb=>a b h) (a S.undef h)) λa=>aD c (a .zT) (a g)) λa=>ag false c (bS (λb=>a b i) λa=>aD g (a h) (a .zF)) (a S.undef i)) λa=>ag true g (q (ah .neq h i) λb=>a b j) (a S.undef j)) λb=>ag true g (q (W a j i) λa=>b a j) (b S.undef j)) λa=>ag true g (Q (b 3) λb=>q (aq 0 b) λb=>a b i) (a S.undef i)) λa=>ag true g (q (bL h) λb=>a b i) (a S.undef i)) λb=>ag true g (q (W a i h) λa=>b a i) (b S.undef i)) λa=>ag true g (q (aq 8 h) λb=>a b i) (a S.undef i)) λa=>ag true g (q (a2 h) λb=>a b i) (a S.undef i)) λa=>ag true g (Q (b 0) λb=>a b h) (a S.undef h)) λa=>ag false c (a g h) (a S.undef h)) λa=>ag false c (q (ah .geq g (.Z 0)) λb=>a b h) (a S.undef h)) λb=>ag false c (q (W a h g) λa=>b a h) (b S.undef h)) λa=>ag false c (Q (b 3) λb=>q (aq 0 b) λb=>a b h) (a S.undef h)) λa=>aD g (a .zT) (a c)) λa=>ag false g (q (ah .gtr c (.Z 26)) λb=>a b h) (a S.undef h)) λb=>ag false g (q (W a h c) λa=>b a h) (b S.undef h)) λa=>ag false g (q (aq 0 c) λb=>a b h) (a S.undef h)) λa=>ag false g (q (a2 c) λb=>a b h) (a S.undef h)) λa=>ag false g (Q (b 0) λb=>a b c) (a S.undef c)) λe=>aD i (q (cr [.Z 0,.zF,.zF,.zF] [(0,1,(.Z 2))]) λf=>q (bj a d 4 c f) λa=>e (zE (bR [b]) 2 .zF 3 c 4 h 16 i) a g) (e (zE (bR [b]) 2 .zF 3 c 4 h 16 i) d g)
def Dd:co X 75 [a0]=wA X a0:=Zk
def Dc:cb X 75 1=true:=Zk
def wB:Za0:=λa b c d e f g=>q (bL b) λh=>av (λ_ a b=>f (.Z (-1)) a b) λi=>cC (λb c d e=>Q (c 8) λh=>Q (c 7) λj=>q (ah .lss h j) λh=>av (λc d e=>av (λa c d=>Q (a 8) λe=>q (ah .add e (.Z 1)) λe=>b (K a 8 e) c d) λb=>Q (c 8) λh=>Q (c 1) λi=>Q (c 0) λj=>q (bK 1 j h) λj=>q (W a d j) λj=>lb a i [j] d e (λa d e=>av b λb=>aD a (f h d e) (b (zC c 5 h 16 a) d e)) g) λa=>aD h (a (K c 9 h) d e) (i (K c 9 h) d e)) (zD (bR [b,c]) 4 (.Z 0) 7 h 8 (.Z 0)) d e
def Df:co X 76 [a0,aH]=wB X a0 aH:=Zk
def De:cb X 76 2=true:=Zk
def vt:Za0:=λa b c d e f g=>aN a 129 [b,c] d e (λa b c=>q (ah .geq a (.Z 0)) λa=>f a b c) g
def Br:co X 100 [a0,aH]=vt X a0 aH:=Zk
def Bq:cb X 100 2=true:=Zk
def vu:Za1:=λa b c d e f=>q (a2 b) λg=>q (aq 4 g) λg=>q (aq 2 g) λg=>q (W a c g) λg=>q (a2 b) λh=>q (aq 4 h) λh=>q (aq 1 h) λh=>q (W a c h) λh=>av (λb c d=>Q (b 0) λg=>q (a2 g) λg=>q (aq 0 g) λg=>q (W a c g) λg=>q (ah .eql g (.Z 1)) λg=>al (λc d h=>al (λc d h=>al (λc d h=>al (λc d h=>al (λc d f=>bS (λc=>al (λd f g=>al (λd f g=>al (λd f g=>al (λf g h=>al (λf g h=>al (λf g h=>al (λa f g=>al (λb f g=>al (λa b f=>al (λa b f=>al (λa b d=>bS (λa=>e a b d) λb=>aD c (b a) (b .zF)) λe=>ag true c (bS (λa=>e a b f) λb=>aD d (b .zT) (b a)) (e S.undef b f)) λc=>ag false d (q (ah .eql a (.int .u64 0)) λa=>c a b f) (c S.undef b f)) λc=>ag false d (q (ah .shr a b) λa=>c a f g) (c S.undef f g)) λa=>ag false d (Q (b 3) λb=>a b f g) (a S.undef f g)) λb=>ag false d (q (W a g f) λa=>b a g h) (b S.undef g h)) λa=>ag false d (q (aq 7 f) λb=>a b g h) (a S.undef g h)) λa=>ag false d (q (a2 f) λb=>a b g h) (a S.undef g h)) λa=>ag false d (Q (b 0) λb=>a b f g) (a S.undef f g)) λa=>ag true c (a d f g) (a S.undef f g)) λa=>ag true c (q (ah .eql d (.Z 64)) λb=>a b f g) (a S.undef f g)) λa=>ag true c (Q (b 3) λb=>a b d f) (a S.undef d f)) λa=>aD g (a c) (a .zF)) λb=>ag true g (aN a 94 [c] d h (λa c d=>b a c d) f) (b S.undef d h)) λb=>ag true g (q (br a d 3 c) λa=>b a d h) (b S.undef d h)) λa=>ag true g (q (aq 4 c) λb=>a b d h) (a S.undef d h)) λa=>ag true g (q (a2 c) λb=>a b d h) (a S.undef d h)) λa=>ag true g (Q (b 0) λb=>a b c d) (a S.undef c d)) λa=>aD h (q (ah .sub g (.Z 1)) λe=>a (zE (bR [b]) 2 .zF 3 g 13 h 3 e) c d) (a (zD (bR [b]) 2 .zF 3 g 13 h) c d)
def Bt:co X 101 [a0]=vu X a0:=Zk
def Bs:cb X 101 1=true:=Zk
def vI:Za0:=λa b c d e f _=>q (bL b) λg=>av (λ_ a b=>f (.Z (-1)) a b) λh=>cC (λb c d e=>Q (c 8) λg=>Q (c 7) λi=>q (ah .lss g i) λg=>av (λc d e=>av (λa c d=>Q (a 8) λe=>q (ah .add e (.Z 1)) λe=>b (K a 8 e) c d) λb=>Q (c 8) λg=>Q (c 1) λh=>Q (c 0) λi=>q (bK 1 i g) λi=>q (W a d i) λi=>q (ce a d .eql 59 false h i) λa=>av b λb=>aD a (f g d e) (b (zC c 5 g 16 a) d e)) λa=>aD g (a (K c 9 g) d e) (h (K c 9 g) d e)) (zD (bR [b,c]) 4 (.Z 0) 7 g 8 (.Z 0)) d e
def BP:co X 129 [a0,aH]=vI X a0 aH:=Zk
def BO:cb X 129 2=true:=Zk
def Au(a:aC)(b:bh):db:=λc d e=>hW a [.tmp 2] b c c.aA d e
def y8(a:aC)(b c:bh):iM:=λd e f g=>kn a [.tmp 2] b c d e d.aA f g
def wj:Za1:=λa b c d e f=>eU a c d b λc d g=>b4 a d g (.map g) (.map [] 0) λd g h=>q (cr [.fF, .az] [(0,1,d)]) λd=>eU a g h d λd g h=>q (cu [.bC] h) λi=>b4 a g h i.1 i.2 λg h i=>q (bj a h 1 g d) λd=>q (br a d 6 c) λh=>aN a 77 [h] d i (λd h i=>av (λb c d=>Q (b 1) λf=>q (aq 5 f) λf=>q (W a c f) λf=>q (bL f) λg=>av (λb c d=>Q (b 3) λf=>q (W a c f) λf=>Au a e (K b 2 f) c d) λe=>cC (λb c d f=>Q (c 56) λg=>Q (c 55) λh=>q (ah .lss g h) λg=>av (λc d e=>av (λa c d=>Q (a 56) λe=>q (ah .add e (.Z 1)) λe=>b (K a 56 e) c d) λb=>Q (c 56) λf=>Q (c 54) λg=>Q (c 56) λh=>q (bK 4 g h) λg=>q (br a d 4 g) λg=>q (cu [.az, .az,.Z 0, .bC] e) λh=>b4 a d e h.1 h.2 λd e h=>q (bj a e 4 d g) λe=>q (aq 0 d) λg=>q (W a e g) λg=>q (bL g) λi=>av b λb=>cC (λc d e f=>Q (d 64) λg=>Q (d 63) λh=>q (ah .lss g h) λg=>av (λb d e=>av (λa b d=>Q (a 64) λe=>q (ah .add e (.Z 1)) λe=>c (K a 64 e) b d) λc=>Q (b 64) λf=>Q (b 62) λg=>Q (b 64) λh=>q (bK 1 g h) λg=>q (W a d g) λg=>Q (b 3) λh=>q (W a d h) λh=>q (a2 h) λh=>q (aq 0 h) λh=>q (W a d h) λh=>q (gs a d 9 (.agg [.Z 0,.str [],.Z 0,.zF,.zF,.Z 0,.str [],.Z 0,.zF,.Z 0,.Z 0]) h g true) λh=>q (dD 0 h) λi=>q (dD 1 h) λh=>q (cu [.Z 0,.str [],.Z 0,.zF,.zF,.Z 0,.str [],.Z 0,.zF,.Z 0,.Z 0] e) λj=>b4 a d e j.1 j.2 λd e j=>q (bj a e 11 d i) λe=>al (λe i j=>al (λe i j=>al (λe i j=>bS (λe=>av c λc=>aD e (Q (b 8) λk=>q (aq 9 d) λl=>q (bj a i 1 l k) λi=>q (aq 10 d) λk=>q (bj a i 1 k f) λi=>dx (j+7) λj=>Q (b 3) λk=>q (W a i k) λk=>q (a2 k) λk=>q (aq 0 k) λk=>q (W a i k) λk=>q (br a i 11 d) λl=>dA (nF a i j 9 k g l) i j λ_ a i=>c (K (zE b 10 f 11 g 12 d 13 h) 83 e) a i) (c (K (zE b 10 f 11 g 12 d 13 h) 83 e) i j)) λa=>aD h (a e) (a .zF)) λa=>ag true h (q (ah .lss e (.Z 0)) λb=>a b i j) (a S.undef i j)) λb=>ag true h (q (W a i e) λa=>b a i j) (b S.undef i j)) λa=>ag true h (q (aq 9 d) λb=>a b e j) (a S.undef e j)) λa=>aD g (a (K d 65 g) e f) (b (K d 65 g) e f)) (K (zE c 9 d 8 f 62 g 63 i) 64 (.Z 0)) e h) λa=>aD g (a (K c 57 g) d f) (e (K c 57 g) d f)) (zD b 54 f 55 g 56 (.Z 0)) c d) λj=>nU a 97 d [19,20] (iH a (λ_ _ b _ _ c d e=>Q (c 19) λf=>q (cu [.str [],.Z 0,.zF,.zF,.Z 0,.str [],.Z 0,.zF] e) λg=>b4 a d e g.1 g.2 λd e g=>Q (c 20) λh=>q (bj a e 8 d h) λa=>b (zC c 4 f 5 d) a g) (λ_ _ b _ _ c d e=>av b λb=>dx (e+13) λf=>Q (c 3) λg=>q (W a d g) λg=>q (a2 g) λg=>q (aq 0 g) λg=>q (W a d g) λg=>Q (c 5) λh=>q (aq 0 h) λh=>q (W a d h) λh=>q (gs a d 9 (.agg [.Z 0,.str [],.Z 0,.zF,.zF,.Z 0,.str [],.Z 0,.zF,.Z 0,.Z 0]) g h true) λg=>q (dD 0 g) λh=>q (dD 1 g) λg=>q (cu [.Z 0,.str [],.Z 0,.zF,.zF,.Z 0,.str [],.Z 0,.zF,.Z 0,.Z 0] (e+10)) λi=>fO a d (e+10) i.1 i.2 λd e=>q (bj a e 11 d h) λd=>q (c0 .not g) λe=>av b λb=>aD e (dx (f+10) λf=>Q (c 3) λh=>q (W a d h) λh=>q (a2 h) λh=>q (aq 0 h) λh=>q (W a d h) λh=>Q (c 5) λi=>q (aq 0 i) λi=>q (W a d i) λi=>Q (c 4) λj=>Q (c 5) λk=>q (br a d 8 k) λk=>q (cr [.Z 0,.str [],.Z 0,.zF,.zF,.Z 0,.str [],.Z 0,.zF,.Z 0,.Z 0] [(0,1,j),(1,8,k),(9,1,(.Z (-1))),(10,1,(.Z (-1)))]) λj=>dA (nF a d f 9 h i j) d f λ_ d f=>dx (f+12) λh=>Q (c 3) λi=>q (W a d i) λi=>Q (c 3) λj=>q (W a d j) λj=>q (a2 j) λj=>q (aq 1 j) λj=>q (W a d j) λj=>Q (c 5) λk=>q (aq 0 k) λk=>q (W a d k) λk=>q (dC 1 [.str []] [(0,1,k)] (f+7)) λk=>fO a d (f+7) k.1 k.2 λd f=>dA (d4 a f h 1 j d) f h λd f h=>q (a2 i) λj=>q (aq 1 j) λj=>Q (c 3) λk=>q (W a f k) λk=>eR k (some i) (q (bj a f 1 j d) λa=>b (zC c 7 g 32 e) a h)) (b (zC c 7 g 32 e) d f))) j (np 0 j (λ_ _ _ _=>False)) (Au a e) (y8 a e f) (zE (bR [b]) 1 c 2 .bC 3 g 18 d) h i) (y8 a e f (ed [17,18] (zD (bR [b]) 1 c 2 .bC 3 g)))
def CJ:ns X 47 [a0] a b R af=wj X a0 a b R af:=Zk
def CI:cb X 47 1=true:=Zk
def wJ:Za0:=λa b c d e f _=>q (cu [.Z 0,.str [],.Z 0,.zF,.zF,.Z 0,.str [],.Z 0,.zF,.Z 0,.Z 0] e) λg=>b4 a d e g.1 g.2 λd e g=>q (ce a e .eql 82 true b .bC) λh=>av (λb c d=>Q (b 0) λe=>q (a2 e) λe=>q (aq 0 e) λe=>q (W a c e) λe=>Q (b 1) λg=>q (gs a c 9 (.agg [.Z 0,.str [],.Z 0,.zF,.zF,.Z 0,.str [],.Z 0,.zF,.Z 0,.Z 0]) e g true) λe=>q (dD 0 e) λg=>q (dD 1 e) λe=>q (cu [.Z 0,.str [],.Z 0,.zF,.zF,.Z 0,.str [],.Z 0,.zF,.Z 0,.Z 0] d) λh=>b4 a c d h.1 h.2 λc d h=>q (bj a d 11 c g) λd=>q (br a d 11 c) λc=>Q (b 4) λg=>q (bj a d 11 g c) λc=>Q (b 4) λb=>q (br a c 11 b) λa=>f (.tuple [a,e]) c h) λi=>aD h (q (cr [.Z 0,.str [],.Z 0,.zF,.zF,.Z 0,.str [],.Z 0,.zF,.Z 0,.Z 0] []) λb=>q (bj a e 11 d b) λb=>q (br a b 11 d) λa=>f (.tuple [a,.zF]) b g) (i (zD (bR [b,c]) 4 d 5 .zF 9 h) e g)
def Dv:co X 83 [a0,aH]=wJ X a0 aH:=Zk
def Du:cb X 83 2=true:=Zk
def ww:Za1:=λa b c d e f=>eU a c d b λc d g=>av (λb c d=>Q (b 1) λb=>q (aq 2 b) λb=>q (W a c b) λb=>aN a 95 [b] c d (λb c d=>q (ce a c .add 9 true (.str [117]) b) λa=>e a c d) f) λh=>q (br a d 3 c) λi=>aN a 94 [i] d g (λd g i=>q (c0 .not d) λd=>av h λh=>aD d (e (.str []) g i) (q (aq 0 c) λj=>q (W a g j) λj=>av h λh=>aD j (e (.str [98,111,111,108]) g i) (q (aq 1 c) λk=>q (W a g k) λk=>av h λh=>aD k (q (aq 2 c) λb=>q (W a g b) λb=>aN a 95 [b] g i (λb c d=>q (ce a c .add 9 true (.str [105]) b) λa=>e a c d) f) (h (K (zE (bR [b]) 1 c 2 (.str []) 3 d 7 j) 10 k) g i)))) f
def C5:co X 65 [a0]=ww X a0:=Zk
def C4:cb X 65 1=true:=Zk
end
noncomputable section
variable (X : bU) (h : I ae) (j : Nat) (R af : bh) (a0 aH aZ a3 a4 a5 dY d3 dE : y)
def wP:Za1:=λa b c d e f=>aN a 126 [b] c d (λa b c=>e a b c) f
def DH:co X 95 [a0]=wP X a0:=Zk
def DG:cb X 95 1=true:=Zk
def vH:Za1:=λa b c d e f=>aN a 151 [b,.Z 10] c d (λa b c=>e a b c) f
def BN:co X 126 [a0]=vH X a0:=Zk
def BM:cb X 126 1=true:=Zk
def vO:Za0:=λa b c d e f g=>q (ah .eql c (.Z 10)) λh=>av (λb c d=>Q (b 0) λe=>q (iS .u64 e) λe=>Q (b 1) λh=>Q (b 0) λb=>q (ah .lss b (.Z 0)) λb=>aN a 172 [.az,e,h,b,.zF] c d (λa b c=>q (dD 0 a) λ_=>q (dD 1 a) λa=>f a b c) g) λi=>aD h (q (ah .leq (.Z 0) b) λi=>al (λd e j=>al (λd e j=>bS (λd=>av (λb c d=>q (cu [(.int .u8 0),(.int .u8 0),(.int .u8 0),(.int .u8 0),(.int .u8 0),(.int .u8 0),(.int .u8 0),(.int .u8 0),(.int .u8 0),(.int .u8 0),(.int .u8 0),(.int .u8 0),(.int .u8 0),(.int .u8 0),(.int .u8 0),(.int .u8 0),(.int .u8 0),(.int .u8 0),(.int .u8 0),(.int .u8 0),(.int .u8 0),(.int .u8 0),(.int .u8 0),(.int .u8 0)] d) λe=>b4 a c d e.1 e.2 λc d e=>Q (b 0) λh=>q (iS .u64 h) λh=>Q (b 0) λi=>q (ah .lss i (.Z 0)) λi=>av (λb c d=>Q (b 6) λe=>aN a 170 [e] c d (λc d e=>q (ah .add (.Z 1) c) λh=>Q (b 5) λi=>q (u6 24 1 i (some (.Z 1)) (some h) none) λh=>Q (b 6) λi=>aN a 171 [h,i] d e (λ_ d e=>Q (b 0) λg=>q (ah .lss g (.Z 0)) λg=>av (λb c d=>Q (b 7) λe=>q (ah .add (.Z 1) e) λe=>Q (b 5) λb=>q (u6 24 1 b (some (.Z 1)) (some e) none) λb=>q (xn a c b) λa=>f a c d) λh=>aD g (Q (b 5) λg=>q (t6 24 1 g (.Z 0)) λg=>q (bj a d 1 g (.int .u8 45)) λd=>q (ah .add (.Z 1) c) λc=>Q (b 5) λb=>q (u6 24 1 b none (some c) none) λb=>q (xn a d b) λa=>f a d e) (h (zC b 7 c 34 g) d e)) g) g) λa=>aD i (q (c0 .neg h) λf=>a (zE b 5 c 6 h 23 i 6 f) d e) (a (zD b 5 c 6 h 23 i) d e)) λi=>aD d (aN a 169 [b] e j (λa b c=>f a b c) g) (i (zD (bR [b,c]) 4 (.str []) 11 h 17 d) e j)) λa=>aD i (a d) (a .zF)) λa=>ag true i (q (ah .lss d (.Z 100)) λb=>a b e j) (a S.undef e j)) λa=>ag true i (a b d e) (a S.undef d e)) (i (zC (bR [b,c]) 4 (.str []) 11 h) d e)
def BX:co X 151 [a0,aH]=vO X a0 aH:=Zk
def BW:cb X 151 2=true:=Zk
end
end Go.Proofs.YtmipngjbcdamjaaGreatDoor

