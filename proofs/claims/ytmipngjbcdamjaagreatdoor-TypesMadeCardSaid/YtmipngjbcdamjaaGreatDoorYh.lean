/- Part of the proof of the last text; no conditions -/
import Derived.Test.YtmipngjbcdamjaaGreatDoorYg
import Derived.Test.YtmipngjbcdamjaaGreatDoorProg
set_option maxHeartbeats 8000000
set_option linter.all false
namespace Go.Q
noncomputable section
open Go.a6
section
variable{C:ax}{S B ay:F ac}{nx nx' aG:Nat}
def it{a:List q}{M:be}(e:M (.ptr nx 0) (aP C S nx (zy a a.length)) (nx+1)):l (cv a nx) λr=>cb C S nx r.1 r.2 M:=⟨⟨e⟩⟩
def pi{b:Nat}{a:List q}{M:q->F ac->Prop}(e:M (.ptr b 0) (aP C S b (zy a a.length))):l (cv a b) λr=>fM C S b r.1 r.2 M:=⟨⟨e⟩⟩
def gF(cs:List q):nj cs []=some cs:=rfl
def gE(cs:List q)(off size:Nat)(v:q)(bE:List (Nat×Nat×q)):nj cs ((off,size,v)::bE)=if v.cells.length=size/\off+size<=cs.length then nj (e5 cs off v.cells) bE else none:=by
 have j:∀a b:Nat,(Nat.beq a b=true)=(a=b):=λa b=>propext ⟨Zh,λe=>by subst e;exact Y2 a⟩
 simp only[nj,cK,Zq,j,Nat.ble_eq]
def Bh(c:F q)(A:Nat)(v:q):cL c A [v]=c.set A (some v):=by simp[cL]
def aZ{b n:Nat}{c:F q}{st:h1}(e:H C S b=some (.cells c n st))(A:Nat):W C S (.ptr b A)=c.get A:=by rw[bX,e]
def pF{w:Bool}{a b:Prop}(e:b):ae w Q.undef a b:=⟨e⟩
def hK(b A n c:Nat):bK (.slice b A n c)=some (.Z (n:Int)):=by simp[bK,gH]
def h8(b A n c:Nat):bK (.cH b A n c)=some (.Z (n:Int)):=by simp[bK,gH]
def kh:bK .aw=some (.Z 0):=rfl
def li(s:List Nat):yt (.str s)=some (.Z (s.length:Int)):=by simp[yt,gH]
def qe:∀a b:List Nat,f2 a b=decide (a=b):=by
 intro a
 induction a with
 |nil=>intro b;cases b<;>simp[f2]
 |cons x a U=>
  intro b
  cases b with
  |nil=>simp[f2]
  |cons c b=>
   simp only[f2,U]
   by_cases e:x=c<;>simp[e]
def lC(t:Nat)(c:Bool)(a b:List Nat):bZ C S .eql t c (.str a) (.str b)=some (.bool (decide (a=b))):=by
 simp[bZ,m4,jW,qe]
def lD(t:Nat)(c:Bool)(a b:List Nat):bZ C S .neq t c (.str a) (.str b)=some (.bool (decide (a≠b))):=by
 simp[bZ,m4,jW,qe]
def k0(off an:Nat)(cs:List q):rv false off an (.agg cs)=cs[off]? :=by simp[rv,cK]
def kZ(off an:Nat)(cs:List q):rv true off an (.agg cs)=some (.agg ((cs.drop off).take an)):=by simp[rv,cK]
def kK(t:Nat)(z v:q):w5 t z true (.iface t v)=some (.tuple [v, .zT]):=by simp[w5,cK]
def kO(k:IntKind)(x:Int):iQ .u64 (.int k x)=some (.int .u64 (x%18446744073709551616)):=by simp[iQ,fm,hV]
def xn{k:IntKind}{x:Int}(a: -9223372036854775808<=x)(b:x<9223372036854775808):iQ .i64 (.int k x)=some (.Z x):=by simp[iQ,fm,wrap64 a b]
def kP(s:List Nat):EW (.str s)=some (.str s):=rfl
structure im(C:ax)(X:List Nat)(S:F ac)(nx:Nat)(B:F ac)(nx':Nat):Prop where
 le:nx<=nx'
 R:∀b,b<nx->b∉X->H C B b=H C S b
structure cg(C:ax)(S:F ac)(P:Nat->Prop)(b:Nat)(au:q)(an:Nat)(rows:List (List q)):Prop where
 Y:rows≠[]->P b
 many:rows.length<=300000
 wide:∀r∈rows,r.length=an
 len:bK au=some (.Z (rows.length:Int))
 cP:∀(i:Nat),i<rows.length->bH an au (.Z (i:Int))=some (.ptr b (i*an))
 cell:∀(i:Nat) r (E:Nat) v,rows[i]? =some r->r[E]? =some v->W C S (.ptr b (i*an+E))=some v
def cg.R{P:Nat->Prop}{b an:Nat}{au:q}{rows:List (List q)}(e:cg C S P b au an rows)(k:∀a,P a->H C B a=H C S a):cg C B P b au an rows:=
 ⟨e.Y,e.many,e.wide,e.len,e.cP,λi r E v ai c=>by
  have d:=k b (e.Y (λj=>by rw[j]at ai;cases ai))
  rw[bX,d, <-bX];exact e.cell i r E v ai c⟩
def cg.lift{P bi:Nat->Prop}{b an:Nat}{au:q}{rows:List (List q)}(e:cg C S P b au an rows)(k:∀a,P a->bi a):cg C S bi b au an rows:=
 ⟨λj=>k _ (e.Y j),e.many,e.wide,e.len,e.cP,e.cell⟩
def x3{c:F q}:∀(r:List q) (A:Nat),(∀E v,r[E]? =some v->c.get (A+E)=some v)->c.eK A r.length=some r:=by
 intro r
 induction r with
 |nil=>intro A _;rfl
 |cons a r U=>
  intro A e
  have b:=e 0 a rfl
  rw[ZH]at b
  have d:=U (A+1) (λE v f=>by have:=e (E+1) v (by simpa using f);rw[Nat.add_right_comm];simpa[Z1,zs,Nat.add_left_comm]using this)
  simp[F.eK,b,d]
def cg.row{P:Nat->Prop}{b an:Nat}{au:q}{rows:List (List q)}(e:cg C S P b au an rows)(n:0<an){i:Nat}{r:List q}(ai:rows[i]? =some r):br C S an (.ptr b (i*an))=some (.agg r):=by
 have ap:=e.wide r (Zg ai)
 have f:∃v,r[0]? =some v:=by
  cases r with
  |nil=>simp at ap;omega
  |cons a h=>exact⟨a,rfl⟩
 obtain⟨v,m⟩:=f
 have d:=e.cell i r 0 v ai m
 rw[bX]at d
 rw[ul]
 split at d
 ·rename_i c _ _ Y
  have:=x3 (c:=c) r (i*an) (λE v g=>by
   have:=e.cell i r E v ai g
   rw[bX,Y]at this
   exact this)
  rw[ap]at this
  rw[this];rfl
 ·cases d
def tO{an:Nat}:∀(rows:List (List q)),(∀r∈rows,r.length=an)->∀(i:Nat) r (E:Nat) v,rows[i]? =some r->r[E]? =some v->rows.flatten[i*an+E]? =some v:=by
 intro rows
 induction rows with
 |nil=>intro _ i r E v ai;simp at ai
 |cons a h U=>
  intro K i r E v ai b
  have c:=K a (Zl ..)
  have f:E<r.length:=(Zf.1 b).1
  cases i with
  |zero=>
   simp at ai;subst ai
   rw[Z9,Y4,ZE,ZA Zo];exact b
  |succ i=>
   simp at ai
   rw[Z9,Zy (by rw[c,Z7];omega),c]
   have:(i+1)*an+E-an=i*an+E:=by rw[Z7];omega
   rw[this]
   exact U (λr d=>K r (Zi _ d)) i r E v ai b
def c9.gM{an:Nat}{s:q}{rows:List (List q)}{aH:List Nat}(e:c9 C S s an rows.flatten aH)(Z:0<an)(K:∀r∈rows,r.length=an)(G:rows.length<=300000){P:Nat->Prop}(ap:∀T0∈aH,P T0):∃b,cg C S P b s an rows:=by
 have m:=ix K
 have H:∀(rows:List (List q)),(∀r∈rows,r.length=an)->∀(i:Nat) r (E:Nat) v,rows[i]? =some r->r[E]? =some v->rows.flatten[i*an+E]? =some v:=by
  intro rows
  induction rows with
  |nil=>intro _ i r E v ai;simp at ai
  |cons a h U=>
   intro K i r E v ai d
   have w:=K a (Zl ..)
   have T3:E<r.length:=(Zf.1 d).1
   cases i with
   |zero=>
    simp at ai;subst ai
    rw[Z9,Y4,ZE,ZA Zo];exact d
   |succ i=>
    simp at ai
    rw[Z9,Zy (by rw[w,Z7];omega),w]
    have:(i+1)*an+E-an=i*an+E:=by rw[Z7];omega
    rw[this]
    exact U (λr X=>K r (Zi _ X)) i r E v ai d
 rcases e with ⟨f,g,t⟩|⟨b,ch,n,c,f,g,t,T1,T2,x,z⟩
 ·have p:rows.length=0:=by
   rw[g,Z0]at m
   rcases Nat.mul_eq_zero.1 m.symm with e|e
   ·exact e
   ·omega
  have p:rows=[]:=YB.1 p
  subst p f
  exact⟨0,λj=>absurd rfl j,Zs,K,rfl,λi ai=>by simp at ai,λi r E v ai=>by simp at ai⟩
 ·have O:n=rows.length:=YN Z (by rw[<-g,m])
  subst O f
  refine⟨b,λ_=>ap b (by rw[t];exact Zl ..),G,K,h8 ..,λi ai=>by rw[oJ _ ai,ZE],λi r E v ai d=> ?_⟩
  rw[bX,x]
  exact(z _).trans (H rows K i r E v ai d)
def As{b an k cap:Nat}{rows:List (List q)}{st:h1}(Y:H C S b=some (.cells (F.ofList rows.flatten 0 .nil) (k*an) st))(g:rows.length=k)(K:∀r∈rows,r.length=an)(m:k<=300000){P:Nat->Prop}(f:P b):cg C S P b (.slice b 0 k cap) an rows:=by
 subst g
 have H:∀(rows:List (List q)),(∀r∈rows,r.length=an)->∀(i:Nat) r (E:Nat) v,rows[i]? =some r->r[E]? =some v->rows.flatten[i*an+E]? =some v:=by
  intro rows
  induction rows with
  |nil=>intro _ i r E v ai;simp at ai
  |cons a h U=>
   intro K i r E v ai c
   have d:=K a (Zl ..)
   have p:E<r.length:=(Zf.1 c).1
   cases i with
   |zero=>
    simp at ai;subst ai
    rw[Z9,Y4,ZE,ZA Zo];exact c
   |succ i=>
    simp at ai
    rw[Z9,Zy (by rw[d,Z7];omega),d]
    have:(i+1)*an+E-an=i*an+E:=by rw[Z7];omega
    rw[this]
    exact U (λr n=>K r (Zi _ n)) i r E v ai c
 refine⟨λ_=>f,m,K,hK ..,λi ai=>by rw[mq _ ai,ZE],λi r E v ai c=> ?_⟩
 rw[bX,Y]
 exact(fD _ _).trans (H rows K i r E v ai c)
def eP(t:d7):List q:=[.bool t.b, .bool t.s, .Z t.w]
mutual
def bR(C:ax)(S:F ac)(P:Nat->Prop):bg->q->Prop
 | .mk kind at_ name no ty n args,v=>(kind= -1/\v= .bt)\/(kind≠ -1/\∃b au bL aB,v= .ptr b 0/\P b/\W C S (.ptr b 0)=some (.Z kind)/\W C S (.ptr b 1)=some (.Z at_)/\W C S (.ptr b 2)=some (.str name)/\W C S (.ptr b 3)=some (.bool no)
    /\W C S (.ptr b 4)=some (.bool ty.b)/\W C S (.ptr b 5)=some (.bool ty.s)/\W C S (.ptr b 6)=some (.Z ty.w)/\W C S (.ptr b 7)=some (.int .u64 n)
    /\W C S (.ptr b 8)=some au/\cg C S P bL au 1 (aB.map λv=>[v])/\dt C S P args aB)
def dt(C:ax)(S:F ac)(P:Nat->Prop):List bg->List q->Prop
 |[],aB=>aB=[]
 |j::ak,aB=>∃v a,aB=v::a/\bR C S P j v/\dt C S P ak a
end
mutual
def hz:bg->Prop
 | .mk kind _ _ _ _ _ args=>kind≠ -1/\jQ args
def jQ:List bg->Prop
 |[]=>True
 |j::ak=>hz j/\jQ ak
end
mutual
def bR.to{P bi:Nat->Prop}(k:∀a,P a->H C B a=H C S a)(J:∀a,P a->bi a):∀(j:bg) (v:q),bR C S P j v->bR C B bi j v
 | .mk kind at_ name no ty n args,v,e=>by
   unfold bR at e ⊢
   rcases e with e|⟨m,b,au,bL,aB,c,g,d,f,t,w,x,z,G,O,p,r,s⟩
   ·exact .inl e
   ·have ap:∀A,W C B (.ptr b A)=W C S (.ptr b A):=λA=>by rw[bX,bX,k b g]
    exact .inr ⟨m,b,au,bL,aB,c,J b g,by rw[ap];exact d,by rw[ap];exact f,by rw[ap];exact t,by rw[ap];exact w,by rw[ap];exact x,by rw[ap];exact z,by rw[ap];exact G,by rw[ap];exact O,by rw[ap];exact p,(r.R k).lift J,dt.to k J args aB s⟩
def dt.to{P bi:Nat->Prop}(k:∀a,P a->H C B a=H C S a)(J:∀a,P a->bi a):∀(ak:List bg) (aB:List q),dt C S P ak aB->dt C B bi ak aB
 |[],aB,e=>by unfold dt at e ⊢;exact e
 |j::ak,aB,e=>by
  unfold dt at e ⊢
  obtain⟨v,i,c,d,f⟩:=e
  exact⟨v,i,c,bR.to k J j v d,dt.to k J ak i f⟩
end
def c2(kind at_:Int)(name:aT)(no:Bool)(ty:d7)(n:Int)(au:q):List q:=[.Z kind, .Z at_, .str name, .bool no, .bool ty.b, .bool ty.s, .Z ty.w, .int .u64 n,au]
def bR.of{P:Nat->Prop}{b bL:Nat}{kind at_ n:Int}{name:aT}{no:Bool}{ty:d7}{au:q}{c:F q}{m:Nat}{st:h1}{args:List bg}{aB:List q}(g:kind≠ -1)(Y:H C S b=some (.cells c m st))(f:∀(i:Nat) v,(c2 kind at_ name no ty n au)[i]? =some v->c.get i=some v)(a:P b)
 (p:cg C S P bL au 1 (aB.map λv=>[v]))(d:dt C S P args aB):bR C S P (.mk kind at_ name no ty n args) (.ptr b 0):=by
 unfold bR
 refine .inr ⟨g,b,au,bL,aB,rfl,a, ?_, ?_, ?_, ?_, ?_, ?_, ?_, ?_, ?_,p,d⟩<;>(rw[aZ Y];exact f _ _ rfl)
def bR.nil{P:Nat->Prop}:∀{j:bg}{v:q},bR C S P j v->j.kind= -1->v= .bt
 | .mk ..,_,e,a=>by
   unfold bR at e
   rcases e with e|⟨e,_⟩
   ·exact e.2
   ·exact absurd a e
def bR.root{P:Nat->Prop}:∀{j:bg}{v:q},bR C S P j v->j.kind≠ -1->∃b au bL aB,v= .ptr b 0/\P b/\W C S (.ptr b 0)=some (.Z j.kind)/\W C S (.ptr b 1)=some (.Z j.at_)/\W C S (.ptr b 2)=some (.str j.name)/\W C S (.ptr b 3)=some (.bool j.no)
 /\W C S (.ptr b 4)=some (.bool j.ty.b)/\W C S (.ptr b 5)=some (.bool j.ty.s)/\W C S (.ptr b 6)=some (.Z j.ty.w)/\W C S (.ptr b 7)=some (.int .u64 j.n)
 /\W C S (.ptr b 8)=some au/\cg C S P bL au 1 (aB.map λv=>[v])/\dt C S P j.args aB
 | .mk ..,_,e,a=>by
   unfold bR at e
   rcases e with e|⟨_,e⟩
   ·exact absurd e.1 a
   ·exact e
def cg.nil(P:Nat->Prop)(an:Nat):cg C S P 0 .aw an []:=⟨λj=>absurd rfl j,Zs,Zs,rfl,λi ai=>by simp at ai,λi r E v ai=>by simp at ai⟩
def tN:∀aB:List q,(aB.map λv=>[v]).flatten=aB:=by
 intro aB
 induction aB with
 |nil=>rfl
 |cons a h U=>simp[U]
def dt.len:∀{ak:List bg}{aB:List q}{P:Nat->Prop},dt C S P ak aB->aB.length=ak.length:=by
 intro ak
 induction ak with
 |nil=>intro aB P e;unfold dt at e;subst e;rfl
 |cons a h U=>
  intro aB P e
  unfold dt at e
  obtain⟨w,d,rfl,c,b⟩:=e
  simp[U b]
def dt.get:∀{ak:List bg}{aB:List q}{P:Nat->Prop},dt C S P ak aB->∀(i:Nat) j,ak[i]? =some j->∃v,aB[i]? =some v/\bR C S P j v:=by
 intro ak
 induction ak with
 |nil=>intro aB P e i j b;simp at b
 |cons a h U=>
  intro aB P e i j b
  unfold dt at e
  obtain⟨w,m,rfl,c,d⟩:=e
  cases i with
  |zero=>simp at b;subst b;exact⟨w,rfl,c⟩
  |succ i=>
   obtain⟨v,f,g⟩:=U d i j (by simpa using b)
   exact⟨v,by simpa using f,g⟩
def dt.of{P:Nat->Prop}:∀{ak:List bg}{aB:List q},aB.length=ak.length->(∀(i:Nat) j v,ak[i]? =some j->aB[i]? =some v->bR C S P j v)->dt C S P ak aB:=by
 intro ak
 induction ak with
 |nil=>intro aB e _;unfold dt;exact Yc e
 |cons a h U=>
  intro aB e k
  cases aB with
  |nil=>simp at e
  |cons w aB=>
   unfold dt
   exact⟨w,aB,rfl,k 0 a w rfl rfl,U (by simpa using e) λi j v b c=>k (i+1) j v (by simpa using b) (by simpa using c)⟩
def jQ.get:∀{ak:List bg},jQ ak->∀j∈ak,hz j:=by
 intro ak
 induction ak with
 |nil=>intro _ j b;cases b
 |cons a h U=>
  intro e j b
  unfold jQ at e
  rcases Zz.1 b with rfl|b
  ·exact e.1
  ·exact U e.2 j b
def hz.eq(j:bg):hz j=(j.kind≠ -1/\jQ j.args):=by cases j;rw[hz];rfl
def c7(C:ax)(S:F ac)(P:Nat->Prop)(j:bg)(v:q):Prop:=bR C S P j v/\hz j
def jL(C:ax)(S:F ac)(P:Nat->Prop)(ak:List bg)(aB:List q):Prop:=dt C S P ak aB/\jQ ak
def c7.R{P:Nat->Prop}(k:∀a,P a->H C B a=H C S a)(j:bg)(v:q)(e:c7 C S P j v):c7 C B P j v:=⟨bR.to k (λ_ e=>e) j v e.1,e.2⟩
def jL.R{P:Nat->Prop}(k:∀a,P a->H C B a=H C S a)(ak:List bg)(aB:List q)(e:jL C S P ak aB):jL C B P ak aB:=⟨dt.to k (λ_ e=>e) ak aB e.1,e.2⟩
def c7.lift{P bi:Nat->Prop}(k:∀a,P a->bi a)(j:bg)(v:q)(e:c7 C S P j v):c7 C S bi j v:=⟨bR.to (λ_ _=>rfl) k j v e.1,e.2⟩
def c7.open{P:Nat->Prop}{j:bg}{v:q}(e:c7 C S P j v):∃b au bL aB,v= .ptr b 0/\P b/\W C S (.ptr b 0)=some (.Z j.kind)/\W C S (.ptr b 1)=some (.Z j.at_)/\W C S (.ptr b 2)=some (.str j.name)/\W C S (.ptr b 3)=some (.bool j.no)
 /\W C S (.ptr b 4)=some (.bool j.ty.b)/\W C S (.ptr b 5)=some (.bool j.ty.s)/\W C S (.ptr b 6)=some (.Z j.ty.w)/\W C S (.ptr b 7)=some (.int .u64 j.n)
 /\W C S (.ptr b 8)=some au/\cg C S P bL au 1 (aB.map λv=>[v])/\jL C S P j.args aB:=by
 have a:=e.2
 rw[hz.eq]at a
 obtain⟨b,au,bL,aB,c,x,i,m,n,p,r,s,t,w,d,f,g⟩:=e.1.root a.1
 exact⟨b,au,bL,aB,c,x,i,m,n,p,r,s,t,w,d,f,g,a.2⟩
def jL.len{ak:List bg}{aB:List q}{P:Nat->Prop}(e:jL C S P ak aB):aB.length=ak.length:=e.1.len
def jL.get{ak:List bg}{aB:List q}{P:Nat->Prop}(e:jL C S P ak aB)(i:Nat)(j:bg)(a:ak[i]? =some j):∃v,aB[i]? =some v/\c7 C S P j v:=by
 obtain⟨v,b,c⟩:=e.1.get i j a
 exact⟨v,b,c,e.2.get j (Zg a)⟩
def c7.ptr{P:Nat->Prop}{j:bg}{v:q}(e:c7 C S P j v):∃b,v= .ptr b 0/\P b/\W C S (.ptr b 0)=some (.Z j.kind):=by
 obtain⟨b,au,bL,aB,a,d,c,_⟩:=e.open
 exact⟨b,a,d,c⟩
def cg.one{P:Nat->Prop}{b:Nat}{au:q}{aB:List q}(e:cg C S P b au 1 (aB.map λv=>[v])){i:Nat}{v:q}(ai:aB[i]? =some v):bH 1 au (.Z (i:Int))=some (.ptr b i)/\W C S (.ptr b i)=some v/\P b:=by
 have d:=(Zf.1 ai).1
 have a:=e.cP i (by simpa using d)
 have c:=e.cell i [v] 0 v (by rw[Zw,ai];rfl) rfl
 rw[ZV]at a
 rw[ZV,ZH]at c
 exact⟨a,c,e.Y (λj=>by simp at j;subst j;simp at ai)⟩
def Ec{an k:Nat}{x:q}{m:List q}(a:gu C S an x=some (k,m))(b:0<k)(Y:k<=1048576):
 d1 C S nx an .aw x=some (.cu (.cH nx 0 k an) (aP C S nx (some (.cells (F.ofList m 0 .nil) m.length (.grow [])))) (nx+1)):=by
 simp only[d1,a]
 rw[d2,Zj Zo]
 simp[kG,j8,gg Y,gp]
def Ea{an k b n:Nat}{x:q}{m:List q}{c:F q}{ch:List Nat}(t:0<an)(s:gu C S an x=some (k,m))(f:0<k)(Y:n+k<=1048576)(a:cN m=true)
 (i:C.aN<=b)(p:H C S b=some (.cells c (n*an) (.grow ch))):
 d1 C S nx an (.cH b 0 n an) x=some (.cu (.cH nx 0 (n+k) an) (aP C (aP C S b (some (.cells c (n*an) .eA))) nx (some (.cells (cL c (n*an) m) (n*an+m.length) (.grow (b::ch))))) (nx+1)):=by
 simp only[d1,s]
 rw[d2,Zj Zo]
 have g:¬(0+(n+k)*an<=n*an):=by
  have:0<k*an:=Nat.mul_pos f t
  rw[Z7];omega
 have d:Nat.ble (0+(n+k)*an) (n*an)=false:=by
  cases r:Nat.ble (0+(n+k)*an) (n*an)with
  |false=>rfl
  |true=>exact absurd (ep r) g
 simp only[kG,pj,p,eS,gg i,gg Y,a,d]
 simp[cK,gp]
def Eb{an k b n:Nat}{x:q}{m h:List q}{c:F q}{st:h1}{J:Nat}(s:0<an)(p:gu C S an x=some (k,m))(r:0<k)(Y:n+k<=1048576)
 (g:H C S b=some (.cells c J st))(d:dF c h)(ap:h.length=n*an):
 d1 C S nx an (.slice b 0 n n) x=some (.cu (.cH nx 0 (n+k) an) (aP C S nx (some (.cells (F.ofList (h++m) 0 .nil) (h++m).length (.grow [])))) (nx+1)):=by
 simp only[d1,p]
 rw[d2,Zj Zo]
 have a:Nat.ble (n+k) n=false:=by
  cases i:Nat.ble (n+k) n with
  |false=>rfl
  |true=>exact absurd (ep i) Zo
 have f:fW C S b 0 (n*an)=some h:=by
  simp only[fW,cellsOf,g]
  rw[tV d _ _ Zo]
  simp[<-ap]
 simp only[kG,a,fz,f,j8,gg Y,cO,gp,fX,dB]
def cT(C:ax)(S:F ac)(s:q)(an:Nat)(h:List q)(aH:List Nat):Prop:=
 c9 C S s an h aH\/∃b n c st,s= .slice b 0 n n/\h.length=n*an/\aH=[b]/\H C S b=some (.cells c (n*an) st)/\dF c h/\st= .own/\C.aN<=b
def cT.R{s:q}{an:Nat}{h:List q}{aH:List Nat}(e:cT C S s an h aH)(d:∀f∈aH,H C B f=H C S f):cT C B s an h aH:=by
 rcases e with e|⟨b,n,c,st,g,i,a,m,p⟩
 ·exact .inl (e.R d)
 ·exact .inr ⟨b,n,c,st,g,i,a,by rw[d b (by rw[a];exact Zl ..)];exact m,p⟩
def cT.append{an k:Nat}{s x:q}{h m:List q}{aH:List Nat}(e:cT C S s an h aH)(r:0<an)(v:gu C S an x=some (k,m))(i:m.length=k*an)(t:0<k)(X:cN m=true)
 (Y:h.length+m.length<=1048576)(f:C.aN<=nx)(G:∀a∈aH,a<nx):
 ∃P B w,d1 C S nx an s x=some (.cu P B (nx+1))/\c9 C B P an (h++m) w/\(∀a∈w,a=nx\/a∈aH)/\∀a,a≠nx->a∉aH->H C B a=H C S a:=by
 have T4:k<=k*an:=Nat.le_mul_of_pos_right k r
 rcases e with (⟨rfl,rfl,rfl⟩|⟨b,ch,n,c,rfl,g,rfl,p,z,Z,T0⟩)|⟨b,n,c,st,rfl,g,rfl,p,z,_⟩
 ·refine⟨_,_,[nx],Ec v t (by simp at Y;omega), .inr ⟨nx,[],k,_,rfl,by simpa using i,rfl,by simpa using f,Zs,by rw[a7 f,i], ?_⟩,Zs,λa d _=>aV f d⟩
  simpa using dj m
 ·have T2:n<=n*an:=Nat.le_mul_of_pos_right n r
  have T3:b<nx:=G b (Zl ..)
  refine⟨_,_,nx::b::ch,Ea r v t Zo X (p b (Zl ..)) Z, .inr ⟨nx,b::ch,n+k,cL c (n*an) m,rfl,by rw[ZT,g,i,Z7],rfl, ?_, ?_, ?_, ?_⟩, ?_,λa d O=> ?_⟩
  ·intro a d
   rcases Zz.1 d with rfl|d
   ·exact f
   ·exact p a d
  ·intro T1
   have:=G nx T1
   omega
  ·rw[a7 f,i,Z7]
  ·rw[<-g];exact T0.app m
  ·intro a d
   rcases Zz.1 d with rfl|d
   ·exact .inl rfl
   ·exact .inr d
  ·simp only[Zz,not_or]at O
   rw[aV f d,aV (p b (Zl ..)) O.1]
 ·have T2:n<=n*an:=Nat.le_mul_of_pos_right n r
  refine⟨_,_,[nx],Eb r v t Zo p z g, .inr ⟨nx,[],n+k,_,rfl,by rw[ZT,g,i,Z7],rfl,by simpa using f,Zs,by rw[a7 f,ZT,g,i,Z7],dj _⟩,Zs,λa d _=>aV f d⟩
def cT.gM{an:Nat}{s:q}{rows:List (List q)}{aH:List Nat}(e:cT C S s an rows.flatten aH)(d:0<an)(K:∀r∈rows,r.length=an)(a:rows.length<=300000){P:Nat->Prop}(ap:∀x∈aH,P x):∃b,cg C S P b s an rows:=by
 rcases e with e|⟨b,n,c,st,rfl,f,rfl,g,m,_⟩
 ·exact e.gM d K a ap
 ·have p:=ix K
  have w:n=rows.length:=YN d (by rw[<-f,p])
  subst w
  refine⟨b,λ_=>ap b (Zl ..),a,K,hK ..,λi ai=>by rw[mq _ ai,ZE],λi r E v ai t=> ?_⟩
  rw[bX,g]
  exact(m _).trans (tO rows K i r E v ai t)
def cT.qp{s:q}{aB:List q}{aH:List Nat}(e:cT C S s 1 aB aH){P:Nat->Prop}(c:aB.length<=300000)(ap:∀d∈aH,P d):∃b,cg C S P b s 1 (aB.map λv=>[v]):=by
 have a:cT C S s 1 (aB.map λv=>[v]).flatten aH:=by rw[tN];exact e
 exact a.gM Zd Zs (by simpa using c) ap
structure en(C:ax)(S:F ac)(bm:Nat->Prop)(b:Nat)(au:q)(an:Nat)(rows:List (List q)):Prop where
 rd:cg C S bm b au an rows
 wr:rows≠[]->C.aN<=b/\∃c n st,H C S b=some (.cells c n st)/\rows.length*an<=n/\(st= .own\/∃ch,st= .grow ch/\b∉ch/\∀a∈ch,bm a/\C.aN<=a)
def en.R{bm:Nat->Prop}{b an:Nat}{au:q}{rows:List (List q)}(e:en C S bm b au an rows)(k:∀a,bm a->H C B a=H C S a):en C B bm b au an rows:=
 ⟨e.rd.R k,λK=>by rw[k b (e.rd.Y K)];exact e.wr K⟩
def en.lift{bm bi:Nat->Prop}{b an:Nat}{au:q}{rows:List (List q)}(e:en C S bm b au an rows)(k:∀a,bm a->bi a):en C S bi b au an rows:=
 ⟨e.rd.lift k,λK=>by
  obtain⟨g,c,n,st,i,m,p⟩:=e.wr K
  exact⟨g,c,n,st,i,m,p.imp id λ⟨ch,j,Y,f⟩=>⟨ch,j,Y,λa d=>⟨k a (f a d).1,(f a d).2⟩⟩⟩⟩
def en.nil(bm:Nat->Prop)(an:Nat):en C S bm 0 .aw an []:=⟨cg.nil bm an,λe=>absurd rfl e⟩
def cT.qq{an:Nat}{s:q}{rows:List (List q)}{aH:List Nat}(e:cT C S s an rows.flatten aH)(v:0<an)(K:∀r∈rows,r.length=an)(P:rows.length<=300000){bm:Nat->Prop}(ap:∀p∈aH,bm p):∃b,en C S bm b s an rows:=by
 have i:=ix K
 obtain⟨b,m⟩:=e.gM v K P ap
 rcases e with (⟨rfl,d,rfl⟩|⟨z,ch,n,c,rfl,d,rfl,g,w,O,Z⟩)|⟨z,n,c,st,rfl,d,rfl,g,w,rfl,G⟩
 ·rw[d,Z0]at i
  have:rows=[]:=YB.1 (by rcases Nat.mul_eq_zero.1 i.symm with e|e<;>omega)
  subst this
  exact⟨0,en.nil bm an⟩
 ·refine⟨b,m,λf=> ?_⟩
  have a:=m.cP 0 (Z6.2 f)
  have t:n=rows.length:=YN v (by rw[<-d,i])
  have X:=Z6.2 f
  rw[oJ _ Zo]at a
  simp only[Zu,q.ptr.injEq]at a
  obtain⟨rfl,_⟩:=a
  exact⟨g _ (Zl ..),c,_,_,O,by rw[t];omega, .inr ⟨ch,rfl,w,λp x=>⟨ap p (Zi _ x),g p (Zi _ x)⟩⟩⟩
 ·refine⟨b,m,λf=> ?_⟩
  have a:=m.cP 0 (Z6.2 f)
  have t:n=rows.length:=YN v (by rw[<-d,i])
  have X:=Z6.2 f
  rw[mq _ Zo]at a
  simp only[Zu,q.ptr.injEq]at a
  obtain⟨rfl,_⟩:=a
  exact⟨G,c,_,_,g,by rw[t];omega, .inl rfl⟩
def en.store{bm:Nat->Prop}{b an:Nat}{au:q}{rows:List (List q)}(e:en C S bm b au an rows){i E:Nat}{r:List q}(ai:rows[i]? =some r)(T4:E<an){v:q}(U3:v.cells=[v])(TZ:d5 v=true):
 ∃B,bj C S 1 (.ptr b (i*an+E)) v=some B/\en C B bm b au an (rows.set i (r.set E v))/\∀a,¬bm a->H C B a=H C S a:=by
 have X:rows≠[]:=λj=>by rw[j]at ai;simp at ai
 obtain⟨T3,U5⟩:=Zf.1 ai
 obtain⟨f,c,n,st,Y,T6,U2⟩:=e.wr X
 have T9:=e.rd.wide r (Zg ai)
 have T2:i*an+E+1<=n:=by
  have:(i+1)*an<=rows.length*an:=zd an T3
  rw[Z7]at this;omega
 have G:=e.rd.Y X
 have g:(rows.set i (r.set E v)).length=rows.length:=YR
 have U8:rows.set i (r.set E v)≠[]:=λj=>by rw[j]at g;exact X (Yc g.symm)
 have T1:∀(B:F ac) (ah:Nat) (e7:h1),H C B b=some (.cells (c.set (i*an+E) (some v)) ah e7)->cg C B bm b au an (rows.set i (r.set E v)):=λB ah e7 U0=>by
  refine⟨λ_=>G,by rw[g];exact e.rd.many,λJ Z=> ?_,by rw[g];exact e.rd.len,λk d=>e.rd.cP k (by rw[g]at d;exact d),λk J m w d p=> ?_⟩
  ·rcases YP Z with Z|rfl
   ·exact e.rd.wide J Z
   ·rw[YR];exact T9
  ·rw[aZ U0,F.gj]
   rw[Yr]at d
   by_cases O:i=k
   ·subst O
    simp only[ZP,T3]at d
    cases d
    rw[Yr]at p
    by_cases T5:E=m
    ·subst T5
     simp only[ZP,T9,T4]at p
     rw[Zv rfl];exact p
    ·rw[Zj T5]at p
     rw[Zj Zo]
     have:=e.rd.cell i r m w ai p
     rw[aZ Y]at this;exact this
   ·rw[Zj O]at d
    have U9:=e.rd.wide J (Zg d)
    have U7:=(Zf.1 p).1
    have U6:=(Zf.1 d).1
    rw[Zj (λj=>O ?_)]
    ·have:=e.rd.cell k J m w d p
     rw[aZ Y]at this;exact this
    ·have U1:m<an:=Zo
     have s:(k*an+m)/an=k:=by rw[zs,Nat.add_mul_div_right _ _ Zo,Nat.div_eq_of_lt U1,ZE]
     have t:(i*an+E)/an=i:=by rw[zs,Nat.add_mul_div_right _ _ Zo,Nat.div_eq_of_lt T4,ZE]
     rw[<-s, <-t,j]
 have TY:∀B,gU C S b (i*an+E) [v]=some B->bj C S 1 (.ptr b (i*an+E)) v=some B:=λB e=>by
  simp only[bj,U3];exact e
 have T8:cN [v]=true:=by simp[cN,TZ]
 rcases U2 with rfl|⟨ch,rfl,U4,T7⟩
 ·refine⟨aP C S b (some (.cells (c.set (i*an+E) (some v)) n .own)),TY _ ?_,⟨T1 _ _ _ (a7 f),λ_=>⟨f,_,_,_,a7 f,by rw[g];exact T6, .inl rfl⟩⟩,λa z=>aV f (λj=>z (j▸G))⟩
  have s:Nat.ble (i*an+E+1) n=true:=gg T2
  have t:eS C b=true:=by simp[eS,gg f]
  simp[gU,Y,s,t,T8,cK,Bh,dB]
 ·have P:∀a,H C (aP C (fL C ch S) b (some (.cells (c.set (i*an+E) (some v)) n (.grow [])))) a=if a=b then some (.cells (c.set (i*an+E) (some v)) n (.grow []))else H C (fL C ch S) a:=λa=>cr _ f a
  refine⟨aP C (fL C ch S) b (some (.cells (c.set (i*an+E) (some v)) n (.grow []))),TY _ ?_,⟨T1 _ _ _ (by rw[P,Zv rfl]),λ_=>⟨f,_,_,_,by rw[P,Zv rfl],by rw[g];exact T6, .inr ⟨[],rfl,Zs,Zs⟩⟩⟩,λa z=> ?_⟩
  ·have s:Nat.ble (i*an+E+1) n=true:=gg T2
   have t:eS C b=true:=by simp[eS,gg f]
   simp[gU,Y,s,t,T8,cK,Bh,dB]
  ·rw[P,Zj (show ¬a=b from λj=>z (j▸G)),yj _ _ _ (λx T0=>(T7 x T0).2) (λT0=>z (T7 a T0).1)]
end
end
noncomputable section
structure ed(G:Prop):Prop where
 A:G
def x1{ar a:Prop}(f:ar)(e:ar->a:=by intro f;(simp(disch:=omega) only[lA,i6,lB,kH,jT,kI,lu,ls,lj,jx,kT,jt,la,h7,hm,lc,ld,lf,lg,lh,lb,lF,lH,lI,lJ,lK,lL,lM,lN,lG,hx,kx,fD,q.cells,lQ,lP,lO,lo,k7,k5,k6,k4,k3,k8,lC,lD,k0,kZ,kK,kO,kP,hK,h8,kh,li,cq,gF,gE,e5,zo,zp,zq,Yg,Yh,YW,ZW,ZN,ZC,Z0,Yj,Yf,ZO,Yt,ZL,ZE,ZH,ZP,ZM,reduceIte,Nat.reduceEqDiff,Nat.reduceAdd,Nat.reduceMul,Nat.reduceLT,Nat.reduceBEq,Y1,YJ,Yn,Yl,cO,fz,YL,Yi,Ym,Nat.reduceLeDiff,Nat.reduceSub,dz,f])):a:=e f
def x2{ar a:Prop}(f:ar)(e:ar->a:=by intro f;(simp(disch:=omega) only[lA,i6,lB,kH,jT,kI,lu,ls,lj,jx,kT,jt,la,h7,hm,lc,ld,lf,lg,lh,lb,lF,lH,lI,lJ,lK,lL,lM,lN,lG,hx,kx,fD,q.cells,lQ,lP,lO,lo,k7,k5,k6,k4,k3,k8,lC,lD,k0,kZ,kK,kO,kP,hK,h8,kh,li,cq,gF,gE,e5,zo,zp,zq,Yg,Yh,YW,ZW,ZN,ZC,Z0,Yj,Yf,ZO,Yt,ZL,ZE,ZH,ZP,ZM,reduceIte,Nat.reduceEqDiff,Nat.reduceAdd,Nat.reduceMul,Nat.reduceLT,Nat.reduceBEq,Y1,YJ,Yn,Yl,cO,fz,YL,Yi,Ym,Nat.reduceLeDiff,Nat.reduceSub,dz,f]);rfl):a:=e f
def Gp{ar a az:Prop}(f:ar)(t:az)(e:ar->az->a:=by intro f t;(simp(disch:=omega) only[lA,i6,lB,kH,jT,kI,lu,ls,lj,jx,kT,jt,la,h7,hm,lc,ld,lf,lg,lh,lb,lF,lH,lI,lJ,lK,lL,lM,lN,lG,hx,kx,fD,q.cells,lQ,lP,lO,lo,k7,k5,k6,k4,k3,k8,lC,lD,k0,kZ,kK,kO,kP,hK,h8,kh,li,cq,gF,gE,e5,zo,zp,zq,Yg,Yh,YW,ZW,ZN,ZC,Z0,Yj,Yf,ZO,Yt,ZL,ZE,ZH,ZP,ZM,reduceIte,Nat.reduceEqDiff,Nat.reduceAdd,Nat.reduceMul,Nat.reduceLT,Nat.reduceBEq,Y1,YJ,Yn,Yl,cO,fz,YL,Yi,Ym,Nat.reduceLeDiff,Nat.reduceSub,dz,f]);exact t):a:=e f t
def Gl{ar a az:Prop}(f:ar)(k:ed az)(e:ar->ed az->a:=by intro f k;(simp(disch:=omega) only[lA,i6,lB,kH,jT,kI,lu,ls,lj,jx,kT,jt,la,h7,hm,lc,ld,lf,lg,lh,lb,lF,lH,lI,lJ,lK,lL,lM,lN,lG,hx,kx,fD,q.cells,lQ,lP,lO,lo,k7,k5,k6,k4,k3,k8,lC,lD,k0,kZ,kK,kO,kP,hK,h8,kh,li,cq,gF,gE,e5,zo,zp,zq,Yg,Yh,YW,ZW,ZN,ZC,Z0,Yj,Yf,ZO,Yt,ZL,ZE,ZH,ZP,ZM,reduceIte,Nat.reduceEqDiff,Nat.reduceAdd,Nat.reduceMul,Nat.reduceLT,Nat.reduceBEq,Y1,YJ,Yn,Yl,cO,fz,YL,Yi,Ym,Nat.reduceLeDiff,Nat.reduceSub,dz,f]);exact k.A):a:=e f k
def bB{ar a az:Prop}(f:ar)(k:ed az)(e:ar->ed az->a:=by intro f k;(repeat(with_reducible first|refine gm ?_ |refine iY ?_ |refine iX ?_ |refine it ?_ |refine pi ?_ |refine l6 ?_ |refine qc ?_ |refine qb ?_ |refine pT ?_ |refine pV ?_ |refine pS ?_ |refine pU ?_ |refine p4 ?_ |refine pp ?_ |refine p9 ?_ |refine p8 ?_ |refine kc ?_ |refine kb ?_ |refine ka ?_ |refine j9 ?_ |refine pF ?_ |refine jV ?_ |refine jU ?_ |refine pQ ?_ |refine qr ?_ |refine qs ?_ |(refine cz (e8 (by(first|assumption|(simp(disch:=omega) only[a7,aV,f]<;>rfl)|(simp(disch:=omega) only[a7,aV,f]))) Zo rfl Zd Zd rfl) ?_)|((conv=>whnf;arg 1;simp(disch:=omega) only[lA,i6,lB,kH,jT,kI,lu,ls,lj,jx,kT,jt,la,h7,hm,lc,ld,lf,lg,lh,lb,lF,lH,lI,lJ,lK,lL,lM,lN,lG,hx,kx,fD,q.cells,lQ,lP,lO,lo,k7,k5,k6,k4,k3,k8,lC,lD,k0,kZ,kK,kO,kP,hK,h8,kh,li,cq,gF,gE,e5,zo,zp,zq,Yg,Yh,YW,ZW,ZN,ZC,Z0,Yj,Yf,ZO,Yt,ZL,ZE,ZH,ZP,ZM,reduceIte,Nat.reduceEqDiff,Nat.reduceAdd,Nat.reduceMul,Nat.reduceLT,Nat.reduceBEq,Y1,YJ,Yn,Yl,cO,fz,YL,Yi,Ym,Nat.reduceLeDiff,Nat.reduceSub,dz,f]);(first|refine iY ?_ |refine iX ?_ |refine jV ?_ |refine jU ?_ |refine kc ?_ |refine kb ?_ |refine ka ?_ |refine j9 ?_))|dsimp only));exact k.A):a:=e f k
def k2{ar a az:Prop}(f:ar)(k:ed az)(e:ar->ed az->a:=by intro f k;(repeat(with_reducible first|refine iY ?_ |refine iX ?_ |refine it ?_ |refine pi ?_ |refine l6 ?_ |refine qc ?_ |refine qb ?_ |refine pT ?_ |refine pV ?_ |refine pS ?_ |refine pU ?_ |refine p4 ?_ |refine pp ?_ |refine p9 ?_ |refine p8 ?_ |refine kc ?_ |refine kb ?_ |refine ka ?_ |refine j9 ?_ |refine pF ?_ |refine jV ?_ |refine jU ?_ |refine pQ ?_ |refine qr ?_ |refine qs ?_ |(refine cz (e8 (by(first|assumption|(simp(disch:=omega) only[a7,aV,f]<;>rfl)|(simp(disch:=omega) only[a7,aV,f]))) Zo rfl Zd Zd rfl) ?_)|((conv=>whnf;arg 1;simp(disch:=omega) only[lA,i6,lB,kH,jT,kI,lu,ls,lj,jx,kT,jt,la,h7,hm,lc,ld,lf,lg,lh,lb,lF,lH,lI,lJ,lK,lL,lM,lN,lG,hx,kx,fD,q.cells,lQ,lP,lO,lo,k7,k5,k6,k4,k3,k8,lC,lD,k0,kZ,kK,kO,kP,hK,h8,kh,li,cq,gF,gE,e5,zo,zp,zq,Yg,Yh,YW,ZW,ZN,ZC,Z0,Yj,Yf,ZO,Yt,ZL,ZE,ZH,ZP,ZM,reduceIte,Nat.reduceEqDiff,Nat.reduceAdd,Nat.reduceMul,Nat.reduceLT,Nat.reduceBEq,Y1,YJ,Yn,Yl,cO,fz,YL,Yi,Ym,Nat.reduceLeDiff,Nat.reduceSub,dz,f]);(first|refine iY ?_ |refine iX ?_ |refine jV ?_ |refine jU ?_ |refine kc ?_ |refine kb ?_ |refine ka ?_ |refine j9 ?_))|dsimp only));exact k.A):a:=e f k
def Gm{ar a az:Prop}(f:ar)(k:ed az)(e:ar->ed az->a:=by intro f k;(with_reducible first|refine gm ?_ |refine iY ?_ |refine iX ?_ |refine it ?_ |refine pi ?_ |refine l6 ?_ |refine qc ?_ |refine qb ?_ |refine pT ?_ |refine pV ?_ |refine pS ?_ |refine pU ?_ |refine p4 ?_ |refine pp ?_ |refine p9 ?_ |refine p8 ?_ |refine kc ?_ |refine kb ?_ |refine ka ?_ |refine j9 ?_ |refine pF ?_ |refine jV ?_ |refine jU ?_ |refine pQ ?_ |refine qr ?_ |refine qs ?_ |(refine cz (e8 (by(first|assumption|(simp(disch:=omega) only[a7,aV,f]<;>rfl)|(simp(disch:=omega) only[a7,aV,f]))) Zo rfl Zd Zd rfl) ?_)|((conv=>whnf;arg 1;simp(disch:=omega) only[lA,i6,lB,kH,jT,kI,lu,ls,lj,jx,kT,jt,la,h7,hm,lc,ld,lf,lg,lh,lb,lF,lH,lI,lJ,lK,lL,lM,lN,lG,hx,kx,fD,q.cells,lQ,lP,lO,lo,k7,k5,k6,k4,k3,k8,lC,lD,k0,kZ,kK,kO,kP,hK,h8,kh,li,cq,gF,gE,e5,zo,zp,zq,Yg,Yh,YW,ZW,ZN,ZC,Z0,Yj,Yf,ZO,Yt,ZL,ZE,ZH,ZP,ZM,reduceIte,Nat.reduceEqDiff,Nat.reduceAdd,Nat.reduceMul,Nat.reduceLT,Nat.reduceBEq,Y1,YJ,Yn,Yl,cO,fz,YL,Yi,Ym,Nat.reduceLeDiff,Nat.reduceSub,dz,f]);(first|refine iY ?_ |refine iX ?_ |refine jV ?_ |refine jU ?_ |refine kc ?_ |refine kb ?_ |refine ka ?_ |refine j9 ?_))|dsimp only);exact k.A):a:=e f k
def aI{a:Prop}(e:a:=by exact x1 trivial):a:=e
def cx{a:Prop}(e:a:=by exact x2 trivial):a:=e
def al{a az:Prop}(t:az)(e:az->a:=by intro t;exact Gp trivial t):a:=e t
def oD{a az:Prop}(k:ed az)(e:ed az->a:=by intro k;refine Gl trivial ⟨?_⟩;exact k.A):a:=e k
def bh{a az:Prop}(k:ed az)(e:ed az->a:=by intro k;refine bB trivial ⟨?_⟩;exact k.A):a:=e k
def hl{a az:Prop}(k:ed az)(e:ed az->a:=by intro k;refine k2 trivial ⟨?_⟩;exact k.A):a:=e k
def j6{a az:Prop}(k:ed az)(e:ed az->a:=by intro k;refine Gm trivial ⟨?_⟩;exact k.A):a:=e k
def dJ{a:Prop}(e:a:=by exact⟨Zo,λb Y=>zA⟩):a:=e
def ci{b az c d:Prop}(aO:c)(a:d)(k:ed az)(e:c->d->ed az->b:=by intro aO a k;refine bB (Za @aO @a) ⟨?_⟩;exact k.A):b:=e @aO @a k
def cw{c az d f g:Prop}(aO:d)(a:f)(b:g)(k:ed az)(e:d->f->g->ed az->c:=by intro aO a b k;refine bB (Za @aO (Za @a @b)) ⟨?_⟩;exact k.A):c:=e @aO @a @b k
def cV{c az d f g i:Prop}(aO:d)(a:f)(b:g)(f3:i)(k:ed az)(e:d->f->g->i->ed az->c:=by intro aO a b f3 k;refine bB (Za @aO (Za @a (Za @b @f3))) ⟨?_⟩;exact k.A):c:=e @aO @a @b @f3 k
def db{d az f g i m n:Prop}(aO:f)(a:g)(b:i)(f3:m)(c:n)(k:ed az)(e:f->g->i->m->n->ed az->d:=by intro aO a b f3 c k;refine bB (Za @aO (Za @a (Za @b (Za @f3 @c)))) ⟨?_⟩;exact k.A):d:=e @aO @a @b @f3 @c k
def dp{f az g i m n p r:Prop}(aO:g)(a:i)(b:m)(f3:n)(c:p)(d:r)(k:ed az)(e:g->i->m->n->p->r->ed az->f:=by intro aO a b f3 c d k;refine bB (Za @aO (Za @a (Za @b (Za @f3 (Za @c @d))))) ⟨?_⟩;exact k.A):f:=e @aO @a @b @f3 @c @d k
def bo{g az i m n p r s t:Prop}(aO:i)(a:m)(b:n)(f3:p)(c:r)(d:s)(f:t)(k:ed az)(e:i->m->n->p->r->s->t->ed az->g:=by intro aO a b f3 c d f k;refine bB (Za @aO (Za @a (Za @b (Za @f3 (Za @c (Za @d @f)))))) ⟨?_⟩;exact k.A):g:=e @aO @a @b @f3 @c @d @f k
def tT{b az c d:Prop}(aO:c)(a:d)(k:ed az)(e:c->d->ed az->b:=by intro aO a k;refine k2 (Za @aO @a) ⟨?_⟩;exact k.A):b:=e @aO @a k
def c3{c az d f g:Prop}(aO:d)(a:f)(b:g)(k:ed az)(e:d->f->g->ed az->c:=by intro aO a b k;refine k2 (Za @aO (Za @a @b)) ⟨?_⟩;exact k.A):c:=e @aO @a @b k
def aJ.Zm{C:ax}{f:Nat}{a:List q}{S:F ac}{nx:Nat}{M b ad:be}(e:aJ C f a S nx M zG)(k:∀L B ah,M L B ah->b L B ah):aJ C f a S nx b ad:=e.mono k (λ_ _ _ e=>e.elim)
end
noncomputable section
open Go.RowKit (Below)
def uH(eJ:List Nat)(A:Nat->List q->Option q)(h:List (Nat×List q×q))(f:Nat)(args:List q):Option q:=aQ (h9 f eJ) (hr A h f args) (A f args)
section
variable{P:Program}{w:World}
def Env.Hq{nm:List (String×Nat)}(r:lU P nm){laid:List (String×DataW Unit)}{eJ:List Nat}{A:Nat->List q->Option q}{h:List (Nat×List q×q)}(e:laidMet P laid w){bV:bC}{b6:Nat->Prop}
 (b:Env ⟨P,f9 (dq P nm laid P.globals.size).2 .nil,(dq P nm laid P.globals.size).1,A,P.globals.size⟩ w bV b6)(s:qw h=true)
 (p:∀x∈h,∃m,g5 ⟨P,f9 (dq P nm laid P.globals.size).2 .nil,(dq P nm laid P.globals.size).1,A,P.globals.size⟩ m x.1 x.2.1=some x.2.2):
 ∃u D,Env ⟨P,f9 (dq P nm laid P.globals.size).2 .nil,(dq P nm laid P.globals.size).1,uH eJ A h,P.globals.size⟩ w u D:=by
 obtain⟨u,D,i,n⟩:=ui (dv:=uH eJ A h) r e
 have c:=y5 b s p
 refine⟨u,D,b.eO,⟨λf args v a=> ?_,λf args v a u g d=> ?_⟩,i,n⟩
 ·have a:aQ (h9 f eJ) (hr A h f args) (A f args)=some v:=a
  rw[cK]at a
  split at a
  ·exact c.val f args v a
  ·exact b.dv.val f args v a
 ·have a:aQ (h9 f eJ) (hr A h f args) (A f args)=some v:=a
  rw[cK]at a
  split at a
  ·exact c.ok f args v a u g d
  ·exact b.dv.ok f args v a u g d
end
end
end Go.Q

namespace Go.Proofs.YtmipngjbcdamjaaGreatDoor
open Go.Q
noncomputable section
structure bQ where
 G:F ac
 aN:Nat
 O:Nat->List q->Option q
noncomputable def o(a:bQ):ax:=⟨Tryz.prog,a.G,a.aN,a.O,Tryz.prog.globals.size⟩
instance:Coe bQ ax:=⟨o⟩
variable (X : bQ) (S : F ac) (nx : Nat) (M ad : be) (a0 aE aW a3 a4 a5 dS dW dA : q)
end
open Go.Q Go.a6
noncomputable section
def g1(f:Nat):Bool:=h9 f [10,14,41,85,173,175]
structure dV(X:bQ):Prop where
 none:∀f h,g1 f=false->X.O f h=none
set_option maxRecDepth 100000 in
def zB{z7:bQ}(O:dV z7){f:Nat}{a:List q}{z9:F ac}{n:Nat}{u v:be}(c:b9 z7 f a.length=true)(h:cl z7 f a z9 n u v)(b:g1 f=false:=by rfl):aJ z7 f a z9 n u v:=cn c (O.none _ _ b) h
def dk(a b:Nat):Nat->Prop:=λc=>a<=c/\c<b
def pR(n:Int):q:= .Z n
def dr(a:List aT):List (List q):=a.map λs=>[.str s]
def bO(d:bv):List q:=[.str d.name, .Z d.at_, .bool d.ty.b, .bool d.ty.s, .Z d.ty.w, .str d.on, .Z d.dg, .bool d.no]
def fg{v w:q}(e:bK v=some w):v.cells=[v]/\d5 v=true/\q.same 30 v v=true:=by
 cases v with
 |slice b A n c=>exact⟨rfl,rfl,by simp[q.same]⟩
 |cH b A n c=>exact⟨rfl,rfl,by simp[q.same]⟩
 |aw=>exact⟨rfl,rfl,rfl⟩
 |_=>simp[bK]at e
section
variable{X:bQ}{S B:F ac}{P bi:Nat->Prop}{bk hY:bg->q->Prop}
def jK(X:bQ)(S:F ac)(P:Nat->Prop)(bk:bg->q->Prop)(J:dL)(row:List q):Prop:=∃au ie b0 bb dy,row=[au,ie, .Z J.at_,dy]/\cg X S P b0 au 1 (dr J.left)/\(cg X S P bb ie 1 (J.bu.map λn=>[pR n])/\True)/\bk J.right dy/\cN row=true
def jK.to(k:∀a,P a->H X B a=H X S a)(ap:∀a,P a->bi a){J:dL}(i:∀v,bk J.right v->hY J.right v){row:List q}(e:jK X S P bk J row):jK X B bi hY J row:=by
 obtain⟨au,ie,b0,bb,dy,b,c,d,f,g⟩:=e
 exact⟨au,ie,b0,bb,dy,b,(c.R k).lift ap,⟨(d.1.R k).lift ap,trivial⟩,i _ f,g⟩
structure ga(X:bQ)(S:F ac)(P:Nat->Prop)(bk:bg->q->Prop)(dc:List dL)(rows:List (List q)):Prop where
 len:rows.length=dc.length
 all:∀(i:Nat) J row,dc[i]? =some J->rows[i]? =some row->jK X S P bk J row
def ga.to(k:∀a,P a->H X B a=H X S a)(ap:∀a,P a->bi a){dc:List dL}(d:∀J∈dc,∀v,bk J.right v->hY J.right v){rows:List (List q)}(e:ga X S P bk dc rows):ga X B bi hY dc rows:=
 ⟨e.len,λi J row b c=>(e.all i J row b c).to k ap (d J (Zg b))⟩
def ga.get{dc:List dL}{rows:List (List q)}(e:ga X S P bk dc rows)(i:Nat)(J:dL)(a:dc[i]? =some J):∃row,rows[i]? =some row/\jK X S P bk J row:=by
 have b:=(Zf.1 a).1
 obtain⟨row,K⟩:∃row,rows[i]? =some row:=⟨_,Ze (by rw[e.len];exact b)⟩
 exact⟨row,K,e.all i J row a K⟩
def ga.wide{dc:List dL}{rows:List (List q)}(e:ga X S P bk dc rows):rows.length=dc.length/\∀r∈rows,r.length=4:=by
 refine⟨e.len,λr K=> ?_⟩
 obtain⟨i,ai,rfl⟩:=ze.1 K
 obtain⟨_,_,_,_,_,j,_⟩:=e.all i (dc[i]'(by rw[<-e.len];exact ai)) rows[i] (Ze _) (Ze ai)
 rw[j];rfl
def fR(X:bQ)(S:F ac)(P:Nat->Prop)(bk:bg->q->Prop)(g:Go.a6.Node)(row:List q):Prop:=∃bx bz au a b0 bb b4 c1 rows,row=[.str g.name, .Z g.at_,bx,bz,au,a]/\cg X S P b0 bx 8 (g.cj.map bO)/\cg X S P bb bz 8 (g.out.map bO)/\cg X S P b4 au 8 (g.loc.map bO)/\cg X S P c1 a 4 rows/\ga X S P bk g.eqs rows
def fR.to(k:∀a,P a->H X B a=H X S a)(ap:∀a,P a->bi a){g:Go.a6.Node}(m:∀J∈g.eqs,∀v,bk J.right v->hY J.right v){row:List q}(e:fR X S P bk g row):fR X B bi hY g row:=by
 obtain⟨bx,bz,au,n,b0,bb,b4,c1,rows,j,b,c,d,f,i⟩:=e
 exact⟨bx,bz,au,n,b0,bb,b4,c1,rows,j,(b.R k).lift ap,(c.R k).lift ap,(d.R k).lift ap,(f.R k).lift ap,i.to k ap m⟩
def fR.cN{g:Go.a6.Node}{row:List q}(e:fR X S P bk g row):Go.Q.cN row=true:=by
 obtain⟨bx,bz,au,f,b0,bb,b4,c1,rows,rfl,a,b,c,d,_⟩:=e
 simp[Go.Q.cN,(fg a.len).2.1,(fg b.len).2.1,(fg c.len).2.1,(fg d.len).2.1,show d5 (.Z g.at_)=true from rfl,show d5 (.str g.name)=true from rfl]
structure f6(X:bQ)(S:F ac)(P:Nat->Prop)(bk:bg->q->Prop)(T:List Go.a6.Node)(rows:List (List q)):Prop where
 len:rows.length=T.length
 all:∀(i:Nat) g row,T[i]? =some g->rows[i]? =some row->fR X S P bk g row
def f6.to(k:∀a,P a->H X B a=H X S a)(ap:∀a,P a->bi a){T:List Go.a6.Node}(d:∀g∈T,∀J∈g.eqs,∀v,bk J.right v->hY J.right v){rows:List (List q)}(e:f6 X S P bk T rows):f6 X B bi hY T rows:=
 ⟨e.len,λi g row b c=>(e.all i g row b c).to k ap (d g (Zg b))⟩
def f6.get{T:List Go.a6.Node}{rows:List (List q)}(e:f6 X S P bk T rows)(i:Nat)(g:Go.a6.Node)(a:T[i]? =some g):∃row,rows[i]? =some row/\fR X S P bk g row:=by
 have b:=(Zf.1 a).1
 obtain⟨row,K⟩:∃row,rows[i]? =some row:=⟨_,Ze (by rw[e.len];exact b)⟩
 exact⟨row,K,e.all i g row a K⟩
def f6.wide{T:List Go.a6.Node}{rows:List (List q)}(e:f6 X S P bk T rows):rows.length=T.length/\∀r∈rows,r.length=6:=by
 refine⟨e.len,λr K=> ?_⟩
 obtain⟨i,ai,rfl⟩:=ze.1 K
 obtain⟨_,_,_,_,_,_,_,_,_,j,_⟩:=e.all i (T[i]'(by rw[<-e.len];exact ai)) rows[i] (Ze _) (Ze ai)
 rw[j];rfl
def lW(X:bQ)(S:F ac)(P:Nat->Prop)(bk:bg->q->Prop)(T:List Go.a6.Node)(v:q):Prop:=∃b au bL rows,v= .ptr b 0/\P b/\W X S (.ptr b 0)=some au/\cg X S P bL au 6 rows/\f6 X S P bk T rows
def lW.to(k:∀a,P a->H X B a=H X S a)(ap:∀a,P a->bi a){T:List Go.a6.Node}(m:∀g∈T,∀J∈g.eqs,∀v,bk J.right v->hY J.right v){v:q}(e:lW X S P bk T v):lW X B bi hY T v:=by
 obtain⟨b,au,bL,rows,rfl,c,d,f,i⟩:=e
 exact⟨b,au,bL,rows,rfl,ap _ c,zF (k _ c) d,(f.R k).lift ap,i.to k ap m⟩
def fR.R{g:Go.a6.Node}{row:List q}(e:fR X S P (c7 X S P) g row)(k:∀a,P a->H X B a=H X S a)(ap:∀a,P a->bi a):fR X B bi (c7 X B bi) g row:=
 e.to k ap λJ _ v e=>c7.lift ap _ _ (c7.R k _ _ e)
def mW(X:bQ)(S:F ac)(P:Nat->Prop)(g:Go.a6.Node)(row:List q):Prop:=fR X S P (c7 X S P) g row
def mX(X:bQ)(S:F ac)(P:Nat->Prop)(T:List Go.a6.Node)(rows:List (List q)):Prop:=f6 X S P (c7 X S P) T rows
def kC(X:bQ)(S:F ac)(P:Nat->Prop)(T:List Go.a6.Node)(v:q):Prop:=lW X S P (c7 X S P) T v
def mW.R{g:Go.a6.Node}{row:List q}(e:mW X S P g row)(k:∀a,P a->H X B a=H X S a)(ap:∀a,P a->bi a):mW X B bi g row:=
 fR.to k ap (λJ _ v e=>c7.lift ap _ _ (c7.R k _ _ e)) e
def mX.R{T:List Go.a6.Node}{rows:List (List q)}(e:mX X S P T rows)(k:∀a,P a->H X B a=H X S a)(ap:∀a,P a->bi a):mX X B bi T rows:=
 f6.to k ap (λg _ J _ v e=>c7.lift ap _ _ (c7.R k _ _ e)) e
def kC.R{T:List Go.a6.Node}{v:q}(e:kC X S P T v)(k:∀a,P a->H X B a=H X S a)(ap:∀a,P a->bi a):kC X B bi T v:=
 lW.to k ap (λg _ J _ v e=>c7.lift ap _ _ (c7.R k _ _ e)) e
def mX.get{T:List Go.a6.Node}{rows:List (List q)}(e:mX X S P T rows)(i:Nat)(g:Go.a6.Node)(a:T[i]? =some g):∃row,rows[i]? =some row/\mW X S P g row:=f6.get e i g a
def fT(X:bQ)(S:F ac)(P:Nat->Prop)(T:List Go.a6.Node)(v:q):Prop:=lW X S P (bR X S P) T v
def fT.R{T:List Go.a6.Node}{v:q}(e:fT X S P T v)(k:∀a,P a->H X B a=H X S a)(ap:∀a,P a->bi a):fT X B bi T v:=
 lW.to k ap (λg _ J _ v e=>bR.to k ap _ _ e) e
def fT.prog{T:List Go.a6.Node}{v:q}(e:fT X S P T v)(b:∀g∈T,∀J∈g.eqs,hz J.right):kC X S P T v:=
 lW.to (λ_ _=>rfl) (λ_ e=>e) (λg a J c v e=>⟨e,b g a J c⟩) e
end
end
end Go.Proofs.YtmipngjbcdamjaaGreatDoor

namespace Go.Q
def c9.one{C:ax}{S:F ac}{s:q}{an:Nat}{h:List q}{aH:List Nat}(e:c9 C S s an h aH):s.cells=[s]/\d5 s=true/\q.same 30 s s=true:=by
 rcases e with ⟨rfl,_⟩|⟨b,ch,n,c,rfl,_⟩
 ·exact⟨rfl,rfl,rfl⟩
 ·exact⟨rfl,rfl,by simp[q.same]⟩
end Go.Q
namespace Go.Proofs.YtmipngjbcdamjaaGreatDoor
open Go.Q Go.a6
noncomputable section
def l7{C:ax}{f:Nat}{b:List q}{M ad:be}{S:F ac}{nx:Nat}(P:F ac->Prop)(c:P S)(e:∀a,P a->aJ C f b a nx M ad):aJ C f b S nx M ad:=e S c
def o1(k:IntKind)(x:Int):q.same 30 (.int k x) (.int k x)=true:=by
 simp only[q.same,ke];cases k<;>simp[f0]
def AP{s:aT}{h e:Nat}(k co:IntKind)(a:h<=e)(b:e<=s.length):kq (.str s) (some (.int k (h:Int))) (some (.int co (e:Int)))=some (.str ((s.drop h).take (e-h))):=by
 simp[kq,gT,hn,mz,cK,a,b]
def GO{x a:Int}(b: -9223372036854775808<=x*a)(c:x*a<9223372036854775808):ag .mul (.Z x) (.Z a)=some (.Z (x*a)):=by
 simp[ag,fK,f0,fH,fm,wrap64 b c]
def LC{x:Int}(a:0<=x)(b:x<18446744073709551616):hV .u64 x=x:=by
 simp only[hV];exact Int.emod_eq_of_lt a b
def I7{X:bQ}{S:F ac}(b:Nat):bZ X S .eql 59 true (.ptr b 0) .bt=some .zF:=Zk
structure Bo(G:Prop):Prop where
 out:G
def kN{G a:Prop}(b:Bo G->a)(c:G):a:=b ⟨c⟩
end
open Go.Q
noncomputable section
variable (X : bQ) (a : F ac) (b : Nat) (M ad : be) (a0 aE aW a3 a4 a5 dS dW dA : q)
def vx:Za0:=λa b c d e f g=>l (bZ a d .eql 59 true b .bt) λh=>aj (λd e i=>aj (λe i j=>aj (λd e i=>aj (λd e i=>bM (λd=>aq (λb c d=>N (b 0) λe=>l (aY e) λe=>l (ao 8 e) λe=>l (W a c e) λe=>l (bK e) λh=>aq (λ_ a b=>f (.tuple []) a b) λf=>cC (λb c d e=>N (c 19) λh=>N (c 18) λi=>l (ag .lss h i) λh=>aq (λc d e=>aq (λa c d=>N (a 19) λe=>l (ag .add e (.Z 1)) λe=>b (I a 19 e) c d) λb=>N (c 17) λf=>N (c 19) λh=>l (bH 1 f h) λf=>l (W a d f) λf=>N (c 1) λh=>aJ a 105 [f,h] d e (λ_ a d=>b (I c 5 f) a d) g) λa=>aA h (a (I c 20 h) d e) (f (I c 20 h) d e)) (zD b 17 e 18 h 19 (.Z 0)) c d) λa=>aA d (f (.tuple []) e i) (a (I (bN [b,c]) 13 d) e i)) λa=>aA h (a .zT) (a d)) λa=>ae false h (l (cY .not d) λb=>a b e i) (a Q.undef e i)) λb=>ae false h (k9 a d [e] i j (λa c d=>b a c d) g) (b Q.undef i j)) λa=>ae false h (a b e i) (a Q.undef e i)) λa=>ae false h (a c d e) (a Q.undef d e)
def BF:cl X 105 [a0,aE]=vx X a0 aE:=Zk
def BE:b9 X 105 2=true:=Zk
def vY:Za1:=λa b c d e f=>l (cv [.Z 0,.Z 0] d) λg=>cb a c d g.1 g.2 λc d g=>aJ a 7 [b] d g (λd g h=>l (ag .neq d (.Z 0)) λd=>aq (λb c d=>N (b 0) λg=>l (aY g) λg=>l (ao 0 g) λg=>l (W a c g) λg=>l (bK g) λh=>aq (λb c d=>l (cq [.Z 0,.Z 0] []) λf=>N (b 2) λg=>l (bj a c 2 g f) λc=>N (b 2) λb=>l (br a c 2 b) λa=>e a c d) λi=>cC (λb c d g=>N (c 15) λh=>N (c 14) λj=>l (ag .lss h j) λh=>aq (λc d g=>aq (λa c d=>N (a 15) λe=>l (ag .add e (.Z 1)) λe=>b (I a 15 e) c d) λb=>N (c 15) λh=>N (c 13) λi=>N (c 15) λj=>l (bH 6 i j) λi=>l (br a d 6 i) λi=>l (cv [.str [],.Z 0, .aw, .aw, .aw, .aw] g) λj=>cb a d g j.1 j.2 λd g j=>l (bj a g 6 d i) λg=>N (c 0) λi=>l (br a g 6 d) λk=>aJ a 47 [k] g j (λg j k=>cb a j k (.map k) (.map [] 0) λj k m=>l (cq [.bt,.Z 0, .bt, .fq,.Z 0,.Z 0] [(0,1,i),(1,1,h),(2,1,g),(3,1,j)]) λg=>eR a k m g λg i j=>aJ a 48 [g] i j (λ_ f i=>l (aY g) λj=>l (ao 4 j) λj=>l (ao 0 j) λj=>l (W a f j) λj=>l (ag .neq j (.Z 0)) λj=>aq b λb=>aA j (l (aY g) λb=>l (ao 4 b) λb=>l (br a f 2 b) λb=>N (c 2) λd=>l (bj a f 2 d b) λb=>N (c 2) λc=>l (br a b 2 c) λa=>e a b i) (b (zE c 4 d 3 h 5 g 34 j) f i)) f) f) λa=>aA h (a (I c 16 h) d g) (i (I c 16 h) d g)) (zD b 13 g 14 h 15 (.Z 0)) c d) λf=>aA d (l (cq [.Z 0,.Z 0] [(0,1,(.Z 1))]) λb=>l (bj a g 2 c b) λb=>l (br a b 2 c) λa=>e a b h) (f (zC (bN [b]) 2 c 8 d) g h)) f
def Cp:cl X 24 [a0]=vY X a0:=Zk
def Co:b9 X 24 1=true:=Zk
def ww:Za1:=λa b c d e f=>l (bZ a c .eql 23 true b .bt) λg=>aj (λc d h=>aj (λc d h=>aj (λc d h=>aj (λc d h=>aj (λc d h=>aj (λc d h=>bM (λc=>aj (λd g h=>aj (λd g h=>aj (λd g h=>aj (λd g h=>aj (λd g h=>aj (λd g h=>bM (λc=>aq (λb c d=>N (b 0) λg=>l (aY g) λg=>l (ao 0 g) λg=>l (W a c g) λg=>l (bK g) λh=>aq (λa b c=>N (a 3) λa=>e a b c) λi=>cC (λb c d g=>N (c 30) λh=>N (c 29) λj=>l (ag .lss h j) λh=>aq (λc d g=>aq (λa c d=>N (a 30) λe=>l (ag .add e (.Z 1)) λe=>b (I a 30 e) c d) λb=>N (c 28) λh=>N (c 30) λi=>l (bH 6 h i) λh=>l (br a d 6 h) λh=>l (cv [.str [],.Z 0, .aw, .aw, .aw, .aw] g) λi=>cb a d g i.1 i.2 λd g i=>l (bj a g 6 d h) λg=>l (br a g 6 d) λh=>aJ a 23 [h] g i (λa f g=>aq b λb=>l (ag .eql a (.Z 1)) λh=>aq b λb=>aA h (e a f g) (l (ag .eql a (.Z 22)) λe=>aq b λb=>aA e (b (zC (zE c 5 d 6 a 36 a 37 h) 40 e 3 a) f g) (b (I (zE c 5 d 6 a 36 a 37 h) 40 e) f g))) f) λa=>aA h (a (I c 31 h) d g) (i (I c 31 h) d g)) (zE b 3 (.Z 0) 28 g 29 h 30 (.Z 0)) c d) λa=>aA c (e (.Z 1) g h) (a (zC (bN [b]) 2 (.Z 0) 24 c) g h)) λa=>aA c (a .zT) (a d)) λa=>ae false c (l (ag .gtr d (.Z 64)) λb=>a b g h) (a Q.undef g h)) λa=>ae false c (l (bK d) λb=>a b g h) (a Q.undef g h)) λb=>ae false c (l (W a g d) λa=>b a g h) (b Q.undef g h)) λa=>ae false c (l (ao 0 d) λb=>a b g h) (a Q.undef g h)) λa=>ae false c (l (aY d) λb=>a b g h) (a Q.undef g h)) λa=>ae false c (a b d h) (a Q.undef d h)) λa=>aA g (a .zT) (a c)) λa=>ae false g (l (ag .eql c (.Z 0)) λb=>a b d h) (a Q.undef d h)) λa=>ae false g (l (bK c) λb=>a b d h) (a Q.undef d h)) λb=>ae false g (l (W a d c) λa=>b a d h) (b Q.undef d h)) λa=>ae false g (l (ao 0 c) λb=>a b d h) (a Q.undef d h)) λa=>ae false g (l (aY c) λb=>a b d h) (a Q.undef d h)) λa=>ae false g (a b c d) (a Q.undef c d)
def Dr:cl X 7 [a0]=ww X a0:=Zk
def Dq:b9 X 7 1=true:=Zk
def Ax(a:ax)(b:be):c8:=λc d e=>hR a [] b c c.av d e
def nM(a:ax)(b c:be):iK:=λd e f g=>kl a [] b c d e d.av f g
def wj:Za1:=λa b c d e f=>eR a c d b λc d g=>df (g+15) λh=>l (W a d c) λi=>l (aY i) λi=>l (ao 0 i) λi=>l (W a d i) λi=>l (aY i) λi=>l (ao 0 i) λi=>l (W a d i) λi=>l (W a d c) λj=>l (aY j) λj=>l (ao 1 j) λj=>l (W a d j) λj=>l (bH 6 i j) λi=>l (br a d 6 i) λi=>l (cv [.str [],.Z 0, .aw, .aw, .aw, .aw] (g+13)) λj=>fM a d (g+13) j.1 j.2 λd g=>l (bj a g 6 d i) λg=>df (h+12) λh=>l (W a g c) λi=>l (aY i) λi=>l (ao 0 i) λi=>l (W a g i) λi=>l (ao 0 d) λj=>l (W a g j) λj=>aJ a 78 [i,j] g h (λg h i=>l (dE 0 g) λj=>l (dE 1 g) λ_=>l (W a h c) λg=>l (aY g) λg=>l (ao 1 g) λg=>l (W a h g) λg=>l (ag .lss j g) λg=>aq (λb c d=>N (b 1) λg=>l (W a c g) λg=>N (b 2) λh=>l (br a c 6 h) λh=>aJ a 80 [g,h] c d (λ_ c d=>N (b 2) λg=>l (ao 5 g) λg=>l (W a c g) λg=>l (bK g) λh=>aq (λb c d=>N (b 2) λg=>l (br a c 6 g) λg=>aJ a 77 [g] c d (λc d g=>aq (λb c d=>Ax a e b c d) λh=>nR a 103 c [85,86] (iF a (λ_ _ b _ _ c d e=>N (c 85) λf=>l (cv [.str [],.Z 0,.zF,.zF,.Z 0,.str [],.Z 0,.zF] e) λg=>cb a d e g.1 g.2 λd e g=>N (c 86) λh=>l (bj a e 8 d h) λa=>b (zC c 10 f 11 d) a g) (λ_ b c _ _ d e f=>aq c λc=>df (f+12) λf=>N (d 10) λg=>l (ag .neq g (.Z 1)) λg=>b1 (λe h=>b1 (λe h=>b1 (λe h=>b1 (λe h=>b1 (λh i=>b1 (λh i=>b1 (λe h=>b1 (λe h=>bM (λe=>aq c λc=>aA e (N (d 1) λg=>l (W a h g) λg=>N (d 11) λi=>l (ao 1 i) λi=>l (W a h i) λi=>aJ a 79 [g,.Z 37,i] h f (λ_ a b=>c (I d 98 e) a b) (b (d9 [99,100,101,102] (I d 98 e)))) (c (I d 98 e) h f)) λa=>aA g (a e) (a .zF)) λa=>ae true g (l (ag .eql e (.Z 0)) λb=>a b h) (a Q.undef h)) λb=>ae true g (l (gn a i 9 (.Z 0) e h false) λa=>b a i) (b Q.undef i)) λb=>ae true g (l (W a i h) λa=>b a i) (b Q.undef i)) λa=>ae true g (N (d 11) λb=>l (ao 0 b) λb=>a b h) (a Q.undef h)) λb=>ae true g (l (W a h e) λa=>b a h) (b Q.undef h)) λa=>ae true g (l (ao 3 e) λb=>a b h) (a Q.undef h)) λa=>ae true g (l (aY e) λb=>a b h) (a Q.undef h)) λb=>ae true g (N (d 1) λc=>l (W a e c) λa=>b a e) (b Q.undef e))) h (ni 4 h (λ_ _ _ _=>False)) (Ax a e) (nM a e f) (I b 84 c) d g) (nM a e f (d9 [83,84] b))) λi=>cC (λb c d g=>N (c 51) λh=>N (c 50) λj=>l (ag .lss h j) λh=>aq (λc d g=>aq (λa c d=>N (a 51) λe=>l (ag .add e (.Z 1)) λe=>b (I a 51 e) c d) λb=>N (c 49) λh=>N (c 51) λi=>l (bH 4 h i) λh=>l (br a d 4 h) λh=>l (cv [.aw, .aw,.Z 0, .bt] g) λi=>cb a d g i.1 i.2 λd g i=>l (bj a g 4 d h) λg=>l (ao 0 d) λh=>l (W a g h) λh=>l (bK h) λj=>aq (λc d g=>N (c 1) λh=>l (W a d h) λh=>N (c 6) λi=>l (ao 3 i) λi=>l (W a d i) λi=>aJ a 82 [h,i] d g (λ_ a d=>b c a d) (nM a e f (d9 [78,79,80,81] c))) λb=>cC (λc d g h=>N (d 58) λi=>N (d 57) λj=>l (ag .lss i j) λi=>aq (λb d g=>aq (λa b d=>N (a 58) λe=>l (ag .add e (.Z 1)) λe=>c (I a 58 e) b d) λc=>N (b 58) λh=>N (b 56) λi=>N (b 58) λj=>l (bH 1 i j) λi=>l (W a d i) λi=>N (b 6) λj=>l (ao 1 j) λj=>l (W a d j) λj=>l (bK j) λj=>l (ag .lss h j) λj=>aq (λb d g=>N (b 1) λh=>l (W a d h) λh=>N (b 8) λi=>N (b 9) λj=>aJ a 81 [h,i,j] d g (λ_ a d=>c b a d) (nM a e f (d9 [73,74,75,76] b))) λc=>aA j (N (b 6) λe=>l (ao 1 e) λe=>l (W a d e) λe=>l (bH 1 e h) λe=>l (W a d e) λa=>c (I (zE b 7 h 8 i 9 (.Z 0) 67 j) 9 a) d g) (c (zE b 7 h 8 i 9 (.Z 0) 67 j) d g)) λa=>aA i (a (I d 59 i) g h) (b (I d 59 i) g h)) (zE c 6 d 56 h 57 j 58 (.Z 0)) g i) λa=>aA h (a (I c 52 h) d g) (i (I c 52 h) d g)) (zD b 49 g 50 h 51 (.Z 0)) c d) (nM a e f (d9 [45,46,47] b))) λk=>aA g (l (W a h c) λm=>l (ao 1 d) λn=>l (W a h n) λn=>aJ a 79 [m,.Z 24,n] h i (λ_ a e=>k (zE (bN [b]) 1 c 2 d 3 j 40 g) a e) (nM a e f (d9 [41,42,43,44] (zE (bN [b]) 1 c 2 d 3 j 40 g)))) (k (zE (bN [b]) 1 c 2 d 3 j 40 g) h i)) (nM a e f (d9 [26,27,28,29,30,31,32,25,33,34,3,4] (zC (bN [b]) 1 c 2 d)))
def CR:nl X 48 [a0] a b M ad=wj X a0 a b M ad:=Zk
def CQ:b9 X 48 1=true:=Zk
def wB:Za1:=λa b c d e _=>eR a c d b λa b c=>e (.func (.func 102) [] [a]) b c
def Dl:cl X 77 [a0]=wB X a0:=Zk
def Dk:b9 X 77 1=true:=Zk
def wC:Za0:=λa b c d e f g=>eR a d e c λd e h=>l (bZ a e .eql 23 true b .bt) λi=>aq (λb c d=>N (b 0) λe=>l (aY e) λe=>l (ao 0 e) λe=>l (W a c e) λe=>N (b 3) λb=>aJ a 103 [e,(.func (.func 104) [] [b])] c d (λb c d=>l (jX a c .max [3,3] [b,.Z 0]) λa=>l (ag .geq b (.Z 0)) λb=>f (.tuple [a,b]) c d) g) λa=>aA i (f (.tuple [.Z 0,.zF]) e h) (a (zE (bN [b,c]) 3 d 4 (.Z 0) 5 .zF 8 i) e h)
def Dn:cl X 78 [a0,aE]=wC X a0 aE:=Zk
def Dm:b9 X 78 2=true:=Zk
def vX:Za1:=λa b c d e f=>eR a c d b λc d g=>l (ao 2 c) λh=>l (W a d h) λh=>l (bK h) λh=>l (ao 3 c) λi=>l (W a d i) λi=>l (bK i) λi=>l (ag .add h i) λh=>l (ao 4 c) λi=>l (W a d i) λi=>l (bK i) λi=>l (ag .add h i) λh=>l (ao 0 c) λi=>l (W a d i) λi=>aJ a 41 [i] d g (λd g i=>l (cY .not d) λd=>aj (λg i j=>aj (λg i j=>aj (λg i j=>aj (λg i j=>bM (λd=>aj (λg i j=>aj (λg i j=>bM (λd=>aj (λg i j=>aj (λg i j=>aj (λg i j=>aj (λg i j=>bM (λd=>aj (λg i j=>aj (λg i j=>aj (λi j k=>aj (λi j k=>aj (λj k m=>aj (λj k m=>aj (λg i j=>aj (λg i j=>aj (λg i j=>aj (λg i j=>bM (λd=>aq (λb c d=>N (b 1) λg=>l (ao 5 g) λg=>l (W a c g) λg=>l (bK g) λh=>aq (λa b c=>N (a 4) λa=>e a b c) λi=>cC (λb c d g=>N (c 55) λh=>N (c 54) λj=>l (ag .lss h j) λh=>aq (λc d g=>aq (λa c d=>N (a 55) λe=>l (ag .add e (.Z 1)) λe=>b (I a 55 e) c d) λb=>N (c 53) λh=>N (c 55) λi=>l (bH 4 h i) λh=>l (br a d 4 h) λh=>l (cv [.aw, .aw,.Z 0, .bt] g) λi=>cb a d g i.1 i.2 λd g i=>l (bj a g 4 d h) λg=>l (ao 3 d) λh=>l (W a g h) λh=>aJ a 45 [h] g i (λg h i=>l (ao 0 d) λj=>l (W a h j) λj=>l (bK j) λj=>l (ag .eql j (.Z 0)) λj=>aj (λh i k=>aj (λh i k=>aj (λi k m=>aj (λa f h=>bM (λa=>aj (λf h i=>aj (λf h i=>bM (λa=>aq (λa c d=>N (a 8) λe=>l (ag .neq e (.Z 0)) λe=>aq b λb=>aA e (N (a 8) λf=>b (zC a 77 e 4 f) c d) (b (I a 77 e) c d)) λb=>aA a (e (.Z 1) h i) (b (zE c 6 d 7 (.func (.func 44) [] []) 8 g 75 a) h i)) λb=>aA a (b .zT) (b f)) λb=>ae false a (l (ag .eql f (.Z 1)) λa=>b a h i) (b Q.undef h i)) λb=>ae false a (b g f h) (b Q.undef f h)) λb=>aA j (b .zT) (b a)) λb=>ae false j (aJ a 46 [h,i] k m (λa c d=>b a c d) f) (b Q.undef k m)) λa=>ae false j (a (.func (.func 44) [] []) i k) (a Q.undef i k)) λb=>ae false j (l (W a i h) λa=>b a i k) (b Q.undef i k)) λa=>ae false j (l (ao 0 d) λb=>a b h i) (a Q.undef h i)) f) λa=>aA h (a (I c 56 h) d g) (i (I c 56 h) d g)) (zE b 4 (.Z 0) 53 g 54 h 55 (.Z 0)) c d) λa=>aA d (e (.Z 1) i j) (a (zE (bN [b]) 1 c 2 (.Z 0) 3 h 51 d) i j)) λa=>aA d (a .zT) (a g)) λa=>ae false d (l (cY .not g) λb=>a b i j) (a Q.undef i j)) λb=>ae false d (aJ a 42 [g] i j (λa c d=>b a c d) f) (b Q.undef i j)) λb=>ae false d (aJ a 43 [g] i j (λa c d=>b a c d) f) (b Q.undef i j)) λb=>ae false d (l (dz 3 [.aw, .aw, .aw] [(0,1,g),(1,1,i),(2,1,j)] m) λc=>cb a k m c.1 c.2 λa c d=>b a c d) (b Q.undef k m)) λb=>ae false d (l (W a k j) λa=>b a k m) (b Q.undef k m)) λa=>ae false d (l (ao 4 c) λb=>a b j k) (a Q.undef j k)) λb=>ae false d (l (W a j i) λa=>b a j k) (b Q.undef j k)) λa=>ae false d (l (ao 3 c) λb=>a b i j) (a Q.undef i j)) λb=>ae false d (l (W a i g) λa=>b a i j) (b Q.undef i j)) λa=>ae false d (l (ao 2 c) λb=>a b i j) (a Q.undef i j)) λa=>aA d (a .zT) (a g)) λa=>ae false d (l (ag .gtr g (.Z 4096)) λb=>a b i j) (a Q.undef i j)) λa=>ae false d (l (bK g) λb=>a b i j) (a Q.undef i j)) λb=>ae false d (l (W a i g) λa=>b a i j) (b Q.undef i j)) λa=>ae false d (l (ao 5 c) λb=>a b i j) (a Q.undef i j)) λa=>aA d (a .zT) (a g)) λa=>ae false d (l (ag .gtr g (.Z 256)) λb=>a b i j) (a Q.undef i j)) λa=>ae false d (a h i j) (a Q.undef i j)) λa=>aA d (a .zT) (a g)) λa=>ae false d (l (ag .eql g (.Z 0)) λb=>a b i j) (a Q.undef i j)) λa=>ae false d (l (bK g) λb=>a b i j) (a Q.undef i j)) λb=>ae false d (l (W a i g) λa=>b a i j) (b Q.undef i j)) λa=>ae false d (l (ao 3 c) λb=>a b g i) (a Q.undef g i)) f
def Cn:cl X 23 [a0]=vX X a0:=Zk
def Cm:b9 X 23 1=true:=Zk
def wD:Za2:=λa b c d e f g _=>l (aY b) λh=>l (ao 4 h) λh=>l (ao 0 h) λh=>l (W a e h) λh=>l (ag .eql h (.Z 0)) λh=>aq (λ_ a b=>g (.tuple []) a b) λg=>aA h (l (cq [.Z 0,.Z 0] [(0,1,c),(1,1,d)]) λi=>l (aY b) λj=>l (ao 4 j) λj=>l (bj a e 2 j i) λa=>g (I (bN [b,c,d]) 11 h) a f) (g (I (bN [b,c,d]) 11 h) e f)
def Dp:cl X 79 [a0,aE,aW]=wD X a0 aE aW:=Zk
def Do:b9 X 79 3=true:=Zk
def uU(a:ax)(b:be):c8:=λc d e=>hR a [] b c c.av d e
def sf(a:ax)(b c:be):iK:=λd e f g=>kl a [] b c d e d.av f g
def wF:Za0:=λa b c d e f g=>eR a d e b λd e h=>eR a e h c λe h i=>cb a h i (.map i) (.map [] 0) λh i j=>l (cv [.fq] j) λk=>cb a i j k.1 k.2 λi j k=>l (bj a j 1 i h) λh=>l (br a h 6 e) λj=>aJ a 77 [j] h k (λh j k=>aq (λb c d=>N (b 3) λe=>l (br a c 6 e) λe=>aJ a 77 [e] c d (λc d e=>aq (λb c d=>uU a f b c d) λh=>nR a 54 c [31,32] (iF a (λ_ _ b _ _ c d e=>l (cv [.str [],.Z 0,.zF,.zF,.Z 0,.str [],.Z 0,.zF] e) λf=>cb a d e f.1 f.2 λd e f=>N (c 32) λg=>l (bj a e 8 d g) λa=>b (I c 8 d) a f) (λ_ b c _ _ d e f=>aq c λc=>df (f+13) λg=>N (d 2) λh=>l (W a e h) λh=>l (aY h) λh=>l (ao 2 h) λh=>l (W a e h) λh=>N (d 8) λi=>l (ao 5 i) λi=>l (W a e i) λi=>l (cv [.Z 0,.str [],.Z 0,.zF,.zF,.Z 0,.str [],.Z 0,.zF,.Z 0,.Z 0] (f+10)) λj=>fM a e (f+10) j.1 j.2 λe f=>aJ a 83 [h,i] f g (λf g h=>l (dE 0 f) λi=>l (dE 1 f) λf=>l (bj a g 11 e i) λe=>l (cY .not f) λg=>aj (λe h i=>aj (λe h i=>aj (λe h i=>bM (λe=>aq c λc=>aA e (N (d 2) λg=>l (W a h g) λg=>N (d 8) λj=>l (ao 6 j) λj=>l (W a h j) λj=>aJ a 79 [g,.Z 23,j] h i (λ_ a b=>c (zC d 10 f 49 e) a b) (b (d9 [50,51,52,53] (zC d 10 f 49 e)))) (c (zC d 10 f 49 e) h i)) λa=>aA g (a e) (a .zF)) λb=>ae true g (l (bZ a h .neq 9 true e (.str [])) λa=>b a h i) (b Q.undef h i)) λb=>ae true g (l (W a h e) λa=>b a h i) (b Q.undef h i)) λa=>ae true g (N (d 8) λb=>l (ao 5 b) λb=>a b e h) (a Q.undef e h)) (b (d9 [34,35,36,37,38,39,40,33,41,42,9,10] d)))) h (ni 2 h (λ_ _ _ _=>False)) (uU a f) (sf a f g) (I b 30 c) d e) (sf a f g (d9 [29,30] b))) λm=>nR a 54 h [14,15] (iF a (λ_ _ b _ _ c d e=>N (c 14) λf=>l (cv [.str [],.Z 0,.zF,.zF,.Z 0,.str [],.Z 0,.zF] e) λg=>cb a d e g.1 g.2 λd e g=>N (c 15) λh=>l (bj a e 8 d h) λa=>b (zC c 5 f 6 d) a g) (λ_ b c _ _ d e f=>aq c λc=>N (d 4) λg=>l (W a e g) λg=>N (d 6) λh=>l (ao 0 h) λh=>l (W a e h) λh=>l (gn a e 9 (.Z 0) g h false) λg=>l (ag .gtr g (.Z 0)) λg=>aq (λb d e=>N (b 4) λf=>l (W a d f) λf=>N (b 6) λg=>l (ao 0 g) λg=>l (W a d g) λg=>N (b 5) λh=>dx (nC a d e 9 f g h) d e λ_ a d=>c b a d) λc=>aA g (N (d 2) λh=>l (W a e h) λh=>N (d 6) λi=>l (ao 1 i) λi=>l (W a e i) λi=>aJ a 79 [h,.Z 24,i] e f (λ_ a b=>c (I d 20 g) a b) (b (d9 [21,22,23,24] (I d 20 g)))) (c (I d 20 g) e f))) m (ni 0 m (λ_ _ _ _=>False)) (uU a f) (sf a f g) (zE (bN [b,c]) 2 d 3 e 4 i 13 h) j k) (sf a f g (d9 [12,13] (zD (bN [b,c]) 2 d 3 e 4 i)))
def Dt:nl X 80 [a0,aE] a b M ad=wF X a0 aE a b M ad:=Zk
def Ds:b9 X 80 2=true:=Zk
def wG:Za2:=λa b c d e f g h=>l (aY b) λi=>l (ao 2 i) λi=>l (W a e i) λi=>aJ a 83 [i,c] e f (λe f i=>l (dE 0 e) λj=>l (dE 1 e) λe=>l (cv [.Z 0,.str [],.Z 0,.zF,.zF,.Z 0,.str [],.Z 0,.zF,.Z 0,.Z 0] i) λk=>cb a f i k.1 k.2 λf i k=>l (bj a i 11 f j) λi=>l (aY b) λj=>l (ao 3 j) λj=>l (W a i j) λj=>l (gn a i 9 (.Z 0) j c false) λm=>l (ag .add m (.Z 1)) λm=>dx (nC a i k 9 j c m) i k λ_ i j=>aq (λ_ a b=>g (.tuple []) a b) λg=>l (cY .not e) λk=>aq g λg=>aA k (aJ a 79 [b,.Z 23,d] i j (λ_ a h=>g (zD (bN [b,c,d]) 6 f 7 e 24 k) a h) h) (l (ao 0 f) λm=>l (W a i m) λm=>l (ag .eql m (.Z 1)) λm=>aj (λi j n=>aj (λi j n=>aj (λi j n=>aj (λi j n=>aj (λj n o=>aj (λi j n=>aj (λi j n=>bM (λi=>aq g λg=>aA i (aJ a 79 [b,.Z 24,d] j n (λ_ a h=>g (zE (bN [b,c,d]) 6 f 7 e 24 k 30 i) a h) h) (g (zE (bN [b,c,d]) 6 f 7 e 24 k 30 i) j n)) λa=>aA m (a .zT) (a i)) λa=>ae false m (l (ag .gtr i (.Z 1)) λb=>a b j n) (a Q.undef j n)) λb=>ae false m (l (gn a n 9 (.Z 0) i j false) λa=>b a n o) (b Q.undef n o)) λa=>ae false m (a c j n) (a Q.undef j n)) λb=>ae false m (l (W a j i) λa=>b a j n) (b Q.undef j n)) λa=>ae false m (l (ao 3 i) λb=>a b j n) (a Q.undef j n)) λa=>ae false m (l (aY i) λb=>a b j n) (a Q.undef j n)) λa=>ae false m (a b i j) (a Q.undef i j))) h
def Dv:cl X 81 [a0,aE,aW]=wG X a0 aE aW:=Zk
def Du:b9 X 81 3=true:=Zk
def wH:Za0:=λa b c d e f g=>eR a d e b λb d e=>aJ a 105 [c,(.func (.func 106) [] [b])] d e (λ_ a b=>f (.tuple []) a b) g
def Dx:cl X 82 [a0,aE]=wH X a0 aE:=Zk
def Dw:b9 X 82 2=true:=Zk
def vu:Za0:=λa b c d e f g=>l (ao 2 c) λh=>l (W a d h) λh=>l (ao 3 c) λi=>l (W a d i) λi=>l (ao 4 c) λj=>l (W a d j) λj=>l (cq [.aw, .aw, .aw] [(0,1,h),(1,1,i),(2,1,j)]) λh=>aq (λ_ a b=>f (.tuple []) a b) λi=>cC (λb c d e=>N (c 14) λh=>l (ag .lss h (.Z 3)) λh=>aq (λc d e=>aq (λa c d=>N (a 14) λe=>l (ag .add e (.Z 1)) λe=>b (I a 14 e) c d) λb=>N (c 14) λh=>N (c 13) λi=>N (c 14) λj=>l (t6 false 3 1 i j) λi=>l (bK i) λj=>aq b λb=>cC (λc d e h=>N (d 20) λi=>N (d 19) λj=>l (ag .lss i j) λi=>aq (λb d e=>aq (λa b d=>N (a 20) λe=>l (ag .add e (.Z 1)) λe=>c (I a 20 e) b d) λc=>N (b 18) λh=>N (b 20) λi=>l (bH 8 h i) λh=>l (br a d 8 h) λh=>l (cv [.str [],.Z 0,.zF,.zF,.Z 0,.str [],.Z 0,.zF] e) λi=>cb a d e i.1 i.2 λd e i=>l (bj a e 8 d h) λe=>N (b 0) λh=>N (b 3) λj=>l (ag .add (.Z 1) j) λj=>l (br a e 8 d) λk=>k9 a h [j,k] e i (λa e g=>l (cY .not a) λa=>aq c λc=>aA a (f (.tuple []) e g) (c (zC b 6 d 29 a) e g)) g) λa=>aA i (a (I d 21 i) e h) (b (I d 21 i) e h)) (I (zE c 3 h 4 i 18 i 19 j) 20 (.Z 0)) d e) λa=>aA h (a (I c 15 h) d e) (i (I c 15 h) d e)) (zC (bN [b,c]) 13 h 14 (.Z 0)) d e
def Bz:cl X 102 [a0,aE]=vu X a0 aE:=Zk
def By:b9 X 102 2=true:=Zk
def vv:Za0:=λa b c d e f g=>l (bK b) λh=>aq (λ_ a b=>f (.Z (-1)) a b) λi=>cC (λb c d e=>N (c 8) λh=>N (c 7) λj=>l (ag .lss h j) λh=>aq (λc d e=>aq (λa c d=>N (a 8) λe=>l (ag .add e (.Z 1)) λe=>b (I a 8 e) c d) λb=>N (c 8) λh=>N (c 1) λi=>N (c 0) λj=>l (bH 6 j h) λj=>l (br a d 6 j) λj=>k9 a i [j] d e (λa d e=>aq b λb=>aA a (f h d e) (b (zC c 5 h 16 a) d e)) g) λa=>aA h (a (I c 9 h) d e) (i (I c 9 h) d e)) (zD (bN [b,c]) 4 (.Z 0) 7 h 8 (.Z 0)) d e
def BB:cl X 103 [a0,aE]=vv X a0 aE:=Zk
def BA:b9 X 103 2=true:=Zk
def vw:Za0:=λa b c d e f _=>eR a d e b λb d e=>l (ao 0 b) λb=>l (W a d b) λb=>l (W a d c) λc=>l (bZ a d .eql 9 false b c) λa=>f a d e
def BD:cl X 104 [a0,aE]=vw X a0 aE:=Zk
def BC:b9 X 104 2=true:=Zk
def wb:Za1:=λa b c d e f=>l (bK b) λg=>aq (λ_ a b=>e .zT a b) λh=>cC (λb c d g=>N (c 7) λi=>N (c 6) λj=>l (ag .lss i j) λi=>aq (λc d g=>aq (λa c d=>N (a 7) λe=>l (ag .add e (.Z 1)) λe=>b (I a 7 e) c d) λb=>N (c 5) λh=>N (c 7) λi=>l (bH 8 h i) λh=>l (br a d 8 h) λh=>l (cv [.str [],.Z 0,.zF,.zF,.Z 0,.str [],.Z 0,.zF] g) λi=>cb a d g i.1 i.2 λd g i=>l (bj a g 8 d h) λg=>l (ao 0 d) λh=>l (W a g h) λh=>aJ a 41 [h] g i (λg h i=>l (cY .not g) λg=>aj (λh i j=>aj (λh i j=>aj (λh i j=>aj (λh i j=>bM (λg=>aj (λh i j=>aj (λh i j=>aj (λh i j=>aj (λh i j=>aj (λi j k=>aj (λi j k=>aj (λf i j=>aj (λf i j=>aj (λf h i=>bM (λf=>aj (λg h i=>aj (λg h i=>aj (λg h i=>aj (λg h i=>aj (λh i j=>aj (λa h i=>aj (λa g h=>bM (λa=>aq b λb=>aA a (e .zF g h) (b (zC c 4 d 40 a) g h)) λb=>aA f (b .zT) (b a)) λb=>ae false f (bM (λa=>b a h i) λb=>aA g (b a) (b .zF)) (b Q.undef h i)) λb=>ae true g (l (W a i h) λa=>b a i j) (b Q.undef i j)) λa=>ae true g (l (ao 7 d) λb=>a b h i) (a Q.undef h i)) λa=>ae false f (a g h i) (a Q.undef h i)) λb=>ae false f (l (bZ a h .eql 9 true g (.str [])) λa=>b a h i) (b Q.undef h i)) λb=>ae false f (l (W a h g) λa=>b a h i) (b Q.undef h i)) λa=>ae false f (l (ao 5 d) λb=>a b h i) (a Q.undef h i)) λa=>aA g (a .zT) (a f)) λa=>ae false g (bM (λb=>a b i j) λa=>aA h (a f) (a .zF)) (a Q.undef i j)) λa=>ae true h (l (cY .not f) λb=>a b i j) (a Q.undef i j)) λb=>ae true h (aJ a 41 [i] j k (λa c d=>b a c d) f) (b Q.undef j k)) λb=>ae true h (l (W a j i) λa=>b a j k) (b Q.undef j k)) λa=>ae true h (l (ao 5 d) λb=>a b i j) (a Q.undef i j)) λa=>ae false g (a h i j) (a Q.undef i j)) λb=>ae false g (l (bZ a i .neq 9 true h (.str [])) λa=>b a i j) (b Q.undef i j)) λb=>ae false g (l (W a i h) λa=>b a i j) (b Q.undef i j)) λa=>ae false g (l (ao 5 d) λb=>a b i j) (a Q.undef i j)) λa=>aA g (a .zT) (a h)) λb=>ae false g (l (bZ a i .eql 9 true h (.str [])) λa=>b a i j) (b Q.undef i j)) λb=>ae false g (aJ a 65 [h] i j (λa c d=>b a c d) f) (b Q.undef i j)) λb=>ae false g (l (br a i 3 h) λa=>b a i j) (b Q.undef i j)) λa=>ae false g (l (ao 2 d) λb=>a b h i) (a Q.undef h i)) f) λa=>aA i (a (I c 8 i) d g) (h (I c 8 i) d g)) (zE (bN [b]) 2 .zF 5 b 6 g 7 (.Z 0)) c d
def CF:cl X 42 [a0]=wb X a0:=Zk
def CE:b9 X 42 1=true:=Zk
def wc:Za1:=λa b c d e f=>l (bK b) λg=>aq (λb c d=>N (b 3) λg=>aJ a 73 [.aw,g] c d (λc d f=>N (b 0) λg=>l (bK g) λh=>aq (λa b c=>N (a 6) λa=>e a b c) λe=>cC (λb c d f=>N (c 27) λg=>N (c 26) λh=>l (ag .lss g h) λg=>aq (λc d e=>aq (λa c d=>N (a 27) λe=>l (ag .add e (.Z 1)) λe=>b (I a 27 e) c d) λb=>N (c 25) λf=>N (c 27) λg=>l (bH 1 f g) λf=>l (W a d f) λf=>N (c 6) λg=>dx (d1 a d e 8 g f) d e λa d e=>b (zC c 8 f 6 a) d e) λa=>aA g (a (I c 28 g) d f) (e (I c 28 g) d f)) (zE b 6 c 25 g 26 h 27 (.Z 0)) d f) f) λe=>cC (λb c d g=>N (c 11) λh=>N (c 10) λi=>l (ag .lss h i) λh=>aq (λc d e=>aq (λa c d=>N (a 11) λe=>l (ag .add e (.Z 1)) λe=>b (I a 11 e) c d) λb=>N (c 9) λg=>N (c 11) λh=>l (bH 1 g h) λg=>l (W a d g) λa=>N (c 3) λg=>l (bK a) λh=>l (ag .add g h) λg=>l (ag .lss g (.Z 0)) λh=>aq b λb=>aA h (l (some (q.iface 9 (.str [108,101,110,32,111,117,116,32,111,102,32,114,97,110,103,101]))) λa=>sg f a d e) (b (zD c 5 a 3 g 20 h) d e)) λa=>aA h (a (I c 12 h) d g) (e (I c 12 h) d g)) (I (zE (bN [b]) 2 .aw 3 (.Z 0) 9 b 10 g) 11 (.Z 0)) c d
def CH:cl X 43 [a0]=wc X a0:=Zk
def CG:b9 X 43 1=true:=Zk
def we:Za1:=λa b c d e f=>aJ a 41 [b] c d (λa b c=>l (cY .not a) λa=>e a b c) f
def CJ:cl X 44 [a0]=we X a0:=Zk
def CI:b9 X 44 1=true:=Zk
def wg:Za1:=λa b c d e f=>l (cv [.Z 0] d) λg=>cb a c d g.1 g.2 λc d g=>l (bj a d 1 c (.Z 0)) λd=>l (cv [.Z 0] g) λh=>cb a d g h.1 h.2 λd g h=>l (bj a g 1 d (.Z 0)) λg=>l (cv [.nilFunc] h) λi=>cb a g h i.1 i.2 λg h i=>l (bj a h 1 g (.func (.func 74) [] [d,c,g])) λd=>l (W a d g) λg=>k9 a g [b] d i (λ_ b d=>l (W a b c) λa=>e a b d) f
def CL:cl X 45 [a0]=wg X a0:=Zk
def CK:b9 X 45 1=true:=Zk
def wh:Za0:=λa b c d e f g=>aJ a 76 [b,c] d e (λa b c=>l (ag .geq a (.Z 0)) λa=>f a b c) g
def CN:cl X 46 [a0,aE]=wh X a0 aE:=Zk
def CM:b9 X 46 2=true:=Zk
def vy:Za0:=λa b c d e f g=>aJ a 107 [b] d e (λd e h=>aq (λb c d=>N (b 0) λe=>l (aY e) λe=>l (ao 0 e) λe=>l (W a c e) λe=>l (ag .eql e (.Z 25)) λe=>aq (λ_ a b=>f .zT a b) λf=>aA e (df (d+14) λd=>N (b 1) λh=>l (W a c h) λh=>l (aY h) λh=>l (ao 0 h) λh=>l (W a c h) λh=>N (b 0) λi=>l (aY i) λi=>l (ao 2 i) λi=>l (W a c i) λi=>aJ a 78 [h,i] c d (λc d h=>l (dE 0 c) λi=>l (dE 1 c) λc=>aq f λf=>l (cY .not c) λj=>aq f λf=>aA j (df (h+6) λh=>N (b 1) λk=>l (W a d k) λk=>N (b 0) λm=>l (aY m) λm=>l (ao 1 m) λm=>l (W a d m) λm=>aJ a 79 [k,.Z 23,m] d h (λ_ a d=>f (zE b 34 e 6 i 7 c 47 j) a d) g) (N (b 1) λk=>l (W a d k) λk=>l (aY k) λk=>l (ao 1 k) λk=>l (W a d k) λk=>l (ag .geq i k) λk=>aq f λf=>aA k (df (h+6) λh=>N (b 1) λm=>l (W a d m) λm=>N (b 0) λn=>l (aY n) λn=>l (ao 1 n) λn=>l (W a d n) λn=>aJ a 79 [m,.Z 25,n] d h (λ_ a d=>f (I (zE b 34 e 6 i 7 c 47 j) 56 k) a d) g) (f (I (zE b 34 e 6 i 7 c 47 j) 56 k) d h))) g) (f (I b 34 e) c d)) λf=>aA d (df (h+15) λi=>l (W a e c) λj=>l (aY j) λj=>l (ao 2 j) λj=>l (W a e j) λj=>l (aY b) λk=>l (ao 2 k) λk=>l (W a e k) λk=>l (cv [.Z 0,.str [],.Z 0,.zF,.zF,.Z 0,.str [],.Z 0,.zF,.Z 0,.Z 0] (h+12)) λm=>fM a e (h+12) m.1 m.2 λe h=>aJ a 83 [j,k] h i (λh i j=>l (dE 0 h) λk=>l (dE 1 h) λh=>l (bj a i 11 e k) λe=>l (cY .not h) λi=>aq f λf=>aA i (df (j+6) λj=>l (W a e c) λk=>l (aY b) λm=>l (ao 1 m) λm=>l (W a e m) λm=>aJ a 79 [k,.Z 23,m] e j (λ_ a e=>f (zE (bN [b,c]) 3 .zF 9 d 5 h 23 i) a e) g) (f (zE (bN [b,c]) 3 .zF 9 d 5 h 23 i) e j)) g) (f (zC (bN [b,c]) 3 .zF 9 d) e h)) g
def BH:cl X 106 [a0,aE]=vy X a0 aE:=Zk
def BG:b9 X 106 2=true:=Zk
def vz:Za1:=λa b c d e _=>l (aY b) λf=>l (ao 0 f) λf=>l (W a c f) λf=>l (ag .eql f (.Z 2)) λf=>aj (λc d g=>aj (λc d g=>aj (λc d g=>aj (λc d g=>aj (λc d g=>bM (λc=>aj (λb d f=>aj (λb d f=>aj (λb d f=>aj (λa b d=>aj (λa b d=>bM (λa=>e a b d) λb=>aA c (b .zT) (b a)) λe=>ae false c (l (ag .eql a (.Z 24)) λa=>e a b d) (e Q.undef b d)) λe=>ae false c (l (W a d b) λa=>e a d f) (e Q.undef d f)) λa=>ae false c (l (ao 0 b) λb=>a b d f) (a Q.undef d f)) λa=>ae false c (l (aY b) λb=>a b d f) (a Q.undef d f)) λa=>ae false c (a b d g) (a Q.undef d g)) λa=>aA f (a .zT) (a c)) λa=>ae false f (l (ag .eql c (.Z 6)) λb=>a b d g) (a Q.undef d g)) λb=>ae false f (l (W a d c) λa=>b a d g) (b Q.undef d g)) λa=>ae false f (l (ao 0 c) λb=>a b d g) (a Q.undef d g)) λa=>ae false f (l (aY c) λb=>a b d g) (a Q.undef d g)) λa=>ae false f (a b c d) (a Q.undef c d)
def BJ:cl X 107 [a0]=vz X a0:=Zk
def BI:b9 X 107 1=true:=Zk
def wN:Za1:=λa b c d e _=>eR a c d b λc d f=>l (ao 0 c) λg=>l (W a d g) λg=>aq (λb c d=>N (b 1) λf=>l (ao 2 f) λf=>l (W a c f) λf=>l (ag .geq f (.Z 1)) λf=>aj (λb c d=>aj (λa b c=>aj (λa b c=>bM (λa=>e a b c) λb=>aA f (b a) (b .zF)) λd=>ae true f (l (ag .leq a (.Z 64)) λa=>d a b c) (d Q.undef b c)) λe=>ae true f (l (W a c b) λa=>e a c d) (e Q.undef c d)) λa=>ae true f (N (b 1) λb=>l (ao 2 b) λb=>a b c d) (a Q.undef c d)) λh=>aA g (l (ao 1 c) λb=>l (W a d b) λb=>l (cY .not b) λb=>aj (λc d f=>aj (λa c d=>aj (λa c d=>bM (λa=>e a c d) λc=>aA b (c a) (c .zF)) λe=>ae true b (l (ag .eql a (.Z 1)) λa=>e a c d) (e Q.undef c d)) λe=>ae true b (l (W a d c) λa=>e a d f) (e Q.undef d f)) λa=>ae true b (l (ao 2 c) λb=>a b d f) (a Q.undef d f)) (h (zD (bN [b]) 1 c 2 .zF 4 g) d f)
def DJ:cl X 94 [a0]=wN X a0:=Zk
def DI:b9 X 94 1=true:=Zk
def wx:Za0:=λa b c d e f g=>l (ag .lss c (.Z 0)) λh=>aq (λb c d=>N (b 1) λe=>N (b 0) λg=>l (jX a c .cap [47] [g]) λg=>N (b 0) λh=>l (bK h) λh=>l (ag .sub g h) λg=>l (ag .sub e g) λe=>l (ag .gtr e (.Z 0)) λg=>aq (λa b c=>N (a 0) λa=>f a b c) λf=>aA g (N (b 0) λh=>N (b 0) λi=>l (jX a c .cap [47] [i]) λi=>l (ii a c 8 h none (some i) none) λh=>dx (oG a c d .append [47,3] [h,e]) c d λc d h=>N (b 0) λi=>l (bK i) λi=>l (ii a d 8 c none (some i) none) λa=>f (zD b 1 e 16 g 0 a) d h) (f (zC b 1 e 16 g) c d)) λa=>aA h (l (some (q.iface 9 (.str [99,97,110,110,111,116,32,98,101,32,110,101,103,97,116,105,118,101]))) λa=>sg g a d e) (a (zC (bN [b,c]) 4 .aw 6 h) d e)
def Dd:cl X 73 [a0,aE]=wx X a0 aE:=Zk
def Dc:b9 X 73 2=true:=Zk
def wy:Za3:=λa b c d e f g h i=>l (W a f c) λj=>l (ag .add j (.Z 1)) λj=>l (bj a f 1 c j) λf=>aq (λb c d=>N (b 1) λe=>l (W a c e) λe=>l (ag .sub e (.Z 1)) λe=>N (b 1) λb=>l (bj a c 1 b e) λa=>h (.tuple []) a d) λh=>l (bZ a f .eql 59 true b .bt) λj=>aj (λf g k=>aj (λf g k=>aj (λf g k=>bM (λf=>aq h λh=>aA f (l (bj a g 1 d (.Z 1)) λa=>h (I (bN [b,c,d,e]) 22 f) a k) (l (W a g c) λj=>l (ag .gtr j (.Z 200)) λj=>aq h λh=>aA j (l (W a g d) λi=>l (ag .eql i (.Z 0)) λi=>aq h λh=>aA i (l (bj a g 1 d (.Z 22)) λa=>h (zD (bN [b,c,d,e]) 22 f 30 j 34 i) a k) (h (zD (bN [b,c,d,e]) 22 f 30 j 34 i) g k)) (l (aY b) λm=>l (ao 8 m) λm=>l (W a g m) λm=>l (bK m) λn=>aq h λh=>cC (λb c d e=>N (c 14) λf=>N (c 13) λg=>l (ag .lss f g) λf=>aq (λc d e=>aq (λa c d=>N (a 14) λe=>l (ag .add e (.Z 1)) λe=>b (I a 14 e) c d) λb=>N (c 12) λf=>N (c 14) λg=>l (bH 1 f g) λf=>l (W a d f) λf=>N (c 3) λg=>l (W a d g) λg=>k9 a g [f] d e (λ_ a d=>b (I c 6 f) a d) i) λa=>aA f (a (I c 15 f) d e) (h (I c 15 f) d e)) (I (zE (bN [b,c,d,e]) 22 f 30 j 12 m 13 n) 14 (.Z 0)) g k))) λa=>aA j (a .zT) (a f)) λa=>ae false j (l (cY .not f) λb=>a b g k) (a Q.undef g k)) λb=>ae false j (aJ a 75 [f] g k (λa c d=>b a c d) i) (b Q.undef g k)) λa=>ae false j (a b f g) (a Q.undef f g)
def Df:cl X 74 [a0,aE,aW,a3]=wy X a0 aE aW a3:=Zk
def De:b9 X 74 4=true:=Zk
def wz:Za1:=λa b c d e f=>df (d+12) λg=>l (W a c (.ptr 1 0)) λh=>l (aY b) λi=>l (ao 0 i) λi=>l (W a c i) λi=>l (gn a c 3 (.agg [.Z 0,.zF,.zF,.zF]) h i true) λh=>l (dE 0 h) λi=>l (dE 1 h) λh=>l (cv [.Z 0,.zF,.zF,.zF] (d+9)) λj=>fM a c (d+9) j.1 j.2 λc d=>l (bj a d 4 c i) λd=>l (cY .not h) λi=>aq (λb c d=>df (d+34) λd=>N (b 0) λg=>l (aY g) λg=>l (ao 0 g) λg=>l (W a c g) λg=>l (ag .lss g (.Z 1)) λg=>b1 (λc h=>b1 (λc h=>b1 (λc h=>b1 (λc h=>b1 (λc h=>bM (λc=>b1 (λg h=>b1 (λg h=>b1 (λg h=>b1 (λg h=>b1 (λh i=>b1 (λh i=>b1 (λh i=>b1 (λh i=>b1 (λh i=>b1 (λi j=>b1 (λi j=>b1 (λh i=>b1 (λg h=>bM (λc=>b1 (λg h=>b1 (λg h=>b1 (λg h=>b1 (λg h=>aj (λd g h=>bM (λc=>aq (λb c d=>df (d+33) λd=>N (b 3) λg=>l (ao 1 g) λg=>l (W a c g) λg=>N (b 0) λh=>l (aY h) λh=>l (ao 2 h) λh=>l (W a c h) λh=>l (bZ a c .neq 9 true h (.str [])) λh=>l (bZ a c .neq 4 false g h) λg=>b1 (λc h=>b1 (λc h=>b1 (λc h=>b1 (λh i=>b1 (λh i=>b1 (λh i=>b1 (λh i=>aj (λd h i=>b1 (λd h=>b1 (λc d=>bM (λc=>b1 (λd g=>b1 (λd g=>b1 (λd g=>b1 (λd g=>b1 (λd g=>b1 (λg h=>b1 (λg h=>b1 (λg h=>b1 (λg h=>b1 (λg h=>b1 (λd g=>bM (λc=>aq (λb c d=>N (b 3) λg=>l (ao 2 g) λg=>l (W a c g) λg=>l (cY .not g) λg=>aj (λc d h=>aj (λc d h=>aj (λc d h=>aj (λc d h=>aj (λd h i=>aj (λc d h=>bM (λc=>aj (λd g h=>aj (λd g h=>aj (λd g h=>aj (λg h i=>aj (λg h i=>aj (λg h i=>aj (λg h i=>aj (λg h i=>aj (λg h i=>aj (λd g h=>bM (λc=>aj (λd g h=>aj (λd g h=>aj (λd g h=>aj (λd g h=>aj (λg h i=>aj (λg h i=>aj (λg h i=>aj (λg h i=>aj (λg h i=>aj (λd g h=>bM (λc=>aq (λb c d=>N (b 0) λg=>l (aY g) λg=>l (ao 0 g) λg=>l (W a c g) λg=>aq (λ_ a b=>e .zT a b) λh=>l (ag .eql g (.Z 1)) λi=>aq h λh=>aA i (N (b 0) λb=>aJ a 101 [b] c d (λa b c=>e a b c) f) (l (ag .eql g (.Z 19)) λf=>aq (λb c d=>N (b 128) λf=>aq h λg=>aA f (N (b 0) λb=>l (aY b) λb=>l (ao 7 b) λb=>l (W a c b) λa=>l (ag .leq a (.int .u64 63)) λa=>e a c d) (N (b 123) λf=>l (ag .eql f (.Z 21)) λf=>aq g λg=>aA f (N (b 0) λb=>l (aY b) λb=>l (ao 8 b) λb=>l (W a c b) λb=>l (bH 1 b (.Z 0)) λb=>l (W a c b) λb=>l (aY b) λf=>l (ao 0 f) λf=>l (W a c f) λf=>l (ag .eql f (.Z 1)) λf=>aj (λc d g=>aj (λc d g=>aj (λc d g=>aj (λc d g=>aj (λc d g=>aj (λc d g=>aj (λd g h=>aj (λd g h=>aj (λd g h=>aj (λd g h=>aj (λd g h=>aj (λd g h=>aj (λc d g=>aj (λc d g=>aj (λd g h=>aj (λd g h=>aj (λd g h=>aj (λd g h=>aj (λd g h=>aj (λd g h=>aj (λd g h=>aj (λc d g=>aj (λc d g=>aj (λb d g=>aj (λb d g=>aj (λb d g=>aj (λb d g=>aj (λb d g=>aj (λb d g=>aj (λb d g=>aj (λb d g=>aj (λa b d=>aj (λa b d=>aj (λa b c=>bM (λa=>e a b c) λb=>aA f (b .zT) (b a)) λe=>ae false f (bM (λa=>e a b d) λb=>aA c (b a) (b .zF)) (e Q.undef b d)) λe=>ae true c (l (ag .eql a (.Z 1)) λa=>e a b d) (e Q.undef b d)) λe=>ae true c (l (W a d b) λa=>e a d g) (e Q.undef d g)) λa=>ae true c (l (ao 0 b) λb=>a b d g) (a Q.undef d g)) λa=>ae true c (l (aY b) λb=>a b d g) (a Q.undef d g)) λe=>ae true c (l (W a d b) λa=>e a d g) (e Q.undef d g)) λa=>ae true c (l (bH 1 b (.Z 0)) λb=>a b d g) (a Q.undef d g)) λe=>ae true c (l (W a d b) λa=>e a d g) (e Q.undef d g)) λa=>ae true c (l (ao 8 b) λb=>a b d g) (a Q.undef d g)) λa=>ae true c (l (aY b) λb=>a b d g) (a Q.undef d g)) λa=>ae true c (a b d g) (a Q.undef d g)) λa=>ae false f (a c d g) (a Q.undef d g)) λa=>ae false f (bM (λb=>a b g h) λa=>aA c (a d) (a .zF)) (a Q.undef g h)) λb=>ae true c (l (bZ a g .neq 59 true d .bt) λa=>b a g h) (b Q.undef g h)) λb=>ae true c (l (W a g d) λa=>b a g h) (b Q.undef g h)) λa=>ae true c (l (bH 1 d (.Z 0)) λb=>a b g h) (a Q.undef g h)) λb=>ae true c (l (W a g d) λa=>b a g h) (b Q.undef g h)) λa=>ae true c (l (ao 8 d) λb=>a b g h) (a Q.undef g h)) λa=>ae true c (l (aY d) λb=>a b g h) (a Q.undef g h)) λa=>ae true c (a b d g) (a Q.undef d g)) λa=>ae false f (a c d g) (a Q.undef d g)) λa=>ae false f (bM (λb=>a b g h) λa=>aA c (a d) (a .zF)) (a Q.undef g h)) λa=>ae true c (l (ag .eql d (.Z 1)) λb=>a b g h) (a Q.undef g h)) λa=>ae true c (l (bK d) λb=>a b g h) (a Q.undef g h)) λb=>ae true c (l (W a g d) λa=>b a g h) (b Q.undef g h)) λa=>ae true c (l (ao 8 d) λb=>a b g h) (a Q.undef g h)) λa=>ae true c (l (aY d) λb=>a b g h) (a Q.undef g h)) λa=>ae true c (a b d g) (a Q.undef d g)) λa=>ae false f (a c d g) (a Q.undef d g)) λa=>ae false f (l (ag .eql c (.Z 4)) λb=>a b d g) (a Q.undef d g)) λb=>ae false f (l (W a d c) λa=>b a d g) (b Q.undef d g)) λa=>ae false f (l (ao 0 c) λb=>a b d g) (a Q.undef d g)) λa=>ae false f (l (aY c) λb=>a b d g) (a Q.undef d g)) λa=>ae false f (a b c d) (a Q.undef c d)) (g (I b 136 f) c d))) λa=>aA f (a (zD b 123 g 124 i 128 f) c d) (l (ag .eql g (.Z 20)) λe=>a (zE b 123 g 124 i 128 f 128 e) c d))) λa=>aA c (e .zF g h) (a (I b 119 c) g h)) λa=>aA c (a .zT) (a d)) λa=>ae false c (bM (λb=>a b h i) λa=>aA d (a g) (a .zF)) (a Q.undef h i)) λa=>ae true d (l (ag .neq g (.int .u64 0)) λb=>a b h i) (a Q.undef h i)) λb=>ae true d (l (W a h g) λa=>b a h i) (b Q.undef h i)) λa=>ae true d (l (ao 7 g) λb=>a b h i) (a Q.undef h i)) λa=>ae true d (l (aY g) λb=>a b h i) (a Q.undef h i)) λa=>ae true d (N (b 0) λb=>a b g h) (a Q.undef g h)) λa=>ae false c (a d g h) (a Q.undef g h)) λa=>ae false c (l (cY .not d) λb=>a b g h) (a Q.undef g h)) λb=>ae false c (l (W a g d) λa=>b a g h) (b Q.undef g h)) λa=>ae false c (N (b 3) λb=>l (ao 3 b) λb=>a b g h) (a Q.undef g h)) λa=>aA c (a .zT) (a d)) λa=>ae false c (bM (λb=>a b h i) λa=>aA d (a g) (a .zF)) (a Q.undef h i)) λa=>ae true d (l (cY .not g) λb=>a b h i) (a Q.undef h i)) λb=>ae true d (aJ a 94 [g] h i (λa c d=>b a c d) f) (b Q.undef h i)) λb=>ae true d (l (br a h 3 g) λa=>b a h i) (b Q.undef h i)) λa=>ae true d (l (ao 4 g) λb=>a b h i) (a Q.undef h i)) λa=>ae true d (l (aY g) λb=>a b h i) (a Q.undef h i)) λa=>ae true d (N (b 0) λb=>a b g h) (a Q.undef g h)) λa=>ae false c (a d g h) (a Q.undef g h)) λb=>ae false c (l (W a g d) λa=>b a g h) (b Q.undef g h)) λa=>ae false c (N (b 3) λb=>l (ao 2 b) λb=>a b d h) (a Q.undef d h)) λa=>aA g (a c) (a .zF)) λb=>ae true g (l (bZ a h .neq 50 false c d) λa=>b a h i) (b Q.undef h i)) λa=>ae true g (l (cq [.zF,.zF,.Z 0] []) λb=>a b d h) (a Q.undef d h)) λb=>ae true g (l (br a d 3 c) λa=>b a d h) (b Q.undef d h)) λa=>ae true g (l (ao 4 c) λb=>a b d h) (a Q.undef d h)) λa=>ae true g (l (aY c) λb=>a b d h) (a Q.undef d h)) λa=>ae true g (N (b 0) λb=>a b c d) (a Q.undef c d)) λa=>aA c (e .zF g i) (a (I b 84 c) g i)) λa=>aA c (a .zT) (a d)) λa=>ae false c (bM (λb=>a b h) λa=>aA d (a g) (a .zF)) (a Q.undef h)) λa=>ae true d (l (ag .neq g (.Z 6)) λb=>a b h) (a Q.undef h)) λb=>ae true d (l (W a h g) λa=>b a h) (b Q.undef h)) λa=>ae true d (l (ao 0 g) λb=>a b h) (a Q.undef h)) λa=>ae true d (l (aY g) λb=>a b h) (a Q.undef h)) λa=>ae true d (N (b 0) λb=>a b g) (a Q.undef g)) λa=>ae false c (a d g) (a Q.undef g)) λb=>ae false c (l (W a g d) λa=>b a g) (b Q.undef g)) λa=>ae false c (l (ao 3 d) λb=>a b g) (a Q.undef g)) λa=>ae false c (l (aY d) λb=>a b g) (a Q.undef g)) λa=>ae false c (N (b 0) λb=>a b d) (a Q.undef d)) λa=>aA g (a .zT) (a c)) λa=>ae false g (bM (λb=>a b h) λa=>aA c (a d) (a .zF)) (a Q.undef h)) λa=>ae true c (l (cY .not d) λb=>a b h) (a Q.undef h)) λb=>ae true c (aJ a 41 [h] i d (λa c d=>b a c d) f) (b Q.undef i d)) λb=>ae true c (l (W a i h) λa=>b a i) (b Q.undef i)) λa=>ae true c (l (ao 2 h) λb=>a b i) (a Q.undef i)) λa=>ae true c (l (aY h) λb=>a b i) (a Q.undef i)) λa=>ae true c (N (b 0) λb=>a b h) (a Q.undef h)) λa=>ae false g (a c h) (a Q.undef h)) λb=>ae false g (l (W a h c) λa=>b a h) (b Q.undef h)) λa=>ae false g (N (b 3) λb=>l (ao 1 b) λb=>a b c) (a Q.undef c)) λa=>aA c (e .zF g h) (a (I b 51 c) g h)) λa=>aA c (a .zT) (a d)) λb=>ae false c (aJ a 100 [g, .bt] h d (λa c d=>b a c d) f) (b Q.undef h d)) λb=>ae false c (l (W a h g) λa=>b a h) (b Q.undef h)) λa=>ae false c (l (ao 8 g) λb=>a b h) (a Q.undef h)) λa=>ae false c (l (aY g) λb=>a b h) (a Q.undef h)) λa=>ae false c (N (b 0) λb=>a b h) (a Q.undef h)) λa=>aA c (a .zT) (a g)) λa=>ae false c (bM (λb=>a b i) λa=>aA g (a h) (a .zF)) (a Q.undef i)) λa=>ae true g (l (ag .neq h i) λb=>a b j) (a Q.undef j)) λb=>ae true g (l (W a j i) λa=>b a j) (b Q.undef j)) λa=>ae true g (N (b 3) λb=>l (ao 0 b) λb=>a b i) (a Q.undef i)) λa=>ae true g (l (bK h) λb=>a b i) (a Q.undef i)) λb=>ae true g (l (W a i h) λa=>b a i) (b Q.undef i)) λa=>ae true g (l (ao 8 h) λb=>a b i) (a Q.undef i)) λa=>ae true g (l (aY h) λb=>a b i) (a Q.undef i)) λa=>ae true g (N (b 0) λb=>a b h) (a Q.undef h)) λa=>ae false c (a g h) (a Q.undef h)) λa=>ae false c (l (ag .geq g (.Z 0)) λb=>a b h) (a Q.undef h)) λb=>ae false c (l (W a h g) λa=>b a h) (b Q.undef h)) λa=>ae false c (N (b 3) λb=>l (ao 0 b) λb=>a b h) (a Q.undef h)) λa=>aA g (a .zT) (a c)) λa=>ae false g (l (ag .gtr c (.Z 26)) λb=>a b h) (a Q.undef h)) λb=>ae false g (l (W a h c) λa=>b a h) (b Q.undef h)) λa=>ae false g (l (ao 0 c) λb=>a b h) (a Q.undef h)) λa=>ae false g (l (aY c) λb=>a b h) (a Q.undef h)) λa=>ae false g (N (b 0) λb=>a b c) (a Q.undef c)) λe=>aA i (l (cq [.Z 0,.zF,.zF,.zF] [(0,1,(.Z 2))]) λf=>l (bj a d 4 c f) λa=>e (zE (bN [b]) 2 .zF 3 c 4 h 16 i) a g) (e (zE (bN [b]) 2 .zF 3 c 4 h 16 i) d g)
def Dh:cl X 75 [a0]=wz X a0:=Zk
def Dg:b9 X 75 1=true:=Zk
def wA:Za0:=λa b c d e f g=>l (bK b) λh=>aq (λ_ a b=>f (.Z (-1)) a b) λi=>cC (λb c d e=>N (c 8) λh=>N (c 7) λj=>l (ag .lss h j) λh=>aq (λc d e=>aq (λa c d=>N (a 8) λe=>l (ag .add e (.Z 1)) λe=>b (I a 8 e) c d) λb=>N (c 8) λh=>N (c 1) λi=>N (c 0) λj=>l (bH 1 j h) λj=>l (W a d j) λj=>k9 a i [j] d e (λa d e=>aq b λb=>aA a (f h d e) (b (zC c 5 h 16 a) d e)) g) λa=>aA h (a (I c 9 h) d e) (i (I c 9 h) d e)) (zD (bN [b,c]) 4 (.Z 0) 7 h 8 (.Z 0)) d e
def Dj:cl X 76 [a0,aE]=wA X a0 aE:=Zk
def Di:b9 X 76 2=true:=Zk
def vs:Za0:=λa b c d e f g=>aJ a 129 [b,c] d e (λa b c=>l (ag .geq a (.Z 0)) λa=>f a b c) g
def Bv:cl X 100 [a0,aE]=vs X a0 aE:=Zk
def Bu:b9 X 100 2=true:=Zk
def vt:Za1:=λa b c d e f=>l (aY b) λg=>l (ao 4 g) λg=>l (ao 2 g) λg=>l (W a c g) λg=>l (aY b) λh=>l (ao 4 h) λh=>l (ao 1 h) λh=>l (W a c h) λh=>aq (λb c d=>N (b 0) λg=>l (aY g) λg=>l (ao 0 g) λg=>l (W a c g) λg=>l (ag .eql g (.Z 1)) λg=>aj (λc d h=>aj (λc d h=>aj (λc d h=>aj (λc d h=>aj (λc d f=>bM (λc=>aj (λd f g=>aj (λd f g=>aj (λd f g=>aj (λf g h=>aj (λf g h=>aj (λf g h=>aj (λa f g=>aj (λb f g=>aj (λa b f=>aj (λa b f=>aj (λa b d=>bM (λa=>e a b d) λb=>aA c (b a) (b .zF)) λe=>ae true c (bM (λa=>e a b f) λb=>aA d (b .zT) (b a)) (e Q.undef b f)) λc=>ae false d (l (ag .eql a (.int .u64 0)) λa=>c a b f) (c Q.undef b f)) λc=>ae false d (l (ag .shr a b) λa=>c a f g) (c Q.undef f g)) λa=>ae false d (N (b 3) λb=>a b f g) (a Q.undef f g)) λb=>ae false d (l (W a g f) λa=>b a g h) (b Q.undef g h)) λa=>ae false d (l (ao 7 f) λb=>a b g h) (a Q.undef g h)) λa=>ae false d (l (aY f) λb=>a b g h) (a Q.undef g h)) λa=>ae false d (N (b 0) λb=>a b f g) (a Q.undef f g)) λa=>ae true c (a d f g) (a Q.undef f g)) λa=>ae true c (l (ag .eql d (.Z 64)) λb=>a b f g) (a Q.undef f g)) λa=>ae true c (N (b 3) λb=>a b d f) (a Q.undef d f)) λa=>aA g (a c) (a .zF)) λb=>ae true g (aJ a 94 [c] d h (λa c d=>b a c d) f) (b Q.undef d h)) λb=>ae true g (l (br a d 3 c) λa=>b a d h) (b Q.undef d h)) λa=>ae true g (l (ao 4 c) λb=>a b d h) (a Q.undef d h)) λa=>ae true g (l (aY c) λb=>a b d h) (a Q.undef d h)) λa=>ae true g (N (b 0) λb=>a b c d) (a Q.undef c d)) λa=>aA h (l (ag .sub g (.Z 1)) λe=>a (zE (bN [b]) 2 .zF 3 g 13 h 3 e) c d) (a (zD (bN [b]) 2 .zF 3 g 13 h) c d)
def Bx:cl X 101 [a0]=vt X a0:=Zk
def Bw:b9 X 101 1=true:=Zk
def vH:Za0:=λa b c d e f _=>l (bK b) λg=>aq (λ_ a b=>f (.Z (-1)) a b) λh=>cC (λb c d e=>N (c 8) λg=>N (c 7) λi=>l (ag .lss g i) λg=>aq (λc d e=>aq (λa c d=>N (a 8) λe=>l (ag .add e (.Z 1)) λe=>b (I a 8 e) c d) λb=>N (c 8) λg=>N (c 1) λh=>N (c 0) λi=>l (bH 1 i g) λi=>l (W a d i) λi=>l (bZ a d .eql 59 false h i) λa=>aq b λb=>aA a (f g d e) (b (zC c 5 g 16 a) d e)) λa=>aA g (a (I c 9 g) d e) (h (I c 9 g) d e)) (zD (bN [b,c]) 4 (.Z 0) 7 g 8 (.Z 0)) d e
def BV:cl X 129 [a0,aE]=vH X a0 aE:=Zk
def BU:b9 X 129 2=true:=Zk
def Aw(a:ax)(b:be):c8:=λc d e=>hR a [.tmp 2] b c c.av d e
def y9(a:ax)(b c:be):iK:=λd e f g=>kl a [.tmp 2] b c d e d.av f g
def wi:Za1:=λa b c d e f=>eR a c d b λc d g=>cb a d g (.map g) (.map [] 0) λd g h=>l (cq [.fq, .aw] [(0,1,d)]) λd=>eR a g h d λd g h=>l (cv [.bt] h) λi=>cb a g h i.1 i.2 λg h i=>l (bj a h 1 g d) λd=>l (br a d 6 c) λh=>aJ a 77 [h] d i (λd h i=>aq (λb c d=>N (b 1) λf=>l (ao 5 f) λf=>l (W a c f) λf=>l (bK f) λg=>aq (λb c d=>N (b 3) λf=>l (W a c f) λf=>Aw a e (I b 2 f) c d) λe=>cC (λb c d f=>N (c 56) λg=>N (c 55) λh=>l (ag .lss g h) λg=>aq (λc d e=>aq (λa c d=>N (a 56) λe=>l (ag .add e (.Z 1)) λe=>b (I a 56 e) c d) λb=>N (c 56) λf=>N (c 54) λg=>N (c 56) λh=>l (bH 4 g h) λg=>l (br a d 4 g) λg=>l (cv [.aw, .aw,.Z 0, .bt] e) λh=>cb a d e h.1 h.2 λd e h=>l (bj a e 4 d g) λe=>l (ao 0 d) λg=>l (W a e g) λg=>l (bK g) λi=>aq b λb=>cC (λc d e f=>N (d 64) λg=>N (d 63) λh=>l (ag .lss g h) λg=>aq (λb d e=>aq (λa b d=>N (a 64) λe=>l (ag .add e (.Z 1)) λe=>c (I a 64 e) b d) λc=>N (b 64) λf=>N (b 62) λg=>N (b 64) λh=>l (bH 1 g h) λg=>l (W a d g) λg=>N (b 3) λh=>l (W a d h) λh=>l (aY h) λh=>l (ao 0 h) λh=>l (W a d h) λh=>l (gn a d 9 (.agg [.Z 0,.str [],.Z 0,.zF,.zF,.Z 0,.str [],.Z 0,.zF,.Z 0,.Z 0]) h g true) λh=>l (dE 0 h) λi=>l (dE 1 h) λh=>l (cv [.Z 0,.str [],.Z 0,.zF,.zF,.Z 0,.str [],.Z 0,.zF,.Z 0,.Z 0] e) λj=>cb a d e j.1 j.2 λd e j=>l (bj a e 11 d i) λe=>aj (λe i j=>aj (λe i j=>aj (λe i j=>bM (λe=>aq c λc=>aA e (N (b 8) λk=>l (ao 9 d) λm=>l (bj a i 1 m k) λi=>l (ao 10 d) λk=>l (bj a i 1 k f) λi=>df (j+7) λj=>N (b 3) λk=>l (W a i k) λk=>l (aY k) λk=>l (ao 0 k) λk=>l (W a i k) λk=>l (br a i 11 d) λm=>dx (nC a i j 9 k g m) i j λ_ a i=>c (I (zE b 10 f 11 g 12 d 13 h) 83 e) a i) (c (I (zE b 10 f 11 g 12 d 13 h) 83 e) i j)) λa=>aA h (a e) (a .zF)) λa=>ae true h (l (ag .lss e (.Z 0)) λb=>a b i j) (a Q.undef i j)) λb=>ae true h (l (W a i e) λa=>b a i j) (b Q.undef i j)) λa=>ae true h (l (ao 9 d) λb=>a b e j) (a Q.undef e j)) λa=>aA g (a (I d 65 g) e f) (b (I d 65 g) e f)) (I (zE c 9 d 8 f 62 g 63 i) 64 (.Z 0)) e h) λa=>aA g (a (I c 57 g) d f) (e (I c 57 g) d f)) (zD b 54 f 55 g 56 (.Z 0)) c d) λj=>nR a 97 d [19,20] (iF a (λ_ _ b _ _ c d e=>N (c 19) λf=>l (cv [.str [],.Z 0,.zF,.zF,.Z 0,.str [],.Z 0,.zF] e) λg=>cb a d e g.1 g.2 λd e g=>N (c 20) λh=>l (bj a e 8 d h) λa=>b (zC c 4 f 5 d) a g) (λ_ _ b _ _ c d e=>aq b λb=>df (e+13) λf=>N (c 3) λg=>l (W a d g) λg=>l (aY g) λg=>l (ao 0 g) λg=>l (W a d g) λg=>N (c 5) λh=>l (ao 0 h) λh=>l (W a d h) λh=>l (gn a d 9 (.agg [.Z 0,.str [],.Z 0,.zF,.zF,.Z 0,.str [],.Z 0,.zF,.Z 0,.Z 0]) g h true) λg=>l (dE 0 g) λh=>l (dE 1 g) λg=>l (cv [.Z 0,.str [],.Z 0,.zF,.zF,.Z 0,.str [],.Z 0,.zF,.Z 0,.Z 0] (e+10)) λi=>fM a d (e+10) i.1 i.2 λd e=>l (bj a e 11 d h) λd=>l (cY .not g) λe=>aq b λb=>aA e (df (f+10) λf=>N (c 3) λh=>l (W a d h) λh=>l (aY h) λh=>l (ao 0 h) λh=>l (W a d h) λh=>N (c 5) λi=>l (ao 0 i) λi=>l (W a d i) λi=>N (c 4) λj=>N (c 5) λk=>l (br a d 8 k) λk=>l (cq [.Z 0,.str [],.Z 0,.zF,.zF,.Z 0,.str [],.Z 0,.zF,.Z 0,.Z 0] [(0,1,j),(1,8,k),(9,1,(.Z (-1))),(10,1,(.Z (-1)))]) λj=>dx (nC a d f 9 h i j) d f λ_ d f=>df (f+12) λh=>N (c 3) λi=>l (W a d i) λi=>N (c 3) λj=>l (W a d j) λj=>l (aY j) λj=>l (ao 1 j) λj=>l (W a d j) λj=>N (c 5) λk=>l (ao 0 k) λk=>l (W a d k) λk=>l (dz 1 [.str []] [(0,1,k)] (f+7)) λk=>fM a d (f+7) k.1 k.2 λd f=>dx (d1 a f h 1 j d) f h λd f h=>l (aY i) λj=>l (ao 1 j) λj=>N (c 3) λk=>l (W a f k) λk=>ez k (some i) (l (bj a f 1 j d) λa=>b (zC c 7 g 32 e) a h)) (b (zC c 7 g 32 e) d f))) j (ni 0 j (λ_ _ _ _=>False)) (Aw a e) (y9 a e f) (zE (bN [b]) 1 c 2 .bt 3 g 18 d) h i) (y9 a e f (d9 [17,18] (zD (bN [b]) 1 c 2 .bt 3 g)))
def CP:nl X 47 [a0] a b M ad=wi X a0 a b M ad:=Zk
def CO:b9 X 47 1=true:=Zk
def wI:Za0:=λa b c d e f _=>l (cv [.Z 0,.str [],.Z 0,.zF,.zF,.Z 0,.str [],.Z 0,.zF,.Z 0,.Z 0] e) λg=>cb a d e g.1 g.2 λd e g=>l (bZ a e .eql 82 true b .bt) λh=>aq (λb c d=>N (b 0) λe=>l (aY e) λe=>l (ao 0 e) λe=>l (W a c e) λe=>N (b 1) λg=>l (gn a c 9 (.agg [.Z 0,.str [],.Z 0,.zF,.zF,.Z 0,.str [],.Z 0,.zF,.Z 0,.Z 0]) e g true) λe=>l (dE 0 e) λg=>l (dE 1 e) λe=>l (cv [.Z 0,.str [],.Z 0,.zF,.zF,.Z 0,.str [],.Z 0,.zF,.Z 0,.Z 0] d) λh=>cb a c d h.1 h.2 λc d h=>l (bj a d 11 c g) λd=>l (br a d 11 c) λc=>N (b 4) λg=>l (bj a d 11 g c) λc=>N (b 4) λb=>l (br a c 11 b) λa=>f (.tuple [a,e]) c h) λi=>aA h (l (cq [.Z 0,.str [],.Z 0,.zF,.zF,.Z 0,.str [],.Z 0,.zF,.Z 0,.Z 0] []) λb=>l (bj a e 11 d b) λb=>l (br a b 11 d) λa=>f (.tuple [a,.zF]) b g) (i (zD (bN [b,c]) 4 d 5 .zF 9 h) e g)
def Dz:cl X 83 [a0,aE]=wI X a0 aE:=Zk
def Dy:b9 X 83 2=true:=Zk
def wv:Za1:=λa b c d e f=>eR a c d b λc d g=>aq (λb c d=>N (b 1) λb=>l (ao 2 b) λb=>l (W a c b) λb=>aJ a 95 [b] c d (λb c d=>l (bZ a c .add 9 true (.str [117]) b) λa=>e a c d) f) λh=>l (br a d 3 c) λi=>aJ a 94 [i] d g (λd g i=>l (cY .not d) λd=>aq h λh=>aA d (e (.str []) g i) (l (ao 0 c) λj=>l (W a g j) λj=>aq h λh=>aA j (e (.str [98,111,111,108]) g i) (l (ao 1 c) λk=>l (W a g k) λk=>aq h λh=>aA k (l (ao 2 c) λb=>l (W a g b) λb=>aJ a 95 [b] g i (λb c d=>l (bZ a c .add 9 true (.str [105]) b) λa=>e a c d) f) (h (I (zE (bN [b]) 1 c 2 (.str []) 3 d 7 j) 10 k) g i)))) f
def C9:cl X 65 [a0]=wv X a0:=Zk
def C8:b9 X 65 1=true:=Zk
end
noncomputable section
variable (X : bQ) (S : F ac) (nx : Nat) (M ad : be) (a0 aE aW a3 a4 a5 dS dW dA : q)
def wO:Za1:=λa b c d e f=>aJ a 126 [b] c d (λa b c=>e a b c) f
def DL:cl X 95 [a0]=wO X a0:=Zk
def DK:b9 X 95 1=true:=Zk
def vG:Za1:=λa b c d e f=>aJ a 151 [b,.Z 10] c d (λa b c=>e a b c) f
def BT:cl X 126 [a0]=vG X a0:=Zk
def BS:b9 X 126 1=true:=Zk
def vM:Za0:=λa b c d e f g=>l (ag .eql c (.Z 10)) λh=>aq (λb c d=>N (b 0) λe=>l (iQ .u64 e) λe=>N (b 1) λh=>N (b 0) λb=>l (ag .lss b (.Z 0)) λb=>aJ a 172 [.aw,e,h,b,.zF] c d (λa b c=>l (dE 0 a) λ_=>l (dE 1 a) λa=>f a b c) g) λi=>aA h (l (ag .leq (.Z 0) b) λi=>aj (λd e j=>aj (λd e j=>bM (λd=>aq (λb c d=>l (cv [(.int .u8 0),(.int .u8 0),(.int .u8 0),(.int .u8 0),(.int .u8 0),(.int .u8 0),(.int .u8 0),(.int .u8 0),(.int .u8 0),(.int .u8 0),(.int .u8 0),(.int .u8 0),(.int .u8 0),(.int .u8 0),(.int .u8 0),(.int .u8 0),(.int .u8 0),(.int .u8 0),(.int .u8 0),(.int .u8 0),(.int .u8 0),(.int .u8 0),(.int .u8 0),(.int .u8 0)] d) λe=>cb a c d e.1 e.2 λc d e=>N (b 0) λh=>l (iQ .u64 h) λh=>N (b 0) λi=>l (ag .lss i (.Z 0)) λi=>aq (λb c d=>N (b 6) λe=>aJ a 170 [e] c d (λc d e=>l (ag .add (.Z 1) c) λh=>N (b 5) λi=>l (u5 24 1 i (some (.Z 1)) (some h) none) λh=>N (b 6) λi=>aJ a 171 [h,i] d e (λ_ d e=>N (b 0) λg=>l (ag .lss g (.Z 0)) λg=>aq (λb c d=>N (b 7) λe=>l (ag .add (.Z 1) e) λe=>N (b 5) λb=>l (u5 24 1 b (some (.Z 1)) (some e) none) λb=>l (xm a c b) λa=>f a c d) λh=>aA g (N (b 5) λg=>l (t2 24 1 g (.Z 0)) λg=>l (bj a d 1 g (.int .u8 45)) λd=>l (ag .add (.Z 1) c) λc=>N (b 5) λb=>l (u5 24 1 b none (some c) none) λb=>l (xm a d b) λa=>f a d e) (h (zC b 7 c 34 g) d e)) g) g) λa=>aA i (l (cY .neg h) λf=>a (zE b 5 c 6 h 23 i 6 f) d e) (a (zD b 5 c 6 h 23 i) d e)) λi=>aA d (aJ a 169 [b] e j (λa b c=>f a b c) g) (i (zD (bN [b,c]) 4 (.str []) 11 h 17 d) e j)) λa=>aA i (a d) (a .zF)) λa=>ae true i (l (ag .lss d (.Z 100)) λb=>a b e j) (a Q.undef e j)) λa=>ae true i (a b d e) (a Q.undef d e)) (i (zC (bN [b,c]) 4 (.str []) 11 h) d e)
def BZ:cl X 151 [a0,aE]=vM X a0 aE:=Zk
def BY:b9 X 151 2=true:=Zk
end
end Go.Proofs.YtmipngjbcdamjaaGreatDoor

