/- A part of the proof of the claim's last text: what it is used for is said there; no condition of its own. -/
import Derived.Test.YtpfajohmofnkfaaGreatDoorYu
set_option maxHeartbeats 8000000
set_option linter.unusedVariables false
set_option linter.unusedSimpArgs false
namespace Go.Proofs.YtpfajohmofnkfaaGreatDoor
open Go.al Go.bh
noncomputable section
mutual
def uV{is:Type}(step:is->bM->is×Bool):is->bM->is
 |s, .mk B I nm no t n args=>if (step s (.mk B I nm no t n args)).2=true then wB step (step s (.mk B I nm no t n args)).1 args else(step s (.mk B I nm no t n args)).1
def wB{is:Type}(step:is->bM->is×Bool):is->List bM->is
 |s,[]=>s
 |s,E::l=>wB step (uV step s E) l
end
theorem aty{is:Type}(step:is->bM->is×Bool)(s:is)(E:bM):uV step s E=if (step s E).2=true then wB step (step s E).1 E.args else(step s E).1:=by
 cases E;rw[uV];rfl
theorem asc{E I:bM}(a:I∈E.args):SizeOf.sizeOf I<SizeOf.sizeOf E:=by
 cases E with
 |mk B at_ nm no t n args=>
  have cv:I∈args:=a
  have:=List.sizeOf_lt_of_mem cv
  simp
  omega
section
variable{X:cD}{h V bb aV:U an}{k av aQ bp:Nat}
theorem atz(aA:d7 X){is:Type}(step:is->bM->is×Bool)(P:Nat->Prop)(dF:is->U an->Nat->Prop)(ft:U an)(eS:bM->H->Prop)(jz:∀E b bx cN br,eS E (.ptr b 0)->ao X ft (.ptr b 8)=some bx->ej X ft P cN bx 1 (br.map λv=>[v])->dq X ft P E.args br->∀(i:Nat) I w,E.args[i]? =some I->br[i]? =some w->eS I w)(B:Nat)(Bv lg:List H)
 (qy:∀(s:is) (E:bM) (v:H) (h:U an) (k:Nat),dF s h k->eS E v->cP X h P E v->(∀j,P j->ab X h j=ab X ft j)->a6 X B ((Bv++[v])++lg) h k (λad V av=>ad= .bool (step s E).2/\dF (step s E).1 V av/\∀j,P j->ab X V j=ab X h j) (λ_ _ _=>False)):
 ∀(N:Nat) (E:bM),SizeOf.sizeOf E<N->∀(s:is) (v:H) (h:U an) (k:Nat),dF s h k->eS E v->cP X h P E v->(∀j,P j->ab X h j=ab X ft j)->
  a6 X 18 [v, .func (.func B) Bv lg] h k (λad V av=>ad= .tuple []/\dF (uV step s E) V av/\∀j,P j->ab X V j=ab X h j) (λ_ _ _=>False):=by
 intro N
 induction N with
 |zero=>intro E a;omega
 |succ N ah=>
  intro E jy s v h k ge S aW GY
  refine dj (aez X) (aA.none _ _ rfl) ?_
  rw[aeA]
  unfold Tb
  obtain⟨b,bx,cN,br,rfl,ai,_,_,_,_,_,_,_,_,kc,dp,has⟩:=id aW.open
  have fw:=dp.len
  have HJ:=has.len
  rw[Zu,HJ]at fw
  have lm:=dp.many
  rw[Zu,HJ]at lm
  rw[aty]
  refine cx @L6 ⟨?_⟩
  refine(qy s E _ h k ge S aW GY).Zm ?_
  rintro ad bb aQ ⟨rfl,Wv,mu⟩
  cases aux:(step s E).2 with
  |false=>
   refine c0 ⟨?_⟩
   exact⟨rfl,Wv,mu⟩
  |true=>
   have FV:ao X bb (.ptr b 8)=some bx:=by rw[c4,mu b ai, <-c4];exact kc
   refine dc @FV @fw ⟨?_⟩
   refine f8 (λm J V aY=>∃(aa:Nat) (fZ:is),J.g 1=some (.func (.func B) Bv lg)/\J.g 17=some bx/\J.g 18=some (.int .i64 (E.args.length:Int))/\J.g 19=some (.int .i64 (aa:Int))/\aa+m=E.args.length/\dF fZ V aY/\(∀j,P j->ab X V j=ab X h j)/\wB step (step s E).1 E.args=wB step fZ (E.args.drop aa))
    E.args.length ⟨0,_,bv,bv,bv,gL,Zo,Wv,mu,rfl⟩ ?_
   rintro m J aV bp ⟨aa,fZ,t1,acb,Fs,jS,bK,yW,jO,bL⟩
   cases m with
   |zero=>
    have d:decide ((aa:Int)<(E.args.length:Int))=false:=by simp only[Zb];omega
    rw[Z1 Zo,wB]at bL
    refine e8 @jS @Fs @d ⟨?_⟩
    exact⟨rfl,by simp only[ZB];rw[bL];exact yW,jO⟩
   |succ m=>
    have d:decide ((aa:Int)<(E.args.length:Int))=true:=by simp only[Zh];omega
    have bF:aL .add (.int .i64 (aa:Int)) (.int .i64 1)=some (.int .i64 ((aa+1:Nat):Int)):=by rw[eQ Zo Zo];rfl
    obtain⟨I,aG⟩:∃I,E.args[aa]? =some I:=⟨_,Zf Zo⟩
    have aI:E.args.drop aa=I::E.args.drop (aa+1):=by
     obtain⟨ag,T⟩:=Zc.1 aG
     rw[ZA ag,T]
    obtain⟨w,nw,OZ⟩:=has.get aa I aG
    obtain⟨b9,b3,g3⟩:=(dp.af jO).one nw
    rw[aI,wB]at bL
    refine e0 @jS @Fs @acb @t1 @d @b9 @b3 ⟨?_⟩
    have eg:=asc (Zp aG)
    refine(ah I Zo fZ w aV bp yW (jz E b bx cN br S (by rw[c4, <-GY b ai, <-c4];exact kc) (dp.af λj T=>(GY j T).symm) (dq.af (λj T=>(GY j T).symm) _ _ has) aa I w aG nw) (cP.af jO _ _ OZ) (λj T=>(jO j T).trans (GY j T))).Zm ?_
    rintro ad bo bw ⟨rfl,lB,n1⟩
    refine dc @jS @bF ⟨?_⟩
    exact⟨m,Zo,aa+1,_,bn t1,bn acb,bn Fs,bv,Zo,lB,λj T=>by rw[n1 j T,jO j T],bL⟩
theorem acD(aA:d7 X){is:Type}(step:is->bM->is×Bool)(P:Nat->Prop)(dF:is->U an->Nat->Prop)(B:Nat)(Bv lg:List H)
 (qy:∀(s:is) (E:bM) (v:H) (h:U an) (k:Nat),dF s h k->cP X h P E v->a6 X B ((Bv++[v])++lg) h k (λad V av=>ad= .bool (step s E).2/\dF (step s E).1 V av/\∀j,P j->ab X V j=ab X h j) (λ_ _ _=>False))
 (N:Nat)(E:bM)(jy:SizeOf.sizeOf E<N)(s:is)(v:H)(h:U an)(k:Nat)(ge:dF s h k)(aW:cP X h P E v):
  a6 X 18 [v, .func (.func B) Bv lg] h k (λad V av=>ad= .tuple []/\dF (uV step s E) V av/\∀j,P j->ab X V j=ab X h j) (λ_ _ _=>False):=
 atz aA step P dF h (λ_ _=>True) (λ_ _ _ _ _ _ _ _ _ _ _ _ _ _=>trivial) B Bv lg (λs E v h k ge _ aW _=>qy s E v h k ge aW) N E jy s v h k ge trivial aW (λ_ _=>rfl)
end
end
end Go.Proofs.YtpfajohmofnkfaaGreatDoor

namespace Go.Proofs.YtpfajohmofnkfaaGreatDoor
open Go.al Go.bh
noncomputable section
def fJ(X:cD)(h:U an)(cO:Nat)(p:H)(B:Int)(dC c3:H)(f:Int×Int):Prop:=ab X h cO=some (.cells (U.ofList [p, .int .i64 B,dC,c3, .int .i64 f.1, .int .i64 f.2] 0 .nil) 6 .own)
def lS(f:Int×Int)(c I:Int):Int×Int:=if f.1=0 then(c,I)else f
section
variable{X:cD}{h V bb aV:U an}{k av aQ bp:Nat}
theorem vq(aA:d7 X){cO:Nat}{p dC c3:H}{B:Int}{f:Int×Int}(aS:(y X).bj<=cO)(ay:fJ X h cO p B dC c3 f)(c I:Int):
 a6 X 119 [.ptr cO 0, .int .i64 c, .int .i64 I] h k (λad V av=>ad= .tuple []/\fJ X V cO p B dC c3 (lS f c I)/\k<=av/\∀j,j≠cO->ab X V j=ab X h j) (λ_ _ _=>False):=by
 refine dj (adl X) (aA.none _ _ rfl) ?_
 rw[adm]
 unfold SB
 obtain⟨ez,eT⟩:=f
 have alm:=ay
 unfold fJ at ay
 have gE:ao X h (.ptr cO 4)=some (.int .i64 ez):=by rw[bW ay];rfl
 by_cases ci:ez=0
 ·have d:decide (ez=0)=true:=by simp[ci]
  refine hH ⟨?_⟩
  refine hH ⟨?_⟩
  refine hH ⟨?_⟩
  refine dc @gE @d ⟨?_⟩
  refine⟨rfl, ?_,Zj _,λj T=>aK Zo T⟩
  unfold fJ lS
  rw[bq Zo]
  simp only[ci,ZB]
  rfl
 ·have d:decide (ez=0)=false:=by simp[ci]
  refine dc @gE @d ⟨?_⟩
  refine⟨rfl, ?_,Zj _,λ_ _=>rfl⟩
  unfold lS
  simp only[ci,Zx]
  exact alm
def m3(E:bM):Bool:=decide (E.kind=2)||decide (E.kind=6)||decide (E.kind=24)
theorem apE(aA:d7 X){P:Nat->Prop}{E:bM}{v:H}(aW:cP X h P E v):
 a6 X 179 [v] h k (λad V av=>ad= .bool (m3 E)/\V=h/\k<=av) (λ_ _ _=>False):=by
 refine dj (aeh X) (aA.none _ _ rfl) ?_
 rw[aei]
 unfold Ta
 obtain⟨b,rfl,ai,a0⟩:=aW.ptr
 by_cases R:E.kind=2
 ·have d:decide (E.kind=2)=true:=by simp[R]
  refine dc @a0 @d ⟨?_⟩
  exact⟨by simp[m3,R],rfl,Zo⟩
 ·have d:decide (E.kind=2)=false:=by simp[R]
  by_cases cr:E.kind=6
  ·have hF:decide (E.kind=6)=true:=by simp[cr]
   refine e8 @a0 @d @hF ⟨?_⟩
   exact⟨by simp[m3,cr],rfl,Zo⟩
  ·have hF:decide (E.kind=6)=false:=by simp[cr]
   refine e8 @a0 @d @hF ⟨?_⟩
   exact⟨by simp[m3,R,cr],rfl,Zo⟩
end
end
end Go.Proofs.YtpfajohmofnkfaaGreatDoor

namespace Go.Proofs.YtpfajohmofnkfaaGreatDoor
open Go.al Go.bh
noncomputable section
def i7(E:a1×H×Nat):H×H×Nat:=(.str E.1,E.2.1,E.2.2)
variable{bs:Type}[DecidableEq bs]
def lU:List (bs×H×Nat)->bs->Nat->Option (Nat×H)
 |[],_,_=>none
 |x::ca,w,i=>if x.1=w then some (i,x.2.1)else lU ca w (i+1)
def o4(ca:List (bs×H×Nat))(w:bs):Option H:=(lU ca w 0).map Prod.snd
theorem Ob(w:bs):∀(ca:List (bs×H×Nat)) (i:Nat),lU ca w (i+1)=(lU ca w i).map λp=>(p.1+1,p.2):=by
 intro ca
 induction ca with
 |nil=>intro i;rfl
 |cons x ca ah=>
  intro i
  simp only[lU]
  split
  ·rfl
  ·exact ah (i+1)
theorem wc(x:bs×H×Nat)(ca:List (bs×H×Nat))(w:bs):o4 (x::ca) w=if x.1=w then some x.2.1 else o4 ca w:=by
 unfold o4
 simp only[lU]
 split
 ·rfl
 ·rw[Ob];cases lU ca w 0<;>rfl
theorem VK(w:bs):∀(ca:List (bs×H×Nat)) (aa:Nat) (v:H),lU ca w 0=some (aa,v)->∃b,ca[aa]? =some (w,v,b):=by
 intro ca
 induction ca with
 |nil=>intro aa v a;cases a
 |cons x ca ah=>
  intro aa v a
  simp only[lU]at a
  split at a
  ·rename_i E
   cases a
   exact⟨x.2.2,by simp[<-E]⟩
  ·rw[Ob]at a
   cases cf:lU ca w 0 with
   |none=>rw[cf]at a;cases a
   |some p=>
    rw[cf]at a
    simp at a
    obtain⟨rfl,rfl⟩:=a
    obtain⟨b,ai⟩:=ah p.1 p.2 cf
    exact⟨b,by simpa using ai⟩
theorem aaC(w bz:bs)(v:H)(b:Nat):∀ca:List (bs×H×Nat),o4 ca w=none->o4 (ca++[(w,v,b)]) bz=if bz=w then some v else o4 ca bz:=by
 intro ca
 induction ca with
 |nil=>
  intro _
  rw[YU,wc]
  by_cases a:bz=w
  ·simp[a]
  ·have:¬w=bz:=λE=>a E.symm
   simp[a,this]
 |cons x ca ah=>
  intro a
  rw[wc]at a
  split at a
  ·cases a
  ·rename_i ag
   rw[List.cons_append,wc,wc,ah a]
   by_cases E:x.1=bz
   ·have:¬bz=w:=λar=>ag (E.trans ar)
    simp[E,this]
   ·simp[E]
theorem aaD(w bz:bs)(v:H):∀(ca:List (bs×H×Nat)) (aa:Nat) (v0:H) (b:Nat),lU ca w 0=some (aa,v0)->o4 (ca.set aa (w,v,b)) bz=if bz=w then some v else o4 ca bz:=by
 intro ca
 induction ca with
 |nil=>intro aa v0 b a;cases a
 |cons x ca ah=>
  intro aa v0 b a
  simp only[lU]at a
  split at a
  ·rename_i E
   simp at a
   obtain⟨rfl,rfl⟩:=a
   rw[Z9,wc,wc]
   by_cases a:bz=w
   ·simp[a]
   ·have M:¬w=bz:=λar=>a ar.symm
    have R:¬x.1=bz:=λar=>a (ar.symm.trans E)
    simp[a,M,R]
  ·rename_i E
   rw[Ob]at a
   cases cf:lU ca w 0 with
   |none=>rw[cf]at a;cases a
   |some p=>
    rw[cf]at a
    simp at a
    obtain⟨rfl,rfl⟩:=a
    rw[Ya,wc,wc,ah p.1 p.2 b cf]
    by_cases R:x.1=bz
    ·have:¬bz=w:=λar=>E (R.trans ar)
     simp[R,this]
    ·simp[R]
section
variable{X:cD}{h V bb aV:U an}{k av aQ bp:Nat}
def jV(X:cD)(h:U an)(r:Nat)(l7:a1->Option H):Prop:=∃ca cw,ab X h r=some (.map (ca.map i7) cw)/\∀w,o4 ca w=l7 w
theorem jV.af{r:Nat}{l7:a1->Option H}(a:jV X h r l7)(B:ab X V r=ab X h r):jV X V r l7:=by
 obtain⟨ca,cw,M,R⟩:=a
 exact⟨ca,cw,by rw[B];exact M,R⟩
theorem E4(w:a1):lP X 20 9 (.str w)=true:=by kernel_rfl
theorem Vo(w bz:a1):mN X h 20 9 (.str w) (.str bz)=some (mb w bz):=by kernel_rfl
theorem Gz(w:a1):∀(ca:List (a1×H×Nat)) (i:Nat),findKey X h 9 (.str w) (ca.map i7) i=some (lU ca w i):=by
 intro ca
 induction ca with
 |nil=>intro i;rfl
 |cons x ca ah=>
  intro i
  simp only[Zy,i7,findKey,Vo,Ct,lU]
  by_cases a:w=x.1
  ·have:x.1=w:=a.symm
   simp[this]
  ·have:¬x.1=w:=λE=>a E.symm
   simp only[a,this,Yf,Zx]
   exact ah (i+1)
theorem aae(w:a1):nz 20 (.str w) (.str w)=true:=by
 show mb w w=true
 rw[Ct];simp
theorem xO{r:Nat}{l7:a1->Option H}(a:jV X h r l7)(bl:H)(w:a1)(ok:Bool):
 iZ X h 9 bl (.map r) (.str w) ok=some (match l7 w with|some v=>bC ok (.tuple [v, .bool true]) v|none=>bC ok (.tuple [bl, .bool false]) bl):=by
 obtain⟨ca,cw,M,R⟩:=a
 have au:=R w
 unfold o4 at au
 simp only[iZ,M,E4,eB,Gz]
 cases cf:lU ca w 0 with
 |none=>rw[cf]at au;rw[<-au];rfl
 |some p=>rw[cf]at au;rw[<-au];rfl
theorem EX{r:Nat}{l7:a1->Option H}(S:(y X).bj<=r)(a:jV X h r l7)(w:a1)(v:H):
 ∃V,qF X h k 9 (.map r) (.str w) v=some (.eW al.undef V k)/\jV X V r (λx=>if x=w then some v else l7 x)/\∀j,j≠r->ab X V j=ab X h j:=by
 obtain⟨ca,cw,M,R⟩:=a
 have aI:ke X r=true:=ml S
 cases b5:lU ca w 0 with
 |none=>
  refine⟨Go.al.bm X h r (some (.map ((ca++[(w,v,cw)]).map i7) (cw+1))), ?_,⟨ca++[(w,v,cw)],cw+1,bq S,λx=> ?_⟩,λj T=>aK S T⟩
  ·simp only[qF,M,E4,eB,Gz,b5,al.setObj,aI,eB,gK]
   rw[Yv]
   rfl
  ·rw[aaC _ _ _ _ _ (by unfold o4;rw[b5];rfl),R]
 |some p=>
  obtain⟨aa,v0⟩:=p
  obtain⟨born,ai⟩:=VK w ca aa v0 b5
  have dv:(ca.map i7)[aa]? =some (.str w,v0,born):=by rw[Zv,ai];rfl
  refine⟨Go.al.bm X h r (some (.map ((ca.set aa (w,v,born)).map i7) cw)), ?_,⟨ca.set aa (w,v,born),cw,bq S,λx=> ?_⟩,λj T=>aK S T⟩
  ·simp only[qF,M,E4,eB,Gz,b5,m5,dv,aae,al.setObj,aI,eB,gK]
   rw[List.map_set]
   rfl
  ·rw[aaD w x v ca aa v0 born b5,R]
end
end
end Go.Proofs.YtpfajohmofnkfaaGreatDoor

namespace Go.Proofs.YtpfajohmofnkfaaGreatDoor
open Go.al Go.bh
noncomputable section
structure f1 where
 kind:Int
 d:el
 eq:Int
 left:Int
def wA:f1:=⟨0,⟨[],0,dA,[],0,false⟩,0,0⟩
def ph(v:f1):List H:=[.int .i64 v.kind, .str v.d.name, .int .i64 v.d.at_, .bool v.d.ty.b, .bool v.d.ty.s, .int .i64 v.d.ty.w, .str v.d.on, .int .i64 v.d.fP, .bool v.d.no, .int .i64 v.eq, .int .i64 v.left]
def wK(X:cD)(h:U an)(P:Nat->Prop)(dC:H)(t:a1->Option f1):Prop:=∃b r,dC= .ptr b 0/\P b/\P r/\ao X h (.ptr b 0)=some (.map r)/\jV X h r (λw=>(t w).map λv=> .agg (ph v))
section
variable{X:cD}{h V bb aV:U an}{k av aQ bp:Nat}
theorem wK.af{P bR:Nat->Prop}{dC:H}{t:a1->Option f1}(a:wK X h P dC t)(B:∀j,P j->ab X V j=ab X h j)(aE:∀j,P j->bR j):wK X V bR dC t:=by
 obtain⟨b,r,M,R,au,aM,bA⟩:=a
 exact⟨b,r,M,aE b R,aE r au,by rw[c4,B b R, <-c4];exact aM,bA.af (B r au)⟩
theorem aiP(b:Nat):dn X h .eql 68 true (.ptr b 0) .cI=some (.bool false):=by kernel_rfl
theorem Ou(aA:d7 X){P:Nat->Prop}{dC:H}{t:a1->Option f1}(aS:(y X).bj<=k)(aT:wK X h P dC t)(co:∀j,P j->j<k)(w:a1):
 a6 X 34 [dC, .str w] h k (λad V av=>ad= .tuple [.agg (ph ((t w).getD wA)), .bool (t w).isSome]/\bB X h k V av) (λ_ _ _=>False):=by
 refine dj (afL X) (aA.none _ _ rfl) ?_
 rw[afM]
 unfold TU
 obtain⟨b,r,rfl,ai,S,a0,bi⟩:=aT
 have fv:=co b ai
 have Ab:=co r S
 refine qh ?_
 generalize f9:bm X h k _=bb
 have b9:ab X bb k=some (.cells (U.ofList [.int .i64 0, .str [], .int .i64 0, .bool false, .bool false, .int .i64 0, .str [], .int .i64 0, .bool false, .int .i64 0, .int .i64 0] 0 .nil) 11 .own):=by rw[<-f9,bq aS];rfl
 have b8:bB X h k bb (k+1):=by rw[<-f9];exact dR
 clear f9
 have be:ao X bb (.ptr b 0)=some (.map r):=by rw[c4,b8.af b fv, <-c4];exact a0
 have vX:=bi.af (b8.af r Ab)
 have hx:=xO vX (.agg [.int .i64 0, .str [], .int .i64 0, .bool false, .bool false, .int .i64 0, .str [], .int .i64 0, .bool false, .int .i64 0, .int .i64 0]) w true
 have Xs:iZ X bb 9 (.agg [.int .i64 0, .str [], .int .i64 0, .bool false, .bool false, .int .i64 0, .str [], .int .i64 0, .bool false, .int .i64 0, .int .i64 0]) (.map r) (.str w) true=some (.tuple [.agg (ph ((t w).getD wA)), .bool (t w).isSome]):=by
  rw[hx];cases t w<;>rfl
 clear hx
 generalize (t w).getD wA=v at*
 have uh:ph v=[.int .i64 v.kind, .str v.d.name, .int .i64 v.d.at_, .bool v.d.ty.b, .bool v.d.ty.s, .int .i64 v.d.ty.w, .str v.d.on, .int .i64 v.d.fP, .bool v.d.no, .int .i64 v.eq, .int .i64 v.left]:=rfl
 rw[uh]at Xs ⊢
 refine e8 @aiP @be @Xs ⟨?_⟩
 refine fH (iO (B:=11) (b:=k) (W:=0) (n:=11) (c:=U.ofList [.int .i64 0, .str [], .int .i64 0, .bool false, .bool false, .int .i64 0, .str [], .int .i64 0, .bool false, .int .i64 0, .int .i64 0] 0 .nil) (by simp(disch:=omega) only[aK];exact b9) aS rfl Zd Zd rfl) ?_
 generalize hI:bm X _ k _=bo
 have g3:ab X bo k=some (.cells (U.ofList [.int .i64 v.kind, .str v.d.name, .int .i64 v.d.at_, .bool v.d.ty.b, .bool v.d.ty.s, .int .i64 v.d.ty.w, .str v.d.on, .int .i64 v.d.fP, .bool v.d.no, .int .i64 v.eq, .int .i64 v.left] 0 .nil) 11 .own):=by rw[<-hI,bq aS];rfl
 have cE:bB X h k bo (k+1+1):=⟨Zo,λj T=>by rw[<-hI];simp(disch:=omega) only[aK];exact b8.af j T⟩
 clear hI
 refine cx (bW g3) ⟨?_⟩
 exact⟨rfl,cE⟩
end
end
end Go.Proofs.YtpfajohmofnkfaaGreatDoor

namespace Go.Proofs.YtpfajohmofnkfaaGreatDoor
open Go.al Go.bh
noncomputable section
def H5(t:a1->Option f1)(Z:a1->Option Int)(f:Int×Int)(w:a1)(I:Int):Int×Int:=match t w with
 |none=>lS f 23 I
 |some v=>if v.kind=1\/1<(Z w).getD 0+1 then lS f 24 I else f
def gR(Z:a1->Option Int)(w:a1):Option H:=(Z w).map λB=> .int .i64 B
section
variable{X:cD}{h V bb aV:U an}{k av aQ bp:Nat}
theorem aoO(aA:d7 X){P:Nat->Prop}{cO c3:Nat}{p dC:H}{B:Int}{t:a1->Option f1}{Z:a1->Option Int}{f:Int×Int}(aS:(y X).bj<=k)(mr:(y X).bj<=cO)(vR:(y X).bj<=c3)(xm:cO<k)(vS:c3<k)(yZ:cO≠c3)
 (ay:fJ X h cO p B dC (.map c3) f)(aT:wK X h P dC t)(co:∀j,P j->j<k/\j≠cO/\j≠c3)(f5:jV X h c3 (gR Z))(w:a1)(I:Int)(ai:0<=(Z w).getD 0/\(Z w).getD 0<4000000000000000000):
 a6 X 121 [.ptr cO 0, .str w, .int .i64 I] h k (λad V av=>ad= .tuple []/\fJ X V cO p B dC (.map c3) (H5 t Z f w I)/\jV X V c3 (gR λx=>if x=w then some ((Z w).getD 0+1)else Z x)/\k<=av/\∀j,j<k->j≠cO->j≠c3->ab X V j=ab X h j) (λ_ _ _=>False):=by
 refine dj (adp X) (aA.none _ _ rfl) ?_
 rw[adq]
 unfold SD
 have c5:ao X h (.ptr cO 2)=some dC:=by unfold fJ at ay;rw[bW ay];rfl
 refine cx @c5 ⟨?_⟩
 refine(Ou aA aS aT (λj T=>(co j T).1) w).Zm ?_
 rintro ad bb aQ ⟨rfl,b8⟩
 have jB:=b8.le
 have vO:fJ X bb cO p B dC (.map c3) f:=by unfold fJ;rw[b8.af cO xm];exact ay
 have akC:=f5.af (b8.af c3 vS)
 generalize bu:(t w).getD wA=v
 have uh:ph v=[.int .i64 v.kind, .str v.d.name, .int .i64 v.d.at_, .bool v.d.ty.b, .bool v.d.ty.s, .int .i64 v.d.ty.w, .str v.d.on, .int .i64 v.d.fP, .bool v.d.no, .int .i64 v.eq, .int .i64 v.left]:=rfl
 rw[uh]
 refine hH ⟨?_⟩
 refine hH ⟨?_⟩
 refine qh ?_
 refine hH ⟨?_⟩
 generalize dI:bm X _ aQ _=aV
 have b3:ab X aV aQ=some (.cells (U.ofList [.int .i64 v.kind, .str v.d.name, .int .i64 v.d.at_, .bool v.d.ty.b, .bool v.d.ty.s, .int .i64 v.d.ty.w, .str v.d.on, .int .i64 v.d.fP, .bool v.d.no, .int .i64 v.eq, .int .i64 v.left] 0 .nil) 11 .own):=by rw[<-dI,bq Zo];rfl
 have ct:bB X h k aV (aQ+1):=⟨Zo,λj T=>by rw[<-dI];simp(disch:=omega) only[aK];exact b8.af j T⟩
 have jO:∀j,j<aQ->ab X aV j=ab X bb j:=λj T=>by rw[<-dI];simp(disch:=omega) only[aK]
 clear dI
 have DX:fJ X aV cO p B dC (.map c3) f:=by unfold fJ;rw[jO cO Zo];exact vO
 have Wj:=akC.af (jO c3 Zo)
 have eN:ao X aV (.ptr cO 3)=some (.map c3):=by unfold fJ at DX;rw[bW DX];rfl
 have hx:iZ X aV 9 (.int .i64 0) (.map c3) (.str w) false=some (.int .i64 ((Z w).getD 0)):=by
  rw[xO Wj];unfold gR;cases Z w<;>rfl
 have bF:aL .add (.int .i64 ((Z w).getD 0)) (.int .i64 1)=some (.int .i64 ((Z w).getD 0+1)):=eQ Zo Zo
 refine e8 @eN @hx @bF ⟨?_⟩
 obtain⟨bo,mX,Wk,n1⟩:=EX (k:=aQ+1) vR Wj w (.int .i64 ((Z w).getD 0+1))
 refine kI mX ?_
 have vP:fJ X bo cO p B dC (.map c3) f:=by unfold fJ;rw[n1 cO yZ];exact DX
 rw[<-n1 aQ Zo]at b3
 have GL:jV X bo c3 (gR λx=>if x=w then some ((Z w).getD 0+1)else Z x):=by
  have:(λx=>if x=w then some (H.int .i64 ((Z w).getD 0+1))else gR Z x)=(gR λx=>if x=w then some ((Z w).getD 0+1)else Z x):=by
   funext x;unfold gR;by_cases a:x=w<;>simp[a]
  rw[<-this];exact Wk
 have K1:∀j,j<k->j≠c3->ab X bo j=ab X h j:=λj M R=>by rw[n1 j R];exact ct.af j M
 clear hx mX Wk eN
 unfold H5
 cases P7:t w with
 |none=>
  simp only[ZX,Ye]
  refine c0 ⟨?_⟩
  refine(vq (k:=aQ+1) (h:=bo) aA mr vP 23 I).Zm ?_
  rintro ad bX dd ⟨rfl,tT,jC,f6⟩
  refine c0 ⟨?_⟩
  exact⟨by first|trivial|rfl,tT,GL.af (f6 c3 Zo),Zo,λj M R au=>by rw[f6 j R];exact K1 j M au⟩
 |some gO=>
  have Ce:gO=v:=by rw[P7]at bu;exact bu
  subst Ce
  simp only[Z4,Yg]
  have fx:ao X bo (.ptr aQ 0)=some (.int .i64 gO.kind):=by rw[bW b3];rfl
  have eN:ao X bo (.ptr cO 3)=some (.map c3):=by unfold fJ at vP;rw[bW vP];rfl
  have hx:iZ X bo 9 (.int .i64 0) (.map c3) (.str w) false=some (.int .i64 ((Z w).getD 0+1)):=by
   rw[xO GL];unfold gR;simp
  by_cases M:gO.kind=1
  ·have d:decide (gO.kind=1)=true:=by simp[M]
   refine dc @fx @d ⟨?_⟩
   refine(vq (k:=aQ+1) (h:=bo) aA mr vP 24 I).Zm ?_
   rintro ad bX dd ⟨rfl,tT,jC,f6⟩
   refine c0 ⟨?_⟩
   exact⟨by first|trivial|rfl,by simp only[M,true_or,ZB];exact tT,GL.af (f6 c3 Zo),Zo,λj M R au=>by rw[f6 j R];exact K1 j M au⟩
  ·have d:decide (gO.kind=1)=false:=by simp[M]
   by_cases R:1<(Z w).getD 0+1
   ·have cG:decide (1<(Z w).getD 0+1)=true:=by simp only[Zh];exact R
    refine gd @fx @d @eN @hx @cG ⟨?_⟩
    refine(vq (k:=aQ+1) (h:=bo) aA mr vP 24 I).Zm ?_
    rintro ad bX dd ⟨rfl,tT,jC,f6⟩
    refine c0 ⟨?_⟩
    exact⟨by first|trivial|rfl,by simp only[M,R,or_true,ZB];exact tT,GL.af (f6 c3 Zo),Zo,λj M R au=>by rw[f6 j R];exact K1 j M au⟩
   ·have cG:decide (1<(Z w).getD 0+1)=false:=by simp only[Zb];exact R
    refine gd @fx @d @eN @hx @cG ⟨?_⟩
    exact⟨by first|trivial|rfl,by simp only[M,R,Yt,Zx];exact vP,GL,Zo,λj M R au=>K1 j M au⟩
end
end
end Go.Proofs.YtpfajohmofnkfaaGreatDoor

namespace Go.Proofs.YtpfajohmofnkfaaGreatDoor
open Go.al Go.bh
noncomputable section
def wq(t:a1->Option f1)(f:Int×Int)(E:bM):Int×Int:=if m3 E then(if (t E.name).isSome then f else lS f 23 E.at_)else f
def Fj(aC:List Go.bh.Node)(B:Nat)(f:Int×Int)(E:bM):Int×Int:=if E.kind=25 then(match pt aC E.name with
 |none=>lS f 23 E.at_
 |some aa=>if B<=aa then lS f 25 E.at_ else f)else f
def rZ(t:a1->Option f1)(aC:List Go.bh.Node)(B:Nat)(f:Int×Int)(E:bM):(Int×Int)×Bool:=(Fj aC B (wq t f E) E,true)
structure Dc(X:cD)(ft:U an)(bj cO:Nat)(p:H)(B:Nat)(dC c3:H)(f:Int×Int)(h:U an)(k:Nat):Prop where
 le:bj<=k
 jq:fJ X h cO p B dC c3 f
 low:∀j,j<bj->j≠cO->ab X h j=ab X ft j
section
variable{X:cD}{h V ft bb aV:U an}{k av aQ bp:Nat}
theorem arx(aA:d7 X){P:Nat->Prop}{kF cO hp:Nat}{p dC c3:H}{B:Nat}{t:a1->Option f1}{aC:List Go.bh.Node}(au3:(y X).bj<=kF)(mr:(y X).bj<=cO)(xm:cO<kF)(La:hp<kF)(K8:hp≠cO)(cf:ao X ft (.ptr hp 0)=some (.ptr cO 0))
 (co:∀j,P j->j<kF/\j≠cO)(aT:wK X ft P dC t)(bV:sc X ft P aC p){f:Int×Int}(nX:Dc X ft kF cO p B dC c3 f h k){E:bM}{v:H}(aW:cP X h P E v):
 a6 X 178 [v, .ptr hp 0] h k (λad V av=>ad= .bool true/\Dc X ft kF cO p B dC c3 (rZ t aC B f E).1 V av) (λ_ _ _=>False):=by
 refine dj (aef X) (aA.none _ _ rfl) ?_
 rw[aeg]
 unfold S9
 refine(apE aA aW).Zm ?_
 rintro ad bb aQ ⟨rfl,rfl,jB⟩
 have au5:=nX.le
 have hN:∀h,ab X h hp=ab X ft hp->ao X h (.ptr hp 0)=some (.ptr cO 0):=λh a=>by rw[c4,a, <-c4];exact cf
 refine j6 (λcT V aY=>cT.g 0=some v/\cT.g 1=some (.ptr hp 0)/\Dc X ft kF cO p B dC c3 (wq t f E) V aY/\cP X V P E v) (λaa bK=> ?_) ?_
 ·obtain⟨b,_,_,_,rfl,ai,a0,be,b2,_⟩:=id aW.open
  unfold wq at bK
  cases jg:m3 E with
  |false=>
   rw[jg]at bK
   simp only[Zt,Zx]at bK
   refine c0 ⟨?_⟩
   exact bK _ _ _ ⟨bv,bv,⟨Zo,nX.jq,nX.low⟩,aW⟩
  |true=>
   rw[jg]at bK
   simp only[ZB]at bK
   have PN:=hN bb (nX.low hp La K8)
   have c5:ao X bb (.ptr cO 2)=some dC:=by have:=nX.jq;unfold fJ at this;rw[bW this];rfl
   refine e8 @PN @c5 @b2 ⟨?_⟩
   refine eZ (λaV=>ab X aV (aQ+12)=some (.cells (U.ofList [.int .i64 0, .str [], .int .i64 0, .bool false, .bool false, .int .i64 0, .str [], .int .i64 0, .bool false, .int .i64 0, .int .i64 0] 0 .nil) 11 .own)/\bB X bb aQ aV (aQ+12+1)) ⟨by rw[bq Zo];rfl,Zo,λj T=>by simp(disch:=omega) only[aK]⟩ ?_
   rintro aV ⟨b3,ct⟩
   have cg:∀j,j<kF->ab X aV j=ab X bb j:=λj T=>ct.af j Zo
   refine(Ou (k:=aQ+15) (h:=aV) aA Zo (aT.af (bR:=P) (λj T=>by rw[cg j (co j T).1];exact nX.low j (co j T).1 (co j T).2) (λ_ a=>a)) (λj T=>by have:=(co j T).1;omega) E.name).Zm ?_
   rintro ad bo bw ⟨rfl,cE⟩
   have jf:=cE.le
   have g3:ab X bo (aQ+12)=some (.cells (U.ofList [.int .i64 0, .str [], .int .i64 0, .bool false, .bool false, .int .i64 0, .str [], .int .i64 0, .bool false, .int .i64 0, .int .i64 0] 0 .nil) 11 .own):=by rw[cE.af _ Zo];exact b3
   generalize Ce:(t E.name).getD wA=eY
   have uh:ph eY=[.int .i64 eY.kind, .str eY.d.name, .int .i64 eY.d.at_, .bool eY.d.ty.b, .bool eY.d.ty.s, .int .i64 eY.d.ty.w, .str eY.d.on, .int .i64 eY.d.fP, .bool eY.d.no, .int .i64 eY.eq, .int .i64 eY.left]:=rfl
   rw[uh]
   refine hH ⟨?_⟩
   refine hH ⟨?_⟩
   refine fH (iO (B:=11) (b:=aQ+12) (W:=0) (n:=11) g3 Zo rfl Zd Zd rfl) ?_
   generalize hw:bm X bo (aQ+12) _=bX
   have eK:∀j,j<aQ->ab X bX j=ab X bb j:=λj T=>by rw[<-hw,aK Zo Zo,cE.af j Zo,ct.af j T]
   clear hw b3 g3
   have Ks:Dc X ft kF cO p B dC c3 f bX bw:=⟨Zo,by have:=nX.jq;unfold fJ at*;rw[eK cO Zo];exact this,λj M R=>by rw[eK j Zo];exact nX.low j M R⟩
   have sK:cP X bX P E (.ptr b 0):=cP.af (λj T=>eK j (by have:=(co j T).1;omega)) _ _ aW
   have amL:=hN bX (Ks.low hp La K8)
   have age:ao X bX (.ptr b 1)=some (.int .i64 E.at_):=by rw[c4,eK b (by have:=(co b ai).1;omega), <-c4];exact be
   cases ry:(t E.name).isSome with
   |true=>
    rw[ry]at bK
    simp only[ZB]at bK
    refine c0 ⟨?_⟩
    exact bK _ _ _ ⟨bv,bv,Ks,sK⟩
   |false=>
    rw[ry]at bK
    simp only[Zt,Zx]at bK
    refine dc @amL @age ⟨?_⟩
    refine(vq (h:=bX) aA mr Ks.jq 23 E.at_).Zm ?_
    rintro ad b4 cA ⟨rfl,BN,iW,n2⟩
    refine c0 ⟨?_⟩
    exact bK _ _ _ ⟨bv,bv,⟨Zo,BN,λj M R=>by rw[n2 j R];exact Ks.low j M R⟩,cP.af (λj T=>n2 j (co j T).2) _ _ sK⟩
 ·rintro J aV bp ⟨t0,t1,BI,Hc⟩
  obtain⟨b,_,_,_,rfl,ai,a0,be,b2,_⟩:=id Hc.open
  have gZ:=BI.le
  show am _ _
  by_cases lW:E.kind=25
  ·have d:decide (E.kind=25)=true:=by simp[lW]
   have PN:=hN aV (BI.low hp La K8)
   have fx:ao X aV (.ptr cO 0)=some p:=by have:=BI.jq;unfold fJ at this;rw[bW this];rfl
   refine e0 @t0 @t1 @a0 @d @PN @fx @b2 ⟨?_⟩
   refine(VH (k:=bp+14) (h:=aV) aA Zo (bV.af (bR:=P) (λj T=>BI.low j (co j T).1 (co j T).2) (λ_ a=>a)) (λj T=>by have:=(co j T).1;omega) E.name).Zm ?_
   rintro ad bo bw ⟨rfl,cE⟩
   have jf:=cE.le
   have BJ:Dc X ft kF cO p B dC c3 (wq t f E) bo bw:=⟨Zo,by have:=BI.jq;unfold fJ at*;rw[cE.af cO Zo];exact this,λj M R=>by rw[cE.af j Zo];exact BI.low j M R⟩
   have PO:=hN bo (BJ.low hp La K8)
   have Uc:ao X bo (.ptr b 1)=some (.int .i64 E.at_):=by rw[c4,cE.af b (by have:=(co b ai).1;omega), <-c4];exact be
   have eh:ao X bo (.ptr cO 1)=some (.int .i64 (B:Int)):=by have:=BJ.jq;unfold fJ at this;rw[bW this];rfl
   cases b5:pt aC E.name with
   |none=>
    have S:(rZ t aC B f E).1=lS (wq t f E) 23 E.at_:=by simp[rZ,Fj,lW,b5]
    rw[S]
    simp only[ZX]
    refine hk @t0 @t1 @PO @Uc ⟨?_⟩
    refine(vq (h:=bo) aA mr BJ.jq 23 E.at_).Zm ?_
    rintro ad b4 cA ⟨rfl,BN,iW,n2⟩
    refine c0 ⟨?_⟩
    exact⟨by first|trivial|rfl,Zo,BN,λj M R=>by rw[n2 j R];exact BJ.low j M R⟩
   |some aa=>
    simp only[Z4,Yw]
    by_cases KV:B<=aa
    ·have cG:decide ((B:Int)<=(aa:Int))=true:=by simp only[Zh];omega
     have S:(rZ t aC B f E).1=lS (wq t f E) 25 E.at_:=by simp[rZ,Fj,lW,b5,KV]
     rw[S]
     refine iJ @t0 @t1 @PO @Uc @eh @cG ⟨?_⟩
     refine(vq (h:=bo) aA mr BJ.jq 25 E.at_).Zm ?_
     rintro ad b4 cA ⟨rfl,BN,iW,n2⟩
     refine c0 ⟨?_⟩
     exact⟨by first|trivial|rfl,Zo,BN,λj M R=>by rw[n2 j R];exact BJ.low j M R⟩
    ·have cG:decide ((B:Int)<=(aa:Int))=false:=by simp only[Zb];omega
     have S:(rZ t aC B f E).1=wq t f E:=by simp[rZ,Fj,lW,b5,KV]
     rw[S]
     refine gd @t0 @t1 @PO @eh @cG ⟨?_⟩
     exact⟨by first|trivial|rfl,BJ⟩
  ·have d:decide (E.kind=25)=false:=by simp[lW]
   have S:(rZ t aC B f E).1=wq t f E:=by simp[rZ,Fj,lW]
   rw[S]
   refine e8 @t0 @a0 @d ⟨?_⟩
   exact⟨by first|trivial|rfl,BI⟩
end
end
end Go.Proofs.YtpfajohmofnkfaaGreatDoor

namespace Go.Proofs.YtpfajohmofnkfaaGreatDoor
open Go.al Go.bh
noncomputable section
def Mg(t:a1->Option f1)(aC:List Go.bh.Node)(B:Nat)(f:Int×Int)(E:bM):Int×Int:=uV (rZ t aC B) f E
section
variable{X:cD}{h:U an}{k:Nat}
theorem arz(aA:d7 X){P:Nat->Prop}{cO:Nat}{p dC c3:H}{B:Nat}{t:a1->Option f1}{aC:List Go.bh.Node}(aS:(y X).bj<=k)(mr:(y X).bj<=cO)(xm:cO<k)
 (co:∀j,P j->j<k/\j≠cO)(aT:wK X h P dC t)(bV:sc X h P aC p){f:Int×Int}(ay:fJ X h cO p B dC c3 f){E:bM}{v:H}(aW:cP X h P E v):
 a6 X 122 [.ptr cO 0,v] h k (λad V av=>ad= .tuple []/\fJ X V cO p B dC c3 (Mg t aC B f E)/\k<=av/\∀j,j<k->j≠cO->ab X V j=ab X h j) (λ_ _ _=>False):=by
 refine dj (adr X) (aA.none _ _ rfl) ?_
 rw[ads]
 unfold SE
 refine c0 ⟨?_⟩
 refine eZ (λbb=>ab X bb k=some (.cells (U.ofList [.ptr cO 0] 0 .nil) 1 .own)/\bB X h k bb (k+1)) ⟨bq aS,dR⟩ ?_
 rintro bb ⟨b9,b8⟩
 have Qm:∀j,P j->ab X bb j=ab X h j:=λj T=>b8.af j (co j T).1
 have cf:ao X bb (.ptr k 0)=some (.ptr cO 0):=by rw[bW b9];rfl
 refine(acD aA (rZ t aC B) P (Dc X bb (k+1) cO p B dC c3) 178 [] [.ptr k 0] (λs E v aV bp ge Hc=> ?_) (SizeOf.sizeOf E+1) E Zo f v bb (k+1) ⟨Zj _,by unfold fJ at*;rw[b8.af cO xm];exact ay,λ_ _ _=>rfl⟩ (cP.af Qm _ _ aW)).Zm ?_
 ·refine(arx aA Zo mr Zo Zo Zo cf (λj T=>⟨by have:=(co j T).1;omega,(co j T).2⟩) (aT.af (bR:=P) Qm (λ_ a=>a)) (bV.af (bR:=P) Qm (λ_ a=>a)) ge Hc).Zm ?_
  rintro ad bo bw ⟨rfl,nX⟩
  exact⟨rfl,nX,λj T=>by have:=co j T;rw[nX.low j Zo this.2,ge.low j Zo this.2]⟩
 ·rintro ad aV bp ⟨rfl,nX,_⟩
  refine c0 ⟨?_⟩
  have:=nX.le
  exact⟨by first|trivial|rfl,nX.jq,Zo,λj M R=>by rw[nX.low j Zo R,b8.af j M]⟩
end
end
end Go.Proofs.YtpfajohmofnkfaaGreatDoor

namespace Go.Proofs.YtpfajohmofnkfaaGreatDoor
open Go.al Go.bh
noncomputable section
def eC(g:Go.bh.Node):List (Int×el):=(g.eM.map λd=>(1,d))++((g.out.map λd=>(2,d))++(g.loc.map λd=>(3,d)))
def jI(g:Go.bh.Node):Nat->List el
 |0=>g.eM
 |1=>g.out
 |_=>g.loc
def mB(g:Go.bh.Node):Nat->Nat
 |0=>0
 |1=>g.eM.length
 |2=>g.eM.length+g.out.length
 |_=>g.eM.length+g.out.length+g.loc.length
theorem Q1(g:Go.bh.Node){B:Nat}(aP:B<3):mB g (B+1)=mB g B+(jI g B).length:=by
 match B,aP with
 |0,_=>simp[mB,jI]
 |1,_=>rfl
 |2,_=>rfl
theorem JT(g:Go.bh.Node):(eC g).length=mB g 3:=by simp[eC,mB];omega
theorem N1(g:Go.bh.Node){B:Nat}(aP:B<3){aa:Nat}{d:el}(a:(jI g B)[aa]? =some d):(eC g)[mB g B+aa]? =some (1+(B:Int),d):=by
 match B,aP,a with
 |0,_,a=>
  have bK:=(Zc.1 a).1
  simp only[jI]at a bK
  simp only[eC,mB,ZH]
  rw[Z5 (by simpa using bK),Zv,a];rfl
 |1,_,a=>
  have bK:=(Zc.1 a).1
  simp only[jI]at a bK
  simp only[eC,mB]
  rw[ZU Zs,Zu,Nat.add_sub_cancel_left,Z5 (by simpa using bK),Zv,a];rfl
 |2,_,a=>
  simp only[jI]at a
  simp only[eC,mB]
  rw[ZU (by simp;omega),Zu,ZU (by simp;omega),Zu,show g.eM.length+g.out.length+aa-g.eM.length-g.out.length=aa by omega,Zv,a];rfl
section
variable{X:cD}{h V ft bb aV:U an}{k av aQ bp:Nat}
theorem anV{C:aX}{l:Nat}{I m b:List H}{aj aw:bY}(a:yp C l (I++m) h k aj aw):nx C (.func (.yield l) I b) m h k aj aw:=⟨a⟩
theorem aim(aA:d7 X){P:Nat->Prop}{g:Go.bh.Node}{qm l dr eu eI:Nat}{dk dK bx:H}(dF:Nat->U an->Nat->Prop)
 (M:ej X ft P dr dk 8 (g.eM.map eO))(R:ej X ft P eu dK 8 (g.out.map eO))(au:ej X ft P eI bx 8 (g.loc.map eO))
 (b2:ao X h (.ptr qm 2)=some dk)(a3:ao X h (.ptr qm 3)=some dK)(a4:ao X h (.ptr qm 4)=some bx)
 (DS:∀i h k,dF i h k->(y X).bj<=k/\∀j,P j->ab X h j=ab X ft j)
 (Kt:∀i h k V av,dF i h k->bB X h k V av->dF i V av)
 (S:∀i B d h k,(eC g)[i]? =some (B,d)->dF i h k->yp X l [.int .i64 B, .agg (eO d)] h k (λad V av=>ad= .bool true/\dF (i+1) V av) (λ_ _ _=>False))
 (ci:dF 0 h k):a6 X 132 [.func (.yield l) [] [], .ptr qm 0] h k (λ_ V av=>dF (eC g).length V av) (λ_ _ _=>False):=by
 refine dj (adv X) (aA.none _ _ rfl) ?_
 rw[adw]
 unfold SG
 have Ca:∀B,B<3->∃s b,[dk,dK,bx][B]? =some s/\ej X ft P b s 8 ((jI g B).map eO):=by
  intro B aP
  match B,aP with
  |0,_=>exact⟨dk,dr,rfl,M⟩
  |1,_=>exact⟨dK,eu,rfl,R⟩
  |2,_=>exact⟨bx,eI,rfl,au⟩
 have ahC:=(lo M.len).1
 have ahG:=(lo R.len).1
 have wT:=(lo au.len).1
 have ih:ey [.aU, .aU, .aU] [(0,1,dk),(1,1,dK),(2,1,bx)]=some (.agg [dk,dK,bx]):=by
  simp[ey,pr,ps,lu,ahC,ahG,wT]
 refine e8 @b2 @a3 @a4 ⟨?_⟩
 refine fH ih ?_
 refine c0 ⟨?_⟩
 refine f8 (λm J V aY=>∃(B:Nat),J.g 0=some (.func (.yield l) [] [])/\J.g 13=some (.agg [dk,dK,bx])/\J.g 14=some (.int .i64 (B:Int))/\B+m=3/\dF (mB g B) V aY)
  3 ⟨0,bv,bv,gL,Zo,ci⟩ ?_
 rintro m J aV bp ⟨B,t0,lv,nK,aP,yW⟩
 cases m with
 |zero=>
  have d:decide ((B:Int)<3)=false:=by simp only[Zb];omega
  refine dc @nK @d ⟨?_⟩
  rw[JT]
  have:B=3:=Zo
  subst this
  exact yW
 |succ m=>
  have d:decide ((B:Int)<3)=true:=by simp only[Zh];omega
  obtain⟨s,b,aH,dp⟩:=Ca B Zo
  have eG:pV false 3 1 (.agg [dk,dK,bx]) (.int .i64 (B:Int))=some s:=by
   have au:Nat.blt B 3=true:=by simp[Nat.blt];omega
   simp only[pV,p2,au,eB,iF,m5,Yd]
   exact aH
  have fw:=dp.len
  have lm:=dp.many
  rw[Zu]at fw lm
  refine gd @nK @lv @d @eG @fw ⟨?_⟩
  refine f8 (λm J V aY=>∃(aa:Nat),J.g 0=some (.func (.yield l) [] [])/\J.g 13=some (.agg [dk,dK,bx])/\J.g 14=some (.int .i64 (B:Int))/\J.g 3=some (.int .i64 (B:Int))/\J.g 18=some s/\J.g 19=some (.int .i64 ((jI g B).length:Int))/\J.g 20=some (.int .i64 (aa:Int))/\aa+m=(jI g B).length/\dF (mB g B+aa) V aY)
   (jI g B).length ⟨0,bn t0,bn lv,bn nK,bv,bv,bv,gL,Zo,yW⟩ ?_
  rintro fY cT bo bw ⟨aa,t0,lv,nK,t3,Fs,jS,C1,bK,lB⟩
  cases fY with
  |zero=>
   have d:decide ((aa:Int)<((jI g B).length:Int))=false:=by simp only[Zb];omega
   have bF:aL .add (.int .i64 (B:Int)) (.int .i64 1)=some (.int .i64 ((B+1:Nat):Int)):=by rw[eQ Zo Zo];rfl
   refine gd @C1 @jS @nK @d @bF ⟨?_⟩
   refine⟨m,Zo,B+1,bn t0,bn lv,bv,Zo, ?_⟩
   rw[Q1 g Zo]
   have:aa=(jI g B).length:=Zo
   rw[<-this]
   exact lB
  |succ fY=>
   have d:decide ((aa:Int)<((jI g B).length:Int))=true:=by simp only[Zh];omega
   have bF:aL .add (.int .i64 (aa:Int)) (.int .i64 1)=some (.int .i64 ((aa+1:Nat):Int)):=by rw[eQ Zo Zo];rfl
   have cB:aL .add (.int .i64 1) (.int .i64 (B:Int))=some (.int .i64 (1+(B:Int))):=eQ Zo Zo
   obtain⟨aB,aI⟩:∃aB,(jI g B)[aa]? =some aB:=⟨_,Zf Zo⟩
   obtain⟨y4,ak2⟩:=DS _ _ _ lB
   have rz:=dp.ik aa (by rw[Zu];omega)
   have fN:=(dp.af ak2).row (i:=aa) (r:=eO aB) Zd (by rw[Zv,aI];rfl)
   have je:eO aB=[.str aB.name, .int .i64 aB.at_, .bool aB.ty.b, .bool aB.ty.s, .int .i64 aB.ty.w, .str aB.on, .int .i64 aB.fP, .bool aB.no]:=rfl
   rw[je]at fN
   refine iJ @C1 @jS @Fs @d @rz @fN ⟨?_⟩
   generalize hw:bm X _ bw _=bX
   have ec:ab X bX bw=some (.cells (U.ofList [.str aB.name, .int .i64 aB.at_, .bool aB.ty.b, .bool aB.ty.s, .int .i64 aB.ty.w, .str aB.on, .int .i64 aB.fP, .bool aB.no] 0 .nil) 8 .own):=by rw[<-hw,bq y4];rfl
   have dN:bB X bo bw bX (bw+1):=⟨Zo,λj T=>by rw[<-hw];simp(disch:=omega) only[aK]⟩
   clear hw
   refine hk @t0 @t3 @cB (bW ec) ⟨?_⟩
   refine anV ((S _ _ _ _ _ (N1 g Zo aI) (Kt _ _ _ _ _ lB dN)).mono ?_ (λ_ _ _ a=>False.elim a))
   rintro ad b4 cA ⟨rfl,hV⟩
   refine dc @C1 @bF ⟨?_⟩
   exact⟨fY,Zo,aa+1,bn t0,bn lv,bn nK,bn t3,bn Fs,bn jS,bv,Zo,hV⟩
theorem JV(aA:d7 X){P:Nat->Prop}{g:Go.bh.Node}{n fe hg qm dr eu eI:Nat}{dk dK bx:H}{d6 bg:I5}{aj:ga}{E:Nat->ga}{r:ga}{aw:sd}{J:dw}(dF:Nat->U an->Nat->Prop)
 (aS:(y X).bj<=k)(d3:fe<n)(dh:hg<n)(Pf:qm<k)
 (M:ej X h P dr dk 8 (g.eM.map eO))(R:ej X h P eu dK 8 (g.out.map eO))(au:ej X h P eI bx 8 (g.loc.map eO))
 (b2:ao X h (.ptr qm 2)=some dk)(a3:ao X h (.ptr qm 3)=some dK)(a4:ao X h (.ptr qm 4)=some bx)
 (DS:∀i V aY,dF i V aY->k+2<=aY/\∀j,P j->ab X V j=ab X h j)
 (Kt:∀i bb aQ aV bp,dF i bb aQ->aQ<=bp->(∀j,j<aQ->j≠k+1->ab X aV j=ab X bb j)->dF i aV bp)
 (ci:∀V,bB X h k V (k+2)->dF 0 V (k+2))
 (am1:∀mk i B d bb aQ,(eC g)[i]? =some (B,d)->dF i bb aQ->ab X bb k=some (.deferred (some []))->ab X bb (k+1)=some (mk .ready none)->
  rY X d6 bg (k+1) mk (λad V aY=>ad= .bool true/\dF (i+1) V aY/\ab X V k=some (.deferred (some []))/\ab X V (k+1)=some (mk .ready none)) (λ_ _ _=>False) (ac (ac J fe (.int .i64 B)) hg (.agg (eO d))) bb aQ)
 (BV:∀V aY,dF (eC g).length V aY->ab X V k=some (.deferred (some []))->aj (uB J k) V aY):
 CO X n (.func (.func 132) [] [.ptr qm 0]) [fe,hg] (rY X d6 bg) aj E r aw J h k:=by
 refine⟨aS, ?_⟩
 intro mk Hp
 refine US (aA.none _ _ rfl) ?_
 generalize f9:bm X (bm X h k _) (k+1) _=bb
 have iK:ab X bb k=some (.deferred (some [])):=by rw[<-f9,aK Zo Zo,bq aS]
 have ig:ab X bb (k+1)=some (mk .ready none):=by rw[<-f9,bq Zo]
 have b8:bB X h k bb (k+2):=⟨Zo,λj T=>by rw[<-f9];simp(disch:=omega) only[aK]⟩
 clear f9
 have Wu:=ci bb b8
 obtain⟨_,Kv⟩:=DS _ _ _ Wu
 refine(aim (l:=k+1) aA (λi V aY=>dF i V aY/\ab X V k=some (.deferred (some []))/\ab X V (k+1)=some (mk .ready none)) (M.af Kv) (R.af Kv) (au.af Kv)
  (by rw[b8.fy _ _ Pf];exact b2) (by rw[b8.fy _ _ Pf];exact a3) (by rw[b8.fy _ _ Pf];exact a4)
  (λi V aY a=> ?_) (λi bb aQ aV bp a b7=> ?_) (λi B d bb aQ aN a=> ?_) ⟨Wu,iK,ig⟩).Zm ?_
 ·obtain⟨cb,b1⟩:=DS _ _ _ a.1
  exact⟨Zo,λj T=>by rw[b1 j T,Kv j T]⟩
 ·obtain⟨cb,b1⟩:=DS _ _ _ a.1
  exact⟨Kt _ _ _ _ _ a.1 b7.le (λj T _=>b7.af j T),by rw[b7.af _ Zo];exact a.2.1,by rw[b7.af _ Zo];exact a.2.2⟩
 ·refine Hp _ _ _ _ _ a.2.2 ?_
  have bF:Nat.blt fe n=true:=by simp[Nat.blt];omega
  have cB:Nat.blt hg n=true:=by simp[Nat.blt];omega
  simp only[Fm,bF,cB,eB]
  exact am1 mk i B d bb aQ aN a.1 a.2.1 a.2.2
 ·rintro ad aV bp ⟨yW,ajU,aj1⟩
  obtain⟨cb,b1⟩:=DS _ _ _ yW
  refine⟨.ready,none,Zs,aj1, ?_⟩
  show aj _ _ _
  exact BV _ _ (Kt _ _ _ _ _ yW (Zj _) (λj T Lm=>aK Zo Lm)) (by rw[aK Zo Zo];exact ajU)
end
end
end Go.Proofs.YtpfajohmofnkfaaGreatDoor

namespace Go.Proofs.YtpfajohmofnkfaaGreatDoor
open Go.al Go.bh
noncomputable section
theorem qn{α er:Type}(st:er->α->er)(s:er){l:List α}{i:Nat}{x:α}(a:l[i]? =some x):(l.take (i+1)).foldl st s=st ((l.take i).foldl st s) x:=by
 rw[zb,a,List.foldl_append];rfl
def ld(s:(a1->Option Int)×(Int×Int))(x:Int×el):(a1->Option Int)×(Int×Int):=
 (λw=>if w=x.2.name then some x.1 else s.1 w,if 0<(s.1 x.2.name).getD 0 then lS s.2 24 x.2.at_ else s.2)
def ql(t:a1->Option f1)(f:Int×Int)(x:Int×el):Int×Int:=if t x.2.on=none/\x.2.on≠[]then lS f 23 x.2.fP else f
def sq(t:a1->Option f1)(g:Go.bh.Node)(f:Int×Int):Int×Int:=(eC g).foldl (ql t) ((eC g).foldl ld (λ_=>none,f)).2
section
variable{X:cD}{h V ft bb aV:U an}{k av aQ bp:Nat}
theorem JU(aA:d7 X){nm dk dK bx fG:H}{I:H}(aS:(y X).bj<=k):
 a6 X 78 [.agg [nm,I,dk,dK,bx,fG]] h k (λad V av=>ad= .func (.func 132) [] [.ptr k 0]/\av=k+1/\bB X h k V av/\ao X V (.ptr k 2)=some dk/\ao X V (.ptr k 3)=some dK/\ao X V (.ptr k 4)=some bx) (λ_ _ _=>False):=by
 refine dj (afZ X) (aA.none _ _ rfl) ?_
 rw[af0]
 unfold T1
 refine c0 ⟨?_⟩
 exact⟨rfl,rfl,dR,by rw[bW (bq aS)];rfl,by rw[bW (bq aS)];rfl,by rw[bW (bq aS)];rfl⟩
structure qY(X:cD)(et:U an)(cX cO mA:Nat)(p:H)(B:Int)(dC c3:H)(f:Int×Int)(Z:a1->Option Int)(h:U an)(n:Nat):Prop where
 le:cX+2<=n
 jq:fJ X h cO p B dC c3 f
 seen:jV X h mA (gR Z)
 low:∀j,j<cX->j≠cO->j≠mA->ab X h j=ab X et j
theorem qY.af{et:U an}{cX cO mA:Nat}{p dC c3:H}{B:Int}{f:Int×Int}{Z:a1->Option Int}(a:qY X et cX cO mA p B dC c3 f Z bb aQ)(mr:cO<cX)(Hn:mA<cX)(aS:aQ<=bp)(aP:∀j,j<aQ->j≠cX+1->ab X aV j=ab X bb j):qY X et cX cO mA p B dC c3 f Z aV bp:=by
 have fX:=a.le
 refine⟨Zo, ?_,a.seen.af (aP _ Zo Zo),λj M R au=>by rw[aP j Zo Zo];exact a.low j M R au⟩
 have:=a.jq
 unfold fJ at*
 rw[aP _ Zo Zo];exact this
theorem ahU(aA:d7 X){P:Nat->Prop}{cO:Nat}{p dC c3:H}{B:Int}{t:a1->Option f1}{g:Go.bh.Node}{row:List H}(aS:(y X).bj<=k)(mr:(y X).bj<=cO)(xm:cO<k)
 (co:∀j,P j->j<k/\j≠cO)(aT:wK X h P dC t){f:Int×Int}(ay:fJ X h cO p B dC c3 f)(bV:pj X h P g row)(pH:True):
 a6 X 120 [.ptr cO 0, .agg row] h k (λad V av=>ad= .tuple []/\fJ X V cO p B dC c3 (sq t g f)/\k<=av/\∀j,j<k->j≠cO->ab X V j=ab X h j) (λ_ _ _=>False):=by
 refine Jz (adn X) (aA.none _ _ rfl) ?_
 rw[ado]
 unfold SC
 obtain⟨dk,dK,bx,fG,dr,eu,eI,jZ,b6,rfl,ru,rv,rx,ms,e2⟩:=bV
 refine c0 ⟨?_⟩
 refine eZ (λbb=>ab X bb k=some (.cells (U.ofList [.ptr cO 0] 0 .nil) 1 .own)/\ab X bb (k+1)=some (.cells (U.ofList [.str g.name, .int .i64 g.at_,dk,dK,bx,fG] 0 .nil) 6 .own)
  /\ab X bb (k+1+1)=some (.map [] 0)/\ao X bb (.ptr (k+1+1+1) 0)=some (.map (k+1+1))/\bB X h k bb (k+1+1+1+1)) ⟨by(first|assumption|(simp(disch:=omega) only[bq,aK]<;>rfl)|(simp(disch:=omega) only[bq,aK])),by(first|assumption|(simp(disch:=omega) only[bq,aK]<;>rfl)|(simp(disch:=omega) only[bq,aK])),by(first|assumption|(simp(disch:=omega) only[bq,aK]<;>rfl)|(simp(disch:=omega) only[bq,aK])),by rw[c4,bq Zo];rfl,dR⟩ ?_
 rintro bb ⟨jK,b9,b3,g3,b8⟩
 refine(JU aA Zo).Zm ?_
 rintro ad aV bp ⟨rfl,rfl,ct,b1,dT,fc⟩
 have lX:bB X h k aV (k+1+1+1+1+1):=b8.trans ct
 have qz:∀j,P j->ab X aV j=ab X h j:=λj T=>lX.af j (co j T).1
 rw[<-ct.af _ Zo]at jK b9 b3
 rw[<-ct.fy _ _ Zo]at g3
 generalize Xz:k+1+1+1+1+1=cX at*
 have DX:fJ X aV cO p B dC c3 f:=by unfold fJ at*;rw[lX.af cO xm];exact ay
 have D9:jV X aV (k+1+1) (gR λ_=>none):=⟨[],0,b3,λ_=>rfl⟩
 refine gh ?_
 refine JV (P:=P) (g:=g) (dr:=dr) (eu:=eu) (eI:=eI) (dk:=dk) (dK:=dK) (bx:=bx) aA (λi V aY=>qY X aV cX cO (k+1+1) p B dC c3 (((eC g).take i).foldl ld (λ_=>none,f)).2 (((eC g).take i).foldl ld (λ_=>none,f)).1 V aY) Zo Zo Zo Zo
  (ru.af qz) (rv.af qz) (rx.af qz) b1 dT fc (λi V aY a=>⟨a.le,λj T=>a.low j (by have:=(co j T).1;omega) (co j T).2 (by have:=(co j T).1;omega)⟩)
  (λi bb aQ aV bp a fX aP=>a.af Zo Zo fX aP) (λV b7=>⟨Zj _,by unfold fJ at*;rw[b7.af _ Zo];exact DX,D9.af (b7.af _ Zo),λj T _ _=>b7.af j T⟩) ?_ ?_
 ·intro mk i eE d bo bw aN ge iK ig
  rw[qn ld _ aN]
  generalize ((eC g).take i).foldl ld (λ_=>none,f)=bS at ge ⊢
  have fX:=ge.le
  have je:eO d=[.str d.name, .int .i64 d.at_, .bool d.ty.b, .bool d.ty.s, .int .i64 d.ty.w, .str d.on, .int .i64 d.fP, .bool d.no]:=rfl
  rw[je]
  unfold rY
  refine c0 ⟨?_⟩
  generalize hw:bm X _ bw _=bX
  have ec:ab X bX bw=some (.cells (U.ofList [.str d.name, .int .i64 d.at_, .bool d.ty.b, .bool d.ty.s, .int .i64 d.ty.w, .str d.on, .int .i64 d.fP, .bool d.no] 0 .nil) 8 .own):=by rw[<-hw,bq Zo];rfl
  have eK:∀j,j<bw->ab X bX j=ab X bo j:=λj T=>by rw[<-hw];simp(disch:=omega) only[aK]
  clear hw
  refine⟨by rw[eK _ Zo];exact ig, ?_⟩
  generalize lY:bm X bX (cX+1) _=b4
  have g5:ab X b4 (cX+1)=some (mk .busy none):=by rw[<-lY,bq Zo]
  have eR:∀j,j≠cX+1->ab X b4 j=ab X bX j:=λj T=>by rw[<-lY,aK Zo T]
  clear lY
  have hV:=ge.af (aV:=b4) (bp:=bw+1) Zo Zo Zo (λj M R=>by rw[eR j R,eK j M])
  rw[<-eR _ Zo]at ec
  have tH:ab X b4 cX=some (.deferred (some [])):=by rw[eR _ Zo,eK _ Zo];exact iK
  have fK:ao X b4 (.ptr k 0)=some (.ptr cO 0):=by rw[bW (show ab X b4 k=_ by rw[hV.low _ Zo Zo Zo];exact jK)];rfl
  have eI:ao X b4 (.ptr (k+1+1+1) 0)=some (.map (k+1+1)):=by rw[c4,hV.low _ Zo Zo Zo, <-c4];exact g3
  have hx:iZ X b4 9 (.int .i64 0) (.map (k+1+1)) (.str d.name) false=some (.int .i64 ((bS.1 d.name).getD 0)):=by
   rw[xO hV.seen];unfold gR;cases bS.1 d.name<;>rfl
  refine gS @eI @hx (bW ec) ⟨?_⟩
  refine gh ?_
  refine gS @eI @hx (bW ec) ⟨?_⟩
  refine j6 (λcT V aY=>cT.g 4=some (.ptr (k+1+1+1) 0)/\cT.g 6=some (.ptr bw 0)/\cT.g 5=some (.int .i64 eE)/\qY X aV cX cO (k+1+1) p B dC c3 (ld bS (eE,d)).2 bS.1 V aY/\bw+1<=aY
   /\ab X V bw=some (.cells (U.ofList [.str d.name, .int .i64 d.at_, .bool d.ty.b, .bool d.ty.s, .int .i64 d.ty.w, .str d.on, .int .i64 d.fP, .bool d.no] 0 .nil) 8 .own)/\ab X V cX=some (.deferred (some []))/\ab X V (cX+1)=some (mk .busy none)) (λaa bK=> ?_) ?_
  ·by_cases aH:0<(bS.1 d.name).getD 0
   ·have aB:decide (0<(bS.1 d.name).getD 0)=true:=by simp[aH]
    refine e8 @aB @fK (bW ec) ⟨?_⟩
    refine(vq (h:=b4) aA mr hV.jq 24 d.at_).Zm ?_
    rintro ad ck eo ⟨rfl,aln,rB,nq⟩
    refine c0 ⟨?_⟩
    refine bK _ _ _ ⟨bv,bv,bv,⟨Zo, ?_,hV.seen.af (nq _ Zo),λj M R au=>by rw[nq j R];exact hV.low j M R au⟩,Zo,by rw[nq _ Zo];exact ec,by rw[nq _ Zo];exact tH,by rw[nq _ Zo];exact g5⟩
    unfold ld
    simp only[aH,ZB]
    exact aln
   ·have aB:decide (0<(bS.1 d.name).getD 0)=false:=by simp[aH]
    refine cx @aB ⟨?_⟩
    refine bK _ _ _ ⟨bv,bv,bv,⟨Zo, ?_,hV.seen,hV.low⟩,Zo,ec,tH,g5⟩
    unfold ld
    simp only[aH,Zx]
    exact hV.jq
  ·rintro cT ck eo ⟨t4,gN,t5,h3,rB,g6,rh,aj3⟩
   have KX:=h3.le
   have Bh:ao X ck (.ptr (k+1+1+1) 0)=some (.map (k+1+1)):=by rw[c4,h3.low _ Zo Zo Zo, <-c4];exact g3
   show am _ _
   refine gd @t4 @gN @t5 @Bh (bW g6) ⟨?_⟩
   obtain⟨cC,mX,akD,qu⟩:=EX (k:=eo) (show(y X).bj<=k+1+1 by omega) h3.seen d.name (.int .i64 eE)
   refine kI mX ?_
   refine c0 ⟨?_⟩
   refine⟨⟨.busy,none,by rw[qu _ Zo];exact aj3⟩, ?_⟩
   have yY:fJ X cC cO p B dC c3 (ld bS (eE,d)).2:=by have:=h3.jq;unfold fJ at*;rw[qu cO Zo];exact this
   have akE:jV X cC (k+1+1) (gR (ld bS (eE,d)).1):=by
    have:(λx=>if x=d.name then some (H.int .i64 eE)else gR bS.1 x)=gR (ld bS (eE,d)).1:=by
     funext x;unfold gR ld;by_cases a:x=d.name<;>simp[a]
    rw[<-this];exact akD
   have jx:qY X aV cX cO (k+1+1) p B dC c3 (ld bS (eE,d)).2 (ld bS (eE,d)).1 cC eo:=⟨KX,yY,akE,λj M R au=>by rw[qu j au];exact h3.low j M R au⟩
   exact⟨rfl,jx.af Zo Zo (Zj _) (λj M R=>aK Zo R),by rw[aK Zo Zo,qu _ Zo];exact rh,bq Zo⟩
 ·intro bo bw ge iK
  rw[YQ]at ge
  unfold sq
  generalize (eC g).foldl ld (λ_=>none,f)=bS at ge ⊢
  have fX:=ge.le
  have DH:ab X bo (k+1)=some (.cells (U.ofList [.str g.name, .int .i64 g.at_,dk,dK,bx,fG] 0 .nil) 6 .own):=by rw[ge.low _ Zo Zo Zo];exact b9
  refine cx (bW DH) ⟨?_⟩
  refine(JU aA Zo).Zm ?_
  rintro ad bX dd ⟨rfl,rfl,dN,b1,dT,fc⟩
  generalize xs:bw+1=dS at*
  have tT:fJ X bX cO p B dC c3 bS.2:=by have:=ge.jq;unfold fJ at*;rw[dN.af cO Zo];exact this
  have GC:ab X bX cX=some (.deferred (some [])):=by rw[dN.af _ Zo];exact iK
  have xK:∀j,P j->ab X bX j=ab X h j:=λj T=>by
   have:=co j T
   rw[dN.af j Zo,ge.low j Zo this.2 Zo,qz j T]
  have agZ:ab X bX k=some (.cells (U.ofList [.ptr cO 0] 0 .nil) 1 .own):=by rw[dN.af _ Zo,ge.low _ Zo Zo Zo];exact jK
  refine gh ?_
  refine JV (P:=P) (g:=g) (dr:=dr) (eu:=eu) (eI:=eI) (dk:=dk) (dK:=dK) (bx:=bx) aA (λi V aY=>qY X bX dS cO (k+1+1) p B dC c3 (((eC g).take i).foldl (ql t) bS.2) bS.1 V aY) Zo Zo Zo Zo
   (ru.af xK) (rv.af xK) (rx.af xK) b1 dT fc (λi V aY a=>⟨a.le,λj T=>a.low j (by have:=(co j T).1;omega) (co j T).2 (by have:=(co j T).1;omega)⟩)
   (λi bb aQ aV bp a fX aP=>a.af Zo Zo fX aP) (λV b7=>⟨Zj _,by unfold fJ at*;rw[b7.af _ Zo];exact tT,(ge.seen.af (dN.af _ Zo)).af (b7.af _ Zo),λj T _ _=>b7.af j T⟩) ?_ ?_
  ·intro mk i eE d b4 cA aN hV tH aj2
   rw[qn (ql t) _ aN]
   generalize ((eC g).take i).foldl (ql t) bS.2=G at hV ⊢
   have iW:=hV.le
   have je:eO d=[.str d.name, .int .i64 d.at_, .bool d.ty.b, .bool d.ty.s, .int .i64 d.ty.w, .str d.on, .int .i64 d.fP, .bool d.no]:=rfl
   rw[je]
   unfold rY
   refine c0 ⟨?_⟩
   generalize hJ:bm X _ cA _=ck
   have g6:ab X ck cA=some (.cells (U.ofList [.str d.name, .int .i64 d.at_, .bool d.ty.b, .bool d.ty.s, .int .i64 d.ty.w, .str d.on, .int .i64 d.fP, .bool d.no] 0 .nil) 8 .own):=by rw[<-hJ,bq Zo];rfl
   have ed:∀j,j<cA->ab X ck j=ab X b4 j:=λj T=>by rw[<-hJ];simp(disch:=omega) only[aK]
   clear hJ
   refine⟨by rw[ed _ Zo];exact aj2, ?_⟩
   generalize mT:bm X ck (dS+1) _=cC
   have g7:ab X cC (dS+1)=some (mk .busy none):=by rw[<-mT,bq Zo]
   have gl:∀j,j≠dS+1->ab X cC j=ab X ck j:=λj T=>by rw[<-mT,aK Zo T]
   clear mT
   have jx:=hV.af (aV:=cC) (bp:=cA+1) Zo Zo Zo (λj M R=>by rw[gl j R,ed j M])
   rw[<-gl _ Zo]at g6
   have sw:ab X cC dS=some (.deferred (some [])):=by rw[gl _ Zo,ed _ Zo];exact tH
   have fK:ao X cC (.ptr k 0)=some (.ptr cO 0):=by rw[bW (show ab X cC k=_ by rw[jx.low _ Zo Zo Zo];exact agZ)];rfl
   have c5:ao X cC (.ptr cO 2)=some dC:=by have:=jx.jq;unfold fJ at this;rw[bW this];rfl
   have h4:∀V aY,qY X bX dS cO (k+1+1) p B dC c3 (ql t G (eE,d)) bS.1 V aY->ab X V dS=some (.deferred (some []))->(H.bool true=H.bool true/\qY X bX dS cO (k+1+1) p B dC c3 (ql t G (eE,d)) bS.1 (bm X V (dS+1) (some (mk .ready none))) aY/\ab X (bm X V (dS+1) (some (mk .ready none))) dS=some (.deferred (some []))/\ab X (bm X V (dS+1) (some (mk .ready none))) (dS+1)=some (mk .ready none)):=λV aY a R=>
    ⟨rfl,a.af Zo Zo (Zj _) (λj M R=>aK Zo R),by rw[aK Zo Zo];exact R,bq Zo⟩
   refine w6 ⟨?_⟩
   refine gh ?_
   refine e8 @fK @c5 (bW g6) ⟨?_⟩
   refine eZ (λdQ=>ab X dQ (cA+1+10)=some (.cells (U.ofList [.int .i64 0, .str [], .int .i64 0, .bool false, .bool false, .int .i64 0, .str [], .int .i64 0, .bool false, .int .i64 0, .int .i64 0] 0 .nil) 11 .own)/\bB X cC (cA+1) dQ (cA+1+10+1)) ⟨by rw[bq Zo];rfl,Zo,λj T=>by simp(disch:=omega) only[aK]⟩ ?_
   rintro dQ ⟨g8,j1⟩
   refine(Ou (k:=cA+1+13) (h:=dQ) aA Zo (aT.af (bR:=P) (λj T=>by have:=co j T;rw[j1.af j Zo,jx.low j Zo this.2 Zo,xK j T]) (λ_ a=>a)) (λj T=>by have:=(co j T).1;omega) d.on).Zm ?_
   rintro ad dL ma ⟨rfl,rk⟩
   have vW:=rk.le
   have jv:ab X dL (cA+1+10)=some (.cells (U.ofList [.int .i64 0, .str [], .int .i64 0, .bool false, .bool false, .int .i64 0, .str [], .int .i64 0, .bool false, .int .i64 0, .int .i64 0] 0 .nil) 11 .own):=by rw[rk.af _ Zo];exact g8
   generalize Ce:(t d.on).getD wA=eY
   have uh:ph eY=[.int .i64 eY.kind, .str eY.d.name, .int .i64 eY.d.at_, .bool eY.d.ty.b, .bool eY.d.ty.s, .int .i64 eY.d.ty.w, .str eY.d.on, .int .i64 eY.d.fP, .bool eY.d.no, .int .i64 eY.eq, .int .i64 eY.left]:=rfl
   rw[uh]
   refine hH ⟨?_⟩
   refine hH ⟨?_⟩
   refine fH (iO (B:=11) (b:=cA+1+10) (W:=0) (n:=11) jv Zo rfl Zd Zd rfl) ?_
   generalize vG:bm X dL (cA+1+10) _=et
   have ji:∀j,j<cA+1->ab X et j=ab X cC j:=λj T=>by rw[<-vG,aK Zo Zo,rk.af j Zo,j1.af j T]
   clear vG g8 jv
   have jM:qY X bX dS cO (k+1+1) p B dC c3 G bS.1 et ma:=jx.af Zo Zo Zo (λj M R=>ji j M)
   rw[<-ji _ Zo]at g6 g7 sw
   have ag1:ao X et (.ptr k 0)=some (.ptr cO 0):=by rw[c4,ji _ Zo, <-c4];exact fK
   cases ry:(t d.on)with
   |some atw=>
    have qr:ql t G (eE,d)=G:=by unfold ql;rw[Zg (by simp[ry])]
    simp only[Z4]
    refine c0 ⟨?_⟩
    rw[qr]at h4 ⊢
    exact⟨⟨.busy,none,g7⟩,h4 _ _ jM sw⟩
   |none=>
    simp only[ZX]
    by_cases oY:d.on=[]
    ·have qr:ql t G (eE,d)=G:=by unfold ql;rw[Zg (by simp[oY])]
     have aB:decide (d.on≠[])=false:=by simp[oY]
     refine dc (bW g6) @aB ⟨?_⟩
     rw[qr]at h4 ⊢
     exact⟨⟨.busy,none,g7⟩,h4 _ _ jM sw⟩
    ·have qr:ql t G (eE,d)=lS G 23 d.fP:=by unfold ql;rw[Zr ⟨ry,oY⟩]
     have aB:decide (d.on≠[])=true:=by simp[oY]
     refine e8 (bW g6) @aB @ag1 ⟨?_⟩
     refine(vq (h:=et) aA mr jM.jq 23 d.fP).Zm ?_
     rintro ad T8 apH ⟨rfl,O7,al7,t2⟩
     refine c0 ⟨?_⟩
     rw[qr]at h4 ⊢
     have al6:=jM.le
     exact⟨⟨.busy,none,by rw[t2 _ Zo];exact g7⟩,h4 _ _ ⟨Zo,O7,jM.seen.af (t2 _ Zo),λj M R au=>by rw[t2 j R];exact jM.low j M R au⟩ (by rw[t2 _ Zo];exact sw)⟩
  ·intro b4 cA hV tH
   rw[YQ]at hV
   generalize (eC g).foldl (ql t) bS.2=G at hV ⊢
   have iW:=hV.le
   have ajW:ab X b4 cX=some (.deferred (some [])):=by rw[hV.low _ Zo Zo Zo];exact GC
   show ol X [] _ _ _ _ _
   simp only[rN,qN,sg]
   refine⟨by show(y X).bj<=dS;omega,tH, ?_⟩
   refine⟨by show(y X).bj<=cX;omega,by rw[aK Zo Zo];exact ajW, ?_⟩
   show p6 _ _ _ _ _
   refine⟨rfl, ?_,Zo,λj M R=> ?_⟩
   ·have:=hV.jq
    unfold fJ at*
    rw[aK Zo Zo,aK Zo Zo];exact this
   ·rw[aK Zo Zo,aK Zo Zo,hV.low j Zo R Zo,dN.af j Zo,ge.low j Zo R Zo,lX.af j M]
end
end
end Go.Proofs.YtpfajohmofnkfaaGreatDoor

