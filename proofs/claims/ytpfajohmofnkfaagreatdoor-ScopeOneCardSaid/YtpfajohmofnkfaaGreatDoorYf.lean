/- A part of the proof of the claim's last text: what it is used for is said there; no condition of its own. -/
import Derived.Test.YtpfajohmofnkfaaGreatDoorYe
set_option maxHeartbeats 8000000
set_option linter.unusedVariables false
set_option linter.unusedSimpArgs false
namespace Go.al
open Go.RowKit (Below)
section
variable{C:aX}{K c1:cY}{Z di:Nat->Prop}{h V:U an}{k av bg:Nat}{w bz:World}
theorem WV(S:cS C K Z h k bg w)(eP:bg<=w.heap.size)(j9:wI C.P){oper:Oper}{aw:Operand->Value}{dZ:List (Nat×Nat)}{ak:List (Nat×H)}{J:U H}{c:jl}{res:dz}
 (cn:iC K Z aw (iI dZ ak J) oper.op.operands.toList)(ay:k8 C dZ oper.op=some c)(a:hs c C h k ak J=some res):hr C K Z h k bg w (execOp aw oper) res:=by
 have rest:∀W,oper.op=W->c= .e1 dZ W->hr C K Z h k bg w (execOp aw oper) res:=by
  intro W bc BO
  subst BO;subst bc
  exact agm S eP j9 cn a
 have xT:∀W,c= .hQ dZ W->hr C K Z h k bg w (execOp aw oper) res:=by intro W E;subst E;simp[hs]at a
 have aa7:∀W,c= .make dZ W->hr C K Z h k bg w (execOp aw oper) res:=by intro W E;subst E;simp[hs]at a
 obtain⟨dst,op,type,pos,after,guard⟩:=oper
 cases op<;>simp only[k8]at ay<;>simp only[Op.operands]at cn
 case store t I x=>
  split at ay
  ·rename_i f2 ir s aG ag aH
   simp at ay;subst ay
   simp only[hs,mQ aG,mQ ag]at a
   split at a
   ·rename_i ad aZ
    split at a
    ·rename_i v bu
     obtain⟨bF,b9⟩:=cn I Zs ad aZ
     obtain⟨cB,b3⟩:=cn x Zs v bu
     obtain⟨V,rfl,aI⟩:=asR S aH b9 b3 a
     simp only[execOp,bF,cB]
     exact aI _ (λbz pR=>by simp[pR])
    ·simp at a
   ·simp at a
  ·simp at ay
 case call wT=>
  obtain⟨callee,args,cM⟩:=wT
  cases callee with
  |builtin b=>
   cases b<;>simp[k8]at ay<;>first
    |exact rest _ rfl ay.symm
    |exact xT _ ay.symm
  |value f=>
   cases f with
   |func g=>
    simp only at ay
    split at ay
    ·rename_i cm has
     simp at ay;subst ay
     simp only[hs]at a
     split at a
     ·rename_i br HK
      simp only[Call.operands]at cn
      obtain⟨eh,c5⟩:=aiW ak J has HK
      have anH:iC K Z aw (iI dZ ak J) args.toList:=cn.mono (by simp;intro x ag;exact .inr ag)
      obtain⟨ee,fz⟩:=aaM anH eh c5
      obtain⟨ez,_⟩:=cn (.func g) Zs (.func (.func g) [] []) rfl
      refine(NC (K:=K) (h:=h) (k:=k) (bg:=bg) (w:=w) j9 fz a).congr ?_
      have E:args.map aw=(bI K br).toArray:=by apply YM;simp[ee]
      simp[execOp,resolve,ez,aD,mm,bI,Deferred.ofValue,invoke,E]
     ·simp at a
    ·simp at ay
   |tmp t=>simp at ay;exact rest _ rfl ay.symm
   |const v=>simp at ay;exact rest _ rfl ay.symm
   |global g=>simp at ay;exact rest _ rfl ay.symm
  |invoke r m=>simp[k8]at ay;exact rest _ rfl ay.symm
 case convert s d x=>
  rw[fB]at ay
  split at ay
  ·simp at ay;exact rest _ rfl ay.symm
  ·simp at ay;exact xT _ ay.symm
 case makeMap t r=>cases r<;>simp[k8]at ay<;>first|exact rest _ rfl ay.symm|exact aa7 _ ay.symm
 case binOp op t x j FB=>
  rw[fB]at ay
  split at ay
  ·split at ay
   ·simp at ay;subst ay;simp[hs]at a
   ·simp at ay
  ·simp at ay;exact xT _ ay.symm
 case fieldAddr s x f=>
  split at ay
  ·rw[m5]at ay
   split at ay
   ·split at ay
    ·simp only[Dw,Ze]at ay
     obtain⟨_,rfl⟩:=ay
     simp[hs]at a
    ·simp at ay
   ·simp at ay
  ·simp at ay
 case indexAddr t x i=>
  split at ay
  ·split at ay
   ·simp at ay;subst ay;simp[hs]at a
   ·simp at ay
  ·split at ay
   ·simp at ay;subst ay;simp[hs]at a
   ·simp at ay
  ·simp at ay
 all_goals first
  |(simp at ay;first|exact rest _ rfl ay.symm|exact xT _ ay.symm|exact aa7 _ ay.symm)
  |(split at ay<;>first
    |(simp at ay;subst ay;simp[hs]at a;done)
    |(simp at ay;done))
theorem LI{oper:Oper}{dZ:List (Nat×Nat)}{c:jl}(ay:k8 C dZ oper.op=some c){b:Nat}{ak:List (Nat×H)}{J:U H}{r:H×an}(a:nl c C b ak J=some r):pm oper.op C (iI dZ ak J) b=some r:=by
 have rest:∀W,oper.op=W->c= .make dZ W->pm oper.op C (iI dZ ak J) b=some r:=by
  intro W bc BO
  subst BO;subst bc
  exact a
 have xT:∀W,c= .hQ dZ W->pm oper.op C (iI dZ ak J) b=some r:=by intro W E;subst E;simp[nl]at a
 have Az:∀W,c= .e1 dZ W->pm oper.op C (iI dZ ak J) b=some r:=by intro W E;subst E;simp[nl]at a
 obtain⟨dst,op,type,pos,after,guard⟩:=oper
 cases op<;>simp only[k8]at ay
 case call wT=>
  obtain⟨callee,args,cM⟩:=wT
  cases callee with
  |builtin b=>cases b<;>simp[k8]at ay<;>first|exact Az _ ay.symm|exact xT _ ay.symm
  |value f=>
   cases f with
   |func g=>
    simp[k8]at ay
    split at ay
    ·simp at ay;subst ay;simp[nl]at a
    ·simp at ay
   |tmp t=>simp[k8]at ay;exact Az _ ay.symm
   |const v=>simp[k8]at ay;exact Az _ ay.symm
   |global g=>simp[k8]at ay;exact Az _ ay.symm
  |invoke r m=>simp[k8]at ay;exact Az _ ay.symm
 case convert s d x=>
  rw[fB]at ay
  split at ay
  ·simp at ay;exact Az _ ay.symm
  ·simp at ay;exact xT _ ay.symm
 case makeMap t r=>cases r<;>simp[k8]at ay<;>first|exact rest _ rfl ay.symm|exact Az _ ay.symm
 case binOp op t x j FB=>
  rw[fB]at ay
  split at ay
  ·split at ay
   ·simp at ay;subst ay;simp[nl]at a
   ·simp at ay
  ·simp at ay;exact xT _ ay.symm
 case fieldAddr s x f=>
  split at ay
  ·rw[m5]at ay
   split at ay
   ·split at ay
    ·simp only[Dw,Ze]at ay
     obtain⟨_,rfl⟩:=ay
     simp[nl]at a
    ·simp at ay
   ·simp at ay
  ·simp at ay
 case indexAddr t x i=>
  split at ay
  ·split at ay
   ·simp at ay;subst ay;simp[nl]at a
   ·simp at ay
  ·split at ay
   ·simp at ay;subst ay;simp[nl]at a
   ·simp at ay
  ·simp at ay
 all_goals first
  |(simp at ay;first|exact rest _ rfl ay.symm|exact xT _ ay.symm|exact Az _ ay.symm)
  |(split at ay<;>first
    |(simp at ay;subst ay;simp[nl]at a;done)
    |(simp at ay;done))
theorem nD{α:Type}(W:Option α)(B:α->dP):iM W B=match W with|some I=>B I|none=>none:=by cases W<;>rfl
theorem Uz(l:List (Nat×H))(aa:Nat)(B:H->dP):F4 l aa B=iM (d8 l aa) B:=by
 induction l with
 |nil=>rfl
 |cons p l ah=>
  obtain⟨I,b⟩:=p
  show(Bool.rec (motive:=λ_=>dP) (F4 l aa B) (B b) (Nat.beq I aa))=iM (bC (Nat.beq I aa) (some b) (d8 l aa)) B
  rw[ah]
  cases Nat.beq I aa<;>rfl
theorem ajX(t:U H):∀(i:Nat) (B:H->dP),Kb t i B=iM (t.get i) B:=by
 induction t with
 |nil=>intro i B;rfl
 |node v l r mz Ev=>
  intro i B
  cases i with
  |zero=>cases v<;>rfl
  |succ aa=>
   show(Bool.rec (motive:=λ_=>dP) (Kb r (Nat.div aa 2) B) (Kb l (Nat.div aa 2) B) (Nat.beq (Nat.mod aa 2) 0))=iM (bC (Nat.beq (Nat.mod aa 2) 0) (l.get (Nat.div aa 2)) (r.get (Nat.div aa 2))) B
   rw[mz,Ev]
   cases Nat.beq (Nat.mod aa 2) 0<;>rfl
theorem aiT(x:jU)(ak:List (Nat×H))(J:U H)(B:H->dP):wZ x ak J B=iM (kz x ak J) B:=by
 cases x with
 |v aa=>exact Uz ak aa B
 |t n=>exact ajX J n B
 |c I=>rfl
theorem J2:∀(l:List (Nat×Nat)) (ak:List (Nat×H)) (J:U H) (B:U H->dP),Gx l ak J B=iM (w2 ak l J) B:=by
 intro l
 induction l with
 |nil=>intro ak J B;rfl
 |cons p l ah=>
  intro ak J B
  obtain⟨i,d⟩:=p
  show F4 ak i (λv=>iV (U.set J d (some v)) λJ=>Gx l ak J B)=_
  rw[Uz]
  simp only[w2]
  cases d8 ak i with
  |none=>rfl
  |some v=>simp only[gK];exact ah _ _ _
theorem ME(g:Option (Nat×Bool))(ak:List (Nat×H))(I b:dP):acE g ak I b=iM (nL g ak) λw=>if w=true then I else b:=by
 cases g with
 |none=>simp[nD,nL];rfl
 |some p=>
  show iM (nL (some p) ak) (λw=>Bool.rec (motive:=λ_=>dP) b I w)=_
  congr 1
  funext w
  cases w<;>rfl
theorem L3(op:jl)(h:U an)(k:Nat)(ak:List (Nat×H))(J:U H)(aj:H->U an->Nat->dP)(pq:dz->dP):
 Q6 op C h k ak J aj pq=match l6 op with
  | .hQ=>iM (gp op C h ak J) λv=>aj v h k
  | .make=>iM (LH op C h k ak J) pq
  | .e1=>iM (hs op C h k ak J) pq:=by
 cases op<;>simp only[Q6,l6,aiT,gp,nD]<;>(try rfl)
 all_goals(split<;>first|rfl|(split<;>simp_all))
end
end Go.al

namespace Go.al
open Go.RowKit (Below)
def uX:List Oper->Nat->List (Nat×Nat)->List (Nat×Nat)
 |[],_,dZ=>dZ
 |W::l,i,dZ=>uX l (i+1) (wL W i dZ)
def h0(aq:Array Oper)(i:Nat):List (Nat×Nat):=uX (aq.toList.take i) 0 []
theorem atL(I:List Oper):∀(b:List Oper) (i:Nat) (dZ:List (Nat×Nat)),uX (I++b) i dZ=uX b (i+I.length) (uX I i dZ):=by
 induction I with
 |nil=>intro b i dZ;rfl
 |cons W I ah=>
  intro b i dZ
  simp only[List.cons_append,uX,ah,ZC]
  congr 1;omega
theorem IV{aq:Array Oper}{i:Nat}{W:Oper}(a:aq[i]? =some W):h0 aq (i+1)=wL W i (h0 aq i):=by
 have aE:aq.toList[i]? =some W:=by rw[ZM];exact a
 have cR:i<aq.toList.length:=(Zc.1 aE).1
 unfold h0
 rw[zb,aE,atL]
 have:(aq.toList.take i).length=i:=by simp at cR ⊢;omega
 rw[this]
 simp[uX]
theorem IW(aq:Array Oper):h0 aq 0=[]:=rfl
def re(aq:Array Oper)(aa:Nat):Option Nat:=(aq[aa]?).bind (·.dst)
theorem Gn{aq:Array Oper}{i:Nat}{W:Oper}(a:aq[i]? =some W):re aq i=W.dst:=by simp[re,a]
theorem agB{W:Oper}{i aa:Nat}{dZ:List (Nat×Nat)}:vw aa (wL W i dZ)=if i=aa/\W.dst.isSome then W.dst else vw aa dZ:=by
 unfold wL
 split
 ·rename_i d aI
  simp only[vw,gX,aI]
  by_cases E:i=aa<;>simp[E]
 ·rename_i aI
  simp[aI]
theorem Dl{W:Oper}{i t:Nat}{dZ:List (Nat×Nat)}:d8 (wL W i dZ) t=if W.dst=some t then some i else d8 dZ t:=by
 unfold wL
 split
 ·rename_i d aI
  rw[qi,aI]
  by_cases E:d=t<;>simp[E]
 ·rename_i aI
  simp[aI]
theorem IX(aq:Array Oper):∀i,i<=aq.size->(∀aa t,vw aa (h0 aq i)=some t->re aq aa=some t)/\
 (∀t aa,d8 (h0 aq i) t=some aa->aa<i/\re aq aa=some t/\∀B,aa<B->B<i->re aq B≠some t)/\(∀t,d8 (h0 aq i) t=none->∀B,B<i->re aq B≠some t):=by
 intro i
 induction i with
 |zero=>intro _;rw[IW];exact⟨λaa t a=>by simp[vw]at a,λt aa a=>by simp at a,λt _ B aP=>Zo⟩
 |succ i ah=>
  intro aN
  obtain⟨M,R,au⟩:=ah Zo
  have bc:aq[i]? =some aq[i]:=Array.getElem?_eq_getElem Zo
  rw[IV bc]
  have aI:=Gn bc
  refine⟨λaa t a=> ?_,λt aa a=> ?_,λt a B aP=> ?_⟩
  ·rw[agB]at a
   split at a
   ·rename_i E;rw[<-E.1,aI];exact a
   ·exact M aa t a
  ·rw[Dl]at a
   split at a
   ·rename_i E
    cases a
    exact⟨Zo,by rw[aI];exact E,λB mu jO=>Zo⟩
   ·rename_i E
    obtain⟨bN,cg,cH⟩:=R t aa a
    refine⟨Zo,cg,λB mu jO=> ?_⟩
    by_cases ar:B=i
    ·subst ar;rw[aI];exact E
    ·exact cH B mu Zo
  ·rw[Dl]at a
   split at a
   ·cases a
   ·rename_i E
    by_cases ar:B=i
    ·subst ar;rw[aI];exact E
    ·exact au t a B Zo
section
variable{C:aX}{K c1:cY}{Z di:Nat->Prop}{h V:U an}{k av bg:Nat}{w bz:World}
def kq(tmps:Array Value):Operand->Value
 | .tmp t=>tmps.getD t Go.undef
 | .const v=>v
 | .global g=> .pointer (some ⟨g,0,none⟩)
 | .func f=> .func (.func f) #[] #[]
theorem Gv(fr:Frame):fr.eval=kq fr.tmps:=by funext x;cases x<;>rfl
def nQ(K:cY)(Z:Nat->Prop)(ap:Nat)(X:Nat->Prop)(dZ:List (Nat×Nat))(ak:List (Nat×H))(J:U H)(tmps:Array Value):Prop:=
 ∀t v,X t->(match d8 dZ t with|some aa=>d8 ak aa=some v|none=>e7 ap t=true/\J.get t=some v)->tmps[t]? =some (aD K v)/\b0 Z v
def q1(C:aX)(K:cY)(Z:Nat->Prop):Prop:=∀g,g<C.oh->Z g/\(K g).cq=g/\(K g).dJ=0
theorem ap7{ap:Nat}{dZ:List (Nat×Nat)}:∀{l:List Operand},CE C ap dZ l=true->∀x∈l,xV C ap dZ x=true:=by
 intro l
 induction l with
 |nil=>intro _ x a;simp at a
 |cons I l ah=>
  intro a x ag
  simp only[CE,Zk]at a
  rcases Zl.1 ag with rfl|ag
  ·exact a.1
  ·exact ah a.2 x ag
theorem Vp{ap:Nat}{X:Nat->Prop}{dZ:List (Nat×Nat)}{ak:List (Nat×H)}{J:U H}{tmps:Array Value}(bu:nQ K Z ap X dZ ak J tmps){l:List Operand}(bO:∀t,Operand.tmp t∈l->X t)(bc:CE C ap dZ l=true)
 (eJ:q1 C K Z):iC K Z (kq tmps) (iI dZ ak J) l:=by
 intro x ag v a
 have dg:=ap7 bc x ag
 cases x with
 |tmp t=>
  have:=bu t v (bO t ag) (by
   simp only[iI]at a
   simp only[xV]at dg
   split at a
   ·rename_i aa bK;rw[bK];exact a
   ·rename_i bK;rw[bK]at dg ⊢;exact⟨dg,a⟩)
  exact⟨by simp[kq,this.1],this.2⟩
 |const c=>exact LX a
 |global g=>
  simp[iI]at a;subst a
  simp only[xV]at dg
  obtain⟨b9,b3,g3⟩:=eJ g (kd dg)
  exact⟨by simp[kq,aD,b3,g3],b9⟩
 |func f=>
  simp[iI]at a;subst a
  exact⟨by simp[kq,aD,mm,bI],trivial,trivial,trivial⟩
end
end Go.al

namespace Go.al
theorem yv(m i:Nat):e7 m i=m.testBit i:=by
 unfold e7
 rw[Nat.testBit_eq_decide_div_mod_eq,ZY,Zh]
 exact⟨Zi,λa=>by rw[show Nat.mod (Nat.div m (Nat.pow 2 i)) 2=1 from a];rfl⟩
theorem Jv(i:Nat):e7 0 i=false:=by rw[yv];simp
theorem Do(I b i:Nat):e7 (Nat.lor I b) i=(e7 I i||e7 b i):=by
 rw[yv,yv,yv];exact Nat.testBit_or I b i
theorem Ju(t i:Nat):e7 (Nat.pow 2 t) i=decide (t=i):=by
 rw[yv];exact Nat.testBit_two_pow
theorem ahd(I b i:Nat):e7 (Nat.land I b) i=(e7 I i&&e7 b i):=by
 rw[yv,yv,yv];exact Nat.testBit_and I b i
theorem aqe{W:Operand}{m t:Nat}:e7 (E5 W m) t=true↔W= .tmp t\/e7 m t=true:=by
 cases W with
 |tmp ad=>
  show e7 (Nat.lor m (Nat.pow 2 ad)) t=true↔_
  rw[Do,Ju]
  simp[or_comm]
 |_=>simp[E5]
theorem aqf{t:Nat}:∀{l:List Operand},e7 (E6 l) t=true↔Operand.tmp t∈l:=by
 intro l
 induction l with
 |nil=>simp[E6,Jv]
 |cons I l ah=>
  show e7 (E5 I (E6 l)) t=true↔_
  rw[aqe,ah]
  simp[eq_comm]
theorem aif{W:Oper}{t:Nat}:e7 (Gm W) t=true↔W.dst=some t:=by
 unfold Gm
 cases W.dst with
 |none=>simp[Jv]
 |some d=>
  show e7 (Nat.pow 2 d) t=true↔_
  rw[Ju]
  simp
structure I4(C:aX)(n ap:Nat)(aq:Array Oper)(x:e4)(W:Oper):Prop where
 oper:aq[x.i]? =some W
 g:Ga (h0 aq x.i) W.guard=some x.g
 op:k8 C (h0 aq x.i) W.op=some x.op
 dst:∀d,W.dst=some d->d<n
 reads:CE C ap (h0 aq x.i) W.op.operands.toList=true
theorem NB{C:aX}{n ap i:Nat}{W:Oper}{l:List Oper}{dZ:List (Nat×Nat)}{cs:List e4}(a:ra C n ap (W::l) i dZ=some cs):
 ∃g op r,Ga dZ W.guard=some g/\k8 C dZ W.op=some op/\JO n W=true/\CE C ap dZ W.op.operands.toList=true/\ra C n ap l (i+1) (wL W i dZ)=some r/\cs=⟨i,g,op⟩::r:=by
 simp only[ra,li]at a
 split at a
 ·rename_i g op bV B3
  simp only[d9,Zk]at a
  obtain⟨⟨M,R⟩,a⟩:=a
  split at a
  ·rename_i r S
   simp at a
   exact⟨g,op,r,bV,B3,M,R,S,a.symm⟩
  ·simp at a
 ·simp at a
theorem Vi{n:Nat}{W:Oper}(a:JO n W=true):∀d,W.dst=some d->d<n:=by
 intro d aI
 unfold JO at a
 rw[aI]at a
 exact kd a
theorem NW{aq:Array Oper}{i:Nat}{W:Oper}{l:List Oper}(a:aq.toList.drop i=W::l):aq[i]? =some W/\aq.toList.drop (i+1)=l/\i<aq.size:=by
 have M:(aq.toList.drop i)[0]? =some W:=by rw[a];rfl
 rw[YF,ZM]at M
 refine⟨by simpa using M, ?_, ?_⟩
 ·have:(aq.toList.drop i).drop 1=l:=by rw[a];rfl
  rw[zs]at this
  exact this
 ·exact(ZK.1 (by simpa using M)).1
theorem ahs{C:aX}{n ap:Nat}{aq:Array Oper}:∀(l:List Oper) (i:Nat) (cs:List e4),aq.toList.drop i=l->ra C n ap l i (h0 aq i)=some cs->
 cs.length=l.length/\∀aa x,cs[aa]? =some x->x.i=i+aa/\∃W,I4 C n ap aq x W:=by
 intro l
 induction l with
 |nil=>intro i cs _ a;simp[ra]at a;subst a;simp
 |cons W l ah=>
  intro i cs aI a
  obtain⟨g,op,r,M,R,au,aM,bA,rfl⟩:=NB a
  obtain⟨cQ,cG,eL⟩:=NW aI
  rw[<-IV cQ]at bA
  obtain⟨bN,cg⟩:=ah (i+1) r cG bA
  refine⟨by simp[bN],λaa x ag=> ?_⟩
  cases aa with
  |zero=>simp at ag;subst ag;exact⟨rfl,W,cQ,M,R,Vi au,aM⟩
  |succ aa=>
   simp at ag
   obtain⟨E,aW⟩:=cg aa x ag
   exact⟨Zo,aW⟩
theorem aip{h7:List (Nat×Nat)}:∀(l:List Edge) (I:Nat),e7 (l.foldr (Bs h7) 0) I=true->∃E∈l,Region.binds .any E=true/\(I=E.on\/∃fY,d8 h7 E.on=some fY/\e7 fY I=true):=by
 intro l
 induction l with
 |nil=>intro I a;simp[Jv]at a
 |cons E l ah=>
  intro I a
  simp only[List.foldr_cons]at a
  have lr:e7 (l.foldr (Bs h7) 0) I=true->∃gk∈E::l,Region.binds .any gk=true/\(I=gk.on\/∃fY,d8 h7 gk.on=some fY/\e7 fY I=true):=λa=>by
   obtain⟨gk,M,R⟩:=ah I a
   exact⟨gk,Zn _ M,R⟩
  unfold Bs at a
  rw[fB]at a
  split at a
  ·exact lr a
  ·rw[fB]at a
   split at a
   ·rename_i ai
    split at a
    ·rename_i B aP
     rw[Do,Do,Ju]at a
     simp only[YN,Zh]at a
     rcases a with (a|a)|a
     ·exact lr a
     ·exact⟨E,Zq ..,ai, .inr ⟨B,aP,a⟩⟩
     ·exact⟨E,Zq ..,ai, .inl a.symm⟩
    ·exact lr a
   ·exact lr a
structure Db(aq:Array Oper)(p:fS)(W:Oper):Prop where
 oper:aq[p.i]? =some W
 r:p.r=Nat.lor (E6 W.op.operands.toList) (Km (h0 aq p.i) W.guard)
 w:p.w=Gm W
theorem aaP{aq:Array Oper}:∀(l:List Oper) (i:Nat) (h7:List (Nat×Nat)),aq.toList.drop i=l->(∀aa m,d8 h7 aa=some m->aa<i)->
 (Ax l i (h0 aq i) h7).length=l.length/\(∀aa p,(Ax l i (h0 aq i) h7)[aa]? =some p->p.i=i+aa/\∃W,Db aq p W)/\
 ∀(bR:Nat->Nat->Prop),(∀aa m,d8 h7 aa=some m->bR aa m)->(∀aa W m,aq[aa]? =some W->i<=aa->(∀I,e7 m I=true->∃E∈W.after.toList,Region.binds .any E=true/\(I=E.on\/∃fY,bR E.on fY/\e7 fY I=true))->bR aa m)->
  ∀p∈Ax l i (h0 aq i) h7,bR p.i p.m:=by
 intro l
 induction l with
 |nil=>intro i h7 _ _;simp[Ax]
 |cons W l ah=>
  intro i h7 aI mX
  obtain⟨cQ,cG,eL⟩:=NW aI
  simp only[Ax,li]
  rw[<-IV cQ]
  have amj:∀aa m,d8 ((i,W.after.toList.foldr (Bs h7) 0)::h7) aa=some m->aa<i+1:=by
   intro aa m a
   rw[qi]at a
   split at a
   ·omega
   ·have:=mX aa m a;omega
  obtain⟨bN,cg,cH⟩:=ah (i+1) ((i,W.after.toList.foldr (Bs h7) 0)::h7) cG amj
  refine⟨by simp only[ZC,bN],λaa p ax=> ?_,λbR j2 qy p ax=> ?_⟩
  ·cases aa with
   |zero=>simp only[ZP,Ze]at ax;subst ax;exact⟨rfl,W,cQ,rfl,rfl⟩
   |succ aa=>
    simp only[ZF]at ax
    obtain⟨E,aW⟩:=cg aa p ax
    exact⟨Zo,aW⟩
  ·have aN:bR i (W.after.toList.foldr (Bs h7) 0):=by
    refine qy i W _ cQ (Zj _) λI aG=> ?_
    obtain⟨E,M,R,au⟩:=aip _ I aG
    refine⟨E,M,R,au.imp id ?_⟩
    rintro⟨fY,aM,bA⟩
    exact⟨fY,j2 _ _ aM,bA⟩
   rcases Zl.1 ax with rfl|ax
   ·exact aN
   ·refine cH bR (λaa m a=> ?_) (λaa W m M R au=>qy aa W m M Zo au) p ax
    rw[qi]at a
    split at a
    ·rename_i E;subst E;cases a;exact aN
    ·exact j2 aa m a
theorem ap8{I:fS}:∀{l:List fS},L1 I l=true->∀b∈l,L0 I b=true:=by
 intro l
 induction l with
 |nil=>intro _ b a;simp at a
 |cons c l ah=>
  intro a b ai
  simp only[L1,Zk]at a
  rcases Zl.1 ai with rfl|ai
  ·exact a.1
  ·exact ah a.2 b ai
theorem ap6:∀{l:List fS},Iq l=true->∀(aa i:Nat) I b,aa<i->l[aa]? =some I->l[i]? =some b->L0 I b=true:=by
 intro l
 induction l with
 |nil=>intro _ aa i I b _ a;simp at a
 |cons c l ah=>
  intro a aa i I b Xi aG ai
  simp only[Iq,Zk]at a
  obtain⟨i,rfl⟩:∃B,i=B+1:=⟨i-1,Zo⟩
  simp at ai
  cases aa with
  |zero=>simp at aG;subst aG;exact ap8 a.1 b (Zp ai)
  |succ aa=>simp at aG;exact ah a.2 aa i I b Zo aG ai
theorem ap1:∀{l:List Oper}{i:Nat},CD l i=true->∀aa W,l[aa]? =some W->∀E∈W.after.toList,Region.binds .any E=true->E.on<i+aa:=by
 intro l
 induction l with
 |nil=>intro i _ aa W a;simp at a
 |cons I l ah=>
  intro i a aa W bc E aW ai
  simp only[CD,Zk]at a
  cases aa with
  |zero=>
   simp at bc;subst bc
   have:=List.all_eq_true.1 a.1 E aW
   simp only[ai,Yg,Bool.false_or]at this
   have:=kd this
   omega
  |succ aa=>
   simp at bc
   have:=ah a.2 aa W bc E aW ai
   omega
theorem alA:∀{l:List fS},Hd l=true->∀(p:Nat) I b,l[p]? =some I->l[p+1]? =some b->e7 b.m I.i=true:=by
 intro l
 induction l with
 |nil=>intro _ p I b a;simp at a
 |cons c l ah=>
  intro a p I b aG ai
  simp only[Hd,Zk]at a
  cases p with
  |zero=>
   simp at aG ai;subst aG
   cases l with
   |nil=>simp at ai
   |cons d l=>simp at ai;subst ai;exact a.1
  |succ p=>simp at aG ai;exact ah a.2 p I b aG (by simpa using ai)
theorem alz:∀(c8:List fS) (cs:List e4),D2 c8 cs=(c8.zip cs).filter λx=>mZ x.2.op:=by
 intro c8
 induction c8 with
 |nil=>intro cs;rfl
 |cons p c8 ah=>
  intro cs
  cases cs with
  |nil=>rfl
  |cons c cs=>
   simp only[D2,List.zip_cons_cons,Ym,fB,ah]
theorem aoW(aH:List fS):∀(c8:List fS) (cs:List e4),EN aH c8 cs=((c8.zip cs).filter λx=> !mZ x.2.op).map λx=>⟨x.2,tt x.1.m aH,y1 x.1.i aH⟩:=by
 intro c8
 induction c8 with
 |nil=>intro cs;rfl
 |cons p c8 ah=>
  intro cs
  cases cs with
  |nil=>rfl
  |cons c cs=>
   simp only[EN,List.zip_cons_cons,Ym,fB,ah]
   cases mZ c.op<;>simp
theorem J6:∀l:List (fS×e4),pv l=l.map (·.1):=by
 intro l
 induction l with
 |nil=>rfl
 |cons I l ah=>simp[pv,ah]
theorem ahL(m:Nat):∀(aH:List fS) (B:Nat),(∀p a,aH[p]? =some a->B<=p->e7 m a.i=false)->tt m aH<=B:=by
 intro aH
 induction aH with
 |nil=>intro B _;simp[tt]
 |cons a aH ah=>
  intro B aP
  simp only[tt,fB]
  cases B with
  |zero=>
   have:=aP 0 a rfl (Zj _)
   rw[this]
   have:=ah 0 (λp cv ax _=>aP (p+1) cv (by simpa using ax) Zo)
   simpa using this
  |succ B=>
   have:=ah B (λp cv ax fX=>aP (p+1) cv (by simpa using ax) Zo)
   split<;>omega
theorem alX(i:Nat):∀(aH:List fS) (B:Nat),B<=aH.length->(∀p a,aH[p]? =some a->p<B->e7 a.m i=false)->B<=y1 i aH:=by
 intro aH
 induction aH with
 |nil=>intro B aP _;simp at aP;omega
 |cons a aH ah=>
  intro B D8 aP
  cases B with
  |zero=>omega
  |succ B=>
   have ci:=aP 0 a rfl Zo
   simp only[y1,ci,iF]
   have:=ah B (by simpa using D8) (λp cv ax cR=>aP (p+1) cv (by simpa using ax) Zo)
   omega
end Go.al

namespace Go.al
open Go.RowKit (Below)
def pa(tmps:Array Value)(dst:Option Nat)(v:Value):Array Value:=match dst with|some d=>tmps.setIfInBounds d v|none=>tmps
theorem Mc(tmps:Array Value)(dst:Option Nat)(v:Value):(pa tmps dst v).size=tmps.size:=by cases dst<;>simp[pa]
theorem abC(tmps:Array Value)(dst:Option Nat)(v:Value)(t:Nat)(a:∀d,dst=some d->d<tmps.size):(pa tmps dst v)[t]? =if dst=some t then some v else tmps[t]? :=by
 cases dst with
 |none=>simp[pa]
 |some d=>
  have:=a d rfl
  simp only[pa,Ze,Array.getElem?_setIfInBounds]
  by_cases E:d=t
  ·subst E;simp[this]
  ·simp[E]
def Sub(ak gI:List (Nat×H)):Prop:=∀aa ad,d8 ak aa=some ad->d8 gI aa=some ad
theorem Sub.refl(ak:List (Nat×H)):Sub ak ak:=λ_ _ a=>a
theorem Sub.trans{I b c:List (Nat×H)}(a:Sub I b)(B:Sub b c):Sub I c:=λaa ad bK=>B aa ad (a aa ad bK)
theorem Sub.cons{ak:List (Nat×H)}{i:Nat}{v:H}(a:d8 ak i=none):Sub ak ((i,v)::ak):=λaa ad bK=>by
 rw[qi,Zg]
 ·exact bK
 ·intro E;subst E;rw[a]at bK;cases bK
def oD(C:aX)(h V:U an):Prop:=∀x,ab C h x=ab C V x\/ab C h x=none
inductive vk(aq:Array Oper):(Nat->Prop)->List Nat->Prop
 |nil {c7}:(∀i,i<aq.size->c7 i)->vk aq c7 []
 |cons {c7 i W l}:aq[i]? =some W->¬c7 i->(∀E∈W.after.toList,Region.binds .any E=true->c7 E.on)->vk aq (add c7 i) l->vk aq c7 (i::l)
noncomputable def vu(C:aX)(n ap:Nat)(aq:Array Oper):List e4:=(ra C n ap aq.toList 0 []).getD []
noncomputable def nT(aq:Array Oper):List fS:=Ax aq.toList 0 [] []
noncomputable def gc(C:aX)(n ap:Nat)(aq:Array Oper):List (fS×e4):=D2 (nT aq) (vu C n ap aq)
noncomputable def lc(C:aX)(n ap:Nat)(aq:Array Oper):List oE:=EN (pv (gc C n ap aq)) (nT aq) (vu C n ap aq)
structure oB(C:aX)(n ap:Nat)(aq:Array Oper):Prop where
 ahD:ra C n ap aq.toList 0 []=some (vu C n ap aq)
 auf:CD aq.toList 0=true
 aqs:Iq (nT aq)=true
 chain:Hd (pv (gc C n ap aq))=true
section
variable{C:aX}{n ap:Nat}{aq:Array Oper}
theorem NT(a:oB C n ap aq):(vu C n ap aq).length=aq.size/\∀aa x,(vu C n ap aq)[aa]? =some x->x.i=aa/\∃W,I4 C n ap aq x W:=by
 have ci:=a.ahD
 have:=ahs (aq:=aq) aq.toList 0 _ Zs (by rw[IW];exact ci)
 exact⟨by simpa using this.1,λaa x ag=>by simpa using this.2 aa x ag⟩
theorem Gj(aq:Array Oper):(nT aq).length=aq.size/\(∀aa p,(nT aq)[aa]? =some p->p.i=aa/\∃W,Db aq p W):=by
 have:=aaP (aq:=aq) aq.toList 0 [] Zs Zs
 rw[IW]at this
 exact⟨by unfold nT;simpa using this.1,λaa p ax=>by simpa using this.2.1 aa p ax⟩
noncomputable def qk(C:aX)(n ap:Nat)(aq:Array Oper):List (fS×e4):=(nT aq).zip (vu C n ap aq)
theorem wW(a:oB C n ap aq)(i:Nat)(aN:i<aq.size):∃p x W,(qk C n ap aq)[i]? =some (p,x)/\(nT aq)[i]? =some p/\p.i=i/\x.i=i/\I4 C n ap aq x W/\Db aq p W:=by
 obtain⟨be,b2⟩:=NT a
 obtain⟨dr,eu⟩:=Gj aq
 have ag:(vu C n ap aq)[i]? =some ((vu C n ap aq)[i]'Zo):=Zf _
 have ax:(nT aq)[i]? =some ((nT aq)[i]'Zo):=Zf _
 obtain⟨dD,W,d2⟩:=b2 _ _ ag
 obtain⟨cQ,o',cG⟩:=eu _ _ ax
 have:o'=W:=by
  have bF:=d2.oper;have cB:=cG.oper
  rw[dD]at bF;rw[cQ]at cB
  rw[bF]at cB;exact(Yi cB).symm
 subst this
 refine⟨_,_,o', ?_,ax,cQ,dD,d2,cG⟩
 unfold qk
 rw[List.getElem?_zip_eq_some]
 exact⟨ax,ag⟩
theorem wX(a:oB C n ap aq){j:fS×e4}(T:j∈qk C n ap aq):∃W,j.1.i<aq.size/\j.2.i=j.1.i/\(qk C n ap aq)[j.1.i]? =some j/\(nT aq)[j.1.i]? =some j.1/\I4 C n ap aq j.2 W/\Db aq j.1 W:=by
 obtain⟨aa,bK⟩:=ZW.1 T
 have fj:(qk C n ap aq).length=aq.size:=by
  unfold qk
  rw[List.length_zip,(NT a).1,(Gj aq).1,Nat.min_self]
 have cR:aa<aq.size:=by have:=(Zc.1 bK).1;omega
 obtain⟨p,x,W,M,R,au,aM,bA,cr⟩:=wW a aa cR
 rw[bK]at M
 cases M
 refine⟨W,by simp only;omega,by simp only;omega, ?_, ?_,bA,cr⟩
 ·simp only[au];exact bK
 ·simp only[au];exact R
theorem JI:gc C n ap aq=(qk C n ap aq).filter λ(x:fS×e4)=>mZ x.2.op:=alz _ _
theorem JK:lc C n ap aq=((qk C n ap aq).filter λ(x:fS×e4)=> !mZ x.2.op).map λ(x:fS×e4)=>⟨x.2,tt x.1.m (pv (gc C n ap aq)),y1 x.1.i (pv (gc C n ap aq))⟩:=aoW _ _ _
theorem JM{l:oE}(aE:l∈lc C n ap aq):∃p,(p,l.x)∈qk C n ap aq/\mZ l.x.op=false/\l.bP=tt p.m (pv (gc C n ap aq))/\l.aN=y1 p.i (pv (gc C n ap aq)):=by
 rw[JK]at aE
 obtain⟨j,T,rfl⟩:=ZD.1 aE
 obtain⟨M,R⟩:=Yu.1 T
 exact⟨j.1,M,by simpa using R,rfl,rfl⟩
theorem JJ{j:fS×e4}(T:j∈gc C n ap aq):j∈qk C n ap aq/\mZ j.2.op=true:=by
 rw[JI]at T
 exact Yu.1 T
theorem Ve(a:oB C n ap aq)(i:Nat)(aN:i<aq.size):(∃l∈lc C n ap aq,l.x.i=i)\/(∃(p:Nat) (j:fS×e4),(gc C n ap aq)[p]? =some j/\j.1.i=i):=by
 obtain⟨p,x,W,M,R,au,aM,bA,cr⟩:=wW a i aN
 have bi:=Zp M
 cases gB:mZ x.op with
 |true=>
  refine .inr ?_
  have:(p,x)∈gc C n ap aq:=by rw[JI];exact Yu.2 ⟨bi,gB⟩
  obtain⟨ar,cf⟩:=ZW.1 this
  exact⟨ar,_,cf,au⟩
 |false=>
  refine .inl ⟨_,by rw[JK];exact ZD.2 ⟨(p,x),Yu.2 ⟨bi,by simp[gB]⟩,rfl⟩,aM⟩
theorem Vd(a:oB C n ap aq):(qk C n ap aq).Pairwise λI b=>I.1.i<b.1.i:=by
 rw[YS]
 intro i aa aN bK KR
 have fj:(qk C n ap aq).length=aq.size:=by
  unfold qk
  rw[List.length_zip,(NT a).1,(Gj aq).1,Nat.min_self]
 obtain⟨p,x,W,M,R,au,_⟩:=wW a i Zo
 obtain⟨avW,ir,o',sF,DO,auj,_⟩:=wW a aa Zo
 rw[Zf aN]at M
 rw[Zf bK]at sF
 rw[Yi M,Yi sF]
 simp only;omega
theorem Vc(a:oB C n ap aq){p ar:Nat}{j bl:fS×e4}(ax:(gc C n ap aq)[p]? =some j)(cf:(gc C n ap aq)[ar]? =some bl)(aW:j.1.i=bl.1.i):p=ar:=by
 have Hw:(gc C n ap aq).Pairwise λI b=>I.1.i<b.1.i:=by rw[JI];exact(Vd a).filter _
 rw[YS]at Hw
 obtain⟨M,R⟩:=Zc.1 ax
 obtain⟨au,aM⟩:=Zc.1 cf
 rcases YY p ar with cR|rfl|gA
 ·have:=Hw p ar M au cR
  rw[R,aM]at this;omega
 ·rfl
 ·have:=Hw ar p au M gA
  rw[R,aM]at this;omega
theorem NU(a:oB C n ap aq):(lc C n ap aq).Pairwise λI b=>I.x.i<b.x.i:=by
 rw[JK,List.pairwise_map]
 have M:((qk C n ap aq).filter λ(x:fS×e4)=> !mZ x.2.op).Pairwise λI b=>I.1.i<b.1.i:=(Vd a).filter _
 refine M.imp_of_mem λ{I b} aG ai cR=> ?_
 obtain⟨_,_,bF,_⟩:=wX a (Yu.1 aG).1
 obtain⟨_,_,cB,_⟩:=wX a (Yu.1 ai).1
 show I.2.i<b.2.i
 rw[bF,cB];exact cR
theorem JL(a:oB C n ap aq){l:oE}(aE:l∈lc C n ap aq):l.x.i<aq.size:=by
 obtain⟨p,ax,_⟩:=JM aE
 obtain⟨_,M,R,_⟩:=wX a ax
 simp only at M R;omega
theorem ah5(a:oB C n ap aq){j:fS×e4}(T:j∈gc C n ap aq):j.1.i<aq.size/\j.2.i=j.1.i:=by
 obtain⟨_,M,R,_⟩:=wX a (JJ T).1
 exact⟨M,R⟩
def A2(aq:Array Oper)(c7:Nat->Prop):Prop:=∀i W,aq[i]? =some W->c7 i->∀E∈W.after.toList,Region.binds .any E=true->c7 E.on
theorem Gk{c7:Nat->Prop}(b7:A2 aq c7){p:fS}(ax:p∈nT aq){W:Oper}(bc:aq[p.i]? =some W)
 (lk:∀E∈W.after.toList,Region.binds .any E=true->c7 E.on):∀I,e7 p.m I=true->c7 I:=by
 have key:=(aaP (aq:=aq) aq.toList 0 [] Zs Zs).2.2 (λi m=>(∀W,aq[i]? =some W->∀E∈W.after.toList,Region.binds .any E=true->c7 E.on)->∀I,e7 m I=true->c7 I) Zs
  (λaa W m bK _ bi lk I aG=>by
   obtain⟨E,M,R,au⟩:=bi I aG
   have aW:=lk W bK E M R
   rcases au with rfl|⟨fY,aM,bA⟩
   ·exact aW
   ·exact aM (λo' Ec gk D1 hK=>b7 E.on o' Ec aW gk D1 hK) I bA)
 rw[IW]at key
 exact key p ax (λo' Ec=>by rw[bc]at Ec;cases Ec;exact lk)
end
structure I1(C:aX)(Z:Nat->Prop)(h:U an)(base:Nat)(ak:List (Nat×H))(J:U H)(x:e4)(ad:H):Prop where
 key:d8 ak x.i=some ad
 ok:∃jX b,Sub jX ak/\nL x.g jX=some b/\(b=false->ad=undef)/\(b=true->(mZ x.op=false)/\
  (l6 x.op= .make->∃cJ,nl x.op C (base+x.i) jX J=some (ad,cJ)/\ab C h (base+x.i)=some cJ)/\
  (l6 x.op= .hQ->AR x.op=false->∀kb,gp x.op C kb jX J=some ad))
def FK(C:aX)(h:U an)(ak:List (Nat×H))(J:U H)(x:e4)(ad:H):Prop:=
 ∃jX kb b,Sub jX ak/\oD C kb h/\nL x.g jX=some b/\(b=true->l6 x.op= .hQ->gp x.op C kb jX J=some ad)
def yh(K:cY)(Z:Nat->Prop)(ap:Nat)(aq:Array Oper)(c7:Nat->Prop)(ak:List (Nat×H))(J:U H)(tmps:Array Value):Prop:=
 ∀t v,((∃aa,c7 aa/\re aq aa=some t/\(∀ny,c7 ny->re aq ny=some t->ny<=aa)/\d8 ak aa=some v)\/((∀aa,c7 aa->re aq aa≠some t)/\e7 ap t=true/\J.get t=some v))->
  tmps[t]? =some (aD K v)/\b0 Z v
structure qc(C:aX)(K:cY)(Z:Nat->Prop)(h:U an)(base n ap:Nat)(aq:Array Oper)(ak:List (Nat×H))(B m:Nat)(J:U H)(tmps:Array Value)(c7:Nat->Prop):Prop where
 st:oB C n ap aq
 size:tmps.size=n
 Lw:B<=(gc C n ap aq).length
 dS:C.bj<=base
 closed:A2 aq c7
 v7:∀i,c7 i->i<aq.size
 done:∀p a,(gc C n ap aq)[p]? =some a->(c7 a.1.i↔p<B)
 sY:∀l∈lc C n ap aq,c7 l.x.i->l.bP<m
 keys:∀i ad,d8 ak i=some ad->(∃l∈lc C n ap aq,l.x.i=i/\l.bP<m)\/(∃p a,(gc C n ap aq)[p]? =some a/\a.1.i=i/\p<B)
 t6:∀p a,(gc C n ap aq)[p]? =some a->p<B->∃ad,d8 ak a.1.i=some ad
 ahead:∀l∈lc C n ap aq,l.bP<m->∃ad,d8 ak l.x.i=some ad/\(¬c7 l.x.i->I1 C Z h base ak J l.x ad)
 Bq:yh K Z ap aq c7 ak J tmps
 ids:∀i,i<aq.size->Z (base+i)->c7 i
 free:∀i,i<aq.size->d8 ak i=none->ab C h (base+i)=none
section
variable{C:aX}{K c1:cY}{Z di:Nat->Prop}{h V:U an}{k av bg:Nat}{w bz:World}
theorem nQ.af{ap:Nat}{X:Nat->Prop}{dZ:List (Nat×Nat)}{ak:List (Nat×H)}{J:U H}{tmps:Array Value}(dt:∀b,Z b->c1 b=K b)(f5:∀b,Z b->di b)(a:nQ K Z ap X dZ ak J tmps):nQ c1 di ap X dZ ak J tmps:=
 λt v ag bu=>by
  obtain⟨M,R⟩:=a t v ag bu
  exact⟨by rw[M,pp dt R],nW f5 v R⟩
theorem yh.af{ap:Nat}{aq:Array Oper}{c7:Nat->Prop}{ak:List (Nat×H)}{J:U H}{tmps:Array Value}(dt:∀b,Z b->c1 b=K b)(f5:∀b,Z b->di b)(a:yh K Z ap aq c7 ak J tmps):yh c1 di ap aq c7 ak J tmps:=
 λt v bu=>by
  obtain⟨M,R⟩:=a t v bu
  exact⟨by rw[M,pp dt R],nW f5 v R⟩
theorem q1.af(dt:∀b,Z b->c1 b=K b)(f5:∀b,Z b->di b)(a:q1 C K Z):q1 C c1 di:=λg bV=>by
 obtain⟨M,R,au⟩:=a g bV
 exact⟨f5 g M,by rw[dt g M];exact R,by rw[dt g M];exact au⟩
theorem qc.af{cK base n ap B m:Nat}{aq:Array Oper}{ak:List (Nat×H)}{J:U H}{tmps:Array Value}{c7:Nat->Prop}(ag:hS C cK K Z h bg w c1 di V bz)(aE:base+aq.size<=cK)
 (a:qc C K Z h base n ap aq ak B m J tmps c7):qc C c1 di V base n ap aq ak B m J tmps c7:=by
 have D5:∀i,i<aq.size->di (base+i)->c7 i:=λi aN aI=>(ag.new _ aI).elim (a.ids i aN) (λar=>Zo)
 refine⟨a.st,a.size,a.Lw,a.dS,a.closed,a.v7,a.done,a.sY,a.keys,a.t6, ?_,a.Bq.af ag.hW ag.iH,D5, ?_⟩
 ·intro l gY nr
  obtain⟨ad,M,R⟩:=a.ahead l gY nr
  refine⟨ad,M,λb7=> ?_⟩
  obtain⟨au,jX,b,aM,bA,cr,dM⟩:=R b7
  refine⟨au,jX,b,aM,bA,cr,λai=> ?_⟩
  obtain⟨fC,lj,tL⟩:=dM ai
  refine⟨fC,λaP=> ?_,tL⟩
  obtain⟨cJ,xb,BD⟩:=lj aP
  refine⟨cJ,xb, ?_⟩
  have cR:=JL a.st gY
  rw[ag.af _ (λaI=>b7 (a.ids _ cR aI)) Zo]
  exact BD
 ·intro i aN bu
  rw[ag.af _ ?_ Zo]
  ·exact a.free i aN bu
  ·intro aI
   have b7:=a.ids i aN aI
   rcases Ve a.st i aN with ⟨l,sN,pI⟩|⟨p,j,ax,T⟩
   ·obtain⟨ad,aZ,_⟩:=a.ahead l sN (a.sY l sN (by rw[pI];exact b7))
    rw[pI,bu]at aZ;cases aZ
   ·obtain⟨ad,aZ⟩:=a.t6 p j ax ((a.done p j ax).1 (by rw[T];exact b7))
    rw[T,bu]at aZ;cases aZ
end
end Go.al

namespace Go.al
open Go.RowKit (Below)
section
variable{C:aX}{K c1:cY}{Z di:Nat->Prop}{h V:U an}{k av bg:Nat}{w bz:World}{n ap:Nat}{aq:Array Oper}
theorem aan{I b t:Nat}(M:e7 I t=true)(R:e7 b t=true):Nat.beq (Nat.land I b) 0=false:=by
 cases a:Nat.beq (Nat.land I b) 0 with
 |false=>rfl
 |true=>
  have E:=Zi a
  have:=ahd I b t
  rw[E,Jv,M,R]at this
  cases this
theorem Ma{p:fS}{W:Oper}(a:Db aq p W){t:Nat}(aI:W.dst=some t):e7 p.w t=true:=by rw[a.w];exact aif.2 aI
theorem aqR{p:fS}{W:Oper}(a:Db aq p W){t:Nat}(S:Operand.tmp t∈W.op.operands.toList):e7 p.r t=true:=by
 rw[a.r,Do,aqf.2 S];rfl
theorem NJ(a:oB C n ap aq){i aa:Nat}{p ar:fS}(KR:i<aa)(ax:(nT aq)[i]? =some p)(cf:(nT aq)[aa]? =some ar){t:Nat}
 (ay:(e7 p.w t=true/\(e7 ar.r t=true\/e7 ar.w t=true))\/(e7 ar.w t=true/\e7 p.r t=true)):e7 ar.m i=true:=by
 have:=ap6 a.aqs i aa p ar KR ax cf
 have Hv:p.i=i:=((Gj aq).2 i p ax).1
 unfold L0 at this
 rw[Hv]at this
 rcases ay with ⟨M,R⟩|⟨M,R⟩
 ·have au:e7 (Nat.lor ar.r ar.w) t=true:=by rw[Do];rcases R with R|R<;>simp[R]
  rw[aan M au]at this
  simpa using this
 ·rw[aan M R]at this
  simpa using this
theorem LL{i:Nat}{p:fS}(ax:(nT aq)[i]? =some p):p∈nT aq:=Zp ax
theorem ah6(cV:oB C n ap aq){c7:Nat->Prop}{ak:List (Nat×H)}{J:U H}{tmps:Array Value}(j4:A2 aq c7)(n0:∀i,c7 i->i<aq.size)(aI:yh K Z ap aq c7 ak J tmps)
 {i:Nat}{p:fS}{W:Oper}(ax:(nT aq)[i]? =some p)(bc:aq[i]? =some W)(pK:¬c7 i)(lk:∀E∈W.after.toList,Region.binds .any E=true->c7 E.on):
 nQ K Z ap (λt=>e7 p.r t=true) (h0 aq i) ak J tmps:=by
 have aN:i<aq.size:=(ZK.1 bc).1
 obtain⟨_,eT,f3⟩:=IX aq i (zt aN)
 have Hv:p.i=i:=((Gj aq).2 i p ax).1
 have K2:=Gk j4 (LL ax) (by rw[Hv];exact bc) lk
 have aap:∀t aa,e7 p.r t=true->i<aa->c7 aa->re aq aa=some t->False:=by
  intro t aa S KR b7 tU
  obtain⟨ar,x,xU,_,cf,v6,_,ag,xv⟩:=wW cV aa (n0 aa b7)
  have xu:aq[aa]? =some xU:=by rw[<-v6];exact xv.oper
  have bL:=Ma xv (t:=t) (by rw[<-Gn xu];exact tU)
  have ai:=NJ cV KR ax cf (.inr ⟨bL,S⟩)
  have:=Gk j4 (LL cf) (by rw[v6];exact xu) (j4 aa xU xu b7) i ai
  exact pK this
 intro t v bO bu
 apply aI t v
 split at bu
 ·rename_i aa bK
  obtain⟨b9,b3,g3⟩:=eT t aa bK
  left
  have al2:aa<aq.size:=Zo
  obtain⟨ar,x,xU,_,cf,v6,_,ag,xv⟩:=wW cV aa al2
  have xu:aq[aa]? =some xU:=by rw[<-v6];exact xv.oper
  have bL:=Ma xv (t:=t) (by rw[<-Gn xu];exact b3)
  have ai:=NJ cV b9 cf ax (.inl ⟨bL, .inl bO⟩)
  refine⟨aa,K2 aa ai,b3,λny BG rp=> ?_,bu⟩
  rcases YY ny i with M|M|M
  ·rcases zh aa ny with R|R
   ·exact absurd rp (g3 ny R M)
   ·exact R
  ·exact absurd (M▸BG) pK
  ·exact(aap t ny bO M BG rp).elim
 ·rename_i bK
  right
  refine⟨λaa b7 tU=> ?_,bu.1,bu.2⟩
  rcases YY aa i with M|M|M
  ·exact f3 t bK aa M tU
  ·exact pK (M▸b7)
  ·exact aap t aa bO M b7 tU
theorem yh.put(cV:oB C n ap aq){c7:Nat->Prop}{ak gI:List (Nat×H)}{J:U H}{tmps:Array Value}(j4:A2 aq c7)(n0:∀i,c7 i->i<aq.size)(aI:yh K Z ap aq c7 ak J tmps)(eg:tmps.size=n)
 {i:Nat}{W:Oper}{v:H}(bc:aq[i]? =some W)(pK:¬c7 i)(xf:∀aa,c7 aa->∀ad,d8 gI aa=some ad->d8 ak aa=some ad)(ak4:d8 gI i=some v)(pD:∀d,W.dst=some d->d<n)(fi:b0 Z v):
 yh K Z ap aq (add c7 i) gI J (pa tmps W.dst (aD K v)):=by
 have aN:i<aq.size:=(ZK.1 bc).1
 have O9:=Gn bc
 have Ei:∀t,(pa tmps W.dst (aD K v))[t]? =if W.dst=some t then some (aD K v)else tmps[t]? :=λt=>abC _ _ _ _ (by rw[eg];exact pD)
 intro t ad a
 rw[Ei]
 by_cases D0:W.dst=some t
 ·rw[Zr D0]
  rcases a with ⟨aa,b7,tU,vY,aZ⟩|⟨M,_⟩
  ·
   have Xi:aa=i:=by
    rcases b7 with b7|b7
    ·have fX:=vY i (.inr rfl) (by rw[O9];exact D0)
     rcases zh i aa with cR|y0
     ·exfalso
      obtain⟨p,x,ap0,_,ax,Hv,_,_,B5⟩:=wW cV i aN
      obtain⟨ar,ir,xU,_,cf,v6,_,_,xv⟩:=wW cV aa (n0 aa b7)
      have xu:aq[aa]? =some xU:=by rw[<-v6];exact xv.oper
      have ams:ap0=W:=by
       have:=B5.oper
       rw[Hv,bc]at this
       exact(Yi this).symm
      subst ams
      have ai:=NJ cV cR ax cf (.inl ⟨Ma B5 D0, .inr (Ma xv (by rw[<-Gn xu];exact tU))⟩)
      exact pK (Gk j4 (LL cf) (by rw[v6];exact xu) (j4 aa xU xu b7) i ai)
     ·omega
    ·exact b7
   subst Xi
   rw[ak4]at aZ
   cases aZ
   exact⟨rfl,fi⟩
  ·exact absurd (by rw[O9];exact D0) (M i (.inr rfl))
 ·rw[Zg D0]
  apply aI t ad
  rcases a with ⟨aa,b7,tU,vY,aZ⟩|⟨M,R⟩
  ·left
   have BG:c7 aa:=b7.resolve_right λE=>D0 (by rw[<-O9, <-E];exact tU)
   exact⟨aa,BG,tU,λny Hh rp=>vY ny (.inl Hh) rp,xf aa BG ad aZ⟩
  ·right
   exact⟨λaa bK=>M aa (.inl bK),R⟩
theorem A2.add{c7:Nat->Prop}(j4:A2 aq c7){i:Nat}{W:Oper}(bc:aq[i]? =some W)(lk:∀E∈W.after.toList,Region.binds .any E=true->c7 E.on):A2 aq (add c7 i):=by
 intro aa xU bK b7 E aW ai
 rcases b7 with b7|b7
 ·exact .inl (j4 aa xU bK b7 E aW ai)
 ·subst b7
  rw[bc]at bK;cases bK
  exact .inl (lk E aW ai)
theorem LB(cV:oB C n ap aq){l:oE}(aE:l∈lc C n ap aq){p:Nat}{j:fS×e4}(ax:(gc C n ap aq)[p]? =some j):l.x.i≠j.1.i:=by
 intro E
 obtain⟨ar,M,R,_⟩:=JM aE
 obtain⟨au,aM⟩:=JJ (Zp ax)
 obtain⟨_,_,b3,g3,_⟩:=wX cV M
 obtain⟨_,_,cg,cH,_⟩:=wX cV au
 simp only at b3 g3
 rw[<-b3,E,cH]at g3
 cases g3
 rw[R]at aM;cases aM
theorem qc.e1{base dx:Nat}{ak:List (Nat×H)}{J:U H}{tmps:Array Value}{c7:Nat->Prop}(a:qc C K Z h base n ap aq ak dx (dx+1) J tmps c7){j:fS×e4}(T:(gc C n ap aq)[dx]? =some j)
 {W:Oper}(bc:aq[j.1.i]? =some W)(pK:¬c7 j.1.i)(lk:∀E∈W.after.toList,Region.binds .any E=true->c7 E.on){v:H}(fi:b0 Z v)(pD:∀d,W.dst=some d->d<n):
 qc C K Z h base n ap aq ((j.1.i,v)::ak) (dx+1) (dx+1) J (pa tmps W.dst (aD K v)) (add c7 j.1.i):=by
 have Ph:d8 ak j.1.i=none:=by
  cases bu:d8 ak j.1.i with
  |none=>rfl
  |some ad=>
   exfalso
   rcases a.keys _ ad bu with ⟨l,M,R,_⟩|⟨p,bl,M,R,au⟩
   ·exact LB a.st M T R
   ·have:=Vc a.st M T R;omega
 have xB:Sub ak ((j.1.i,v)::ak):=Sub.cons Ph
 have aN:j.1.i<aq.size:=(ZK.1 bc).1
 refine⟨a.st,by rw[Mc];exact a.size,by have:=(Zc.1 T).1;omega,a.dS,a.closed.add bc lk, ?_, ?_, ?_, ?_, ?_, ?_, ?_, ?_, ?_⟩
 ·rintro i (b7|b7)
  ·exact a.v7 i b7
  ·omega
 ·intro p bl cj
  constructor
  ·rintro(b7|b7)
   ·have:=(a.done p bl cj).1 b7;omega
   ·have:=Vc a.st cj T b7;omega
  ·intro ax
   rcases zh p dx with cR|y0
   ·exact .inl ((a.done p bl cj).2 cR)
   ·have:p=dx:=Zo
    subst this
    rw[T]at cj;cases cj
    exact .inr rfl
 ·rintro l aE (b7|b7)
  ·exact a.sY l aE b7
  ·exact(LB a.st aE T b7).elim
 ·intro i ad aZ
  rw[qi]at aZ
  split at aZ
  ·rename_i E
   exact .inr ⟨dx,j,T,E,Zo⟩
  ·rcases a.keys i ad aZ with M|⟨p,bl,M,R,au⟩
   ·exact .inl M
   ·exact .inr ⟨p,bl,M,R,Zo⟩
 ·intro p bl cj ax
  rw[qi]
  split
  ·exact⟨v,rfl⟩
  ·rename_i dv
   have:p≠dx:=λE=>by subst E;rw[T]at cj;cases cj;exact dv rfl
   exact a.t6 p bl cj Zo
 ·intro l aE nr
  obtain⟨ad,M,R⟩:=a.ahead l aE nr
  refine⟨ad,xB _ _ M,λb7=> ?_⟩
  obtain⟨_,jX,b,aM,bA⟩:=R (λar=>b7 (.inl ar))
  exact⟨xB _ _ M,jX,b,aM.trans xB,bA⟩
 ·refine a.Bq.put a.st a.closed a.v7 a.size bc pK ?_ (by rw[qi,Zr rfl]) pD fi
  intro aa b7 ad aZ
  rw[qi,Zg]at aZ
  ·exact aZ
  ·intro E;subst E;exact pK b7
 ·intro i kB aI
  exact .inl (a.ids i kB aI)
 ·intro i kB bu
  rw[qi]at bu
  split at bu
  ·cases bu
  ·exact a.free i kB bu
theorem qc.hQ{base dx m:Nat}{ak:List (Nat×H)}{J:U H}{tmps:Array Value}{c7:Nat->Prop}(a:qc C K Z h base n ap aq ak dx m J tmps c7){l:oE}(aE:l∈lc C n ap aq)(nr:l.bP<m)
 {W:Oper}(bc:aq[l.x.i]? =some W)(pK:¬c7 l.x.i)(lk:∀E∈W.after.toList,Region.binds .any E=true->c7 E.on){v:H}(bu:d8 ak l.x.i=some v)
 (dt:∀b,Z b->c1 b=K b)(f5:∀b,Z b->di b)(OH:∀b,di b->Z b\/b=base+l.x.i)(fi:b0 di v)(pD:∀d,W.dst=some d->d<n):
 qc C c1 di h base n ap aq ak dx m J (pa tmps W.dst (aD c1 v)) (add c7 l.x.i):=by
 have aN:l.x.i<aq.size:=(ZK.1 bc).1
 refine⟨a.st,by rw[Mc];exact a.size,a.Lw,a.dS,a.closed.add bc lk, ?_, ?_, ?_,a.keys,a.t6, ?_, ?_, ?_,a.free⟩
 ·rintro i (b7|b7)
  ·exact a.v7 i b7
  ·omega
 ·intro p bl cj
  constructor
  ·rintro(b7|b7)
   ·exact(a.done p bl cj).1 b7
   ·exact(LB a.st aE cj b7.symm).elim
  ·intro ax
   exact .inl ((a.done p bl cj).2 ax)
 ·rintro cd gY (b7|b7)
  ·exact a.sY cd gY b7
  ·have:=(NU a.st)
   by_cases ar:cd=l
   ·rw[ar];exact nr
   ·exfalso
    obtain⟨I,aG⟩:=ZW.1 gY
    obtain⟨b,ai⟩:=ZW.1 aE
    obtain⟨G0,mU⟩:=Zc.1 aG
    obtain⟨np,oT⟩:=Zc.1 ai
    rw[YS]at this
    rcases YY I b with cR|E|gA
    ·have:=this I b G0 np cR
     rw[mU,oT]at this;omega
    ·subst E
     rw[mU]at oT;exact ar oT
    ·have:=this b I np G0 gA
     rw[mU,oT]at this;omega
 ·intro cd gY al9
  obtain⟨ad,M,R⟩:=a.ahead cd gY al9
  refine⟨ad,M,λb7=> ?_⟩
  obtain⟨au,jX,b,aM,bA,cr,dM⟩:=R (λar=>b7 (.inl ar))
  exact⟨au,jX,b,aM,bA,cr,dM⟩
 ·exact(a.Bq.af dt f5).put a.st a.closed a.v7 a.size bc pK (λ_ _ _ ar=>ar) bu pD fi
 ·intro i kB aI
  rcases OH _ aI with aI|aI
  ·exact .inl (a.ids i kB aI)
  ·exact .inr Zo
end
end Go.al

namespace Go.al
open Go.RowKit (Below)
def sl(K:cY)(p:qX):PanicEntry:={v:=aD K p.v,recovered:=p.recovered}
def gj(K:cY):ks->FrameMode
 | .run=> .run
 | .returning=> .returning
 | .panicking fL=> .panicking (fL.map (sl K))
def px(Z:Nat->Prop):ks->Prop
 | .panicking fL=>∀p∈fL,b0 Z p.v
 |_=>True
inductive A4(C:aX)(K:cY)(Z:Nat->Prop)(ap:Nat):dy->Item->Prop
 |code {c:Code}:la C ap c=true->A4 C K Z ap (.code c) (.code c)
 |inBlock {id:Nat}:A4 C K Z ap (.inBlock id) (.inBlock id)
 |inLoop {b:Code}:la C ap b=true->A4 C K Z ap (.inLoop b) (.inLoop b)
 |inScope {b:Code}:la C ap b=true->A4 C K Z ap (.inScope b) (.inScope b)
 |Bt {l:Nat}:Z l->A4 C K Z ap (.endRangeFunc l) (.endRangeFunc (K l).cq)
 |begin:A4 C K Z ap .beginRound .beginRound
inductive k4(C:aX)(K:cY)(Z:Nat->Prop)(ap:Nat):List dy->List Item->Prop
 |nil:k4 C K Z ap [] []
 |cons {I x B bs}:A4 C K Z ap I x->k4 C K Z ap B bs->k4 C K Z ap (I::B) (x::bs)
def M8(C:aX)(K:cY)(Z:Nat->Prop)(n ap:Nat)(aq:Array Oper)(ak:List (Nat×H))(rest:List e4)(fin:List (Nat×Nat))(J:U H)(tmps:Array Value)(l:List Nat):Prop:=
 ∃i,i<=aq.size/\l=List.range' i (aq.size-i)/\ra C n ap (aq.toList.drop i) i (h0 aq i)=some rest/\fin=kA ap aq.toList 0/\nQ K Z ap (λ_=>True) (h0 aq i) ak J tmps/\tmps.size=n
def af8(C:aX)(K:cY)(Z:Nat->Prop)(n ap:Nat)(aq:Array Oper)(ak:List (Nat×H))(a:Nat)(rest:List e4)(fin:List (Nat×Nat))(J:U H)(tmps:Array Value)(l:List Nat):Prop:=
 ∃W,aq[a]? =some W/\(∀d,W.dst=some d->d<n)/\l=List.range' (a+1) (aq.size-(a+1))/\ra C n ap (aq.toList.drop (a+1)) (a+1) (h0 aq (a+1))=some rest/\fin=kA ap aq.toList 0/\
  nQ K Z ap (λ_=>True) (h0 aq a) ak J tmps/\tmps.size=n
inductive Bd(C:aX)(K:cY)(Z:Nat->Prop)(h:U an)(cK k n ap:Nat)(J:U H)(tmps:Array Value):List dy->List Item->Prop
 |plain {B bs}:k4 C K Z ap B bs->iR K Z n ap J tmps->Bd C K Z h cK k n ap J tmps B bs
 |seq {aq ak rest fin l B bs}:k4 C K Z ap B bs->M8 C K Z n ap aq ak rest fin J tmps l->Bd C K Z h cK k n ap J tmps (.Fl aq ak rest fin::B) (.inRegion aq l::bs)
 |drawn {aq base ak l B bs c7 dx}:k4 C K Z ap B bs->cK<=base->base+aq.size<=k->qc C K Z h base n ap aq ak dx dx J tmps c7->vk aq c7 l->
   Bd C K Z h cK k n ap J tmps (.drawn aq base ak (xQ (lc C n ap aq) dx ((gc C n ap aq).drop dx)) (kA ap aq.toList 0)::B) (.inRegion aq l::bs)
inductive lO(C:aX)(K:cY)(Z:Nat->Prop)(h:U an)(bP aN n ap:Nat)(J:U H)(tmps:Array Value):List dy->List Item->Prop
 |seq {aq ak a rest fin l B bs}:k4 C K Z ap B bs->af8 C K Z n ap aq ak a rest fin J tmps l->lO C K Z h bP aN n ap J tmps (.r5 aq ak a rest fin::B) (.inRegion aq (a::l)::bs)
 |drawn {aq base ak l B bs c7 dx j W}:k4 C K Z ap B bs->bP<=base->base+aq.size<=aN->qc C K Z h base n ap aq ak dx (dx+1) J tmps c7->(gc C n ap aq)[dx]? =some j->
   aq[j.1.i]? =some W->¬c7 j.1.i->(∀E∈W.after.toList,Region.binds .any E=true->c7 E.on)->vk aq (add c7 j.1.i) l->
   lO C K Z h bP aN n ap J tmps (.yb aq base ak j.1.i (xQ (lc C n ap aq) (dx+1) ((gc C n ap aq).drop (dx+1))) (kA ap aq.toList 0)::B) (.inRegion aq (j.1.i::l)::bs)
 |ef {l B bs}:k4 C K Z ap B bs->iR K Z n ap J tmps->Z l->lO C K Z h bP aN n ap J tmps (.inRangeFunc l::B) (.inRangeFunc (K l).cq::bs)
def yq(C:aX)(K:cY)(Z:Nat->Prop)(h:U an)(bP aN n ap:Nat)(J:U H)(tmps:Array Value)(bG:ks)(todo:List dy)(bs:List Item):Prop:=match bG with
 | .run=>lO C K Z h bP aN n ap J tmps todo bs
 |_=>iR K Z n ap J tmps
def cl(K:cY)(fn:Nat)(a8:List hj)(aB:Bool)(ro:Option Nat)(tmps:Array Value)(bs:List Item)(mode:FrameMode):Frame:=
 {fn,tmps,todo:=bs,defers:=a8.map (k7 K),mode,kind:=if aB then .deferred else .normal,roundOf:=ro.map λl=>(K l).cq}
structure vf(C:aX)(Z:Nat->Prop)(fn ap:Nat)(a8:List hj)(ro:Option Nat):Prop where
 a8:∀d∈a8,vA Z d
 ro:∀l,ro=some l->Z l
 fn:MX C fn ap
inductive nM(C:aX)(K:cY)(Z:Nat->Prop)(h:U an)(bt:Nat)(bJ:List Frame):Nat->List gi->List Frame->Prop
 |nil {cK}:nM C K Z h bt bJ cK [] bJ
 |cons {bP cK fn n ap J todo a8 bG aB ro cs tmps bs aC}:yq C K Z h bP cK n ap J tmps bG todo bs->px Z bG->vf C Z fn ap a8 ro->(cs=[]->fn=bt/\aB=false/\ro=none)->bP<=cK->nM C K Z h bt bJ bP cs aC->
   nM C K Z h bt bJ cK (⟨fn,n,ap,J,todo,a8,bG,aB,ro⟩::cs) (cl K fn a8 aB ro tmps bs (gj K bG)::aC)
section
variable{C:aX}{K c1:cY}{Z di:Nat->Prop}{h V:U an}{k av bg:Nat}{w bz:World}{n ap:Nat}{aq:Array Oper}
theorem k4.af{B:List dy}{bs:List Item}(dt:∀b,Z b->c1 b=K b)(f5:∀b,Z b->di b)(a:k4 C K Z ap B bs):k4 C c1 di ap B bs:=by
 induction a with
 |nil=>exact .nil
 |cons M _ ah=>
  refine .cons ?_ ah
  cases M with
  |code a=>exact .code a
  |inBlock=>exact .inBlock
  |inLoop a=>exact .inLoop a
  |inScope a=>exact .inScope a
  |Bt a=>rw[<-dt _ a];exact .Bt (f5 _ a)
  |begin=>exact .begin
theorem lO.af{bP cK:Nat}{J:U H}{tmps:Array Value}{B:List dy}{bs:List Item}(ag:hS C cK K Z h bg w c1 di V bz)(a:lO C K Z h bP cK n ap J tmps B bs):lO C c1 di V bP cK n ap J tmps B bs:=by
 cases a with
 |seq M R=>
  obtain⟨W,be,b2,a3,a4,a5,hT,iv⟩:=R
  exact .seq (M.af ag.hW ag.iH) ⟨W,be,b2,a3,a4,a5,hT.af ag.hW ag.iH,iv⟩
 |drawn M R au aM bA cr dM fC lj=>exact .drawn (M.af ag.hW ag.iH) R au (aM.af ag au) bA cr dM fC lj
 |ef M R au=>rw[<-ag.hW _ au];exact .ef (M.af ag.hW ag.iH) (R.af ag.hW ag.iH) (ag.iH _ au)
theorem yq.af{bP cK:Nat}{J:U H}{tmps:Array Value}{bG:ks}{B:List dy}{bs:List Item}(ag:hS C cK K Z h bg w c1 di V bz)(a:yq C K Z h bP cK n ap J tmps bG B bs):yq C c1 di V bP cK n ap J tmps bG B bs:=by
 cases bG with
 |run=>exact lO.af ag a
 |returning=>exact iR.af ag.hW ag.iH a
 |panicking fL=>exact iR.af ag.hW ag.iH a
theorem vf.af{fn:Nat}{a8:List hj}{ro:Option Nat}(f5:∀b,Z b->di b)(a:vf C Z fn ap a8 ro):vf C di fn ap a8 ro:=
 ⟨λd aI=>V1 f5 (a.a8 d aI),λl aE=>f5 l (a.ro l aE),a.fn⟩
theorem EU{fn:Nat}{a8:List hj}{aB:Bool}{ro:Option Nat}{tmps:Array Value}{bs:List Item}{mode:FrameMode}(dt:∀b,Z b->c1 b=K b)(a:vf C Z fn ap a8 ro):cl c1 fn a8 aB ro tmps bs mode=cl K fn a8 aB ro tmps bs mode:=by
 unfold cl
 congr 1
 ·exact YA λd aI=>NA dt (a.a8 d aI)
 ·cases ro with
  |none=>rfl
  |some l=>simp only[ZT,dt l (a.ro l rfl)]
theorem aht{bG:ks}(dt:∀b,Z b->c1 b=K b)(a:px Z bG):gj c1 bG=gj K bG:=by
 cases bG with
 |panicking fL=>
  simp only[gj]
  congr 1
  exact YA λp ax=>by simp only[sl,pp dt (a p ax)]
 |_=>rfl
theorem aj5{bG:ks}(f5:∀b,Z b->di b)(a:px Z bG):px di bG:=by
 cases bG with
 |panicking fL=>exact λp ax=>nW f5 _ (a p ax)
 |_=>trivial
theorem hS.mono{cK H6:Nat}(a:hS C cK K Z h bg w c1 di V bz)(aE:H6<=cK):hS C H6 K Z h bg w c1 di V bz:=
 ⟨a.hW,a.iH,λb ai=>(a.new b ai).imp id (λar=>Zo),λb ai cR=>a.af b ai Zo,a.below⟩
theorem nM.af{bt:Nat}{bJ:List Frame}{cK:Nat}{cs:List gi}{aC:List Frame}(a:nM C K Z h bt bJ cK cs aC)(ag:hS C cK K Z h bg w c1 di V bz):nM C c1 di V bt bJ cK cs aC:=by
 induction a with
 |nil=>exact .nil
 |cons M bi R aM bA cr ah=>
  rw[<-EU (K:=K) (c1:=c1) ag.hW R, <-aht ag.hW bi]
  exact .cons (M.af ag) (aj5 ag.iH bi) (R.af ag.iH) aM bA (ah (ag.mono bA))
theorem JN(t:Nat):∀(l:List Nat) (J:U H),(vv l J).get t=if t∈l then none else J.get t:=by
 intro l
 induction l with
 |nil=>intro J;simp[vv]
 |cons d l ah=>
  intro J
  simp only[vv,ah,U.kf,Zl]
  by_cases a:t∈l
  ·simp[a]
  ·by_cases E:d=t
   ·subst E;simp
   ·have:¬t=d:=λar=>E ar.symm
    simp[a,E,this]
theorem iR.drop{J:U H}{tmps:Array Value}(a:iR K Z n ap J tmps)(l:List Nat):iR K Z n ap (vv l J) tmps:=by
 refine⟨a.size,λt v ai bu=> ?_⟩
 rw[JN]at bu
 split at bu
 ·cases bu
 ·exact a.val t v ai bu
theorem Vj{l:List Oper}{W:Oper}{d:Nat}(bc:W∈l)(aI:W.dst=some d):d∈dstsOf l:=by
 induction l with
 |nil=>cases bc
 |cons I l ah=>
  simp only[dstsOf]
  rcases Zl.1 bc with rfl|bc
  ·rw[aI];exact Zq ..
  ·split
   ·exact Zn _ (ah bc)
   ·exact ah bc
theorem lO.drop{bP cK:Nat}{J:U H}{tmps:Array Value}{B:List dy}{bs:List Item}(a:lO C K Z h bP cK n ap J tmps B bs):iR K Z n ap (tx B J) tmps:=by
 cases a with
 |seq M R=>
  rename_i aq ak a rest fin l B bs
  obtain⟨W,be,b2,a3,a4,a5,hT,iv⟩:=R
  refine⟨iv,λt v ai bu=> ?_⟩
  simp only[tx]at bu
  rw[JN]at bu
  split at bu
  ·cases bu
  ·rename_i aS
   have aN:a<aq.size:=(ZK.1 be).1
   obtain⟨_,eT,_⟩:=IX aq a (zt aN)
   apply hT t v trivial
   cases bK:d8 (h0 aq a) t with
   |some aa=>
    exfalso
    obtain⟨b9,b3,_⟩:=eT t aa bK
    unfold re at b3
    cases bc:aq[aa]? with
    |none=>rw[bc]at b3;cases b3
    |some o'=>
     rw[bc]at b3
     exact aS (Vj (by rw[Array.mem_toList_iff];exact za bc) b3)
   |none=>exact⟨ai,bu⟩
 |drawn M R au aM bA cr dM fC lj=>
  rename_i aq base ak l B bs c7 dx j W
  refine⟨aM.size,λt v ai bu=> ?_⟩
  simp only[tx]at bu
  rw[JN]at bu
  split at bu
  ·cases bu
  ·rename_i aS
   apply aM.Bq t v
   right
   refine⟨λaa b7 aI=> ?_,ai,bu⟩
   unfold re at aI
   cases bc:aq[aa]? with
   |none=>rw[bc]at aI;cases aI
   |some o'=>
    rw[bc]at aI
    exact aS (Vj (by rw[Array.mem_toList_iff];exact za bc) aI)
 |ef M R au=>exact R
theorem yq.drop{bP cK:Nat}{J:U H}{tmps:Array Value}{bG:ks}{B:List dy}{bs:List Item}(a:yq C K Z h bP cK n ap J tmps bG B bs):iR K Z n ap (tx B J) tmps:=by
 cases bG with
 |run=>exact lO.drop a
 |_=>
  have cv:iR K Z n ap J tmps:=a
  unfold tx
  split<;>first|exact cv.drop _|exact cv
theorem nQ.put{J:U H}{ak:List (Nat×H)}{tmps:Array Value}{i:Nat}{W:Oper}{v:H}(bc:aq[i]? =some W)(bu:nQ K Z ap (λ_=>True) (h0 aq i) ak J tmps)(aI:∀d,W.dst=some d->d<tmps.size)(fi:b0 Z v):
 nQ K Z ap (λ_=>True) (h0 aq (i+1)) ((i,v)::ak) J (pa tmps W.dst (aD K v)):=by
 have aN:i<aq.size:=(ZK.1 bc).1
 obtain⟨_,eT,_⟩:=IX aq i (zt aN)
 intro t ad _ a
 rw[abC _ _ _ _ aI]
 rw[IV bc,Dl]at a
 split at a
 ·rename_i aa bK
  split at bK
  ·rename_i E
   cases bK
   rw[qi,Zr rfl]at a
   cases a
   rw[Zr E]
   exact⟨rfl,fi⟩
  ·rename_i E
   rw[Zg E]
   have:=(eT t aa bK).1
   rw[qi,Zg Zo]at a
   exact bu t ad trivial (by rw[bK];exact a)
 ·rename_i bK
  split at bK
  ·cases bK
  ·rename_i E
   rw[Zg E]
   exact bu t ad trivial (by rw[bK];exact a)
theorem J4{g:Frame}{a:Nat}{l:List Nat}{bs:List Item}{W:Oper}(bV:g.todo= .inRegion aq (a::l)::bs)(bc:aq[a]? =some W)(v:Value):
 g.finish v={g with tmps:=pa g.tmps W.dst v,todo:= .inRegion aq l::bs}:=by
 unfold Frame.finish
 rw[bV]
 simp only[bc,ZE]
 cases W.dst<;>rfl
theorem ai6{bP cK k n ap fn:Nat}{J:U H}{tmps:Array Value}{todo:List dy}{bs:List Item}{a8:List hj}{aB:Bool}{ro:Option Nat}{mode:FrameMode}{v:H}(a:lO C K Z h bP cK n ap J tmps todo bs)(aE:cK<=k)(fi:b0 Z v):
 ∃dY B hc hi hD,todo=dY::B/\nV dY v=some hc/\(cl K fn a8 aB ro tmps bs mode).finish (aD K v)=cl K fn a8 aB ro hi hD mode/\Bd C K Z h bP k n ap J hi (hc::B) hD:=by
 cases a with
 |seq M R=>
  rename_i aq ak a rest fin l B bs
  obtain⟨W,be,b2,a3,a4,a5,hT,iv⟩:=R
  have cR:a<aq.size:=(ZK.1 be).1
  refine⟨_,B, .Fl aq ((a,v)::ak) rest fin,pa tmps W.dst (aD K v), .inRegion aq l::bs,rfl,rfl, ?_, .seq M ⟨a+1,Zo,a3,a4,a5,hT.put be (by rw[iv];exact b2) fi,by rw[Mc];exact iv⟩⟩
  rw[J4 (g:=cl K fn a8 aB ro tmps _ mode) rfl be];rfl
 |drawn M R au aM bA cr dM fC lj=>
  rename_i aq base ak l B bs c7 dx j W
  have T:=Zp bA
  have pD:∀d,W.dst=some d->d<n:=by
   obtain⟨o',b9,b3,g3,ec,g5,g6⟩:=wX aM.st (JJ T).1
   have:o'=W:=by
    have:=g6.oper
    rw[cr]at this
    exact(Yi this).symm
   subst this
   exact g5.dst
  refine⟨_,B, .drawn aq base ((j.1.i,v)::ak) _ _,pa tmps W.dst (aD K v), .inRegion aq l::bs,rfl,rfl, ?_, .drawn M R (Zz au aE) (aM.e1 bA cr dM fC fi pD) lj⟩
  rw[J4 (g:=cl K fn a8 aB ro tmps _ mode) rfl cr];rfl
 |ef M R au=>
  rename_i l B bs
  exact⟨_,B, .endRangeFunc l,tmps, .endRangeFunc (K l).cq::bs,rfl,rfl,rfl, .plain (.cons (.Bt au) M) R⟩
theorem MI{J:U H}{ak jX:List (Nat×H)}{tmps:Array Value}{X:Nat->Prop}{i:Nat}{W:Oper}{g:Option (Nat×Bool)}{b:Bool}(aN:i<=aq.size)(bV:Ga (h0 aq i) W.guard=some g)(bu:nQ K Z ap X (h0 aq i) ak J tmps)
 (bO:∀aa b t,W.guard=some (aa,b)->vw aa (h0 aq i)=some t->X t)(aH:Sub jX ak)(a:nL g jX=some b):Region.wanted W (yielded aq tmps)=b:=by
 obtain⟨ez,_,_⟩:=IX aq i aN
 unfold Ga at bV
 unfold Region.wanted
 split at bV
 ·rename_i alR
  simp at bV;subst bV
  simp[nL]at a
  rw[alR, <-a]
 ·rename_i aa k2 tY
  rw[tY]
  split at bV
  ·rename_i t aT
   split at bV
   ·rename_i ny bK
    rw[gX]at bV
    split at bV
    ·rename_i E
     subst E
     simp at bV;subst bV
     simp only[nL]at a
     split at a
     ·rename_i ad aZ
      have:=bu t ad (bO aa k2 t tY aT) (by rw[bK];exact aH _ _ aZ)
      have T:yielded aq tmps aa=(match aD K ad with| .bool b=>some b|_=>none):=by
       unfold yielded
       have aI:=ez aa t aT
       unfold re at aI
       rw[aI]
       simp only[ZE,this.1]
       cases aD K ad<;>rfl
      simp only[T]
      cases ad<;>simp[aD]at a ⊢ <;>first|(rw[<-a])|exact a|(subst a;rfl)|skip
      all_goals simp_all
     ·simp at a
    ·simp at bV
   ·simp at bV
  ·simp at bV
end
end Go.al

