/- Part of the proof of the last text; no conditions -/
import Derived.Test.YtpeabpmnlmaabaaGreatDoorYa
import Derived.Laws.NewFold
import Derived.Laws.CopyRow
import Derived.Laws.RangeString
set_option maxHeartbeats 8000000
set_option linter.all false
namespace Go.bg
open Go.RowKit (Below)
section
variable{C:aN}{U:dd}{ae:Nat->Prop}{h:S ag}{j bx:Nat}{w:World}
def ayI{t f:Nat}{x:Operand}{ax:Operand->Value}{eF:Operand->Option E}{v:E}(cK:jY U ae ax eF [x])
 (a:Md C t x f h eF=some v):(Instr.field t (ax x) f).run C.P w= .ok (aT U v) w/\co ae v:=by
 unfold Md at a
 split at a
 ·rename_i kB cs bc af
  obtain⟨D,g⟩:=cK x Zs _ af
  rw[D]
  rw[qi]at a
  split at a
  ·rename_i tA b4
   have rE:kB[f]? =some tA:=by rw[<-b4];simp
   obtain⟨H,M⟩:=J2 (U:=U) (w:=w) g a
   refine⟨?_,M⟩
   simp[Instr.field,run_underlying bc,rE,asAgg,aT,H]
  ·simp at a
 ·simp at a
def ayJ{t:Nat}{x:Operand}{ax:Operand->Value}{eF:Operand->Option E}{v:E}(cK:jY U ae ax eF [x])
 (a:Me C t x h eF=some v):(Instr.makeInterface t (ax x)).run C.P w= .ok (aT U v) w/\co ae v:=by
 unfold Me at a
 split at a
 ·simp at a
 ·rename_i d ac aF bc af
  obtain⟨D,g⟩:=cK x Zs _ af
  simp at a;subst a
  refine⟨?_,g⟩
  rw[D]
  cases d<;>first|exact(aF _ rfl).elim|simp[Instr.makeInterface,run_underlying bc,aT]
 ·simp at a
def ayF{x:Operand}{t vM:Nat}{ok:Bool}{ax:Operand->Value}{eF:Operand->Option E}{v:E}(cK:jY U ae ax eF [x])
 (a:Mb C x vM ok h eF=some v):(Instr.typeAssert (ax x) t vM ok).run C.P w= .ok (aT U v) w/\co ae v:=by
 unfold Mb at a
 split at a
 ·simp at a
 ·rename_i d aF bc af
  obtain⟨D,g⟩:=cK x Zs _ af
  rw[D]
  simp only[fb]at a
  obtain⟨rfl,a⟩:=a
  split at a
  ·rename_i bE cx
   simp at a;subst a
   obtain⟨g5,gx⟩:=F6 cx U ae w
   refine⟨?_,gx,trivial,trivial⟩
   cases d<;>first|exact(aF _ rfl).elim|simp[Instr.typeAssert,run_underlying bc,aT,b3,g5]
  ·simp at a
 ·rename_i d eB ac aF bc af
  obtain⟨D,g⟩:=cK x Zs _ af
  rw[D]
  rw[ia]at a
  split at a
  ·rename_i bA
   subst bA
   simp at a
   cases ok
   ·simp at a;subst a
    refine⟨?_,g⟩
    cases d<;>first|exact(aF _ rfl).elim|simp[Instr.typeAssert,run_underlying bc,aT]
   ·simp at a;subst a
    refine⟨?_,g,trivial,trivial⟩
    cases d<;>first|exact(aF _ rfl).elim|simp[Instr.typeAssert,run_underlying bc,aT,b3]
  ·rename_i bA
   simp only[fb]at a
   obtain⟨rfl,a⟩:=a
   split at a
   ·rename_i bE cx
    simp at a;subst a
    obtain⟨g5,gx⟩:=F6 cx U ae w
    refine⟨?_,gx,trivial,trivial⟩
    cases d<;>first|exact(aF _ rfl).elim|simp[Instr.typeAssert,run_underlying bc,aT,b3,g5,bA]
   ·simp at a
 ·simp at a
def apc(Y:dq C U ae h j bx w){t:Nat}{df:Array TypeId}{ty:TypeId}{x v:E}{rest:List TypeId}(aE:df.toList=t::rest)(fU:co ae x)(a:NC C h t x=some v):
 (Builtin.len_ df ty #[aT U x]).run C.P w= .ok (aT U v) w/\co ae v:=by
 have wc:df[0]? =some t:=by rw[<-ZQ,aE];rfl
 unfold NC at a
 split at a<;>(try simp only[ag4]at a)
 ·rename_i s bc
  simp at a;subst a
  refine⟨?_,trivial⟩
  have aC:(gj s).size=s.length:=by simp[gj,ByteArray.size]
  simp[Builtin.len_,wc,run_underlying bc,aT,goInt,aC]
 ·rename_i n uR bc
  simp at a;subst a
  refine⟨?_,trivial⟩
  simp[Builtin.len_,wc,run_underlying bc,goInt]
  simp[aT]
 ·rename_i ct bc
  split at a
  ·rename_i n uR Vz
   simp at a;subst a
   refine⟨?_,trivial⟩
   simp[Builtin.len_,wc,run_underlying bc,run_underlying Vz,goInt]
   simp[aT]
  ·simp at a
 ·rename_i bc
  simp at a;subst a
  refine⟨?_,trivial⟩
  simp[Builtin.len_,wc,run_underlying bc,aT,goInt]
 ·rename_i bc
  simp at a;subst a
  refine⟨?_,trivial⟩
  simp[Builtin.len_,wc,run_underlying bc,aT,goInt]
 ·rename_i bc
  simp at a;subst a
  refine⟨?_,trivial⟩
  simp[Builtin.len_,wc,run_underlying bc,aT,goInt]
 ·rename_i bc
  simp at a;subst a
  refine⟨?_,trivial⟩
  simp[Builtin.len_,wc,run_underlying bc,aT,goInt]
 ·rename_i r bc
  split at a
  ·rename_i b8 ff bi
   simp at a;subst a
   obtain⟨ct,H,M,al,aB⟩:=Mo Y fU bi
   refine⟨?_,trivial⟩
   have:ct.size=b8.length:=by rw[<-Array.length_toList,al,Zi]
   simp[Builtin.len_,wc,run_underlying bc,aT,goInt,H,this]
  ·simp at a
 ·simp at a
def ao5{t:Nat}{df:Array TypeId}{ty:TypeId}{x v:E}{rest:List TypeId}(aE:df.toList=t::rest)(a:Nz C t x=some v):
 (Builtin.cap_ df ty #[aT U x]).run C.P w= .ok (aT U v) w/\co ae v:=by
 have wc:df[0]? =some t:=by rw[<-ZQ,aE];rfl
 unfold Nz at a
 split at a<;>(try simp only[ag4]at a)
 ·rename_i bc
  simp at a;subst a
  refine⟨?_,trivial⟩
  simp[Builtin.cap_,wc,run_underlying bc,aT,goInt]
 ·rename_i bc
  simp at a;subst a
  refine⟨?_,trivial⟩
  simp[Builtin.cap_,wc,run_underlying bc,aT,goInt]
 ·simp at a
def apg:∀(k:List E) (x v:E),pJ true x k=some v->((b3 U k).foldlM Builtin.max2 (aT U x)).run C.P w= .ok (aT U v) w/\(co ae x->co ae v):=by
 intro k
 induction k with
 |nil=>intro x v a;cases x<;>simp[pJ]at a<;>subst a<;>simp[b3]
 |cons e k ah=>
  intro x v a
  unfold pJ at a
  split at a
  ·rename_i aK;simp at aK
  ·rename_i u F fh b bS fq
   simp only[YE]at fq
   obtain⟨rfl,rfl⟩:=fq
   obtain⟨H,M⟩:=ah _ _ a
   refine⟨?_,λ_=>M trivial⟩
   simp only[b3,List.foldlM_cons,Sem.run_bind,aT,Builtin.max2,Sem.run_pure,Result.andThen_ok]
   simp only[fo,vf,fw,Zh,aT]at H
   exact H
  ·simp at a
def aph:∀(k:List E) (x v:E),pJ false x k=some v->((b3 U k).foldlM Builtin.min2 (aT U x)).run C.P w= .ok (aT U v) w/\(co ae x->co ae v):=by
 intro k
 induction k with
 |nil=>intro x v a;cases x<;>simp[pJ]at a<;>subst a<;>simp[b3]
 |cons e k ah=>
  intro x v a
  unfold pJ at a
  split at a
  ·rename_i aK;simp at aK
  ·rename_i u F fh b bS fq
   simp only[YE]at fq
   obtain⟨rfl,rfl⟩:=fq
   obtain⟨H,M⟩:=ah _ _ a
   refine⟨?_,λ_=>M trivial⟩
   simp only[b3,List.foldlM_cons,Sem.run_bind,aT,Builtin.min2,Sem.run_pure,Result.andThen_ok]
   simp only[lo,vf,fw,Zh,aT]at H
   exact H
  ·simp at a
end
section
variable{C:aN}{U:dd}{ae:Nat->Prop}{h:S ag}{j bx:Nat}{w:World}
def jY.mono{ax:Operand->Value}{eF:Operand->Option E}{k bS:List Operand}(a:jY U ae ax eF k)(aC:∀x∈bS,x∈k):jY U ae ax eF bS:=λx af v bD=>a x (aC x af) v bD
def S7{ax:Operand->Value}{eF:Operand->Option E}{T:Option Operand}{r:Option E}(cK:jY U ae ax eF T.toList)(a:Dk eF T=some r):T.map ax=r.map (aT U):=by
 cases T with
 |none=>simp[Dk]at a;subst a;rfl
 |some x=>
  simp only[Dk]at a
  split at a
  ·rename_i v bD
   simp at a;subst a
   simp[(cK x Zs v bD).1]
  ·simp at a
def apd(Y:dq C U ae h j bx w){oper:Oper}{ax:Operand->Value}{eF:Operand->Option E}{v:E}(cK:jY U ae ax eF oper.op.operands.toList)
 (a:o0 oper.op C h eF=some v):Nn U ae C.P w (execOp ax oper) v:=by
 obtain⟨dst,op,type,pos,after,guard⟩:=oper
 cases op<;>simp only[o0]at a<;>(try(cases a;done))<;>simp only[execOp]<;>simp only[Op.operands]at cK
 case build t kG=>
  refine o2 ?_
  unfold V0 at a
  split at a
  ·rename_i dm Vf
   obtain⟨H,M⟩:=adD (by simpa using cK) Vf
   have:=ao4 (U:=U) (w:=w) M a
   rw[<-H]at this
   have D:(kG.map λx=>(x.1,ax x.2))=(kG.toList.map λx=>(x.1,ax x.2)).toArray:=by apply Y2;simp
   rw[D];exact this
  ·simp at a
 case binOp op t x e JE=>exact o2 (ayG Y (by simpa using cK) a)
 case unOp op t x=>
  refine o2 ?_
  unfold V8 at a
  split at a
  ·rename_i F aE
   rw[(cK x Zs F aE).1]
   exact apm a
  ·simp at a
 case convert s d x=>exact o2 (ayH Y (by simpa using cK) a)
 case makeInterface t x=>exact o2 (ayJ (by simpa using cK) a)
 case makeFunc fn first f1=>
  refine o2 ?_
  unfold V4 at a
  split at a
  ·rename_i F b aE aj
   split at a
   ·simp at a;subst a
    obtain⟨bf,cf⟩:=xn (cK.mono (by simp;intro x af;exact .inl af)) aE
    obtain⟨bQ,cl⟩:=xn (cK.mono (by simp;intro x af;exact .inr af)) aj
    refine⟨?_,trivial,cf,cl⟩
    simp[Instr.makeFunc,bf,bQ,aT,nS]
   ·simp at a
  ·simp at a
 case slice t x bO aG hy=>
  refine o2 ?_
  unfold V7 at a
  split at a
  ·rename_i F k cF m aE az gL bn
   have H:=cK x Zs F aE
   have M:=S7 (cK.mono (by simp;intro x af;exact .inr (.inl af))) az
   have al:=S7 (cK.mono (by simp;intro x af;exact .inr (.inr (.inl af)))) gL
   have aB:=S7 (cK.mono (by simp;intro x af;exact .inr (.inr (.inr af)))) bn
   rw[H.1,M,al,aB]
   exact apj Y H.2 a
  ·simp at a
 case field t x f=>exact o2 (ayI (by simpa using cK) a)
 case index t x i=>
  refine o2 ?_
  unfold V5 at a
  split at a
  ·rename_i F b aE aj
   have H:=cK x Zs F aE
   rw[H.1,(cK i Zs b aj).1]
   exact apa H.2 a
  ·simp at a
 case lookup t m u ok=>
  refine o2 ?_
  unfold V6 at a
  split at a
  ·rename_i F b aE aj
   have H:=cK m Zs F aE
   have M:=cK u Zs b aj
   rw[H.1,M.1]
   exact ape Y H.2 M.2 a
  ·simp at a
 case typeAssert x t vM ok=>exact o2 (ayF (by simpa using cK) a)
 case call c=>
  unfold V2 at a
  split at a
  ·rename_i b args df
   simp only[Call.operands]at cK
   have PU:jY U ae ax eF args.toList:=cK.mono Zs
   unfold V1 at a
   split at a
   ·rename_i x af
    obtain⟨bf,cf⟩:=xn PU af
    split at a
    ·rename_i t rest aE
     obtain⟨H,M⟩:=apc (ty:=type) Y aE cf.1 a
     refine⟨?_,M⟩
     simp[resolve,invoke,builtin,bf,b3,H]
    ·simp at a
   ·rename_i x af
    obtain⟨bf,cf⟩:=xn PU af
    split at a
    ·rename_i t rest aE
     obtain⟨H,M⟩:=ao5 (U:=U) (ae:=ae) (w:=w) (ty:=type) aE a
     refine⟨?_,M⟩
     simp[resolve,invoke,builtin,bf,b3,H]
    ·simp at a
   ·rename_i x k af
    obtain⟨bf,cf⟩:=xn PU af
    obtain⟨H,M⟩:=apg (C:=C) (U:=U) (ae:=ae) (w:=w) k x v a
    refine⟨?_,M cf.1⟩
    simp[resolve,invoke,builtin,Builtin.max_,bf,b3,H]
   ·rename_i x k af
    obtain⟨bf,cf⟩:=xn PU af
    obtain⟨H,M⟩:=aph (C:=C) (U:=U) (ae:=ae) (w:=w) k x v a
    refine⟨?_,M cf.1⟩
    simp[resolve,invoke,builtin,Builtin.min_,bf,b3,H]
   ·simp at a
  ·simp at a
def ahH(Y:dq C U ae h j bx w){oper:Oper}{ax:Operand->Value}{wr:List (Nat×Nat)}{au:List (Nat×E)}{I:S E}{c:ku}{v:E}
 (cK:jY U ae ax (jM wr au I) oper.op.operands.toList)(aA:mq C wr oper.op=some c)(a:hd c C h au I=some v):Nn U ae C.P w (execOp ax oper) v:=by
 have rest:∀T,oper.op=T->c= .iD wr T->Nn U ae C.P w (execOp ax oper) v:=by
  intro T bi EF
  subst EF;subst bi
  exact apd Y cK a
 obtain⟨dst,op,type,pos,after,guard⟩:=oper
 cases op<;>simp only[mq]at aA<;>simp only[Op.operands]at cK
 case move x=>
  split at aA
  ·rename_i jt af
   simp at aA;subst aA
   simp only[hd,ov af]at a
   obtain⟨H,M⟩:=cK x Zs v a
   exact⟨by simp[execOp,H],M⟩
  ·simp at aA
 case assign x=>
  split at aA
  ·rename_i jt af
   simp at aA;subst aA
   simp only[hd,ov af]at a
   obtain⟨H,M⟩:=cK x Zs v a
   exact⟨by simp[execOp,H],M⟩
  ·simp at aA
 case pick fX F b=>
  split at aA
  ·rename_i aFz fB dD H3 aE aj
   simp at aA;subst aA
   simp only[hd,ov H3]at a
   split at a
   ·rename_i ac bc
    obtain⟨H,M⟩:=cK fX Zs ac bc
    unfold Ri at a
    split at a
    ·rename_i t
     rw[ov aE,ov aj]at a
     simp only[execOp,H,aT]
     cases t
     ·obtain⟨al,aB⟩:=cK b Zs v (by simpa using a)
      exact⟨by simp[asBool,al],aB⟩
     ·obtain⟨al,aB⟩:=cK F Zs v (by simpa using a)
      exact⟨by simp[asBool,al],aB⟩
    ·simp at a
   ·simp at a
  ·simp at aA
 case load t F=>
  split at aA
  ·rename_i fB s aE H M
   simp at aA;subst aA
   simp only[hd,ov aE]at a
   split at a
   ·rename_i ac bc
    obtain⟨al,aB⟩:=cK F Zs ac bc
    simp only[execOp,al]
    exact o2 (ab6 Y H M aB a)
   ·simp at a
  ·rename_i fB aE H
   simp at aA;subst aA
   simp only[hd,ov aE]at a
   split at a
   ·rename_i ac bc
    obtain⟨al,aB⟩:=cK F Zs ac bc
    simp only[execOp,al]
    exact o2 (ab5 Y H aB a)
   ·simp at a
  ·simp at aA
 case fieldAddr s x f=>
  split at aA
  ·rename_i kB jt bc af
   rw[qi]at aA
   split at aA
   ·rename_i tA b4
    split at aA
    ·rename_i bE cx
     simp only[Ho]at aA
     obtain⟨mb,aA⟩:=aA
     simp at aA;subst aA
     simp only[hd,ov af]at a
     split at a
     ·rename_i ac sN
      obtain⟨al,aB⟩:=cK x Zs ac sN
      simp only[execOp,al]
      exact o2 (ase bc b4 cx (by intro D;subst D;simp at mb) aB a)
     ·simp at a
    ·simp at aA
   ·simp at aA
  ·simp at aA
 case indexAddr t x i=>
  split at aA
  ·rename_i n ep jt cJ bc af aG
   split at aA
   ·rename_i bd cx
    simp at aA;subst aA
    simp only[hd,ov af,ov aG]at a
    split at a
    ·rename_i ac sN
     split at a
     ·rename_i V bF
      split at a
      ·rename_i aS aF
       obtain⟨u,rfl⟩:=FI aF
       obtain⟨al,aB⟩:=cK x Zs ac sN
       obtain⟨bw,b1⟩:=cK i Zs _ bF
       simp only[execOp,al,bw,aT]
       exact o2 (ax1 bc cx aB a)
      ·simp at a
     ·simp at a
    ·simp at a
   ·simp at aA
  ·rename_i ep jt cJ bc af aG
   split at aA
   ·rename_i bd cx
    simp at aA;subst aA
    simp only[hd,ov af,ov aG]at a
    split at a
    ·rename_i ac sN
     split at a
     ·rename_i V bF
      split at a
      ·rename_i aS aF
       obtain⟨u,rfl⟩:=FI aF
       obtain⟨al,aB⟩:=cK x Zs ac sN
       obtain⟨bw,b1⟩:=cK i Zs _ bF
       simp only[execOp,al,bw,aT]
       exact o2 (ax4 bc cx aB a)
      ·simp at a
     ·simp at a
    ·simp at a
   ·simp at aA
  ·simp at aA
 case nilCheck x=>
  split at aA
  ·rename_i jt af
   simp at aA;subst aA
   simp only[hd,ov af]at a
   split at a
   ·rename_i ac bc
    obtain⟨al,aB⟩:=cK x Zs ac bc
    obtain⟨rfl,bw⟩:=aFc (C:=C) (U:=U) (w:=w) aB a
    exact⟨bw _ ax x rfl al,aB⟩
   ·simp at a
  ·simp at aA
 case binOp op t x e JE=>
  rw[fw]at aA
  split at aA
  ·split at aA
   ·rename_i jt aHU af z
    simp at aA;subst aA
    simp only[hd,ov af,ov z]at a
    split at a
    ·rename_i F aE
     split at a
     ·rename_i b aj
      obtain⟨H,M⟩:=cK x Zs F aE
      obtain⟨al,aB⟩:=cK e Zs b aj
      obtain⟨bw,b1,u,i,fh,V,rfl,rfl⟩:=ab3 (C:=C) (U:=U) (ae:=ae) (w:=w) t a
      simp only[execOp,H,al]
      refine o2 ⟨?_,b1⟩
      rw[Sem.run_bind,Oa (by simp[Hx])]
      exact bw
     ·simp at a
    ·simp at a
   ·simp at aA
  ·simp at aA;exact rest _ rfl aA.symm
 case extract x i=>
  split at aA
  ·rename_i jt af
   simp at aA;subst aA
   simp only[hd,ov af]at a
   split at a
   ·rename_i ac bc
    obtain⟨al,aB⟩:=cK x Zs ac bc
    simp only[execOp,al]
    exact o2 (aFb aB a)
   ·simp at a
  ·simp at aA
 case convert s d x=>
  rw[fw]at aA
  split at aA
  ·simp at aA;subst aA;simp[hd]at a
  ·simp at aA;exact rest _ rfl aA.symm
 case store t F x=>
  split at aA
  ·simp at aA;subst aA;simp[hd]at a
  ·simp at aA
 case makeMap t r=>cases r<;>simp[mq]at aA<;>subst aA<;>simp[hd]at a
 case call tu=>
  obtain⟨callee,args,df⟩:=tu
  cases callee with
  |builtin b=>
   cases b<;>simp[mq]at aA<;>first
    |exact rest _ rfl aA.symm
    |(subst aA;simp[hd]at a)
  |value f=>
   cases f<;>simp[mq]at aA
   all_goals first
    |(subst aA;simp[hd]at a;done)
    |(
      split at aA
      ·simp at aA;subst aA;simp[hd]at a
      ·simp at aA)
  |invoke r m=>simp[mq]at aA;subst aA;simp[hd]at a
 all_goals(simp at aA;first|exact rest _ rfl aA.symm|(subst aA;simp[hd]at a))
end
def gc{C:aN}{h:S ag}{b:Nat}(T:Option ag)(aj:C.a8<=b)(x:Nat):W C (bm C h b T) x=if x=b then T else W C h x:=by
 unfold W bm
 rw[fw,fw]
 by_cases af:Nat.blt x C.a8=true
 ·have:=l6 af
  rw[Zp af,Zp af,Zg Zo]
 ·have rN:C.a8<=x:=by
   rcases zg x C.a8 with a|a
   ·exact absurd (by simp[Nat.blt];omega) af
   ·exact a
  rw[Zg af,Zg af,S.jP]
  show(if b-C.a8=x-C.a8 then T else h.get (x-C.a8))=_
  by_cases D:x=b
  ·rw[Zp Zo,Zp D]
  ·rw[Zg Zo,Zg D];rfl
def afv{C:aN}:∀(k:List Nat) (h:S ag) (x:Nat),(∀b∈k,C.a8<=b)->W C (nw C k h) x=if x∈k then none else W C h x:=by
 intro k
 induction k with
 |nil=>intro h x _;simp[nw]
 |cons b k ah=>
  intro h x a
  simp only[nw]
  rw[ah _ _ (λc aA=>a c (by simp[aA])),gc _ (a b Zs)]
  by_cases af:x∈k
  ·simp[af]
  ·by_cases D:x=b
   ·simp[D]
   ·simp[af,D]
def gH(U:dd)(b:Nat)(pl:nf):dd:=λx=>if x=b then pl else U x
def add(ae:Nat->Prop)(b:Nat):Nat->Prop:=λx=>ae x\/x=b
structure jb(C:aN)(dj:Nat)(U:dd)(ae:Nat->Prop)(h:S ag)(bx:Nat)(w:World)(dh:dd)(dJ:Nat->Prop)(R:S ag)(b5:World):Prop where
 jr:∀b,ae b->dh b=U b
 kf:∀b,ae b->dJ b
 new:∀b,dJ b->ae b\/dj<=b
 ab:∀b,¬ae b->b<dj->W C R b=W C h b
 below:Below bx w b5
def jb.refl{C:aN}{dj:Nat}{U:dd}{ae:Nat->Prop}{h:S ag}{bx:Nat}{w:World}:jb C dj U ae h bx w U ae h w:=
 ⟨λ_ _=>rfl,λ_ a=>a,λ_ a=> .inl a,λ_ _ _=>rfl, .refl _ _⟩
def jb.trans{C:aN}{dj Mi:Nat}{U dh akC:dd}{ae dJ XY:Nat->Prop}{h R abS:S ag}{bx:Nat}{w b5 aka:World}(a:jb C dj U ae h bx w dh dJ R b5)(az:dj<=Mi)
 (u:jb C Mi dh dJ R bx b5 akC XY abS aka):jb C dj U ae h bx w akC XY abS aka:=
 ⟨λb aj=>(u.jr b (a.kf b aj)).trans (a.jr b aj),λb aj=>u.kf b (a.kf b aj),
  λb aj=>(u.new b aj).elim (λaj=>a.new b aj) (λaj=> .inr Zo),
  λb aj hO=>by
   have aF:¬dJ b:=λaJ=>(a.new b aJ).elim aj (λak=>Zo)
   rw[u.ab b aF Zo,a.ab b aj hO],
  a.below.trans u.below⟩
section
variable{C:aN}{U dh:dd}{ae dJ:Nat->Prop}{h R:S ag}{j an bx:Nat}{w b5:World}
def rm(dS:∀b,ae b->dh b=U b){v:E}(g:co ae v):aT dh v=aT U v:=SF dS v g
def y8(dS:∀b,ae b->dh b=U b){k:List E}(g:ey ae k):b3 dh k=b3 U k:=Hq dS k g
def j0.ab{n aq:Nat}{I:S E}{tmps:Array Value}(dS:∀b,ae b->dh b=U b)(fZ:∀b,ae b->dJ b)(a:j0 U ae n aq I tmps):j0 dh dJ n aq I tmps:=
 ⟨a.size,λt v az bD=>by
  obtain⟨H,M⟩:=a.val t v az bD
  exact⟨by rw[H,rm dS M],pT fZ v M⟩⟩
def Sr(dS:∀b,ae b->dh b=U b){d:h8}(g:xD ae d):mo dh d=mo U d:=by
 obtain⟨t,cB⟩:=d
 obtain⟨bP,b2⟩:=g
 simp only[mo,y8 dS b2]
 congr 1
 cases t with
 |fn fn cs=>
  obtain⟨H,M⟩:=bP
  have D:nS dh fn=nS U fn:=by
   cases fn<;>simp only[nS]
   rw[dS _ H]
  simp only[D6,D,y8 dS M]
 |collected r=>simp only[D6,dS r bP]
def aei(fZ:∀b,ae b->dJ b){d:h8}(g:xD ae d):xD dJ d:=by
 obtain⟨t,cB⟩:=d
 refine⟨?_,sy fZ _ g.2⟩
 cases t with
 |fn fn cs=>exact⟨by cases fn<;>first|exact fZ _ g.1.1|exact g.1.1,sy fZ _ g.1.2⟩
 |collected r=>exact fZ _ g.1
def kL.ab{T:ag}{pl:nf}(dS:∀b,ae b->dh b=U b)(fZ:∀b,ae b->dJ b)(bb:b5.heap[pl.cO]? =w.heap[pl.cO]?)(a:kL C U ae T pl w):kL C dh dJ T pl b5:=by
 cases T with
 |cells c n st=>
  obtain⟨ct,ty,bO,aG,H,M,al,aB⟩:=a
  refine⟨ct,ty,bO,aG,by rw[bb,H],M,al,λi v bD=> ?_⟩
  obtain⟨bw,b1⟩:=aB i v bD
  exact⟨by rw[bw,rm dS b1],pT fZ v b1⟩
 |map b8 ff=>
  obtain⟨ct,H,M,al⟩:=a
  refine⟨ct,by rw[bb,H], ?_,λD bA=>⟨pT fZ _ (al D bA).1,pT fZ _ (al D bA).2⟩⟩
  rw[M]
  apply YC
  intro D bA
  simp only[mw,rm dS (al D bA).1,rm dS (al D bA).2]
 |look b8=>
  obtain⟨ct,ff,mT,H,M,aB,al⟩:=a
  refine⟨ct,ff,mT,by rw[bb,H], ?_,aB,λD bA=>⟨pT fZ _ (al D bA).1,pT fZ _ (al D bA).2⟩⟩
  rw[M]
  apply YC
  intro D bA
  simp only[mw,rm dS (al D bA).1,rm dS (al D bA).2]
 |pu s pos=>exact⟨a.1,by rw[bb,a.2.1],a.2.2⟩
 |A8 m wV seen st=>
  obtain⟨aK,H,M⟩:=a
  refine⟨aK, ?_,λb aj=>fZ b (M b aj)⟩
  rw[bb,H]
  cases m with
  |none=>rfl
  |some m=>simp only[ZS,dS m (M m rfl)]
 |IV m wV n ce st gW=>
  obtain⟨aK,H,seen,M,al⟩:=a
  exact⟨aK,fZ m H,seen,by rw[bb,M,dS m H],al⟩
 |loop state pending fn n aq I params assign body bj=>
  obtain⟨tmps,H,M,al,aB⟩:=a
  exact⟨tmps,by rw[bb,H,dS bj al],M.ab dS fZ,fZ _ al,aB⟩
 |deferred qE=>
  obtain⟨H,M⟩:=a
  refine⟨?_,λk az d aJ=>aei fZ (M k az d aJ)⟩
  rw[bb,H]
  cases qE with
  |none=>rfl
  |some k=>
   simp only[ZS]
   congr 3
   exact YC λd aJ=>(Sr dS (M k rfl d aJ)).symm
def kL.lt{T:ag}{pl:nf}(a:kL C U ae T pl w):pl.cO<w.heap.size:=by
 have:∃x,w.heap[pl.cO]? =some x:=by
  cases T with
  |cells c n st=>obtain⟨ct,ty,bO,aG,H,_⟩:=a;exact⟨_,H⟩
  |map b8 ff=>obtain⟨ct,H,_⟩:=a;exact⟨_,H⟩
  |look b8=>obtain⟨ct,ff,mT,H,_⟩:=a;exact⟨_,H⟩
  |pu s pos=>exact⟨_,a.2.1⟩
  |A8 m wV seen st=>exact⟨_,a.2.1⟩
  |IV m wV n ce st gW=>obtain⟨_,_,seen,H,_⟩:=a;exact⟨_,H⟩
  |loop state pending fn n aq I params assign body bj=>obtain⟨tmps,H,_⟩:=a;exact⟨_,H⟩
  |deferred qE=>exact⟨_,a.1⟩
 obtain⟨x,af⟩:=this
 exact(ZO.1 af).1
def dq.alloc(Y:dq C U ae h j bx w){b:Nat}{pl:nf}{cT:ag}{T:Obj}(aj:C.a8<=b)(c3:b<an)(awf:j<=an)(aF:¬ae b)(ez:bx<=w.heap.size)(tY:pl.cO=w.heap.size)
 (iX:W C R b=some cT)(OP:∀x,x≠b->W C R x=W C h x\/W C R x=none)(bi:kL C (gH U b pl) (add ae b) cT pl (w.alloc T))(p1:xh C (add ae b) cT):
 dq C (gH U b pl) (add ae b) R an bx (w.alloc T):=by
 have dS:∀x,ae x->gH U b pl x=U x:=λx af=>by
  unfold gH;rw[Zg];intro D;subst D;exact aF af
 have kh:gH U b pl b=pl:=by unfold gH;rw[Zp rfl]
 have U9:∀u,u<w.heap.size->(w.alloc T).heap[u]? =w.heap[u]? :=λu aH=>Below.heap_alloc _ _ _ aH
 have key:∀x du,W C R x=some du->add ae b x->x≠b->W C h x=some du/\ae x/\(U x).cO<w.heap.size:=by
  intro x du af aJ dn
  have tO:ae x:=aJ.resolve_right dn
  rcases OP x dn with a|a
  ·have:W C h x=some du:=by rw[<-a,af]
   exact⟨this,tO,(Y.obj x du this tO).lt⟩
  ·rw[a]at af;cases af
 refine⟨ZD Y.a8 awf, ?_, ?_, ?_, ?_, ?_, ?_⟩
 ·intro x af
  rcases af with af|af
  ·have:=Y.lt x af;omega
  ·omega
 ·intro x du af
  by_cases D:x=b
  ·omega
  ·rcases OP x D with a|a
   ·have:=Y.wN x du (by rw[<-a,af]);omega
   ·rw[a]at af;cases af
 ·intro x du af aJ
  by_cases D:x=b
  ·subst D
   rw[iX]at af;cases af
   rw[kh];exact bi
  ·obtain⟨H,M,al⟩:=key x du af aJ D
   rw[dS x M]
   exact(Y.obj x du H M).ab dS (λ_ a=> .inl a) (U9 _ al)
 ·intro x e du q3 af z dO pO dn mE fq
  by_cases D:x=b
  ·subst D
   by_cases cu:e=x
   ·exact absurd cu.symm dn
   ·obtain⟨H,M,al⟩:=key e q3 z pO cu
    rw[kh,dS e M]at fq
    omega
  ·obtain⟨H,M,al⟩:=key x du af dO D
   by_cases cu:e=b
   ·subst cu
    rw[kh,dS x M]at fq
    omega
   ·obtain⟨aB,bw,b1⟩:=key e q3 z pO cu
    rw[dS x M,dS e bw]at fq ⊢
    exact Y.sep x e du q3 H aB M bw dn mE fq
 ·intro x du mE af aJ
  by_cases D:x=b
  ·subst D;rw[kh];omega
  ·obtain⟨H,M,al⟩:=key x du af aJ D
   rw[dS x M]
   exact Y.base x du mE H M
 ·intro x du af aJ
  by_cases D:x=b
  ·subst D;rw[iX]at af;cases af;exact p1
  ·obtain⟨H,M,al⟩:=key x du af aJ D
   refine⟨λc n k az e z=> ?_,(Y.eS x du H M).2⟩
   obtain⟨bP,b2⟩:=(Y.eS x du H M).1 c n k az e z
   exact⟨.inl bP,b2⟩
def dq.adL(Y:dq C U ae h j bx w)(iX:∀x,W C R x=W C h x\/W C R x=none):dq C U ae R j bx w:=by
 have key:∀x du,W C R x=some du->W C h x=some du:=by
  intro x du af
  rcases iX x with a|a
  ·rw[<-a,af]
  ·rw[a]at af;cases af
 exact⟨Y.a8,Y.lt,λx du af=>Y.wN x du (key x du af),λx du af aJ=>Y.obj x du (key x du af) aJ,
  λx e du q3 af z dO pO dn mE fq=>Y.sep x e du q3 (key x du af) (key e q3 z) dO pO dn mE fq,λx du mE af aJ=>Y.base x du mE (key x du af) aJ,λx du af aJ=>Y.eS x du (key x du af) aJ⟩
def dq.put(Y:dq C U ae h j bx w){b:Nat}{cT pn:ag}(aj:C.a8<=b)(aJ:ae b)(ih:W C h b=some cT)(iX:W C R b=some pn)
 (OP:∀x,x≠b->W C R x=W C h x\/W C R x=none)(bb:∀u,u≠(U b).cO->b5.heap[u]? =w.heap[u]?)
 (mD:∀x du,x≠b->W C R x=some du->ae x->(U x).cO=(U b).cO->False)(bi:kL C U ae pn (U b) b5)(p1:xh C ae pn):dq C U ae R j bx b5:=by
 have key:∀x du,x≠b->W C R x=some du->W C h x=some du:=by
  intro x du dn af
  rcases OP x dn with a|a
  ·rw[<-a,af]
  ·rw[a]at af;cases af
 refine⟨Y.a8,Y.lt, ?_, ?_, ?_, ?_, ?_⟩
 ·intro x du af
  by_cases D:x=b
  ·subst D;exact Y.lt x aJ
  ·exact Y.wN x du (key x du D af)
 ·intro x du af dO
  by_cases D:x=b
  ·subst D;rw[iX]at af;cases af;exact bi
  ·exact(Y.obj x du (key x du D af) dO).ab (λ_ _=>rfl) (λ_ a=>a) (bb _ λak=>mD x du D af dO ak)
 ·intro x e du q3 af z dO pO dn mE fq
  by_cases D:x=b
  ·subst D
   exact(mD e q3 (λak=>dn ak.symm) z pO fq.symm).elim
  ·by_cases cu:e=b
   ·subst cu;exact(mD x du D af dO fq).elim
   ·exact Y.sep x e du q3 (key x du D af) (key e q3 cu z) dO pO dn mE fq
 ·intro x du mE af dO
  by_cases D:x=b
  ·subst D;exact Y.base x cT mE ih aJ
  ·exact Y.base x du mE (key x du D af) dO
 ·intro x du af dO
  by_cases D:x=b
  ·subst D;rw[iX]at af;cases af;exact p1
  ·exact Y.eS x du (key x du D af) dO
def Nl(T:ag):Prop:=(∀c n,T≠ .cells c n .kJ)/\(∀c n k,T≠ .cells c n (.grow k))
def dq.alone(Y:dq C U ae h j bx w){b:Nat}{cT:ag}(aj:C.a8<=b)(aJ:ae b)(ih:W C h b=some cT)(aE:Nl cT):
 ∀x du,x≠b->W C h x=some du->ae x->(U x).cO=(U b).cO->False:=by
 intro x du dn af dO fq
 rcases(Y.sep b x cT du ih af aJ dO (λak=>dn ak.symm) aj fq.symm).1 with ⟨c,n,_,_,ak,_⟩|⟨c,n,k,_,_,ak,_⟩|⟨_,_,_,c,n,_,ak,_⟩
 ·exact aE.1 _ _ ak
 ·exact aE.2 _ _ _ ak
 ·exact aE.1 _ _ ak
end
section
variable{C:aN}{U dh:dd}{ae dJ:Nat->Prop}{h R:S ag}{j an bx:Nat}{w b5:World}
def wl(w:World)(T:Obj):(w.alloc T).heap[w.heap.size]? =some T:=by
 show(w.heap.push T)[w.heap.size]? =_
 simp
def l3(U:dd)(b:Nat)(pl:nf):gH U b pl b=pl:=by unfold gH;rw[Zp rfl]
def r9{b:Nat}{pl:nf}(aF:¬ae b):∀x,ae x->gH U b pl x=U x:=λx af=>by
 unfold gH;rw[Zg];intro D;subst D;exact aF af
def kA(U:dd)(k:List E):(b3 U k).length=k.length:=by rw[qG,Zi]
def B4(U:dd)(k:List E)(i:Nat):(b3 U k)[i]? =(k[i]?).map (aT U):=by rw[qG,Zy]
def D8(U:dd)(F b:List E):b3 U (F++b)=b3 U F++b3 U b:=by simp[qG]
def Ch{F b:List E}(aE:ey ae F)(aj:ey ae b):ey ae (F++b):=by
 rw[v2]at*
 intro v bD
 rcases Zz.1 bD with a|a
 ·exact aE v a
 ·exact aj v a
def Ci{k:List E}(a:ey ae k){i:Nat}{v:E}(bD:k[i]? =some v):co ae v:=(v2 ae k).1 a v (Zl bD)
def m5(k:List E)(i:Nat):(S.ofList k 0 .nil).get i=k[i]? :=by
 rw[S.Oo]
 split
 ·simp
 ·rename_i a
  have:k.length<=i:=Zo
  rw[Z6 this];rfl
def NP{k:List E}(g:ey ae k)(ty:TypeId)(r:Nat)(w:World):kL C U ae (.cells (S.ofList k 0 .nil) k.length .own) ⟨w.heap.size,0,r⟩ (w.alloc (.cells (b3 U k).toArray ty)):=by
 refine⟨_,ty,0,0,wl _ _,rfl,by simp[kA],λi v bD=> ?_⟩
 rw[m5]at bD
 refine⟨?_,Ci g bD⟩
 simp only[ZT,List.getElem?_toArray,B4,bD,ZS]
def F3(n:Nat)(bE:List E):(lE n bE).length=n*bE.length:=by
 induction n with
 |zero=>simp[lE]
 |succ n ah=>simp[lE,ah,Nat.succ_mul,zw]
def aB8(bE:List E):∀(n i:Nat),i<n*bE.length->(lE n bE)[i]? =bE[i%bE.length]? :=by
 intro n
 induction n with
 |zero=>intro i a;omega
 |succ n ah=>
  intro i a
  simp only[lE]
  rw[Nat.succ_mul]at a
  by_cases aG:i<bE.length
  ·rw[Z7 aG,YH aG]
  ·rw[ZM Zo,ah _ Zo]
   congr 1
   exact(Nat.mod_eq_sub_mod Zo).symm
def TC{bE:List E}(a:ey ae bE):∀n,ey ae (lE n bE):=by
 intro n
 induction n with
 |zero=>trivial
 |succ n ah=>exact Ch a ah
def ai4(U:dd)(bE:List E)(n:Nat):((Array.range (n*bE.length)).map λi=>(b3 U bE).toArray[i%bE.length]!)=(b3 U (lE n bE)).toArray:=by
 apply Y2
 rw[Array.toList_map,Array.toList_range]
 show _=b3 U (lE n bE)
 apply YS
 intro i
 rw[Zy,B4]
 by_cases aG:i<n*bE.length
 ·rw[List.getElem?_range aG,aB8 bE n i aG]
  have cx:0<bE.length:=by
   rcases Nat.eq_zero_or_pos bE.length with a|a
   ·rw[a]at aG;omega
   ·exact a
  have bn:i%bE.length<bE.length:=zn _ cx
  simp only[ZS]
  rw[Ze bn]
  simp only[ZS,Zf]
  rw[getElem!_pos _ _ (by simpa[kA]using bn)]
  simp[qG]
 ·have H:(List.range (n*bE.length))[i]? =none:=Z6 Zx
  have M:(lE n bE)[i]? =none:=Z6 (by rw[F3];omega)
  rw[H,M];rfl
def ai5(U:dd)(bE:List E)(s n:Nat)(cx:bE.length=s)(zero:Array Value)(aK:n*s≠0->zero=(b3 U bE).toArray):
 ((Array.range (n*s)).map (zero[·%zero.size]!))=(b3 U (lE n bE)).toArray:=by
 subst cx
 by_cases a:n*bE.length=0
 ·have H:lE n bE=[]:=YZ.1 (by rw[F3];exact a)
  rw[a,H];simp[b3]
 ·rw[aK a, <-ai4]
  simp[kA]
def ahT{oper:Oper}{ax:Operand->Value}{eF:Operand->Option E}{b:Nat}{v:E}{cT:ag}(aF:¬ae b)(cK:jY U ae ax eF oper.op.operands.toList)
 (a:ri oper.op C eF b=some (v,cT)):∃T,(execOp ax oper).run C.P w= .ok (.value (aT (gH U b ⟨w.heap.size,0,0⟩) v)) (w.alloc T)/\co (add ae b) v/\
  kL C (gH U b ⟨w.heap.size,0,0⟩) (add ae b) cT ⟨w.heap.size,0,0⟩ (w.alloc T):=by
 have dS:=r9 (U:=U) (pl:=⟨w.heap.size,0,0⟩) aF
 have fZ:∀x,ae x->add ae b x:=λ_ a=> .inl a
 obtain⟨dst,op,type,pos,after,guard⟩:=oper
 cases op<;>simp only[ri]at a<;>(try(cases a;done))<;>simp only[execOp]<;>simp only[Op.operands]at cK
 case alloc t=>
  unfold FD at a
  split at a
  ·rename_i bE cx
   simp at a;obtain⟨rfl,rfl⟩:=a
   obtain⟨g5,gx⟩:=F6 cx U ae w
   refine⟨.cells (b3 U bE.cells).toArray t, ?_, .inr rfl, ?_⟩
   ·simp[Instr.alloc,g5,newVar,newRow,vR,aT,l3]
   ·have:=NP (C:=C) (U:=gH U b ⟨w.heap.size,0,0⟩) (ae:=add ae b) (sy fZ _ (vS gx)) t 0 w
    rw[y8 dS (vS gx)]at this
    exact this
  ·simp at a
 case box t x=>
  unfold Mm at a
  split at a
  ·rename_i ac bc
   simp at a;obtain⟨rfl,rfl⟩:=a
   obtain⟨H,M⟩:=cK x Zs ac bc
   refine⟨.cells (b3 U ac.cells).toArray t, ?_, .inr rfl, ?_⟩
   ·simp[Instr.box,newVar,newRow,H,vR,aT,l3]
   ·have:=NP (C:=C) (U:=gH U b ⟨w.heap.size,0,0⟩) (ae:=add ae b) (sy fZ _ (vS M)) t 0 w
    rw[y8 dS (vS M)]at this
    exact this
  ·simp at a
 case buildSlice t len kG=>
  unfold Mn at a
  split at a
  ·rename_i ep dm bc Vf
   split at a
   ·rename_i s bE aC cx
    simp only[fb,Zq]at a
    obtain⟨⟨H,M⟩,a⟩:=a
    have H:len*s<=16777216:=j2 H
    have M:bE.cells.length=s:=Zn M
    split at a
    ·rename_i cs iz
     simp at a;obtain⟨rfl,rfl⟩:=a
     obtain⟨g5,gx⟩:=F6 cx U ae w
     obtain⟨fF,h5⟩:=adD (by simpa using cK) Vf
     obtain⟨eO,fp⟩:=Ta (U:=U) (MD:=λi=>some (i*s,s)) (λ_ _ a=>a) dm (lE len bE.cells) cs (TC (vS gx) len) h5 iz
     refine⟨.cells (b3 U cs).toArray ep, ?_, .inr rfl, ?_⟩
     ·have D:(kG.map λx=>(x.1,ax x.2)).toList=dm.map λx=>(x.1,aT U x.2):=by rw[<-fF];simp
      have gv:¬(len*s>2^24):=by
       have:(2:Nat)^24=16777216:=by decide
       omega
      have b4:Instr.fill (λi=>some (i*s,s)) ((Array.range (len*s)).map ((if len*s=0 then #[]else(aT U bE).cells)[·%(if len*s=0 then #[]else(aT U bE).cells).size]!)) (kG.map λx=>(x.1,ax x.2)).toList=some (b3 U cs).toArray:=by
       rw[ai5 U bE.cells s len M _ (λdn=>by rw[Zg dn,vR]),D]
       exact eO
      simp only[Instr.buildSlice,Sem.run_bind,run_underlying bc,Result.andThen_ok,ql aC]
      rw[Zg gv]
      by_cases aK:len*s=0
      ·rw[Zp aK]at b4
       simp only[Zp aK,Sem.run_bind,Sem.run_pure,Result.andThen_ok,b4]
       simp[newRow,aT,l3]
      ·simp only[Zg aK]at b4
       simp only[Zg aK,Sem.run_bind,Sem.run_pure,Result.andThen_ok,g5,b4]
       simp[newRow,aT,l3]
     ·have:=NP (C:=C) (U:=gH U b ⟨w.heap.size,0,0⟩) (ae:=add ae b) (sy fZ _ fp) ep 0 w
      rw[y8 dS fp]at this
      exact this
    ·simp at a
   ·simp at a
  ·simp at a
 case makeMap t r=>
  cases r with
  |some r=>simp[ri]at a
  |none=>
   simp[ri]at a;obtain⟨rfl,rfl⟩:=a
   refine⟨.map #[] 0, ?_, .inr rfl, ?_⟩
   ·simp[Instr.makeMap,aT,l3]
   ·exact⟨#[],wl _ _,rfl,Zs⟩
end
section
variable{C:aN}{U dh:dd}{ae dJ:Nat->Prop}{h R:S ag}{j an bx:Nat}{w b5:World}
def lF:Array Value->Nat->List Value->Array Value
 |c,_,[]=>c
 |c,T,v::k=>lF (c.setIfInBounds T v) (T+1) k
def yr:∀(k:List Value) (c:Array Value) (T:Nat),(lF c T k).size=c.size:=by
 intro k
 induction k with
 |nil=>intro c T;rfl
 |cons v k ah=>intro c T;simp[lF,ah]
def Xf:∀(k:List Value) (c:Array Value) (T i:Nat),T+k.length<=c.size->(lF c T k)[i]? =if T<=i/\i<T+k.length then k[i-T]? else c[i]? :=by
 intro k
 induction k with
 |nil=>intro c T i _;rw[Zg (by simp only[Z0];omega)];rfl
 |cons v k ah=>
  intro c T i a
  simp only[ZF]at a
  simp only[lF]
  rw[ah _ _ _ Zx]
  by_cases D:i=T
  ·subst D
   rw[Zg Zo,Zp Zs]
   have c3:i<c.size:=Zo
   simp[c3]
  ·by_cases ak:T+1<=i/\i<T+1+k.length
   ·rw[Zp ak,Zp Zx,show i-T=(i-(T+1))+1 by omega,ZV]
   ·rw[Zg ak,Zg (by simp only[ZF];omega),Array.getElem?_setIfInBounds_ne (λa=>D a.symm)]
def W9(P:Program)(g T:Nat)(t:TypeId)(bO aG:Nat):∀(bk:List Value) (i:Nat) (gW:Array Value) (w:World),w.heap[g]? =some (.cells gW t (bO,aG))->(aG<=bO\/gW.size<=bO)->
 T+i+bk.length<=gW.size->(∀v∈bk,v.oneCell'=true)->(storeCells ⟨g,T,none⟩ bk i).run P w= .ok () (w.setRow g (lF gW (T+i) bk)):=by
 intro bk
 induction bk with
 |nil=>
  intro i gW w bV _ _ _
  simp only[storeCells,lF]
  rw[setRow_self w g gW t _ bV];rfl
 |cons v bk ah=>
  intro i gW w bV b4 az H
  simp only[ZF]at az
  have c3:T+i<gW.size:=Zo
  have Cu:(⟨g,T,none⟩:Addr).add i=⟨g,T+i,none⟩:=sn _ _ _
  have qO:w.cell? ⟨g,T+i,none⟩=some gW[T+i]:=by simp[World.cell?,bV,c3]
  have avi:w.frozen? ⟨g,T+i,none⟩=false:=by
   simp only[World.frozen?,bV,Bool.and_eq_false_iff,Zc]
   omega
  have c8:(store ((⟨g,T,none⟩:Addr).add i) v).run P w= .ok () (w.setRow g (gW.setIfInBounds (T+i) v)):=by
   rw[Cu,run_store P w _ v _ (H v Zs),qO]
   simp[avi,setCell_eq_setRow w g (T+i) gW t _ v bV]
  have:=ah (i+1) (gW.setIfInBounds (T+i) v) (w.setRow g (gW.setIfInBounds (T+i) v)) (setRow_heap w g gW _ t _ bV) (by simpa using b4) Zx (λx af=>H x (by simp[af]))
  simp only[storeCells,Sem.run_bind,c8,Result.andThen_ok,this,setRow_setRow,lF]
  rfl
def Sf{p:Nat}(ez:bx<=p)(cs:Array Value)(w:World):Below bx w (w.setRow p cs):=
 ⟨rfl,rfl,rfl,by simp[World.setRow],λu aH=>setRow_other w p u cs Zo⟩
def aiq:∀{bk:List E},iF bk=true->∀v∈b3 U bk,v.oneCell'=true:=by
 intro bk
 induction bk with
 |nil=>intro _ v bD;simp[b3]at bD
 |cons F k ah=>
  intro a v bD
  simp only[iF,Zq]at a
  simp only[b3,Zu]at bD
  rcases bD with rfl|bD
  ·cases F<;>simp[po]at a<;>rfl
  ·exact ah a.2 v bD
def akr{c:S E}{ct:Array Value}{ek T n:Nat}{bk:List E}(bV:ey ae bk)(bi:T+bk.length<=n)(aF:ek+n<=ct.size)
 (a:∀i v,c.get i=some v->ct[ek+i]? =some (aT U v)/\co ae v):
 ∀i v,(d7 c T bk).get i=some v->(lF ct (ek+T) (b3 U bk))[ek+i]? =some (aT U v)/\co ae v:=by
 intro i v bD
 rw[XR,S.Oo]at bD
 rw[Xf _ _ _ _ (by rw[kA];omega),kA]
 split at bD
 ·rename_i aG
  rw[Zp Zo,B4,show ek+i-(ek+T)=i-T by omega,bD]
  exact⟨rfl,Ci bV bD⟩
 ·rename_i aG
  rw[Zg Zo]
  exact a i v bD
def Rg{c:S E}{T n:Nat}{bk:List E}(bi:T+bk.length<=n)(a:∀i v,c.get i=some v->i<n):∀i v,(d7 c T bk).get i=some v->i<n:=by
 intro i v bD
 rw[XR,S.Oo]at bD
 split at bD
 ·omega
 ·exact a i v bD
def I6{k:List E}:∀i v,(S.ofList k 0 .nil).get i=some v->i<k.length:=by
 intro i v bD
 rw[m5]at bD
 exact(Zb.1 bD).1
def R4(Y:dq C U ae h j bx w){dj b T:Nat}{bk:List E}(aJ:ae b)(bV:ey ae bk)(a:sm C h b T bk=some R):
 ∃b5,(storeCells ⟨(U b).cO,(U b).ek+T,none⟩ (b3 U bk)).run C.P w= .ok () b5/\dq C U ae R j bx b5/\jb C dj U ae h bx w U ae R b5:=by
 unfold sm at a
 split at a
 ·rename_i c n st bi
  simp only[fb,Zq]at a
  obtain⟨⟨⟨H,M⟩,al⟩,a⟩:=a
  have H:T+bk.length<=n:=j2 H
  have aj:C.a8<=b:=j2 M
  obtain⟨ct,ty,bO,aG,bf,cf,a3,a4⟩:=Y.obj b _ bi aJ
  have kU:st≠ .kJ:=λD=>(by subst D;simp at a)
  refine⟨w.setRow (U b).cO (lF ct ((U b).ek+T) (b3 U bk)), ?_, ?_⟩
  ·exact W9 C.P _ _ ty bO aG (b3 U bk) 0 ct w bf (cf.free kU) (by rw[kA];omega) (aiq al)
  have fD:=setRow_heap w (U b).cO ct (lF ct ((U b).ek+T) (b3 U bk)) ty (bO,aG) bf
  have wd:=Y.base b _ aj bi aJ
  have Lc:Below bx w (w.setRow (U b).cO (lF ct ((U b).ek+T) (b3 U bk))):=Sf wd _ _
  have agd:∀u,u≠(U b).cO->(w.setRow (U b).cO (lF ct ((U b).ek+T) (b3 U bk))).heap[u]? =w.heap[u]? :=λu aH=>setRow_other w _ u _ aH
  have fin:∀iH,G4 iH n (U b) ct.size bO aG->kL C U ae (.cells (d7 c T bk) n iH) (U b) (w.setRow (U b).cO (lF ct ((U b).ek+T) (b3 U bk))):=by
   intro iH c8
   refine⟨_,ty,bO,aG,fD,by rw[yr];exact c8,by rw[yr];exact a3,akr bV H a3 a4⟩
  have plain:∀iH,Nl (.cells c n st)->G4 iH n (U b) ct.size bO aG->(∀k,iH≠ .grow k)->R=bm C h b (some (.cells (d7 c T bk) n iH))->
   dq C U ae R j bx (w.setRow (U b).cO (lF ct ((U b).ek+T) (b3 U bk)))/\jb C dj U ae h bx w U ae R (w.setRow (U b).cO (lF ct ((U b).ek+T) (b3 U bk))):=by
   intro iH nl c8 Lx iX
   subst iX
   have p4:W C (bm C h b (some (.cells (d7 c T bk) n iH))) b=some (.cells (d7 c T bk) n iH):=by rw[gc _ aj,Zp rfl]
   have kj:∀x,x≠b->W C (bm C h b (some (.cells (d7 c T bk) n iH))) x=W C h x:=λx af=>by rw[gc _ aj,Zg af]
   refine⟨Y.put aj aJ bi p4 (λx af=> .inl (kj x af)) agd ?_ (fin iH c8) ⟨λfX aS k az=>(by cases az;exact absurd rfl (Lx _)),λfX aS aDm az=>(by cases az;exact Rg H ((Y.eS b _ bi aJ).2 _ _ _ rfl))⟩, ?_⟩
   ·intro x du dn af dO fq
    rw[kj x dn]at af
    exact Y.alone aj aJ bi nl x du dn af dO fq
   ·exact⟨λ_ _=>rfl,λ_ a=>a,λ_ a=> .inl a,λx af _=>kj x (λD=>af (D▸aJ)),Lc⟩
  cases st with
  |own=>
   simp only[hf,Zf]at a
   exact plain .own ⟨Zs,Zs⟩ cf Zs a.symm
  |marked=>
   simp only[hf,Zf]at a
   exact plain .marked ⟨Zs,Zs⟩ cf Zs a.symm
  |grow eS=>
   simp only[hf,Zf]at a
   have p1:=(Y.eS b _ bi aJ).1 _ _ _ rfl
   subst a
   have p4:W C (bm C (nw C eS h) b (some (.cells (d7 c T bk) n (.grow [])))) b=some (.cells (d7 c T bk) n (.grow [])):=by rw[gc _ aj,Zp rfl]
   have kj:∀x,x≠b->W C (bm C (nw C eS h) b (some (.cells (d7 c T bk) n (.grow [])))) x=if x∈eS then none else W C h x:=λx af=>by
    rw[gc _ aj,Zg af,afv _ _ _ λe z=>(p1 e z).2]
   refine⟨Y.put aj aJ bi p4 (λx af=> ?_) agd ?_ (fin (.grow []) cf) ⟨λfX aS k az=>(by cases az;simp),λfX aS aDm az=>(by cases az;exact Rg H ((Y.eS b _ bi aJ).2 _ _ _ rfl))⟩, ?_⟩
   ·rw[kj x af];split
    ·exact .inr rfl
    ·exact .inl rfl
   ·intro x du dn af dO fq
    rw[kj x dn]at af
    split at af
    ·cases af
    ·rename_i U1
     rcases(Y.sep b x _ du bi af aJ dO (λak=>dn ak.symm) aj fq.symm).1 with ⟨_,_,_,_,ak,_⟩|⟨_,_,k,_,_,ak,_,az,_⟩|⟨_,_,_,_,_,_,ak,_⟩
     ·cases ak
     ·cases ak;exact U1 az
     ·cases ak
   ·exact⟨λ_ _=>rfl,λ_ a=>a,λ_ a=> .inl a,λx af _=>by
     rw[kj x (λD=>af (D▸aJ)),Zg (λbn=>af (p1 x bn).1)],Lc⟩
  |kJ=>simp at a
 ·simp at a
end
def BF(C:aN)(U:dd)(ae:Nat->Prop)(h:S ag)(j bx:Nat)(w:World)(s:Sem Next)(v:E)(R:S ag)(an:Nat):Prop:=
 ∃dh dJ b5 n,s.run C.P w= .ok n b5/\(n= .value (aT dh v)\/(n= .skip/\v=undef))/\co dJ v/\dq C dh dJ R an bx b5/\jb C j U ae h bx w dh dJ R b5/\j<=an
section
variable{C:aN}{U dh:dd}{ae dJ:Nat->Prop}{h R:S ag}{j an bx:Nat}{w b5:World}
def putObj(Y:dq C U ae h j bx w){dj b:Nat}{cT pn:ag}{ld o':Obj}(aj:C.a8<=b)(aJ:ae b)(ih:W C h b=some cT)(aE:Nl cT)(aK:w.heap[(U b).cO]? =some ld)
 (Pn:∀c D f,ld≠ .cells c D f)(bi:∀b5:World,b5.heap[(U b).cO]? =some o'->kL C U ae pn (U b) b5)(p1:xh C ae pn):
 ∃b5,(Go.setObj (U b).cO o').run C.P w= .ok () b5/\dq C U ae (bm C h b (some pn)) j bx b5/\jb C dj U ae h bx w U ae (bm C h b (some pn)) b5:=by
 have ph:(Go.setObj (U b).cO o').run C.P w= .ok () {w with heap:=w.heap.setIfInBounds (U b).cO o'}:=by
  cases ld<;>first
   |exact absurd rfl (Pn _ _ _)
   |simp[Go.setObj,Sem.run,aK]
 obtain⟨bR,cm⟩:=MapKept.heap_set (o':=o') aK
 have p4:W C (bm C h b (some pn)) b=some pn:=by rw[gc _ aj,Zp rfl]
 have kj:∀x,x≠b->W C (bm C h b (some pn)) x=W C h x:=λx af=>by rw[gc _ aj,Zg af]
 have wd:=Y.base b _ aj ih aJ
 refine⟨_,ph,Y.put aj aJ ih p4 (λx af=> .inl (kj x af)) (λu aH=>cm u aH) ?_ (bi _ bR) p1, ?_⟩
 ·intro x du dn af dO fq
  rw[kj x dn]at af
  exact Y.alone aj aJ ih aE x du dn af dO fq
 ·exact⟨λ_ _=>rfl,λ_ a=>a,λ_ a=> .inl a,λx af _=>kj x (λD=>af (D▸aJ)),rfl,rfl,rfl,Zs,λu aH=>cm u Zo⟩
def Xg{r:Nat}{T:ag}{v:E}{res:ed}(a:setObj C h j r T v=some res):res= .fH v (bm C h r (some T)) j/\C.a8<=r:=by
 unfold setObj at a
 simp only[hf,fb,Zf]at a
 exact⟨a.2.symm,j2 a.1⟩
def aiU(Y:dq C U ae h j bx w){dj r:Nat}{b8 mT:List (E×E×Nat)}{ff Kh:Nat}{Hd:Array MapEntry}(aj:C.a8<=r)(aJ:ae r)(bi:W C h r=some (.map b8 ff))
 (aE:Hd.toList=mT.map (mw U))(bV:∀D∈mT,co ae D.1/\co ae D.2.1):
 ∃b5,(Go.setObj (U r).cO (.map Hd Kh)).run C.P w= .ok () b5/\dq C U ae (bm C h r (some (.map mT Kh))) j bx b5/\jb C dj U ae h bx w U ae (bm C h r (some (.map mT Kh))) b5:=by
 obtain⟨ct,H,_,_⟩:=Y.obj r _ bi aJ
 exact putObj Y aj aJ bi ⟨Zs,Zs⟩ H Zs (λb5 sO=>⟨Hd,sO,aE,bV⟩) ⟨λ_ _ _ a=>(by cases a),λ_ _ _ a=>(by cases a)⟩
def aDQ(Y:dq C U ae h j bx w){s:Nat}{t:TypeId}{F v:E}{res:ed}(aC:jW C t=some s)(hm:co ae F)(fM:co ae v)(a:Q0 C h j s F v=some res):
 ∃R,res= .fH undef R j/\∀ac:Sem Next,(∀b5,(Instr.storeAt t (aT U F) (aT U v)).run C.P w= .ok () b5->ac.run C.P w= .ok .skip b5)->BF C U ae h j bx w ac undef R j:=by
 unfold Q0 at a
 split at a
 ·rename_i b T
  simp only[fb,Zq]at a
  obtain⟨⟨H,M⟩,a⟩:=a
  have H:v.cells.length=s:=Zn H
  split at a
  ·rename_i R iX
   simp at a
   obtain⟨b5,bR,cm,cX⟩:=R4 Y (dj:=j) hm (vS fM) iX
   refine⟨R,a.symm,λac bc=>⟨U,ae,b5, .skip,bc b5 ?_, .inr ⟨rfl,rfl⟩,by trivial,cm,cX,Zj _⟩⟩
   have eA:(aT U v).cells.size=s:=by rw[vR];simp[kA,H]
   simp only[Instr.storeAt,Instr.sureAddr,aT,Sem.run_bind,Sem.run_pure,Result.andThen_ok,storeVar,ql aC,eA,ne_eq,not_true_eq_false,ZB]
   simp only[vR]
   exact bR
  ·simp at a
 ·simp at a
def ayt:∀(n:Nat),(∀(m:Nat) (x e:E),n<=m->co ae x->co ae e->oH n x e=true->Instr.sameBits m (aT U x) (aT U e)=true)/\
 ∀(m:Nat) (F b:List E),n<=m->ey ae F->ey ae b->oH.CX n F b=true->(b3 U F).length=(b3 U b).length/\((b3 U F).zip (b3 U b)).all (λ(x,e)=>Instr.sameBits m x e)=true:=by
 intro n
 induction n with
 |zero=>
  refine⟨λm x e _ _ _ a=>by simp[oH]at a, ?_⟩
  intro m F
  induction F with
  |nil=>intro b _ _ _ a;cases b<;>simp[oH.CX]at a<;>simp[b3]
  |cons x F _=>intro b _ _ _ a;cases b<;>simp[oH.CX,oH]at a
 |succ n ah=>
  have one:∀(m:Nat) (x e:E),n+1<=m->co ae x->co ae e->oH (n+1) x e=true->Instr.sameBits m (aT U x) (aT U e)=true:=by
   intro m x e bn fU v8 a
   obtain⟨m,rfl⟩:∃u,m=u+1:=⟨m-1,Zo⟩
   unfold oH at a
   split at a<;>(try(cases a;done))
   ·simpa[aT,Instr.sameBits]using a
   ·simp at a;obtain⟨rfl,rfl⟩:=a;simp[aT,Instr.sameBits]
   ·rename_i F b
    have:=(Mv _ _).1 a
    subst this
    simp only[aT,Instr.sameBits]
    rw[acI];simp
   ·rename_i b T dD o'
    simp only[Zq]at a
    have H:b=dD:=Zn a.1
    have M:T=o':=Zn a.2
    subst H;subst M
    simp[aT,Instr.sameBits]
   ·simp[aT,Instr.sameBits]
   ·simp[aT,Instr.sameBits]
   ·rename_i t v eB f9
    simp only[Zq]at a
    have H:t=eB:=Zn a.1
    subst H
    simp[aT,Instr.sameBits,ah.1 m v f9 Zo fU v8 a.2]
   ·rename_i F b
    obtain⟨bR,cm⟩:=ah.2 m F b Zo fU v8 a
    simp only[aT,Instr.sameBits,Zq,Y3]
    exact⟨by simpa using bR,by simpa using cm⟩
  refine⟨one, ?_⟩
  intro m F
  induction F with
  |nil=>intro b _ _ _ a;cases b<;>simp[oH.CX]at a<;>simp[b3]
  |cons x F mF=>
   intro b bn hm pS a
   cases b with
   |nil=>simp[oH.CX]at a
   |cons e b=>
    simp only[oH.CX,Zq]at a
    obtain⟨bR,cm⟩:=mF b bn hm.2 pS.2 a.2
    simp only[b3,ZF,List.zip_cons_cons,List.all_cons,Zq]
    exact⟨Zo,one m x e bn hm.1 pS.1 a.1,cm⟩
def ayu{q1 new:E}(go:co ae q1)(xC:co ae new)(a:oH 20 q1 new=true):(Instr.keyThatStays (aT U q1) (aT U new)).run C.P w= .ok (aT U new) w:=by
 simp[Instr.keyThatStays,(ayt (U:=U) (ae:=ae) 20).1 10000 q1 new Zd go xC a]
def adt{ct:Array MapEntry}{b8:List (E×E×Nat)}{i:Nat}{D:E×E×Nat}(aE:ct.toList=b8.map (mw U))(a:b8[i]? =some D):ct[i]? =some (mw U D):=by
 rw[<-ZQ,aE,Zy,a];rfl
def azL{ct:Array MapEntry}{b8:List (E×E×Nat)}{i:Nat}{D g9:E×E×Nat}(f:MapEntry->MapEntry)(aE:ct.toList=b8.map (mw U))(a:b8[i]? =some D)
 (b4:f (mw U D)=mw U g9):(ct.modify i f).toList=(b8.set i g9).map (mw U):=by
 apply YS
 intro V
 rw[ZQ,Y7,Zy,zp]
 have c3:i<b8.length:=(Zb.1 a).1
 by_cases D:i=V
 ·subst D
  rw[Zp rfl,Zp rfl,Zp c3,adt aE a]
  simp[b4]
 ·rw[Zg D,Zg D, <-ZQ,aE,Zy]
def ats{b8:List (E×E×Nat)}{i:Nat}{g9:E×E×Nat}(bV:∀D∈b8,co ae D.1/\co ae D.2.1)(bA:co ae g9.1/\co ae g9.2.1):∀D∈b8.set i g9,co ae D.1/\co ae D.2.1:=by
 intro D a
 rcases YQ a with a|a
 ·exact bV D a
 ·rw[a];exact bA
def apf(Y:dq C U ae h j bx w){t:Nat}{m u v:E}{res:ed}(v1:co ae m)(pa:co ae u)(fM:co ae v)(a:J1 C h j t m u v=some res):
 ∃R b5,res= .fH undef R j/\(Instr.mapUpdate t (aT U m) (aT U u) (aT U v)).run C.P w= .ok () b5/\dq C U ae R j bx b5/\jb C j U ae h bx w U ae R b5:=by
 unfold J1 at a
 split at a
 ·rename_i kp B9 r bc
  split at a
  ·rename_i b8 ff bi
   simp only[fb]at a
   obtain⟨aH,a⟩:=a
   obtain⟨fd,Pb⟩:=ahl aH
   obtain⟨ct,bf,cf,a3,a4⟩:=Mo Y v1 bi
   have H:=ab4 (C:=C) (U:=U) (ae:=ae) (w:=w) (D:=false) 20 10000 kp u Zd pa aH
   split at a
   ·rename_i i ac b4
    have M:=Td Y Pb pa a4 b4
    obtain⟨_,D,bA,rfl⟩:=adR b8 0 i ac b4
    simp only[zh]at bA
    rw[qi,bA]at a
    obtain⟨fh,f9,born⟩:=D
    simp only[fb]at a
    obtain⟨afK,a⟩:=a
    obtain⟨rfl,aj⟩:=Xg a
    have bV:=a4 _ (Zl bA)
    obtain⟨b5,bR,cm,cX⟩:=aiU Y (dj:=j) aj v1 bi (Kh:=ff) (mT:=b8.set i (u,v,born)) (azL (λD=>{D with key:=aT U u,val:=aT U v}) a3 bA rfl) (ats a4 ⟨pa,fM⟩)
    refine⟨_,b5,rfl, ?_,cm,cX⟩
    simp[Instr.mapUpdate,run_underlying bc,aT,bf,H,a3,M,vQ,adt a3 bA,mw,ayu bV.1 pa afK,bR]
   ·rename_i b4
    have M:=Td Y Pb pa a4 b4
    obtain⟨rfl,aj⟩:=Xg a
    obtain⟨b5,bR,cm,cX⟩:=aiU Y (dj:=j) aj v1 bi (Kh:=ff+1) (mT:=b8++[(u,v,ff)]) (Hd:=ct.push {key:=aT U u,val:=aT U v,born:=ff}) (by simp[a3,mw])
     (λD bA=>(Zz.1 bA).elim (a4 D) (λbA=>by simp at bA;subst bA;exact⟨pa,fM⟩))
    refine⟨_,b5,rfl, ?_,cm,cX⟩
    simp[Instr.mapUpdate,run_underlying bc,aT,bf,H,a3,M,vQ,bR]
   ·simp at a
  ·simp at a
 ·simp at a
end
def atw(sV dv:Nat)(sB:sV+(sV+768)/4<=dv):∀(r c:Nat),c<=dv->Builtin.growBy sV r c<=dv:=by
 intro r
 induction r with
 |zero=>intro c a;exact a
 |succ r ah=>
  intro c a
  simp only[Builtin.growBy]
  split
  ·exact a
  ·exact ah _ Zo
def nextslicecap_le{sV Dh:Nat}(a:Dh<sV):Builtin.nextslicecap sV Dh<=2*sV+200:=by
 unfold Builtin.nextslicecap
 split
 ·omega
 ·split
  ·omega
  ·exact atw sV _ Zo 4 Dh Zo
def aCu{sV Dh bytes:Nat}(a:Dh<sV)(aF:sV<=1048576)(aj:bytes<=65536):¬(Builtin.nextslicecap sV Dh*bytes>2^48):=by
 have H:=nextslicecap_le a
 have M:Builtin.nextslicecap sV Dh*bytes<=(2*1048576+200)*65536:=Nat.mul_le_mul Zo aj
 have al:(2:Nat)^48=281474976710656:=by decide
 omega
def wrap_small{n:Nat}(aF:n<=1048576):IntKind.i64.wrap (n:Int)=n:=by
 rw[<-akp]
 simp only[qu,fw,Zh]
 have H:(n:Int)%18446744073709551616=n:=YT Zo Zo
 rw[H,Zp Zo]
def So{n b:Nat}(H:n<=1048576)(M:b<=65536):¬((281474976710656:Int)<(n:Int)*(b:Int)):=by
 have al:n*b<=1048576*65536:=Nat.mul_le_mul H M
 have:((n*b:Nat):Int)<=((1048576*65536:Nat):Int):=Int.ofNat_le.2 al
 rw[Int.natCast_mul]at this
 omega
def yO(P:Program)(w:World)(dO:TypeDesc)(X:Value)(i:TypeInfo)(bE:Value)(n:Nat)(new:Array Value):Prop:=
 ((dO= .string\/∃D,dO= .slice D)/\(Builtin.lenOf X).run P w= .ok n w/\(Builtin.firstCells i.size n X).run P w= .ok new w/\(Builtin.firstCells i.size n X).run P w.drew= .ok new w.drew)\/
 ((∃ak,dO= .int ak)/\(∃u,X= .int u (Int.ofNat n))/\n<=1048576/\i.bytes<=65536/\n*i.size≠0/\new=Builtin.zeroCells bE.cells n)
section
variable{P:Program}{w b5:World}{df:Array TypeId}{ty st i7 ep:TypeId}{i:TypeInfo}{dO:TypeDesc}{base:Option Addr}{hh lY n:Nat}{X bE:Value}{q1 new:Array Value}
def NF{F:Addr}(aK:df[0]? =some st)(H:df[1]? =some i7)(c8:P.underlying st=some (.slice ep))(ij:P.underlying i7=some dO)(aG:P.info? ep=some i)(cx:i.zero=some bE)
 (bZ:yO P w dO X i bE n new)(aF:hh+n<=lY)(aC:(storeCells (F.add (hh*i.size)) new.toList).run P w= .ok () b5):
 (Builtin.append_ df ty #[.slice (some F) hh lY,X]).run P w= .ok (.slice (some F) (hh+n) lY) b5:=by
 have pP:(#[Value.slice (some F) hh lY,X]:Array Value)[0]? =some (.slice (some F) hh lY):=rfl
 have bC:(#[Value.slice (some F) hh lY,X]:Array Value)[1]? =some X:=rfl
 clear pP bC
 rcases bZ with ⟨im,ks,og,_⟩|⟨⟨ak,rfl⟩,⟨u,rfl⟩,ks,og,qv,rfl⟩
 ·rcases im with rfl|⟨_,rfl⟩<;>simp[Builtin.append_,aK,H,run_underlying c8,run_underlying ij,sizeOf,typeInfo,aG,ks,aF,og,aC]
 ·have lR:=So ks og
  have az:¬((n:Int)<0):=Zo
  have bb:=wrap_small ks
  simp[Builtin.append_,aK,H,run_underlying c8,run_underlying ij,sizeOf,typeInfo,aG,asInt,asIntOf,bb,lR,az,aF,qv,zeroValue,cx,aC]
def acm(aK:df[0]? =some st)(H:df[1]? =some i7)(c8:P.underlying st=some (.slice ep))(ij:P.underlying i7=some dO)(aG:P.info? ep=some i)(cx:i.zero=some bE)
 (bZ:yO P w dO X i bE n new)(aF:¬(hh+n<=lY))(aj:i.bytes<=65536)(xX:hh+n<=1048576)(bi:(Builtin.firstCells i.size hh (.slice base hh lY)).run P w.drew= .ok q1 w.drew):
 ∃cap,hh+n<=cap/\(Builtin.append_ df ty #[.slice base hh lY,X]).run P w=
  .ok (.slice (some ⟨w.heap.size,0,none⟩) (hh+n) cap) (w.drew.alloc (.cells (q1++new++Builtin.zeroCells bE.cells (cap-(hh+n))) ep)):=by
 have Y:=aCu (sV:=hh+n) (Dh:=lY) Zo xX aj
 have m1:¬(281474976710656<Builtin.nextslicecap (hh+n) lY*i.bytes):=by
  have al:(2:Nat)^48=281474976710656:=by decide
  omega
 have bn:¬((9223372036854775807:Int)<(hh:Int)+(n:Int)):=Zo
 refine⟨hh+n+(w.tape w.drawn (.appendCap (hh+n) lY ep))%(2^63-(hh+n)),Zo, ?_⟩
 have eA:w.drew.heap.size=w.heap.size:=rfl
 have u7:IntKind.i64.max=9223372036854775807:=by decide
 rcases bZ with ⟨im,ks,og,qv⟩|⟨⟨ak,rfl⟩,⟨u,rfl⟩,ks,og,qv,rfl⟩
 ·rcases im with rfl|⟨_,rfl⟩<;>
   simp[Builtin.append_,aK,H,run_underlying c8,run_underlying ij,sizeOf,typeInfo,aG,ks,aF,qv,zeroValue,cx,u7,bn,m1,Question.forced,Question.cut,bi,newRow,eA]
 ·have lR:=So ks og
  have az:¬((n:Int)<0):=Zo
  have bb:=wrap_small ks
  simp[Builtin.append_,aK,H,run_underlying c8,run_underlying ij,sizeOf,typeInfo,aG,asInt,asIntOf,bb,lR,az,aF,qv,zeroValue,cx,u7,bn,m1,Question.forced,Question.cut,bi,newRow,eA]
end
structure yS(P:Program):Prop where
 mixed:P.follows .mixedOrders=true
 num:∀(f:Nat) fn,P.funcs[f]? =some fn->fn.body.isSome=true->(fn.name== "runtime.NumGoroutine")=false
section
variable{C:aN}{U dh:dd}{ae dJ:Nat->Prop}{h R:S ag}{j an bx:Nat}{w b5:World}
def dq.same(Y:dq C U ae h j bx w)(bb:b5.heap=w.heap):dq C U ae h j bx b5:=
 ⟨Y.a8,Y.lt,Y.wN,λb T a d=>(Y.obj b T a d).ab (λ_ _=>rfl) (λ_ a=>a) (by rw[bb]),Y.sep,Y.base,Y.eS⟩
def dq.drew(Y:dq C U ae h j bx w):dq C U ae h j bx w.drew:=Y.same rfl
def dq.aCl(Y:dq C U ae h j bx w){b:Nat}{c:S E}{n:Nat}{eS:List Nat}(aj:C.a8<=b)(aJ:ae b)(ih:W C h b=some (.cells c n (.grow eS))):
 dq C U ae (bm C h b (some (.cells c n .kJ))) j bx w:=by
 have p4:W C (bm C h b (some (.cells c n .kJ))) b=some (.cells c n .kJ):=by rw[gc _ aj,Zp rfl]
 have kj:∀x,x≠b->W C (bm C h b (some (.cells c n .kJ))) x=W C h x:=λx af=>by rw[gc _ aj,Zg af]
 refine⟨Y.a8,Y.lt, ?_, ?_, ?_, ?_, ?_⟩
 ·intro x du af
  by_cases D:x=b
  ·subst D;exact Y.lt x aJ
  ·exact Y.wN x du (by rw[<-kj x D,af])
 ·intro x du af dO
  by_cases D:x=b
  ·subst D
   rw[p4]at af;cases af
   obtain⟨ct,ty,bO,aG,H,M,al,aB⟩:=Y.obj x _ ih aJ
   exact⟨ct,ty,bO,aG,H,⟨trivial,M.2⟩,al,aB⟩
  ·exact Y.obj x du (by rw[<-kj x D,af]) dO
 ·intro x e du q3 af z dO pO dn mE fq
  by_cases D:x=b
  ·subst D
   rw[p4]at af;cases af
   rw[kj e λak=>dn ak.symm]at z
   obtain⟨H,M⟩:=Y.sep x e _ q3 ih z dO pO dn mE fq
   refine⟨?_,M⟩
   rcases H with ⟨_,_,_,_,ak,_⟩|⟨_,_,k,fX,aS,ak,cA,az⟩|⟨_,_,_,_,_,_,ak,_⟩
   ·cases ak
   ·exact .inl ⟨c,n,fX,aS,rfl,cA⟩
   ·cases ak
  ·rw[kj x D]at af
   by_cases cu:e=b
   ·subst cu
    rw[p4]at z;cases z
    obtain⟨H,M⟩:=Y.sep x e du _ af ih dO pO dn mE fq
    refine⟨?_,M⟩
    rcases H with ⟨_,_,_,_,_,ak⟩|⟨_,_,k,fX,aS,_,ak,az⟩|⟨fX,aS,_,_,_,ak,cA,_⟩
    ·cases ak
    ·cases ak
    ·exact .inl ⟨fX,aS,c,n,cA,rfl⟩
   ·rw[kj e cu]at z
    exact Y.sep x e du q3 af z dO pO dn mE fq
 ·intro x du mE af dO
  by_cases D:x=b
  ·subst D;exact Y.base x _ mE ih aJ
  ·exact Y.base x du mE (by rw[<-kj x D,af]) dO
 ·intro x du af dO
  by_cases D:x=b
  ·subst D
   rw[p4]at af;cases af
   have:=(Y.eS x _ ih aJ).2 _ _ _ rfl
   exact⟨λ_ _ _ a=>(by cases a),λ_ _ _ a=>(by cases a;exact this)⟩
  ·exact Y.eS x du (by rw[<-kj x D,af]) dO
def dq.share(Y:dq C U ae h j bx w){cO:Nat}{pl:nf}{cT:ag}(ez:bx<=cO)(tY:pl.cO=cO)(bb:∀u,u≠cO->b5.heap[u]? =w.heap[u]?)
 (bi:kL C (gH U j pl) (add ae j) cT pl b5)(p1:xh C (add ae j) cT)
 (af:∀x du,W C h x=some du->ae x->(U x).cO=cO->kL C U ae du (U x) b5/\RW cT du j x/\RW du cT x j/\pl.ek=(U x).ek):
 dq C (gH U j pl) (add ae j) (bm C h j (some cT)) (j+1) bx b5:=by
 have aj:=Y.a8
 have aF:¬ae j:=λa=>zz (Y.lt j a)
 have dS:=r9 (U:=U) (pl:=pl) aF
 have p4:W C (bm C h j (some cT)) j=some cT:=by rw[gc _ aj,Zp rfl]
 have kj:∀x,x≠j->W C (bm C h j (some cT)) x=W C h x:=λx af=>by rw[gc _ aj,Zg af]
 have aD:∀x,add ae j x->x≠j->ae x:=λx a dn=>a.resolve_right dn
 refine⟨Zo, ?_, ?_, ?_, ?_, ?_, ?_⟩
 ·intro x a
  rcases a with a|a
  ·have:=Y.lt x a;omega
  ·omega
 ·intro x du a
  by_cases D:x=j
  ·omega
  ·have:=Y.wN x du (by rw[<-kj x D,a]);omega
 ·intro x du a dO
  by_cases D:x=j
  ·subst D;rw[p4]at a;cases a;rw[l3];exact bi
  ·rw[kj x D]at a
   have dO:=aD x dO D
   rw[dS x dO]
   by_cases ak:(U x).cO=cO
   ·exact(af x du a dO ak).1.ab dS (λ_ a=> .inl a) rfl
   ·exact(Y.obj x du a dO).ab dS (λ_ a=> .inl a) (bb _ ak)
 ·intro x e du q3 H M dO pO dn mE fq
  by_cases D:x=j
  ·subst D
   rw[p4]at H;cases H
   have z:e≠x:=λak=>dn ak.symm
   rw[kj e z]at M
   have pO:=aD e pO z
   rw[l3,dS e pO]at fq ⊢
   obtain⟨_,b2,_,dL⟩:=af e q3 M pO (by rw[<-fq,tY])
   exact⟨b2,dL⟩
  ·rw[kj x D]at H
   have N3:=aD x dO D
   by_cases cu:e=j
   ·subst cu
    rw[p4]at M;cases M
    rw[l3,dS x N3]at fq ⊢
    obtain⟨_,_,cI,dL⟩:=af x du H N3 (by rw[fq,tY])
    exact⟨cI,dL.symm⟩
   ·rw[kj e cu]at M
    have adm:=aD e pO cu
    rw[dS x N3,dS e adm]at fq ⊢
    exact Y.sep x e du q3 H M N3 adm dn mE fq
 ·intro x du mE a dO
  by_cases D:x=j
  ·subst D;rw[l3,tY];exact ez
  ·rw[kj x D]at a
   have dO:=aD x dO D
   rw[dS x dO]
   exact Y.base x du mE a dO
 ·intro x du a dO
  by_cases D:x=j
  ·subst D;rw[p4]at a;cases a;exact p1
  ·rw[kj x D]at a
   have dO:=aD x dO D
   refine⟨λc n k az e z=> ?_,(Y.eS x du a dO).2⟩
   obtain⟨bP,b2⟩:=(Y.eS x du a dO).1 c n k az e z
   exact⟨.inl bP,b2⟩
def ahE{c:S E}{T n:Nat}{k:List E}(a:c.lq T n=some k):k.length=n:=(S.Ty _ _ _ _ a).1
def Sz{b T n:Nat}{k:List E}(a:nT C h b T n=some k):k.length=n:=by
 unfold nT at a
 split at a
 ·exact ahE a
 ·simp only[fb,Zf]at a
  have:n=0:=Zn a.1
  rw[<-a.2,this];rfl
def aFl(U:dd)(bE:E)(n:Nat):Builtin.zeroCells (aT U bE).cells n=(b3 U (lE n bE.cells)).toArray:=by
 rw[vR, <-ai4]
 simp[Builtin.zeroCells,kA]
def ajA(U:dd)(s:List Nat)(aC:∀x∈s,x<256):((gj s).data.map λb=>Value.int .u8 b.toNat)=(b3 U (s.map λn=>E.int .u8 (Int.ofNat n))).toArray:=by
 apply Y2
 simp only[gj,qG,Yt]
 simp only[List.map_toArray,Yt]
 apply YC
 intro x af
 simp[aT,YH (aC x af)]
def aDl(Y:dq C U ae h j bx w){x:E}{i:TypeInfo}{bE:Value}{dO:TypeDesc}{n:Nat}{k:List E}(fU:co ae x)(xS:dO= .string\/∃D,dO= .slice D)(a:lZ C h i.size x=some (n,k)):
 yO C.P w dO (aT U x) i bE n (b3 U k).toArray/\ey ae k/\k.length=n*i.size:=by
 unfold lZ at a
 split at a
 ·simp at a;obtain⟨rfl,rfl⟩:=a
  refine⟨.inl ⟨xS, ?_, ?_, ?_⟩,trivial,Zs⟩<;>simp[aT,Builtin.lenOf,Builtin.firstCells,b3]
 ·rename_i b T len cap
  split at a
  ·rename_i bS az
   simp at a;obtain⟨rfl,rfl⟩:=a
   obtain⟨H,M⟩:=Hm Y fU az
   obtain⟨al,_⟩:=Hm Y.drew fU az
   refine⟨.inl ⟨xS, ?_, ?_, ?_⟩,M,Sz az⟩<;>simp[aT,Builtin.lenOf,Builtin.firstCells,H,al]
  ·simp at a
 ·rename_i b T len cap
  split at a
  ·rename_i bS az
   simp at a;obtain⟨rfl,rfl⟩:=a
   obtain⟨H,M⟩:=Hm Y fU az
   obtain⟨al,_⟩:=Hm Y.drew fU az
   refine⟨.inl ⟨xS, ?_, ?_, ?_⟩,M,Sz az⟩<;>simp[aT,Builtin.lenOf,Builtin.firstCells,H,al]
  ·simp at a
 ·rename_i s
  simp only[fb]at a
  obtain⟨H,a⟩:=a
  have H:i.size=1:=Zn H
  simp at a;obtain⟨rfl,rfl⟩:=a
  have eA:(gj s).size=s.length:=by simp[gj,ByteArray.size]
  have bA:(gj s).extract 0 s.length=gj s:=by
   rw[<-eA];exact ByteArray.extract_zero_size
  have aA:=ajA U s fU
  refine⟨.inl ⟨xS, ?_, ?_, ?_⟩, ?_,by simp[H]⟩
  ·simp[aT,Builtin.lenOf,eA]
  ·simp only[aT,Builtin.firstCells,bA,Sem.run_pure];rw[aA];simp
  ·simp only[aT,Builtin.firstCells,bA,Sem.run_pure];rw[aA];simp
  ·rw[v2]
   intro v bD
   obtain⟨e,_,rfl⟩:=ZE.1 bD
   trivial
 ·simp at a
end
section
variable{P:Program}{w b5:World}{df:Array TypeId}{ty st i7 ep:TypeId}{i:TypeInfo}{dO:TypeDesc}{base:Option Addr}{hh lY n:Nat}{X bE:Value}{q1 new:Array Value}
def Ry(P:Program)(w:World)(dO:TypeDesc)(X:Value)(i:TypeInfo):Prop:=
 ((dO= .string\/∃D,dO= .slice D)/\(Builtin.lenOf X).run P w= .ok 0 w/\(Builtin.firstCells i.size 0 X).run P w= .ok #[] w)\/((∃ak,dO= .int ak)/\∃u,X= .int u 0)
def R9(aK:df[0]? =some st)(H:df[1]? =some i7)(c8:P.underlying st=some (.slice ep))(ij:P.underlying i7=some dO)(aG:P.info? ep=some i)
 (bZ:Ry P w dO X i)(aF:hh<=lY):(Builtin.append_ df ty #[.slice base hh lY,X]).run P w= .ok (.slice base hh lY) w:=by
 rcases bZ with ⟨im,ks,og⟩|⟨⟨ak,rfl⟩,u,rfl⟩
 ·rcases im with rfl|⟨_,rfl⟩<;>cases base<;>simp[Builtin.append_,aK,H,run_underlying c8,run_underlying ij,sizeOf,typeInfo,aG,ks,aF,og,storeCells]
 ·have bb:IntKind.i64.wrap 0=0:=by decide
  have ay:¬((2:Int)^48<0):=by decide
  cases base<;>simp[Builtin.append_,aK,H,run_underlying c8,run_underlying ij,sizeOf,typeInfo,aG,asInt,asIntOf,bb,ay,aF,storeCells]
end
section
variable{C:aN}{U dh:dd}{ae dJ:Nat->Prop}{h R:S ag}{j an bx:Nat}{w b5:World}
def apB{dO:TypeDesc}{X bE:Value}{i:TypeInfo}(a:yO C.P w dO X i bE 0 (b3 U []).toArray):Ry C.P w dO X i:=by
 rcases a with ⟨im,ks,og,_⟩|⟨_,_,_,_,qv,_⟩
 ·exact .inl ⟨im,ks,og⟩
 ·simp at qv
def aty{b T len bd n:Nat}(Y:dq C U ae h j bx w)(aj:ae b)(a:yu C h b=some n)(aC:0<bd)(az:T+len*bd<=n):len<=((U b).room-T)/bd:=by
 have:=ajp Y aj a
 rw[Y8 aC]
 omega
def acl(Y:dq C U ae h j bx w){df:Array TypeId}{ty st i7 ep:TypeId}{i:TypeInfo}{dO:TypeDesc}{s:E}{X:Value}{res:ed}
 (aK:df[0]? =some st)(H:df[1]? =some i7)(c8:C.P.underlying st=some (.slice ep))(ij:C.P.underlying i7=some dO)(aG:C.P.info? ep=some i)(eA:0<i.size)
 (bZ:Ry C.P w dO X i)(am:co ae s)(a:Hc C h i.size s=some res):∃v,res= .val v/\co ae v/\(Builtin.append_ df ty #[aT U s,X]).run C.P w= .ok (aT U v) w:=by
 unfold Hc at a
 split at a
 ·simp at a;subst a
  exact⟨_,rfl,trivial,by simp only[aT];exact R9 aK H c8 ij aG bZ (Zj _)⟩
 ·simp only[fb,Zf]at a
  obtain⟨az,rfl⟩:=a
  exact⟨_,rfl,am,by simp only[aT];exact R9 aK H c8 ij aG bZ (j2 az)⟩
 ·simp only[fb]at a
  obtain⟨bA,a⟩:=a
  have bA:=Zn bA
  subst bA
  split at a
  ·rename_i n aF
   simp only[fb,Zf]at a
   obtain⟨az,rfl⟩:=a
   exact⟨_,rfl,am,by simp only[aT];exact R9 aK H c8 ij aG bZ (aty Y am aF eA (j2 az))⟩
  ·simp at a
 ·simp at a
def No(C:aN)(U:dd)(ae:Nat->Prop)(h:S ag)(j bx:Nat)(w:World)(s:Sem Value)(res:ed):Prop:=
 ∃v R an,res= .fH v R an/\∃dh dJ b5,s.run C.P w= .ok (aT dh v) b5/\co dJ v/\dq C dh dJ R an bx b5/\jb C j U ae h bx w dh dJ R b5/\j<=an
def sX(Y:dq C U ae h j bx w):¬ae j:=λa=>zz (Y.lt j a)
def apY(ez:bx<=w.heap.size)(T:Obj):Below bx w (w.drew.alloc T):=(Below.drew (Below.refl bx w)).trans (Below.alloc (Below.refl bx w.drew) ez T)
def S8(Y:dq C U ae h j bx w){pl:nf}(ez:bx<=w.heap.size)(T:Obj)(iX:∀x,x≠j->¬ae x->W C R x=W C h x):jb C j U ae h bx w (gH U j pl) (add ae j) R (w.drew.alloc T):=
 ⟨r9 (sX Y),λ_ a=> .inl a,λx a=>a.elim .inl (λa=> .inr Zo),λx af az=>iX x Zo af,apY ez T⟩
def aes{k:List E}{rest:Array Value}{cap bd:Nat}(g:ey ae k)(aF:¬ae j)(az:k.length+rest.size=cap*bd)(ep:TypeId)(jj:List Nat):
 kL C (gH U j ⟨w.heap.size,0,cap*bd⟩) (add ae j) (.cells (S.ofList k 0 .nil) k.length (.grow jj)) ⟨w.heap.size,0,cap*bd⟩ (w.drew.alloc (.cells ((b3 U k).toArray++rest) ep)):=by
 have dS:=r9 (U:=U) (pl:=⟨w.heap.size,0,cap*bd⟩) aF
 refine⟨_,ep,0,0,wl w.drew _,⟨.inl rfl,by simp only;omega, ?_⟩, ?_,λi v bD=> ?_⟩
 ·simp only[YU,Yv,kA];omega
 ·simp only[YU,Yv,kA];omega
 ·rw[m5]at bD
  have fM:=Ci g bD
  have c3:i<k.length:=(Zb.1 bD).1
  refine⟨?_,pT (λ_ a=> .inl a) v fM⟩
  rw[rm dS fM,ZT,YB (by simpa[kA]using c3)]
  simp[B4,bD]
def aky(zero:Array Value)(n:Nat):(Builtin.zeroCells zero n).size=n*zero.size:=by simp[Builtin.zeroCells]
section
variable{df:Array TypeId}{ty st i7 ep:TypeId}{i:TypeInfo}{dO:TypeDesc}{X bE:Value}{n:Nat}{k:List E}
def aeq(Y:dq C U ae h j bx w)(ez:bx<=w.heap.size){s:E}{base:Option Addr}{hh lY:Nat}{bO:List E}(vd:bE.cells.size=i.size)
 (aK:df[0]? =some st)(H:df[1]? =some i7)(c8:C.P.underlying st=some (.slice ep))(ij:C.P.underlying i7=some dO)(aG:C.P.info? ep=some i)(cx:i.zero=some bE)(eA:0<i.size)(oA:i.bytes<=65536)
 (bZ:yO C.P w dO X i bE n (b3 U k).toArray)(jj:ey ae k)(az:k.length=n*i.size)(Tz:ey ae bO)(oC:bO.length=hh*i.size)(aF:¬(hh+n<=lY))(aC:aT U s= .slice base hh lY)
 (bi:(Builtin.firstCells i.size hh (.slice base hh lY)).run C.P w.drew= .ok (b3 U bO).toArray w.drew)(xX:hh+n<=1048576){aQ:S ag}(rv:List Nat)
 (dl:W C aQ j=some (.cells (S.ofList (bO++k) 0 .nil) (bO++k).length (.grow rv)))(dR:dq C U ae R j bx w)(eQ:∀x,x≠j->W C aQ x=W C R x\/W C aQ x=none)
 (e5:∀x,x≠j->¬ae x->W C aQ x=W C h x)(afw:∀x∈rv,ae x/\C.a8<=x):
 ∃dh dJ b5,(Builtin.append_ df ty #[aT U s,X]).run C.P w= .ok (aT dh (.fl j 0 (hh+n) i.size)) b5/\co dJ (.fl j 0 (hh+n) i.size)/\dq C dh dJ aQ (j+1) bx b5/\jb C j U ae h bx w dh dJ aQ b5:=by
 obtain⟨cap,aA,ph⟩:=acm (ty:=ty) aK H c8 ij aG cx bZ aF oA xX bi
 have eM:(bO++k).length=(hh+n)*i.size:=by rw[ZL,oC,az,Z8]
 have PJ:(bO++k).length+(Builtin.zeroCells bE.cells (cap-(hh+n))).size=cap*i.size:=by
  rw[aky,vd,eM, <-Z8]
  congr 1;omega
 have D:(b3 U bO).toArray++(b3 U k).toArray=(b3 U (bO++k)).toArray:=by rw[D8];simp
 rw[D]at ph
 have Ld:=aes (C:=C) (U:=U) (w:=w) (Ch Tz jj) (sX Y) PJ ep rv
 refine⟨gH U j ⟨w.heap.size,0,cap*i.size⟩,add ae j,w.drew.alloc (.cells ((b3 U (bO++k)).toArray++Builtin.zeroCells bE.cells (cap-(hh+n))) ep), ?_, .inr rfl, ?_, ?_⟩
 ·rw[aC,ph]
  simp only[aT,l3,ZT,zh]
  rw[Nat.mul_div_cancel _ eA]
 ·exact dR.drew.alloc Y.a8 (Yn _) (Yd _) (sX Y) ez rfl dl eQ Ld ⟨λc aS bS a=>(by cases a;exact λx af=>⟨.inl (afw x af).1,(afw x af).2⟩),λc aS st a=>(by cases a;exact I6)⟩
 ·exact S8 Y ez _ e5
def aep{n bd:Nat}{res:ed}(a:uY C h j n bd k=some res):n<=1048576/\res= .fH (.fl j 0 n bd) (bm C h j (some (.cells (S.ofList k 0 .nil) k.length (.grow [])))) (j+1):=by
 unfold uY n5 at a
 simp only[mW,hf,fb,Zf]at a
 exact⟨j2 a.1,a.2.symm⟩
def asp{b T len cap bd:Nat}{ft:List E}(Y:dq C U ae h j bx w)(aj:ae b)(a:nT C h b T (len*bd)=some ft):
 (Builtin.firstCells bd len (.slice (some ⟨(U b).cO,(U b).ek+T,none⟩) len cap)).run C.P w.drew= .ok (b3 U ft).toArray w.drew/\ey ae ft:=by
 obtain⟨H,M⟩:=Hm Y.drew aj a
 exact⟨by simp[Builtin.firstCells,H],M⟩
def aD4{ct:Array Value}{ek T p:Nat}{c:S E}{ft k:List E}{u:Nat}(ay:p=ek+T+ft.length)(b4:p+k.length<=ct.size)(jO:ey ae ft)(jj:ey ae k)
 (aK:∀V v,ft[V]? =some v->ct[ek+T+V]? =some (aT U v)):
 ∀V v,(ft++k)[V]? =some v->(lF ct p (b3 U k))[ek+T+V]? =some (aT U v)/\co ae v:=by
 intro V v bD
 rw[Xf _ _ _ _ (by rw[kA];exact b4),kA]
 by_cases bF:V<ft.length
 ·rw[Z7 bF]at bD
  rw[Zg Zo]
  exact⟨aK V v bD,Ci jO bD⟩
 ·rw[ZM Zo]at bD
  have c3:V-ft.length<k.length:=(Zb.1 bD).1
  rw[Zp Zo,B4,show ek+T+V-p=V-ft.length by omega,bD]
  exact⟨rfl,Ci jj bD⟩
section
variable{df:Array TypeId}{ty st i7 ep:TypeId}{i:TypeInfo}{dO:TypeDesc}{X bE:Value}{n:Nat}{k:List E}
def apA(Y:dq C U ae h j bx w)(ez:bx<=w.heap.size)(vd:bE.cells.size=i.size){b T len:Nat}{res:ed}
 (aK:df[0]? =some st)(H:df[1]? =some i7)(c8:C.P.underlying st=some (.slice ep))(ij:C.P.underlying i7=some dO)(aG:C.P.info? ep=some i)(cx:i.zero=some bE)(eA:0<i.size)(oA:i.bytes<=65536)
 (bZ:yO C.P w dO X i bE n (b3 U k).toArray)(jj:ey ae k)(az:k.length=n*i.size)(aJ:ae b)(g0:0<n)(a:J6 C h j b T len i.size n k=some res):
 No C U ae h j bx w (Builtin.append_ df ty #[aT U (.fl b T len i.size),X]) res:=by
 unfold J6 at a
 split at a
 ·rename_i c size eS bi
  simp only[fb]at a
  obtain⟨Lh,a⟩:=a
  have aj:C.a8<=b:=j2 Lh
  obtain⟨ct,dQ,bO,wo,bf,cf,a3,a4⟩:=Y.obj b _ bi aJ
  obtain⟨H9,awM,H8⟩:=cf
  have wd:=Y.base b _ aj bi aJ
  have Il:=(Y.eS b _ bi aJ).1 _ _ _ rfl
  have qO:=(Y.eS b _ bi aJ).2 _ _ _ rfl
  have CB:b≠j:=λD=>zz (Y.lt b aJ)
  have pe:=sX Y
  rw[fw]at a
  split at a
  ·
   rename_i afq
   have afq:T+(len+n)*i.size<=size:=j2 afq
   split at a
   ·rename_i R bb
    simp at a;subst a
    obtain⟨b5,bR,cm,cX⟩:=R4 Y (dj:=j) aJ jj bb
    have nn:len+n<=((U b).room-T)/i.size:=by
     rw[Y8 eA];omega
    refine⟨_,_,_,rfl,U,ae,b5, ?_,aJ,cm,cX,Zj _⟩
    simp only[aT]
    refine NF aK H c8 ij aG cx bZ nn ?_
    rw[sn,ZR]
    exact bR
   ·simp at a
  ·simp only[fb,Zq]at a
   obtain⟨⟨xX,rJ⟩,a⟩:=a
   have xX:=j2 xX
   have p2:∀v∈b3 U k,v.oneCell'=true:=aiq rJ
   have eM:(len+n)*i.size=len*i.size+n*i.size:=Z8 ..
   rw[fw]at a
   split at a
   ·
    rename_i EL
    simp only[Zq]at EL
    have bC:T+len*i.size=size:=Zn EL.1
    have cu:T=0:=Zn EL.2
    subst cu
    have bC:len*i.size=size:=Zo
    simp only[hf,n5,mW,Zf]at a
    subst a
    have t2:=Y.aCl aj aJ bi
    by_cases nn:len+n<=((U b).room-0)/i.size
    ·
     have awN:(len+n)*i.size<=(U b).room:=by
      have:=(Y8 eA).1 nn;omega
     have aw5:=W9 C.P (U b).cO ((U b).ek+size) dQ bO wo (b3 U k) 0 ct w bf (H9.imp (λD=>ze D.symm) id) (by rw[kA];omega)
     ·have Iy:=aw5 p2
      have sO:∀u,u≠(U b).cO->(w.setRow (U b).cO (lF ct ((U b).ek+size+0) (b3 U k))).heap[u]? =w.heap[u]? :=λu aH=>setRow_other w _ u _ aH
      have fD:=setRow_heap w (U b).cO ct (lF ct ((U b).ek+size+0) (b3 U k)) dQ (bO,wo) bf
      have dS:=r9 (U:=U) (pl:=U b) pe
      have EV:kL C (gH U j (U b)) (add ae j) (.cells (d7 c size k) (size+k.length) (.grow (b::eS))) (U b) (w.setRow (U b).cO (lF ct ((U b).ek+size+0) (b3 U k))):=by
       refine⟨_,dQ,bO,wo,fD,⟨by rw[yr];exact H9,Zo,by rw[yr];exact H8⟩,by rw[yr];omega,λV v bD=> ?_⟩
       obtain⟨bP,b2⟩:=akr (U:=U) (ae:=ae) (c:=c) (ct:=ct) (ek:=(U b).ek) (T:=size) (n:=size+k.length) jj Zo Zo a4 V v bD
       exact⟨by rw[rm dS b2];exact bP,pT (λ_ a=> .inl a) v b2⟩
      have Vm:=t2.share (j:=j) (b5:=w.setRow (U b).cO (lF ct ((U b).ek+size+0) (b3 U k))) (pl:=U b) (cT:= .cells (d7 c size k) (size+k.length) (.grow (b::eS))) wd rfl sO EV
       ⟨λfX aS bS a=>(by
        cases a
        intro x af
        rcases Zu.1 af with rfl|af
        ·exact⟨.inl aJ,aj⟩
        ·exact⟨.inl (Il x af).1,(Il x af).2⟩),
        λfX aS iH a=>(by cases a;exact Rg (Zj _) λV v bD=>ZP (qO V v bD) (zi _ _))⟩
       (λx du af dO vc=>by
        have ahj:∀fX aS,du= .cells fX aS .kJ->aS<=size->(U x).ek=(U b).ek->kL C U ae du (U x) (w.setRow (U b).cO (lF ct ((U b).ek+size+0) (b3 U k))):=by
         intro fX aS D Pm mD
         subst D
         have c3:=(t2.eS x _ af dO).2 _ _ _ rfl
         obtain⟨Hd,aEp,sR,k8,bQ,cl,cU,fe⟩:=t2.obj x _ af dO
         rw[vc,bf]at bQ
         cases bQ
         refine⟨_,dQ,bO,wo,by rw[vc];exact fD,by rw[yr];exact cl,by rw[yr];exact cU,λV v bD=> ?_⟩
         obtain⟨bP,b2⟩:=fe V v bD
         have:=c3 V v bD
         refine⟨?_,b2⟩
         rw[Xf _ _ _ _ (by rw[kA];omega),Zg Zo]
         exact bP
        by_cases D:x=b
        ·subst D
         rw[gc _ aj,Zp rfl]at af;cases af
         exact⟨ahj c size rfl (Zj _) rfl, .inr (.inl ⟨_,_,_,_,_,rfl,rfl,Zs,Zo⟩), .inr (.inr ⟨_,_,_,_,_,rfl,rfl,Zs,Zo⟩),rfl⟩
        ·rw[gc _ aj,Zg D]at af
         obtain⟨lu,p3⟩:=Y.sep b x _ du bi af aJ dO (λak=>D ak.symm) aj vc.symm
         rcases lu with ⟨_,_,_,_,ak,_⟩|⟨_,_,bS,fX,aS,ak,rfl,bn,gl⟩|⟨_,_,_,_,_,_,ak,_⟩
         ·cases ak
         ·cases ak
          refine⟨ahj fX aS rfl gl p3.symm, .inr (.inl ⟨_,_,_,_,_,rfl,rfl,Zt _ bn,Zo⟩), .inr (.inr ⟨_,_,_,_,_,rfl,rfl,Zt _ bn,Zo⟩),p3⟩
         ·cases ak)
      refine⟨_,_,_,rfl,gH U j (U b),add ae j,_, ?_, .inr rfl,Vm,⟨dS,λ_ a=> .inl a,λx a=>a.elim .inl (λa=> .inr Zo),λx af c3=> ?_,Sf wd _ _⟩,Yd _⟩
      ·simp only[aT,l3]
       rw[ZX]
       refine NF aK H c8 ij aG cx bZ nn ?_
       rw[sn,bC]
       exact Iy
      ·have vc:x≠b:=λD=>af (by rw[D];exact aJ)
       rw[gc _ Y.a8,Zg Zo,gc _ aj,Zg vc]
    ·
     have U9:(Builtin.firstCells i.size len (.slice (some ⟨(U b).cO,(U b).ek+0,none⟩) len (((U b).room-0)/i.size))).run C.P w.drew= .ok ((ct.toList.drop (U b).ek).take size).toArray w.drew:=by
      have pZ:=run_loadCells_list (P:=C.P) w.drew ⟨(U b).cO,(U b).ek+0,none⟩ ((ct.toList.drop (U b).ek).take size) (λV v bD=>by
       rw[sn]
       have bF:V<size:=by
        have:=(Zb.1 bD).1
        simp at this;omega
       rw[YW bF,Yi]at bD
       have ao0:w.drew.heap[(U b).cO]? =some (.cells ct dQ (bO,wo)):=bf
       simp only[World.cell?,ao0]
       simpa[ZQ]using bD)
      have wu:((ct.toList.drop (U b).ek).take size).length=size:=by simp;omega
      rw[wu]at pZ
      simp only[Builtin.firstCells,bC]
      exact pZ
     obtain⟨cap,aA,ph⟩:=acm (ty:=ty) aK H c8 ij aG cx bZ nn oA xX U9
     have wu:((ct.toList.drop (U b).ek).take size).length=size:=by simp;omega
     have PJ:size+k.length+(Builtin.zeroCells bE.cells (cap-(len+n))).size=cap*i.size:=by
      rw[aky,vd,az, <-bC, <-Z8, <-Z8]
      congr 1;omega
     have dS:=r9 (U:=U) (pl:=⟨w.heap.size,0,cap*i.size⟩) pe
     have EV:kL C (gH U j ⟨w.heap.size,0,cap*i.size⟩) (add ae j) (.cells (d7 c size k) (size+k.length) (.grow (b::eS))) ⟨w.heap.size,0,cap*i.size⟩
      (w.drew.alloc (.cells (((ct.toList.drop (U b).ek).take size).toArray++(b3 U k).toArray++Builtin.zeroCells bE.cells (cap-(len+n))) ep)):=by
      refine⟨_,ep,0,0,wl w.drew _,⟨.inl rfl,by simp only;omega, ?_⟩, ?_,λV v bD=> ?_⟩
      ·simp only[YU,Yv,kA,wu];omega
      ·simp only[YU,Yv,kA,wu];omega
      ·rw[XR,S.Oo]at bD
       simp only[ZT]
       split at bD
       ·rename_i bF
        have fM:=Ci jj bD
        refine⟨?_,pT (λ_ a=> .inl a) v fM⟩
        rw[rm dS fM,YB (by simp only[YU,Yv,kA,wu];omega),Array.getElem?_append_right (by simp only[Yv,wu];omega)]
        simp only[Yv,wu,List.getElem?_toArray,B4,bD,ZS]
       ·have bF:=qO V v bD
        obtain⟨bP,b2⟩:=a4 V v bD
        refine⟨?_,pT (λ_ a=> .inl a) v b2⟩
        rw[rm dS b2,YB (by simp only[YU,Yv,kA,wu];omega),YB (by simp only[Yv,wu];omega)]
        rw[List.getElem?_toArray,YW bF,Yi,ZQ]
        exact bP
     have dl:W C (bm C (bm C h b (some (.cells c size .kJ))) j (some (.cells (d7 c size k) (size+k.length) (.grow (b::eS))))) j=some (.cells (d7 c size k) (size+k.length) (.grow (b::eS))):=by
      rw[gc _ Y.a8,Zp rfl]
     refine⟨_,_,_,rfl,gH U j ⟨w.heap.size,0,cap*i.size⟩,add ae j,_, ?_, .inr rfl,t2.drew.alloc Y.a8 (Yn _) (Yd _) pe ez rfl dl (λx af=> .inl ?_) EV ?_,S8 Y ez _ (λx af VD=> ?_),Yd _⟩
     ·simp only[aT,l3,ZT,zh]
      simp only[ZX,zh]at ph ⊢
      rw[ph,Nat.mul_div_cancel _ eA]
     ·rw[gc _ Y.a8,Zg af]
     ·exact⟨λfX aS bS a=>(by
           cases a
           intro x af
           rcases Zu.1 af with rfl|af
           ·exact⟨.inl aJ,aj⟩
           ·exact⟨.inl (Il x af).1,(Il x af).2⟩),
       λfX aS iH a=>(by cases a;exact Rg (Zj _) λV v bD=>ZP (qO V v bD) (zi _ _))⟩
     ·have vc:x≠b:=λD=>VD (by rw[D];exact aJ)
      rw[gc _ Y.a8,Zg af,gc _ aj,Zg vc]
   ·
    split at a
    ·rename_i ft pZ
     simp only[n5,mW,hf,Zf]at a
     subst a
     have afT:ft.length=len*i.size:=ahE pZ
     have h0:cellsOf C h b=some c:=by simp[cellsOf,bi]
     have UP:∀x,x≠b->W C (bm C (nw C eS h) b none) x=if x∈eS then none else W C h x:=λx af=>by
      rw[gc _ aj,Zg af,afv _ _ _ λe z=>(Il e z).2]
     have afJ:W C (bm C (nw C eS h) b none) b=none:=by rw[gc _ aj,Zp rfl]
     have afo:dq C U ae (bm C (nw C eS h) b none) j bx w:=Y.adL λx=>by
      by_cases D:x=b
      ·subst D;exact .inr afJ
      ·rw[UP x D];split
       ·exact .inr rfl
       ·exact .inl rfl
     have Pc:∀x,¬ae x->W C (bm C (nw C eS h) b none) x=W C h x:=λx af=>by
      have vc:x≠b:=λD=>af (by rw[D];exact aJ)
      rw[UP x vc,Zg λbn=>af (Il x bn).1]
     have p4:W C (bm C (bm C (nw C eS h) b none) j (some (.cells (S.ofList (ft++k) 0 .nil) (ft++k).length (.grow [])))) j=some (.cells (S.ofList (ft++k) 0 .nil) (ft++k).length (.grow [])):=by
      rw[gc _ Y.a8,Zp rfl]
     have kj:∀x,x≠j->W C (bm C (bm C (nw C eS h) b none) j (some (.cells (S.ofList (ft++k) 0 .nil) (ft++k).length (.grow [])))) x=W C (bm C (nw C eS h) b none) x:=λx af=>by
      rw[gc _ Y.a8,Zg af]
     obtain⟨O3,O4⟩:=NQ Y aJ h0 pZ
     by_cases nn:len+n<=((U b).room-T)/i.size
     ·
      have AP:0<(len+n)*i.size:=Nat.mul_pos Zo eA
      have awN:T+(len+n)*i.size<=(U b).room:=by
       have al:=(Y8 eA).1 nn
       omega
      have Iy:=W9 C.P (U b).cO ((U b).ek+(T+len*i.size)) dQ bO wo (b3 U k) 0 ct w bf (H9.imp (λD=>ze D.symm) id) (by rw[kA];omega) p2
      have sO:∀u,u≠(U b).cO->(w.setRow (U b).cO (lF ct ((U b).ek+(T+len*i.size)+0) (b3 U k))).heap[u]? =w.heap[u]? :=λu aH=>setRow_other w _ u _ aH
      have fD:=setRow_heap w (U b).cO ct (lF ct ((U b).ek+(T+len*i.size)+0) (b3 U k)) dQ (bO,wo) bf
      have dS:=r9 (U:=U) (pl:=⟨(U b).cO,(U b).ek+T,(U b).room-T⟩) pe
      have aGg:(ft++k).length=(len+n)*i.size:=by rw[ZL,afT,az,Z8]
      have EV:kL C (gH U j ⟨(U b).cO,(U b).ek+T,(U b).room-T⟩) (add ae j) (.cells (S.ofList (ft++k) 0 .nil) (ft++k).length (.grow [])) ⟨(U b).cO,(U b).ek+T,(U b).room-T⟩ (w.setRow (U b).cO (lF ct ((U b).ek+(T+len*i.size)+0) (b3 U k))):=by
       refine⟨_,dQ,bO,wo,fD,⟨by rw[yr];exact H9,by simp only;omega,by rw[yr];simp only;omega⟩,by rw[yr];simp only;omega,λV v bD=> ?_⟩
       rw[m5]at bD
       obtain⟨bP,b2⟩:=aD4 (U:=U) (ae:=ae) (ct:=ct) (ek:=(U b).ek) (T:=T) (p:=(U b).ek+(T+len*i.size)+0) (c:=c) (u:=0) Zo Zo O4 jj (λV v bD=>by
        have wp:V<len*i.size:=zz (Zb.1 bD).1
        have:=(S.Ty _ _ _ _ pZ).2 V wp
        rw[bD]at this
        have:=(a4 _ _ this).1
        rw[<-ZR]at this
        exact this) V v bD
       exact⟨by rw[rm dS b2];exact bP,pT (λ_ a=> .inl a) v b2⟩
      have Vm:=afo.share (b5:=w.setRow (U b).cO (lF ct ((U b).ek+(T+len*i.size)+0) (b3 U k))) (pl:=⟨(U b).cO,(U b).ek+T,(U b).room-T⟩) (cT:= .cells (S.ofList (ft++k) 0 .nil) (ft++k).length (.grow [])) wd rfl sO EV
       ⟨λfX aS bS a=>(by cases a;simp),λfX aS iH a=>(by cases a;exact I6)⟩
       (λx du af dO vc=>by
        exfalso
        by_cases D:x=b
        ·subst D;rw[afJ]at af;cases af
        ·rw[UP x D]at af
         split at af
         ·cases af
         ·rename_i U1
          rcases(Y.sep b x _ du bi af aJ dO (λak=>D ak.symm) aj vc.symm).1 with ⟨_,_,_,_,ak,_⟩|⟨_,_,bS,fX,aS,ak,_,bn,_⟩|⟨_,_,_,_,_,_,ak,_⟩
          ·cases ak
          ·cases ak;exact U1 bn
          ·cases ak)
      refine⟨_,_,_,rfl,gH U j ⟨(U b).cO,(U b).ek+T,(U b).room-T⟩,add ae j,_, ?_, .inr rfl,Vm,⟨dS,λ_ a=> .inl a,λx a=>a.elim .inl (λa=> .inr Zo),λx af c3=> ?_,Sf wd _ _⟩,Yd _⟩
      ·simp only[aT,l3,ZX,zh]
       refine NF aK H c8 ij aG cx bZ nn ?_
       rw[sn,ZR]
       exact Iy
      ·rw[gc _ Y.a8,Zg Zo,Pc x af]
     ·have Ll:(Builtin.firstCells i.size len (.slice (some ⟨(U b).cO,(U b).ek+T,none⟩) len (((U b).room-T)/i.size))).run C.P w.drew= .ok (b3 U ft).toArray w.drew:=by
       obtain⟨UB,_⟩:=NQ Y.drew aJ h0 pZ
       simp[Builtin.firstCells,UB]
      obtain⟨dh,dJ,b5,fz,gn,iG,ps⟩:=aeq (ty:=ty) Y ez (s:= .fl b T len i.size) (bO:=ft) vd aK H c8 ij aG cx eA oA bZ jj az O4 afT nn rfl Ll xX []
       p4 afo (λx af=> .inl (kj x af)) (λx af VD=>by rw[kj x af,Pc x VD]) Zs
      exact⟨_,_,_,rfl,dh,dJ,b5,fz,gn,iG,ps,Yd _⟩
    ·simp at a
 ·simp at a
end
end
end
section
variable{C:aN}{U dh:dd}{ae dJ:Nat->Prop}{h R:S ag}{j an bx:Nat}{w b5:World}
section
variable{df:Array TypeId}{ty st i7 ep:TypeId}{i:TypeInfo}{dO:TypeDesc}{X bE:Value}{n:Nat}{k:List E}
def aer(Y:dq C U ae h j bx w)(ez:bx<=w.heap.size){s:E}{base:Option Addr}{hh lY:Nat}{bO:List E}{res:ed}(vd:bE.cells.size=i.size)
 (aK:df[0]? =some st)(H:df[1]? =some i7)(c8:C.P.underlying st=some (.slice ep))(ij:C.P.underlying i7=some dO)(aG:C.P.info? ep=some i)(cx:i.zero=some bE)(eA:0<i.size)(oA:i.bytes<=65536)
 (bZ:yO C.P w dO X i bE n (b3 U k).toArray)(jj:ey ae k)(az:k.length=n*i.size)(Tz:ey ae bO)(oC:bO.length=hh*i.size)(aF:¬(hh+n<=lY))(aC:aT U s= .slice base hh lY)
 (bi:(Builtin.firstCells i.size hh (.slice base hh lY)).run C.P w.drew= .ok (b3 U bO).toArray w.drew)(a:uY C h j (hh+n) i.size (bO++k)=some res):
 No C U ae h j bx w (Builtin.append_ df ty #[aT U s,X]) res:=by
 obtain⟨xX,rfl⟩:=aep a
 obtain⟨dh,dJ,b5,fz,gn,iG,ps⟩:=aeq (ty:=ty) Y ez (R:=h) vd aK H c8 ij aG cx eA oA bZ jj az Tz oC aF aC bi xX (aQ:=bm C h j (some (.cells (S.ofList (bO++k) 0 .nil) (bO++k).length (.grow [])))) []
  (by rw[gc _ Y.a8,Zp rfl]) Y (λx af=> .inl (by rw[gc _ Y.a8,Zg af])) (λx af _=>by rw[gc _ Y.a8,Zg af]) Zs
 exact⟨_,_,_,rfl,dh,dJ,b5,fz,gn,iG,ps,Yd _⟩
def ack(Y:dq C U ae h j bx w)(ez:bx<=w.heap.size)(vd:bE.cells.size=i.size){s:E}{res:ed}
 (aK:df[0]? =some st)(H:df[1]? =some i7)(c8:C.P.underlying st=some (.slice ep))(ij:C.P.underlying i7=some dO)(aG:C.P.info? ep=some i)(cx:i.zero=some bE)(eA:0<i.size)(oA:i.bytes<=65536)
 (bZ:yO C.P w dO X i bE n (b3 U k).toArray)(jj:ey ae k)(az:k.length=n*i.size)(am:co ae s)(g0:0<n)(a:yZ C h j i.size n k s=some res):
 No C U ae h j bx w (Builtin.append_ df ty #[aT U s,X]) res:=by
 unfold yZ at a
 split at a
 ·refine aer (hh:=0) (lY:=0) (bO:=[]) (base:=none) Y ez vd aK H c8 ij aG cx eA oA bZ jj az trivial Zs Zo rfl ?_ (by simpa using a)
  simp[Builtin.firstCells,b3]
 ·rename_i b T len cap
  rw[fw]at a
  split at a
  ·rename_i nn
   have nn:=j2 nn
   split at a
   ·rename_i R bb
    simp at a;subst a
    obtain⟨b5,bR,cm,cX⟩:=R4 Y (dj:=j) am jj bb
    refine⟨_,_,_,rfl,U,ae,b5, ?_,am,cm,cX,Zj _⟩
    simp only[aT]
    refine NF aK H c8 ij aG cx bZ nn ?_
    rw[sn,ZR]
    exact bR
   ·simp at a
  ·rename_i nn
   have nn:¬(len+n<=cap):=λak=>nn (by simpa using ak)
   split at a
   ·rename_i ft pZ
    obtain⟨bR,cm⟩:=asp (bd:=i.size) (cap:=cap) Y am pZ
    exact aer Y ez vd aK H c8 ij aG cx eA oA bZ jj az cm (Sz pZ) nn rfl bR a
   ·simp at a
 ·rename_i b T len yw
  simp only[fb]at a
  obtain⟨bA,a⟩:=a
  have bA:=Zn bA
  subst bA
  exact apA Y ez vd aK H c8 ij aG cx eA oA bZ jj az am g0 a
 ·simp at a
end
def Rx(C:aN)(U:dd)(ae:Nat->Prop)(h:S ag)(j bx:Nat)(w:World)(s:Sem Value)(res:ed):Prop:=
 No C U ae h j bx w s res\/∃v,res= .val v/\co ae v/\s.run C.P w= .ok (aT U v) w
def ab2(Y:dq C U ae h j bx w)(ez:bx<=w.heap.size){df:Array TypeId}{ty st i7:TypeId}{dO:TypeDesc}{s x:E}{res:ed}
 (aK:df[0]? =some st)(H:df[1]? =some i7)(ij:C.P.underlying i7=some dO)(xS:dO= .string\/∃D,dO= .slice D)(am:co ae s)(fU:co ae x)(a:G8 C h j st s x=some res):
 Rx C U ae h j bx w (Builtin.append_ df ty #[aT U s,aT U x]) res:=by
 unfold G8 at a
 split at a
 ·rename_i ep c8
  split at a
  ·rename_i i aG
   split at a
   ·rename_i n k kV
    simp only[fb,Zq]at a
    obtain⟨⟨⟨eA,oA⟩,PT⟩,a⟩:=a
    have eA:=l6 eA
    have oA:=j2 oA
    obtain⟨bE,cx,vd⟩:∃bE,i.zero=some bE/\bE.cells.size=i.size:=by
     unfold akz at PT
     split at PT
     ·rename_i bE cx
      exact⟨bE,cx,Zn PT⟩
     ·simp at PT
    obtain⟨bZ,jj,az⟩:=aDl (bE:=bE) Y fU xS kV
    rw[ia]at a
    split at a
    ·rename_i aF
     subst aF
     have:k=[]:=YZ.1 (by rw[az];simp)
     subst this
     obtain⟨v,fz,gn,iG⟩:=acl (ty:=ty) Y aK H c8 ij aG eA (apB bZ) am a
     exact .inr ⟨v,fz,gn,iG⟩
    ·exact .inl (ack Y ez vd aK H c8 ij aG cx eA oA bZ jj az am Zo a)
   ·simp at a
  ·simp at a
 ·simp at a
def ao8(Y:dq C U ae h j bx w)(ez:bx<=w.heap.size){df:Array TypeId}{ty st i7:TypeId}{ak:IntKind}{s x:E}{n:Nat}{res:ed}
 (aK:df[0]? =some st)(H:df[1]? =some i7)(ij:C.P.underlying i7=some (.int ak))(am:co ae s)(af:n4 x=some n)(a:NA C h j st s n=some res):
 Rx C U ae h j bx w (Builtin.append_ df ty #[aT U s,aT U x]) res:=by
 obtain⟨u,rfl⟩:=FI af
 unfold NA at a
 split at a
 ·rename_i ep c8
  split at a
  ·rename_i i bE aG mb
   simp only[fb,Zq]at a
   obtain⟨⟨⟨⟨eA,oA⟩,ID⟩,CB⟩,a⟩:=a
   have eA:=l6 eA
   have oA:=j2 oA
   have CB:=j2 CB
   have ID:bE.cells.length=i.size:=Zn ID
   have cx:i.zero=some (aT U bE)/\co ae bE:=by
    unfold uC at mb
    rw[aG]at mb
    simp only at mb
    split at mb
    ·rename_i ac bc
     obtain⟨D,g⟩:=Qp (U:=U) (ae:=ae) mb
     exact⟨by rw[bc,D],g⟩
    ·simp at mb
   rw[ia]at a
   split at a
   ·rename_i aF
    subst aF
    obtain⟨v,fz,gn,iG⟩:=acl (ty:=ty) Y aK H c8 ij aG eA (.inr ⟨⟨ak,rfl⟩,u,rfl⟩) am a
    exact .inr ⟨v,fz,gn,iG⟩
   ·rename_i aF
    have bZ:yO C.P w (.int ak) (aT U (.int u (Int.ofNat n))) i (aT U bE) n (b3 U (lE n bE.cells)).toArray:=
     .inr ⟨⟨ak,rfl⟩,⟨u,rfl⟩,CB,oA,zz (Nat.mul_pos (Nat.pos_of_ne_zero aF) eA),(aFl U bE n).symm⟩
    exact .inl (ack Y ez (by rw[vR];simp[kA,ID]) aK H c8 ij aG cx.1 eA oA bZ (TC (vS cx.2) n) (by rw[F3,ID]) am Zo a)
  ·simp at a
 ·simp at a
end
section
variable{C:aN}{U dh:dd}{ae dJ:Nat->Prop}{h R:S ag}{j an bx:Nat}{w b5:World}
def nM(C:aN)(U:dd)(ae:Nat->Prop)(h:S ag)(j bx:Nat)(w:World)(s:Sem Value)(v:E)(R:S ag)(an:Nat):Prop:=
 ∃dh dJ b5,s.run C.P w= .ok (aT dh v) b5/\co dJ v/\dq C dh dJ R an bx b5/\jb C j U ae h bx w dh dJ R b5/\j<=an
def nM.done{s:Sem Value}{v:E}(a:nM C U ae h j bx w s v R an):BF C U ae h j bx w (do pure (.value (<-s))) v R an:=by
 obtain⟨dh,dJ,b5,H,M,al,aB,bw⟩:=a
 exact⟨dh,dJ,b5, .value (aT dh v),by simp[H], .inl rfl,M,al,aB,bw⟩
def nM.same(Y:dq C U ae h j bx w){s:Sem Value}{v:E}(a:s.run C.P w= .ok (aT U v) w)(g:co ae v):nM C U ae h j bx w s v h j:=
 ⟨U,ae,w,a,g,Y, .refl,Zj _⟩
def Mx(Y:dq C U ae h j bx w)(ez:bx<=w.heap.size){s:Sem Value}{v:E}{cT:ag}{T:Obj}(aC:s.run C.P w= .ok (aT (gH U j ⟨w.heap.size,0,0⟩) v) (w.alloc T))(fM:co (add ae j) v)
 (bi:kL C (gH U j ⟨w.heap.size,0,0⟩) (add ae j) cT ⟨w.heap.size,0,0⟩ (w.alloc T))(p1:xh C (add ae j) cT):nM C U ae h j bx w s v (bm C h j (some cT)) (j+1):=by
 have aj:=Y.a8
 refine⟨_,_,_,aC,fM,Y.alloc aj (Yn _) (Yd _) (sX Y) ez rfl (by rw[gc _ aj,Zp rfl]) (λx af=> .inl (by rw[gc _ aj,Zg af])) bi p1, ?_,Yd _⟩
 exact⟨r9 (sX Y),λ_ a=> .inl a,λx a=>a.elim .inl (λa=> .inr Zo),λx af az=>by rw[gc _ aj,Zg Zo],Below.alloc (Below.refl bx w) ez T⟩
def Mw{T:ag}{u:Nat->E}{res:ed}(a:n5 C h j T u=some res):res= .fH (u j) (bm C h j (some T)) (j+1):=by
 unfold n5 at a
 simp only[mW,hf,Zf]at a
 exact a.symm
def aHm(Y:dq C U ae h j bx w){t:Nat}{m u:Operand}{ax:Operand->Value}{eF:Operand->Option E}{res:ed}(cK:jY U ae ax eF [m,u])(a:K4 C t m u h j eF=some res):
 ∃v R,res= .fH v R j/\nM C U ae h j bx w (Instr.mapEntry t (ax m) (ax u)) v R j:=by
 simp[K4]at a
def aFG(Y:dq C U ae h j bx w){t:Nat}{m s x:Operand}{ax:Operand->Value}{eF:Operand->Option E}{res:ed}(cK:jY U ae ax eF [m,s,x])(a:KW C m s x h j eF=some res):
 ∃R b5,res= .fH undef R j/\(Instr.entryStore t (ax m) (ax s) (ax x)).run C.P w= .ok () b5/\dq C U ae R j bx b5/\jb C j U ae h bx w U ae R b5:=by
 simp[KW]at a
def azz(Y:dq C U ae h j bx w)(ez:bx<=w.heap.size){t:Nat}{k c:Operand}{ax:Operand->Value}{eF:Operand->Option E}{res:ed}(cK:jY U ae ax eF [k,c])(a:K3 C t k c h j eF=some res):
 ∃v R an,res= .fH v R an/\nM C U ae h j bx w (Instr.makeSlice t (ax k) (ax c)) v R an:=by
 unfold K3 at a
 split at a
 ·rename_i ep aHj B0 bc az aA
  obtain⟨uR,_⟩:=cK k Zs _ az
  obtain⟨ars,_⟩:=cK c Zs _ aA
  rw[uR,ars]
  split at a
  ·rename_i Wj l7 i bE d2 xQ aG cx
   obtain⟨cE,rfl⟩:=FI d2
   obtain⟨cA,rfl⟩:=FI xQ
   simp only[fb,Zq]at a
   obtain⟨⟨⟨⟨⟨H,M⟩,al⟩,aB⟩,bw⟩,a⟩:=a
   have H:=j2 H
   have M:=j2 M
   have al:=j2 al
   have aB:=l6 aB
   have bw:bE.cells.length=i.size:=Zn bw
   have:=Mw a;subst this
   obtain⟨g5,gx⟩:=F6 cx U ae w
   refine⟨_,_,_,rfl,Mx Y ez (T:= .cells (b3 U (lE l7 bE.cells)).toArray ep) ?_ (.inr rfl) ?_ ⟨λ_ _ _ a=>(by cases a),λ_ _ _ a=>(by cases a;rw[<-bw, <-F3];exact I6)⟩⟩
   ·have jX:=wrap_small (n:=Wj) Zo
    have rb:=wrap_small M
    have nX:¬((281474976710656:Int)<(i.bytes:Int)*(l7:Int)):=by
     rw[Int.mul_comm];exact So M al
    have tN:¬((l7:Int)<0):=Zo
    have pZ:¬((Wj:Int)<0):=Zo
    have UQ:¬((l7:Int)<(Wj:Int)):=Zo
    have Ir:=ai5 U bE.cells i.size l7 bw (if l7*i.size=0 then #[]else(aT U bE).cells) (λdn=>by rw[Zg dn,vR])
    by_cases mb:l7*i.size=0
    ·rw[Zp mb]at Ir
     rw[<-Ir]
     simp[Instr.makeSlice,run_underlying bc,aT,asInt,asIntOf,typeInfo,aG,jX,rb,nX,tN,pZ,UQ,sizeOf,mb,newRow,l3]
    ·rw[Zg mb]at Ir
     rw[<-Ir]
     simp[Instr.makeSlice,run_underlying bc,aT,asInt,asIntOf,typeInfo,aG,jX,rb,nX,tN,pZ,UQ,sizeOf,mb,newRow,l3,g5]
   ·have g:=TC (vS gx) l7
    have:=NP (C:=C) (U:=gH U j ⟨w.heap.size,0,0⟩) (ae:=add ae j) (sy (λ_ a=> .inl a) _ g) ep 0 w
    rw[y8 (r9 (sX Y)) g,F3,bw]at this
    exact this
  ·simp at a
 ·simp at a
def azx(Y:dq C U ae h j bx w)(ez:bx<=w.heap.size){t:Nat}{r:Operand}{ax:Operand->Value}{eF:Operand->Option E}{res:ed}(cK:jY U ae ax eF [r])(a:K2 C t r h j eF=some res):
 ∃v R an,res= .fH v R an/\nM C U ae h j bx w (Instr.makeMap t (some (ax r))) v R an:=by
 unfold K2 at a
 split at a
 ·rename_i kp B9 ak n bc af
  obtain⟨D,_⟩:=cK r Zs _ af
  have:=Mw a;subst this
  refine⟨_,_,_,rfl,Mx Y ez (T:= .map #[] 0) ?_ (.inr rfl) ⟨#[],wl _ _,rfl,Zs⟩ ⟨λ_ _ _ a=>(by cases a),λ_ _ _ a=>(by cases a)⟩⟩
  simp[Instr.makeMap,run_underlying bc,D,aT,asInt,asIntOf,l3]
 ·simp at a
def aBX(Y:dq C U ae h j bx w)(ez:bx<=w.heap.size){t:Nat}{x:Operand}{ax:Operand->Value}{eF:Operand->Option E}{res:ed}(cK:jY U ae ax eF [x])(a:K5 C t x h j eF=some res):
 ∃v R an,res= .fH v R an/\nM C U ae h j bx w (Instr.range t (ax x)) v R an:=by
 have dS:=r9 (U:=U) (pl:=⟨w.heap.size,0,0⟩) (sX Y)
 unfold K5 at a
 split at a
 ·rename_i s bc af
  obtain⟨D,g⟩:=cK x Zs _ af
  have:=Mw a;subst this
  refine⟨_,_,_,rfl,Mx Y ez (T:= .stringIter (gj s) 0) ?_ (.inr rfl) ⟨rfl,wl _ _,g⟩ ⟨λ_ _ _ a=>(by cases a),λ_ _ _ a=>(by cases a)⟩⟩
  simp[Instr.range,run_underlying bc,D,aT,l3]
 ·rename_i kp B9 bc af
  obtain⟨D,g⟩:=cK x Zs _ af
  have:=Mw a;subst this
  refine⟨_,_,_,rfl,Mx Y ez (T:= .mapIter none 0 #[] 0) ?_ (.inr rfl) ⟨rfl,wl _ _,Zs⟩ ⟨λ_ _ _ a=>(by cases a),λ_ _ _ a=>(by cases a)⟩⟩
  simp[Instr.range,run_underlying bc,D,aT,l3]
 ·rename_i kp B9 r bc af
  obtain⟨D,g⟩:=cK x Zs _ af
  split at a
  ·rename_i b8 ff bi
   have:=Mw a;subst this
   obtain⟨ct,bf,cf,a3,a4⟩:=Mo Y g bi
   refine⟨_,_,_,rfl,Mx Y ez (T:= .mapIter (some (U r).cO) ff #[] ff) ?_ (.inr rfl) ⟨rfl, ?_,λb aj=>by cases aj;exact .inl g⟩ ⟨λ_ _ _ a=>(by cases a),λ_ _ _ a=>(by cases a)⟩⟩
   ·simp[Instr.range,run_underlying bc,D,aT,l3,bf]
   ·rw[wl];simp only[ZS,dS r g]
  ·simp at a
 ·simp at a
end
section
variable{C:aN}{U dh:dd}{ae dJ:Nat->Prop}{h R:S ag}{j an bx:Nat}{w b5:World}
def ahY(n:Nat):∀k,rS n k=k.contains n:=by
 intro k
 induction k with
 |nil=>rfl
 |cons F k ah=>simp only[rS,List.contains_cons,ah];congr 1;rw[Z9,Y3];exact⟨Zn,λa=>by rw[a];exact zf _⟩
def RI(C:aN)(U:dd)(ae:Nat->Prop)(h:S ag)(j bx:Nat)(w:World)(s:Sem Value)(res:ed):Prop:=match res with
 | .val v=>nM C U ae h j bx w s v h j
 | .fH v R an=>nM C U ae h j bx w s v R an
 | .fork k=>∃v R,(v,R)∈k/\nM C U ae h j bx w s v R j
 |_=>False
def az6(Y:dq C U ae h j bx w){eN:Operand}{A2:Bool}{ty:TypeId}{ax:Operand->Value}{eF:Operand->Option E}{res:ed}(cK:jY U ae ax eF [eN])(a:xK C eN A2 h j eF=some res):
 RI C U ae h j bx w (Instr.next (ax eN) A2 ty) res:=by
 unfold xK at a
 split at a
 ·rename_i r af
  obtain⟨D,nV⟩:=cK eN Zs _ af
  simp only[fb]at a
  obtain⟨Lh,a⟩:=a
  have aj:C.a8<=r:=j2 Lh
  rw[D]
  split at a
  ·rename_i s pos bi
   obtain⟨mD,H,M⟩:=Y.obj r _ bi nV
   have W:(getObj (U r).cO).run C.P w= .ok (.stringIter (gj s) pos) w:=by simp[getObj,Sem.run,H]
   have eA:(gj s).size=s.length:=by simp[gj,ByteArray.size]
   rw[fw]at a
   split at a
   ·rename_i ay
    have ay:=l6 ay
    rw[qi]at a
    split at a
    ·rename_i c aA
     simp only[fb]at a
     obtain⟨Uj,a⟩:=a
     have Uj:=l6 Uj
     obtain⟨rfl,_⟩:=Xg a
     obtain⟨b5,bR,cm,cX⟩:=putObj Y (dj:=j) (pn:= .pu s (pos+1)) (o':= .stringIter (gj s) (pos+1)) aj nV bi ⟨Zs,Zs⟩ H Zs (λb5 sO=>⟨mD,sO,M⟩) ⟨λ_ _ _ a=>(by cases a),λ_ _ _ a=>(by cases a)⟩
     refine⟨U,ae,b5, ?_,⟨trivial,trivial,trivial,trivial⟩,cm,cX,Zj _⟩
     have c3:pos<(gj s).size:=by rw[eA];exact ay
     have ae7:((gj s)[pos]'c3).toNat=c:=by
      show((gj s).data[pos]).toNat=c
      have aC:s[pos]=c:=by
       rw[Ze ay]at aA
       exact Yf aA
      simp[gj,aC];omega
     have O1:=decode_ascii (gj s) pos c3 (by rw[ae7];exact Uj)
     rw[ae7]at O1
     simp[Instr.next,aT,b3,mD,W,eA,ay,O1,bR,goInt]
    ·simp at a
   ·rename_i ay
    have ay:¬pos<s.length:=λak=>ay (by simp[Nat.blt];omega)
    simp at a;subst a
    refine nM.same Y ?_ ⟨trivial,trivial⟩
    simp[Instr.next,aT,b3,mD,W,eA,ay]
  ·rename_i wV seen ajz bi
   obtain⟨mD,H,M⟩:=Y.obj r _ bi nV
   have W:(getObj (U r).cO).run C.P w= .ok (.mapIter none wV seen.toArray ajz) w:=by simp[getObj,Sem.run,H]
   simp at a;subst a
   refine nM.same Y ?_ ⟨trivial,trivial⟩
   simp[Instr.next,aT,b3,mD,W]
  ·simp at a
 ·simp at a
end
section
variable{C:aN}{U dh:dd}{ae dJ:Nat->Prop}{h R:S ag}{j an bx:Nat}{w b5:World}
def asI(w:World)(ct:Array Value)(D:TypeId)(n:Nat):(w.alloc (.cells ct D)).freeze ⟨w.heap.size,n,none⟩ 1=w.alloc (.cells ct D (n,n+1)):=by
 unfold World.freeze
 rw[Zg Zd]
 show({w with heap:=(w.heap.push (.cells ct D)).modify w.heap.size _}:World)={w with heap:=w.heap.push (.cells ct D (n,n+1))}
 congr 1
 apply Array.ext_getElem?
 intro u
 rw[Y7,Array.getElem?_push,Array.getElem?_push]
 by_cases aH:w.heap.size=u
 ·subst aH;simp
 ·rw[Zg aH,Zg (λD=>aH D.symm),Zg (λD=>aH D.symm)]
def asH{p:Nat}{ct:Array Value}{ty:TypeId}{bO aG:Nat}(a:w.heap[p]? =some (.cells ct ty (bO,aG)))(n:Nat):
 (w.freeze ⟨p,n,none⟩ 1).heap[p]? =some (.cells ct ty (if bO==aG then(n,n+1)else(min bO n,max aG (n+1))))/\(∀u,u≠p->(w.freeze ⟨p,n,none⟩ 1).heap[u]? =w.heap[u]?):=by
 unfold World.freeze
 rw[Zg Zd]
 constructor
 ·simp only[Y7,ZG,a,ZS]
 ·intro u aH
  simp only[Y7]
  rw[Zg (λD=>aH D.symm)]
def aDR(Y:dq C U ae h j bx w)(ez:bx<=w.heap.size){s d:Nat}{x:Operand}{ax:Operand->Value}{eF:Operand->Option E}{res:ed}(cK:jY U ae ax eF [x])(a:K7 C s d x h j eF=some res):
 RI C U ae h j bx w (convert s d (ax x)) res:=by
 unfold K7 at a
 split at a
 ·rename_i D k aC aJ af
  obtain⟨ex,g⟩:=cK x Zs _ af
  split at a
  ·rename_i bA
   obtain⟨gl,rfl⟩:=aep a
   rw[ex]
   have eA:(gj k).size=k.length:=by simp[gj,ByteArray.size]
   have aGQ:(gj k).data.size=k.length:=by simp[gj]
   have aA:=ajA U k g
   have ata:ey ae (k.map λn=>E.int .u8 (Int.ofNat n)):=by
    rw[v2];intro v bD;obtain⟨e,_,rfl⟩:=ZE.1 bD;trivial
   obtain⟨cap,nn,u4⟩:∃cap,k.length<=cap/\(choose (.appendCap k.length 0 D)).run C.P w= .ok cap w.drew:=
    ⟨k.length+(w.tape w.drawn (.appendCap k.length 0 D))%(2^63-k.length),Zo,by simp[Question.forced,Question.cut]⟩
   have PJ:(k.map λn=>E.int .u8 (Int.ofNat n)).length+(Array.replicate (cap-k.length) (Value.int .u8 0)).size=cap*1:=by simp;omega
   have Ld:=aes (C:=C) (U:=U) (w:=w) (j:=j) ata (sX Y) PJ D []
   have EV:kL C (gH U j ⟨w.heap.size,0,cap*1⟩) (add ae j) (.cells (S.ofList (k.map λn=>E.int .u8 (Int.ofNat n)) 0 .nil) (k.map λn=>E.int .u8 (Int.ofNat n)).length (.grow [])) ⟨w.heap.size,0,cap*1⟩
    (w.drew.alloc (.cells ((b3 U (k.map λn=>E.int .u8 (Int.ofNat n))).toArray++Array.replicate (cap-k.length) (Value.int .u8 0)) D (cap,cap+1))):=by
    obtain⟨ct,ty,bO,aG,bQ,cl,cU,fe⟩:=Ld
    have act:=wl w.drew (.cells ((b3 U (k.map λn=>E.int .u8 (Int.ofNat n))).toArray++Array.replicate (cap-k.length) (Value.int .u8 0)) D)
    have aw9:w.drew.heap.size=w.heap.size:=rfl
    rw[aw9]at act
    rw[act]at bQ
    cases bQ
    refine⟨_,D,cap,cap+1,wl w.drew _,⟨.inr ?_,cl.2.1,cl.2.2⟩,cU,fe⟩
    simp[kA];omega
   refine⟨gH U j ⟨w.heap.size,0,cap*1⟩,add ae j,_, ?_, .inr rfl,Y.drew.alloc Y.a8 (Yn _) (Yd _) (sX Y) ez rfl (by rw[gc _ Y.a8,Zp rfl]) (λx af=> .inl (by rw[gc _ Y.a8,Zg af])) EV
    ⟨λ_ _ _ a=>(by cases a;simp),λ_ _ _ a=>(by cases a;exact I6)⟩,S8 Y ez _ (λx af _=>by rw[gc _ Y.a8,Zg af]),Yd _⟩
   have awZ:((b3 U (k.map λn=>E.int .u8 (Int.ofNat n))).toArray++Array.replicate (cap-k.length) (Value.int .u8 0)).size=cap:=by simp[kA];omega
   have qR:=asI w.drew ((b3 U (k.map λn=>E.int .u8 (Int.ofNat n))).toArray++Array.replicate (cap-k.length) (Value.int .u8 0)) D cap
   have UH:w.drew.heap.size=w.heap.size:=rfl
   rw[UH]at qR
   have Vu:(w.drew.alloc (.cells ((b3 U (k.map λn=>E.int .u8 (Int.ofNat n))).toArray++Array.replicate (cap-k.length) (Value.int .u8 0)) D)).shape? w.heap.size=some (D,cap):=by
    have:=wl w.drew (.cells ((b3 U (k.map λn=>E.int .u8 (Int.ofNat n))).toArray++Array.replicate (cap-k.length) (Value.int .u8 0)) D)
    rw[UH]at this
    simp only[World.shape?,this,awZ]
   simp only[convert,Sem.run_bind,run_underlying aC,run_underlying aJ,run_underlying bA,Result.andThen_ok,aT,Conv.stringToBytes,eA,u4,aA,newRow,run_newObj_alloc,UH,Sem.run_pure,markStringish,run_shape,Vu,run_freeze,qR,
    l3,ZT,zh,Z4,Nat.div_one]
  ·simp at a
 ·rename_i uR D b T len cap aC aJ af
  obtain⟨ex,g⟩:=cK x Zs _ af
  split at a
  ·rename_i bA
   simp only[fb,Zq]at a
   obtain⟨⟨Vt,Lh⟩,a⟩:=a
   have Vt:s=d:=Zn Vt
   subst Vt
   have aj:C.a8<=b:=j2 Lh
   rw[ex]
   have fin:∀(c:S E) (n:Nat) (st:oo),W C h b=some (.cells c n st)->(st= .own\/st= .marked)->∀R,W C R b=some (.cells c n .marked)->(∀x,x≠b->W C R x=W C h x)->
    nM C U ae h j bx w (convert s s (aT U (.slice b T len cap))) (.slice b T len cap) R j:=by
    intro c n st bi c8 R dl dR
    obtain⟨ct,ty,bO,aG,bf,cf,a3,a4⟩:=Y.obj b _ bi g
    have nl:Nl (.cells c n st):=by rcases c8 with rfl|rfl<;>exact⟨Zs,Zs⟩
    have H9:bO=aG\/ct.size<=bO:=by rcases c8 with rfl|rfl;exact .inl cf;exact cf
    obtain⟨eO,fp⟩:=asH bf ct.size
    have wd:=Y.base b _ aj bi g
    have Lw:∃sR k8,(if bO==aG then(ct.size,ct.size+1)else(min bO ct.size,max aG (ct.size+1)))=(sR,k8)/\ct.size<=sR:=by
     by_cases ak:bO=aG
     ·exact⟨_,_,by rw[Zp (by simpa using ak)],Zj _⟩
     ·refine⟨_,_,by rw[Zg (by simpa using ak)], ?_⟩
      have:=H9.resolve_left ak
      omega
    obtain⟨sR,k8,bC,cu⟩:=Lw
    rw[bC]at eO
    refine⟨U,ae,w.freeze ⟨(U b).cO,ct.size,none⟩ 1, ?_,g,Y.put aj g bi dl (λx af=> .inl (dR x af)) (λu aH=>fp u aH) ?_ ⟨ct,ty,sR,k8,eO, .inr cu,a3,a4⟩ ⟨λ_ _ _ a=>(by cases a),λ_ _ _ a=>(by cases a;exact(Y.eS b _ bi g).2 _ _ _ rfl)⟩, ?_,Zj _⟩
    ·have Vu:w.shape? (U b).cO=some (ty,ct.size):=W8 bf
     have auB:(s==s)=true:=by simp
     simp only[convert,Sem.run_bind,run_underlying aC,Result.andThen_ok,aT]
     rw[aC]at aJ
     cases aJ
     simp only[auB,run_underlying bA,Sem.run_bind,Result.andThen_ok,markStringish,run_shape,Vu,run_freeze,Sem.run_pure]
    ·intro x du dn af dO fq
     rw[dR x dn]at af
     exact Y.alone aj g bi nl x du dn af dO fq
    ·refine⟨λ_ _=>rfl,λ_ a=>a,λ_ a=> .inl a,λx af _=>dR x (λD=>af (by rw[D];exact g)), ?_⟩
     refine⟨?_, ?_, ?_, ?_,λu aH=>fp u Zo⟩<;>simp[World.freeze]
   split at a
   ·rename_i c n bi
    simp only[hf,Zf]at a
    subst a
    exact fin c n .own bi (.inl rfl) _ (by rw[gc _ aj,Zp rfl]) (λx af=>by rw[gc _ aj,Zg af])
   ·rename_i c n bi
    simp only[Zf]at a
    subst a
    exact fin c n .marked bi (.inr rfl) h bi (λ_ _=>rfl)
   ·simp at a
  ·simp at a
 ·simp at a
end
def jc(C:aN)(U:dd)(ae:Nat->Prop)(h:S ag)(j bx:Nat)(w:World)(s:Sem Next)(res:ed):Prop:=match res with
 | .val v=>BF C U ae h j bx w s v h j
 | .fH v R an=>BF C U ae h j bx w s v R an
 | .fork k=>∃v R,(v,R)∈k/\BF C U ae h j bx w s v R j
 | .enter f args=>s.run C.P w= .ok (.enter f (b3 U args).toArray) w/\ey ae args
 | .known f args v=>C.hz f args=some v/\s.run C.P w=(callFunc f (b3 U args).toArray).run C.P w/\ey ae args
 | .round k args=>s.run C.P w=(Instr.yield (U k).cO (b3 U args).toArray).run C.P w/\ey ae args/\ae k
 | .defer d=>s.run C.P w= .ok (.defer (mo U d)) w/\xD ae d
 | .recover=>s.run C.P w= .ok .recover w
 | .panic v=>s.run C.P w= .halt (.panic (aT U v)) w/\co ae v
section
variable{C:aN}{U dh:dd}{ae dJ:Nat->Prop}{h R:S ag}{j an bx:Nat}{w b5:World}
def jc.one{s:Sem Value}{res:ed}(a:RI C U ae h j bx w s res):jc C U ae h j bx w (do pure (.value (<-s))) res:=by
 cases res with
 |val v=>exact nM.done a
 |fH v R an=>exact nM.done a
 |fork k=>obtain⟨v,R,H,M⟩:=a;exact⟨v,R,H,M.done⟩
 |_=>exact a.elim
def jc.fH{s:Sem Value}{res:ed}(a:∃v R an,res= .fH v R an/\nM C U ae h j bx w s v R an):jc C U ae h j bx w (do pure (.value (<-s))) res:=by
 obtain⟨v,R,an,rfl,a⟩:=a
 exact a.done
def jc.app(Y:dq C U ae h j bx w){s:Sem Value}{res:ed}(a:Rx C U ae h j bx w s res):jc C U ae h j bx w (do pure (.value (<-s))) res:=by
 rcases a with ⟨v,R,an,rfl,dh,dJ,b5,H,M,al,aB,bw⟩|⟨v,rfl,H,M⟩
 ·exact nM.done ⟨dh,dJ,b5,H,M,al,aB,bw⟩
 ·exact nM.done (.same Y M H)
def jc.unit{s:Sem Unit}{res:ed}(a:∃R b5,res= .fH undef R j/\s.run C.P w= .ok () b5/\dq C U ae R j bx b5/\jb C j U ae h bx w U ae R b5):
 jc C U ae h j bx w (do s;pure .skip) res:=by
 obtain⟨R,b5,rfl,H,M,al⟩:=a
 exact⟨U,ae,b5, .skip,by simp[H], .inr ⟨rfl,rfl⟩,by trivial,M,al,Zj _⟩
def jc.congr{s e1:Sem Next}{res:ed}(a:s.run C.P w=e1.run C.P w)(u:jc C U ae h j bx w e1 res):jc C U ae h j bx w s res:=by
 cases res<;>simp only[jc,BF]at u ⊢ <;>rw[a]<;>exact u
def Sv(k0:yS C.P){f:Nat}{args:List E}{res:ed}(g:ey ae args)(a:tp C f args=some res):jc C U ae h j bx w (callFunc f (b3 U args).toArray) res:=by
 unfold tp at a
 split at a
 ·rename_i v bD
  simp at a;subst a
  exact⟨bD,rfl,g⟩
 ·split at a
  ·rename_i fn b4
   split at a
   ·rename_i c aj
    simp at a;subst a
    refine⟨?_,g⟩
    have aF:fn.name≠ "runtime.NumGoroutine":=by simpa using k0.num f fn b4 (by simp[aj])
    simp[callFunc,b4,aF,aj]
   ·simp at a
  ·simp at a
def ag6(k0:yS C.P){fn:Fn}{f1 args:List E}{res:ed}(HF:Ot ae fn)(nU:ey ae f1)(hm:ey ae args)(a:BS C fn f1 args=some res):
 jc C U ae h j bx w (invoke (.fn (nS U fn) (b3 U f1).toArray) (b3 U args).toArray) res:=by
 unfold BS at a
 split at a
 ·rename_i f
  have D:invoke (.fn (nS U (.func f)) (b3 U f1).toArray) (b3 U args).toArray=callFunc f (b3 U (args++f1)).toArray:=by
   simp[invoke,nS,D8]
  rw[D]
  exact Sv k0 (Ch hm nU) a
 ·rename_i k
  simp at a;subst a
  exact⟨rfl,hm,HF⟩
 ·simp at a
def azG(Y:dq C U ae h j bx w)(k0:yS C.P){t:Nat}{v:E}{name:String}{args:List E}{res:ed}(fM:co ae v)(hm:ey ae args)(a:G9 C h t v name args=some res):
 jc C U ae h j bx w (callMethod (.iface t (aT U v)) name (b3 U args).toArray) res:=by
 obtain⟨u,aH⟩:∃u,C.P.types.size+Made.depth=u+1:=⟨C.P.types.size+99,rfl⟩
 have go:∀(f:Nat) (x:E),co ae x->(method (u+1) t (aT U v) name).run C.P w= .ok (f,aT U x) w->tp C f (x::args)=some res->jc C U ae h j bx w (callMethod (.iface t (aT U v)) name (b3 U args).toArray) res:=by
  intro f x fU bn aA
  refine(Sv (U:=U) (h:=h) (j:=j) (bx:=bx) (w:=w) k0 (args:=x::args) (show co ae x/\ey ae args from⟨fU,hm⟩) aA).congr ?_
  simp[callMethod,aH,bn,b3]
 unfold G9 at a
 split at a
 ·rename_i i aG
  split at a
  ·rename_i m bn
   simp only[fb]at a
   obtain⟨ay,a⟩:=a
   have In:m.path.toList=[]:=by simpa using ay
   split at a
   ·rename_i f D b4 bc
    refine go f v fM ?_ a
    simp[method,typeInfo,aG,bn,In,follow,b4,receiverAt,run_underlying bc,Place.get]
   ·rename_i f D b4 bc
    split at a
    ·rename_i x af
     obtain⟨H,M⟩:=ab7 Y fM af
     refine go f x M ?_ a
     cases v with
     |ptr b T=>
      simp only[Instr.loadAt,Instr.sureAddr,aT,Sem.run_bind,Sem.run_pure,Result.andThen_ok]at H
      have aw4:∀(i7:TypeId) (F:Addr) (nm:String),Builtin.ssaWrapNilChk_ #[i7] i7 #[.pointer (some F),strVal "",strVal nm]=pure (.pointer (some F)):=λ_ _ _=>rfl
      have pf:m.path= #[]:=by simpa using ay
      simp[method,typeInfo,aG,bn,pf,follow,b4,receiverAt,run_underlying bc,Place.get,aT,aw4,asAddr,H]
     |_=>simp[mm,dE,aU]at af;split at af<;>simp at af
    ·simp at a
   ·rename_i f d aF b4 bc
    refine go f v fM ?_ a
    cases d<;>first
     |exact(aF _ rfl).elim
     |simp[method,typeInfo,aG,bn,In,follow,b4,receiverAt,run_underlying bc,Place.get]
   ·simp at a
  ·simp at a
 ·simp at a
def aqe(Y:dq C U ae h j bx w)(ez:bx<=w.heap.size)(k0:yS C.P){b:Builtin}{args:Array Operand}{df:Array TypeId}{ty:TypeId}{aqM:Array Bool}{ax:Operand->Value}{eF:Operand->Option E}{res:ed}
 (cK:jY U ae ax eF args.toList)(a:KQ C b args df h j eF=some res):jc C U ae h j bx w (builtin b df ty aqM (args.map ax)) res:=by
 have Hf:∀{t:Nat}{rest:List Nat},df.toList=t::rest->df[0]? =some t:=λaE=>by rw[<-ZQ,aE];rfl
 have Sc:∀{t ac:Nat}{rest:List Nat},df.toList=t::ac::rest->df[1]? =some ac:=λaE=>by rw[<-ZQ,aE];rfl
 unfold KQ at a
 split at a
 ·rename_i s x af
  obtain⟨bf,cf⟩:=xn cK af
  rw[bf]
  split at a
  ·rename_i st i7 rest aE
   split at a
   ·rename_i ak ij
    split at a
    ·rename_i n aF
     exact jc.app Y (ao8 (ty:=ty) Y ez (Hf aE) (Sc aE) ij cf.1 aF a)
    ·simp at a
   ·rename_i D ij
    exact jc.app Y (ab2 (ty:=ty) Y ez (Hf aE) (Sc aE) ij (.inr ⟨D,rfl⟩) cf.1 cf.2.1 a)
   ·rename_i ij
    exact jc.app Y (ab2 (ty:=ty) Y ez (Hf aE) (Sc aE) ij (.inl rfl) cf.1 cf.2.1 a)
   ·simp at a
  ·simp at a
 ·rename_i af
  simp at a;subst a
  exact rfl
 ·simp at a
def ao9(Y:dq C U ae h j bx w)(ez:bx<=w.heap.size)(k0:yS C.P){oper:Oper}{ax:Operand->Value}{eF:Operand->Option E}{res:ed}(cK:jY U ae ax eF oper.op.operands.toList)
 (a:oq oper.op C h j eF=some res):jc C U ae h j bx w (execOp ax oper) res:=by
 obtain⟨dst,op,type,pos,after,guard⟩:=oper
 have ah2:∀t m u x,jY U ae ax eF [m,u,x]->HV C t m u x h j eF=some res->jc C U ae h j bx w (do Instr.mapUpdate t (ax m) (ax u) (ax x);pure .skip) res:=by
  intro t m u x cK a
  unfold HV at a
  split at a
  ·rename_i F b c aE aj aA
   obtain⟨bC,bP⟩:=cK m Zs F aE
   obtain⟨cu,b2⟩:=cK u Zs b aj
   obtain⟨fL,cI⟩:=cK x Zs c aA
   obtain⟨R,b5,H,M,al,aB⟩:=apf Y bP b2 cI a
   rw[bC,cu,fL]
   exact jc.unit ⟨R,b5,H,M,al,aB⟩
  ·simp at a
 cases op<;>simp only[oq]at a<;>(try(cases a;done))<;>simp only[execOp]<;>simp only[Op.operands]at cK
 case mapUpdate t m u x=>exact ah2 t m u x (by simpa using cK) a
 case insert t m u x=>exact ah2 t m u x (by simpa using cK) a
 case makeSlice t k c=>exact jc.fH (azz Y ez (by simpa using cK) a)
 case makeMap t r=>
  cases r with
  |none=>simp at a
  |some r=>exact jc.fH (azx Y ez (by simpa using cK) a)
 case convert s d x=>exact jc.one (aDR Y ez (by simpa using cK) a)
 case range t x=>exact jc.fH (aBX Y ez (by simpa using cK) a)
 case next eN s=>exact jc.one (az6 Y (by simpa using cK) a)
 case panic x=>
  unfold T8 at a
  split at a
  ·rename_i t v af
   simp at a;subst a
   obtain⟨D,g⟩:=cK x Zs _ af
   refine⟨?_,g⟩
   simp[Instr.panic,D,aT]
  ·simp at a
 case defer c=>
  unfold TO at a
  split at a
  ·rename_i f args df
   split at a
   ·rename_i fn first f1 cB b4 has
    simp at a;subst a
    simp only[Call.operands]at cK
    obtain⟨D,g⟩:=cK f Zs _ b4
    obtain⟨bf,cf⟩:=xn (cK.mono (by simp;intro x af;exact .inr af)) has
    refine⟨?_,⟨g.1,g.2.2⟩,Ch g.2.1 cf⟩
    simp[resolve,D,aT,Deferred.ofValue,bf,mo,D6,D8]
   ·simp at a
  ·simp at a
 case call c=>
  unfold Ew at a
  split at a
  ·rename_i f args df
   split at a
   ·rename_i fn first f1 cB b4 has
    simp only[Call.operands]at cK
    obtain⟨D,g⟩:=cK f Zs _ b4
    obtain⟨bf,cf⟩:=xn (cK.mono (by simp;intro x af;exact .inr af)) has
    refine(ag6 (U:=U) (h:=h) (j:=j) (bx:=bx) (w:=w) k0 g.1 g.2.2 (Ch g.2.1 cf) a).congr ?_
    simp[resolve,D,aT,Deferred.ofValue,bf,D8]
   ·simp at a
  ·rename_i b args df
   simp only[Call.operands]at cK
   show jc C U ae h j bx w (builtin b df type _ (args.map ax)) res
   exact aqe Y ez k0 (cK.mono Zs) a
  ·rename_i r name args df
   split at a
   ·rename_i t v cB AT has
    simp only[Call.operands]at cK
    obtain⟨D,g⟩:=cK r Zs _ AT
    obtain⟨bf,cf⟩:=xn (cK.mono (by simp;intro x af;exact .inr af)) has
    refine(azG (v:=v) Y k0 g cf a).congr ?_
    simp[resolve,D,aT,invoke,bf]
   ·simp at a
end
end Go.bg

