/- Part of the proof of the last text; no conditions -/
import Derived.Test.YtendhgofocgngaaGreatDoorYb
import Derived.Laws.NewFold
import Derived.Laws.CopyRow
set_option maxHeartbeats 8000000
set_option linter.all false
namespace Go.bn
open Go.RowKit (Below)
section
variable{C:aK}{J:c1}{Y:Nat->Prop}{h:S ai}{j bj:Nat}{w:World}
def ax5{α:Type}{P:Program}(f:α->PUnit->Sem (ForInStep PUnit)):∀(k:List α),(∀E∈k,(f E ⟨⟩).run P w= .ok (.yield ⟨⟩) w)->(forIn k PUnit.unit f).run P w= .ok ⟨⟩ w:=by
 intro k
 induction k with
 |nil=>intro _;simp[Sem.run_pure]
 |cons E k ag=>intro a;simp[List.forIn_cons,a E Zs,ag λb ah=>a b (by simp[ah])]
def LL{B:Bool}:∀(n m t:Nat) (v:z),n<=m->b7 Y v->mv C n t v=true->(Instr.checkKey B m t (aF J v)).run C.P w= .ok () w:=by
 intro n
 induction n with
 |zero=>intro m t v _ _ a;simp[mv]at a
 |succ n ag=>
  intro m t v aZ bo a
  obtain⟨m,rfl⟩:∃o,m=o+1:=⟨m-1,Zo⟩
  unfold mv at a
  split at a
  ·rename_i iz d x aX
   split at a
   ·rename_i i aA
    simp only[Zp]at a
    have:=ag m d x Zo bo a.2
    simp[Instr.checkKey,run_underlying aX,aF,typeInfo,aA,a.1,this]
   ·simp at a
  ·rename_i aX;simp[Instr.checkKey,run_underlying aX,aF]
  ·simp at a
  ·rename_i jZ cs aX
   simp only[Instr.checkKey,Sem.run_bind,run_underlying aX,Result.andThen_ok,aF]
   rw[<-Array.forIn_toList]
   refine(congrArg (λr=>Result.andThen r _) (ax5 _ _ ?_)).trans rfl
   intro f b8
   have:=zk.1 a f b8
   simp only[Y1,Y8]at this
   by_cases aM:f.name= "_"
   ·simp[aM]
   ·rcases this with H|H
    ·exact absurd H aM
    ·split at H
     ·rename_i p av
      obtain⟨e7,hh⟩:=H7 (J:=J) (w:=w) bo av
      simp[aM,e7,ag m f.type p Zo hh H]
     ·simp at H
  ·simp at a
  ·simp at a
  ·rename_i d aL bc bL aX cA d2 eh
   simp only[Instr.checkKey,Sem.run_bind,run_underlying aX,Result.andThen_ok]
   cases d<;>first
    |exact(aL _ rfl).elim
    |exact(bc _ rfl).elim
    |exact(bL _ _ rfl).elim
    |rfl
  ·simp at a
def aaf{x:z}{o:IntKind}{E:Int}(a:aF J x= .int o E):x= .int o E:=by
 cases x<;>simp[aF]at a
 obtain⟨rfl,rfl⟩:=a;rfl
def aad{x:z}{E:Bool}(a:aF J x= .bool E):x= .bool E:=by
 cases x<;>simp[aF]at a
 subst a;rfl
def aag{x:z}{E:ByteArray}(a:aF J x= .string E):∃s,x= .str s/\E=fp s:=by
 cases x<;>simp[aF]at a
 exact⟨_,rfl,a.symm⟩
def ξ(E b:ByteArray):(E==b)=(E.toList==b.toList):=by
 show(E.data==b.data)=_
 rw[Ya,Y8,Y8,ByteArray.toList_eq,ByteArray.toList_eq]
 exact⟨λa=>by rw[a],λa=>Array.toList_inj.1 a⟩
def agh{d t:Nat}{eY:TypeDesc}{x e:z}{r fL:Bool}(aX:C.P.underlying t=some eY)(eE:b7 Y x)(uD:b7 Y e)
 (a:mu C h d t x e=some r)(cy:Instr.sameNow eY (aF J x) (aF J e)=some fL):r=fL:=by
 cases d with
 |zero=>simp[mu]at a
 |succ d=>
  unfold Instr.sameNow at cy
  split at cy
  ·rename_i de o E eA b af D
   rw[aaf af,aaf D]at a
   simp[mu,aX]at a
   split at cy
   ·simp at cy;rw[<-cy, <-a.2];rfl
   ·simp at cy
  ·rename_i E b af D
   obtain⟨s,rfl,rfl⟩:=aag af
   obtain⟨e1,rfl,rfl⟩:=aag D
   simp[mu,aX]at a
   simp at cy
   rw[<-cy, <-a,ξ,Vi eE uD]
  ·rename_i E b af D
   rw[aad af,aad D]at a
   simp[mu,aX]at a
   simp at cy;rw[<-cy, <-a]
  ·simp at cy
def p3(J:c1)(r:Option (Nat×z)):Option (Nat×Value):=r.map λx=>(x.1,aF J x.2)
def aor{t:Nat}{eY:TypeDesc}{o:z}(aX:C.P.underlying t=some eY)(j0:b7 Y o):∀(a1:List (z×z×Nat)) (i:Nat) (r:Option (Nat×z)) (fL:Option (Nat×Value)),
 (∀B∈a1,b7 Y B.1/\b7 Y B.2.1)->findKey C h t o a1 i=some r->Instr.findNow eY (aF J o) (a1.map (fz J)) i=some fL->fL=p3 J r:=by
 intro a1
 induction a1 with
 |nil=>intro i r fL _ a cy;simp[findKey]at a;simp[Instr.findNow]at cy;subst a;subst cy;rfl
 |cons B a1 ag=>
  intro i r fL bS a cy
  obtain⟨eA,v,b⟩:=B
  simp only[findKey]at a
  simp only[ZE,Instr.findNow,fz]at cy
  split at a
  ·rename_i a7
   simp at a;subst a
   split at cy
   ·simp at cy;rw[<-cy];rfl
   ·rename_i aD
    have:=agh aX j0 (bS (eA,v,b) (Zu ..)).1 a7 aD
    simp at this
   ·simp at cy
  ·rename_i a7
   split at cy
   ·rename_i aD
    have:=agh aX j0 (bS (eA,v,b) (Zu ..)).1 a7 aD
    simp at this
   ·exact ag _ _ _ (λB a7=>bS B (by simp[a7])) a cy
   ·simp at cy
  ·simp at a
def aop(V:cV C J Y h j bj w){t:Nat}{o:z}(j0:b7 Y o):∀(a1:List (z×z×Nat)) (i:Nat) (r:Option (Nat×z)),
 (∀B∈a1,b7 Y B.1/\b7 Y B.2.1)->findKey C h t o a1 i=some r->(Instr.findAsking t (aF J o) (a1.map (fz J)) i).run C.P w= .ok (p3 J r) w:=by
 intro a1
 induction a1 with
 |nil=>intro i r _ a;simp[findKey]at a;subst a;simp[Instr.findAsking,p3]
 |cons B a1 ag=>
  intro i r bS a
  obtain⟨eA,v,b⟩:=B
  simp only[findKey]at a
  have aZ:20<=Op.maxDepth:=by decide
  split at a
  ·rename_i a7
   simp at a;subst a
   have:=Qe V 20 _ t o eA true aZ j0 (bS (eA,v,b) (Zu ..)).1 a7
   simp[Instr.findAsking,Op.equal,fz,this,p3]
  ·rename_i a7
   have:=Qe V 20 _ t o eA false aZ j0 (bS (eA,v,b) (Zu ..)).1 a7
   simp[Instr.findAsking,Op.equal,fz,this]
   exact ag _ _ (λB a7=>bS B (by simp[a7])) a
  ·simp at a
def CP(V:cV C J Y h j bj w){t:Nat}{eY:TypeDesc}{o:z}{a1:List (z×z×Nat)}{r:Option (Nat×z)}(aX:C.P.underlying t=some eY)(j0:b7 Y o)
 (bS:∀B∈a1,b7 Y B.1/\b7 Y B.2.1)(a:findKey C h t o a1 0=some r):(Instr.findKey t (aF J o) (a1.map (fz J))).run C.P w= .ok (p3 J r) w:=by
 simp only[Instr.findKey,Sem.run_bind,run_underlying aX,Result.andThen_ok]
 split
 ·rename_i fL cy
  rw[aor aX j0 a1 0 r fL bS a cy];rfl
 ·exact aop V j0 a1 0 r bS a
def Mx{t:Nat}{o:z}:∀(a1:List (z×z×Nat)) (i W:Nat) (v:z),findKey C h t o a1 i=some (some (W,v))->i<=W/\∃B,a1[W-i]? =some B/\B.2.1=v:=by
 intro a1
 induction a1 with
 |nil=>intro i W v a;simp[findKey]at a
 |cons B a1 ag=>
  intro i W v a
  obtain⟨eA,fd,b⟩:=B
  simp only[findKey]at a
  split at a
  ·simp at a
   obtain⟨rfl,rfl⟩:=a
   exact⟨Zh _,(eA,fd,b),Zs,rfl⟩
  ·obtain⟨H,B,K,ak⟩:=ag _ _ _ a
   refine⟨Zo,B, ?_,ak⟩
   rw[show W-i=(W-(i+1))+1 by omega]
   simpa using K
  ·simp at a
def Oe{t d:Nat}{o:z}(a:mv C d t o=true):∃eY,C.P.underlying t=some eY:=by
 cases d with
 |zero=>simp[mv]at a
 |succ d=>
  cases aX:C.P.underlying t with
  |none=>simp[mv,aX]at a
  |some eY=>exact⟨eY,rfl⟩
def sL(V:cV C J Y h j bj w){r:Nat}{a1:List (z×z×Nat)}{dn:Nat}(aI:Y r)(a:Z C h r=some (.map a1 dn)):
 ∃bU,(getObj (J r).cr).run C.P w= .ok (.map bU dn) w/\w.heap[(J r).cr]? =some (.map bU dn)/\bU.toList=a1.map (fz J)/\∀B∈a1,b7 Y B.1/\b7 Y B.2.1:=by
 obtain⟨bU,H,K,ak⟩:=V.obj r _ a aI
 exact⟨bU,MapKept.run_getObj_map H,H,K,ak⟩
def aeP{t:Nat}{o:z}{E b:List (z×z)}(a:E.Perm b):∀r,pd C h t o E=some r->pd C h t o b=some r:=by
 induction a with
 |nil=>exact λ_ a=>a
 |cons x _ ag=>
  obtain⟨eA,v⟩:=x
  intro r a
  simp only[pd]at a ⊢
  split at a
  ·rename_i V a7
   rw[ag _ V,a7];simpa using a
  ·rename_i V a7
   rw[ag _ V,a7];simpa using a
  ·cases a
 |swap x e k=>
  obtain⟨aux,lE⟩:=x
  obtain⟨auy,Pq⟩:=e
  intro r a
  simp only[pd]at a ⊢
  cases aw:pd C h t o k with
  |none=>simp[aw]at a
  |some jC=>
   simp only[aw]at a
   cases af:mu C h 20 t o aux with
   |none=>rw[af]at a;cases jC<;>simp at a
   |some ν=>
    cases D:mu C h 20 t o auy with
    |none=>
     rw[af,D]at a
     cases ν<;>cases jC<;>simp at a
    |some ame=>
     rw[af,D]at a
     cases ν<;>cases ame<;>cases jC<;>simp at a ⊢ <;>exact a
 |trans _ _ TE J7=>exact λr a=>J7 r (TE r a)
def aeO{t:Nat}{o:z}:∀(a1:List (z×z×Nat)) (i:Nat) (r:Option z),pd C h t o (a1.map λB=>(B.1,B.2.1))=some r->∃fL,findKey C h t o a1 i=some fL/\fL.map (·.2)=r:=by
 intro a1
 induction a1 with
 |nil=>intro i r a;simp[pd]at a;subst a;exact⟨none,rfl,rfl⟩
 |cons B a1 ag=>
  obtain⟨eA,fd,b⟩:=B
  intro i r a
  simp only[ZE,pd]at a
  simp only[findKey]
  split at a
  ·rename_i jC V a7
   simp at a;subst a
   rw[a7]
   exact ag (i+1) _ V
  ·rename_i V a7
   simp at a;subst a
   rw[a7]
   exact⟨some (i,fd),rfl,rfl⟩
  ·cases a
def alb(V:cV C J Y h j bj w){t:Nat}{m o v:z}{ok:Bool}(nD:b7 Y m)(j0:b7 Y o)(a:LN C h t m o ok=some v):
 (Instr.lookup t (aF J m) (aF J o) ok).run C.P w= .ok (aF J v) w/\b7 Y v:=by
 unfold LN at a
 split at a
 ·rename_i hx ti aX
  have key:∀(a1:List (z×z×Nat)) (bU:Array MapEntry) (r:Option (Nat×z)),bU.toList=a1.map (fz J)->(∀B∈a1,b7 Y B.1/\b7 Y B.2.1)->mv C 20 hx o=true->findKey C h hx o a1 0=some r->
   (match r with|none=>(match pY C ti with|some aG=>some (bI ok (.tuple [aG, .bool false]) aG)|none=>none)|some (_,v)=>some (bI ok (.tuple [v, .bool true]) v))=some v->
   (do
    Instr.checkKey bU.isEmpty 10000 hx (aF J o)
    let(v,U)<-match<-Instr.findKey hx (aF J o) bU.toList with
     |some (_,v)=>pure (v,true)
     |none=>pure (<-zeroValue ti,false)
    pure (if ok then .tuple #[v, .bool U]else v):Sem Value).run C.P w= .ok (aF J v) w/\b7 Y v:=by
   intro a1 bU r aB bS aC b8 bo
   obtain⟨eY,m3⟩:=Oe aC
   have H:=LL (C:=C) (J:=J) (Y:=Y) (w:=w) (B:=bU.isEmpty) 20 10000 hx o Zd j0 aC
   have K:=CP V m3 j0 bS b8
   rw[aB]
   cases r with
   |none=>
    simp only at bo
    split at bo
    ·rename_i aG ce
     obtain⟨fD,fE⟩:=yY ce J Y w
     simp at bo;subst bo
     cases ok
     ·exact⟨by simp[H,K,p3,fD],fE⟩
     ·exact⟨by simp[H,K,p3,fD,aF,bK],⟨fE,trivial,trivial⟩⟩
    ·simp at bo
   |some p=>
    obtain⟨W,ac⟩:=p
    simp at bo;subst bo
    obtain⟨_,B,a7,rfl⟩:=Mx a1 0 W ac b8
    have acA:=(bS B (Zn a7)).2
    cases ok
    ·exact⟨by simp[H,K,p3],acA⟩
    ·exact⟨by simp[H,K,p3,aF,bK],⟨acA,trivial,trivial⟩⟩
  split at a
  ·simp at a
  ·rename_i aZ
   split at aZ
   ·simp only[d6,Zf]at aZ
    have:=key [] #[] none rfl Zs aZ.1 (by simp[findKey]) a
    refine⟨?_,this.2⟩
    rw[<-this.1]
    simp only[Instr.lookup,Sem.run_bind,run_underlying aX,Result.andThen_ok,aF,Sem.run_pure]
    rfl
   ·rename_i r
    split at aZ
    ·rename_i a1 dn aS
     simp only[d6]at aZ
     obtain⟨bU,H,_,K,ak⟩:=sL V nD aS
     have:=key a1 bU none K ak aZ.1 aZ.2 a
     refine⟨?_,this.2⟩
     rw[<-this.1]
     simp only[Instr.lookup,Sem.run_bind,run_underlying aX,Result.andThen_ok,aF,Sem.run_pure,H]
     rfl
    ·rename_i a1 aS
     simp only[d6]at aZ
     obtain⟨bU,dn,jX,H,K,ay,ak⟩:=V.obj r _ aS nD
     have bW:pd C h hx o a1=some none:=by
      have:=aZ.2
      unfold G5 at this
      split at this<;>simp at this
      all_goals(rename_i al;first|(rw[al,this.2])|exact al|(rw[al];simp[this]))
     obtain⟨fL,ef,ev⟩:=aeO jX 0 _ (aeP ay.symm _ bW)
     cases fL with
     |none=>
      have:=key jX bU none K ak aZ.1 ef a
      refine⟨?_,this.2⟩
      rw[<-this.1]
      simp only[Instr.lookup,Sem.run_bind,run_underlying aX,Result.andThen_ok,aF,Sem.run_pure,MapKept.run_getObj_map H]
      rfl
     |some p=>
      obtain⟨e7,hh⟩:=p
      simp at ev
    ·simp at aZ
   ·simp at aZ
  ·rename_i W ac aZ
   split at aZ
   ·simp only[d6]at aZ
    simp at aZ
   ·rename_i r
    split at aZ
    ·rename_i a1 dn aS
     simp only[d6]at aZ
     obtain⟨bU,H,_,K,ak⟩:=sL V nD aS
     have:=key a1 bU (some (W,ac)) K ak aZ.1 aZ.2 a
     refine⟨?_,this.2⟩
     rw[<-this.1]
     simp only[Instr.lookup,Sem.run_bind,run_underlying aX,Result.andThen_ok,aF,Sem.run_pure,H]
     rfl
    ·rename_i a1 aS
     simp only[d6]at aZ
     obtain⟨bU,dn,jX,H,K,ay,ak⟩:=V.obj r _ aS nD
     have bW:pd C h hx o a1=some (some ac):=by
      have:=aZ.2
      unfold G5 at this
      split at this<;>simp at this
      all_goals(rename_i al;first|(rw[al,this.2])|exact al|(rw[al];simp[this]))
     obtain⟨fL,ef,ev⟩:=aeO jX 0 _ (aeP ay.symm _ bW)
     cases fL with
     |none=>
      simp at ev
     |some p=>
      obtain⟨e7,hh⟩:=p
      simp at ev
      subst ev
      have:=key jX bU (some (e7,hh)) K ak aZ.1 ef a
      refine⟨?_,this.2⟩
      rw[<-this.1]
      simp only[Instr.lookup,Sem.run_bind,run_underlying aX,Result.andThen_ok,aF,Sem.run_pure,MapKept.run_getObj_map H]
      rfl
    ·simp at aZ
   ·simp at aZ
 ·simp at a
end
end Go.bn

namespace Go.bn
open Go.RowKit (Below)
section
variable{C:aK}{J:c1}{Y:Nat->Prop}{h:S ai}{j bj:Nat}{w:World}
def auE{t f:Nat}{x:Operand}{au:Operand->Value}{ed:Operand->Option z}{v:z}(ct:jc J Y au ed [x])
 (a:Km C t x f h ed=some v):(Instr.field t (au x) f).run C.P w= .ok (aF J v) w/\b7 Y v:=by
 unfold Km at a
 split at a
 ·rename_i jZ cs aX af
  obtain⟨B,g⟩:=ct x Zs _ af
  rw[B]
  rw[pN]at a
  split at a
  ·rename_i sg b8
   have qi:jZ[f]? =some sg:=by rw[<-b8];simp
   obtain⟨H,K⟩:=H7 (J:=J) (w:=w) g a
   refine⟨?_,K⟩
   simp[Instr.field,run_underlying aX,qi,asAgg,aF,H]
  ·simp at a
 ·simp at a
def auF{t:Nat}{x:Operand}{au:Operand->Value}{ed:Operand->Option z}{v:z}(ct:jc J Y au ed [x])
 (a:Kn C t x h ed=some v):(Instr.makeInterface t (au x)).run C.P w= .ok (aF J v) w/\b7 Y v:=by
 unfold Kn at a
 split at a
 ·simp at a
 ·rename_i d ac aM aX af
  obtain⟨B,g⟩:=ct x Zs _ af
  simp at a;subst a
  refine⟨?_,g⟩
  rw[B]
  cases d<;>first|exact(aM _ rfl).elim|simp[Instr.makeInterface,run_underlying aX,aF]
 ·simp at a
def auA{x:Operand}{t um:Nat}{ok:Bool}{au:Operand->Value}{ed:Operand->Option z}{v:z}(ct:jc J Y au ed [x])
 (a:Kj C x um ok h ed=some v):(Instr.typeAssert (au x) t um ok).run C.P w= .ok (aF J v) w/\b7 Y v:=by
 unfold Kj at a
 split at a
 ·simp at a
 ·rename_i d aM aX af
  obtain⟨B,g⟩:=ct x Zs _ af
  rw[B]
  simp only[d6]at a
  obtain⟨rfl,a⟩:=a
  split at a
  ·rename_i aG ce
   simp at a;subst a
   obtain⟨fD,fE⟩:=yY ce J Y w
   refine⟨?_,fE,trivial,trivial⟩
   cases d<;>first|exact(aM _ rfl).elim|simp[Instr.typeAssert,run_underlying aX,aF,bK,fD]
  ·simp at a
 ·rename_i d g8 ac aM aX af
  obtain⟨B,g⟩:=ct x Zs _ af
  rw[B]
  rw[hl]at a
  split at a
  ·rename_i a7
   subst a7
   simp at a
   cases ok
   ·simp at a;subst a
    refine⟨?_,g⟩
    cases d<;>first|exact(aM _ rfl).elim|simp[Instr.typeAssert,run_underlying aX,aF]
   ·simp at a;subst a
    refine⟨?_,g,trivial,trivial⟩
    cases d<;>first|exact(aM _ rfl).elim|simp[Instr.typeAssert,run_underlying aX,aF,bK]
  ·rename_i a7
   simp only[d6]at a
   obtain⟨rfl,a⟩:=a
   split at a
   ·rename_i aG ce
    simp at a;subst a
    obtain⟨fD,fE⟩:=yY ce J Y w
    refine⟨?_,fE,trivial,trivial⟩
    cases d<;>first|exact(aM _ rfl).elim|simp[Instr.typeAssert,run_underlying aX,aF,bK,fD,a7]
   ·simp at a
 ·simp at a
def T0:∀(k:List Nat),Ko k=k.getLast?:=by
 intro k
 induction k with
 |nil=>rfl
 |cons E k ag=>
  cases k with
  |nil=>rfl
  |cons b k=>simp only[Ko,List.getLast?_cons_cons];exact ag
def aa2(b:Nat):∀(a1:List (z×z×Nat)),(a1.map (fz J)).find? (·.born==b)=(AT b a1).map (fz J):=by
 intro a1
 induction a1 with
 |nil=>rfl
 |cons B a1 ag=>
  simp only[ZE,AT,zf,fz,hl]
  by_cases a:B.2.2=b
  ·simp[a,fz]
  ·have:(B.2.2==b)=false:=by simpa using a
   rw[this];simp only[a,ZA];exact ag
def aa3(b:Nat):∀(a1:List (z×z×Nat)) B,AT b a1=some B->B∈a1:=by
 intro a1
 induction a1 with
 |nil=>intro B a;simp[AT]at a
 |cons E a1 ag=>
  intro B a
  simp only[AT,hl]at a
  split at a
  ·simp at a;subst a;simp
  ·exact Zt _ (ag B a)
def auD(V:cV C J Y h j bj w){d7:Operand}{au:Operand->Value}{ed:Operand->Option z}{v:z}(ct:jc J Y au ed [d7])
 (a:Kl C d7 h ed=some v):(Instr.entry (au d7)).run C.P w= .ok (aF J v) w/\b7 Y v:=by
 unfold Kl at a
 split at a
 ·rename_i r af
  obtain⟨B,g⟩:=ct d7 Zs _ af
  rw[B]
  split at a
  ·rename_i m eL seen lj aS
   split at a
   ·rename_i rD a1 dn aD aZ
    simp only[d6]at a
    obtain⟨ax,a⟩:=a
    have ax:dn=lj:=Zj ax
    subst ax
    split at a
    ·rename_i o ac b ah
     simp at a;subst a
     obtain⟨h7,H,K⟩:=V.obj r _ aS g
     obtain⟨bU,ek,_,iP,D0⟩:=sL V (K m rfl) aZ
     have b8:bU.find? (λB=>B.born==rD)=some (fz J (o,ac,b)):=by
      have:=aa2 (J:=J) rD a1
      rw[<-iP,ah]at this
      rw[<-Array.find?_toList];exact this
     have Jb:seen.toArray.back?=some rD:=by rw[<-aD,T0];simp
     have Z:(getObj (J r).cr).run C.P w= .ok (.mapIter (some (J m).cr) eL seen.toArray dn) w:=by simp[getObj,Sem.run,H]
     obtain⟨b4,b1⟩:=D0 _ (aa3 rD a1 _ ah)
     refine⟨?_,b4,b1,trivial⟩
     simp[Instr.entry,aF,h7,Z,Jb,ek,b8,fz,bK]
    ·simp at a
   ·simp at a
  ·rename_i m eL n cj lj lQ aS
   split at a
   ·rename_i rD a1 dn aZ
    simp only[d6]at a
    obtain⟨ax,a⟩:=a
    have ax:dn=lj:=Zj ax
    subst ax
    split at a
    ·rename_i o ac b ah
     simp at a;subst a
     obtain⟨h7,yd,seen,H,_,aD⟩:=V.obj r _ aS g
     have aD:=aD rD rfl
     obtain⟨bU,ek,_,iP,D0⟩:=sL V yd aZ
     have b8:bU.find? (λB=>B.born==rD)=some (fz J (o,ac,b)):=by
      have:=aa2 (J:=J) rD a1
      rw[<-iP,ah]at this
      rw[<-Array.find?_toList];exact this
     have Jb:seen.toArray.back?=some rD:=by rw[<-aD,T0];simp
     have Z:(getObj (J r).cr).run C.P w= .ok (.mapIter (some (J m).cr) eL seen.toArray dn) w:=by simp[getObj,Sem.run,H]
     obtain⟨b4,b1⟩:=D0 _ (aa3 rD a1 _ ah)
     refine⟨?_,b4,b1,trivial⟩
     simp[Instr.entry,aF,h7,Z,Jb,ek,b8,fz,bK]
    ·simp at a
   ·simp at a
  ·simp at a
 ·simp at a
def ak9(V:cV C J Y h j bj w){t:Nat}{cL:Array TypeId}{ty:TypeId}{x v:z}{rest:List TypeId}(aB:cL.toList=t::rest)(eE:b7 Y x)(a:LM C h t x=some v):
 (Builtin.len_ cL ty #[aF J x]).run C.P w= .ok (aF J v) w/\b7 Y v:=by
 have uI:cL[0]? =some t:=by rw[<-ZM,aB];rfl
 unfold LM at a
 split at a<;>(try simp only[aea]at a)
 ·rename_i s aX
  simp at a;subst a
  refine⟨?_,trivial⟩
  have aD:(fp s).size=s.length:=by simp[fp,ByteArray.size]
  simp[Builtin.len_,uI,run_underlying aX,aF,goInt,aD]
 ·rename_i n th aX
  simp at a;subst a
  refine⟨?_,trivial⟩
  simp[Builtin.len_,uI,run_underlying aX,goInt]
  simp[aF]
 ·rename_i bU aX
  split at a
  ·rename_i n th Tt
   simp at a;subst a
   refine⟨?_,trivial⟩
   simp[Builtin.len_,uI,run_underlying aX,run_underlying Tt,goInt]
   simp[aF]
  ·simp at a
 ·rename_i aX
  simp at a;subst a
  refine⟨?_,trivial⟩
  simp[Builtin.len_,uI,run_underlying aX,aF,goInt]
 ·rename_i aX
  simp at a;subst a
  refine⟨?_,trivial⟩
  simp[Builtin.len_,uI,run_underlying aX,aF,goInt]
 ·rename_i aX
  simp at a;subst a
  refine⟨?_,trivial⟩
  simp[Builtin.len_,uI,run_underlying aX,aF,goInt]
 ·rename_i aX
  simp at a;subst a
  refine⟨?_,trivial⟩
  simp[Builtin.len_,uI,run_underlying aX,aF,goInt]
 ·rename_i r aX
  split at a
  ·rename_i a1 dn aS
   simp at a;subst a
   obtain⟨bU,H,K,ak,ay⟩:=sL V eE aS
   refine⟨?_,trivial⟩
   have:bU.size=a1.length:=by rw[<-Array.length_toList,ak,Zl]
   simp[Builtin.len_,uI,run_underlying aX,aF,goInt,H,this]
  ·simp at a
 ·simp at a
def ak2{t:Nat}{cL:Array TypeId}{ty:TypeId}{x v:z}{rest:List TypeId}(aB:cL.toList=t::rest)(a:LG C t x=some v):
 (Builtin.cap_ cL ty #[aF J x]).run C.P w= .ok (aF J v) w/\b7 Y v:=by
 have uI:cL[0]? =some t:=by rw[<-ZM,aB];rfl
 unfold LG at a
 split at a<;>(try simp only[aea]at a)
 ·rename_i aX
  simp at a;subst a
  refine⟨?_,trivial⟩
  simp[Builtin.cap_,uI,run_underlying aX,aF,goInt]
 ·rename_i aX
  simp at a;subst a
  refine⟨?_,trivial⟩
  simp[Builtin.cap_,uI,run_underlying aX,aF,goInt]
 ·simp at a
def ald:∀(k:List z) (x v:z),oU true x k=some v->((bK J k).foldlM Builtin.max2 (aF J x)).run C.P w= .ok (aF J v) w/\(b7 Y x->b7 Y v):=by
 intro k
 induction k with
 |nil=>intro x v a;cases x<;>simp[oU]at a<;>subst a<;>simp[bK]
 |cons e k ag=>
  intro x v a
  unfold oU at a
  split at a
  ·rename_i a8;simp at a8
  ·rename_i o E eA b bQ e0
   simp only[zp]at e0
   obtain⟨rfl,rfl⟩:=e0
   obtain⟨H,K⟩:=ag _ _ a
   refine⟨?_,λ_=>K trivial⟩
   simp only[bK,List.foldlM_cons,Sem.run_bind,aF,Builtin.max2,Sem.run_pure,Result.andThen_ok]
   simp only[eU,rj,eR,Zi,aF]at H
   exact H
  ·simp at a
def ale:∀(k:List z) (x v:z),oU false x k=some v->((bK J k).foldlM Builtin.min2 (aF J x)).run C.P w= .ok (aF J v) w/\(b7 Y x->b7 Y v):=by
 intro k
 induction k with
 |nil=>intro x v a;cases x<;>simp[oU]at a<;>subst a<;>simp[bK]
 |cons e k ag=>
  intro x v a
  unfold oU at a
  split at a
  ·rename_i a8;simp at a8
  ·rename_i o E eA b bQ e0
   simp only[zp]at e0
   obtain⟨rfl,rfl⟩:=e0
   obtain⟨H,K⟩:=ag _ _ a
   refine⟨?_,λ_=>K trivial⟩
   simp only[bK,List.foldlM_cons,Sem.run_bind,aF,Builtin.min2,Sem.run_pure,Result.andThen_ok]
   simp only[ku,rj,eR,Zi,aF]at H
   exact H
  ·simp at a
end
end Go.bn

namespace Go.bn
open Go.RowKit (Below)
section
variable{C:aK}{J:c1}{Y:Nat->Prop}{h:S ai}{j bj:Nat}{w:World}
def jc.mono{au:Operand->Value}{ed:Operand->Option z}{k bQ:List Operand}(a:jc J Y au ed k)(aD:∀x∈bQ,x∈k):jc J Y au ed bQ:=λx af v bo=>a x (aD x af) v bo
def Q9{au:Operand->Value}{ed:Operand->Option z}{U:Option Operand}{r:Option z}(ct:jc J Y au ed U.toList)(a:BX ed U=some r):U.map au=r.map (aF J):=by
 cases U with
 |none=>simp[BX]at a;subst a;rfl
 |some x=>
  simp only[BX]at a
  split at a
  ·rename_i v bo
   simp at a;subst a
   simp[(ct x Zs v bo).1]
  ·simp at a
def ala(V:cV C J Y h j bj w){oper:Oper}{au:Operand->Value}{ed:Operand->Option z}{v:z}(ct:jc J Y au ed oper.op.operands.toList)
 (a:n5 oper.op C h ed=some v):Lq J Y C.P w (execOp au oper) v:=by
 obtain⟨dst,op,type,pos,after,guard⟩:=oper
 cases op<;>simp only[n5]at a<;>(try(cases a;done))<;>simp only[execOp]<;>simp only[Op.operands]at ct
 case build t j9=>
  refine nz ?_
  unfold TR at a
  split at a
  ·rename_i df S3
   obtain⟨H,K⟩:=aaO (by simpa using ct) S3
   have:=ak1 (J:=J) (w:=w) K a
   rw[<-H]at this
   have B:(j9.map λx=>(x.1,au x.2))=(j9.toList.map λx=>(x.1,au x.2)).toArray:=by apply YR;simp
   rw[B];exact this
  ·simp at a
 case binOp op t x e HF=>exact nz (auB V (by simpa using ct) a)
 case unOp op t x=>
  refine nz ?_
  unfold TY at a
  split at a
  ·rename_i E aB
   rw[(ct x Zs E aB).1]
   exact alj a
  ·simp at a
 case convert s d x=>exact nz (auC V (by simpa using ct) a)
 case makeInterface t x=>exact nz (auF (by simpa using ct) a)
 case makeFunc fn first fw=>
  refine nz ?_
  unfold TU at a
  split at a
  ·rename_i E b aB ah
   split at a
   ·simp at a;subst a
    obtain⟨bd,ca⟩:=sa (ct.mono (by simp;intro x af;exact .inl af)) aB
    obtain⟨ch,cD⟩:=sa (ct.mono (by simp;intro x af;exact .inr af)) ah
    refine⟨?_,trivial,ca,cD⟩
    simp[Instr.makeFunc,bd,ch,aF,mY]
   ·simp at a
  ·simp at a
 case slice t x bC aA g6=>
  refine nz ?_
  unfold TX at a
  split at a
  ·rename_i E k cy m aB aw gC aZ
   have H:=ct x Zs E aB
   have K:=Q9 (ct.mono (by simp;intro x af;exact .inr (.inl af))) aw
   have ak:=Q9 (ct.mono (by simp;intro x af;exact .inr (.inr (.inl af)))) gC
   have ay:=Q9 (ct.mono (by simp;intro x af;exact .inr (.inr (.inr af)))) aZ
   rw[H.1,K,ak,ay]
   exact alg V H.2 a
  ·simp at a
 case field t x f=>exact nz (auE (by simpa using ct) a)
 case index t x i=>
  refine nz ?_
  unfold TV at a
  split at a
  ·rename_i E b aB ah
   have H:=ct x Zs E aB
   rw[H.1,(ct i Zs b ah).1]
   exact ak7 H.2 a
  ·simp at a
 case lookup t m o ok=>
  refine nz ?_
  unfold TW at a
  split at a
  ·rename_i E b aB ah
   have H:=ct m Zs E aB
   have K:=ct o Zs b ah
   rw[H.1,K.1]
   exact alb V H.2 K.2 a
  ·simp at a
 case entry d7=>exact nz (auD V (by simpa using ct) a)
 case typeAssert x t um ok=>exact nz (auA (by simpa using ct) a)
 case call c=>
  unfold TT at a
  split at a
  ·rename_i b args cL
   simp only[Call.operands]at ct
   have N3:jc J Y au ed args.toList:=ct.mono Zs
   unfold TS at a
   split at a
   ·rename_i x af
    obtain⟨bd,ca⟩:=sa N3 af
    split at a
    ·rename_i t rest aB
     obtain⟨H,K⟩:=ak9 (ty:=type) V aB ca.1 a
     refine⟨?_,K⟩
     simp[resolve,invoke,builtin,bd,bK,H]
    ·simp at a
   ·rename_i x af
    obtain⟨bd,ca⟩:=sa N3 af
    split at a
    ·rename_i t rest aB
     obtain⟨H,K⟩:=ak2 (J:=J) (Y:=Y) (w:=w) (ty:=type) aB a
     refine⟨?_,K⟩
     simp[resolve,invoke,builtin,bd,bK,H]
    ·simp at a
   ·rename_i x k af
    obtain⟨bd,ca⟩:=sa N3 af
    obtain⟨H,K⟩:=ald (C:=C) (J:=J) (Y:=Y) (w:=w) k x v a
    refine⟨?_,K ca.1⟩
    simp[resolve,invoke,builtin,Builtin.max_,bd,bK,H]
   ·rename_i x k af
    obtain⟨bd,ca⟩:=sa N3 af
    obtain⟨H,K⟩:=ale (C:=C) (J:=J) (Y:=Y) (w:=w) k x v a
    refine⟨?_,K ca.1⟩
    simp[resolve,invoke,builtin,Builtin.min_,bd,bK,H]
   ·simp at a
  ·simp at a
def aeL(V:cV C J Y h j bj w){oper:Oper}{au:Operand->Value}{wr:List (Nat×Nat)}{an:List (Nat×z)}{I:S z}{c:jS}{v:z}
 (ct:jc J Y au (ji wr an I) oper.op.operands.toList)(ax:lO C wr oper.op=some c)(a:gJ c C h an I=some v):Lq J Y C.P w (execOp au oper) v:=by
 have rest:∀U,oper.op=U->c= .h9 wr U->Lq J Y C.P w (execOp au oper) v:=by
  intro U aS Db
  subst Db;subst aS
  exact ala V ct a
 obtain⟨dst,op,type,pos,after,guard⟩:=oper
 cases op<;>simp only[lO]at ax<;>simp only[Op.operands]at ct
 case move x=>
  split at ax
  ·rename_i iR af
   simp at ax;subst ax
   simp only[gJ,nB af]at a
   obtain⟨H,K⟩:=ct x Zs v a
   exact⟨by simp[execOp,H],K⟩
  ·simp at ax
 case assign x=>
  split at ax
  ·rename_i iR af
   simp at ax;subst ax
   simp only[gJ,nB af]at a
   obtain⟨H,K⟩:=ct x Zs v a
   exact⟨by simp[execOp,H],K⟩
  ·simp at ax
 case pick gp E b=>
  split at ax
  ·rename_i aAK fu dw Jd aB ah
   simp at ax;subst ax
   simp only[gJ,nB Jd]at a
   split at a
   ·rename_i ac aX
    obtain⟨H,K⟩:=ct gp Zs ac aX
    unfold PA at a
    split at a
    ·rename_i t
     rw[nB aB,nB ah]at a
     simp only[execOp,H,aF]
     cases t
     ·obtain⟨ak,ay⟩:=ct b Zs v (by simpa using a)
      exact⟨by simp[asBool,ak],ay⟩
     ·obtain⟨ak,ay⟩:=ct E Zs v (by simpa using a)
      exact⟨by simp[asBool,ak],ay⟩
    ·simp at a
   ·simp at a
  ·simp at ax
 case load t E=>
  split at ax
  ·rename_i fu s aB H K
   simp at ax;subst ax
   simp only[gJ,nB aB]at a
   split at a
   ·rename_i ac aX
    obtain⟨ak,ay⟩:=ct E Zs ac aX
    simp only[execOp,ak]
    exact nz (XT V H K ay a)
   ·simp at a
  ·rename_i fu aB H
   simp at ax;subst ax
   simp only[gJ,nB aB]at a
   split at a
   ·rename_i ac aX
    obtain⟨ak,ay⟩:=ct E Zs ac aX
    simp only[execOp,ak]
    exact nz (XS V H ay a)
   ·simp at a
  ·simp at ax
 case fieldAddr s x f=>
  split at ax
  ·rename_i jZ iR aX af
   rw[pN]at ax
   split at ax
   ·rename_i sg b8
    split at ax
    ·rename_i aG ce
     simp only[FJ]at ax
     obtain⟨kA,ax⟩:=ax
     simp at ax;subst ax
     simp only[gJ,nB af]at a
     split at a
     ·rename_i ac tD
      obtain⟨ak,ay⟩:=ct x Zs ac tD
      simp only[execOp,ak]
      exact nz (aoi aX b8 ce (by intro B;subst B;simp at kA) ay a)
     ·simp at a
    ·simp at ax
   ·simp at ax
  ·simp at ax
 case indexAddr t x i=>
  split at ax
  ·rename_i n dO iR cC aX af aA
   split at ax
   ·rename_i aR ce
    simp at ax;subst ax
    simp only[gJ,nB af,nB aA]at a
    split at a
    ·rename_i ac tD
     split at a
     ·rename_i W bx
      split at a
      ·rename_i aP aM
       obtain⟨o,rfl⟩:=D8 aM
       obtain⟨ak,ay⟩:=ct x Zs ac tD
       obtain⟨be,bV⟩:=ct i Zs _ bx
       simp only[execOp,ak,be,aF]
       exact nz (at5 aX ce ay a)
      ·simp at a
     ·simp at a
    ·simp at a
   ·simp at ax
  ·rename_i dO iR cC aX af aA
   split at ax
   ·rename_i aR ce
    simp at ax;subst ax
    simp only[gJ,nB af,nB aA]at a
    split at a
    ·rename_i ac tD
     split at a
     ·rename_i W bx
      split at a
      ·rename_i aP aM
       obtain⟨o,rfl⟩:=D8 aM
       obtain⟨ak,ay⟩:=ct x Zs ac tD
       obtain⟨be,bV⟩:=ct i Zs _ bx
       simp only[execOp,ak,be,aF]
       exact nz (at8 aX ce ay a)
      ·simp at a
     ·simp at a
    ·simp at a
   ·simp at ax
  ·simp at ax
 case nilCheck x=>
  split at ax
  ·rename_i iR af
   simp at ax;subst ax
   simp only[gJ,nB af]at a
   split at a
   ·rename_i ac aX
    obtain⟨ak,ay⟩:=ct x Zs ac aX
    obtain⟨rfl,be⟩:=aAm (C:=C) (J:=J) (w:=w) ay a
    exact⟨be _ au x rfl ak,ay⟩
   ·simp at a
  ·simp at ax
 case binOp op t x e HF=>
  rw[eR]at ax
  split at ax
  ·split at ax
   ·rename_i iR aDp af D
    simp at ax;subst ax
    simp only[gJ,nB af,nB D]at a
    split at a
    ·rename_i E aB
     split at a
     ·rename_i b ah
      obtain⟨H,K⟩:=ct x Zs E aB
      obtain⟨ak,ay⟩:=ct e Zs b ah
      obtain⟨be,bV,o,i,eA,W,rfl,rfl⟩:=XR (C:=C) (J:=J) (Y:=Y) (w:=w) t a
      simp only[execOp,H,ak]
      refine nz ⟨?_,bV⟩
      rw[Sem.run_bind,Mq (by simp[FR])]
      exact be
     ·simp at a
    ·simp at a
   ·simp at ax
  ·simp at ax;exact rest _ rfl ax.symm
 case extract x i=>
  split at ax
  ·rename_i iR af
   simp at ax;subst ax
   simp only[gJ,nB af]at a
   split at a
   ·rename_i ac aX
    obtain⟨ak,ay⟩:=ct x Zs ac aX
    simp only[execOp,ak]
    exact nz (aAl ay a)
   ·simp at a
  ·simp at ax
 case convert s d x=>
  rw[eR]at ax
  split at ax
  ·simp at ax;subst ax;simp[gJ]at a
  ·simp at ax;exact rest _ rfl ax.symm
 case store t E x=>
  split at ax
  ·simp at ax;subst ax;simp[gJ]at a
  ·simp at ax
 case makeMap t r=>cases r<;>simp[lO]at ax<;>subst ax<;>simp[gJ]at a
 case call xF=>
  obtain⟨callee,args,cL⟩:=xF
  cases callee with
  |builtin b=>
   cases b<;>simp[lO]at ax<;>first
    |exact rest _ rfl ax.symm
    |(subst ax;simp[gJ]at a)
  |value f=>
   cases f<;>simp[lO]at ax
   all_goals first
    |(subst ax;simp[gJ]at a;done)
    |(
      split at ax
      ·simp at ax;subst ax;simp[gJ]at a
      ·simp at ax)
  |invoke r m=>simp[lO]at ax;subst ax;simp[gJ]at a
 all_goals(simp at ax;first|exact rest _ rfl ax.symm|(subst ax;simp[gJ]at a))
end
end Go.bn

namespace Go.bn
open Go.RowKit (Below)
def e9{C:aK}{h:S ai}{b:Nat}(U:Option ai)(ah:C.bf<=b)(x:Nat):Z C (bp C h b U) x=if x=b then U else Z C h x:=by
 unfold Z bp
 rw[eR,eR]
 by_cases af:Nat.blt x C.bf=true
 ·have:=ks af
  rw[Zq af,Zq af,Zg Zo]
 ·have qs:C.bf<=x:=by
   rcases zd x C.bf with a|a
   ·exact absurd (by simp[Nat.blt];omega) af
   ·exact a
  rw[Zg af,Zg af,S.kw]
  show(if b-C.bf=x-C.bf then U else h.get (x-C.bf))=_
  by_cases B:x=b
  ·rw[Zq Zo,Zq B]
  ·rw[Zg Zo,Zg B];rfl
def acy{C:aK}:∀(k:List Nat) (h:S ai) (x:Nat),(∀b∈k,C.bf<=b)->Z C (l1 C k h) x=if x∈k then none else Z C h x:=by
 intro k
 induction k with
 |nil=>intro h x _;simp[l1]
 |cons b k ag=>
  intro h x a
  simp only[l1]
  rw[ag _ _ (λc ax=>a c (by simp[ax])),e9 _ (a b Zs)]
  by_cases af:x∈k
  ·simp[af]
  ·by_cases B:x=b
   ·simp[B]
   ·simp[af,B]
def gh(J:c1)(b:Nat)(pl:mq):c1:=λx=>if x=b then pl else J x
def add(Y:Nat->Prop)(b:Nat):Nat->Prop:=λx=>Y x\/x=b
structure hF(C:aK)(cJ:Nat)(J:c1)(Y:Nat->Prop)(h:S ai)(bj:Nat)(w:World)(c6:c1)(dr:Nat->Prop)(R:S ai)(bE:World):Prop where
 im:∀b,Y b->c6 b=J b
 jh:∀b,Y b->dr b
 new:∀b,dr b->Y b\/cJ<=b
 ad:∀b,¬Y b->b<cJ->Z C R b=Z C h b
 below:Below bj w bE
def hF.refl{C:aK}{cJ:Nat}{J:c1}{Y:Nat->Prop}{h:S ai}{bj:Nat}{w:World}:hF C cJ J Y h bj w J Y h w:=
 ⟨λ_ _=>rfl,λ_ a=>a,λ_ a=> .inl a,λ_ _ _=>rfl, .refl _ _⟩
def hF.trans{C:aK}{cJ Ks:Nat}{J c6 ahk:c1}{Y dr VK:Nat->Prop}{h R XD:S ai}{bj:Nat}{w bE agV:World}(a:hF C cJ J Y h bj w c6 dr R bE)(aw:cJ<=Ks)
 (o:hF C Ks c6 dr R bj bE ahk VK XD agV):hF C cJ J Y h bj w ahk VK XD agV:=
 ⟨λb ah=>(o.im b (a.jh b ah)).trans (a.im b ah),λb ah=>o.jh b (a.jh b ah),
  λb ah=>(o.new b ah).elim (λah=>a.new b ah) (λah=> .inr Zo),
  λb ah hn=>by
   have aM:¬dr b:=λaI=>(a.new b aI).elim ah (λal=>Zo)
   rw[o.ad b aM Zo,a.ad b ah hn],
  a.below.trans o.below⟩
section
variable{C:aK}{J c6:c1}{Y dr:Nat->Prop}{h R:S ai}{j ap bj:Nat}{w bE:World}
def p4(dB:∀b,Y b->c6 b=J b){v:z}(g:b7 Y v):aF c6 v=aF J v:=QJ dB v g
def xG(dB:∀b,Y b->c6 b=J b){k:List z}(g:d0 Y k):bK c6 k=bK J k:=FK dB k g
def jr.ad{n am:Nat}{I:S z}{tmps:Array Value}(dB:∀b,Y b->c6 b=J b)(gv:∀b,Y b->dr b)(a:jr J Y n am I tmps):jr c6 dr n am I tmps:=
 ⟨a.size,λt v aw bo=>by
  obtain⟨H,K⟩:=a.val t v aw bo
  exact⟨by rw[H,p4 dB K],oZ gv v K⟩⟩
def QA(dB:∀b,Y b->c6 b=J b){d:hE}(g:wd Y d):lN c6 d=lN J d:=by
 obtain⟨t,cg⟩:=d
 obtain⟨b4,b1⟩:=g
 simp only[lN,xG dB b1]
 congr 1
 cases t with
 |fn fn cs=>
  obtain⟨H,K⟩:=b4
  have B:mY c6 fn=mY J fn:=by
   cases fn<;>simp only[mY]
   rw[dB _ H]
  simp only[CA,B,xG dB K]
 |collected r=>simp only[CA,dB r b4]
def abl(gv:∀b,Y b->dr b){d:hE}(g:wd Y d):wd dr d:=by
 obtain⟨t,cg⟩:=d
 refine⟨?_,qZ gv _ g.2⟩
 cases t with
 |fn fn cs=>exact⟨by cases fn<;>first|exact gv _ g.1.1|exact g.1.1,qZ gv _ g.1.2⟩
 |collected r=>exact gv _ g.1
def jU.ad{U:ai}{pl:mq}(dB:∀b,Y b->c6 b=J b)(gv:∀b,Y b->dr b)(bF:bE.heap[pl.cr]? =w.heap[pl.cr]?)(a:jU C J Y U pl w):jU C c6 dr U pl bE:=by
 cases U with
 |cells c n st=>
  obtain⟨bU,ty,bC,aA,H,K,ak,ay⟩:=a
  refine⟨bU,ty,bC,aA,by rw[bF,H],K,ak,λi v bo=> ?_⟩
  obtain⟨be,bV⟩:=ay i v bo
  exact⟨by rw[be,p4 dB bV],oZ gv v bV⟩
 |map a1 dn=>
  obtain⟨bU,H,K,ak⟩:=a
  refine⟨bU,by rw[bF,H], ?_,λB a7=>⟨oZ gv _ (ak B a7).1,oZ gv _ (ak B a7).2⟩⟩
  rw[K]
  apply Yq
  intro B a7
  simp only[fz,p4 dB (ak B a7).1,p4 dB (ak B a7).2]
 |look a1=>
  obtain⟨bU,dn,jX,H,K,ay,ak⟩:=a
  refine⟨bU,dn,jX,by rw[bF,H], ?_,ay,λB a7=>⟨oZ gv _ (ak B a7).1,oZ gv _ (ak B a7).2⟩⟩
  rw[K]
  apply Yq
  intro B a7
  simp only[fz,p4 dB (ak B a7).1,p4 dB (ak B a7).2]
 |oF s pos=>exact⟨a.1,by rw[bF,a.2.1],a.2.2⟩
 |kB m eL seen st=>
  obtain⟨a8,H,K⟩:=a
  refine⟨a8, ?_,λb ah=>gv b (K b ah)⟩
  rw[bF,H]
  cases m with
  |none=>rfl
  |some m=>simp only[ZK,dB m (K m rfl)]
 |vj m eL n cj st lQ=>
  obtain⟨a8,H,seen,K,ak⟩:=a
  exact⟨a8,gv m H,seen,by rw[bF,K,dB m H],ak⟩
 |loop state pending fn n am I params assign body bg=>
  obtain⟨tmps,H,K,ak,ay⟩:=a
  exact⟨tmps,by rw[bF,H,dB bg ak],K.ad dB gv,gv _ ak,ay⟩
 |deferred pw=>
  obtain⟨H,K⟩:=a
  refine⟨?_,λk aw d aI=>abl gv (K k aw d aI)⟩
  rw[bF,H]
  cases pw with
  |none=>rfl
  |some k=>
   simp only[ZK]
   congr 3
   exact Yq λd aI=>(QA dB (K k rfl d aI)).symm
def jU.lt{U:ai}{pl:mq}(a:jU C J Y U pl w):pl.cr<w.heap.size:=by
 have:∃x,w.heap[pl.cr]? =some x:=by
  cases U with
  |cells c n st=>obtain⟨bU,ty,bC,aA,H,_⟩:=a;exact⟨_,H⟩
  |map a1 dn=>obtain⟨bU,H,_⟩:=a;exact⟨_,H⟩
  |look a1=>obtain⟨bU,dn,jX,H,_⟩:=a;exact⟨_,H⟩
  |oF s pos=>exact⟨_,a.2.1⟩
  |kB m eL seen st=>exact⟨_,a.2.1⟩
  |vj m eL n cj st lQ=>obtain⟨_,_,seen,H,_⟩:=a;exact⟨_,H⟩
  |loop state pending fn n am I params assign body bg=>obtain⟨tmps,H,_⟩:=a;exact⟨_,H⟩
  |deferred pw=>exact⟨_,a.1⟩
 obtain⟨x,af⟩:=this
 exact(ZS.1 af).1
def cV.alloc(V:cV C J Y h j bj w){b:Nat}{pl:mq}{cN:ai}{U:Obj}(ah:C.bf<=b)(cS:b<ap)(ada:j<=ap)(aM:¬Y b)(eX:bj<=w.heap.size)(sB:pl.cr=w.heap.size)
 (i1:Z C R b=some cN)(C7:∀x,x≠b->Z C R x=Z C h x\/Z C R x=none)(aS:jU C (gh J b pl) (add Y b) cN pl (w.alloc U))(mB:uh C (add Y b) cN):
 cV C (gh J b pl) (add Y b) R ap bj (w.alloc U):=by
 have dB:∀x,Y x->gh J b pl x=J x:=λx af=>by
  unfold gh;rw[Zg];intro B;subst B;exact aM af
 have jm:gh J b pl b=pl:=by unfold gh;rw[Zq rfl]
 have JI:∀o,o<w.heap.size->(w.alloc U).heap[o]? =w.heap[o]? :=λo aC=>Below.heap_alloc _ _ _ aC
 have key:∀x dg,Z C R x=some dg->add Y b x->x≠b->Z C h x=some dg/\Y x/\(J x).cr<w.heap.size:=by
  intro x dg af aI cK
  have sp:Y x:=aI.resolve_right cK
  rcases C7 x cK with a|a
  ·have:Z C h x=some dg:=by rw[<-a,af]
   exact⟨this,sp,(V.obj x dg this sp).lt⟩
  ·rw[a]at af;cases af
 refine⟨Zy V.bf ada, ?_, ?_, ?_, ?_, ?_, ?_⟩
 ·intro x af
  rcases af with af|af
  ·have:=V.lt x af;omega
  ·omega
 ·intro x dg af
  by_cases B:x=b
  ·omega
  ·rcases C7 x B with a|a
   ·have:=V.vl x dg (by rw[<-a,af]);omega
   ·rw[a]at af;cases af
 ·intro x dg af aI
  by_cases B:x=b
  ·subst B
   rw[i1]at af;cases af
   rw[jm];exact aS
  ·obtain⟨H,K,ak⟩:=key x dg af aI B
   rw[dB x K]
   exact(V.obj x dg H K).ad dB (λ_ a=> .inl a) (JI _ ak)
 ·intro x e dg pP af D dx oX cK lZ e0
  by_cases B:x=b
  ·subst B
   by_cases b3:e=x
   ·exact absurd b3.symm cK
   ·obtain⟨H,K,ak⟩:=key e pP D oX b3
    rw[jm,dB e K]at e0
    omega
  ·obtain⟨H,K,ak⟩:=key x dg af dx B
   by_cases b3:e=b
   ·subst b3
    rw[jm,dB x K]at e0
    omega
   ·obtain⟨ay,be,bV⟩:=key e pP D oX b3
    rw[dB x K,dB e be]at e0 ⊢
    exact V.sep x e dg pP H ay K be cK lZ e0
 ·intro x dg lZ af aI
  by_cases B:x=b
  ·subst B;rw[jm];omega
  ·obtain⟨H,K,ak⟩:=key x dg af aI B
   rw[dB x K]
   exact V.base x dg lZ H K
 ·intro x dg af aI
  by_cases B:x=b
  ·subst B;rw[i1]at af;cases af;exact mB
  ·obtain⟨H,K,ak⟩:=key x dg af aI B
   refine⟨λc n k aw e D=> ?_,(V.et x dg H K).2⟩
   obtain⟨b4,b1⟩:=(V.et x dg H K).1 c n k aw e D
   exact⟨.inl b4,b1⟩
def cV.aaW(V:cV C J Y h j bj w)(i1:∀x,Z C R x=Z C h x\/Z C R x=none):cV C J Y R j bj w:=by
 have key:∀x dg,Z C R x=some dg->Z C h x=some dg:=by
  intro x dg af
  rcases i1 x with a|a
  ·rw[<-a,af]
  ·rw[a]at af;cases af
 exact⟨V.bf,V.lt,λx dg af=>V.vl x dg (key x dg af),λx dg af aI=>V.obj x dg (key x dg af) aI,
  λx e dg pP af D dx oX cK lZ e0=>V.sep x e dg pP (key x dg af) (key e pP D) dx oX cK lZ e0,λx dg lZ af aI=>V.base x dg lZ (key x dg af) aI,λx dg af aI=>V.et x dg (key x dg af) aI⟩
def cV.put(V:cV C J Y h j bj w){b:Nat}{cN lA:ai}(ah:C.bf<=b)(aI:Y b)(gw:Z C h b=some cN)(i1:Z C R b=some lA)
 (C7:∀x,x≠b->Z C R x=Z C h x\/Z C R x=none)(bF:∀o,o≠(J b).cr->bE.heap[o]? =w.heap[o]?)
 (h7:∀x dg,x≠b->Z C R x=some dg->Y x->(J x).cr=(J b).cr->False)(aS:jU C J Y lA (J b) bE)(mB:uh C Y lA):cV C J Y R j bj bE:=by
 have key:∀x dg,x≠b->Z C R x=some dg->Z C h x=some dg:=by
  intro x dg cK af
  rcases C7 x cK with a|a
  ·rw[<-a,af]
  ·rw[a]at af;cases af
 refine⟨V.bf,V.lt, ?_, ?_, ?_, ?_, ?_⟩
 ·intro x dg af
  by_cases B:x=b
  ·subst B;exact V.lt x aI
  ·exact V.vl x dg (key x dg B af)
 ·intro x dg af dx
  by_cases B:x=b
  ·subst B;rw[i1]at af;cases af;exact aS
  ·exact(V.obj x dg (key x dg B af) dx).ad (λ_ _=>rfl) (λ_ a=>a) (bF _ λal=>h7 x dg B af dx al)
 ·intro x e dg pP af D dx oX cK lZ e0
  by_cases B:x=b
  ·subst B
   exact(h7 e pP (λal=>cK al.symm) D oX e0.symm).elim
  ·by_cases b3:e=b
   ·subst b3;exact(h7 x dg B af dx e0).elim
   ·exact V.sep x e dg pP (key x dg B af) (key e pP b3 D) dx oX cK lZ e0
 ·intro x dg lZ af dx
  by_cases B:x=b
  ·subst B;exact V.base x cN lZ gw aI
  ·exact V.base x dg lZ (key x dg B af) dx
 ·intro x dg af dx
  by_cases B:x=b
  ·subst B;rw[i1]at af;cases af;exact mB
  ·exact V.et x dg (key x dg B af) dx
def Fh(U:ai):Prop:=(∀c n,U≠ .cells c n .jO)/\(∀c n k,U≠ .cells c n (.grow k))
def cV.alone(V:cV C J Y h j bj w){b:Nat}{cN:ai}(ah:C.bf<=b)(aI:Y b)(gw:Z C h b=some cN)(aB:Fh cN):
 ∀x dg,x≠b->Z C h x=some dg->Y x->(J x).cr=(J b).cr->False:=by
 intro x dg cK af dx e0
 rcases(V.sep b x cN dg gw af aI dx (λal=>cK al.symm) ah e0.symm).1 with ⟨c,n,_,_,al,_⟩|⟨c,n,k,_,_,al,_⟩|⟨_,_,_,c,n,_,al,_⟩
 ·exact aB.1 _ _ al
 ·exact aB.2 _ _ _ al
 ·exact aB.1 _ _ al
end
end Go.bn

namespace Go.bn
open Go.RowKit (Below)
section
variable{C:aK}{J c6:c1}{Y dr:Nat->Prop}{h R:S ai}{j ap bj:Nat}{w bE:World}
def uO(w:World)(U:Obj):(w.alloc U).heap[w.heap.size]? =some U:=by
 show(w.heap.push U)[w.heap.size]? =_
 simp
def ll(J:c1)(b:Nat)(pl:mq):gh J b pl b=pl:=by unfold gh;rw[Zq rfl]
def qG{b:Nat}{pl:mq}(aM:¬Y b):∀x,Y x->gh J b pl x=J x:=λx af=>by
 unfold gh;rw[Zg];intro B;subst B;exact aM af
def jH(J:c1)(k:List z):(bK J k).length=k.length:=by rw[px,Zl]
def AK(J:c1)(k:List z)(i:Nat):(bK J k)[i]? =(k[i]?).map (aF J):=by rw[px,Zv]
def CD(J:c1)(E b:List z):bK J (E++b)=bK J E++bK J b:=by simp[px]
def AX{E b:List z}(aB:d0 Y E)(ah:d0 Y b):d0 Y (E++b):=by
 rw[tp]at*
 intro v bo
 rcases Zx.1 bo with a|a
 ·exact aB v a
 ·exact ah v a
def AY{k:List z}(a:d0 Y k){i:Nat}{v:z}(bo:k[i]? =some v):b7 Y v:=(tp Y k).1 a v (Zn bo)
def mg(k:List z)(i:Nat):(S.ofList k 0 .nil).get i=k[i]? :=by
 rw[S.MG]
 split
 ·simp
 ·rename_i a
  have:k.length<=i:=Zo
  rw[ZX this];rfl
def L4{k:List z}(g:d0 Y k)(ty:TypeId)(r:Nat)(w:World):jU C J Y (.cells (S.ofList k 0 .nil) k.length .own) ⟨w.heap.size,0,r⟩ (w.alloc (.cells (bK J k).toArray ty)):=by
 refine⟨_,ty,0,0,uO _ _,rfl,by simp[jH],λi v bo=> ?_⟩
 rw[mg]at bo
 refine⟨?_,AY g bo⟩
 simp only[ZF,YW,AK,bo,ZK]
def Ex(n:Nat)(aG:List z):(jD n aG).length=n*aG.length:=by
 induction n with
 |zero=>simp[jD]
 |succ n ag=>simp[jD,ag,Nat.succ_mul,Nat.add_comm]
def axE(aG:List z):∀(n i:Nat),i<n*aG.length->(jD n aG)[i]? =aG[i%aG.length]? :=by
 intro n
 induction n with
 |zero=>intro i a;omega
 |succ n ag=>
  intro i a
  simp only[jD]
  rw[Nat.succ_mul]at a
  by_cases aA:i<aG.length
  ·rw[ZO aA,YI aA]
  ·rw[ZG Zo,ag _ Zo]
   congr 1
   exact(Nat.mod_eq_sub_mod Zo).symm
def MJ{aG:List z}(a:d0 Y aG):∀n,d0 Y (jD n aG):=by
 intro n
 induction n with
 |zero=>trivial
 |succ n ag=>exact AX a ag
def af3(J:c1)(aG:List z)(n:Nat):((Array.range (n*aG.length)).map λi=>(bK J aG).toArray[i%aG.length]!)=(bK J (jD n aG)).toArray:=by
 apply YR
 rw[Array.toList_map,Array.toList_range]
 show _=bK J (jD n aG)
 apply Y3
 intro i
 rw[Zv,AK]
 by_cases aA:i<n*aG.length
 ·rw[List.getElem?_range aA,axE aG n i aA]
  have ce:0<aG.length:=by
   rcases Nat.eq_zero_or_pos aG.length with a|a
   ·rw[a]at aA;omega
   ·exact a
  have aZ:i%aG.length<aG.length:=zq _ ce
  simp only[ZK]
  rw[Ze aZ]
  simp only[ZK,Zf]
  rw[getElem!_pos _ _ (by simpa[jH]using aZ)]
  simp[px]
 ·have H:(List.range (n*aG.length))[i]? =none:=ZX (by simp;omega)
  have K:(jD n aG)[i]? =none:=ZX (by rw[Ex];omega)
  rw[H,K];rfl
def af4(J:c1)(aG:List z)(s n:Nat)(ce:aG.length=s)(zero:Array Value)(a8:n*s≠0->zero=(bK J aG).toArray):
 ((Array.range (n*s)).map (zero[·%zero.size]!))=(bK J (jD n aG)).toArray:=by
 subst ce
 by_cases a:n*aG.length=0
 ·have H:jD n aG=[]:=YO.1 (by rw[Ex];exact a)
  rw[a,H];simp[bK]
 ·rw[a8 a, <-af3]
  simp[jH]
def aeX{oper:Oper}{au:Operand->Value}{ed:Operand->Option z}{b:Nat}{v:z}{cN:ai}(aM:¬Y b)(ct:jc J Y au ed oper.op.operands.toList)
 (a:p1 oper.op C ed b=some (v,cN)):∃U,(execOp au oper).run C.P w= .ok (.value (aF (gh J b ⟨w.heap.size,0,0⟩) v)) (w.alloc U)/\b7 (add Y b) v/\
  jU C (gh J b ⟨w.heap.size,0,0⟩) (add Y b) cN ⟨w.heap.size,0,0⟩ (w.alloc U):=by
 have dB:=qG (J:=J) (pl:=⟨w.heap.size,0,0⟩) aM
 have gv:∀x,Y x->add Y b x:=λ_ a=> .inl a
 obtain⟨dst,op,type,pos,after,guard⟩:=oper
 cases op<;>simp only[p1]at a<;>(try(cases a;done))<;>simp only[execOp]<;>simp only[Op.operands]at ct
 case alloc t=>
  unfold D1 at a
  split at a
  ·rename_i aG ce
   simp at a;obtain⟨rfl,rfl⟩:=a
   obtain⟨fD,fE⟩:=yY ce J Y w
   refine⟨.cells (bK J aG.cells).toArray t, ?_, .inr rfl, ?_⟩
   ·simp[Instr.alloc,fD,newVar,newRow,uo,aF,ll]
   ·have:=L4 (C:=C) (J:=gh J b ⟨w.heap.size,0,0⟩) (Y:=add Y b) (qZ gv _ (te fE)) t 0 w
    rw[xG dB (te fE)]at this
    exact this
  ·simp at a
 case box t x=>
  unfold Ku at a
  split at a
  ·rename_i ac aX
   simp at a;obtain⟨rfl,rfl⟩:=a
   obtain⟨H,K⟩:=ct x Zs ac aX
   refine⟨.cells (bK J ac.cells).toArray t, ?_, .inr rfl, ?_⟩
   ·simp[Instr.box,newVar,newRow,H,uo,aF,ll]
   ·have:=L4 (C:=C) (J:=gh J b ⟨w.heap.size,0,0⟩) (Y:=add Y b) (qZ gv _ (te K)) t 0 w
    rw[xG dB (te K)]at this
    exact this
  ·simp at a
 case buildSlice t len j9=>
  unfold Kv at a
  split at a
  ·rename_i dO df aX S3
   split at a
   ·rename_i s aG aD ce
    simp only[d6,Zp]at a
    obtain⟨⟨H,K⟩,a⟩:=a
    have H:len*s<=16777216:=iV H
    have K:aG.cells.length=s:=Zj K
    split at a
    ·rename_i cs hJ
     simp at a;obtain⟨rfl,rfl⟩:=a
     obtain⟨fD,fE⟩:=yY ce J Y w
     obtain⟨e7,hh⟩:=aaO (by simpa using ct) S3
     obtain⟨ef,ev⟩:=Rd (J:=J) (KN:=λi=>some (i*s,s)) (λ_ _ a=>a) df (jD len aG.cells) cs (MJ (te fE) len) hh hJ
     refine⟨.cells (bK J cs).toArray dO, ?_, .inr rfl, ?_⟩
     ·have B:(j9.map λx=>(x.1,au x.2)).toList=df.map λx=>(x.1,aF J x.2):=by rw[<-e7];simp
      have gV:¬(len*s>2^24):=by
       have:(2:Nat)^24=16777216:=by decide
       omega
      have b8:Instr.fill (λi=>some (i*s,s)) ((Array.range (len*s)).map ((if len*s=0 then #[]else(aF J aG).cells)[·%(if len*s=0 then #[]else(aF J aG).cells).size]!)) (j9.map λx=>(x.1,au x.2)).toList=some (bK J cs).toArray:=by
       rw[af4 J aG.cells s len K _ (λcK=>by rw[Zg cK,uo]),B]
       exact ef
      simp only[Instr.buildSlice,Sem.run_bind,run_underlying aX,Result.andThen_ok,ng aD]
      rw[Zg gV]
      by_cases a8:len*s=0
      ·rw[Zq a8]at b8
       simp only[Zq a8,Sem.run_bind,Sem.run_pure,Result.andThen_ok,b8]
       simp[newRow,aF,ll]
      ·simp only[Zg a8]at b8
       simp only[Zg a8,Sem.run_bind,Sem.run_pure,Result.andThen_ok,fD,b8]
       simp[newRow,aF,ll]
     ·have:=L4 (C:=C) (J:=gh J b ⟨w.heap.size,0,0⟩) (Y:=add Y b) (qZ gv _ ev) dO 0 w
      rw[xG dB ev]at this
      exact this
    ·simp at a
   ·simp at a
  ·simp at a
 case makeMap t r=>
  cases r with
  |some r=>simp[p1]at a
  |none=>
   simp[p1]at a;obtain⟨rfl,rfl⟩:=a
   refine⟨.map #[] 0, ?_, .inr rfl, ?_⟩
   ·simp[Instr.makeMap,aF,ll]
   ·exact⟨#[],uO _ _,rfl,Zs⟩
end
end Go.bn

namespace Go.bn
open Go.RowKit (Below)
section
variable{C:aK}{J c6:c1}{Y dr:Nat->Prop}{h R:S ai}{j ap bj:Nat}{w bE:World}
def jF:Array Value->Nat->List Value->Array Value
 |c,_,[]=>c
 |c,U,v::k=>jF (c.setIfInBounds U v) (U+1) k
def w4:∀(k:List Value) (c:Array Value) (U:Nat),(jF c U k).size=c.size:=by
 intro k
 induction k with
 |nil=>intro c U;rfl
 |cons v k ag=>intro c U;simp[jF,ag]
def O9:∀(k:List Value) (c:Array Value) (U i:Nat),U+k.length<=c.size->(jF c U k)[i]? =if U<=i/\i<U+k.length then k[i-U]? else c[i]? :=by
 intro k
 induction k with
 |nil=>intro c U i _;rw[Zg (by simp only[ZY];omega)];rfl
 |cons v k ag=>
  intro c U i a
  simp only[ZD]at a
  simp only[jF]
  rw[ag _ _ _ (by simp;omega)]
  by_cases B:i=U
  ·subst B
   rw[Zg Zo,Zq Zs]
   have cS:i<c.size:=Zo
   simp[cS]
  ·by_cases al:U+1<=i/\i<U+1+k.length
   ·rw[Zq al,Zq (by simp;omega),show i-U=(i-(U+1))+1 by omega,ZT]
   ·rw[Zg al,Zg (by simp only[ZD];omega),Array.getElem?_setIfInBounds_ne (λa=>B a.symm)]
def O6(P:Program)(g U:Nat)(t:TypeId)(bC aA:Nat):∀(aY:List Value) (i:Nat) (lQ:Array Value) (w:World),w.heap[g]? =some (.cells lQ t (bC,aA))->(aA<=bC\/lQ.size<=bC)->
 U+i+aY.length<=lQ.size->(∀v∈aY,v.oneCell'=true)->(storeCells ⟨g,U,none⟩ aY i).run P w= .ok () (w.setRow g (jF lQ (U+i) aY)):=by
 intro aY
 induction aY with
 |nil=>
  intro i lQ w bS _ _ _
  simp only[storeCells,jF]
  rw[setRow_self w g lQ t _ bS];rfl
 |cons v aY ag=>
  intro i lQ w bS b8 aw H
  simp only[ZD]at aw
  have cS:U+i<lQ.size:=Zo
  have I8:(⟨g,U,none⟩:Addr).add i=⟨g,U+i,none⟩:=qN _ _ _
  have oh:w.cell? ⟨g,U+i,none⟩=some lQ[U+i]:=by simp[World.cell?,bS,cS]
  have aq5:w.frozen? ⟨g,U+i,none⟩=false:=by
   simp only[World.frozen?,bS,Bool.and_eq_false_iff,Zc]
   omega
  have cX:(store ((⟨g,U,none⟩:Addr).add i) v).run P w= .ok () (w.setRow g (lQ.setIfInBounds (U+i) v)):=by
   rw[I8,run_store P w _ v _ (H v Zs),oh]
   simp[aq5,setCell_eq_setRow w g (U+i) lQ t _ v bS]
  have:=ag (i+1) (lQ.setIfInBounds (U+i) v) (w.setRow g (lQ.setIfInBounds (U+i) v)) (setRow_heap w g lQ _ t _ bS) (by simpa using b8) (by simp;omega) (λx af=>H x (by simp[af]))
  simp only[storeCells,Sem.run_bind,cX,Result.andThen_ok,this,setRow_setRow,jF]
  rfl
def Qq{p:Nat}(eX:bj<=p)(cs:Array Value)(w:World):Below bj w (w.setRow p cs):=
 ⟨rfl,rfl,rfl,by simp[World.setRow],λo aC=>setRow_other w p o cs Zo⟩
def Uy:∀{aY:List z},hZ aY=true->∀v∈bK J aY,v.oneCell'=true:=by
 intro aY
 induction aY with
 |nil=>intro _ v bo;simp[bK]at bo
 |cons E k ag=>
  intro a v bo
  simp only[hZ,Zp]at a
  simp only[bK,Zr]at bo
  rcases bo with rfl|bo
  ·cases E<;>simp[oA]at a<;>rfl
  ·exact ag a.2 v bo
def aha{c:S z}{bU:Array Value}{dH U n:Nat}{aY:List z}(bS:d0 Y aY)(aS:U+aY.length<=n)(aM:dH+n<=bU.size)
 (a:∀i v,c.get i=some v->bU[dH+i]? =some (aF J v)/\b7 Y v):
 ∀i v,(dM c U aY).get i=some v->(jF bU (dH+U) (bK J aY))[dH+i]? =some (aF J v)/\b7 Y v:=by
 intro i v bo
 rw[VE,S.MG]at bo
 rw[O9 _ _ _ _ (by rw[jH];omega),jH]
 split at bo
 ·rename_i aA
  rw[Zq Zo,AK,show dH+i-(dH+U)=i-U by omega,bo]
  exact⟨rfl,AY bS bo⟩
 ·rename_i aA
  rw[Zg Zo]
  exact a i v bo
def Px{c:S z}{U n:Nat}{aY:List z}(aS:U+aY.length<=n)(a:∀i v,c.get i=some v->i<n):∀i v,(dM c U aY).get i=some v->i<n:=by
 intro i v bo
 rw[VE,S.MG]at bo
 split at bo
 ·omega
 ·exact a i v bo
def Hg{k:List z}:∀i v,(S.ofList k 0 .nil).get i=some v->i<k.length:=by
 intro i v bo
 rw[mg]at bo
 exact(Zb.1 bo).1
def Fx(V:cV C J Y h j bj w){cJ b U:Nat}{aY:List z}(aI:Y b)(bS:d0 Y aY)(a:lJ C h b U aY=some R):
 ∃bE,(storeCells ⟨(J b).cr,(J b).dH+U,none⟩ (bK J aY)).run C.P w= .ok () bE/\cV C J Y R j bj bE/\hF C cJ J Y h bj w J Y R bE:=by
 unfold lJ at a
 split at a
 ·rename_i c n st aS
  simp only[d6,Zp]at a
  obtain⟨⟨⟨H,K⟩,ak⟩,a⟩:=a
  have H:U+aY.length<=n:=iV H
  have ah:C.bf<=b:=iV K
  obtain⟨bU,ty,bC,aA,bd,ca,a3,a4⟩:=V.obj b _ aS aI
  have kS:st≠ .jO:=λB=>(by subst B;simp at a)
  refine⟨w.setRow (J b).cr (jF bU ((J b).dH+U) (bK J aY)), ?_, ?_⟩
  ·exact O6 C.P _ _ ty bC aA (bK J aY) 0 bU w bd (ca.free kS) (by rw[jH];omega) (Uy ak)
  have gg:=setRow_heap w (J b).cr bU (jF bU ((J b).dH+U) (bK J aY)) ty (bC,aA) bd
  have A5:=V.base b _ ah aS aI
  have wo:Below bj w (w.setRow (J b).cr (jF bU ((J b).dH+U) (bK J aY))):=Qq A5 _ _
  have ade:∀o,o≠(J b).cr->(w.setRow (J b).cr (jF bU ((J b).dH+U) (bK J aY))).heap[o]? =w.heap[o]? :=λo aC=>setRow_other w _ o _ aC
  have fin:∀ic,Fq ic n (J b) bU.size bC aA->jU C J Y (.cells (dM c U aY) n ic) (J b) (w.setRow (J b).cr (jF bU ((J b).dH+U) (bK J aY))):=by
   intro ic cX
   refine⟨_,ty,bC,aA,gg,by rw[w4];exact cX,by rw[w4];exact a3,aha bS H a3 a4⟩
  have plain:∀ic,Fh (.cells c n st)->Fq ic n (J b) bU.size bC aA->(∀k,ic≠ .grow k)->R=bp C h b (some (.cells (dM c U aY) n ic))->
   cV C J Y R j bj (w.setRow (J b).cr (jF bU ((J b).dH+U) (bK J aY)))/\hF C cJ J Y h bj w J Y R (w.setRow (J b).cr (jF bU ((J b).dH+U) (bK J aY))):=by
   intro ic wm cX JD i1
   subst i1
   have m4:Z C (bp C h b (some (.cells (dM c U aY) n ic))) b=some (.cells (dM c U aY) n ic):=by rw[e9 _ ah,Zq rfl]
   have iL:∀x,x≠b->Z C (bp C h b (some (.cells (dM c U aY) n ic))) x=Z C h x:=λx af=>by rw[e9 _ ah,Zg af]
   refine⟨V.put ah aI aS m4 (λx af=> .inl (iL x af)) ade ?_ (fin ic cX) ⟨λgp aP k aw=>(by cases aw;exact absurd rfl (JD _)),λgp aP ayR aw=>(by cases aw;exact Px H ((V.et b _ aS aI).2 _ _ _ rfl))⟩, ?_⟩
   ·intro x dg cK af dx e0
    rw[iL x cK]at af
    exact V.alone ah aI aS wm x dg cK af dx e0
   ·exact⟨λ_ _=>rfl,λ_ a=>a,λ_ a=> .inl a,λx af _=>iL x (λB=>af (B▸aI)),wo⟩
  cases st with
  |own=>
   simp only[gS,Zf]at a
   exact plain .own ⟨Zs,Zs⟩ ca Zs a.symm
  |marked=>
   simp only[gS,Zf]at a
   exact plain .marked ⟨Zs,Zs⟩ ca Zs a.symm
  |grow et=>
   simp only[gS,Zf]at a
   have mB:=(V.et b _ aS aI).1 _ _ _ rfl
   subst a
   have m4:Z C (bp C (l1 C et h) b (some (.cells (dM c U aY) n (.grow [])))) b=some (.cells (dM c U aY) n (.grow [])):=by rw[e9 _ ah,Zq rfl]
   have iL:∀x,x≠b->Z C (bp C (l1 C et h) b (some (.cells (dM c U aY) n (.grow [])))) x=if x∈et then none else Z C h x:=λx af=>by
    rw[e9 _ ah,Zg af,acy _ _ _ λe D=>(mB e D).2]
   refine⟨V.put ah aI aS m4 (λx af=> ?_) ade ?_ (fin (.grow []) ca) ⟨λgp aP k aw=>(by cases aw;simp),λgp aP ayR aw=>(by cases aw;exact Px H ((V.et b _ aS aI).2 _ _ _ rfl))⟩, ?_⟩
   ·rw[iL x af];split
    ·exact .inr rfl
    ·exact .inl rfl
   ·intro x dg cK af dx e0
    rw[iL x cK]at af
    split at af
    ·cases af
    ·rename_i SR
     rcases(V.sep b x _ dg aS af aI dx (λal=>cK al.symm) ah e0.symm).1 with ⟨_,_,_,_,al,_⟩|⟨_,_,k,_,_,al,_,aw,_⟩|⟨_,_,_,_,_,_,al,_⟩
     ·cases al
     ·cases al;exact SR aw
     ·cases al
   ·exact⟨λ_ _=>rfl,λ_ a=>a,λ_ a=> .inl a,λx af _=>by
     rw[iL x (λB=>af (B▸aI)),Zg (λaZ=>af (mB x aZ).1)],wo⟩
  |jO=>simp at a
 ·simp at a
end
end Go.bn

namespace Go.bn
open Go.RowKit (Below)
def Ah(C:aK)(J:c1)(Y:Nat->Prop)(h:S ai)(j bj:Nat)(w:World)(s:Sem Next)(v:z)(R:S ai)(ap:Nat):Prop:=
 ∃c6 dr bE n,s.run C.P w= .ok n bE/\(n= .value (aF c6 v)\/(n= .skip/\v=undef))/\b7 dr v/\cV C c6 dr R ap bj bE/\hF C j J Y h bj w c6 dr R bE/\j<=ap
section
variable{C:aK}{J c6:c1}{Y dr:Nat->Prop}{h R:S ai}{j ap bj:Nat}{w bE:World}
def putObj(V:cV C J Y h j bj w){cJ b:Nat}{cN lA:ai}{kD o':Obj}(ah:C.bf<=b)(aI:Y b)(gw:Z C h b=some cN)(aB:Fh cN)(a8:w.heap[(J b).cr]? =some kD)
 (ar0:∀c B f,kD≠ .cells c B f)(aS:∀bE:World,bE.heap[(J b).cr]? =some o'->jU C J Y lA (J b) bE)(mB:uh C Y lA):
 ∃bE,(Go.setObj (J b).cr o').run C.P w= .ok () bE/\cV C J Y (bp C h b (some lA)) j bj bE/\hF C cJ J Y h bj w J Y (bp C h b (some lA)) bE:=by
 have lY:(Go.setObj (J b).cr o').run C.P w= .ok () {w with heap:=w.heap.setIfInBounds (J b).cr o'}:=by
  cases kD<;>first
   |exact absurd rfl (ar0 _ _ _)
   |simp[Go.setObj,Sem.run,a8]
 obtain⟨bJ,b2⟩:=MapKept.heap_set (o':=o') a8
 have m4:Z C (bp C h b (some lA)) b=some lA:=by rw[e9 _ ah,Zq rfl]
 have iL:∀x,x≠b->Z C (bp C h b (some lA)) x=Z C h x:=λx af=>by rw[e9 _ ah,Zg af]
 have A5:=V.base b _ ah gw aI
 refine⟨_,lY,V.put ah aI gw m4 (λx af=> .inl (iL x af)) (λo aC=>b2 o aC) ?_ (aS _ bJ) mB, ?_⟩
 ·intro x dg cK af dx e0
  rw[iL x cK]at af
  exact V.alone ah aI gw aB x dg cK af dx e0
 ·exact⟨λ_ _=>rfl,λ_ a=>a,λ_ a=> .inl a,λx af _=>iL x (λB=>af (B▸aI)),rfl,rfl,rfl,Zs,λo aC=>b2 o Zo⟩
def y1{r:Nat}{U:ai}{v:z}{res:dL}(a:setObj C h j r U v=some res):res= .e2 v (bp C h r (some U)) j/\C.bf<=r:=by
 unfold setObj at a
 simp only[gS,d6,Zf]at a
 exact⟨a.2.symm,iV a.1⟩
def Et(V:cV C J Y h j bj w){cJ r:Nat}{a1 jX:List (z×z×Nat)}{dn vU:Nat}{AA:Array MapEntry}(ah:C.bf<=r)(aI:Y r)(aS:Z C h r=some (.map a1 dn))
 (aB:AA.toList=jX.map (fz J))(bS:∀B∈jX,b7 Y B.1/\b7 Y B.2.1):
 ∃bE,(Go.setObj (J r).cr (.map AA vU)).run C.P w= .ok () bE/\cV C J Y (bp C h r (some (.map jX vU))) j bj bE/\hF C cJ J Y h bj w J Y (bp C h r (some (.map jX vU))) bE:=by
 obtain⟨bU,H,_,_⟩:=V.obj r _ aS aI
 exact putObj V ah aI aS ⟨Zs,Zs⟩ H Zs (λbE qr=>⟨AA,qr,aB,bS⟩) ⟨λ_ _ _ a=>(by cases a),λ_ _ _ a=>(by cases a)⟩
def azi(V:cV C J Y h j bj w){s:Nat}{t:TypeId}{E v:z}{res:dL}(aD:iC C t=some s)(iY:b7 Y E)(fo:b7 Y v)(a:Pe C h j s E v=some res):
 ∃R,res= .e2 undef R j/\∀ac:Sem Next,(∀bE,(Instr.storeAt t (aF J E) (aF J v)).run C.P w= .ok () bE->ac.run C.P w= .ok .skip bE)->Ah C J Y h j bj w ac undef R j:=by
 unfold Pe at a
 split at a
 ·rename_i b U
  simp only[d6,Zp]at a
  obtain⟨⟨H,K⟩,a⟩:=a
  have H:v.cells.length=s:=Zj H
  split at a
  ·rename_i R i1
   simp at a
   obtain⟨bE,bJ,b2,cF⟩:=Fx V (cJ:=j) iY (te fo) i1
   refine⟨R,a.symm,λac aX=>⟨J,Y,bE, .skip,aX bE ?_, .inr ⟨rfl,rfl⟩,by trivial,b2,cF,Zh _⟩⟩
   have dW:(aF J v).cells.size=s:=by rw[uo];simp[jH,H]
   simp only[Instr.storeAt,Instr.sureAddr,aF,Sem.run_bind,Sem.run_pure,Result.andThen_ok,storeVar,ng aD,dW,ne_eq,not_true_eq_false,ZA]
   simp only[uo]
   exact bJ
  ·simp at a
 ·simp at a
def aur:∀(n:Nat),(∀(m:Nat) (x e:z),n<=m->b7 Y x->b7 Y e->ov n x e=true->Instr.sameBits m (aF J x) (aF J e)=true)/\
 ∀(m:Nat) (E b:List z),n<=m->d0 Y E->d0 Y b->ov.Bx n E b=true->(bK J E).length=(bK J b).length/\((bK J E).zip (bK J b)).all (λ(x,e)=>Instr.sameBits m x e)=true:=by
 intro n
 induction n with
 |zero=>
  refine⟨λm x e _ _ _ a=>by simp[ov]at a, ?_⟩
  intro m E
  induction E with
  |nil=>intro b _ _ _ a;cases b<;>simp[ov.Bx]at a<;>simp[bK]
  |cons x E _=>intro b _ _ _ a;cases b<;>simp[ov.Bx,ov]at a
 |succ n ag=>
  have one:∀(m:Nat) (x e:z),n+1<=m->b7 Y x->b7 Y e->ov (n+1) x e=true->Instr.sameBits m (aF J x) (aF J e)=true:=by
   intro m x e aZ eE uD a
   obtain⟨m,rfl⟩:∃o,m=o+1:=⟨m-1,Zo⟩
   unfold ov at a
   split at a<;>(try(cases a;done))
   ·simpa[aF,Instr.sameBits]using a
   ·simp at a;obtain⟨rfl,rfl⟩:=a;simp[aF,Instr.sameBits]
   ·rename_i E b
    have:=(KF _ _).1 a
    subst this
    simp only[aF,Instr.sameBits]
    rw[ξ];simp
   ·rename_i b U dw o'
    simp only[Zp]at a
    have H:b=dw:=Zj a.1
    have K:U=o':=Zj a.2
    subst H;subst K
    simp[aF,Instr.sameBits]
   ·simp[aF,Instr.sameBits]
   ·simp[aF,Instr.sameBits]
   ·rename_i t v g8 fd
    simp only[Zp]at a
    have H:t=g8:=Zj a.1
    subst H
    simp[aF,Instr.sameBits,ag.1 m v fd Zo eE uD a.2]
   ·rename_i E b
    obtain⟨bJ,b2⟩:=ag.2 m E b Zo eE uD a
    simp only[aF,Instr.sameBits,Zp,Y8]
    exact⟨by simpa using bJ,by simpa using b2⟩
  refine⟨one, ?_⟩
  intro m E
  induction E with
  |nil=>intro b _ _ _ a;cases b<;>simp[ov.Bx]at a<;>simp[bK]
  |cons x E mE=>
   intro b aZ iY qX a
   cases b with
   |nil=>simp[ov.Bx]at a
   |cons e b=>
    simp only[ov.Bx,Zp]at a
    obtain⟨bJ,b2⟩:=mE b aZ iY.2 qX.2 a.2
    simp only[bK,ZD,List.zip_cons_cons,List.all_cons,Zp]
    exact⟨Zo,one m x e aZ iY.1 qX.1 a.1,b2⟩
def aet{pO new:z}(go:b7 Y pO)(wc:b7 Y new)(a:ov 20 pO new=true):(Instr.keyThatStays (aF J pO) (aF J new)).run C.P w= .ok (aF J new) w:=by
 simp[Instr.keyThatStays,(aur (J:=J) (Y:=Y) 20).1 10000 pO new Zd go wc a]
def Q6{bU:Array MapEntry}{a1:List (z×z×Nat)}{i:Nat}{B:z×z×Nat}(aB:bU.toList=a1.map (fz J))(a:a1[i]? =some B):bU[i]? =some (fz J B):=by
 rw[<-ZM,aB,Zv,a];rfl
def Un{bU:Array MapEntry}{a1:List (z×z×Nat)}{i:Nat}{B fy:z×z×Nat}(f:MapEntry->MapEntry)(aB:bU.toList=a1.map (fz J))(a:a1[i]? =some B)
 (b8:f (fz J B)=fz J fy):(bU.modify i f).toList=(a1.set i fy).map (fz J):=by
 apply Y3
 intro W
 rw[ZM,YX,Zv,YD]
 have cS:i<a1.length:=(Zb.1 a).1
 by_cases B:i=W
 ·subst B
  rw[Zq rfl,Zq rfl,Zq cS,Q6 aB a]
  simp[b8]
 ·rw[Zg B,Zg B, <-ZM,aB,Zv]
def RA{a1:List (z×z×Nat)}{i:Nat}{fy:z×z×Nat}(bS:∀B∈a1,b7 Y B.1/\b7 Y B.2.1)(a7:b7 Y fy.1/\b7 Y fy.2.1):∀B∈a1.set i fy,b7 Y B.1/\b7 Y B.2.1:=by
 intro B a
 rcases List.mem_or_eq_of_mem_set a with a|a
 ·exact bS B a
 ·rw[a];exact a7
def alc(V:cV C J Y h j bj w){t:Nat}{m o v:z}{res:dL}(nD:b7 Y m)(j0:b7 Y o)(fo:b7 Y v)(a:H6 C h j t m o v=some res):
 ∃R bE,res= .e2 undef R j/\(Instr.mapUpdate t (aF J m) (aF J o) (aF J v)).run C.P w= .ok () bE/\cV C J Y R j bj bE/\hF C j J Y h bj w J Y R bE:=by
 unfold H6 at a
 split at a
 ·rename_i hx ti r aX
  split at a
  ·rename_i a1 dn aS
   simp only[d6]at a
   obtain⟨aC,a⟩:=a
   obtain⟨eY,m3⟩:=Oe aC
   obtain⟨bU,bd,ca,a3,a4⟩:=sL V nD aS
   have H:=LL (C:=C) (J:=J) (Y:=Y) (w:=w) (B:=false) 20 10000 hx o Zd j0 aC
   split at a
   ·rename_i i ac b8
    have K:=CP V m3 j0 a4 b8
    obtain⟨_,B,a7,rfl⟩:=Mx a1 0 i ac b8
    simp only[Y5]at a7
    rw[pN,a7]at a
    obtain⟨eA,fd,born⟩:=B
    simp only[d6]at a
    obtain⟨Nr,a⟩:=a
    obtain⟨rfl,ah⟩:=y1 a
    have bS:=a4 _ (Zn a7)
    obtain⟨bE,bJ,b2,cF⟩:=Et V (cJ:=j) ah nD aS (vU:=dn) (jX:=a1.set i (o,v,born)) (Un (λB=>{B with key:=aF J o,val:=aF J v}) a3 a7 rfl) (RA a4 ⟨j0,fo⟩)
    refine⟨_,bE,rfl, ?_,b2,cF⟩
    simp[Instr.mapUpdate,run_underlying aX,aF,bd,H,a3,K,p3,Q6 a3 a7,fz,aet bS.1 j0 Nr,bJ]
   ·rename_i b8
    have K:=CP V m3 j0 a4 b8
    obtain⟨rfl,ah⟩:=y1 a
    obtain⟨bE,bJ,b2,cF⟩:=Et V (cJ:=j) ah nD aS (vU:=dn+1) (jX:=a1++[(o,v,dn)]) (AA:=bU.push {key:=aF J o,val:=aF J v,born:=dn}) (by simp[a3,fz])
     (λB a7=>(Zx.1 a7).elim (a4 B) (λa7=>by simp at a7;subst a7;exact⟨j0,fo⟩))
    refine⟨_,bE,rfl, ?_,b2,cF⟩
    simp[Instr.mapUpdate,run_underlying aX,aF,bd,H,a3,K,p3,bJ]
   ·simp at a
  ·simp at a
 ·simp at a
end
end Go.bn

