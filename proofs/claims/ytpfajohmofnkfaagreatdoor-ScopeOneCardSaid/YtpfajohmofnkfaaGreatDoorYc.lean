/- A part of the proof of the claim's last text: what it is used for is said there; no condition of its own. -/
import Derived.Test.YtpfajohmofnkfaaGreatDoorYb
import Derived.Laws.NewFold
import Derived.Laws.CopyRow
set_option maxHeartbeats 8000000
set_option linter.unusedVariables false
set_option linter.unusedSimpArgs false
namespace Go.al
open Go.RowKit (Below)
section
variable{C:aX}{K:cY}{Z:Nat->Prop}{h:U an}{k bg:Nat}{w:World}
theorem arJ{α:Type}{P:Program}(f:α->PUnit->Sem (ForInStep PUnit)):∀(l:List α),(∀I∈l,(f I ⟨⟩).run P w= .ok (.yield ⟨⟩) w)->(forIn l PUnit.unit f).run P w= .ok ⟨⟩ w:=by
 intro l
 induction l with
 |nil=>intro _;simp[Sem.run_pure]
 |cons I l ah=>intro a;simp[List.forIn_cons,a I Zs,ah λb ai=>a b (by simp[ai])]
theorem Jl{E:Bool}:∀(n m t:Nat) (v:H),n<=m->b0 Z v->lP C n t v=true->(Instr.checkKey E m t (aD K v)).run C.P w= .ok () w:=by
 intro n
 induction n with
 |zero=>intro m t v _ _ a;simp[lP]at a
 |succ n ah=>
  intro m t v bi bu a
  obtain⟨m,rfl⟩:∃B,m=B+1:=⟨m-1,Zo⟩
  unfold lP at a
  split at a
  ·rename_i h7 d x aZ
   split at a
   ·rename_i i aN
    simp only[Zk]at a
    have:=ah m d x Zo bu a.2
    simp[Instr.checkKey,run_underlying aZ,aD,typeInfo,aN,a.1,this]
   ·simp at a
  ·rename_i aZ;simp[Instr.checkKey,run_underlying aZ,aD]
  ·simp at a
  ·rename_i ju cs aZ
   simp only[Instr.checkKey,Sem.run_bind,run_underlying aZ,Result.andThen_ok,aD]
   rw[<-Array.forIn_toList]
   refine(congrArg (λr=>Result.andThen r _) (arJ _ _ ?_)).trans rfl
   intro f b5
   have:=List.all_eq_true.1 a f b5
   simp only[YN,YZ]at this
   by_cases aS:f.name= "_"
   ·simp[aS]
   ·rcases this with M|M
    ·exact absurd M aS
    ·split at M
     ·rename_i p ax
      obtain⟨fe,hg⟩:=FY (K:=K) (w:=w) bu ax
      simp[aS,fe,ah m f.type p Zo hg M]
     ·simp at M
  ·simp at a
  ·simp at a
  ·rename_i d aQ bp bw aZ cA eo ew
   simp only[Instr.checkKey,Sem.run_bind,run_underlying aZ,Result.andThen_ok]
   cases d<;>first
    |exact(aQ _ rfl).elim
    |exact(bp _ rfl).elim
    |exact(bw _ _ rfl).elim
    |rfl
  ·simp at a
theorem UZ{x:H}{B:IntKind}{I:Int}(a:aD K x= .int B I):x= .int B I:=by
 cases x<;>simp[aD]at a
 obtain⟨rfl,rfl⟩:=a;rfl
theorem UX{x:H}{I:Bool}(a:aD K x= .bool I):x= .bool I:=by
 cases x<;>simp[aD]at a
 subst a;rfl
theorem U0{x:H}{I:ByteArray}(a:aD K x= .string I):∃s,x= .str s/\I=fd s:=by
 cases x<;>simp[aD]at a
 exact⟨_,rfl,a.symm⟩
theorem UP(I b:ByteArray):(I==b)=(I.toList==b.toList):=by
 show(I.data==b.data)=_
 rw[ZY,YZ,YZ,ByteArray.toList_eq,ByteArray.toList_eq]
 exact⟨λa=>by rw[a],λa=>Array.toList_inj.1 a⟩
theorem abW{d t:Nat}{eE:TypeDesc}{x j:H}{r hq:Bool}(aZ:C.P.underlying t=some eE)(ek:b0 Z x)(tK:b0 Z j)
 (a:mN C h d t x j=some r)(cv:Instr.sameNow eE (aD K x) (aD K j)=some hq):r=hq:=by
 cases d with
 |zero=>simp[mN]at a
 |succ d=>
  unfold Instr.sameNow at cv
  split at cv
  ·rename_i dx B I eA b ag T
   rw[UZ ag,UZ T]at a
   simp[mN,aZ]at a
   split at cv
   ·simp at cv;rw[<-cv, <-a.2];rfl
   ·simp at cv
  ·rename_i I b ag T
   obtain⟨s,rfl,rfl⟩:=U0 ag
   obtain⟨fZ,rfl,rfl⟩:=U0 T
   simp[mN,aZ]at a
   simp at cv
   rw[<-cv, <-a,UP,RK ek tK]
  ·rename_i I b ag T
   rw[UX ag,UX T]at a
   simp[mN,aZ]at a
   simp at cv;rw[<-cv, <-a]
  ·simp at cv
def po(K:cY)(r:Option (Nat×H)):Option (Nat×Value):=r.map λx=>(x.1,aD K x.2)
theorem aje{t:Nat}{eE:TypeDesc}{B:H}(aZ:C.P.underlying t=some eE)(jw:b0 Z B):∀(a2:List (H×H×Nat)) (i:Nat) (r:Option (Nat×H)) (hq:Option (Nat×Value)),
 (∀E∈a2,b0 Z E.1/\b0 Z E.2.1)->findKey C h t B a2 i=some r->Instr.findNow eE (aD K B) (a2.map (fo K)) i=some hq->hq=po K r:=by
 intro a2
 induction a2 with
 |nil=>intro i r hq _ a cv;simp[findKey]at a;simp[Instr.findNow]at cv;subst a;subst cv;rfl
 |cons E a2 ah=>
  intro i r hq bV a cv
  obtain⟨eA,v,b⟩:=E
  simp only[findKey]at a
  simp only[Zy,Instr.findNow,fo]at cv
  split at a
  ·rename_i aW
   simp at a;subst a
   split at cv
   ·simp at cv;rw[<-cv];rfl
   ·rename_i aH
    have:=abW aZ jw (bV (eA,v,b) (Zq ..)).1 aW aH
    simp at this
   ·simp at cv
  ·rename_i aW
   split at cv
   ·rename_i aH
    have:=abW aZ jw (bV (eA,v,b) (Zq ..)).1 aW aH
    simp at this
   ·exact ah _ _ _ (λE aW=>bV E (by simp[aW])) a cv
   ·simp at cv
  ·simp at a
theorem ajc(S:cS C K Z h k bg w){t:Nat}{B:H}(jw:b0 Z B):∀(a2:List (H×H×Nat)) (i:Nat) (r:Option (Nat×H)),
 (∀E∈a2,b0 Z E.1/\b0 Z E.2.1)->findKey C h t B a2 i=some r->(Instr.findAsking t (aD K B) (a2.map (fo K)) i).run C.P w= .ok (po K r) w:=by
 intro a2
 induction a2 with
 |nil=>intro i r _ a;simp[findKey]at a;subst a;simp[Instr.findAsking,po]
 |cons E a2 ah=>
  intro i r bV a
  obtain⟨eA,v,b⟩:=E
  simp only[findKey]at a
  have bi:20<=Op.maxDepth:=by decide
  split at a
  ·rename_i aW
   simp at a;subst a
   have:=Ng S 20 _ t B eA true bi jw (bV (eA,v,b) (Zq ..)).1 aW
   simp[Instr.findAsking,Op.equal,fo,this,po]
  ·rename_i aW
   have:=Ng S 20 _ t B eA false bi jw (bV (eA,v,b) (Zq ..)).1 aW
   simp[Instr.findAsking,Op.equal,fo,this]
   exact ah _ _ (λE aW=>bV E (by simp[aW])) a
  ·simp at a
theorem Bx(S:cS C K Z h k bg w){t:Nat}{eE:TypeDesc}{B:H}{a2:List (H×H×Nat)}{r:Option (Nat×H)}(aZ:C.P.underlying t=some eE)(jw:b0 Z B)
 (bV:∀E∈a2,b0 Z E.1/\b0 Z E.2.1)(a:findKey C h t B a2 0=some r):(Instr.findKey t (aD K B) (a2.map (fo K))).run C.P w= .ok (po K r) w:=by
 simp only[Instr.findKey,Sem.run_bind,run_underlying aZ,Result.andThen_ok]
 split
 ·rename_i hq cv
  rw[aje aZ jw a2 0 r hq bV a cv];rfl
 ·exact ajc S jw a2 0 r bV a
theorem J3{t:Nat}{B:H}:∀(a2:List (H×H×Nat)) (i aa:Nat) (v:H),findKey C h t B a2 i=some (some (aa,v))->i<=aa/\∃E,a2[aa-i]? =some E/\E.2.1=v:=by
 intro a2
 induction a2 with
 |nil=>intro i aa v a;simp[findKey]at a
 |cons E a2 ah=>
  intro i aa v a
  obtain⟨eA,gO,b⟩:=E
  simp only[findKey]at a
  split at a
  ·simp at a
   obtain⟨rfl,rfl⟩:=a
   exact⟨Zj _,(eA,gO,b),Zs,rfl⟩
  ·obtain⟨M,E,R,au⟩:=ah _ _ _ a
   refine⟨Zo,E, ?_,au⟩
   rw[show aa-i=(aa-(i+1))+1 by omega]
   simpa using R
  ·simp at a
theorem Lv{t d:Nat}{B:H}(a:lP C d t B=true):∃eE,C.P.underlying t=some eE:=by
 cases d with
 |zero=>simp[lP]at a
 |succ d=>
  cases aZ:C.P.underlying t with
  |none=>simp[lP,aZ]at a
  |some eE=>exact⟨eE,rfl⟩
theorem rO(S:cS C K Z h k bg w){r:Nat}{a2:List (H×H×Nat)}{cw:Nat}(aI:Z r)(a:ab C h r=some (.map a2 cw)):
 ∃bU,(getObj (K r).cq).run C.P w= .ok (.map bU cw) w/\w.heap[(K r).cq]? =some (.map bU cw)/\bU.toList=a2.map (fo K)/\∀E∈a2,b0 Z E.1/\b0 Z E.2.1:=by
 obtain⟨bU,M,R,au⟩:=S.obj r _ a aI
 exact⟨bU,MapKept.run_getObj_map M,M,R,au⟩
theorem aaB{t:Nat}{B:H}{I b:List (H×H)}(a:I.Perm b):∀r,oe C h t B I=some r->oe C h t B b=some r:=by
 induction a with
 |nil=>exact λ_ a=>a
 |cons x _ ah=>
  obtain⟨eA,v⟩:=x
  intro r a
  simp only[oe]at a ⊢
  split at a
  ·rename_i S aW
   rw[ah _ S,aW];simpa using a
  ·rename_i S aW
   rw[ah _ S,aW];simpa using a
  ·cases a
 |swap x j l=>
  obtain⟨aoq,MC⟩:=x
  obtain⟨Ar,MD⟩:=j
  intro r a
  simp only[oe]at a ⊢
  cases aE:oe C h t B l with
  |none=>simp[aE]at a
  |some i1=>
   simp only[aE]at a
   cases ag:mN C h 20 t B aoq with
   |none=>rw[ag]at a;cases i1<;>simp at a
   |some UO=>
    cases T:mN C h 20 t B Ar with
    |none=>
     rw[ag,T]at a
     cases UO<;>cases i1<;>simp at a
    |some ahp=>
     rw[ag,T]at a
     cases UO<;>cases ahp<;>cases i1<;>simp at a ⊢ <;>exact a
 |trans _ _ Qi HO=>exact λr a=>HO r (Qi r a)
theorem aaA{t:Nat}{B:H}:∀(a2:List (H×H×Nat)) (i:Nat) (r:Option H),oe C h t B (a2.map λE=>(E.1,E.2.1))=some r->∃hq,findKey C h t B a2 i=some hq/\hq.map (·.2)=r:=by
 intro a2
 induction a2 with
 |nil=>intro i r a;simp[oe]at a;subst a;exact⟨none,rfl,rfl⟩
 |cons E a2 ah=>
  obtain⟨eA,gO,b⟩:=E
  intro i r a
  simp only[Zy,oe]at a
  simp only[findKey]
  split at a
  ·rename_i i1 S aW
   simp at a;subst a
   rw[aW]
   exact ah (i+1) _ S
  ·rename_i S aW
   simp at a;subst a
   rw[aW]
   exact⟨some (i,gO),rfl,rfl⟩
  ·cases a
theorem agr(S:cS C K Z h k bg w){t:Nat}{m B v:H}{ok:Bool}(mR:b0 Z m)(jw:b0 Z B)(a:Jn C h t m B ok=some v):
 (Instr.lookup t (aD K m) (aD K B) ok).run C.P w= .ok (aD K v) w/\b0 Z v:=by
 unfold Jn at a
 split at a
 ·rename_i hd su aZ
  have key:∀(a2:List (H×H×Nat)) (bU:Array MapEntry) (r:Option (Nat×H)),bU.toList=a2.map (fo K)->(∀E∈a2,b0 Z E.1/\b0 Z E.2.1)->lP C 20 hd B=true->findKey C h hd B a2 0=some r->
   (match r with|none=>(match qa C su with|some bl=>some (bC ok (.tuple [bl, .bool false]) bl)|none=>none)|some (_,v)=>some (bC ok (.tuple [v, .bool true]) v))=some v->
   (do
    Instr.checkKey bU.isEmpty 10000 hd (aD K B)
    let(v,W)<-match<-Instr.findKey hd (aD K B) bU.toList with
     |some (_,v)=>pure (v,true)
     |none=>pure (<-zeroValue su,false)
    pure (if ok then .tuple #[v, .bool W]else v):Sem Value).run C.P w= .ok (aD K v) w/\b0 Z v:=by
   intro a2 bU r aG bV aP b5 bu
   obtain⟨eE,oW⟩:=Lv aP
   have M:=Jl (C:=C) (K:=K) (Z:=Z) (w:=w) (E:=bU.isEmpty) 20 10000 hd B Zd jw aP
   have R:=Bx S oW jw bV b5
   rw[aG]
   cases r with
   |none=>
    simp only at bu
    split at bu
    ·rename_i bl cj
     obtain⟨fI,fs⟩:=x1 cj K Z w
     simp at bu;subst bu
     cases ok
     ·exact⟨by simp[M,R,po,fI],fs⟩
     ·exact⟨by simp[M,R,po,fI,aD,bI],⟨fs,trivial,trivial⟩⟩
    ·simp at bu
   |some p=>
    obtain⟨aa,ad⟩:=p
    simp at bu;subst bu
    obtain⟨_,E,aW,rfl⟩:=J3 a2 0 aa ad b5
    have Xa:=(bV E (Zp aW)).2
    cases ok
    ·exact⟨by simp[M,R,po],Xa⟩
    ·exact⟨by simp[M,R,po,aD,bI],⟨Xa,trivial,trivial⟩⟩
  split at a
  ·simp at a
  ·rename_i bi
   split at bi
   ·simp only[d9,Ze]at bi
    have:=key [] #[] none rfl Zs bi.1 (by simp[findKey]) a
    refine⟨?_,this.2⟩
    rw[<-this.1]
    simp only[Instr.lookup,Sem.run_bind,run_underlying aZ,Result.andThen_ok,aD,Sem.run_pure]
    rfl
   ·rename_i r
    split at bi
    ·rename_i a2 cw bc
     simp only[d9]at bi
     obtain⟨bU,M,_,R,au⟩:=rO S mR bc
     have:=key a2 bU none R au bi.1 bi.2 a
     refine⟨?_,this.2⟩
     rw[<-this.1]
     simp only[Instr.lookup,Sem.run_bind,run_underlying aZ,Result.andThen_ok,aD,Sem.run_pure,M]
     rfl
    ·rename_i a2 bc
     simp only[d9]at bi
     obtain⟨bU,cw,jt,M,R,aM,au⟩:=S.obj r _ bc mR
     have co:oe C h hd B a2=some none:=by
      have:=bi.2
      unfold EP at this
      split at this<;>simp at this
      all_goals(rename_i ar;first|(rw[ar,this.2])|exact ar|(rw[ar];simp[this]))
     obtain⟨hq,ez,eT⟩:=aaA jt 0 _ (aaB aM.symm _ co)
     cases hq with
     |none=>
      have:=key jt bU none R au bi.1 ez a
      refine⟨?_,this.2⟩
      rw[<-this.1]
      simp only[Instr.lookup,Sem.run_bind,run_underlying aZ,Result.andThen_ok,aD,Sem.run_pure,MapKept.run_getObj_map M]
      rfl
     |some p=>
      obtain⟨fe,hg⟩:=p
      simp at eT
    ·simp at bi
   ·simp at bi
  ·rename_i aa ad bi
   split at bi
   ·simp only[d9]at bi
    simp at bi
   ·rename_i r
    split at bi
    ·rename_i a2 cw bc
     simp only[d9]at bi
     obtain⟨bU,M,_,R,au⟩:=rO S mR bc
     have:=key a2 bU (some (aa,ad)) R au bi.1 bi.2 a
     refine⟨?_,this.2⟩
     rw[<-this.1]
     simp only[Instr.lookup,Sem.run_bind,run_underlying aZ,Result.andThen_ok,aD,Sem.run_pure,M]
     rfl
    ·rename_i a2 bc
     simp only[d9]at bi
     obtain⟨bU,cw,jt,M,R,aM,au⟩:=S.obj r _ bc mR
     have co:oe C h hd B a2=some (some ad):=by
      have:=bi.2
      unfold EP at this
      split at this<;>simp at this
      all_goals(rename_i ar;first|(rw[ar,this.2])|exact ar|(rw[ar];simp[this]))
     obtain⟨hq,ez,eT⟩:=aaA jt 0 _ (aaB aM.symm _ co)
     cases hq with
     |none=>
      simp at eT
     |some p=>
      obtain⟨fe,hg⟩:=p
      simp at eT
      subst eT
      have:=key jt bU (some (fe,hg)) R au bi.1 ez a
      refine⟨?_,this.2⟩
      rw[<-this.1]
      simp only[Instr.lookup,Sem.run_bind,run_underlying aZ,Result.andThen_ok,aD,Sem.run_pure,MapKept.run_getObj_map M]
      rfl
    ·simp at bi
   ·simp at bi
 ·simp at a
end
end Go.al

namespace Go.al
open Go.RowKit (Below)
section
variable{C:aX}{K:cY}{Z:Nat->Prop}{h:U an}{k bg:Nat}{w:World}
theorem aox{t f:Nat}{x:Operand}{aw:Operand->Value}{d5:Operand->Option H}{v:H}(cn:iC K Z aw d5 [x])
 (a:H1 C t x f h d5=some v):(Instr.field t (aw x) f).run C.P w= .ok (aD K v) w/\b0 Z v:=by
 unfold H1 at a
 split at a
 ·rename_i ju cs aZ ag
  obtain⟨E,g⟩:=cn x Zs _ ag
  rw[E]
  rw[m5]at a
  split at a
  ·rename_i rf b5
   have pE:ju[f]? =some rf:=by rw[<-b5];simp
   obtain⟨M,R⟩:=FY (K:=K) (w:=w) g a
   refine⟨?_,R⟩
   simp[Instr.field,run_underlying aZ,pE,asAgg,aD,M]
  ·simp at a
 ·simp at a
theorem aoy{t:Nat}{x:Operand}{aw:Operand->Value}{d5:Operand->Option H}{v:H}(cn:iC K Z aw d5 [x])
 (a:H2 C t x h d5=some v):(Instr.makeInterface t (aw x)).run C.P w= .ok (aD K v) w/\b0 Z v:=by
 unfold H2 at a
 split at a
 ·simp at a
 ·rename_i d ad aS aZ ag
  obtain⟨E,g⟩:=cn x Zs _ ag
  simp at a;subst a
  refine⟨?_,g⟩
  rw[E]
  cases d<;>first|exact(aS _ rfl).elim|simp[Instr.makeInterface,run_underlying aZ,aD]
 ·simp at a
theorem aot{x:Operand}{t tp:Nat}{ok:Bool}{aw:Operand->Value}{d5:Operand->Option H}{v:H}(cn:iC K Z aw d5 [x])
 (a:HZ C x tp ok h d5=some v):(Instr.typeAssert (aw x) t tp ok).run C.P w= .ok (aD K v) w/\b0 Z v:=by
 unfold HZ at a
 split at a
 ·simp at a
 ·rename_i d aS aZ ag
  obtain⟨E,g⟩:=cn x Zs _ ag
  rw[E]
  simp only[d9]at a
  obtain⟨rfl,a⟩:=a
  split at a
  ·rename_i bl cj
   simp at a;subst a
   obtain⟨fI,fs⟩:=x1 cj K Z w
   refine⟨?_,fs,trivial,trivial⟩
   cases d<;>first|exact(aS _ rfl).elim|simp[Instr.typeAssert,run_underlying aZ,aD,bI,fI]
  ·simp at a
 ·rename_i d gV ad aS aZ ag
  obtain⟨E,g⟩:=cn x Zs _ ag
  rw[E]
  rw[gX]at a
  split at a
  ·rename_i aW
   subst aW
   simp at a
   cases ok
   ·simp at a;subst a
    refine⟨?_,g⟩
    cases d<;>first|exact(aS _ rfl).elim|simp[Instr.typeAssert,run_underlying aZ,aD]
   ·simp at a;subst a
    refine⟨?_,g,trivial,trivial⟩
    cases d<;>first|exact(aS _ rfl).elim|simp[Instr.typeAssert,run_underlying aZ,aD,bI]
  ·rename_i aW
   simp only[d9]at a
   obtain⟨rfl,a⟩:=a
   split at a
   ·rename_i bl cj
    simp at a;subst a
    obtain⟨fI,fs⟩:=x1 cj K Z w
    refine⟨?_,fs,trivial,trivial⟩
    cases d<;>first|exact(aS _ rfl).elim|simp[Instr.typeAssert,run_underlying aZ,aD,bI,fI,aW]
   ·simp at a
 ·simp at a
theorem Qz:∀(l:List Nat),EH l=l.getLast?:=by
 intro l
 induction l with
 |nil=>rfl
 |cons I l ah=>
  cases l with
  |nil=>rfl
  |cons b l=>simp only[EH,List.getLast?_cons_cons];exact ah
theorem VD(b:Nat):∀(a2:List (H×H×Nat)),(a2.map (fo K)).find? (·.born==b)=(tB b a2).map (fo K):=by
 intro a2
 induction a2 with
 |nil=>rfl
 |cons E a2 ah=>
  simp only[Zy,tB,YT,fo,gX]
  by_cases a:E.2.2=b
  ·simp[a,fo]
  ·have:(E.2.2==b)=false:=by simpa using a
   rw[this];simp only[a,Zx];exact ah
theorem VE(b:Nat):∀(a2:List (H×H×Nat)) E,tB b a2=some E->E∈a2:=by
 intro a2
 induction a2 with
 |nil=>intro E a;simp[tB]at a
 |cons I a2 ah=>
  intro E a
  simp only[tB,gX]at a
  split at a
  ·simp at a;subst a;simp
  ·exact Zn _ (ah E a)
theorem aow(S:cS C K Z h k bg w){dY:Operand}{aw:Operand->Value}{d5:Operand->Option H}{v:H}(cn:iC K Z aw d5 [dY])
 (a:EG C dY h d5=some v):(Instr.entry (aw dY)).run C.P w= .ok (aD K v) w/\b0 Z v:=by
 unfold EG at a
 split at a
 ·rename_i r ag
  obtain⟨E,g⟩:=cn dY Zs _ ag
  rw[E]
  split at a
  ·rename_i m d4 seen kM bc
   split at a
   ·rename_i qP a2 cw aH bi
    simp only[d9]at a
    obtain⟨ay,a⟩:=a
    have ay:cw=kM:=Zi ay
    subst ay
    split at a
    ·rename_i B ad b ai
     simp at a;subst a
     obtain⟨hO,M,R⟩:=S.obj r _ bc g
     obtain⟨bU,ee,_,ki,Cn⟩:=rO S (R m rfl) bi
     have b5:bU.find? (λE=>E.born==qP)=some (fo K (B,ad,b)):=by
      have:=VD (K:=K) qP a2
      rw[<-ki,ai]at this
      rw[<-Array.find?_toList];exact this
     have G4:seen.toArray.back?=some qP:=by rw[<-aH,Qz];simp
     have ab:(getObj (K r).cq).run C.P w= .ok (.mapIter (some (K m).cq) d4 seen.toArray cw) w:=by simp[getObj,Sem.run,M]
     obtain⟨b9,b3⟩:=Cn _ (VE qP a2 _ ai)
     refine⟨?_,b9,b3,trivial⟩
     simp[Instr.entry,aD,hO,ab,G4,ee,b5,fo,bI]
    ·simp at a
   ·simp at a
  ·rename_i m d4 n cN kM lb bc
   split at a
   ·rename_i qP a2 cw bi
    simp only[d9]at a
    obtain⟨ay,a⟩:=a
    have ay:cw=kM:=Zi ay
    subst ay
    split at a
    ·rename_i B ad b ai
     simp at a;subst a
     obtain⟨hO,xn,seen,M,_,aH⟩:=S.obj r _ bc g
     have aH:=aH qP rfl
     obtain⟨bU,ee,_,ki,Cn⟩:=rO S xn bi
     have b5:bU.find? (λE=>E.born==qP)=some (fo K (B,ad,b)):=by
      have:=VD (K:=K) qP a2
      rw[<-ki,ai]at this
      rw[<-Array.find?_toList];exact this
     have G4:seen.toArray.back?=some qP:=by rw[<-aH,Qz];simp
     have ab:(getObj (K r).cq).run C.P w= .ok (.mapIter (some (K m).cq) d4 seen.toArray cw) w:=by simp[getObj,Sem.run,M]
     obtain⟨b9,b3⟩:=Cn _ (VE qP a2 _ ai)
     refine⟨?_,b9,b3,trivial⟩
     simp[Instr.entry,aD,hO,ab,G4,ee,b5,fo,bI]
    ·simp at a
   ·simp at a
  ·simp at a
 ·simp at a
theorem agp(S:cS C K Z h k bg w){t:Nat}{cM:Array TypeId}{ty:TypeId}{x v:H}{rest:List TypeId}(aG:cM.toList=t::rest)(ek:b0 Z x)(a:Jm C h t x=some v):
 (Builtin.len_ cM ty #[aD K x]).run C.P w= .ok (aD K v) w/\b0 Z v:=by
 have tQ:cM[0]? =some t:=by rw[<-ZM,aG];rfl
 unfold Jm at a
 split at a<;>(try simp only[σ]at a)
 ·rename_i s aZ
  simp at a;subst a
  refine⟨?_,trivial⟩
  have aH:(fd s).size=s.length:=by simp[fd,ByteArray.size]
  simp[Builtin.len_,tQ,run_underlying aZ,aD,goInt,aH]
 ·rename_i n ss aZ
  simp at a;subst a
  refine⟨?_,trivial⟩
  simp[Builtin.len_,tQ,run_underlying aZ,goInt]
  simp[aD]
 ·rename_i bU aZ
  split at a
  ·rename_i n ss P8
   simp at a;subst a
   refine⟨?_,trivial⟩
   simp[Builtin.len_,tQ,run_underlying aZ,run_underlying P8,goInt]
   simp[aD]
  ·simp at a
 ·rename_i aZ
  simp at a;subst a
  refine⟨?_,trivial⟩
  simp[Builtin.len_,tQ,run_underlying aZ,aD,goInt]
 ·rename_i aZ
  simp at a;subst a
  refine⟨?_,trivial⟩
  simp[Builtin.len_,tQ,run_underlying aZ,aD,goInt]
 ·rename_i aZ
  simp at a;subst a
  refine⟨?_,trivial⟩
  simp[Builtin.len_,tQ,run_underlying aZ,aD,goInt]
 ·rename_i aZ
  simp at a;subst a
  refine⟨?_,trivial⟩
  simp[Builtin.len_,tQ,run_underlying aZ,aD,goInt]
 ·rename_i r aZ
  split at a
  ·rename_i a2 cw bc
   simp at a;subst a
   obtain⟨bU,M,R,au,aM⟩:=rO S ek bc
   refine⟨?_,trivial⟩
   have:bU.size=a2.length:=by rw[<-Array.length_toList,au,Zu]
   simp[Builtin.len_,tQ,run_underlying aZ,aD,goInt,M,this]
  ·simp at a
 ·simp at a
theorem agi{t:Nat}{cM:Array TypeId}{ty:TypeId}{x v:H}{rest:List TypeId}(aG:cM.toList=t::rest)(a:Jf C t x=some v):
 (Builtin.cap_ cM ty #[aD K x]).run C.P w= .ok (aD K v) w/\b0 Z v:=by
 have tQ:cM[0]? =some t:=by rw[<-ZM,aG];rfl
 unfold Jf at a
 split at a<;>(try simp only[σ]at a)
 ·rename_i aZ
  simp at a;subst a
  refine⟨?_,trivial⟩
  simp[Builtin.cap_,tQ,run_underlying aZ,aD,goInt]
 ·rename_i aZ
  simp at a;subst a
  refine⟨?_,trivial⟩
  simp[Builtin.cap_,tQ,run_underlying aZ,aD,goInt]
 ·simp at a
theorem agt:∀(l:List H) (x v:H),nR true x l=some v->((bI K l).foldlM Builtin.max2 (aD K x)).run C.P w= .ok (aD K v) w/\(b0 Z x->b0 Z v):=by
 intro l
 induction l with
 |nil=>intro x v a;cases x<;>simp[nR]at a<;>subst a<;>simp[bI]
 |cons j l ah=>
  intro x v a
  unfold nR at a
  split at a
  ·rename_i ci;simp at ci
  ·rename_i B I eA b cd e2
   simp only[zp]at e2
   obtain⟨rfl,rfl⟩:=e2
   obtain⟨M,R⟩:=ah _ _ a
   refine⟨?_,λ_=>R trivial⟩
   simp only[bI,List.foldlM_cons,Sem.run_bind,aD,Builtin.max2,Sem.run_pure,Result.andThen_ok]
   simp only[eB,sU,fB,Zh,aD]at M
   exact M
  ·simp at a
theorem agu:∀(l:List H) (x v:H),nR false x l=some v->((bI K l).foldlM Builtin.min2 (aD K x)).run C.P w= .ok (aD K v) w/\(b0 Z x->b0 Z v):=by
 intro l
 induction l with
 |nil=>intro x v a;cases x<;>simp[nR]at a<;>subst a<;>simp[bI]
 |cons j l ah=>
  intro x v a
  unfold nR at a
  split at a
  ·rename_i ci;simp at ci
  ·rename_i B I eA b cd e2
   simp only[zp]at e2
   obtain⟨rfl,rfl⟩:=e2
   obtain⟨M,R⟩:=ah _ _ a
   refine⟨?_,λ_=>R trivial⟩
   simp only[bI,List.foldlM_cons,Sem.run_bind,aD,Builtin.min2,Sem.run_pure,Result.andThen_ok]
   simp only[iF,sU,fB,Zh,aD]at M
   exact M
  ·simp at a
end
end Go.al

namespace Go.al
open Go.RowKit (Below)
section
variable{C:aX}{K:cY}{Z:Nat->Prop}{h:U an}{k bg:Nat}{w:World}
theorem iC.mono{aw:Operand->Value}{d5:Operand->Option H}{l cd:List Operand}(a:iC K Z aw d5 l)(aH:∀x∈cd,x∈l):iC K Z aw d5 cd:=λx ag v bu=>a x (aH x ag) v bu
theorem N6{aw:Operand->Value}{d5:Operand->Option H}{W:Option Operand}{r:Option H}(cn:iC K Z aw d5 W.toList)(a:AH d5 W=some r):W.map aw=r.map (aD K):=by
 cases W with
 |none=>simp[AH]at a;subst a;rfl
 |some x=>
  simp only[AH]at a
  split at a
  ·rename_i v bu
   simp at a;subst a
   simp[(cn x Zs v bu).1]
  ·simp at a
theorem agq(S:cS C K Z h k bg w){oper:Oper}{aw:Operand->Value}{d5:Operand->Option H}{v:H}(cn:iC K Z aw d5 oper.op.operands.toList)
 (a:nf oper.op C h d5=some v):I2 K Z C.P w (execOp aw oper) v:=by
 obtain⟨dst,op,type,pos,after,guard⟩:=oper
 cases op<;>simp only[nf]at a<;>(try(cases a;done))<;>simp only[execOp]<;>simp only[Op.operands]at cn
 case build t jF=>
  refine mP ?_
  unfold Qr at a
  split at a
  ·rename_i c8 PL
   obtain⟨M,R⟩:=Vq (by simpa using cn) PL
   have:=agh (K:=K) (w:=w) R a
   rw[<-M]at this
   have E:(jF.map λx=>(x.1,aw x.2))=(jF.toList.map λx=>(x.1,aw x.2)).toArray:=by apply YM;simp
   rw[E];exact this
  ·simp at a
 case binOp op t x j FB=>exact mP (aou S (by simpa using cn) a)
 case unOp op t x=>
  refine mP ?_
  unfold Qy at a
  split at a
  ·rename_i I aG
   rw[(cn x Zs I aG).1]
   exact agz a
  ·simp at a
 case convert s d x=>exact mP (aov S (by simpa using cn) a)
 case makeInterface t x=>exact mP (aoy (by simpa using cn) a)
 case makeFunc fn first fl=>
  refine mP ?_
  unfold Qu at a
  split at a
  ·rename_i I b aG ai
   split at a
   ·simp at a;subst a
    obtain⟨be,b2⟩:=q8 (cn.mono (by simp;intro x ag;exact .inl ag)) aG
    obtain⟨dr,eu⟩:=q8 (cn.mono (by simp;intro x ag;exact .inr ag)) ai
    refine⟨?_,trivial,b2,eu⟩
    simp[Instr.makeFunc,be,dr,aD,mm]
   ·simp at a
  ·simp at a
 case slice t x bP aN gM=>
  refine mP ?_
  unfold Qx at a
  split at a
  ·rename_i I l cv m aG aE gB bi
   have M:=cn x Zs I aG
   have R:=N6 (cn.mono (by simp;intro x ag;exact .inr (.inl ag))) aE
   have au:=N6 (cn.mono (by simp;intro x ag;exact .inr (.inr (.inl ag)))) gB
   have aM:=N6 (cn.mono (by simp;intro x ag;exact .inr (.inr (.inr ag)))) bi
   rw[M.1,R,au,aM]
   exact agw S M.2 a
  ·simp at a
 case field t x f=>exact mP (aox (by simpa using cn) a)
 case index t x i=>
  refine mP ?_
  unfold Qv at a
  split at a
  ·rename_i I b aG ai
   have M:=cn x Zs I aG
   rw[M.1,(cn i Zs b ai).1]
   exact agn M.2 a
  ·simp at a
 case lookup t m B ok=>
  refine mP ?_
  unfold Qw at a
  split at a
  ·rename_i I b aG ai
   have M:=cn m Zs I aG
   have R:=cn B Zs b ai
   rw[M.1,R.1]
   exact agr S M.2 R.2 a
  ·simp at a
 case entry dY=>exact mP (aow S (by simpa using cn) a)
 case typeAssert x t tp ok=>exact mP (aot (by simpa using cn) a)
 case call c=>
  unfold Qt at a
  split at a
  ·rename_i b args cM
   simp only[Call.operands]at cn
   have Lo:iC K Z aw d5 args.toList:=cn.mono Zs
   unfold Qs at a
   split at a
   ·rename_i x ag
    obtain⟨be,b2⟩:=q8 Lo ag
    split at a
    ·rename_i t rest aG
     obtain⟨M,R⟩:=agp (ty:=type) S aG b2.1 a
     refine⟨?_,R⟩
     simp[resolve,invoke,builtin,be,bI,M]
    ·simp at a
   ·rename_i x ag
    obtain⟨be,b2⟩:=q8 Lo ag
    split at a
    ·rename_i t rest aG
     obtain⟨M,R⟩:=agi (K:=K) (Z:=Z) (w:=w) (ty:=type) aG a
     refine⟨?_,R⟩
     simp[resolve,invoke,builtin,be,bI,M]
    ·simp at a
   ·rename_i x l ag
    obtain⟨be,b2⟩:=q8 Lo ag
    obtain⟨M,R⟩:=agt (C:=C) (K:=K) (Z:=Z) (w:=w) l x v a
    refine⟨?_,R b2.1⟩
    simp[resolve,invoke,builtin,Builtin.max_,be,bI,M]
   ·rename_i x l ag
    obtain⟨be,b2⟩:=q8 Lo ag
    obtain⟨M,R⟩:=agu (C:=C) (K:=K) (Z:=Z) (w:=w) l x v a
    refine⟨?_,R b2.1⟩
    simp[resolve,invoke,builtin,Builtin.min_,be,bI,M]
   ·simp at a
  ·simp at a
theorem aaw(S:cS C K Z h k bg w){oper:Oper}{aw:Operand->Value}{dZ:List (Nat×Nat)}{ak:List (Nat×H)}{J:U H}{c:jl}{v:H}
 (cn:iC K Z aw (iI dZ ak J) oper.op.operands.toList)(ay:k8 C dZ oper.op=some c)(a:gp c C h ak J=some v):I2 K Z C.P w (execOp aw oper) v:=by
 have rest:∀W,oper.op=W->c= .hQ dZ W->I2 K Z C.P w (execOp aw oper) v:=by
  intro W bc BO
  subst BO;subst bc
  exact agq S cn a
 obtain⟨dst,op,type,pos,after,guard⟩:=oper
 cases op<;>simp only[k8]at ay<;>simp only[Op.operands]at cn
 case move x=>
  split at ay
  ·rename_i ir ag
   simp at ay;subst ay
   simp only[gp,mQ ag]at a
   obtain⟨M,R⟩:=cn x Zs v a
   exact⟨by simp[execOp,M],R⟩
  ·simp at ay
 case assign x=>
  split at ay
  ·rename_i ir ag
   simp at ay;subst ay
   simp only[gp,mQ ag]at a
   obtain⟨M,R⟩:=cn x Zs v a
   exact⟨by simp[execOp,M],R⟩
  ·simp at ay
 case pick gx I b=>
  split at ay
  ·rename_i at8 f2 ea DY aG ai
   simp at ay;subst ay
   simp only[gp,mQ DY]at a
   split at a
   ·rename_i ad aZ
    obtain⟨M,R⟩:=cn gx Zs ad aZ
    unfold MM at a
    split at a
    ·rename_i t
     rw[mQ aG,mQ ai]at a
     simp only[execOp,M,aD]
     cases t
     ·obtain⟨au,aM⟩:=cn b Zs v (by simpa using a)
      exact⟨by simp[asBool,au],aM⟩
     ·obtain⟨au,aM⟩:=cn I Zs v (by simpa using a)
      exact⟨by simp[asBool,au],aM⟩
    ·simp at a
   ·simp at a
  ·simp at ay
 case load t I=>
  split at ay
  ·rename_i f2 s aG M R
   simp at ay;subst ay
   simp only[gp,mQ aG]at a
   split at a
   ·rename_i ad aZ
    obtain⟨au,aM⟩:=cn I Zs ad aZ
    simp only[execOp,au]
    exact mP (Uj S M R aM a)
   ·simp at a
  ·rename_i f2 aG M
   simp at ay;subst ay
   simp only[gp,mQ aG]at a
   split at a
   ·rename_i ad aZ
    obtain⟨au,aM⟩:=cn I Zs ad aZ
    simp only[execOp,au]
    exact mP (Ui S M aM a)
   ·simp at a
  ·simp at ay
 case fieldAddr s x f=>
  split at ay
  ·rename_i ju ir aZ ag
   rw[m5]at ay
   split at ay
   ·rename_i rf b5
    split at ay
    ·rename_i bl cj
     simp only[Dw]at ay
     obtain⟨kV,ay⟩:=ay
     simp at ay;subst ay
     simp only[gp,mQ ag]at a
     split at a
     ·rename_i ad sP
      obtain⟨au,aM⟩:=cn x Zs ad sP
      simp only[execOp,au]
      exact mP (ai5 aZ b5 cj (by intro E;subst E;simp at kV) aM a)
     ·simp at a
    ·simp at ay
   ·simp at ay
  ·simp at ay
 case indexAddr t x i=>
  split at ay
  ·rename_i n dE ir cy aZ ag aN
   split at ay
   ·rename_i bd cj
    simp at ay;subst ay
    simp only[gp,mQ ag,mQ aN]at a
    split at a
    ·rename_i ad sP
     split at a
     ·rename_i aa bK
      split at a
      ·rename_i aY aS
       obtain⟨B,rfl⟩:=Cs aS
       obtain⟨au,aM⟩:=cn x Zs ad sP
       obtain⟨bA,cr⟩:=cn i Zs _ bK
       simp only[execOp,au,bA,aD]
       exact mP (an0 aZ cj aM a)
      ·simp at a
     ·simp at a
    ·simp at a
   ·simp at ay
  ·rename_i dE ir cy aZ ag aN
   split at ay
   ·rename_i bd cj
    simp at ay;subst ay
    simp only[gp,mQ ag,mQ aN]at a
    split at a
    ·rename_i ad sP
     split at a
     ·rename_i aa bK
      split at a
      ·rename_i aY aS
       obtain⟨B,rfl⟩:=Cs aS
       obtain⟨au,aM⟩:=cn x Zs ad sP
       obtain⟨bA,cr⟩:=cn i Zs _ bK
       simp only[execOp,au,bA,aD]
       exact mP (an3 aZ cj aM a)
      ·simp at a
     ·simp at a
    ·simp at a
   ·simp at ay
  ·simp at ay
 case nilCheck x=>
  split at ay
  ·rename_i ir ag
   simp at ay;subst ay
   simp only[gp,mQ ag]at a
   split at a
   ·rename_i ad aZ
    obtain⟨au,aM⟩:=cn x Zs ad aZ
    obtain⟨rfl,bA⟩:=atS (C:=C) (K:=K) (w:=w) aM a
    exact⟨bA _ aw x rfl au,aM⟩
   ·simp at a
  ·simp at ay
 case binOp op t x j FB=>
  rw[fB]at ay
  split at ay
  ·split at ay
   ·rename_i ir awo ag T
    simp at ay;subst ay
    simp only[gp,mQ ag,mQ T]at a
    split at a
    ·rename_i I aG
     split at a
     ·rename_i b ai
      obtain⟨M,R⟩:=cn x Zs I aG
      obtain⟨au,aM⟩:=cn j Zs b ai
      obtain⟨bA,cr,B,i,eA,aa,rfl,rfl⟩:=Uh (C:=C) (K:=K) (Z:=Z) (w:=w) t a
      simp only[execOp,M,au]
      refine mP ⟨?_,cr⟩
      rw[Sem.run_bind,JY (by simp[DE])]
      exact bA
     ·simp at a
    ·simp at a
   ·simp at ay
  ·simp at ay;exact rest _ rfl ay.symm
 case extract x i=>
  split at ay
  ·rename_i ir ag
   simp at ay;subst ay
   simp only[gp,mQ ag]at a
   split at a
   ·rename_i ad aZ
    obtain⟨au,aM⟩:=cn x Zs ad aZ
    simp only[execOp,au]
    exact mP (atR aM a)
   ·simp at a
  ·simp at ay
 case convert s d x=>
  rw[fB]at ay
  split at ay
  ·simp at ay;subst ay;simp[gp]at a
  ·simp at ay;exact rest _ rfl ay.symm
 case store t I x=>
  split at ay
  ·simp at ay;subst ay;simp[gp]at a
  ·simp at ay
 case makeMap t r=>cases r<;>simp[k8]at ay<;>subst ay<;>simp[gp]at a
 case call wT=>
  obtain⟨callee,args,cM⟩:=wT
  cases callee with
  |builtin b=>
   cases b<;>simp[k8]at ay<;>first
    |exact rest _ rfl ay.symm
    |(subst ay;simp[gp]at a)
  |value f=>
   cases f<;>simp[k8]at ay
   all_goals first
    |(subst ay;simp[gp]at a;done)
    |(
      split at ay
      ·simp at ay;subst ay;simp[gp]at a
      ·simp at ay)
  |invoke r m=>simp[k8]at ay;subst ay;simp[gp]at a
 all_goals(simp at ay;first|exact rest _ rfl ay.symm|(subst ay;simp[gp]at a))
end
end Go.al

namespace Go.al
open Go.RowKit (Below)
theorem e3{C:aX}{h:U an}{b:Nat}(W:Option an)(ai:C.bj<=b)(x:Nat):ab C (bm C h b W) x=if x=b then W else ab C h x:=by
 unfold ab bm
 rw[fB,fB]
 by_cases ag:Nat.blt x C.bj=true
 ·have:=kd ag
  rw[Zr ag,Zr ag,Zg Zo]
 ·have pS:C.bj<=x:=by
   rcases zh x C.bj with a|a
   ·exact absurd (by simp[Nat.blt];omega) ag
   ·exact a
  rw[Zg ag,Zg ag,U.kf]
  show(if b-C.bj=x-C.bj then W else h.get (x-C.bj))=_
  by_cases E:x=b
  ·rw[Zr Zo,Zr E]
  ·rw[Zg Zo,Zg E];rfl
theorem W7{C:aX}:∀(l:List Nat) (h:U an) (x:Nat),(∀b∈l,C.bj<=b)->ab C (o2 C l h) x=if x∈l then none else ab C h x:=by
 intro l
 induction l with
 |nil=>intro h x _;simp[o2]
 |cons b l ah=>
  intro h x a
  simp only[o2]
  rw[ah _ _ (λc ay=>a c (by simp[ay])),e3 _ (a b Zs)]
  by_cases ag:x∈l
  ·simp[ag]
  ·by_cases E:x=b
   ·simp[E]
   ·simp[ag,E]
def f0(K:cY)(b:Nat)(pl:lN):cY:=λx=>if x=b then pl else K x
def add(Z:Nat->Prop)(b:Nat):Nat->Prop:=λx=>Z x\/x=b
structure hS(C:aX)(cK:Nat)(K:cY)(Z:Nat->Prop)(h:U an)(bg:Nat)(w:World)(c1:cY)(di:Nat->Prop)(V:U an)(bz:World):Prop where
 hW:∀b,Z b->c1 b=K b
 iH:∀b,Z b->di b
 new:∀b,di b->Z b\/cK<=b
 af:∀b,¬Z b->b<cK->ab C V b=ab C h b
 below:Below bg w bz
theorem hS.refl{C:aX}{cK:Nat}{K:cY}{Z:Nat->Prop}{h:U an}{bg:Nat}{w:World}:hS C cK K Z h bg w K Z h w:=
 ⟨λ_ _=>rfl,λ_ a=>a,λ_ a=> .inl a,λ_ _ _=>rfl, .refl _ _⟩
theorem hS.trans{C:aX}{cK H6:Nat}{K c1 acQ:cY}{Z di Sj:Nat->Prop}{h V T4:U an}{bg:Nat}{w bz acy:World}(a:hS C cK K Z h bg w c1 di V bz)(aE:cK<=H6)
 (B:hS C H6 c1 di V bg bz acQ Sj T4 acy):hS C cK K Z h bg w acQ Sj T4 acy:=
 ⟨λb ai=>(B.hW b (a.iH b ai)).trans (a.hW b ai),λb ai=>B.iH b (a.iH b ai),
  λb ai=>(B.new b ai).elim (λai=>a.new b ai) (λai=> .inr Zo),
  λb ai gY=>by
   have aS:¬di b:=λaI=>(a.new b aI).elim ai (λar=>Zo)
   rw[B.af b aS Zo,a.af b ai gY],
  a.below.trans B.below⟩
section
variable{C:aX}{K c1:cY}{Z di:Nat->Prop}{h V:U an}{k av bg:Nat}{w bz:World}
theorem pp(dt:∀b,Z b->c1 b=K b){v:H}(g:b0 Z v):aD c1 v=aD K v:=NI dt v g
theorem wU(dt:∀b,Z b->c1 b=K b){l:List H}(g:dW Z l):bI c1 l=bI K l:=Dy dt l g
theorem iR.af{n ap:Nat}{J:U H}{tmps:Array Value}(dt:∀b,Z b->c1 b=K b)(f5:∀b,Z b->di b)(a:iR K Z n ap J tmps):iR c1 di n ap J tmps:=
 ⟨a.size,λt v aE bu=>by
  obtain⟨M,R⟩:=a.val t v aE bu
  exact⟨by rw[M,pp dt R],nW f5 v R⟩⟩
theorem NA(dt:∀b,Z b->c1 b=K b){d:hj}(g:vA Z d):k7 c1 d=k7 K d:=by
 obtain⟨t,cm⟩:=d
 obtain⟨b9,b3⟩:=g
 simp only[k7,wU dt b3]
 congr 1
 cases t with
 |fn fn cs=>
  obtain⟨M,R⟩:=b9
  have E:mm c1 fn=mm K fn:=by
   cases fn<;>simp only[mm]
   rw[dt _ M]
  simp only[Bj,E,wU dt R]
 |collected r=>simp only[Bj,dt r b9]
theorem V1(f5:∀b,Z b->di b){d:hj}(g:vA Z d):vA di d:=by
 obtain⟨t,cm⟩:=d
 refine⟨?_,qp f5 _ g.2⟩
 cases t with
 |fn fn cs=>exact⟨by cases fn<;>first|exact f5 _ g.1.1|exact g.1.1,qp f5 _ g.1.2⟩
 |collected r=>exact f5 _ g.1
theorem jn.af{W:an}{pl:lN}(dt:∀b,Z b->c1 b=K b)(f5:∀b,Z b->di b)(bL:bz.heap[pl.cq]? =w.heap[pl.cq]?)(a:jn C K Z W pl w):jn C c1 di W pl bz:=by
 cases W with
 |cells c n st=>
  obtain⟨bU,ty,bP,aN,M,R,au,aM⟩:=a
  refine⟨bU,ty,bP,aN,by rw[bL,M],R,au,λi v bu=> ?_⟩
  obtain⟨bA,cr⟩:=aM i v bu
  exact⟨by rw[bA,pp dt cr],nW f5 v cr⟩
 |map a2 cw=>
  obtain⟨bU,M,R,au⟩:=a
  refine⟨bU,by rw[bL,M], ?_,λE aW=>⟨nW f5 _ (au E aW).1,nW f5 _ (au E aW).2⟩⟩
  rw[R]
  apply YA
  intro E aW
  simp only[fo,pp dt (au E aW).1,pp dt (au E aW).2]
 |look a2=>
  obtain⟨bU,cw,jt,M,R,aM,au⟩:=a
  refine⟨bU,cw,jt,by rw[bL,M], ?_,aM,λE aW=>⟨nW f5 _ (au E aW).1,nW f5 _ (au E aW).2⟩⟩
  rw[R]
  apply YA
  intro E aW
  simp only[fo,pp dt (au E aW).1,pp dt (au E aW).2]
 |nJ s pos=>exact⟨a.1,by rw[bL,a.2.1],a.2.2⟩
 |hz m d4 seen st=>
  obtain⟨ci,M,R⟩:=a
  refine⟨ci, ?_,λb ai=>f5 b (R b ai)⟩
  rw[bL,M]
  cases m with
  |none=>rfl
  |some m=>simp only[ZT,dt m (R m rfl)]
 |uD m d4 n cN st lb=>
  obtain⟨ci,M,seen,R,au⟩:=a
  exact⟨ci,f5 m M,seen,by rw[bL,R,dt m M],au⟩
 |loop state pending fn n ap J params assign body a8=>
  obtain⟨tmps,M,R,au,aM⟩:=a
  exact⟨tmps,by rw[bL,M,dt a8 au],R.af dt f5,f5 _ au,aM⟩
 |deferred oL=>
  obtain⟨M,R⟩:=a
  refine⟨?_,λl aE d aI=>V1 f5 (R l aE d aI)⟩
  rw[bL,M]
  cases oL with
  |none=>rfl
  |some l=>
   simp only[ZT]
   congr 3
   exact YA λd aI=>(NA dt (R l rfl d aI)).symm
theorem jn.lt{W:an}{pl:lN}(a:jn C K Z W pl w):pl.cq<w.heap.size:=by
 have:∃x,w.heap[pl.cq]? =some x:=by
  cases W with
  |cells c n st=>obtain⟨bU,ty,bP,aN,M,_⟩:=a;exact⟨_,M⟩
  |map a2 cw=>obtain⟨bU,M,_⟩:=a;exact⟨_,M⟩
  |look a2=>obtain⟨bU,cw,jt,M,_⟩:=a;exact⟨_,M⟩
  |nJ s pos=>exact⟨_,a.2.1⟩
  |hz m d4 seen st=>exact⟨_,a.2.1⟩
  |uD m d4 n cN st lb=>obtain⟨_,_,seen,M,_⟩:=a;exact⟨_,M⟩
  |loop state pending fn n ap J params assign body a8=>obtain⟨tmps,M,_⟩:=a;exact⟨_,M⟩
  |deferred oL=>exact⟨_,a.1⟩
 obtain⟨x,ag⟩:=this
 exact(ZK.1 ag).1
theorem cS.alloc(S:cS C K Z h k bg w){b:Nat}{pl:lN}{cJ:an}{W:Obj}(ai:C.bj<=b)(cR:b<av)(amr:k<=av)(aS:¬Z b)(eP:bg<=w.heap.size)(rC:pl.cq=w.heap.size)
 (iw:ab C V b=some cJ)(BK:∀x,x≠b->ab C V x=ab C h x\/ab C V x=none)(bc:jn C (f0 K b pl) (add Z b) cJ pl (w.alloc W))(qw:tk C (add Z b) cJ):
 cS C (f0 K b pl) (add Z b) V av bg (w.alloc W):=by
 have dt:∀x,Z x->f0 K b pl x=K x:=λx ag=>by
  unfold f0;rw[Zg];intro E;subst E;exact aS ag
 have hK:f0 K b pl b=pl:=by unfold f0;rw[Zr rfl]
 have Hs:∀B,B<w.heap.size->(w.alloc W).heap[B]? =w.heap[B]? :=λB aP=>Below.heap_alloc _ _ _ aP
 have key:∀x c6,ab C V x=some c6->add Z b x->x≠b->ab C h x=some c6/\Z x/\(K x).cq<w.heap.size:=by
  intro x c6 ag aI dv
  have rp:Z x:=aI.resolve_right dv
  rcases BK x dv with a|a
  ·have:ab C h x=some c6:=by rw[<-a,ag]
   exact⟨this,rp,(S.obj x c6 this rp).lt⟩
  ·rw[a]at ag;cases ag
 refine⟨Zz S.bj amr, ?_, ?_, ?_, ?_, ?_, ?_⟩
 ·intro x ag
  rcases ag with ag|ag
  ·have:=S.lt x ag;omega
  ·omega
 ·intro x c6 ag
  by_cases E:x=b
  ·omega
  ·rcases BK x E with a|a
   ·have:=S.uG x c6 (by rw[<-a,ag]);omega
   ·rw[a]at ag;cases ag
 ·intro x c6 ag aI
  by_cases E:x=b
  ·subst E
   rw[iw]at ag;cases ag
   rw[hK];exact bc
  ·obtain⟨M,R,au⟩:=key x c6 ag aI E
   rw[dt x R]
   exact(S.obj x c6 M R).af dt (λ_ a=> .inl a) (Hs _ au)
 ·intro x j c6 o9 ag T dm nU dv kD e2
  by_cases E:x=b
  ·subst E
   by_cases cB:j=x
   ·exact absurd cB.symm dv
   ·obtain⟨M,R,au⟩:=key j o9 T nU cB
    rw[hK,dt j R]at e2
    omega
  ·obtain⟨M,R,au⟩:=key x c6 ag dm E
   by_cases cB:j=b
   ·subst cB
    rw[hK,dt x R]at e2
    omega
   ·obtain⟨aM,bA,cr⟩:=key j o9 T nU cB
    rw[dt x R,dt j bA]at e2 ⊢
    exact S.sep x j c6 o9 M aM R bA dv kD e2
 ·intro x c6 kD ag aI
  by_cases E:x=b
  ·subst E;rw[hK];omega
  ·obtain⟨M,R,au⟩:=key x c6 ag aI E
   rw[dt x R]
   exact S.base x c6 kD M R
 ·intro x c6 ag aI
  by_cases E:x=b
  ·subst E;rw[iw]at ag;cases ag;exact qw
  ·obtain⟨M,R,au⟩:=key x c6 ag aI E
   refine⟨λc n l aE j T=> ?_,(S.fb x c6 M R).2⟩
   obtain⟨b9,b3⟩:=(S.fb x c6 M R).1 c n l aE j T
   exact⟨.inl b9,b3⟩
theorem cS.Vx(S:cS C K Z h k bg w)(iw:∀x,ab C V x=ab C h x\/ab C V x=none):cS C K Z V k bg w:=by
 have key:∀x c6,ab C V x=some c6->ab C h x=some c6:=by
  intro x c6 ag
  rcases iw x with a|a
  ·rw[<-a,ag]
  ·rw[a]at ag;cases ag
 exact⟨S.bj,S.lt,λx c6 ag=>S.uG x c6 (key x c6 ag),λx c6 ag aI=>S.obj x c6 (key x c6 ag) aI,
  λx j c6 o9 ag T dm nU dv kD e2=>S.sep x j c6 o9 (key x c6 ag) (key j o9 T) dm nU dv kD e2,λx c6 kD ag aI=>S.base x c6 kD (key x c6 ag) aI,λx c6 ag aI=>S.fb x c6 (key x c6 ag) aI⟩
theorem cS.put(S:cS C K Z h k bg w){b:Nat}{cJ kY:an}(ai:C.bj<=b)(aI:Z b)(gC:ab C h b=some cJ)(iw:ab C V b=some kY)
 (BK:∀x,x≠b->ab C V x=ab C h x\/ab C V x=none)(bL:∀B,B≠(K b).cq->bz.heap[B]? =w.heap[B]?)
 (hO:∀x c6,x≠b->ab C V x=some c6->Z x->(K x).cq=(K b).cq->False)(bc:jn C K Z kY (K b) bz)(qw:tk C Z kY):cS C K Z V k bg bz:=by
 have key:∀x c6,x≠b->ab C V x=some c6->ab C h x=some c6:=by
  intro x c6 dv ag
  rcases BK x dv with a|a
  ·rw[<-a,ag]
  ·rw[a]at ag;cases ag
 refine⟨S.bj,S.lt, ?_, ?_, ?_, ?_, ?_⟩
 ·intro x c6 ag
  by_cases E:x=b
  ·subst E;exact S.lt x aI
  ·exact S.uG x c6 (key x c6 E ag)
 ·intro x c6 ag dm
  by_cases E:x=b
  ·subst E;rw[iw]at ag;cases ag;exact bc
  ·exact(S.obj x c6 (key x c6 E ag) dm).af (λ_ _=>rfl) (λ_ a=>a) (bL _ λar=>hO x c6 E ag dm ar)
 ·intro x j c6 o9 ag T dm nU dv kD e2
  by_cases E:x=b
  ·subst E
   exact(hO j o9 (λar=>dv ar.symm) T nU e2.symm).elim
  ·by_cases cB:j=b
   ·subst cB;exact(hO x c6 E ag dm e2).elim
   ·exact S.sep x j c6 o9 (key x c6 E ag) (key j o9 cB T) dm nU dv kD e2
 ·intro x c6 kD ag dm
  by_cases E:x=b
  ·subst E;exact S.base x cJ kD gC aI
  ·exact S.base x c6 kD (key x c6 E ag) dm
 ·intro x c6 ag dm
  by_cases E:x=b
  ·subst E;rw[iw]at ag;cases ag;exact qw
  ·exact S.fb x c6 (key x c6 E ag) dm
def C7(W:an):Prop:=(∀c n,W≠ .cells c n .jJ)/\(∀c n l,W≠ .cells c n (.grow l))
theorem cS.alone(S:cS C K Z h k bg w){b:Nat}{cJ:an}(ai:C.bj<=b)(aI:Z b)(gC:ab C h b=some cJ)(aG:C7 cJ):
 ∀x c6,x≠b->ab C h x=some c6->Z x->(K x).cq=(K b).cq->False:=by
 intro x c6 dv ag dm e2
 rcases(S.sep b x cJ c6 gC ag aI dm (λar=>dv ar.symm) ai e2.symm).1 with ⟨c,n,_,_,ar,_⟩|⟨c,n,l,_,_,ar,_⟩|⟨_,_,_,c,n,_,ar,_⟩
 ·exact aG.1 _ _ ar
 ·exact aG.2 _ _ _ ar
 ·exact aG.1 _ _ ar
end
end Go.al

namespace Go.al
open Go.RowKit (Below)
section
variable{C:aX}{K c1:cY}{Z di:Nat->Prop}{h V:U an}{k av bg:Nat}{w bz:World}
theorem tV(w:World)(W:Obj):(w.alloc W).heap[w.heap.size]? =some W:=by
 show(w.heap.push W)[w.heap.size]? =_
 simp
theorem kP(K:cY)(b:Nat)(pl:lN):f0 K b pl b=pl:=by unfold f0;rw[Zr rfl]
theorem p8{b:Nat}{pl:lN}(aS:¬Z b):∀x,Z x->f0 K b pl x=K x:=λx ag=>by
 unfold f0;rw[Zg];intro E;subst E;exact aS ag
theorem jr(K:cY)(l:List H):(bI K l).length=l.length:=by rw[oM,Zu]
theorem yA(K:cY)(l:List H)(i:Nat):(bI K l)[i]? =(l[i]?).map (aD K):=by rw[oM,Zv]
theorem Bn(K:cY)(I b:List H):bI K (I++b)=bI K I++bI K b:=by simp[oM]
theorem yP{I b:List H}(aG:dW Z I)(ai:dW Z b):dW Z (I++b):=by
 rw[sx]at*
 intro v bu
 rcases Zw.1 bu with a|a
 ·exact aG v a
 ·exact ai v a
theorem yQ{l:List H}(a:dW Z l){i:Nat}{v:H}(bu:l[i]? =some v):b0 Z v:=(sx Z l).1 a v (Zp bu)
theorem kk(l:List H)(i:Nat):(U.ofList l 0 .nil).get i=l[i]? :=by
 rw[U.Kd]
 split
 ·simp
 ·rename_i a
  have:l.length<=i:=Zo
  rw[Z3 this];rfl
theorem JB{l:List H}(g:dW Z l)(ty:TypeId)(r:Nat)(w:World):jn C K Z (.cells (U.ofList l 0 .nil) l.length .own) ⟨w.heap.size,0,r⟩ (w.alloc (.cells (bI K l).toArray ty)):=by
 refine⟨_,ty,0,0,tV _ _,rfl,by simp[jr],λi v bu=> ?_⟩
 rw[kk]at bu
 refine⟨?_,yQ g bu⟩
 simp only[ZH,YR,yA,bu,ZT]
theorem CQ(n:Nat)(bl:List H):(jG n bl).length=n*bl.length:=by
 induction n with
 |zero=>simp[jG]
 |succ n ah=>simp[jG,ah,Nat.succ_mul,Nat.add_comm]
theorem arl(bl:List H):∀(n i:Nat),i<n*bl.length->(jG n bl)[i]? =bl[i%bl.length]? :=by
 intro n
 induction n with
 |zero=>intro i a;omega
 |succ n ah=>
  intro i a
  simp only[jG]
  rw[Nat.succ_mul]at a
  by_cases aN:i<bl.length
  ·rw[Z5 aN,YD aN]
  ·rw[ZU Zo,ah _ Zo]
   congr 1
   exact(Nat.mod_eq_sub_mod Zo).symm
theorem Kg{bl:List H}(a:dW Z bl):∀n,dW Z (jG n bl):=by
 intro n
 induction n with
 |zero=>trivial
 |succ n ah=>exact yP a ah
theorem abL(K:cY)(bl:List H)(n:Nat):((Array.range (n*bl.length)).map λi=>(bI K bl).toArray[i%bl.length]!)=(bI K (jG n bl)).toArray:=by
 apply YM
 rw[Array.toList_map,Array.toList_range]
 show _=bI K (jG n bl)
 apply YV
 intro i
 rw[Zv,yA]
 by_cases aN:i<n*bl.length
 ·rw[List.getElem?_range aN,arl bl n i aN]
  have cj:0<bl.length:=by
   rcases Nat.eq_zero_or_pos bl.length with a|a
   ·rw[a]at aN;omega
   ·exact a
  have bi:i%bl.length<bl.length:=zx _ cj
  simp only[ZT]
  rw[Zf bi]
  simp only[ZT,Ze]
  rw[getElem!_pos _ _ (by simpa[jr]using bi)]
  simp[oM]
 ·have M:(List.range (n*bl.length))[i]? =none:=Z3 (by simp;omega)
  have R:(jG n bl)[i]? =none:=Z3 (by rw[CQ];omega)
  rw[M,R];rfl
theorem abM(K:cY)(bl:List H)(s n:Nat)(cj:bl.length=s)(zero:Array Value)(ci:n*s≠0->zero=(bI K bl).toArray):
 ((Array.range (n*s)).map (zero[·%zero.size]!))=(bI K (jG n bl)).toArray:=by
 subst cj
 by_cases a:n*bl.length=0
 ·have M:jG n bl=[]:=Y4.1 (by rw[CQ];exact a)
  rw[a,M];simp[bI]
 ·rw[ci a, <-abL]
  simp[jr]
theorem aaJ{oper:Oper}{aw:Operand->Value}{d5:Operand->Option H}{b:Nat}{v:H}{cJ:an}(aS:¬Z b)(cn:iC K Z aw d5 oper.op.operands.toList)
 (a:pm oper.op C d5 b=some (v,cJ)):∃W,(execOp aw oper).run C.P w= .ok (.value (aD (f0 K b ⟨w.heap.size,0,0⟩) v)) (w.alloc W)/\b0 (add Z b) v/\
  jn C (f0 K b ⟨w.heap.size,0,0⟩) (add Z b) cJ ⟨w.heap.size,0,0⟩ (w.alloc W):=by
 have dt:=p8 (K:=K) (pl:=⟨w.heap.size,0,0⟩) aS
 have f5:∀x,Z x->add Z b x:=λ_ a=> .inl a
 obtain⟨dst,op,type,pos,after,guard⟩:=oper
 cases op<;>simp only[pm]at a<;>(try(cases a;done))<;>simp only[execOp]<;>simp only[Op.operands]at cn
 case alloc t=>
  unfold Co at a
  split at a
  ·rename_i bl cj
   simp at a;obtain⟨rfl,rfl⟩:=a
   obtain⟨fI,fs⟩:=x1 cj K Z w
   refine⟨.cells (bI K bl.cells).toArray t, ?_, .inr rfl, ?_⟩
   ·simp[Instr.alloc,fI,newVar,newRow,tr,aD,kP]
   ·have:=JB (C:=C) (K:=f0 K b ⟨w.heap.size,0,0⟩) (Z:=add Z b) (qp f5 _ (sn fs)) t 0 w
    rw[wU dt (sn fs)]at this
    exact this
  ·simp at a
 case box t x=>
  unfold H9 at a
  split at a
  ·rename_i ad aZ
   simp at a;obtain⟨rfl,rfl⟩:=a
   obtain⟨M,R⟩:=cn x Zs ad aZ
   refine⟨.cells (bI K ad.cells).toArray t, ?_, .inr rfl, ?_⟩
   ·simp[Instr.box,newVar,newRow,M,tr,aD,kP]
   ·have:=JB (C:=C) (K:=f0 K b ⟨w.heap.size,0,0⟩) (Z:=add Z b) (qp f5 _ (sn R)) t 0 w
    rw[wU dt (sn R)]at this
    exact this
  ·simp at a
 case buildSlice t len jF=>
  unfold Ia at a
  split at a
  ·rename_i dE c8 aZ PL
   split at a
   ·rename_i s bl aH cj
    simp only[d9,Zk]at a
    obtain⟨⟨M,R⟩,a⟩:=a
    have M:len*s<=16777216:=iT M
    have R:bl.cells.length=s:=Zi R
    split at a
    ·rename_i cs hM
     simp at a;obtain⟨rfl,rfl⟩:=a
     obtain⟨fI,fs⟩:=x1 cj K Z w
     obtain⟨fe,hg⟩:=Vq (by simpa using cn) PL
     obtain⟨ez,eT⟩:=N9 (K:=K) (It:=λi=>some (i*s,s)) (λ_ _ a=>a) c8 (jG len bl.cells) cs (Kg (sn fs) len) hg hM
     refine⟨.cells (bI K cs).toArray dE, ?_, .inr rfl, ?_⟩
     ·have E:(jF.map λx=>(x.1,aw x.2)).toList=c8.map λx=>(x.1,aD K x.2):=by rw[<-fe];simp
      have gA:¬(len*s>2^24):=by
       have:(2:Nat)^24=16777216:=by decide
       omega
      have b5:Instr.fill (λi=>some (i*s,s)) ((Array.range (len*s)).map ((if len*s=0 then #[]else(aD K bl).cells)[·%(if len*s=0 then #[]else(aD K bl).cells).size]!)) (jF.map λx=>(x.1,aw x.2)).toList=some (bI K cs).toArray:=by
       rw[abM K bl.cells s len R _ (λdv=>by rw[Zg dv,tr]),E]
       exact ez
      simp only[Instr.buildSlice,Sem.run_bind,run_underlying aZ,Result.andThen_ok,mG aH]
      rw[Zg gA]
      by_cases ci:len*s=0
      ·rw[Zr ci]at b5
       simp only[Zr ci,Sem.run_bind,Sem.run_pure,Result.andThen_ok,b5]
       simp[newRow,aD,kP]
      ·simp only[Zg ci]at b5
       simp only[Zg ci,Sem.run_bind,Sem.run_pure,Result.andThen_ok,fI,b5]
       simp[newRow,aD,kP]
     ·have:=JB (C:=C) (K:=f0 K b ⟨w.heap.size,0,0⟩) (Z:=add Z b) (qp f5 _ eT) dE 0 w
      rw[wU dt eT]at this
      exact this
    ·simp at a
   ·simp at a
  ·simp at a
 case makeMap t r=>
  cases r with
  |some r=>simp[pm]at a
  |none=>
   simp[pm]at a;obtain⟨rfl,rfl⟩:=a
   refine⟨.map #[] 0, ?_, .inr rfl, ?_⟩
   ·simp[Instr.makeMap,aD,kP]
   ·exact⟨#[],tV _ _,rfl,Zs⟩
end
end Go.al

namespace Go.al
open Go.RowKit (Below)
section
variable{C:aX}{K c1:cY}{Z di:Nat->Prop}{h V:U an}{k av bg:Nat}{w bz:World}
def kp:Array Value->Nat->List Value->Array Value
 |c,_,[]=>c
 |c,W,v::l=>kp (c.setIfInBounds W v) (W+1) l
theorem wr:∀(l:List Value) (c:Array Value) (W:Nat),(kp c W l).size=c.size:=by
 intro l
 induction l with
 |nil=>intro c W;rfl
 |cons v l ah=>intro c W;simp[kp,ah]
theorem Rx:∀(l:List Value) (c:Array Value) (W i:Nat),W+l.length<=c.size->(kp c W l)[i]? =if W<=i/\i<W+l.length then l[i-W]? else c[i]? :=by
 intro l
 induction l with
 |nil=>intro c W i _;rw[Zg (by simp only[ZR];omega)];rfl
 |cons v l ah=>
  intro c W i a
  simp only[ZC]at a
  simp only[kp]
  rw[ah _ _ _ (by simp;omega)]
  by_cases E:i=W
  ·subst E
   rw[Zg Zo,Zr Zs]
   have cR:i<c.size:=Zo
   simp[cR]
  ·by_cases ar:W+1<=i/\i<W+1+l.length
   ·rw[Zr ar,Zr (by simp;omega),show i-W=(i-(W+1))+1 by omega,ZF]
   ·rw[Zg ar,Zg (by simp only[ZC];omega),Array.getElem?_setIfInBounds_ne (λa=>E a.symm)]
theorem Rr(P:Program)(g W:Nat)(t:TypeId)(bP aN:Nat):∀(br:List Value) (i:Nat) (lb:Array Value) (w:World),w.heap[g]? =some (.cells lb t (bP,aN))->(aN<=bP\/lb.size<=bP)->
 W+i+br.length<=lb.size->(∀v∈br,v.oneCell'=true)->(storeCells ⟨g,W,none⟩ br i).run P w= .ok () (w.setRow g (kp lb (W+i) br)):=by
 intro br
 induction br with
 |nil=>
  intro i lb w bV _ _ _
  simp only[storeCells,kp]
  rw[setRow_self w g lb t _ bV];rfl
 |cons v br ah=>
  intro i lb w bV b5 aE M
  simp only[ZC]at aE
  have cR:W+i<lb.size:=Zo
  have G2:(⟨g,W,none⟩:Addr).add i=⟨g,W+i,none⟩:=qg _ _ _
  have rm:w.cell? ⟨g,W+i,none⟩=some lb[W+i]:=by simp[World.cell?,bV,cR]
  have alN:w.frozen? ⟨g,W+i,none⟩=false:=by
   simp only[World.frozen?,bV,Bool.and_eq_false_iff,Zb]
   omega
  have cV:(store ((⟨g,W,none⟩:Addr).add i) v).run P w= .ok () (w.setRow g (lb.setIfInBounds (W+i) v)):=by
   rw[G2,run_store P w _ v _ (M v Zs),rm]
   simp[alN,setCell_eq_setRow w g (W+i) lb t _ v bV]
  have:=ah (i+1) (lb.setIfInBounds (W+i) v) (w.setRow g (lb.setIfInBounds (W+i) v)) (setRow_heap w g lb _ t _ bV) (by simpa using b5) (by simp;omega) (λx ag=>M x (by simp[ag]))
  simp only[storeCells,Sem.run_bind,cV,Result.andThen_ok,this,setRow_setRow,kp]
  rfl
theorem Nr{p:Nat}(eP:bg<=p)(cs:Array Value)(w:World):Below bg w (w.setRow p cs):=
 ⟨rfl,rfl,rfl,by simp[World.setRow],λB aP=>setRow_other w p B cs Zo⟩
theorem abd:∀{br:List H},kl br=true->∀v∈bI K br,v.oneCell'=true:=by
 intro br
 induction br with
 |nil=>intro _ v bu;simp[bI]at bu
 |cons I l ah=>
  intro a v bu
  simp only[kl,Zk]at a
  simp only[bI,Zl]at bu
  rcases bu with rfl|bu
  ·cases I<;>simp[o8]at a<;>rfl
  ·exact ah a.2 v bu
theorem acL{c:U H}{bU:Array Value}{dJ W n:Nat}{br:List H}(bV:dW Z br)(bc:W+br.length<=n)(aS:dJ+n<=bU.size)
 (a:∀i v,c.get i=some v->bU[dJ+i]? =some (aD K v)/\b0 Z v):
 ∀i v,(d0 c W br).get i=some v->(kp bU (dJ+W) (bI K br))[dJ+i]? =some (aD K v)/\b0 Z v:=by
 intro i v bu
 rw[Se,U.Kd]at bu
 rw[Rx _ _ _ _ (by rw[jr];omega),jr]
 split at bu
 ·rename_i aN
  rw[Zr Zo,yA,show dJ+i-(dJ+W)=i-W by omega,bu]
  exact⟨rfl,yQ bV bu⟩
 ·rename_i aN
  rw[Zg Zo]
  exact a i v bu
theorem MJ{c:U H}{W n:Nat}{br:List H}(bc:W+br.length<=n)(a:∀i v,c.get i=some v->i<n):∀i v,(d0 c W br).get i=some v->i<n:=by
 intro i v bu
 rw[Se,U.Kd]at bu
 split at bu
 ·omega
 ·exact a i v bu
theorem E3{l:List H}:∀i v,(U.ofList l 0 .nil).get i=some v->i<l.length:=by
 intro i v bu
 rw[kk]at bu
 exact(Zc.1 bu).1
theorem F0(S:cS C K Z h k bg w){cK b W:Nat}{br:List H}(aI:Z b)(bV:dW Z br)(a:q7 C h b W br=some V):
 ∃bz,(storeCells ⟨(K b).cq,(K b).dJ+W,none⟩ (bI K br)).run C.P w= .ok () bz/\cS C K Z V k bg bz/\hS C cK K Z h bg w K Z V bz:=by
 unfold q7 at a
 split at a
 ·rename_i c n st bc
  simp only[d9,Zk]at a
  obtain⟨⟨⟨M,R⟩,au⟩,a⟩:=a
  have M:W+br.length<=n:=iT M
  have ai:C.bj<=b:=iT R
  obtain⟨bU,ty,bP,aN,be,b2,a3,a4⟩:=S.obj b _ bc aI
  have l1:st≠ .jJ:=λE=>(by subst E;simp at a)
  refine⟨w.setRow (K b).cq (kp bU ((K b).dJ+W) (bI K br)), ?_, ?_⟩
  ·exact Rr C.P _ _ ty bP aN (bI K br) 0 bU w be (b2.free l1) (by rw[jr];omega) (abd au)
  have fN:=setRow_heap w (K b).cq bU (kp bU ((K b).dJ+W) (bI K br)) ty (bP,aN) be
  have yX:=S.base b _ ai bc aI
  have BL:Below bg w (w.setRow (K b).cq (kp bU ((K b).dJ+W) (bI K br))):=Nr yX _ _
  have XF:∀B,B≠(K b).cq->(w.setRow (K b).cq (kp bU ((K b).dJ+W) (bI K br))).heap[B]? =w.heap[B]? :=λB aP=>setRow_other w _ B _ aP
  have fin:∀iz,De iz n (K b) bU.size bP aN->jn C K Z (.cells (d0 c W br) n iz) (K b) (w.setRow (K b).cq (kp bU ((K b).dJ+W) (bI K br))):=by
   intro iz cV
   refine⟨_,ty,bP,aN,fN,by rw[wr];exact cV,by rw[wr];exact a3,acL bV M a3 a4⟩
  have plain:∀iz,C7 (.cells c n st)->De iz n (K b) bU.size bP aN->(∀l,iz≠ .grow l)->V=bm C h b (some (.cells (d0 c W br) n iz))->
   cS C K Z V k bg (w.setRow (K b).cq (kp bU ((K b).dJ+W) (bI K br)))/\hS C cK K Z h bg w K Z V (w.setRow (K b).cq (kp bU ((K b).dJ+W) (bI K br))):=by
   intro iz xh cV Hq iw
   subst iw
   have my:ab C (bm C h b (some (.cells (d0 c W br) n iz))) b=some (.cells (d0 c W br) n iz):=by rw[e3 _ ai,Zr rfl]
   have ii:∀x,x≠b->ab C (bm C h b (some (.cells (d0 c W br) n iz))) x=ab C h x:=λx ag=>by rw[e3 _ ai,Zg ag]
   refine⟨S.put ai aI bc my (λx ag=> .inl (ii x ag)) XF ?_ (fin iz cV) ⟨λgx aY l aE=>(by cases aE;exact absurd rfl (Hq _)),λgx aY asr aE=>(by cases aE;exact MJ M ((S.fb b _ bc aI).2 _ _ _ rfl))⟩, ?_⟩
   ·intro x c6 dv ag dm e2
    rw[ii x dv]at ag
    exact S.alone ai aI bc xh x c6 dv ag dm e2
   ·exact⟨λ_ _=>rfl,λ_ a=>a,λ_ a=> .inl a,λx ag _=>ii x (λE=>ag (E▸aI)),BL⟩
  cases st with
  |own=>
   simp only[gK,Ze]at a
   exact plain .own ⟨Zs,Zs⟩ b2 Zs a.symm
  |marked=>
   simp only[gK,Ze]at a
   exact plain .marked ⟨Zs,Zs⟩ b2 Zs a.symm
  |grow fb=>
   simp only[gK,Ze]at a
   have qw:=(S.fb b _ bc aI).1 _ _ _ rfl
   subst a
   have my:ab C (bm C (o2 C fb h) b (some (.cells (d0 c W br) n (.grow [])))) b=some (.cells (d0 c W br) n (.grow [])):=by rw[e3 _ ai,Zr rfl]
   have ii:∀x,x≠b->ab C (bm C (o2 C fb h) b (some (.cells (d0 c W br) n (.grow [])))) x=if x∈fb then none else ab C h x:=λx ag=>by
    rw[e3 _ ai,Zg ag,W7 _ _ _ λj T=>(qw j T).2]
   refine⟨S.put ai aI bc my (λx ag=> ?_) XF ?_ (fin (.grow []) b2) ⟨λgx aY l aE=>(by cases aE;simp),λgx aY asr aE=>(by cases aE;exact MJ M ((S.fb b _ bc aI).2 _ _ _ rfl))⟩, ?_⟩
   ·rw[ii x ag];split
    ·exact .inr rfl
    ·exact .inl rfl
   ·intro x c6 dv ag dm e2
    rw[ii x dv]at ag
    split at ag
    ·cases ag
    ·rename_i Pz
     rcases(S.sep b x _ c6 bc ag aI dm (λar=>dv ar.symm) ai e2.symm).1 with ⟨_,_,_,_,ar,_⟩|⟨_,_,l,_,_,ar,_,aE,_⟩|⟨_,_,_,_,_,_,ar,_⟩
     ·cases ar
     ·cases ar;exact Pz aE
     ·cases ar
   ·exact⟨λ_ _=>rfl,λ_ a=>a,λ_ a=> .inl a,λx ag _=>by
     rw[ii x (λE=>ag (E▸aI)),Zg (λbi=>ag (qw x bi).1)],BL⟩
  |jJ=>simp at a
 ·simp at a
end
end Go.al

namespace Go.al
open Go.RowKit (Below)
def yi(C:aX)(K:cY)(Z:Nat->Prop)(h:U an)(k bg:Nat)(w:World)(s:Sem Next)(v:H)(V:U an)(av:Nat):Prop:=
 ∃c1 di bz n,s.run C.P w= .ok n bz/\(n= .value (aD c1 v)\/(n= .skip/\v=undef))/\b0 di v/\cS C c1 di V av bg bz/\hS C k K Z h bg w c1 di V bz/\k<=av
section
variable{C:aX}{K c1:cY}{Z di:Nat->Prop}{h V:U an}{k av bg:Nat}{w bz:World}
theorem putObj(S:cS C K Z h k bg w){cK b:Nat}{cJ kY:an}{j7 o':Obj}(ai:C.bj<=b)(aI:Z b)(gC:ab C h b=some cJ)(aG:C7 cJ)(ci:w.heap[(K b).cq]? =some j7)
 (XA:∀c E f,j7≠ .cells c E f)(bc:∀bz:World,bz.heap[(K b).cq]? =some o'->jn C K Z kY (K b) bz)(qw:tk C Z kY):
 ∃bz,(Go.setObj (K b).cq o').run C.P w= .ok () bz/\cS C K Z (bm C h b (some kY)) k bg bz/\hS C cK K Z h bg w K Z (bm C h b (some kY)) bz:=by
 have nu:(Go.setObj (K b).cq o').run C.P w= .ok () {w with heap:=w.heap.setIfInBounds (K b).cq o'}:=by
  cases j7<;>first
   |exact absurd rfl (XA _ _ _)
   |simp[Go.setObj,Sem.run,ci]
 obtain⟨bN,cg⟩:=MapKept.heap_set (o':=o') ci
 have my:ab C (bm C h b (some kY)) b=some kY:=by rw[e3 _ ai,Zr rfl]
 have ii:∀x,x≠b->ab C (bm C h b (some kY)) x=ab C h x:=λx ag=>by rw[e3 _ ai,Zg ag]
 have yX:=S.base b _ ai gC aI
 refine⟨_,nu,S.put ai aI gC my (λx ag=> .inl (ii x ag)) (λB aP=>cg B aP) ?_ (bc _ bN) qw, ?_⟩
 ·intro x c6 dv ag dm e2
  rw[ii x dv]at ag
  exact S.alone ai aI gC aG x c6 dv ag dm e2
 ·exact⟨λ_ _=>rfl,λ_ a=>a,λ_ a=> .inl a,λx ag _=>ii x (λE=>ag (E▸aI)),rfl,rfl,rfl,Zs,λB aP=>cg B Zo⟩
theorem x4{r:Nat}{W:an}{v:H}{res:dz}(a:setObj C h k r W v=some res):res= .eW v (bm C h r (some W)) k/\C.bj<=r:=by
 unfold setObj at a
 simp only[gK,d9,Ze]at a
 exact⟨a.2.symm,iT a.1⟩
theorem CN(S:cS C K Z h k bg w){cK r:Nat}{a2 jt:List (H×H×Nat)}{cw vr:Nat}{yt:Array MapEntry}(ai:C.bj<=r)(aI:Z r)(bc:ab C h r=some (.map a2 cw))
 (aG:yt.toList=jt.map (fo K))(bV:∀E∈jt,b0 Z E.1/\b0 Z E.2.1):
 ∃bz,(Go.setObj (K r).cq (.map yt vr)).run C.P w= .ok () bz/\cS C K Z (bm C h r (some (.map jt vr))) k bg bz/\hS C cK K Z h bg w K Z (bm C h r (some (.map jt vr))) bz:=by
 obtain⟨bU,M,_,_⟩:=S.obj r _ bc aI
 exact putObj S ai aI bc ⟨Zs,Zs⟩ M Zs (λbz pR=>⟨yt,pR,aG,bV⟩) ⟨λ_ _ _ a=>(by cases a),λ_ _ _ a=>(by cases a)⟩
theorem asR(S:cS C K Z h k bg w){s:Nat}{t:TypeId}{I v:H}{res:dz}(aH:iq C t=some s)(jb:b0 Z I)(fi:b0 Z v)(a:Mt C h k s I v=some res):
 ∃V,res= .eW undef V k/\∀ad:Sem Next,(∀bz,(Instr.storeAt t (aD K I) (aD K v)).run C.P w= .ok () bz->ad.run C.P w= .ok .skip bz)->yi C K Z h k bg w ad undef V k:=by
 unfold Mt at a
 split at a
 ·rename_i b W
  simp only[d9,Zk]at a
  obtain⟨⟨M,R⟩,a⟩:=a
  have M:v.cells.length=s:=Zi M
  split at a
  ·rename_i V iw
   simp at a
   obtain⟨bz,bN,cg,cH⟩:=F0 S (cK:=k) jb (sn fi) iw
   refine⟨V,a.symm,λad aZ=>⟨K,Z,bz, .skip,aZ bz ?_, .inr ⟨rfl,rfl⟩,by trivial,cg,cH,Zj _⟩⟩
   have eg:(aD K v).cells.size=s:=by rw[tr];simp[jr,M]
   simp only[Instr.storeAt,Instr.sureAddr,aD,Sem.run_bind,Sem.run_pure,Result.andThen_ok,storeVar,mG aH,eg,ne_eq,not_true_eq_false,Zx]
   simp only[tr]
   exact bN
  ·simp at a
 ·simp at a
theorem aok:∀(n:Nat),(∀(m:Nat) (x j:H),n<=m->b0 Z x->b0 Z j->nz n x j=true->Instr.sameBits m (aD K x) (aD K j)=true)/\
 ∀(m:Nat) (I b:List H),n<=m->dW Z I->dW Z b->nz.Aq n I b=true->(bI K I).length=(bI K b).length/\((bI K I).zip (bI K b)).all (λ(x,j)=>Instr.sameBits m x j)=true:=by
 intro n
 induction n with
 |zero=>
  refine⟨λm x j _ _ _ a=>by simp[nz]at a, ?_⟩
  intro m I
  induction I with
  |nil=>intro b _ _ _ a;cases b<;>simp[nz.Aq]at a<;>simp[bI]
  |cons x I _=>intro b _ _ _ a;cases b<;>simp[nz.Aq,nz]at a
 |succ n ah=>
  have one:∀(m:Nat) (x j:H),n+1<=m->b0 Z x->b0 Z j->nz (n+1) x j=true->Instr.sameBits m (aD K x) (aD K j)=true:=by
   intro m x j bi ek tK a
   obtain⟨m,rfl⟩:∃B,m=B+1:=⟨m-1,Zo⟩
   unfold nz at a
   split at a<;>(try(cases a;done))
   ·simpa[aD,Instr.sameBits]using a
   ·simp at a;obtain⟨rfl,rfl⟩:=a;simp[aD,Instr.sameBits]
   ·rename_i I b
    have:=(Ii _ _).1 a
    subst this
    simp only[aD,Instr.sameBits]
    rw[UP];simp
   ·rename_i b W ea o'
    simp only[Zk]at a
    have M:b=ea:=Zi a.1
    have R:W=o':=Zi a.2
    subst M;subst R
    simp[aD,Instr.sameBits]
   ·simp[aD,Instr.sameBits]
   ·simp[aD,Instr.sameBits]
   ·rename_i t v gV gO
    simp only[Zk]at a
    have M:t=gV:=Zi a.1
    subst M
    simp[aD,Instr.sameBits,ah.1 m v gO Zo ek tK a.2]
   ·rename_i I b
    obtain⟨bN,cg⟩:=ah.2 m I b Zo ek tK a
    simp only[aD,Instr.sameBits,Zk,YZ]
    exact⟨by simpa using bN,by simpa using cg⟩
  refine⟨one, ?_⟩
  intro m I
  induction I with
  |nil=>intro b _ _ _ a;cases b<;>simp[nz.Aq]at a<;>simp[bI]
  |cons x I l5=>
   intro b bi jb tG a
   cases b with
   |nil=>simp[nz.Aq]at a
   |cons j b=>
    simp only[nz.Aq,Zk]at a
    obtain⟨bN,cg⟩:=l5 b bi jb.2 tG.2 a.2
    simp only[bI,ZC,List.zip_cons_cons,List.all_cons,Zk]
    exact⟨Zo,one m x j bi jb.1 tG.1 a.1,cg⟩
theorem aaf{lr new:H}(go:b0 Z lr)(vz:b0 Z new)(a:nz 20 lr new=true):(Instr.keyThatStays (aD K lr) (aD K new)).run C.P w= .ok (aD K new) w:=by
 simp[Instr.keyThatStays,(aok (K:=K) (Z:=Z) 20).1 10000 lr new Zd go vz a]
theorem N3{bU:Array MapEntry}{a2:List (H×H×Nat)}{i:Nat}{E:H×H×Nat}(aG:bU.toList=a2.map (fo K))(a:a2[i]? =some E):bU[i]? =some (fo K E):=by
 rw[<-ZM,aG,Zv,a];rfl
theorem QP{bU:Array MapEntry}{a2:List (H×H×Nat)}{i:Nat}{E gk:H×H×Nat}(f:MapEntry->MapEntry)(aG:bU.toList=a2.map (fo K))(a:a2[i]? =some E)
 (b5:f (fo K E)=fo K gk):(bU.modify i f).toList=(a2.set i gk).map (fo K):=by
 apply YV
 intro aa
 rw[ZM,Y8,Zv,List.getElem?_set]
 have cR:i<a2.length:=(Zc.1 a).1
 by_cases E:i=aa
 ·subst E
  rw[Zr rfl,Zr rfl,Zr cR,N3 aG a]
  simp[b5]
 ·rw[Zg E,Zg E, <-ZM,aG,Zv]
theorem Ox{a2:List (H×H×Nat)}{i:Nat}{gk:H×H×Nat}(bV:∀E∈a2,b0 Z E.1/\b0 Z E.2.1)(aW:b0 Z gk.1/\b0 Z gk.2.1):∀E∈a2.set i gk,b0 Z E.1/\b0 Z E.2.1:=by
 intro E a
 rcases List.mem_or_eq_of_mem_set a with a|a
 ·exact bV E a
 ·rw[a];exact aW
theorem ags(S:cS C K Z h k bg w){t:Nat}{m B v:H}{res:dz}(mR:b0 Z m)(jw:b0 Z B)(fi:b0 Z v)(a:FX C h k t m B v=some res):
 ∃V bz,res= .eW undef V k/\(Instr.mapUpdate t (aD K m) (aD K B) (aD K v)).run C.P w= .ok () bz/\cS C K Z V k bg bz/\hS C k K Z h bg w K Z V bz:=by
 unfold FX at a
 split at a
 ·rename_i hd su r aZ
  split at a
  ·rename_i a2 cw bc
   simp only[d9]at a
   obtain⟨aP,a⟩:=a
   obtain⟨eE,oW⟩:=Lv aP
   obtain⟨bU,be,b2,a3,a4⟩:=rO S mR bc
   have M:=Jl (C:=C) (K:=K) (Z:=Z) (w:=w) (E:=false) 20 10000 hd B Zd jw aP
   split at a
   ·rename_i i ad b5
    have R:=Bx S oW jw a4 b5
    obtain⟨_,E,aW,rfl⟩:=J3 a2 0 i ad b5
    simp only[YH]at aW
    rw[m5,aW]at a
    obtain⟨eA,gO,born⟩:=E
    simp only[d9]at a
    obtain⟨KW,a⟩:=a
    obtain⟨rfl,ai⟩:=x4 a
    have bV:=a4 _ (Zp aW)
    obtain⟨bz,bN,cg,cH⟩:=CN S (cK:=k) ai mR bc (vr:=cw) (jt:=a2.set i (B,v,born)) (QP (λE=>{E with key:=aD K B,val:=aD K v}) a3 aW rfl) (Ox a4 ⟨jw,fi⟩)
    refine⟨_,bz,rfl, ?_,cg,cH⟩
    simp[Instr.mapUpdate,run_underlying aZ,aD,be,M,a3,R,po,N3 a3 aW,fo,aaf bV.1 jw KW,bN]
   ·rename_i b5
    have R:=Bx S oW jw a4 b5
    obtain⟨rfl,ai⟩:=x4 a
    obtain⟨bz,bN,cg,cH⟩:=CN S (cK:=k) ai mR bc (vr:=cw+1) (jt:=a2++[(B,v,cw)]) (yt:=bU.push {key:=aD K B,val:=aD K v,born:=cw}) (by simp[a3,fo])
     (λE aW=>(Zw.1 aW).elim (a4 E) (λaW=>by simp at aW;subst aW;exact⟨jw,fi⟩))
    refine⟨_,bz,rfl, ?_,cg,cH⟩
    simp[Instr.mapUpdate,run_underlying aZ,aD,be,M,a3,R,po,bN]
   ·simp at a
  ·simp at a
 ·simp at a
end
end Go.al

