/- Part of the proof of the last text; no conditions -/
import Derived.Test.YtbbkkkpgjaopkaaGreatDoorYb
import Derived.Laws.NewFold
import Derived.Laws.CopyRow
set_option maxHeartbeats 8000000
set_option linter.all false
namespace Go.bs
open Go.RowKit (Below)
section
variable{C:aT}{J:cU}{aa:Nat->Prop}{h:M ak}{j bj:Nat}{w:World}
def auo{α:Type}{P:Program}(f:α->PUnit->Sem (ForInStep PUnit)):∀(k:List α),(∀E∈k,(f E ⟨⟩).run P w= .ok (.yield ⟨⟩) w)->(forIn k PUnit.unit f).run P w= .ok ⟨⟩ w:=by
 intro k
 induction k with
 |nil=>intro _;simp[Sem.run_pure]
 |cons E k aj=>intro a;simp[List.forIn_cons,a E Zs,aj λb al=>a b (by simp[al])]
def V0{D:Bool}:∀(n m t:Nat) (v:y),n<=m->b7 aa v->nw C n t v=true->(Instr.checkKey D m t (aO J v)).run C.P w= .ok () w:=by
 intro n
 induction n with
 |zero=>intro m t v _ _ a;simp[nw]at a
 |succ n aj=>
  intro m t v bc bu a
  obtain⟨m,rfl⟩:∃q,m=q+1:=⟨m-1,Zo⟩
  unfold nw at a
  split at a
  ·rename_i im d x a6
   split at a
   ·rename_i i aF
    simp only[Zq]at a
    have:=aj m d x Zo bu a.2
    simp[Instr.checkKey,run_underlying a6,aO,typeInfo,aF,a.1,this]
   ·simp at a
  ·rename_i a6;simp[Instr.checkKey,run_underlying a6,aO]
  ·simp at a
  ·rename_i jT cs a6
   simp only[Instr.checkKey,Sem.run_bind,run_underlying a6,Result.andThen_ok,aO]
   rw[<-Array.forIn_toList]
   refine(congrArg (λr=>Result.andThen r _) (auo _ _ ?_)).trans rfl
   intro f bW
   have:=zm.1 a f bW
   simp only[zb,Y2]at this
   by_cases aI:f.name= "_"
   ·simp[aI]
   ·rcases this with H|H
    ·exact absurd H aI
    ·split at H
     ·rename_i p ay
      obtain⟨e3,g9⟩:=Hg (J:=J) (w:=w) bu ay
      simp[aI,e3,aj m f.type p Zo g9 H]
     ·simp at H
  ·simp at a
  ·simp at a
  ·rename_i d aM be bE a6 ct dP en
   simp only[Instr.checkKey,Sem.run_bind,run_underlying a6,Result.andThen_ok]
   cases d<;>first
    |exact(aM _ rfl).elim
    |exact(be _ rfl).elim
    |exact(bE _ _ rfl).elim
    |rfl
  ·simp at a
def WG{x:y}{q:IntKind}{E:Int}(a:aO J x= .int q E):x= .int q E:=by
 cases x<;>simp[aO]at a
 obtain⟨rfl,rfl⟩:=a;rfl
def WE{x:y}{E:Bool}(a:aO J x= .bool E):x= .bool E:=by
 cases x<;>simp[aO]at a
 subst a;rfl
def WH{x:y}{E:ByteArray}(a:aO J x= .string E):∃s,x= .str s/\E=bytesOf s:=by
 cases x<;>simp[aO]at a
 exact⟨_,rfl,a.symm⟩
def WA(E b:ByteArray):(E==b)=(E.toList==b.toList):=by
 show(E.data==b.data)=_
 rw[Z7,Y2,Y2,ByteArray.toList_eq,ByteArray.toList_eq]
 exact⟨λa=>by rw[a],λa=>Array.toList_inj.1 a⟩
def adZ{d t:Nat}{e2:TypeDesc}{x e:y}{r hH:Bool}(a6:C.P.underlying t=some e2)(ft:b7 aa x)(q4:b7 aa e)
 (a:nu C h d t x e=some r)(co:Instr.sameNow e2 (aO J x) (aO J e)=some hH):r=hH:=by
 cases d with
 |zero=>simp[nu]at a
 |succ d=>
  unfold Instr.sameNow at co
  split at co
  ·rename_i de q E ey b af B
   rw[WG af,WG B]at a
   simp[nu,a6]at a
   split at co
   ·simp at co;rw[<-co, <-a.2];rfl
   ·simp at co
  ·rename_i E b af B
   obtain⟨s,rfl,rfl⟩:=WH af
   obtain⟨fc,rfl,rfl⟩:=WH B
   simp[nu,a6]at a
   simp at co
   rw[<-co, <-a,WA,Tx ft q4]
  ·rename_i E b af B
   rw[WE af,WE B]at a
   simp[nu,a6]at a
   simp at co;rw[<-co, <-a]
  ·simp at co
def uh(J:cU)(r:Option (Nat×y)):Option (Nat×Value):=r.map λx=>(x.1,aO J x.2)
def ald{t:Nat}{e2:TypeDesc}{q:y}(a6:C.P.underlying t=some e2)(n7:b7 aa q):∀(ci:List (y×y×Nat)) (i:Nat) (r:Option (Nat×y)) (hH:Option (Nat×Value)),
 (∀D∈ci,b7 aa D.1/\b7 aa D.2.1)->findKey C h t q ci i=some r->Instr.findNow e2 (aO J q) (ci.map (lQ J)) i=some hH->hH=uh J r:=by
 intro ci
 induction ci with
 |nil=>intro i r hH _ a co;simp[findKey]at a;simp[Instr.findNow]at co;subst a;subst co;rfl
 |cons D ci aj=>
  intro i r hH bw a co
  obtain⟨ey,v,b⟩:=D
  simp only[findKey]at a
  simp only[ZJ,Instr.findNow,lQ]at co
  split at a
  ·rename_i bt
   simp at a;subst a
   split at co
   ·simp at co;rw[<-co];rfl
   ·rename_i aE
    have:=adZ a6 n7 (bw (ey,v,b) (Zt ..)).1 bt aE
    simp at this
   ·simp at co
  ·rename_i bt
   split at co
   ·rename_i aE
    have:=adZ a6 n7 (bw (ey,v,b) (Zt ..)).1 bt aE
    simp at this
   ·exact aj _ _ _ (λD bt=>bw D (by simp[bt])) a co
   ·simp at co
  ·simp at a
def ak8(V:c9 C J aa h j bj w){t:Nat}{q:y}(n7:b7 aa q):∀(ci:List (y×y×Nat)) (i:Nat) (r:Option (Nat×y)),
 (∀D∈ci,b7 aa D.1/\b7 aa D.2.1)->findKey C h t q ci i=some r->(Instr.findAsking t (aO J q) (ci.map (lQ J)) i).run C.P w= .ok (uh J r) w:=by
 intro ci
 induction ci with
 |nil=>intro i r _ a;simp[findKey]at a;subst a;simp[Instr.findAsking,uh]
 |cons D ci aj=>
  intro i r bw a
  obtain⟨ey,v,b⟩:=D
  simp only[findKey]at a
  have bc:20<=Op.maxDepth:=by decide
  split at a
  ·rename_i bt
   simp at a;subst a
   have:=OW V 20 _ t q ey true bc n7 (bw (ey,v,b) (Zt ..)).1 bt
   simp[Instr.findAsking,Op.equal,lQ,this,uh]
  ·rename_i bt
   have:=OW V 20 _ t q ey false bc n7 (bw (ey,v,b) (Zt ..)).1 bt
   simp[Instr.findAsking,Op.equal,lQ,this]
   exact aj _ _ (λD bt=>bw D (by simp[bt])) a
  ·simp at a
def PS(V:c9 C J aa h j bj w){t:Nat}{e2:TypeDesc}{q:y}{ci:List (y×y×Nat)}{r:Option (Nat×y)}(a6:C.P.underlying t=some e2)(n7:b7 aa q)
 (bw:∀D∈ci,b7 aa D.1/\b7 aa D.2.1)(a:findKey C h t q ci 0=some r):(Instr.findKey t (aO J q) (ci.map (lQ J))).run C.P w= .ok (uh J r) w:=by
 simp only[Instr.findKey,Sem.run_bind,run_underlying a6,Result.andThen_ok]
 split
 ·rename_i hH co
  rw[ald a6 n7 ci 0 r hH bw a co];rfl
 ·exact ak8 V n7 ci 0 r bw a
def Xp{t:Nat}{q:y}:∀(ci:List (y×y×Nat)) (i Y:Nat) (v:y),findKey C h t q ci i=some (some (Y,v))->i<=Y/\∃D,ci[Y-i]? =some D/\D.2.1=v:=by
 intro ci
 induction ci with
 |nil=>intro i Y v a;simp[findKey]at a
 |cons D ci aj=>
  intro i Y v a
  obtain⟨ey,gj,b⟩:=D
  simp only[findKey]at a
  split at a
  ·simp at a
   obtain⟨rfl,rfl⟩:=a
   exact⟨Zj _,(ey,gj,b),Zs,rfl⟩
  ·obtain⟨H,D,K,am⟩:=aj _ _ _ a
   refine⟨Zo,D, ?_,am⟩
   rw[show Y-i=(Y-(i+1))+1 by omega]
   simpa using K
  ·simp at a
def abX{t d:Nat}{q:y}(a:nw C d t q=true):∃e2,C.P.underlying t=some e2:=by
 cases d with
 |zero=>simp[nw]at a
 |succ d=>
  cases a6:C.P.underlying t with
  |none=>simp[nw,a6]at a
  |some e2=>exact⟨e2,rfl⟩
def Jr(V:c9 C J aa h j bj w){r:Nat}{ci:List (y×y×Nat)}{fL:Nat}(aH:aa r)(a:Z C h r=some (.map ci fL)):
 ∃cd,(getObj (J r).cA).run C.P w= .ok (.map cd fL) w/\w.heap[(J r).cA]? =some (.map cd fL)/\cd.toList=ci.map (lQ J)/\∀D∈ci,b7 aa D.1/\b7 aa D.2.1:=by
 obtain⟨cd,H,K,am⟩:=V.obj r _ a aH
 exact⟨cd,MapKept.run_getObj_map H,H,K,am⟩
def acs{t:Nat}{q:y}{E b:List (y×y)}(a:E.Perm b):∀r,pf C h t q E=some r->pf C h t q b=some r:=by
 induction a with
 |nil=>exact λ_ a=>a
 |cons x _ aj=>
  obtain⟨ey,v⟩:=x
  intro r a
  simp only[pf]at a ⊢
  split at a
  ·rename_i V bt
   rw[aj _ V,bt];simpa using a
  ·rename_i V bt
   rw[aj _ V,bt];simpa using a
  ·cases a
 |swap x e k=>
  obtain⟨aqX,NY⟩:=x
  obtain⟨aqY,NZ⟩:=e
  intro r a
  simp only[pf]at a ⊢
  cases aB:pf C h t q k with
  |none=>simp[aB]at a
  |some gq=>
   simp only[aB]at a
   cases af:nu C h 20 t q aqX with
   |none=>rw[af]at a;cases gq<;>simp at a
   |some Wy=>
    cases B:nu C h 20 t q aqY with
    |none=>
     rw[af,B]at a
     cases Wy<;>cases gq<;>simp at a
    |some ajr=>
     rw[af,B]at a
     cases Wy<;>cases ajr<;>cases gq<;>simp at a ⊢ <;>exact a
 |trans _ _ R5 I5=>exact λr a=>I5 r (R5 r a)
def acr{t:Nat}{q:y}:∀(ci:List (y×y×Nat)) (i:Nat) (r:Option y),pf C h t q (ci.map λD=>(D.1,D.2.1))=some r->∃hH,findKey C h t q ci i=some hH/\hH.map (·.2)=r:=by
 intro ci
 induction ci with
 |nil=>intro i r a;simp[pf]at a;subst a;exact⟨none,rfl,rfl⟩
 |cons D ci aj=>
  obtain⟨ey,gj,b⟩:=D
  intro i r a
  simp only[ZJ,pf]at a
  simp only[findKey]
  split at a
  ·rename_i gq V bt
   simp at a;subst a
   rw[bt]
   exact aj (i+1) _ V
  ·rename_i V bt
   simp at a;subst a
   rw[bt]
   exact⟨some (i,gj),rfl,rfl⟩
  ·cases a
def aiw(V:c9 C J aa h j bj w){t:Nat}{m q v:y}{ok:Bool}(An:b7 aa m)(n7:b7 aa q)(a:KG C h t m q ok=some v):
 (Instr.lookup t (aO J m) (aO J q) ok).run C.P w= .ok (aO J v) w/\b7 aa v:=by
 unfold KG at a
 split at a
 ·rename_i jG Ad a6
  have key:∀(ci:List (y×y×Nat)) (cd:Array MapEntry) (r:Option (Nat×y)),cd.toList=ci.map (lQ J)->(∀D∈ci,b7 aa D.1/\b7 aa D.2.1)->nw C 20 jG q=true->findKey C h jG q ci 0=some r->
   (match r with|none=>(match sT C Ad with|some bo=>some (bH ok (.tuple [bo, .bool false]) bo)|none=>none)|some (_,v)=>some (bH ok (.tuple [v, .bool true]) v))=some v->
   (do
    Instr.checkKey cd.isEmpty 10000 jG (aO J q)
    let(v,W)<-match<-Instr.findKey jG (aO J q) cd.toList with
     |some (_,v)=>pure (v,true)
     |none=>pure (<-zeroValue Ad,false)
    pure (if ok then .tuple #[v, .bool W]else v):Sem Value).run C.P w= .ok (aO J v) w/\b7 aa v:=by
   intro ci cd r aD bw aG bW bu
   obtain⟨e2,L6⟩:=abX aG
   have H:=V0 (C:=C) (J:=J) (aa:=aa) (w:=w) (D:=cd.isEmpty) 20 10000 jG q Zd n7 aG
   have K:=PS V L6 n7 bw bW
   rw[aD]
   cases r with
   |none=>
    simp only at bu
    split at bu
    ·rename_i bo cf
     obtain⟨fs,fC⟩:=Ed cf J aa w
     simp at bu;subst bu
     cases ok
     ·exact⟨by simp[H,K,uh,fs],fC⟩
     ·exact⟨by simp[H,K,uh,fs,aO,bO],⟨fC,trivial,trivial⟩⟩
    ·simp at bu
   |some p=>
    obtain⟨Y,ab⟩:=p
    simp at bu;subst bu
    obtain⟨_,D,bt,rfl⟩:=Xp ci 0 Y ab bW
    have aav:=(bw D (Zh bt)).2
    cases ok
    ·exact⟨by simp[H,K,uh],aav⟩
    ·exact⟨by simp[H,K,uh,aO,bO],⟨aav,trivial,trivial⟩⟩
  split at a
  ·simp at a
  ·rename_i bc
   split at bc
   ·simp only[eF,Zc]at bc
    have:=key [] #[] none rfl Zs bc.1 (by simp[findKey]) a
    refine⟨?_,this.2⟩
    rw[<-this.1]
    simp only[Instr.lookup,Sem.run_bind,run_underlying a6,Result.andThen_ok,aO,Sem.run_pure]
    rfl
   ·rename_i r
    split at bc
    ·rename_i ci fL bd
     simp only[eF]at bc
     obtain⟨cd,H,_,K,am⟩:=Jr V An bd
     have:=key ci cd none K am bc.1 bc.2 a
     refine⟨?_,this.2⟩
     rw[<-this.1]
     simp only[Instr.lookup,Sem.run_bind,run_underlying a6,Result.andThen_ok,aO,Sem.run_pure,H]
     rfl
    ·rename_i ci bd
     simp only[eF]at bc
     obtain⟨cd,fL,me,H,K,aC,am⟩:=V.obj r _ bd An
     have bI:pf C h jG q ci=some none:=by
      have:=bc.2
      unfold Ga at this
      split at this<;>simp at this
      all_goals(rename_i ai;first|(rw[ai,this.2])|exact ai|(rw[ai];simp[this]))
     obtain⟨hH,ef,eX⟩:=acr me 0 _ (acs aC.symm _ bI)
     cases hH with
     |none=>
      have:=key me cd none K am bc.1 ef a
      refine⟨?_,this.2⟩
      rw[<-this.1]
      simp only[Instr.lookup,Sem.run_bind,run_underlying a6,Result.andThen_ok,aO,Sem.run_pure,MapKept.run_getObj_map H]
      rfl
     |some p=>
      obtain⟨e3,g9⟩:=p
      simp at eX
    ·simp at bc
   ·simp at bc
  ·rename_i Y ab bc
   split at bc
   ·simp only[eF]at bc
    simp at bc
   ·rename_i r
    split at bc
    ·rename_i ci fL bd
     simp only[eF]at bc
     obtain⟨cd,H,_,K,am⟩:=Jr V An bd
     have:=key ci cd (some (Y,ab)) K am bc.1 bc.2 a
     refine⟨?_,this.2⟩
     rw[<-this.1]
     simp only[Instr.lookup,Sem.run_bind,run_underlying a6,Result.andThen_ok,aO,Sem.run_pure,H]
     rfl
    ·rename_i ci bd
     simp only[eF]at bc
     obtain⟨cd,fL,me,H,K,aC,am⟩:=V.obj r _ bd An
     have bI:pf C h jG q ci=some (some ab):=by
      have:=bc.2
      unfold Ga at this
      split at this<;>simp at this
      all_goals(rename_i ai;first|(rw[ai,this.2])|exact ai|(rw[ai];simp[this]))
     obtain⟨hH,ef,eX⟩:=acr me 0 _ (acs aC.symm _ bI)
     cases hH with
     |none=>
      simp at eX
     |some p=>
      obtain⟨e3,g9⟩:=p
      simp at eX
      subst eX
      have:=key me cd (some (e3,g9)) K am bc.1 ef a
      refine⟨?_,this.2⟩
      rw[<-this.1]
      simp only[Instr.lookup,Sem.run_bind,run_underlying a6,Result.andThen_ok,aO,Sem.run_pure,MapKept.run_getObj_map H]
      rfl
    ·simp at bc
   ·simp at bc
 ·simp at a
end
section
variable{C:aT}{J:cU}{aa:Nat->Prop}{h:M ak}{j bj:Nat}{w:World}
def aq5{t f:Nat}{x:Operand}{ax:Operand->Value}{eg:Operand->Option y}{v:y}(cw:jk J aa ax eg [x])
 (a:Jf C t x f h eg=some v):(Instr.field t (ax x) f).run C.P w= .ok (aO J v) w/\b7 aa v:=by
 unfold Jf at a
 split at a
 ·rename_i jT cs a6 af
  obtain⟨D,g⟩:=cw x Zs _ af
  rw[D]
  rw[rs]at a
  split at a
  ·rename_i r5 bW
   have qt:jT[f]? =some r5:=by rw[<-bW];simp
   obtain⟨H,K⟩:=Hg (J:=J) (w:=w) g a
   refine⟨?_,K⟩
   simp[Instr.field,run_underlying a6,qt,asAgg,aO,H]
  ·simp at a
 ·simp at a
def aq6{t:Nat}{x:Operand}{ax:Operand->Value}{eg:Operand->Option y}{v:y}(cw:jk J aa ax eg [x])
 (a:Jg C t x h eg=some v):(Instr.makeInterface t (ax x)).run C.P w= .ok (aO J v) w/\b7 aa v:=by
 unfold Jg at a
 split at a
 ·simp at a
 ·rename_i d ab aI a6 af
  obtain⟨D,g⟩:=cw x Zs _ af
  simp at a;subst a
  refine⟨?_,g⟩
  rw[D]
  cases d<;>first|exact(aI _ rfl).elim|simp[Instr.makeInterface,run_underlying a6,aO]
 ·simp at a
def aq2{x:Operand}{t uf:Nat}{ok:Bool}{ax:Operand->Value}{eg:Operand->Option y}{v:y}(cw:jk J aa ax eg [x])
 (a:Jd C x uf ok h eg=some v):(Instr.typeAssert (ax x) t uf ok).run C.P w= .ok (aO J v) w/\b7 aa v:=by
 unfold Jd at a
 split at a
 ·simp at a
 ·rename_i d aI a6 af
  obtain⟨D,g⟩:=cw x Zs _ af
  rw[D]
  simp only[eF]at a
  obtain⟨rfl,a⟩:=a
  split at a
  ·rename_i bo cf
   simp at a;subst a
   obtain⟨fs,fC⟩:=Ed cf J aa w
   refine⟨?_,fC,trivial,trivial⟩
   cases d<;>first|exact(aI _ rfl).elim|simp[Instr.typeAssert,run_underlying a6,aO,bO,fs]
  ·simp at a
 ·rename_i d ga ab aI a6 af
  obtain⟨D,g⟩:=cw x Zs _ af
  rw[D]
  rw[hn]at a
  split at a
  ·rename_i bt
   subst bt
   simp at a
   cases ok
   ·simp at a;subst a
    refine⟨?_,g⟩
    cases d<;>first|exact(aI _ rfl).elim|simp[Instr.typeAssert,run_underlying a6,aO]
   ·simp at a;subst a
    refine⟨?_,g,trivial,trivial⟩
    cases d<;>first|exact(aI _ rfl).elim|simp[Instr.typeAssert,run_underlying a6,aO,bO]
  ·rename_i bt
   simp only[eF]at a
   obtain⟨rfl,a⟩:=a
   split at a
   ·rename_i bo cf
    simp at a;subst a
    obtain⟨fs,fC⟩:=Ed cf J aa w
    refine⟨?_,fC,trivial,trivial⟩
    cases d<;>first|exact(aI _ rfl).elim|simp[Instr.typeAssert,run_underlying a6,aO,bO,fs,bt]
   ·simp at a
 ·simp at a
def aiu(V:c9 C J aa h j bj w){t:Nat}{cX:Array TypeId}{ty:TypeId}{x v:y}{rest:List TypeId}(aD:cX.toList=t::rest)(ft:b7 aa x)(a:KF C h t x=some v):
 (Builtin.len_ cX ty #[aO J x]).run C.P w= .ok (aO J v) w/\b7 aa v:=by
 have uv:cX[0]? =some t:=by rw[<-ZO,aD];rfl
 unfold KF at a
 split at a<;>(try simp only[abH]at a)
 ·rename_i s a6
  simp at a;subst a
  refine⟨?_,trivial⟩
  have aE:(bytesOf s).size=s.length:=by simp[bytesOf,ByteArray.size]
  simp[Builtin.len_,uv,run_underlying a6,aO,goInt,aE]
 ·rename_i n tb a6
  simp at a;subst a
  refine⟨?_,trivial⟩
  simp[Builtin.len_,uv,run_underlying a6,goInt]
  simp[aO]
 ·rename_i cd a6
  split at a
  ·rename_i n tb IW
   simp at a;subst a
   refine⟨?_,trivial⟩
   simp[Builtin.len_,uv,run_underlying a6,run_underlying IW,goInt]
   simp[aO]
  ·simp at a
 ·rename_i a6
  simp at a;subst a
  refine⟨?_,trivial⟩
  simp[Builtin.len_,uv,run_underlying a6,aO,goInt]
 ·rename_i a6
  simp at a;subst a
  refine⟨?_,trivial⟩
  simp[Builtin.len_,uv,run_underlying a6,aO,goInt]
 ·rename_i a6
  simp at a;subst a
  refine⟨?_,trivial⟩
  simp[Builtin.len_,uv,run_underlying a6,aO,goInt]
 ·rename_i a6
  simp at a;subst a
  refine⟨?_,trivial⟩
  simp[Builtin.len_,uv,run_underlying a6,aO,goInt]
 ·rename_i r a6
  split at a
  ·rename_i ci fL bd
   simp at a;subst a
   obtain⟨cd,H,K,am,aC⟩:=Jr V ft bd
   refine⟨?_,trivial⟩
   have:cd.size=ci.length:=by rw[<-Array.length_toList,am,Zp]
   simp[Builtin.len_,uv,run_underlying a6,aO,goInt,H,this]
  ·simp at a
 ·simp at a
def ain{t:Nat}{cX:Array TypeId}{ty:TypeId}{x v:y}{rest:List TypeId}(aD:cX.toList=t::rest)(a:KC C t x=some v):
 (Builtin.cap_ cX ty #[aO J x]).run C.P w= .ok (aO J v) w/\b7 aa v:=by
 have uv:cX[0]? =some t:=by rw[<-ZO,aD];rfl
 unfold KC at a
 split at a<;>(try simp only[abH]at a)
 ·rename_i a6
  simp at a;subst a
  refine⟨?_,trivial⟩
  simp[Builtin.cap_,uv,run_underlying a6,aO,goInt]
 ·rename_i a6
  simp at a;subst a
  refine⟨?_,trivial⟩
  simp[Builtin.cap_,uv,run_underlying a6,aO,goInt]
 ·simp at a
def aiy:∀(k:List y) (x v:y),oG true x k=some v->((bO J k).foldlM Builtin.max2 (aO J x)).run C.P w= .ok (aO J v) w/\(b7 aa x->b7 aa v):=by
 intro k
 induction k with
 |nil=>intro x v a;cases x<;>simp[oG]at a<;>subst a<;>simp[bO]
 |cons e k aj=>
  intro x v a
  unfold oG at a
  split at a
  ·rename_i bi;simp at bi
  ·rename_i q E ey b cb dJ
   simp only[za]at dJ
   obtain⟨rfl,rfl⟩:=dJ
   obtain⟨H,K⟩:=aj _ _ a
   refine⟨?_,λ_=>K trivial⟩
   simp only[bO,List.foldlM_cons,Sem.run_bind,aO,Builtin.max2,Sem.run_pure,Result.andThen_ok]
   simp only[eW,tz,eQ,Zi,aO]at H
   exact H
  ·simp at a
def aiz:∀(k:List y) (x v:y),oG false x k=some v->((bO J k).foldlM Builtin.min2 (aO J x)).run C.P w= .ok (aO J v) w/\(b7 aa x->b7 aa v):=by
 intro k
 induction k with
 |nil=>intro x v a;cases x<;>simp[oG]at a<;>subst a<;>simp[bO]
 |cons e k aj=>
  intro x v a
  unfold oG at a
  split at a
  ·rename_i bi;simp at bi
  ·rename_i q E ey b cb dJ
   simp only[za]at dJ
   obtain⟨rfl,rfl⟩:=dJ
   obtain⟨H,K⟩:=aj _ _ a
   refine⟨?_,λ_=>K trivial⟩
   simp only[bO,List.foldlM_cons,Sem.run_bind,aO,Builtin.min2,Sem.run_pure,Result.andThen_ok]
   simp only[kp,tz,eQ,Zi,aO]at H
   exact H
  ·simp at a
end
section
variable{C:aT}{J:cU}{aa:Nat->Prop}{h:M ak}{j bj:Nat}{w:World}
def jk.mono{ax:Operand->Value}{eg:Operand->Option y}{k cb:List Operand}(a:jk J aa ax eg k)(aE:∀x∈cb,x∈k):jk J aa ax eg cb:=λx af v bu=>a x (aE x af) v bu
def PN{ax:Operand->Value}{eg:Operand->Option y}{W:Option Operand}{r:Option y}(cw:jk J aa ax eg W.toList)(a:Bz eg W=some r):W.map ax=r.map (aO J):=by
 cases W with
 |none=>simp[Bz]at a;subst a;rfl
 |some x=>
  simp only[Bz]at a
  split at a
  ·rename_i v bu
   simp at a;subst a
   simp[(cw x Zs v bu).1]
  ·simp at a
def aiv(V:c9 C J aa h j bj w){oper:Oper}{ax:Operand->Value}{eg:Operand->Option y}{v:y}(cw:jk J aa ax eg oper.op.operands.toList)
 (a:nZ oper.op C h eg=some v):Kl J aa C.P w (execOp ax oper) v:=by
 obtain⟨dst,op,type,pos,after,guard⟩:=oper
 cases op<;>simp only[nZ]at a<;>(try(cases a;done))<;>simp only[execOp]<;>simp only[Op.operands]at cw
 case build t parts=>
  refine n1 ?_
  unfold Sg at a
  split at a
  ·rename_i da RE
   obtain⟨H,K⟩:=Xd (by simpa using cw) RE
   have:=ail (J:=J) (w:=w) K a
   rw[<-H]at this
   have D:(parts.map λx=>(x.1,ax x.2))=(parts.toList.map λx=>(x.1,ax x.2)).toArray:=by apply Y7;simp
   rw[D];exact this
  ·simp at a
 case binOp op t x e GP=>exact n1 (aq3 V (by simpa using cw) a)
 case unOp op t x=>
  refine n1 ?_
  unfold So at a
  split at a
  ·rename_i E aD
   rw[(cw x Zs E aD).1]
   exact aiE a
  ·simp at a
 case convert s d x=>exact n1 (aq4 V (by simpa using cw) a)
 case makeInterface t x=>exact n1 (aq6 (by simpa using cw) a)
 case makeFunc fn first fy=>
  refine n1 ?_
  unfold Sk at a
  split at a
  ·rename_i E b aD al
   split at a
   ·simp at a;subst a
    obtain⟨a7,b2⟩:=vs (cw.mono (by simp;intro x af;exact .inl af)) aD
    obtain⟨b4,cr⟩:=vs (cw.mono (by simp;intro x af;exact .inr af)) al
    refine⟨?_,trivial,b2,cr⟩
    simp[Instr.makeFunc,a7,b4,aO,m4]
   ·simp at a
  ·simp at a
 case slice t x bR aF g3=>
  refine n1 ?_
  unfold Sn at a
  split at a
  ·rename_i E k co m aD aB f8 bc
   have H:=cw x Zs E aD
   have K:=PN (cw.mono (by simp;intro x af;exact .inr (.inl af))) aB
   have am:=PN (cw.mono (by simp;intro x af;exact .inr (.inr (.inl af)))) f8
   have aC:=PN (cw.mono (by simp;intro x af;exact .inr (.inr (.inr af)))) bc
   rw[H.1,K,am,aC]
   exact aiB V H.2 a
  ·simp at a
 case field t x f=>exact n1 (aq5 (by simpa using cw) a)
 case index t x i=>
  refine n1 ?_
  unfold Sl at a
  split at a
  ·rename_i E b aD al
   have H:=cw x Zs E aD
   rw[H.1,(cw i Zs b al).1]
   exact ais H.2 a
  ·simp at a
 case lookup t m q ok=>
  refine n1 ?_
  unfold Sm at a
  split at a
  ·rename_i E b aD al
   have H:=cw m Zs E aD
   have K:=cw q Zs b al
   rw[H.1,K.1]
   exact aiw V H.2 K.2 a
  ·simp at a
 case typeAssert x t uf ok=>exact n1 (aq2 (by simpa using cw) a)
 case call c=>
  unfold Si at a
  split at a
  ·rename_i b args cX
   simp only[Call.operands]at cw
   have Mz:jk J aa ax eg args.toList:=cw.mono Zs
   unfold Sh at a
   split at a
   ·rename_i x af
    obtain⟨a7,b2⟩:=vs Mz af
    split at a
    ·rename_i t rest aD
     obtain⟨H,K⟩:=aiu (ty:=type) V aD b2.1 a
     refine⟨?_,K⟩
     simp[resolve,invoke,builtin,a7,bO,H]
    ·simp at a
   ·rename_i x af
    obtain⟨a7,b2⟩:=vs Mz af
    split at a
    ·rename_i t rest aD
     obtain⟨H,K⟩:=ain (J:=J) (aa:=aa) (w:=w) (ty:=type) aD a
     refine⟨?_,K⟩
     simp[resolve,invoke,builtin,a7,bO,H]
    ·simp at a
   ·rename_i x k af
    obtain⟨a7,b2⟩:=vs Mz af
    obtain⟨H,K⟩:=aiy (C:=C) (J:=J) (aa:=aa) (w:=w) k x v a
    refine⟨?_,K b2.1⟩
    simp[resolve,invoke,builtin,Builtin.max_,a7,bO,H]
   ·rename_i x k af
    obtain⟨a7,b2⟩:=vs Mz af
    obtain⟨H,K⟩:=aiz (C:=C) (J:=J) (aa:=aa) (w:=w) k x v a
    refine⟨?_,K b2.1⟩
    simp[resolve,invoke,builtin,Builtin.min_,a7,bO,H]
   ·simp at a
  ·simp at a
def acj(V:c9 C J aa h j bj w){oper:Oper}{ax:Operand->Value}{wr:List (Nat×Nat)}{aq:List (Nat×y)}{I:M y}{c:jM}{v:y}
 (cw:jk J aa ax (jb wr aq I) oper.op.operands.toList)(aA:lN C wr oper.op=some c)(a:gM c C h aq I=some v):Kl J aa C.P w (execOp ax oper) v:=by
 have rest:∀W,oper.op=W->c= .h2 wr W->Kl J aa C.P w (execOp ax oper) v:=by
  intro W bd C1
  subst C1;subst bd
  exact aiv V cw a
 obtain⟨dst,op,type,pos,after,guard⟩:=oper
 cases op<;>simp only[lN]at aA<;>simp only[Op.operands]at cw
 case move x=>
  split at aA
  ·rename_i iL af
   simp at aA;subst aA
   simp only[gM,ny af]at a
   obtain⟨H,K⟩:=cw x Zs v a
   exact⟨by simp[execOp,H],K⟩
  ·simp at aA
 case assign x=>
  split at aA
  ·rename_i iL af
   simp at aA;subst aA
   simp only[gM,ny af]at a
   obtain⟨H,K⟩:=cw x Zs v a
   exact⟨by simp[execOp,H],K⟩
  ·simp at aA
 case pick gC E b=>
  split at aA
  ·rename_i awM gd cQ QS aD al
   simp at aA;subst aA
   simp only[gM,ny QS]at a
   split at a
   ·rename_i ab a6
    obtain⟨H,K⟩:=cw gC Zs ab a6
    unfold N9 at a
    split at a
    ·rename_i t
     rw[ny aD,ny al]at a
     simp only[execOp,H,aO]
     cases t
     ·obtain⟨am,aC⟩:=cw b Zs v (by simpa using a)
      exact⟨by simp[asBool,am],aC⟩
     ·obtain⟨am,aC⟩:=cw E Zs v (by simpa using a)
      exact⟨by simp[asBool,am],aC⟩
    ·simp at a
   ·simp at a
  ·simp at aA
 case load t E=>
  split at aA
  ·rename_i gd s aD H K
   simp at aA;subst aA
   simp only[gM,ny aD]at a
   split at a
   ·rename_i ab a6
    obtain⟨am,aC⟩:=cw E Zs ab a6
    simp only[execOp,am]
    exact n1 (V2 V H K aC a)
   ·simp at a
  ·rename_i gd aD H
   simp at aA;subst aA
   simp only[gM,ny aD]at a
   split at a
   ·rename_i ab a6
    obtain⟨am,aC⟩:=cw E Zs ab a6
    simp only[execOp,am]
    exact n1 (V1 V H aC a)
   ·simp at a
  ·simp at aA
 case fieldAddr s x f=>
  split at aA
  ·rename_i jT iL a6 af
   rw[rs]at aA
   split at aA
   ·rename_i r5 bW
    split at aA
    ·rename_i bo cf
     simp only[ES]at aA
     obtain⟨lz,aA⟩:=aA
     simp at aA;subst aA
     simp only[gM,ny af]at a
     split at a
     ·rename_i ab tu
      obtain⟨am,aC⟩:=cw x Zs ab tu
      simp only[execOp,am]
      exact n1 (ak4 a6 bW cf (by intro D;subst D;simp at lz) aC a)
     ·simp at a
    ·simp at aA
   ·simp at aA
  ·simp at aA
 case indexAddr t x i=>
  split at aA
  ·rename_i n d6 iL cx a6 af aF
   split at aA
   ·rename_i aN cf
    simp at aA;subst aA
    simp only[gM,ny af,ny aF]at a
    split at a
    ·rename_i ab tu
     split at a
     ·rename_i Y bD
      split at a
      ·rename_i aS aI
       obtain⟨q,rfl⟩:=DS aI
       obtain⟨am,aC⟩:=cw x Zs ab tu
       obtain⟨bm,b1⟩:=cw i Zs _ bD
       simp only[execOp,am,bm,aO]
       exact n1 (aqv a6 cf aC a)
      ·simp at a
     ·simp at a
    ·simp at a
   ·simp at aA
  ·rename_i d6 iL cx a6 af aF
   split at aA
   ·rename_i aN cf
    simp at aA;subst aA
    simp only[gM,ny af,ny aF]at a
    split at a
    ·rename_i ab tu
     split at a
     ·rename_i Y bD
      split at a
      ·rename_i aS aI
       obtain⟨q,rfl⟩:=DS aI
       obtain⟨am,aC⟩:=cw x Zs ab tu
       obtain⟨bm,b1⟩:=cw i Zs _ bD
       simp only[execOp,am,bm,aO]
       exact n1 (aqy a6 cf aC a)
      ·simp at a
     ·simp at a
    ·simp at a
   ·simp at aA
  ·simp at aA
 case nilCheck x=>
  split at aA
  ·rename_i iL af
   simp at aA;subst aA
   simp only[gM,ny af]at a
   split at a
   ·rename_i ab a6
    obtain⟨am,aC⟩:=cw x Zs ab a6
    obtain⟨rfl,bm⟩:=awy (C:=C) (J:=J) (w:=w) aC a
    exact⟨bm _ ax x rfl am,aC⟩
   ·simp at a
  ·simp at aA
 case binOp op t x e GP=>
  rw[eQ]at aA
  split at aA
  ·split at aA
   ·rename_i iL ay9 af B
    simp at aA;subst aA
    simp only[gM,ny af,ny B]at a
    split at a
    ·rename_i E aD
     split at a
     ·rename_i b al
      obtain⟨H,K⟩:=cw x Zs E aD
      obtain⟨am,aC⟩:=cw e Zs b al
      obtain⟨bm,b1,q,i,ey,Y,rfl,rfl⟩:=VZ (C:=C) (J:=J) (aa:=aa) (w:=w) t a
      simp only[execOp,H,am]
      refine n1 ⟨?_,b1⟩
      rw[Sem.run_bind,Lf (by simp[E2])]
      exact bm
     ·simp at a
    ·simp at a
   ·simp at aA
  ·simp at aA;exact rest _ rfl aA.symm
 case extract x i=>
  split at aA
  ·rename_i iL af
   simp at aA;subst aA
   simp only[gM,ny af]at a
   split at a
   ·rename_i ab a6
    obtain⟨am,aC⟩:=cw x Zs ab a6
    simp only[execOp,am]
    exact n1 (awx aC a)
   ·simp at a
  ·simp at aA
 case convert s d x=>
  rw[eQ]at aA
  split at aA
  ·simp at aA;subst aA;simp[gM]at a
  ·simp at aA;exact rest _ rfl aA.symm
 case store t E x=>
  split at aA
  ·simp at aA;subst aA;simp[gM]at a
  ·simp at aA
 case makeMap t r=>cases r<;>simp[lN]at aA<;>subst aA<;>simp[gM]at a
 case call xc=>
  obtain⟨callee,args,cX⟩:=xc
  cases callee with
  |builtin b=>
   cases b<;>simp[lN]at aA<;>first
    |exact rest _ rfl aA.symm
    |(subst aA;simp[gM]at a)
  |value f=>
   cases f<;>simp[lN]at aA
   all_goals first
    |(subst aA;simp[gM]at a;done)
    |(
      split at aA
      ·simp at aA;subst aA;simp[gM]at a
      ·simp at aA)
  |invoke r m=>simp[lN]at aA;subst aA;simp[gM]at a
 all_goals(simp at aA;first|exact rest _ rfl aA.symm|(subst aA;simp[gM]at a))
end
def fF{C:aT}{h:M ak}{b:Nat}(W:Option ak)(al:C.aY<=b)(x:Nat):Z C (bl C h b W) x=if x=b then W else Z C h x:=by
 unfold Z bl
 rw[eQ,eQ]
 by_cases af:Nat.blt x C.aY=true
 ·have:=j4 af
  rw[Zu af,Zu af,Zg Zo]
 ·have qB:C.aY<=x:=by
   rcases Y8 x C.aY with a|a
   ·exact absurd (by simp[Nat.blt];omega) af
   ·exact a
  rw[Zg af,Zg af,M.j7]
  show(if b-C.aY=x-C.aY then W else h.get (x-C.aY))=_
  by_cases D:x=b
  ·rw[Zu Zo,Zu D]
  ·rw[Zg Zo,Zg D];rfl
def aat{C:aT}:∀(k:List Nat) (h:M ak) (x:Nat),(∀b∈k,C.aY<=b)->Z C (mM C k h) x=if x∈k then none else Z C h x:=by
 intro k
 induction k with
 |nil=>intro h x _;simp[mM]
 |cons b k aj=>
  intro h x a
  simp only[mM]
  rw[aj _ _ (λc aA=>a c (by simp[aA])),fF _ (a b Zs)]
  by_cases af:x∈k
  ·simp[af]
  ·by_cases D:x=b
   ·simp[D]
   ·simp[af,D]
def gb(J:cU)(b:Nat)(pl:mz):cU:=λx=>if x=b then pl else J x
def add(aa:Nat->Prop)(b:Nat):Nat->Prop:=λx=>aa x\/x=b
structure is(C:aT)(c5:Nat)(J:cU)(aa:Nat->Prop)(h:M ak)(bj:Nat)(w:World)(c0:cU)(dn:Nat->Prop)(R:M ak)(w':World):Prop where
 iJ:∀b,aa b->c0 b=J b
 jw:∀b,aa b->dn b
 new:∀b,dn b->aa b\/c5<=b
 ad:∀b,¬aa b->b<c5->Z C R b=Z C h b
 below:Below bj w w'
def is.refl{C:aT}{c5:Nat}{J:cU}{aa:Nat->Prop}{h:M ak}{bj:Nat}{w:World}:is C c5 J aa h bj w J aa h w:=
 ⟨λ_ _=>rfl,λ_ a=>a,λ_ a=> .inl a,λ_ _ _=>rfl, .refl _ _⟩
def is.trans{C:aT}{c5 Jj:Nat}{J c0 aeW:cU}{aa dn TZ:Nat->Prop}{h R VM:M ak}{bj:Nat}{w w' aeC:World}(a:is C c5 J aa h bj w c0 dn R w')(aB:c5<=Jj)
 (q:is C Jj c0 dn R bj w' aeW TZ VM aeC):is C c5 J aa h bj w aeW TZ VM aeC:=
 ⟨λb al=>(q.iJ b (a.jw b al)).trans (a.iJ b al),λb al=>q.jw b (a.jw b al),
  λb al=>(q.new b al).elim (λal=>a.new b al) (λal=> .inr Zo),
  λb al hg=>by
   have aI:¬dn b:=λaH=>(a.new b aH).elim al (λai=>Zo)
   rw[q.ad b aI Zo,a.ad b al hg],
  a.below.trans q.below⟩
section
variable{C:aT}{J c0:cU}{aa dn:Nat->Prop}{h R:M ak}{j au bj:Nat}{w w':World}
def qe(dz:∀b,aa b->c0 b=J b){v:y}(g:b7 aa v):aO c0 v=aO J v:=Pr dz v g
def xd(dz:∀b,aa b->c0 b=J b){k:List y}(g:ea aa k):bO c0 k=bO J k:=ET dz k g
def jl.ad{n ao:Nat}{I:M y}{tmps:Array Value}(dz:∀b,aa b->c0 b=J b)(gf:∀b,aa b->dn b)(a:jl J aa n ao I tmps):jl c0 dn n ao I tmps:=
 ⟨a.size,λt v aB bu=>by
  obtain⟨H,K⟩:=a.val t v aB bu
  exact⟨by rw[H,qe dz K],oP gf v K⟩⟩
def Pg(dz:∀b,aa b->c0 b=J b){d:hy}(g:vK aa d):lM c0 d=lM J d:=by
 obtain⟨t,ca⟩:=d
 obtain⟨g1,b5⟩:=g
 simp only[lM,xd dz b5]
 congr 1
 cases t with
 |fn fn cs=>
  obtain⟨H,K⟩:=g1
  have D:m4 c0 fn=m4 J fn:=by
   cases fn<;>simp only[m4]
   rw[dz _ H]
  simp only[Cw,D,xd dz K]
 |collected r=>simp only[Cw,dz r g1]
def XG(gf:∀b,aa b->dn b){d:hy}(g:vK aa d):vK dn d:=by
 obtain⟨t,ca⟩:=d
 refine⟨?_,q2 gf _ g.2⟩
 cases t with
 |fn fn cs=>exact⟨by cases fn<;>first|exact gf _ g.1.1|exact g.1.1,q2 gf _ g.1.2⟩
 |collected r=>exact gf _ g.1
def j3.ad{W:ak}{pl:mz}(dz:∀b,aa b->c0 b=J b)(gf:∀b,aa b->dn b)(br:w'.heap[pl.cA]? =w.heap[pl.cA]?)(a:j3 C J aa W pl w):j3 C c0 dn W pl w':=by
 cases W with
 |cells c n st=>
  obtain⟨cd,ty,bR,aF,H,K,am,aC⟩:=a
  refine⟨cd,ty,bR,aF,by rw[br,H],K,am,λi v bu=> ?_⟩
  obtain⟨bm,b1⟩:=aC i v bu
  exact⟨by rw[bm,qe dz b1],oP gf v b1⟩
 |map ci fL=>
  obtain⟨cd,H,K,am⟩:=a
  refine⟨cd,by rw[br,H], ?_,λD bt=>⟨oP gf _ (am D bt).1,oP gf _ (am D bt).2⟩⟩
  rw[K]
  apply YH
  intro D bt
  simp only[lQ,qe dz (am D bt).1,qe dz (am D bt).2]
 |look ci=>
  obtain⟨cd,fL,me,H,K,aC,am⟩:=a
  refine⟨cd,fL,me,by rw[br,H], ?_,aC,λD bt=>⟨oP gf _ (am D bt).1,oP gf _ (am D bt).2⟩⟩
  rw[K]
  apply YH
  intro D bt
  simp only[lQ,qe dz (am D bt).1,qe dz (am D bt).2]
 |ou s pos=>exact⟨a.1,by rw[br,a.2.1],a.2.2⟩
 |ya m u7 seen st=>
  obtain⟨bi,H,K⟩:=a
  refine⟨bi, ?_,λb al=>gf b (K b al)⟩
  rw[br,H]
  cases m with
  |none=>rfl
  |some m=>simp only[ZU,dz m (K m rfl)]
 |Ge m u7 n cn st nx=>
  obtain⟨bi,H,seen,K,am⟩:=a
  exact⟨bi,gf m H,seen,by rw[br,K,dz m H],am⟩
 |loop state pending fn n ao I params assign body bb=>
  obtain⟨tmps,H,K,am,aC⟩:=a
  exact⟨tmps,by rw[br,H,dz bb am],K.ad dz gf,gf _ am,aC⟩
 |deferred pC=>
  obtain⟨H,K⟩:=a
  refine⟨?_,λk aB d aH=>XG gf (K k aB d aH)⟩
  rw[br,H]
  cases pC with
  |none=>rfl
  |some k=>
   simp only[ZU]
   congr 3
   exact YH λd aH=>(Pg dz (K k rfl d aH)).symm
def j3.lt{W:ak}{pl:mz}(a:j3 C J aa W pl w):pl.cA<w.heap.size:=by
 have:∃x,w.heap[pl.cA]? =some x:=by
  cases W with
  |cells c n st=>obtain⟨cd,ty,bR,aF,H,_⟩:=a;exact⟨_,H⟩
  |map ci fL=>obtain⟨cd,H,_⟩:=a;exact⟨_,H⟩
  |look ci=>obtain⟨cd,fL,me,H,_⟩:=a;exact⟨_,H⟩
  |ou s pos=>exact⟨_,a.2.1⟩
  |ya m u7 seen st=>exact⟨_,a.2.1⟩
  |Ge m u7 n cn st nx=>obtain⟨_,_,seen,H,_⟩:=a;exact⟨_,H⟩
  |loop state pending fn n ao I params assign body bb=>obtain⟨tmps,H,_⟩:=a;exact⟨_,H⟩
  |deferred pC=>exact⟨_,a.1⟩
 obtain⟨x,af⟩:=this
 exact(ZS.1 af).1
def c9.alloc(V:c9 C J aa h j bj w){b:Nat}{pl:mz}{cK:ak}{W:Obj}(al:C.aY<=b)(cJ:b<au)(aoR:j<=au)(aI:¬aa b)(eS:bj<=w.heap.size)(so:pl.cA=w.heap.size)
 (hP:Z C R b=some cK)(LN:∀x,x≠b->Z C R x=Z C h x\/Z C R x=none)(bd:j3 C (gb J b pl) (add aa b) cK pl (w.alloc W))(pQ:vo C (add aa b) cK):
 c9 C (gb J b pl) (add aa b) R au bj (w.alloc W):=by
 have dz:∀x,aa x->gb J b pl x=J x:=λx af=>by
  unfold gb;rw[Zg];intro D;subst D;exact aI af
 have jp:gb J b pl b=pl:=by unfold gb;rw[Zu rfl]
 have Ry:∀q,q<w.heap.size->(w.alloc W).heap[q]? =w.heap[q]? :=λq aG=>Below.heap_alloc _ _ _ aG
 have key:∀x dd,Z C R x=some dd->add aa b x->x≠b->Z C h x=some dd/\aa x/\(J x).cA<w.heap.size:=by
  intro x dd af aH cE
  have sg:aa x:=aH.resolve_right cE
  rcases LN x cE with a|a
  ·have:Z C h x=some dd:=by rw[<-a,af]
   exact⟨this,sg,(V.obj x dd this sg).lt⟩
  ·rw[a]at af;cases af
 refine⟨ZB V.aY aoR, ?_, ?_, ?_, ?_, ?_, ?_⟩
 ·intro x af
  rcases af with af|af
  ·have:=V.lt x af;omega
  ·omega
 ·intro x dd af
  by_cases D:x=b
  ·omega
  ·rcases LN x D with a|a
   ·have:=V.u4 x dd (by rw[<-a,af]);omega
   ·rw[a]at af;cases af
 ·intro x dd af aH
  by_cases D:x=b
  ·subst D
   rw[hP]at af;cases af
   rw[jp];exact bd
  ·obtain⟨H,K,am⟩:=key x dd af aH D
   rw[dz x K]
   exact(V.obj x dd H K).ad dz (λ_ a=> .inl a) (Ry _ am)
 ·intro x e dd pZ af B du oL cE l0 dJ
  by_cases D:x=b
  ·subst D
   by_cases cp:e=x
   ·exact absurd cp.symm cE
   ·obtain⟨H,K,am⟩:=key e pZ B oL cp
    rw[jp,dz e K]at dJ
    omega
  ·obtain⟨H,K,am⟩:=key x dd af du D
   by_cases cp:e=b
   ·subst cp
    rw[jp,dz x K]at dJ
    omega
   ·obtain⟨aC,bm,b1⟩:=key e pZ B oL cp
    rw[dz x K,dz e bm]at dJ ⊢
    exact V.sep x e dd pZ H aC K bm cE l0 dJ
 ·intro x dd l0 af aH
  by_cases D:x=b
  ·subst D;rw[jp];omega
  ·obtain⟨H,K,am⟩:=key x dd af aH D
   rw[dz x K]
   exact V.base x dd l0 H K
 ·intro x dd af aH
  by_cases D:x=b
  ·subst D;rw[hP]at af;cases af;exact pQ
  ·obtain⟨H,K,am⟩:=key x dd af aH D
   refine⟨λc n k aB e B=> ?_,(V.ez x dd H K).2⟩
   obtain⟨g1,b5⟩:=(V.ez x dd H K).1 c n k aB e B
   exact⟨.inl g1,b5⟩
def c9.Xi(V:c9 C J aa h j bj w)(hP:∀x,Z C R x=Z C h x\/Z C R x=none):c9 C J aa R j bj w:=by
 have key:∀x dd,Z C R x=some dd->Z C h x=some dd:=by
  intro x dd af
  rcases hP x with a|a
  ·rw[<-a,af]
  ·rw[a]at af;cases af
 exact⟨V.aY,V.lt,λx dd af=>V.u4 x dd (key x dd af),λx dd af aH=>V.obj x dd (key x dd af) aH,
  λx e dd pZ af B du oL cE l0 dJ=>V.sep x e dd pZ (key x dd af) (key e pZ B) du oL cE l0 dJ,λx dd l0 af aH=>V.base x dd l0 (key x dd af) aH,λx dd af aH=>V.ez x dd (key x dd af) aH⟩
def c9.put(V:c9 C J aa h j bj w){b:Nat}{cK oj:ak}(al:C.aY<=b)(aH:aa b)(hC:Z C h b=some cK)(hP:Z C R b=some oj)
 (LN:∀x,x≠b->Z C R x=Z C h x\/Z C R x=none)(br:∀q,q≠(J b).cA->w'.heap[q]? =w.heap[q]?)
 (kw:∀x dd,x≠b->Z C R x=some dd->aa x->(J x).cA=(J b).cA->False)(bd:j3 C J aa oj (J b) w')(pQ:vo C aa oj):c9 C J aa R j bj w':=by
 have key:∀x dd,x≠b->Z C R x=some dd->Z C h x=some dd:=by
  intro x dd cE af
  rcases LN x cE with a|a
  ·rw[<-a,af]
  ·rw[a]at af;cases af
 refine⟨V.aY,V.lt, ?_, ?_, ?_, ?_, ?_⟩
 ·intro x dd af
  by_cases D:x=b
  ·subst D;exact V.lt x aH
  ·exact V.u4 x dd (key x dd D af)
 ·intro x dd af du
  by_cases D:x=b
  ·subst D;rw[hP]at af;cases af;exact bd
  ·exact(V.obj x dd (key x dd D af) du).ad (λ_ _=>rfl) (λ_ a=>a) (br _ λai=>kw x dd D af du ai)
 ·intro x e dd pZ af B du oL cE l0 dJ
  by_cases D:x=b
  ·subst D
   exact(kw e pZ (λai=>cE ai.symm) B oL dJ.symm).elim
  ·by_cases cp:e=b
   ·subst cp;exact(kw x dd D af du dJ).elim
   ·exact V.sep x e dd pZ (key x dd D af) (key e pZ cp B) du oL cE l0 dJ
 ·intro x dd l0 af du
  by_cases D:x=b
  ·subst D;exact V.base x cK l0 hC aH
  ·exact V.base x dd l0 (key x dd D af) du
 ·intro x dd af du
  by_cases D:x=b
  ·subst D;rw[hP]at af;cases af;exact pQ
  ·exact V.ez x dd (key x dd D af) du
def Kk(W:ak):Prop:=(∀c n,W≠ .cells c n .j1)/\(∀c n k,W≠ .cells c n (.grow k))
def c9.alone(V:c9 C J aa h j bj w){b:Nat}{cK:ak}(al:C.aY<=b)(aH:aa b)(hC:Z C h b=some cK)(aD:Kk cK):
 ∀x dd,x≠b->Z C h x=some dd->aa x->(J x).cA=(J b).cA->False:=by
 intro x dd cE af du dJ
 rcases(V.sep b x cK dd hC af aH du (λai=>cE ai.symm) al dJ.symm).1 with ⟨c,n,_,_,ai,_⟩|⟨c,n,k,_,_,ai,_⟩|⟨_,_,_,c,n,_,ai,_⟩
 ·exact aD.1 _ _ ai
 ·exact aD.2 _ _ _ ai
 ·exact aD.1 _ _ ai
end
section
variable{C:aT}{J c0:cU}{aa dn:Nat->Prop}{h R:M ak}{j au bj:Nat}{w w':World}
def uB(w:World)(W:Obj):(w.alloc W).heap[w.heap.size]? =some W:=by
 show(w.heap.push W)[w.heap.size]? =_
 simp
def lp(J:cU)(b:Nat)(pl:mz):gb J b pl b=pl:=by unfold gb;rw[Zu rfl]
def qK{b:Nat}{pl:mz}(aI:¬aa b):∀x,aa x->gb J b pl x=J x:=λx af=>by
 unfold gb;rw[Zg];intro D;subst D;exact aI af
def jR(J:cU)(k:List y):(bO J k).length=k.length:=by rw[pD,Zp]
def y5(J:cU)(k:List y)(i:Nat):(bO J k)[i]? =(k[i]?).map (aO J):=by rw[pD,Zy]
def CB(J:cU)(E b:List y):bO J (E++b)=bO J E++bO J b:=by simp[pD]
def Ao{E b:List y}(aD:ea aa E)(al:ea aa b):ea aa (E++b):=by
 rw[ur]at*
 intro v bu
 rcases Zw.1 bu with a|a
 ·exact aD v a
 ·exact al v a
def Ap{k:List y}(a:ea aa k){i:Nat}{v:y}(bu:k[i]? =some v):b7 aa v:=(ur aa k).1 a v (Zh bu)
def lE(k:List y)(i:Nat):(M.ofList k 0 .nil).get i=k[i]? :=by
 rw[M.HS]
 split
 ·simp
 ·rename_i a
  have:k.length<=i:=Zo
  rw[ZW this];rfl
def KU{k:List y}(g:ea aa k)(ty:TypeId)(r:Nat)(w:World):j3 C J aa (.cells (M.ofList k 0 .nil) k.length .own) ⟨w.heap.size,0,r⟩ (w.alloc (.cells (bO J k).toArray ty)):=by
 refine⟨_,ty,0,0,uB _ _,rfl,by simp[jR],λi v bu=> ?_⟩
 rw[lE]at bu
 refine⟨?_,Ap g bu⟩
 simp only[ZP,List.getElem?_toArray,y5,bu,ZU]
def Ea(n:Nat)(bo:List y):(kX n bo).length=n*bo.length:=by
 induction n with
 |zero=>simp[kX]
 |succ n aj=>simp[kX,aj,Nat.succ_mul,zn]
def atY(bo:List y):∀(n i:Nat),i<n*bo.length->(kX n bo)[i]? =bo[i%bo.length]? :=by
 intro n
 induction n with
 |zero=>intro i a;omega
 |succ n aj=>
  intro i a
  simp only[kX]
  rw[Nat.succ_mul]at a
  by_cases aF:i<bo.length
  ·rw[ZI aF,Yv aF]
  ·rw[ZF Zo,aj _ Zo]
   congr 1
   exact(Nat.mod_eq_sub_mod Zo).symm
def Qi{bo:List y}(a:ea aa bo):∀n,ea aa (kX n bo):=by
 intro n
 induction n with
 |zero=>trivial
 |succ n aj=>exact Ao a aj
def adN(J:cU)(bo:List y)(n:Nat):((Array.range (n*bo.length)).map λi=>(bO J bo).toArray[i%bo.length]!)=(bO J (kX n bo)).toArray:=by
 apply Y7
 rw[Array.toList_map,Array.toList_range]
 show _=bO J (kX n bo)
 apply YW
 intro i
 rw[Zy,y5]
 by_cases aF:i<n*bo.length
 ·rw[List.getElem?_range aF,atY bo n i aF]
  have cf:0<bo.length:=by
   rcases Nat.eq_zero_or_pos bo.length with a|a
   ·rw[a]at aF;omega
   ·exact a
  have bc:i%bo.length<bo.length:=zs _ cf
  simp only[ZU]
  rw[Zf bc]
  simp only[ZU,Zc]
  rw[getElem!_pos _ _ (by simpa[jR]using bc)]
  simp[pD]
 ·have H:(List.range (n*bo.length))[i]? =none:=ZW Zx
  have K:(kX n bo)[i]? =none:=ZW (by rw[Ea];omega)
  rw[H,K];rfl
def adO(J:cU)(bo:List y)(s n:Nat)(cf:bo.length=s)(zero:Array Value)(bi:n*s≠0->zero=(bO J bo).toArray):
 ((Array.range (n*s)).map (zero[·%zero.size]!))=(bO J (kX n bo)).toArray:=by
 subst cf
 by_cases a:n*bo.length=0
 ·have H:kX n bo=[]:=YE.1 (by rw[Ea];exact a)
  rw[a,H];simp[bO]
 ·rw[bi a, <-adN]
  simp[jR]
def acy{oper:Oper}{ax:Operand->Value}{eg:Operand->Option y}{b:Nat}{v:y}{cK:ak}(aI:¬aa b)(cw:jk J aa ax eg oper.op.operands.toList)
 (a:qc oper.op C eg b=some (v,cK)):∃W,(execOp ax oper).run C.P w= .ok (.value (aO (gb J b ⟨w.heap.size,0,0⟩) v)) (w.alloc W)/\b7 (add aa b) v/\
  j3 C (gb J b ⟨w.heap.size,0,0⟩) (add aa b) cK ⟨w.heap.size,0,0⟩ (w.alloc W):=by
 have dz:=qK (J:=J) (pl:=⟨w.heap.size,0,0⟩) aI
 have gf:∀x,aa x->add aa b x:=λ_ a=> .inl a
 obtain⟨dst,op,type,pos,after,guard⟩:=oper
 cases op<;>simp only[qc]at a<;>(try(cases a;done))<;>simp only[execOp]<;>simp only[Op.operands]at cw
 case alloc t=>
  unfold DM at a
  split at a
  ·rename_i bo cf
   simp at a;obtain⟨rfl,rfl⟩:=a
   obtain⟨fs,fC⟩:=Ed cf J aa w
   refine⟨.cells (bO J bo.cells).toArray t, ?_, .inr rfl, ?_⟩
   ·simp[Instr.alloc,fs,newVar,newRow,ui,aO,lp]
   ·have:=KU (C:=C) (J:=gb J b ⟨w.heap.size,0,0⟩) (aa:=add aa b) (q2 gf _ (uj fC)) t 0 w
    rw[xd dz (uj fC)]at this
    exact this
  ·simp at a
 case box t x=>
  unfold Jn at a
  split at a
  ·rename_i ab a6
   simp at a;obtain⟨rfl,rfl⟩:=a
   obtain⟨H,K⟩:=cw x Zs ab a6
   refine⟨.cells (bO J ab.cells).toArray t, ?_, .inr rfl, ?_⟩
   ·simp[Instr.box,newVar,newRow,H,ui,aO,lp]
   ·have:=KU (C:=C) (J:=gb J b ⟨w.heap.size,0,0⟩) (aa:=add aa b) (q2 gf _ (uj K)) t 0 w
    rw[xd dz (uj K)]at this
    exact this
  ·simp at a
 case buildSlice t len parts=>
  unfold Jo at a
  split at a
  ·rename_i d6 da a6 RE
   split at a
   ·rename_i s bo aE cf
    simp only[eF,Zq]at a
    obtain⟨⟨H,K⟩,a⟩:=a
    have H:len*s<=16777216:=h4 H
    have K:bo.cells.length=s:=Zl K
    split at a
    ·rename_i cs hZ
     simp at a;obtain⟨rfl,rfl⟩:=a
     obtain⟨fs,fC⟩:=Ed cf J aa w
     obtain⟨e3,g9⟩:=Xd (by simpa using cw) RE
     obtain⟨ef,eX⟩:=PQ (J:=J) (JE:=λi=>some (i*s,s)) (λ_ _ a=>a) da (kX len bo.cells) cs (Qi (uj fC) len) g9 hZ
     refine⟨.cells (bO J cs).toArray d6, ?_, .inr rfl, ?_⟩
     ·have D:(parts.map λx=>(x.1,ax x.2)).toList=da.map λx=>(x.1,aO J x.2):=by rw[<-e3];simp
      have gm:¬(len*s>2^24):=by
       have:(2:Nat)^24=16777216:=by decide
       omega
      have bW:Instr.fill (λi=>some (i*s,s)) ((Array.range (len*s)).map ((if len*s=0 then #[]else(aO J bo).cells)[·%(if len*s=0 then #[]else(aO J bo).cells).size]!)) (parts.map λx=>(x.1,ax x.2)).toList=some (bO J cs).toArray:=by
       rw[adO J bo.cells s len K _ (λcE=>by rw[Zg cE,ui]),D]
       exact ef
      simp only[Instr.buildSlice,Sem.run_bind,run_underlying a6,Result.andThen_ok,ot aE]
      rw[Zg gm]
      by_cases bi:len*s=0
      ·rw[Zu bi]at bW
       simp only[Zu bi,Sem.run_bind,Sem.run_pure,Result.andThen_ok,bW]
       simp[newRow,aO,lp]
      ·simp only[Zg bi]at bW
       simp only[Zg bi,Sem.run_bind,Sem.run_pure,Result.andThen_ok,fs,bW]
       simp[newRow,aO,lp]
     ·have:=KU (C:=C) (J:=gb J b ⟨w.heap.size,0,0⟩) (aa:=add aa b) (q2 gf _ eX) d6 0 w
      rw[xd dz eX]at this
      exact this
    ·simp at a
   ·simp at a
  ·simp at a
 case makeMap t r=>
  cases r with
  |some r=>simp[qc]at a
  |none=>
   simp[qc]at a;obtain⟨rfl,rfl⟩:=a
   refine⟨.map #[] 0, ?_, .inr rfl, ?_⟩
   ·simp[Instr.makeMap,aO,lp]
   ·exact⟨#[],uB _ _,rfl,Zs⟩
end
section
variable{C:aT}{J c0:cU}{aa dn:Nat->Prop}{h R:M ak}{j au bj:Nat}{w w':World}
def kZ:Array Value->Nat->List Value->Array Value
 |c,_,[]=>c
 |c,W,v::k=>kZ (c.setIfInBounds W v) (W+1) k
def wy:∀(k:List Value) (c:Array Value) (W:Nat),(kZ c W k).size=c.size:=by
 intro k
 induction k with
 |nil=>intro c W;rfl
 |cons v k aj=>intro c W;simp[kZ,aj]
def Tj:∀(k:List Value) (c:Array Value) (W i:Nat),W+k.length<=c.size->(kZ c W k)[i]? =if W<=i/\i<W+k.length then k[i-W]? else c[i]? :=by
 intro k
 induction k with
 |nil=>intro c W i _;rw[Zg (by simp only[ZY];omega)];rfl
 |cons v k aj=>
  intro c W i a
  simp only[Zz]at a
  simp only[kZ]
  rw[aj _ _ _ Zx]
  by_cases D:i=W
  ·subst D
   rw[Zg Zo,Zu Zs]
   have cJ:i<c.size:=Zo
   simp[cJ]
  ·by_cases ai:W+1<=i/\i<W+1+k.length
   ·rw[Zu ai,Zu Zx,show i-W=(i-(W+1))+1 by omega,Z1]
   ·rw[Zg ai,Zg (by simp only[Zz];omega),Array.getElem?_setIfInBounds_ne (λa=>D a.symm)]
def Td(P:Program)(g W:Nat)(t:TypeId)(bR aF:Nat):∀(bx:List Value) (i:Nat) (nx:Array Value) (w:World),w.heap[g]? =some (.cells nx t (bR,aF))->(aF<=bR\/nx.size<=bR)->
 W+i+bx.length<=nx.size->(∀v∈bx,v.oneCell'=true)->(storeCells ⟨g,W,none⟩ bx i).run P w= .ok () (w.setRow g (kZ nx (W+i) bx)):=by
 intro bx
 induction bx with
 |nil=>
  intro i nx w bw _ _ _
  simp only[storeCells,kZ]
  rw[setRow_self w g nx t _ bw];rfl
 |cons v bx aj=>
  intro i nx w bw bW aB H
  simp only[Zz]at aB
  have cJ:W+i<nx.size:=Zo
  have Ih:(⟨g,W,none⟩:Addr).add i=⟨g,W+i,none⟩:=oH _ _ _
  have pK:w.cell? ⟨g,W+i,none⟩=some nx[W+i]:=by simp[World.cell?,bw,cJ]
  have an5:w.frozen? ⟨g,W+i,none⟩=false:=by
   simp only[World.frozen?,bw,Bool.and_eq_false_iff,Ze]
   omega
  have cI:(store ((⟨g,W,none⟩:Addr).add i) v).run P w= .ok () (w.setRow g (nx.setIfInBounds (W+i) v)):=by
   rw[Ih,run_store P w _ v _ (H v Zs),pK]
   simp[an5,setCell_eq_setRow w g (W+i) nx t _ v bw]
  have:=aj (i+1) (nx.setIfInBounds (W+i) v) (w.setRow g (nx.setIfInBounds (W+i) v)) (setRow_heap w g nx _ t _ bw) (by simpa using bW) Zx (λx af=>H x (by simp[af]))
  simp only[storeCells,Sem.run_bind,cI,Result.andThen_ok,this,setRow_setRow,kZ]
  rfl
def O4{p:Nat}(eS:bj<=p)(cs:Array Value)(w:World):Below bj w (w.setRow p cs):=
 ⟨rfl,rfl,rfl,by simp[World.setRow],λq aG=>setRow_other w p q cs Zo⟩
def ac5:∀{bx:List y},iI bx=true->∀v∈bO J bx,v.oneCell'=true:=by
 intro bx
 induction bx with
 |nil=>intro _ v bu;simp[bO]at bu
 |cons E k aj=>
  intro a v bu
  simp only[iI,Zq]at a
  simp only[bO,Zr]at bu
  rcases bu with rfl|bu
  ·cases E<;>simp[l3]at a<;>rfl
  ·exact aj a.2 v bu
def aeP{c:M y}{cd:Array Value}{dQ W n:Nat}{bx:List y}(bw:ea aa bx)(bd:W+bx.length<=n)(aI:dQ+n<=cd.size)
 (a:∀i v,c.get i=some v->cd[dQ+i]? =some (aO J v)/\b7 aa v):
 ∀i v,(d3 c W bx).get i=some v->(kZ cd (dQ+W) (bO J bx))[dQ+i]? =some (aO J v)/\b7 aa v:=by
 intro i v bu
 rw[N5,M.HS]at bu
 rw[Tj _ _ _ _ (by rw[jR];omega),jR]
 split at bu
 ·rename_i aF
  rw[Zu Zo,y5,show dQ+i-(dQ+W)=i-W by omega,bu]
  exact⟨rfl,Ap bw bu⟩
 ·rename_i aF
  rw[Zg Zo]
  exact a i v bu
def N6{c:M y}{W n:Nat}{bx:List y}(bd:W+bx.length<=n)(a:∀i v,c.get i=some v->i<n):∀i v,(d3 c W bx).get i=some v->i<n:=by
 intro i v bu
 rw[N5,M.HS]at bu
 split at bu
 ·omega
 ·exact a i v bu
def Gl{k:List y}:∀i v,(M.ofList k 0 .nil).get i=some v->i<k.length:=by
 intro i v bu
 rw[lE]at bu
 exact(Zb.1 bu).1
def OX(V:c9 C J aa h j bj w){c5 b W:Nat}{bx:List y}(aH:aa b)(bw:ea aa bx)(a:rZ C h b W bx=some R):
 ∃w',(storeCells ⟨(J b).cA,(J b).dQ+W,none⟩ (bO J bx)).run C.P w= .ok () w'/\c9 C J aa R j bj w'/\is C c5 J aa h bj w J aa R w':=by
 unfold rZ at a
 split at a
 ·rename_i c n st bd
  simp only[eF,Zq]at a
  obtain⟨⟨⟨H,K⟩,am⟩,a⟩:=a
  have H:W+bx.length<=n:=h4 H
  have al:C.aY<=b:=h4 K
  obtain⟨cd,ty,bR,aF,a7,b2,a3,a4⟩:=V.obj b _ bd aH
  have lZ:st≠ .j1:=λD=>(by subst D;simp at a)
  refine⟨w.setRow (J b).cA (kZ cd ((J b).dQ+W) (bO J bx)), ?_, ?_⟩
  ·exact Td C.P _ _ ty bR aF (bO J bx) 0 cd w a7 (b2.free lZ) (by rw[jR];omega) (ac5 am)
  have d2:=setRow_heap w (J b).cA cd (kZ cd ((J b).dQ+W) (bO J bx)) ty (bR,aF) a7
  have Az:=V.base b _ al bd aH
  have Ij:Below bj w (w.setRow (J b).cA (kZ cd ((J b).dQ+W) (bO J bx))):=O4 Az _ _
  have aaX:∀q,q≠(J b).cA->(w.setRow (J b).cA (kZ cd ((J b).dQ+W) (bO J bx))).heap[q]? =w.heap[q]? :=λq aG=>setRow_other w _ q _ aG
  have fin:∀ha,EA ha n (J b) cd.size bR aF->j3 C J aa (.cells (d3 c W bx) n ha) (J b) (w.setRow (J b).cA (kZ cd ((J b).dQ+W) (bO J bx))):=by
   intro ha cI
   refine⟨_,ty,bR,aF,d2,by rw[wy];exact cI,by rw[wy];exact a3,aeP bw H a3 a4⟩
  have plain:∀ha,Kk (.cells c n st)->EA ha n (J b) cd.size bR aF->(∀k,ha≠ .grow k)->R=bl C h b (some (.cells (d3 c W bx) n ha))->
   c9 C J aa R j bj (w.setRow (J b).cA (kZ cd ((J b).dQ+W) (bO J bx)))/\is C c5 J aa h bj w J aa R (w.setRow (J b).cA (kZ cd ((J b).dQ+W) (bO J bx))):=by
   intro ha C0 cI IF hP
   subst hP
   have o2:Z C (bl C h b (some (.cells (d3 c W bx) n ha))) b=some (.cells (d3 c W bx) n ha):=by rw[fF _ al,Zu rfl]
   have jz:∀x,x≠b->Z C (bl C h b (some (.cells (d3 c W bx) n ha))) x=Z C h x:=λx af=>by rw[fF _ al,Zg af]
   refine⟨V.put al aH bd o2 (λx af=> .inl (jz x af)) aaX ?_ (fin ha cI) ⟨λgC aS k aB=>(by cases aB;exact absurd rfl (IF _)),λgC aS au1 aB=>(by cases aB;exact N6 H ((V.ez b _ bd aH).2 _ _ _ rfl))⟩, ?_⟩
   ·intro x dd cE af du dJ
    rw[jz x cE]at af
    exact V.alone al aH bd C0 x dd cE af du dJ
   ·exact⟨λ_ _=>rfl,λ_ a=>a,λ_ a=> .inl a,λx af _=>jz x (λD=>af (D▸aH)),Ij⟩
  cases st with
  |own=>
   simp only[g5,Zc]at a
   exact plain .own ⟨Zs,Zs⟩ b2 Zs a.symm
  |marked=>
   simp only[g5,Zc]at a
   exact plain .marked ⟨Zs,Zs⟩ b2 Zs a.symm
  |grow ez=>
   simp only[g5,Zc]at a
   have pQ:=(V.ez b _ bd aH).1 _ _ _ rfl
   subst a
   have o2:Z C (bl C (mM C ez h) b (some (.cells (d3 c W bx) n (.grow [])))) b=some (.cells (d3 c W bx) n (.grow [])):=by rw[fF _ al,Zu rfl]
   have jz:∀x,x≠b->Z C (bl C (mM C ez h) b (some (.cells (d3 c W bx) n (.grow [])))) x=if x∈ez then none else Z C h x:=λx af=>by
    rw[fF _ al,Zg af,aat _ _ _ λe B=>(pQ e B).2]
   refine⟨V.put al aH bd o2 (λx af=> ?_) aaX ?_ (fin (.grow []) b2) ⟨λgC aS k aB=>(by cases aB;simp),λgC aS au1 aB=>(by cases aB;exact N6 H ((V.ez b _ bd aH).2 _ _ _ rfl))⟩, ?_⟩
   ·rw[jz x af];split
    ·exact .inr rfl
    ·exact .inl rfl
   ·intro x dd cE af du dJ
    rw[jz x cE]at af
    split at af
    ·cases af
    ·rename_i Rr
     rcases(V.sep b x _ dd bd af aH du (λai=>cE ai.symm) al dJ.symm).1 with ⟨_,_,_,_,ai,_⟩|⟨_,_,k,_,_,ai,_,aB,_⟩|⟨_,_,_,_,_,_,ai,_⟩
     ·cases ai
     ·cases ai;exact Rr aB
     ·cases ai
   ·exact⟨λ_ _=>rfl,λ_ a=>a,λ_ a=> .inl a,λx af _=>by
     rw[jz x (λD=>af (D▸aH)),Zg (λbc=>af (pQ x bc).1)],Ij⟩
  |j1=>simp at a
 ·simp at a
end
def yE(C:aT)(J:cU)(aa:Nat->Prop)(h:M ak)(j bj:Nat)(w:World)(s:Sem Next)(v:y)(R:M ak)(au:Nat):Prop:=
 ∃c0 dn w' n,s.run C.P w= .ok n w'/\(n= .value (aO c0 v)\/(n= .skip/\v=undef))/\b7 dn v/\c9 C c0 dn R au bj w'/\is C j J aa h bj w c0 dn R w'/\j<=au
section
variable{C:aT}{J c0:cU}{aa dn:Nat->Prop}{h R:M ak}{j au bj:Nat}{w w':World}
def putObj(V:c9 C J aa h j bj w){c5 b:Nat}{cK oj:ak}{kC o':Obj}(al:C.aY<=b)(aH:aa b)(hC:Z C h b=some cK)(aD:Kk cK)(bi:w.heap[(J b).cA]? =some kC)
 (aoQ:∀c D f,kC≠ .cells c D f)(bd:∀w':World,w'.heap[(J b).cA]? =some o'->j3 C J aa oj (J b) w')(pQ:vo C aa oj):
 ∃w',(Go.setObj (J b).cA o').run C.P w= .ok () w'/\c9 C J aa (bl C h b (some oj)) j bj w'/\is C c5 J aa h bj w J aa (bl C h b (some oj)) w':=by
 have mJ:(Go.setObj (J b).cA o').run C.P w= .ok () {w with heap:=w.heap.setIfInBounds (J b).cA o'}:=by
  cases kC<;>first
   |exact absurd rfl (aoQ _ _ _)
   |simp[Go.setObj,Sem.run,bi]
 obtain⟨bS,ck⟩:=MapKept.heap_set (o':=o') bi
 have o2:Z C (bl C h b (some oj)) b=some oj:=by rw[fF _ al,Zu rfl]
 have jz:∀x,x≠b->Z C (bl C h b (some oj)) x=Z C h x:=λx af=>by rw[fF _ al,Zg af]
 have Az:=V.base b _ al hC aH
 refine⟨_,mJ,V.put al aH hC o2 (λx af=> .inl (jz x af)) (λq aG=>ck q aG) ?_ (bd _ bS) pQ, ?_⟩
 ·intro x dd cE af du dJ
  rw[jz x cE]at af
  exact V.alone al aH hC aD x dd cE af du dJ
 ·exact⟨λ_ _=>rfl,λ_ a=>a,λ_ a=> .inl a,λx af _=>jz x (λD=>af (D▸aH)),rfl,rfl,rfl,Zs,λq aG=>ck q Zo⟩
def Tk{r:Nat}{W:ak}{v:y}{res:dZ}(a:setObj C h j r W v=some res):res= .fq v (bl C h r (some W)) j/\C.aY<=r:=by
 unfold setObj at a
 simp only[g5,eF,Zc]at a
 exact⟨a.2.symm,h4 a.1⟩
def adA(V:c9 C J aa h j bj w){c5 r:Nat}{ci me:List (y×y×Nat)}{fL Hv:Nat}{EJ:Array MapEntry}(al:C.aY<=r)(aH:aa r)(bd:Z C h r=some (.map ci fL))
 (aD:EJ.toList=me.map (lQ J))(bw:∀D∈me,b7 aa D.1/\b7 aa D.2.1):
 ∃w',(Go.setObj (J r).cA (.map EJ Hv)).run C.P w= .ok () w'/\c9 C J aa (bl C h r (some (.map me Hv))) j bj w'/\is C c5 J aa h bj w J aa (bl C h r (some (.map me Hv))) w':=by
 obtain⟨cd,H,_,_⟩:=V.obj r _ bd aH
 exact putObj V al aH bd ⟨Zs,Zs⟩ H Zs (λw' ss=>⟨EJ,ss,aD,bw⟩) ⟨λ_ _ _ a=>(by cases a),λ_ _ _ a=>(by cases a)⟩
def avs(V:c9 C J aa h j bj w){s:Nat}{t:TypeId}{E v:y}{res:dZ}(aE:ji C t=some s)(iQ:b7 aa E)(fk:b7 aa v)(a:NO C h j s E v=some res):
 ∃R,res= .fq undef R j/\∀ab:Sem Next,(∀w',(Instr.storeAt t (aO J E) (aO J v)).run C.P w= .ok () w'->ab.run C.P w= .ok .skip w')->yE C J aa h j bj w ab undef R j:=by
 unfold NO at a
 split at a
 ·rename_i b W
  simp only[eF,Zq]at a
  obtain⟨⟨H,K⟩,a⟩:=a
  have H:v.cells.length=s:=Zl H
  split at a
  ·rename_i R hP
   simp at a
   obtain⟨w',bS,ck,cM⟩:=OX V (c5:=j) iQ (uj fk) hP
   refine⟨R,a.symm,λab a6=>⟨J,aa,w', .skip,a6 w' ?_, .inr ⟨rfl,rfl⟩,by trivial,ck,cM,Zj _⟩⟩
   have eh:(aO J v).cells.size=s:=by rw[ui];simp[jR,H]
   simp only[Instr.storeAt,Instr.sureAddr,aO,Sem.run_bind,Sem.run_pure,Result.andThen_ok,storeVar,ot aE,eh,ne_eq,not_true_eq_false,ZD]
   simp only[ui]
   exact bS
  ·simp at a
 ·simp at a
def aqO:∀(n:Nat),(∀(m:Nat) (x e:y),n<=m->b7 aa x->b7 aa e->pa n x e=true->Instr.sameBits m (aO J x) (aO J e)=true)/\
 ∀(m:Nat) (E b:List y),n<=m->ea aa E->ea aa b->pa.A7 n E b=true->(bO J E).length=(bO J b).length/\((bO J E).zip (bO J b)).all (λ(x,e)=>Instr.sameBits m x e)=true:=by
 intro n
 induction n with
 |zero=>
  refine⟨λm x e _ _ _ a=>by simp[pa]at a, ?_⟩
  intro m E
  induction E with
  |nil=>intro b _ _ _ a;cases b<;>simp[pa.A7]at a<;>simp[bO]
  |cons x E _=>intro b _ _ _ a;cases b<;>simp[pa.A7,pa]at a
 |succ n aj=>
  have one:∀(m:Nat) (x e:y),n+1<=m->b7 aa x->b7 aa e->pa (n+1) x e=true->Instr.sameBits m (aO J x) (aO J e)=true:=by
   intro m x e bc ft q4 a
   obtain⟨m,rfl⟩:∃q,m=q+1:=⟨m-1,Zo⟩
   unfold pa at a
   split at a<;>(try(cases a;done))
   ·simpa[aO,Instr.sameBits]using a
   ·simp at a;obtain⟨rfl,rfl⟩:=a;simp[aO,Instr.sameBits]
   ·rename_i E b
    have:=(Jw _ _).1 a
    subst this
    simp only[aO,Instr.sameBits]
    rw[WA];simp
   ·rename_i b W cQ o'
    simp only[Zq]at a
    have H:b=cQ:=Zl a.1
    have K:W=o':=Zl a.2
    subst H;subst K
    simp[aO,Instr.sameBits]
   ·simp[aO,Instr.sameBits]
   ·simp[aO,Instr.sameBits]
   ·rename_i t v ga gj
    simp only[Zq]at a
    have H:t=ga:=Zl a.1
    subst H
    simp[aO,Instr.sameBits,aj.1 m v gj Zo ft q4 a.2]
   ·rename_i E b
    obtain⟨bS,ck⟩:=aj.2 m E b Zo ft q4 a
    simp only[aO,Instr.sameBits,Zq,Y2]
    exact⟨by simpa using bS,by simpa using ck⟩
  refine⟨one, ?_⟩
  intro m E
  induction E with
  |nil=>intro b _ _ _ a;cases b<;>simp[pa.A7]at a<;>simp[bO]
  |cons x E mL=>
   intro b bc iQ qj a
   cases b with
   |nil=>simp[pa.A7]at a
   |cons e b=>
    simp only[pa.A7,Zq]at a
    obtain⟨bS,ck⟩:=mL b bc iQ.2 qj.2 a.2
    simp only[bO,Zz,List.zip_cons_cons,List.all_cons,Zq]
    exact⟨Zo,one m x e bc iQ.1 qj.1 a.1,ck⟩
def aqP{pX new:y}(go:b7 aa pX)(vJ:b7 aa new)(a:pa 20 pX new=true):(Instr.keyThatStays (aO J pX) (aO J new)).run C.P w= .ok (aO J new) w:=by
 simp[Instr.keyThatStays,(aqO (J:=J) (aa:=aa) 20).1 10000 pX new Zd go vJ a]
def W9{cd:Array MapEntry}{ci:List (y×y×Nat)}{i:Nat}{D:y×y×Nat}(aD:cd.toList=ci.map (lQ J))(a:ci[i]? =some D):cd[i]? =some (lQ J D):=by
 rw[<-ZO,aD,Zy,a];rfl
def asd{cd:Array MapEntry}{ci:List (y×y×Nat)}{i:Nat}{D ig:y×y×Nat}(f:MapEntry->MapEntry)(aD:cd.toList=ci.map (lQ J))(a:ci[i]? =some D)
 (bW:f (lQ J D)=lQ J ig):(cd.modify i f).toList=(ci.set i ig).map (lQ J):=by
 apply YW
 intro Y
 rw[ZO,ze,Zy,Yx]
 have cJ:i<ci.length:=(Zb.1 a).1
 by_cases D:i=Y
 ·subst D
  rw[Zu rfl,Zu rfl,Zu cJ,W9 aD a]
  simp[bW]
 ·rw[Zg D,Zg D, <-ZO,aD,Zy]
def amg{ci:List (y×y×Nat)}{i:Nat}{ig:y×y×Nat}(bw:∀D∈ci,b7 aa D.1/\b7 aa D.2.1)(bt:b7 aa ig.1/\b7 aa ig.2.1):∀D∈ci.set i ig,b7 aa D.1/\b7 aa D.2.1:=by
 intro D a
 rcases YU a with a|a
 ·exact bw D a
 ·rw[a];exact bt
def aix(V:c9 C J aa h j bj w){t:Nat}{m q v:y}{res:dZ}(An:b7 aa m)(n7:b7 aa q)(fk:b7 aa v)(a:Hf C h j t m q v=some res):
 ∃R w',res= .fq undef R j/\(Instr.mapUpdate t (aO J m) (aO J q) (aO J v)).run C.P w= .ok () w'/\c9 C J aa R j bj w'/\is C j J aa h bj w J aa R w':=by
 unfold Hf at a
 split at a
 ·rename_i jG Ad r a6
  split at a
  ·rename_i ci fL bd
   simp only[eF]at a
   obtain⟨aG,a⟩:=a
   obtain⟨e2,L6⟩:=abX aG
   obtain⟨cd,a7,b2,a3,a4⟩:=Jr V An bd
   have H:=V0 (C:=C) (J:=J) (aa:=aa) (w:=w) (D:=false) 20 10000 jG q Zd n7 aG
   split at a
   ·rename_i i ab bW
    have K:=PS V L6 n7 a4 bW
    obtain⟨_,D,bt,rfl⟩:=Xp ci 0 i ab bW
    simp only[YN]at bt
    rw[rs,bt]at a
    obtain⟨ey,gj,born⟩:=D
    simp only[eF]at a
    obtain⟨Rk,a⟩:=a
    obtain⟨rfl,al⟩:=Tk a
    have bw:=a4 _ (Zh bt)
    obtain⟨w',bS,ck,cM⟩:=adA V (c5:=j) al An bd (Hv:=fL) (me:=ci.set i (q,v,born)) (asd (λD=>{D with key:=aO J q,val:=aO J v}) a3 bt rfl) (amg a4 ⟨n7,fk⟩)
    refine⟨_,w',rfl, ?_,ck,cM⟩
    simp[Instr.mapUpdate,run_underlying a6,aO,a7,H,a3,K,uh,W9 a3 bt,lQ,aqP bw.1 n7 Rk,bS]
   ·rename_i bW
    have K:=PS V L6 n7 a4 bW
    obtain⟨rfl,al⟩:=Tk a
    obtain⟨w',bS,ck,cM⟩:=adA V (c5:=j) al An bd (Hv:=fL+1) (me:=ci++[(q,v,fL)]) (EJ:=cd.push {key:=aO J q,val:=aO J v,born:=fL}) (by simp[a3,lQ])
     (λD bt=>(Zw.1 bt).elim (a4 D) (λbt=>by simp at bt;subst bt;exact⟨n7,fk⟩))
    refine⟨_,w',rfl, ?_,ck,cM⟩
    simp[Instr.mapUpdate,run_underlying a6,aO,a7,H,a3,K,uh,bS]
   ·simp at a
  ·simp at a
 ·simp at a
end
end Go.bs

