/- Part of the proof of the last text; no conditions -/
import Derived.Test.YtbbkkkpgjaopkaaGreatDoorYa
import Derived.Below
import Derived.ChangeKeysEq
import Derived.Laws.IdiomCopy
import Derived.Laws.Unary
import Derived.Laws.Wrap64
import Derived.Laws.StructEq
import Derived.Laws.BytesString
import Derived.MapKept
set_option maxHeartbeats 8000000
set_option linter.all false
namespace Go.bs
open Go.RowKit (Below)
structure jl(J:cU)(aa:Nat->Prop)(n ao:Nat)(I:M y)(tmps:Array Value):Prop where
 size:tmps.size=n
 val:∀t v,fi ao t=true->I.get t=some v->tmps[t]? =some (aO J v)/\b7 aa v
def Ox(C:aT)(fn ao:Nat):Prop:=∃f,C.P.funcs[fn]? =some f/\yk ao f.results.toList=true
def F2(c:Code):Prop:=c= .ret\/∃id,c= .exit id
def Cw(J:cU):Oa->Target
 | .fn fn fy=> .fn (m4 J fn) (bO J fy).toArray
 | .collected r=> .collected (J r).cA
def lM(J:cU)(d:hy):Deferred:=⟨Cw J d.target,(bO J d.args).toArray⟩
def amf(aa:Nat->Prop):Oa->Prop
 | .fn fn fy=>Lv aa fn/\ea aa fy
 | .collected r=>aa r
def vK(aa:Nat->Prop)(d:hy):Prop:=amf aa d.target/\ea aa d.args
def EA(st:oE)(n:Nat)(pl:mz)(aN bR aF:Nat):Prop:=match st with
 | .own=>bR=aF
 | .marked=>bR=aF\/aN<=bR
 | .grow _=>(bR=aF\/aN<=bR)/\n<=pl.room/\pl.dQ+pl.room<=aN
 | .j1=>True/\n<=pl.room/\pl.dQ+pl.room<=aN
def EA.free{st:oE}{n:Nat}{pl:mz}{aN bR aF:Nat}(a:EA st n pl aN bR aF)(lZ:st≠ .j1):aF<=bR\/aN<=bR:=by
 cases st with
 |own=>exact .inl (zj a.symm)
 |marked=>exact a.imp (λD=>zj D.symm) id
 |grow _=>exact a.1.imp (λD=>zj D.symm) id
 |j1=>exact absurd rfl lZ
def lQ(J:cU)(D:y×y×Nat):MapEntry:=⟨aO J D.1,aO J D.2.1,D.2.2⟩
def j3(C:aT)(J:cU)(aa:Nat->Prop)(W:ak)(pl:mz)(w:World):Prop:=match W with
 | .cells c n st=>∃cd ty bR aF,w.heap[pl.cA]? =some (.cells cd ty (bR,aF))/\EA st n pl cd.size bR aF/\pl.dQ+n<=cd.size/\
    ∀i v,c.get i=some v->cd[pl.dQ+i]? =some (aO J v)/\b7 aa v
 | .map ci fL=>∃cd,w.heap[pl.cA]? =some (.map cd fL)/\cd.toList=ci.map (lQ J)/\∀D∈ci,b7 aa D.1/\b7 aa D.2.1
 | .look ci=>∃(cd:Array MapEntry) (fL:Nat) (me:List (y×y×Nat)),w.heap[pl.cA]? =some (.map cd fL)/\cd.toList=me.map (lQ J)/\(me.map λD=>(D.1,D.2.1)).Perm ci/\∀D∈me,b7 aa D.1/\b7 aa D.2.1
 | .ou s pos=>pl.dQ=0/\w.heap[pl.cA]? =some (.stringIter (bytesOf s) pos)/\∀x∈s,x<256
 | .ya m u7 seen st=>pl.dQ=0/\w.heap[pl.cA]? =some (.mapIter (m.map λb=>(J b).cA) u7 seen.toArray st)/\∀b,m=some b->aa b
 | .Ge m u7 n cn st nx=>pl.dQ=0/\aa m/\∃seen:List Nat,w.heap[pl.cA]? =some (.mapIter (some (J m).cA) u7 seen.toArray st)/\(cn.filter λb=> !seen.contains b).length<=n/\∀b,nx=some b->ab8 seen=some b
 | .loop state pending fn n ao I params assign body bb=>∃tmps,w.heap[pl.cA]? =some (.loop ⟨state,pending,fn,tmps,params.toArray,assign,body,(J bb).cA⟩)/\jl J aa n ao I tmps/\aa bb/\
    lO C ao assign=true/\lO C ao body=true/\(∀c,pending=some c->F2 c)/\Ox C fn ao
 | .deferred pC=>w.heap[pl.cA]? =some (.deferred (pC.map λk=>k.map (lM J)))/\∀k,pC=some k->∀d∈k,vK aa d
def OP(W o':ak)(b cQ:Nat):Prop:=
 (∃c n gC aS,W= .cells c n .j1/\o'= .cells gC aS .j1)\/
 (∃c n k gC aS,W= .cells c n (.grow k)/\o'= .cells gC aS .j1/\cQ∈k/\aS<=n)\/
 (∃c n k gC aS,o'= .cells gC aS (.grow k)/\W= .cells c n .j1/\b∈k/\n<=aS)
def vo(C:aT)(aa:Nat->Prop)(W:ak):Prop:=(∀c n k,W= .cells c n (.grow k)->∀x∈k,aa x/\C.aY<=x)/\∀c n st,W= .cells c n st->∀i v,c.get i=some v->i<n
structure c9(C:aT)(J:cU)(aa:Nat->Prop)(h:M ak)(j bj:Nat)(w:World):Prop where
 aY:C.aY<=j
 lt:∀b,aa b->b<j
 u4:∀b W,Z C h b=some W->b<j
 obj:∀b W,Z C h b=some W->aa b->j3 C J aa W (J b) w
 sep:∀b cQ W o',Z C h b=some W->Z C h cQ=some o'->aa b->aa cQ->b≠cQ->C.aY<=b->(J b).cA=(J cQ).cA->OP W o' b cQ/\(J b).dQ=(J cQ).dQ
 base:∀b W,C.aY<=b->Z C h b=some W->aa b->bj<=(J b).cA
 ez:∀b W,Z C h b=some W->aa b->vo C aa W
def jk(J:cU)(aa:Nat->Prop)(ax:Operand->Value)(eg:Operand->Option y)(k:List Operand):Prop:=
 ∀x∈k,∀v,eg x=some v->ax x=aO J v/\b7 aa v
section
variable{C:aT}{J:cU}{aa:Nat->Prop}{h:M ak}{j bj:Nat}{w:World}
def Pb(s:ByteArray):bytesOf (s.data.toList.map (·.toNat))=s:=by
 unfold bytesOf
 rw[YB]
 have:(UInt8.ofNat∘λx:UInt8=>x.toNat)=id:=by funext x;simp
 rw[this]
 simp
def ar2{α eH:Type}(f:α->Option eH):∀(k:List α) (r:List eH),Bl f k=some r->r.length=k.length/\∀(i:Nat) (E:α),k[i]? =some E->∃b,r[i]? =some b/\f E=some b:=by
 intro k
 induction k with
 |nil=>intro r a;simp[Bl]at a;subst a;simp
 |cons E k aj=>
  intro r a
  simp only[Bl]at a
  cases bW:f E with
  |none=>simp[bW]at a
  |some b=>
   simp only[bW]at a
   cases V:Bl f k with
   |none=>simp[V]at a
   |some hH=>
    simp only[V,Zc]at a
    subst a
    obtain⟨H,K⟩:=aj _ V
    refine⟨by simp[H],λi x af=> ?_⟩
    cases i with
    |zero=>simp at af;subst af;exact⟨b,Zs,bW⟩
    |succ i=>simp at af;obtain⟨e,B,aqa⟩:=K i x af;exact⟨e,by simpa using B,aqa⟩
def asL(J:cU)(aa:Nat->Prop):∀(n:Nat) (v:Value) (E:y),Bu n v=some E->v=aO J E/\b7 aa E:=by
 intro n
 induction n with
 |zero=>intro v E a;simp[Bu]at a
 |succ n aj=>
  have list:∀(k:List Value) (r:List y),Bl (Bu n) k=some r->k=bO J r/\ea aa r:=by
   intro k r a
   obtain⟨H,K⟩:=ar2 _ k r a
   constructor
   ·rw[pD]
    apply YW
    intro i
    rw[Zy]
    cases af:k[i]? with
    |none=>
     have:k.length<=i:=by simpa using af
     rw[ZW Zo];rfl
    |some x=>
     obtain⟨b,al,jp⟩:=K i x af
     rw[al,(aj _ _ jp).1];rfl
   ·rw[ur]
    intro v bu
    obtain⟨i,aF⟩:=Z3.1 bu
    have cJ:i<k.length:=by
     have:=(Zb.1 aF).1;omega
    obtain⟨b,al,jp⟩:=K i k[i] (Zf cJ)
    rw[aF]at al;simp at al;subst al
    exact(aj _ _ jp).2
  intro v E a
  unfold Bu at a
  split at a<;>(try(simp at a;subst a;simp[aO,b7,m4,bO,Lv,ea];done))
  ·simp at a;subst a
   refine⟨by simp only[aO];rw[Pb], ?_⟩
   simp only[b7]
   intro x af
   obtain⟨e,_,rfl⟩:=ZC.1 af
   exact e.toNat_lt
  ·rename_i t v
   split at a
   ·rename_i gd aD
    simp at a;subst a
    obtain⟨D,g⟩:=aj _ _ aD
    exact⟨by simp only[aO,D],g⟩
   ·simp at a
  ·rename_i cs
   split at a
   ·rename_i k aB
    simp at a;subst a
    obtain⟨D,g⟩:=list _ _ aB
    exact⟨by simp only[aO];rw[<-D],g⟩
   ·simp at a
  ·rename_i cs
   split at a
   ·rename_i k aB
    simp at a;subst a
    obtain⟨D,g⟩:=list _ _ aB
    exact⟨by simp only[aO];rw[<-D],g⟩
   ·simp at a
  ·simp at a
def Ng{v:Value}{E:y}(a:DZ v=some E):v=aO J E/\b7 aa E:=asL J aa _ _ _ a
def oH(b W i:Nat):(⟨b,W,none⟩:Addr).add i=⟨b,W+i,none⟩:=by unfold Addr.add;split<;>simp_all
def ajB(V:c9 C J aa h j bj w){b:Nat}(al:aa b){c:M y}(a:cellsOf C h b=some c):
 ∃cd ty bR aF,w.heap[(J b).cA]? =some (.cells cd ty (bR,aF))/\∀i v,c.get i=some v->cd[(J b).dQ+i]? =some (aO J v)/\b7 aa v:=by
 unfold cellsOf at a
 split at a
 ·rename_i gC n st bd
  simp at a;subst a
  obtain⟨cd,ty,bR,aF,H,_,_,aC⟩:=V.obj b _ bd al
  exact⟨cd,ty,bR,aF,H,aC⟩
 ·simp at a
def Pl(V:c9 C J aa h j bj w){b:Nat}(al:aa b){c:M y}(a:cellsOf C h b=some c){W:Nat}{v:y}(bw:c.get W=some v):
 w.cell? ⟨(J b).cA,(J b).dQ+W,none⟩=some (aO J v)/\b7 aa v:=by
 obtain⟨cd,ty,bR,aF,H,aC⟩:=ajB V al a
 obtain⟨bm,b1⟩:=aC W v bw
 exact⟨by simp[World.cell?,H,bm],b1⟩
def KV(V:c9 C J aa h j bj w){b:Nat}(al:aa b){c:M y}(a:cellsOf C h b=some c){W n:Nat}{k:List y}(bw:c.ks W n=some k):
 (loadCells ⟨(J b).cA,(J b).dQ+W,none⟩ n).run C.P w= .ok (bO J k).toArray w/\ea aa k:=by
 obtain⟨H,K⟩:=M.Lt _ _ _ _ bw
 have key:∀i v,k[i]? =some v->w.cell? ⟨(J b).cA,(J b).dQ+W+i,none⟩=some (aO J v)/\b7 aa v:=by
  intro i v aF
  have cJ:i<n:=zE (Zb.1 aF).1
  have:=Pl V al a (W:=W+i) (v:=v) (by rw[K i cJ,aF])
  rwa[<-ZX]at this
 constructor
 ·have aB:=run_loadCells_list (P:=C.P) w ⟨(J b).cA,(J b).dQ+W,none⟩ (bO J k) (λY v bu=>by
   rw[oH]
   rw[pD,Zy]at bu
   cases af:k[Y]? with
   |none=>simp[af]at bu
   |some E=>simp[af]at bu;subst bu;exact(key Y E af).1)
  have eO:(bO J k).length=n:=by rw[pD,Zp,H]
  rw[eO]at aB
  exact aB
 ·rw[ur]
  intro v bu
  obtain⟨i,aF⟩:=Z3.1 bu
  exact(key i v aF).2
def avw{t n:Nat}(a:ji C t=some n):∃i,C.P.info? t=some i/\i.size=n:=by
 unfold ji at a
 cases aF:C.P.info? t with
 |none=>simp[aF]at a
 |some i=>simp[aF]at a;exact⟨i,rfl,a⟩
def ot{t n:Nat}(a:ji C t=some n)(w:World):(sizeOf t).run C.P w= .ok n w:=by
 obtain⟨i,aF,rfl⟩:=avw a
 simp[sizeOf,typeInfo,aF]
def Ed{t:Nat}{bo:y}(a:sT C t=some bo)(J:cU)(aa:Nat->Prop)(w:World):(zeroValue t).run C.P w= .ok (aO J bo) w/\b7 aa bo:=by
 unfold sT at a
 cases aF:C.P.info? t with
 |none=>simp[aF]at a
 |some i=>
  simp only[aF]at a
  cases cf:i.zero with
  |none=>simp[cf]at a
  |some v=>
   simp only[cf]at a
   obtain⟨D,g⟩:=Ng (J:=J) (aa:=aa) a
   exact⟨by simp[zeroValue,typeInfo,aF,cf,D],g⟩
def NI{t:Nat}{b:Bool}(a:DB C t=some b)(w:World):(isAgg t).run C.P w= .ok b w:=by
 unfold DB at a
 cases a6:C.P.underlying t with
 |none=>simp[a6]at a
 |some d=>
  simp only[a6]at a
  cases d<;>simp at a<;>subst a<;>simp[isAgg,run_underlying a6]
end
section
variable{C:aT}{J:cU}{aa:Nat->Prop}{h:M ak}{j bj:Nat}{w:World}
def ny{wr:List (Nat×Nat)}{x:Operand}{ta:kk}(a:mV wr x=some ta)(aq:List (Nat×y))(I:M y):k9 ta aq I=jb wr aq I x:=by
 cases x with
 |tmp t=>
  simp only[mV]at a
  cases aD:ed wr t with
  |none=>simp[aD]at a;subst a;simp[k9,jb,aD]
  |some Y=>simp[aD]at a;subst a;simp[k9,jb,aD]
 |const v=>
  simp only[mV]at a
  cases bu:DZ v with
  |none=>simp[bu]at a
  |some E=>simp[bu]at a;subst a;simp[k9,jb,bu]
 |global g=>simp[mV]at a;subst a;rfl
 |func f=>simp[mV]at a;subst a;rfl
def akZ{wr:List (Nat×Nat)}(aq:List (Nat×y))(I:M y):∀{k:List Operand}{cs:List kk}{bx:List y},GH wr k=some cs->Ae aq I cs=some bx->
 bx.length=k.length/\∀(i:Nat) x,k[i]? =some x->∃v,bx[i]? =some v/\jb wr aq I x=some v:=by
 intro k
 induction k with
 |nil=>intro cs bx H K;simp[GH]at H;subst H;simp[Ae]at K;subst K;simp
 |cons x k aj=>
  intro cs bx H K
  simp only[GH]at H
  cases af:mV wr x with
  |none=>simp[af]at H
  |some ta=>
   cases aB:GH wr k with
   |none=>simp[af,aB]at H
   |some xc=>
    simp[af,aB]at H;subst H
    simp only[Ae]at K
    cases bu:k9 ta aq I with
    |none=>simp[bu]at K
    |some v=>
     cases V:Ae aq I xc with
     |none=>simp[bu,V]at K
     |some r=>
      simp[bu,V]at K;subst K
      obtain⟨E,b⟩:=aj aB V
      refine⟨by simp[E],λi e B=> ?_⟩
      cases i with
      |zero=>simp at B;subst B;exact⟨v,Zs,by rw[<-ny af];exact bu⟩
      |succ i=>simp at B;simpa using b i e B
def akX{ax:Operand->Option y}:∀{k:List Operand}{bx:List y},pG ax k=some bx->
 bx.length=k.length/\∀(i:Nat) x,k[i]? =some x->∃v,bx[i]? =some v/\ax x=some v:=by
 intro k
 induction k with
 |nil=>intro bx a;simp[pG]at a;subst a;simp
 |cons x k aj=>
  intro bx a
  simp only[pG]at a
  cases af:ax x with
  |none=>simp[af]at a
  |some v=>
   cases aB:pG ax k with
   |none=>simp[af,aB]at a
   |some r=>
    simp[af,aB]at a;subst a
    obtain⟨E,b⟩:=aj aB
    refine⟨by simp[E],λi e B=> ?_⟩
    cases i with
    |zero=>simp at B;subst B;exact⟨v,Zs,af⟩
    |succ i=>simp at B;simpa using b i e B
def acB{ax:Operand->Value}{eg:Operand->Option y}{k:List Operand}{bx:List y}(cw:jk J aa ax eg k)(H:bx.length=k.length)
 (K:∀(i:Nat) x,k[i]? =some x->∃v,bx[i]? =some v/\eg x=some v):k.map ax=bO J bx/\ea aa bx:=by
 constructor
 ·rw[pD]
  apply YW
  intro i
  rw[Zy,Zy]
  cases af:k[i]? with
  |none=>
   have:k.length<=i:=by simpa using af
   rw[ZW Zo];rfl
  |some x=>
   obtain⟨v,bu,bt⟩:=K i x af
   rw[bu]
   simp[(cw x (Zh af) v bt).1]
 ·rw[ur]
  intro v bu
  obtain⟨i,aF⟩:=Z3.1 bu
  have cJ:i<k.length:=zE (Zb.1 aF).1
  obtain⟨ab,a6,bt⟩:=K i k[i] (Zf cJ)
  rw[aF]at a6;simp at a6;subst a6
  exact(cw _ (List.getElem_mem cJ) v bt).2
def vs{ax:Operand->Value}{eg:Operand->Option y}{E:Array Operand}{bx:List y}(cw:jk J aa ax eg E.toList)(a:pG eg E.toList=some bx):
 E.map ax=(bO J bx).toArray/\ea aa bx:=by
 obtain⟨H,K⟩:=akX a
 obtain⟨am,aC⟩:=acB cw H K
 refine⟨?_,aC⟩
 apply Y7
 simp[am]
def aeN(q:IntKind)(n:Int):ps q n=q.wrap n:=by
 cases q<;>simp only[ps]<;>try rfl
 simp only[eQ,IntKind.wrap,IntKind.bits,IntKind.signed,Zi,zA,ge_iff_le]
 have bB:((2:Int)^64)=18446744073709551616:=by decide
 have cp:((2:Int)^(64-1))=9223372036854775808:=by decide
 rw[bB,cp]
 by_cases a:n%18446744073709551616<9223372036854775808
 ·rw[Zu a,Zg (by simpa using a)]
 ·rw[Zg a,Zu (by simpa using a)]
@[simp] def ayj(q:IntKind)(n:Int):lj q n=some (.int q (q.wrap n)):=by simp[lj,aeN]
@[simp] def abH(q:IntKind)(n:Int):o7 q n=some (.int q n):=by simp[o7]
@[simp] def vt(b:Bool):m3 b=some (.bool b):=by cases b<;>rfl
@[simp] def ES{α:Type _}(c:Bool)(E:Option α)(v:α):bH c none E=some v↔c=false/\E=some v:=by cases c<;>simp
@[simp] def FX(x e:Int):wc x e=decide (x=e):=by
  rw[Z7,Zi]
  cases x<;>cases e
  ·exact⟨λa=>by rw[Zl a],λa=>by cases a;exact zk _⟩
  ·exact⟨(λa=>by cases a),(λa=>by cases a)⟩
  ·exact⟨(λa=>by cases a),(λa=>by cases a)⟩
  ·exact⟨λa=>by rw[Zl a],λa=>by cases a;exact zk _⟩
@[simp] def tz(x e:Int):xZ x e=decide (x<e):=by
  rw[Z7,Zi]
  cases x with
  |ofNat E=>cases e with
   |ofNat b=>show Nat.blt E b=true↔(E:Int)<(b:Int);simp[Nat.blt];omega
   |negSucc b=>show false=true↔(E:Int)<Int.negSucc b;simp;omega
  |negSucc E=>cases e with
   |ofNat b=>show true=true↔Int.negSucc E<(b:Int);simp;omega
   |negSucc b=>show Nat.blt b E=true↔Int.negSucc E<Int.negSucc b;simp[Nat.blt];omega
@[simp] def abZ(q ey:IntKind):l1 q ey=decide (q=ey):=by cases q<;>cases ey<;>rfl
@[simp] def ajm(E b:Bool):KP E b=(E==b):=by cases E<;>cases b<;>rfl
def ait{op:BinOp}{q:IntKind}{x e:Int}{v:y}(t:TypeId)(a:lu op q x e=some v)(aE:lA op=false):
 (binOp op t (.int q x) (.int q e)).run C.P w= .ok (aO J v) w/\b7 aa v:=by
 cases op<;>simp[lu,lA,binOp,Op.intArith,Op.intDiv,Op.intBits,Op.intCmp]at a aE ⊢ <;>
  first
  |(subst a;simp[aO,b7];done)
  |(obtain⟨H,a⟩:=a;subst a;simp[aO,b7,H];done)
  |(subst a;exact⟨rfl,trivial⟩)
  |(subst a;refine⟨?_,trivial⟩;simp only[aO];congr 1;rw[Z7];simp;done)
def aiA{op:BinOp}{q ey:IntKind}{x e:Int}{v:y}(t:TypeId)(a:Hh op q x e=some v):
 (binOp op t (.int q x) (.int ey e)).run C.P w= .ok (aO J v) w/\b7 aa v:=by
 unfold Hh at a
 simp only[tz,ES,Ze]at a
 obtain⟨H,a⟩:=a
 cases op<;>simp[binOp,Op.shift,H]at a ⊢
 all_goals(subst a;simp[aO,b7])
def VZ{op:BinOp}{x e v:y}(t:TypeId)(a:bg op x e=some v):
 (binOp op t (aO J x) (aO J e)).run C.P w= .ok (aO J v) w/\b7 aa v/\∃q E ey b,x= .int q E/\e= .int ey b:=by
 unfold bg at a
 split at a
 ·rename_i q E ey b
  simp only[aO]
  by_cases aE:lA op=true
  ·simp only[aE,eW]at a
   obtain⟨bB,cp⟩:=aiA (C:=C) (J:=J) (aa:=aa) (w:=w) (ey:=ey) t a
   exact⟨bB,cp,_,_,_,_,rfl,rfl⟩
  ·have aE:lA op=false:=by simpa using aE
   simp only[aE,kp,abZ,eF,Zi]at a
   obtain⟨rfl,a⟩:=a
   obtain⟨bB,cp⟩:=ait (C:=C) (J:=J) (aa:=aa) (w:=w) t a aE
   exact⟨bB,cp,_,_,_,_,rfl,rfl⟩
 ·simp at a
def Kl(J:cU)(aa:Nat->Prop)(P:Program)(w:World)(s:Sem Next)(v:y):Prop:=s.run P w= .ok (.value (aO J v)) w/\b7 aa v
def n1{P:Program}{s:Sem Value}{v:y}(a:s.run P w= .ok (aO J v) w/\b7 aa v):Kl J aa P w (do pure (.value (<-s))) v:=by
 refine⟨?_,a.2⟩
 simp[a.1]
def V1(V:c9 C J aa h j bj w){t:TypeId}(a8:DB C t=some false){E v:y}(aD:b7 aa E)(a:aV C h E=some v):
 (Instr.loadAt t (aO J E)).run C.P w= .ok (aO J v) w/\b7 aa v:=by
 unfold aV at a
 split at a
 ·rename_i b W
  split at a
  ·rename_i c aA
   obtain⟨H,K⟩:=Pl V aD aA a
   refine⟨?_,K⟩
   simp[Instr.loadAt,Instr.sureAddr,aO,loadVar,NI a8,H]
  ·simp at a
 ·simp at a
def V2(V:c9 C J aa h j bj w){t:TypeId}{n:Nat}(a8:DB C t=some true)(aE:ji C t=some n){E v:y}(aD:b7 aa E)(a:dT C h n E=some v):
 (Instr.loadAt t (aO J E)).run C.P w= .ok (aO J v) w/\b7 aa v:=by
 unfold dT at a
 split at a
 ·rename_i b W
  split at a
  ·rename_i c aA
   split at a
   ·rename_i k aB
    simp at a;subst a
    obtain⟨H,K⟩:=KV V aD aA aB
    refine⟨?_,K⟩
    simp[Instr.loadAt,Instr.sureAddr,aO,loadVar,NI a8,ot aE,H]
   ·simp at a
  ·simp at a
 ·simp at a
def V3(V:c9 C J aa h j bj w){t:TypeId}{E v:y}(aD:b7 aa E)(a:pB C h t E=some v):
 (Instr.loadAt t (aO J E)).run C.P w= .ok (aO J v) w/\b7 aa v:=by
 unfold pB at a
 split at a
 ·rename_i s H K;exact V2 V H K aD a
 ·rename_i H;exact V1 V H aD a
 ·simp at a
def j4{E b:Nat}(a:Nat.blt E b=true):E<b:=by simp[Nat.blt]at a;omega
def h4{E b:Nat}(a:Nat.ble E b=true):E<=b:=by simpa using a
def DS{v:y}{n:Nat}(a:ng v=some n):∃q,v= .int q (Int.ofNat n):=by
 unfold ng at a
 split at a
 ·rename_i q bo
  split at a
  ·simp at a;subst a;exact⟨q,rfl⟩
  ·simp at a
 ·simp at a
def ak4{s:TypeId}{jT:Array Field}{f bo:Nat}{r5:Field}(a6:C.P.underlying s=some (.struct jT))(bW:jT.toList[f]? =some r5)
 (cf:ji C r5.type=some bo)(lz:bo≠0){E v:y}(aD:b7 aa E)(a:hJ r5.offset E=some v):
 (Instr.fieldAt s (aO J E) f).run C.P w= .ok (aO J v) w/\b7 aa v:=by
 unfold hJ at a
 split at a
 ·rename_i b W
  simp at a;subst a
  have qt:jT[f]? =some r5:=by rw[<-bW];simp
  refine⟨?_,aD⟩
  simp[Instr.fieldAt,run_underlying a6,qt,Instr.sureAddr,aO,fieldPlace,ot cf,lz,oH,ZX]
 ·simp at a
def aqv{t:TypeId}{n aN i:Nat}{d6:TypeId}(a6:C.P.underlying t=some (.array n d6))(cf:ji C d6=some aN)
 {E v:y}{q:IntKind}(aD:b7 aa E)(a:Kb n aN E i=some v):
 (Instr.indexAt t (aO J E) (.int q (Int.ofNat i))).run C.P w= .ok (aO J v) w/\b7 aa v:=by
 unfold Kb at a
 split at a
 ·rename_i b W
  simp only[eF,Zc]at a
  obtain⟨H,rfl⟩:=a
  have cJ:i<n:=j4 H
  refine⟨?_,aD⟩
  simp[Instr.indexAt,asIntOf,run_underlying a6,Instr.sureAddr,aO,ot cf,cJ,oH,ZX]
 ·simp at a
def aqy{t:TypeId}{aN i:Nat}{d6:TypeId}(a6:C.P.underlying t=some (.slice d6))(cf:ji C d6=some aN)
 {E v:y}{q:IntKind}(aD:b7 aa E)(a:Cc aN E i=some v):
 (Instr.indexAt t (aO J E) (.int q (Int.ofNat i))).run C.P w= .ok (aO J v) w/\b7 aa v:=by
 unfold Cc at a
 split at a
 ·rename_i b W n _
  simp only[eF,Zc]at a
  obtain⟨H,rfl⟩:=a
  have cJ:i<n:=j4 H
  refine⟨?_,aD⟩
  simp[Instr.indexAt,asIntOf,run_underlying a6,aO,ot cf,cJ,oH,ZX]
 ·rename_i b W n _
  simp only[eF,Zc]at a
  obtain⟨H,rfl⟩:=a
  have cJ:i<n:=j4 H
  refine⟨?_,aD⟩
  simp[Instr.indexAt,asIntOf,run_underlying a6,aO,ot cf,cJ,oH,ZX]
 ·simp at a
def awy{E v:y}(aD:b7 aa E)(a:sS E=some v):v=E/\(∀oper:Oper,∀ax:Operand->Value,∀x,oper.op= .nilCheck x->ax x=aO J E->(execOp ax oper).run C.P w= .ok (.value (aO J v)) w):=by
 unfold sS at a
 split at a
 ·simp at a;subst a
  refine⟨rfl,λoper ax x bd af=> ?_⟩
  simp[execOp,bd,af,aO]
 ·split at a
  ·simp at a;subst a
   refine⟨rfl,λoper ax x bd af=> ?_⟩
   simp[execOp,bd,af,aO,m4]
  ·simp at a;subst a
   refine⟨rfl,λoper ax x bd af=> ?_⟩
   simp[execOp,bd,af,aO,m4]
  ·simp at a
 ·simp at a;subst a
  refine⟨rfl,λoper ax x bd af=> ?_⟩
  simp[execOp,bd,af,aO]
 ·simp at a
def awx{i:Nat}{E v:y}(aD:b7 aa E)(a:rD i E=some v):(Instr.extract (aO J E) i).run C.P w= .ok (aO J v) w/\b7 aa v:=by
 unfold rD at a
 split at a
 ·rename_i bx
  rw[rs]at a
  refine⟨?_,(ur aa bx).1 aD v (Zh a)⟩
  simp[Instr.extract,aO,pD,a]
 ·simp at a
def Xd{ax:Operand->Value}{eg:Operand->Option y}:∀{k:List (Nat×Operand)}{da:List (Nat×y)},jk J aa ax eg (k.map (·.2))->xl eg k=some da->
 k.map (λx=>(x.1,ax x.2))=da.map (λx=>(x.1,aO J x.2))/\∀x∈da,b7 aa x.2:=by
 intro k
 induction k with
 |nil=>intro da _ a;simp[xl]at a;subst a;simp
 |cons E k aj=>
  intro da cw a
  obtain⟨i,x⟩:=E
  simp only[xl]at a
  cases af:eg x with
  |none=>simp[af]at a
  |some v=>
   cases aB:xl eg k with
   |none=>simp[af,aB]at a
   |some r=>
    simp[af,aB]at a;subst a
    obtain⟨E,b⟩:=aj (λe B=>cw e (by simp at B ⊢;exact .inr B)) aB
    obtain⟨c,d⟩:=cw x Zs v af
    refine⟨by simp[E,c],λe B=> ?_⟩
    cases B with
    |head=>exact d
    |tail _ B=>exact b e B
def ui(J:cU)(v:y):(aO J v).cells=(bO J v.cells).toArray:=by
 cases v<;>simp[aO,Value.cells,y.cells,bO]
def uj{v:y}(a:b7 aa v):ea aa v.cells:=by
 cases v with
 |agg cs=>exact a
 |_=>exact⟨a,trivial⟩
def alp(J:cU):∀(bx:List y) (cs:List y) (off q:Nat),
 ((bO J bx).zipIdx q).foldl (λ(cs:Array Value) (x:Value×Nat)=>cs.setIfInBounds (off+x.2) x.1) (bO J cs).toArray=(bO J (nk cs (off+q) bx)).toArray:=by
 intro bx
 induction bx with
 |nil=>intro cs off q;rfl
 |cons v bx aj=>
  intro cs off q
  simp only[bO,List.zipIdx_cons,ZZ,nk]
  have:(bO J cs).toArray.setIfInBounds (off+q) (aO J v)=(bO J (cs.set (off+q) v)).toArray:=by
   apply Y7
   simp[pD,List.map_set]
  rw[this,aj]
  rfl
def amh{cs:List y}{i:Nat}{v:y}(a:ea aa cs)(bu:b7 aa v):ea aa (cs.set i v):=by
 rw[ur]at a ⊢
 intro x af
 rcases YU af with co|co
 ·exact a x co
 ·rw[co];exact bu
def ami:∀(bx cs:List y) (W:Nat),ea aa cs->ea aa bx->ea aa (nk cs W bx):=by
 intro bx
 induction bx with
 |nil=>intro cs W a _;exact a
 |cons v bx aj=>intro cs W a bu;exact aj _ _ (amh a bu.1) bu.2
def PQ{Gp JE:Nat->Option (Nat×Nat)}(ay:∀i x,Gp i=some x->JE i=some x):∀(da:List (Nat×y)) (cs r:List y),ea aa cs->(∀x∈da,b7 aa x.2)->
 Ai Gp cs da=some r->Instr.fill JE (bO J cs).toArray (da.map λx=>(x.1,aO J x.2))=some (bO J r).toArray/\ea aa r:=by
 intro da
 induction da with
 |nil=>intro cs r a _ bW;simp[Ai]at bW;subst bW;exact⟨rfl,a⟩
 |cons p da aj=>
  intro cs r a bw bW
  obtain⟨i,v⟩:=p
  simp only[Ai]at bW
  cases so:Gp i with
  |none=>simp[so]at bW
  |some x=>
   obtain⟨off,size⟩:=x
   simp only[so,eF,Zq]at bW
   obtain⟨⟨H,K⟩,bW⟩:=bW
   have H:v.cells.length=size:=Zl H
   have K:off+size<=cs.length:=h4 K
   have aof:b7 aa v:=bw (i,v) Zs
   obtain⟨E,b⟩:=aj (nk cs off v.cells) r (ami _ _ _ a (uj aof)) (λx af=>bw x (by simp[af])) bW
   refine⟨?_,b⟩
   simp only[ZJ,Instr.fill,ay _ _ so,ui]
   have eO:(bO J v.cells).length=size:=by rw[pD,Zp,H]
   have uI:(bO J cs).length=cs.length:=by rw[pD,Zp]
   rw[Zg]
   ·rw[<-E]
    congr 1
    have:=alp J v.cells cs off 0
    simp
    simpa using this
   ·simp[eO,uI];omega
def aup{α eH:Type}(P:Program)(w:World)(f:α->Sem eH)(g:α->eH):∀(k:List α),(∀E∈k,(f E).run P w= .ok (g E) w)->(k.mapM f).run P w= .ok (k.map g) w:=by
 intro k
 induction k with
 |nil=>intro _;simp
 |cons E k aj=>intro a;simp[zh,a E Zs,aj (λb al=>a b (by simp[al]))]
def avu{jT:List Field}{i:Nat}{x:Nat×Nat}(a:Ty C jT i=some x):∃f s,jT[i]? =some f/\ji C f.type=some s/\x=(f.offset,s):=by
 unfold Ty at a
 rw[rs]at a
 split at a
 ·rename_i f bW
  split at a
  ·rename_i s aE
   simp at a
   exact⟨f,s,bW,aE,a.symm⟩
  ·simp at a
 ·simp at a
def Hg{t:TypeId}{cs:List y}{off:Nat}{v:y}(bw:ea aa cs)(a:Cq C t cs off=some v):
 (part t (bO J cs).toArray off).run C.P w= .ok (aO J v) w/\b7 aa v:=by
 unfold Cq at a
 split at a
 ·rename_i s H K
  simp at a;subst a
  constructor
  ·simp only[part,Sem.run_bind,NI H,Result.andThen_ok,ZE,ot K,Sem.run_pure,aO,pD]
   congr 2
   apply Y7
   simp[List.map_take,List.map_drop,List.take_drop]
  ·simp only[b7]
   rw[ur]at bw ⊢
   exact λx af=>bw x (YP (Yr af))
 ·rename_i H
  rw[rs]at a
  constructor
  ·simp[part,NI H,pD,a]
  ·exact(ur aa cs).1 bw v (Zh a)
 ·simp at a
def ais{t:TypeId}{x i v:y}(af:b7 aa x)(a:KE C t x i=some v):(Instr.index t (aO J x) (aO J i)).run C.P w= .ok (aO J v) w/\b7 aa v:=by
 unfold KE at a
 split at a
 ·simp at a
 ·rename_i n aI
  obtain⟨q,rfl⟩:=DS aI
  split at a
  ·rename_i m d6 cs a6
   split at a
   ·rename_i aN cf
    simp only[eF]at a
    obtain⟨H,K⟩:=a
    have cJ:=j4 H
    obtain⟨am,aC⟩:=Hg (J:=J) (w:=w) af K
    refine⟨?_,aC⟩
    simp[Instr.index,asIntOf,aO,run_underlying a6,cJ,ot cf,am]
   ·simp at a
  ·rename_i s a6
   rw[rs]at a
   split at a
   ·rename_i c aA
    simp at a;subst a
    refine⟨?_,trivial⟩
    have al:(bytesOf s)[n]? =some (UInt8.ofNat c):=by
     show(bytesOf s).data[n]? =_
     simp[bytesOf,aA]
    have cJ:c<256:=af c (Zh aA)
    simp[Instr.index,asIntOf,aO,run_underlying a6,al,Yv cJ]
   ·simp at a
  ·simp at a
def aiE{op:UnOp}{x v:y}(a:he op x=some v):(Op.unary op (aO J x)).run C.P w= .ok (aO J v) w/\b7 aa v:=by
 unfold he at a
 split at a
 ·rename_i q n
  simp[lu]at a;subst a
  exact⟨by simp[Op.unary,Op.intArith,aO],trivial⟩
 ·rename_i q n
  simp[lu]at a;subst a
  exact⟨rfl,trivial⟩
 ·simp at a;subst a;exact⟨rfl,trivial⟩
 ·simp at a
def asQ:∀{k:List Field},Nh C k=true->∀f∈k,∃s,ji C f.type=some s:=by
 intro k
 induction k with
 |nil=>intro _ f bW;simp at bW
 |cons E k aj=>
  intro a f bW
  simp only[Nh,Zq]at a
  cases bW with
  |head=>cases aE:ji C E.type with
   |none=>simp[aE]at a
   |some s=>exact⟨s,rfl⟩
  |tail _ bW=>exact aj a.2 f bW
def ail{t:TypeId}{da:List (Nat×y)}{v:y}(bw:∀x∈da,b7 aa x.2)(a:KB C t da=some v):
 (Instr.build t ((da.map λx=>(x.1,aO J x.2)).toArray)).run C.P w= .ok (aO J v) w/\b7 aa v:=by
 unfold KB at a
 split at a
 ·simp at a
 ·rename_i bo cf
  obtain⟨FT,FU⟩:=Ed cf J aa w
  split at a
  ·rename_i jT a6
   simp only[eF]at a
   obtain⟨dE,a⟩:=a
   split at a
   ·rename_i cs hZ
    simp at a;subst a
    have bc:(jT.mapM λf=>do pure (f.offset, <-sizeOf f.type):Sem (Array (Nat×Nat))).run C.P w= .ok (jT.toList.map λf=>(f.offset,(ji C f.type).getD 0)).toArray w:=by
     rw[Array.mapM_eq_mapM_toList,Sem.run_map,aup C.P w _ (λf:Field=>(f.offset,(ji C f.type).getD 0)) _ (λf bW=>by
      obtain⟨s,aE⟩:=asQ dE f bW
      simp[ot aE,aE])]
     rfl
    obtain⟨E,b⟩:=PQ (J:=J) (JE:=λi=>((jT.toList.map λf=>(f.offset,(ji C f.type).getD 0)).toArray)[i]?) (λi x af=>by
     obtain⟨f,s,H,K,rfl⟩:=avu af
     simp at H
     simp[H,K]) da bo.cells cs (uj FU) bw hZ
    refine⟨?_,b⟩
    simp only[Instr.build,Sem.run_bind,FT,Result.andThen_ok,run_underlying a6,bc,ui,E,aO,Sem.run_pure]
   ·simp at a
  ·rename_i n d6 a6
   split at a
   ·rename_i s aE
    split at a
    ·rename_i cs hZ
     simp at a;subst a
     obtain⟨E,b⟩:=PQ (J:=J) (JE:=λi=>some (i*s,s)) (λ_ _ a=>a) da bo.cells cs (uj FU) bw hZ
     refine⟨?_,b⟩
     simp[Instr.build,FT,run_underlying a6,ot aE,ui,E,aO]
    ·simp at a
   ·simp at a
  ·simp at a
end
section
variable{C:aT}{J:cU}{aa:Nat->Prop}{h:M ak}{j bj:Nat}{w:World}
def ac4{E b:Nat}(aD:E<256)(al:b<256)(a:UInt8.ofNat E=UInt8.ofNat b):E=b:=by
 have:=congrArg UInt8.toNat a
 simp at this
 omega
def Jw:∀(x e:List Nat),mP x e=true↔x=e
 |[],[]=>by simp[mP]
 |[],_::_=>by simp[mP]
 |_::_,[]=>by simp[mP]
 |E::x,b::e=>by
  simp only[mP,Zq,Jw x e,za]
  exact⟨λ⟨a,D⟩=>⟨Zl a,D⟩,λ⟨a,D⟩=>⟨by rw[a];exact zk _,D⟩⟩
def ar0:∀{x e:List Nat},(∀E∈x,E<256)->(∀E∈e,E<256)->x.map UInt8.ofNat=e.map UInt8.ofNat->x=e:=by
 intro x
 induction x with
 |nil=>intro e _ _ a;cases e with
  |nil=>rfl
  |cons b e=>simp at a
 |cons E x aj=>
  intro e af B a
  cases e with
  |nil=>simp at a
  |cons b e=>
   simp only[ZJ,za]at a
   rw[ac4 (af E Zs) (B b Zs) a.1,aj (λc aA=>af c (by simp[aA])) (λc aA=>B c (by simp[aA])) a.2]
def KR(s:List Nat):(bytesOf s).toList=s.map UInt8.ofNat:=by
 rw[ByteArray.toList_eq];simp[bytesOf]
def Tx{x e:List Nat}(af:∀E∈x,E<256)(B:∀E∈e,E<256):((bytesOf x).toList==(bytesOf e).toList)=mP x e:=by
 rw[Z7,Jw,Y2,KR,KR]
 exact⟨ar0 af B,λa=>by rw[a]⟩
def aeh:∀{x e:List Nat},(∀E∈x,E<256)->(∀E∈e,E<256)->Op.bytesLess (x.map UInt8.ofNat) (e.map UInt8.ofNat)=Bo x e
 |[],[],_,_=>rfl
 |[],_::_,_,_=>rfl
 |_::_,[],_,_=>rfl
 |E::x,b::e,af,B=>by
  have aD:=af E Zs
  have al:=B b Zs
  have aj:=aeh (λc aA=>af c (Zn _ aA)) (λc aA=>B c (Zn _ aA))
  simp only[ZJ,Op.bytesLess,Bo,aj]
  have bB:decide (UInt8.ofNat E<UInt8.ofNat b)=Nat.blt E b:=by
   rw[Z7,Zi,UInt8.lt_iff_toNat_lt]
   simp[Nat.blt,Yv aD,Yv al];omega
  have cp:(UInt8.ofNat E==UInt8.ofNat b)=Nat.beq E b:=by
   rw[Z7,Y2]
   exact⟨λa=>by rw[ac4 aD al a];exact zk _,λa=>by rw[Zl a]⟩
  rw[bB,cp]
def Nx(V:c9 C J aa h j bj w){b W:Nat}(al:aa b)(a:F9 C h b W=true):
 ∃c n st cd ty bR aF,Z C h b=some (.cells c n st)/\W<n/\w.heap[(J b).cA]? =some (.cells cd ty (bR,aF))/\EA st n (J b) cd.size bR aF/\(J b).dQ+n<=cd.size/\st≠ .j1:=by
 unfold F9 at a
 split at a
 ·simp at a
 ·rename_i c n st lZ bd
  obtain⟨cd,ty,bR,aF,H,K,am,_⟩:=V.obj b _ bd al
  exact⟨c,n,st,cd,ty,bR,aF,bd,j4 (by simpa using a),H,K,am,λD=>(by subst D;first|exact lZ _ bd|exact lZ _ rfl|exact lZ rfl|exact lZ bd|simp_all)⟩
 ·simp at a
def ade{b W:Nat}(a:Nq C h b W=true):F9 C h b W=true/\C.aY<=b/\∃c n,Z C h b=some (.cells c n .own):=by
 unfold Nq at a
 unfold F9
 split at a
 ·rename_i c n bd
  simp only[bd,Zq]at a ⊢
  exact⟨a.2,h4 a.1,c,n,rfl⟩
 ·simp at a
def Tc{r:Nat}{cd:Array Value}{ty:TypeId}{f:Nat×Nat}(a:w.heap[r]? =some (.cells cd ty f)):w.shape? r=some (ty,cd.size):=by
 simp[World.shape?,a]
def adY{P:Program}{p ai:Nat}{x e:Nat}{a7 b2:Array Value}{t1 eR:TypeId}{dv H cD K:Nat}(cE:p≠ai)
 (bB:w.heap[p]? =some (.cells a7 t1 (dv,H)))(cp:w.heap[ai]? =some (.cells b2 eR (cD,K)))(ef:H<=dv)(fX:x<a7.size)(hx:e<b2.size)(eX:K<=cD\/b2.size<=cD):
 (sameAddr ⟨p,x,none⟩ ⟨ai,e,none⟩).run P w= .ok false w/\(sameAddr ⟨ai,e,none⟩ ⟨p,x,none⟩).run P w= .ok false w:=by
 have g1:w.frozen? ⟨p,x,none⟩=false:=by simp[World.frozen?,bB];omega
 have b5:w.frozen? ⟨ai,e,none⟩=false:=by simp[World.frozen?,cp];omega
 have cR:w.frozen? ⟨p,a7.size,none⟩=false:=by simp[World.frozen?,bB];omega
 have kH:=Tc bB
 have lF:=Tc cp
 have fs:a7.size≠0:=Zo
 have fC:b2.size≠0:=Zo
 have aaU:ai≠p:=λD=>cE D.symm
 constructor
 ·simp[sameAddr,cE,g1,b5,cR,noView,viewAt,kH,lF,mayBeOne,stringish,fC]
 ·simp[sameAddr,aaU,g1,b5,cR,noView,viewAt,kH,lF,mayBeOne,stringish,fs,fC]
def atB(V:c9 C J aa h j bj w){b W cQ o':Nat}{r:Bool}(al:aa b)(jp:aa cQ)(a:ptrEq C h b W cQ o'=some r):
 (sameAddr ⟨(J b).cA,(J b).dQ+W,none⟩ ⟨(J cQ).cA,(J cQ).dQ+o',none⟩).run C.P w= .ok r w:=by
 unfold ptrEq at a
 rw[hn]at a
 split at a
 ·rename_i D
  subst D
  simp at a;subst a
  simp only[sameAddr,YD,ZE,Sem.run_pure]
  congr 1
  rw[Z7,Y2]
  constructor
  ·intro a;simp at a;rw[a];exact zk _
  ·intro a;rw[Zl a]
 ·rename_i cE
  simp only[eF,zb,Zq,Zc]at a
  obtain⟨a,rfl⟩:=a
  rcases a with ⟨H,K⟩|⟨H,K⟩
  ·obtain⟨am,aC,c,n,bm⟩:=ade H
   obtain⟨dl,aM,Tt,a7,t1,dv,ve,bB,fX,vh,fs,bS,_⟩:=Nx V al am
   obtain⟨dx,be,ad8,b2,eR,cD,GJ,cp,hx,Cf,fC,ck,SL⟩:=Nx V jp K
   have cI:Tt= .own:=by rw[bm]at bB;cases bB;rfl
   subst cI
   have QN:(J b).cA≠(J cQ).cA:=by
    intro D
    rcases(V.sep b cQ _ _ bB cp al jp cE aC D).1 with ⟨_,_,_,_,ai,_⟩|⟨_,_,_,_,_,ai,_⟩|⟨_,_,_,_,_,_,ai,_⟩<;>cases ai
   exact(adY QN vh Cf (zj fs.symm) Zo Zo (fC.free SL)).1
  ·obtain⟨am,aC,c,n,bm⟩:=ade H
   obtain⟨dl,aM,Tt,a7,t1,dv,ve,bB,fX,vh,fs,bS,_⟩:=Nx V jp am
   obtain⟨dx,be,ad8,b2,eR,cD,GJ,cp,hx,Cf,fC,ck,SL⟩:=Nx V al K
   have cI:Tt= .own:=by rw[bm]at bB;cases bB;rfl
   subst cI
   have QN:(J cQ).cA≠(J b).cA:=by
    intro D
    rcases(V.sep cQ b _ _ bB cp jp al (λai=>cE ai.symm) aC D).1 with ⟨_,_,_,_,ai,_⟩|⟨_,_,_,_,_,ai,_⟩|⟨_,_,_,_,_,_,ai,_⟩<;>cases ai
   exact(adY QN vh Cf (zj fs.symm) Zo Zo (fC.free SL)).2
def aip{eq:Nat->y->y->Option Bool}{d:Nat}(dJ:∀t x e r,b7 aa x->b7 aa e->eq t x e=some r->(Op.equalIn d t (aO J x) (aO J e)).run C.P w= .ok r w):
 ∀(j6:List Field) (xs fJ:List y) (r:Bool),ea aa xs->ea aa fJ->He C eq j6 xs fJ=some r->(Op.eqFields d (bO J xs).toArray (bO J fJ).toArray j6).run C.P w= .ok r w:=by
 intro j6
 induction j6 with
 |nil=>intro xs fJ r _ _ a;simp[He]at a;subst a;simp[Op.eqFields]
 |cons f j6 aj=>
  intro xs fJ r af B a
  simp only[He,ES,beq_eq_false_iff_ne]at a
  obtain⟨aI,a⟩:=a
  split at a
  ·rename_i E b aD al
   obtain⟨a7,b2⟩:=Hg (J:=J) (w:=w) af aD
   obtain⟨b4,cr⟩:=Hg (J:=J) (w:=w) B al
   split at a
   ·rename_i D
    simp only[Op.eqFields,aI,ne_eq,ZK,ZE,Sem.run_bind,a7,b4,dJ _ _ _ _ b2 cr D,Result.andThen_ok,Yt,Zv,ZD]
    exact aj xs fJ r af B a
   ·rename_i D
    simp at a;subst a
    simp only[Op.eqFields,aI,ne_eq,ZK,ZE,Sem.run_bind,a7,b4,dJ _ _ _ _ b2 cr D,Result.andThen_ok,Ys,Sem.run_pure]
   ·simp at a
  ·simp at a
def OW(V:c9 C J aa h j bj w):∀(d lx:Nat) (t:Nat) (x e:y) (r:Bool),d<=lx->b7 aa x->b7 aa e->nu C h d t x e=some r->
 (Op.equalIn lx t (aO J x) (aO J e)).run C.P w= .ok r w:=by
 intro d
 induction d with
 |zero=>intro lx t x e r _ _ _ a;simp[nu]at a
 |succ d aj=>
  intro lx t x e r aH ft q4 a
  obtain⟨lx,rfl⟩:∃D,lx=D+1:=⟨lx-1,Zo⟩
  unfold nu at a
  split at a
  ·rename_i a6;simp at a;subst a;simp[Op.equalIn,run_underlying a6,aO]
  ·rename_i a6;simp at a;obtain⟨rfl,rfl⟩:=a;simp[Op.equalIn,run_underlying a6,aO];rfl
  ·rename_i E b a6
   simp at a;subst a
   rw[aO,aO,run_equalIn_string w lx t _ _ a6,Tx ft q4]
  ·rename_i a6;simp at a;subst a;simp[Op.equalIn,run_underlying a6,aO]
  ·rename_i a6;simp at a;subst a;simp[Op.equalIn,run_underlying a6,aO]
  ·rename_i a6;simp at a;subst a;simp[Op.equalIn,run_underlying a6,aO]
  ·rename_i D b W cQ o' a6
   split at a
   ·rename_i s aE
    rw[hn]at a
    split at a
    ·simp at a
    ·rename_i Mo
     have:=atB V ft q4 a
     simp[Op.equalIn,run_underlying a6,aO,ot aE,Mo,this]
   ·simp at a
  ·rename_i a6;simp at a;subst a;simp[Op.equalIn,run_underlying a6,aO]
  ·rename_i a6;simp at a;subst a;simp[Op.equalIn,run_underlying a6,aO]
  ·rename_i a6;simp at a;subst a;simp[Op.equalIn,run_underlying a6,aO]
  ·rename_i J2 NY ty NZ a6
   rw[hn]at a
   split at a
   ·rename_i D
    subst D
    split at a
    ·rename_i i aF
     simp only[eF]at a
     obtain⟨aA,a⟩:=a
     have:=aj lx J2 NY NZ r Zo ft q4 a
     simp[Op.equalIn,run_underlying a6,aO,typeInfo,aF,aA,this]
    ·simp at a
   ·rename_i D
    simp at a;subst a
    simp[Op.equalIn,run_underlying a6,aO,D]
  all_goals first
   |(rename_i a6;simp at a;subst a;simp[Op.equalIn,run_underlying a6,aO];done)
   |skip
  ·rename_i jT xs fJ a6
   simp only[ES]at a
   obtain⟨ay,a⟩:=a
   have bW:C.P.fieldsOf t=jT:=by simp[Program.fieldsOf,a6]
   rw[aO,aO,run_equalIn_struct w lx t _ _ (by rw[bW];exact a6) ay,bW]
   exact aip (λt x e r ft q4 a=>aj lx t x e r Zo ft q4 a) _ _ _ _ ft q4 a
  ·simp at a
end
section
variable{C:aT}{J:cU}{aa:Nat->Prop}{h:M ak}{j bj:Nat}{w:World}
def binOp_eql{t:TypeId}{X nY:Value}(H:∀q E ey b,¬(X= .int q E/\nY= .int ey b))(K:∀E b,¬(X= .string E/\nY= .string b))
 (am:∀q E,X≠ .float q E)(aC:∀q E b,X≠ .complex q E b):binOp .eql t X nY=(do pure (.bool (<-Op.equal t X nY)))/\binOp .neq t X nY=(do pure (.bool (!(<-Op.equal t X nY)))):=by
 constructor
 ·unfold binOp
  split
  all_goals first
   |rfl
   |exact absurd ⟨rfl,rfl⟩ (H _ _ _ _)
   |exact absurd ⟨rfl,rfl⟩ (K _ _)
   |exact absurd rfl (am _ _)
   |exact absurd rfl (aC _ _ _)
   |simp_all
 ·unfold binOp
  split
  all_goals first
   |rfl
   |exact absurd ⟨rfl,rfl⟩ (H _ _ _ _)
   |exact absurd ⟨rfl,rfl⟩ (K _ _)
   |exact absurd rfl (am _ _)
   |exact absurd rfl (aC _ _ _)
   |simp_all
def WF(J:cU)(v:y):(∀q E,aO J v≠ .float q E)/\∀q E b,aO J v≠ .complex q E b:=by
 cases v<;>simp[aO]
def akE{m:Nat}{t:TypeId}{im:Array (String×TypeId)}(a6:C.P.underlying t=some (.interface im))(bt:im.isEmpty=true):(Op.eqGuardIn (m+1) t .nilIface .nilIface).run C.P w= .ok false w:=by
 simp[Op.eqGuardIn,run_underlying a6,bt]
def akF{op:BinOp}{t:TypeId}{x e:Operand}{X nY:Value}(a:(qD x||qD e)=true)(K:∀c d,¬(X= .agg c/\nY= .agg d)):
 (eqGuard op t x e X nY).run C.P w= .ok () w:=by
 cases op<;>first|rfl|(cases x<;>cases e<;>first|(simp[qD]at a;done)|(cases X<;>cases nY<;>first|rfl|exact absurd ⟨rfl,rfl⟩ (K _ _)))
def akG{op:BinOp}{t:TypeId}{x e:Operand}{im:Array (String×TypeId)}(a6:C.P.underlying t=some (.interface im))(bt:im.isEmpty=true):
 (eqGuard op t x e .nilIface .nilIface).run C.P w= .ok () w:=by
 have key:=akE (C:=C) (w:=w) (m:=9999) a6 bt
 have H:Op.maxDepth=9999+1:=rfl
 cases op<;>first|rfl|(cases x<;>cases e<;>first|rfl|(simp[eqGuard,H,key];done))
def akH{op:BinOp}{t:TypeId}{x e:Operand}(a:(qD x||qD e||(match C.P.underlying t with|some (.interface im)=>im.isEmpty|_=>false))=true):
 (eqGuard op t x e .nilIface .nilIface).run C.P w= .ok () w:=by
 by_cases aA:(qD x||qD e)=true
 ·exact akF aA Zs
 ·have aA:(qD x||qD e)=false:=by simpa using aA
  rw[aA,Bool.false_or]at a
  split at a
  ·rename_i im a6
   exact akG a6 a
  ·simp at a
def akI{op:BinOp}{t:TypeId}{x e:Operand}{X nY:Value}(H:¬(X= .nilIface/\nY= .nilIface))(K:∀c d,¬(X= .agg c/\nY= .agg d)):
 (eqGuard op t x e X nY).run C.P w= .ok () w:=by
 cases op<;>first|rfl|(cases X<;>cases nY<;>first|rfl|exact absurd ⟨rfl,rfl⟩ H|exact absurd ⟨rfl,rfl⟩ (K _ _))
def Lf{op:BinOp}{t:TypeId}{x e:Operand}{E b:y}(a:E2 C t (qD x||qD e) E b=true):
 (eqGuard op t x e (aO J E) (aO J b)).run C.P w= .ok () w:=by
 unfold E2 at a
 split at a
 ·exact akH a
 ·simp only[aO]
  exact run_eqGuard_agg w op t x e _ _ (by simpa using a)
 ·rename_i aM be
  refine akI ?_ ?_
  ·rintro⟨H,K⟩
   cases E<;>simp[aO]at H
   cases b<;>simp[aO]at K
   exact aM rfl rfl
  ·rintro c d ⟨H,K⟩
   cases E<;>simp[aO]at H
   cases b<;>simp[aO]at K
   exact be _ _ rfl rfl
def aiC{op:BinOp}{x e:List Nat}{v:y}(af:∀E∈x,E<256)(B:∀E∈e,E<256)(a:wZ op x e=some v):
 (Op.stringOp op (bytesOf x) (bytesOf e)).run C.P w= .ok (aO J v) w/\b7 aa v:=by
 have bB:=Tx af B
 have cp:Op.bytesLess (bytesOf x).toList (bytesOf e).toList=Bo x e:=by rw[KR,KR];exact aeh af B
 cases op<;>simp only[wZ,vt,eF,Zc]at a<;>
  first
  |(
    obtain⟨H,rfl⟩:=a
    constructor
    ·have aE:(bytesOf x).size=x.length:=by simp[bytesOf,ByteArray.size]
     have uR:(bytesOf e).size=e.length:=by simp[bytesOf,ByteArray.size]
     have fa:=h4 H
     simp only[Op.stringOp,aE,uR]
     rw[Zg (by simp[IntKind.max,IntKind.signed,IntKind.bits];omega)]
     simp only[Sem.run_pure,aO]
     congr 2
     apply ByteArray.ext
     simp[bytesOf]
    ·simp only[b7]
     intro bo cf
     rcases Zw.1 cf with a|a
     ·exact af bo a
     ·exact B bo a)
  |(subst a;exact⟨by simp only[Op.stringOp,bB,cp,Sem.run_pure,aO],trivial⟩)
  |(simp at a)
def aq3(V:c9 C J aa h j bj w){op:BinOp}{t:Nat}{x e:Operand}{ax:Operand->Value}{eg:Operand->Option y}{v:y}(cw:jk J aa ax eg [x,e])
 (a:MO C op t x e h eg=some v):(do eqGuard op t x e (ax x) (ax e);binOp op t (ax x) (ax e):Sem Value).run C.P w= .ok (aO J v) w/\b7 aa v:=by
 unfold MO at a
 split at a
 ·rename_i E b aD al
  obtain⟨akq,iQ⟩:=cw x Zs E aD
  obtain⟨q0,qj⟩:=cw e Zs b al
  rw[akq,q0]
  unfold dD at a
  split at a
  ·rename_i q i ey Y
   obtain⟨H,K,_⟩:=VZ (C:=C) (J:=J) (aa:=aa) (w:=w) t a
   refine⟨?_,K⟩
   rw[Sem.run_bind,Lf (by simp[E2])]
   exact H
  ·rename_i s fc
   obtain⟨H,K⟩:=aiC (C:=C) (J:=J) (aa:=aa) (w:=w) iQ qj a
   refine⟨?_,K⟩
   rw[Sem.run_bind,Lf (by simp[E2])]
   simp only[Result.andThen_ok,aO,binOp]
   exact H
  ·rename_i asu hj
   simp only[eF]at a
   obtain⟨dE,a⟩:=a
   have bG:∀r,nu C h 50 t E b=some r->(Op.equal t (aO J E) (aO J b)).run C.P w= .ok r w:=λr ml=>OW V 50 _ t E b r Zd iQ qj ml
   have n8:∀q bo ey Kc,¬(aO J E= .int q bo/\aO J b= .int ey Kc):=by
    intro q bo ey Kc ⟨H,K⟩
    cases E<;>simp[aO]at H
    cases b<;>simp[aO]at K
    exact asu _ _ _ _ rfl rfl
   have mC:∀bo Kc,¬(aO J E= .string bo/\aO J b= .string Kc):=by
    intro bo Kc ⟨H,K⟩
    cases E<;>simp[aO]at H
    cases b<;>simp[aO]at K
    exact hj _ _ rfl rfl
   obtain⟨cF,cH⟩:=binOp_eql (t:=t) n8 mC (WF J E).1 (WF J E).2
   rw[Sem.run_bind,Lf dE]
   split at a
   ·split at a
    ·rename_i r ml
     simp at a;subst a
     exact⟨by simp[cF,bG r ml,aO],trivial⟩
    ·simp at a
   ·split at a
    ·rename_i r ml
     simp at a;subst a
     exact⟨by simp[cH,bG r ml,aO],trivial⟩
    ·simp at a
   ·simp at a
 ·simp at a
end
section
variable{C:aT}{J:cU}{aa:Nat->Prop}{h:M ak}{j bj:Nat}{w:World}
def aio{s d:Nat}{x v:y}(af:b7 aa x)(a:OV C s d x=some v):(convert s d (aO J x)).run C.P w= .ok (aO J v) w/\b7 aa v:=by
 unfold OV at a
 split at a
 ·rename_i k3 q de n IY IX
  simp at a;subst a
  simp[convert,run_underlying IY,run_underlying IX,Conv.intToInt,aO,b7]
 ·rename_i k3 s IY IX
  simp at a;subst a
  refine⟨?_,af⟩
  simp[convert,run_underlying IY,run_underlying IX,aO]
 ·simp at a
def ajs:∀{k:List y}{s:List Nat},w9 k=some s->∃hj:List Nat,k=hj.map (λn=>y.int .u8 (Int.ofNat n))/\s=hj.map (·%256):=by
 intro k
 induction k with
 |nil=>intro s a;simp[w9]at a;subst a;exact⟨[],rfl,rfl⟩
 |cons E k aj=>
  intro s a
  unfold w9 at a
  split at a
  ·rename_i f8;simp at f8
  ·rename_i n cb dJ
   simp only[za]at dJ
   obtain⟨rfl,rfl⟩:=dJ
   split at a
   ·rename_i r V
    simp at a;subst a
    obtain⟨hj,H,K⟩:=aj V
    exact⟨n::hj,by simp[H],by simp[K]⟩
   ·simp at a
  ·simp at a
def alo(hj:List Nat):∀r:ByteArray,(hj.map Int.ofNat).foldl (λr (n:Int)=>r.push (UInt8.ofNat n.toNat)) r=⟨r.data++(hj.map UInt8.ofNat).toArray⟩:=by
 induction hj with
 |nil=>intro r;simp
 |cons n hj aj=>
  intro r
  simp only[ZJ,ZZ,aj]
  congr 1
  apply Y7
  simp[ByteArray.push]
def EQ(V:c9 C J aa h j bj w){b W n:Nat}{k:List y}(al:aa b)(a:ix C h b W n=some k):
 (loadCells ⟨(J b).cA,(J b).dQ+W,none⟩ n).run C.P w= .ok (bO J k).toArray w/\ea aa k:=by
 unfold ix at a
 split at a
 ·rename_i c aA;exact KV V al aA a
 ·simp only[eF,Zc]at a
  obtain⟨H,rfl⟩:=a
  have:n=0:=Zl H
  subst this
  refine⟨?_,trivial⟩
  have aB:=run_loadCells_list (P:=C.P) w ⟨(J b).cA,(J b).dQ+W,none⟩ [] (λY v bu=>by simp at bu)
  simpa[bO]using aB
def aeq(V:c9 C J aa h j bj w){b W n cap:Nat}{k:List y}{s:List Nat}(al:aa b)(a:ix C h b W n=some k)(aE:w9 k=some s):
 (Conv.bytesToString (.slice (some ⟨(J b).cA,(J b).dQ+W,none⟩) n cap)).run C.P w= .ok (aO J (.str s)) w/\b7 aa (.str s):=by
 obtain⟨H,_⟩:=EQ V al a
 obtain⟨hj,rfl,rfl⟩:=ajs aE
 have K:=run_bytesToString (P:=C.P) w ⟨(J b).cA,(J b).dQ+W,none⟩ n cap (hj.map Int.ofNat) (by
  rw[H];congr 2
  rw[pD,YB,YB];rfl)
 constructor
 ·rw[K,alo]
  congr 2
  simp only[bytesOf,YB]
  congr 1
  apply Y7
  simp
  intro E _
  exact UInt8.toNat_inj.1 Zs
 ·simp only[b7]
  intro x af
  obtain⟨e,_,rfl⟩:=ZC.1 af
  exact zs _ Zd
def aiD(V:c9 C J aa h j bj w){x v:y}(af:b7 aa x)(a:EG C h x=some v):(Conv.bytesToString (aO J x)).run C.P w= .ok (aO J v) w/\b7 aa v/\∃E k c,aO J x= .slice E k c:=by
 unfold EG at a
 split at a
 ·simp at a;subst a;exact⟨rfl,by simp[b7],_,_,_,rfl⟩
 ·split at a
  ·rename_i k aB
   split at a
   ·rename_i s aE
    simp at a;subst a
    obtain⟨H,K⟩:=aeq V af aB aE
    exact⟨H,K,_,_,_,rfl⟩
   ·simp at a
  ·simp at a
 ·split at a
  ·rename_i k aB
   split at a
   ·rename_i s aE
    simp at a;subst a
    obtain⟨H,K⟩:=aeq V af aB aE
    exact⟨H,K,_,_,_,rfl⟩
   ·simp at a
  ·simp at a
 ·simp at a
def aq4(V:c9 C J aa h j bj w){s d:Nat}{x:Operand}{ax:Operand->Value}{eg:Operand->Option y}{v:y}(cw:jk J aa ax eg [x])
 (a:Je C s d x h eg=some v):(convert s d (ax x)).run C.P w= .ok (aO J v) w/\b7 aa v:=by
 unfold Je at a
 split at a
 ·rename_i E aD
  obtain⟨D,g⟩:=cw x Zs E aD
  rw[D]
  split at a
  ·rename_i ab a6
   simp at a;subst a
   exact aio g a6
  ·split at a
   ·rename_i tb IY IX
    split at a
    ·rename_i bt
     obtain⟨H,K,gd,k,c,am⟩:=aiD V g a
     refine⟨?_,K⟩
     rw[am]at H ⊢
     rw[run_convert_bytes_string w s d tb gd k c IY bt IX]
     exact H
    ·simp at a
   ·simp at a
 ·simp at a
def DJ{W:Option y}{m d r:Nat}(a:nK W m d=some r):(W=none/\r=d)\/∃q,W=some (.int q (Int.ofNat r))/\r<=m:=by
 unfold nK at a
 split at a
 ·rename_i v
  split at a
  ·rename_i n aI
   simp only[eF,Zc]at a
   obtain⟨H,rfl⟩:=a
   obtain⟨q,rfl⟩:=DS aI
   exact .inr ⟨q,rfl,h4 H⟩
  ·simp at a
 ·simp at a;exact .inl ⟨rfl,a.symm⟩
def run_sliceBound{P:Program}{q:IntKind}{n e:Nat}{code:BoundsCode}(a:n<=e):(Instr.sliceBound (.int q (Int.ofNat n)) e code).run P w= .ok n w:=by
 have H:(0:Int)<=Int.ofNat n/\Int.ofNat n<=(e:Int):=⟨Int.natCast_nonneg n,Int.ofNat_le.2 a⟩
 simp only[Instr.sliceBound,asIntOf,Sem.run_bind,Sem.run_pure,Result.andThen_ok]
 rw[Zu H]
 rfl
def Hr{F0:Bool}{len cap Cy:Nat}{bR aF g3:Option y}{k a m:Nat}(aA:cap<=Cy)(al:md len cap bR aF g3=some (k,a,m)):
 (Instr.sliceBounds F0 len Cy (bR.map (aO J)) (aF.map (aO J)) (g3.map (aO J))).run C.P w= .ok (k,a,if g3.isSome then m else Cy) w/\k<=a/\(g3=none->m=cap)/\m<=cap/\(a<=m\/a=len):=by
 unfold md at al
 split at al
 ·simp at al
 ·rename_i fI bc
  split at al
  ·simp at al
  ·rename_i co f8
   split at al
   ·simp at al
   ·rename_i cb aB
    simp at al
    obtain⟨rfl,rfl,rfl⟩:=al
    have Iz:cb<=co:=by
     rcases DJ aB with ⟨_,rfl⟩|⟨q,_,fa⟩
     ·exact zi _
     ·exact fa
    cases g3 with
    |none=>
     have sn:fI=cap:=by simpa[nK]using bc.symm
     subst sn
     have L4:nK aF fI len=some co:=by cases aF<;>exact f8
     refine⟨?_,Iz,λ_=>rfl,Zj _,(DJ L4).elim (λa=> .inr a.2) (λ⟨_,_,a⟩=> .inl a)⟩
     rcases DJ L4 with ⟨rfl,rfl⟩|⟨q,rfl,fa⟩<;>rcases DJ aB with ⟨rfl,rfl⟩|⟨ck,rfl,f1⟩
     ·simp[Instr.sliceBounds]
     ·simp only[Instr.sliceBounds,zc,ZU,aO,Sem.run_bind,Sem.run_pure,Result.andThen_ok,run_sliceBound f1,Z4,Zv,ZD]
     ·simp only[Instr.sliceBounds,zc,ZU,aO,Sem.run_bind,Sem.run_pure,Result.andThen_ok,run_sliceBound (ZB fa aA),Z4,Zv,ZD]
     ·simp only[Instr.sliceBounds,zc,ZU,aO,Sem.run_bind,Sem.run_pure,Result.andThen_ok,run_sliceBound (ZB fa aA),run_sliceBound f1,Z4,Zv,ZD]
    |some asi=>
     rcases DJ bc with ⟨bi,_⟩|⟨q,bi,fa⟩
     ·cases bi
     ·cases bi
      cases aF with
      |none=>simp at f8
      |some bu=>
       have L4:nK (some bu) fI len=some co:=f8
       rcases DJ L4 with ⟨bi,_⟩|⟨ey,bi,Iy⟩
       ·cases bi
       ·cases bi
        refine⟨?_,Iz,(λa=>by cases a),fa, .inl Iy⟩
        rcases DJ aB with ⟨rfl,rfl⟩|⟨ck,rfl,f1⟩
        ·simp only[Instr.sliceBounds,zc,ZU,aO,Sem.run_bind,Sem.run_pure,Result.andThen_ok,run_sliceBound (ZB fa aA),run_sliceBound Iy,Z8,ZE]
        ·simp only[Instr.sliceBounds,ZU,aO,Sem.run_bind,Sem.run_pure,Result.andThen_ok,run_sliceBound (ZB fa aA),run_sliceBound Iy,run_sliceBound f1,Z8,ZE]
end
section
variable{C:aT}{J:cU}{aa:Nat->Prop}{h:M ak}{j bj:Nat}{w:World}
def ajK(m k W aN:Nat):bH (Nat.beq m k) W (W+k*aN)=if m=k then W else W+k*aN:=hn _ _ _ _
def ad5(V:c9 C J aa h j bj w){b n:Nat}(al:aa b)(a:u9 C h b=some n):n<=(J b).room:=by
 unfold u9 at a
 split at a
 ·rename_i c m ez bd
  simp at a;subst a
  obtain⟨cd,ty,bR,aF,_,K,_,_⟩:=V.obj b _ bd al
  exact K.2.1
 ·rename_i c m bd
  simp at a;subst a
  obtain⟨cd,ty,bR,aF,_,K,_,_⟩:=V.obj b _ bd al
  exact K.2.1
 ·simp at a
def Tq{b W k a m aN:Nat}:Value.slice (some (if m=k then(⟨(J b).cA,(J b).dQ+W,none⟩:Addr)else(⟨(J b).cA,(J b).dQ+W,none⟩:Addr).add (k*aN))) (a-k) (m-k)
 =aO J (.slice b (bH (Nat.beq m k) W (W+k*aN)) (a-k) (m-k)):=by
 rw[ajK]
 simp only[aO,oH]
 split
 ·rfl
 ·rw[ZX]
def aiB(V:c9 C J aa h j bj w){t:Nat}{x v:y}{bR aF g3:Option y}(af:b7 aa x)(a:KH C h t x bR aF g3=some v):
 (Instr.sliceAt t (aO J x) (bR.map (aO J)) (aF.map (aO J)) (g3.map (aO J))).run C.P w= .ok (aO J v) w/\b7 aa v:=by
 unfold KH at a
 split at a
 ·rename_i s a6
  cases g3 with
  |some _=>simp at a
  |none=>
   simp only at a
   split at a
   ·rename_i k co m al
    simp at a;subst a
    obtain⟨H,K,_⟩:=Hr (C:=C) (J:=J) (w:=w) (F0:=false) (Zj _) al
    have eh:(bytesOf s).size=s.length:=by simp[bytesOf,ByteArray.size]
    constructor
    ·simp only[zc,Z4,Zv,ZD]at H
     simp[Instr.sliceAt,run_underlying a6,Instr.slice,aO,eh,H]
     apply ByteArray.ext
     rw[ByteArray.data_extract]
     apply Y7
     simp[bytesOf,List.map_take,List.map_drop,List.take_drop]
    ·simp only[b7]at af ⊢
     intro bo cf
     exact af bo (YP (Yr cf))
   ·simp at a
 ·rename_i d6 b W len cap a6
  split at a
  ·rename_i k co m aN al eh
   simp at a;subst a
   obtain⟨H,K,am,_⟩:=Hr (C:=C) (J:=J) (w:=w) (F0:=true) (Zj cap) al
   have bc:(if g3.isSome=true then m else cap)=m:=by cases g3 with
    |none=>simp[am rfl]
    |some _=>rfl
   rw[bc]at H
   refine⟨?_,af⟩
   have:=Tq (J:=J) (b:=b) (W:=W) (k:=k) (a:=co) (m:=m) (aN:=aN)
   simp only[Instr.sliceAt,Sem.run_bind,run_underlying a6,Result.andThen_ok,Instr.slice,aO,H,ot eh,Sem.run_pure]
   rw[<-aO, <-this]
   split<;>rfl
  ·simp at a
 ·rename_i d6 a6
  split at a
  ·rename_i r aN al eh
   obtain⟨k,co,m⟩:=r
   simp at a;subst a
   obtain⟨H,K,am,aC,bm⟩:=Hr (C:=C) (J:=J) (w:=w) (F0:=true) (Zj 0) al
   have bc:m=0:=Zo
   have f8:co=0:=Zo
   have aB:k=0:=Zo
   subst bc;subst f8;subst aB
   refine⟨?_,trivial⟩
   have q5:(Instr.sliceBounds true 0 0 (bR.map (aO J)) (aF.map (aO J)) (g3.map (aO J))).run C.P w= .ok (0,0,0) w:=by rw[H];split<;>rfl
   simp[Instr.sliceAt,run_underlying a6,Instr.slice,aO,q5,ot eh]
  ·simp at a
 ·rename_i d6 b W len aN a6
  split at a
  ·rename_i wC n eh aI
   simp only[eF,Zq]at a
   obtain⟨⟨kQ,o1⟩,a⟩:=a
   have kQ:aN=wC:=Zl kQ
   subst kQ
   have o1:0<aN:=j4 o1
   have apq:=ad5 V af aI
   have mD:(n-W)/aN<=((J b).room-W)/aN:=Nat.div_le_div_right Zo
   split at a
   ·rename_i k co m al
    obtain⟨H,K,am,_⟩:=Hr (C:=C) (J:=J) (w:=w) (F0:=true) mD al
    cases g3 with
    |some asi=>
     simp at a;subst a
     refine⟨?_,af⟩
     have:=Tq (J:=J) (b:=b) (W:=W) (k:=k) (a:=co) (m:=m) (aN:=aN)
     simp only[Z8,ZE]at H
     simp only[Instr.sliceAt,Sem.run_bind,run_underlying a6,Result.andThen_ok,Instr.slice,aO,H,ot eh,Sem.run_pure]
     rw[<-aO, <-this]
     split<;>rfl
    |none=>
     simp only[Z4,Zv,ZD]at H
     dsimp only at a
     rw[eQ]at a
     split at a
     rotate_left
     ·simp only[eF,Zq,Zc]at a
      obtain⟨⟨bd,f8⟩,rfl⟩:=a
      have bd:W=0:=Zl bd
      have f8:co=k:=Zl f8
      subst bd f8
      simp only[YN]at H
      refine⟨?_,af⟩
      simp only[Instr.sliceAt,Sem.run_bind,run_underlying a6,Result.andThen_ok,Instr.slice,aO,H,ot eh,Sem.run_pure,YN,zl]
      congr 1
      congr 1
      by_cases ai:(J b).room/aN=co
      ·simp[ai]
      ·simp[ai,oH]
     rename_i aB
     simp only[zb]at aB
     cases a
     refine⟨?_,af⟩
     simp only[Instr.sliceAt,Sem.run_bind,run_underlying a6,Result.andThen_ok,Instr.slice,aO,H,ot eh,Sem.run_pure]
     have cp:((J b).room-(W+k*aN))/aN=((J b).room-W)/aN-k:=by
      rw[<-Nat.sub_sub,zB k aN,Nat.sub_mul_div]
     rw[cp]
     congr 1
     congr 1
     rcases aB with aB|aB
     ·have aB:=j4 aB
      rw[Zg Zo,ZU,oH,ZX]
     ·have aB:k=0:=Zl aB
      subst aB
      split<;>simp[oH]
   ·simp at a
  ·simp at a
 ·rename_i n d6 b W a6
  split at a
  ·rename_i k co m aN al eh
   simp at a;subst a
   obtain⟨H,K,am,_⟩:=Hr (C:=C) (J:=J) (w:=w) (F0:=false) (Zj n) al
   have bc:(if g3.isSome=true then m else n)=m:=by cases g3 with
    |none=>simp[am rfl]
    |some _=>rfl
   rw[bc]at H
   refine⟨?_,af⟩
   have:=Tq (J:=J) (b:=b) (W:=W) (k:=k) (a:=co) (m:=m) (aN:=aN)
   simp only[Instr.sliceAt,Sem.run_bind,run_underlying a6,Result.andThen_ok,Instr.sureAddr,aO,H,ot eh,Sem.run_pure]
   rw[<-aO, <-this]
  ·simp at a
 ·simp at a
end
end Go.bs

