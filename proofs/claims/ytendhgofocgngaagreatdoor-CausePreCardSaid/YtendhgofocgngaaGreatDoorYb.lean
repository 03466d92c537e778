/- Part of the proof of the last text; no conditions -/
import Derived.Test.YtendhgofocgngaaGreatDoorYa
import Derived.Below
import Derived.ChangeKeysEq
import Derived.Laws.IdiomCopy
import Derived.Laws.Unary
import Derived.Laws.Wrap64
import Derived.Laws.StructEq
import Derived.Laws.BytesString
import Derived.MapKept
set_option maxHeartbeats 8000000
set_option linter.all false
namespace Go.bn
open Go.RowKit (Below)
structure jr(J:c1)(Y:Nat->Prop)(n am:Nat)(I:S z)(tmps:Array Value):Prop where
 size:tmps.size=n
 val:∀t v,fm am t=true->I.get t=some v->tmps[t]? =some (aF J v)/\b7 Y v
def PU(C:aK)(fn am:Nat):Prop:=∃f,C.P.funcs[fn]? =some f/\yU am f.results.toList=true
def GV(c:Code):Prop:=c= .ret\/∃id,c= .exit id
def CA(J:c1):PB->Target
 | .fn fn fw=> .fn (mY J fn) (bK J fw).toArray
 | .collected r=> .collected (J r).cr
def lN(J:c1)(d:hE):Deferred:=⟨CA J d.target,(bK J d.args).toArray⟩
def apm(Y:Nat->Prop):PB->Prop
 | .fn fn fw=>MI Y fn/\d0 Y fw
 | .collected r=>Y r
def wd(Y:Nat->Prop)(d:hE):Prop:=apm Y d.target/\d0 Y d.args
def Fq(st:oS)(n:Nat)(pl:mq)(aR bC aA:Nat):Prop:=match st with
 | .own=>bC=aA
 | .marked=>bC=aA\/aR<=bC
 | .grow _=>(bC=aA\/aR<=bC)/\n<=pl.room/\pl.dH+pl.room<=aR
 | .jO=>True/\n<=pl.room/\pl.dH+pl.room<=aR
def Fq.free{st:oS}{n:Nat}{pl:mq}{aR bC aA:Nat}(a:Fq st n pl aR bC aA)(kS:st≠ .jO):aA<=bC\/aR<=bC:=by
 cases st with
 |own=>exact .inl (zj a.symm)
 |marked=>exact a.imp (λB=>zj B.symm) id
 |grow _=>exact a.1.imp (λB=>zj B.symm) id
 |jO=>exact absurd rfl kS
def fz(J:c1)(B:z×z×Nat):MapEntry:=⟨aF J B.1,aF J B.2.1,B.2.2⟩
def jU(C:aK)(J:c1)(Y:Nat->Prop)(U:ai)(pl:mq)(w:World):Prop:=match U with
 | .cells c n st=>∃bU ty bC aA,w.heap[pl.cr]? =some (.cells bU ty (bC,aA))/\Fq st n pl bU.size bC aA/\pl.dH+n<=bU.size/\
    ∀i v,c.get i=some v->bU[pl.dH+i]? =some (aF J v)/\b7 Y v
 | .map a1 dn=>∃bU,w.heap[pl.cr]? =some (.map bU dn)/\bU.toList=a1.map (fz J)/\∀B∈a1,b7 Y B.1/\b7 Y B.2.1
 | .look a1=>∃(bU:Array MapEntry) (dn:Nat) (jX:List (z×z×Nat)),w.heap[pl.cr]? =some (.map bU dn)/\bU.toList=jX.map (fz J)/\(jX.map λB=>(B.1,B.2.1)).Perm a1/\∀B∈jX,b7 Y B.1/\b7 Y B.2.1
 | .oF s pos=>pl.dH=0/\w.heap[pl.cr]? =some (.stringIter (fp s) pos)/\∀x∈s,x<256
 | .kB m eL seen st=>pl.dH=0/\w.heap[pl.cr]? =some (.mapIter (m.map λb=>(J b).cr) eL seen.toArray st)/\∀b,m=some b->Y b
 | .vj m eL n cj st lQ=>pl.dH=0/\Y m/\∃seen:List Nat,w.heap[pl.cr]? =some (.mapIter (some (J m).cr) eL seen.toArray st)/\(cj.filter λb=> !seen.contains b).length<=n/\∀b,lQ=some b->Ko seen=some b
 | .loop state pending fn n am I params assign body bg=>∃tmps,w.heap[pl.cr]? =some (.loop ⟨state,pending,fn,tmps,params.toArray,assign,body,(J bg).cr⟩)/\jr J Y n am I tmps/\Y bg/\
    lP C am assign=true/\lP C am body=true/\(∀c,pending=some c->GV c)/\PU C fn am
 | .deferred pw=>w.heap[pl.cr]? =some (.deferred (pw.map λk=>k.map (lN J)))/\∀k,pw=some k->∀d∈k,wd Y d
def P8(U o':ai)(b dw:Nat):Prop:=
 (∃c n gp aP,U= .cells c n .jO/\o'= .cells gp aP .jO)\/
 (∃c n k gp aP,U= .cells c n (.grow k)/\o'= .cells gp aP .jO/\dw∈k/\aP<=n)\/
 (∃c n k gp aP,o'= .cells gp aP (.grow k)/\U= .cells c n .jO/\b∈k/\n<=aP)
def uh(C:aK)(Y:Nat->Prop)(U:ai):Prop:=(∀c n k,U= .cells c n (.grow k)->∀x∈k,Y x/\C.bf<=x)/\∀c n st,U= .cells c n st->∀i v,c.get i=some v->i<n
structure cV(C:aK)(J:c1)(Y:Nat->Prop)(h:S ai)(j bj:Nat)(w:World):Prop where
 bf:C.bf<=j
 lt:∀b,Y b->b<j
 vl:∀b U,Z C h b=some U->b<j
 obj:∀b U,Z C h b=some U->Y b->jU C J Y U (J b) w
 sep:∀b dw U o',Z C h b=some U->Z C h dw=some o'->Y b->Y dw->b≠dw->C.bf<=b->(J b).cr=(J dw).cr->P8 U o' b dw/\(J b).dH=(J dw).dH
 base:∀b U,C.bf<=b->Z C h b=some U->Y b->bj<=(J b).cr
 et:∀b U,Z C h b=some U->Y b->uh C Y U
def jc(J:c1)(Y:Nat->Prop)(au:Operand->Value)(ed:Operand->Option z)(k:List Operand):Prop:=
 ∀x∈k,∀v,ed x=some v->au x=aF J v/\b7 Y v
section
variable{C:aK}{J:c1}{Y:Nat->Prop}{h:S ai}{j bj:Nat}{w:World}
def Qw(s:ByteArray):fp (s.data.toList.map (·.toNat))=s:=by
 unfold fp
 rw[YA]
 have:(UInt8.ofNat∘λx:UInt8=>x.toNat)=id:=by funext x;simp
 rw[this]
 simp
def avv{α en:Type}(f:α->Option en):∀(k:List α) (r:List en),BI f k=some r->r.length=k.length/\∀(i:Nat) (E:α),k[i]? =some E->∃b,r[i]? =some b/\f E=some b:=by
 intro k
 induction k with
 |nil=>intro r a;simp[BI]at a;subst a;simp
 |cons E k ag=>
  intro r a
  simp only[BI]at a
  cases b8:f E with
  |none=>simp[b8]at a
  |some b=>
   simp only[b8]at a
   cases V:BI f k with
   |none=>simp[V]at a
   |some fL=>
    simp only[V,Zf]at a
    subst a
    obtain⟨H,K⟩:=ag _ V
    refine⟨by simp[H],λi x af=> ?_⟩
    cases i with
    |zero=>simp at af;subst af;exact⟨b,Zs,b8⟩
    |succ i=>simp at af;obtain⟨e,D,atF⟩:=K i x af;exact⟨e,by simpa using D,atF⟩
def awi(J:c1)(Y:Nat->Prop):∀(n:Nat) (v:Value) (E:z),BS n v=some E->v=aF J E/\b7 Y E:=by
 intro n
 induction n with
 |zero=>intro v E a;simp[BS]at a
 |succ n ag=>
  have list:∀(k:List Value) (r:List z),BI (BS n) k=some r->k=bK J r/\d0 Y r:=by
   intro k r a
   obtain⟨H,K⟩:=avv _ k r a
   constructor
   ·rw[px]
    apply Y3
    intro i
    rw[Zv]
    cases af:k[i]? with
    |none=>
     have:k.length<=i:=by simpa using af
     rw[ZX Zo];rfl
    |some x=>
     obtain⟨b,ah,jm⟩:=K i x af
     rw[ah,(ag _ _ jm).1];rfl
   ·rw[tp]
    intro v bo
    obtain⟨i,aA⟩:=Z2.1 bo
    have cS:i<k.length:=by
     have:=(Zb.1 aA).1;omega
    obtain⟨b,ah,jm⟩:=K i k[i] (Ze cS)
    rw[aA]at ah;simp at ah;subst ah
    exact(ag _ _ jm).2
  intro v E a
  unfold BS at a
  split at a<;>(try(simp at a;subst a;simp[aF,b7,mY,bK,MI,d0];done))
  ·simp at a;subst a
   refine⟨by simp only[aF];rw[Qw], ?_⟩
   simp only[b7]
   intro x af
   obtain⟨e,_,rfl⟩:=ZB.1 af
   exact e.toNat_lt
  ·rename_i t v
   split at a
   ·rename_i fu aB
    simp at a;subst a
    obtain⟨B,g⟩:=ag _ _ aB
    exact⟨by simp only[aF,B],g⟩
   ·simp at a
  ·rename_i cs
   split at a
   ·rename_i k aw
    simp at a;subst a
    obtain⟨B,g⟩:=list _ _ aw
    exact⟨by simp only[aF];rw[<-B],g⟩
   ·simp at a
  ·rename_i cs
   split at a
   ·rename_i k aw
    simp at a;subst a
    obtain⟨B,g⟩:=list _ _ aw
    exact⟨by simp only[aF];rw[<-B],g⟩
   ·simp at a
  ·simp at a
def OE{v:Value}{E:z}(a:Eg v=some E):v=aF J E/\b7 Y E:=awi J Y _ _ _ a
def qN(b U i:Nat):(⟨b,U,none⟩:Addr).add i=⟨b,U+i,none⟩:=by unfold Addr.add;split<;>simp_all
def amn(V:cV C J Y h j bj w){b:Nat}(ah:Y b){c:S z}(a:cellsOf C h b=some c):
 ∃bU ty bC aA,w.heap[(J b).cr]? =some (.cells bU ty (bC,aA))/\∀i v,c.get i=some v->bU[(J b).dH+i]? =some (aF J v)/\b7 Y v:=by
 unfold cellsOf at a
 split at a
 ·rename_i gp n st aS
  simp at a;subst a
  obtain⟨bU,ty,bC,aA,H,_,_,ay⟩:=V.obj b _ aS ah
  exact⟨bU,ty,bC,aA,H,ay⟩
 ·simp at a
def υ(V:cV C J Y h j bj w){b:Nat}(ah:Y b){c:S z}(a:cellsOf C h b=some c){U:Nat}{v:z}(bS:c.get U=some v):
 w.cell? ⟨(J b).cr,(J b).dH+U,none⟩=some (aF J v)/\b7 Y v:=by
 obtain⟨bU,ty,bC,aA,H,ay⟩:=amn V ah a
 obtain⟨be,bV⟩:=ay U v bS
 exact⟨by simp[World.cell?,H,be],bV⟩
def L5(V:cV C J Y h j bj w){b:Nat}(ah:Y b){c:S z}(a:cellsOf C h b=some c){U n:Nat}{k:List z}(bS:c.kh U n=some k):
 (loadCells ⟨(J b).cr,(J b).dH+U,none⟩ n).run C.P w= .ok (bK J k).toArray w/\d0 Y k:=by
 obtain⟨H,K⟩:=S.IL _ _ _ _ bS
 have key:∀i v,k[i]? =some v->w.cell? ⟨(J b).cr,(J b).dH+U+i,none⟩=some (aF J v)/\b7 Y v:=by
  intro i v aA
  have cS:i<n:=zC (Zb.1 aA).1
  have:=υ V ah a (U:=U+i) (v:=v) (by rw[K i cS,aA])
  rwa[<-ZV]at this
 constructor
 ·have aw:=run_loadCells_list (P:=C.P) w ⟨(J b).cr,(J b).dH+U,none⟩ (bK J k) (λW v bo=>by
   rw[qN]
   rw[px,Zv]at bo
   cases af:k[W]? with
   |none=>simp[af]at bo
   |some E=>simp[af]at bo;subst bo;exact(key W E af).1)
  have ej:(bK J k).length=n:=by rw[px,Zl,H]
  rw[ej]at aw
  exact aw
 ·rw[tp]
  intro v bo
  obtain⟨i,aA⟩:=Z2.1 bo
  exact(key i v aA).2
def azm{t n:Nat}(a:iC C t=some n):∃i,C.P.info? t=some i/\i.size=n:=by
 unfold iC at a
 cases aA:C.P.info? t with
 |none=>simp[aA]at a
 |some i=>simp[aA]at a;exact⟨i,rfl,a⟩
def ng{t n:Nat}(a:iC C t=some n)(w:World):(sizeOf t).run C.P w= .ok n w:=by
 obtain⟨i,aA,rfl⟩:=azm a
 simp[sizeOf,typeInfo,aA]
def yY{t:Nat}{aG:z}(a:pY C t=some aG)(J:c1)(Y:Nat->Prop)(w:World):(zeroValue t).run C.P w= .ok (aF J aG) w/\b7 Y aG:=by
 unfold pY at a
 cases aA:C.P.info? t with
 |none=>simp[aA]at a
 |some i=>
  simp only[aA]at a
  cases ce:i.zero with
  |none=>simp[ce]at a
  |some v=>
   simp only[ce]at a
   obtain⟨B,g⟩:=OE (J:=J) (Y:=Y) a
   exact⟨by simp[zeroValue,typeInfo,aA,ce,B],g⟩
def O5{t:Nat}{b:Bool}(a:DI C t=some b)(w:World):(isAgg t).run C.P w= .ok b w:=by
 unfold DI at a
 cases aX:C.P.underlying t with
 |none=>simp[aX]at a
 |some d=>
  simp only[aX]at a
  cases d<;>simp at a<;>subst a<;>simp[isAgg,run_underlying aX]
end
end Go.bn

namespace Go.bn
open Go.RowKit (Below)
section
variable{C:aK}{J:c1}{Y:Nat->Prop}{h:S ai}{j bj:Nat}{w:World}
def nB{wr:List (Nat×Nat)}{x:Operand}{tg:kq}(a:mS wr x=some tg)(an:List (Nat×z))(I:S z):k5 tg an I=ji wr an I x:=by
 cases x with
 |tmp t=>
  simp only[mS]at a
  cases aB:ee wr t with
  |none=>simp[aB]at a;subst a;simp[k5,ji,aB]
  |some W=>simp[aB]at a;subst a;simp[k5,ji,aB]
 |const v=>
  simp only[mS]at a
  cases bo:Eg v with
  |none=>simp[bo]at a
  |some E=>simp[bo]at a;subst a;simp[k5,ji,bo]
 |global g=>simp[mS]at a;subst a;rfl
 |func f=>simp[mS]at a;subst a;rfl
def aoa{wr:List (Nat×Nat)}(an:List (Nat×z))(I:S z):∀{k:List Operand}{cs:List kq}{aY:List z},Hz wr k=some cs->AQ an I cs=some aY->
 aY.length=k.length/\∀(i:Nat) x,k[i]? =some x->∃v,aY[i]? =some v/\ji wr an I x=some v:=by
 intro k
 induction k with
 |nil=>intro cs aY H K;simp[Hz]at H;subst H;simp[AQ]at K;subst K;simp
 |cons x k ag=>
  intro cs aY H K
  simp only[Hz]at H
  cases af:mS wr x with
  |none=>simp[af]at H
  |some tg=>
   cases aw:Hz wr k with
   |none=>simp[af,aw]at H
   |some xF=>
    simp[af,aw]at H;subst H
    simp only[AQ]at K
    cases bo:k5 tg an I with
    |none=>simp[bo]at K
    |some v=>
     cases V:AQ an I xF with
     |none=>simp[bo,V]at K
     |some r=>
      simp[bo,V]at K;subst K
      obtain⟨E,b⟩:=ag aw V
      refine⟨by simp[E],λi e D=> ?_⟩
      cases i with
      |zero=>simp at D;subst D;exact⟨v,Zs,by rw[<-nB af];exact bo⟩
      |succ i=>simp at D;simpa using b i e D
def an8{au:Operand->Option z}:∀{k:List Operand}{aY:List z},pz au k=some aY->
 aY.length=k.length/\∀(i:Nat) x,k[i]? =some x->∃v,aY[i]? =some v/\au x=some v:=by
 intro k
 induction k with
 |nil=>intro aY a;simp[pz]at a;subst a;simp
 |cons x k ag=>
  intro aY a
  simp only[pz]at a
  cases af:au x with
  |none=>simp[af]at a
  |some v=>
   cases aw:pz au k with
   |none=>simp[af,aw]at a
   |some r=>
    simp[af,aw]at a;subst a
    obtain⟨E,b⟩:=ag aw
    refine⟨by simp[E],λi e D=> ?_⟩
    cases i with
    |zero=>simp at D;subst D;exact⟨v,Zs,af⟩
    |succ i=>simp at D;simpa using b i e D
def ae0{au:Operand->Value}{ed:Operand->Option z}{k:List Operand}{aY:List z}(ct:jc J Y au ed k)(H:aY.length=k.length)
 (K:∀(i:Nat) x,k[i]? =some x->∃v,aY[i]? =some v/\ed x=some v):k.map au=bK J aY/\d0 Y aY:=by
 constructor
 ·rw[px]
  apply Y3
  intro i
  rw[Zv,Zv]
  cases af:k[i]? with
  |none=>
   have:k.length<=i:=by simpa using af
   rw[ZX Zo];rfl
  |some x=>
   obtain⟨v,bo,a7⟩:=K i x af
   rw[bo]
   simp[(ct x (Zn af) v a7).1]
 ·rw[tp]
  intro v bo
  obtain⟨i,aA⟩:=Z2.1 bo
  have cS:i<k.length:=zC (Zb.1 aA).1
  obtain⟨ac,aX,a7⟩:=K i k[i] (Ze cS)
  rw[aA]at aX;simp at aX;subst aX
  exact(ct _ (List.getElem_mem cS) v a7).2
def sa{au:Operand->Value}{ed:Operand->Option z}{E:Array Operand}{aY:List z}(ct:jc J Y au ed E.toList)(a:pz ed E.toList=some aY):
 E.map au=(bK J aY).toArray/\d0 Y aY:=by
 obtain⟨H,K⟩:=an8 a
 obtain⟨ak,ay⟩:=ae0 ct H K
 refine⟨?_,ay⟩
 apply YR
 simp[ak]
def ag8(o:IntKind)(n:Int):oK o n=o.wrap n:=by
 cases o<;>simp only[oK]<;>try rfl
 simp only[eR,IntKind.wrap,IntKind.bits,IntKind.signed,Zi,Bool.true_and,ge_iff_le]
 have bw:((2:Int)^64)=18446744073709551616:=by decide
 have b3:((2:Int)^(64-1))=9223372036854775808:=by decide
 rw[bw,b3]
 by_cases a:n%18446744073709551616<9223372036854775808
 ·rw[Zq a,Zg (by simpa using a)]
 ·rw[Zg a,Zq (by simpa using a)]
@[simp] def aCw(o:IntKind)(n:Int):kT o n=some (.int o (o.wrap n)):=by simp[kT,ag8]
@[simp] def aea(o:IntKind)(n:Int):o9 o n=some (.int o n):=by simp[o9]
@[simp] def vQ(b:Bool):oV b=some (.bool b):=by cases b<;>rfl
@[simp] def FJ{α:Type _}(c:Bool)(E:Option α)(v:α):bI c none E=some v↔c=false/\E=some v:=by cases c<;>simp
@[simp] def yB(x e:Int):tJ x e=decide (x=e):=by
  rw[Ya,Zi]
  cases x<;>cases e
  ·exact⟨λa=>by rw[Zj a],λa=>by cases a;exact YS _⟩
  ·exact⟨(λa=>by cases a),(λa=>by cases a)⟩
  ·exact⟨(λa=>by cases a),(λa=>by cases a)⟩
  ·exact⟨λa=>by rw[Zj a],λa=>by cases a;exact YS _⟩
@[simp] def rj(x e:Int):wJ x e=decide (x<e):=by
  rw[Ya,Zi]
  cases x with
  |ofNat E=>cases e with
   |ofNat b=>show Nat.blt E b=true↔(E:Int)<(b:Int);simp[Nat.blt];omega
   |negSucc b=>show false=true↔(E:Int)<Int.negSucc b;simp;omega
  |negSucc E=>cases e with
   |ofNat b=>show true=true↔Int.negSucc E<(b:Int);simp;omega
   |negSucc b=>show Nat.blt b E=true↔Int.negSucc E<Int.negSucc b;simp[Nat.blt];omega
@[simp] def aew(o eA:IntKind):lx o eA=decide (o=eA):=by cases o<;>cases eA<;>rfl
@[simp] def al6(E b:Bool):LY E b=(E==b):=by cases E<;>cases b<;>rfl
def ak8{op:BinOp}{o:IntKind}{x e:Int}{v:z}(t:TypeId)(a:lo op o x e=some v)(aD:lv op=false):
 (binOp op t (.int o x) (.int o e)).run C.P w= .ok (aF J v) w/\b7 Y v:=by
 cases op<;>simp[lo,lv,binOp,Op.intArith,Op.intDiv,Op.intBits,Op.intCmp]at a aD ⊢ <;>
  first
  |(subst a;simp[aF,b7];done)
  |(obtain⟨H,a⟩:=a;subst a;simp[aF,b7,H];done)
  |(subst a;exact⟨rfl,trivial⟩)
  |(subst a;refine⟨?_,trivial⟩;simp only[aF];congr 1;rw[Ya];simp;done)
def alf{op:BinOp}{o eA:IntKind}{x e:Int}{v:z}(t:TypeId)(a:H8 op o x e=some v):
 (binOp op t (.int o x) (.int eA e)).run C.P w= .ok (aF J v) w/\b7 Y v:=by
 unfold H8 at a
 simp only[rj,FJ,Zc]at a
 obtain⟨H,a⟩:=a
 cases op<;>simp[binOp,Op.shift,H]at a ⊢
 all_goals(subst a;simp[aF,b7])
def XR{op:BinOp}{x e v:z}(t:TypeId)(a:bm op x e=some v):
 (binOp op t (aF J x) (aF J e)).run C.P w= .ok (aF J v) w/\b7 Y v/\∃o E eA b,x= .int o E/\e= .int eA b:=by
 unfold bm at a
 split at a
 ·rename_i o E eA b
  simp only[aF]
  by_cases aD:lv op=true
  ·simp only[aD,eU]at a
   obtain⟨bw,b3⟩:=alf (C:=C) (J:=J) (Y:=Y) (w:=w) (eA:=eA) t a
   exact⟨bw,b3,_,_,_,_,rfl,rfl⟩
  ·have aD:lv op=false:=by simpa using aD
   simp only[aD,ku,aew,d6,Zi]at a
   obtain⟨rfl,a⟩:=a
   obtain⟨bw,b3⟩:=ak8 (C:=C) (J:=J) (Y:=Y) (w:=w) t a aD
   exact⟨bw,b3,_,_,_,_,rfl,rfl⟩
 ·simp at a
def Lq(J:c1)(Y:Nat->Prop)(P:Program)(w:World)(s:Sem Next)(v:z):Prop:=s.run P w= .ok (.value (aF J v)) w/\b7 Y v
def nz{P:Program}{s:Sem Value}{v:z}(a:s.run P w= .ok (aF J v) w/\b7 Y v):Lq J Y P w (do pure (.value (<-s))) v:=by
 refine⟨?_,a.2⟩
 simp[a.1]
def XS(V:cV C J Y h j bj w){t:TypeId}(bh:DI C t=some false){E v:z}(aB:b7 Y E)(a:aV C h E=some v):
 (Instr.loadAt t (aF J E)).run C.P w= .ok (aF J v) w/\b7 Y v:=by
 unfold aV at a
 split at a
 ·rename_i b U
  split at a
  ·rename_i c ax
   obtain⟨H,K⟩:=υ V aB ax a
   refine⟨?_,K⟩
   simp[Instr.loadAt,Instr.sureAddr,aF,loadVar,O5 bh,H]
  ·simp at a
 ·simp at a
def XT(V:cV C J Y h j bj w){t:TypeId}{n:Nat}(bh:DI C t=some true)(aD:iC C t=some n){E v:z}(aB:b7 Y E)(a:ep C h n E=some v):
 (Instr.loadAt t (aF J E)).run C.P w= .ok (aF J v) w/\b7 Y v:=by
 unfold ep at a
 split at a
 ·rename_i b U
  split at a
  ·rename_i c ax
   split at a
   ·rename_i k aw
    simp at a;subst a
    obtain⟨H,K⟩:=L5 V aB ax aw
    refine⟨?_,K⟩
    simp[Instr.loadAt,Instr.sureAddr,aF,loadVar,O5 bh,ng aD,H]
   ·simp at a
  ·simp at a
 ·simp at a
def XU(V:cV C J Y h j bj w){t:TypeId}{E v:z}(aB:b7 Y E)(a:pv C h t E=some v):
 (Instr.loadAt t (aF J E)).run C.P w= .ok (aF J v) w/\b7 Y v:=by
 unfold pv at a
 split at a
 ·rename_i s H K;exact XT V H K aB a
 ·rename_i H;exact XS V H aB a
 ·simp at a
def ks{E b:Nat}(a:Nat.blt E b=true):E<b:=by simp[Nat.blt]at a;omega
def iV{E b:Nat}(a:Nat.ble E b=true):E<=b:=by simpa using a
def D8{v:z}{n:Nat}(a:nS v=some n):∃o,v= .int o (Int.ofNat n):=by
 unfold nS at a
 split at a
 ·rename_i o aG
  split at a
  ·simp at a;subst a;exact⟨o,rfl⟩
  ·simp at a
 ·simp at a
def aoi{s:TypeId}{jZ:Array Field}{f aG:Nat}{sg:Field}(aX:C.P.underlying s=some (.struct jZ))(b8:jZ.toList[f]? =some sg)
 (ce:iC C sg.type=some aG)(kA:aG≠0){E v:z}(aB:b7 Y E)(a:iq sg.offset E=some v):
 (Instr.fieldAt s (aF J E) f).run C.P w= .ok (aF J v) w/\b7 Y v:=by
 unfold iq at a
 split at a
 ·rename_i b U
  simp at a;subst a
  have qi:jZ[f]? =some sg:=by rw[<-b8];simp
  refine⟨?_,aB⟩
  simp[Instr.fieldAt,run_underlying aX,qi,Instr.sureAddr,aF,fieldPlace,ng ce,kA,qN,ZV]
 ·simp at a
def at5{t:TypeId}{n aR i:Nat}{dO:TypeId}(aX:C.P.underlying t=some (.array n dO))(ce:iC C dO=some aR)
 {E v:z}{o:IntKind}(aB:b7 Y E)(a:Li n aR E i=some v):
 (Instr.indexAt t (aF J E) (.int o (Int.ofNat i))).run C.P w= .ok (aF J v) w/\b7 Y v:=by
 unfold Li at a
 split at a
 ·rename_i b U
  simp only[d6,Zf]at a
  obtain⟨H,rfl⟩:=a
  have cS:i<n:=ks H
  refine⟨?_,aB⟩
  simp[Instr.indexAt,asIntOf,run_underlying aX,Instr.sureAddr,aF,ng ce,cS,qN,ZV]
 ·simp at a
def at8{t:TypeId}{aR i:Nat}{dO:TypeId}(aX:C.P.underlying t=some (.slice dO))(ce:iC C dO=some aR)
 {E v:z}{o:IntKind}(aB:b7 Y E)(a:Cc aR E i=some v):
 (Instr.indexAt t (aF J E) (.int o (Int.ofNat i))).run C.P w= .ok (aF J v) w/\b7 Y v:=by
 unfold Cc at a
 split at a
 ·rename_i b U n _
  simp only[d6,Zf]at a
  obtain⟨H,rfl⟩:=a
  have cS:i<n:=ks H
  refine⟨?_,aB⟩
  simp[Instr.indexAt,asIntOf,run_underlying aX,aF,ng ce,cS,qN,ZV]
 ·rename_i b U n _
  simp only[d6,Zf]at a
  obtain⟨H,rfl⟩:=a
  have cS:i<n:=ks H
  refine⟨?_,aB⟩
  simp[Instr.indexAt,asIntOf,run_underlying aX,aF,ng ce,cS,qN,ZV]
 ·simp at a
def aAm{E v:z}(aB:b7 Y E)(a:pn E=some v):v=E/\(∀oper:Oper,∀au:Operand->Value,∀x,oper.op= .nilCheck x->au x=aF J E->(execOp au oper).run C.P w= .ok (.value (aF J v)) w):=by
 unfold pn at a
 split at a
 ·simp at a;subst a
  refine⟨rfl,λoper au x aS af=> ?_⟩
  simp[execOp,aS,af,aF]
 ·split at a
  ·simp at a;subst a
   refine⟨rfl,λoper au x aS af=> ?_⟩
   simp[execOp,aS,af,aF,mY]
  ·simp at a;subst a
   refine⟨rfl,λoper au x aS af=> ?_⟩
   simp[execOp,aS,af,aF,mY]
  ·simp at a
 ·simp at a;subst a
  refine⟨rfl,λoper au x aS af=> ?_⟩
  simp[execOp,aS,af,aF]
 ·simp at a
def aAl{i:Nat}{E v:z}(aB:b7 Y E)(a:rJ i E=some v):(Instr.extract (aF J E) i).run C.P w= .ok (aF J v) w/\b7 Y v:=by
 unfold rJ at a
 split at a
 ·rename_i aY
  rw[pN]at a
  refine⟨?_,(tp Y aY).1 aB v (Zn a)⟩
  simp[Instr.extract,aF,px,a]
 ·simp at a
def aaO{au:Operand->Value}{ed:Operand->Option z}:∀{k:List (Nat×Operand)}{df:List (Nat×z)},jc J Y au ed (k.map (·.2))->xO ed k=some df->
 k.map (λx=>(x.1,au x.2))=df.map (λx=>(x.1,aF J x.2))/\∀x∈df,b7 Y x.2:=by
 intro k
 induction k with
 |nil=>intro df _ a;simp[xO]at a;subst a;simp
 |cons E k ag=>
  intro df ct a
  obtain⟨i,x⟩:=E
  simp only[xO]at a
  cases af:ed x with
  |none=>simp[af]at a
  |some v=>
   cases aw:xO ed k with
   |none=>simp[af,aw]at a
   |some r=>
    simp[af,aw]at a;subst a
    obtain⟨E,b⟩:=ag (λe D=>ct e (by simp at D ⊢;exact .inr D)) aw
    obtain⟨c,d⟩:=ct x Zs v af
    refine⟨by simp[E,c],λe D=> ?_⟩
    cases D with
    |head=>exact d
    |tail _ D=>exact b e D
def uo(J:c1)(v:z):(aF J v).cells=(bK J v.cells).toArray:=by
 cases v<;>simp[aF,Value.cells,z.cells,bK]
def te{v:z}(a:b7 Y v):d0 Y v.cells:=by
 cases v with
 |agg cs=>exact a
 |_=>exact⟨a,trivial⟩
def aoy(J:c1):∀(aY:List z) (cs:List z) (off o:Nat),
 ((bK J aY).zipIdx o).foldl (λ(cs:Array Value) (x:Value×Nat)=>cs.setIfInBounds (off+x.2) x.1) (bK J cs).toArray=(bK J (oE cs (off+o) aY)).toArray:=by
 intro aY
 induction aY with
 |nil=>intro cs off o;rfl
 |cons v aY ag=>
  intro cs off o
  simp only[bK,List.zipIdx_cons,ZZ,oE]
  have:(bK J cs).toArray.setIfInBounds (off+o) (aF J v)=(bK J (cs.set (off+o) v)).toArray:=by
   apply YR
   simp[px,List.map_set]
  rw[this,ag]
  rfl
def apo{cs:List z}{i:Nat}{v:z}(a:d0 Y cs)(bo:b7 Y v):d0 Y (cs.set i v):=by
 rw[tp]at a ⊢
 intro x af
 rcases List.mem_or_eq_of_mem_set af with cy|cy
 ·exact a x cy
 ·rw[cy];exact bo
def apq:∀(aY cs:List z) (U:Nat),d0 Y cs->d0 Y aY->d0 Y (oE cs U aY):=by
 intro aY
 induction aY with
 |nil=>intro cs U a _;exact a
 |cons v aY ag=>intro cs U a bo;exact ag _ _ (apo a bo.1) bo.2
def Rd{Hk KN:Nat->Option (Nat×Nat)}(av:∀i x,Hk i=some x->KN i=some x):∀(df:List (Nat×z)) (cs r:List z),d0 Y cs->(∀x∈df,b7 Y x.2)->
 AS Hk cs df=some r->Instr.fill KN (bK J cs).toArray (df.map λx=>(x.1,aF J x.2))=some (bK J r).toArray/\d0 Y r:=by
 intro df
 induction df with
 |nil=>intro cs r a _ b8;simp[AS]at b8;subst b8;exact⟨rfl,a⟩
 |cons p df ag=>
  intro cs r a bS b8
  obtain⟨i,v⟩:=p
  simp only[AS]at b8
  cases sB:Hk i with
  |none=>simp[sB]at b8
  |some x=>
   obtain⟨off,size⟩:=x
   simp only[sB,d6,Zp]at b8
   obtain⟨⟨H,K⟩,b8⟩:=b8
   have H:v.cells.length=size:=Zj H
   have K:off+size<=cs.length:=iV K
   have are:b7 Y v:=bS (i,v) Zs
   obtain⟨E,b⟩:=ag (oE cs off v.cells) r (apq _ _ _ a (te are)) (λx af=>bS x (by simp[af])) b8
   refine⟨?_,b⟩
   simp only[ZE,Instr.fill,av _ _ sB,uo]
   have ej:(bK J v.cells).length=size:=by rw[px,Zl,H]
   have uX:(bK J cs).length=cs.length:=by rw[px,Zl]
   rw[Zg]
   ·rw[<-E]
    congr 1
    have:=aoy J v.cells cs off 0
    simp
    simpa using this
   ·simp[ej,uX];omega
def ax6{α en:Type}(P:Program)(w:World)(f:α->Sem en)(g:α->en):∀(k:List α),(∀E∈k,(f E).run P w= .ok (g E) w)->(k.mapM f).run P w= .ok (k.map g) w:=by
 intro k
 induction k with
 |nil=>intro _;simp
 |cons E k ag=>intro a;simp[zi,a E Zs,ag (λb ah=>a b (by simp[ah]))]
def azk{jZ:List Field}{i:Nat}{x:Nat×Nat}(a:Vj C jZ i=some x):∃f s,jZ[i]? =some f/\iC C f.type=some s/\x=(f.offset,s):=by
 unfold Vj at a
 rw[pN]at a
 split at a
 ·rename_i f b8
  split at a
  ·rename_i s aD
   simp at a
   exact⟨f,s,b8,aD,a.symm⟩
  ·simp at a
 ·simp at a
def H7{t:TypeId}{cs:List z}{off:Nat}{v:z}(bS:d0 Y cs)(a:Cu C t cs off=some v):
 (part t (bK J cs).toArray off).run C.P w= .ok (aF J v) w/\b7 Y v:=by
 unfold Cu at a
 split at a
 ·rename_i s H K
  simp at a;subst a
  constructor
  ·simp only[part,Sem.run_bind,O5 H,Result.andThen_ok,ZC,ng K,Sem.run_pure,aF,px]
   congr 2
   apply YR
   simp[List.map_take,List.map_drop,List.take_drop]
  ·simp only[b7]
   rw[tp]at bS ⊢
   exact λx af=>bS x (Y4 (YC af))
 ·rename_i H
  rw[pN]at a
  constructor
  ·simp[part,O5 H,px,a]
  ·exact(tp Y cs).1 bS v (Zn a)
 ·simp at a
def ak7{t:TypeId}{x i v:z}(af:b7 Y x)(a:LK C t x i=some v):(Instr.index t (aF J x) (aF J i)).run C.P w= .ok (aF J v) w/\b7 Y v:=by
 unfold LK at a
 split at a
 ·simp at a
 ·rename_i n aM
  obtain⟨o,rfl⟩:=D8 aM
  split at a
  ·rename_i m dO cs aX
   split at a
   ·rename_i aR ce
    simp only[d6]at a
    obtain⟨H,K⟩:=a
    have cS:=ks H
    obtain⟨ak,ay⟩:=H7 (J:=J) (w:=w) af K
    refine⟨?_,ay⟩
    simp[Instr.index,asIntOf,aF,run_underlying aX,cS,ng ce,ak]
   ·simp at a
  ·rename_i s aX
   rw[pN]at a
   split at a
   ·rename_i c ax
    simp at a;subst a
    refine⟨?_,trivial⟩
    have ah:(fp s)[n]? =some (UInt8.ofNat c):=by
     show(fp s).data[n]? =_
     simp[fp,ax]
    have cS:c<256:=af c (Zn ax)
    simp[Instr.index,asIntOf,aF,run_underlying aX,ah,YI cS]
   ·simp at a
  ·simp at a
def alj{op:UnOp}{x v:z}(a:hb op x=some v):(Op.unary op (aF J x)).run C.P w= .ok (aF J v) w/\b7 Y v:=by
 unfold hb at a
 split at a
 ·rename_i o n
  simp[lo]at a;subst a
  exact⟨by simp[Op.unary,Op.intArith,aF],trivial⟩
 ·rename_i o n
  simp[lo]at a;subst a
  exact⟨rfl,trivial⟩
 ·simp at a;subst a;exact⟨rfl,trivial⟩
 ·simp at a
def awm:∀{k:List Field},OF C k=true->∀f∈k,∃s,iC C f.type=some s:=by
 intro k
 induction k with
 |nil=>intro _ f b8;simp at b8
 |cons E k ag=>
  intro a f b8
  simp only[OF,Zp]at a
  cases b8 with
  |head=>cases aD:iC C E.type with
   |none=>simp[aD]at a
   |some s=>exact⟨s,rfl⟩
  |tail _ b8=>exact ag a.2 f b8
def ak1{t:TypeId}{df:List (Nat×z)}{v:z}(bS:∀x∈df,b7 Y x.2)(a:LF C t df=some v):
 (Instr.build t ((df.map λx=>(x.1,aF J x.2)).toArray)).run C.P w= .ok (aF J v) w/\b7 Y v:=by
 unfold LF at a
 split at a
 ·simp at a
 ·rename_i aG ce
  obtain⟨GM,GN⟩:=yY ce J Y w
  split at a
  ·rename_i jZ aX
   simp only[d6]at a
   obtain⟨fj,a⟩:=a
   split at a
   ·rename_i cs hJ
    simp at a;subst a
    have aZ:(jZ.mapM λf=>do pure (f.offset, <-sizeOf f.type):Sem (Array (Nat×Nat))).run C.P w= .ok (jZ.toList.map λf=>(f.offset,(iC C f.type).getD 0)).toArray w:=by
     rw[Array.mapM_eq_mapM_toList,Sem.run_map,ax6 C.P w _ (λf:Field=>(f.offset,(iC C f.type).getD 0)) _ (λf b8=>by
      obtain⟨s,aD⟩:=awm fj f b8
      simp[ng aD,aD])]
     rfl
    obtain⟨E,b⟩:=Rd (J:=J) (KN:=λi=>((jZ.toList.map λf=>(f.offset,(iC C f.type).getD 0)).toArray)[i]?) (λi x af=>by
     obtain⟨f,s,H,K,rfl⟩:=azk af
     simp at H
     simp[H,K]) df aG.cells cs (te GN) bS hJ
    refine⟨?_,b⟩
    simp only[Instr.build,Sem.run_bind,GM,Result.andThen_ok,run_underlying aX,aZ,uo,E,aF,Sem.run_pure]
   ·simp at a
  ·rename_i n dO aX
   split at a
   ·rename_i s aD
    split at a
    ·rename_i cs hJ
     simp at a;subst a
     obtain⟨E,b⟩:=Rd (J:=J) (KN:=λi=>some (i*s,s)) (λ_ _ a=>a) df aG.cells cs (te GN) bS hJ
     refine⟨?_,b⟩
     simp[Instr.build,GM,run_underlying aX,ng aD,uo,E,aF]
    ·simp at a
   ·simp at a
  ·simp at a
end
end Go.bn

namespace Go.bn
open Go.RowKit (Below)
section
variable{C:aK}{J:c1}{Y:Nat->Prop}{h:S ai}{j bj:Nat}{w:World}
def afs{E b:Nat}(aB:E<256)(ah:b<256)(a:UInt8.ofNat E=UInt8.ofNat b):E=b:=by
 have:=congrArg UInt8.toNat a
 simp at this
 omega
def KF:∀(x e:List Nat),mL x e=true↔x=e
 |[],[]=>by simp[mL]
 |[],_::_=>by simp[mL]
 |_::_,[]=>by simp[mL]
 |E::x,b::e=>by
  simp only[mL,Zp,KF x e,zp]
  exact⟨λ⟨a,B⟩=>⟨Zj a,B⟩,λ⟨a,B⟩=>⟨by rw[a];exact YS _,B⟩⟩
def avs:∀{x e:List Nat},(∀E∈x,E<256)->(∀E∈e,E<256)->x.map UInt8.ofNat=e.map UInt8.ofNat->x=e:=by
 intro x
 induction x with
 |nil=>intro e _ _ a;cases e with
  |nil=>rfl
  |cons b e=>simp at a
 |cons E x ag=>
  intro e af D a
  cases e with
  |nil=>simp at a
  |cons b e=>
   simp only[ZE,zp]at a
   rw[afs (af E Zs) (D b Zs) a.1,ag (λc ax=>af c (by simp[ax])) (λc ax=>D c (by simp[ax])) a.2]
def LZ(s:List Nat):(fp s).toList=s.map UInt8.ofNat:=by
 rw[ByteArray.toList_eq];simp[fp]
def Vi{x e:List Nat}(af:∀E∈x,E<256)(D:∀E∈e,E<256):((fp x).toList==(fp e).toList)=mL x e:=by
 rw[Ya,KF,Y8,LZ,LZ]
 exact⟨avs af D,λa=>by rw[a]⟩
def agz:∀{x e:List Nat},(∀E∈x,E<256)->(∀E∈e,E<256)->Op.bytesLess (x.map UInt8.ofNat) (e.map UInt8.ofNat)=BN x e
 |[],[],_,_=>rfl
 |[],_::_,_,_=>rfl
 |_::_,[],_,_=>rfl
 |E::x,b::e,af,D=>by
  have aB:=af E Zs
  have ah:=D b Zs
  have ag:=agz (λc ax=>af c (Zt _ ax)) (λc ax=>D c (Zt _ ax))
  simp only[ZE,Op.bytesLess,BN,ag]
  have bw:decide (UInt8.ofNat E<UInt8.ofNat b)=Nat.blt E b:=by
   rw[Ya,Zi,UInt8.lt_iff_toNat_lt]
   simp[Nat.blt,YI aB,YI ah];omega
  have b3:(UInt8.ofNat E==UInt8.ofNat b)=Nat.beq E b:=by
   rw[Ya,Y8]
   exact⟨λa=>by rw[afs aB ah a];exact YS _,λa=>by rw[Zj a]⟩
  rw[bw,b3]
def OS(V:cV C J Y h j bj w){b U:Nat}(ah:Y b)(a:G4 C h b U=true):
 ∃c n st bU ty bC aA,Z C h b=some (.cells c n st)/\U<n/\w.heap[(J b).cr]? =some (.cells bU ty (bC,aA))/\Fq st n (J b) bU.size bC aA/\(J b).dH+n<=bU.size/\st≠ .jO:=by
 unfold G4 at a
 split at a
 ·simp at a
 ·rename_i c n st kS aS
  obtain⟨bU,ty,bC,aA,H,K,ak,_⟩:=V.obj b _ aS ah
  exact⟨c,n,st,bU,ty,bC,aA,aS,ks (by simpa using a),H,K,ak,λB=>(by subst B;first|exact kS _ aS|exact kS _ rfl|exact kS rfl|exact kS aS|simp_all)⟩
 ·simp at a
def afB{b U:Nat}(a:OM C h b U=true):G4 C h b U=true/\C.bf<=b/\∃c n,Z C h b=some (.cells c n .own):=by
 unfold OM at a
 unfold G4
 split at a
 ·rename_i c n aS
  simp only[aS,Zp]at a ⊢
  exact⟨a.2,iV a.1,c,n,rfl⟩
 ·simp at a
def UY{r:Nat}{bU:Array Value}{ty:TypeId}{f:Nat×Nat}(a:w.heap[r]? =some (.cells bU ty f)):w.shape? r=some (ty,bU.size):=by
 simp[World.shape?,a]
def agf{P:Program}{p al:Nat}{x e:Nat}{bd ca:Array Value}{t1 ei:TypeId}{cO H b9 K:Nat}(cK:p≠al)
 (bw:w.heap[p]? =some (.cells bd t1 (cO,H)))(b3:w.heap[al]? =some (.cells ca ei (b9,K)))(ef:H<=cO)(hD:x<bd.size)(gI:e<ca.size)(ev:K<=b9\/ca.size<=b9):
 (sameAddr ⟨p,x,none⟩ ⟨al,e,none⟩).run P w= .ok false w/\(sameAddr ⟨al,e,none⟩ ⟨p,x,none⟩).run P w= .ok false w:=by
 have b4:w.frozen? ⟨p,x,none⟩=false:=by simp[World.frozen?,bw];omega
 have b1:w.frozen? ⟨al,e,none⟩=false:=by simp[World.frozen?,b3];omega
 have cM:w.frozen? ⟨p,bd.size,none⟩=false:=by simp[World.frozen?,bw];omega
 have kI:=UY bw
 have lB:=UY b3
 have fD:bd.size≠0:=Zo
 have fE:ca.size≠0:=Zo
 have ar1:al≠p:=λB=>cK B.symm
 constructor
 ·simp[sameAddr,cK,b4,b1,cM,noView,viewAt,kI,lB,mayBeOne,stringish,fE]
 ·simp[sameAddr,ar1,b4,b1,cM,noView,viewAt,kI,lB,mayBeOne,stringish,fD,fE]
def axd(V:cV C J Y h j bj w){b U dw o':Nat}{r:Bool}(ah:Y b)(jm:Y dw)(a:ptrEq C h b U dw o'=some r):
 (sameAddr ⟨(J b).cr,(J b).dH+U,none⟩ ⟨(J dw).cr,(J dw).dH+o',none⟩).run C.P w= .ok r w:=by
 unfold ptrEq at a
 rw[hl]at a
 split at a
 ·rename_i B
  subst B
  simp at a;subst a
  simp only[sameAddr,YJ,ZC,Sem.run_pure]
  congr 1
  rw[Ya,Y8]
  constructor
  ·intro a;simp at a;rw[a];exact YS _
  ·intro a;rw[Zj a]
 ·rename_i cK
  simp only[d6,Y1,Zp,Zf]at a
  obtain⟨a,rfl⟩:=a
  rcases a with ⟨H,K⟩|⟨H,K⟩
  ·obtain⟨ak,ay,c,n,be⟩:=afB H
   obtain⟨dF,aL,Vb,bd,t1,cO,vy,bw,hD,vB,fD,bJ,_⟩:=OS V ah ak
   obtain⟨dR,bc,ayT,ca,ei,b9,xd,b3,gI,vC,fE,b2,Uv⟩:=OS V jm K
   have cX:Vb= .own:=by rw[be]at bw;cases bw;rfl
   subst cX
   have Sd:(J b).cr≠(J dw).cr:=by
    intro B
    rcases(V.sep b dw _ _ bw b3 ah jm cK ay B).1 with ⟨_,_,_,_,al,_⟩|⟨_,_,_,_,_,al,_⟩|⟨_,_,_,_,_,_,al,_⟩<;>cases al
   exact(agf Sd vB vC (zj fD.symm) Zo Zo (fE.free Uv)).1
  ·obtain⟨ak,ay,c,n,be⟩:=afB H
   obtain⟨dF,aL,Vb,bd,t1,cO,vy,bw,hD,vB,fD,bJ,_⟩:=OS V jm ak
   obtain⟨dR,bc,ayT,ca,ei,b9,xd,b3,gI,vC,fE,b2,Uv⟩:=OS V ah K
   have cX:Vb= .own:=by rw[be]at bw;cases bw;rfl
   subst cX
   have Sd:(J dw).cr≠(J b).cr:=by
    intro B
    rcases(V.sep dw b _ _ bw b3 jm ah (λal=>cK al.symm) ay B).1 with ⟨_,_,_,_,al,_⟩|⟨_,_,_,_,_,al,_⟩|⟨_,_,_,_,_,_,al,_⟩<;>cases al
   exact(agf Sd vB vC (zj fD.symm) Zo Zo (fE.free Uv)).2
def ak4{eq:Nat->z->z->Option Bool}{d:Nat}(e0:∀t x e r,b7 Y x->b7 Y e->eq t x e=some r->(Op.equalIn d t (aF J x) (aF J e)).run C.P w= .ok r w):
 ∀(kg:List Field) (ci pX:List z) (r:Bool),d0 Y ci->d0 Y pX->H5 C eq kg ci pX=some r->(Op.eqFields d (bK J ci).toArray (bK J pX).toArray kg).run C.P w= .ok r w:=by
 intro kg
 induction kg with
 |nil=>intro ci pX r _ _ a;simp[H5]at a;subst a;simp[Op.eqFields]
 |cons f kg ag=>
  intro ci pX r af D a
  simp only[H5,FJ,beq_eq_false_iff_ne]at a
  obtain⟨aM,a⟩:=a
  split at a
  ·rename_i E b aB ah
   obtain⟨bd,ca⟩:=H7 (J:=J) (w:=w) af aB
   obtain⟨ch,cD⟩:=H7 (J:=J) (w:=w) D ah
   split at a
   ·rename_i B
    simp only[Op.eqFields,aM,ne_eq,ZI,ZC,Sem.run_bind,bd,ch,e0 _ _ _ _ ca cD B,Result.andThen_ok,Yy,Zw,ZA]
    exact ag ci pX r af D a
   ·rename_i B
    simp at a;subst a
    simp only[Op.eqFields,aM,ne_eq,ZI,ZC,Sem.run_bind,bd,ch,e0 _ _ _ _ ca cD B,Result.andThen_ok,Yz,Sem.run_pure]
   ·simp at a
  ·simp at a
def Qe(V:cV C J Y h j bj w):∀(d lq:Nat) (t:Nat) (x e:z) (r:Bool),d<=lq->b7 Y x->b7 Y e->mu C h d t x e=some r->
 (Op.equalIn lq t (aF J x) (aF J e)).run C.P w= .ok r w:=by
 intro d
 induction d with
 |zero=>intro lq t x e r _ _ _ a;simp[mu]at a
 |succ d ag=>
  intro lq t x e r aI eE uD a
  obtain⟨lq,rfl⟩:∃B,lq=B+1:=⟨lq-1,Zo⟩
  unfold mu at a
  split at a
  ·rename_i aX;simp at a;subst a;simp[Op.equalIn,run_underlying aX,aF]
  ·rename_i aX;simp at a;obtain⟨rfl,rfl⟩:=a;simp[Op.equalIn,run_underlying aX,aF];rfl
  ·rename_i E b aX
   simp at a;subst a
   rw[aF,aF,run_equalIn_string w lq t _ _ aX,Vi eE uD]
  ·rename_i aX;simp at a;subst a;simp[Op.equalIn,run_underlying aX,aF]
  ·rename_i aX;simp at a;subst a;simp[Op.equalIn,run_underlying aX,aF]
  ·rename_i aX;simp at a;subst a;simp[Op.equalIn,run_underlying aX,aF]
  ·rename_i B b U dw o' aX
   split at a
   ·rename_i s aD
    rw[hl]at a
    split at a
    ·simp at a
    ·rename_i NS
     have:=axd V eE uD a
     simp[Op.equalIn,run_underlying aX,aF,ng aD,NS,this]
   ·simp at a
  ·rename_i aX;simp at a;subst a;simp[Op.equalIn,run_underlying aX,aF]
  ·rename_i aX;simp at a;subst a;simp[Op.equalIn,run_underlying aX,aF]
  ·rename_i aX;simp at a;subst a;simp[Op.equalIn,run_underlying aX,aF]
  ·rename_i K8 lE ty Pq aX
   rw[hl]at a
   split at a
   ·rename_i B
    subst B
    split at a
    ·rename_i i aA
     simp only[d6]at a
     obtain⟨ax,a⟩:=a
     have:=ag lq K8 lE Pq r Zo eE uD a
     simp[Op.equalIn,run_underlying aX,aF,typeInfo,aA,ax,this]
    ·simp at a
   ·rename_i B
    simp at a;subst a
    simp[Op.equalIn,run_underlying aX,aF,B]
  all_goals first
   |(rename_i aX;simp at a;subst a;simp[Op.equalIn,run_underlying aX,aF];done)
   |skip
  ·rename_i jZ ci pX aX
   simp only[FJ]at a
   obtain⟨av,a⟩:=a
   have b8:C.P.fieldsOf t=jZ:=by simp[Program.fieldsOf,aX]
   rw[aF,aF,run_equalIn_struct w lq t _ _ (by rw[b8];exact aX) av,b8]
   exact ak4 (λt x e r eE uD a=>ag lq t x e r Zo eE uD a) _ _ _ _ eE uD a
  ·simp at a
end
end Go.bn

namespace Go.bn
open Go.RowKit (Below)
section
variable{C:aK}{J:c1}{Y:Nat->Prop}{h:S ai}{j bj:Nat}{w:World}
def binOp_eql{t:TypeId}{X n4:Value}(H:∀o E eA b,¬(X= .int o E/\n4= .int eA b))(K:∀E b,¬(X= .string E/\n4= .string b))
 (ak:∀o E,X≠ .float o E)(ay:∀o E b,X≠ .complex o E b):binOp .eql t X n4=(do pure (.bool (<-Op.equal t X n4)))/\binOp .neq t X n4=(do pure (.bool (!(<-Op.equal t X n4)))):=by
 constructor
 ·unfold binOp
  split
  all_goals first
   |rfl
   |exact absurd ⟨rfl,rfl⟩ (H _ _ _ _)
   |exact absurd ⟨rfl,rfl⟩ (K _ _)
   |exact absurd rfl (ak _ _)
   |exact absurd rfl (ay _ _ _)
   |simp_all
 ·unfold binOp
  split
  all_goals first
   |rfl
   |exact absurd ⟨rfl,rfl⟩ (H _ _ _ _)
   |exact absurd ⟨rfl,rfl⟩ (K _ _)
   |exact absurd rfl (ak _ _)
   |exact absurd rfl (ay _ _ _)
   |simp_all
def aae(J:c1)(v:z):(∀o E,aF J v≠ .float o E)/\∀o E b,aF J v≠ .complex o E b:=by
 cases v<;>simp[aF]
def anK{m:Nat}{t:TypeId}{iz:Array (String×TypeId)}(aX:C.P.underlying t=some (.interface iz))(a7:iz.isEmpty=true):(Op.eqGuardIn (m+1) t .nilIface .nilIface).run C.P w= .ok false w:=by
 simp[Op.eqGuardIn,run_underlying aX,a7]
def anL{op:BinOp}{t:TypeId}{x e:Operand}{X n4:Value}(a:(qu x||qu e)=true)(K:∀c d,¬(X= .agg c/\n4= .agg d)):
 (eqGuard op t x e X n4).run C.P w= .ok () w:=by
 cases op<;>first|rfl|(cases x<;>cases e<;>first|(simp[qu]at a;done)|(cases X<;>cases n4<;>first|rfl|exact absurd ⟨rfl,rfl⟩ (K _ _)))
def anM{op:BinOp}{t:TypeId}{x e:Operand}{iz:Array (String×TypeId)}(aX:C.P.underlying t=some (.interface iz))(a7:iz.isEmpty=true):
 (eqGuard op t x e .nilIface .nilIface).run C.P w= .ok () w:=by
 have key:=anK (C:=C) (w:=w) (m:=9999) aX a7
 have H:Op.maxDepth=9999+1:=rfl
 cases op<;>first|rfl|(cases x<;>cases e<;>first|rfl|(simp[eqGuard,H,key];done))
def anN{op:BinOp}{t:TypeId}{x e:Operand}(a:(qu x||qu e||(match C.P.underlying t with|some (.interface iz)=>iz.isEmpty|_=>false))=true):
 (eqGuard op t x e .nilIface .nilIface).run C.P w= .ok () w:=by
 by_cases ax:(qu x||qu e)=true
 ·exact anL ax Zs
 ·have ax:(qu x||qu e)=false:=by simpa using ax
  rw[ax,Bool.false_or]at a
  split at a
  ·rename_i iz aX
   exact anM aX a
  ·simp at a
def anO{op:BinOp}{t:TypeId}{x e:Operand}{X n4:Value}(H:¬(X= .nilIface/\n4= .nilIface))(K:∀c d,¬(X= .agg c/\n4= .agg d)):
 (eqGuard op t x e X n4).run C.P w= .ok () w:=by
 cases op<;>first|rfl|(cases X<;>cases n4<;>first|rfl|exact absurd ⟨rfl,rfl⟩ H|exact absurd ⟨rfl,rfl⟩ (K _ _))
def Mq{op:BinOp}{t:TypeId}{x e:Operand}{E b:z}(a:FR C t (qu x||qu e) E b=true):
 (eqGuard op t x e (aF J E) (aF J b)).run C.P w= .ok () w:=by
 unfold FR at a
 split at a
 ·exact anN a
 ·simp only[aF]
  exact run_eqGuard_agg w op t x e _ _ (by simpa using a)
 ·rename_i aL bc
  refine anO ?_ ?_
  ·rintro⟨H,K⟩
   cases E<;>simp[aF]at H
   cases b<;>simp[aF]at K
   exact aL rfl rfl
  ·rintro c d ⟨H,K⟩
   cases E<;>simp[aF]at H
   cases b<;>simp[aF]at K
   exact bc _ _ rfl rfl
def alh{op:BinOp}{x e:List Nat}{v:z}(af:∀E∈x,E<256)(D:∀E∈e,E<256)(a:Aw op x e=some v):
 (Op.stringOp op (fp x) (fp e)).run C.P w= .ok (aF J v) w/\b7 Y v:=by
 have bw:=Vi af D
 have b3:Op.bytesLess (fp x).toList (fp e).toList=BN x e:=by rw[LZ,LZ];exact agz af D
 cases op<;>simp only[Aw,vQ,d6,Zf]at a<;>
  first
  |(
    obtain⟨H,rfl⟩:=a
    constructor
    ·have aD:(fp x).size=x.length:=by simp[fp,ByteArray.size]
     have u5:(fp e).size=e.length:=by simp[fp,ByteArray.size]
     have ge:=iV H
     simp only[Op.stringOp,aD,u5]
     rw[Zg (by simp[IntKind.max,IntKind.signed,IntKind.bits];omega)]
     simp only[Sem.run_pure,aF]
     congr 2
     apply ByteArray.ext
     simp[fp]
    ·simp only[b7]
     intro aG ce
     rcases Zx.1 ce with a|a
     ·exact af aG a
     ·exact D aG a)
  |(subst a;exact⟨by simp only[Op.stringOp,bw,b3,Sem.run_pure,aF],trivial⟩)
  |(simp at a)
def auB(V:cV C J Y h j bj w){op:BinOp}{t:Nat}{x e:Operand}{au:Operand->Value}{ed:Operand->Option z}{v:z}(ct:jc J Y au ed [x,e])
 (a:Og C op t x e h ed=some v):(do eqGuard op t x e (au x) (au e);binOp op t (au x) (au e):Sem Value).run C.P w= .ok (aF J v) w/\b7 Y v:=by
 unfold Og at a
 split at a
 ·rename_i E b aB ah
  obtain⟨ans,iY⟩:=ct x Zs E aB
  obtain⟨iW,qX⟩:=ct e Zs b ah
  rw[ans,iW]
  unfold dv at a
  split at a
  ·rename_i o i eA W
   obtain⟨H,K,_⟩:=XR (C:=C) (J:=J) (Y:=Y) (w:=w) t a
   refine⟨?_,K⟩
   rw[Sem.run_bind,Mq (by simp[FR])]
   exact H
  ·rename_i s e1
   obtain⟨H,K⟩:=alh (C:=C) (J:=J) (Y:=Y) (w:=w) iY qX a
   refine⟨?_,K⟩
   rw[Sem.run_bind,Mq (by simp[FR])]
   simp only[Result.andThen_ok,aF,binOp]
   exact H
  ·rename_i avY d3
   simp only[d6]at a
   obtain⟨fj,a⟩:=a
   have bP:∀r,mu C h 50 t E b=some r->(Op.equal t (aF J E) (aF J b)).run C.P w= .ok r w:=λr mb=>Qe V 50 _ t E b r Zd iY qX mb
   have m0:∀o aG eA Lj,¬(aF J E= .int o aG/\aF J b= .int eA Lj):=by
    intro o aG eA Lj ⟨H,K⟩
    cases E<;>simp[aF]at H
    cases b<;>simp[aF]at K
    exact avY _ _ _ _ rfl rfl
   have ls:∀aG Lj,¬(aF J E= .string aG/\aF J b= .string Lj):=by
    intro aG Lj ⟨H,K⟩
    cases E<;>simp[aF]at H
    cases b<;>simp[aF]at K
    exact d3 _ _ rfl rfl
   obtain⟨cP,cG⟩:=binOp_eql (t:=t) m0 ls (aae J E).1 (aae J E).2
   rw[Sem.run_bind,Mq fj]
   split at a
   ·split at a
    ·rename_i r mb
     simp at a;subst a
     exact⟨by simp[cP,bP r mb,aF],trivial⟩
    ·simp at a
   ·split at a
    ·rename_i r mb
     simp at a;subst a
     exact⟨by simp[cG,bP r mb,aF],trivial⟩
    ·simp at a
   ·simp at a
 ·simp at a
end
end Go.bn

namespace Go.bn
open Go.RowKit (Below)
section
variable{C:aK}{J:c1}{Y:Nat->Prop}{h:S ai}{j bj:Nat}{w:World}
def ak3{s d:Nat}{x v:z}(af:b7 Y x)(a:Qd C s d x=some v):(convert s d (aF J x)).run C.P w= .ok (aF J v) w/\b7 Y v:=by
 unfold Qd at a
 split at a
 ·rename_i lm o de n J2 J1
  simp at a;subst a
  simp[convert,run_underlying J2,run_underlying J1,Conv.intToInt,aF,b7]
 ·rename_i lm s J2 J1
  simp at a;subst a
  refine⟨?_,af⟩
  simp[convert,run_underlying J2,run_underlying J1,aF]
 ·simp at a
def amf:∀{k:List z}{s:List Nat},xE k=some s->∃d3:List Nat,k=d3.map (λn=>z.int .u8 (Int.ofNat n))/\s=d3.map (·%256):=by
 intro k
 induction k with
 |nil=>intro s a;simp[xE]at a;subst a;exact⟨[],rfl,rfl⟩
 |cons E k ag=>
  intro s a
  unfold xE at a
  split at a
  ·rename_i gC;simp at gC
  ·rename_i n bQ e0
   simp only[zp]at e0
   obtain⟨rfl,rfl⟩:=e0
   split at a
   ·rename_i r V
    simp at a;subst a
    obtain⟨d3,H,K⟩:=ag V
    exact⟨n::d3,by simp[H],by simp[K]⟩
   ·simp at a
  ·simp at a
def aox(d3:List Nat):∀r:ByteArray,(d3.map Int.ofNat).foldl (λr (n:Int)=>r.push (UInt8.ofNat n.toNat)) r=⟨r.data++(d3.map UInt8.ofNat).toArray⟩:=by
 induction d3 with
 |nil=>intro r;simp
 |cons n d3 ag=>
  intro r
  simp only[ZE,ZZ,ag]
  congr 1
  apply YR
  simp[ByteArray.push]
def AI(V:cV C J Y h j bj w){b U n:Nat}{k:List z}(ah:Y b)(a:kt C h b U n=some k):
 (loadCells ⟨(J b).cr,(J b).dH+U,none⟩ n).run C.P w= .ok (bK J k).toArray w/\d0 Y k:=by
 unfold kt at a
 split at a
 ·rename_i c ax;exact L5 V ah ax a
 ·simp only[d6,Zf]at a
  obtain⟨H,rfl⟩:=a
  have:n=0:=Zj H
  subst this
  refine⟨?_,trivial⟩
  have aw:=run_loadCells_list (P:=C.P) w ⟨(J b).cr,(J b).dH+U,none⟩ [] (λW v bo=>by simp at bo)
  simpa[bK]using aw
def agH(V:cV C J Y h j bj w){b U n cap:Nat}{k:List z}{s:List Nat}(ah:Y b)(a:kt C h b U n=some k)(aD:xE k=some s):
 (Conv.bytesToString (.slice (some ⟨(J b).cr,(J b).dH+U,none⟩) n cap)).run C.P w= .ok (aF J (.str s)) w/\b7 Y (.str s):=by
 obtain⟨H,_⟩:=AI V ah a
 obtain⟨d3,rfl,rfl⟩:=amf aD
 have K:=run_bytesToString (P:=C.P) w ⟨(J b).cr,(J b).dH+U,none⟩ n cap (d3.map Int.ofNat) (by
  rw[H];congr 2
  rw[px,YA,YA];rfl)
 constructor
 ·rw[K,aox]
  congr 2
  simp only[fp,YA]
  congr 1
  apply YR
  simp
  intro E _
  exact UInt8.toNat_inj.1 Zs
 ·simp only[b7]
  intro x af
  obtain⟨e,_,rfl⟩:=ZB.1 af
  exact zq _ Zd
def ali(V:cV C J Y h j bj w){x v:z}(af:b7 Y x)(a:Fw C h x=some v):(Conv.bytesToString (aF J x)).run C.P w= .ok (aF J v) w/\b7 Y v/\∃E k c,aF J x= .slice E k c:=by
 unfold Fw at a
 split at a
 ·simp at a;subst a;exact⟨rfl,by simp[b7],_,_,_,rfl⟩
 ·split at a
  ·rename_i k aw
   split at a
   ·rename_i s aD
    simp at a;subst a
    obtain⟨H,K⟩:=agH V af aw aD
    exact⟨H,K,_,_,_,rfl⟩
   ·simp at a
  ·simp at a
 ·split at a
  ·rename_i k aw
   split at a
   ·rename_i s aD
    simp at a;subst a
    obtain⟨H,K⟩:=agH V af aw aD
    exact⟨H,K,_,_,_,rfl⟩
   ·simp at a
  ·simp at a
 ·simp at a
def auC(V:cV C J Y h j bj w){s d:Nat}{x:Operand}{au:Operand->Value}{ed:Operand->Option z}{v:z}(ct:jc J Y au ed [x])
 (a:Kk C s d x h ed=some v):(convert s d (au x)).run C.P w= .ok (aF J v) w/\b7 Y v:=by
 unfold Kk at a
 split at a
 ·rename_i E aB
  obtain⟨B,g⟩:=ct x Zs E aB
  rw[B]
  split at a
  ·rename_i ac aX
   simp at a;subst a
   exact ak3 g aX
  ·split at a
   ·rename_i th J2 J1
    split at a
    ·rename_i a7
     obtain⟨H,K,fu,k,c,ak⟩:=ali V g a
     refine⟨?_,K⟩
     rw[ak]at H ⊢
     rw[run_convert_bytes_string w s d th fu k c J2 a7 J1]
     exact H
    ·simp at a
   ·simp at a
 ·simp at a
def DY{U:Option z}{m d r:Nat}(a:ow U m d=some r):(U=none/\r=d)\/∃o,U=some (.int o (Int.ofNat r))/\r<=m:=by
 unfold ow at a
 split at a
 ·rename_i v
  split at a
  ·rename_i n aM
   simp only[d6,Zf]at a
   obtain⟨H,rfl⟩:=a
   obtain⟨o,rfl⟩:=D8 aM
   exact .inr ⟨o,rfl,iV H⟩
  ·simp at a
 ·simp at a;exact .inl ⟨rfl,a.symm⟩
def run_sliceBound{P:Program}{o:IntKind}{n e:Nat}{code:BoundsCode}(a:n<=e):(Instr.sliceBound (.int o (Int.ofNat n)) e code).run P w= .ok n w:=by
 have H:(0:Int)<=Int.ofNat n/\Int.ofNat n<=(e:Int):=⟨Int.natCast_nonneg n,Int.ofNat_le.2 a⟩
 simp only[Instr.sliceBound,asIntOf,Sem.run_bind,Sem.run_pure,Result.andThen_ok]
 rw[Zq H]
 rfl
def Ii{GR:Bool}{len cap L3:Nat}{bC aA g6:Option z}{k a m:Nat}(ax:cap<=L3)(ah:ms len cap bC aA g6=some (k,a,m)):
 (Instr.sliceBounds GR len L3 (bC.map (aF J)) (aA.map (aF J)) (g6.map (aF J))).run C.P w= .ok (k,a,if g6.isSome then m else L3) w/\k<=a/\(g6=none->m=cap)/\m<=cap/\(a<=m\/a=len):=by
 unfold ms at ah
 split at ah
 ·simp at ah
 ·rename_i e6 aZ
  split at ah
  ·simp at ah
  ·rename_i cy gC
   split at ah
   ·simp at ah
   ·rename_i bQ aw
    simp at ah
    obtain⟨rfl,rfl,rfl⟩:=ah
    have Bc:bQ<=cy:=by
     rcases DY aw with ⟨_,rfl⟩|⟨o,_,ge⟩
     ·exact zu _
     ·exact ge
    cases g6 with
    |none=>
     have sy:e6=cap:=by simpa[ow]using aZ.symm
     subst sy
     have Nl:ow aA e6 len=some cy:=by cases aA<;>exact gC
     refine⟨?_,Bc,λ_=>rfl,Zh _,(DY Nl).elim (λa=> .inr a.2) (λ⟨_,_,a⟩=> .inl a)⟩
     rcases DY Nl with ⟨rfl,rfl⟩|⟨o,rfl,ge⟩<;>rcases DY aw with ⟨rfl,rfl⟩|⟨b2,rfl,gE⟩
     ·simp[Instr.sliceBounds]
     ·simp only[Instr.sliceBounds,ze,ZK,aF,Sem.run_bind,Sem.run_pure,Result.andThen_ok,run_sliceBound gE,Z4,Zw,ZA]
     ·simp only[Instr.sliceBounds,ze,ZK,aF,Sem.run_bind,Sem.run_pure,Result.andThen_ok,run_sliceBound (Zy ge ax),Z4,Zw,ZA]
     ·simp only[Instr.sliceBounds,ze,ZK,aF,Sem.run_bind,Sem.run_pure,Result.andThen_ok,run_sliceBound (Zy ge ax),run_sliceBound gE,Z4,Zw,ZA]
    |some avH=>
     rcases DY aZ with ⟨a8,_⟩|⟨o,a8,ge⟩
     ·cases a8
     ·cases a8
      cases aA with
      |none=>simp at gC
      |some bo=>
       have Nl:ow (some bo) e6 len=some cy:=gC
       rcases DY Nl with ⟨a8,_⟩|⟨eA,a8,Jv⟩
       ·cases a8
       ·cases a8
        refine⟨?_,Bc,(λa=>by cases a),ge, .inl Jv⟩
        rcases DY aw with ⟨rfl,rfl⟩|⟨b2,rfl,gE⟩
        ·simp only[Instr.sliceBounds,ze,ZK,aF,Sem.run_bind,Sem.run_pure,Result.andThen_ok,run_sliceBound (Zy ge ax),run_sliceBound Jv,Z6,ZC]
        ·simp only[Instr.sliceBounds,ZK,aF,Sem.run_bind,Sem.run_pure,Result.andThen_ok,run_sliceBound (Zy ge ax),run_sliceBound Jv,run_sliceBound gE,Z6,ZC]
end
end Go.bn

namespace Go.bn
open Go.RowKit (Below)
section
variable{C:aK}{J:c1}{Y:Nat->Prop}{h:S ai}{j bj:Nat}{w:World}
def amz(m k U aR:Nat):bI (Nat.beq m k) U (U+k*aR)=if m=k then U else U+k*aR:=hl _ _ _ _
def agn(V:cV C J Y h j bj w){b n:Nat}(ah:Y b)(a:tW C h b=some n):n<=(J b).room:=by
 unfold tW at a
 split at a
 ·rename_i c m et aS
  simp at a;subst a
  obtain⟨bU,ty,bC,aA,_,K,_,_⟩:=V.obj b _ aS ah
  exact K.2.1
 ·rename_i c m aS
  simp at a;subst a
  obtain⟨bU,ty,bC,aA,_,K,_,_⟩:=V.obj b _ aS ah
  exact K.2.1
 ·simp at a
def U8{b U k a m aR:Nat}:Value.slice (some (if m=k then(⟨(J b).cr,(J b).dH+U,none⟩:Addr)else(⟨(J b).cr,(J b).dH+U,none⟩:Addr).add (k*aR))) (a-k) (m-k)
 =aF J (.slice b (bI (Nat.beq m k) U (U+k*aR)) (a-k) (m-k)):=by
 rw[amz]
 simp only[aF,qN]
 split
 ·rfl
 ·rw[ZV]
def alg(V:cV C J Y h j bj w){t:Nat}{x v:z}{bC aA g6:Option z}(af:b7 Y x)(a:LO C h t x bC aA g6=some v):
 (Instr.sliceAt t (aF J x) (bC.map (aF J)) (aA.map (aF J)) (g6.map (aF J))).run C.P w= .ok (aF J v) w/\b7 Y v:=by
 unfold LO at a
 split at a
 ·rename_i s aX
  cases g6 with
  |some _=>simp at a
  |none=>
   simp only at a
   split at a
   ·rename_i k cy m ah
    simp at a;subst a
    obtain⟨H,K,_⟩:=Ii (C:=C) (J:=J) (w:=w) (GR:=false) (Zh _) ah
    have dW:(fp s).size=s.length:=by simp[fp,ByteArray.size]
    constructor
    ·simp only[ze,Z4,Zw,ZA]at H
     simp[Instr.sliceAt,run_underlying aX,Instr.slice,aF,dW,H]
     apply ByteArray.ext
     rw[ByteArray.data_extract]
     apply YR
     simp[fp,List.map_take,List.map_drop,List.take_drop]
    ·simp only[b7]at af ⊢
     intro aG ce
     exact af aG (Y4 (YC ce))
   ·simp at a
 ·rename_i dO b U len cap aX
  split at a
  ·rename_i k cy m aR ah dW
   simp at a;subst a
   obtain⟨H,K,ak,_⟩:=Ii (C:=C) (J:=J) (w:=w) (GR:=true) (Zh cap) ah
   have aZ:(if g6.isSome=true then m else cap)=m:=by cases g6 with
    |none=>simp[ak rfl]
    |some _=>rfl
   rw[aZ]at H
   refine⟨?_,af⟩
   have:=U8 (J:=J) (b:=b) (U:=U) (k:=k) (a:=cy) (m:=m) (aR:=aR)
   simp only[Instr.sliceAt,Sem.run_bind,run_underlying aX,Result.andThen_ok,Instr.slice,aF,H,ng dW,Sem.run_pure]
   rw[<-aF, <-this]
   split<;>rfl
  ·simp at a
 ·rename_i dO aX
  split at a
  ·rename_i r aR ah dW
   obtain⟨k,cy,m⟩:=r
   simp at a;subst a
   obtain⟨H,K,ak,ay,be⟩:=Ii (C:=C) (J:=J) (w:=w) (GR:=true) (Zh 0) ah
   have aZ:m=0:=Zo
   have gC:cy=0:=Zo
   have aw:k=0:=Zo
   subst aZ;subst gC;subst aw
   refine⟨?_,trivial⟩
   have q0:(Instr.sliceBounds true 0 0 (bC.map (aF J)) (aA.map (aF J)) (g6.map (aF J))).run C.P w= .ok (0,0,0) w:=by rw[H];split<;>rfl
   simp[Instr.sliceAt,run_underlying aX,Instr.slice,aF,q0,ng dW]
  ·simp at a
 ·rename_i dO b U len aR aX
  split at a
  ·rename_i w8 n dW aM
   simp only[d6,Zp]at a
   obtain⟨⟨j3,oo⟩,a⟩:=a
   have j3:aR=w8:=Zj j3
   subst j3
   have oo:0<aR:=ks oo
   have asN:=agn V af aM
   have l8:(n-U)/aR<=((J b).room-U)/aR:=Nat.div_le_div_right Zo
   split at a
   ·rename_i k cy m ah
    obtain⟨H,K,ak,_⟩:=Ii (C:=C) (J:=J) (w:=w) (GR:=true) l8 ah
    cases g6 with
    |some avH=>
     simp at a;subst a
     refine⟨?_,af⟩
     have:=U8 (J:=J) (b:=b) (U:=U) (k:=k) (a:=cy) (m:=m) (aR:=aR)
     simp only[Z6,ZC]at H
     simp only[Instr.sliceAt,Sem.run_bind,run_underlying aX,Result.andThen_ok,Instr.slice,aF,H,ng dW,Sem.run_pure]
     rw[<-aF, <-this]
     split<;>rfl
    |none=>
     simp only[d6,Zf,Y1]at a
     obtain⟨aw,rfl⟩:=a
     refine⟨?_,af⟩
     simp only[Z4,Zw,ZA]at H
     simp only[Instr.sliceAt,Sem.run_bind,run_underlying aX,Result.andThen_ok,Instr.slice,aF,H,ng dW,Sem.run_pure]
     have b3:((J b).room-(U+k*aR))/aR=((J b).room-U)/aR-k:=by
      rw[<-Nat.sub_sub,zy k aR,Nat.sub_mul_div]
     rw[b3]
     congr 1
     congr 1
     rcases aw with aw|aw
     ·have aw:=ks aw
      rw[Zg Zo,ZK,qN,ZV]
     ·have aw:k=0:=Zj aw
      subst aw
      split<;>simp[qN]
   ·simp at a
  ·simp at a
 ·rename_i n dO b U aX
  split at a
  ·rename_i k cy m aR ah dW
   simp at a;subst a
   obtain⟨H,K,ak,_⟩:=Ii (C:=C) (J:=J) (w:=w) (GR:=false) (Zh n) ah
   have aZ:(if g6.isSome=true then m else n)=m:=by cases g6 with
    |none=>simp[ak rfl]
    |some _=>rfl
   rw[aZ]at H
   refine⟨?_,af⟩
   have:=U8 (J:=J) (b:=b) (U:=U) (k:=k) (a:=cy) (m:=m) (aR:=aR)
   simp only[Instr.sliceAt,Sem.run_bind,run_underlying aX,Result.andThen_ok,Instr.sureAddr,aF,H,ng dW,Sem.run_pure]
   rw[<-aF, <-this]
  ·simp at a
 ·simp at a
end
end Go.bn

