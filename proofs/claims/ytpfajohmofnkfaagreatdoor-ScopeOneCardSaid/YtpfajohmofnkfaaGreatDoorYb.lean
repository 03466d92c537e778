/- A part of the proof of the claim's last text: what it is used for is said there; no condition of its own. -/
import Derived.Test.YtpfajohmofnkfaaGreatDoorYa
import Derived.Below
import Derived.ChangeKeysEq
import Derived.Laws.IdiomCopy
import Derived.Laws.Unary
import Derived.Laws.Wrap64
import Derived.Laws.StructEq
import Derived.Laws.BytesString
import Derived.MapKept
set_option maxHeartbeats 8000000
set_option linter.unusedVariables false
set_option linter.unusedSimpArgs false
namespace Go.al
open Go.RowKit (Below)
structure iR(K:cY)(Z:Nat->Prop)(n ap:Nat)(J:U H)(tmps:Array Value):Prop where
 size:tmps.size=n
 val:∀t v,e7 ap t=true->J.get t=some v->tmps[t]? =some (aD K v)/\b0 Z v
def MX(C:aX)(fn ap:Nat):Prop:=∃f,C.P.funcs[fn]? =some f/\xY ap f.results.toList=true
def ED(c:Code):Prop:=c= .ret\/∃id,c= .exit id
def Bj(K:cY):MP->Target
 | .fn fn fl=> .fn (mm K fn) (bI K fl).toArray
 | .collected r=> .collected (K r).cq
def k7(K:cY)(d:hj):Deferred:=⟨Bj K d.target,(bI K d.args).toArray⟩
def aj6(Z:Nat->Prop):MP->Prop
 | .fn fn fl=>Kf Z fn/\dW Z fl
 | .collected r=>Z r
def vA(Z:Nat->Prop)(d:hj):Prop:=aj6 Z d.target/\dW Z d.args
def De(st:oG)(n:Nat)(pl:lN)(bd bP aN:Nat):Prop:=match st with
 | .own=>bP=aN
 | .marked=>bP=aN\/bd<=bP
 | .grow _=>(bP=aN\/bd<=bP)/\n<=pl.room/\pl.dJ+pl.room<=bd
 | .jJ=>True/\n<=pl.room/\pl.dJ+pl.room<=bd
theorem De.free{st:oG}{n:Nat}{pl:lN}{bd bP aN:Nat}(a:De st n pl bd bP aN)(l1:st≠ .jJ):aN<=bP\/bd<=bP:=by
 cases st with
 |own=>exact .inl (zg a.symm)
 |marked=>exact a.imp (λE=>zg E.symm) id
 |grow _=>exact a.1.imp (λE=>zg E.symm) id
 |jJ=>exact absurd rfl l1
def fo(K:cY)(E:H×H×Nat):MapEntry:=⟨aD K E.1,aD K E.2.1,E.2.2⟩
def jn(C:aX)(K:cY)(Z:Nat->Prop)(W:an)(pl:lN)(w:World):Prop:=match W with
 | .cells c n st=>∃bU ty bP aN,w.heap[pl.cq]? =some (.cells bU ty (bP,aN))/\De st n pl bU.size bP aN/\pl.dJ+n<=bU.size/\
    ∀i v,c.get i=some v->bU[pl.dJ+i]? =some (aD K v)/\b0 Z v
 | .map a2 cw=>∃bU,w.heap[pl.cq]? =some (.map bU cw)/\bU.toList=a2.map (fo K)/\∀E∈a2,b0 Z E.1/\b0 Z E.2.1
 | .look a2=>∃(bU:Array MapEntry) (cw:Nat) (jt:List (H×H×Nat)),w.heap[pl.cq]? =some (.map bU cw)/\bU.toList=jt.map (fo K)/\(jt.map λE=>(E.1,E.2.1)).Perm a2/\∀E∈jt,b0 Z E.1/\b0 Z E.2.1
 | .nJ s pos=>pl.dJ=0/\w.heap[pl.cq]? =some (.stringIter (fd s) pos)/\∀x∈s,x<256
 | .hz m d4 seen st=>pl.dJ=0/\w.heap[pl.cq]? =some (.mapIter (m.map λb=>(K b).cq) d4 seen.toArray st)/\∀b,m=some b->Z b
 | .uD m d4 n cN st lb=>pl.dJ=0/\Z m/\∃seen:List Nat,w.heap[pl.cq]? =some (.mapIter (some (K m).cq) d4 seen.toArray st)/\(cN.filter λb=> !seen.contains b).length<=n/\∀b,lb=some b->EH seen=some b
 | .loop state pending fn n ap J params assign body a8=>∃tmps,w.heap[pl.cq]? =some (.loop ⟨state,pending,fn,tmps,params.toArray,assign,body,(K a8).cq⟩)/\iR K Z n ap J tmps/\Z a8/\
    la C ap assign=true/\la C ap body=true/\(∀c,pending=some c->ED c)/\MX C fn ap
 | .deferred oL=>w.heap[pl.cq]? =some (.deferred (oL.map λl=>l.map (k7 K)))/\∀l,oL=some l->∀d∈l,vA Z d
def M9(W o':an)(b ea:Nat):Prop:=
 (∃c n gx aY,W= .cells c n .jJ/\o'= .cells gx aY .jJ)\/
 (∃c n l gx aY,W= .cells c n (.grow l)/\o'= .cells gx aY .jJ/\ea∈l/\aY<=n)\/
 (∃c n l gx aY,o'= .cells gx aY (.grow l)/\W= .cells c n .jJ/\b∈l/\n<=aY)
def tk(C:aX)(Z:Nat->Prop)(W:an):Prop:=(∀c n l,W= .cells c n (.grow l)->∀x∈l,Z x/\C.bj<=x)/\∀c n st,W= .cells c n st->∀i v,c.get i=some v->i<n
structure cS(C:aX)(K:cY)(Z:Nat->Prop)(h:U an)(k bg:Nat)(w:World):Prop where
 bj:C.bj<=k
 lt:∀b,Z b->b<k
 uG:∀b W,ab C h b=some W->b<k
 obj:∀b W,ab C h b=some W->Z b->jn C K Z W (K b) w
 sep:∀b ea W o',ab C h b=some W->ab C h ea=some o'->Z b->Z ea->b≠ea->C.bj<=b->(K b).cq=(K ea).cq->M9 W o' b ea/\(K b).dJ=(K ea).dJ
 base:∀b W,C.bj<=b->ab C h b=some W->Z b->bg<=(K b).cq
 fb:∀b W,ab C h b=some W->Z b->tk C Z W
def iC(K:cY)(Z:Nat->Prop)(aw:Operand->Value)(d5:Operand->Option H)(l:List Operand):Prop:=
 ∀x∈l,∀v,d5 x=some v->aw x=aD K v/\b0 Z v
section
variable{C:aX}{K:cY}{Z:Nat->Prop}{h:U an}{k bg:Nat}{w:World}
theorem Nx(s:ByteArray):fd (s.data.toList.map (·.toNat))=s:=by
 unfold fd
 rw[YG]
 have:(UInt8.ofNat∘λx:UInt8=>x.toNat)=id:=by funext x;simp
 rw[this]
 simp
theorem apm{α er:Type}(f:α->Option er):∀(l:List α) (r:List er),Av f l=some r->r.length=l.length/\∀(i:Nat) (I:α),l[i]? =some I->∃b,r[i]? =some b/\f I=some b:=by
 intro l
 induction l with
 |nil=>intro r a;simp[Av]at a;subst a;simp
 |cons I l ah=>
  intro r a
  simp only[Av]at a
  cases b5:f I with
  |none=>simp[b5]at a
  |some b=>
   simp only[b5]at a
   cases S:Av f l with
   |none=>simp[S]at a
   |some hq=>
    simp only[S,Ze]at a
    subst a
    obtain⟨M,R⟩:=ah _ S
    refine⟨by simp[M],λi x ag=> ?_⟩
    cases i with
    |zero=>simp at ag;subst ag;exact⟨b,Zs,b5⟩
    |succ i=>simp at ag;obtain⟨j,T,anE⟩:=R i x ag;exact⟨j,by simpa using T,anE⟩
theorem apY(K:cY)(Z:Nat->Prop):∀(n:Nat) (v:Value) (I:H),AC n v=some I->v=aD K I/\b0 Z I:=by
 intro n
 induction n with
 |zero=>intro v I a;simp[AC]at a
 |succ n ah=>
  have list:∀(l:List Value) (r:List H),Av (AC n) l=some r->l=bI K r/\dW Z r:=by
   intro l r a
   obtain⟨M,R⟩:=apm _ l r a
   constructor
   ·rw[oM]
    apply YV
    intro i
    rw[Zv]
    cases ag:l[i]? with
    |none=>
     have:l.length<=i:=by simpa using ag
     rw[Z3 Zo];rfl
    |some x=>
     obtain⟨b,ai,hK⟩:=R i x ag
     rw[ai,(ah _ _ hK).1];rfl
   ·rw[sx]
    intro v bu
    obtain⟨i,aN⟩:=ZW.1 bu
    have cR:i<l.length:=by
     have:=(Zc.1 aN).1;omega
    obtain⟨b,ai,hK⟩:=R i l[i] (Zf cR)
    rw[aN]at ai;simp at ai;subst ai
    exact(ah _ _ hK).2
  intro v I a
  unfold AC at a
  split at a<;>(try(simp at a;subst a;simp[aD,b0,mm,bI,Kf,dW];done))
  ·simp at a;subst a
   refine⟨by simp only[aD];rw[Nx], ?_⟩
   simp only[b0]
   intro x ag
   obtain⟨j,_,rfl⟩:=ZD.1 ag
   exact j.toNat_lt
  ·rename_i t v
   split at a
   ·rename_i f2 aG
    simp at a;subst a
    obtain⟨E,g⟩:=ah _ _ aG
    exact⟨by simp only[aD,E],g⟩
   ·simp at a
  ·rename_i cs
   split at a
   ·rename_i l aE
    simp at a;subst a
    obtain⟨E,g⟩:=list _ _ aE
    exact⟨by simp only[aD];rw[<-E],g⟩
   ·simp at a
  ·rename_i cs
   split at a
   ·rename_i l aE
    simp at a;subst a
    obtain⟨E,g⟩:=list _ _ aE
    exact⟨by simp only[aD];rw[<-E],g⟩
   ·simp at a
  ·simp at a
theorem LX{v:Value}{I:H}(a:CC v=some I):v=aD K I/\b0 Z I:=apY K Z _ _ _ a
theorem qg(b W i:Nat):(⟨b,W,none⟩:Addr).add i=⟨b,W+i,none⟩:=by unfold Addr.add;split<;>simp_all
theorem ahx(S:cS C K Z h k bg w){b:Nat}(ai:Z b){c:U H}(a:cellsOf C h b=some c):
 ∃bU ty bP aN,w.heap[(K b).cq]? =some (.cells bU ty (bP,aN))/\∀i v,c.get i=some v->bU[(K b).dJ+i]? =some (aD K v)/\b0 Z v:=by
 unfold cellsOf at a
 split at a
 ·rename_i gx n st bc
  simp at a;subst a
  obtain⟨bU,ty,bP,aN,M,_,_,aM⟩:=S.obj b _ bc ai
  exact⟨bU,ty,bP,aN,M,aM⟩
 ·simp at a
theorem UT(S:cS C K Z h k bg w){b:Nat}(ai:Z b){c:U H}(a:cellsOf C h b=some c){W:Nat}{v:H}(bV:c.get W=some v):
 w.cell? ⟨(K b).cq,(K b).dJ+W,none⟩=some (aD K v)/\b0 Z v:=by
 obtain⟨bU,ty,bP,aN,M,aM⟩:=ahx S ai a
 obtain⟨bA,cr⟩:=aM W v bV
 exact⟨by simp[World.cell?,M,bA],cr⟩
theorem JC(S:cS C K Z h k bg w){b:Nat}(ai:Z b){c:U H}(a:cellsOf C h b=some c){W n:Nat}{l:List H}(bV:c.jL W n=some l):
 (loadCells ⟨(K b).cq,(K b).dJ+W,none⟩ n).run C.P w= .ok (bI K l).toArray w/\dW Z l:=by
 obtain⟨M,R⟩:=U.Kc _ _ _ _ bV
 have key:∀i v,l[i]? =some v->w.cell? ⟨(K b).cq,(K b).dJ+W+i,none⟩=some (aD K v)/\b0 Z v:=by
  intro i v aN
  have cR:i<n:=by have:=(Zc.1 aN).1;omega
  have:=UT S ai a (W:=W+i) (v:=v) (by rw[R i cR,aN])
  rwa[<-ZO]at this
 constructor
 ·have aE:=run_loadCells_list (P:=C.P) w ⟨(K b).cq,(K b).dJ+W,none⟩ (bI K l) (λaa v bu=>by
   rw[qg]
   rw[oM,Zv]at bu
   cases ag:l[aa]? with
   |none=>simp[ag]at bu
   |some I=>simp[ag]at bu;subst bu;exact(key aa I ag).1)
  have fj:(bI K l).length=n:=by rw[oM,Zu,M]
  rw[fj]at aE
  exact aE
 ·rw[sx]
  intro v bu
  obtain⟨i,aN⟩:=ZW.1 bu
  exact(key i v aN).2
theorem asV{t n:Nat}(a:iq C t=some n):∃i,C.P.info? t=some i/\i.size=n:=by
 unfold iq at a
 cases aN:C.P.info? t with
 |none=>simp[aN]at a
 |some i=>simp[aN]at a;exact⟨i,rfl,a⟩
theorem mG{t n:Nat}(a:iq C t=some n)(w:World):(sizeOf t).run C.P w= .ok n w:=by
 obtain⟨i,aN,rfl⟩:=asV a
 simp[sizeOf,typeInfo,aN]
theorem x1{t:Nat}{bl:H}(a:qa C t=some bl)(K:cY)(Z:Nat->Prop)(w:World):(zeroValue t).run C.P w= .ok (aD K bl) w/\b0 Z bl:=by
 unfold qa at a
 cases aN:C.P.info? t with
 |none=>simp[aN]at a
 |some i=>
  simp only[aN]at a
  cases cj:i.zero with
  |none=>simp[cj]at a
  |some v=>
   simp only[cj]at a
   obtain⟨E,g⟩:=LX (K:=K) (Z:=Z) a
   exact⟨by simp[zeroValue,typeInfo,aN,cj,E],g⟩
theorem Ml{t:Nat}{b:Bool}(a:Cf C t=some b)(w:World):(isAgg t).run C.P w= .ok b w:=by
 unfold Cf at a
 cases aZ:C.P.underlying t with
 |none=>simp[aZ]at a
 |some d=>
  simp only[aZ]at a
  cases d<;>simp at a<;>subst a<;>simp[isAgg,run_underlying aZ]
end
end Go.al

namespace Go.al
open Go.RowKit (Below)
section
variable{C:aX}{K:cY}{Z:Nat->Prop}{h:U an}{k bg:Nat}{w:World}
theorem mQ{dZ:List (Nat×Nat)}{x:Operand}{sp:jU}(a:mf dZ x=some sp)(ak:List (Nat×H))(J:U H):kz sp ak J=iI dZ ak J x:=by
 cases x with
 |tmp t=>
  simp only[mf]at a
  cases aG:d8 dZ t with
  |none=>simp[aG]at a;subst a;simp[kz,iI,aG]
  |some aa=>simp[aG]at a;subst a;simp[kz,iI,aG]
 |const v=>
  simp only[mf]at a
  cases bu:CC v with
  |none=>simp[bu]at a
  |some I=>simp[bu]at a;subst a;simp[kz,iI,bu]
 |global g=>simp[mf]at a;subst a;rfl
 |func f=>simp[mf]at a;subst a;rfl
theorem aiW{dZ:List (Nat×Nat)}(ak:List (Nat×H))(J:U H):∀{l:List Operand}{cs:List jU}{br:List H},Fw dZ l=some cs->yG ak J cs=some br->
 br.length=l.length/\∀(i:Nat) x,l[i]? =some x->∃v,br[i]? =some v/\iI dZ ak J x=some v:=by
 intro l
 induction l with
 |nil=>intro cs br M R;simp[Fw]at M;subst M;simp[yG]at R;subst R;simp
 |cons x l ah=>
  intro cs br M R
  simp only[Fw]at M
  cases ag:mf dZ x with
  |none=>simp[ag]at M
  |some sp=>
   cases aE:Fw dZ l with
   |none=>simp[ag,aE]at M
   |some wT=>
    simp[ag,aE]at M;subst M
    simp only[yG]at R
    cases bu:kz sp ak J with
    |none=>simp[bu]at R
    |some v=>
     cases S:yG ak J wT with
     |none=>simp[bu,S]at R
     |some r=>
      simp[bu,S]at R;subst R
      obtain⟨I,b⟩:=ah aE S
      refine⟨by simp[I],λi j T=> ?_⟩
      cases i with
      |zero=>simp at T;subst T;exact⟨v,Zs,by rw[<-mQ ag];exact bu⟩
      |succ i=>simp at T;simpa using b i j T
theorem aiU{aw:Operand->Option H}:∀{l:List Operand}{br:List H},oQ aw l=some br->
 br.length=l.length/\∀(i:Nat) x,l[i]? =some x->∃v,br[i]? =some v/\aw x=some v:=by
 intro l
 induction l with
 |nil=>intro br a;simp[oQ]at a;subst a;simp
 |cons x l ah=>
  intro br a
  simp only[oQ]at a
  cases ag:aw x with
  |none=>simp[ag]at a
  |some v=>
   cases aE:oQ aw l with
   |none=>simp[ag,aE]at a
   |some r=>
    simp[ag,aE]at a;subst a
    obtain⟨I,b⟩:=ah aE
    refine⟨by simp[I],λi j T=> ?_⟩
    cases i with
    |zero=>simp at T;subst T;exact⟨v,Zs,ag⟩
    |succ i=>simp at T;simpa using b i j T
theorem aaM{aw:Operand->Value}{d5:Operand->Option H}{l:List Operand}{br:List H}(cn:iC K Z aw d5 l)(M:br.length=l.length)
 (R:∀(i:Nat) x,l[i]? =some x->∃v,br[i]? =some v/\d5 x=some v):l.map aw=bI K br/\dW Z br:=by
 constructor
 ·rw[oM]
  apply YV
  intro i
  rw[Zv,Zv]
  cases ag:l[i]? with
  |none=>
   have:l.length<=i:=by simpa using ag
   rw[Z3 Zo];rfl
  |some x=>
   obtain⟨v,bu,aW⟩:=R i x ag
   rw[bu]
   simp[(cn x (Zp ag) v aW).1]
 ·rw[sx]
  intro v bu
  obtain⟨i,aN⟩:=ZW.1 bu
  have cR:i<l.length:=by have:=(Zc.1 aN).1;omega
  obtain⟨ad,aZ,aW⟩:=R i l[i] (Zf cR)
  rw[aN]at aZ;simp at aZ;subst aZ
  exact(cn _ (List.getElem_mem cR) v aW).2
theorem q8{aw:Operand->Value}{d5:Operand->Option H}{I:Array Operand}{br:List H}(cn:iC K Z aw d5 I.toList)(a:oQ d5 I.toList=some br):
 I.map aw=(bI K br).toArray/\dW Z br:=by
 obtain⟨M,R⟩:=aiU a
 obtain⟨au,aM⟩:=aaM cn M R
 refine⟨?_,aM⟩
 apply YM
 simp[au]
theorem acJ(B:IntKind)(n:Int):ox B n=B.wrap n:=by
 cases B<;>simp only[ox]<;>try rfl
 simp only[fB,IntKind.wrap,IntKind.bits,IntKind.signed,Zh,zn,ge_iff_le]
 have bF:((2:Int)^64)=18446744073709551616:=by decide
 have cB:((2:Int)^(64-1))=9223372036854775808:=by decide
 rw[bF,cB]
 by_cases a:n%18446744073709551616<9223372036854775808
 ·rw[Zr a,Zg (by simpa using a)]
 ·rw[Zg a,Zr (by simpa using a)]
@[simp] theorem avC(B:IntKind)(n:Int):kE B n=some (.int B (B.wrap n)):=by simp[kE,acJ]
@[simp] theorem σ(B:IntKind)(n:Int):o0 B n=some (.int B n):=by simp[o0]
@[simp] theorem vp(b:Bool):oK b=some (.bool b):=by cases b<;>rfl
@[simp] theorem Dw{α:Type _}(c:Bool)(I:Option α)(v:α):bC c none I=some v↔c=false/\I=some v:=by cases c<;>simp
@[simp] theorem HQ(x j:Int):xG x j=decide (x=j):=by
  rw[ZY,Zh]
  cases x<;>cases j
  ·exact⟨λa=>by rw[Zi a],λa=>by cases a;exact Y6 _⟩
  ·exact⟨(λa=>by cases a),(λa=>by cases a)⟩
  ·exact⟨(λa=>by cases a),(λa=>by cases a)⟩
  ·exact⟨λa=>by rw[Zi a],λa=>by cases a;exact Y6 _⟩
@[simp] theorem sU(x j:Int):xH x j=decide (x<j):=by
  rw[ZY,Zh]
  cases x with
  |ofNat I=>cases j with
   |ofNat b=>show Nat.blt I b=true↔(I:Int)<(b:Int);simp[Nat.blt];omega
   |negSucc b=>show false=true↔(I:Int)<Int.negSucc b;simp;omega
  |negSucc I=>cases j with
   |ofNat b=>show true=true↔Int.negSucc I<(b:Int);simp;omega
   |negSucc b=>show Nat.blt b I=true↔Int.negSucc I<Int.negSucc b;simp[Nat.blt];omega
@[simp] theorem aah(B eA:IntKind):lE B eA=decide (B=eA):=by cases B<;>cases eA<;>rfl
@[simp] theorem ahg(I b:Bool):Jw I b=(I==b):=by cases I<;>cases b<;>rfl
theorem ago{op:BinOp}{B:IntKind}{x j:Int}{v:H}(t:TypeId)(a:k6 op B x j=some v)(aH:ln op=false):
 (binOp op t (.int B x) (.int B j)).run C.P w= .ok (aD K v) w/\b0 Z v:=by
 cases op<;>simp[k6,ln,binOp,Op.intArith,Op.intDiv,Op.intBits,Op.intCmp]at a aH ⊢ <;>
  first
  |(subst a;simp[aD,b0];done)
  |(obtain⟨M,a⟩:=a;subst a;simp[aD,b0,M];done)
  |(subst a;exact⟨rfl,trivial⟩)
  |(subst a;refine⟨?_,trivial⟩;simp only[aD];congr 1;rw[ZY];simp;done)
theorem agv{op:BinOp}{B eA:IntKind}{x j:Int}{v:H}(t:TypeId)(a:FZ op B x j=some v):
 (binOp op t (.int B x) (.int eA j)).run C.P w= .ok (aD K v) w/\b0 Z v:=by
 unfold FZ at a
 simp only[sU,Dw,Zb]at a
 obtain⟨M,a⟩:=a
 cases op<;>simp[binOp,Op.shift,M]at a ⊢
 all_goals(subst a;simp[aD,b0])
theorem Uh{op:BinOp}{x j v:H}(t:TypeId)(a:aL op x j=some v):
 (binOp op t (aD K x) (aD K j)).run C.P w= .ok (aD K v) w/\b0 Z v/\∃B I eA b,x= .int B I/\j= .int eA b:=by
 unfold aL at a
 split at a
 ·rename_i B I eA b
  simp only[aD]
  by_cases aH:ln op=true
  ·simp only[aH,eB]at a
   obtain⟨bF,cB⟩:=agv (C:=C) (K:=K) (Z:=Z) (w:=w) (eA:=eA) t a
   exact⟨bF,cB,_,_,_,_,rfl,rfl⟩
  ·have aH:ln op=false:=by simpa using aH
   simp only[aH,iF,aah,d9,Zh]at a
   obtain⟨rfl,a⟩:=a
   obtain⟨bF,cB⟩:=ago (C:=C) (K:=K) (Z:=Z) (w:=w) t a aH
   exact⟨bF,cB,_,_,_,_,rfl,rfl⟩
 ·simp at a
def I2(K:cY)(Z:Nat->Prop)(P:Program)(w:World)(s:Sem Next)(v:H):Prop:=s.run P w= .ok (.value (aD K v)) w/\b0 Z v
theorem mP{P:Program}{s:Sem Value}{v:H}(a:s.run P w= .ok (aD K v) w/\b0 Z v):I2 K Z P w (do pure (.value (<-s))) v:=by
 refine⟨?_,a.2⟩
 simp[a.1]
theorem Ui(S:cS C K Z h k bg w){t:TypeId}(aT:Cf C t=some false){I v:H}(aG:b0 Z I)(a:ao C h I=some v):
 (Instr.loadAt t (aD K I)).run C.P w= .ok (aD K v) w/\b0 Z v:=by
 unfold ao at a
 split at a
 ·rename_i b W
  split at a
  ·rename_i c ay
   obtain⟨M,R⟩:=UT S aG ay a
   refine⟨?_,R⟩
   simp[Instr.loadAt,Instr.sureAddr,aD,loadVar,Ml aT,M]
  ·simp at a
 ·simp at a
theorem Uj(S:cS C K Z h k bg w){t:TypeId}{n:Nat}(aT:Cf C t=some true)(aH:iq C t=some n){I v:H}(aG:b0 Z I)(a:cL C h n I=some v):
 (Instr.loadAt t (aD K I)).run C.P w= .ok (aD K v) w/\b0 Z v:=by
 unfold cL at a
 split at a
 ·rename_i b W
  split at a
  ·rename_i c ay
   split at a
   ·rename_i l aE
    simp at a;subst a
    obtain⟨M,R⟩:=JC S aG ay aE
    refine⟨?_,R⟩
    simp[Instr.loadAt,Instr.sureAddr,aD,loadVar,Ml aT,mG aH,M]
   ·simp at a
  ·simp at a
 ·simp at a
theorem Uk(S:cS C K Z h k bg w){t:TypeId}{I v:H}(aG:b0 Z I)(a:oH C h t I=some v):
 (Instr.loadAt t (aD K I)).run C.P w= .ok (aD K v) w/\b0 Z v:=by
 unfold oH at a
 split at a
 ·rename_i s M R;exact Uj S M R aG a
 ·rename_i M;exact Ui S M aG a
 ·simp at a
theorem kd{I b:Nat}(a:Nat.blt I b=true):I<b:=by simp[Nat.blt]at a;omega
theorem iT{I b:Nat}(a:Nat.ble I b=true):I<=b:=by simpa using a
theorem Cs{v:H}{n:Nat}(a:m4 v=some n):∃B,v= .int B (Int.ofNat n):=by
 unfold m4 at a
 split at a
 ·rename_i B bl
  split at a
  ·simp at a;subst a;exact⟨B,rfl⟩
  ·simp at a
 ·simp at a
theorem ai5{s:TypeId}{ju:Array Field}{f bl:Nat}{rf:Field}(aZ:C.P.underlying s=some (.struct ju))(b5:ju.toList[f]? =some rf)
 (cj:iq C rf.type=some bl)(kV:bl≠0){I v:H}(aG:b0 Z I)(a:bf rf.offset I=some v):
 (Instr.fieldAt s (aD K I) f).run C.P w= .ok (aD K v) w/\b0 Z v:=by
 unfold bf at a
 split at a
 ·rename_i b W
  simp at a;subst a
  have pE:ju[f]? =some rf:=by rw[<-b5];simp
  refine⟨?_,aG⟩
  simp[Instr.fieldAt,run_underlying aZ,pE,Instr.sureAddr,aD,fieldPlace,mG cj,kV,qg,ZO]
 ·simp at a
theorem an0{t:TypeId}{n bd i:Nat}{dE:TypeId}(aZ:C.P.underlying t=some (.array n dE))(cj:iq C dE=some bd)
 {I v:H}{B:IntKind}(aG:b0 Z I)(a:IY n bd I i=some v):
 (Instr.indexAt t (aD K I) (.int B (Int.ofNat i))).run C.P w= .ok (aD K v) w/\b0 Z v:=by
 unfold IY at a
 split at a
 ·rename_i b W
  simp only[d9,Ze]at a
  obtain⟨M,rfl⟩:=a
  have cR:i<n:=kd M
  refine⟨?_,aG⟩
  simp[Instr.indexAt,asIntOf,run_underlying aZ,Instr.sureAddr,aD,mG cj,cR,qg,ZO]
 ·simp at a
theorem an3{t:TypeId}{bd i:Nat}{dE:TypeId}(aZ:C.P.underlying t=some (.slice dE))(cj:iq C dE=some bd)
 {I v:H}{B:IntKind}(aG:b0 Z I)(a:A1 bd I i=some v):
 (Instr.indexAt t (aD K I) (.int B (Int.ofNat i))).run C.P w= .ok (aD K v) w/\b0 Z v:=by
 unfold A1 at a
 split at a
 ·rename_i b W n _
  simp only[d9,Ze]at a
  obtain⟨M,rfl⟩:=a
  have cR:i<n:=kd M
  refine⟨?_,aG⟩
  simp[Instr.indexAt,asIntOf,run_underlying aZ,aD,mG cj,cR,qg,ZO]
 ·rename_i b W n _
  simp only[d9,Ze]at a
  obtain⟨M,rfl⟩:=a
  have cR:i<n:=kd M
  refine⟨?_,aG⟩
  simp[Instr.indexAt,asIntOf,run_underlying aZ,aD,mG cj,cR,qg,ZO]
 ·simp at a
theorem atS{I v:H}(aG:b0 Z I)(a:cz I=some v):v=I/\(∀oper:Oper,∀aw:Operand->Value,∀x,oper.op= .nilCheck x->aw x=aD K I->(execOp aw oper).run C.P w= .ok (.value (aD K v)) w):=by
 unfold cz at a
 split at a
 ·simp at a;subst a
  refine⟨rfl,λoper aw x bc ag=> ?_⟩
  simp[execOp,bc,ag,aD]
 ·split at a
  ·simp at a;subst a
   refine⟨rfl,λoper aw x bc ag=> ?_⟩
   simp[execOp,bc,ag,aD,mm]
  ·simp at a;subst a
   refine⟨rfl,λoper aw x bc ag=> ?_⟩
   simp[execOp,bc,ag,aD,mm]
  ·simp at a
 ·simp at a;subst a
  refine⟨rfl,λoper aw x bc ag=> ?_⟩
  simp[execOp,bc,ag,aD]
 ·simp at a
theorem atR{i:Nat}{I v:H}(aG:b0 Z I)(a:c9 i I=some v):(Instr.extract (aD K I) i).run C.P w= .ok (aD K v) w/\b0 Z v:=by
 unfold c9 at a
 split at a
 ·rename_i br
  rw[m5]at a
  refine⟨?_,(sx Z br).1 aG v (Zp a)⟩
  simp[Instr.extract,aD,oM,a]
 ·simp at a
theorem Vq{aw:Operand->Value}{d5:Operand->Option H}:∀{l:List (Nat×Operand)}{c8:List (Nat×H)},iC K Z aw d5 (l.map (·.2))->w0 d5 l=some c8->
 l.map (λx=>(x.1,aw x.2))=c8.map (λx=>(x.1,aD K x.2))/\∀x∈c8,b0 Z x.2:=by
 intro l
 induction l with
 |nil=>intro c8 _ a;simp[w0]at a;subst a;simp
 |cons I l ah=>
  intro c8 cn a
  obtain⟨i,x⟩:=I
  simp only[w0]at a
  cases ag:d5 x with
  |none=>simp[ag]at a
  |some v=>
   cases aE:w0 d5 l with
   |none=>simp[ag,aE]at a
   |some r=>
    simp[ag,aE]at a;subst a
    obtain⟨I,b⟩:=ah (λj T=>cn j (by simp at T ⊢;exact .inr T)) aE
    obtain⟨c,d⟩:=cn x Zs v ag
    refine⟨by simp[I,c],λj T=> ?_⟩
    cases T with
    |head=>exact d
    |tail _ T=>exact b j T
theorem tr(K:cY)(v:H):(aD K v).cells=(bI K v.cells).toArray:=by
 cases v<;>simp[aD,Value.cells,H.cells,bI]
theorem sn{v:H}(a:b0 Z v):dW Z v.cells:=by
 cases v with
 |agg cs=>exact a
 |_=>exact⟨a,trivial⟩
theorem ajo(K:cY):∀(br:List H) (cs:List H) (off B:Nat),
 ((bI K br).zipIdx B).foldl (λ(cs:Array Value) (x:Value×Nat)=>cs.setIfInBounds (off+x.2) x.1) (bI K cs).toArray=(bI K (lu cs (off+B) br)).toArray:=by
 intro br
 induction br with
 |nil=>intro cs off B;rfl
 |cons v br ah=>
  intro cs off B
  simp only[bI,List.zipIdx_cons,ZL,lu]
  have:(bI K cs).toArray.setIfInBounds (off+B) (aD K v)=(bI K (cs.set (off+B) v)).toArray:=by
   apply YM
   simp[oM,List.map_set]
  rw[this,ah]
  rfl
theorem aj7{cs:List H}{i:Nat}{v:H}(a:dW Z cs)(bu:b0 Z v):dW Z (cs.set i v):=by
 rw[sx]at a ⊢
 intro x ag
 rcases List.mem_or_eq_of_mem_set ag with cv|cv
 ·exact a x cv
 ·rw[cv];exact bu
theorem aj8:∀(br cs:List H) (W:Nat),dW Z cs->dW Z br->dW Z (lu cs W br):=by
 intro br
 induction br with
 |nil=>intro cs W a _;exact a
 |cons v br ah=>intro cs W a bu;exact ah _ _ (aj7 a bu.1) bu.2
theorem N9{E9 It:Nat->Option (Nat×Nat)}(ax:∀i x,E9 i=some x->It i=some x):∀(c8:List (Nat×H)) (cs r:List H),dW Z cs->(∀x∈c8,b0 Z x.2)->
 yJ E9 cs c8=some r->Instr.fill It (bI K cs).toArray (c8.map λx=>(x.1,aD K x.2))=some (bI K r).toArray/\dW Z r:=by
 intro c8
 induction c8 with
 |nil=>intro cs r a _ b5;simp[yJ]at b5;subst b5;exact⟨rfl,a⟩
 |cons p c8 ah=>
  intro cs r a bV b5
  obtain⟨i,v⟩:=p
  simp only[yJ]at b5
  cases rC:E9 i with
  |none=>simp[rC]at b5
  |some x=>
   obtain⟨off,size⟩:=x
   simp only[rC,d9,Zk]at b5
   obtain⟨⟨M,R⟩,b5⟩:=b5
   have M:v.cells.length=size:=Zi M
   have R:off+size<=cs.length:=iT R
   have alV:b0 Z v:=bV (i,v) Zs
   obtain⟨I,b⟩:=ah (lu cs off v.cells) r (aj8 _ _ _ a (sn alV)) (λx ag=>bV x (by simp[ag])) b5
   refine⟨?_,b⟩
   simp only[Zy,Instr.fill,ax _ _ rC,tr]
   have fj:(bI K v.cells).length=size:=by rw[oM,Zu,M]
   have t7:(bI K cs).length=cs.length:=by rw[oM,Zu]
   rw[Zg]
   ·rw[<-I]
    congr 1
    have:=ajo K v.cells cs off 0
    simp
    simpa using this
   ·simp[fj,t7];omega
theorem arK{α er:Type}(P:Program)(w:World)(f:α->Sem er)(g:α->er):∀(l:List α),(∀I∈l,(f I).run P w= .ok (g I) w)->(l.mapM f).run P w= .ok (l.map g) w:=by
 intro l
 induction l with
 |nil=>intro _;simp
 |cons I l ah=>intro a;simp[zc,a I Zs,ah (λb ai=>a b (by simp[ai]))]
theorem asT{ju:List Field}{i:Nat}{x:Nat×Nat}(a:RL C ju i=some x):∃f s,ju[i]? =some f/\iq C f.type=some s/\x=(f.offset,s):=by
 unfold RL at a
 rw[m5]at a
 split at a
 ·rename_i f b5
  split at a
  ·rename_i s aH
   simp at a
   exact⟨f,s,b5,aH,a.symm⟩
  ·simp at a
 ·simp at a
theorem FY{t:TypeId}{cs:List H}{off:Nat}{v:H}(bV:dW Z cs)(a:Be C t cs off=some v):
 (part t (bI K cs).toArray off).run C.P w= .ok (aD K v) w/\b0 Z v:=by
 unfold Be at a
 split at a
 ·rename_i s M R
  simp at a;subst a
  constructor
  ·simp only[part,Sem.run_bind,Ml M,Result.andThen_ok,ZB,mG R,Sem.run_pure,aD,oM]
   congr 2
   apply YM
   simp[List.map_take,List.map_drop,List.take_drop]
  ·simp only[b0]
   rw[sx]at bV ⊢
   exact λx ag=>bV x (zd (YL ag))
 ·rename_i M
  rw[m5]at a
  constructor
  ·simp[part,Ml M,oM,a]
  ·exact(sx Z cs).1 bV v (Zp a)
 ·simp at a
theorem agn{t:TypeId}{x i v:H}(ag:b0 Z x)(a:Jk C t x i=some v):(Instr.index t (aD K x) (aD K i)).run C.P w= .ok (aD K v) w/\b0 Z v:=by
 unfold Jk at a
 split at a
 ·simp at a
 ·rename_i n aS
  obtain⟨B,rfl⟩:=Cs aS
  split at a
  ·rename_i m dE cs aZ
   split at a
   ·rename_i bd cj
    simp only[d9]at a
    obtain⟨M,R⟩:=a
    have cR:=kd M
    obtain⟨au,aM⟩:=FY (K:=K) (w:=w) ag R
    refine⟨?_,aM⟩
    simp[Instr.index,asIntOf,aD,run_underlying aZ,cR,mG cj,au]
   ·simp at a
  ·rename_i s aZ
   rw[m5]at a
   split at a
   ·rename_i c ay
    simp at a;subst a
    refine⟨?_,trivial⟩
    have ai:(fd s)[n]? =some (UInt8.ofNat c):=by
     show(fd s).data[n]? =_
     simp[fd,ay]
    have cR:c<256:=ag c (Zp ay)
    simp[Instr.index,asIntOf,aD,run_underlying aZ,ai,YD cR]
   ·simp at a
  ·simp at a
theorem agz{op:UnOp}{x v:H}(a:fT op x=some v):(Op.unary op (aD K x)).run C.P w= .ok (aD K v) w/\b0 Z v:=by
 unfold fT at a
 split at a
 ·rename_i B n
  simp[k6]at a;subst a
  exact⟨by simp[Op.unary,Op.intArith,aD],trivial⟩
 ·rename_i B n
  simp[k6]at a;subst a
  exact⟨rfl,trivial⟩
 ·simp at a;subst a;exact⟨rfl,trivial⟩
 ·simp at a
theorem ap2:∀{l:List Field},LZ C l=true->∀f∈l,∃s,iq C f.type=some s:=by
 intro l
 induction l with
 |nil=>intro _ f b5;simp at b5
 |cons I l ah=>
  intro a f b5
  simp only[LZ,Zk]at a
  cases b5 with
  |head=>cases aH:iq C I.type with
   |none=>simp[aH]at a
   |some s=>exact⟨s,rfl⟩
  |tail _ b5=>exact ah a.2 f b5
theorem agh{t:TypeId}{c8:List (Nat×H)}{v:H}(bV:∀x∈c8,b0 Z x.2)(a:Je C t c8=some v):
 (Instr.build t ((c8.map λx=>(x.1,aD K x.2)).toArray)).run C.P w= .ok (aD K v) w/\b0 Z v:=by
 unfold Je at a
 split at a
 ·simp at a
 ·rename_i bl cj
  obtain⟨Es,Et⟩:=x1 cj K Z w
  split at a
  ·rename_i ju aZ
   simp only[d9]at a
   obtain⟨dg,a⟩:=a
   split at a
   ·rename_i cs hM
    simp at a;subst a
    have bi:(ju.mapM λf=>do pure (f.offset, <-sizeOf f.type):Sem (Array (Nat×Nat))).run C.P w= .ok (ju.toList.map λf=>(f.offset,(iq C f.type).getD 0)).toArray w:=by
     rw[Array.mapM_eq_mapM_toList,Sem.run_map,arK C.P w _ (λf:Field=>(f.offset,(iq C f.type).getD 0)) _ (λf b5=>by
      obtain⟨s,aH⟩:=ap2 dg f b5
      simp[mG aH,aH])]
     rfl
    obtain⟨I,b⟩:=N9 (K:=K) (It:=λi=>((ju.toList.map λf=>(f.offset,(iq C f.type).getD 0)).toArray)[i]?) (λi x ag=>by
     obtain⟨f,s,M,R,rfl⟩:=asT ag
     simp at M
     simp[M,R]) c8 bl.cells cs (sn Et) bV hM
    refine⟨?_,b⟩
    simp only[Instr.build,Sem.run_bind,Es,Result.andThen_ok,run_underlying aZ,bi,tr,I,aD,Sem.run_pure]
   ·simp at a
  ·rename_i n dE aZ
   split at a
   ·rename_i s aH
    split at a
    ·rename_i cs hM
     simp at a;subst a
     obtain⟨I,b⟩:=N9 (K:=K) (It:=λi=>some (i*s,s)) (λ_ _ a=>a) c8 bl.cells cs (sn Et) bV hM
     refine⟨?_,b⟩
     simp[Instr.build,Es,run_underlying aZ,mG aH,tr,I,aD]
    ·simp at a
   ·simp at a
  ·simp at a
end
end Go.al

namespace Go.al
open Go.RowKit (Below)
section
variable{C:aX}{K:cY}{Z:Nat->Prop}{h:U an}{k bg:Nat}{w:World}
theorem aba{I b:Nat}(aG:I<256)(ai:b<256)(a:UInt8.ofNat I=UInt8.ofNat b):I=b:=by
 have:=congrArg UInt8.toNat a
 simp at this
 omega
theorem Ii:∀(x j:List Nat),mb x j=true↔x=j
 |[],[]=>by simp[mb]
 |[],_::_=>by simp[mb]
 |_::_,[]=>by simp[mb]
 |I::x,b::j=>by
  simp only[mb,Zk,Ii x j,zp]
  exact⟨λ⟨a,E⟩=>⟨Zi a,E⟩,λ⟨a,E⟩=>⟨by rw[a];exact Y6 _,E⟩⟩
theorem apj:∀{x j:List Nat},(∀I∈x,I<256)->(∀I∈j,I<256)->x.map UInt8.ofNat=j.map UInt8.ofNat->x=j:=by
 intro x
 induction x with
 |nil=>intro j _ _ a;cases j with
  |nil=>rfl
  |cons b j=>simp at a
 |cons I x ah=>
  intro j ag T a
  cases j with
  |nil=>simp at a
  |cons b j=>
   simp only[Zy,zp]at a
   rw[aba (ag I Zs) (T b Zs) a.1,ah (λc ay=>ag c (by simp[ay])) (λc ay=>T c (by simp[ay])) a.2]
theorem Jx(s:List Nat):(fd s).toList=s.map UInt8.ofNat:=by
 rw[ByteArray.toList_eq];simp[fd]
theorem RK{x j:List Nat}(ag:∀I∈x,I<256)(T:∀I∈j,I<256):((fd x).toList==(fd j).toList)=mb x j:=by
 rw[ZY,Ii,YZ,Jx,Jx]
 exact⟨apj ag T,λa=>by rw[a]⟩
theorem ab8:∀{x j:List Nat},(∀I∈x,I<256)->(∀I∈j,I<256)->Op.bytesLess (x.map UInt8.ofNat) (j.map UInt8.ofNat)=Ay x j
 |[],[],_,_=>rfl
 |[],_::_,_,_=>rfl
 |_::_,[],_,_=>rfl
 |I::x,b::j,ag,T=>by
  have aG:=ag I Zs
  have ai:=T b Zs
  have ah:=ab8 (λc ay=>ag c (Zn _ ay)) (λc ay=>T c (Zn _ ay))
  simp only[Zy,Op.bytesLess,Ay,ah]
  have bF:decide (UInt8.ofNat I<UInt8.ofNat b)=Nat.blt I b:=by
   rw[ZY,Zh,UInt8.lt_iff_toNat_lt]
   simp[Nat.blt,YD aG,YD ai];omega
  have cB:(UInt8.ofNat I==UInt8.ofNat b)=Nat.beq I b:=by
   rw[ZY,YZ]
   exact⟨λa=>by rw[aba aG ai a];exact Y6 _,λa=>by rw[Zi a]⟩
  rw[bF,cB]
theorem Mb(S:cS C K Z h k bg w){b W:Nat}(ai:Z b)(a:EO C h b W=true):
 ∃c n st bU ty bP aN,ab C h b=some (.cells c n st)/\W<n/\w.heap[(K b).cq]? =some (.cells bU ty (bP,aN))/\De st n (K b) bU.size bP aN/\(K b).dJ+n<=bU.size/\st≠ .jJ:=by
 unfold EO at a
 split at a
 ·simp at a
 ·rename_i c n st l1 bc
  obtain⟨bU,ty,bP,aN,M,R,au,_⟩:=S.obj b _ bc ai
  exact⟨c,n,st,bU,ty,bP,aN,bc,kd (by simpa using a),M,R,au,λE=>(by subst E;first|exact l1 _ bc|exact l1 _ rfl|exact l1 rfl|exact l1 bc|simp_all)⟩
 ·simp at a
theorem abi{b W:Nat}(a:L4 C h b W=true):EO C h b W=true/\C.bj<=b/\∃c n,ab C h b=some (.cells c n .own):=by
 unfold L4 at a
 unfold EO
 split at a
 ·rename_i c n bc
  simp only[bc,Zk]at a ⊢
  exact⟨a.2,iT a.1,c,n,rfl⟩
 ·simp at a
theorem Rq{r:Nat}{bU:Array Value}{ty:TypeId}{f:Nat×Nat}(a:w.heap[r]? =some (.cells bU ty f)):w.shape? r=some (ty,bU.size):=by
 simp[World.shape?,a]
theorem abV{P:Program}{p ar:Nat}{x j:Nat}{be b2:Array Value}{t1 eX:TypeId}{eh M c5 R:Nat}(dv:p≠ar)
 (bF:w.heap[p]? =some (.cells be t1 (eh,M)))(cB:w.heap[ar]? =some (.cells b2 eX (c5,R)))(ez:M<=eh)(iQ:x<be.size)(hC:j<b2.size)(eT:R<=c5\/b2.size<=c5):
 (sameAddr ⟨p,x,none⟩ ⟨ar,j,none⟩).run P w= .ok false w/\(sameAddr ⟨ar,j,none⟩ ⟨p,x,none⟩).run P w= .ok false w:=by
 have b9:w.frozen? ⟨p,x,none⟩=false:=by simp[World.frozen?,bF];omega
 have b3:w.frozen? ⟨ar,j,none⟩=false:=by simp[World.frozen?,cB];omega
 have g3:w.frozen? ⟨p,be.size,none⟩=false:=by simp[World.frozen?,bF];omega
 have iN:=Rq bF
 have kZ:=Rq cB
 have fI:be.size≠0:=Zo
 have fs:b2.size≠0:=Zo
 have amo:ar≠p:=λE=>dv E.symm
 constructor
 ·simp[sameAddr,dv,b9,b3,g3,noView,viewAt,iN,kZ,mayBeOne,stringish,fs]
 ·simp[sameAddr,amo,b9,b3,g3,noView,viewAt,iN,kZ,mayBeOne,stringish,fI,fs]
theorem aqU(S:cS C K Z h k bg w){b W ea o':Nat}{r:Bool}(ai:Z b)(hK:Z ea)(a:ptrEq C h b W ea o'=some r):
 (sameAddr ⟨(K b).cq,(K b).dJ+W,none⟩ ⟨(K ea).cq,(K ea).dJ+o',none⟩).run C.P w= .ok r w:=by
 unfold ptrEq at a
 rw[gX]at a
 split at a
 ·rename_i E
  subst E
  simp at a;subst a
  simp only[sameAddr,Yj,ZB,Sem.run_pure]
  congr 1
  rw[ZY,YZ]
  constructor
  ·intro a;simp at a;rw[a];exact Y6 _
  ·intro a;rw[Zi a]
 ·rename_i dv
  simp only[d9,YN,Zk,Ze]at a
  obtain⟨a,rfl⟩:=a
  rcases a with ⟨M,R⟩|⟨M,R⟩
  ·obtain⟨au,aM,c,n,bA⟩:=abi M
   obtain⟨dD,aQ,RE,be,t1,eh,uU,bF,iQ,MN,fI,bN,_⟩:=Mb S ai au
   obtain⟨d2,bp,ass,b2,eX,c5,Fx,cB,hC,MO,fs,cg,Q0⟩:=Mb S hK R
   have cV:RE= .own:=by rw[bA]at bF;cases bF;rfl
   subst cV
   have O4:(K b).cq≠(K ea).cq:=by
    intro E
    rcases(S.sep b ea _ _ bF cB ai hK dv aM E).1 with ⟨_,_,_,_,ar,_⟩|⟨_,_,_,_,_,ar,_⟩|⟨_,_,_,_,_,_,ar,_⟩<;>cases ar
   exact(abV O4 MN MO (zg fI.symm) Zo Zo (fs.free Q0)).1
  ·obtain⟨au,aM,c,n,bA⟩:=abi M
   obtain⟨dD,aQ,RE,be,t1,eh,uU,bF,iQ,MN,fI,bN,_⟩:=Mb S hK au
   obtain⟨d2,bp,ass,b2,eX,c5,Fx,cB,hC,MO,fs,cg,Q0⟩:=Mb S ai R
   have cV:RE= .own:=by rw[bA]at bF;cases bF;rfl
   subst cV
   have O4:(K ea).cq≠(K b).cq:=by
    intro E
    rcases(S.sep ea b _ _ bF cB hK ai (λar=>dv ar.symm) aM E).1 with ⟨_,_,_,_,ar,_⟩|⟨_,_,_,_,_,ar,_⟩|⟨_,_,_,_,_,_,ar,_⟩<;>cases ar
   exact(abV O4 MN MO (zg fI.symm) Zo Zo (fs.free Q0)).2
theorem agk{eq:Nat->H->H->Option Bool}{d:Nat}(e2:∀t x j r,b0 Z x->b0 Z j->eq t x j=some r->(Op.equalIn d t (aD K x) (aD K j)).run C.P w= .ok r w):
 ∀(mo:List Field) (ch pi:List H) (r:Bool),dW Z ch->dW Z pi->FW C eq mo ch pi=some r->(Op.eqFields d (bI K ch).toArray (bI K pi).toArray mo).run C.P w= .ok r w:=by
 intro mo
 induction mo with
 |nil=>intro ch pi r _ _ a;simp[FW]at a;subst a;simp[Op.eqFields]
 |cons f mo ah=>
  intro ch pi r ag T a
  simp only[FW,Dw,zl]at a
  obtain⟨aS,a⟩:=a
  split at a
  ·rename_i I b aG ai
   obtain⟨be,b2⟩:=FY (K:=K) (w:=w) ag aG
   obtain⟨dr,eu⟩:=FY (K:=K) (w:=w) T ai
   split at a
   ·rename_i E
    simp only[Op.eqFields,aS,ne_eq,ZG,ZB,Sem.run_bind,be,dr,e2 _ _ _ _ b2 eu E,Result.andThen_ok,Yg,Zt,Zx]
    exact ah ch pi r ag T a
   ·rename_i E
    simp at a;subst a
    simp only[Op.eqFields,aS,ne_eq,ZG,ZB,Sem.run_bind,be,dr,e2 _ _ _ _ b2 eu E,Result.andThen_ok,Ye,Sem.run_pure]
   ·simp at a
  ·simp at a
theorem Ng(S:cS C K Z h k bg w):∀(d kS:Nat) (t:Nat) (x j:H) (r:Bool),d<=kS->b0 Z x->b0 Z j->mN C h d t x j=some r->
 (Op.equalIn kS t (aD K x) (aD K j)).run C.P w= .ok r w:=by
 intro d
 induction d with
 |zero=>intro kS t x j r _ _ _ a;simp[mN]at a
 |succ d ah=>
  intro kS t x j r aI ek tK a
  obtain⟨kS,rfl⟩:∃E,kS=E+1:=⟨kS-1,Zo⟩
  unfold mN at a
  split at a
  ·rename_i aZ;simp at a;subst a;simp[Op.equalIn,run_underlying aZ,aD]
  ·rename_i aZ;simp at a;obtain⟨rfl,rfl⟩:=a;simp[Op.equalIn,run_underlying aZ,aD];rfl
  ·rename_i I b aZ
   simp at a;subst a
   rw[aD,aD,run_equalIn_string w kS t _ _ aZ,RK ek tK]
  ·rename_i aZ;simp at a;subst a;simp[Op.equalIn,run_underlying aZ,aD]
  ·rename_i aZ;simp at a;subst a;simp[Op.equalIn,run_underlying aZ,aD]
  ·rename_i aZ;simp at a;subst a;simp[Op.equalIn,run_underlying aZ,aD]
  ·rename_i E b W ea o' aZ
   split at a
   ·rename_i s aH
    rw[gX]at a
    split at a
    ·simp at a
    ·rename_i Le
     have:=aqU S ek tK a
     simp[Op.equalIn,run_underlying aZ,aD,mG aH,Le,this]
   ·simp at a
  ·rename_i aZ;simp at a;subst a;simp[Op.equalIn,run_underlying aZ,aD]
  ·rename_i aZ;simp at a;subst a;simp[Op.equalIn,run_underlying aZ,aD]
  ·rename_i aZ;simp at a;subst a;simp[Op.equalIn,run_underlying aZ,aD]
  ·rename_i IN MC ty MD aZ
   rw[gX]at a
   split at a
   ·rename_i E
    subst E
    split at a
    ·rename_i i aN
     simp only[d9]at a
     obtain⟨ay,a⟩:=a
     have:=ah kS IN MC MD r Zo ek tK a
     simp[Op.equalIn,run_underlying aZ,aD,typeInfo,aN,ay,this]
    ·simp at a
   ·rename_i E
    simp at a;subst a
    simp[Op.equalIn,run_underlying aZ,aD,E]
  all_goals first
   |(rename_i aZ;simp at a;subst a;simp[Op.equalIn,run_underlying aZ,aD];done)
   |skip
  ·rename_i ju ch pi aZ
   simp only[Dw]at a
   obtain⟨ax,a⟩:=a
   have b5:C.P.fieldsOf t=ju:=by simp[Program.fieldsOf,aZ]
   rw[aD,aD,run_equalIn_struct w kS t _ _ (by rw[b5];exact aZ) ax,b5]
   exact agk (λt x j r ek tK a=>ah kS t x j r Zo ek tK a) _ _ _ _ ek tK a
  ·simp at a
end
end Go.al

namespace Go.al
open Go.RowKit (Below)
section
variable{C:aX}{K:cY}{Z:Nat->Prop}{h:U an}{k bg:Nat}{w:World}
theorem binOp_eql{t:TypeId}{X nc:Value}(M:∀B I eA b,¬(X= .int B I/\nc= .int eA b))(R:∀I b,¬(X= .string I/\nc= .string b))
 (au:∀B I,X≠ .float B I)(aM:∀B I b,X≠ .complex B I b):binOp .eql t X nc=(do pure (.bool (<-Op.equal t X nc)))/\binOp .neq t X nc=(do pure (.bool (!(<-Op.equal t X nc)))):=by
 constructor
 ·unfold binOp
  split
  all_goals first
   |rfl
   |exact absurd ⟨rfl,rfl⟩ (M _ _ _ _)
   |exact absurd ⟨rfl,rfl⟩ (R _ _)
   |exact absurd rfl (au _ _)
   |exact absurd rfl (aM _ _ _)
   |simp_all
 ·unfold binOp
  split
  all_goals first
   |rfl
   |exact absurd ⟨rfl,rfl⟩ (M _ _ _ _)
   |exact absurd ⟨rfl,rfl⟩ (R _ _)
   |exact absurd rfl (au _ _)
   |exact absurd rfl (aM _ _ _)
   |simp_all
theorem UY(K:cY)(v:H):(∀B I,aD K v≠ .float B I)/\∀B I b,aD K v≠ .complex B I b:=by
 cases v<;>simp[aD]
theorem aiB{m:Nat}{t:TypeId}{h7:Array (String×TypeId)}(aZ:C.P.underlying t=some (.interface h7))(aW:h7.isEmpty=true):(Op.eqGuardIn (m+1) t .nilIface .nilIface).run C.P w= .ok false w:=by
 simp[Op.eqGuardIn,run_underlying aZ,aW]
theorem aiC{op:BinOp}{t:TypeId}{x j:Operand}{X nc:Value}(a:(pU x||pU j)=true)(R:∀c d,¬(X= .agg c/\nc= .agg d)):
 (eqGuard op t x j X nc).run C.P w= .ok () w:=by
 cases op<;>first|rfl|(cases x<;>cases j<;>first|(simp[pU]at a;done)|(cases X<;>cases nc<;>first|rfl|exact absurd ⟨rfl,rfl⟩ (R _ _)))
theorem aiD{op:BinOp}{t:TypeId}{x j:Operand}{h7:Array (String×TypeId)}(aZ:C.P.underlying t=some (.interface h7))(aW:h7.isEmpty=true):
 (eqGuard op t x j .nilIface .nilIface).run C.P w= .ok () w:=by
 have key:=aiB (C:=C) (w:=w) (m:=9999) aZ aW
 have M:Op.maxDepth=9999+1:=rfl
 cases op<;>first|rfl|(cases x<;>cases j<;>first|rfl|(simp[eqGuard,M,key];done))
theorem aiE{op:BinOp}{t:TypeId}{x j:Operand}(a:(pU x||pU j||(match C.P.underlying t with|some (.interface h7)=>h7.isEmpty|_=>false))=true):
 (eqGuard op t x j .nilIface .nilIface).run C.P w= .ok () w:=by
 by_cases ay:(pU x||pU j)=true
 ·exact aiC ay Zs
 ·have ay:(pU x||pU j)=false:=by simpa using ay
  rw[ay,Bool.false_or]at a
  split at a
  ·rename_i h7 aZ
   exact aiD aZ a
  ·simp at a
theorem aiF{op:BinOp}{t:TypeId}{x j:Operand}{X nc:Value}(M:¬(X= .nilIface/\nc= .nilIface))(R:∀c d,¬(X= .agg c/\nc= .agg d)):
 (eqGuard op t x j X nc).run C.P w= .ok () w:=by
 cases op<;>first|rfl|(cases X<;>cases nc<;>first|rfl|exact absurd ⟨rfl,rfl⟩ M|exact absurd ⟨rfl,rfl⟩ (R _ _))
theorem JY{op:BinOp}{t:TypeId}{x j:Operand}{I b:H}(a:DE C t (pU x||pU j) I b=true):
 (eqGuard op t x j (aD K I) (aD K b)).run C.P w= .ok () w:=by
 unfold DE at a
 split at a
 ·exact aiE a
 ·simp only[aD]
  exact run_eqGuard_agg w op t x j _ _ (by simpa using a)
 ·rename_i aQ bp
  refine aiF ?_ ?_
  ·rintro⟨M,R⟩
   cases I<;>simp[aD]at M
   cases b<;>simp[aD]at R
   exact aQ rfl rfl
  ·rintro c d ⟨M,R⟩
   cases I<;>simp[aD]at M
   cases b<;>simp[aD]at R
   exact bp _ _ rfl rfl
theorem agx{op:BinOp}{x j:List Nat}{v:H}(ag:∀I∈x,I<256)(T:∀I∈j,I<256)(a:ys op x j=some v):
 (Op.stringOp op (fd x) (fd j)).run C.P w= .ok (aD K v) w/\b0 Z v:=by
 have bF:=RK ag T
 have cB:Op.bytesLess (fd x).toList (fd j).toList=Ay x j:=by rw[Jx,Jx];exact ab8 ag T
 cases op<;>simp only[ys,vp,d9,Ze]at a<;>
  first
  |(
    obtain⟨M,rfl⟩:=a
    constructor
    ·have aH:(fd x).size=x.length:=by simp[fd,ByteArray.size]
     have pO:(fd j).size=j.length:=by simp[fd,ByteArray.size]
     have fX:=iT M
     simp only[Op.stringOp,aH,pO]
     rw[Zg (by simp[IntKind.max,IntKind.signed,IntKind.bits];omega)]
     simp only[Sem.run_pure,aD]
     congr 2
     apply ByteArray.ext
     simp[fd]
    ·simp only[b0]
     intro bl cj
     rcases Zw.1 cj with a|a
     ·exact ag bl a
     ·exact T bl a)
  |(subst a;exact⟨by simp only[Op.stringOp,bF,cB,Sem.run_pure,aD],trivial⟩)
  |(simp at a)
theorem aou(S:cS C K Z h k bg w){op:BinOp}{t:Nat}{x j:Operand}{aw:Operand->Value}{d5:Operand->Option H}{v:H}(cn:iC K Z aw d5 [x,j])
 (a:Lx C op t x j h d5=some v):(do eqGuard op t x j (aw x) (aw j);binOp op t (aw x) (aw j):Sem Value).run C.P w= .ok (aD K v) w/\b0 Z v:=by
 unfold Lx at a
 split at a
 ·rename_i I b aG ai
  obtain⟨ail,jb⟩:=cn x Zs I aG
  obtain⟨qm,tG⟩:=cn j Zs b ai
  rw[ail,qm]
  unfold dn at a
  split at a
  ·rename_i B i eA aa
   obtain⟨M,R,_⟩:=Uh (C:=C) (K:=K) (Z:=Z) (w:=w) t a
   refine⟨?_,R⟩
   rw[Sem.run_bind,JY (by simp[DE])]
   exact M
  ·rename_i s fZ
   obtain⟨M,R⟩:=agx (C:=C) (K:=K) (Z:=Z) (w:=w) jb tG a
   refine⟨?_,R⟩
   rw[Sem.run_bind,JY (by simp[DE])]
   simp only[Result.andThen_ok,aD,binOp]
   exact M
  ·rename_i apL mc
   simp only[d9]at a
   obtain⟨dg,a⟩:=a
   have cf:∀r,mN C h 50 t I b=some r->(Op.equal t (aD K I) (aD K b)).run C.P w= .ok r w:=λr lD=>Ng S 50 _ t I b r Zd jb tG lD
   have np:∀B bl eA IZ,¬(aD K I= .int B bl/\aD K b= .int eA IZ):=by
    intro B bl eA IZ ⟨M,R⟩
    cases I<;>simp[aD]at M
    cases b<;>simp[aD]at R
    exact apL _ _ _ _ rfl rfl
   have oT:∀bl IZ,¬(aD K I= .string bl/\aD K b= .string IZ):=by
    intro bl IZ ⟨M,R⟩
    cases I<;>simp[aD]at M
    cases b<;>simp[aD]at R
    exact mc _ _ rfl rfl
   obtain⟨cb,b1⟩:=binOp_eql (t:=t) np oT (UY K I).1 (UY K I).2
   rw[Sem.run_bind,JY dg]
   split at a
   ·split at a
    ·rename_i r lD
     simp at a;subst a
     exact⟨by simp[cb,cf r lD,aD],trivial⟩
    ·simp at a
   ·split at a
    ·rename_i r lD
     simp at a;subst a
     exact⟨by simp[b1,cf r lD,aD],trivial⟩
    ·simp at a
   ·simp at a
 ·simp at a
end
end Go.al

namespace Go.al
open Go.RowKit (Below)
section
variable{C:aX}{K:cY}{Z:Nat->Prop}{h:U an}{k bg:Nat}{w:World}
theorem agj{s d:Nat}{x v:H}(ag:b0 Z x)(a:Nf C s d x=some v):(convert s d (aD K x)).run C.P w= .ok (aD K v) w/\b0 Z v:=by
 unfold Nf at a
 split at a
 ·rename_i pg B dx n HI HH
  simp at a;subst a
  simp[convert,run_underlying HI,run_underlying HH,Conv.intToInt,aD,b0]
 ·rename_i pg s HI HH
  simp at a;subst a
  refine⟨?_,ag⟩
  simp[convert,run_underlying HI,run_underlying HH,aD]
 ·simp at a
theorem ahq:∀{l:List H}{s:List Nat},wS l=some s->∃mc:List Nat,l=mc.map (λn=>H.int .u8 (Int.ofNat n))/\s=mc.map (·%256):=by
 intro l
 induction l with
 |nil=>intro s a;simp[wS]at a;subst a;exact⟨[],rfl,rfl⟩
 |cons I l ah=>
  intro s a
  unfold wS at a
  split at a
  ·rename_i gB;simp at gB
  ·rename_i n cd e2
   simp only[zp]at e2
   obtain⟨rfl,rfl⟩:=e2
   split at a
   ·rename_i r S
    simp at a;subst a
    obtain⟨mc,M,R⟩:=ah S
    exact⟨n::mc,by simp[M],by simp[R]⟩
   ·simp at a
  ·simp at a
theorem ajn(mc:List Nat):∀r:ByteArray,(mc.map Int.ofNat).foldl (λr (n:Int)=>r.push (UInt8.ofNat n.toNat)) r=⟨r.data++(mc.map UInt8.ofNat).toArray⟩:=by
 induction mc with
 |nil=>intro r;simp
 |cons n mc ah=>
  intro r
  simp only[Zy,ZL,ah]
  congr 1
  apply YM
  simp[ByteArray.push]
theorem yy(S:cS C K Z h k bg w){b W n:Nat}{l:List H}(ai:Z b)(a:k9 C h b W n=some l):
 (loadCells ⟨(K b).cq,(K b).dJ+W,none⟩ n).run C.P w= .ok (bI K l).toArray w/\dW Z l:=by
 unfold k9 at a
 split at a
 ·rename_i c ay;exact JC S ai ay a
 ·simp only[d9,Ze]at a
  obtain⟨M,rfl⟩:=a
  have:n=0:=Zi M
  subst this
  refine⟨?_,trivial⟩
  have aE:=run_loadCells_list (P:=C.P) w ⟨(K b).cq,(K b).dJ+W,none⟩ [] (λaa v bu=>by simp at bu)
  simpa[bI]using aE
theorem acj(S:cS C K Z h k bg w){b W n cap:Nat}{l:List H}{s:List Nat}(ai:Z b)(a:k9 C h b W n=some l)(aH:wS l=some s):
 (Conv.bytesToString (.slice (some ⟨(K b).cq,(K b).dJ+W,none⟩) n cap)).run C.P w= .ok (aD K (.str s)) w/\b0 Z (.str s):=by
 obtain⟨M,_⟩:=yy S ai a
 obtain⟨mc,rfl,rfl⟩:=ahq aH
 have R:=run_bytesToString (P:=C.P) w ⟨(K b).cq,(K b).dJ+W,none⟩ n cap (mc.map Int.ofNat) (by
  rw[M];congr 2
  rw[oM,YG,YG];rfl)
 constructor
 ·rw[R,ajn]
  congr 2
  simp only[fd,YG]
  congr 1
  apply YM
  simp
  intro I _
  exact UInt8.toNat_inj.1 Zs
 ·simp only[b0]
  intro x ag
  obtain⟨j,_,rfl⟩:=ZD.1 ag
  exact zx _ Zd
theorem agy(S:cS C K Z h k bg w){x v:H}(ag:b0 Z x)(a:Dk C h x=some v):(Conv.bytesToString (aD K x)).run C.P w= .ok (aD K v) w/\b0 Z v/\∃I l c,aD K x= .slice I l c:=by
 unfold Dk at a
 split at a
 ·simp at a;subst a;exact⟨rfl,by simp[b0],_,_,_,rfl⟩
 ·split at a
  ·rename_i l aE
   split at a
   ·rename_i s aH
    simp at a;subst a
    obtain⟨M,R⟩:=acj S ag aE aH
    exact⟨M,R,_,_,_,rfl⟩
   ·simp at a
  ·simp at a
 ·split at a
  ·rename_i l aE
   split at a
   ·rename_i s aH
    simp at a;subst a
    obtain⟨M,R⟩:=acj S ag aE aH
    exact⟨M,R,_,_,_,rfl⟩
   ·simp at a
  ·simp at a
 ·simp at a
theorem aov(S:cS C K Z h k bg w){s d:Nat}{x:Operand}{aw:Operand->Value}{d5:Operand->Option H}{v:H}(cn:iC K Z aw d5 [x])
 (a:H0 C s d x h d5=some v):(convert s d (aw x)).run C.P w= .ok (aD K v) w/\b0 Z v:=by
 unfold H0 at a
 split at a
 ·rename_i I aG
  obtain⟨E,g⟩:=cn x Zs I aG
  rw[E]
  split at a
  ·rename_i ad aZ
   simp at a;subst a
   exact agj g aZ
  ·split at a
   ·rename_i ss HI HH
    split at a
    ·rename_i aW
     obtain⟨M,R,f2,l,c,au⟩:=agy S g a
     refine⟨?_,R⟩
     rw[au]at M ⊢
     rw[run_convert_bytes_string w s d ss f2 l c HI aW HH]
     exact M
    ·simp at a
   ·simp at a
 ·simp at a
theorem Cm{W:Option H}{m d r:Nat}(a:pZ W m d=some r):(W=none/\r=d)\/∃B,W=some (.int B (Int.ofNat r))/\r<=m:=by
 unfold pZ at a
 split at a
 ·rename_i v
  split at a
  ·rename_i n aS
   simp only[d9,Ze]at a
   obtain⟨M,rfl⟩:=a
   obtain⟨B,rfl⟩:=Cs aS
   exact .inr ⟨B,rfl,iT M⟩
  ·simp at a
 ·simp at a;exact .inl ⟨rfl,a.symm⟩
theorem run_sliceBound{P:Program}{B:IntKind}{n j:Nat}{code:BoundsCode}(a:n<=j):(Instr.sliceBound (.int B (Int.ofNat n)) j code).run P w= .ok n w:=by
 have M:(0:Int)<=Int.ofNat n/\Int.ofNat n<=(j:Int):=⟨Int.natCast_nonneg n,Int.ofNat_le.2 a⟩
 simp only[Instr.sliceBound,asIntOf,Sem.run_bind,Sem.run_pure,Result.andThen_ok]
 rw[Zr M]
 rfl
theorem F9{Ex:Bool}{len cap JA:Nat}{bP aN gM:Option H}{l a m:Nat}(ay:cap<=JA)(ai:nd len cap bP aN gM=some (l,a,m)):
 (Instr.sliceBounds Ex len JA (bP.map (aD K)) (aN.map (aD K)) (gM.map (aD K))).run C.P w= .ok (l,a,if gM.isSome then m else JA) w/\l<=a/\(gM=none->m=cap)/\m<=cap/\(a<=m\/a=len):=by
 unfold nd at ai
 split at ai
 ·simp at ai
 ·rename_i fY bi
  split at ai
  ·simp at ai
  ·rename_i cv gB
   split at ai
   ·simp at ai
   ·rename_i cd aE
    simp at ai
    obtain⟨rfl,rfl,rfl⟩:=ai
    have Hk:cd<=cv:=by
     rcases Cm aE with ⟨_,rfl⟩|⟨B,_,fX⟩
     ·exact ze _
     ·exact fX
    cases gM with
    |none=>
     have t8:fY=cap:=by simpa[pZ]using bi.symm
     subst t8
     have KQ:pZ aN fY len=some cv:=by cases aN<;>exact gB
     refine⟨?_,Hk,λ_=>rfl,Zj _,(Cm KQ).elim (λa=> .inr a.2) (λ⟨_,_,a⟩=> .inl a)⟩
     rcases Cm KQ with ⟨rfl,rfl⟩|⟨B,rfl,fX⟩<;>rcases Cm aE with ⟨rfl,rfl⟩|⟨cg,rfl,gZ⟩
     ·simp[Instr.sliceBounds]
     ·simp only[Instr.sliceBounds,Y7,ZT,aD,Sem.run_bind,Sem.run_pure,Result.andThen_ok,run_sliceBound gZ,ZX,Zt,Zx]
     ·simp only[Instr.sliceBounds,Y7,ZT,aD,Sem.run_bind,Sem.run_pure,Result.andThen_ok,run_sliceBound (Zz fX ay),ZX,Zt,Zx]
     ·simp only[Instr.sliceBounds,Y7,ZT,aD,Sem.run_bind,Sem.run_pure,Result.andThen_ok,run_sliceBound (Zz fX ay),run_sliceBound gZ,ZX,Zt,Zx]
    |some apy=>
     rcases Cm bi with ⟨ci,_⟩|⟨B,ci,fX⟩
     ·cases ci
     ·cases ci
      cases aN with
      |none=>simp at gB
      |some bu=>
       have KQ:pZ (some bu) fY len=some cv:=gB
       rcases Cm KQ with ⟨ci,_⟩|⟨eA,ci,Hj⟩
       ·cases ci
       ·cases ci
        refine⟨?_,Hk,(λa=>by cases a),fX, .inl Hj⟩
        rcases Cm aE with ⟨rfl,rfl⟩|⟨cg,rfl,gZ⟩
        ·simp only[Instr.sliceBounds,Y7,ZT,aD,Sem.run_bind,Sem.run_pure,Result.andThen_ok,run_sliceBound (Zz fX ay),run_sliceBound Hj,Z4,ZB]
        ·simp only[Instr.sliceBounds,ZT,aD,Sem.run_bind,Sem.run_pure,Result.andThen_ok,run_sliceBound (Zz fX ay),run_sliceBound Hj,run_sliceBound gZ,Z4,ZB]
end
end Go.al

namespace Go.al
open Go.RowKit (Below)
section
variable{C:aX}{K:cY}{Z:Nat->Prop}{h:U an}{k bg:Nat}{w:World}
theorem ahF(m l W bd:Nat):bC (Nat.beq m l) W (W+l*bd)=if m=l then W else W+l*bd:=gX _ _ _ _
theorem ab0(S:cS C K Z h k bg w){b n:Nat}(ai:Z b)(a:x6 C h b=some n):n<=(K b).room:=by
 unfold x6 at a
 split at a
 ·rename_i c m fb bc
  simp at a;subst a
  obtain⟨bU,ty,bP,aN,_,R,_,_⟩:=S.obj b _ bc ai
  exact R.2.1
 ·rename_i c m bc
  simp at a;subst a
  obtain⟨bU,ty,bP,aN,_,R,_,_⟩:=S.obj b _ bc ai
  exact R.2.1
 ·simp at a
theorem RB{b W l a m bd:Nat}:Value.slice (some (if m=l then(⟨(K b).cq,(K b).dJ+W,none⟩:Addr)else(⟨(K b).cq,(K b).dJ+W,none⟩:Addr).add (l*bd))) (a-l) (m-l)
 =aD K (.slice b (bC (Nat.beq m l) W (W+l*bd)) (a-l) (m-l)):=by
 rw[ahF]
 simp only[aD,qg]
 split
 ·rfl
 ·rw[ZO]
theorem agw(S:cS C K Z h k bg w){t:Nat}{x v:H}{bP aN gM:Option H}(ag:b0 Z x)(a:Jo C h t x bP aN gM=some v):
 (Instr.sliceAt t (aD K x) (bP.map (aD K)) (aN.map (aD K)) (gM.map (aD K))).run C.P w= .ok (aD K v) w/\b0 Z v:=by
 unfold Jo at a
 split at a
 ·rename_i s aZ
  cases gM with
  |some _=>simp at a
  |none=>
   simp only at a
   split at a
   ·rename_i l cv m ai
    simp at a;subst a
    obtain⟨M,R,_⟩:=F9 (C:=C) (K:=K) (w:=w) (Ex:=false) (Zj _) ai
    have eg:(fd s).size=s.length:=by simp[fd,ByteArray.size]
    constructor
    ·simp only[Y7,ZX,Zt,Zx]at M
     simp[Instr.sliceAt,run_underlying aZ,Instr.slice,aD,eg,M]
     apply ByteArray.ext
     rw[ByteArray.data_extract]
     apply YM
     simp[fd,List.map_take,List.map_drop,List.take_drop]
    ·simp only[b0]at ag ⊢
     intro bl cj
     exact ag bl (zd (YL cj))
   ·simp at a
 ·rename_i dE b W len cap aZ
  split at a
  ·rename_i l cv m bd ai eg
   simp at a;subst a
   obtain⟨M,R,au,_⟩:=F9 (C:=C) (K:=K) (w:=w) (Ex:=true) (Zj cap) ai
   have bi:(if gM.isSome=true then m else cap)=m:=by cases gM with
    |none=>simp[au rfl]
    |some _=>rfl
   rw[bi]at M
   refine⟨?_,ag⟩
   have:=RB (K:=K) (b:=b) (W:=W) (l:=l) (a:=cv) (m:=m) (bd:=bd)
   simp only[Instr.sliceAt,Sem.run_bind,run_underlying aZ,Result.andThen_ok,Instr.slice,aD,M,mG eg,Sem.run_pure]
   rw[<-aD, <-this]
   split<;>rfl
  ·simp at a
 ·rename_i dE aZ
  split at a
  ·rename_i r bd ai eg
   obtain⟨l,cv,m⟩:=r
   simp at a;subst a
   obtain⟨M,R,au,aM,bA⟩:=F9 (C:=C) (K:=K) (w:=w) (Ex:=true) (Zj 0) ai
   have bi:m=0:=Zo
   have gB:cv=0:=Zo
   have aE:l=0:=Zo
   subst bi;subst gB;subst aE
   refine⟨?_,trivial⟩
   have sF:(Instr.sliceBounds true 0 0 (bP.map (aD K)) (aN.map (aD K)) (gM.map (aD K))).run C.P w= .ok (0,0,0) w:=by rw[M];split<;>rfl
   simp[Instr.sliceAt,run_underlying aZ,Instr.slice,aD,sF,mG eg]
  ·simp at a
 ·rename_i dE b W len bd aZ
  split at a
  ·rename_i wu n eg aS
   simp only[d9,Zk]at a
   obtain⟨⟨j5,pP⟩,a⟩:=a
   have j5:bd=wu:=Zi j5
   subst j5
   have pP:0<bd:=kd pP
   have amZ:=ab0 S ag aS
   have l0:(n-W)/bd<=((K b).room-W)/bd:=Nat.div_le_div_right Zo
   split at a
   ·rename_i l cv m ai
    obtain⟨M,R,au,_⟩:=F9 (C:=C) (K:=K) (w:=w) (Ex:=true) l0 ai
    cases gM with
    |some apy=>
     simp at a;subst a
     refine⟨?_,ag⟩
     have:=RB (K:=K) (b:=b) (W:=W) (l:=l) (a:=cv) (m:=m) (bd:=bd)
     simp only[Z4,ZB]at M
     simp only[Instr.sliceAt,Sem.run_bind,run_underlying aZ,Result.andThen_ok,Instr.slice,aD,M,mG eg,Sem.run_pure]
     rw[<-aD, <-this]
     split<;>rfl
    |none=>
     simp only[d9,Ze,YN]at a
     obtain⟨aE,rfl⟩:=a
     refine⟨?_,ag⟩
     simp only[ZX,Zt,Zx]at M
     simp only[Instr.sliceAt,Sem.run_bind,run_underlying aZ,Result.andThen_ok,Instr.slice,aD,M,mG eg,Sem.run_pure]
     have cB:((K b).room-(W+l*bd))/bd=((K b).room-W)/bd-l:=by
      rw[<-Nat.sub_sub,zv l bd,Nat.sub_mul_div]
     rw[cB]
     congr 1
     congr 1
     rcases aE with aE|aE
     ·have aE:=kd aE
      rw[Zg Zo,ZT,qg,ZO]
     ·have aE:l=0:=Zi aE
      subst aE
      split<;>simp[qg]
   ·simp at a
  ·simp at a
 ·rename_i n dE b W aZ
  split at a
  ·rename_i l cv m bd ai eg
   simp at a;subst a
   obtain⟨M,R,au,_⟩:=F9 (C:=C) (K:=K) (w:=w) (Ex:=false) (Zj n) ai
   have bi:(if gM.isSome=true then m else n)=m:=by cases gM with
    |none=>simp[au rfl]
    |some _=>rfl
   rw[bi]at M
   refine⟨?_,ag⟩
   have:=RB (K:=K) (b:=b) (W:=W) (l:=l) (a:=cv) (m:=m) (bd:=bd)
   simp only[Instr.sliceAt,Sem.run_bind,run_underlying aZ,Result.andThen_ok,Instr.sureAddr,aD,M,mG eg,Sem.run_pure]
   rw[<-aD, <-this]
  ·simp at a
 ·simp at a
end
end Go.al

