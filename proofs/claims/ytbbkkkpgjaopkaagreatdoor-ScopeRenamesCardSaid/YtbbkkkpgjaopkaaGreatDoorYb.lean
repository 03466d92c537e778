/- Part of the proof of the last text; no conditions -/
import Derived.Test.YtbbkkkpgjaopkaaGreatDoorYa
import Derived.Laws.Wrap64
import Derived.Laws.StructEq
import Derived.Laws.BytesString
import Derived.MapKept
set_option maxHeartbeats 8000000
set_option linter.all false
namespace Go.bp
open Go.RowKit (Below)
section
variable{C:aM}{J:cQ}{Y:Nat->Prop}{h:R ag}{j bd:Nat}{w:World}
def mW{wr:List (Nat×Nat)}{x:Operand}{sv:jR}(a:me wr x=some sv)(an:List (Nat×z))(H:R z):kG sv an H=iC wr an H x:=by
 cases x with
 |tmp t=>
  simp only[me]at a
  cases aC:d1 wr t with
  |none=>simp[aC]at a;subst a;simp[kG,iC,aC]
  |some W=>simp[aC]at a;subst a;simp[kG,iC,aC]
 |const v=>
  simp only[me]at a
  cases bt:CF v with
  |none=>simp[bt]at a
  |some D=>simp[bt]at a;subst a;simp[kG,iC,bt]
 |global g=>simp[me]at a;subst a;rfl
 |func f=>simp[me]at a;subst a;rfl
def ako{wr:List (Nat×Nat)}(an:List (Nat×z))(H:R z):∀{k:List Operand}{cs:List jR}{bj:List z},FU wr k=some cs->ys an H cs=some bj->
 bj.length=k.length/\∀(i:Nat) x,k[i]? =some x->∃v,bj[i]? =some v/\iC wr an H x=some v:=by
 intro k
 induction k with
 |nil=>intro cs bj I M;simp[FU]at I;subst I;simp[ys]at M;subst M;simp
 |cons x k ah=>
  intro cs bj I M
  simp only[FU]at I
  cases af:me wr x with
  |none=>simp[af]at I
  |some sv=>
   cases az:FU wr k with
   |none=>simp[af,az]at I
   |some ww=>
    simp[af,az]at I;subst I
    simp only[ys]at M
    cases bt:kG sv an H with
    |none=>simp[bt]at M
    |some v=>
     cases U:ys an H ww with
     |none=>simp[bt,U]at M
     |some r=>
      simp[bt,U]at M;subst M
      obtain⟨D,b⟩:=ah az U
      refine⟨by simp[D],λi e F=> ?_⟩
      cases i with
      |zero=>simp at F;subst F;exact⟨v,Zs,by rw[<-mW af];exact bt⟩
      |succ i=>simp at F;simpa using b i e F
def akm{aw:Operand->Option z}:∀{k:List Operand}{bj:List z},ph aw k=some bj->
 bj.length=k.length/\∀(i:Nat) x,k[i]? =some x->∃v,bj[i]? =some v/\aw x=some v:=by
 intro k
 induction k with
 |nil=>intro bj a;simp[ph]at a;subst a;simp
 |cons x k ah=>
  intro bj a
  simp only[ph]at a
  cases af:aw x with
  |none=>simp[af]at a
  |some v=>
   cases az:ph aw k with
   |none=>simp[af,az]at a
   |some r=>
    simp[af,az]at a;subst a
    obtain⟨D,b⟩:=ah az
    refine⟨by simp[D],λi e F=> ?_⟩
    cases i with
    |zero=>simp at F;subst F;exact⟨v,Zs,af⟩
    |succ i=>simp at F;simpa using b i e F
def ab5{aw:Operand->Value}{d5:Operand->Option z}{k:List Operand}{bj:List z}(cv:iL J Y aw d5 k)(I:bj.length=k.length)
 (M:∀(i:Nat) x,k[i]? =some x->∃v,bj[i]? =some v/\d5 x=some v):k.map aw=bP J bj/\d2 Y bj:=by
 constructor
 ·rw[pe]
  apply YH
  intro i
  rw[Zw,Zw]
  cases af:k[i]? with
  |none=>
   have:k.length<=i:=by simpa using af
   rw[ZT Zo];rfl
  |some x=>
   obtain⟨v,bt,bl⟩:=M i x af
   rw[bt]
   simp[(cv x (Zl af) v bl).1]
 ·rw[tI]
  intro v bt
  obtain⟨i,aE⟩:=ZW.1 bt
  have cO:i<k.length:=zy (Zb.1 aE).1
  obtain⟨aa,aU,bl⟩:=M i k[i] (Zf cO)
  rw[aE]at aU;simp at aU;subst aU
  exact(cv _ (List.getElem_mem cO) v bl).2
def uO{aw:Operand->Value}{d5:Operand->Option z}{D:Array Operand}{bj:List z}(cv:iL J Y aw d5 D.toList)(a:ph d5 D.toList=some bj):
 D.map aw=(bP J bj).toArray/\d2 Y bj:=by
 obtain⟨I,M⟩:=akm a
 obtain⟨ak,aA⟩:=ab5 cv I M
 refine⟨?_,aA⟩
 apply YZ
 simp[ak]
def aeb(o:IntKind)(n:Int):n4 o n=o.wrap n:=by
 cases o<;>simp only[n4]<;>try rfl
 simp only[eU,IntKind.wrap,IntKind.bits,IntKind.signed,Zh,Bool.true_and,ge_iff_le]
 have bA:((2:Int)^64)=18446744073709551616:=by decide
 have cg:((2:Int)^(64-1))=9223372036854775808:=by decide
 rw[bA,cg]
 by_cases a:n%18446744073709551616<9223372036854775808
 ·rw[Zp a,Zg (by simpa using a)]
 ·rw[Zg a,Zp (by simpa using a)]
@[simp] def axB(o:IntKind)(n:Int):ki o n=some (.int o (o.wrap n)):=by simp[ki,aeb]
@[simp] def abi(o:IntKind)(n:Int):oL o n=some (.int o n):=by simp[oL]
@[simp] def uR(b:Bool):nB b=some (.bool b):=by cases b<;>rfl
@[simp] def DZ{α:Type _}(c:Bool)(D:Option α)(v:α):bK c none D=some v↔c=false/\D=some v:=by cases c<;>simp
@[simp] def xj(x e:Int):sT x e=decide (x=e):=by
  rw[Z7,Zh]
  cases x<;>cases e
  ·exact⟨λa=>by rw[Zj a],λa=>by cases a;exact Y0 _⟩
  ·exact⟨(λa=>by cases a),(λa=>by cases a)⟩
  ·exact⟨(λa=>by cases a),(λa=>by cases a)⟩
  ·exact⟨λa=>by rw[Zj a],λa=>by cases a;exact Y0 _⟩
@[simp] def sU(x e:Int):xk x e=decide (x<e):=by
  rw[Z7,Zh]
  cases x with
  |ofNat D=>cases e with
   |ofNat b=>show Nat.blt D b=true↔(D:Int)<(b:Int);simp[Nat.blt];omega
   |negSucc b=>show false=true↔(D:Int)<Int.negSucc b;simp;omega
  |negSucc D=>cases e with
   |ofNat b=>show true=true↔Int.negSucc D<(b:Int);simp;omega
   |negSucc b=>show Nat.blt b D=true↔Int.negSucc D<Int.negSucc b;simp[Nat.blt];omega
@[simp] def abC(o eE:IntKind):ly o eE=decide (o=eE):=by cases o<;>cases eE<;>rfl
@[simp] def aiK(D b:Bool):Ka D b=(D==b):=by cases D<;>cases b<;>rfl
def ahS{op:BinOp}{o:IntKind}{x e:Int}{v:z}(t:TypeId)(a:kW op o x e=some v)(aD:k2 op=false):
 (binOp op t (.int o x) (.int o e)).run C.P w= .ok (aJ J v) w/\b2 Y v:=by
 cases op<;>simp[kW,k2,binOp,Op.intArith,Op.intDiv,Op.intBits,Op.intCmp]at a aD ⊢ <;>
  first
  |(subst a;simp[aJ,b2];done)
  |(obtain⟨I,a⟩:=a;subst a;simp[aJ,b2,I];done)
  |(subst a;exact⟨rfl,trivial⟩)
  |(subst a;refine⟨?_,trivial⟩;simp only[aJ];congr 1;rw[Z7];simp;done)
def ahZ{op:BinOp}{o eE:IntKind}{x e:Int}{v:z}(t:TypeId)(a:Gw op o x e=some v):
 (binOp op t (.int o x) (.int eE e)).run C.P w= .ok (aJ J v) w/\b2 Y v:=by
 unfold Gw at a
 simp only[sU,DZ,Zc]at a
 obtain⟨I,a⟩:=a
 cases op<;>simp[binOp,Op.shift,I]at a ⊢
 all_goals(subst a;simp[aJ,b2])
def Vj{op:BinOp}{x e v:z}(t:TypeId)(a:bg op x e=some v):
 (binOp op t (aJ J x) (aJ J e)).run C.P w= .ok (aJ J v) w/\b2 Y v/\∃o D eE b,x= .int o D/\e= .int eE b:=by
 unfold bg at a
 split at a
 ·rename_i o D eE b
  simp only[aJ]
  by_cases aD:k2 op=true
  ·simp only[aD,fj]at a
   obtain⟨bA,cg⟩:=ahZ (C:=C) (J:=J) (Y:=Y) (w:=w) (eE:=eE) t a
   exact⟨bA,cg,_,_,_,_,rfl,rfl⟩
  ·have aD:k2 op=false:=by simpa using aD
   simp only[aD,kE,abC,ey,Zh]at a
   obtain⟨rfl,a⟩:=a
   obtain⟨bA,cg⟩:=ahS (C:=C) (J:=J) (Y:=Y) (w:=w) t a aD
   exact⟨bA,cg,_,_,_,_,rfl,rfl⟩
 ·simp at a
def JK(J:cQ)(Y:Nat->Prop)(P:Program)(w:World)(s:Sem Next)(v:z):Prop:=s.run P w= .ok (.value (aJ J v)) w/\b2 Y v
def nz{P:Program}{s:Sem Value}{v:z}(a:s.run P w= .ok (aJ J v) w/\b2 Y v):JK J Y P w (do pure (.value (<-s))) v:=by
 refine⟨?_,a.2⟩
 simp[a.1]
def Vl(U:c9 C J Y h j bd w){t:TypeId}(aZ:Ca C t=some false){D v:z}(aC:b2 Y D)(a:aR C h D=some v):
 (Instr.loadAt t (aJ J D)).run C.P w= .ok (aJ J v) w/\b2 Y v:=by
 unfold aR at a
 split at a
 ·rename_i b V
  split at a
  ·rename_i c ay
   obtain⟨I,M⟩:=VU U aC ay a
   refine⟨?_,M⟩
   simp[Instr.loadAt,Instr.sureAddr,aJ,loadVar,MX aZ,I]
  ·simp at a
 ·simp at a
def Vm(U:c9 C J Y h j bd w){t:TypeId}{n:Nat}(aZ:Ca C t=some true)(aD:iK C t=some n){D v:z}(aC:b2 Y D)(a:d0 C h n D=some v):
 (Instr.loadAt t (aJ J D)).run C.P w= .ok (aJ J v) w/\b2 Y v:=by
 unfold d0 at a
 split at a
 ·rename_i b V
  split at a
  ·rename_i c ay
   split at a
   ·rename_i k az
    simp at a;subst a
    obtain⟨I,M⟩:=Ki U aC ay az
    refine⟨?_,M⟩
    simp[Instr.loadAt,Instr.sureAddr,aJ,loadVar,MX aZ,oX aD,I]
   ·simp at a
  ·simp at a
 ·simp at a
def Vn(U:c9 C J Y h j bd w){t:TypeId}{D v:z}(aC:b2 Y D)(a:pb C h t D=some v):
 (Instr.loadAt t (aJ J D)).run C.P w= .ok (aJ J v) w/\b2 Y v:=by
 unfold pb at a
 split at a
 ·rename_i s I M;exact Vm U I M aC a
 ·rename_i I;exact Vl U I aC a
 ·simp at a
def kX{D b:Nat}(a:Nat.blt D b=true):D<b:=by simp[Nat.blt]at a;omega
def iN{D b:Nat}(a:Nat.ble D b=true):D<=b:=by simpa using a
def Cw{v:z}{n:Nat}(a:nh v=some n):∃o,v= .int o (Int.ofNat n):=by
 unfold nh at a
 split at a
 ·rename_i o br
  split at a
  ·simp at a;subst a;exact⟨o,rfl⟩
  ·simp at a
 ·simp at a
def akv{s:TypeId}{jq:Array Field}{f br:Nat}{rr:Field}(aU:C.P.underlying s=some (.struct jq))(ch:jq.toList[f]? =some rr)
 (ce:iK C rr.type=some br)(k1:br≠0){D v:z}(aC:b2 Y D)(a:hI rr.offset D=some v):
 (Instr.fieldAt s (aJ J D) f).run C.P w= .ok (aJ J v) w/\b2 Y v:=by
 unfold hI at a
 split at a
 ·rename_i b V
  simp at a;subst a
  have p3:jq[f]? =some rr:=by rw[<-ch];simp
  refine⟨?_,aC⟩
  simp[Instr.fieldAt,run_underlying aU,p3,Instr.sureAddr,aJ,fieldPlace,oX ce,k1,qA,Z0]
 ·simp at a
def apN{t:TypeId}{n aO i:Nat}{dU:TypeId}(aU:C.P.underlying t=some (.array n dU))(ce:iK C dU=some aO)
 {D v:z}{o:IntKind}(aC:b2 Y D)(a:JB n aO D i=some v):
 (Instr.indexAt t (aJ J D) (.int o (Int.ofNat i))).run C.P w= .ok (aJ J v) w/\b2 Y v:=by
 unfold JB at a
 split at a
 ·rename_i b V
  simp only[ey,Ze]at a
  obtain⟨I,rfl⟩:=a
  have cO:i<n:=kX I
  refine⟨?_,aC⟩
  simp[Instr.indexAt,asIntOf,run_underlying aU,Instr.sureAddr,aJ,oX ce,cO,qA,Z0]
 ·simp at a
def apQ{t:TypeId}{aO i:Nat}{dU:TypeId}(aU:C.P.underlying t=some (.slice dU))(ce:iK C dU=some aO)
 {D v:z}{o:IntKind}(aC:b2 Y D)(a:AN aO D i=some v):
 (Instr.indexAt t (aJ J D) (.int o (Int.ofNat i))).run C.P w= .ok (aJ J v) w/\b2 Y v:=by
 unfold AN at a
 split at a
 ·rename_i b V n _
  simp only[ey,Ze]at a
  obtain⟨I,rfl⟩:=a
  have cO:i<n:=kX I
  refine⟨?_,aC⟩
  simp[Instr.indexAt,asIntOf,run_underlying aU,aJ,oX ce,cO,qA,Z0]
 ·rename_i b V n _
  simp only[ey,Ze]at a
  obtain⟨I,rfl⟩:=a
  have cO:i<n:=kX I
  refine⟨?_,aC⟩
  simp[Instr.indexAt,asIntOf,run_underlying aU,aJ,oX ce,cO,qA,Z0]
 ·simp at a
def avS{D v:z}(aC:b2 Y D)(a:mh D=some v):v=D/\(∀oper:Oper,∀aw:Operand->Value,∀x,oper.op= .nilCheck x->aw x=aJ J D->(execOp aw oper).run C.P w= .ok (.value (aJ J v)) w):=by
 unfold mh at a
 split at a
 ·simp at a;subst a
  refine⟨rfl,λoper aw x bb af=> ?_⟩
  simp[execOp,bb,af,aJ]
 ·split at a
  ·simp at a;subst a
   refine⟨rfl,λoper aw x bb af=> ?_⟩
   simp[execOp,bb,af,aJ,mn]
  ·simp at a;subst a
   refine⟨rfl,λoper aw x bb af=> ?_⟩
   simp[execOp,bb,af,aJ,mn]
  ·simp at a
 ·simp at a;subst a
  refine⟨rfl,λoper aw x bb af=> ?_⟩
  simp[execOp,bb,af,aJ]
 ·simp at a
def avR{i:Nat}{D v:z}(aC:b2 Y D)(a:q2 i D=some v):(Instr.extract (aJ J D) i).run C.P w= .ok (aJ J v) w/\b2 Y v:=by
 unfold q2 at a
 split at a
 ·rename_i bj
  rw[qj]at a
  refine⟨?_,(tI Y bj).1 aC v (Zl a)⟩
  simp[Instr.extract,aJ,pe,a]
 ·simp at a
def Wz{aw:Operand->Value}{d5:Operand->Option z}:∀{k:List (Nat×Operand)}{db:List (Nat×z)},iL J Y aw d5 (k.map (·.2))->wE d5 k=some db->
 k.map (λx=>(x.1,aw x.2))=db.map (λx=>(x.1,aJ J x.2))/\∀x∈db,b2 Y x.2:=by
 intro k
 induction k with
 |nil=>intro db _ a;simp[wE]at a;subst a;simp
 |cons D k ah=>
  intro db cv a
  obtain⟨i,x⟩:=D
  simp only[wE]at a
  cases af:d5 x with
  |none=>simp[af]at a
  |some v=>
   cases az:wE d5 k with
   |none=>simp[af,az]at a
   |some r=>
    simp[af,az]at a;subst a
    obtain⟨D,b⟩:=ah (λe F=>cv e (by simp at F ⊢;exact .inr F)) az
    obtain⟨c,d⟩:=cv x Zs v af
    refine⟨by simp[D,c],λe F=> ?_⟩
    cases F with
    |head=>exact d
    |tail _ F=>exact b e F
def tw(J:cQ)(v:z):(aJ J v).cells=(bP J v.cells).toArray:=by
 cases v<;>simp[aJ,Value.cells,z.cells,bP]
def tx{v:z}(a:b2 Y v):d2 Y v.cells:=by
 cases v with
 |agg cs=>exact a
 |_=>exact⟨a,trivial⟩
def akJ(J:cQ):∀(bj:List z) (cs:List z) (off o:Nat),
 ((bP J bj).zipIdx o).foldl (λ(cs:Array Value) (x:Value×Nat)=>cs.setIfInBounds (off+x.2) x.1) (bP J cs).toArray=(bP J (nk cs (off+o) bj)).toArray:=by
 intro bj
 induction bj with
 |nil=>intro cs off o;rfl
 |cons v bj ah=>
  intro cs off o
  simp only[bP,List.zipIdx_cons,ZL,nk]
  have:(bP J cs).toArray.setIfInBounds (off+o) (aJ J v)=(bP J (cs.set (off+o) v)).toArray:=by
   apply YZ
   simp[pe,List.map_set]
  rw[this,ah]
  rfl
def aly{cs:List z}{i:Nat}{v:z}(a:d2 Y cs)(bt:b2 Y v):d2 Y (cs.set i v):=by
 rw[tI]at a ⊢
 intro x af
 rcases YO af with cu|cu
 ·exact a x cu
 ·rw[cu];exact bt
def alz:∀(bj cs:List z) (V:Nat),d2 Y cs->d2 Y bj->d2 Y (nk cs V bj):=by
 intro bj
 induction bj with
 |nil=>intro cs V a _;exact a
 |cons v bj ah=>intro cs V a bt;exact ah _ _ (aly a bt.1) bt.2
def OW{FC I5:Nat->Option (Nat×Nat)}(av:∀i x,FC i=some x->I5 i=some x):∀(db:List (Nat×z)) (cs r:List z),d2 Y cs->(∀x∈db,b2 Y x.2)->
 yu FC cs db=some r->Instr.fill I5 (bP J cs).toArray (db.map λx=>(x.1,aJ J x.2))=some (bP J r).toArray/\d2 Y r:=by
 intro db
 induction db with
 |nil=>intro cs r a _ ch;simp[yu]at ch;subst ch;exact⟨rfl,a⟩
 |cons p db ah=>
  intro cs r a bX ch
  obtain⟨i,v⟩:=p
  simp only[yu]at ch
  cases rL:FC i with
  |none=>simp[rL]at ch
  |some x=>
   obtain⟨off,size⟩:=x
   simp only[rL,ey,Zn]at ch
   obtain⟨⟨I,M⟩,ch⟩:=ch
   have I:v.cells.length=size:=Zj I
   have M:off+size<=cs.length:=iN M
   have ank:b2 Y v:=bX (i,v) Zs
   obtain⟨D,b⟩:=ah (nk cs off v.cells) r (alz _ _ _ a (tx ank)) (λx af=>bX x (by simp[af])) ch
   refine⟨?_,b⟩
   simp only[ZC,Instr.fill,av _ _ rL,tw]
   have eD:(bP J v.cells).length=size:=by rw[pe,Zr,I]
   have ua:(bP J cs).length=cs.length:=by rw[pe,Zr]
   rw[Zg]
   ·rw[<-D]
    congr 1
    have:=akJ J v.cells cs off 0
    simp
    simpa using this
   ·simp[eD,ua];omega
def atQ{α d8:Type}(P:Program)(w:World)(f:α->Sem d8)(g:α->d8):∀(k:List α),(∀D∈k,(f D).run P w= .ok (g D) w)->(k.mapM f).run P w= .ok (k.map g) w:=by
 intro k
 induction k with
 |nil=>intro _;simp
 |cons D k ah=>intro a;simp[za,a D Zs,ah (λb aj=>a b (by simp[aj]))]
def auW{jq:List Field}{i:Nat}{x:Nat×Nat}(a:SR C jq i=some x):∃f s,jq[i]? =some f/\iK C f.type=some s/\x=(f.offset,s):=by
 unfold SR at a
 rw[qj]at a
 split at a
 ·rename_i f ch
  split at a
  ·rename_i s aD
   simp at a
   exact⟨f,s,ch,aD,a.symm⟩
  ·simp at a
 ·simp at a
def Gv{t:TypeId}{cs:List z}{off:Nat}{v:z}(bX:d2 Y cs)(a:A5 C t cs off=some v):
 (part t (bP J cs).toArray off).run C.P w= .ok (aJ J v) w/\b2 Y v:=by
 unfold A5 at a
 split at a
 ·rename_i s I M
  simp at a;subst a
  constructor
  ·simp only[part,Sem.run_bind,MX I,Result.andThen_ok,ZE,oX M,Sem.run_pure,aJ,pe]
   congr 2
   apply YZ
   simp[List.map_take,List.map_drop,List.take_drop]
  ·simp only[b2]
   rw[tI]at bX ⊢
   exact λx af=>bX x (zb (zc af))
 ·rename_i I
  rw[qj]at a
  constructor
  ·simp[part,MX I,pe,a]
  ·exact(tI Y cs).1 bX v (Zl a)
 ·simp at a
def ahR{t:TypeId}{x i v:z}(af:b2 Y x)(a:JZ C t x i=some v):(Instr.index t (aJ J x) (aJ J i)).run C.P w= .ok (aJ J v) w/\b2 Y v:=by
 unfold JZ at a
 split at a
 ·simp at a
 ·rename_i n aL
  obtain⟨o,rfl⟩:=Cw aL
  split at a
  ·rename_i m dU cs aU
   split at a
   ·rename_i aO ce
    simp only[ey]at a
    obtain⟨I,M⟩:=a
    have cO:=kX I
    obtain⟨ak,aA⟩:=Gv (J:=J) (w:=w) af M
    refine⟨?_,aA⟩
    simp[Instr.index,asIntOf,aJ,run_underlying aU,cO,oX ce,ak]
   ·simp at a
  ·rename_i s aU
   rw[qj]at a
   split at a
   ·rename_i c ay
    simp at a;subst a
    refine⟨?_,trivial⟩
    have aj:(fC s)[n]? =some (UInt8.ofNat c):=by
     show(fC s).data[n]? =_
     simp[fC,ay]
    have cO:c<256:=af c (Zl ay)
    simp[Instr.index,asIntOf,aJ,run_underlying aU,aj,YE cO]
   ·simp at a
  ·simp at a
def ah3{op:UnOp}{x v:z}(a:g7 op x=some v):(Op.unary op (aJ J x)).run C.P w= .ok (aJ J v) w/\b2 Y v:=by
 unfold g7 at a
 split at a
 ·rename_i o n
  simp[kW]at a;subst a
  exact⟨by simp[Op.unary,Op.intArith,aJ],trivial⟩
 ·rename_i o n
  simp[kW]at a;subst a
  exact⟨rfl,trivial⟩
 ·simp at a;subst a;exact⟨rfl,trivial⟩
 ·simp at a
def ar1:∀{k:List Field},Mx C k=true->∀f∈k,∃s,iK C f.type=some s:=by
 intro k
 induction k with
 |nil=>intro _ f ch;simp at ch
 |cons D k ah=>
  intro a f ch
  simp only[Mx,Zn]at a
  cases ch with
  |head=>cases aD:iK C D.type with
   |none=>simp[aD]at a
   |some s=>exact⟨s,rfl⟩
  |tail _ ch=>exact ah a.2 f ch
def ahL{t:TypeId}{db:List (Nat×z)}{v:z}(bX:∀x∈db,b2 Y x.2)(a:JW C t db=some v):
 (Instr.build t ((db.map λx=>(x.1,aJ J x.2)).toArray)).run C.P w= .ok (aJ J v) w/\b2 Y v:=by
 unfold JW at a
 split at a
 ·simp at a
 ·rename_i br ce
  obtain⟨E3,E4⟩:=CU ce J Y w
  split at a
  ·rename_i jq aU
   simp only[ey]at a
   obtain⟨fs,a⟩:=a
   split at a
   ·rename_i cs hA
    simp at a;subst a
    have aX:(jq.mapM λf=>do pure (f.offset, <-sizeOf f.type):Sem (Array (Nat×Nat))).run C.P w= .ok (jq.toList.map λf=>(f.offset,(iK C f.type).getD 0)).toArray w:=by
     rw[Array.mapM_eq_mapM_toList,Sem.run_map,atQ C.P w _ (λf:Field=>(f.offset,(iK C f.type).getD 0)) _ (λf ch=>by
      obtain⟨s,aD⟩:=ar1 fs f ch
      simp[oX aD,aD])]
     rfl
    obtain⟨D,b⟩:=OW (J:=J) (I5:=λi=>((jq.toList.map λf=>(f.offset,(iK C f.type).getD 0)).toArray)[i]?) (λi x af=>by
     obtain⟨f,s,I,M,rfl⟩:=auW af
     simp at I
     simp[I,M]) db br.cells cs (tx E4) bX hA
    refine⟨?_,b⟩
    simp only[Instr.build,Sem.run_bind,E3,Result.andThen_ok,run_underlying aU,aX,tw,D,aJ,Sem.run_pure]
   ·simp at a
  ·rename_i n dU aU
   split at a
   ·rename_i s aD
    split at a
    ·rename_i cs hA
     simp at a;subst a
     obtain⟨D,b⟩:=OW (J:=J) (I5:=λi=>some (i*s,s)) (λ_ _ a=>a) db br.cells cs (tx E4) bX hA
     refine⟨?_,b⟩
     simp[Instr.build,E3,run_underlying aU,oX aD,tw,D,aJ]
    ·simp at a
   ·simp at a
  ·simp at a
end
section
variable{C:aM}{J:cQ}{Y:Nat->Prop}{h:R ag}{j bd:Nat}{w:World}
def act{D b:Nat}(aC:D<256)(aj:b<256)(a:UInt8.ofNat D=UInt8.ofNat b):D=b:=by
 have:=congrArg UInt8.toNat a
 simp at this
 omega
def IV:∀(x e:List Nat),l8 x e=true↔x=e
 |[],[]=>by simp[l8]
 |[],_::_=>by simp[l8]
 |_::_,[]=>by simp[l8]
 |D::x,b::e=>by
  simp only[l8,Zn,IV x e,zk]
  exact⟨λ⟨a,B⟩=>⟨Zj a,B⟩,λ⟨a,B⟩=>⟨by rw[a];exact Y0 _,B⟩⟩
def are:∀{x e:List Nat},(∀D∈x,D<256)->(∀D∈e,D<256)->x.map UInt8.ofNat=e.map UInt8.ofNat->x=e:=by
 intro x
 induction x with
 |nil=>intro e _ _ a;cases e with
  |nil=>rfl
  |cons b e=>simp at a
 |cons D x ah=>
  intro e af F a
  cases e with
  |nil=>simp at a
  |cons b e=>
   simp only[ZC,zk]at a
   rw[act (af D Zs) (F b Zs) a.1,ah (λc ay=>af c (by simp[ay])) (λc ay=>F c (by simp[ay])) a.2]
def Kc(s:List Nat):(fC s).toList=s.map UInt8.ofNat:=by
 rw[ByteArray.toList_eq];simp[fC]
def SQ{x e:List Nat}(af:∀D∈x,D<256)(F:∀D∈e,D<256):((fC x).toList==(fC e).toList)=l8 x e:=by
 rw[Z7,IV,Y1,Kc,Kc]
 exact⟨are af F,λa=>by rw[a]⟩
def adz:∀{x e:List Nat},(∀D∈x,D<256)->(∀D∈e,D<256)->Op.bytesLess (x.map UInt8.ofNat) (e.map UInt8.ofNat)=An x e
 |[],[],_,_=>rfl
 |[],_::_,_,_=>rfl
 |_::_,[],_,_=>rfl
 |D::x,b::e,af,F=>by
  have aC:=af D Zs
  have aj:=F b Zs
  have ah:=adz (λc ay=>af c (Zt _ ay)) (λc ay=>F c (Zt _ ay))
  simp only[ZC,Op.bytesLess,An,ah]
  have bA:decide (UInt8.ofNat D<UInt8.ofNat b)=Nat.blt D b:=by
   rw[Z7,Zh,UInt8.lt_iff_toNat_lt]
   simp[Nat.blt,YE aC,YE aj];omega
  have cg:(UInt8.ofNat D==UInt8.ofNat b)=Nat.beq D b:=by
   rw[Z7,Y1]
   exact⟨λa=>by rw[act aC aj a];exact Y0 _,λa=>by rw[Zj a]⟩
  rw[bA,cg]
def MK(U:c9 C J Y h j bd w){b V:Nat}(aj:Y b)(a:Fj C h b V=true):
 ∃c n st b7 ty bL aE,Z C h b=some (.cells c n st)/\V<n/\w.heap[(J b).cz]? =some (.cells b7 ty (bL,aE))/\DG st n (J b) b7.size bL aE/\(J b).dO+n<=b7.size/\st≠ .jA:=by
 unfold Fj at a
 split at a
 ·simp at a
 ·rename_i c n st jf bb
  obtain⟨b7,ty,bL,aE,I,M,ak,_⟩:=U.obj b _ bb aj
  exact⟨c,n,st,b7,ty,bL,aE,bb,kX (by simpa using a),I,M,ak,λB=>(by subst B;first|exact jf _ bb|exact jf _ rfl|exact jf rfl|exact jf bb|simp_all)⟩
 ·simp at a
def acB{b V:Nat}(a:ME C h b V=true):Fj C h b V=true/\C.a6<=b/\∃c n,Z C h b=some (.cells c n .own):=by
 unfold ME at a
 unfold Fj
 split at a
 ·rename_i c n bb
  simp only[bb,Zn]at a ⊢
  exact⟨a.2,iN a.1,c,n,rfl⟩
 ·simp at a
def St{r:Nat}{b7:Array Value}{ty:TypeId}{f:Nat×Nat}(a:w.heap[r]? =some (.cells b7 ty f)):w.shape? r=some (ty,b7.size):=by
 simp[World.shape?,a]
def adi{P:Program}{p al:Nat}{x e:Nat}{bm ct:Array Value}{t1 eY:TypeId}{ea I c4 M:Nat}(c5:p≠al)
 (bA:w.heap[p]? =some (.cells bm t1 (ea,I)))(cg:w.heap[al]? =some (.cells ct eY (c4,M)))(ez:I<=ea)(la:x<bm.size)(jk:e<ct.size)(e5:M<=c4\/ct.size<=c4):
 (sameAddr ⟨p,x,none⟩ ⟨al,e,none⟩).run P w= .ok false w/\(sameAddr ⟨al,e,none⟩ ⟨p,x,none⟩).run P w= .ok false w:=by
 have cb:w.frozen? ⟨p,x,none⟩=false:=by simp[World.frozen?,bA];omega
 have b5:w.frozen? ⟨al,e,none⟩=false:=by simp[World.frozen?,cg];omega
 have cG:w.frozen? ⟨p,bm.size,none⟩=false:=by simp[World.frozen?,bA];omega
 have iX:=St bA
 have k5:=St cg
 have g4:bm.size≠0:=Zo
 have gK:ct.size≠0:=Zo
 have aap:al≠p:=λB=>c5 B.symm
 constructor
 ·simp[sameAddr,c5,cb,b5,cG,noView,viewAt,iX,k5,mayBeOne,stringish,gK]
 ·simp[sameAddr,aap,cb,b5,cG,noView,viewAt,iX,k5,mayBeOne,stringish,g4,gK]
def asQ(U:c9 C J Y h j bd w){b V dT o':Nat}{r:Bool}(aj:Y b)(jb:Y dT)(a:ptrEq C h b V dT o'=some r):
 (sameAddr ⟨(J b).cz,(J b).dO+V,none⟩ ⟨(J dT).cz,(J dT).dO+o',none⟩).run C.P w= .ok r w:=by
 unfold ptrEq at a
 rw[hw]at a
 split at a
 ·rename_i B
  subst B
  simp at a;subst a
  simp only[sameAddr,YF,ZE,Sem.run_pure]
  congr 1
  rw[Z7,Y1]
  constructor
  ·intro a;simp at a;rw[a];exact Y0 _
  ·intro a;rw[Zj a]
 ·rename_i c5
  simp only[ey,zl,Zn,Ze]at a
  obtain⟨a,rfl⟩:=a
  rcases a with ⟨I,M⟩|⟨I,M⟩
  ·obtain⟨ak,aA,c,n,bq⟩:=acB I
   obtain⟨dv,aP,SK,bm,t1,ea,uC,bA,la,F1,g4,bM,_⟩:=MK U aj ak
   obtain⟨dK,bk,auv,ct,eY,c4,FW,cg,jk,F2,gK,cq,R1⟩:=MK U jb M
   have cK:SK= .own:=by rw[bq]at bA;cases bA;rfl
   subst cK
   have PW:(J b).cz≠(J dT).cz:=by
    intro B
    rcases(U.sep b dT _ _ bA cg aj jb c5 aA B).1 with ⟨_,_,_,_,al,_⟩|⟨_,_,_,_,_,al,_⟩|⟨_,_,_,_,_,_,al,_⟩<;>cases al
   exact(adi PW F1 F2 (zd g4.symm) Zo Zo (gK.free R1)).1
  ·obtain⟨ak,aA,c,n,bq⟩:=acB I
   obtain⟨dv,aP,SK,bm,t1,ea,uC,bA,la,F1,g4,bM,_⟩:=MK U jb ak
   obtain⟨dK,bk,auv,ct,eY,c4,FW,cg,jk,F2,gK,cq,R1⟩:=MK U aj M
   have cK:SK= .own:=by rw[bq]at bA;cases bA;rfl
   subst cK
   have PW:(J dT).cz≠(J b).cz:=by
    intro B
    rcases(U.sep dT b _ _ bA cg jb aj (λal=>c5 al.symm) aA B).1 with ⟨_,_,_,_,al,_⟩|⟨_,_,_,_,_,al,_⟩|⟨_,_,_,_,_,_,al,_⟩<;>cases al
   exact(adi PW F1 F2 (zd g4.symm) Zo Zo (gK.free R1)).2
def ahO{eq:Nat->z->z->Option Bool}{d:Nat}(fp:∀t x e r,b2 Y x->b2 Y e->eq t x e=some r->(Op.equalIn d t (aJ J x) (aJ J e)).run C.P w= .ok r w):
 ∀(jE:List Field) (b9 pN:List z) (r:Bool),d2 Y b9->d2 Y pN->Gt C eq jE b9 pN=some r->(Op.eqFields d (bP J b9).toArray (bP J pN).toArray jE).run C.P w= .ok r w:=by
 intro jE
 induction jE with
 |nil=>intro b9 pN r _ _ a;simp[Gt]at a;subst a;simp[Op.eqFields]
 |cons f jE ah=>
  intro b9 pN r af F a
  simp only[Gt,DZ,beq_eq_false_iff_ne]at a
  obtain⟨aL,a⟩:=a
  split at a
  ·rename_i D b aC aj
   obtain⟨bm,ct⟩:=Gv (J:=J) (w:=w) af aC
   obtain⟨b0,cy⟩:=Gv (J:=J) (w:=w) F aj
   split at a
   ·rename_i B
    simp only[Op.eqFields,aL,ne_eq,ZI,ZE,Sem.run_bind,bm,b0,fp _ _ _ _ ct cy B,Result.andThen_ok,Ys,Zu,ZD]
    exact ah b9 pN r af F a
   ·rename_i B
    simp at a;subst a
    simp only[Op.eqFields,aL,ne_eq,ZI,ZE,Sem.run_bind,bm,b0,fp _ _ _ _ ct cy B,Result.andThen_ok,Yt,Sem.run_pure]
   ·simp at a
  ·simp at a
def NZ(U:c9 C J Y h j bd w):∀(d kZ:Nat) (t:Nat) (x e:z) (r:Bool),d<=kZ->b2 Y x->b2 Y e->lE C h d t x e=some r->
 (Op.equalIn kZ t (aJ J x) (aJ J e)).run C.P w= .ok r w:=by
 intro d
 induction d with
 |zero=>intro kZ t x e r _ _ _ a;simp[lE]at a
 |succ d ah=>
  intro kZ t x e r aI fe tL a
  obtain⟨kZ,rfl⟩:∃B,kZ=B+1:=⟨kZ-1,Zo⟩
  unfold lE at a
  split at a
  ·rename_i aU;simp at a;subst a;simp[Op.equalIn,run_underlying aU,aJ]
  ·rename_i aU;simp at a;obtain⟨rfl,rfl⟩:=a;simp[Op.equalIn,run_underlying aU,aJ];rfl
  ·rename_i D b aU
   simp at a;subst a
   rw[aJ,aJ,run_equalIn_string w kZ t _ _ aU,SQ fe tL]
  ·rename_i aU;simp at a;subst a;simp[Op.equalIn,run_underlying aU,aJ]
  ·rename_i aU;simp at a;subst a;simp[Op.equalIn,run_underlying aU,aJ]
  ·rename_i aU;simp at a;subst a;simp[Op.equalIn,run_underlying aU,aJ]
  ·rename_i B b V dT o' aU
   split at a
   ·rename_i s aD
    rw[hw]at a
    split at a
    ·simp at a
    ·rename_i LO
     have:=asQ U fe tL a
     simp[Op.equalIn,run_underlying aU,aJ,oX aD,LO,this]
   ·simp at a
  ·rename_i aU;simp at a;subst a;simp[Op.equalIn,run_underlying aU,aJ]
  ·rename_i aU;simp at a;subst a;simp[Op.equalIn,run_underlying aU,aJ]
  ·rename_i aU;simp at a;subst a;simp[Op.equalIn,run_underlying aU,aJ]
  ·rename_i Js Na ty Nb aU
   rw[hw]at a
   split at a
   ·rename_i B
    subst B
    split at a
    ·rename_i i aE
     simp only[ey]at a
     obtain⟨ay,a⟩:=a
     have:=ah kZ Js Na Nb r Zo fe tL a
     simp[Op.equalIn,run_underlying aU,aJ,typeInfo,aE,ay,this]
    ·simp at a
   ·rename_i B
    simp at a;subst a
    simp[Op.equalIn,run_underlying aU,aJ,B]
  all_goals first
   |(rename_i aU;simp at a;subst a;simp[Op.equalIn,run_underlying aU,aJ];done)
   |skip
  ·rename_i jq b9 pN aU
   simp only[DZ]at a
   obtain⟨av,a⟩:=a
   have ch:C.P.fieldsOf t=jq:=by simp[Program.fieldsOf,aU]
   rw[aJ,aJ,run_equalIn_struct w kZ t _ _ (by rw[ch];exact aU) av,ch]
   exact ahO (λt x e r fe tL a=>ah kZ t x e r Zo fe tL a) _ _ _ _ fe tL a
  ·simp at a
end
section
variable{C:aM}{J:cQ}{Y:Nat->Prop}{h:R ag}{j bd:Nat}{w:World}
def binOp_eql{t:TypeId}{X nv:Value}(I:∀o D eE b,¬(X= .int o D/\nv= .int eE b))(M:∀D b,¬(X= .string D/\nv= .string b))
 (ak:∀o D,X≠ .float o D)(aA:∀o D b,X≠ .complex o D b):binOp .eql t X nv=(do pure (.bool (<-Op.equal t X nv)))/\binOp .neq t X nv=(do pure (.bool (!(<-Op.equal t X nv)))):=by
 constructor
 ·unfold binOp
  split
  all_goals first
   |rfl
   |exact absurd ⟨rfl,rfl⟩ (I _ _ _ _)
   |exact absurd ⟨rfl,rfl⟩ (M _ _)
   |exact absurd rfl (ak _ _)
   |exact absurd rfl (aA _ _ _)
   |simp_all
 ·unfold binOp
  split
  all_goals first
   |rfl
   |exact absurd ⟨rfl,rfl⟩ (I _ _ _ _)
   |exact absurd ⟨rfl,rfl⟩ (M _ _)
   |exact absurd rfl (ak _ _)
   |exact absurd rfl (aA _ _ _)
   |simp_all
def V1(J:cQ)(v:z):(∀o D,aJ J v≠ .float o D)/\∀o D b,aJ J v≠ .complex o D b:=by
 cases v<;>simp[aJ]
def aj3{m:Nat}{t:TypeId}{hW:Array (String×TypeId)}(aU:C.P.underlying t=some (.interface hW))(bl:hW.isEmpty=true):(Op.eqGuardIn (m+1) t .nilIface .nilIface).run C.P w= .ok false w:=by
 simp[Op.eqGuardIn,run_underlying aU,bl]
def aj4{op:BinOp}{t:TypeId}{x e:Operand}{X nv:Value}(a:(qg x||qg e)=true)(M:∀c d,¬(X= .agg c/\nv= .agg d)):
 (eqGuard op t x e X nv).run C.P w= .ok () w:=by
 cases op<;>first|rfl|(cases x<;>cases e<;>first|(simp[qg]at a;done)|(cases X<;>cases nv<;>first|rfl|exact absurd ⟨rfl,rfl⟩ (M _ _)))
def aj5{op:BinOp}{t:TypeId}{x e:Operand}{hW:Array (String×TypeId)}(aU:C.P.underlying t=some (.interface hW))(bl:hW.isEmpty=true):
 (eqGuard op t x e .nilIface .nilIface).run C.P w= .ok () w:=by
 have key:=aj3 (C:=C) (w:=w) (m:=9999) aU bl
 have I:Op.maxDepth=9999+1:=rfl
 cases op<;>first|rfl|(cases x<;>cases e<;>first|rfl|(simp[eqGuard,I,key];done))
def aj6{op:BinOp}{t:TypeId}{x e:Operand}(a:(qg x||qg e||(match C.P.underlying t with|some (.interface hW)=>hW.isEmpty|_=>false))=true):
 (eqGuard op t x e .nilIface .nilIface).run C.P w= .ok () w:=by
 by_cases ay:(qg x||qg e)=true
 ·exact aj4 ay Zs
 ·have ay:(qg x||qg e)=false:=by simpa using ay
  rw[ay,Bool.false_or]at a
  split at a
  ·rename_i hW aU
   exact aj5 aU a
  ·simp at a
def aj7{op:BinOp}{t:TypeId}{x e:Operand}{X nv:Value}(I:¬(X= .nilIface/\nv= .nilIface))(M:∀c d,¬(X= .agg c/\nv= .agg d)):
 (eqGuard op t x e X nv).run C.P w= .ok () w:=by
 cases op<;>first|rfl|(cases X<;>cases nv<;>first|rfl|exact absurd ⟨rfl,rfl⟩ I|exact absurd ⟨rfl,rfl⟩ (M _ _))
def KC{op:BinOp}{t:TypeId}{x e:Operand}{D b:z}(a:D7 C t (qg x||qg e) D b=true):
 (eqGuard op t x e (aJ J D) (aJ J b)).run C.P w= .ok () w:=by
 unfold D7 at a
 split at a
 ·exact aj6 a
 ·simp only[aJ]
  exact run_eqGuard_agg w op t x e _ _ (by simpa using a)
 ·rename_i aP bk
  refine aj7 ?_ ?_
  ·rintro⟨I,M⟩
   cases D<;>simp[aJ]at I
   cases b<;>simp[aJ]at M
   exact aP rfl rfl
  ·rintro c d ⟨I,M⟩
   cases D<;>simp[aJ]at I
   cases b<;>simp[aJ]at M
   exact bk _ _ rfl rfl
def ah1{op:BinOp}{x e:List Nat}{v:z}(af:∀D∈x,D<256)(F:∀D∈e,D<256)(a:wl op x e=some v):
 (Op.stringOp op (fC x) (fC e)).run C.P w= .ok (aJ J v) w/\b2 Y v:=by
 have bA:=SQ af F
 have cg:Op.bytesLess (fC x).toList (fC e).toList=An x e:=by rw[Kc,Kc];exact adz af F
 cases op<;>simp only[wl,uR,ey,Ze]at a<;>
  first
  |(
    obtain⟨I,rfl⟩:=a
    constructor
    ·have aD:(fC x).size=x.length:=by simp[fC,ByteArray.size]
     have uf:(fC e).size=e.length:=by simp[fC,ByteArray.size]
     have f8:=iN I
     simp only[Op.stringOp,aD,uf]
     rw[Zg (by simp[IntKind.max,IntKind.signed,IntKind.bits];omega)]
     simp only[Sem.run_pure,aJ]
     congr 2
     apply ByteArray.ext
     simp[fC]
    ·simp only[b2]
     intro br ce
     rcases Zy.1 ce with a|a
     ·exact af br a
     ·exact F br a)
  |(subst a;exact⟨by simp only[Op.stringOp,bA,cg,Sem.run_pure,aJ],trivial⟩)
  |(simp at a)
def aqg(U:c9 C J Y h j bd w){op:BinOp}{t:Nat}{x e:Operand}{aw:Operand->Value}{d5:Operand->Option z}{v:z}(cv:iL J Y aw d5 [x,e])
 (a:Mb C op t x e h d5=some v):(do eqGuard op t x e (aw x) (aw e);binOp op t (aw x) (aw e):Sem Value).run C.P w= .ok (aJ J v) w/\b2 Y v:=by
 unfold Mb at a
 split at a
 ·rename_i D b aC aj
  obtain⟨ajO,ja⟩:=cv x Zs D aC
  obtain⟨ke,tG⟩:=cv e Zs b aj
  rw[ajO,ke]
  unfold dc at a
  split at a
  ·rename_i o i eE W
   obtain⟨I,M,_⟩:=Vj (C:=C) (J:=J) (Y:=Y) (w:=w) t a
   refine⟨?_,M⟩
   rw[Sem.run_bind,KC (by simp[D7])]
   exact I
  ·rename_i s eP
   obtain⟨I,M⟩:=ah1 (C:=C) (J:=J) (Y:=Y) (w:=w) ja tG a
   refine⟨?_,M⟩
   rw[Sem.run_bind,KC (by simp[D7])]
   simp only[Result.andThen_ok,aJ,binOp]
   exact I
  ·rename_i arD lB
   simp only[ey]at a
   obtain⟨fs,a⟩:=a
   have bJ:∀r,lE C h 50 t D b=some r->(Op.equal t (aJ J D) (aJ J b)).run C.P w= .ok r w:=λr kN=>NZ U 50 _ t D b r Zd ja tG kN
   have nI:∀o br eE JC,¬(aJ J D= .int o br/\aJ J b= .int eE JC):=by
    intro o br eE JC ⟨I,M⟩
    cases D<;>simp[aJ]at I
    cases b<;>simp[aJ]at M
    exact arD _ _ _ _ rfl rfl
   have m3:∀br JC,¬(aJ J D= .string br/\aJ J b= .string JC):=by
    intro br JC ⟨I,M⟩
    cases D<;>simp[aJ]at I
    cases b<;>simp[aJ]at M
    exact lB _ _ rfl rfl
   obtain⟨cH,cB⟩:=binOp_eql (t:=t) nI m3 (V1 J D).1 (V1 J D).2
   rw[Sem.run_bind,KC fs]
   split at a
   ·split at a
    ·rename_i r kN
     simp at a;subst a
     exact⟨by simp[cH,bJ r kN,aJ],trivial⟩
    ·simp at a
   ·split at a
    ·rename_i r kN
     simp at a;subst a
     exact⟨by simp[cB,bJ r kN,aJ],trivial⟩
    ·simp at a
   ·simp at a
 ·simp at a
end
section
variable{C:aM}{J:cQ}{Y:Nat->Prop}{h:R ag}{j bd:Nat}{w:World}
def ahN{s d:Nat}{x v:z}(af:b2 Y x)(a:NY C s d x=some v):(convert s d (aJ J x)).run C.P w= .ok (aJ J v) w/\b2 Y v:=by
 unfold NY at a
 split at a
 ·rename_i mf o dY n Il Ik
  simp at a;subst a
  simp[convert,run_underlying Il,run_underlying Ik,Conv.intToInt,aJ,b2]
 ·rename_i mf s Il Ik
  simp at a;subst a
  refine⟨?_,af⟩
  simp[convert,run_underlying Il,run_underlying Ik,aJ]
 ·simp at a
def aiS:∀{k:List z}{s:List Nat},wu k=some s->∃lB:List Nat,k=lB.map (λn=>z.int .u8 (Int.ofNat n))/\s=lB.map (·%256):=by
 intro k
 induction k with
 |nil=>intro s a;simp[wu]at a;subst a;exact⟨[],rfl,rfl⟩
 |cons D k ah=>
  intro s a
  unfold wu at a
  split at a
  ·rename_i gd;simp at gd
  ·rename_i n b6 fp
   simp only[zk]at fp
   obtain⟨rfl,rfl⟩:=fp
   split at a
   ·rename_i r U
    simp at a;subst a
    obtain⟨lB,I,M⟩:=ah U
    exact⟨n::lB,by simp[I],by simp[M]⟩
   ·simp at a
  ·simp at a
def akI(lB:List Nat):∀r:ByteArray,(lB.map Int.ofNat).foldl (λr (n:Int)=>r.push (UInt8.ofNat n.toNat)) r=⟨r.data++(lB.map UInt8.ofNat).toArray⟩:=by
 induction lB with
 |nil=>intro r;simp
 |cons n lB ah=>
  intro r
  simp only[ZC,ZL,ah]
  congr 1
  apply YZ
  simp[ByteArray.push]
def DY(U:c9 C J Y h j bd w){b V n:Nat}{k:List z}(aj:Y b)(a:mo C h b V n=some k):
 (loadCells ⟨(J b).cz,(J b).dO+V,none⟩ n).run C.P w= .ok (bP J k).toArray w/\d2 Y k:=by
 unfold mo at a
 split at a
 ·rename_i c ay;exact Ki U aj ay a
 ·simp only[ey,Ze]at a
  obtain⟨I,rfl⟩:=a
  have:n=0:=Zj I
  subst this
  refine⟨?_,trivial⟩
  have az:=run_loadCells_list (P:=C.P) w ⟨(J b).cz,(J b).dO+V,none⟩ [] (λW v bt=>by simp at bt)
  simpa[bP]using az
def adH(U:c9 C J Y h j bd w){b V n cap:Nat}{k:List z}{s:List Nat}(aj:Y b)(a:mo C h b V n=some k)(aD:wu k=some s):
 (Conv.bytesToString (.slice (some ⟨(J b).cz,(J b).dO+V,none⟩) n cap)).run C.P w= .ok (aJ J (.str s)) w/\b2 Y (.str s):=by
 obtain⟨I,_⟩:=DY U aj a
 obtain⟨lB,rfl,rfl⟩:=aiS aD
 have M:=run_bytesToString (P:=C.P) w ⟨(J b).cz,(J b).dO+V,none⟩ n cap (lB.map Int.ofNat) (by
  rw[I];congr 2
  rw[pe,Yk,Yk];rfl)
 constructor
 ·rw[M,akI]
  congr 2
  simp only[fC,Yk]
  congr 1
  apply YZ
  simp
  intro D _
  exact UInt8.toNat_inj.1 Zs
 ·simp only[b2]
  intro x af
  obtain⟨e,_,rfl⟩:=ZK.1 af
  exact Nat.mod_lt _ Zd
def ah2(U:c9 C J Y h j bd w){x v:z}(af:b2 Y x)(a:DM C h x=some v):(Conv.bytesToString (aJ J x)).run C.P w= .ok (aJ J v) w/\b2 Y v/\∃D k c,aJ J x= .slice D k c:=by
 unfold DM at a
 split at a
 ·simp at a;subst a;exact⟨rfl,by simp[b2],_,_,_,rfl⟩
 ·split at a
  ·rename_i k az
   split at a
   ·rename_i s aD
    simp at a;subst a
    obtain⟨I,M⟩:=adH U af az aD
    exact⟨I,M,_,_,_,rfl⟩
   ·simp at a
  ·simp at a
 ·split at a
  ·rename_i k az
   split at a
   ·rename_i s aD
    simp at a;subst a
    obtain⟨I,M⟩:=adH U af az aD
    exact⟨I,M,_,_,_,rfl⟩
   ·simp at a
  ·simp at a
 ·simp at a
def aqh(U:c9 C J Y h j bd w){s d:Nat}{x:Operand}{aw:Operand->Value}{d5:Operand->Option z}{v:z}(cv:iL J Y aw d5 [x])
 (a:IC C s d x h d5=some v):(convert s d (aw x)).run C.P w= .ok (aJ J v) w/\b2 Y v:=by
 unfold IC at a
 split at a
 ·rename_i D aC
  obtain⟨B,g⟩:=cv x Zs D aC
  rw[B]
  split at a
  ·rename_i aa aU
   simp at a;subst a
   exact ahN g aU
  ·split at a
   ·rename_i sw Il Ik
    split at a
    ·rename_i bl
     obtain⟨I,M,fK,k,c,ak⟩:=ah2 U g a
     refine⟨?_,M⟩
     rw[ak]at I ⊢
     rw[run_convert_bytes_string w s d sw fK k c Il bl Ik]
     exact I
    ·simp at a
   ·simp at a
 ·simp at a
def Cm{V:Option z}{m d r:Nat}(a:qh V m d=some r):(V=none/\r=d)\/∃o,V=some (.int o (Int.ofNat r))/\r<=m:=by
 unfold qh at a
 split at a
 ·rename_i v
  split at a
  ·rename_i n aL
   simp only[ey,Ze]at a
   obtain⟨I,rfl⟩:=a
   obtain⟨o,rfl⟩:=Cw aL
   exact .inr ⟨o,rfl,iN I⟩
  ·simp at a
 ·simp at a;exact .inl ⟨rfl,a.symm⟩
def run_sliceBound{P:Program}{o:IntKind}{n e:Nat}{code:BoundsCode}(a:n<=e):(Instr.sliceBound (.int o (Int.ofNat n)) e code).run P w= .ok n w:=by
 have I:(0:Int)<=Int.ofNat n/\Int.ofNat n<=(e:Int):=⟨Int.natCast_nonneg n,Int.ofNat_le.2 a⟩
 simp only[Instr.sliceBound,asIntOf,Sem.run_bind,Sem.run_pure,Result.andThen_ok]
 rw[Zp I]
 rfl
def GF{E8:Bool}{len cap Kg:Nat}{bL aE gR:Option z}{k a m:Nat}(ay:cap<=Kg)(aj:nw len cap bL aE gR=some (k,a,m)):
 (Instr.sliceBounds E8 len Kg (bL.map (aJ J)) (aE.map (aJ J)) (gR.map (aJ J))).run C.P w= .ok (k,a,if gR.isSome then m else Kg) w/\k<=a/\(gR=none->m=cap)/\m<=cap/\(a<=m\/a=len):=by
 unfold nw at aj
 split at aj
 ·simp at aj
 ·rename_i eH aX
  split at aj
  ·simp at aj
  ·rename_i cu gd
   split at aj
   ·simp at aj
   ·rename_i b6 az
    simp at aj
    obtain⟨rfl,rfl,rfl⟩:=aj
    have HX:b6<=cu:=by
     rcases Cm az with ⟨_,rfl⟩|⟨o,_,f8⟩
     ·exact zu _
     ·exact f8
    cases gR with
    |none=>
     have l0:eH=cap:=by simpa[qh]using aX.symm
     subst l0
     have Lj:qh aE eH len=some cu:=by cases aE<;>exact gd
     refine⟨?_,HX,λ_=>rfl,Zi _,(Cm Lj).elim (λa=> .inr a.2) (λ⟨_,_,a⟩=> .inl a)⟩
     rcases Cm Lj with ⟨rfl,rfl⟩|⟨o,rfl,f8⟩<;>rcases Cm az with ⟨rfl,rfl⟩|⟨cq,rfl,gP⟩
     ·simp[Instr.sliceBounds]
     ·simp only[Instr.sliceBounds,Y3,ZR,aJ,Sem.run_bind,Sem.run_pure,Result.andThen_ok,run_sliceBound gP,ZX,Zu,ZD]
     ·simp only[Instr.sliceBounds,Y3,ZR,aJ,Sem.run_bind,Sem.run_pure,Result.andThen_ok,run_sliceBound (ZA f8 ay),ZX,Zu,ZD]
     ·simp only[Instr.sliceBounds,Y3,ZR,aJ,Sem.run_bind,Sem.run_pure,Result.andThen_ok,run_sliceBound (ZA f8 ay),run_sliceBound gP,ZX,Zu,ZD]
    |some ars=>
     rcases Cm aX with ⟨a2,_⟩|⟨o,a2,f8⟩
     ·cases a2
     ·cases a2
      cases aE with
      |none=>simp at gd
      |some bt=>
       have Lj:qh (some bt) eH len=some cu:=gd
       rcases Cm Lj with ⟨a2,_⟩|⟨eE,a2,HW⟩
       ·cases a2
       ·cases a2
        refine⟨?_,HX,(λa=>by cases a),f8, .inl HW⟩
        rcases Cm az with ⟨rfl,rfl⟩|⟨cq,rfl,gP⟩
        ·simp only[Instr.sliceBounds,Y3,ZR,aJ,Sem.run_bind,Sem.run_pure,Result.andThen_ok,run_sliceBound (ZA f8 ay),run_sliceBound HW,Z5,ZE]
        ·simp only[Instr.sliceBounds,ZR,aJ,Sem.run_bind,Sem.run_pure,Result.andThen_ok,run_sliceBound (ZA f8 ay),run_sliceBound HW,run_sliceBound gP,Z5,ZE]
end
section
variable{C:aM}{J:cQ}{Y:Nat->Prop}{h:R ag}{j bd:Nat}{w:World}
def ai9(m k V aO:Nat):bK (Nat.beq m k) V (V+k*aO)=if m=k then V else V+k*aO:=hw _ _ _ _
def ado(U:c9 C J Y h j bd w){b n:Nat}(aj:Y b)(a:xJ C h b=some n):n<=(J b).room:=by
 unfold xJ at a
 split at a
 ·rename_i c m eb bb
  simp at a;subst a
  obtain⟨b7,ty,bL,aE,_,M,_,_⟩:=U.obj b _ bb aj
  exact M.2.1
 ·rename_i c m bb
  simp at a;subst a
  obtain⟨b7,ty,bL,aE,_,M,_,_⟩:=U.obj b _ bb aj
  exact M.2.1
 ·simp at a
def SH{b V k a m aO:Nat}:Value.slice (some (if m=k then(⟨(J b).cz,(J b).dO+V,none⟩:Addr)else(⟨(J b).cz,(J b).dO+V,none⟩:Addr).add (k*aO))) (a-k) (m-k)
 =aJ J (.slice b (bK (Nat.beq m k) V (V+k*aO)) (a-k) (m-k)):=by
 rw[ai9]
 simp only[aJ,qA]
 split
 ·rfl
 ·rw[Z0]
def ah0(U:c9 C J Y h j bd w){t:Nat}{x v:z}{bL aE gR:Option z}(af:b2 Y x)(a:J2 C h t x bL aE gR=some v):
 (Instr.sliceAt t (aJ J x) (bL.map (aJ J)) (aE.map (aJ J)) (gR.map (aJ J))).run C.P w= .ok (aJ J v) w/\b2 Y v:=by
 unfold J2 at a
 split at a
 ·rename_i s aU
  cases gR with
  |some _=>simp at a
  |none=>
   simp only at a
   split at a
   ·rename_i k cu m aj
    simp at a;subst a
    obtain⟨I,M,_⟩:=GF (C:=C) (J:=J) (w:=w) (E8:=false) (Zi _) aj
    have d9:(fC s).size=s.length:=by simp[fC,ByteArray.size]
    constructor
    ·simp only[Y3,ZX,Zu,ZD]at I
     simp[Instr.sliceAt,run_underlying aU,Instr.slice,aJ,d9,I]
     apply ByteArray.ext
     rw[ByteArray.data_extract]
     apply YZ
     simp[fC,List.map_take,List.map_drop,List.take_drop]
    ·simp only[b2]at af ⊢
     intro br ce
     exact af br (zb (zc ce))
   ·simp at a
 ·rename_i dU b V len cap aU
  split at a
  ·rename_i k cu m aO aj d9
   simp at a;subst a
   obtain⟨I,M,ak,_⟩:=GF (C:=C) (J:=J) (w:=w) (E8:=true) (Zi cap) aj
   have aX:(if gR.isSome=true then m else cap)=m:=by cases gR with
    |none=>simp[ak rfl]
    |some _=>rfl
   rw[aX]at I
   refine⟨?_,af⟩
   have:=SH (J:=J) (b:=b) (V:=V) (k:=k) (a:=cu) (m:=m) (aO:=aO)
   simp only[Instr.sliceAt,Sem.run_bind,run_underlying aU,Result.andThen_ok,Instr.slice,aJ,I,oX d9,Sem.run_pure]
   rw[<-aJ, <-this]
   split<;>rfl
  ·simp at a
 ·rename_i dU aU
  split at a
  ·rename_i r aO aj d9
   obtain⟨k,cu,m⟩:=r
   simp at a;subst a
   obtain⟨I,M,ak,aA,bq⟩:=GF (C:=C) (J:=J) (w:=w) (E8:=true) (Zi 0) aj
   have aX:m=0:=Zo
   have gd:cu=0:=Zo
   have az:k=0:=Zo
   subst aX;subst gd;subst az
   refine⟨?_,trivial⟩
   have sE:(Instr.sliceBounds true 0 0 (bL.map (aJ J)) (aE.map (aJ J)) (gR.map (aJ J))).run C.P w= .ok (0,0,0) w:=by rw[I];split<;>rfl
   simp[Instr.sliceAt,run_underlying aU,Instr.slice,aJ,sE,oX d9]
  ·simp at a
 ·rename_i dU b V len aO aU
  split at a
  ·rename_i vW n d9 aL
   simp only[ey,Zn]at a
   obtain⟨⟨kh,oF⟩,a⟩:=a
   have kh:aO=vW:=Zj kh
   subst kh
   have oF:0<aO:=kX oF
   have aoF:=ado U af aL
   have lY:(n-V)/aO<=((J b).room-V)/aO:=Nat.div_le_div_right Zo
   split at a
   ·rename_i k cu m aj
    obtain⟨I,M,ak,_⟩:=GF (C:=C) (J:=J) (w:=w) (E8:=true) lY aj
    cases gR with
    |some ars=>
     simp at a;subst a
     refine⟨?_,af⟩
     have:=SH (J:=J) (b:=b) (V:=V) (k:=k) (a:=cu) (m:=m) (aO:=aO)
     simp only[Z5,ZE]at I
     simp only[Instr.sliceAt,Sem.run_bind,run_underlying aU,Result.andThen_ok,Instr.slice,aJ,I,oX d9,Sem.run_pure]
     rw[<-aJ, <-this]
     split<;>rfl
    |none=>
     simp only[ey,Ze,zl]at a
     obtain⟨az,rfl⟩:=a
     refine⟨?_,af⟩
     simp only[ZX,Zu,ZD]at I
     simp only[Instr.sliceAt,Sem.run_bind,run_underlying aU,Result.andThen_ok,Instr.slice,aJ,I,oX d9,Sem.run_pure]
     have cg:((J b).room-(V+k*aO))/aO=((J b).room-V)/aO-k:=by
      rw[<-Nat.sub_sub,zv k aO,Nat.sub_mul_div]
     rw[cg]
     congr 1
     congr 1
     rcases az with az|az
     ·have az:=kX az
      rw[Zg Zo,ZR,qA,Z0]
     ·have az:k=0:=Zj az
      subst az
      split<;>simp[qA]
   ·simp at a
  ·simp at a
 ·rename_i n dU b V aU
  split at a
  ·rename_i k cu m aO aj d9
   simp at a;subst a
   obtain⟨I,M,ak,_⟩:=GF (C:=C) (J:=J) (w:=w) (E8:=false) (Zi n) aj
   have aX:(if gR.isSome=true then m else n)=m:=by cases gR with
    |none=>simp[ak rfl]
    |some _=>rfl
   rw[aX]at I
   refine⟨?_,af⟩
   have:=SH (J:=J) (b:=b) (V:=V) (k:=k) (a:=cu) (m:=m) (aO:=aO)
   simp only[Instr.sliceAt,Sem.run_bind,run_underlying aU,Result.andThen_ok,Instr.sureAddr,aJ,I,oX d9,Sem.run_pure]
   rw[<-aJ, <-this]
  ·simp at a
 ·simp at a
end
section
variable{C:aM}{J:cQ}{Y:Nat->Prop}{h:R ag}{j bd:Nat}{w:World}
def atP{α:Type}{P:Program}(f:α->PUnit->Sem (ForInStep PUnit)):∀(k:List α),(∀D∈k,(f D ⟨⟩).run P w= .ok (.yield ⟨⟩) w)->(forIn k PUnit.unit f).run P w= .ok ⟨⟩ w:=by
 intro k
 induction k with
 |nil=>intro _;simp[Sem.run_pure]
 |cons D k ah=>intro a;simp[List.forIn_cons,a D Zs,ah λb aj=>a b (by simp[aj])]
def Vk{B:Bool}:∀(n m t:Nat) (v:z),n<=m->b2 Y v->mS C n t v=true->(Instr.checkKey B m t (aJ J v)).run C.P w= .ok () w:=by
 intro n
 induction n with
 |zero=>intro m t v _ _ a;simp[mS]at a
 |succ n ah=>
  intro m t v aX bt a
  obtain⟨m,rfl⟩:∃o,m=o+1:=⟨m-1,Zo⟩
  unfold mS at a
  split at a
  ·rename_i hW d x aU
   split at a
   ·rename_i i aE
    simp only[Zn]at a
    have:=ah m d x Zo bt a.2
    simp[Instr.checkKey,run_underlying aU,aJ,typeInfo,aE,a.1,this]
   ·simp at a
  ·rename_i aU;simp[Instr.checkKey,run_underlying aU,aJ]
  ·simp at a
  ·rename_i jq cs aU
   simp only[Instr.checkKey,Sem.run_bind,run_underlying aU,Result.andThen_ok,aJ]
   rw[<-Array.forIn_toList]
   refine(congrArg (λr=>Result.andThen r _) (atP _ _ ?_)).trans rfl
   intro f ch
   have:=YG.1 a f ch
   simp only[zl,Y1]at this
   by_cases aL:f.name= "_"
   ·simp[aL]
   ·rcases this with I|I
    ·exact absurd I aL
    ·split at I
     ·rename_i p av
      obtain⟨fg,hc⟩:=Gv (J:=J) (w:=w) bt av
      simp[aL,fg,ah m f.type p Zo hc I]
     ·simp at I
  ·simp at a
  ·simp at a
  ·rename_i d aP bk bF aU cw dB e6
   simp only[Instr.checkKey,Sem.run_bind,run_underlying aU,Result.andThen_ok]
   cases d<;>first
    |exact(aP _ rfl).elim
    |exact(bk _ rfl).elim
    |exact(bF _ _ rfl).elim
    |rfl
  ·simp at a
def V2{x:z}{o:IntKind}{D:Int}(a:aJ J x= .int o D):x= .int o D:=by
 cases x<;>simp[aJ]at a
 obtain⟨rfl,rfl⟩:=a;rfl
def V0{x:z}{D:Bool}(a:aJ J x= .bool D):x= .bool D:=by
 cases x<;>simp[aJ]at a
 subst a;rfl
def V3{x:z}{D:ByteArray}(a:aJ J x= .string D):∃s,x= .str s/\D=fC s:=by
 cases x<;>simp[aJ]at a
 exact⟨_,rfl,a.symm⟩
def VO(D b:ByteArray):(D==b)=(D.toList==b.toList):=by
 show(D.data==b.data)=_
 rw[Z7,Y1,Y1,ByteArray.toList_eq,ByteArray.toList_eq]
 exact⟨λa=>by rw[a],λa=>Array.toList_inj.1 a⟩
def adj{d t:Nat}{eS:TypeDesc}{x e:z}{r fy:Bool}(aU:C.P.underlying t=some eS)(fe:b2 Y x)(tL:b2 Y e)
 (a:lE C h d t x e=some r)(cu:Instr.sameNow eS (aJ J x) (aJ J e)=some fy):r=fy:=by
 cases d with
 |zero=>simp[lE]at a
 |succ d=>
  unfold Instr.sameNow at cu
  split at cu
  ·rename_i dY o D eE b af F
   rw[V2 af,V2 F]at a
   simp[lE,aU]at a
   split at cu
   ·simp at cu;rw[<-cu, <-a.2];rfl
   ·simp at cu
  ·rename_i D b af F
   obtain⟨s,rfl,rfl⟩:=V3 af
   obtain⟨eP,rfl,rfl⟩:=V3 F
   simp[lE,aU]at a
   simp at cu
   rw[<-cu, <-a,VO,SQ fe tL]
  ·rename_i D b af F
   rw[V0 af,V0 F]at a
   simp[lE,aU]at a
   simp at cu;rw[<-cu, <-a]
  ·simp at cu
def tv(J:cQ)(r:Option (Nat×z)):Option (Nat×Value):=r.map λx=>(x.1,aJ J x.2)
def akC{t:Nat}{eS:TypeDesc}{o:z}(aU:C.P.underlying t=some eS)(nG:b2 Y o):∀(b3:List (z×z×Nat)) (i:Nat) (r:Option (Nat×z)) (fy:Option (Nat×Value)),
 (∀B∈b3,b2 Y B.1/\b2 Y B.2.1)->findKey C h t o b3 i=some r->Instr.findNow eS (aJ J o) (b3.map (lk J)) i=some fy->fy=tv J r:=by
 intro b3
 induction b3 with
 |nil=>intro i r fy _ a cu;simp[findKey]at a;simp[Instr.findNow]at cu;subst a;subst cu;rfl
 |cons B b3 ah=>
  intro i r fy bX a cu
  obtain⟨eE,v,b⟩:=B
  simp only[findKey]at a
  simp only[ZC,Instr.findNow,lk]at cu
  split at a
  ·rename_i bl
   simp at a;subst a
   split at cu
   ·simp at cu;rw[<-cu];rfl
   ·rename_i aD
    have:=adj aU nG (bX (eE,v,b) (Zv ..)).1 bl aD
    simp at this
   ·simp at cu
  ·rename_i bl
   split at cu
   ·rename_i aD
    have:=adj aU nG (bX (eE,v,b) (Zv ..)).1 bl aD
    simp at this
   ·exact ah _ _ _ (λB bl=>bX B (by simp[bl])) a cu
   ·simp at cu
  ·simp at a
def akz(U:c9 C J Y h j bd w){t:Nat}{o:z}(nG:b2 Y o):∀(b3:List (z×z×Nat)) (i:Nat) (r:Option (Nat×z)),
 (∀B∈b3,b2 Y B.1/\b2 Y B.2.1)->findKey C h t o b3 i=some r->(Instr.findAsking t (aJ J o) (b3.map (lk J)) i).run C.P w= .ok (tv J r) w:=by
 intro b3
 induction b3 with
 |nil=>intro i r _ a;simp[findKey]at a;subst a;simp[Instr.findAsking,tv]
 |cons B b3 ah=>
  intro i r bX a
  obtain⟨eE,v,b⟩:=B
  simp only[findKey]at a
  have aX:20<=Op.maxDepth:=by decide
  split at a
  ·rename_i bl
   simp at a;subst a
   have:=NZ U 20 _ t o eE true aX nG (bX (eE,v,b) (Zv ..)).1 bl
   simp[Instr.findAsking,Op.equal,lk,this,tv]
  ·rename_i bl
   have:=NZ U 20 _ t o eE false aX nG (bX (eE,v,b) (Zv ..)).1 bl
   simp[Instr.findAsking,Op.equal,lk,this]
   exact ah _ _ (λB bl=>bX B (by simp[bl])) a
  ·simp at a
def OY(U:c9 C J Y h j bd w){t:Nat}{eS:TypeDesc}{o:z}{b3:List (z×z×Nat)}{r:Option (Nat×z)}(aU:C.P.underlying t=some eS)(nG:b2 Y o)
 (bX:∀B∈b3,b2 Y B.1/\b2 Y B.2.1)(a:findKey C h t o b3 0=some r):(Instr.findKey t (aJ J o) (b3.map (lk J))).run C.P w= .ok (tv J r) w:=by
 simp only[Instr.findKey,Sem.run_bind,run_underlying aU,Result.andThen_ok]
 split
 ·rename_i fy cu
  rw[akC aU nG b3 0 r fy bX a cu];rfl
 ·exact akz U nG b3 0 r bX a
def WK{t:Nat}{o:z}:∀(b3:List (z×z×Nat)) (i W:Nat) (v:z),findKey C h t o b3 i=some (some (W,v))->i<=W/\∃B,b3[W-i]? =some B/\B.2.1=v:=by
 intro b3
 induction b3 with
 |nil=>intro i W v a;simp[findKey]at a
 |cons B b3 ah=>
  intro i W v a
  obtain⟨eE,gp,b⟩:=B
  simp only[findKey]at a
  split at a
  ·simp at a
   obtain⟨rfl,rfl⟩:=a
   exact⟨Zi _,(eE,gp,b),Zs,rfl⟩
  ·obtain⟨I,B,M,ak⟩:=ah _ _ _ a
   refine⟨Zo,B, ?_,ak⟩
   rw[show W-i=(W-(i+1))+1 by omega]
   simpa using M
  ·simp at a
def abz{t d:Nat}{o:z}(a:mS C d t o=true):∃eS,C.P.underlying t=some eS:=by
 cases d with
 |zero=>simp[mS]at a
 |succ d=>
  cases aU:C.P.underlying t with
  |none=>simp[mS,aU]at a
  |some eS=>exact⟨eS,rfl⟩
def IN(U:c9 C J Y h j bd w){r:Nat}{b3:List (z×z×Nat)}{fF:Nat}(aI:Y r)(a:Z C h r=some (.map b3 fF)):
 ∃b7,(getObj (J r).cz).run C.P w= .ok (.map b7 fF) w/\w.heap[(J r).cz]? =some (.map b7 fF)/\b7.toList=b3.map (lk J)/\∀B∈b3,b2 Y B.1/\b2 Y B.2.1:=by
 obtain⟨b7,I,M,ak⟩:=U.obj r _ a aI
 exact⟨b7,MapKept.run_getObj_map I,I,M,ak⟩
def abY{t:Nat}{o:z}{D b:List (z×z)}(a:D.Perm b):∀r,oR C h t o D=some r->oR C h t o b=some r:=by
 induction a with
 |nil=>exact λ_ a=>a
 |cons x _ ah=>
  obtain⟨eE,v⟩:=x
  intro r a
  simp only[oR]at a ⊢
  split at a
  ·rename_i U bl
   rw[ah _ U,bl];simpa using a
  ·rename_i U bl
   rw[ah _ U,bl];simpa using a
  ·cases a
 |swap x e k=>
  obtain⟨aqd,Na⟩:=x
  obtain⟨aqe,Nb⟩:=e
  intro r a
  simp only[oR]at a ⊢
  cases az:oR C h t o k with
  |none=>simp[az]at a
  |some iW=>
   simp only[az]at a
   cases af:lE C h 20 t o aqd with
   |none=>rw[af]at a;cases iW<;>simp at a
   |some VN=>
    cases F:lE C h 20 t o aqe with
    |none=>
     rw[af,F]at a
     cases VN<;>cases iW<;>simp at a
    |some aiR=>
     rw[af,F]at a
     cases VN<;>cases aiR<;>cases iW<;>simp at a ⊢ <;>exact a
 |trans _ _ Re Iq=>exact λr a=>Iq r (Re r a)
def abX{t:Nat}{o:z}:∀(b3:List (z×z×Nat)) (i:Nat) (r:Option z),oR C h t o (b3.map λB=>(B.1,B.2.1))=some r->∃fy,findKey C h t o b3 i=some fy/\fy.map (·.2)=r:=by
 intro b3
 induction b3 with
 |nil=>intro i r a;simp[oR]at a;subst a;exact⟨none,rfl,rfl⟩
 |cons B b3 ah=>
  obtain⟨eE,gp,b⟩:=B
  intro i r a
  simp only[ZC,oR]at a
  simp only[findKey]
  split at a
  ·rename_i iW U bl
   simp at a;subst a
   rw[bl]
   exact ah (i+1) _ U
  ·rename_i U bl
   simp at a;subst a
   rw[bl]
   exact⟨some (i,gp),rfl,rfl⟩
  ·cases a
def ahV(U:c9 C J Y h j bd w){t:Nat}{m o v:z}{ok:Bool}(yy:b2 Y m)(nG:b2 Y o)(a:J1 C h t m o ok=some v):
 (Instr.lookup t (aJ J m) (aJ J o) ok).run C.P w= .ok (aJ J v) w/\b2 Y v:=by
 unfold J1 at a
 split at a
 ·rename_i ji yr aU
  have key:∀(b3:List (z×z×Nat)) (b7:Array MapEntry) (r:Option (Nat×z)),b7.toList=b3.map (lk J)->(∀B∈b3,b2 Y B.1/\b2 Y B.2.1)->mS C 20 ji o=true->findKey C h ji o b3 0=some r->
   (match r with|none=>(match se C yr with|some br=>some (bK ok (.tuple [br, .bool false]) br)|none=>none)|some (_,v)=>some (bK ok (.tuple [v, .bool true]) v))=some v->
   (do
    Instr.checkKey b7.isEmpty 10000 ji (aJ J o)
    let(v,V)<-match<-Instr.findKey ji (aJ J o) b7.toList with
     |some (_,v)=>pure (v,true)
     |none=>pure (<-zeroValue yr,false)
    pure (if ok then .tuple #[v, .bool V]else v):Sem Value).run C.P w= .ok (aJ J v) w/\b2 Y v:=by
   intro b3 b7 r aC bX aG ch bt
   obtain⟨eS,Lm⟩:=abz aG
   have I:=Vk (C:=C) (J:=J) (Y:=Y) (w:=w) (B:=b7.isEmpty) 20 10000 ji o Zd nG aG
   have M:=OY U Lm nG bX ch
   rw[aC]
   cases r with
   |none=>
    simp only at bt
    split at bt
    ·rename_i br ce
     obtain⟨g4,gK⟩:=CU ce J Y w
     simp at bt;subst bt
     cases ok
     ·exact⟨by simp[I,M,tv,g4],gK⟩
     ·exact⟨by simp[I,M,tv,g4,aJ,bP],⟨gK,trivial,trivial⟩⟩
    ·simp at bt
   |some p=>
    obtain⟨W,aa⟩:=p
    simp at bt;subst bt
    obtain⟨_,B,bl,rfl⟩:=WK b3 0 W aa ch
    have γ:=(bX B (Zl bl)).2
    cases ok
    ·exact⟨by simp[I,M,tv],γ⟩
    ·exact⟨by simp[I,M,tv,aJ,bP],⟨γ,trivial,trivial⟩⟩
  split at a
  ·simp at a
  ·rename_i aX
   split at aX
   ·simp only[ey,Ze]at aX
    have:=key [] #[] none rfl Zs aX.1 (by simp[findKey]) a
    refine⟨?_,this.2⟩
    rw[<-this.1]
    simp only[Instr.lookup,Sem.run_bind,run_underlying aU,Result.andThen_ok,aJ,Sem.run_pure]
    rfl
   ·rename_i r
    split at aX
    ·rename_i b3 fF bb
     simp only[ey]at aX
     obtain⟨b7,I,_,M,ak⟩:=IN U yy bb
     have:=key b3 b7 none M ak aX.1 aX.2 a
     refine⟨?_,this.2⟩
     rw[<-this.1]
     simp only[Instr.lookup,Sem.run_bind,run_underlying aU,Result.andThen_ok,aJ,Sem.run_pure,I]
     rfl
    ·rename_i b3 bb
     simp only[ey]at aX
     obtain⟨b7,fF,lF,I,M,aA,ak⟩:=U.obj r _ bb yy
     have b1:oR C h ji o b3=some none:=by
      have:=aX.2
      unfold Fk at this
      split at this<;>simp at this
      all_goals(rename_i al;first|(rw[al,this.2])|exact al|(rw[al];simp[this]))
     obtain⟨fy,ez,e5⟩:=abX lF 0 _ (abY aA.symm _ b1)
     cases fy with
     |none=>
      have:=key lF b7 none M ak aX.1 ez a
      refine⟨?_,this.2⟩
      rw[<-this.1]
      simp only[Instr.lookup,Sem.run_bind,run_underlying aU,Result.andThen_ok,aJ,Sem.run_pure,MapKept.run_getObj_map I]
      rfl
     |some p=>
      obtain⟨fg,hc⟩:=p
      simp at e5
    ·simp at aX
   ·simp at aX
  ·rename_i W aa aX
   split at aX
   ·simp only[ey]at aX
    simp at aX
   ·rename_i r
    split at aX
    ·rename_i b3 fF bb
     simp only[ey]at aX
     obtain⟨b7,I,_,M,ak⟩:=IN U yy bb
     have:=key b3 b7 (some (W,aa)) M ak aX.1 aX.2 a
     refine⟨?_,this.2⟩
     rw[<-this.1]
     simp only[Instr.lookup,Sem.run_bind,run_underlying aU,Result.andThen_ok,aJ,Sem.run_pure,I]
     rfl
    ·rename_i b3 bb
     simp only[ey]at aX
     obtain⟨b7,fF,lF,I,M,aA,ak⟩:=U.obj r _ bb yy
     have b1:oR C h ji o b3=some (some aa):=by
      have:=aX.2
      unfold Fk at this
      split at this<;>simp at this
      all_goals(rename_i al;first|(rw[al,this.2])|exact al|(rw[al];simp[this]))
     obtain⟨fy,ez,e5⟩:=abX lF 0 _ (abY aA.symm _ b1)
     cases fy with
     |none=>
      simp at e5
     |some p=>
      obtain⟨fg,hc⟩:=p
      simp at e5
      subst e5
      have:=key lF b7 (some (fg,hc)) M ak aX.1 ez a
      refine⟨?_,this.2⟩
      rw[<-this.1]
      simp only[Instr.lookup,Sem.run_bind,run_underlying aU,Result.andThen_ok,aJ,Sem.run_pure,MapKept.run_getObj_map I]
      rfl
    ·simp at aX
   ·simp at aX
 ·simp at a
end
section
variable{C:aM}{J:cQ}{Y:Nat->Prop}{h:R ag}{j bd:Nat}{w:World}
def aqi{t f:Nat}{x:Operand}{aw:Operand->Value}{d5:Operand->Option z}{v:z}(cv:iL J Y aw d5 [x])
 (a:ID C t x f h d5=some v):(Instr.field t (aw x) f).run C.P w= .ok (aJ J v) w/\b2 Y v:=by
 unfold ID at a
 split at a
 ·rename_i jq cs aU af
  obtain⟨B,g⟩:=cv x Zs _ af
  rw[B]
  rw[qj]at a
  split at a
  ·rename_i rr ch
   have p3:jq[f]? =some rr:=by rw[<-ch];simp
   obtain⟨I,M⟩:=Gv (J:=J) (w:=w) g a
   refine⟨?_,M⟩
   simp[Instr.field,run_underlying aU,p3,asAgg,aJ,I]
  ·simp at a
 ·simp at a
def aqj{t:Nat}{x:Operand}{aw:Operand->Value}{d5:Operand->Option z}{v:z}(cv:iL J Y aw d5 [x])
 (a:IE C t x h d5=some v):(Instr.makeInterface t (aw x)).run C.P w= .ok (aJ J v) w/\b2 Y v:=by
 unfold IE at a
 split at a
 ·simp at a
 ·rename_i d aa aL aU af
  obtain⟨B,g⟩:=cv x Zs _ af
  simp at a;subst a
  refine⟨?_,g⟩
  rw[B]
  cases d<;>first|exact(aL _ rfl).elim|simp[Instr.makeInterface,run_underlying aU,aJ]
 ·simp at a
def aqf{x:Operand}{t ts:Nat}{ok:Bool}{aw:Operand->Value}{d5:Operand->Option z}{v:z}(cv:iL J Y aw d5 [x])
 (a:IB C x ts ok h d5=some v):(Instr.typeAssert (aw x) t ts ok).run C.P w= .ok (aJ J v) w/\b2 Y v:=by
 unfold IB at a
 split at a
 ·simp at a
 ·rename_i d aL aU af
  obtain⟨B,g⟩:=cv x Zs _ af
  rw[B]
  simp only[ey]at a
  obtain⟨rfl,a⟩:=a
  split at a
  ·rename_i br ce
   simp at a;subst a
   obtain⟨g4,gK⟩:=CU ce J Y w
   refine⟨?_,gK,trivial,trivial⟩
   cases d<;>first|exact(aL _ rfl).elim|simp[Instr.typeAssert,run_underlying aU,aJ,bP,g4]
  ·simp at a
 ·rename_i d dC aa aL aU af
  obtain⟨B,g⟩:=cv x Zs _ af
  rw[B]
  rw[hw]at a
  split at a
  ·rename_i bl
   subst bl
   simp at a
   cases ok
   ·simp at a;subst a
    refine⟨?_,g⟩
    cases d<;>first|exact(aL _ rfl).elim|simp[Instr.typeAssert,run_underlying aU,aJ]
   ·simp at a;subst a
    refine⟨?_,g,trivial,trivial⟩
    cases d<;>first|exact(aL _ rfl).elim|simp[Instr.typeAssert,run_underlying aU,aJ,bP]
  ·rename_i bl
   simp only[ey]at a
   obtain⟨rfl,a⟩:=a
   split at a
   ·rename_i br ce
    simp at a;subst a
    obtain⟨g4,gK⟩:=CU ce J Y w
    refine⟨?_,gK,trivial,trivial⟩
    cases d<;>first|exact(aL _ rfl).elim|simp[Instr.typeAssert,run_underlying aU,aJ,bP,g4,bl]
   ·simp at a
 ·simp at a
def ahT(U:c9 C J Y h j bd w){t:Nat}{cS:Array TypeId}{ty:TypeId}{x v:z}{rest:List TypeId}(aC:cS.toList=t::rest)(fe:b2 Y x)(a:J0 C h t x=some v):
 (Builtin.len_ cS ty #[aJ J x]).run C.P w= .ok (aJ J v) w/\b2 Y v:=by
 have tQ:cS[0]? =some t:=by rw[<-ZO,aC];rfl
 unfold J0 at a
 split at a<;>(try simp only[abi]at a)
 ·rename_i s aU
  simp at a;subst a
  refine⟨?_,trivial⟩
  have aD:(fC s).size=s.length:=by simp[fC,ByteArray.size]
  simp[Builtin.len_,tQ,run_underlying aU,aJ,goInt,aD]
 ·rename_i n sw aU
  simp at a;subst a
  refine⟨?_,trivial⟩
  simp[Builtin.len_,tQ,run_underlying aU,goInt]
  simp[aJ]
 ·rename_i b7 aU
  split at a
  ·rename_i n sw Q6
   simp at a;subst a
   refine⟨?_,trivial⟩
   simp[Builtin.len_,tQ,run_underlying aU,run_underlying Q6,goInt]
   simp[aJ]
  ·simp at a
 ·rename_i aU
  simp at a;subst a
  refine⟨?_,trivial⟩
  simp[Builtin.len_,tQ,run_underlying aU,aJ,goInt]
 ·rename_i aU
  simp at a;subst a
  refine⟨?_,trivial⟩
  simp[Builtin.len_,tQ,run_underlying aU,aJ,goInt]
 ·rename_i aU
  simp at a;subst a
  refine⟨?_,trivial⟩
  simp[Builtin.len_,tQ,run_underlying aU,aJ,goInt]
 ·rename_i aU
  simp at a;subst a
  refine⟨?_,trivial⟩
  simp[Builtin.len_,tQ,run_underlying aU,aJ,goInt]
 ·rename_i r aU
  split at a
  ·rename_i b3 fF bb
   simp at a;subst a
   obtain⟨b7,I,M,ak,aA⟩:=IN U fe bb
   refine⟨?_,trivial⟩
   have:b7.size=b3.length:=by rw[<-Array.length_toList,ak,Zr]
   simp[Builtin.len_,tQ,run_underlying aU,aJ,goInt,I,this]
  ·simp at a
 ·simp at a
def ahM{t:Nat}{cS:Array TypeId}{ty:TypeId}{x v:z}{rest:List TypeId}(aC:cS.toList=t::rest)(a:JX C t x=some v):
 (Builtin.cap_ cS ty #[aJ J x]).run C.P w= .ok (aJ J v) w/\b2 Y v:=by
 have tQ:cS[0]? =some t:=by rw[<-ZO,aC];rfl
 unfold JX at a
 split at a<;>(try simp only[abi]at a)
 ·rename_i aU
  simp at a;subst a
  refine⟨?_,trivial⟩
  simp[Builtin.cap_,tQ,run_underlying aU,aJ,goInt]
 ·rename_i aU
  simp at a;subst a
  refine⟨?_,trivial⟩
  simp[Builtin.cap_,tQ,run_underlying aU,aJ,goInt]
 ·simp at a
def ahX:∀(k:List z) (x v:z),oe true x k=some v->((bP J k).foldlM Builtin.max2 (aJ J x)).run C.P w= .ok (aJ J v) w/\(b2 Y x->b2 Y v):=by
 intro k
 induction k with
 |nil=>intro x v a;cases x<;>simp[oe]at a<;>subst a<;>simp[bP]
 |cons e k ah=>
  intro x v a
  unfold oe at a
  split at a
  ·rename_i a2;simp at a2
  ·rename_i o D eE b b6 fp
   simp only[zk]at fp
   obtain⟨rfl,rfl⟩:=fp
   obtain⟨I,M⟩:=ah _ _ a
   refine⟨?_,λ_=>M trivial⟩
   simp only[bP,List.foldlM_cons,Sem.run_bind,aJ,Builtin.max2,Sem.run_pure,Result.andThen_ok]
   simp only[fj,sU,eU,Zh,aJ]at I
   exact I
  ·simp at a
def ahY:∀(k:List z) (x v:z),oe false x k=some v->((bP J k).foldlM Builtin.min2 (aJ J x)).run C.P w= .ok (aJ J v) w/\(b2 Y x->b2 Y v):=by
 intro k
 induction k with
 |nil=>intro x v a;cases x<;>simp[oe]at a<;>subst a<;>simp[bP]
 |cons e k ah=>
  intro x v a
  unfold oe at a
  split at a
  ·rename_i a2;simp at a2
  ·rename_i o D eE b b6 fp
   simp only[zk]at fp
   obtain⟨rfl,rfl⟩:=fp
   obtain⟨I,M⟩:=ah _ _ a
   refine⟨?_,λ_=>M trivial⟩
   simp only[bP,List.foldlM_cons,Sem.run_bind,aJ,Builtin.min2,Sem.run_pure,Result.andThen_ok]
   simp only[kE,sU,eU,Zh,aJ]at I
   exact I
  ·simp at a
end
section
variable{C:aM}{J:cQ}{Y:Nat->Prop}{h:R ag}{j bd:Nat}{w:World}
def iL.mono{aw:Operand->Value}{d5:Operand->Option z}{k b6:List Operand}(a:iL J Y aw d5 k)(aD:∀x∈b6,x∈k):iL J Y aw d5 b6:=λx af v bt=>a x (aD x af) v bt
def OT{aw:Operand->Value}{d5:Operand->Option z}{V:Option Operand}{r:Option z}(cv:iL J Y aw d5 V.toList)(a:Aw d5 V=some r):V.map aw=r.map (aJ J):=by
 cases V with
 |none=>simp[Aw]at a;subst a;rfl
 |some x=>
  simp only[Aw]at a
  split at a
  ·rename_i v bt
   simp at a;subst a
   simp[(cv x Zs v bt).1]
  ·simp at a
def ahU(U:c9 C J Y h j bd w){oper:Oper}{aw:Operand->Value}{d5:Operand->Option z}{v:z}(cv:iL J Y aw d5 oper.op.operands.toList)
 (a:nx oper.op C h d5=some v):JK J Y C.P w (execOp aw oper) v:=by
 obtain⟨dst,op,type,pos,after,guard⟩:=oper
 cases op<;>simp only[nx]at a<;>(try(cases a;done))<;>simp only[execOp]<;>simp only[Op.operands]at cv
 case build t jy=>
  refine nz ?_
  unfold Rr at a
  split at a
  ·rename_i db QJ
   obtain⟨I,M⟩:=Wz (by simpa using cv) QJ
   have:=ahL (J:=J) (w:=w) M a
   rw[<-I]at this
   have B:(jy.map λx=>(x.1,aw x.2))=(jy.toList.map λx=>(x.1,aw x.2)).toArray:=by apply YZ;simp
   rw[B];exact this
  ·simp at a
 case binOp op t x e F3=>exact nz (aqg U (by simpa using cv) a)
 case unOp op t x=>
  refine nz ?_
  unfold Rz at a
  split at a
  ·rename_i D aC
   rw[(cv x Zs D aC).1]
   exact ah3 a
  ·simp at a
 case convert s d x=>exact nz (aqh U (by simpa using cv) a)
 case makeInterface t x=>exact nz (aqj (by simpa using cv) a)
 case makeFunc fn first fm=>
  refine nz ?_
  unfold Rv at a
  split at a
  ·rename_i D b aC aj
   split at a
   ·simp at a;subst a
    obtain⟨bm,ct⟩:=uO (cv.mono (by simp;intro x af;exact .inl af)) aC
    obtain⟨b0,cy⟩:=uO (cv.mono (by simp;intro x af;exact .inr af)) aj
    refine⟨?_,trivial,ct,cy⟩
    simp[Instr.makeFunc,bm,b0,aJ,mn]
   ·simp at a
  ·simp at a
 case slice t x bL aE gR=>
  refine nz ?_
  unfold Ry at a
  split at a
  ·rename_i D k cu m aC az gd aX
   have I:=cv x Zs D aC
   have M:=OT (cv.mono (by simp;intro x af;exact .inr (.inl af))) az
   have ak:=OT (cv.mono (by simp;intro x af;exact .inr (.inr (.inl af)))) gd
   have aA:=OT (cv.mono (by simp;intro x af;exact .inr (.inr (.inr af)))) aX
   rw[I.1,M,ak,aA]
   exact ah0 U I.2 a
  ·simp at a
 case field t x f=>exact nz (aqi (by simpa using cv) a)
 case index t x i=>
  refine nz ?_
  unfold Rw at a
  split at a
  ·rename_i D b aC aj
   have I:=cv x Zs D aC
   rw[I.1,(cv i Zs b aj).1]
   exact ahR I.2 a
  ·simp at a
 case lookup t m o ok=>
  refine nz ?_
  unfold Rx at a
  split at a
  ·rename_i D b aC aj
   have I:=cv m Zs D aC
   have M:=cv o Zs b aj
   rw[I.1,M.1]
   exact ahV U I.2 M.2 a
  ·simp at a
 case typeAssert x t ts ok=>exact nz (aqf (by simpa using cv) a)
 case call c=>
  unfold Rt at a
  split at a
  ·rename_i b args cS
   simp only[Call.operands]at cv
   have L1:iL J Y aw d5 args.toList:=cv.mono Zs
   unfold Rs at a
   split at a
   ·rename_i x af
    obtain⟨bm,ct⟩:=uO L1 af
    split at a
    ·rename_i t rest aC
     obtain⟨I,M⟩:=ahT (ty:=type) U aC ct.1 a
     refine⟨?_,M⟩
     simp[resolve,invoke,builtin,bm,bP,I]
    ·simp at a
   ·rename_i x af
    obtain⟨bm,ct⟩:=uO L1 af
    split at a
    ·rename_i t rest aC
     obtain⟨I,M⟩:=ahM (J:=J) (Y:=Y) (w:=w) (ty:=type) aC a
     refine⟨?_,M⟩
     simp[resolve,invoke,builtin,bm,bP,I]
    ·simp at a
   ·rename_i x k af
    obtain⟨bm,ct⟩:=uO L1 af
    obtain⟨I,M⟩:=ahX (C:=C) (J:=J) (Y:=Y) (w:=w) k x v a
    refine⟨?_,M ct.1⟩
    simp[resolve,invoke,builtin,Builtin.max_,bm,bP,I]
   ·rename_i x k af
    obtain⟨bm,ct⟩:=uO L1 af
    obtain⟨I,M⟩:=ahY (C:=C) (J:=J) (Y:=Y) (w:=w) k x v a
    refine⟨?_,M ct.1⟩
    simp[resolve,invoke,builtin,Builtin.min_,bm,bP,I]
   ·simp at a
  ·simp at a
def abR(U:c9 C J Y h j bd w){oper:Oper}{aw:Operand->Value}{wr:List (Nat×Nat)}{an:List (Nat×z)}{H:R z}{c:jl}{v:z}
 (cv:iL J Y aw (iC wr an H) oper.op.operands.toList)(ay:lh C wr oper.op=some c)(a:gr c C h an H=some v):JK J Y C.P w (execOp aw oper) v:=by
 have rest:∀V,oper.op=V->c= .hC wr V->JK J Y C.P w (execOp aw oper) v:=by
  intro V bb BH
  subst BH;subst bb
  exact ahU U cv a
 obtain⟨dst,op,type,pos,after,guard⟩:=oper
 cases op<;>simp only[lh]at ay<;>simp only[Op.operands]at cv
 case move x=>
  split at ay
  ·rename_i ih af
   simp at ay;subst ay
   simp only[gr,mW af]at a
   obtain⟨I,M⟩:=cv x Zs v a
   exact⟨by simp[execOp,I],M⟩
  ·simp at ay
 case assign x=>
  split at ay
  ·rename_i ih af
   simp at ay;subst ay
   simp only[gr,mW af]at a
   obtain⟨I,M⟩:=cv x Zs v a
   exact⟨by simp[execOp,I],M⟩
  ·simp at ay
 case pick gA D b=>
  split at ay
  ·rename_i awa fK dT P0 aC aj
   simp at ay;subst ay
   simp only[gr,mW P0]at a
   split at a
   ·rename_i aa aU
    obtain⟨I,M⟩:=cv gA Zs aa aU
    unfold Nk at a
    split at a
    ·rename_i t
     rw[mW aC,mW aj]at a
     simp only[execOp,I,aJ]
     cases t
     ·obtain⟨ak,aA⟩:=cv b Zs v (by simpa using a)
      exact⟨by simp[asBool,ak],aA⟩
     ·obtain⟨ak,aA⟩:=cv D Zs v (by simpa using a)
      exact⟨by simp[asBool,ak],aA⟩
    ·simp at a
   ·simp at a
  ·simp at ay
 case load t D=>
  split at ay
  ·rename_i fK s aC I M
   simp at ay;subst ay
   simp only[gr,mW aC]at a
   split at a
   ·rename_i aa aU
    obtain⟨ak,aA⟩:=cv D Zs aa aU
    simp only[execOp,ak]
    exact nz (Vm U I M aA a)
   ·simp at a
  ·rename_i fK aC I
   simp at ay;subst ay
   simp only[gr,mW aC]at a
   split at a
   ·rename_i aa aU
    obtain⟨ak,aA⟩:=cv D Zs aa aU
    simp only[execOp,ak]
    exact nz (Vl U I aA a)
   ·simp at a
  ·simp at ay
 case fieldAddr s x f=>
  split at ay
  ·rename_i jq ih aU af
   rw[qj]at ay
   split at ay
   ·rename_i rr ch
    split at ay
    ·rename_i br ce
     simp only[DZ]at ay
     obtain⟨k1,ay⟩:=ay
     simp at ay;subst ay
     simp only[gr,mW af]at a
     split at a
     ·rename_i aa sP
      obtain⟨ak,aA⟩:=cv x Zs aa sP
      simp only[execOp,ak]
      exact nz (akv aU ch ce (by intro B;subst B;simp at k1) aA a)
     ·simp at a
    ·simp at ay
   ·simp at ay
  ·simp at ay
 case indexAddr t x i=>
  split at ay
  ·rename_i n dU ih cp aU af aE
   split at ay
   ·rename_i aO ce
    simp at ay;subst ay
    simp only[gr,mW af,mW aE]at a
    split at a
    ·rename_i aa sP
     split at a
     ·rename_i W bB
      split at a
      ·rename_i aQ aL
       obtain⟨o,rfl⟩:=Cw aL
       obtain⟨ak,aA⟩:=cv x Zs aa sP
       obtain⟨bq,bV⟩:=cv i Zs _ bB
       simp only[execOp,ak,bq,aJ]
       exact nz (apN aU ce aA a)
      ·simp at a
     ·simp at a
    ·simp at a
   ·simp at ay
  ·rename_i dU ih cp aU af aE
   split at ay
   ·rename_i aO ce
    simp at ay;subst ay
    simp only[gr,mW af,mW aE]at a
    split at a
    ·rename_i aa sP
     split at a
     ·rename_i W bB
      split at a
      ·rename_i aQ aL
       obtain⟨o,rfl⟩:=Cw aL
       obtain⟨ak,aA⟩:=cv x Zs aa sP
       obtain⟨bq,bV⟩:=cv i Zs _ bB
       simp only[execOp,ak,bq,aJ]
       exact nz (apQ aU ce aA a)
      ·simp at a
     ·simp at a
    ·simp at a
   ·simp at ay
  ·simp at ay
 case nilCheck x=>
  split at ay
  ·rename_i ih af
   simp at ay;subst ay
   simp only[gr,mW af]at a
   split at a
   ·rename_i aa aU
    obtain⟨ak,aA⟩:=cv x Zs aa aU
    obtain⟨rfl,bq⟩:=avS (C:=C) (J:=J) (w:=w) aA a
    exact⟨bq _ aw x rfl ak,aA⟩
   ·simp at a
  ·simp at ay
 case binOp op t x e F3=>
  rw[eU]at ay
  split at ay
  ·split at ay
   ·rename_i ih ayo af F
    simp at ay;subst ay
    simp only[gr,mW af,mW F]at a
    split at a
    ·rename_i D aC
     split at a
     ·rename_i b aj
      obtain⟨I,M⟩:=cv x Zs D aC
      obtain⟨ak,aA⟩:=cv e Zs b aj
      obtain⟨bq,bV,o,i,eE,W,rfl,rfl⟩:=Vj (C:=C) (J:=J) (Y:=Y) (w:=w) t a
      simp only[execOp,I,ak]
      refine nz ⟨?_,bV⟩
      rw[Sem.run_bind,KC (by simp[D7])]
      exact bq
     ·simp at a
    ·simp at a
   ·simp at ay
  ·simp at ay;exact rest _ rfl ay.symm
 case extract x i=>
  split at ay
  ·rename_i ih af
   simp at ay;subst ay
   simp only[gr,mW af]at a
   split at a
   ·rename_i aa aU
    obtain⟨ak,aA⟩:=cv x Zs aa aU
    simp only[execOp,ak]
    exact nz (avR aA a)
   ·simp at a
  ·simp at ay
 case convert s d x=>
  rw[eU]at ay
  split at ay
  ·simp at ay;subst ay;simp[gr]at a
  ·simp at ay;exact rest _ rfl ay.symm
 case store t D x=>
  split at ay
  ·simp at ay;subst ay;simp[gr]at a
  ·simp at ay
 case makeMap t r=>cases r<;>simp[lh]at ay<;>subst ay<;>simp[gr]at a
 case call ww=>
  obtain⟨callee,args,cS⟩:=ww
  cases callee with
  |builtin b=>
   cases b<;>simp[lh]at ay<;>first
    |exact rest _ rfl ay.symm
    |(subst ay;simp[gr]at a)
  |value f=>
   cases f<;>simp[lh]at ay
   all_goals first
    |(subst ay;simp[gr]at a;done)
    |(
      split at ay
      ·simp at ay;subst ay;simp[gr]at a
      ·simp at ay)
  |invoke r m=>simp[lh]at ay;subst ay;simp[gr]at a
 all_goals(simp at ay;first|exact rest _ rfl ay.symm|(subst ay;simp[gr]at a))
end
end Go.bp

