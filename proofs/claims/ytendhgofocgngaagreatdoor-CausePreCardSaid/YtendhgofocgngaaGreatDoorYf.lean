/- Part of the proof of the last text; no conditions -/
import Derived.Test.YtendhgofocgngaaGreatDoorYe
set_option maxHeartbeats 8000000
set_option linter.all false
namespace Go.bn
open Go.RowKit (Below)
section
variable{C:aK}{J c6:c1}{Y dr:Nat->Prop}{h R:S ai}{j ap bj:Nat}{w bE:World}
def ach(V:cV C J Y h j bj w)(eX:bj<=w.heap.size)(kk:xt C.P){oper:Oper}{au:Operand->Value}{wr:List (Nat×Nat)}{an:List (Nat×z)}{I:S z}{c:jS}{res:dL}
 (ct:jc J Y au (ji wr an I) oper.op.operands.toList)(ax:lO C wr oper.op=some c)(a:hH c C h j an I=some res):hO C J Y h j bj w (execOp au oper) res:=by
 have rest:∀U,oper.op=U->c= .fg wr U->hO C J Y h j bj w (execOp au oper) res:=by
  intro U aS Db
  subst Db;subst aS
  exact ak6 V eX kk ct a
 have yM:∀U,c= .h9 wr U->hO C J Y h j bj w (execOp au oper) res:=by intro U B;subst B;simp[hH]at a
 have afp:∀U,c= .make wr U->hO C J Y h j bj w (execOp au oper) res:=by intro U B;subst B;simp[hH]at a
 obtain⟨dst,op,type,pos,after,guard⟩:=oper
 cases op<;>simp only[lO]at ax<;>simp only[Op.operands]at ct
 case store t E x=>
  split at ax
  ·rename_i fu iR s aB af aD
   simp at ax;subst ax
   simp only[hH,nB aB,nB af]at a
   split at a
   ·rename_i ac aX
    split at a
    ·rename_i v bo
     obtain⟨bw,b4⟩:=ct E Zs ac aX
     obtain⟨b3,b1⟩:=ct x Zs v bo
     obtain⟨R,rfl,aI⟩:=azi V aD b4 b1 a
     simp only[execOp,bw,b3]
     exact aI _ (λbE qr=>by simp[qr])
    ·simp at a
   ·simp at a
  ·simp at ax
 case call xF=>
  obtain⟨callee,args,cL⟩:=xF
  cases callee with
  |builtin b=>
   cases b<;>simp[lO]at ax<;>first
    |exact rest _ rfl ax.symm
    |exact yM _ ax.symm
  |value f=>
   cases f with
   |func g=>
    simp only at ax
    split at ax
    ·rename_i cg has
     simp at ax;subst ax
     simp only[hH]at a
     split at a
     ·rename_i aY tE
      simp only[Call.operands]at ct
      obtain⟨cO,b9⟩:=aoa an I has tE
      have atJ:jc J Y au (ji wr an I) args.toList:=ct.mono (by simp;intro x af;exact .inr af)
      obtain⟨ek,fN⟩:=ae0 atJ cO b9
      obtain⟨ef,_⟩:=ct (.func g) Zs (.func (.func g) [] []) rfl
      have B:args.map au=(bK J aY).toArray:=by apply YR;simp[ek]
      have lY:(execOp au ⟨dst, .call ⟨.value (.func g),args,cL⟩,type,pos,after,guard⟩).run C.P w=(callFunc g (bK J aY).toArray).run C.P w:=by
       simp[execOp,resolve,ef,aF,mY,bK,Deferred.ofValue,invoke,B]
      rw[eR]at a
      split at a
      ·rename_i Gl
       split at a
       ·rename_i ac aX
        cases a
        exact⟨⟨Gl,aX⟩,lY,fN⟩
       ·cases a
      ·exact(QC (J:=J) (h:=h) (j:=j) (bj:=bj) (w:=w) kk fN a).congr lY
     ·simp at a
    ·simp at ax
   |tmp t=>simp at ax;exact rest _ rfl ax.symm
   |const v=>simp at ax;exact rest _ rfl ax.symm
   |global g=>simp at ax;exact rest _ rfl ax.symm
  |invoke r m=>simp[lO]at ax;exact rest _ rfl ax.symm
 case convert s d x=>
  rw[eR]at ax
  split at ax
  ·simp at ax;exact rest _ rfl ax.symm
  ·simp at ax;exact yM _ ax.symm
 case makeMap t r=>cases r<;>simp[lO]at ax<;>first|exact rest _ rfl ax.symm|exact afp _ ax.symm
 case binOp op t x e HF=>
  rw[eR]at ax
  split at ax
  ·split at ax
   ·simp at ax;subst ax;simp[hH]at a
   ·simp at ax
  ·simp at ax;exact yM _ ax.symm
 case fieldAddr s x f=>
  split at ax
  ·rw[pN]at ax
   split at ax
   ·split at ax
    ·simp only[FJ,Zf]at ax
     obtain⟨_,rfl⟩:=ax
     simp[hH]at a
    ·simp at ax
   ·simp at ax
  ·simp at ax
 case indexAddr t x i=>
  split at ax
  ·split at ax
   ·simp at ax;subst ax;simp[hH]at a
   ·simp at ax
  ·split at ax
   ·simp at ax;subst ax;simp[hH]at a
   ·simp at ax
  ·simp at ax
 all_goals first
  |(simp at ax;first|exact rest _ rfl ax.symm|exact yM _ ax.symm|exact afp _ ax.symm)
  |(split at ax<;>first
    |(simp at ax;subst ax;simp[hH]at a;done)
    |(simp at ax;done))
def On{oper:Oper}{wr:List (Nat×Nat)}{c:jS}(ax:lO C wr oper.op=some c){b:Nat}{an:List (Nat×z)}{I:S z}{r:z×ai}(a:oc c C b an I=some r):p1 oper.op C (ji wr an I) b=some r:=by
 have rest:∀U,oper.op=U->c= .make wr U->p1 oper.op C (ji wr an I) b=some r:=by
  intro U aS Db
  subst Db;subst aS
  exact a
 have yM:∀U,c= .h9 wr U->p1 oper.op C (ji wr an I) b=some r:=by intro U B;subst B;simp[oc]at a
 have BP:∀U,c= .fg wr U->p1 oper.op C (ji wr an I) b=some r:=by intro U B;subst B;simp[oc]at a
 obtain⟨dst,op,type,pos,after,guard⟩:=oper
 cases op<;>simp only[lO]at ax
 case call xF=>
  obtain⟨callee,args,cL⟩:=xF
  cases callee with
  |builtin b=>cases b<;>simp[lO]at ax<;>first|exact BP _ ax.symm|exact yM _ ax.symm
  |value f=>
   cases f with
   |func g=>
    simp[lO]at ax
    split at ax
    ·simp at ax;subst ax;simp[oc]at a
    ·simp at ax
   |tmp t=>simp[lO]at ax;exact BP _ ax.symm
   |const v=>simp[lO]at ax;exact BP _ ax.symm
   |global g=>simp[lO]at ax;exact BP _ ax.symm
  |invoke r m=>simp[lO]at ax;exact BP _ ax.symm
 case convert s d x=>
  rw[eR]at ax
  split at ax
  ·simp at ax;exact BP _ ax.symm
  ·simp at ax;exact yM _ ax.symm
 case makeMap t r=>cases r<;>simp[lO]at ax<;>first|exact rest _ rfl ax.symm|exact BP _ ax.symm
 case binOp op t x e HF=>
  rw[eR]at ax
  split at ax
  ·split at ax
   ·simp at ax;subst ax;simp[oc]at a
   ·simp at ax
  ·simp at ax;exact yM _ ax.symm
 case fieldAddr s x f=>
  split at ax
  ·rw[pN]at ax
   split at ax
   ·split at ax
    ·simp only[FJ,Zf]at ax
     obtain⟨_,rfl⟩:=ax
     simp[oc]at a
    ·simp at ax
   ·simp at ax
  ·simp at ax
 case indexAddr t x i=>
  split at ax
  ·split at ax
   ·simp at ax;subst ax;simp[oc]at a
   ·simp at ax
  ·split at ax
   ·simp at ax;subst ax;simp[oc]at a
   ·simp at ax
  ·simp at ax
 all_goals first
  |(simp at ax;first|exact rest _ rfl ax.symm|exact yM _ ax.symm|exact BP _ ax.symm)
  |(split at ax<;>first
    |(simp at ax;subst ax;simp[oc]at a;done)
    |(simp at ax;done))
def oB{α:Type}(U:Option α)(o:α->dU):jp U o=match U with|some E=>o E|none=>none:=by cases U<;>rfl
def X8(k:List (Nat×z))(W:Nat)(o:z->dU):Ie k W o=jp (ee k W) o:=by
 induction k with
 |nil=>rfl
 |cons p k ag=>
  obtain⟨E,b⟩:=p
  show(Bool.rec (motive:=λ_=>dU) (Ie k W o) (o b) (Nat.beq E W))=jp (bI (Nat.beq E W) (some b) (ee k W)) o
  rw[ag]
  cases Nat.beq E W<;>rfl
def apd(t:S z):∀(i:Nat) (o:z->dU),ME t i o=jp (t.get i) o:=by
 induction t with
 |nil=>intro i o;rfl
 |node v k r m5 GO=>
  intro i o
  cases i with
  |zero=>cases v<;>rfl
  |succ W=>
   show(Bool.rec (motive:=λ_=>dU) (ME r (Nat.div W 2) o) (ME k (Nat.div W 2) o) (Nat.beq (Nat.mod W 2) 0))=jp (bI (Nat.beq (Nat.mod W 2) 0) (k.get (Nat.div W 2)) (r.get (Nat.div W 2))) o
   rw[m5,GO]
   cases Nat.beq (Nat.mod W 2) 0<;>rfl
def an7(x:kq)(an:List (Nat×z))(I:S z)(o:z->dU):xN x an I o=jp (k5 x an I) o:=by
 cases x with
 |v W=>exact X8 an W o
 |t n=>exact apd I n o
 |c E=>rfl
def Mv:∀(k:List (Nat×Nat)) (an:List (Nat×z)) (I:S z) (o:S z->dU),IG k an I o=jp (xR an k I) o:=by
 intro k
 induction k with
 |nil=>intro an I o;rfl
 |cons p k ag=>
  intro an I o
  obtain⟨i,d⟩:=p
  show Ie an i (λv=>jt (S.set I d (some v)) λI=>IG k an I o)=_
  rw[X8]
  simp only[xR]
  cases ee an i with
  |none=>rfl
  |some v=>simp only[gS];exact ag _ _ _
def Ps(g:Option (Nat×Bool))(an:List (Nat×z))(E b:dU):agZ g an E b=jp (oJ g an) λw=>if w=true then E else b:=by
 cases g with
 |none=>simp[oB,oJ];rfl
 |some p=>
  show jp (oJ (some p) an) (λw=>Bool.rec (motive:=λ_=>dU) b E w)=_
  congr 1
  funext w
  cases w<;>rfl
def OK(op:jS)(h:S ai)(j:Nat)(an:List (Nat×z))(I:S z)(aj:z->S ai->Nat->dU)(p5:dL->dU):
 UA op C h j an I aj p5=match mG op with
  | .h9=>jp (gJ op C h an I) λv=>aj v h j
  | .make=>jp (Om op C h j an I) p5
  | .fg=>jp (hH op C h j an I) p5:=by
 cases op<;>simp only[UA,mG,an7,gJ,oB]<;>(try rfl)
 all_goals(split<;>first|rfl|(split<;>simp_all))
end
end Go.bn

namespace Go.bn
open Go.RowKit (Below)
def vz:List Oper->Nat->List (Nat×Nat)->List (Nat×Nat)
 |[],_,wr=>wr
 |U::k,i,wr=>vz k (i+1) (xx U i wr)
def io(ao:Array Oper)(i:Nat):List (Nat×Nat):=vz (ao.toList.take i) 0 []
def aAg(E:List Oper):∀(b:List Oper) (i:Nat) (wr:List (Nat×Nat)),vz (E++b) i wr=vz b (i+E.length) (vz E i wr):=by
 induction E with
 |nil=>intro b i wr;rfl
 |cons U E ag=>
  intro b i wr
  simp only[zb,vz,ag,ZD]
  congr 1;omega
def Lf{ao:Array Oper}{i:Nat}{U:Oper}(a:ao[i]? =some U):io ao (i+1)=xx U i (io ao i):=by
 have aw:ao.toList[i]? =some U:=by rw[ZM];exact a
 have cS:i<ao.toList.length:=(Zb.1 aw).1
 unfold io
 rw[Z3,aw,aAg]
 have:(ao.toList.take i).length=i:=by simp at cS ⊢;omega
 rw[this]
 simp[vz]
def Lg(ao:Array Oper):io ao 0=[]:=rfl
def sc(ao:Array Oper)(W:Nat):Option Nat:=(ao[W]?).bind (·.dst)
def Iw{ao:Array Oper}{i:Nat}{U:Oper}(a:ao[i]? =some U):sc ao i=U.dst:=by simp[sc,a]
def alm{U:Oper}{i W:Nat}{wr:List (Nat×Nat)}:v6 W (xx U i wr)=if i=W/\U.dst.isSome then U.dst else v6 W wr:=by
 unfold xx
 split
 ·rename_i d aI
  simp only[v6,hl,aI]
  by_cases B:i=W<;>simp[B]
 ·rename_i aI
  simp[aI]
def Fy{U:Oper}{i t:Nat}{wr:List (Nat×Nat)}:ee (xx U i wr) t=if U.dst=some t then some i else ee wr t:=by
 unfold xx
 split
 ·rename_i d aI
  rw[qO,aI]
  by_cases B:d=t<;>simp[B]
 ·rename_i aI
  simp[aI]
def Lh(ao:Array Oper):∀i,i<=ao.size->(∀W t,v6 W (io ao i)=some t->sc ao W=some t)/\
 (∀t W,ee (io ao i) t=some W->W<i/\sc ao W=some t/\∀o,W<o->o<i->sc ao o≠some t)/\(∀t,ee (io ao i) t=none->∀o,o<i->sc ao o≠some t):=by
 intro i
 induction i with
 |zero=>intro _;rw[Lg];exact⟨λW t a=>by simp[v6]at a,λt W a=>by simp at a,λt _ o aC=>Zo⟩
 |succ i ag=>
  intro aA
  obtain⟨H,K,ak⟩:=ag Zo
  have aS:ao[i]? =some ao[i]:=YY Zo
  rw[Lf aS]
  have aI:=Iw aS
  refine⟨λW t a=> ?_,λt W a=> ?_,λt a o aC=> ?_⟩
  ·rw[alm]at a
   split at a
   ·rename_i B;rw[<-B.1,aI];exact a
   ·exact H W t a
  ·rw[Fy]at a
   split at a
   ·rename_i B
    cases a
    exact⟨Zo,by rw[aI];exact B,λo hW gD=>Zo⟩
   ·rename_i B
    obtain⟨bJ,b2,cF⟩:=K t W a
    refine⟨Zo,b2,λo hW gD=> ?_⟩
    by_cases al:o=i
    ·subst al;rw[aI];exact B
    ·exact cF o hW Zo
  ·rw[Fy]at a
   split at a
   ·cases a
   ·rename_i B
    by_cases al:o=i
    ·subst al;rw[aI];exact B
    ·exact ak t a o Zo
section
variable{C:aK}{J c6:c1}{Y dr:Nat->Prop}{h R:S ai}{j ap bj:Nat}{w bE:World}
def k0(tmps:Array Value):Operand->Value
 | .tmp t=>tmps.getD t Go.undef
 | .const v=>v
 | .global g=> .pointer (some ⟨g,0,none⟩)
 | .func f=> .func (.func f) #[] #[]
def ID(fr:Frame):fr.eval=k0 fr.tmps:=by funext x;cases x<;>rfl
def oT(J:c1)(Y:Nat->Prop)(am:Nat)(X:Nat->Prop)(wr:List (Nat×Nat))(an:List (Nat×z))(I:S z)(tmps:Array Value):Prop:=
 ∀t v,X t->(match ee wr t with|some W=>ee an W=some v|none=>fm am t=true/\I.get t=some v)->tmps[t]? =some (aF J v)/\b7 Y v
def rX(C:aK)(J:c1)(Y:Nat->Prop):Prop:=∀g,g<C.pf->Y g/\(J g).cr=g/\(J g).dH=0
def awp{am:Nat}{wr:List (Nat×Nat)}:∀{k:List Operand},Ei C am wr k=true->∀x∈k,yO C am wr x=true:=by
 intro k
 induction k with
 |nil=>intro _ x a;simp at a
 |cons E k ag=>
  intro a x af
  simp only[Ei,Zp]at a
  rcases Zr.1 af with rfl|af
  ·exact a.1
  ·exact ag a.2 x af
def aaN{am:Nat}{X:Nat->Prop}{wr:List (Nat×Nat)}{an:List (Nat×z)}{I:S z}{tmps:Array Value}(bo:oT J Y am X wr an I tmps){k:List Operand}(bT:∀t,Operand.tmp t∈k->X t)(aS:Ei C am wr k=true)
 (eN:rX C J Y):jc J Y (k0 tmps) (ji wr an I) k:=by
 intro x af v a
 have fj:=awp aS x af
 cases x with
 |tmp t=>
  have:=bo t v (bT t af) (by
   simp only[ji]at a
   simp only[yO]at fj
   split at a
   ·rename_i W bx;rw[bx];exact a
   ·rename_i bx;rw[bx]at fj ⊢;exact⟨fj,a⟩)
  exact⟨by simp[k0,this.1],this.2⟩
 |const c=>exact OE a
 |global g=>
  simp[ji]at a;subst a
  simp only[yO]at fj
  obtain⟨b4,b1,cM⟩:=eN g (ks fj)
  exact⟨by simp[k0,aF,b1,cM],b4⟩
 |func f=>
  simp[ji]at a;subst a
  exact⟨by simp[k0,aF,mY,bK],trivial,trivial,trivial⟩
end
end Go.bn

namespace Go.bn
def AE(m i:Nat):fm m i=m.testBit i:=by
 unfold fm
 rw[Nat.testBit_eq_decide_div_mod_eq,Ya,Zi]
 exact⟨Zj,λa=>by rw[show Nat.mod (Nat.div m (Nat.pow 2 i)) 2=1 from a];rfl⟩
def LV(i:Nat):fm 0 i=false:=by rw[AE];simp
def FA(E b i:Nat):fm (Nat.lor E b) i=(fm E i||fm b i):=by
 rw[AE,AE,AE];exact Nat.testBit_or E b i
def LU(t i:Nat):fm (Nat.pow 2 t) i=decide (t=i):=by
 rw[AE];exact Nat.testBit_two_pow
def al3(E b i:Nat):fm (Nat.land E b) i=(fm E i&&fm b i):=by
 rw[AE,AE,AE];exact Nat.testBit_and E b i
def awx{U:Operand}{m t:Nat}:fm (Hh U m) t=true↔U= .tmp t\/fm m t=true:=by
 cases U with
 |tmp ac=>
  show fm (Nat.lor m (Nat.pow 2 ac)) t=true↔_
  rw[FA,LU]
  simp[or_comm]
 |_=>simp[Hh]
def awz{t:Nat}:∀{k:List Operand},fm (Hi k) t=true↔Operand.tmp t∈k:=by
 intro k
 induction k with
 |nil=>simp[Hi,LV]
 |cons E k ag=>
  show fm (Hh E (Hi k)) t=true↔_
  rw[awx,ag]
  simp[eq_comm]
def anl{U:Oper}{t:Nat}:fm (Iv U) t=true↔U.dst=some t:=by
 unfold Iv
 cases U.dst with
 |none=>simp[LV]
 |some d=>
  show fm (Nat.pow 2 d) t=true↔_
  rw[LU]
  simp
structure Ls(C:aK)(n am:Nat)(ao:Array Oper)(x:fh)(U:Oper):Prop where
 oper:ao[x.i]? =some U
 g:Ik (io ao x.i) U.guard=some x.g
 op:lO C (io ao x.i) U.op=some x.op
 dst:∀d,U.dst=some d->d<n
 reads:Ei C am (io ao x.i) U.op.operands.toList=true
def QB{C:aK}{n am i:Nat}{U:Oper}{k:List Oper}{wr:List (Nat×Nat)}{cs:List fh}(a:sb C n am (U::k) i wr=some cs):
 ∃g op r,Ik wr U.guard=some g/\lO C wr U.op=some op/\Mi n U=true/\Ei C am wr U.op.operands.toList=true/\sb C n am k (i+1) (xx U i wr)=some r/\cs=⟨i,g,op⟩::r:=by
 simp only[sb,l6]at a
 split at a
 ·rename_i g op bS Dl
  simp only[d6,Zp]at a
  obtain⟨⟨H,K⟩,a⟩:=a
  split at a
  ·rename_i r V
   simp at a
   exact⟨g,op,r,bS,Dl,H,K,V,a.symm⟩
  ·simp at a
 ·simp at a
def aaB{n:Nat}{U:Oper}(a:Mi n U=true):∀d,U.dst=some d->d<n:=by
 intro d aI
 unfold Mi at a
 rw[aI]at a
 exact ks a
def QZ{ao:Array Oper}{i:Nat}{U:Oper}{k:List Oper}(a:ao.toList.drop i=U::k):ao[i]? =some U/\ao.toList.drop (i+1)=k/\i<ao.size:=by
 have H:(ao.toList.drop i)[0]? =some U:=by rw[a];rfl
 rw[Yk,ZM]at H
 refine⟨by simpa using H, ?_, ?_⟩
 ·have:(ao.toList.drop i).drop 1=k:=by rw[a];rfl
  rw[zv]at this
  exact this
 ·exact(ZS.1 (by simpa using H)).1
def ami{C:aK}{n am:Nat}{ao:Array Oper}:∀(k:List Oper) (i:Nat) (cs:List fh),ao.toList.drop i=k->sb C n am k i (io ao i)=some cs->
 cs.length=k.length/\∀W x,cs[W]? =some x->x.i=i+W/\∃U,Ls C n am ao x U:=by
 intro k
 induction k with
 |nil=>intro i cs _ a;simp[sb]at a;subst a;simp
 |cons U k ag=>
  intro i cs aI a
  obtain⟨g,op,r,H,K,ak,ay,be,rfl⟩:=QB a
  obtain⟨cI,cE,eV⟩:=QZ aI
  rw[<-Lf cI]at be
  obtain⟨bJ,b2⟩:=ag (i+1) r cE be
  refine⟨by simp[bJ],λW x af=> ?_⟩
  cases W with
  |zero=>simp at af;subst af;exact⟨rfl,U,cI,H,K,aaB ak,ay⟩
  |succ W=>
   simp at af
   obtain⟨B,a7⟩:=b2 W x af
   exact⟨Zo,a7⟩
def anx{iz:List (Nat×Nat)}:∀(k:List Edge) (E:Nat),fm (k.foldr (CK iz) 0) E=true->∃B∈k,Region.binds .any B=true/\(E=B.on\/∃e6,ee iz B.on=some e6/\fm e6 E=true):=by
 intro k
 induction k with
 |nil=>intro E a;simp[LV]at a
 |cons B k ag=>
  intro E a
  simp only[List.foldr_cons]at a
  have pO:fm (k.foldr (CK iz) 0) E=true->∃fy∈B::k,Region.binds .any fy=true/\(E=fy.on\/∃e6,ee iz fy.on=some e6/\fm e6 E=true):=λa=>by
   obtain⟨fy,H,K⟩:=ag E a
   exact⟨fy,Zt _ H,K⟩
  unfold CK at a
  rw[eR]at a
  split at a
  ·exact pO a
  ·rw[eR]at a
   split at a
   ·rename_i ah
    split at a
    ·rename_i o aC
     rw[FA,FA,LU]at a
     simp only[Y1,Zi]at a
     rcases a with (a|a)|a
     ·exact pO a
     ·exact⟨B,Zu ..,ah, .inr ⟨o,aC,a⟩⟩
     ·exact⟨B,Zu ..,ah, .inl a.symm⟩
    ·exact pO a
   ·exact pO a
structure Fo(ao:Array Oper)(p:f9)(U:Oper):Prop where
 oper:ao[p.i]? =some U
 r:p.r=Nat.lor (Hi U.op.operands.toList) (MP (io ao p.i) U.guard)
 w:p.w=Iv U
def ae5{ao:Array Oper}:∀(k:List Oper) (i:Nat) (iz:List (Nat×Nat)),ao.toList.drop i=k->(∀W m,ee iz W=some m->W<i)->
 (BK k i (io ao i) iz).length=k.length/\(∀W p,(BK k i (io ao i) iz)[W]? =some p->p.i=i+W/\∃U,Fo ao p U)/\
 ∀(bk:Nat->Nat->Prop),(∀W m,ee iz W=some m->bk W m)->(∀W U m,ao[W]? =some U->i<=W->(∀E,fm m E=true->∃B∈U.after.toList,Region.binds .any B=true/\(E=B.on\/∃e6,bk B.on e6/\fm e6 E=true))->bk W m)->
  ∀p∈BK k i (io ao i) iz,bk p.i p.m:=by
 intro k
 induction k with
 |nil=>intro i iz _ _;simp[BK]
 |cons U k ag=>
  intro i iz aI sz
  obtain⟨cI,cE,eV⟩:=QZ aI
  simp only[BK,l6]
  rw[<-Lf cI]
  have arV:∀W m,ee ((i,U.after.toList.foldr (CK iz) 0)::iz) W=some m->W<i+1:=by
   intro W m a
   rw[qO]at a
   split at a
   ·omega
   ·have:=sz W m a;omega
  obtain⟨bJ,b2,cF⟩:=ag (i+1) ((i,U.after.toList.foldr (CK iz) 0)::iz) cE arV
  refine⟨by simp only[ZD,bJ],λW p av=> ?_,λbk h6 rg p av=> ?_⟩
  ·cases W with
   |zero=>simp only[Yc,Zf]at av;subst av;exact⟨rfl,U,cI,rfl,rfl⟩
   |succ W=>
    simp only[ZT]at av
    obtain⟨B,a7⟩:=b2 W p av
    exact⟨Zo,a7⟩
  ·have aA:bk i (U.after.toList.foldr (CK iz) 0):=by
    refine rg i U _ cI (Zh _) λE aB=> ?_
    obtain⟨B,H,K,ak⟩:=anx _ E aB
    refine⟨B,H,K,ak.imp id ?_⟩
    rintro⟨e6,ay,be⟩
    exact⟨e6,h6 _ _ ay,be⟩
   rcases Zr.1 av with rfl|av
   ·exact aA
   ·refine cF bk (λW m a=> ?_) (λW U m H K ak=>rg W U m H Zo ak) p av
    rw[qO]at a
    split at a
    ·rename_i B;subst B;cases a;exact aA
    ·exact h6 W m a
def awq{E:f9}:∀{k:List f9},OI E k=true->∀b∈k,OG E b=true:=by
 intro k
 induction k with
 |nil=>intro _ b a;simp at a
 |cons c k ag=>
  intro a b ah
  simp only[OI,Zp]at a
  rcases Zr.1 ah with rfl|ah
  ·exact a.1
  ·exact ag a.2 b ah
def awo:∀{k:List f9},KK k=true->∀(W i:Nat) E b,W<i->k[W]? =some E->k[i]? =some b->OG E b=true:=by
 intro k
 induction k with
 |nil=>intro _ W i E b _ a;simp at a
 |cons c k ag=>
  intro a W i E b acL aB ah
  simp only[KK,Zp]at a
  obtain⟨i,rfl⟩:∃o,i=o+1:=⟨i-1,Zo⟩
  simp at ah
  cases W with
  |zero=>simp at aB;subst aB;exact awq a.1 b (Zn ah)
  |succ W=>simp at aB;exact ag a.2 W i E b Zo aB ah
def awl:∀{k:List Oper}{i:Nat},Eh k i=true->∀W U,k[W]? =some U->∀B∈U.after.toList,Region.binds .any B=true->B.on<i+W:=by
 intro k
 induction k with
 |nil=>intro i _ W U a;simp at a
 |cons E k ag=>
  intro i a W U aS B a7 ah
  simp only[Eh,Zp]at a
  cases W with
  |zero=>
   simp at aS;subst aS
   have:=zk.1 a.1 B a7
   simp only[ah,Yy,Bool.false_or]at this
   have:=ks this
   omega
  |succ W=>
   simp at aS
   have:=ag a.2 W U aS B a7 ah
   omega
def aqT:∀{k:List f9},Jh k=true->∀(p:Nat) E b,k[p]? =some E->k[p+1]? =some b->fm b.m E.i=true:=by
 intro k
 induction k with
 |nil=>intro _ p E b a;simp at a
 |cons c k ag=>
  intro a p E b aB ah
  simp only[Jh,Zp]at a
  cases p with
  |zero=>
   simp at aB ah;subst aB
   cases k with
   |nil=>simp at ah
   |cons d k=>simp at ah;subst ah;exact a.1
  |succ p=>simp at aB ah;exact ag a.2 p E b aB (by simpa using ah)
def aqS:∀(df:List f9) (cs:List fh),Gg df cs=(df.zip cs).filter λx=>nP x.2.op:=by
 intro df
 induction df with
 |nil=>intro cs;rfl
 |cons p df ag=>
  intro cs
  cases cs with
  |nil=>rfl
  |cons c cs=>
   simp only[Gg,List.zip_cons_cons,Yv,eR,ag]
def au3(aD:List f9):∀(df:List f9) (cs:List fh),G3 aD df cs=((df.zip cs).filter λx=> !nP x.2.op).map λx=>⟨x.2,ur x.1.m aD,Bb x.1.i aD⟩:=by
 intro df
 induction df with
 |nil=>intro cs;rfl
 |cons p df ag=>
  intro cs
  cases cs with
  |nil=>rfl
  |cons c cs=>
   simp only[G3,List.zip_cons_cons,Yv,eR,ag]
   cases nP c.op<;>simp
def MB:∀k:List (f9×fh),p7 k=k.map (·.1):=by
 intro k
 induction k with
 |nil=>rfl
 |cons E k ag=>simp[p7,ag]
def amI(m:Nat):∀(aD:List f9) (o:Nat),(∀p a,aD[p]? =some a->o<=p->fm m a.i=false)->ur m aD<=o:=by
 intro aD
 induction aD with
 |nil=>intro o _;simp[ur]
 |cons a aD ag=>
  intro o aC
  simp only[ur,eR]
  cases o with
  |zero=>
   have:=aC 0 a rfl (Zh _)
   rw[this]
   have:=ag 0 (λp cy av _=>aC (p+1) cy (by simpa using av) Zo)
   simpa using this
  |succ o=>
   have:=ag o (λp cy av ge=>aC (p+1) cy (by simpa using av) Zo)
   split<;>omega
def arh(i:Nat):∀(aD:List f9) (o:Nat),o<=aD.length->(∀p a,aD[p]? =some a->p<o->fm a.m i=false)->o<=Bb i aD:=by
 intro aD
 induction aD with
 |nil=>intro o aC _;simp at aC;omega
 |cons a aD ag=>
  intro o Gn aC
  cases o with
  |zero=>omega
  |succ o=>
   have a8:=aC 0 a rfl Zo
   simp only[Bb,a8,ku]
   have:=ag o (by simpa using Gn) (λp cy av cS=>aC (p+1) cy (by simpa using av) Zo)
   omega
end Go.bn

namespace Go.bn
open Go.RowKit (Below)
def pQ(tmps:Array Value)(dst:Option Nat)(v:Value):Array Value:=match dst with|some d=>tmps.setIfInBounds d v|none=>tmps
def OT(tmps:Array Value)(dst:Option Nat)(v:Value):(pQ tmps dst v).size=tmps.size:=by cases dst<;>simp[pQ]
def afV(tmps:Array Value)(dst:Option Nat)(v:Value)(t:Nat)(a:∀d,dst=some d->d<tmps.size):(pQ tmps dst v)[t]? =if dst=some t then some v else tmps[t]? :=by
 cases dst with
 |none=>simp[pQ]
 |some d=>
  have:=a d rfl
  simp only[pQ,Zf,Array.getElem?_setIfInBounds]
  by_cases B:d=t
  ·subst B;simp[this]
  ·simp[B]
def Sub(an hs:List (Nat×z)):Prop:=∀W ac,ee an W=some ac->ee hs W=some ac
def Sub.refl(an:List (Nat×z)):Sub an an:=λ_ _ a=>a
def Sub.trans{E b c:List (Nat×z)}(a:Sub E b)(o:Sub b c):Sub E c:=λW ac bx=>o W ac (a W ac bx)
def Sub.cons{an:List (Nat×z)}{i:Nat}{v:z}(a:ee an i=none):Sub an ((i,v)::an):=λW ac bx=>by
 rw[qO,Zg]
 ·exact bx
 ·intro B;subst B;rw[a]at bx;cases bx
def pq(C:aK)(h R:S ai):Prop:=∀x,Z C h x=Z C R x\/Z C h x=none
inductive vK(ao:Array Oper):(Nat->Prop)->List Nat->Prop
 |nil {dh}:(∀i,i<ao.size->dh i)->vK ao dh []
 |cons {dh i U k}:ao[i]? =some U->¬dh i->(∀B∈U.after.toList,Region.binds .any B=true->dh B.on)->vK ao (add dh i) k->vK ao dh (i::k)
noncomputable def v1(C:aK)(n am:Nat)(ao:Array Oper):List fh:=(sb C n am ao.toList 0 []).getD []
noncomputable def oW(ao:Array Oper):List f9:=BK ao.toList 0 [] []
noncomputable def gu(C:aK)(n am:Nat)(ao:Array Oper):List (f9×fh):=Gg (oW ao) (v1 C n am ao)
noncomputable def lR(C:aK)(n am:Nat)(ao:Array Oper):List pr:=G3 (p7 (gu C n am ao)) (oW ao) (v1 C n am ao)
structure pp(C:aK)(n am:Nat)(ao:Array Oper):Prop where
 amv:sb C n am ao.toList 0 []=some (v1 C n am ao)
 aAU:Eh ao.toList 0=true
 awJ:KK (oW ao)=true
 chain:Jh (p7 (gu C n am ao))=true
section
variable{C:aK}{n am:Nat}{ao:Array Oper}
def QW(a:pp C n am ao):(v1 C n am ao).length=ao.size/\∀W x,(v1 C n am ao)[W]? =some x->x.i=W/\∃U,Ls C n am ao x U:=by
 have a8:=a.amv
 have:=ami (ao:=ao) ao.toList 0 _ Zs (by rw[Lg];exact a8)
 exact⟨by simpa using this.1,λW x af=>by simpa using this.2 W x af⟩
def Is(ao:Array Oper):(oW ao).length=ao.size/\(∀W p,(oW ao)[W]? =some p->p.i=W/\∃U,Fo ao p U):=by
 have:=ae5 (ao:=ao) ao.toList 0 [] Zs Zs
 rw[Lg]at this
 exact⟨by unfold oW;simpa using this.1,λW p av=>by simpa using this.2.1 W p av⟩
noncomputable def qT(C:aK)(n am:Nat)(ao:Array Oper):List (f9×fh):=(oW ao).zip (v1 C n am ao)
def xI(a:pp C n am ao)(i:Nat)(aA:i<ao.size):∃p x U,(qT C n am ao)[i]? =some (p,x)/\(oW ao)[i]? =some p/\p.i=i/\x.i=i/\Ls C n am ao x U/\Fo ao p U:=by
 obtain⟨bd,ca⟩:=QW a
 obtain⟨ch,cD⟩:=Is ao
 have af:(v1 C n am ao)[i]? =some ((v1 C n am ao)[i]'Zo):=Ze _
 have av:(oW ao)[i]? =some ((oW ao)[i]'Zo):=Ze _
 obtain⟨dF,U,dR⟩:=ca _ _ af
 obtain⟨cI,o',cE⟩:=cD _ _ av
 have:o'=U:=by
  have bw:=dR.oper;have b3:=cE.oper
  rw[dF]at bw;rw[cI]at b3
  rw[bw]at b3;exact(Ym b3).symm
 subst this
 refine⟨_,_,o', ?_,av,cI,dF,dR,cE⟩
 unfold qT
 rw[List.getElem?_zip_eq_some]
 exact⟨av,af⟩
def xJ(a:pp C n am ao){e:f9×fh}(D:e∈qT C n am ao):∃U,e.1.i<ao.size/\e.2.i=e.1.i/\(qT C n am ao)[e.1.i]? =some e/\(oW ao)[e.1.i]? =some e.1/\Ls C n am ao e.2 U/\Fo ao e.1 U:=by
 obtain⟨W,bx⟩:=Z2.1 D
 have ej:(qT C n am ao).length=ao.size:=by
  unfold qT
  rw[List.length_zip,(QW a).1,(Is ao).1,Nat.min_self]
 have cS:W<ao.size:=zC (Zb.1 bx).1
 obtain⟨p,x,U,H,K,ak,ay,be,bV⟩:=xI a W cS
 rw[bx]at H
 cases H
 refine⟨U,by simp only;omega,by simp only;omega, ?_, ?_,be,bV⟩
 ·simp only[ak];exact bx
 ·simp only[ak];exact K
def Mc:gu C n am ao=(qT C n am ao).filter λ(x:f9×fh)=>nP x.2.op:=aqS _ _
def Me:lR C n am ao=((qT C n am ao).filter λ(x:f9×fh)=> !nP x.2.op).map λ(x:f9×fh)=>⟨x.2,ur x.1.m (p7 (gu C n am ao)),Bb x.1.i (p7 (gu C n am ao))⟩:=au3 _ _ _
def Mg{k:pr}(aw:k∈lR C n am ao):∃p,(p,k.x)∈qT C n am ao/\nP k.x.op=false/\k.bC=ur p.m (p7 (gu C n am ao))/\k.aA=Bb p.i (p7 (gu C n am ao)):=by
 rw[Me]at aw
 obtain⟨e,D,rfl⟩:=ZB.1 aw
 obtain⟨H,K⟩:=YG.1 D
 exact⟨e.1,H,by simpa using K,rfl,rfl⟩
def Md{e:f9×fh}(D:e∈gu C n am ao):e∈qT C n am ao/\nP e.2.op=true:=by
 rw[Mc]at D
 exact YG.1 D
def aax(a:pp C n am ao)(i:Nat)(aA:i<ao.size):(∃k∈lR C n am ao,k.x.i=i)\/(∃(p:Nat) (e:f9×fh),(gu C n am ao)[p]? =some e/\e.1.i=i):=by
 obtain⟨p,x,U,H,K,ak,ay,be,bV⟩:=xI a i aA
 have aZ:=Zn H
 cases gC:nP x.op with
 |true=>
  refine .inr ?_
  have:(p,x)∈gu C n am ao:=by rw[Mc];exact YG.2 ⟨aZ,gC⟩
  obtain⟨al,bP⟩:=Z2.1 this
  exact⟨al,_,bP,ak⟩
 |false=>
  refine .inl ⟨_,by rw[Me];exact ZB.2 ⟨(p,x),YG.2 ⟨aZ,by simp[gC]⟩,rfl⟩,ay⟩
def aaw(a:pp C n am ao):(qT C n am ao).Pairwise λE b=>E.1.i<b.1.i:=by
 rw[YZ]
 intro i W aA bx su
 have ej:(qT C n am ao).length=ao.size:=by
  unfold qT
  rw[List.length_zip,(QW a).1,(Is ao).1,Nat.min_self]
 obtain⟨p,x,U,H,K,ak,_⟩:=xI a i Zo
 obtain⟨aCO,iR,o',q0,F4,aAZ,_⟩:=xI a W Zo
 rw[Ze aA]at H
 rw[Ze bx]at q0
 rw[Ym H,Ym q0]
 simp only;omega
def aav(a:pp C n am ao){p al:Nat}{e aG:f9×fh}(av:(gu C n am ao)[p]? =some e)(bP:(gu C n am ao)[al]? =some aG)(a7:e.1.i=aG.1.i):p=al:=by
 have JN:(gu C n am ao).Pairwise λE b=>E.1.i<b.1.i:=by rw[Mc];exact(aaw a).filter _
 rw[YZ]at JN
 obtain⟨H,K⟩:=Zb.1 av
 obtain⟨ak,ay⟩:=Zb.1 bP
 rcases YQ p al with cS|rfl|gV
 ·have:=JN p al H ak cS
  rw[K,ay]at this;omega
 ·rfl
 ·have:=JN al p ak H gV
  rw[K,ay]at this;omega
def QX(a:pp C n am ao):(lR C n am ao).Pairwise λE b=>E.x.i<b.x.i:=by
 rw[Me,List.pairwise_map]
 have H:((qT C n am ao).filter λ(x:f9×fh)=> !nP x.2.op).Pairwise λE b=>E.1.i<b.1.i:=(aaw a).filter _
 refine H.imp_of_mem λ{E b} aB ah cS=> ?_
 obtain⟨_,_,bw,_⟩:=xJ a (YG.1 aB).1
 obtain⟨_,_,b3,_⟩:=xJ a (YG.1 ah).1
 show E.2.i<b.2.i
 rw[bw,b3];exact cS
def Mf(a:pp C n am ao){k:pr}(aw:k∈lR C n am ao):k.x.i<ao.size:=by
 obtain⟨p,av,_⟩:=Mg aw
 obtain⟨_,H,K,_⟩:=xJ a av
 simp only at H K;omega
def ana(a:pp C n am ao){e:f9×fh}(D:e∈gu C n am ao):e.1.i<ao.size/\e.2.i=e.1.i:=by
 obtain⟨_,H,K,_⟩:=xJ a (Md D).1
 exact⟨H,K⟩
def Ch(ao:Array Oper)(dh:Nat->Prop):Prop:=∀i U,ao[i]? =some U->dh i->∀B∈U.after.toList,Region.binds .any B=true->dh B.on
def It{dh:Nat->Prop}(cd:Ch ao dh){p:f9}(av:p∈oW ao){U:Oper}(aS:ao[p.i]? =some U)
 (lV:∀B∈U.after.toList,Region.binds .any B=true->dh B.on):∀E,fm p.m E=true->dh E:=by
 have key:=(ae5 (ao:=ao) ao.toList 0 [] Zs Zs).2.2 (λi m=>(∀U,ao[i]? =some U->∀B∈U.after.toList,Region.binds .any B=true->dh B.on)->∀E,fm m E=true->dh E) Zs
  (λW U m bx _ aZ lV E aB=>by
   obtain⟨B,H,K,ak⟩:=aZ E aB
   have a7:=lV U bx B H K
   rcases ak with rfl|⟨e6,ay,be⟩
   ·exact a7
   ·exact ay (λo' Gv fy aqN jm=>cd B.on o' Gv a7 fy aqN jm) E be)
 rw[Lg]at key
 exact key p av (λo' Gv=>by rw[aS]at Gv;cases Gv;exact lV)
end
structure Lp(C:aK)(Y:Nat->Prop)(h:S ai)(base:Nat)(an:List (Nat×z))(I:S z)(x:fh)(ac:z):Prop where
 key:ee an x.i=some ac
 ok:∃kr b,Sub kr an/\oJ x.g kr=some b/\(b=false->ac=undef)/\(b=true->(nP x.op=false)/\
  (mG x.op= .make->∃cN,oc x.op C (base+x.i) kr I=some (ac,cN)/\Z C h (base+x.i)=some cN)/\
  (mG x.op= .h9->B6 x.op=false->∀je,gJ x.op C je kr I=some ac))
def HW(C:aK)(h:S ai)(an:List (Nat×z))(I:S z)(x:fh)(ac:z):Prop:=
 ∃kr je b,Sub kr an/\pq C je h/\oJ x.g kr=some b/\(b=true->mG x.op= .h9->gJ x.op C je kr I=some ac)
def Ag(J:c1)(Y:Nat->Prop)(am:Nat)(ao:Array Oper)(dh:Nat->Prop)(an:List (Nat×z))(I:S z)(tmps:Array Value):Prop:=
 ∀t v,((∃W,dh W/\sc ao W=some t/\(∀pa,dh pa->sc ao pa=some t->pa<=W)/\ee an W=some v)\/((∀W,dh W->sc ao W≠some t)/\fm am t=true/\I.get t=some v))->
  tmps[t]? =some (aF J v)/\b7 Y v
structure qL(C:aK)(J:c1)(Y:Nat->Prop)(h:S ai)(base n am:Nat)(ao:Array Oper)(an:List (Nat×z))(o m:Nat)(I:S z)(tmps:Array Value)(dh:Nat->Prop):Prop where
 st:pp C n am ao
 size:tmps.size=n
 Of:o<=(gu C n am ao).length
 dj:C.bf<=base
 closed:Ch ao dh
 wI:∀i,dh i->i<ao.size
 done:∀p a,(gu C n am ao)[p]? =some a->(dh a.1.i↔p<o)
 tN:∀k∈lR C n am ao,dh k.x.i->k.bC<m
 keys:∀i ac,ee an i=some ac->(∃k∈lR C n am ao,k.x.i=i/\k.bC<m)\/(∃p a,(gu C n am ao)[p]? =some a/\a.1.i=i/\p<o)
 uU:∀p a,(gu C n am ao)[p]? =some a->p<o->∃ac,ee an a.1.i=some ac
 ahead:∀k∈lR C n am ao,k.bC<m->∃ac,ee an k.x.i=some ac/\(¬dh k.x.i->Lp C Y h base an I k.x ac)
 CH:Ag J Y am ao dh an I tmps
 ids:∀i,i<ao.size->Y (base+i)->dh i
 free:∀i,i<ao.size->ee an i=none->Z C h (base+i)=none
section
variable{C:aK}{J c6:c1}{Y dr:Nat->Prop}{h R:S ai}{j ap bj:Nat}{w bE:World}
def oT.ad{am:Nat}{X:Nat->Prop}{wr:List (Nat×Nat)}{an:List (Nat×z)}{I:S z}{tmps:Array Value}(dB:∀b,Y b->c6 b=J b)(gv:∀b,Y b->dr b)(a:oT J Y am X wr an I tmps):oT c6 dr am X wr an I tmps:=
 λt v af bo=>by
  obtain⟨H,K⟩:=a t v af bo
  exact⟨by rw[H,p4 dB K],oZ gv v K⟩
def Ag.ad{am:Nat}{ao:Array Oper}{dh:Nat->Prop}{an:List (Nat×z)}{I:S z}{tmps:Array Value}(dB:∀b,Y b->c6 b=J b)(gv:∀b,Y b->dr b)(a:Ag J Y am ao dh an I tmps):Ag c6 dr am ao dh an I tmps:=
 λt v bo=>by
  obtain⟨H,K⟩:=a t v bo
  exact⟨by rw[H,p4 dB K],oZ gv v K⟩
def rX.ad(dB:∀b,Y b->c6 b=J b)(gv:∀b,Y b->dr b)(a:rX C J Y):rX C c6 dr:=λg bS=>by
 obtain⟨H,K,ak⟩:=a g bS
 exact⟨gv g H,by rw[dB g H];exact K,by rw[dB g H];exact ak⟩
def qL.ad{cJ base n am o m:Nat}{ao:Array Oper}{an:List (Nat×z)}{I:S z}{tmps:Array Value}{dh:Nat->Prop}(af:hF C cJ J Y h bj w c6 dr R bE)(aw:base+ao.size<=cJ)
 (a:qL C J Y h base n am ao an o m I tmps dh):qL C c6 dr R base n am ao an o m I tmps dh:=by
 have Gk:∀i,i<ao.size->dr (base+i)->dh i:=λi aA aI=>(af.new _ aI).elim (a.ids i aA) (λal=>Zo)
 refine⟨a.st,a.size,a.Of,a.dj,a.closed,a.wI,a.done,a.tN,a.keys,a.uU, ?_,a.CH.ad af.im af.jh,Gk, ?_⟩
 ·intro k hn l9
  obtain⟨ac,H,K⟩:=a.ahead k hn l9
  refine⟨ac,H,λcd=> ?_⟩
  obtain⟨ak,kr,b,ay,be,bV,c9⟩:=K cd
  refine⟨ak,kr,b,ay,be,bV,λah=> ?_⟩
  obtain⟨eg,hI,kO⟩:=c9 ah
  refine⟨eg,λaC=> ?_,kO⟩
  obtain⟨cN,lU,qa⟩:=hI aC
  refine⟨cN,lU, ?_⟩
  have cS:=Mf a.st hn
  rw[af.ad _ (λaI=>cd (a.ids _ cS aI)) Zo]
  exact qa
 ·intro i aA bo
  rw[af.ad _ ?_ Zo]
  ·exact a.free i aA bo
  ·intro aI
   have cd:=a.ids i aA aI
   rcases aax a.st i aA with ⟨k,lu,la⟩|⟨p,e,av,D⟩
   ·obtain⟨ac,aX,_⟩:=a.ahead k lu (a.tN k lu (by rw[la];exact cd))
    rw[la,bo]at aX;cases aX
   ·obtain⟨ac,aX⟩:=a.uU p e av ((a.done p e av).1 (by rw[D];exact cd))
    rw[D,bo]at aX;cases aX
end
end Go.bn

namespace Go.bn
open Go.RowKit (Below)
section
variable{C:aK}{J c6:c1}{Y dr:Nat->Prop}{h R:S ai}{j ap bj:Nat}{w bE:World}{n am:Nat}{ao:Array Oper}
def aeB{E b t:Nat}(H:fm E t=true)(K:fm b t=true):Nat.beq (Nat.land E b) 0=false:=by
 cases a:Nat.beq (Nat.land E b) 0 with
 |false=>rfl
 |true=>
  have B:=Zj a
  have:=al3 E b t
  rw[B,LV,H,K]at this
  cases this
def OR{p:f9}{U:Oper}(a:Fo ao p U){t:Nat}(aI:U.dst=some t):fm p.w t=true:=by rw[a.w];exact anl.2 aI
def axa{p:f9}{U:Oper}(a:Fo ao p U){t:Nat}(V:Operand.tmp t∈U.op.operands.toList):fm p.r t=true:=by
 rw[a.r,FA,awz.2 V];rfl
def QK(a:pp C n am ao){i W:Nat}{p al:f9}(su:i<W)(av:(oW ao)[i]? =some p)(bP:(oW ao)[W]? =some al){t:Nat}
 (ax:(fm p.w t=true/\(fm al.r t=true\/fm al.w t=true))\/(fm al.w t=true/\fm p.r t=true)):fm al.m i=true:=by
 have:=awo a.awJ i W p al su av bP
 have JM:p.i=i:=((Is ao).2 i p av).1
 unfold OG at this
 rw[JM]at this
 rcases ax with ⟨H,K⟩|⟨H,K⟩
 ·have ak:fm (Nat.lor al.r al.w) t=true:=by rw[FA];rcases K with K|K<;>simp[K]
  rw[aeB H ak]at this
  simpa using this
 ·rw[aeB H K]at this
  simpa using this
def Ot{i:Nat}{p:f9}(av:(oW ao)[i]? =some p):p∈oW ao:=Zn av
def anb(cX:pp C n am ao){dh:Nat->Prop}{an:List (Nat×z)}{I:S z}{tmps:Array Value}(g4:Ch ao dh)(Jl:∀i,dh i->i<ao.size)(aI:Ag J Y am ao dh an I tmps)
 {i:Nat}{p:f9}{U:Oper}(av:(oW ao)[i]? =some p)(aS:ao[i]? =some U)(pG:¬dh i)(lV:∀B∈U.after.toList,Region.binds .any B=true->dh B.on):
 oT J Y am (λt=>fm p.r t=true) (io ao i) an I tmps:=by
 have aA:i<ao.size:=(ZS.1 aS).1
 obtain⟨_,ev,f3⟩:=Lh ao i (zw aA)
 have JM:p.i=i:=((Is ao).2 i p av).1
 have Nx:=It g4 (Ot av) (by rw[JM];exact aS) lV
 have aeD:∀t W,fm p.r t=true->i<W->dh W->sc ao W=some t->False:=by
  intro t W V su cd uN
  obtain⟨al,x,yN,_,bP,wF,_,af,yr⟩:=xI cX W (Jl W cd)
  have yn:ao[W]? =some yN:=by rw[<-wF];exact yr.oper
  have bF:=OR yr (t:=t) (by rw[<-Iw yn];exact uN)
  have ah:=QK cX su av bP (.inr ⟨bF,V⟩)
  have:=It g4 (Ot bP) (by rw[wF];exact yn) (g4 W yN yn cd) i ah
  exact pG this
 intro t v bT bo
 apply aI t v
 split at bo
 ·rename_i W bx
  obtain⟨b4,b1,cM⟩:=ev t W bx
  left
  have arq:W<ao.size:=Zo
  obtain⟨al,x,yN,_,bP,wF,_,af,yr⟩:=xI cX W arq
  have yn:ao[W]? =some yN:=by rw[<-wF];exact yr.oper
  have bF:=OR yr (t:=t) (by rw[<-Iw yn];exact b1)
  have ah:=QK cX b4 bP av (.inl ⟨bF, .inl bT⟩)
  refine⟨W,Nx W ah,b1,λpa C0 sp=> ?_,bo⟩
  rcases YQ pa i with H|H|H
  ·rcases zd W pa with K|K
   ·exact absurd sp (cM pa K H)
   ·exact K
  ·exact absurd (H▸C0) pG
  ·exact(aeD t pa bT H C0 sp).elim
 ·rename_i bx
  right
  refine⟨λW cd uN=> ?_,bo.1,bo.2⟩
  rcases YQ W i with H|H|H
  ·exact f3 t bx W H uN
  ·exact pG (H▸cd)
  ·exact aeD t W bT H cd uN
def Ag.put(cX:pp C n am ao){dh:Nat->Prop}{an hs:List (Nat×z)}{I:S z}{tmps:Array Value}(g4:Ch ao dh)(Jl:∀i,dh i->i<ao.size)(aI:Ag J Y am ao dh an I tmps)(dW:tmps.size=n)
 {i:Nat}{U:Oper}{v:z}(aS:ao[i]? =some U)(pG:¬dh i)(R2:∀W,dh W->∀ac,ee hs W=some ac->ee an W=some ac)(aqj:ee hs i=some v)(qh:∀d,U.dst=some d->d<n)(fo:b7 Y v):
 Ag J Y am ao (add dh i) hs I (pQ tmps U.dst (aF J v)):=by
 have aA:i<ao.size:=(ZS.1 aS).1
 have Sk:=Iw aS
 have tC:∀t,(pQ tmps U.dst (aF J v))[t]? =if U.dst=some t then some (aF J v)else tmps[t]? :=λt=>afV _ _ _ _ (by rw[dW];exact qh)
 intro t ac a
 rw[tC]
 by_cases Ge:U.dst=some t
 ·rw[Zq Ge]
  rcases a with ⟨W,cd,uN,tA,aX⟩|⟨H,_⟩
  ·
   have acL:W=i:=by
    rcases cd with cd|cd
    ·have ge:=tA i (.inr rfl) (by rw[Sk];exact Ge)
     rcases zd i W with cS|A9
     ·exfalso
      obtain⟨p,x,awk,_,av,JM,_,_,sC⟩:=xI cX i aA
      obtain⟨al,iR,yN,_,bP,wF,_,_,yr⟩:=xI cX W (Jl W cd)
      have yn:ao[W]? =some yN:=by rw[<-wF];exact yr.oper
      have asb:awk=U:=by
       have:=sC.oper
       rw[JM,aS]at this
       exact(Ym this).symm
      subst asb
      have ah:=QK cX cS av bP (.inl ⟨OR sC Ge, .inr (OR yr (by rw[<-Iw yn];exact uN))⟩)
      exact pG (It g4 (Ot bP) (by rw[wF];exact yn) (g4 W yN yn cd) i ah)
     ·omega
    ·exact cd
   subst acL
   rw[aqj]at aX
   cases aX
   exact⟨rfl,fo⟩
  ·exact absurd (by rw[Sk];exact Ge) (H i (.inr rfl))
 ·rw[Zg Ge]
  apply aI t ac
  rcases a with ⟨W,cd,uN,tA,aX⟩|⟨H,K⟩
  ·left
   have C0:dh W:=cd.resolve_right λB=>Ge (by rw[<-Sk, <-B];exact uN)
   exact⟨W,C0,uN,λpa Jm sp=>tA pa (.inl Jm) sp,R2 W C0 ac aX⟩
  ·right
   exact⟨λW bx=>H W (.inl bx),K⟩
def Ch.add{dh:Nat->Prop}(g4:Ch ao dh){i:Nat}{U:Oper}(aS:ao[i]? =some U)(lV:∀B∈U.after.toList,Region.binds .any B=true->dh B.on):Ch ao (add dh i):=by
 intro W yN bx cd B a7 ah
 rcases cd with cd|cd
 ·exact .inl (g4 W yN bx cd B a7 ah)
 ·subst cd
  rw[aS]at bx;cases bx
  exact .inl (lV B a7 ah)
def Oj(cX:pp C n am ao){k:pr}(aw:k∈lR C n am ao){p:Nat}{e:f9×fh}(av:(gu C n am ao)[p]? =some e):k.x.i≠e.1.i:=by
 intro B
 obtain⟨al,H,K,_⟩:=Mg aw
 obtain⟨ak,ay⟩:=Md (Zn av)
 obtain⟨_,_,b1,cM,_⟩:=xJ cX H
 obtain⟨_,_,b2,cF,_⟩:=xJ cX ak
 simp only at b1 cM
 rw[<-b1,B,cF]at cM
 cases cM
 rw[K]at ay;cases ay
def qL.fg{base de:Nat}{an:List (Nat×z)}{I:S z}{tmps:Array Value}{dh:Nat->Prop}(a:qL C J Y h base n am ao an de (de+1) I tmps dh){e:f9×fh}(D:(gu C n am ao)[de]? =some e)
 {U:Oper}(aS:ao[e.1.i]? =some U)(pG:¬dh e.1.i)(lV:∀B∈U.after.toList,Region.binds .any B=true->dh B.on){v:z}(fo:b7 Y v)(qh:∀d,U.dst=some d->d<n):
 qL C J Y h base n am ao ((e.1.i,v)::an) (de+1) (de+1) I (pQ tmps U.dst (aF J v)) (add dh e.1.i):=by
 have Sv:ee an e.1.i=none:=by
  cases bo:ee an e.1.i with
  |none=>rfl
  |some ac=>
   exfalso
   rcases a.keys _ ac bo with ⟨k,H,K,_⟩|⟨p,aG,H,K,ak⟩
   ·exact Oj a.st H D K
   ·have:=aav a.st H D K;omega
 have yw:Sub an ((e.1.i,v)::an):=Sub.cons Sv
 have aA:e.1.i<ao.size:=(ZS.1 aS).1
 refine⟨a.st,by rw[OT];exact a.size,zC (Zb.1 D).1,a.dj,a.closed.add aS lV, ?_, ?_, ?_, ?_, ?_, ?_, ?_, ?_, ?_⟩
 ·rintro i (cd|cd)
  ·exact a.wI i cd
  ·omega
 ·intro p aG ce
  constructor
  ·rintro(cd|cd)
   ·have:=(a.done p aG ce).1 cd;omega
   ·have:=aav a.st ce D cd;omega
  ·intro av
   rcases zd p de with cS|A9
   ·exact .inl ((a.done p aG ce).2 cS)
   ·have:p=de:=Zo
    subst this
    rw[D]at ce;cases ce
    exact .inr rfl
 ·rintro k aw (cd|cd)
  ·exact a.tN k aw cd
  ·exact(Oj a.st aw D cd).elim
 ·intro i ac aX
  rw[qO]at aX
  split at aX
  ·rename_i B
   exact .inr ⟨de,e,D,B,Zo⟩
  ·rcases a.keys i ac aX with H|⟨p,aG,H,K,ak⟩
   ·exact .inl H
   ·exact .inr ⟨p,aG,H,K,Zo⟩
 ·intro p aG ce av
  rw[qO]
  split
  ·exact⟨v,rfl⟩
  ·rename_i cK
   have:p≠de:=λB=>by subst B;rw[D]at ce;cases ce;exact cK rfl
   exact a.uU p aG ce Zo
 ·intro k aw l9
  obtain⟨ac,H,K⟩:=a.ahead k aw l9
  refine⟨ac,yw _ _ H,λcd=> ?_⟩
  obtain⟨_,kr,b,ay,be⟩:=K (λal=>cd (.inl al))
  exact⟨yw _ _ H,kr,b,ay.trans yw,be⟩
 ·refine a.CH.put a.st a.closed a.wI a.size aS pG ?_ (by rw[qO,Zq rfl]) qh fo
  intro W cd ac aX
  rw[qO,Zg]at aX
  ·exact aX
  ·intro B;subst B;exact pG cd
 ·intro i ky aI
  exact .inl (a.ids i ky aI)
 ·intro i ky bo
  rw[qO]at bo
  split at bo
  ·cases bo
  ·exact a.free i ky bo
def qL.h9{base de m:Nat}{an:List (Nat×z)}{I:S z}{tmps:Array Value}{dh:Nat->Prop}(a:qL C J Y h base n am ao an de m I tmps dh){k:pr}(aw:k∈lR C n am ao)(l9:k.bC<m)
 {U:Oper}(aS:ao[k.x.i]? =some U)(pG:¬dh k.x.i)(lV:∀B∈U.after.toList,Region.binds .any B=true->dh B.on){v:z}(bo:ee an k.x.i=some v)
 (dB:∀b,Y b->c6 b=J b)(gv:∀b,Y b->dr b)(apR:∀b,dr b->Y b\/b=base+k.x.i)(fo:b7 dr v)(qh:∀d,U.dst=some d->d<n):
 qL C c6 dr h base n am ao an de m I (pQ tmps U.dst (aF c6 v)) (add dh k.x.i):=by
 have aA:k.x.i<ao.size:=(ZS.1 aS).1
 refine⟨a.st,by rw[OT];exact a.size,a.Of,a.dj,a.closed.add aS lV, ?_, ?_, ?_,a.keys,a.uU, ?_, ?_, ?_,a.free⟩
 ·rintro i (cd|cd)
  ·exact a.wI i cd
  ·omega
 ·intro p aG ce
  constructor
  ·rintro(cd|cd)
   ·exact(a.done p aG ce).1 cd
   ·exact(Oj a.st aw ce cd.symm).elim
  ·intro av
   exact .inl ((a.done p aG ce).2 av)
 ·rintro bQ hn (cd|cd)
  ·exact a.tN bQ hn cd
  ·have:=(QX a.st)
   by_cases al:bQ=k
   ·rw[al];exact l9
   ·exfalso
    obtain⟨E,aB⟩:=Z2.1 hn
    obtain⟨b,ah⟩:=Z2.1 aw
    obtain⟨I6,nH⟩:=Zb.1 aB
    obtain⟨m0,ls⟩:=Zb.1 ah
    rw[YZ]at this
    rcases YQ E b with cS|B|gV
    ·have:=this E b I6 m0 cS
     rw[nH,ls]at this;omega
    ·subst B
     rw[nH]at ls;exact al ls
    ·have:=this b E m0 I6 gV
     rw[nH,ls]at this;omega
 ·intro bQ hn arI
  obtain⟨ac,H,K⟩:=a.ahead bQ hn arI
  refine⟨ac,H,λcd=> ?_⟩
  obtain⟨ak,kr,b,ay,be,bV,c9⟩:=K (λal=>cd (.inl al))
  exact⟨ak,kr,b,ay,be,bV,c9⟩
 ·exact(a.CH.ad dB gv).put a.st a.closed a.wI a.size aS pG (λ_ _ _ al=>al) bo qh fo
 ·intro i ky aI
  rcases apR _ aI with aI|aI
  ·exact .inl (a.ids i ky aI)
  ·exact .inr Zo
end
end Go.bn

namespace Go.bn
open Go.RowKit (Below)
def tc(J:c1)(p:rM):PanicEntry:={v:=aF J p.v,recovered:=p.recovered}
def gB(J:c1):k1->FrameMode
 | .run=> .run
 | .returning=> .returning
 | .panicking fW=> .panicking (fW.map (tc J))
def p8(Y:Nat->Prop):k1->Prop
 | .panicking fW=>∀p∈fW,b7 Y p.v
 |_=>True
inductive Cj(C:aK)(J:c1)(Y:Nat->Prop)(am:Nat):dJ->Item->Prop
 |code {c:Code}:lP C am c=true->Cj C J Y am (.code c) (.code c)
 |inBlock {id:Nat}:Cj C J Y am (.inBlock id) (.inBlock id)
 |inLoop {b:Code}:lP C am b=true->Cj C J Y am (.inLoop b) (.inLoop b)
 |inScope {b:Code}:lP C am b=true->Cj C J Y am (.inScope b) (.inScope b)
 |CL {k:Nat}:Y k->Cj C J Y am (.endRangeFunc k) (.endRangeFunc (J k).cr)
 |begin:Cj C J Y am .beginRound .beginRound
inductive lI(C:aK)(J:c1)(Y:Nat->Prop)(am:Nat):List dJ->List Item->Prop
 |nil:lI C J Y am [] []
 |cons {E x o bB}:Cj C J Y am E x->lI C J Y am o bB->lI C J Y am (E::o) (x::bB)
def P7(C:aK)(J:c1)(Y:Nat->Prop)(n am:Nat)(ao:Array Oper)(an:List (Nat×z))(rest:List fh)(fin:List (Nat×Nat))(I:S z)(tmps:Array Value)(k:List Nat):Prop:=
 ∃i,i<=ao.size/\k=List.range' i (ao.size-i)/\sb C n am (ao.toList.drop i) i (io ao i)=some rest/\fin=k6 am ao.toList 0/\oT J Y am (λ_=>True) (io ao i) an I tmps/\tmps.size=n
def akU(C:aK)(J:c1)(Y:Nat->Prop)(n am:Nat)(ao:Array Oper)(an:List (Nat×z))(a:Nat)(rest:List fh)(fin:List (Nat×Nat))(I:S z)(tmps:Array Value)(k:List Nat):Prop:=
 ∃U,ao[a]? =some U/\(∀d,U.dst=some d->d<n)/\k=List.range' (a+1) (ao.size-(a+1))/\sb C n am (ao.toList.drop (a+1)) (a+1) (io ao (a+1))=some rest/\fin=k6 am ao.toList 0/\
  oT J Y am (λ_=>True) (io ao a) an I tmps/\tmps.size=n
inductive Cq(C:aK)(J:c1)(Y:Nat->Prop)(h:S ai)(cJ j n am:Nat)(I:S z)(tmps:Array Value):List dJ->List Item->Prop
 |plain {o bB}:lI C J Y am o bB->jr J Y n am I tmps->Cq C J Y h cJ j n am I tmps o bB
 |seq {ao an rest fin k o bB}:lI C J Y am o bB->P7 C J Y n am ao an rest fin I tmps k->Cq C J Y h cJ j n am I tmps (.Hr ao an rest fin::o) (.inRegion ao k::bB)
 |drawn {ao base an k o bB dh de}:lI C J Y am o bB->cJ<=base->base+ao.size<=j->qL C J Y h base n am ao an de de I tmps dh->vK ao dh k->
   Cq C J Y h cJ j n am I tmps (.drawn ao base an (yL (lR C n am ao) de ((gu C n am ao).drop de)) (k6 am ao.toList 0)::o) (.inRegion ao k::bB)
inductive mr(C:aK)(J:c1)(Y:Nat->Prop)(h:S ai)(bC aA n am:Nat)(I:S z)(tmps:Array Value):List dJ->List Item->Prop
 |seq {ao an a rest fin k o bB}:lI C J Y am o bB->akU C J Y n am ao an a rest fin I tmps k->mr C J Y h bC aA n am I tmps (.s0 ao an a rest fin::o) (.inRegion ao (a::k)::bB)
 |drawn {ao base an k o bB dh de e U}:lI C J Y am o bB->bC<=base->base+ao.size<=aA->qL C J Y h base n am ao an de (de+1) I tmps dh->(gu C n am ao)[de]? =some e->
   ao[e.1.i]? =some U->¬dh e.1.i->(∀B∈U.after.toList,Region.binds .any B=true->dh B.on)->vK ao (add dh e.1.i) k->
   mr C J Y h bC aA n am I tmps (.y9 ao base an e.1.i (yL (lR C n am ao) (de+1) ((gu C n am ao).drop (de+1))) (k6 am ao.toList 0)::o) (.inRegion ao (e.1.i::k)::bB)
 |du {k o bB}:lI C J Y am o bB->jr J Y n am I tmps->Y k->mr C J Y h bC aA n am I tmps (.inRangeFunc k::o) (.inRangeFunc (J k).cr::bB)
def At(C:aK)(J:c1)(Y:Nat->Prop)(h:S ai)(bC aA n am:Nat)(I:S z)(tmps:Array Value)(bN:k1)(todo:List dJ)(bB:List Item):Prop:=match bN with
 | .run=>mr C J Y h bC aA n am I tmps todo bB
 |_=>jr J Y n am I tmps
def cn(J:c1)(fn:Nat)(bg:List hE)(aN:Bool)(ro:Option Nat)(tmps:Array Value)(bB:List Item)(mode:FrameMode):Frame:=
 {fn,tmps,todo:=bB,defers:=bg.map (lN J),mode,kind:=if aN then .deferred else .normal,roundOf:=ro.map λk=>(J k).cr}
structure vF(C:aK)(Y:Nat->Prop)(fn am:Nat)(bg:List hE)(ro:Option Nat):Prop where
 bg:∀d∈bg,wd Y d
 ro:∀k,ro=some k->Y k
 fn:PU C fn am
inductive oM(C:aK)(J:c1)(Y:Nat->Prop)(h:S ai)(bD:Nat)(bO:List Frame):Nat->List gz->List Frame->Prop
 |nil {cJ}:oM C J Y h bD bO cJ [] bO
 |cons {bC cJ fn n am I todo bg bN aN ro cs tmps bB aE}:At C J Y h bC cJ n am I tmps bN todo bB->p8 Y bN->vF C Y fn am bg ro->(cs=[]->fn=bD/\aN=false/\ro=none)->bC<=cJ->oM C J Y h bD bO bC cs aE->
   oM C J Y h bD bO cJ (⟨fn,n,am,I,todo,bg,bN,aN,ro⟩::cs) (cn J fn bg aN ro tmps bB (gB J bN)::aE)
section
variable{C:aK}{J c6:c1}{Y dr:Nat->Prop}{h R:S ai}{j ap bj:Nat}{w bE:World}{n am:Nat}{ao:Array Oper}
def lI.ad{o:List dJ}{bB:List Item}(dB:∀b,Y b->c6 b=J b)(gv:∀b,Y b->dr b)(a:lI C J Y am o bB):lI C c6 dr am o bB:=by
 induction a with
 |nil=>exact .nil
 |cons H _ ag=>
  refine .cons ?_ ag
  cases H with
  |code a=>exact .code a
  |inBlock=>exact .inBlock
  |inLoop a=>exact .inLoop a
  |inScope a=>exact .inScope a
  |CL a=>rw[<-dB _ a];exact .CL (gv _ a)
  |begin=>exact .begin
def mr.ad{bC cJ:Nat}{I:S z}{tmps:Array Value}{o:List dJ}{bB:List Item}(af:hF C cJ J Y h bj w c6 dr R bE)(a:mr C J Y h bC cJ n am I tmps o bB):mr C c6 dr R bC cJ n am I tmps o bB:=by
 cases a with
 |seq H K=>
  obtain⟨U,bd,ca,a3,a4,a5,h2,ih⟩:=K
  exact .seq (H.ad af.im af.jh) ⟨U,bd,ca,a3,a4,a5,h2.ad af.im af.jh,ih⟩
 |drawn H K ak ay be bV c9 eg hI=>exact .drawn (H.ad af.im af.jh) K ak (ay.ad af ak) be bV c9 eg hI
 |du H K ak=>rw[<-af.im _ ak];exact .du (H.ad af.im af.jh) (K.ad af.im af.jh) (af.jh _ ak)
def At.ad{bC cJ:Nat}{I:S z}{tmps:Array Value}{bN:k1}{o:List dJ}{bB:List Item}(af:hF C cJ J Y h bj w c6 dr R bE)(a:At C J Y h bC cJ n am I tmps bN o bB):At C c6 dr R bC cJ n am I tmps bN o bB:=by
 cases bN with
 |run=>exact mr.ad af a
 |returning=>exact jr.ad af.im af.jh a
 |panicking fW=>exact jr.ad af.im af.jh a
def vF.ad{fn:Nat}{bg:List hE}{ro:Option Nat}(gv:∀b,Y b->dr b)(a:vF C Y fn am bg ro):vF C dr fn am bg ro:=
 ⟨λd aI=>abl gv (a.bg d aI),λk aw=>gv k (a.ro k aw),a.fn⟩
def G9{fn:Nat}{bg:List hE}{aN:Bool}{ro:Option Nat}{tmps:Array Value}{bB:List Item}{mode:FrameMode}(dB:∀b,Y b->c6 b=J b)(a:vF C Y fn am bg ro):cn c6 fn bg aN ro tmps bB mode=cn J fn bg aN ro tmps bB mode:=by
 unfold cn
 congr 1
 ·exact Yq λd aI=>QA dB (a.bg d aI)
 ·cases ro with
  |none=>rfl
  |some k=>simp only[ZK,dB k (a.ro k rfl)]
def amj{bN:k1}(dB:∀b,Y b->c6 b=J b)(a:p8 Y bN):gB c6 bN=gB J bN:=by
 cases bN with
 |panicking fW=>
  simp only[gB]
  congr 1
  exact Yq λp av=>by simp only[tc,p4 dB (a p av)]
 |_=>rfl
def apl{bN:k1}(gv:∀b,Y b->dr b)(a:p8 Y bN):p8 dr bN:=by
 cases bN with
 |panicking fW=>exact λp av=>oZ gv _ (a p av)
 |_=>trivial
def hF.mono{cJ Ks:Nat}(a:hF C cJ J Y h bj w c6 dr R bE)(aw:Ks<=cJ):hF C Ks J Y h bj w c6 dr R bE:=
 ⟨a.im,a.jh,λb ah=>(a.new b ah).imp id (λal=>Zo),λb ah cS=>a.ad b ah Zo,a.below⟩
def oM.ad{bD:Nat}{bO:List Frame}{cJ:Nat}{cs:List gz}{aE:List Frame}(a:oM C J Y h bD bO cJ cs aE)(af:hF C cJ J Y h bj w c6 dr R bE):oM C c6 dr R bD bO cJ cs aE:=by
 induction a with
 |nil=>exact .nil
 |cons H aZ K ay be bV ag=>
  rw[<-G9 (J:=J) (c6:=c6) af.im K, <-amj af.im aZ]
  exact .cons (H.ad af) (apl af.jh aZ) (K.ad af.jh) ay be (ag (af.mono be))
def Mh(t:Nat):∀(k:List Nat) (I:S z),(v2 k I).get t=if t∈k then none else I.get t:=by
 intro k
 induction k with
 |nil=>intro I;simp[v2]
 |cons d k ag=>
  intro I
  simp only[v2,ag,S.kw,Zr]
  by_cases a:t∈k
  ·simp[a]
  ·by_cases B:d=t
   ·subst B;simp
   ·have:¬t=d:=λal=>B al.symm
    simp[a,B,this]
def jr.drop{I:S z}{tmps:Array Value}(a:jr J Y n am I tmps)(k:List Nat):jr J Y n am (v2 k I) tmps:=by
 refine⟨a.size,λt v ah bo=> ?_⟩
 rw[Mh]at bo
 split at bo
 ·cases bo
 ·exact a.val t v ah bo
def aaC{k:List Oper}{U:Oper}{d:Nat}(aS:U∈k)(aI:U.dst=some d):d∈dstsOf k:=by
 induction k with
 |nil=>cases aS
 |cons E k ag=>
  simp only[dstsOf]
  rcases Zr.1 aS with rfl|aS
  ·rw[aI];exact Zu ..
  ·split
   ·exact Zt _ (ag aS)
   ·exact ag aS
def mr.drop{bC cJ:Nat}{I:S z}{tmps:Array Value}{o:List dJ}{bB:List Item}(a:mr C J Y h bC cJ n am I tmps o bB):jr J Y n am (ux o I) tmps:=by
 cases a with
 |seq H K=>
  rename_i ao an a rest fin k o bB
  obtain⟨U,bd,ca,a3,a4,a5,h2,ih⟩:=K
  refine⟨ih,λt v ah bo=> ?_⟩
  simp only[ux]at bo
  rw[Mh]at bo
  split at bo
  ·cases bo
  ·rename_i aM
   have aA:a<ao.size:=(ZS.1 bd).1
   obtain⟨_,ev,_⟩:=Lh ao a (zw aA)
   apply h2 t v trivial
   cases bx:ee (io ao a) t with
   |some W=>
    exfalso
    obtain⟨b4,b1,_⟩:=ev t W bx
    unfold sc at b1
    cases aS:ao[W]? with
    |none=>rw[aS]at b1;cases b1
    |some o'=>
     rw[aS]at b1
     exact aM (aaC (by rw[Array.mem_toList_iff];exact zh aS) b1)
   |none=>exact⟨ah,bo⟩
 |drawn H K ak ay be bV c9 eg hI=>
  rename_i ao base an k o bB dh de e U
  refine⟨ay.size,λt v ah bo=> ?_⟩
  simp only[ux]at bo
  rw[Mh]at bo
  split at bo
  ·cases bo
  ·rename_i aM
   apply ay.CH t v
   right
   refine⟨λW cd aI=> ?_,ah,bo⟩
   unfold sc at aI
   cases aS:ao[W]? with
   |none=>rw[aS]at aI;cases aI
   |some o'=>
    rw[aS]at aI
    exact aM (aaC (by rw[Array.mem_toList_iff];exact zh aS) aI)
 |du H K ak=>exact K
def At.drop{bC cJ:Nat}{I:S z}{tmps:Array Value}{bN:k1}{o:List dJ}{bB:List Item}(a:At C J Y h bC cJ n am I tmps bN o bB):jr J Y n am (ux o I) tmps:=by
 cases bN with
 |run=>exact mr.drop a
 |_=>
  have cy:jr J Y n am I tmps:=a
  unfold ux
  split<;>first|exact cy.drop _|exact cy
def oT.put{I:S z}{an:List (Nat×z)}{tmps:Array Value}{i:Nat}{U:Oper}{v:z}(aS:ao[i]? =some U)(bo:oT J Y am (λ_=>True) (io ao i) an I tmps)(aI:∀d,U.dst=some d->d<tmps.size)(fo:b7 Y v):
 oT J Y am (λ_=>True) (io ao (i+1)) ((i,v)::an) I (pQ tmps U.dst (aF J v)):=by
 have aA:i<ao.size:=(ZS.1 aS).1
 obtain⟨_,ev,_⟩:=Lh ao i (zw aA)
 intro t ac _ a
 rw[afV _ _ _ _ aI]
 rw[Lf aS,Fy]at a
 split at a
 ·rename_i W bx
  split at bx
  ·rename_i B
   cases bx
   rw[qO,Zq rfl]at a
   cases a
   rw[Zq B]
   exact⟨rfl,fo⟩
  ·rename_i B
   rw[Zg B]
   have:=(ev t W bx).1
   rw[qO,Zg Zo]at a
   exact bo t ac trivial (by rw[bx];exact a)
 ·rename_i bx
  split at bx
  ·cases bx
  ·rename_i B
   rw[Zg B]
   exact bo t ac trivial (by rw[bx];exact a)
def My{g:Frame}{a:Nat}{k:List Nat}{bB:List Item}{U:Oper}(bS:g.todo= .inRegion ao (a::k)::bB)(aS:ao[a]? =some U)(v:Value):
 g.finish v={g with tmps:=pQ g.tmps U.dst v,todo:= .inRegion ao k::bB}:=by
 unfold Frame.finish
 rw[bS]
 simp only[aS,ZQ]
 cases U.dst<;>rfl
def aoj{bC cJ j n am fn:Nat}{I:S z}{tmps:Array Value}{todo:List dJ}{bB:List Item}{bg:List hE}{aN:Bool}{ro:Option Nat}{mode:FrameMode}{v:z}(a:mr C J Y h bC cJ n am I tmps todo bB)(aw:cJ<=j)(fo:b7 Y v):
 ∃d7 o hg hA h1,todo=d7::o/\od d7 v=some hg/\(cn J fn bg aN ro tmps bB mode).finish (aF J v)=cn J fn bg aN ro hA h1 mode/\Cq C J Y h bC j n am I hA (hg::o) h1:=by
 cases a with
 |seq H K=>
  rename_i ao an a rest fin k o bB
  obtain⟨U,bd,ca,a3,a4,a5,h2,ih⟩:=K
  have cS:a<ao.size:=(ZS.1 bd).1
  refine⟨_,o, .Hr ao ((a,v)::an) rest fin,pQ tmps U.dst (aF J v), .inRegion ao k::bB,rfl,rfl, ?_, .seq H ⟨a+1,Zo,a3,a4,a5,h2.put bd (by rw[ih];exact ca) fo,by rw[OT];exact ih⟩⟩
  rw[My (g:=cn J fn bg aN ro tmps _ mode) rfl bd];rfl
 |drawn H K ak ay be bV c9 eg hI=>
  rename_i ao base an k o bB dh de e U
  have D:=Zn be
  have qh:∀d,U.dst=some d->d<n:=by
   obtain⟨o',b4,b1,cM,eu,eZ,eb⟩:=xJ ay.st (Md D).1
   have:o'=U:=by
    have:=eb.oper
    rw[bV]at this
    exact(Ym this).symm
   subst this
   exact eZ.dst
  refine⟨_,o, .drawn ao base ((e.1.i,v)::an) _ _,pQ tmps U.dst (aF J v), .inRegion ao k::bB,rfl,rfl, ?_, .drawn H K (Zy ak aw) (ay.fg be bV c9 eg fo qh) hI⟩
  rw[My (g:=cn J fn bg aN ro tmps _ mode) rfl bV];rfl
 |du H K ak=>
  rename_i k o bB
  exact⟨_,o, .endRangeFunc k,tmps, .endRangeFunc (J k).cr::bB,rfl,rfl,rfl, .plain (.cons (.CL ak) H) K⟩
def Pw{I:S z}{an kr:List (Nat×z)}{tmps:Array Value}{X:Nat->Prop}{i:Nat}{U:Oper}{g:Option (Nat×Bool)}{b:Bool}(aA:i<=ao.size)(bS:Ik (io ao i) U.guard=some g)(bo:oT J Y am X (io ao i) an I tmps)
 (bT:∀W b t,U.guard=some (W,b)->v6 W (io ao i)=some t->X t)(aD:Sub kr an)(a:oJ g kr=some b):Region.wanted U (yielded ao tmps)=b:=by
 obtain⟨ef,_,_⟩:=Lh ao i aA
 unfold Ik at bS
 unfold Region.wanted
 split at bS
 ·rename_i ara
  simp at bS;subst bS
  simp[oJ]at a
  rw[ara, <-a]
 ·rename_i W lF uS
  rw[uS]
  split at bS
  ·rename_i t bh
   split at bS
   ·rename_i pa bx
    rw[hl]at bS
    split at bS
    ·rename_i B
     subst B
     simp at bS;subst bS
     simp only[oJ]at a
     split at a
     ·rename_i ac aX
      have:=bo t ac (bT W lF t uS bh) (by rw[bx];exact aD _ _ aX)
      have D:yielded ao tmps W=(match aF J ac with| .bool b=>some b|_=>none):=by
       unfold yielded
       have aI:=ef W t bh
       unfold sc at aI
       rw[aI]
       simp only[ZQ,this.1]
       cases aF J ac<;>rfl
      simp only[D]
      cases ac<;>simp[aF]at a ⊢ <;>first|(rw[<-a])|exact a|(subst a;rfl)|skip
      all_goals simp_all
     ·simp at a
    ·simp at bS
   ·simp at bS
  ·simp at bS
end
end Go.bn

