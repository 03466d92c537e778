/- A part of the last text's proof; no condition of its own -/
import Derived.Test.YtpfajohmofnkfaaGreatDoorYc
import Derived.Defers
import Derived.RangeFuncRecord
import Derived.Orders
set_option maxHeartbeats 8000000
set_option linter.all false
namespace Go.bk
open Go.RowKit (Below)
def p8(tmps:Array Value)(dst:Option Nat)(v:Value):Array Value:=match dst with|some d=>tmps.setIfInBounds d v|none=>tmps
def NX(tmps:Array Value)(dst:Option Nat)(v:Value):(p8 tmps dst v).size=tmps.size:=by cases dst<;>simp[p8]
def ael(tmps:Array Value)(dst:Option Nat)(v:Value)(t:Nat)(a:∀d,dst=some d->d<tmps.size):(p8 tmps dst v)[t]? =if dst=some t then some v else tmps[t]? :=by
 cases dst with
 |none=>simp[p8]
 |some d=>
  have:=a d rfl
  simp only[p8,Zf,Array.getElem?_setIfInBounds]
  by_cases I:d=t
  ·subst I;simp[this]
  ·simp[I]
def Sub(aw hF:List (Nat×J)):Prop:=∀aa ae,ez aw aa=some ae->ez hF aa=some ae
def Sub.refl(aw:List (Nat×J)):Sub aw aw:=λ_ _ a=>a
def Sub.trans{K b c:List (Nat×J)}(a:Sub K b)(F:Sub b c):Sub K c:=λaa ae bL=>F aa ae (a aa ae bL)
def Sub.cons{aw:List (Nat×J)}{i:Nat}{v:J}(a:ez aw i=none):Sub aw ((i,v)::aw):=λaa ae bL=>by
 rw[rf,Zh]
 ·exact bL
 ·intro I;subst I;rw[a]at bL;cases bL
def pF(C:a2)(h U:V an):Prop:=∀x,ab C h x=ab C U x\/ab C h x=none
inductive wH(ax:Array Oper):(Nat->Prop)->List Nat->Prop
 |nil {dr}:(∀i,i<ax.size->dr i)->wH ax dr []
 |cons {dr i Y l}:ax[i]? =some Y->¬dr i->(∀I∈Y.after.toList,Region.binds .any I=true->dr I.on)->wH ax (add dr i) l->wH ax dr (i::l)
noncomputable def wQ(C:a2)(n av:Nat)(ax:Array Oper):List fx:=(r8 C n av ax.toList 0 []).getD []
noncomputable def oQ(ax:Array Oper):List gj:=BR ax.toList 0 [] []
noncomputable def gH(C:a2)(n av:Nat)(ax:Array Oper):List (gj×fx):=FL (oQ ax) (wQ C n av ax)
noncomputable def lP(C:a2)(n av:Nat)(ax:Array Oper):List pG:=GC (qo (gH C n av ax)) (oQ ax) (wQ C n av ax)
structure pD(C:a2)(n av:Nat)(ax:Array Oper):Prop where
 alo:r8 C n av ax.toList 0 []=some (wQ C n av ax)
 azo:D1 ax.toList 0=true
 avn:Ki (oQ ax)=true
 chain:I2 (qo (gH C n av ax))=true
section
variable{C:a2}{n av:Nat}{ax:Array Oper}
def PL(a:pD C n av ax):(wQ C n av ax).length=ax.size/\∀aa x,(wQ C n av ax)[aa]? =some x->x.i=aa/\∃Y,KW C n av ax x Y:=by
 have ch:=a.alo
 have:=ak7 (ax:=ax) ax.toList 0 _ Zs (by rw[KN];exact ch)
 exact⟨by simpa using this.1,λaa x ah=>by simpa using this.2 aa x ah⟩
def H2(ax:Array Oper):(oQ ax).length=ax.size/\(∀aa p,(oQ ax)[aa]? =some p->p.i=aa/\∃Y,EG ax p Y):=by
 have:=adu (ax:=ax) ax.toList 0 [] Zs Zs
 rw[KN]at this
 exact⟨by unfold oQ;simpa using this.1,λaa p aA=>by simpa using this.2.1 aa p aA⟩
noncomputable def ri(C:a2)(n av:Nat)(ax:Array Oper):List (gj×fx):=(oQ ax).zip (wQ C n av ax)
def yn(a:pD C n av ax)(i:Nat)(aN:i<ax.size):∃p x Y,(ri C n av ax)[i]? =some (p,x)/\(oQ ax)[i]? =some p/\p.i=i/\x.i=i/\KW C n av ax x Y/\EG ax p Y:=by
 obtain⟨bf,ck⟩:=PL a
 obtain⟨cT,dL⟩:=H2 ax
 have ah:(wQ C n av ax)[i]? =some ((wQ C n av ax)[i]'Zo):=Ze _
 have aA:(oQ ax)[i]? =some ((oQ ax)[i]'Zo):=Ze _
 obtain⟨dy,Y,dZ⟩:=ck _ _ ah
 obtain⟨c3,o',cQ⟩:=dL _ _ aA
 have:o'=Y:=by
  have bH:=dZ.oper;have cP:=cQ.oper
  rw[dy]at bH;rw[c3]at cP
  rw[bH]at cP;exact(Yv cP).symm
 subst this
 refine⟨_,_,o', ?_,aA,c3,dy,dZ,cQ⟩
 unfold ri
 rw[List.getElem?_zip_eq_some]
 exact⟨aA,ah⟩
def yo(a:pD C n av ax){e:gj×fx}(H:e∈ri C n av ax):∃Y,e.1.i<ax.size/\e.2.i=e.1.i/\(ri C n av ax)[e.1.i]? =some e/\(oQ ax)[e.1.i]? =some e.1/\KW C n av ax e.2 Y/\EG ax e.1 Y:=by
 obtain⟨aa,bL⟩:=ZY.1 H
 have fL:(ri C n av ax).length=ax.size:=by
  unfold ri
  rw[List.length_zip,(PL a).1,(H2 ax).1,Nat.min_self]
 have c4:aa<ax.size:=zo (Zc.1 bL).1
 obtain⟨p,x,Y,T,W,au,aP,bK,cr⟩:=yn a aa c4
 rw[bL]at T
 cases T
 refine⟨Y,by simp only;omega,by simp only;omega, ?_, ?_,bK,cr⟩
 ·simp only[au];exact bL
 ·simp only[au];exact W
def Lp:gH C n av ax=(ri C n av ax).filter λ(x:gj×fx)=>nH x.2.op:=apQ _ _
def Lr:lP C n av ax=((ri C n av ax).filter λ(x:gj×fx)=> !nH x.2.op).map λ(x:gj×fx)=>⟨x.2,uD x.1.m (qo (gH C n av ax)),Bf x.1.i (qo (gH C n av ax))⟩:=atN _ _ _
def Lt{l:pG}(aD:l∈lP C n av ax):∃p,(p,l.x)∈ri C n av ax/\nH l.x.op=false/\l.bU=uD p.m (qo (gH C n av ax))/\l.aN=Bf p.i (qo (gH C n av ax)):=by
 rw[Lr]at aD
 obtain⟨e,H,rfl⟩:=ZJ.1 aD
 obtain⟨T,W⟩:=YJ.1 H
 exact⟨e.1,T,by simpa using W,rfl,rfl⟩
def Lq{e:gj×fx}(H:e∈gH C n av ax):e∈ri C n av ax/\nH e.2.op=true:=by
 rw[Lp]at H
 exact YJ.1 H
def Xy(a:pD C n av ax)(i:Nat)(aN:i<ax.size):(∃l∈lP C n av ax,l.x.i=i)\/(∃(p:Nat) (e:gj×fx),(gH C n av ax)[p]? =some e/\e.1.i=i):=by
 obtain⟨p,x,Y,T,W,au,aP,bK,cr⟩:=yn a i aN
 have bs:=Zn T
 cases gK:nH x.op with
 |true=>
  refine .inr ?_
  have:(p,x)∈gH C n av ax:=by rw[Lp];exact YJ.2 ⟨bs,gK⟩
  obtain⟨ao,b6⟩:=ZY.1 this
  exact⟨ao,_,b6,au⟩
 |false=>
  refine .inl ⟨_,by rw[Lr];exact ZJ.2 ⟨(p,x),YJ.2 ⟨bs,by simp[gK]⟩,rfl⟩,aP⟩
def Xx(a:pD C n av ax):(ri C n av ax).Pairwise λK b=>K.1.i<b.1.i:=by
 rw[YM]
 intro i aa aN bL MC
 have fL:(ri C n av ax).length=ax.size:=by
  unfold ri
  rw[List.length_zip,(PL a).1,(H2 ax).1,Nat.min_self]
 obtain⟨p,x,Y,T,W,au,_⟩:=yn a i Zo
 obtain⟨aBk,iQ,o',tE,Fw,azv,_⟩:=yn a aa Zo
 rw[Ze aN]at T
 rw[Ze bL]at tE
 rw[Yv T,Yv tE]
 simp only;omega
def Xw(a:pD C n av ax){p ao:Nat}{e bu:gj×fx}(aA:(gH C n av ax)[p]? =some e)(b6:(gH C n av ax)[ao]? =some bu)(bA:e.1.i=bu.1.i):p=ao:=by
 have Jm:(gH C n av ax).Pairwise λK b=>K.1.i<b.1.i:=by rw[Lp];exact(Xx a).filter _
 rw[YM]at Jm
 obtain⟨T,W⟩:=Zc.1 aA
 obtain⟨au,aP⟩:=Zc.1 b6
 rcases YQ p ao with c4|rfl|g1
 ·have:=Jm p ao T au c4
  rw[W,aP]at this;omega
 ·rfl
 ·have:=Jm ao p au T g1
  rw[W,aP]at this;omega
def PM(a:pD C n av ax):(lP C n av ax).Pairwise λK b=>K.x.i<b.x.i:=by
 rw[Lr,List.pairwise_map]
 have T:((ri C n av ax).filter λ(x:gj×fx)=> !nH x.2.op).Pairwise λK b=>K.1.i<b.1.i:=(Xx a).filter _
 refine T.imp_of_mem λ{K b} aE ai c4=> ?_
 obtain⟨_,_,bH,_⟩:=yo a (YJ.1 aE).1
 obtain⟨_,_,cP,_⟩:=yo a (YJ.1 ai).1
 show K.2.i<b.2.i
 rw[bH,cP];exact c4
def Ls(a:pD C n av ax){l:pG}(aD:l∈lP C n av ax):l.x.i<ax.size:=by
 obtain⟨p,aA,_⟩:=Lt aD
 obtain⟨_,T,W,_⟩:=yo a aA
 simp only at T W;omega
def alS(a:pD C n av ax){e:gj×fx}(H:e∈gH C n av ax):e.1.i<ax.size/\e.2.i=e.1.i:=by
 obtain⟨_,T,W,_⟩:=yo a (Lq H).1
 exact⟨T,W⟩
def Cl(ax:Array Oper)(dr:Nat->Prop):Prop:=∀i Y,ax[i]? =some Y->dr i->∀I∈Y.after.toList,Region.binds .any I=true->dr I.on
def H3{dr:Nat->Prop}(bX:Cl ax dr){p:gj}(aA:p∈oQ ax){Y:Oper}(bl:ax[p.i]? =some Y)
 (lU:∀I∈Y.after.toList,Region.binds .any I=true->dr I.on):∀K,fB p.m K=true->dr K:=by
 have key:=(adu (ax:=ax) ax.toList 0 [] Zs Zs).2.2 (λi m=>(∀Y,ax[i]? =some Y->∀I∈Y.after.toList,Region.binds .any I=true->dr I.on)->∀K,fB m K=true->dr K) Zs
  (λaa Y m bL _ bs lU K aE=>by
   obtain⟨I,T,W,au⟩:=bs K aE
   have bA:=lU Y bL I T W
   rcases au with rfl|⟨gr,aP,bK⟩
   ·exact bA
   ·exact aP (λo' FX it apJ jV=>bX I.on o' FX bA it apJ jV) K bK)
 rw[KN]at key
 exact key p aA (λo' FX=>by rw[bl]at FX;cases FX;exact lU)
end
structure KS(C:a2)(af:Nat->Prop)(h:V an)(base:Nat)(aw:List (Nat×J))(M:V J)(x:fx)(ae:J):Prop where
 key:ez aw x.i=some ae
 ok:∃kq b,Sub kq aw/\oC x.g kq=some b/\(b=false->ae=undef)/\(b=true->(nH x.op=false)/\
  (mP x.op= .make->∃cO,n7 x.op C (base+x.i) kq M=some (ae,cO)/\ab C h (base+x.i)=some cO)/\
  (mP x.op= .ia->Ca x.op=false->∀kC,gU x.op C kC kq M=some ae))
def Hw(C:a2)(h:V an)(aw:List (Nat×J))(M:V J)(x:fx)(ae:J):Prop:=
 ∃kq kC b,Sub kq aw/\pF C kC h/\oC x.g kq=some b/\(b=true->mP x.op= .ia->gU x.op C kC kq M=some ae)
def Ax(S:da)(af:Nat->Prop)(av:Nat)(ax:Array Oper)(dr:Nat->Prop)(aw:List (Nat×J))(M:V J)(tmps:Array Value):Prop:=
 ∀t v,((∃aa,dr aa/\sb ax aa=some t/\(∀pb,dr pb->sb ax pb=some t->pb<=aa)/\ez aw aa=some v)\/((∀aa,dr aa->sb ax aa≠some t)/\fB av t=true/\M.get t=some v))->
  tmps[t]? =some (aS S v)/\cn af v
structure q3(C:a2)(S:da)(af:Nat->Prop)(h:V an)(base n av:Nat)(ax:Array Oper)(aw:List (Nat×J))(F m:Nat)(M:V J)(tmps:Array Value)(dr:Nat->Prop):Prop where
 st:pD C n av ax
 size:tmps.size=n
 Nk:F<=(gH C n av ax).length
 dl:C.ba<=base
 closed:Cl ax dr
 xv:∀i,dr i->i<ax.size
 done:∀p a,(gH C n av ax)[p]? =some a->(dr a.1.i↔p<F)
 t6:∀l∈lP C n av ax,dr l.x.i->l.bU<m
 keys:∀i ae,ez aw i=some ae->(∃l∈lP C n av ax,l.x.i=i/\l.bU<m)\/(∃p a,(gH C n av ax)[p]? =some a/\a.1.i=i/\p<F)
 va:∀p a,(gH C n av ax)[p]? =some a->p<F->∃ae,ez aw a.1.i=some ae
 ahead:∀l∈lP C n av ax,l.bU<m->∃ae,ez aw l.x.i=some ae/\(¬dr l.x.i->KS C af h base aw M l.x ae)
 CH:Ax S af av ax dr aw M tmps
 ids:∀i,i<ax.size->af (base+i)->dr i
 free:∀i,i<ax.size->ez aw i=none->ab C h (base+i)=none
section
variable{C:a2}{S dg:da}{af dE:Nat->Prop}{h U:V an}{j ar bm:Nat}{w bZ:World}
def oL.ad{av:Nat}{X:Nat->Prop}{es:List (Nat×Nat)}{aw:List (Nat×J)}{M:V J}{tmps:Array Value}(dS:∀b,af b->dg b=S b)(gI:∀b,af b->dE b)(a:oL S af av X es aw M tmps):oL dg dE av X es aw M tmps:=
 λt v ah bD=>by
  obtain⟨T,W⟩:=a t v ah bD
  exact⟨by rw[T,qi dS W],oV gI v W⟩
def Ax.ad{av:Nat}{ax:Array Oper}{dr:Nat->Prop}{aw:List (Nat×J)}{M:V J}{tmps:Array Value}(dS:∀b,af b->dg b=S b)(gI:∀b,af b->dE b)(a:Ax S af av ax dr aw M tmps):Ax dg dE av ax dr aw M tmps:=
 λt v bD=>by
  obtain⟨T,W⟩:=a t v bD
  exact⟨by rw[T,qi dS W],oV gI v W⟩
def rV.ad(dS:∀b,af b->dg b=S b)(gI:∀b,af b->dE b)(a:rV C S af):rV C dg dE:=λg b0=>by
 obtain⟨T,W,au⟩:=a g b0
 exact⟨gI g T,by rw[dS g T];exact W,by rw[dS g T];exact au⟩
def q3.ad{dk base n av F m:Nat}{ax:Array Oper}{aw:List (Nat×J)}{M:V J}{tmps:Array Value}{dr:Nat->Prop}(ah:iD C dk S af h bm w dg dE U bZ)(aD:base+ax.size<=dk)
 (a:q3 C S af h base n av ax aw F m M tmps dr):q3 C dg dE U base n av ax aw F m M tmps dr:=by
 have FO:∀i,i<ax.size->dE (base+i)->dr i:=λi aN aO=>(ah.new _ aO).elim (a.ids i aN) (λao=>Zo)
 refine⟨a.st,a.size,a.Nk,a.dl,a.closed,a.xv,a.done,a.t6,a.keys,a.va, ?_,a.CH.ad ah.iP ah.jA,FO, ?_⟩
 ·intro l hy lu
  obtain⟨ae,T,W⟩:=a.ahead l hy lu
  refine⟨ae,T,λbX=> ?_⟩
  obtain⟨au,kq,b,aP,bK,cr,dP⟩:=W bX
  refine⟨au,kq,b,aP,bK,cr,λai=> ?_⟩
  obtain⟨fi,kd,sh⟩:=dP ai
  refine⟨fi,λaL=> ?_,sh⟩
  obtain⟨cO,uR,yA⟩:=kd aL
  refine⟨cO,uR, ?_⟩
  have c4:=Ls a.st hy
  rw[ah.ad _ (λaO=>bX (a.ids _ c4 aO)) Zo]
  exact yA
 ·intro i aN bD
  rw[ah.ad _ ?_ Zo]
  ·exact a.free i aN bD
  ·intro aO
   have bX:=a.ids i aN aO
   rcases Xy a.st i aN with ⟨l,pX,mK⟩|⟨p,e,aA,H⟩
   ·obtain⟨ae,be,_⟩:=a.ahead l pX (a.t6 l pX (by rw[mK];exact bX))
    rw[mK,bD]at be;cases be
   ·obtain⟨ae,be⟩:=a.va p e aA ((a.done p e aA).1 (by rw[H];exact bX))
    rw[H,bD]at be;cases be
end
end Go.bk

namespace Go.bk
open Go.RowKit (Below)
section
variable{C:a2}{S dg:da}{af dE:Nat->Prop}{h U:V an}{j ar bm:Nat}{w bZ:World}{n av:Nat}{ax:Array Oper}
def acZ{K b t:Nat}(T:fB K t=true)(W:fB b t=true):Nat.beq (Nat.land K b) 0=false:=by
 cases a:Nat.beq (Nat.land K b) 0 with
 |false=>rfl
 |true=>
  have I:=Zj a
  have:=akU K b t
  rw[I,Lg,T,W]at this
  cases this
def NV{p:gj}{Y:Oper}(a:EG ax p Y){t:Nat}(aO:Y.dst=some t):fB p.w t=true:=by rw[a.w];exact al2.2 aO
def avO{p:gj}{Y:Oper}(a:EG ax p Y){t:Nat}(Z:Operand.tmp t∈Y.op.operands.toList):fB p.r t=true:=by
 rw[a.r,EW,avc.2 Z];rfl
def PA(a:pD C n av ax){i aa:Nat}{p ao:gj}(MC:i<aa)(aA:(oQ ax)[i]? =some p)(b6:(oQ ax)[aa]? =some ao){t:Nat}
 (aB:(fB p.w t=true/\(fB ao.r t=true\/fB ao.w t=true))\/(fB ao.w t=true/\fB p.r t=true)):fB ao.m i=true:=by
 have:=auZ a.avn i aa p ao MC aA b6
 have Jl:p.i=i:=((H2 ax).2 i p aA).1
 unfold NI at this
 rw[Jl]at this
 rcases aB with ⟨T,W⟩|⟨T,W⟩
 ·have au:fB (Nat.lor ao.r ao.w) t=true:=by rw[EW];rcases W with W|W<;>simp[W]
  rw[acZ T au]at this
  simpa using this
 ·rw[acZ T W]at this
  simpa using this
def Nv{i:Nat}{p:gj}(aA:(oQ ax)[i]? =some p):p∈oQ ax:=Zn aA
def alT(dp:pD C n av ax){dr:Nat->Prop}{aw:List (Nat×J)}{M:V J}{tmps:Array Value}(gW:Cl ax dr)(I8:∀i,dr i->i<ax.size)(aO:Ax S af av ax dr aw M tmps)
 {i:Nat}{p:gj}{Y:Oper}(aA:(oQ ax)[i]? =some p)(bl:ax[i]? =some Y)(qz:¬dr i)(lU:∀I∈Y.after.toList,Region.binds .any I=true->dr I.on):
 oL S af av (λt=>fB p.r t=true) (ip ax i) aw M tmps:=by
 have aN:i<ax.size:=(ZK.1 bl).1
 obtain⟨_,e2,iU⟩:=KO ax i (zj aN)
 have Jl:p.i=i:=((H2 ax).2 i p aA).1
 have MN:=H3 gW (Nv aA) (by rw[Jl];exact bl) lU
 have ac2:∀t aa,fB p.r t=true->i<aa->dr aa->sb ax aa=some t->False:=by
  intro t aa Z MC bX u0
  obtain⟨ao,x,Ac,_,b6,xq,_,ah,tQ⟩:=yn dp aa (I8 aa bX)
  have yQ:ax[aa]? =some Ac:=by rw[<-xq];exact tQ.oper
  have bI:=NV tQ (t:=t) (by rw[<-H6 yQ];exact u0)
  have ai:=PA dp MC aA b6 (.inr ⟨bI,Z⟩)
  have:=H3 gW (Nv b6) (by rw[xq];exact yQ) (gW aa Ac yQ bX) i ai
  exact qz this
 intro t v bW bD
 apply aO t v
 split at bD
 ·rename_i aa bL
  obtain⟨b5,cd,c0⟩:=e2 t aa bL
  left
  have aqm:aa<ax.size:=Zo
  obtain⟨ao,x,Ac,_,b6,xq,_,ah,tQ⟩:=yn dp aa aqm
  have yQ:ax[aa]? =some Ac:=by rw[<-xq];exact tQ.oper
  have bI:=NV tQ (t:=t) (by rw[<-H6 yQ];exact cd)
  have ai:=PA dp b5 b6 aA (.inl ⟨bI, .inl bW⟩)
  refine⟨aa,MN aa ai,cd,λpb CX so=> ?_,bD⟩
  rcases YQ pb i with T|T|T
  ·rcases Y9 aa pb with W|W
   ·exact absurd so (c0 pb W T)
   ·exact W
  ·exact absurd (T▸CX) qz
  ·exact(ac2 t pb bW T CX so).elim
 ·rename_i bL
  right
  refine⟨λaa bX u0=> ?_,bD.1,bD.2⟩
  rcases YQ aa i with T|T|T
  ·exact iU t bL aa T u0
  ·exact qz (T▸bX)
  ·exact ac2 t aa bW T bX u0
def Ax.put(dp:pD C n av ax){dr:Nat->Prop}{aw hF:List (Nat×J)}{M:V J}{tmps:Array Value}(gW:Cl ax dr)(I8:∀i,dr i->i<ax.size)(aO:Ax S af av ax dr aw M tmps)(eX:tmps.size=n)
 {i:Nat}{Y:Oper}{v:J}(bl:ax[i]? =some Y)(qz:¬dr i)(QU:∀aa,dr aa->∀ae,ez hF aa=some ae->ez aw aa=some ae)(apa:ez hF i=some v)(o0:∀d,Y.dst=some d->d<n)(fy:cn af v):
 Ax S af av ax (add dr i) hF M (p8 tmps Y.dst (aS S v)):=by
 have aN:i<ax.size:=(ZK.1 bl).1
 have Rb:=H6 bl
 have F3:∀t,(p8 tmps Y.dst (aS S v))[t]? =if Y.dst=some t then some (aS S v)else tmps[t]? :=λt=>ael _ _ _ _ (by rw[eX];exact o0)
 intro t ae a
 rw[F3]
 by_cases FK:Y.dst=some t
 ·rw[Zr FK]
  rcases a with ⟨aa,bX,u0,xl,be⟩|⟨T,_⟩
  ·
   have abs:aa=i:=by
    rcases bX with bX|bX
    ·have gE:=xl i (.inr rfl) (by rw[Rb];exact FK)
     rcases Y9 i aa with c4|Be
     ·exfalso
      obtain⟨p,x,auV,_,aA,Jl,_,_,Dm⟩:=yn dp i aN
      obtain⟨ao,iQ,Ac,_,b6,xq,_,_,tQ⟩:=yn dp aa (I8 aa bX)
      have yQ:ax[aa]? =some Ac:=by rw[<-xq];exact tQ.oper
      have aqM:auV=Y:=by
       have:=Dm.oper
       rw[Jl,bl]at this
       exact(Yv this).symm
      subst aqM
      have ai:=PA dp c4 aA b6 (.inl ⟨NV Dm FK, .inr (NV tQ (by rw[<-H6 yQ];exact u0))⟩)
      exact qz (H3 gW (Nv b6) (by rw[xq];exact yQ) (gW aa Ac yQ bX) i ai)
     ·omega
    ·exact bX
   subst abs
   rw[apa]at be
   cases be
   exact⟨rfl,fy⟩
  ·exact absurd (by rw[Rb];exact FK) (T i (.inr rfl))
 ·rw[Zh FK]
  apply aO t ae
  rcases a with ⟨aa,bX,u0,xl,be⟩|⟨T,W⟩
  ·left
   have CX:dr aa:=bX.resolve_right λI=>FK (by rw[<-Rb, <-I];exact u0)
   exact⟨aa,CX,u0,λpb I9 so=>xl pb (.inl I9) so,QU aa CX ae be⟩
  ·right
   exact⟨λaa bL=>T aa (.inl bL),W⟩
def Cl.add{dr:Nat->Prop}(gW:Cl ax dr){i:Nat}{Y:Oper}(bl:ax[i]? =some Y)(lU:∀I∈Y.after.toList,Region.binds .any I=true->dr I.on):Cl ax (add dr i):=by
 intro aa Ac bL bX I bA ai
 rcases bX with bX|bX
 ·exact .inl (gW aa Ac bL bX I bA ai)
 ·subst bX
  rw[bl]at bL;cases bL
  exact .inl (lU I bA ai)
def Np(dp:pD C n av ax){l:pG}(aD:l∈lP C n av ax){p:Nat}{e:gj×fx}(aA:(gH C n av ax)[p]? =some e):l.x.i≠e.1.i:=by
 intro I
 obtain⟨ao,T,W,_⟩:=Lt aD
 obtain⟨au,aP⟩:=Lq (Zn aA)
 obtain⟨_,_,cd,c0,_⟩:=yo dp T
 obtain⟨_,_,cx,c7,_⟩:=yo dp au
 simp only at cd c0
 rw[<-cd,I,c7]at c0
 cases c0
 rw[W]at aP;cases aP
def q3.fs{base eE:Nat}{aw:List (Nat×J)}{M:V J}{tmps:Array Value}{dr:Nat->Prop}(a:q3 C S af h base n av ax aw eE (eE+1) M tmps dr){e:gj×fx}(H:(gH C n av ax)[eE]? =some e)
 {Y:Oper}(bl:ax[e.1.i]? =some Y)(qz:¬dr e.1.i)(lU:∀I∈Y.after.toList,Region.binds .any I=true->dr I.on){v:J}(fy:cn af v)(o0:∀d,Y.dst=some d->d<n):
 q3 C S af h base n av ax ((e.1.i,v)::aw) (eE+1) (eE+1) M (p8 tmps Y.dst (aS S v)) (add dr e.1.i):=by
 have Ri:ez aw e.1.i=none:=by
  cases bD:ez aw e.1.i with
  |none=>rfl
  |some ae=>
   exfalso
   rcases a.keys _ ae bD with ⟨l,T,W,_⟩|⟨p,bu,T,W,au⟩
   ·exact Np a.st T H W
   ·have:=Xw a.st T H W;omega
 have yW:Sub aw ((e.1.i,v)::aw):=Sub.cons Ri
 have aN:e.1.i<ax.size:=(ZK.1 bl).1
 refine⟨a.st,by rw[NX];exact a.size,zo (Zc.1 H).1,a.dl,a.closed.add bl lU, ?_, ?_, ?_, ?_, ?_, ?_, ?_, ?_, ?_⟩
 ·rintro i (bX|bX)
  ·exact a.xv i bX
  ·omega
 ·intro p bu cw
  constructor
  ·rintro(bX|bX)
   ·have:=(a.done p bu cw).1 bX;omega
   ·have:=Xw a.st cw H bX;omega
  ·intro aA
   rcases Y9 p eE with c4|Be
   ·exact .inl ((a.done p bu cw).2 c4)
   ·have:p=eE:=Zo
    subst this
    rw[H]at cw;cases cw
    exact .inr rfl
 ·rintro l aD (bX|bX)
  ·exact a.t6 l aD bX
  ·exact(Np a.st aD H bX).elim
 ·intro i ae be
  rw[rf]at be
  split at be
  ·rename_i I
   exact .inr ⟨eE,e,H,I,Zo⟩
  ·rcases a.keys i ae be with T|⟨p,bu,T,W,au⟩
   ·exact .inl T
   ·exact .inr ⟨p,bu,T,W,Zo⟩
 ·intro p bu cw aA
  rw[rf]
  split
  ·exact⟨v,rfl⟩
  ·rename_i dT
   have:p≠eE:=λI=>by subst I;rw[H]at cw;cases cw;exact dT rfl
   exact a.va p bu cw Zo
 ·intro l aD lu
  obtain⟨ae,T,W⟩:=a.ahead l aD lu
  refine⟨ae,yW _ _ T,λbX=> ?_⟩
  obtain⟨_,kq,b,aP,bK⟩:=W (λao=>bX (.inl ao))
  exact⟨yW _ _ T,kq,b,aP.trans yW,bK⟩
 ·refine a.CH.put a.st a.closed a.xv a.size bl qz ?_ (by rw[rf,Zr rfl]) o0 fy
  intro aa bX ae be
  rw[rf,Zh]at be
  ·exact be
  ·intro I;subst I;exact qz bX
 ·intro i k4 aO
  exact .inl (a.ids i k4 aO)
 ·intro i k4 bD
  rw[rf]at bD
  split at bD
  ·cases bD
  ·exact a.free i k4 bD
def q3.ia{base eE m:Nat}{aw:List (Nat×J)}{M:V J}{tmps:Array Value}{dr:Nat->Prop}(a:q3 C S af h base n av ax aw eE m M tmps dr){l:pG}(aD:l∈lP C n av ax)(lu:l.bU<m)
 {Y:Oper}(bl:ax[l.x.i]? =some Y)(qz:¬dr l.x.i)(lU:∀I∈Y.after.toList,Region.binds .any I=true->dr I.on){v:J}(bD:ez aw l.x.i=some v)
 (dS:∀b,af b->dg b=S b)(gI:∀b,af b->dE b)(aov:∀b,dE b->af b\/b=base+l.x.i)(fy:cn dE v)(o0:∀d,Y.dst=some d->d<n):
 q3 C dg dE h base n av ax aw eE m M (p8 tmps Y.dst (aS dg v)) (add dr l.x.i):=by
 have aN:l.x.i<ax.size:=(ZK.1 bl).1
 refine⟨a.st,by rw[NX];exact a.size,a.Nk,a.dl,a.closed.add bl lU, ?_, ?_, ?_,a.keys,a.va, ?_, ?_, ?_,a.free⟩
 ·rintro i (bX|bX)
  ·exact a.xv i bX
  ·omega
 ·intro p bu cw
  constructor
  ·rintro(bX|bX)
   ·exact(a.done p bu cw).1 bX
   ·exact(Np a.st aD cw bX.symm).elim
  ·intro aA
   exact .inl ((a.done p bu cw).2 aA)
 ·rintro ci hy (bX|bX)
  ·exact a.t6 ci hy bX
  ·have:=(PM a.st)
   by_cases ao:ci=l
   ·rw[ao];exact lu
   ·exfalso
    obtain⟨K,aE⟩:=ZY.1 hy
    obtain⟨b,ai⟩:=ZY.1 aD
    obtain⟨C3,mH⟩:=Zc.1 aE
    obtain⟨oa,lT⟩:=Zc.1 ai
    rw[YM]at this
    rcases YQ K b with c4|I|g1
    ·have:=this K b C3 oa c4
     rw[mH,lT]at this;omega
    ·subst I
     rw[mH]at lT;exact ao lT
    ·have:=this b K oa C3 g1
     rw[mH,lT]at this;omega
 ·intro ci hy aqq
  obtain⟨ae,T,W⟩:=a.ahead ci hy aqq
  refine⟨ae,T,λbX=> ?_⟩
  obtain⟨au,kq,b,aP,bK,cr,dP⟩:=W (λao=>bX (.inl ao))
  exact⟨au,kq,b,aP,bK,cr,dP⟩
 ·exact(a.CH.ad dS gI).put a.st a.closed a.xv a.size bl qz (λ_ _ _ ao=>ao) bD o0 fy
 ·intro i k4 aO
  rcases aov _ aO with aO|aO
  ·exact .inl (a.ids i k4 aO)
  ·exact .inr Zo
end
end Go.bk

namespace Go.bk
open Go.RowKit (Below)
def tj(S:da)(p:rS):PanicEntry:={v:=aS S p.v,recovered:=p.recovered}
def gO(S:da):kT->FrameMode
 | .run=> .run
 | .returning=> .returning
 | .panicking gb=> .panicking (gb.map (tj S))
def qp(af:Nat->Prop):kT->Prop
 | .panicking gb=>∀p∈gb,cn af p.v
 |_=>True
inductive Cn(C:a2)(S:da)(af:Nat->Prop)(av:Nat):d0->Item->Prop
 |code {c:Code}:lO C av c=true->Cn C S af av (.code c) (.code c)
 |inBlock {id:Nat}:Cn C S af av (.inBlock id) (.inBlock id)
 |inLoop {b:Code}:lO C av b=true->Cn C S af av (.inLoop b) (.inLoop b)
 |inScope {b:Code}:lO C av b=true->Cn C S af av (.inScope b) (.inScope b)
 |CL {l:Nat}:af l->Cn C S af av (.endRangeFunc l) (.endRangeFunc (S l).cI)
 |begin:Cn C S af av .beginRound .beginRound
inductive lH(C:a2)(S:da)(af:Nat->Prop)(av:Nat):List d0->List Item->Prop
 |nil:lH C S af av [] []
 |cons {K x F bx}:Cn C S af av K x->lH C S af av F bx->lH C S af av (K::F) (x::bx)
def O0(C:a2)(S:da)(af:Nat->Prop)(n av:Nat)(ax:Array Oper)(aw:List (Nat×J))(rest:List fx)(fin:List (Nat×Nat))(M:V J)(tmps:Array Value)(l:List Nat):Prop:=
 ∃i,i<=ax.size/\l=List.range' i (ax.size-i)/\r8 C n av (ax.toList.drop i) i (ip ax i)=some rest/\fin=kZ av ax.toList 0/\oL S af av (λ_=>True) (ip ax i) aw M tmps/\tmps.size=n
def ajO(C:a2)(S:da)(af:Nat->Prop)(n av:Nat)(ax:Array Oper)(aw:List (Nat×J))(a:Nat)(rest:List fx)(fin:List (Nat×Nat))(M:V J)(tmps:Array Value)(l:List Nat):Prop:=
 ∃Y,ax[a]? =some Y/\(∀d,Y.dst=some d->d<n)/\l=List.range' (a+1) (ax.size-(a+1))/\r8 C n av (ax.toList.drop (a+1)) (a+1) (ip ax (a+1))=some rest/\fin=kZ av ax.toList 0/\
  oL S af av (λ_=>True) (ip ax a) aw M tmps/\tmps.size=n
inductive Cu(C:a2)(S:da)(af:Nat->Prop)(h:V an)(dk j n av:Nat)(M:V J)(tmps:Array Value):List d0->List Item->Prop
 |plain {F bx}:lH C S af av F bx->jk S af n av M tmps->Cu C S af h dk j n av M tmps F bx
 |seq {ax aw rest fin l F bx}:lH C S af av F bx->O0 C S af n av ax aw rest fin M tmps l->Cu C S af h dk j n av M tmps (.Hb ax aw rest fin::F) (.inRegion ax l::bx)
 |drawn {ax base aw l F bx dr eE}:lH C S af av F bx->dk<=base->base+ax.size<=j->q3 C S af h base n av ax aw eE eE M tmps dr->wH ax dr l->
   Cu C S af h dk j n av M tmps (.drawn ax base aw (y9 (lP C n av ax) eE ((gH C n av ax).drop eE)) (kZ av ax.toList 0)::F) (.inRegion ax l::bx)
inductive mC(C:a2)(S:da)(af:Nat->Prop)(h:V an)(bU aN n av:Nat)(M:V J)(tmps:Array Value):List d0->List Item->Prop
 |seq {ax aw a rest fin l F bx}:lH C S af av F bx->ajO C S af n av ax aw a rest fin M tmps l->mC C S af h bU aN n av M tmps (.s6 ax aw a rest fin::F) (.inRegion ax (a::l)::bx)
 |drawn {ax base aw l F bx dr eE e Y}:lH C S af av F bx->bU<=base->base+ax.size<=aN->q3 C S af h base n av ax aw eE (eE+1) M tmps dr->(gH C n av ax)[eE]? =some e->
   ax[e.1.i]? =some Y->¬dr e.1.i->(∀I∈Y.after.toList,Region.binds .any I=true->dr I.on)->wH ax (add dr e.1.i) l->
   mC C S af h bU aN n av M tmps (.As ax base aw e.1.i (y9 (lP C n av ax) (eE+1) ((gH C n av ax).drop (eE+1))) (kZ av ax.toList 0)::F) (.inRegion ax (e.1.i::l)::bx)
 |cW {l F bx}:lH C S af av F bx->jk S af n av M tmps->af l->mC C S af h bU aN n av M tmps (.inRangeFunc l::F) (.inRangeFunc (S l).cI::bx)
def AG(C:a2)(S:da)(af:Nat->Prop)(h:V an)(bU aN n av:Nat)(M:V J)(tmps:Array Value)(bP:kT)(todo:List d0)(bx:List Item):Prop:=match bP with
 | .run=>mC C S af h bU aN n av M tmps todo bx
 |_=>jk S af n av M tmps
def ct(S:da)(fn:Nat)(bg:List hN)(aF:Bool)(ro:Option Nat)(tmps:Array Value)(bx:List Item)(mode:FrameMode):Frame:=
 {fn,tmps,todo:=bx,defers:=bg.map (lM S),mode,kind:=if aF then .deferred else .normal,roundOf:=ro.map λl=>(S l).cI}
structure wB(C:a2)(af:Nat->Prop)(fn av:Nat)(bg:List hN)(ro:Option Nat):Prop where
 bg:∀d∈bg,wZ af d
 ro:∀l,ro=some l->af l
 fn:OL C fn av
inductive oD(C:a2)(S:da)(af:Nat->Prop)(h:V an)(bE:Nat)(bQ:List Frame):Nat->List gN->List Frame->Prop
 |nil {dk}:oD C S af h bE bQ dk [] bQ
 |cons {bU dk fn n av M todo bg bP aF ro cs tmps bx aq}:AG C S af h bU dk n av M tmps bP todo bx->qp af bP->wB C af fn av bg ro->(cs=[]->fn=bE/\aF=false/\ro=none)->bU<=dk->oD C S af h bE bQ bU cs aq->
   oD C S af h bE bQ dk (⟨fn,n,av,M,todo,bg,bP,aF,ro⟩::cs) (ct S fn bg aF ro tmps bx (gO S bP)::aq)
section
variable{C:a2}{S dg:da}{af dE:Nat->Prop}{h U:V an}{j ar bm:Nat}{w bZ:World}{n av:Nat}{ax:Array Oper}
def lH.ad{F:List d0}{bx:List Item}(dS:∀b,af b->dg b=S b)(gI:∀b,af b->dE b)(a:lH C S af av F bx):lH C dg dE av F bx:=by
 induction a with
 |nil=>exact .nil
 |cons T _ am=>
  refine .cons ?_ am
  cases T with
  |code a=>exact .code a
  |inBlock=>exact .inBlock
  |inLoop a=>exact .inLoop a
  |inScope a=>exact .inScope a
  |CL a=>rw[<-dS _ a];exact .CL (gI _ a)
  |begin=>exact .begin
def mC.ad{bU dk:Nat}{M:V J}{tmps:Array Value}{F:List d0}{bx:List Item}(ah:iD C dk S af h bm w dg dE U bZ)(a:mC C S af h bU dk n av M tmps F bx):mC C dg dE U bU dk n av M tmps F bx:=by
 cases a with
 |seq T W=>
  obtain⟨Y,bf,ck,a3,a4,a5,hv,ic⟩:=W
  exact .seq (T.ad ah.iP ah.jA) ⟨Y,bf,ck,a3,a4,a5,hv.ad ah.iP ah.jA,ic⟩
 |drawn T W au aP bK cr dP fi kd=>exact .drawn (T.ad ah.iP ah.jA) W au (aP.ad ah au) bK cr dP fi kd
 |cW T W au=>rw[<-ah.iP _ au];exact .cW (T.ad ah.iP ah.jA) (W.ad ah.iP ah.jA) (ah.jA _ au)
def AG.ad{bU dk:Nat}{M:V J}{tmps:Array Value}{bP:kT}{F:List d0}{bx:List Item}(ah:iD C dk S af h bm w dg dE U bZ)(a:AG C S af h bU dk n av M tmps bP F bx):AG C dg dE U bU dk n av M tmps bP F bx:=by
 cases bP with
 |run=>exact mC.ad ah a
 |returning=>exact jk.ad ah.iP ah.jA a
 |panicking gb=>exact jk.ad ah.iP ah.jA a
def wB.ad{fn:Nat}{bg:List hN}{ro:Option Nat}(gI:∀b,af b->dE b)(a:wB C af fn av bg ro):wB C dE fn av bg ro:=
 ⟨λd aO=>σ gI (a.bg d aO),λl aD=>gI l (a.ro l aD),a.fn⟩
def GL{fn:Nat}{bg:List hN}{aF:Bool}{ro:Option Nat}{tmps:Array Value}{bx:List Item}{mode:FrameMode}(dS:∀b,af b->dg b=S b)(a:wB C af fn av bg ro):ct dg fn bg aF ro tmps bx mode=ct S fn bg aF ro tmps bx mode:=by
 unfold ct
 congr 1
 ·exact YC λd aO=>Ps dS (a.bg d aO)
 ·cases ro with
  |none=>rfl
  |some l=>simp only[ZV,dS l (a.ro l rfl)]
def ak8{bP:kT}(dS:∀b,af b->dg b=S b)(a:qp af bP):gO dg bP=gO S bP:=by
 cases bP with
 |panicking gb=>
  simp only[gO]
  congr 1
  exact YC λp aA=>by simp only[tj,qi dS (a p aA)]
 |_=>rfl
def an1{bP:kT}(gI:∀b,af b->dE b)(a:qp af bP):qp dE bP:=by
 cases bP with
 |panicking gb=>exact λp aA=>oV gI _ (a p aA)
 |_=>trivial
def iD.mono{dk J0:Nat}(a:iD C dk S af h bm w dg dE U bZ)(aD:J0<=dk):iD C J0 S af h bm w dg dE U bZ:=
 ⟨a.iP,a.jA,λb ai=>(a.new b ai).imp id (λao=>Zo),λb ai c4=>a.ad b ai Zo,a.below⟩
def oD.ad{bE:Nat}{bQ:List Frame}{dk:Nat}{cs:List gN}{aq:List Frame}(a:oD C S af h bE bQ dk cs aq)(ah:iD C dk S af h bm w dg dE U bZ):oD C dg dE U bE bQ dk cs aq:=by
 induction a with
 |nil=>exact .nil
 |cons T bs W aP bK cr am=>
  rw[<-GL (S:=S) (dg:=dg) ah.iP W, <-ak8 ah.iP bs]
  exact .cons (T.ad ah) (an1 ah.jA bs) (W.ad ah.jA) aP bK (am (ah.mono bK))
def Lu(t:Nat):∀(l:List Nat) (M:V J),(wR l M).get t=if t∈l then none else M.get t:=by
 intro l
 induction l with
 |nil=>intro M;simp[wR]
 |cons d l am=>
  intro M
  simp only[wR,am,V.kc,Zq]
  by_cases a:t∈l
  ·simp[a]
  ·by_cases I:d=t
   ·subst I;simp
   ·have:¬t=d:=λao=>I ao.symm
    simp[a,I,this]
def jk.drop{M:V J}{tmps:Array Value}(a:jk S af n av M tmps)(l:List Nat):jk S af n av (wR l M) tmps:=by
 refine⟨a.size,λt v ai bD=> ?_⟩
 rw[Lu]at bD
 split at bD
 ·cases bD
 ·exact a.val t v ai bD
def XD{l:List Oper}{Y:Oper}{d:Nat}(bl:Y∈l)(aO:Y.dst=some d):d∈dstsOf l:=by
 induction l with
 |nil=>cases bl
 |cons K l am=>
  simp only[dstsOf]
  rcases Zq.1 bl with rfl|bl
  ·rw[aO];exact Zv ..
  ·split
   ·exact Zu _ (am bl)
   ·exact am bl
def mC.drop{bU dk:Nat}{M:V J}{tmps:Array Value}{F:List d0}{bx:List Item}(a:mC C S af h bU dk n av M tmps F bx):jk S af n av (uH F M) tmps:=by
 cases a with
 |seq T W=>
  rename_i ax aw a rest fin l F bx
  obtain⟨Y,bf,ck,a3,a4,a5,hv,ic⟩:=W
  refine⟨ic,λt v ai bD=> ?_⟩
  simp only[uH]at bD
  rw[Lu]at bD
  split at bD
  ·cases bD
  ·rename_i aM
   have aN:a<ax.size:=(ZK.1 bf).1
   obtain⟨_,e2,_⟩:=KO ax a (zj aN)
   apply hv t v trivial
   cases bL:ez (ip ax a) t with
   |some aa=>
    exfalso
    obtain⟨b5,cd,_⟩:=e2 t aa bL
    unfold sb at cd
    cases bl:ax[aa]? with
    |none=>rw[bl]at cd;cases cd
    |some o'=>
     rw[bl]at cd
     exact aM (XD (by rw[Array.mem_toList_iff];exact Y3 bl) cd)
   |none=>exact⟨ai,bD⟩
 |drawn T W au aP bK cr dP fi kd=>
  rename_i ax base aw l F bx dr eE e Y
  refine⟨aP.size,λt v ai bD=> ?_⟩
  simp only[uH]at bD
  rw[Lu]at bD
  split at bD
  ·cases bD
  ·rename_i aM
   apply aP.CH t v
   right
   refine⟨λaa bX aO=> ?_,ai,bD⟩
   unfold sb at aO
   cases bl:ax[aa]? with
   |none=>rw[bl]at aO;cases aO
   |some o'=>
    rw[bl]at aO
    exact aM (XD (by rw[Array.mem_toList_iff];exact Y3 bl) aO)
 |cW T W au=>exact W
def AG.drop{bU dk:Nat}{M:V J}{tmps:Array Value}{bP:kT}{F:List d0}{bx:List Item}(a:AG C S af h bU dk n av M tmps bP F bx):jk S af n av (uH F M) tmps:=by
 cases bP with
 |run=>exact mC.drop a
 |_=>
  have cz:jk S af n av M tmps:=a
  unfold uH
  split<;>first|exact cz.drop _|exact cz
def oL.put{M:V J}{aw:List (Nat×J)}{tmps:Array Value}{i:Nat}{Y:Oper}{v:J}(bl:ax[i]? =some Y)(bD:oL S af av (λ_=>True) (ip ax i) aw M tmps)(aO:∀d,Y.dst=some d->d<tmps.size)(fy:cn af v):
 oL S af av (λ_=>True) (ip ax (i+1)) ((i,v)::aw) M (p8 tmps Y.dst (aS S v)):=by
 have aN:i<ax.size:=(ZK.1 bl).1
 obtain⟨_,e2,_⟩:=KO ax i (zj aN)
 intro t ae _ a
 rw[ael _ _ _ _ aO]
 rw[KM bl,EP]at a
 split at a
 ·rename_i aa bL
  split at bL
  ·rename_i I
   cases bL
   rw[rf,Zr rfl]at a
   cases a
   rw[Zr I]
   exact⟨rfl,fy⟩
  ·rename_i I
   rw[Zh I]
   have:=(e2 t aa bL).1
   rw[rf,Zh Zo]at a
   exact bD t ae trivial (by rw[bL];exact a)
 ·rename_i bL
  split at bL
  ·cases bL
  ·rename_i I
   rw[Zh I]
   exact bD t ae trivial (by rw[bL];exact a)
def LM{g:Frame}{a:Nat}{l:List Nat}{bx:List Item}{Y:Oper}(b0:g.todo= .inRegion ax (a::l)::bx)(bl:ax[a]? =some Y)(v:Value):
 g.finish v={g with tmps:=p8 g.tmps Y.dst v,todo:= .inRegion ax l::bx}:=by
 unfold Frame.finish
 rw[b0]
 simp only[bl,ZE]
 cases Y.dst<;>rfl
def amT{bU dk j n av fn:Nat}{M:V J}{tmps:Array Value}{todo:List d0}{bx:List Item}{bg:List hN}{aF:Bool}{ro:Option Nat}{mode:FrameMode}{v:J}(a:mC C S af h bU dk n av M tmps todo bx)(aD:dk<=j)(fy:cn af v):
 ∃eT F hJ hM h2,todo=eT::F/\oT eT v=some hJ/\(ct S fn bg aF ro tmps bx mode).finish (aS S v)=ct S fn bg aF ro hM h2 mode/\Cu C S af h bU j n av M hM (hJ::F) h2:=by
 cases a with
 |seq T W=>
  rename_i ax aw a rest fin l F bx
  obtain⟨Y,bf,ck,a3,a4,a5,hv,ic⟩:=W
  have c4:a<ax.size:=(ZK.1 bf).1
  refine⟨_,F, .Hb ax ((a,v)::aw) rest fin,p8 tmps Y.dst (aS S v), .inRegion ax l::bx,rfl,rfl, ?_, .seq T ⟨a+1,Zo,a3,a4,a5,hv.put bf (by rw[ic];exact ck) fy,by rw[NX];exact ic⟩⟩
  rw[LM (g:=ct S fn bg aF ro tmps _ mode) rfl bf];rfl
 |drawn T W au aP bK cr dP fi kd=>
  rename_i ax base aw l F bx dr eE e Y
  have H:=Zn bK
  have o0:∀d,Y.dst=some d->d<n:=by
   obtain⟨o',b5,cd,c0,el,fK,d8⟩:=yo aP.st (Lq H).1
   have:o'=Y:=by
    have:=d8.oper
    rw[cr]at this
    exact(Yv this).symm
   subst this
   exact fK.dst
  refine⟨_,F, .drawn ax base ((e.1.i,v)::aw) _ _,p8 tmps Y.dst (aS S v), .inRegion ax l::bx,rfl,rfl, ?_, .drawn T W (Zz au aD) (aP.fs bK cr dP fi fy o0) kd⟩
  rw[LM (g:=ct S fn bg aF ro tmps _ mode) rfl cr];rfl
 |cW T W au=>
  rename_i l F bx
  exact⟨_,F, .endRangeFunc l,tmps, .endRangeFunc (S l).cI::bx,rfl,rfl,rfl, .plain (.cons (.CL au) T) W⟩
def Oy{M:V J}{aw kq:List (Nat×J)}{tmps:Array Value}{X:Nat->Prop}{i:Nat}{Y:Oper}{g:Option (Nat×Bool)}{b:Bool}(aN:i<=ax.size)(b0:HU (ip ax i) Y.guard=some g)(bD:oL S af av X (ip ax i) aw M tmps)
 (bW:∀aa b t,Y.guard=some (aa,b)->wS aa (ip ax i)=some t->X t)(aI:Sub kq aw)(a:oC g kq=some b):Region.wanted Y (yielded ax tmps)=b:=by
 obtain⟨eS,_,_⟩:=KO ax i aN
 unfold HU at b0
 unfold Region.wanted
 split at b0
 ·rename_i aqa
  simp at b0;subst b0
  simp[oC]at a
  rw[aqa, <-a]
 ·rename_i aa lF u5
  rw[u5]
  split at b0
  ·rename_i t bb
   split at b0
   ·rename_i pb bL
    rw[hO]at b0
    split at b0
    ·rename_i I
     subst I
     simp at b0;subst b0
     simp only[oC]at a
     split at a
     ·rename_i ae be
      have:=bD t ae (bW aa lF t u5 bb) (by rw[bL];exact aI _ _ be)
      have H:yielded ax tmps aa=(match aS S ae with| .bool b=>some b|_=>none):=by
       unfold yielded
       have aO:=eS aa t bb
       unfold sb at aO
       rw[aO]
       simp only[ZE,this.1]
       cases aS S ae<;>rfl
      simp only[H]
      cases ae<;>simp[aS]at a ⊢ <;>first|(rw[<-a])|exact a|(subst a;rfl)|skip
      all_goals simp_all
     ·simp at a
    ·simp at b0
   ·simp at b0
  ·simp at b0
end
end Go.bk

namespace Go.bk
open Go.RowKit (Below)
structure OQ(C:a2)(bt:World):Prop where
 val:∀f args v,C.hf f args=some v->((∀S iC,aS S v=aS iC v)/\∀af,cn af v)/\(∀S iC,b2 S args=b2 iC args)/\∀af,eA af args
 ok:∀f args v,C.hf f args=some v->∀S w,Below bt.heap.size bt w->
  (callFunc f (b2 S args).toArray).run C.P w= .ok (.value (aS S v)) w\/
  ((callFunc f (b2 S args).toArray).run C.P w= .ok (.enter f (b2 S args).toArray) w/\Calls C.P f (b2 S args).toArray w λI bZ=>I= .returned (aS S v)/\Below w.heap.size w bZ)
structure Env(C:a2)(bt:World)(dW:da)(ec:Nat->Prop):Prop where
 km:x7 C.P
 hf:OQ C bt
 base:dt C dW ec .nil C.ba bt.heap.size bt
 h0:rV C dW ec
def Ends(C:a2)(bt:World)(bE:Nat)(bQ:List Frame)(v:J)(dw:Machine):Prop:=
 ∃S bZ fr,Steps C.P dw (lone fr bQ bZ)/\fr.leaving C.P bZ (.returned (aS S v))/\fr.fn=bE/\Below bt.heap.size bt bZ
structure Ct(C:a2)(bt:World)(bE:Nat)(bQ:List Frame)(bP:kT)(todo:List d0)(fn n av:Nat)(bg:List hN)(aF:Bool)(ro:Option Nat)(cs:List gN)(M:V J)(h:V an)(j:Nat)
 (S:da)(af:Nat->Prop)(w:World)(dk:Nat)(tmps:Array Value)(bx:List Item)(aq:List Frame):Prop where
 Z:dt C S af h j bt.heap.size w
 kW:Below bt.heap.size bt w
 h0:rV C S af
 j2:dk<=j
 hZ:wB C af fn av bg ro
 mode:qp af bP
 bot:cs=[]->fn=bE/\aF=false/\ro=none
 cs:oD C S af h bE bQ dk cs aq
 todo:match bP with
  | .run=>Cu C S af h dk j n av M tmps todo bx
  |_=>jk S af n av M tmps
def nt(C:a2)(bt:World)(bE:Nat)(bQ:List Frame)(am:hE):Prop:=
 ∀bP todo fn n av bg aF ro cs M h j v,am bP todo ⟨fn,n,av,bg,aF,ro,cs⟩ M h j=some v->
  ∀S af w dk tmps bx aq,Ct C bt bE bQ bP todo fn n av bg aF ro cs M h j S af w dk tmps bx aq->Ends C bt bE bQ v (lone (ct S fn bg aF ro tmps bx (gO S bP)) aq w)
section
variable{C:a2}{S dg:da}{af dE:Nat->Prop}{h U:V an}{j ar bm:Nat}{w bZ:World}{n av:Nat}{ax:Array Oper}
variable{bt:World}{bE:Nat}{bQ:List Frame}{v:J}
def Ends.head{dw Hv:Machine}(a:step C.P dw= .next Hv)(cz:Ends C bt bE bQ v Hv):Ends C bt bE bQ v dw:=by
 obtain⟨S,bZ,fr,T,W⟩:=cz
 exact⟨S,bZ,fr, .head a T,W⟩
def Ends.steps{dw Hv:Machine}(a:Steps C.P dw Hv)(cz:Ends C bt bE bQ v Hv):Ends C bt bE bQ v dw:=by
 obtain⟨S,bZ,fr,T,W⟩:=cz
 exact⟨S,bZ,fr,a.trans T,W⟩
def dt.later(Z:dt C S af h j bm w)(ai:Below w.heap.size w bZ):dt C S af h j bm bZ:=
 ⟨Z.ba,Z.lt,Z.vO,λb Y a d=>(Z.obj b Y a d).ad (λ_ _=>rfl) (λ_ a=>a) (ai.block _ (Z.obj b Y a d).lt),Z.sep,Z.base,Z.fz⟩
def Env.now{dW:da}{ec:Nat->Prop}(bA:Env C bt dW ec)(ai:Below bt.heap.size bt w):dt C dW ec .nil C.ba w.heap.size w:=by
 have Z:=bA.base.later ai
 refine⟨Z.ba,Z.lt,Z.vO,Z.obj,Z.sep, ?_,Z.fz⟩
 intro b Y aM bl _
 exfalso
 unfold ab at bl
 rw[fG,Zh (by simp[Nat.blt];omega)]at bl
 simp at bl
def Env.later{dW:da}{ec:Nat->Prop}(bA:Env C bt dW ec)(ai:Below bt.heap.size bt w):Env C w dW ec:=
 ⟨bA.km,⟨bA.hf.val,λf args v a S py lT=>bA.hf.ok f args v a S py (ai.trans (lT.mono ai.size))⟩,bA.now ai,bA.h0⟩
variable{fn:Nat}{bg:List hN}{aF:Bool}{ro:Option Nat}{tmps:Array Value}{bx:List Item}{aq:List Frame}
def mx(tmps:Array Value)(bx:List Item):stepG C.P true {frame:=ct S fn bg aF ro tmps bx .run,callers:=aq,status:= .running,dying:=none} w=stepG.exec C.P true true (ct S fn bg aF ro tmps bx .run) aq none w:=by
 simp[stepG,ct]
def axR{K b:Code}:step C.P (lone (ct S fn bg aF ro tmps (.code (.seq K b)::bx) .run) aq w)= .next (lone (ct S fn bg aF ro tmps (.code K:: .code b::bx) .run) aq w):=
 step_lone_go (by rw[mx];simp[stepG.exec,ct])
def axS:step C.P (lone (ct S fn bg aF ro tmps (.code .skip::bx) .run) aq w)= .next (lone (ct S fn bg aF ro tmps bx .run) aq w):=
 step_lone_go (by rw[mx];simp[stepG.exec,ct])
def axH{l:Nat}:step C.P (lone (ct S fn bg aF ro tmps (.code (.label l)::bx) .run) aq w)= .next (lone (ct S fn bg aF ro tmps bx .run) aq w):=
 step_lone_go (by rw[mx];simp[stepG.exec,ct])
def axE{l:Nat}:step C.P (lone (ct S fn bg aF ro tmps (.inBlock l::bx) .run) aq w)= .next (lone (ct S fn bg aF ro tmps bx .run) aq w):=
 step_lone_go (by rw[mx];simp[stepG.exec,ct])
def axG{b:Code}:step C.P (lone (ct S fn bg aF ro tmps (.inScope b::bx) .run) aq w)= .next (lone (ct S fn bg aF ro tmps bx .run) aq w):=
 step_lone_go (by rw[mx];simp[stepG.exec,ct])
def axy{id:Nat}{b:Code}:step C.P (lone (ct S fn bg aF ro tmps (.code (.block id b)::bx) .run) aq w)= .next (lone (ct S fn bg aF ro tmps (.code b:: .inBlock id::bx) .run) aq w):=
 step_lone_go (by rw[mx];simp[stepG.exec,ct])
def axI{b:Code}:step C.P (lone (ct S fn bg aF ro tmps (.code (.loop b)::bx) .run) aq w)= .next (lone (ct S fn bg aF ro tmps (.code b:: .inLoop b::bx) .run) aq w):=
 step_lone_go (by rw[mx];simp[stepG.exec,ct])
def axF{b:Code}:step C.P (lone (ct S fn bg aF ro tmps (.inLoop b::bx) .run) aq w)= .next (lone (ct S fn bg aF ro tmps (.code b:: .inLoop b::bx) .run) aq w):=
 step_lone_go (by rw[mx];simp[stepG.exec,ct])
def axQ{b:Code}:step C.P (lone (ct S fn bg aF ro tmps (.code (.scope b)::bx) .run) aq w)= .next (lone (ct S fn bg aF ro tmps (.code b:: .inScope b::bx) .run) aq w):=
 step_lone_go (by rw[mx];simp[stepG.exec,ct])
def axz{c:Operand}{K b:Code}{t:Bool}(a:kS tmps c= .bool t):step C.P (lone (ct S fn bg aF ro tmps (.code (.cond c K b)::bx) .run) aq w)= .next (lone (ct S fn bg aF ro tmps (.code (if t then K else b)::bx) .run) aq w):=
 step_lone_go (by
  have cz:(ct S fn bg aF ro tmps (.code (.cond c K b)::bx) .run).eval c= .bool t:=by rw[Ie];exact a
  rw[mx]
  simp only[ct]at cz
  simp[stepG.exec,ct,cz])
def axD{id:Nat}{h2:List Item}(a:Go.exitTo id bx=some h2):step C.P (lone (ct S fn bg aF ro tmps (.code (.exit id)::bx) .run) aq w)= .next (lone (ct S fn bg aF ro tmps h2 .run) aq w):=
 step_lone_go (by rw[mx];simp[stepG.exec,ct,a])
def axN:step C.P (lone (ct S fn bg aF none tmps (.code .ret::bx) .run) aq w)= .next (lone (ct S fn bg aF none tmps (.code .ret::bx) .returning) aq w):=
 step_lone_go (by rw[mx];simp[stepG.exec,ct])
def axB:step C.P (lone (ct S fn bg aF none tmps [] .run) aq w)= .next (lone (ct S fn bg aF none tmps [] .returning) aq w):=
 step_lone_go (by rw[mx];simp[stepG.exec,ct])
def axL{id:Nat}:step C.P (lone (ct S fn bg aF ro tmps (.code (.region id ax false)::bx) .run) aq w)= .next (lone (ct S fn bg aF ro tmps (.inRegion ax (List.range ax.size)::bx) .run) aq w):=
 step_lone_go (by rw[mx];simp[stepG.exec,ct])
def axM{id:Nat}:step C.P (lone (ct S fn bg aF ro tmps (.code (.region id ax true)::bx) .run) aq w)=
 .next (lone (ct S fn bg aF ro tmps (.inRegion ax (Region.schedule (C.P.follows .mixedOrders) ax (w.tape w.drawn (.order fn id)))::bx) .run) aq w.drew):=
 step_lone_go (by rw[mx];simp[stepG.exec,ct,Question.forced,Question.cut])
def aeR:step C.P (lone (ct S fn bg aF ro tmps (.inRegion ax []::bx) .run) aq w)= .next (lone (ct S fn bg aF ro tmps bx .run) aq w):=
 step_lone_go (by rw[mx];simp[stepG.exec,ct])
def TI{i:Nat}{l:List Nat}{Y:Oper}(bl:ax[i]? =some Y)(bI:Region.wanted Y (yielded ax tmps)=false):
 step C.P (lone (ct S fn bg aF ro tmps (.inRegion ax (i::l)::bx) .run) aq w)= .next (lone ((ct S fn bg aF ro tmps (.inRegion ax (i::l)::bx) .run).finish Go.undef) aq w):=
 step_lone_go (by rw[mx];simp[stepG.exec,ct,bl,bI])
def S2{ay:Operand->Value}{Y:Oper}{ub:Next}(Z:(execOp ay Y).run C.P w= .ok ub bZ)(a:∀d,ub≠ .defer d):∀c,Y.op≠ .defer c:=by
 intro c aB
 have ah:execOp ay Y=(do pure (.defer (<-resolve ay c Y.type))):=by unfold execOp;rw[aB]
 rw[ah]at Z
 simp only[Sem.run_bind]at Z
 cases b6:(resolve ay c Y.type).run C.P w with
 |ok d py=>
  rw[b6]at Z
  simp only[Result.andThen_ok,Sem.run_pure,Result.ok.injEq]at Z
  exact a d Z.1.symm
 |halt I py=>
  rw[b6]at Z
  simp at Z
def Hg{i:Nat}{l:List Nat}{Y:Oper}(bl:ax[i]? =some Y)(bI:Region.wanted Y (yielded ax tmps)=true)(jY:ro=none\/∀c,Y.op≠ .defer c):
 stepG C.P true {frame:=ct S fn bg aF ro tmps (.inRegion ax (i::l)::bx) .run,callers:=aq,status:= .running,dying:=none} w=
  stepG.apply C.P true (ct S fn bg aF ro tmps (.inRegion ax (i::l)::bx) .run) aq none (execOp (kS tmps) Y) w:=by
 rw[mx]
 rcases jY with rfl|jY
 ·simp[stepG.exec,stepG.oper,ct,Frame.oper?,bl,bI,Ie]
 ·cases ro with
  |none=>simp[stepG.exec,stepG.oper,ct,Frame.oper?,bl,bI,Ie]
  |some r=>
   have:∀(c:Call),Y.op≠ .defer c:=jY
   simp[stepG.exec,stepG.oper,ct,Frame.oper?,bl,bI,Ie]
   split
   ·rename_i W;exact absurd W (this _)
   ·rfl
def Ek{i:Nat}{l:List Nat}{Y:Oper}{ae:Value}{ub:Next}(bl:ax[i]? =some Y)(bI:Region.wanted Y (yielded ax tmps)=true)
 (Z:(execOp (kS tmps) Y).run C.P w= .ok ub bZ)(aM:ub= .value ae\/(ub= .skip/\ae=Go.undef)):
 step C.P (lone (ct S fn bg aF ro tmps (.inRegion ax (i::l)::bx) .run) aq w)= .next (lone ((ct S fn bg aF ro tmps (.inRegion ax (i::l)::bx) .run).finish ae) aq bZ):=
 step_lone_go (by
  rw[Hg bl bI (.inr (S2 Z (by rcases aM with rfl|⟨rfl,rfl⟩<;>simp)))]
  rcases aM with rfl|⟨rfl,rfl⟩
  ·simp[stepG.apply,Z]
  ·simp[stepG.apply,Z])
def aeP{i:Nat}{l:List Nat}{Y:Oper}{f:Nat}{args:Array Value}(bl:ax[i]? =some Y)(bI:Region.wanted Y (yielded ax tmps)=true)
 (Z:(execOp (kS tmps) Y).run C.P w= .ok (.enter f args) bZ):
 step C.P (lone (ct S fn bg aF ro tmps (.inRegion ax (i::l)::bx) .run) aq w)= .next (lone (Frame.enter C.P f args .normal) (ct S fn bg aF ro tmps (.inRegion ax (i::l)::bx) .run::aq) bZ):=
 step_lone_go (by rw[Hg bl bI (.inr (S2 Z Zs))];simp[stepG.apply,Z,ct])
def axO{i:Nat}{l:List Nat}{Y:Oper}{b f:Nat}{aY:Array Value}{assign body:Code}(bl:ax[i]? =some Y)(bI:Region.wanted Y (yielded ax tmps)=true)
 (Z:(execOp (kS tmps) Y).run C.P w= .ok (.round b f aY assign body) bZ):
 step C.P (lone (ct S fn bg aF ro tmps (.inRegion ax (i::l)::bx) .run) aq w)= .next (lone (Frame.round b f aY assign body .normal) (ct S fn bg aF ro tmps (.inRegion ax (i::l)::bx) .run::aq) bZ):=
 step_lone_go (by rw[Hg bl bI (.inr (S2 Z Zs))];simp[stepG.apply,Z,ct])
def axA{i:Nat}{l:List Nat}{Y:Oper}{d:hN}(bl:ax[i]? =some Y)(bI:Region.wanted Y (yielded ax tmps)=true)
 (Z:(execOp (kS tmps) Y).run C.P w= .ok (.defer (lM S d)) bZ):
 step C.P (lone (ct S fn bg aF none tmps (.inRegion ax (i::l)::bx) .run) aq w)= .next (lone ((ct S fn (d::bg) aF none tmps (.inRegion ax (i::l)::bx) .run).finish Go.undef) aq bZ):=
 step_lone_go (by rw[Hg bl bI (.inl rfl)];simp[stepG.apply,Z,ct])
def axJ{i:Nat}{l:List Nat}{Y:Oper}{ae:J}(bl:ax[i]? =some Y)(bI:Region.wanted Y (yielded ax tmps)=true)
 (Z:(execOp (kS tmps) Y).run C.P w= .halt (.panic (aS S ae)) bZ):
 step C.P (lone (ct S fn bg aF none tmps (.inRegion ax (i::l)::bx) .run) aq w)= .next (lone (ct S fn bg aF none tmps (.inRegion ax (i::l)::bx) (gO S (.panicking [⟨ae,false⟩]))) aq bZ):=
 step_lone_go (by rw[Hg bl bI (.inl rfl)];simp[stepG.apply,Z,ct,Frame.raise,gO,tj])
def axK{i:Nat}{l:List Nat}{Y:Oper}{ae:Value}{ja:List Frame}(bl:ax[i]? =some Y)(bI:Region.wanted Y (yielded ax tmps)=true)
 (Z:(execOp (kS tmps) Y).run C.P w= .ok .recover bZ)
 (bb:Go.tryRecover (ct S fn bg aF none tmps (.inRegion ax (i::l)::bx) .run) aq=some (ae,ja)\/(Go.tryRecover (ct S fn bg aF none tmps (.inRegion ax (i::l)::bx) .run) aq=none/\ae= .nilIface/\ja=aq)):
 step C.P (lone (ct S fn bg aF none tmps (.inRegion ax (i::l)::bx) .run) aq w)= .next (lone ((ct S fn bg aF none tmps (.inRegion ax (i::l)::bx) .run).finish ae) ja bZ):=
 step_lone_go (by
  rw[Hg bl bI (.inl rfl)]
  have I:(ct S fn bg aF none tmps (.inRegion ax (i::l)::bx) .run).roundOf=none:=rfl
  rcases bb with bb|⟨bb,rfl,rfl⟩
  ·simp[stepG.apply,Z,I,bb]
  ·simp[stepG.apply,Z,I,bb])
def axx{b:Nat}(Z:(Instr.beginRound (S b).cI).run C.P w= .ok () bZ):
 step C.P (lone (ct S fn bg aF (some b) tmps (.beginRound::bx) .run) aq w)= .next (lone (ct S fn bg aF (some b) tmps bx .run) aq bZ):=
 step_lone_go (by rw[mx];simp[stepG.exec,stepG.apply,ct,Z,Frame.finish])
def axC{b:Nat}{iL:Option Code}(Z:(Instr.endLoop b).run C.P w= .ok iL bZ):
 step C.P (lone (ct S fn bg aF ro tmps (.endRangeFunc b::bx) .run) aq w)= .next (lone (ct S fn bg aF ro tmps ((iL.map Item.code).toList++bx) .run) aq bZ):=
 step_lone_go (by rw[mx];simp[stepG.exec,ct,Z])
def aeQ{f:Operand}{params:Array Tmp}{assign body:Code}{b:Nat}{mark:List Deferred}{g:Nat}{args:Array Value}{np:World}{d:Deferred}
 (bA:(Instr.enterLoop fn tmps params assign body (ro.map λl=>(S l).cI)).run C.P w= .ok (b,mark) np)
 (lW:(resolve (kS tmps) {callee:= .value f,args:= #[.const (.func (.yield b) #[] #[])],argTypes:= #[]} 0).run C.P np= .ok d np)(Rp:(invoke d.target d.args).run C.P np= .ok (.enter g args) bZ):
 step C.P (lone (ct S fn bg aF ro tmps (.code (.rangeFunc f params assign body)::bx) .run) aq w)=
  .next (lone (Frame.enter C.P g args .normal) ({ct S fn bg aF ro tmps (.inRangeFunc b::bx) .run with defers:=mark++bg.map (lM S)}::aq) bZ):=
 step_lone_go (by
  rw[mx]
  have cP:({ct S fn bg aF ro tmps (.inRangeFunc b::bx) .run with defers:=mark++bg.map (lM S)}:Frame).eval=kS tmps:=by rw[Ie];rfl
  simp only[ct]at cP
  simp[stepG.exec,ct,Sem.runT_eq,bA,GStep.bare_after,stepG.apply,cP,Sem.run_bind,lW,Rp,Result.andThen])
def axP{iL:Option Code}{b:Nat}{ae:Value}{g:Frame}(aL:(iL=none/\bx=[])\/(iL=some .ret/\∃F,bx= .code .ret::F)\/(∃id F,iL=some (.exit id)/\bx= .code (.exit id)::F/\Go.exitTo id F=none))
 (bA:(Instr.endRound (S b).cI iL).run C.P w= .ok ae bZ):
 step C.P (lone (ct S fn bg false (some b) tmps bx .run) (g::aq) w)= .next (lone (g.finish ae) aq bZ):=
 step_lone_go (by
  rw[mx]
  rcases aL with ⟨rfl,rfl⟩|⟨rfl,F,rfl⟩|⟨id,F,rfl,rfl,ah⟩
  ·simp[stepG.exec,ct,Sem.runT_eq,bA,GStep.bare_after,doReturn]
  ·simp[stepG.exec,ct,Sem.runT_eq,bA,GStep.bare_after,doReturn]
  ·simp[stepG.exec,ct,Sem.runT_eq,bA,GStep.bare_after,doReturn,ah])
def axT{r:Nat}{cv:List J}{ds:List hN}{pK:List Deferred}{mode:FrameMode}{dE:List hN}(bs:mode≠ .run)(bA:(Instr.takeDeferred (S r).cI).run C.P w= .ok pK bZ)(aO:pK++ds.map (lM S)=dE.map (lM S)):
 step C.P (lone (ct S fn (⟨.collected r,cv⟩::ds) aF ro tmps bx mode) aq w)= .next (lone (ct S fn dE aF ro tmps bx mode) aq bZ):=
 step_lone_go (by
  cases mode with
  |run=>exact absurd rfl bs
  |returning=>simp[stepG,unwind,ct,lM,CD,Sem.runT_eq,bA,GStep.bare_after,aO]
  |panicking gb=>simp[stepG,unwind,ct,lM,CD,Sem.runT_eq,bA,GStep.bare_after,aO])
end
end Go.bk

namespace Go.bk
open Go.RowKit (Below)
section
variable{C:a2}{S dg dW:da}{af dE ec:Nat->Prop}{h U:V an}{j ar bm:Nat}{w bZ:World}{n av:Nat}{ax:Array Oper}
variable{bt:World}{bE:Nat}{bQ:List Frame}{v:J}{am:hE}
variable{fn:Nat}{bg:List hN}{aF:Bool}{ro:Option Nat}{cs:List gN}{M:V J}{tmps:Array Value}{bx:List Item}{aq:List Frame}{bU aN:Nat}
structure i2(C:a2)(bt:World)(bE:Nat)(bQ:List Frame)(fn av:Nat)(bg:List hN)(aF:Bool)(ro:Option Nat)(cs:List gN)(h:V an)(j:Nat)(S:da)(af:Nat->Prop)(w:World)(dk:Nat)(aq:List Frame):Prop where
 Z:dt C S af h j bt.heap.size w
 kW:Below bt.heap.size bt w
 h0:rV C S af
 j2:dk<=j
 hZ:wB C af fn av bg ro
 bot:cs=[]->fn=bE/\aF=false/\ro=none
 cs:oD C S af h bE bQ dk cs aq
def i2.eH{dk:Nat}(a:i2 C bt bE bQ fn av bg aF ro cs h j S af w dk aq):bt.heap.size<=w.heap.size:=a.kW.size
def i2.ext{dk:Nat}(a:i2 C bt bE bQ fn av bg aF ro cs h j S af w dk aq)(Z:dt C dg dE U ar bt.heap.size bZ)(ah:iD C dk S af h bt.heap.size w dg dE U bZ)(aM:j<=ar):
 i2 C bt bE bQ fn av bg aF ro cs U ar dg dE bZ dk aq:=
 ⟨Z,a.kW.trans ah.below,a.h0.ad ah.iP ah.jA,Zz a.j2 aM,a.hZ.ad ah.jA,a.bot,a.cs.ad ah⟩
def i2.state{dk:Nat}{todo:List d0}(a:i2 C bt bE bQ fn av bg aF ro cs h j S af w dk aq)(bb:Cu C S af h dk j n av M tmps todo bx):
 Ct C bt bE bQ .run todo fn n av bg aF ro cs M h j S af w dk tmps bx aq:=⟨a.Z,a.kW,a.h0,a.j2,a.hZ,trivial,a.bot,a.cs,bb⟩
def Ct.akA{todo:List d0}{dk:Nat}(a:Ct C bt bE bQ .run todo fn n av bg aF ro cs M h j S af w dk tmps bx aq):i2 C bt bE bQ fn av bg aF ro cs h j S af w dk aq/\Cu C S af h dk j n av M tmps todo bx:=
 ⟨⟨a.Z,a.kW,a.h0,a.j2,a.hZ,a.bot,a.cs⟩,a.todo⟩
def oD.inv{dk aV:Nat}{todo:List d0}{bP:kT}(a:oD C S af h bE bQ dk (⟨fn,aV,av,M,todo,bg,bP,aF,ro⟩::cs) aq):
 ∃bU tmps bx ja,aq=ct S fn bg aF ro tmps bx (gO S bP)::ja/\AG C S af h bU dk aV av M tmps bP todo bx/\qp af bP/\wB C af fn av bg ro/\(cs=[]->fn=bE/\aF=false/\ro=none)/\bU<=dk/\oD C S af h bE bQ bU cs ja:=by
 cases a with
 |cons T bs W aP bK cr=>exact⟨_,_,_,_,rfl,T,bs,W,aP,bK,cr⟩
def XI(gq:nt C bt bE bQ am){f:Nat}{args:List J}{dk:Nat}{CF:Bool}{tn:List gN}{w1:List Frame}(Z:dt C S af h j bt.heap.size w)(ai:Below bt.heap.size bt w)(h0:rV C S af)(aD:dk<=j)
 (h6:oD C S af h bE bQ dk tn w1)(Mp:tn=[]->f=bE/\CF=false)(ha:eA af args)(a:n5 am C f args CF tn h j=some v):Ends C bt bE bQ v (lone (Frame.enter C.P f (b2 S args).toArray (if CF then .deferred else .normal)) w1 w):=by
 unfold n5 at a
 split at a
 ·rename_i func b9
  split at a
  ·rename_i c aB
   simp only[mg,e5,Zp]at a
   obtain⟨⟨⟨T,W⟩,au⟩,a⟩:=a
   have T:=jm T
   have u3:Frame.enter C.P f (b2 S args).toArray (if CF then .deferred else .normal)=ct S f [] CF none ((b2 S args).toArray++Array.replicate (func.ntmps-args.length) Go.undef) [.code c] (gO S .run):=by
    simp[Frame.enter,ct,gO,b9,aB,jQ]
   rw[u3]
   refine gq _ _ _ _ _ _ _ _ _ _ _ _ v a S af w dk _ _ w1 ?_
   refine⟨Z,ai,h0,aD,⟨Zs,Zs,func,b9,au⟩,trivial,λI=>⟨(Mp I).1,(Mp I).2,rfl⟩,h6, .plain (.cons (.code W) .nil) ⟨?_, ?_⟩⟩
   ·simp[jQ];omega
   ·intro t ae _ be
    rw[kM]at be
    have c4:t<args.length:=(Zc.1 be).1
    refine⟨?_,A4 ha be⟩
    rw[YB (by simpa[jQ]using c4)]
    simp[AQ,be]
  ·simp at a
 ·simp at a
def LD(gq:nt C bt bE bQ am){f:Nat}{args:List J}{dk:Nat}{tn:List gN}{w1:List Frame}(Z:dt C S af h j bt.heap.size w)(ai:Below bt.heap.size bt w)(h0:rV C S af)(aD:dk<=j)
 (h6:oD C S af h bE bQ dk tn w1)(Mp:tn=[]->f=bE)(ha:eA af args)(a:n5 am C f args false tn h j=some v):Ends C bt bE bQ v (lone (Frame.enter C.P f (b2 S args).toArray .normal) w1 w):=
 XI (CF:=false) gq Z ai h0 aD h6 (λI=>⟨Mp I,rfl⟩) ha a
def Fs(gq:nt C bt bE bQ am){eT:d0}{F:List d0}{ae:J}(aE:i2 C bt bE bQ fn av bg aF ro cs h j S af w bU aq)(aI:mC C S af h bU aN n av M tmps (eT::F) bx)(sr:aN<=j)(A6:cn af ae)
 (a:(match oT eT ae with|some hJ=>am .run (hJ::F) ⟨fn,n,av,bg,aF,ro,cs⟩ M h j|none=>none)=some v):
 Ends C bt bE bQ v (lone ((ct S fn bg aF ro tmps bx .run).finish (aS S ae)) aq w):=by
 obtain⟨aAY,vt,hJ,hM,h2,bH,cP,fH,jR⟩:=amT (fn:=fn) (bg:=bg) (aF:=aF) (ro:=ro) (mode:= .run) aI sr A6
 cases bH
 rw[cP]at a
 rw[fH]
 exact gq _ _ _ _ _ _ _ _ _ _ _ _ v a S af w bU hM h2 aq (aE.state jR)
def atd{f:Nat}{args:List J}{ae:J}(cJ:Env C bt dW ec)(ai:Below bt.heap.size bt w)(bl:C.hf f args=some ae):
 (
  (∀iC,(callFunc f (b2 iC args).toArray).run C.P w= .ok (.value (aS iC ae)) w)\/
  ((∀iC,(callFunc f (b2 iC args).toArray).run C.P w= .ok (.enter f (b2 iC args).toArray) w)/\∀iC,Calls C.P f (b2 iC args).toArray w λI bZ=>I= .returned (aS iC ae)/\Below w.heap.size w bZ))/\∀dr,cn dr ae:=by
 obtain⟨⟨b5,cd⟩,c0,el⟩:=cJ.hf.val f args ae bl
 refine⟨?_,cd⟩
 rcases cJ.hf.ok f args ae bl dW w ai with a|⟨T,W⟩
 ·left;intro iC;rw[c0 iC dW,b5 iC dW];exact a
 ·right;exact⟨λiC=>by rw[c0 iC dW];exact T,λiC=>by rw[c0 iC dW,b5 iC dW];exact W⟩
mutual
def N6:∀(d:Nat) (x e:J),J.same d x e=true->x=e
 |0,_,_,a=>by simp[J.same]at a
 |d+1,x,e,a=>by
  unfold J.same at a
  split at a<;>(try(cases a;done))
  ·simp at a;rw[a]
  ·simp at a;rw[a.1,a.2]
  ·rw[(Ka _ _).1 a]
  ·simp only[Zp]at a;rw[Zj a.1,Zj a.2]
  ·rfl
  ·simp only[Zp]at a;rw[Zj a.1.1.1,Zj a.1.1.2,Zj a.1.2,Zj a.2]
  ·simp only[Zp]at a;rw[Zj a.1.1.1,Zj a.1.1.2,Zj a.1.2,Zj a.2]
  ·rfl
  ·rw[Zj a]
  ·rfl
  ·simp only[Zp,Zg]at a
   rw[a.1.1,Kw d _ _ a.1.2,Kw d _ _ a.2]
  ·rfl
  ·simp only[Zp]at a;rw[Zj a.1,N6 d _ _ a.2]
  ·rfl
  ·rw[Kw d _ _ a]
  ·rw[Kw d _ _ a]
def Kw:∀(d:Nat) (x e:List J),nK (J.same d) x e=true->x=e
 |_,[],[],_=>rfl
 |_,[],_::_,a=>by simp[nK]at a
 |_,_::_,[],a=>by simp[nK]at a
 |d,K::x,b::e,a=>by
  simp only[nK,Zp]at a
  rw[N6 d _ _ a.1,Kw d _ _ a.2]
end
def Ends.same{dw:Machine}{g7:J}(bA:∀S,aS S g7=aS S v)(a:Ends C bt bE bQ g7 dw):Ends C bt bE bQ v dw:=by
 obtain⟨S,bZ,fr,T,W,au⟩:=a
 exact⟨S,bZ,fr,T,by rw[<-bA];exact W,au⟩
def anc{eT:d0}{F:List d0}{ca:iq}:∀(l:List (J×V an)) (v:J),yu am eT F ca M j l=some v->∀ae U,(ae,U)∈l->
 ∃g7,(match oT eT ae with|some hJ=>am .run (hJ::F) ca M U j|none=>none)=some g7/\∀S,aS S g7=aS S v:=by
 intro l
 induction l with
 |nil=>intro v a;simp[yu]at a
 |cons p l na=>
  intro v a ae U bs
  obtain⟨K,hj⟩:=p
  cases l with
  |nil=>
   simp only[yu]at a
   simp at bs
   obtain⟨rfl,rfl⟩:=bs
   exact⟨v,a,λ_=>rfl⟩
  |cons ao l=>
   simp only[yu]at a
   split at a
   ·rename_i hJ aqh
    split at a
    ·rename_i x e ah H
     simp only[e5,Zf]at a
     obtain⟨aA,rfl⟩:=a
     rcases Zq.1 bs with I|bs
     ·cases I
      exact⟨x,by rw[aqh];exact ah,λ_=>rfl⟩
     ·obtain⟨g7,b5,cd⟩:=na e H ae U bs
      exact⟨g7,b5,λS=>by rw[cd S,N6 _ _ _ aA]⟩
    ·simp at a
   ·simp at a
def ayi{ae:J}{de:List gN}{dk:Nat}{bx:List Item}(h6:oD C S af h bE bQ dk cs aq)(a:Ch aF cs=some (ae,de)):
 ∃ja,oD C S af h bE bQ dk de ja/\cn af ae/\(de=[]->cs=[])/\
  (Go.tryRecover (ct S fn bg aF none tmps bx .run) aq=some (aS S ae,ja)\/(Go.tryRecover (ct S fn bg aF none tmps bx .run) aq=none/\aS S ae= .nilIface/\ja=aq)):=by
 unfold Ch at a
 rw[fG]at a
 cases aF with
 |false=>
  simp at a
  obtain⟨rfl,rfl⟩:=a
  exact⟨aq,h6,trivial,id, .inr ⟨by simp[Go.tryRecover,ct],rfl,rfl⟩⟩
 |true=>
  simp only[ZD]at a
  cases cs with
  |nil=>simp at a
  |cons c rest=>
   obtain⟨gV,aV,kK,c8,we,gk,mR,jn,lf⟩:=c
   obtain⟨rA,hM,h2,ja,rfl,bY,cx,c7,d5,er,dK⟩:=h6.inv
   have same:(ae,de)=(J.nilIface,(⟨gV,aV,kK,c8,we,gk,mR,jn,lf⟩:gN)::rest)->(∀v BY,gO S mR≠ .panicking (⟨v,false,false⟩::BY))->
    ∃Qt,oD C S af h bE bQ dk de Qt/\cn af ae/\(de=[]->(⟨gV,aV,kK,c8,we,gk,mR,jn,lf⟩:gN)::rest=[])/\
     (Go.tryRecover (ct S fn bg true none tmps bx .run) (ct S gV gk jn lf hM h2 (gO S mR)::ja)=some (aS S ae,Qt)\/
      (Go.tryRecover (ct S fn bg true none tmps bx .run) (ct S gV gk jn lf hM h2 (gO S mR)::ja)=none/\aS S ae= .nilIface/\Qt=ct S gV gk jn lf hM h2 (gO S mR)::ja)):=by
    intro I dT
    simp only[YT]at I
    obtain⟨rfl,rfl⟩:=I
    refine⟨_,h6,trivial,λI=>(by cases I), .inr ⟨?_,rfl,rfl⟩⟩
    simp only[Go.tryRecover,ct,ZD]
   simp only at a
   split at a
   ·rename_i v BY
    simp only[Zf,YT]at a
    obtain⟨rfl,rfl⟩:=a
    have b0:qp af (.panicking (⟨v,true⟩::BY)):=by
     intro p aA
     rcases Zq.1 aA with rfl|aA
     ·exact cx ⟨v,false⟩ (Zv ..)
     ·exact cx p (Zu _ aA)
    refine⟨ct S gV gk jn lf hM h2 (gO S (.panicking (⟨v,true⟩::BY)))::ja, .cons (bP:= .panicking (⟨v,true⟩::BY)) bY b0 c7 d5 er dK,cx ⟨v,false⟩ (Zv ..),λI=>(by cases I), .inl ?_⟩
    simp[Go.tryRecover,ct,gO,tj]
   ·rename_i m9
    simp only[Zf]at a
    refine same a.symm λv BY I=> ?_
    cases mR with
    |run=>cases I
    |returning=>cases I
    |panicking gb=>
     cases gb with
     |nil=>cases I
     |cons p du=>
      obtain⟨avY,avM⟩:=p
      cases avM with
      |true=>simp[gO,tj]at I
      |false=>exact m9 avY du rfl
def aw7{aV:Nat}:∀(du:List Nat) (cv:List J) (M c8:V J) (tmps:Array Value),jk S af aV av M tmps->eA af cv->xO aV du cv M=some c8->
 du.length=cv.length/\jk S af aV av c8 ((du.zip (b2 S cv)).foldl (λtmps p=>tmps.setIfInBounds p.1 p.2) tmps):=by
 intro du
 induction du with
 |nil=>
  intro cv M c8 tmps bb _ a
  cases cv with
  |nil=>simp[xO]at a;subst a;exact⟨rfl,by simpa[b2]using bb⟩
  |cons K cv=>simp[xO]at a
 |cons p du asu=>
  intro cv M c8 tmps bb b0 a
  cases cv with
  |nil=>simp[xO]at a
  |cons K cv=>
   simp only[xO,e5]at a
   obtain⟨aA,a⟩:=a
   have aA:=lo aA
   have R6:jk S af aV av (M.set p (some K)) (tmps.setIfInBounds p (aS S K)):=by
    refine⟨by simp[bb.size],λt ae aD be=> ?_⟩
    rw[V.kc]at be
    by_cases I:p=t
    ·subst I
     simp at be;subst be
     exact⟨by simp[bb.size,aA],b0.1⟩
    ·simp[I]at be
     obtain⟨T,W⟩:=bb.val t ae aD be
     exact⟨by rw[Array.getElem?_setIfInBounds_ne I];exact T,W⟩
   obtain⟨T,W⟩:=asu cv _ c8 _ R6 b0.2 a
   exact⟨by simp[T],by simpa[b2]using W⟩
def WH(cJ:Env C bt dW ec)(gq:nt C bt bE bQ am){eT:d0}{F:List d0}{i:Nat}{l:List Nat}{Y:Oper}{r:eg}(aE:i2 C bt bE bQ fn av bg aF ro cs h j S af w bU aq)
 (aI:mC C S af h bU aN n av M tmps (eT::F) (.inRegion ax (i::l)::bx))(MK:bU<=aN)(sr:aN<=j)(bl:ax[i]? =some Y)(bI:Region.wanted Y (yielded ax tmps)=true)
 (mj:iE C S af h j bt.heap.size w (execOp (kS tmps) Y) r)(a:nZ r am C eT F ⟨fn,n,av,bg,aF,ro,cs⟩ M h j=some v):
 Ends C bt bE bQ v (lone (ct S fn bg aF ro tmps (.inRegion ax (i::l)::bx) .run) aq w):=by
 have lu:bU<=j:=Zz MK sr
 have done:∀v ae U ar,Ay C S af h j bt.heap.size w (execOp (kS tmps) Y) ae U ar->(match oT eT ae with|some hJ=>am .run (hJ::F) ⟨fn,n,av,bg,aF,ro,cs⟩ M U ar|none=>none)=some v->
  Ends C bt bE bQ v (lone (ct S fn bg aF ro tmps (.inRegion ax (i::l)::bx) .run) aq w):=by
  intro v ae U ar aO a
  obtain⟨dg,dE,bZ,ub,c3,cQ,eZ,iH,gc,h3⟩:=aO
  have Gb:ub= .value (aS dg ae)\/(ub= .skip/\aS dg ae=Go.undef):=cQ.imp id λ⟨K,b⟩=>⟨K,by rw[b];rfl⟩
  refine .head (Ek bl bI c3 Gb) ?_
  rw[<-GL gc.iP aE.hZ]
  exact Fs gq (aE.ext iH (gc.mono lu) h3) (aI.ad (gc.mono sr)) (Zz sr h3) eZ a
 cases r with
 |val ae=>exact done v ae h j mj a
 |fE ae U ar=>exact done v ae U ar mj a
 |enter f args=>
  obtain⟨T,W⟩:=mj
  refine .head (aeP bl bI T) ?_
  simp only[nZ]at a
  refine LD gq aE.Z aE.kW aE.h0 sr ?_ (λI=>by simp[El]at I) W a
  exact .cons (bP:= .run) aI trivial aE.hZ aE.bot MK aE.cs
 |known f args ae=>
  obtain⟨T,W,au⟩:=mj
  obtain⟨aL,A6⟩:=atd cJ aE.kW T
  simp only[nZ]at a
  rcases aL with aL|⟨k5,iX⟩
  ·rw[aL S]at W
   refine .head (Ek bl bI W (.inl rfl)) ?_
   exact Fs gq aE aI sr (A6 af) a
  ·rw[k5 S]at W
   refine .head (aeP bl bI W) ?_
   obtain⟨I,bZ,fr,⟨rfl,IQ⟩,arP,_,MI⟩:=iX S (ct S fn bg aF ro tmps (.inRegion ax (i::l)::bx) .run::aq)
   refine .steps arP (.head (step_leave_returned MI) ?_)
   have ah:iD C aN S af h bt.heap.size w S af h bZ:=⟨λ_ _=>rfl,λ_ a=>a,λ_ a=> .inl a,λ_ _ _=>rfl,IQ.mono aE.eH⟩
   exact Fs gq (aE.ext (aE.Z.later IQ) (ah.mono MK) (Zl _)) (aI.ad ah) sr (A6 af) a
 |round b args=>
  obtain⟨T,W,au⟩:=mj
  simp only[nZ]at a
  split at a
  ·rename_i st qS gV aV kK c8 params assign body gk gQ
   split at a
   ·rename_i ajS hG
    obtain⟨hM,gz,kv,nf,GU,BU,sP,Ab⟩:=aE.Z.obj b _ gQ au
    obtain⟨cL,cC⟩:=aw7 params args c8 ajS hM kv W hG
    rw[run_yield gz (by simp[jQ,cL])]at T
    refine .head (axO bl bI T) ?_
    have u3:Frame.round (S b).cI gV (((params.toArray).zip (b2 S args).toArray).foldl (λtmps (t,K)=>tmps.setIfInBounds t K) hM) assign body .normal=
     ct S gV [] false (some b) ((params.zip (b2 S args)).foldl (λtmps p=>tmps.setIfInBounds p.1 p.2) hM) [.code assign, .beginRound, .code body] (gO S .run):=by
     simp[Frame.round,ct,gO]
    simp only at u3 ⊢
    rw[u3]
    refine gq _ _ _ _ _ _ _ _ _ _ _ _ v a S af w aN _ _ _ ?_
    refine⟨aE.Z,aE.kW,aE.h0,sr,⟨Zs,λl aD=>(by cases aD;exact au),Ab⟩,trivial,λI=>by simp[El]at I, .cons (bP:= .run) aI trivial aE.hZ aE.bot MK aE.cs, ?_⟩
    exact .plain (.cons (.code GU) (.cons .begin (.cons (.code BU) .nil))) cC
   ·simp at a
  ·simp at a
 |defer d=>
  obtain⟨T,W⟩:=mj
  simp only[nZ]at a
  cases ro with
  |some b=>simp at a
  |none=>
   simp only at a
   refine .head (axA bl bI T) ?_
   have ap4:wB C af fn av (d::bg) none:=⟨λlq aO=>by
    rcases Zq.1 aO with rfl|aO
    ·exact W
    ·exact aE.hZ.bg lq aO,aE.hZ.ro,aE.hZ.fn⟩
   exact Fs (ae:=undef) gq ⟨aE.Z,aE.kW,aE.h0,aE.j2,ap4,aE.bot,aE.cs⟩ aI sr trivial a
 |recover=>
  simp only[nZ]at a
  cases ro with
  |some b=>simp at a
  |none=>
   simp only at a
   split at a
   ·rename_i ae de arq
    obtain⟨ja,b5,cd,c0,el⟩:=ayi (fn:=fn) (bg:=bg) (tmps:=tmps) (bx:= .inRegion ax (i::l)::bx) aE.cs arq
    refine .head (axK bl bI mj el) ?_
    exact Fs (ae:=ae) gq ⟨aE.Z,aE.kW,aE.h0,aE.j2,aE.hZ,λI=>aE.bot (c0 I),b5⟩ aI sr cd a
   ·simp at a
 |panic ae=>
  obtain⟨T,W⟩:=mj
  simp only[nZ]at a
  cases ro with
  |some b=>simp at a
  |none=>
   simp only at a
   refine .head (axJ bl bI T) ?_
   refine gq _ _ _ _ _ _ _ _ _ _ _ _ v a S af w bU tmps _ aq ?_
   exact⟨aE.Z,aE.kW,aE.h0,aE.j2,aE.hZ,λp aA=>by simp at aA;subst aA;exact W,aE.bot,aE.cs,aI.drop⟩
 |fork ci=>
  obtain⟨ae,U,bs,aO⟩:=mj
  simp only[nZ]at a
  obtain⟨g7,b5,cd⟩:=anc ci v a ae U bs
  exact .same cd (done g7 ae U j aO b5)
def adp{Y:Op}{eG:Operand->Option J}{b:Nat}{ae:J}{cO:an}{dr:Nat->Prop}(a:qh Y C eG b=some (ae,cO)):wE C dr cO:=by
 have key:∀l:List J,wE C dr (.cells (V.ofList l 0 .nil) l.length .own):=λl=>⟨λ_ _ _ a=>(by cases a),λ_ _ _ a=>(by cases a;exact GV)⟩
 have atb:wE C dr (.map [] 0):=⟨λ_ _ _ a=>(by cases a),λ_ _ _ a=>(by cases a)⟩
 cases Y<;>simp only[qh]at a<;>(try(cases a;done))
 case alloc t=>unfold DN at a;split at a<;>simp at a;rw[<-a.2];exact key _
 case box t x=>unfold J1 at a;split at a<;>simp at a;rw[<-a.2];exact key _
 case buildSlice t len j4=>
  unfold J2 at a
  split at a
  ·split at a
   ·simp only[e5]at a
    obtain⟨_,a⟩:=a
    split at a<;>simp at a
    rw[<-a.2];exact key _
   ·simp at a
  ·simp at a
 case makeMap t r=>cases r<;>simp at a;rw[<-a.2];exact atb
def alY{i:Nat}(aN:ax.toList.drop i=[]):ax.size<=i:=by simpa using aN
def amV{av:Nat}{aw:List (Nat×J)}:∀(l:List Oper) (i:Nat) (es:List (Nat×Nat)) (nX M c8:V J),(∀t,fB av t=true->M.get t=match ez es t with|some aa=>ez aw aa|none=>nX.get t)->
 ys aw (kZ av l i) M=some c8->∀t,fB av t=true->c8.get t=match ez (wj l i es) t with|some aa=>ez aw aa|none=>nX.get t:=by
 intro l
 induction l with
 |nil=>intro i es nX M c8 hG a;simp[kZ,ys]at a;subst a;exact hG
 |cons Y l am=>
  intro i es nX M c8 hG a
  simp only[kZ]at a
  simp only[wj]
  split at a
  ·rename_i d aO
   rw[fG]at a
   split at a
   ·rename_i ai
    simp only[ys]at a
    split at a
    ·rename_i ae be
     simp only[hw]at a
     refine am (i+1) _ nX _ c8 (λt bb=> ?_) a
     rw[V.kc,EP,aO]
     by_cases I:d=t
     ·subst I;simp[be]
     ·simp[I];exact hG t bb
    ·simp at a
   ·rename_i ai
    refine am (i+1) _ nX _ c8 (λt bb=> ?_) a
    rw[EP,aO]
    have I:d≠t:=λI=>ai (by rw[I];exact bb)
    simp[I];exact hG t bb
  ·rename_i aO
   refine am (i+1) _ nX _ c8 (λt bb=> ?_) a
   rw[EP,aO]
   simp;exact hG t bb
def X3{aw:List (Nat×J)}{M c8:V J}(bD:oL S af av (λ_=>True) (ip ax ax.size) aw M tmps)(eX:tmps.size=n)(a:ys aw (kZ av ax.toList 0) M=some c8):jk S af n av c8 tmps:=by
 refine⟨eX,λt ae aD be=> ?_⟩
 have:=amV (av:=av) (aw:=aw) ax.toList 0 [] M M c8 (λ_ _=>rfl) a t aD
 rw[be]at this
 apply bD t ae trivial
 have I:ip ax ax.size=wj ax.toList 0 []:=by unfold ip;rw[ZB Zs]
 rw[I]
 cases bL:ez (wj ax.toList 0 []) t with
 |some aa=>rw[bL]at this;exact this.symm
 |none=>rw[bL]at this;exact⟨aD,this.symm⟩
def aeH(cJ:Env C bt dW ec)(gq:nt C bt bE bQ am){F:List d0}{fin:List (Nat×Nat)}:∀(rest:List fx) (aw:List (Nat×J)) (h:V an) (j:Nat) (S:da) (af:Nat->Prop) (w:World) (tmps:Array Value) (l:List Nat) (aq:List Frame),
 i2 C bt bE bQ fn av bg aF ro cs h j S af w bU aq->lH C S af av F bx->O0 C S af n av ax aw rest fin M tmps l->
 Aj rest ⟨am,ax,fin,F,⟨fn,n,av,bg,aF,ro,cs⟩⟩ C M aw h j=some v->Ends C bt bE bQ v (lone (ct S fn bg aF ro tmps (.inRegion ax l::bx) .run) aq w):=by
 intro rest
 induction rest with
 |nil=>
  intro aw h j S af w tmps l aq aE aL aI a
  obtain⟨i,aN,rfl,aB,rfl,bD,eX⟩:=aI
  have Mw:ax.size<=i:=by
   cases aO:ax.toList.drop i with
   |nil=>exact alY aO
   |cons Y ci=>
    rw[aO]at aB
    obtain⟨_,_,r,_,_,_,_,_,I⟩:=Pt aB
    cases I
  have:i=ax.size:=Zo
  subst this
  simp only[Nat.sub_self,List.range'_zero]
  have cz:Ib ⟨am,ax,kZ av ax.toList 0,F,⟨fn,n,av,bg,aF,ro,cs⟩⟩ C M aw h j=some v:=a
  simp only[Ib,LJ,ot]at cz
  split at cz
  ·rename_i c8 hG
   refine .head aeR ?_
   exact gq _ _ _ _ _ _ _ _ _ _ _ _ v cz S af w bU tmps bx aq (aE.state (.plain aL (X3 bD eX hG)))
  ·simp at cz
 |cons x rest Gg=>
  intro aw h j S af w tmps l aq aE aL aI a
  obtain⟨i,aN,rfl,aB,rfl,bD,eX⟩:=aI
  cases aO:ax.toList.drop i with
  |nil=>rw[aO]at aB;simp[r8]at aB
  |cons Y ci=>
   rw[aO]at aB
   obtain⟨g,op,r,dy,dZ,hk,yj,ka,I⟩:=Pt aB
   cases I
   obtain⟨c3,cQ,eZ⟩:=PO aO
   rw[<-KM c3, <-cQ]at ka
   have F5:List.range' i (ax.size-i)=i::List.range' (i+1) (ax.size-(i+1)):=by
    rw[show ax.size-i=(ax.size-(i+1))+1 by omega,List.range'_succ]
   rw[F5]
   have o0:=XC hk
   have F3:∀(dg:da) (dE:Nat->Prop) (ae:J),oL dg dE av (λ_=>True) (ip ax i) aw M tmps->cn dE ae->O0 C dg dE n av ax ((i,ae)::aw) rest (kZ av ax.toList 0) M (p8 tmps Y.dst (aS dg ae)) (List.range' (i+1) (ax.size-(i+1))):=by
    intro dg dE ae qD A6
    exact⟨i+1,Zo,rfl,ka,rfl,qD.put c3 (by rw[eX];exact o0) A6,by rw[NX];exact eX⟩
   have h1:∀(dg:da) (ae:Value),(ct dg fn bg aF ro tmps (.inRegion ax (i::List.range' (i+1) (ax.size-(i+1)))::bx) .run).finish ae=ct dg fn bg aF ro (p8 tmps Y.dst ae) (.inRegion ax (List.range' (i+1) (ax.size-(i+1)))::bx) .run:=by
    intro dg ae
    rw[LM (g:=ct dg fn bg aF ro tmps _ .run) rfl c3];rfl
   have cz:D3 i g op rest (Aj rest) ⟨am,ax,kZ av ax.toList 0,F,⟨fn,n,av,bg,aF,ro,cs⟩⟩ C M aw h j=some v:=a
   simp only[D3,Ou,ot]at cz
   split at cz
   ·rename_i T6 mN
    have sF:=Oy aN dy bD (λ_ _ _ _ _=>trivial) (Sub.refl aw) mN
    cases T6 with
    |false=>
     simp only[Zx,ZA]at cz
     refine .head (TI c3 sF) ?_
     rw[h1]
     exact Gg _ _ _ _ _ _ _ _ _ aE aL (F3 S af undef bD trivial) cz
    |true=>
     simp only[ZD]at cz
     have yM:jj S af (kS tmps) (i7 (ip ax i) aw M) Y.op.operands.toList:=XR bD (λ_ _=>trivial) yj aE.h0
     rw[NM]at cz
     cases o3:mP op with
     |ia=>
      simp only[o3,ot]at cz
      split at cz
      ·rename_i ae be
       obtain⟨bf,ck⟩:=ada aE.Z yM dZ be
       refine .head (Ek c3 sF bf (.inl rfl)) ?_
       rw[h1]
       exact Gg _ _ _ _ _ _ _ _ _ aE aL (F3 S af ae bD ck) cz
      ·simp at cz
     |make=>
      simp only[o3,ot]at cz
      split at cz
      ·rename_i res lW
       simp only[Ns,mg]at lW
       split at lW
       ·rename_i ae cO bs
        simp only[hw,Zf]at lW
        subst lW
        have oc:=rF aE.Z
        obtain⟨oq,fc,f1,je⟩:=ado (w:=w) (S:=S) oc yM (Nt dZ bs)
        have ah:iD C bU S af h bt.heap.size w (gu S j ⟨w.heap.size,0,0⟩) (add af j) (bo C h j (some cO)) (w.alloc oq):=
         ⟨qY oc,λ_ a=> .inl a,λx a=>a.elim .inl (λa=> .inr (zo aE.j2)),λx ah c4=>by rw[fZ _ aE.Z.ba,Zh (zo aE.j2)],Below.alloc (Below.refl _ _) aE.eH _⟩
        have jp:=aE.Z.alloc aE.Z.ba (Yq _) (Yb _) oc aE.eH rfl (U:=bo C h j (some cO)) (by rw[fZ _ aE.Z.ba,Zr rfl]) (λx ah=> .inl (by rw[fZ _ aE.Z.ba,Zh ah])) je (adp (Nt dZ bs))
        refine .head (Ek c3 sF fc (.inl rfl)) ?_
        rw[h1, <-GL ah.iP aE.hZ]
        exact Gg _ _ _ _ _ _ _ _ _ (aE.ext jp ah (Yb _)) (aL.ad ah.iP ah.jA) (F3 _ _ ae (bD.ad ah.iP ah.jA) f1) cz
       ·simp at lW
      ·simp at cz
     |fs=>
      simp only[o3,ot]at cz
      split at cz
      ·rename_i res lW
       have mj:=aa4 aE.Z aE.eH cJ.km yM dZ lW
       have ar8:mC C S af h bU j n av M tmps (.s6 ax aw i rest (kZ av ax.toList 0)::F) (.inRegion ax (i::List.range' (i+1) (ax.size-(i+1)))::bx):=
        .seq aL ⟨Y,c3,o0,rfl,ka,rfl,bD,eX⟩
       have now:∀ae U ar,Ay C S af h j bt.heap.size w (execOp (kS tmps) Y) ae U ar->Aj rest ⟨am,ax,kZ av ax.toList 0,F,⟨fn,n,av,bg,aF,ro,cs⟩⟩ C M ((i,ae)::aw) U ar=some v->
        Ends C bt bE bQ v (lone (ct S fn bg aF ro tmps (.inRegion ax (i::List.range' (i+1) (ax.size-(i+1)))::bx) .run) aq w):=by
        intro ae U ar aO a
        obtain⟨dg,dE,bZ,ub,bH,cP,fH,jR,pN,H8⟩:=aO
        have Gb:ub= .value (aS dg ae)\/(ub= .skip/\aS dg ae=Go.undef):=cP.imp id λ⟨K,b⟩=>⟨K,by rw[b];rfl⟩
        refine .head (Ek c3 sF bH Gb) ?_
        rw[h1, <-GL pN.iP aE.hZ]
        exact Gg _ _ _ _ _ _ _ _ _ (aE.ext jR (pN.mono aE.j2) H8) (aL.ad pN.iP pN.jA) (F3 _ _ ae (bD.ad pN.iP pN.jA) fH) a
       have ql:nZ res am C (.s6 ax aw i rest (kZ av ax.toList 0)) F ⟨fn,n,av,bg,aF,ro,cs⟩ M h j=some v->Ends C bt bE bQ v (lone (ct S fn bg aF ro tmps (.inRegion ax (i::List.range' (i+1) (ax.size-(i+1)))::bx) .run) aq w):=
        λa=>WH cJ gq aE ar8 aE.j2 (Zl _) c3 sF mj a
       cases res with
       |val ae=>exact now ae h j mj cz
       |fE ae U ar=>exact now ae U ar mj cz
       |_=>exact ql cz
      ·simp at cz
   ·simp at cz
end
end Go.bk

namespace Go.bk
open Go.RowKit (Below)
def alA{l:List Bool}(a:l.count false=0):∀b∈l,b=true:=by
 intro b ai
 cases b with
 |true=>rfl
 |false=>exact absurd ai (List.count_eq_zero.1 a)
def awY{ax:Array Oper}(lU:D1 ax.toList 0=true):∀(fuel t:Nat) (ix:Array Bool),ix.size=ax.size->ix.toList.count false=fuel->
 wH ax (λi=>ix.getD i false=true) (Region.linearise.go .any ax fuel t ix []):=by
 intro fuel
 induction fuel with
 |zero=>
  intro t ix aI aB
  simp only[Region.linearise.go,List.reverse_nil]
  refine .nil λi aN=> ?_
  have c4:i<ix.size:=Zo
  have:=alA aB ix[i] Zs
  simp[c4,this]
 |succ fuel am=>
  intro t ix aI aB
  simp only[Region.linearise.go]
  have o1:∃i,i<ax.size/\ix.getD i true=false:=by
   have Jh:false∈ix.toList:=by
    rw[<-List.count_pos_iff];omega
   obtain⟨i,aN⟩:=ZY.1 Jh
   have c4:i<ix.size:=by have:=(Zc.1 aN).1;simpa using this
   refine⟨i,Zo, ?_⟩
   rw[ZM]at aN
   simp[aN]
  have Ji:∃i,i<ax.size/\ix.getD i true=false/\∀aa,aa<i->ix.getD aa false=true:=by
   have key:∀m,(∃i,i<m/\i<ax.size/\ix.getD i true=false)->∃i,i<ax.size/\ix.getD i true=false/\∀aa,aa<i->ix.getD aa false=true:=by
    intro m
    induction m with
    |zero=>rintro⟨i,a,_⟩;omega
    |succ m p2=>
     rintro⟨i,T,W,au⟩
     by_cases ao:∃i,i<m/\i<ax.size/\ix.getD i true=false
     ·exact p2 ao
     ·have:i=m:=by
       rcases Y9 i m with a|a
       ·exact absurd ⟨i,a,W,au⟩ ao
       ·omega
      subst this
      refine⟨i,W,au,λaa bL=> ?_⟩
      have c4:aa<ix.size:=Zo
      cases ai:ix[aa]with
      |true=>simp[c4,ai]
      |false=>exact absurd ⟨aa,bL,Zo,by simp[c4,ai]⟩ ao
   obtain⟨i,T,W⟩:=o1
   exact key (i+1) ⟨i,Zo,T,W⟩
  obtain⟨i0,u6,ar1,hc⟩:=Ji
  have arp:i0∈Region.ready .any ax ix:=by
   rw[mem_ready]
   refine⟨ar1,ax[i0],Array.getElem?_eq_getElem u6,λI bA ai=> ?_⟩
   have:=auW lU i0 ax[i0] (by rw[ZM];exact Array.getElem?_eq_getElem u6) I (by simpa using bA) ai
   exact hc _ Zo
  change wH ax _ (match (Region.ready .any ax ix)[t%(Region.ready .any ax ix).length]? with
   |some i=>Region.linearise.go .any ax fuel (t/(Region.ready .any ax ix).length) (ix.setIfInBounds i true) [i]
   |none=>[].reverse)
  have fL:0<(Region.ready .any ax ix).length:=List.length_pos_of_mem arp
  have c4:t%(Region.ready .any ax ix).length<(Region.ready .any ax ix).length:=Nat.mod_lt _ fL
  rw[Ze c4]
  simp only[]
  generalize aN:(Region.ready .any ax ix)[t%(Region.ready .any ax ix).length]=i
  have Jh:i∈Region.ready .any ax ix:=by rw[<-aN];exact List.getElem_mem c4
  obtain⟨T,Y,W,au⟩:=mem_ready.1 Jh
  have azS:i<ax.size:=(ZK.1 W).1
  have ls:i<ix.size:=Zo
  have aa9:ix[i]=false:=by simpa[ls]using T
  rw[linearise_go_acc,List.reverse_singleton,List.singleton_append]
  refine .cons W (by simp[ls,aa9]) (λI bA ai=>au I (by simpa using bA) ai) ?_
  have bX:add (λi=>ix.getD i false=true) i=λaa=>(ix.setIfInBounds i true).getD aa false=true:=by
   funext aa
   apply propext
   unfold add
   by_cases I:aa=i
   ·subst I;simp[ls]
   ·rw[getD_set_ne false (λao=>I ao.symm)]
    simp[I]
  rw[bX]
  refine am _ _ (by simpa using aI) ?_
  rw[Array.toList_setIfInBounds,List.count_set (by simpa using ls)]
  have:(ix.toList[i]'(by simpa using ls))=false:=by simpa using aa9
  simp[this,aB]
def awZ{ax:Array Oper}(lU:D1 ax.toList 0=true)(t:Nat):wH ax (λ_=>False) (Region.schedule true ax t):=by
 simp only[Region.schedule,Bool.true_or,ZD,Region.linearise]
 have:=awY lU ax.size t (Array.replicate ax.size false) Zs Zs
 have I:(λi=>(Array.replicate ax.size false).getD i false=true)=λ_=>False:=by
  funext i
  apply propext
  by_cases a:i<ax.size<;>simp[a]
 rw[I]at this
 exact this
section
variable{C:a2}{S dg dW:da}{af dE ec:Nat->Prop}{h U:V an}{j ar bm:Nat}{w bZ:World}{n av:Nat}{ax:Array Oper}
variable{bt:World}{bE:Nat}{bQ:List Frame}{v:J}{am:hE}
variable{fn:Nat}{bg:List hN}{aF:Bool}{ro:Option Nat}{cs:List gN}{M:V J}{tmps:Array Value}{bx:List Item}{aq:List Frame}{bU aN:Nat}
def asy{op:jM}(aL:mP op= .ia)(aI:Ca op=false)(h U:V an)(aw:List (Nat×J))(M:V J):gU op C h aw M=gU op C U aw M:=by
 cases op<;>simp only[gU]<;>(try rfl)<;>simp[Ca]at aI
 case ia b3 Y=>cases Y<;>simp[Ca]at aI<;>rfl
def pF.refl(h:V an):pF C h h:=λ_=> .inl rfl
def pF.trans{a6 aR a7:V an}(a:pF C a6 aR)(F:pF C aR a7):pF C a6 a7:=λx=>by
 rcases a x with a|a
 ·rcases F x with F|F
  ·exact .inl (a.trans F)
  ·exact .inr (a.trans F)
 ·exact .inr a
def ac8(h:V an):pF C .nil h:=by
 intro b
 unfold ab
 rw[fG,fG]
 split
 ·exact .inl rfl
 ·exact .inr rfl
def alP{base:Nat}(aM:C.ba<=base):∀(l:List fx) (aw:List (Nat×J)) (h:V an) (hF:List (Nat×J)) (U:V an),(l.Pairwise λK b=>K.i≠b.i)->(∀x∈l,ez aw x.i=none/\ab C h (base+x.i)=none/\nH x.op=false)->
 wP C base M l aw h=some (hF,U)->Sub aw hF/\pF C h U/\(∀i,ez hF i≠none->ez aw i≠none\/∃x∈l,x.i=i)/\(∀b,ab C U b≠ab C h b->∃x∈l,b=base+x.i)/\
 ∀x∈l,∃ae,(∀af,KS C af U base hF M x ae)/\Hw C U hF M x ae:=by
 intro l
 induction l with
 |nil=>
  intro aw h hF U _ _ a
  simp[wP]at a
  obtain⟨rfl,rfl⟩:=a
  exact⟨Sub.refl _,pF.refl _,λi a=> .inl a,λb a=>absurd rfl a,Zs⟩
 |cons x l am=>
  intro aw h hF U aA b9 a
  rw[List.pairwise_cons]at aA
  obtain⟨ey,dD⟩:=aA
  obtain⟨LR,Qa,Qb⟩:=b9 x (Zv ..)
  have step:∀(ae:J) (a6:V an),pF C h a6->(∀b,ab C a6 b≠ab C h b->b=base+x.i)->wP C base M l ((x.i,ae)::aw) a6=some (hF,U)->
   (∀hF U,Sub ((x.i,ae)::aw) hF->pF C a6 U->(ab C a6 (base+x.i)≠none->ab C U (base+x.i)=ab C a6 (base+x.i))->(∀af,KS C af U base hF M x ae)/\Hw C U hF M x ae)->
   Sub aw hF/\pF C h U/\(∀i,ez hF i≠none->ez aw i≠none\/∃iQ∈x::l,iQ.i=i)/\(∀b,ab C U b≠ab C h b->∃iQ∈x::l,b=base+iQ.i)/\∀iQ∈x::l,∃ae,(∀af,KS C af U base hF M iQ ae)/\Hw C U hF M iQ ae:=by
   intro ae a6 pX sm aO ah
   have yW:Sub aw ((x.i,ae)::aw):=Sub.cons LR
   have qw:∀iQ∈l,ez ((x.i,ae)::aw) iQ.i=none/\ab C a6 (base+iQ.i)=none/\nH iQ.op=false:=by
    intro iQ qF
    obtain⟨b5,cd,c0⟩:=b9 iQ (Zu _ qF)
    have dT:=ey iQ qF
    refine⟨by rw[rf,Zh dT];exact b5, ?_,c0⟩
    by_cases ao:ab C a6 (base+iQ.i)=ab C h (base+iQ.i)
    ·rw[ao];exact cd
    ·have:=sm _ ao;omega
   obtain⟨bY,cx,c7,d5,er⟩:=am _ _ _ _ dD qw aO
   have sx:ab C U (base+x.i)=ab C a6 (base+x.i):=by
    by_cases ao:ab C U (base+x.i)=ab C a6 (base+x.i)
    ·exact ao
    ·obtain⟨iQ,qF,I⟩:=d5 _ ao
     exact absurd Zo (ey iQ qF)
   refine⟨yW.trans bY,pX.trans cx,λi aN=> ?_,λb ai=> ?_,λiQ qF=> ?_⟩
   ·rcases c7 i aN with T|⟨iQ,T,W⟩
    ·rw[rf]at T
     split at T
     ·rename_i I;exact .inr ⟨x,Zv ..,I⟩
     ·exact .inl T
    ·exact .inr ⟨iQ,Zu _ T,W⟩
   ·by_cases ao:ab C U b=ab C a6 b
    ·rw[ao]at ai
     exact⟨x,Zv ..,sm b ai⟩
    ·obtain⟨iQ,T,W⟩:=d5 b ao
     exact⟨iQ,Zu _ T,W⟩
   ·rcases Zq.1 qF with rfl|qF
    ·exact⟨ae,ah hF U bY cx (λ_=>sx)⟩
    ·exact er iQ qF
  have sx:∀(ae:J) (hF:List (Nat×J)),Sub ((x.i,ae)::aw) hF->ez hF x.i=some ae:=λae hF aI=>aI _ _ (by rw[rf,Zr rfl])
  simp only[wP]at a
  split at a
  ·simp at a
  ·rename_i bI
   refine step undef h (pF.refl _) (λb ai=>absurd rfl ai) a λhF U aI aD _=> ?_
   have Bq:Sub aw hF:=(Sub.cons LR).trans aI
   exact⟨λaf=>⟨sx _ _ aI,aw,false,Bq,bI,λ_=>rfl,Zs⟩,aw, .nil,false,Bq,ac8 _,bI,Zs⟩
  ·rename_i bI
   cases aL:mP x.op with
   |make=>
    rw[aL]at a
    simp only at a
    split at a
    ·rename_i ae cO bs
     simp only[hw]at a
     have ai:C.ba<=base+x.i:=Zo
     refine step ae _ (λb=> ?_) (λb jV=> ?_) a λhF U aI aD MF=> ?_
     ·rw[fZ _ ai]
      by_cases I:b=base+x.i
      ·subst I;exact .inr Qa
      ·rw[Zh I];exact .inl rfl
     ·rw[fZ _ ai]at jV
      by_cases I:b=base+x.i
      ·exact I
      ·rw[Zh I]at jV;exact absurd rfl jV
     ·have Bq:Sub aw hF:=(Sub.cons LR).trans aI
      have gQ:ab C U (base+x.i)=some cO:=by
       rw[MF (by rw[fZ _ ai,Zr rfl];simp),fZ _ ai,Zr rfl]
      exact⟨λaf=>⟨sx _ _ aI,aw,true,Bq,bI,Zs,λ_=>⟨Qb,λ_=>⟨cO,bs,gQ⟩,λao=>by rw[aL]at ao;cases ao⟩⟩,aw,h,true,Bq,
       (by
        intro b
        rcases aD b with ao|ao
        ·rw[fZ _ ai]at ao
         by_cases I:b=base+x.i
         ·subst I;exact .inr Qa
         ·rw[Zh I]at ao;exact .inl ao
        ·rw[fZ _ ai]at ao
         by_cases I:b=base+x.i
         ·subst I;exact .inr Qa
         ·rw[Zh I]at ao;exact .inr ao),bI,λ_ ao=>by rw[aL]at ao;cases ao⟩
    ·simp at a
   |ia=>
    rw[aL]at a
    simp only at a
    split at a
    ·rename_i ae be
     refine step ae h (pF.refl _) (λb ai=>absurd rfl ai) a λhF U aI aD _=> ?_
     have Bq:Sub aw hF:=(Sub.cons LR).trans aI
     exact⟨λaf=>⟨sx _ _ aI,aw,true,Bq,bI,Zs,λ_=>⟨Qb,λao=>(by rw[aL]at ao;cases ao),λ_ F7 kC=>by rw[asy aL F7 kC h];exact be⟩⟩,aw,h,true,Bq,aD,bI,λ_ _=>be⟩
    ·simp at a
   |fs=>simp[nH,aL]at Qb
end
end Go.bk

namespace Go.bk
open Go.RowKit (Below)
section
variable{C:a2}{S dg dW:da}{af dE ec:Nat->Prop}{h U:V an}{j ar bm:Nat}{w bZ:World}{n av:Nat}{ax:Array Oper}
variable{bt:World}{bE:Nat}{bQ:List Frame}{v:J}{am:hE}
variable{fn:Nat}{bg:List hN}{aF:Bool}{ro:Option Nat}{cs:List gN}{M:V J}{tmps:Array Value}{bx:List Item}{aq:List Frame}{bU aN:Nat}
def alQ{aw:List (Nat×J)}:∀(l:List fx),CI C M aw h l=true->∀x∈l,∃b,oC x.g aw=some b/\(b=true->∃ae,gU x.op C h aw M=some ae/\ez aw x.i=some ae):=by
 intro l
 induction l with
 |nil=>intro _ x a;simp at a
 |cons K l am=>
  intro a x ah
  simp only[CI]at a
  split at a
  ·simp at a
  ·rename_i bI
   rcases Zq.1 ah with rfl|ah
   ·exact⟨false,bI,Zs⟩
   ·exact am a x ah
  ·rename_i bI
   split at a
   ·rename_i ae rM T W
    simp only[Zp]at a
    have:=N6 _ _ _ a.1
    subst this
    rcases Zq.1 ah with rfl|ah
    ·exact⟨true,bI,λ_=>⟨ae,T,W⟩⟩
    ·exact am a.2 x ah
   ·simp at a
def axU{iy:List pG}{F:Nat}{aD:List (gj×fx)}:∃s rest,y9 iy F aD=s::rest/\s.t6=tf F iy/\s.Tj=Ec F iy/\
 (match aD with|[]=>s.fs=none/\rest=[]|e::hy=>s.fs=some e.2/\rest=y9 iy (F+1) hy):=by
 cases aD with
 |nil=>exact⟨_,_,rfl,rfl,rfl,rfl,rfl⟩
 |cons e aD=>exact⟨_,_,rfl,rfl,rfl,rfl,rfl⟩
def AL{F:Nat}:∀{iy:List pG}{x:fx},x∈tf F iy↔∃l∈iy,l.bU=F/\l.x=x:=by
 intro iy
 induction iy with
 |nil=>intro x;simp[tf]
 |cons K iy am=>
  intro x
  simp only[tf,hO]
  by_cases a:K.bU=F
  ·simp only[a,ZD,Zq,am]
   constructor
   ·rintro(rfl|⟨l,T,W,au⟩)
    ·exact⟨K, .inl rfl,a,rfl⟩
    ·exact⟨l, .inr T,W,au⟩
   ·rintro⟨l,rfl|T,W,au⟩
    ·exact .inl au.symm
    ·exact .inr ⟨l,T,W,au⟩
  ·simp only[a,ZA,am]
   constructor
   ·rintro⟨l,T,W,au⟩;exact⟨l, .tail _ T,W,au⟩
   ·rintro⟨l,T,W,au⟩
    rcases Zq.1 T with rfl|T
    ·exact absurd W a
    ·exact⟨l,T,W,au⟩
def awa{F:Nat}:∀{iy:List pG}{l:pG},l∈iy->l.bU<F->F<=l.aN->Ca l.x.op=true->l.x∈Ec F iy:=by
 intro iy
 induction iy with
 |nil=>intro l a;simp at a
 |cons K iy am=>
  intro l aD T W au
  simp only[Ec,fG]
  rcases Zq.1 aD with rfl|aD
  ·rw[Zr]
   ·exact Zv ..
   ·have bH:Nat.blt l.bU F=true:=by simp[Nat.blt];omega
    have cP:Nat.ble F l.aN=true:=by simpa using W
    simp[bH,cP,au]
  ·split
   ·exact Zu _ (am aD T W au)
   ·exact am aD T W au
def akE{F:Nat}:∀{iy:List pG},(iy.Pairwise λK b=>K.x.i<b.x.i)->(tf F iy).Pairwise λK b=>K.i≠b.i:=by
 intro iy
 induction iy with
 |nil=>intro _;simp[tf]
 |cons K iy am=>
  intro a
  rw[List.pairwise_cons]at a
  simp only[tf,hO]
  split
  ·rw[List.pairwise_cons]
   refine⟨λx ah=> ?_,am a.2⟩
   obtain⟨l,T,_,rfl⟩:=AL.1 ah
   have:=a.1 l T;omega
  ·exact am a.2
def ata(op:jM):nH op=true/\mP op= .fs\/nH op=false/\(mP op= .ia\/mP op= .make):=by
 unfold nH
 cases mP op<;>simp
def auh(cJ:Env C bt dW ec)(gq:nt C bt bE bQ am){F:List d0}{base eE:Nat}{aw:List (Nat×J)}(su:bU<=base)(gp:base+ax.size<=j)(gP:C.ba<=base){s:wI}{rest:List wI}
 (dp:match (gH C n av ax).drop eE with|[]=>s.fs=none|e::hy=>s.fs=some e.2/\rest=y9 (lP C n av ax) (eE+1) hy)
 (a:(match s.fs with
    |none=>Ih (kZ av ax.toList 0) aw M λM=>am .run F ⟨fn,n,av,bg,aF,ro,cs⟩ M h j
    |some a=>(match oC a.g aw with
     |none=>none
     |some w=>bV (w) ((match hY a.op C h j aw M with
       |some r=>nZ r am C (.As ax base aw a.i rest (kZ av ax.toList 0)) F ⟨fn,n,av,bg,aF,ro,cs⟩ M h j
       |none=>none))<|am .run (.drawn ax base ((a.i,undef)::aw) rest (kZ av ax.toList 0)::F) ⟨fn,n,av,bg,aF,ro,cs⟩ M h j))=some v):
 ∀(l:List Nat) (S:da) (af:Nat->Prop) (w:World) (tmps:Array Value) (dr:Nat->Prop),i2 C bt bE bQ fn av bg aF ro cs h j S af w bU aq->lH C S af av F bx->q3 C S af h base n av ax aw eE (eE+1) M tmps dr->wH ax dr l->
  (∀l∈lP C n av ax,l.bU<eE+1->¬dr l.x.i->∃ae,ez aw l.x.i=some ae/\Hw C h aw M l.x ae)->Ends C bt bE bQ v (lone (ct S fn bg aF ro tmps (.inRegion ax l::bx) .run) aq w):=by
 intro l
 induction l with
 |nil=>
  intro S af w tmps dr aE aL aO aI RH
  cases aI with
  |nil k2=>
   have Mw:(gH C n av ax).drop eE=[]:=by
    cases b6:(gH C n av ax).drop eE with
    |nil=>rfl
    |cons e hy=>
     exfalso
     have H:(gH C n av ax)[eE]? =some e:=by
      have:((gH C n av ax).drop eE)[0]? =some e:=by rw[b6];rfl
      rwa[YG]at this
     have bX:=k2 e.1.i (alS aO.st (Zn H)).1
     have:=(aO.done eE e H).1 bX
     omega
   rw[Mw]at dp
   simp only at dp
   rw[dp]at a
   simp only[LJ,ot]at a
   split at a
   ·rename_i c8 hG
    refine .head aeR ?_
    have bD:oL S af av (λ_=>True) (ip ax ax.size) aw M tmps:=by
     obtain⟨_,e2,iU⟩:=KO ax ax.size (Zl _)
     intro t ae _ be
     apply aO.CH t ae
     split at be
     ·rename_i aa bL
      obtain⟨b5,cd,c0⟩:=e2 t aa bL
      left
      refine⟨aa,k2 aa b5,cd,λpb I9 so=> ?_,be⟩
      rcases Y9 aa pb with c4|Be
      ·exact absurd so (c0 pb c4 (aO.xv pb I9))
      ·exact Be
     ·rename_i bL
      exact .inr ⟨λaa I9=>iU t bL aa (aO.xv aa I9),be⟩
    exact gq _ _ _ _ _ _ _ _ _ _ _ _ v a S af w bU tmps bx aq (aE.state (.plain aL (X3 bD aO.size hG)))
   ·simp at a
 |cons i l na=>
  intro S af w tmps dr aE aL aO aI RH
  cases aI with
  |cons bl qz lU qC=>
   rename_i Y
   have aN:i<ax.size:=(ZK.1 bl).1
   obtain⟨p,x,o',f2,fF,z3,z4,z5,rQ⟩:=yn aO.st i aN
   have aqS:o'=Y:=by
    have:=z5.oper
    rw[z4,bl]at this
    exact(Yv this).symm
   subst aqS
   have M7:=alT aO.st aO.closed aO.xv aO.CH fF bl qz lU
   have MN:=H3 aO.closed (Nv fF) (by rw[z3];exact bl) lU
   have aB:=z5
   have b0:=aB.g
   have Dj:=aB.op
   have cG:=aB.reads
   rw[z4]at b0 Dj cG
   have yM:∀kq,Sub kq aw->jj S af (kS tmps) (i7 (ip ax i) kq M) o'.op.operands.toList:=by
    intro kq yW
    refine XR (X:=λt=>fB p.r t=true) (λt ae bW be=>M7 t ae bW ?_) (λt bb=>avO rQ bb) cG aE.h0
    split at be
    ·exact yW _ _ be
    ·exact be
   have Rk:∀aa b t,o'.guard=some (aa,b)->wS aa (ip ax i)=some t->fB p.r t=true:=by
    intro aa b t T W
    rw[rQ.r,EW,z3]
    have:fB (L3 (ip ax i) o'.guard) t=true:=by
     rw[T]
     simp only[L3,W]
     rw[Lf];simp
    rw[this];simp
   have h1:∀(dg:da) (ae:Value),(ct dg fn bg aF ro tmps (.inRegion ax (i::l)::bx) .run).finish ae=ct dg fn bg aF ro (p8 tmps o'.dst ae) (.inRegion ax l::bx) .run:=by
    intro dg ae
    rw[LM (g:=ct dg fn bg aF ro tmps _ .run) rfl bl];rfl
   rcases ata x.op with ⟨gK,o3⟩|⟨gK,o3⟩
   ·
    have I8:(p,x)∈gH C n av ax:=by rw[Lp];exact YJ.2 ⟨Zn f2,gK⟩
    obtain⟨ao,b6⟩:=ZY.1 I8
    have arf:ao=eE:=by
     rcases YQ ao eE with c4|I|g1
     ·exact absurd ((aO.done ao _ b6).2 c4) (by simpa only[z3]using qz)
     ·exact I
     ·exfalso
      have fL:ao-1<(gH C n av ax).length:=zo (Zc.1 b6).1
      have abX:(gH C n av ax)[ao-1]? =some ((gH C n av ax)[ao-1]):=Ze fL
      have aaV:=aO.st.chain
      rw[LQ]at aaV
      have ai:=apR aaV (ao-1) ((gH C n av ax)[ao-1]).1 p (by rw[Zt,abX];rfl) (by rw[show ao-1+1=ao by omega,Zt,b6];rfl)
      have bX:=MN _ ai
      have:=(aO.done (ao-1) _ abX).1 bX
      omega
    subst arf
    have Mw:(gH C n av ax).drop ao=(p,x)::(gH C n av ax).drop (ao+1):=by
     have c4:=(Zc.1 b6).1
     rw[Zw c4,(Zc.1 b6).2]
    rw[Mw]at dp
    simp only at dp
    obtain⟨k8,p1⟩:=dp
    rw[k8]at a
    simp only at a
    have H:ax[((p,x):gj×fx).1.i]? =some o':=by simp only[z3];exact bl
    split at a
    ·simp at a
    ·rename_i T6 mN
     have sF:=Oy (zj aN) b0 M7 Rk (Sub.refl aw) mN
     have abH:¬dr ((p,x):gj×fx).1.i:=by simpa only[z3]using qz
     have asf:x.i=((p,x):gj×fx).1.i:=by simp only[z3,z4]
     cases T6 with
     |false=>
      simp only[jz]at a
      refine .head (TI bl sF) ?_
      rw[h1]
      rw[asf,p1]at a
      have:=aO.fs b6 H abH lU (v:=undef) trivial aB.dst
      exact gq _ _ _ _ _ _ _ _ _ _ _ _ v a S af w bU _ _ aq (aE.state (.drawn aL su gp this (by simp only[z3];exact qC)))
     |true=>
      simp only[e6]at a
      split at a
      ·rename_i r Z
       have mj:=aa4 aE.Z aE.eH cJ.km (yM aw (Sub.refl aw)) Dj Z
       have Jy:mC C S af h bU j n av M tmps (.As ax base aw x.i rest (kZ av ax.toList 0)::F) (.inRegion ax (i::l)::bx):=by
        have acd:=mC.drawn (bU:=bU) (aN:=j) (l:=l) aL su gp aO b6 H abH lU (by simp only[z3];exact qC)
        simp only[z3]at acd
        rw[p1,z4]
        exact acd
       exact WH cJ gq aE Jy aE.j2 (Zl _) bl sF mj a
      ·simp at a
   ·
    have aqy:=Zn f2
    have gn:(⟨x,uD p.m (qo (gH C n av ax)),Bf p.i (qo (gH C n av ax))⟩:pG)∈lP C n av ax:=by
     rw[Lr];exact ZJ.2 ⟨(p,x),YJ.2 ⟨aqy,by simp[gK]⟩,rfl⟩
    have lu:uD p.m (qo (gH C n av ax))<eE+1:=by
     have:=alz p.m (qo (gH C n av ax)) eE (λao e b6 gE=>by
      rw[LQ,Zt]at b6
      cases cw:(gH C n av ax)[ao]? with
      |none=>rw[cw]at b6;cases b6
      |some bu=>
       rw[cw]at b6;cases b6
       cases ai:fB p.m bu.1.i with
       |false=>rfl
       |true=>have:=(aO.done ao bu cw).1 (MN _ ai);omega)
     omega
    have FU:¬dr x.i:=by rw[z4];exact qz
    obtain⟨ae,yZ,R9⟩:=aO.ahead _ gn lu
    obtain⟨va,kq,b,aaK,y0,hc,oa⟩:=R9 FU
    have sF:=Oy (zj aN) b0 M7 Rk aaK y0
    have RO:ax[x.i]? =some o':=by rw[z4];exact bl
    have RI:∀OK:Nat->Prop,(∀aa,dr aa->OK aa)->∀l∈lP C n av ax,l.bU<eE+1->¬OK l.x.i->∃ae,ez aw l.x.i=some ae/\Hw C h aw M l.x ae:=λOK CX ci T W au=>RH ci T W (λao=>au (CX _ ao))
    have IN:add dr x.i=add dr i:=by rw[z4]
    cases b with
    |false=>
     have:ae=undef:=hc rfl
     subst this
     refine .head (TI bl sF) ?_
     rw[h1]
     have jW:=aO.ia (dg:=S) (dE:=af) gn lu RO FU lU yZ (λ_ _=>rfl) (λ_ a=>a) (λ_ a=> .inl a) (by trivial) aB.dst
     simp only[IN]at jW
     exact na S af w _ _ aE aL jW qC (RI _ λ_ a=> .inl a)
    |true=>
     obtain⟨_,Jj,_⟩:=oa rfl
     rcases o3 with o3|o3
     ·obtain⟨rM,tS,ajU,ajR,th,aJ,bc,bd,db⟩:=RH _ gn lu FU
      simp only at tS bd db
      rw[yZ]at tS;cases tS
      have asa:=Oy (zj aN) b0 M7 Rk aJ bd
      have gp:th=true:=by rw[<-asa,sF]
      have o1:=db gp o3
      have Bo:dt C S af ajR j bt.heap.size w:=aE.Z.XY bc
      obtain⟨bf,ck⟩:=ada Bo (yM ajU aJ) Dj o1
      refine .head (Ek bl sF bf (.inl rfl)) ?_
      rw[h1]
      have jW:=aO.ia (dg:=S) (dE:=af) gn lu RO FU lU yZ (λ_ _=>rfl) (λ_ a=>a) (λ_ a=> .inl a) ck aB.dst
      simp only[IN]at jW
      exact na S af w _ _ aE aL jW qC (RI _ λ_ a=> .inl a)
     ·obtain⟨cO,bs,gQ⟩:=Jj o3
      simp only at bs gQ
      have oc:¬af (base+x.i):=λao=>FU (aO.ids x.i (by rw[z4];exact aN) ao)
      obtain⟨oq,fc,f1,je⟩:=ado (w:=w) (S:=S) oc (yM kq aaK) (Nt Dj bs)
      have c4:base+x.i<j:=by rw[z4];omega
      have jp:=aE.Z.alloc (ar:=j) (U:=h) (b:=base+x.i) Zo c4 (Zl _) oc aE.eH rfl gQ (λ_ _=> .inl rfl) je (adp (Nt Dj bs))
      have ah:iD C bU S af h bt.heap.size w (gu S (base+x.i) ⟨w.heap.size,0,0⟩) (add af (base+x.i)) h (w.alloc oq):=
       ⟨qY oc,λ_ a=> .inl a,λe a=>a.elim .inl (λa=> .inr Zo),λ_ _ _=>rfl,Below.alloc (Below.refl _ _) aE.eH _⟩
      refine .head (Ek bl sF fc (.inl rfl)) ?_
      rw[h1, <-GL ah.iP aE.hZ]
      have jW:=aO.ia (dg:=gu S (base+x.i) ⟨w.heap.size,0,0⟩) (dE:=add af (base+x.i)) gn lu RO FU lU yZ ah.iP ah.jA (λ_ a=>a) f1 aB.dst
      simp only[IN]at jW
      exact na _ _ _ _ _ (aE.ext jp ah (Zl _)) (aL.ad ah.iP ah.jA) jW qC (RI _ λ_ a=> .inl a)
end
end Go.bk

