/- A part of the last text's proof; no condition of its own -/
import Derived.Test.YtpfajohmofnkfaaGreatDoorYc
import Derived.Defers
import Derived.RangeFuncRecord
import Derived.Orders
set_option maxHeartbeats 8000000
set_option linter.all false
namespace Go.bd
open Go.RowKit (Below)
def qL(tmps:Array Value)(dst:Option Nat)(v:Value):Array Value:=match dst with|some d=>tmps.setIfInBounds d v|none=>tmps
def Qe(tmps:Array Value)(dst:Option Nat)(v:Value):(qL tmps dst v).size=tmps.size:=by cases dst<;>simp[qL]
def ahc(tmps:Array Value)(dst:Option Nat)(v:Value)(t:Nat)(a:∀d,dst=some d->d<tmps.size):(qL tmps dst v)[t]? =if dst=some t then some v else tmps[t]? :=by
 cases dst with
 |none=>simp[qL]
 |some d=>
  have:=a d rfl
  simp only[qL,Zf,Array.getElem?_setIfInBounds]
  by_cases E:d=t
  ·subst E;simp[this]
  ·simp[E]
def Sub(aq hx:List (Nat×D)):Prop:=∀W ac,eo aq W=some ac->eo hx W=some ac
def Sub.refl(aq:List (Nat×D)):Sub aq aq:=λ_ _ a=>a
def Sub.trans{F b c:List (Nat×D)}(a:Sub F b)(q:Sub b c):Sub F c:=λW ac bK=>q W ac (a W ac bK)
def Sub.cons{aq:List (Nat×D)}{i:Nat}{v:D}(a:eo aq i=none):Sub aq ((i,v)::aq):=λW ac bK=>by
 rw[r1,Zg]
 ·exact bK
 ·intro E;subst E;rw[a]at bK;cases bK
def qe(C:aL)(h T:K ag):Prop:=∀x,Y C h x=Y C T x\/Y C h x=none
inductive xI(ar:Array Oper):(Nat->Prop)->List Nat->Prop
 |nil {dp}:(∀i,i<ar.size->dp i)->xI ar dp []
 |cons {dp i U k}:ar[i]? =some U->¬dp i->(∀E∈U.after.toList,Region.binds .any E=true->dp E.on)->xI ar (add dp i) k->xI ar dp (i::k)
noncomputable def xV(C:aL)(n ao:Nat)(ar:Array Oper):List ft:=(s8 C n ao ar.toList 0 []).getD []
noncomputable def pt(ar:Array Oper):List gk:=C9 ar.toList 0 [] []
noncomputable def gD(C:aL)(n ao:Nat)(ar:Array Oper):List (gk×ft):=Hn (pt ar) (xV C n ao ar)
noncomputable def l6(C:aL)(n ao:Nat)(ar:Array Oper):List qf:=Ig (q7 (gD C n ao ar)) (pt ar) (xV C n ao ar)
structure qd(C:aL)(n ao:Nat)(ar:Array Oper):Prop where
 aoi:s8 C n ao ar.toList 0 []=some (xV C n ao ar)
 aCA:Fx ar.toList 0=true
 ayr:L2 (pt ar)=true
 chain:KO (q7 (gD C n ao ar))=true
section
variable{C:aL}{n ao:Nat}{ar:Array Oper}
def Sc(a:qd C n ao ar):(xV C n ao ar).length=ar.size/\∀W x,(xV C n ao ar)[W]? =some x->x.i=W/\∃U,MR C n ao ar x U:=by
 have aS:=a.aoi
 have:=an1 (ar:=ar) ar.toList 0 _ Zs (by rw[MB];exact aS)
 exact⟨by simpa using this.1,λW x af=>by simpa using this.2 W x af⟩
def JW(ar:Array Oper):(pt ar).length=ar.size/\(∀W p,(pt ar)[W]? =some p->p.i=W/\∃U,Gh ar p U):=by
 have:=agj (ar:=ar) ar.toList 0 [] Zs Zs
 rw[MB]at this
 exact⟨by unfold pt;simpa using this.1,λW p ay=>by simpa using this.2.1 W p ay⟩
noncomputable def r3(C:aL)(n ao:Nat)(ar:Array Oper):List (gk×ft):=(pt ar).zip (xV C n ao ar)
def Ap(a:qd C n ao ar)(i:Nat)(aN:i<ar.size):∃p x U,(r3 C n ao ar)[i]? =some (p,x)/\(pt ar)[i]? =some p/\p.i=i/\x.i=i/\MR C n ao ar x U/\Gh ar p U:=by
 obtain⟨ba,cj⟩:=Sc a
 obtain⟨bQ,cf⟩:=JW ar
 have af:(xV C n ao ar)[i]? =some ((xV C n ao ar)[i]'Zo):=Ze _
 have ay:(pt ar)[i]? =some ((pt ar)[i]'Zo):=Ze _
 obtain⟨db,U,dx⟩:=cj _ _ af
 obtain⟨cX,o',cF⟩:=cf _ _ ay
 have:o'=U:=by
  have bF:=dx.oper;have cn:=cF.oper
  rw[db]at bF;rw[cX]at cn
  rw[bF]at cn;exact(YB cn).symm
 subst this
 refine⟨_,_,o', ?_,ay,cX,db,dx,cF⟩
 unfold r3
 rw[List.getElem?_zip_eq_some]
 exact⟨ay,af⟩
def Aq(a:qd C n ao ar){e:gk×ft}(z:e∈r3 C n ao ar):∃U,e.1.i<ar.size/\e.2.i=e.1.i/\(r3 C n ao ar)[e.1.i]? =some e/\(pt ar)[e.1.i]? =some e.1/\MR C n ao ar e.2 U/\Gh ar e.1 U:=by
 obtain⟨W,bK⟩:=Z1.1 z
 have fI:(r3 C n ao ar).length=ar.size:=by
  unfold r3
  rw[List.length_zip,(Sc a).1,(JW ar).1,Nat.min_self]
 have c2:W<ar.size:=zq (Zc.1 bK).1
 obtain⟨p,x,U,I,J,am,aB,bk,b6⟩:=Ap a W c2
 rw[bK]at I
 cases I
 refine⟨U,by simp only;omega,by simp only;omega, ?_, ?_,bk,b6⟩
 ·simp only[am];exact bK
 ·simp only[am];exact J
def Nt:gD C n ao ar=(r3 C n ao ar).filter λ(x:gk×ft)=>n7 x.2.op:=asQ _ _
def Nv:l6 C n ao ar=((r3 C n ao ar).filter λ(x:gk×ft)=> !n7 x.2.op).map λ(x:gk×ft)=>⟨x.2,vC x.1.m (q7 (gD C n ao ar)),CB x.1.i (q7 (gD C n ao ar))⟩:=awP _ _ _
def Nx{k:qf}(az:k∈l6 C n ao ar):∃p,(p,k.x)∈r3 C n ao ar/\n7 k.x.op=false/\k.b0=vC p.m (q7 (gD C n ao ar))/\k.aN=CB p.i (q7 (gD C n ao ar)):=by
 rw[Nv]at az
 obtain⟨e,z,rfl⟩:=ZE.1 az
 obtain⟨I,J⟩:=YN.1 z
 exact⟨e.1,I,by simpa using J,rfl,rfl⟩
def Nu{e:gk×ft}(z:e∈gD C n ao ar):e∈r3 C n ao ar/\n7 e.2.op=true:=by
 rw[Nt]at z
 exact YN.1 z
def ab0(a:qd C n ao ar)(i:Nat)(aN:i<ar.size):(∃k∈l6 C n ao ar,k.x.i=i)\/(∃(p:Nat) (e:gk×ft),(gD C n ao ar)[p]? =some e/\e.1.i=i):=by
 obtain⟨p,x,U,I,J,am,aB,bk,b6⟩:=Ap a i aN
 have bp:=Zj I
 cases gH:n7 x.op with
 |true=>
  refine .inr ?_
  have:(p,x)∈gD C n ao ar:=by rw[Nt];exact YN.2 ⟨bp,gH⟩
  obtain⟨ah,bL⟩:=Z1.1 this
  exact⟨ah,_,bL,am⟩
 |false=>
  refine .inl ⟨_,by rw[Nv];exact ZE.2 ⟨(p,x),YN.2 ⟨bp,by simp[gH]⟩,rfl⟩,aB⟩
def abZ(a:qd C n ao ar):(r3 C n ao ar).Pairwise λF b=>F.1.i<b.1.i:=by
 rw[YR]
 intro i W aN bK OO
 have fI:(r3 C n ao ar).length=ar.size:=by
  unfold r3
  rw[List.length_zip,(Sc a).1,(JW ar).1,Nat.min_self]
 obtain⟨p,x,U,I,J,am,_⟩:=Ap a i Zo
 obtain⟨aEp,f0,o',uF,AH,aCG,_⟩:=Ap a W Zo
 rw[Ze aN]at I
 rw[Ze bK]at uF
 rw[YB I,YB uF]
 simp only;omega
def abY(a:qd C n ao ar){p ah:Nat}{e bz:gk×ft}(ay:(gD C n ao ar)[p]? =some e)(bL:(gD C n ao ar)[ah]? =some bz)(bs:e.1.i=bz.1.i):p=ah:=by
 have K7:(gD C n ao ar).Pairwise λF b=>F.1.i<b.1.i:=by rw[Nt];exact(abZ a).filter _
 rw[YR]at K7
 obtain⟨I,J⟩:=Zc.1 ay
 obtain⟨am,aB⟩:=Zc.1 bL
 rcases YV p ah with c2|rfl|fO
 ·have:=K7 p ah I am c2
  rw[J,aB]at this;omega
 ·rfl
 ·have:=K7 ah p am I fO
  rw[J,aB]at this;omega
def Sd(a:qd C n ao ar):(l6 C n ao ar).Pairwise λF b=>F.x.i<b.x.i:=by
 rw[Nv,List.pairwise_map]
 have I:((r3 C n ao ar).filter λ(x:gk×ft)=> !n7 x.2.op).Pairwise λF b=>F.1.i<b.1.i:=(abZ a).filter _
 refine I.imp_of_mem λ{F b} aC aj c2=> ?_
 obtain⟨_,_,bF,_⟩:=Aq a (YN.1 aC).1
 obtain⟨_,_,cn,_⟩:=Aq a (YN.1 aj).1
 show F.2.i<b.2.i
 rw[bF,cn];exact c2
def Nw(a:qd C n ao ar){k:qf}(az:k∈l6 C n ao ar):k.x.i<ar.size:=by
 obtain⟨p,ay,_⟩:=Nx az
 obtain⟨_,I,J,_⟩:=Aq a ay
 simp only at I J;omega
def aoN(a:qd C n ao ar){e:gk×ft}(z:e∈gD C n ao ar):e.1.i<ar.size/\e.2.i=e.1.i:=by
 obtain⟨_,I,J,_⟩:=Aq a (Nu z).1
 exact⟨I,J⟩
def DH(ar:Array Oper)(dp:Nat->Prop):Prop:=∀i U,ar[i]? =some U->dp i->∀E∈U.after.toList,Region.binds .any E=true->dp E.on
def JX{dp:Nat->Prop}(bT:DH ar dp){p:gk}(ay:p∈pt ar){U:Oper}(bj:ar[p.i]? =some U)
 (mb:∀E∈U.after.toList,Region.binds .any E=true->dp E.on):∀F,bit p.m F=true->dp F:=by
 have key:=(agj (ar:=ar) ar.toList 0 [] Zs Zs).2.2 (λi m=>(∀U,ar[i]? =some U->∀E∈U.after.toList,Region.binds .any E=true->dp E.on)->∀F,bit m F=true->dp F) Zs
  (λW U m bK _ bp mb F aC=>by
   obtain⟨E,I,J,am⟩:=bp F aC
   have bs:=mb U bK E I J
   rcases am with rfl|⟨gr,aB,bk⟩
   ·exact bs
   ·exact aB (λo' Hx iw TJ jB=>bT E.on o' Hx bs iw TJ jB) F bk)
 rw[MB]at key
 exact key p ay (λo' Hx=>by rw[bj]at Hx;cases Hx;exact mb)
end
structure MN(C:aL)(ad:Nat->Prop)(h:K ag)(base:Nat)(aq:List (Nat×D))(H:K D)(x:ft)(ac:D):Prop where
 key:eo aq x.i=some ac
 ok:∃kF b,Sub kF aq/\pf x.g kF=some b/\(b=false->ac=undef)/\(b=true->(n7 x.op=false)/\
  (m6 x.op= .make->∃cY,oJ x.op C (base+x.i) kF H=some (ac,cY)/\Y C h (base+x.i)=some cY)/\
  (m6 x.op= .ig->Ds x.op=false->∀kS,gW x.op C kS kF H=some ac))
def Jr(C:aL)(h:K ag)(aq:List (Nat×D))(H:K D)(x:ft)(ac:D):Prop:=
 ∃kF kS b,Sub kF aq/\qe C kS h/\pf x.g kF=some b/\(b=true->m6 x.op= .ig->gW x.op C kS kF H=some ac)
def BR(S:c9)(ad:Nat->Prop)(ao:Nat)(ar:Array Oper)(dp:Nat->Prop)(aq:List (Nat×D))(H:K D)(tmps:Array Value):Prop:=
 ∀t v,((∃W,dp W/\ta ar W=some t/\(∀pO,dp pO->ta ar pO=some t->pO<=W)/\eo aq W=some v)\/((∀W,dp W->ta ar W≠some t)/\bit ao t=true/\H.get t=some v))->
  tmps[t]? =some (aQ S v)/\ck ad v
structure rS(C:aL)(S:c9)(ad:Nat->Prop)(h:K ag)(base n ao:Nat)(ar:Array Oper)(aq:List (Nat×D))(q m:Nat)(H:K D)(tmps:Array Value)(dp:Nat->Prop):Prop where
 st:qd C n ao ar
 size:tmps.size=n
 PD:q<=(gD C n ao ar).length
 dV:C.a2<=base
 closed:DH ar dp
 yy:∀i,dp i->i<ar.size
 done:∀p a,(gD C n ao ar)[p]? =some a->(dp a.1.i↔p<q)
 u2:∀k∈l6 C n ao ar,dp k.x.i->k.b0<m
 keys:∀i ac,eo aq i=some ac->(∃k∈l6 C n ao ar,k.x.i=i/\k.b0<m)\/(∃p a,(gD C n ao ar)[p]? =some a/\a.1.i=i/\p<q)
 wc:∀p a,(gD C n ao ar)[p]? =some a->p<q->∃ac,eo aq a.1.i=some ac
 ahead:∀k∈l6 C n ao ar,k.b0<m->∃ac,eo aq k.x.i=some ac/\(¬dp k.x.i->MN C ad h base aq H k.x ac)
 Ea:BR S ad ao ar dp aq H tmps
 ids:∀i,i<ar.size->ad (base+i)->dp i
 free:∀i,i<ar.size->eo aq i=none->Y C h (base+i)=none
section
variable{C:aL}{S dd:c9}{ad dC:Nat->Prop}{h T:K ag}{j an bh:Nat}{w b1:World}
def pp.ab{ao:Nat}{X:Nat->Prop}{ek:List (Nat×Nat)}{aq:List (Nat×D)}{H:K D}{tmps:Array Value}(dL:∀b,ad b->dd b=S b)(gF:∀b,ad b->dC b)(a:pp S ad ao X ek aq H tmps):pp dd dC ao X ek aq H tmps:=
 λt v af bD=>by
  obtain⟨I,J⟩:=a t v af bD
  exact⟨by rw[I,q0 dL J],pz gF v J⟩
def BR.ab{ao:Nat}{ar:Array Oper}{dp:Nat->Prop}{aq:List (Nat×D)}{H:K D}{tmps:Array Value}(dL:∀b,ad b->dd b=S b)(gF:∀b,ad b->dC b)(a:BR S ad ao ar dp aq H tmps):BR dd dC ao ar dp aq H tmps:=
 λt v bD=>by
  obtain⟨I,J⟩:=a t v bD
  exact⟨by rw[I,q0 dL J],pz gF v J⟩
def sV.ab(dL:∀b,ad b->dd b=S b)(gF:∀b,ad b->dC b)(a:sV C S ad):sV C dd dC:=λg bU=>by
 obtain⟨I,J,am⟩:=a g bU
 exact⟨gF g I,by rw[dL g I];exact J,by rw[dL g I];exact am⟩
def rS.ab{di base n ao q m:Nat}{ar:Array Oper}{aq:List (Nat×D)}{H:K D}{tmps:Array Value}{dp:Nat->Prop}(af:iG C di S ad h bh w dd dC T b1)(az:base+ar.size<=di)
 (a:rS C S ad h base n ao ar aq q m H tmps dp):rS C dd dC T base n ao ar aq q m H tmps dp:=by
 have Hr:∀i,i<ar.size->dC (base+i)->dp i:=λi aN aH=>(af.new _ aH).elim (a.ids i aN) (λah=>Zo)
 refine⟨a.st,a.size,a.PD,a.dV,a.closed,a.yy,a.done,a.u2,a.keys,a.wc, ?_,a.Ea.ab af.iW af.jP,Hr, ?_⟩
 ·intro k hq oS
  obtain⟨ac,I,J⟩:=a.ahead k hq oS
  refine⟨ac,I,λbT=> ?_⟩
  obtain⟨am,kF,b,aB,bk,b6,c5⟩:=J bT
  refine⟨am,kF,b,aB,bk,b6,λaj=> ?_⟩
  obtain⟨eb,g5,lp⟩:=c5 aj
  refine⟨eb,λaD=> ?_,lp⟩
  obtain⟨cY,tf,vR⟩:=g5 aD
  refine⟨cY,tf, ?_⟩
  have c2:=Nw a.st hq
  rw[af.ab _ (λaH=>bT (a.ids _ c2 aH)) Zo]
  exact vR
 ·intro i aN bD
  rw[af.ab _ ?_ Zo]
  ·exact a.free i aN bD
  ·intro aH
   have bT:=a.ids i aN aH
   rcases ab0 a.st i aN with ⟨k,qA,n4⟩|⟨p,e,ay,z⟩
   ·obtain⟨ac,bb,_⟩:=a.ahead k qA (a.u2 k qA (by rw[n4];exact bT))
    rw[n4,bD]at bb;cases bb
   ·obtain⟨ac,bb⟩:=a.wc p e ay ((a.done p e ay).1 (by rw[z];exact bT))
    rw[z,bD]at bb;cases bb
end
end Go.bd

namespace Go.bd
open Go.RowKit (Below)
section
variable{C:aL}{S dd:c9}{ad dC:Nat->Prop}{h T:K ag}{j an bh:Nat}{w b1:World}{n ao:Nat}{ar:Array Oper}
def afP{F b t:Nat}(I:bit F t=true)(J:bit b t=true):Nat.beq (Nat.land F b) 0=false:=by
 cases a:Nat.beq (Nat.land F b) 0 with
 |false=>rfl
 |true=>
  have E:=Zl a
  have:=anO F b t
  rw[E,Ni,I,J]at this
  cases this
def Qc{p:gk}{U:Oper}(a:Gh ar p U){t:Nat}(aH:U.dst=some t):bit p.w t=true:=by rw[a.w];exact aoX.2 aH
def ayS{p:gk}{U:Oper}(a:Gh ar p U){t:Nat}(V:Operand.tmp t∈U.op.operands.toList):bit p.r t=true:=by
 rw[a.r,GA,ayg.2 V];rfl
def R2(a:qd C n ao ar){i W:Nat}{p ah:gk}(OO:i<W)(ay:(pt ar)[i]? =some p)(bL:(pt ar)[W]? =some ah){t:Nat}
 (aA:(bit p.w t=true/\(bit ah.r t=true\/bit ah.w t=true))\/(bit ah.w t=true/\bit p.r t=true)):bit ah.m i=true:=by
 have:=ax3 a.ayr i W p ah OO ay bL
 have K6:p.i=i:=((JW ar).2 i p ay).1
 unfold PZ at this
 rw[K6]at this
 rcases aA with ⟨I,J⟩|⟨I,J⟩
 ·have am:bit (Nat.lor ah.r ah.w) t=true:=by rw[GA];rcases J with J|J<;>simp[J]
  rw[afP I am]at this
  simpa using this
 ·rw[afP I J]at this
  simpa using this
def PN{i:Nat}{p:gk}(ay:(pt ar)[i]? =some p):p∈pt ar:=Zj ay
def aoO(dm:qd C n ao ar){dp:Nat->Prop}{aq:List (Nat×D)}{H:K D}{tmps:Array Value}(iy:DH ar dp)(KU:∀i,dp i->i<ar.size)(aH:BR S ad ao ar dp aq H tmps)
 {i:Nat}{p:gk}{U:Oper}(ay:(pt ar)[i]? =some p)(bj:ar[i]? =some U)(rm:¬dp i)(mb:∀E∈U.after.toList,Region.binds .any E=true->dp E.on):
 pp S ad ao (λt=>bit p.r t=true) (is ar i) aq H tmps:=by
 have aN:i<ar.size:=(ZN.1 bj).1
 obtain⟨_,eV,iZ⟩:=MC ar i (zm aN)
 have K6:p.i=i:=((JW ar).2 i p ay).1
 have O0:=JX iy (PN ay) (by rw[K6];exact bj) mb
 have afS:∀t W,bit p.r t=true->i<W->dp W->ta ar W=some t->False:=by
  intro t W V OO bT vZ
  obtain⟨ah,x,Bn,_,bL,yu,_,af,sk⟩:=Ap dm W (KU W bT)
  have AY:ar[W]? =some Bn:=by rw[<-yu];exact sk.oper
  have bt:=Qc sk (t:=t) (by rw[<-J0 AY];exact vZ)
  have aj:=R2 dm OO ay bL (.inr ⟨bt,V⟩)
  have:=JX iy (PN bL) (by rw[yu];exact AY) (iy W Bn AY bT) i aj
  exact rm this
 intro t v bZ bD
 apply aH t v
 split at bD
 ·rename_i W bK
  obtain⟨b3,b7,cS⟩:=eV t W bK
  left
  have atn:W<ar.size:=Zo
  obtain⟨ah,x,Bn,_,bL,yu,_,af,sk⟩:=Ap dm W atn
  have AY:ar[W]? =some Bn:=by rw[<-yu];exact sk.oper
  have bt:=Qc sk (t:=t) (by rw[<-J0 AY];exact b7)
  have aj:=R2 dm b3 bL ay (.inl ⟨bt, .inl bZ⟩)
  refine⟨W,O0 W aj,b7,λpO Eu tk=> ?_,bD⟩
  rcases YV pO i with I|I|I
  ·rcases zb W pO with J|J
   ·exact absurd tk (cS pO J I)
   ·exact J
  ·exact absurd (I▸Eu) rm
  ·exact(afS t pO bZ I Eu tk).elim
 ·rename_i bK
  right
  refine⟨λW bT vZ=> ?_,bD.1,bD.2⟩
  rcases YV W i with I|I|I
  ·exact iZ t bK W I vZ
  ·exact rm (I▸bT)
  ·exact afS t W bZ I bT vZ
def BR.put(dm:qd C n ao ar){dp:Nat->Prop}{aq hx:List (Nat×D)}{H:K D}{tmps:Array Value}(iy:DH ar dp)(KU:∀i,dp i->i<ar.size)(aH:BR S ad ao ar dp aq H tmps)(eO:tmps.size=n)
 {i:Nat}{U:Oper}{v:D}(bj:ar[i]? =some U)(rm:¬dp i)(Tq:∀W,dp W->∀ac,eo hx W=some ac->eo aq W=some ac)(ase:eo hx i=some v)(mZ:∀d,U.dst=some d->d<n)(fu:ck ad v):
 BR S ad ao ar (add dp i) hx H (qL tmps U.dst (aQ S v)):=by
 have aN:i<ar.size:=(ZN.1 bj).1
 have TG:=J0 bj
 have HD:∀t,(qL tmps U.dst (aQ S v))[t]? =if U.dst=some t then some (aQ S v)else tmps[t]? :=λt=>ahc _ _ _ _ (by rw[eO];exact mZ)
 intro t ac a
 rw[HD]
 by_cases Hm:U.dst=some t
 ·rw[Zu Hm]
  rcases a with ⟨W,bT,vZ,yo,bb⟩|⟨I,_⟩
  ·
   have ael:W=i:=by
    rcases bT with bT|bT
    ·have gq:=yo i (.inr rfl) (by rw[TG];exact Hm)
     rcases zb i W with c2|CA
     ·exfalso
      obtain⟨p,x,axZ,_,ay,K6,_,_,EU⟩:=Ap dm i aN
      obtain⟨ah,f0,Bn,_,bL,yu,_,_,sk⟩:=Ap dm W (KU W bT)
      have AY:ar[W]? =some Bn:=by rw[<-yu];exact sk.oper
      have atS:axZ=U:=by
       have:=EU.oper
       rw[K6,bj]at this
       exact(YB this).symm
      subst atS
      have aj:=R2 dm c2 ay bL (.inl ⟨Qc EU Hm, .inr (Qc sk (by rw[<-J0 AY];exact vZ))⟩)
      exact rm (JX iy (PN bL) (by rw[yu];exact AY) (iy W Bn AY bT) i aj)
     ·omega
    ·exact bT
   subst ael
   rw[ase]at bb
   cases bb
   exact⟨rfl,fu⟩
  ·exact absurd (by rw[TG];exact Hm) (I i (.inr rfl))
 ·rw[Zg Hm]
  apply aH t ac
  rcases a with ⟨W,bT,vZ,yo,bb⟩|⟨I,J⟩
  ·left
   have Eu:dp W:=bT.resolve_right λE=>Hm (by rw[<-TG, <-E];exact vZ)
   exact⟨W,Eu,vZ,λpO KV tk=>yo pO (.inl KV) tk,Tq W Eu ac bb⟩
  ·right
   exact⟨λW bK=>I W (.inl bK),J⟩
def DH.add{dp:Nat->Prop}(iy:DH ar dp){i:Nat}{U:Oper}(bj:ar[i]? =some U)(mb:∀E∈U.after.toList,Region.binds .any E=true->dp E.on):DH ar (add dp i):=by
 intro W Bn bK bT E bs aj
 rcases bT with bT|bT
 ·exact .inl (iy W Bn bK bT E bs aj)
 ·subst bT
  rw[bj]at bK;cases bK
  exact .inl (mb E bs aj)
def PI(dm:qd C n ao ar){k:qf}(az:k∈l6 C n ao ar){p:Nat}{e:gk×ft}(ay:(gD C n ao ar)[p]? =some e):k.x.i≠e.1.i:=by
 intro E
 obtain⟨ah,I,J,_⟩:=Nx az
 obtain⟨am,aB⟩:=Nu (Zj ay)
 obtain⟨_,_,b7,cS,_⟩:=Aq dm I
 obtain⟨_,_,cq,cP,_⟩:=Aq dm am
 simp only at b7 cS
 rw[<-b7,E,cP]at cS
 cases cS
 rw[J]at aB;cases aB
def rS.fp{base eA:Nat}{aq:List (Nat×D)}{H:K D}{tmps:Array Value}{dp:Nat->Prop}(a:rS C S ad h base n ao ar aq eA (eA+1) H tmps dp){e:gk×ft}(z:(gD C n ao ar)[eA]? =some e)
 {U:Oper}(bj:ar[e.1.i]? =some U)(rm:¬dp e.1.i)(mb:∀E∈U.after.toList,Region.binds .any E=true->dp E.on){v:D}(fu:ck ad v)(mZ:∀d,U.dst=some d->d<n):
 rS C S ad h base n ao ar ((e.1.i,v)::aq) (eA+1) (eA+1) H (qL tmps U.dst (aQ S v)) (add dp e.1.i):=by
 have TP:eo aq e.1.i=none:=by
  cases bD:eo aq e.1.i with
  |none=>rfl
  |some ac=>
   exfalso
   rcases a.keys _ ac bD with ⟨k,I,J,_⟩|⟨p,bz,I,J,am⟩
   ·exact PI a.st I z J
   ·have:=abY a.st I z J;omega
 have A6:Sub aq ((e.1.i,v)::aq):=Sub.cons TP
 have aN:e.1.i<ar.size:=(ZN.1 bj).1
 refine⟨a.st,by rw[Qe];exact a.size,zq (Zc.1 z).1,a.dV,a.closed.add bj mb, ?_, ?_, ?_, ?_, ?_, ?_, ?_, ?_, ?_⟩
 ·rintro i (bT|bT)
  ·exact a.yy i bT
  ·omega
 ·intro p bz cr
  constructor
  ·rintro(bT|bT)
   ·have:=(a.done p bz cr).1 bT;omega
   ·have:=abY a.st cr z bT;omega
  ·intro ay
   rcases zb p eA with c2|CA
   ·exact .inl ((a.done p bz cr).2 c2)
   ·have:p=eA:=Zo
    subst this
    rw[z]at cr;cases cr
    exact .inr rfl
 ·rintro k az (bT|bT)
  ·exact a.u2 k az bT
  ·exact(PI a.st az z bT).elim
 ·intro i ac bb
  rw[r1]at bb
  split at bb
  ·rename_i E
   exact .inr ⟨eA,e,z,E,Zo⟩
  ·rcases a.keys i ac bb with I|⟨p,bz,I,J,am⟩
   ·exact .inl I
   ·exact .inr ⟨p,bz,I,J,Zo⟩
 ·intro p bz cr ay
  rw[r1]
  split
  ·exact⟨v,rfl⟩
  ·rename_i c8
   have:p≠eA:=λE=>by subst E;rw[z]at cr;cases cr;exact c8 rfl
   exact a.wc p bz cr Zo
 ·intro k az oS
  obtain⟨ac,I,J⟩:=a.ahead k az oS
  refine⟨ac,A6 _ _ I,λbT=> ?_⟩
  obtain⟨_,kF,b,aB,bk⟩:=J (λah=>bT (.inl ah))
  exact⟨A6 _ _ I,kF,b,aB.trans A6,bk⟩
 ·refine a.Ea.put a.st a.closed a.yy a.size bj rm ?_ (by rw[r1,Zu rfl]) mZ fu
  intro W bT ac bb
  rw[r1,Zg]at bb
  ·exact bb
  ·intro E;subst E;exact rm bT
 ·intro i lu aH
  exact .inl (a.ids i lu aH)
 ·intro i lu bD
  rw[r1]at bD
  split at bD
  ·cases bD
  ·exact a.free i lu bD
def rS.ig{base eA m:Nat}{aq:List (Nat×D)}{H:K D}{tmps:Array Value}{dp:Nat->Prop}(a:rS C S ad h base n ao ar aq eA m H tmps dp){k:qf}(az:k∈l6 C n ao ar)(oS:k.b0<m)
 {U:Oper}(bj:ar[k.x.i]? =some U)(rm:¬dp k.x.i)(mb:∀E∈U.after.toList,Region.binds .any E=true->dp E.on){v:D}(bD:eo aq k.x.i=some v)
 (dL:∀b,ad b->dd b=S b)(gF:∀b,ad b->dC b)(arE:∀b,dC b->ad b\/b=base+k.x.i)(fu:ck dC v)(mZ:∀d,U.dst=some d->d<n):
 rS C dd dC h base n ao ar aq eA m H (qL tmps U.dst (aQ dd v)) (add dp k.x.i):=by
 have aN:k.x.i<ar.size:=(ZN.1 bj).1
 refine⟨a.st,by rw[Qe];exact a.size,a.PD,a.dV,a.closed.add bj mb, ?_, ?_, ?_,a.keys,a.wc, ?_, ?_, ?_,a.free⟩
 ·rintro i (bT|bT)
  ·exact a.yy i bT
  ·omega
 ·intro p bz cr
  constructor
  ·rintro(bT|bT)
   ·exact(a.done p bz cr).1 bT
   ·exact(PI a.st az cr bT.symm).elim
  ·intro ay
   exact .inl ((a.done p bz cr).2 ay)
 ·rintro bV hq (bT|bT)
  ·exact a.u2 bV hq bT
  ·have:=(Sd a.st)
   by_cases ah:bV=k
   ·rw[ah];exact oS
   ·exfalso
    obtain⟨F,aC⟩:=Z1.1 hq
    obtain⟨b,aj⟩:=Z1.1 az
    obtain⟨KC,n1⟩:=Zc.1 aC
    obtain⟨oO,ny⟩:=Zc.1 aj
    rw[YR]at this
    rcases YV F b with c2|E|fO
    ·have:=this F b KC oO c2
     rw[n1,ny]at this;omega
    ·subst E
     rw[n1]at ny;exact ah ny
    ·have:=this b F oO KC fO
     rw[n1,ny]at this;omega
 ·intro bV hq atv
  obtain⟨ac,I,J⟩:=a.ahead bV hq atv
  refine⟨ac,I,λbT=> ?_⟩
  obtain⟨am,kF,b,aB,bk,b6,c5⟩:=J (λah=>bT (.inl ah))
  exact⟨am,kF,b,aB,bk,b6,c5⟩
 ·exact(a.Ea.ab dL gF).put a.st a.closed a.yy a.size bj rm (λ_ _ _ ah=>ah) bD mZ fu
 ·intro i lu aH
  rcases arE _ aH with aH|aH
  ·exact .inl (a.ids i lu aH)
  ·exact .inr Zo
end
end Go.bd

namespace Go.bd
open Go.RowKit (Below)
def um(S:c9)(p:sK):PanicEntry:={v:=aQ S p.v,recovered:=p.recovered}
def gN(S:c9):lg->FrameMode
 | .run=> .run
 | .returning=> .returning
 | .panicking f9=> .panicking (f9.map (um S))
def q8(ad:Nat->Prop):lg->Prop
 | .panicking f9=>∀p∈f9,ck ad p.v
 |_=>True
inductive DL(C:aL)(S:c9)(ad:Nat->Prop)(ao:Nat):dR->Item->Prop
 |code {c:Code}:l4 C ao c=true->DL C S ad ao (.code c) (.code c)
 |inBlock {id:Nat}:DL C S ad ao (.inBlock id) (.inBlock id)
 |inLoop {b:Code}:l4 C ao b=true->DL C S ad ao (.inLoop b) (.inLoop b)
 |inScope {b:Code}:l4 C ao b=true->DL C S ad ao (.inScope b) (.inScope b)
 |Ee {k:Nat}:ad k->DL C S ad ao (.endRangeFunc k) (.endRangeFunc (S k).cH)
 |begin:DL C S ad ao .beginRound .beginRound
inductive lW(C:aL)(S:c9)(ad:Nat->Prop)(ao:Nat):List dR->List Item->Prop
 |nil:lW C S ad ao [] []
 |cons {F x q bx}:DL C S ad ao F x->lW C S ad ao q bx->lW C S ad ao (F::q) (x::bx)
def Ru(C:aL)(S:c9)(ad:Nat->Prop)(n ao:Nat)(ar:Array Oper)(aq:List (Nat×D))(rest:List ft)(fin:List (Nat×Nat))(H:K D)(tmps:Array Value)(k:List Nat):Prop:=
 ∃i,i<=ar.size/\k=List.range' i (ar.size-i)/\s8 C n ao (ar.toList.drop i) i (is ar i)=some rest/\fin=lo ao ar.toList 0/\pp S ad ao (λ_=>True) (is ar i) aq H tmps/\tmps.size=n
def amG(C:aL)(S:c9)(ad:Nat->Prop)(n ao:Nat)(ar:Array Oper)(aq:List (Nat×D))(a:Nat)(rest:List ft)(fin:List (Nat×Nat))(H:K D)(tmps:Array Value)(k:List Nat):Prop:=
 ∃U,ar[a]? =some U/\(∀d,U.dst=some d->d<n)/\k=List.range' (a+1) (ar.size-(a+1))/\s8 C n ao (ar.toList.drop (a+1)) (a+1) (is ar (a+1))=some rest/\fin=lo ao ar.toList 0/\
  pp S ad ao (λ_=>True) (is ar a) aq H tmps/\tmps.size=n
inductive DT(C:aL)(S:c9)(ad:Nat->Prop)(h:K ag)(di j n ao:Nat)(H:K D)(tmps:Array Value):List dR->List Item->Prop
 |plain {q bx}:lW C S ad ao q bx->jw S ad n ao H tmps->DT C S ad h di j n ao H tmps q bx
 |seq {ar aq rest fin k q bx}:lW C S ad ao q bx->Ru C S ad n ao ar aq rest fin H tmps k->DT C S ad h di j n ao H tmps (.IU ar aq rest fin::q) (.inRegion ar k::bx)
 |drawn {ar base aq k q bx dp eA}:lW C S ad ao q bx->di<=base->base+ar.size<=j->rS C S ad h base n ao ar aq eA eA H tmps dp->xI ar dp k->
   DT C S ad h di j n ao H tmps (.drawn ar base aq (Bl (l6 C n ao ar) eA ((gD C n ao ar).drop eA)) (lo ao ar.toList 0)::q) (.inRegion ar k::bx)
inductive mT(C:aL)(S:c9)(ad:Nat->Prop)(h:K ag)(b0 aN n ao:Nat)(H:K D)(tmps:Array Value):List dR->List Item->Prop
 |seq {ar aq a rest fin k q bx}:lW C S ad ao q bx->amG C S ad n ao ar aq a rest fin H tmps k->mT C S ad h b0 aN n ao H tmps (.t8 ar aq a rest fin::q) (.inRegion ar (a::k)::bx)
 |drawn {ar base aq k q bx dp eA e U}:lW C S ad ao q bx->b0<=base->base+ar.size<=aN->rS C S ad h base n ao ar aq eA (eA+1) H tmps dp->(gD C n ao ar)[eA]? =some e->
   ar[e.1.i]? =some U->¬dp e.1.i->(∀E∈U.after.toList,Region.binds .any E=true->dp E.on)->xI ar (add dp e.1.i) k->
   mT C S ad h b0 aN n ao H tmps (.BG ar base aq e.1.i (Bl (l6 C n ao ar) (eA+1) ((gD C n ao ar).drop (eA+1))) (lo ao ar.toList 0)::q) (.inRegion ar (e.1.i::k)::bx)
 |cQ {k q bx}:lW C S ad ao q bx->jw S ad n ao H tmps->ad k->mT C S ad h b0 aN n ao H tmps (.inRangeFunc k::q) (.inRangeFunc (S k).cH::bx)
def B1(C:aL)(S:c9)(ad:Nat->Prop)(h:K ag)(b0 aN n ao:Nat)(H:K D)(tmps:Array Value)(bS:lg)(todo:List dR)(bx:List Item):Prop:=match bS with
 | .run=>mT C S ad h b0 aN n ao H tmps todo bx
 |_=>jw S ad n ao H tmps
def ct(S:c9)(fn:Nat)(bc:List hI)(aJ:Bool)(ro:Option Nat)(tmps:Array Value)(bx:List Item)(mode:FrameMode):Frame:=
 {fn,tmps,todo:=bx,defers:=bc.map (l2 S),mode,kind:=if aJ then .deferred else .normal,roundOf:=ro.map λk=>(S k).cH}
structure xB(C:aL)(ad:Nat->Prop)(fn ao:Nat)(bc:List hI)(ro:Option Nat):Prop where
 bc:∀d∈bc,x5 ad d
 ro:∀k,ro=some k->ad k
 fn:Re C fn ao
inductive pi(C:aL)(S:c9)(ad:Nat->Prop)(h:K ag)(bG:Nat)(bX:List Frame):Nat->List gL->List Frame->Prop
 |nil {di}:pi C S ad h bG bX di [] bX
 |cons {b0 di fn n ao H todo bc bS aJ ro cs tmps bx ai}:B1 C S ad h b0 di n ao H tmps bS todo bx->q8 ad bS->xB C ad fn ao bc ro->(cs=[]->fn=bG/\aJ=false/\ro=none)->b0<=di->pi C S ad h bG bX b0 cs ai->
   pi C S ad h bG bX di (⟨fn,n,ao,H,todo,bc,bS,aJ,ro⟩::cs) (ct S fn bc aJ ro tmps bx (gN S bS)::ai)
section
variable{C:aL}{S dd:c9}{ad dC:Nat->Prop}{h T:K ag}{j an bh:Nat}{w b1:World}{n ao:Nat}{ar:Array Oper}
def lW.ab{q:List dR}{bx:List Item}(dL:∀b,ad b->dd b=S b)(gF:∀b,ad b->dC b)(a:lW C S ad ao q bx):lW C dd dC ao q bx:=by
 induction a with
 |nil=>exact .nil
 |cons I _ al=>
  refine .cons ?_ al
  cases I with
  |code a=>exact .code a
  |inBlock=>exact .inBlock
  |inLoop a=>exact .inLoop a
  |inScope a=>exact .inScope a
  |Ee a=>rw[<-dL _ a];exact .Ee (gF _ a)
  |begin=>exact .begin
def mT.ab{b0 di:Nat}{H:K D}{tmps:Array Value}{q:List dR}{bx:List Item}(af:iG C di S ad h bh w dd dC T b1)(a:mT C S ad h b0 di n ao H tmps q bx):mT C dd dC T b0 di n ao H tmps q bx:=by
 cases a with
 |seq I J=>
  obtain⟨U,ba,cj,a3,a4,a5,hy,h3⟩:=J
  exact .seq (I.ab af.iW af.jP) ⟨U,ba,cj,a3,a4,a5,hy.ab af.iW af.jP,h3⟩
 |drawn I J am aB bk b6 c5 eb g5=>exact .drawn (I.ab af.iW af.jP) J am (aB.ab af am) bk b6 c5 eb g5
 |cQ I J am=>rw[<-af.iW _ am];exact .cQ (I.ab af.iW af.jP) (J.ab af.iW af.jP) (af.jP _ am)
def B1.ab{b0 di:Nat}{H:K D}{tmps:Array Value}{bS:lg}{q:List dR}{bx:List Item}(af:iG C di S ad h bh w dd dC T b1)(a:B1 C S ad h b0 di n ao H tmps bS q bx):B1 C dd dC T b0 di n ao H tmps bS q bx:=by
 cases bS with
 |run=>exact mT.ab af a
 |returning=>exact jw.ab af.iW af.jP a
 |panicking f9=>exact jw.ab af.iW af.jP a
def xB.ab{fn:Nat}{bc:List hI}{ro:Option Nat}(gF:∀b,ad b->dC b)(a:xB C ad fn ao bc ro):xB C dC fn ao bc ro:=
 ⟨λd aH=>acW gF (a.bc d aH),λk az=>gF k (a.ro k az),a.fn⟩
def Ip{fn:Nat}{bc:List hI}{aJ:Bool}{ro:Option Nat}{tmps:Array Value}{bx:List Item}{mode:FrameMode}(dL:∀b,ad b->dd b=S b)(a:xB C ad fn ao bc ro):ct dd fn bc aJ ro tmps bx mode=ct S fn bc aJ ro tmps bx mode:=by
 unfold ct
 congr 1
 ·exact YF λd aH=>RT dL (a.bc d aH)
 ·cases ro with
  |none=>rfl
  |some k=>simp only[ZU,dL k (a.ro k rfl)]
def an2{bS:lg}(dL:∀b,ad b->dd b=S b)(a:q8 ad bS):gN dd bS=gN S bS:=by
 cases bS with
 |panicking f9=>
  simp only[gN]
  congr 1
  exact YF λp ay=>by simp only[um,q0 dL (a p ay)]
 |_=>rfl
def aq0{bS:lg}(gF:∀b,ad b->dC b)(a:q8 ad bS):q8 dC bS:=by
 cases bS with
 |panicking f9=>exact λp ay=>pz gF _ (a p ay)
 |_=>trivial
def iG.mono{di LM:Nat}(a:iG C di S ad h bh w dd dC T b1)(az:LM<=di):iG C LM S ad h bh w dd dC T b1:=
 ⟨a.iW,a.jP,λb aj=>(a.new b aj).imp id (λah=>Zo),λb aj c2=>a.ab b aj Zo,a.below⟩
def pi.ab{bG:Nat}{bX:List Frame}{di:Nat}{cs:List gL}{ai:List Frame}(a:pi C S ad h bG bX di cs ai)(af:iG C di S ad h bh w dd dC T b1):pi C dd dC T bG bX di cs ai:=by
 induction a with
 |nil=>exact .nil
 |cons I bp J aB bk b6 al=>
  rw[<-Ip (S:=S) (dd:=dd) af.iW J, <-an2 af.iW bp]
  exact .cons (I.ab af) (aq0 af.jP bp) (J.ab af.jP) aB bk (al (af.mono bk))
def Ny(t:Nat):∀(k:List Nat) (H:K D),(xW k H).get t=if t∈k then none else H.get t:=by
 intro k
 induction k with
 |nil=>intro H;simp[xW]
 |cons d k al=>
  intro H
  simp only[xW,al,K.kI,Zr]
  by_cases a:t∈k
  ·simp[a]
  ·by_cases E:d=t
   ·subst E;simp
   ·have:¬t=d:=λah=>E ah.symm
    simp[a,E,this]
def jw.drop{H:K D}{tmps:Array Value}(a:jw S ad n ao H tmps)(k:List Nat):jw S ad n ao (xW k H) tmps:=by
 refine⟨a.size,λt v aj bD=> ?_⟩
 rw[Ny]at bD
 split at bD
 ·cases bD
 ·exact a.val t v aj bD
def ab5{k:List Oper}{U:Oper}{d:Nat}(bj:U∈k)(aH:U.dst=some d):d∈dstsOf k:=by
 induction k with
 |nil=>cases bj
 |cons F k al=>
  simp only[dstsOf]
  rcases Zr.1 bj with rfl|bj
  ·rw[aH];exact Zq ..
  ·split
   ·exact Zt _ (al bj)
   ·exact al bj
def mT.drop{b0 di:Nat}{H:K D}{tmps:Array Value}{q:List dR}{bx:List Item}(a:mT C S ad h b0 di n ao H tmps q bx):jw S ad n ao (vG q H) tmps:=by
 cases a with
 |seq I J=>
  rename_i ar aq a rest fin k q bx
  obtain⟨U,ba,cj,a3,a4,a5,hy,h3⟩:=J
  refine⟨h3,λt v aj bD=> ?_⟩
  simp only[vG]at bD
  rw[Ny]at bD
  split at bD
  ·cases bD
  ·rename_i aE
   have aN:a<ar.size:=(ZN.1 ba).1
   obtain⟨_,eV,_⟩:=MC ar a (zm aN)
   apply hy t v trivial
   cases bK:eo (is ar a) t with
   |some W=>
    exfalso
    obtain⟨b3,b7,_⟩:=eV t W bK
    unfold ta at b7
    cases bj:ar[W]? with
    |none=>rw[bj]at b7;cases b7
    |some o'=>
     rw[bj]at b7
     exact aE (ab5 (by rw[Array.mem_toList_iff];exact Y4 bj) b7)
   |none=>exact⟨aj,bD⟩
 |drawn I J am aB bk b6 c5 eb g5=>
  rename_i ar base aq k q bx dp eA e U
  refine⟨aB.size,λt v aj bD=> ?_⟩
  simp only[vG]at bD
  rw[Ny]at bD
  split at bD
  ·cases bD
  ·rename_i aE
   apply aB.Ea t v
   right
   refine⟨λW bT aH=> ?_,aj,bD⟩
   unfold ta at aH
   cases bj:ar[W]? with
   |none=>rw[bj]at aH;cases aH
   |some o'=>
    rw[bj]at aH
    exact aE (ab5 (by rw[Array.mem_toList_iff];exact Y4 bj) aH)
 |cQ I J am=>exact J
def B1.drop{b0 di:Nat}{H:K D}{tmps:Array Value}{bS:lg}{q:List dR}{bx:List Item}(a:B1 C S ad h b0 di n ao H tmps bS q bx):jw S ad n ao (vG q H) tmps:=by
 cases bS with
 |run=>exact mT.drop a
 |_=>
  have cz:jw S ad n ao H tmps:=a
  unfold vG
  split<;>first|exact cz.drop _|exact cz
def pp.put{H:K D}{aq:List (Nat×D)}{tmps:Array Value}{i:Nat}{U:Oper}{v:D}(bj:ar[i]? =some U)(bD:pp S ad ao (λ_=>True) (is ar i) aq H tmps)(aH:∀d,U.dst=some d->d<tmps.size)(fu:ck ad v):
 pp S ad ao (λ_=>True) (is ar (i+1)) ((i,v)::aq) H (qL tmps U.dst (aQ S v)):=by
 have aN:i<ar.size:=(ZN.1 bj).1
 obtain⟨_,eV,_⟩:=MC ar i (zm aN)
 intro t ac _ a
 rw[ahc _ _ _ _ aH]
 rw[MA bj,Gs]at a
 split at a
 ·rename_i W bK
  split at bK
  ·rename_i E
   cases bK
   rw[r1,Zu rfl]at a
   cases a
   rw[Zu E]
   exact⟨rfl,fu⟩
  ·rename_i E
   rw[Zg E]
   have:=(eV t W bK).1
   rw[r1,Zg Zo]at a
   exact bD t ac trivial (by rw[bK];exact a)
 ·rename_i bK
  split at bK
  ·cases bK
  ·rename_i E
   rw[Zg E]
   exact bD t ac trivial (by rw[bK];exact a)
def NP{g:Frame}{a:Nat}{k:List Nat}{bx:List Item}{U:Oper}(bU:g.todo= .inRegion ar (a::k)::bx)(bj:ar[a]? =some U)(v:Value):
 g.finish v={g with tmps:=qL g.tmps U.dst v,todo:= .inRegion ar k::bx}:=by
 unfold Frame.finish
 rw[bU]
 simp only[bj,ZF]
 cases U.dst<;>rfl
def apX{b0 di j n ao fn:Nat}{H:K D}{tmps:Array Value}{todo:List dR}{bx:List Item}{bc:List hI}{aJ:Bool}{ro:Option Nat}{mode:FrameMode}{v:D}(a:mT C S ad h b0 di n ao H tmps todo bx)(az:di<=j)(fu:ck ad v):
 ∃eI q hC hG h2,todo=eI::q/\px eI v=some hC/\(ct S fn bc aJ ro tmps bx mode).finish (aQ S v)=ct S fn bc aJ ro hG h2 mode/\DT C S ad h b0 j n ao H hG (hC::q) h2:=by
 cases a with
 |seq I J=>
  rename_i ar aq a rest fin k q bx
  obtain⟨U,ba,cj,a3,a4,a5,hy,h3⟩:=J
  have c2:a<ar.size:=(ZN.1 ba).1
  refine⟨_,q, .IU ar ((a,v)::aq) rest fin,qL tmps U.dst (aQ S v), .inRegion ar k::bx,rfl,rfl, ?_, .seq I ⟨a+1,Zo,a3,a4,a5,hy.put ba (by rw[h3];exact cj) fu,by rw[Qe];exact h3⟩⟩
  rw[NP (g:=ct S fn bc aJ ro tmps _ mode) rfl ba];rfl
 |drawn I J am aB bk b6 c5 eb g5=>
  rename_i ar base aq k q bx dp eA e U
  have z:=Zj bk
  have mZ:∀d,U.dst=some d->d<n:=by
   obtain⟨o',b3,b7,cS,eh,fS,dT⟩:=Aq aB.st (Nu z).1
   have:o'=U:=by
    have:=dT.oper
    rw[b6]at this
    exact(YB this).symm
   subst this
   exact fS.dst
  refine⟨_,q, .drawn ar base ((e.1.i,v)::aq) _ _,qL tmps U.dst (aQ S v), .inRegion ar k::bx,rfl,rfl, ?_, .drawn I J (ZB am az) (aB.fp bk b6 c5 eb fu mZ) g5⟩
  rw[NP (g:=ct S fn bc aJ ro tmps _ mode) rfl b6];rfl
 |cQ I J am=>
  rename_i k q bx
  exact⟨_,q, .endRangeFunc k,tmps, .endRangeFunc (S k).cH::bx,rfl,rfl,rfl, .plain (.cons (.Ee am) I) J⟩
def QJ{H:K D}{aq kF:List (Nat×D)}{tmps:Array Value}{X:Nat->Prop}{i:Nat}{U:Oper}{g:Option (Nat×Bool)}{b:Bool}(aN:i<=ar.size)(bU:JO (is ar i) U.guard=some g)(bD:pp S ad ao X (is ar i) aq H tmps)
 (bZ:∀W b t,U.guard=some (W,b)->xX W (is ar i)=some t->X t)(aF:Sub kF aq)(a:pf g kF=some b):Region.wanted U (yielded ar tmps)=b:=by
 obtain⟨eM,_,_⟩:=MC ar i aN
 unfold JO at bU
 unfold Region.wanted
 split at bU
 ·rename_i atb
  simp at bU;subst bU
  simp[pf]at a
  rw[atb, <-a]
 ·rename_i W lT v8
  rw[v8]
  split at bU
  ·rename_i t a6
   split at bU
   ·rename_i pO bK
    rw[hK]at bU
    split at bU
    ·rename_i E
     subst E
     simp at bU;subst bU
     simp only[pf]at a
     split at a
     ·rename_i ac bb
      have:=bD t ac (bZ W lT t v8 a6) (by rw[bK];exact aF _ _ bb)
      have z:yielded ar tmps W=(match aQ S ac with| .bool b=>some b|_=>none):=by
       unfold yielded
       have aH:=eM W t a6
       unfold ta at aH
       rw[aH]
       simp only[ZF,this.1]
       cases aQ S ac<;>rfl
      simp only[z]
      cases ac<;>simp[aQ]at a ⊢ <;>first|(rw[<-a])|exact a|(subst a;rfl)|skip
      all_goals simp_all
     ·simp at a
    ·simp at bU
   ·simp at bU
  ·simp at bU
end
end Go.bd

namespace Go.bd
open Go.RowKit (Below)
structure Ri(C:aL)(bu:World):Prop where
 val:∀f args v,C.hh f args=some v->((∀S iF,aQ S v=aQ iF v)/\∀ad,ck ad v)/\(∀S iF,b2 S args=b2 iF args)/\∀ad,ep ad args
 ok:∀f args v,C.hh f args=some v->∀S w,Below bu.heap.size bu w->
  (callFunc f (b2 S args).toArray).run C.P w= .ok (.value (aQ S v)) w\/
  ((callFunc f (b2 S args).toArray).run C.P w= .ok (.enter f (b2 S args).toArray) w/\Calls C.P f (b2 S args).toArray w λE b1=>E= .returned (aQ S v)/\Below w.heap.size w b1)
structure Env(C:aL)(bu:World)(dP:c9)(d4:Nat->Prop):Prop where
 kx:Aa C.P
 hh:Ri C bu
 base:dq C dP d4 .nil C.a2 bu.heap.size bu
 hW:sV C dP d4
def Ends(C:aL)(bu:World)(bG:Nat)(bX:List Frame)(v:D)(dn:Machine):Prop:=
 ∃S b1 fr,Steps C.P dn (lone fr bX b1)/\fr.leaving C.P b1 (.returned (aQ S v))/\fr.fn=bG/\Below bu.heap.size bu b1
structure DS(C:aL)(bu:World)(bG:Nat)(bX:List Frame)(bS:lg)(todo:List dR)(fn n ao:Nat)(bc:List hI)(aJ:Bool)(ro:Option Nat)(cs:List gL)(H:K D)(h:K ag)(j:Nat)
 (S:c9)(ad:Nat->Prop)(w:World)(di:Nat)(tmps:Array Value)(bx:List Item)(ai:List Frame):Prop where
 V:dq C S ad h j bu.heap.size w
 lk:Below bu.heap.size bu w
 hW:sV C S ad
 kg:di<=j
 hV:xB C ad fn ao bc ro
 mode:q8 ad bS
 bot:cs=[]->fn=bG/\aJ=false/\ro=none
 cs:pi C S ad h bG bX di cs ai
 todo:match bS with
  | .run=>DT C S ad h di j n ao H tmps todo bx
  |_=>jw S ad n ao H tmps
def nS(C:aL)(bu:World)(bG:Nat)(bX:List Frame)(al:hw):Prop:=
 ∀bS todo fn n ao bc aJ ro cs H h j v,al bS todo ⟨fn,n,ao,bc,aJ,ro,cs⟩ H h j=some v->
  ∀S ad w di tmps bx ai,DS C bu bG bX bS todo fn n ao bc aJ ro cs H h j S ad w di tmps bx ai->Ends C bu bG bX v (lone (ct S fn bc aJ ro tmps bx (gN S bS)) ai w)
section
variable{C:aL}{S dd:c9}{ad dC:Nat->Prop}{h T:K ag}{j an bh:Nat}{w b1:World}{n ao:Nat}{ar:Array Oper}
variable{bu:World}{bG:Nat}{bX:List Frame}{v:D}
def Ends.head{dn Jq:Machine}(a:step C.P dn= .next Jq)(cz:Ends C bu bG bX v Jq):Ends C bu bG bX v dn:=by
 obtain⟨S,b1,fr,I,J⟩:=cz
 exact⟨S,b1,fr, .head a I,J⟩
def Ends.steps{dn Jq:Machine}(a:Steps C.P dn Jq)(cz:Ends C bu bG bX v Jq):Ends C bu bG bX v dn:=by
 obtain⟨S,b1,fr,I,J⟩:=cz
 exact⟨S,b1,fr,a.trans I,J⟩
def dq.later(V:dq C S ad h j bh w)(aj:Below w.heap.size w b1):dq C S ad h j bh b1:=
 ⟨V.a2,V.lt,V.wN,λb U a d=>(V.obj b U a d).ab (λ_ _=>rfl) (λ_ a=>a) (aj.block _ (V.obj b U a d).lt),V.sep,V.base,V.fv⟩
def Env.now{dP:c9}{d4:Nat->Prop}(bs:Env C bu dP d4)(aj:Below bu.heap.size bu w):dq C dP d4 .nil C.a2 w.heap.size w:=by
 have V:=bs.base.later aj
 refine⟨V.a2,V.lt,V.wN,V.obj,V.sep, ?_,V.fv⟩
 intro b U aE bj _
 exfalso
 unfold Y at bj
 rw[fA,Zg (by simp[Nat.blt];omega)]at bj
 simp at bj
def Env.later{dP:c9}{d4:Nat->Prop}(bs:Env C bu dP d4)(aj:Below bu.heap.size bu w):Env C w dP d4:=
 ⟨bs.kx,⟨bs.hh.val,λf args v a S mM ny=>bs.hh.ok f args v a S mM (aj.trans (ny.mono aj.size))⟩,bs.now aj,bs.hW⟩
variable{fn:Nat}{bc:List hI}{aJ:Bool}{ro:Option Nat}{tmps:Array Value}{bx:List Item}{ai:List Frame}
def mL(tmps:Array Value)(bx:List Item):stepG C.P true {frame:=ct S fn bc aJ ro tmps bx .run,callers:=ai,status:= .running,dying:=none} w=stepG.exec C.P true true (ct S fn bc aJ ro tmps bx .run) ai none w:=by
 simp[stepG,ct]
def aAT{F b:Code}:step C.P (lone (ct S fn bc aJ ro tmps (.code (.seq F b)::bx) .run) ai w)= .next (lone (ct S fn bc aJ ro tmps (.code F:: .code b::bx) .run) ai w):=
 step_lone_go (by rw[mL];simp[stepG.exec,ct])
def aAU:step C.P (lone (ct S fn bc aJ ro tmps (.code .skip::bx) .run) ai w)= .next (lone (ct S fn bc aJ ro tmps bx .run) ai w):=
 step_lone_go (by rw[mL];simp[stepG.exec,ct])
def aAJ{k:Nat}:step C.P (lone (ct S fn bc aJ ro tmps (.code (.label k)::bx) .run) ai w)= .next (lone (ct S fn bc aJ ro tmps bx .run) ai w):=
 step_lone_go (by rw[mL];simp[stepG.exec,ct])
def aAG{k:Nat}:step C.P (lone (ct S fn bc aJ ro tmps (.inBlock k::bx) .run) ai w)= .next (lone (ct S fn bc aJ ro tmps bx .run) ai w):=
 step_lone_go (by rw[mL];simp[stepG.exec,ct])
def aAI{b:Code}:step C.P (lone (ct S fn bc aJ ro tmps (.inScope b::bx) .run) ai w)= .next (lone (ct S fn bc aJ ro tmps bx .run) ai w):=
 step_lone_go (by rw[mL];simp[stepG.exec,ct])
def aAA{id:Nat}{b:Code}:step C.P (lone (ct S fn bc aJ ro tmps (.code (.block id b)::bx) .run) ai w)= .next (lone (ct S fn bc aJ ro tmps (.code b:: .inBlock id::bx) .run) ai w):=
 step_lone_go (by rw[mL];simp[stepG.exec,ct])
def aAK{b:Code}:step C.P (lone (ct S fn bc aJ ro tmps (.code (.loop b)::bx) .run) ai w)= .next (lone (ct S fn bc aJ ro tmps (.code b:: .inLoop b::bx) .run) ai w):=
 step_lone_go (by rw[mL];simp[stepG.exec,ct])
def aAH{b:Code}:step C.P (lone (ct S fn bc aJ ro tmps (.inLoop b::bx) .run) ai w)= .next (lone (ct S fn bc aJ ro tmps (.code b:: .inLoop b::bx) .run) ai w):=
 step_lone_go (by rw[mL];simp[stepG.exec,ct])
def aAS{b:Code}:step C.P (lone (ct S fn bc aJ ro tmps (.code (.scope b)::bx) .run) ai w)= .next (lone (ct S fn bc aJ ro tmps (.code b:: .inScope b::bx) .run) ai w):=
 step_lone_go (by rw[mL];simp[stepG.exec,ct])
def aAB{c:Operand}{F b:Code}{t:Bool}(a:ld tmps c= .bool t):step C.P (lone (ct S fn bc aJ ro tmps (.code (.cond c F b)::bx) .run) ai w)= .next (lone (ct S fn bc aJ ro tmps (.code (if t then F else b)::bx) .run) ai w):=
 step_lone_go (by
  have cz:(ct S fn bc aJ ro tmps (.code (.cond c F b)::bx) .run).eval c= .bool t:=by rw[J7];exact a
  rw[mL]
  simp only[ct]at cz
  simp[stepG.exec,ct,cz])
def aAF{id:Nat}{h2:List Item}(a:Go.exitTo id bx=some h2):step C.P (lone (ct S fn bc aJ ro tmps (.code (.exit id)::bx) .run) ai w)= .next (lone (ct S fn bc aJ ro tmps h2 .run) ai w):=
 step_lone_go (by rw[mL];simp[stepG.exec,ct,a])
def aAP:step C.P (lone (ct S fn bc aJ none tmps (.code .ret::bx) .run) ai w)= .next (lone (ct S fn bc aJ none tmps (.code .ret::bx) .returning) ai w):=
 step_lone_go (by rw[mL];simp[stepG.exec,ct])
def aAD:step C.P (lone (ct S fn bc aJ none tmps [] .run) ai w)= .next (lone (ct S fn bc aJ none tmps [] .returning) ai w):=
 step_lone_go (by rw[mL];simp[stepG.exec,ct])
def aAN{id:Nat}:step C.P (lone (ct S fn bc aJ ro tmps (.code (.region id ar false)::bx) .run) ai w)= .next (lone (ct S fn bc aJ ro tmps (.inRegion ar (List.range ar.size)::bx) .run) ai w):=
 step_lone_go (by rw[mL];simp[stepG.exec,ct])
def aAO{id:Nat}:step C.P (lone (ct S fn bc aJ ro tmps (.code (.region id ar true)::bx) .run) ai w)=
 .next (lone (ct S fn bc aJ ro tmps (.inRegion ar (Region.schedule (C.P.follows .mixedOrders) ar (w.tape w.drawn (.order fn id)))::bx) .run) ai w.drew):=
 step_lone_go (by rw[mL];simp[stepG.exec,ct,Question.forced,Question.cut])
def ahJ:step C.P (lone (ct S fn bc aJ ro tmps (.inRegion ar []::bx) .run) ai w)= .next (lone (ct S fn bc aJ ro tmps bx .run) ai w):=
 step_lone_go (by rw[mL];simp[stepG.exec,ct])
def Wl{i:Nat}{k:List Nat}{U:Oper}(bj:ar[i]? =some U)(bt:Region.wanted U (yielded ar tmps)=false):
 step C.P (lone (ct S fn bc aJ ro tmps (.inRegion ar (i::k)::bx) .run) ai w)= .next (lone ((ct S fn bc aJ ro tmps (.inRegion ar (i::k)::bx) .run).finish Go.undef) ai w):=
 step_lone_go (by rw[mL];simp[stepG.exec,ct,bj,bt])
def VG{av:Operand->Value}{U:Oper}{u5:Next}(V:(execOp av U).run C.P w= .ok u5 b1)(a:∀d,u5≠ .defer d):∀c,U.op≠ .defer c:=by
 intro c aA
 have af:execOp av U=(do pure (.defer (<-resolve av c U.type))):=by unfold execOp;rw[aA]
 rw[af]at V
 simp only[Sem.run_bind]at V
 cases bL:(resolve av c U.type).run C.P w with
 |ok d mM=>
  rw[bL]at V
  simp only[Result.andThen_ok,Sem.run_pure,Result.ok.injEq]at V
  exact a d V.1.symm
 |halt E mM=>
  rw[bL]at V
  simp at V
def IZ{i:Nat}{k:List Nat}{U:Oper}(bj:ar[i]? =some U)(bt:Region.wanted U (yielded ar tmps)=true)(jE:ro=none\/∀c,U.op≠ .defer c):
 stepG C.P true {frame:=ct S fn bc aJ ro tmps (.inRegion ar (i::k)::bx) .run,callers:=ai,status:= .running,dying:=none} w=
  stepG.apply C.P true (ct S fn bc aJ ro tmps (.inRegion ar (i::k)::bx) .run) ai none (execOp (ld tmps) U) w:=by
 rw[mL]
 rcases jE with rfl|jE
 ·simp[stepG.exec,stepG.oper,ct,Frame.oper?,bj,bt,J7]
 ·cases ro with
  |none=>simp[stepG.exec,stepG.oper,ct,Frame.oper?,bj,bt,J7]
  |some r=>
   have:∀(c:Call),U.op≠ .defer c:=jE
   simp[stepG.exec,stepG.oper,ct,Frame.oper?,bj,bt,J7]
   split
   ·rename_i J;exact absurd J (this _)
   ·rfl
def FN{i:Nat}{k:List Nat}{U:Oper}{ac:Value}{u5:Next}(bj:ar[i]? =some U)(bt:Region.wanted U (yielded ar tmps)=true)
 (V:(execOp (ld tmps) U).run C.P w= .ok u5 b1)(aE:u5= .value ac\/(u5= .skip/\ac=Go.undef)):
 step C.P (lone (ct S fn bc aJ ro tmps (.inRegion ar (i::k)::bx) .run) ai w)= .next (lone ((ct S fn bc aJ ro tmps (.inRegion ar (i::k)::bx) .run).finish ac) ai b1):=
 step_lone_go (by
  rw[IZ bj bt (.inr (VG V (by rcases aE with rfl|⟨rfl,rfl⟩<;>simp)))]
  rcases aE with rfl|⟨rfl,rfl⟩
  ·simp[stepG.apply,V]
  ·simp[stepG.apply,V])
def ahH{i:Nat}{k:List Nat}{U:Oper}{f:Nat}{args:Array Value}(bj:ar[i]? =some U)(bt:Region.wanted U (yielded ar tmps)=true)
 (V:(execOp (ld tmps) U).run C.P w= .ok (.enter f args) b1):
 step C.P (lone (ct S fn bc aJ ro tmps (.inRegion ar (i::k)::bx) .run) ai w)= .next (lone (Frame.enter C.P f args .normal) (ct S fn bc aJ ro tmps (.inRegion ar (i::k)::bx) .run::ai) b1):=
 step_lone_go (by rw[IZ bj bt (.inr (VG V Zs))];simp[stepG.apply,V,ct])
def aAQ{i:Nat}{k:List Nat}{U:Oper}{b f:Nat}{aT:Array Value}{assign body:Code}(bj:ar[i]? =some U)(bt:Region.wanted U (yielded ar tmps)=true)
 (V:(execOp (ld tmps) U).run C.P w= .ok (.round b f aT assign body) b1):
 step C.P (lone (ct S fn bc aJ ro tmps (.inRegion ar (i::k)::bx) .run) ai w)= .next (lone (Frame.round b f aT assign body .normal) (ct S fn bc aJ ro tmps (.inRegion ar (i::k)::bx) .run::ai) b1):=
 step_lone_go (by rw[IZ bj bt (.inr (VG V Zs))];simp[stepG.apply,V,ct])
def aAC{i:Nat}{k:List Nat}{U:Oper}{d:hI}(bj:ar[i]? =some U)(bt:Region.wanted U (yielded ar tmps)=true)
 (V:(execOp (ld tmps) U).run C.P w= .ok (.defer (l2 S d)) b1):
 step C.P (lone (ct S fn bc aJ none tmps (.inRegion ar (i::k)::bx) .run) ai w)= .next (lone ((ct S fn (d::bc) aJ none tmps (.inRegion ar (i::k)::bx) .run).finish Go.undef) ai b1):=
 step_lone_go (by rw[IZ bj bt (.inl rfl)];simp[stepG.apply,V,ct])
def aAL{i:Nat}{k:List Nat}{U:Oper}{ac:D}(bj:ar[i]? =some U)(bt:Region.wanted U (yielded ar tmps)=true)
 (V:(execOp (ld tmps) U).run C.P w= .halt (.panic (aQ S ac)) b1):
 step C.P (lone (ct S fn bc aJ none tmps (.inRegion ar (i::k)::bx) .run) ai w)= .next (lone (ct S fn bc aJ none tmps (.inRegion ar (i::k)::bx) (gN S (.panicking [⟨ac,false⟩]))) ai b1):=
 step_lone_go (by rw[IZ bj bt (.inl rfl)];simp[stepG.apply,V,ct,Frame.raise,gN,um])
def aAM{i:Nat}{k:List Nat}{U:Oper}{ac:Value}{jj:List Frame}(bj:ar[i]? =some U)(bt:Region.wanted U (yielded ar tmps)=true)
 (V:(execOp (ld tmps) U).run C.P w= .ok .recover b1)
 (a6:Go.tryRecover (ct S fn bc aJ none tmps (.inRegion ar (i::k)::bx) .run) ai=some (ac,jj)\/(Go.tryRecover (ct S fn bc aJ none tmps (.inRegion ar (i::k)::bx) .run) ai=none/\ac= .nilIface/\jj=ai)):
 step C.P (lone (ct S fn bc aJ none tmps (.inRegion ar (i::k)::bx) .run) ai w)= .next (lone ((ct S fn bc aJ none tmps (.inRegion ar (i::k)::bx) .run).finish ac) jj b1):=
 step_lone_go (by
  rw[IZ bj bt (.inl rfl)]
  have E:(ct S fn bc aJ none tmps (.inRegion ar (i::k)::bx) .run).roundOf=none:=rfl
  rcases a6 with a6|⟨a6,rfl,rfl⟩
  ·simp[stepG.apply,V,E,a6]
  ·simp[stepG.apply,V,E,a6])
def aAz{b:Nat}(V:(Instr.beginRound (S b).cH).run C.P w= .ok () b1):
 step C.P (lone (ct S fn bc aJ (some b) tmps (.beginRound::bx) .run) ai w)= .next (lone (ct S fn bc aJ (some b) tmps bx .run) ai b1):=
 step_lone_go (by rw[mL];simp[stepG.exec,stepG.apply,ct,V,Frame.finish])
def aAE{b:Nat}{iT:Option Code}(V:(Instr.endLoop b).run C.P w= .ok iT b1):
 step C.P (lone (ct S fn bc aJ ro tmps (.endRangeFunc b::bx) .run) ai w)= .next (lone (ct S fn bc aJ ro tmps ((iT.map Item.code).toList++bx) .run) ai b1):=
 step_lone_go (by rw[mL];simp[stepG.exec,ct,V])
def ahI{f:Operand}{params:Array Tmp}{assign body:Code}{b:Nat}{mark:List Deferred}{g:Nat}{args:Array Value}{lf:World}{d:Deferred}
 (bs:(Instr.enterLoop fn tmps params assign body (ro.map λk=>(S k).cH)).run C.P w= .ok (b,mark) lf)
 (me:(resolve (ld tmps) {callee:= .value f,args:= #[.const (.func (.yield b) #[] #[])],argTypes:= #[]} 0).run C.P lf= .ok d lf)(TX:(invoke d.target d.args).run C.P lf= .ok (.enter g args) b1):
 step C.P (lone (ct S fn bc aJ ro tmps (.code (.rangeFunc f params assign body)::bx) .run) ai w)=
  .next (lone (Frame.enter C.P g args .normal) ({ct S fn bc aJ ro tmps (.inRangeFunc b::bx) .run with defers:=mark++bc.map (l2 S)}::ai) b1):=
 step_lone_go (by
  rw[mL]
  have cn:({ct S fn bc aJ ro tmps (.inRangeFunc b::bx) .run with defers:=mark++bc.map (l2 S)}:Frame).eval=ld tmps:=by rw[J7];rfl
  simp only[ct]at cn
  simp[stepG.exec,ct,Sem.runT_eq,bs,GStep.bare_after,stepG.apply,cn,Sem.run_bind,me,TX,Result.andThen])
def aAR{iT:Option Code}{b:Nat}{ac:Value}{g:Frame}(aD:(iT=none/\bx=[])\/(iT=some .ret/\∃q,bx= .code .ret::q)\/(∃id q,iT=some (.exit id)/\bx= .code (.exit id)::q/\Go.exitTo id q=none))
 (bs:(Instr.endRound (S b).cH iT).run C.P w= .ok ac b1):
 step C.P (lone (ct S fn bc false (some b) tmps bx .run) (g::ai) w)= .next (lone (g.finish ac) ai b1):=
 step_lone_go (by
  rw[mL]
  rcases aD with ⟨rfl,rfl⟩|⟨rfl,q,rfl⟩|⟨id,q,rfl,rfl,af⟩
  ·simp[stepG.exec,ct,Sem.runT_eq,bs,GStep.bare_after,doReturn]
  ·simp[stepG.exec,ct,Sem.runT_eq,bs,GStep.bare_after,doReturn]
  ·simp[stepG.exec,ct,Sem.runT_eq,bs,GStep.bare_after,doReturn,af])
def aAV{r:Nat}{cv:List D}{ds:List hI}{qk:List Deferred}{mode:FrameMode}{dC:List hI}(bp:mode≠ .run)(bs:(Instr.takeDeferred (S r).cH).run C.P w= .ok qk b1)(aH:qk++ds.map (l2 S)=dC.map (l2 S)):
 step C.P (lone (ct S fn (⟨.collected r,cv⟩::ds) aJ ro tmps bx mode) ai w)= .next (lone (ct S fn dC aJ ro tmps bx mode) ai b1):=
 step_lone_go (by
  cases mode with
  |run=>exact absurd rfl bp
  |returning=>simp[stepG,unwind,ct,l2,D3,Sem.runT_eq,bs,GStep.bare_after,aH]
  |panicking f9=>simp[stepG,unwind,ct,l2,D3,Sem.runT_eq,bs,GStep.bare_after,aH])
end
end Go.bd

namespace Go.bd
open Go.RowKit (Below)
section
variable{C:aL}{S dd dP:c9}{ad dC d4:Nat->Prop}{h T:K ag}{j an bh:Nat}{w b1:World}{n ao:Nat}{ar:Array Oper}
variable{bu:World}{bG:Nat}{bX:List Frame}{v:D}{al:hw}
variable{fn:Nat}{bc:List hI}{aJ:Bool}{ro:Option Nat}{cs:List gL}{H:K D}{tmps:Array Value}{bx:List Item}{ai:List Frame}{b0 aN:Nat}
structure jf(C:aL)(bu:World)(bG:Nat)(bX:List Frame)(fn ao:Nat)(bc:List hI)(aJ:Bool)(ro:Option Nat)(cs:List gL)(h:K ag)(j:Nat)(S:c9)(ad:Nat->Prop)(w:World)(di:Nat)(ai:List Frame):Prop where
 V:dq C S ad h j bu.heap.size w
 lk:Below bu.heap.size bu w
 hW:sV C S ad
 kg:di<=j
 hV:xB C ad fn ao bc ro
 bot:cs=[]->fn=bG/\aJ=false/\ro=none
 cs:pi C S ad h bG bX di cs ai
def jf.er{di:Nat}(a:jf C bu bG bX fn ao bc aJ ro cs h j S ad w di ai):bu.heap.size<=w.heap.size:=a.lk.size
def jf.ext{di:Nat}(a:jf C bu bG bX fn ao bc aJ ro cs h j S ad w di ai)(V:dq C dd dC T an bu.heap.size b1)(af:iG C di S ad h bu.heap.size w dd dC T b1)(aE:j<=an):
 jf C bu bG bX fn ao bc aJ ro cs T an dd dC b1 di ai:=
 ⟨V,a.lk.trans af.below,a.hW.ab af.iW af.jP,ZB a.kg aE,a.hV.ab af.jP,a.bot,a.cs.ab af⟩
def jf.state{di:Nat}{todo:List dR}(a:jf C bu bG bX fn ao bc aJ ro cs h j S ad w di ai)(a6:DT C S ad h di j n ao H tmps todo bx):
 DS C bu bG bX .run todo fn n ao bc aJ ro cs H h j S ad w di tmps bx ai:=⟨a.V,a.lk,a.hW,a.kg,a.hV,trivial,a.bot,a.cs,a6⟩
def DS.ans{todo:List dR}{di:Nat}(a:DS C bu bG bX .run todo fn n ao bc aJ ro cs H h j S ad w di tmps bx ai):jf C bu bG bX fn ao bc aJ ro cs h j S ad w di ai/\DT C S ad h di j n ao H tmps todo bx:=
 ⟨⟨a.V,a.lk,a.hW,a.kg,a.hV,a.bot,a.cs⟩,a.todo⟩
def pi.inv{di aU:Nat}{todo:List dR}{bS:lg}(a:pi C S ad h bG bX di (⟨fn,aU,ao,H,todo,bc,bS,aJ,ro⟩::cs) ai):
 ∃b0 tmps bx jj,ai=ct S fn bc aJ ro tmps bx (gN S bS)::jj/\B1 C S ad h b0 di aU ao H tmps bS todo bx/\q8 ad bS/\xB C ad fn ao bc ro/\(cs=[]->fn=bG/\aJ=false/\ro=none)/\b0<=di/\pi C S ad h bG bX b0 cs jj:=by
 cases a with
 |cons I bp J aB bk b6=>exact⟨_,_,_,_,rfl,I,bp,J,aB,bk,b6⟩
def acb(gp:nS C bu bG bX al){f:Nat}{args:List D}{di:Nat}{D8:Bool}{uq:List gL}{x7:List Frame}(V:dq C S ad h j bu.heap.size w)(aj:Below bu.heap.size bu w)(hW:sV C S ad)(az:di<=j)
 (ia:pi C S ad h bG bX di uq x7)(OB:uq=[]->f=bG/\D8=false)(hN:ep ad args)(a:oH al C f args D8 uq h j=some v):Ends C bu bG bX v (lone (Frame.enter C.P f (b2 S args).toArray (if D8 then .deferred else .normal)) x7 w):=by
 unfold oH at a
 split at a
 ·rename_i func ch
  split at a
  ·rename_i c aA
   simp only[ms,e1,Zp]at a
   obtain⟨⟨⟨I,J⟩,am⟩,a⟩:=a
   have I:=jx I
   have qy:Frame.enter C.P f (b2 S args).toArray (if D8 then .deferred else .normal)=ct S f [] D8 none ((b2 S args).toArray++Array.replicate (func.ntmps-args.length) Go.undef) [.code c] (gN S .run):=by
    simp[Frame.enter,ct,gN,ch,aA,j4]
   rw[qy]
   refine gp _ _ _ _ _ _ _ _ _ _ _ _ v a S ad w di _ _ x7 ?_
   refine⟨V,aj,hW,az,⟨Zs,Zs,func,ch,am⟩,trivial,λE=>⟨(OB E).1,(OB E).2,rfl⟩,ia, .plain (.cons (.code J) .nil) ⟨?_, ?_⟩⟩
   ·simp[j4];omega
   ·intro t ac _ bb
    rw[k4]at bb
    have c2:t<args.length:=(Zc.1 bb).1
    refine⟨?_,Co hN bb⟩
    rw[YE (by simpa[j4]using c2)]
    simp[Cb,bb]
  ·simp at a
 ·simp at a
def NH(gp:nS C bu bG bX al){f:Nat}{args:List D}{di:Nat}{uq:List gL}{x7:List Frame}(V:dq C S ad h j bu.heap.size w)(aj:Below bu.heap.size bu w)(hW:sV C S ad)(az:di<=j)
 (ia:pi C S ad h bG bX di uq x7)(OB:uq=[]->f=bG)(hN:ep ad args)(a:oH al C f args false uq h j=some v):Ends C bu bG bX v (lone (Frame.enter C.P f (b2 S args).toArray .normal) x7 w):=
 acb (D8:=false) gp V aj hW az ia (λE=>⟨OB E,rfl⟩) hN a
def G2(gp:nS C bu bG bX al){eI:dR}{q:List dR}{ac:D}(aC:jf C bu bG bX fn ao bc aJ ro cs h j S ad w b0 ai)(aF:mT C S ad h b0 aN n ao H tmps (eI::q) bx)(tn:aN<=j)(Cq:ck ad ac)
 (a:(match px eI ac with|some hC=>al .run (hC::q) ⟨fn,n,ao,bc,aJ,ro,cs⟩ H h j|none=>none)=some v):
 Ends C bu bG bX v (lone ((ct S fn bc aJ ro tmps bx .run).finish (aQ S ac)) ai w):=by
 obtain⟨aD5,sn,hC,hG,h2,bF,cn,eU,iL⟩:=apX (fn:=fn) (bc:=bc) (aJ:=aJ) (ro:=ro) (mode:= .run) aF tn Cq
 cases bF
 rw[cn]at a
 rw[eU]
 exact gp _ _ _ _ _ _ _ _ _ _ _ _ v a S ad w b0 hG h2 ai (aC.state iL)
def awm{f:Nat}{args:List D}{ac:D}(cI:Env C bu dP d4)(aj:Below bu.heap.size bu w)(bj:C.hh f args=some ac):
 (
  (∀iF,(callFunc f (b2 iF args).toArray).run C.P w= .ok (.value (aQ iF ac)) w)\/
  ((∀iF,(callFunc f (b2 iF args).toArray).run C.P w= .ok (.enter f (b2 iF args).toArray) w)/\∀iF,Calls C.P f (b2 iF args).toArray w λE b1=>E= .returned (aQ iF ac)/\Below w.heap.size w b1))/\∀dp,ck dp ac:=by
 obtain⟨⟨b3,b7⟩,cS,eh⟩:=cI.hh.val f args ac bj
 refine⟨?_,b7⟩
 rcases cI.hh.ok f args ac bj dP w aj with a|⟨I,J⟩
 ·left;intro iF;rw[cS iF dP,b3 iF dP];exact a
 ·right;exact⟨λiF=>by rw[cS iF dP];exact I,λiF=>by rw[cS iF dP,b3 iF dP];exact J⟩
mutual
def Qn:∀(d:Nat) (x e:D),D.same d x e=true->x=e
 |0,_,_,a=>by simp[D.same]at a
 |d+1,x,e,a=>by
  unfold D.same at a
  split at a<;>(try(cases a;done))
  ·simp at a;rw[a]
  ·simp at a;rw[a.1,a.2]
  ·rw[(LW _ _).1 a]
  ·simp only[Zp]at a;rw[Zl a.1,Zl a.2]
  ·rfl
  ·simp only[Zp]at a;rw[Zl a.1.1.1,Zl a.1.1.2,Zl a.1.2,Zl a.2]
  ·simp only[Zp]at a;rw[Zl a.1.1.1,Zl a.1.1.2,Zl a.1.2,Zl a.2]
  ·rfl
  ·rw[Zl a]
  ·rfl
  ·simp only[Zp,Zh]at a
   rw[a.1.1,Mi d _ _ a.1.2,Mi d _ _ a.2]
  ·rfl
  ·simp only[Zp]at a;rw[Zl a.1,Qn d _ _ a.2]
  ·rfl
  ·rw[Mi d _ _ a]
  ·rw[Mi d _ _ a]
def Mi:∀(d:Nat) (x e:List D),o3 (D.same d) x e=true->x=e
 |_,[],[],_=>rfl
 |_,[],_::_,a=>by simp[o3]at a
 |_,_::_,[],a=>by simp[o3]at a
 |d,F::x,b::e,a=>by
  simp only[o3,Zp]at a
  rw[Qn d _ _ a.1,Mi d _ _ a.2]
end
def Ends.same{dn:Machine}{gK:D}(bs:∀S,aQ S gK=aQ S v)(a:Ends C bu bG bX gK dn):Ends C bu bG bX v dn:=by
 obtain⟨S,b1,fr,I,J,am⟩:=a
 exact⟨S,b1,fr,I,by rw[<-bs];exact J,am⟩
def aqi{eI:dR}{q:List dR}{ce:iu}:∀(k:List (D×K ag)) (v:D),AA al eI q ce H j k=some v->∀ac T,(ac,T)∈k->
 ∃gK,(match px eI ac with|some hC=>al .run (hC::q) ce H T j|none=>none)=some gK/\∀S,aQ S gK=aQ S v:=by
 intro k
 induction k with
 |nil=>intro v a;simp[AA]at a
 |cons p k mB=>
  intro v a ac T bp
  obtain⟨F,gM⟩:=p
  cases k with
  |nil=>
   simp only[AA]at a
   simp at bp
   obtain⟨rfl,rfl⟩:=bp
   exact⟨v,a,λ_=>rfl⟩
  |cons ah k=>
   simp only[AA]at a
   split at a
   ·rename_i hC ati
    split at a
    ·rename_i x e af z
     simp only[e1,Zf]at a
     obtain⟨ay,rfl⟩:=a
     rcases Zr.1 bp with E|bp
     ·cases E
      exact⟨x,by rw[ati];exact af,λ_=>rfl⟩
     ·obtain⟨gK,b3,b7⟩:=mB e z ac T bp
      exact⟨gK,b3,λS=>by rw[b7 S,Qn _ _ _ ay]⟩
    ·simp at a
   ·simp at a
def aBu{ac:D}{dc:List gL}{di:Nat}{bx:List Item}(ia:pi C S ad h bG bX di cs ai)(a:Dx aJ cs=some (ac,dc)):
 ∃jj,pi C S ad h bG bX di dc jj/\ck ad ac/\(dc=[]->cs=[])/\
  (Go.tryRecover (ct S fn bc aJ none tmps bx .run) ai=some (aQ S ac,jj)\/(Go.tryRecover (ct S fn bc aJ none tmps bx .run) ai=none/\aQ S ac= .nilIface/\jj=ai)):=by
 unfold Dx at a
 rw[fA]at a
 cases aJ with
 |false=>
  simp at a
  obtain⟨rfl,rfl⟩:=a
  exact⟨ai,ia,trivial,id, .inr ⟨by simp[Go.tryRecover,ct],rfl,rfl⟩⟩
 |true=>
  simp only[ZC]at a
  cases cs with
  |nil=>simp at a
  |cons c rest=>
   obtain⟨gX,aU,k1,c1,w9,gl,m9,jy,ly⟩:=c
   obtain⟨ss,hG,h2,jj,rfl,bR,cq,cP,d0,dU,dy⟩:=ia.inv
   have same:(ac,dc)=(D.nilIface,(⟨gX,aU,k1,c1,w9,gl,m9,jy,ly⟩:gL)::rest)->(∀v Dh,gN S m9≠ .panicking (⟨v,false,false⟩::Dh))->
    ∃SZ,pi C S ad h bG bX di dc SZ/\ck ad ac/\(dc=[]->(⟨gX,aU,k1,c1,w9,gl,m9,jy,ly⟩:gL)::rest=[])/\
     (Go.tryRecover (ct S fn bc true none tmps bx .run) (ct S gX gl jy ly hG h2 (gN S m9)::jj)=some (aQ S ac,SZ)\/
      (Go.tryRecover (ct S fn bc true none tmps bx .run) (ct S gX gl jy ly hG h2 (gN S m9)::jj)=none/\aQ S ac= .nilIface/\SZ=ct S gX gl jy ly hG h2 (gN S m9)::jj)):=by
    intro E c8
    simp only[YP]at E
    obtain⟨rfl,rfl⟩:=E
    refine⟨_,ia,trivial,λE=>(by cases E), .inr ⟨?_,rfl,rfl⟩⟩
    simp only[Go.tryRecover,ct,ZC]
   simp only at a
   split at a
   ·rename_i v Dh
    simp only[Zf,YP]at a
    obtain⟨rfl,rfl⟩:=a
    have bU:q8 ad (.panicking (⟨v,true⟩::Dh)):=by
     intro p ay
     rcases Zr.1 ay with rfl|ay
     ·exact cq ⟨v,false⟩ (Zq ..)
     ·exact cq p (Zt _ ay)
    refine⟨ct S gX gl jy ly hG h2 (gN S (.panicking (⟨v,true⟩::Dh)))::jj, .cons (bS:= .panicking (⟨v,true⟩::Dh)) bR bU cP d0 dU dy,cq ⟨v,false⟩ (Zq ..),λE=>(by cases E), .inl ?_⟩
    simp[Go.tryRecover,ct,gN,um]
   ·rename_i nz
    simp only[Zf]at a
    refine same a.symm λv Dh E=> ?_
    cases m9 with
    |run=>cases E
    |returning=>cases E
    |panicking f9=>
     cases f9 with
     |nil=>cases E
     |cons p dr=>
      obtain⟨ay1,ayR⟩:=p
      cases ayR with
      |true=>simp[gN,um]at E
      |false=>exact nz ay1 dr rfl
def az9{aU:Nat}:∀(dr:List Nat) (cv:List D) (H c1:K D) (tmps:Array Value),jw S ad aU ao H tmps->ep ad cv->yQ aU dr cv H=some c1->
 dr.length=cv.length/\jw S ad aU ao c1 ((dr.zip (b2 S cv)).foldl (λtmps p=>tmps.setIfInBounds p.1 p.2) tmps):=by
 intro dr
 induction dr with
 |nil=>
  intro cv H c1 tmps a6 _ a
  cases cv with
  |nil=>simp[yQ]at a;subst a;exact⟨rfl,by simpa[b2]using a6⟩
  |cons F cv=>simp[yQ]at a
 |cons p dr avB=>
  intro cv H c1 tmps a6 bU a
  cases cv with
  |nil=>simp[yQ]at a
  |cons F cv=>
   simp only[yQ,e1]at a
   obtain⟨ay,a⟩:=a
   have ay:=lG ay
   have UE:jw S ad aU ao (H.set p (some F)) (tmps.setIfInBounds p (aQ S F)):=by
    refine⟨by simp[a6.size],λt ac az bb=> ?_⟩
    rw[K.kI]at bb
    by_cases E:p=t
    ·subst E
     simp at bb;subst bb
     exact⟨by simp[a6.size,ay],bU.1⟩
    ·simp[E]at bb
     obtain⟨I,J⟩:=a6.val t ac az bb
     exact⟨by rw[Array.getElem?_setIfInBounds_ne E];exact I,J⟩
   obtain⟨I,J⟩:=avB cv _ c1 _ UE bU.2 a
   exact⟨by simp[I],by simpa[b2]using J⟩
def aa3(cI:Env C bu dP d4)(gp:nS C bu bG bX al){eI:dR}{q:List dR}{i:Nat}{k:List Nat}{U:Oper}{r:d6}(aC:jf C bu bG bX fn ao bc aJ ro cs h j S ad w b0 ai)
 (aF:mT C S ad h b0 aN n ao H tmps (eI::q) (.inRegion ar (i::k)::bx))(OY:b0<=aN)(tn:aN<=j)(bj:ar[i]? =some U)(bt:Region.wanted U (yielded ar tmps)=true)
 (mu:iH C S ad h j bu.heap.size w (execOp (ld tmps) U) r)(a:oA r al C eI q ⟨fn,n,ao,bc,aJ,ro,cs⟩ H h j=some v):
 Ends C bu bG bX v (lone (ct S fn bc aJ ro tmps (.inRegion ar (i::k)::bx) .run) ai w):=by
 have oS:b0<=j:=ZB OY tn
 have done:∀v ac T an,BS C S ad h j bu.heap.size w (execOp (ld tmps) U) ac T an->(match px eI ac with|some hC=>al .run (hC::q) ⟨fn,n,ao,bc,aJ,ro,cs⟩ H T an|none=>none)=some v->
  Ends C bu bG bX v (lone (ct S fn bc aJ ro tmps (.inRegion ar (i::k)::bx) .run) ai w):=by
  intro v ac T an aH a
  obtain⟨dd,dC,b1,u5,cX,cF,eS,iK,ga,jg⟩:=aH
  have HQ:u5= .value (aQ dd ac)\/(u5= .skip/\aQ dd ac=Go.undef):=cF.imp id λ⟨F,b⟩=>⟨F,by rw[b];rfl⟩
  refine .head (FN bj bt cX HQ) ?_
  rw[<-Ip ga.iW aC.hV]
  exact G2 gp (aC.ext iK (ga.mono oS) jg) (aF.ab (ga.mono tn)) (ZB tn jg) eS a
 cases r with
 |val ac=>exact done v ac h j mu a
 |fs ac T an=>exact done v ac T an mu a
 |enter f args=>
  obtain⟨I,J⟩:=mu
  refine .head (ahH bj bt I) ?_
  simp only[oA]at a
  refine NH gp aC.V aC.lk aC.hW tn ?_ (λE=>by simp[FO]at E) J a
  exact .cons (bS:= .run) aF trivial aC.hV aC.bot OY aC.cs
 |known f args ac=>
  obtain⟨I,J,am⟩:=mu
  obtain⟨aD,Cq⟩:=awm cI aC.lk I
  simp only[oA]at a
  rcases aD with aD|⟨kq,i6⟩
  ·rw[aD S]at J
   refine .head (FN bj bt J (.inl rfl)) ?_
   exact G2 gp aC aF tn (Cq ad) a
  ·rw[kq S]at J
   refine .head (ahH bj bt J) ?_
   obtain⟨E,b1,fr,⟨rfl,KF⟩,auR,_,OW⟩:=i6 S (ct S fn bc aJ ro tmps (.inRegion ar (i::k)::bx) .run::ai)
   refine .steps auR (.head (step_leave_returned OW) ?_)
   have af:iG C aN S ad h bu.heap.size w S ad h b1:=⟨λ_ _=>rfl,λ_ a=>a,λ_ a=> .inl a,λ_ _ _=>rfl,KF.mono aC.er⟩
   exact G2 gp (aC.ext (aC.V.later KF) (af.mono OY) (Zi _)) (aF.ab af) tn (Cq ad) a
 |round b args=>
  obtain⟨I,J,am⟩:=mu
  simp only[oA]at a
  split at a
  ·rename_i st jq gX aU k1 c1 params assign body gl hP
   split at a
   ·rename_i amJ e4
    obtain⟨hG,gS,nb,sz,Iy,Dc,tN,Dd⟩:=aC.V.obj b _ hP am
    obtain⟨cG,cw⟩:=az9 params args c1 amJ hG nb J e4
    rw[run_yield gS (by simp[j4,cG])]at I
    refine .head (aAQ bj bt I) ?_
    have qy:Frame.round (S b).cH gX (((params.toArray).zip (b2 S args).toArray).foldl (λtmps (t,F)=>tmps.setIfInBounds t F) hG) assign body .normal=
     ct S gX [] false (some b) ((params.zip (b2 S args)).foldl (λtmps p=>tmps.setIfInBounds p.1 p.2) hG) [.code assign, .beginRound, .code body] (gN S .run):=by
     simp[Frame.round,ct,gN]
    simp only at qy ⊢
    rw[qy]
    refine gp _ _ _ _ _ _ _ _ _ _ _ _ v a S ad w aN _ _ _ ?_
    refine⟨aC.V,aC.lk,aC.hW,tn,⟨Zs,λk az=>(by cases az;exact am),Dd⟩,trivial,λE=>by simp[FO]at E, .cons (bS:= .run) aF trivial aC.hV aC.bot OY aC.cs, ?_⟩
    exact .plain (.cons (.code Iy) (.cons .begin (.cons (.code Dc) .nil))) cw
   ·simp at a
  ·simp at a
 |defer d=>
  obtain⟨I,J⟩:=mu
  simp only[oA]at a
  cases ro with
  |some b=>simp at a
  |none=>
   simp only at a
   refine .head (aAC bj bt I) ?_
   have as6:xB C ad fn ao (d::bc) none:=⟨λlI aH=>by
    rcases Zr.1 aH with rfl|aH
    ·exact J
    ·exact aC.hV.bc lI aH,aC.hV.ro,aC.hV.fn⟩
   exact G2 (ac:=undef) gp ⟨aC.V,aC.lk,aC.hW,aC.kg,as6,aC.bot,aC.cs⟩ aF tn trivial a
 |recover=>
  simp only[oA]at a
  cases ro with
  |some b=>simp at a
  |none=>
   simp only at a
   split at a
   ·rename_i ac dc aut
    obtain⟨jj,b3,b7,cS,eh⟩:=aBu (fn:=fn) (bc:=bc) (tmps:=tmps) (bx:= .inRegion ar (i::k)::bx) aC.cs aut
    refine .head (aAM bj bt mu eh) ?_
    exact G2 (ac:=ac) gp ⟨aC.V,aC.lk,aC.hW,aC.kg,aC.hV,λE=>aC.bot (cS E),b3⟩ aF tn b7 a
   ·simp at a
 |panic ac=>
  obtain⟨I,J⟩:=mu
  simp only[oA]at a
  cases ro with
  |some b=>simp at a
  |none=>
   simp only at a
   refine .head (aAL bj bt I) ?_
   refine gp _ _ _ _ _ _ _ _ _ _ _ _ v a S ad w b0 tmps _ ai ?_
   exact⟨aC.V,aC.lk,aC.hW,aC.kg,aC.hV,λp ay=>by simp at ay;subst ay;exact J,aC.bot,aC.cs,aF.drop⟩
 |fork bV=>
  obtain⟨ac,T,bp,aH⟩:=mu
  simp only[oA]at a
  obtain⟨gK,b3,b7⟩:=aqi bV v a ac T bp
  exact .same b7 (done gK ac T j aH b3)
def agd{U:Op}{ev:Operand->Option D}{b:Nat}{ac:D}{cY:ag}{dp:Nat->Prop}(a:qW U C ev b=some (ac,cY)):xG C dp cY:=by
 have key:∀k:List D,xG C dp (.cells (K.ofList k 0 .nil) k.length .own):=λk=>⟨λ_ _ _ a=>(by cases a),λ_ _ _ a=>(by cases a;exact Iz)⟩
 have awk:xG C dp (.map [] 0):=⟨λ_ _ _ a=>(by cases a),λ_ _ _ a=>(by cases a)⟩
 cases U<;>simp only[qW]at a<;>(try(cases a;done))
 case alloc t=>unfold Fi at a;split at a<;>simp at a;rw[<-a.2];exact key _
 case box t x=>unfold LN at a;split at a<;>simp at a;rw[<-a.2];exact key _
 case buildSlice t len kh=>
  unfold LO at a
  split at a
  ·split at a
   ·simp only[e1]at a
    obtain⟨_,a⟩:=a
    split at a<;>simp at a
    rw[<-a.2];exact key _
   ·simp at a
  ·simp at a
 case makeMap t r=>cases r<;>simp at a;rw[<-a.2];exact awk
def aoT{i:Nat}(aN:ar.toList.drop i=[]):ar.size<=i:=by simpa using aN
def apZ{ao:Nat}{aq:List (Nat×D)}:∀(k:List Oper) (i:Nat) (ek:List (Nat×Nat)) (oy H c1:K D),(∀t,bit ao t=true->H.get t=match eo ek t with|some W=>eo aq W|none=>oy.get t)->
 Aw aq (lo ao k i) H=some c1->∀t,bit ao t=true->c1.get t=match eo (xe k i ek) t with|some W=>eo aq W|none=>oy.get t:=by
 intro k
 induction k with
 |nil=>intro i ek oy H c1 e4 a;simp[lo,Aw]at a;subst a;exact e4
 |cons U k al=>
  intro i ek oy H c1 e4 a
  simp only[lo]at a
  simp only[xe]
  split at a
  ·rename_i d aH
   rw[fA]at a
   split at a
   ·rename_i aj
    simp only[Aw]at a
    split at a
    ·rename_i ac bb
     simp only[hk]at a
     refine al (i+1) _ oy _ c1 (λt a6=> ?_) a
     rw[K.kI,Gs,aH]
     by_cases E:d=t
     ·subst E;simp[bb]
     ·simp[E];exact e4 t a6
    ·simp at a
   ·rename_i aj
    refine al (i+1) _ oy _ c1 (λt a6=> ?_) a
    rw[Gs,aH]
    have E:d≠t:=λE=>aj (by rw[E];exact a6)
    simp[E];exact e4 t a6
  ·rename_i aH
   refine al (i+1) _ oy _ c1 (λt a6=> ?_) a
   rw[Gs,aH]
   simp;exact e4 t a6
def acz{aq:List (Nat×D)}{H c1:K D}(bD:pp S ad ao (λ_=>True) (is ar ar.size) aq H tmps)(eO:tmps.size=n)(a:Aw aq (lo ao ar.toList 0) H=some c1):jw S ad n ao c1 tmps:=by
 refine⟨eO,λt ac az bb=> ?_⟩
 have:=apZ (ao:=ao) (aq:=aq) ar.toList 0 [] H H c1 (λ_ _=>rfl) a t az
 rw[bb]at this
 apply bD t ac trivial
 have E:is ar ar.size=xe ar.toList 0 []:=by unfold is;rw[Zx Zs]
 rw[E]
 cases bK:eo (xe ar.toList 0 []) t with
 |some W=>rw[bK]at this;exact this.symm
 |none=>rw[bK]at this;exact⟨az,this.symm⟩
def ahA(cI:Env C bu dP d4)(gp:nS C bu bG bX al){q:List dR}{fin:List (Nat×Nat)}:∀(rest:List ft) (aq:List (Nat×D)) (h:K ag) (j:Nat) (S:c9) (ad:Nat->Prop) (w:World) (tmps:Array Value) (k:List Nat) (ai:List Frame),
 jf C bu bG bX fn ao bc aJ ro cs h j S ad w b0 ai->lW C S ad ao q bx->Ru C S ad n ao ar aq rest fin H tmps k->
 Bx rest ⟨al,ar,fin,q,⟨fn,n,ao,bc,aJ,ro,cs⟩⟩ C H aq h j=some v->Ends C bu bG bX v (lone (ct S fn bc aJ ro tmps (.inRegion ar k::bx) .run) ai w):=by
 intro rest
 induction rest with
 |nil=>
  intro aq h j S ad w tmps k ai aC aD aF a
  obtain⟨i,aN,rfl,aA,rfl,bD,eO⟩:=aF
  have OG:ar.size<=i:=by
   cases aH:ar.toList.drop i with
   |nil=>exact aoT aH
   |cons U bV=>
    rw[aH]at aA
    obtain⟨_,_,r,_,_,_,_,_,E⟩:=RU aA
    cases E
  have:i=ar.size:=Zo
  subst this
  simp only[Nat.sub_self,List.range'_zero]
  have cz:J5 ⟨al,ar,lo ao ar.toList 0,q,⟨fn,n,ao,bc,aJ,ro,cs⟩⟩ C H aq h j=some v:=a
  simp only[J5,NN,o8]at cz
  split at cz
  ·rename_i c1 e4
   refine .head ahJ ?_
   exact gp _ _ _ _ _ _ _ _ _ _ _ _ v cz S ad w b0 tmps bx ai (aC.state (.plain aD (acz bD eO e4)))
  ·simp at cz
 |cons x rest HW=>
  intro aq h j S ad w tmps k ai aC aD aF a
  obtain⟨i,aN,rfl,aA,rfl,bD,eO⟩:=aF
  cases aH:ar.toList.drop i with
  |nil=>rw[aH]at aA;simp[s8]at aA
  |cons U bV=>
   rw[aH]at aA
   obtain⟨g,op,r,db,dx,gf,ul,jO,E⟩:=RU aA
   cases E
   obtain⟨cX,cF,eS⟩:=Sf aH
   rw[<-MA cX, <-cF]at jO
   have HG:List.range' i (ar.size-i)=i::List.range' (i+1) (ar.size-(i+1)):=by
    rw[show ar.size-i=(ar.size-(i+1))+1 by omega,List.range'_succ]
   rw[HG]
   have mZ:=ab4 gf
   have HD:∀(dd:c9) (dC:Nat->Prop) (ac:D),pp dd dC ao (λ_=>True) (is ar i) aq H tmps->ck dC ac->Ru C dd dC n ao ar ((i,ac)::aq) rest (lo ao ar.toList 0) H (qL tmps U.dst (aQ dd ac)) (List.range' (i+1) (ar.size-(i+1))):=by
    intro dd dC ac uU Cq
    exact⟨i+1,Zo,rfl,jO,rfl,uU.put cX (by rw[eO];exact mZ) Cq,by rw[Qe];exact eO⟩
   have kp:∀(dd:c9) (ac:Value),(ct dd fn bc aJ ro tmps (.inRegion ar (i::List.range' (i+1) (ar.size-(i+1)))::bx) .run).finish ac=ct dd fn bc aJ ro (qL tmps U.dst ac) (.inRegion ar (List.range' (i+1) (ar.size-(i+1)))::bx) .run:=by
    intro dd ac
    rw[NP (g:=ct dd fn bc aJ ro tmps _ .run) rfl cX];rfl
   have cz:Fz i g op rest (Bx rest) ⟨al,ar,lo ao ar.toList 0,q,⟨fn,n,ao,bc,aJ,ro,cs⟩⟩ C H aq h j=some v:=a
   simp only[Fz,QF,o8]at cz
   split at cz
   ·rename_i WH lM
    have tE:=QJ aN db bD (λ_ _ _ _ _=>trivial) (Sub.refl aq) lM
    cases WH with
    |false=>
     simp only[Zw,ZA]at cz
     refine .head (Wl cX tE) ?_
     rw[kp]
     exact HW _ _ _ _ _ _ _ _ _ aC aD (HD S ad undef bD trivial) cz
    |true=>
     simp only[ZC]at cz
     have AV:jv S ad (ld tmps) (ji (is ar i) aq H) U.op.operands.toList:=acj bD (λ_ _=>trivial) ul aC.hW
     rw[P5]at cz
     cases pE:m6 op with
     |ig=>
      simp only[pE,o8]at cz
      split at cz
      ·rename_i ac bb
       obtain⟨ba,cj⟩:=afZ aC.V AV dx bb
       refine .head (FN cX tE ba (.inl rfl)) ?_
       rw[kp]
       exact HW _ _ _ _ _ _ _ _ _ aC aD (HD S ad ac bD cj) cz
      ·simp at cz
     |make=>
      simp only[pE,o8]at cz
      split at cz
      ·rename_i res me
       simp only[PK,ms]at me
       split at me
       ·rename_i ac cY bp
        simp only[hk,Zf]at me
        subst me
        have oT:=sy aC.V
        obtain⟨o7,e6,fq,k2⟩:=agc (w:=w) (S:=S) oT AV (PL dx bp)
        have af:iG C b0 S ad h bu.heap.size w (gs S j ⟨w.heap.size,0,0⟩) (add ad j) (bn C h j (some cY)) (w.alloc o7):=
         ⟨rL oT,λ_ a=> .inl a,λx a=>a.elim .inl (λa=> .inr (zq aC.kg)),λx af c2=>by rw[fX _ aC.V.a2,Zg (zq aC.kg)],Below.alloc (Below.refl _ _) aC.er _⟩
        have kJ:=aC.V.alloc aC.V.a2 (Yq _) (Yf _) oT aC.er rfl (T:=bn C h j (some cY)) (by rw[fX _ aC.V.a2,Zu rfl]) (λx af=> .inl (by rw[fX _ aC.V.a2,Zg af])) k2 (agd (PL dx bp))
        refine .head (FN cX tE e6 (.inl rfl)) ?_
        rw[kp, <-Ip af.iW aC.hV]
        exact HW _ _ _ _ _ _ _ _ _ (aC.ext kJ af (Yf _)) (aD.ab af.iW af.jP) (HD _ _ ac (bD.ab af.iW af.jP) fq) cz
       ·simp at me
      ·simp at cz
     |fp=>
      simp only[pE,o8]at cz
      split at cz
      ·rename_i res me
       have mu:=adX aC.V aC.er cI.kx AV dx me
       have ava:mT C S ad h b0 j n ao H tmps (.t8 ar aq i rest (lo ao ar.toList 0)::q) (.inRegion ar (i::List.range' (i+1) (ar.size-(i+1)))::bx):=
        .seq aD ⟨U,cX,mZ,rfl,jO,rfl,bD,eO⟩
       have now:∀ac T an,BS C S ad h j bu.heap.size w (execOp (ld tmps) U) ac T an->Bx rest ⟨al,ar,lo ao ar.toList 0,q,⟨fn,n,ao,bc,aJ,ro,cs⟩⟩ C H ((i,ac)::aq) T an=some v->
        Ends C bu bG bX v (lone (ct S fn bc aJ ro tmps (.inRegion ar (i::List.range' (i+1) (ar.size-(i+1)))::bx) .run) ai w):=by
        intro ac T an aH a
        obtain⟨dd,dC,b1,u5,bF,cn,eU,iL,oG,J3⟩:=aH
        have HQ:u5= .value (aQ dd ac)\/(u5= .skip/\aQ dd ac=Go.undef):=cn.imp id λ⟨F,b⟩=>⟨F,by rw[b];rfl⟩
        refine .head (FN cX tE bF HQ) ?_
        rw[kp, <-Ip oG.iW aC.hV]
        exact HW _ _ _ _ _ _ _ _ _ (aC.ext iL (oG.mono aC.kg) J3) (aD.ab oG.iW oG.jP) (HD _ _ ac (bD.ab oG.iW oG.jP) eU) a
       have q4:oA res al C (.t8 ar aq i rest (lo ao ar.toList 0)) q ⟨fn,n,ao,bc,aJ,ro,cs⟩ H h j=some v->Ends C bu bG bX v (lone (ct S fn bc aJ ro tmps (.inRegion ar (i::List.range' (i+1) (ar.size-(i+1)))::bx) .run) ai w):=
        λa=>aa3 cI gp aC ava aC.kg (Zi _) cX tE mu a
       cases res with
       |val ac=>exact now ac h j mu cz
       |fs ac T an=>exact now ac T an mu cz
       |_=>exact q4 cz
      ·simp at cz
   ·simp at cz
end
end Go.bd

namespace Go.bd
open Go.RowKit (Below)
def aow{k:List Bool}(a:k.count false=0):∀b∈k,b=true:=by
 intro b aj
 cases b with
 |true=>rfl
 |false=>exact absurd aj (List.count_eq_zero.1 a)
def az1{ar:Array Oper}(mb:Fx ar.toList 0=true):∀(fuel t:Nat) (iA:Array Bool),iA.size=ar.size->iA.toList.count false=fuel->
 xI ar (λi=>iA.getD i false=true) (Region.linearise.go .any ar fuel t iA []):=by
 intro fuel
 induction fuel with
 |zero=>
  intro t iA aF aA
  simp only[Region.linearise.go,List.reverse_nil]
  refine .nil λi aN=> ?_
  have c2:i<iA.size:=Zo
  have:=aow aA iA[i] Zs
  simp[c2,this]
 |succ fuel al=>
  intro t iA aF aA
  simp only[Region.linearise.go]
  have uM:∃i,i<ar.size/\iA.getD i true=false:=by
   have T8:false∈iA.toList:=by
    rw[<-List.count_pos_iff];omega
   obtain⟨i,aN⟩:=Z1.1 T8
   have c2:i<iA.size:=by have:=(Zc.1 aN).1;simpa using this
   refine⟨i,Zo, ?_⟩
   rw[ZR]at aN
   simp[aN]
  have K2:∃i,i<ar.size/\iA.getD i true=false/\∀W,W<i->iA.getD W false=true:=by
   have key:∀m,(∃i,i<m/\i<ar.size/\iA.getD i true=false)->∃i,i<ar.size/\iA.getD i true=false/\∀W,W<i->iA.getD W false=true:=by
    intro m
    induction m with
    |zero=>rintro⟨i,a,_⟩;omega
    |succ m qC=>
     rintro⟨i,I,J,am⟩
     by_cases ah:∃i,i<m/\i<ar.size/\iA.getD i true=false
     ·exact qC ah
     ·have:i=m:=by
       rcases zb i m with a|a
       ·exact absurd ⟨i,a,J,am⟩ ah
       ·omega
      subst this
      refine⟨i,J,am,λW bK=> ?_⟩
      have c2:W<iA.size:=Zo
      cases aj:iA[W]with
      |true=>simp[c2,aj]
      |false=>exact absurd ⟨W,bK,Zo,by simp[c2,aj]⟩ ah
   obtain⟨i,I,J⟩:=uM
   exact key (i+1) ⟨i,Zo,I,J⟩
  obtain⟨i0,wa,au2,h9⟩:=K2
  have aus:i0∈Region.ready .any ar iA:=by
   rw[mem_ready]
   refine⟨au2,ar[i0],Array.getElem?_eq_getElem wa,λE bs aj=> ?_⟩
   have:=ax0 mb i0 ar[i0] (by rw[ZR];exact Array.getElem?_eq_getElem wa) E (by simpa using bs) aj
   exact h9 _ Zo
  change xI ar _ (match (Region.ready .any ar iA)[t%(Region.ready .any ar iA).length]? with
   |some i=>Region.linearise.go .any ar fuel (t/(Region.ready .any ar iA).length) (iA.setIfInBounds i true) [i]
   |none=>[].reverse)
  have fI:0<(Region.ready .any ar iA).length:=List.length_pos_of_mem aus
  have c2:t%(Region.ready .any ar iA).length<(Region.ready .any ar iA).length:=Nat.mod_lt _ fI
  rw[Ze c2]
  simp only[]
  generalize aN:(Region.ready .any ar iA)[t%(Region.ready .any ar iA).length]=i
  have T8:i∈Region.ready .any ar iA:=by rw[<-aN];exact List.getElem_mem c2
  obtain⟨I,U,J,am⟩:=mem_ready.1 T8
  have aC1:i<ar.size:=(ZN.1 J).1
  have lK:i<iA.size:=Zo
  have ad3:iA[i]=false:=by simpa[lK]using I
  rw[linearise_go_acc,List.reverse_singleton,List.singleton_append]
  refine .cons J (by simp[lK,ad3]) (λE bs aj=>am E (by simpa using bs) aj) ?_
  have bT:add (λi=>iA.getD i false=true) i=λW=>(iA.setIfInBounds i true).getD W false=true:=by
   funext W
   apply propext
   unfold add
   by_cases E:W=i
   ·subst E;simp[lK]
   ·rw[getD_set_ne false (λah=>E ah.symm)]
    simp[E]
  rw[bT]
  refine al _ _ (by simpa using aF) ?_
  rw[Array.toList_setIfInBounds,List.count_set (by simpa using lK)]
  have:(iA.toList[i]'(by simpa using lK))=false:=by simpa using ad3
  simp[this,aA]
def az2{ar:Array Oper}(mb:Fx ar.toList 0=true)(t:Nat):xI ar (λ_=>False) (Region.schedule true ar t):=by
 simp only[Region.schedule,Bool.true_or,ZC,Region.linearise]
 have:=az1 mb ar.size t (Array.replicate ar.size false) Zs Zs
 have E:(λi=>(Array.replicate ar.size false).getD i false=true)=λ_=>False:=by
  funext i
  apply propext
  by_cases a:i<ar.size<;>simp[a]
 rw[E]at this
 exact this
section
variable{C:aL}{S dd dP:c9}{ad dC d4:Nat->Prop}{h T:K ag}{j an bh:Nat}{w b1:World}{n ao:Nat}{ar:Array Oper}
variable{bu:World}{bG:Nat}{bX:List Frame}{v:D}{al:hw}
variable{fn:Nat}{bc:List hI}{aJ:Bool}{ro:Option Nat}{cs:List gL}{H:K D}{tmps:Array Value}{bx:List Item}{ai:List Frame}{b0 aN:Nat}
def avH{op:jZ}(aD:m6 op= .ig)(aF:Ds op=false)(h T:K ag)(aq:List (Nat×D))(H:K D):gW op C h aq H=gW op C T aq H:=by
 cases op<;>simp only[gW]<;>(try rfl)<;>simp[Ds]at aF
 case ig b8 U=>cases U<;>simp[Ds]at aF<;>rfl
def qe.refl(h:K ag):qe C h h:=λ_=> .inl rfl
def qe.trans{aP aM aX:K ag}(a:qe C aP aM)(q:qe C aM aX):qe C aP aX:=λx=>by
 rcases a x with a|a
 ·rcases q x with q|q
  ·exact .inl (a.trans q)
  ·exact .inr (a.trans q)
 ·exact .inr a
def afX(h:K ag):qe C .nil h:=by
 intro b
 unfold Y
 rw[fA,fA]
 split
 ·exact .inl rfl
 ·exact .inr rfl
def aoK{base:Nat}(aE:C.a2<=base):∀(k:List ft) (aq:List (Nat×D)) (h:K ag) (hx:List (Nat×D)) (T:K ag),(k.Pairwise λF b=>F.i≠b.i)->(∀x∈k,eo aq x.i=none/\Y C h (base+x.i)=none/\n7 x.op=false)->
 xU C base H k aq h=some (hx,T)->Sub aq hx/\qe C h T/\(∀i,eo hx i≠none->eo aq i≠none\/∃x∈k,x.i=i)/\(∀b,Y C T b≠Y C h b->∃x∈k,b=base+x.i)/\
 ∀x∈k,∃ac,(∀ad,MN C ad T base hx H x ac)/\Jr C T hx H x ac:=by
 intro k
 induction k with
 |nil=>
  intro aq h hx T _ _ a
  simp[xU]at a
  obtain⟨rfl,rfl⟩:=a
  exact⟨Sub.refl _,qe.refl _,λi a=> .inl a,λb a=>absurd rfl a,Zs⟩
 |cons x k al=>
  intro aq h hx T ay ch a
  rw[List.pairwise_cons]at ay
  obtain⟨en,dB⟩:=ay
  obtain⟨NU,SF,SG⟩:=ch x (Zq ..)
  have step:∀(ac:D) (aP:K ag),qe C h aP->(∀b,Y C aP b≠Y C h b->b=base+x.i)->xU C base H k ((x.i,ac)::aq) aP=some (hx,T)->
   (∀hx T,Sub ((x.i,ac)::aq) hx->qe C aP T->(Y C aP (base+x.i)≠none->Y C T (base+x.i)=Y C aP (base+x.i))->(∀ad,MN C ad T base hx H x ac)/\Jr C T hx H x ac)->
   Sub aq hx/\qe C h T/\(∀i,eo hx i≠none->eo aq i≠none\/∃f0∈x::k,f0.i=i)/\(∀b,Y C T b≠Y C h b->∃f0∈x::k,b=base+f0.i)/\∀f0∈x::k,∃ac,(∀ad,MN C ad T base hx H f0 ac)/\Jr C T hx H f0 ac:=by
   intro ac aP qA uJ aH af
   have A6:Sub aq ((x.i,ac)::aq):=Sub.cons NU
   have rk:∀f0∈k,eo ((x.i,ac)::aq) f0.i=none/\Y C aP (base+f0.i)=none/\n7 f0.op=false:=by
    intro f0 pK
    obtain⟨b3,b7,cS⟩:=ch f0 (Zt _ pK)
    have c8:=en f0 pK
    refine⟨by rw[r1,Zg c8];exact b3, ?_,cS⟩
    by_cases ah:Y C aP (base+f0.i)=Y C h (base+f0.i)
    ·rw[ah];exact b7
    ·have:=uJ _ ah;omega
   obtain⟨bR,cq,cP,d0,dU⟩:=al _ _ _ _ dB rk aH
   have tt:Y C T (base+x.i)=Y C aP (base+x.i):=by
    by_cases ah:Y C T (base+x.i)=Y C aP (base+x.i)
    ·exact ah
    ·obtain⟨f0,pK,E⟩:=d0 _ ah
     exact absurd Zo (en f0 pK)
   refine⟨A6.trans bR,qA.trans cq,λi aN=> ?_,λb aj=> ?_,λf0 pK=> ?_⟩
   ·rcases cP i aN with I|⟨f0,I,J⟩
    ·rw[r1]at I
     split at I
     ·rename_i E;exact .inr ⟨x,Zq ..,E⟩
     ·exact .inl I
    ·exact .inr ⟨f0,Zt _ I,J⟩
   ·by_cases ah:Y C T b=Y C aP b
    ·rw[ah]at aj
     exact⟨x,Zq ..,uJ b aj⟩
    ·obtain⟨f0,I,J⟩:=d0 b ah
     exact⟨f0,Zt _ I,J⟩
   ·rcases Zr.1 pK with rfl|pK
    ·exact⟨ac,af hx T bR cq (λ_=>tt)⟩
    ·exact dU f0 pK
  have tt:∀(ac:D) (hx:List (Nat×D)),Sub ((x.i,ac)::aq) hx->eo hx x.i=some ac:=λac hx aF=>aF _ _ (by rw[r1,Zu rfl])
  simp only[xU]at a
  split at a
  ·simp at a
  ·rename_i bt
   refine step undef h (qe.refl _) (λb aj=>absurd rfl aj) a λhx T aF az _=> ?_
   have CL:Sub aq hx:=(Sub.cons NU).trans aF
   exact⟨λad=>⟨tt _ _ aF,aq,false,CL,bt,λ_=>rfl,Zs⟩,aq, .nil,false,CL,afX _,bt,Zs⟩
  ·rename_i bt
   cases aD:m6 x.op with
   |make=>
    rw[aD]at a
    simp only at a
    split at a
    ·rename_i ac cY bp
     simp only[hk]at a
     have aj:C.a2<=base+x.i:=Zo
     refine step ac _ (λb=> ?_) (λb jB=> ?_) a λhx T aF az OS=> ?_
     ·rw[fX _ aj]
      by_cases E:b=base+x.i
      ·subst E;exact .inr SF
      ·rw[Zg E];exact .inl rfl
     ·rw[fX _ aj]at jB
      by_cases E:b=base+x.i
      ·exact E
      ·rw[Zg E]at jB;exact absurd rfl jB
     ·have CL:Sub aq hx:=(Sub.cons NU).trans aF
      have hP:Y C T (base+x.i)=some cY:=by
       rw[OS (by rw[fX _ aj,Zu rfl];simp),fX _ aj,Zu rfl]
      exact⟨λad=>⟨tt _ _ aF,aq,true,CL,bt,Zs,λ_=>⟨SG,λ_=>⟨cY,bp,hP⟩,λah=>by rw[aD]at ah;cases ah⟩⟩,aq,h,true,CL,
       (by
        intro b
        rcases az b with ah|ah
        ·rw[fX _ aj]at ah
         by_cases E:b=base+x.i
         ·subst E;exact .inr SF
         ·rw[Zg E]at ah;exact .inl ah
        ·rw[fX _ aj]at ah
         by_cases E:b=base+x.i
         ·subst E;exact .inr SF
         ·rw[Zg E]at ah;exact .inr ah),bt,λ_ ah=>by rw[aD]at ah;cases ah⟩
    ·simp at a
   |ig=>
    rw[aD]at a
    simp only at a
    split at a
    ·rename_i ac bb
     refine step ac h (qe.refl _) (λb aj=>absurd rfl aj) a λhx T aF az _=> ?_
     have CL:Sub aq hx:=(Sub.cons NU).trans aF
     exact⟨λad=>⟨tt _ _ aF,aq,true,CL,bt,Zs,λ_=>⟨SG,λah=>(by rw[aD]at ah;cases ah),λ_ HL kS=>by rw[avH aD HL kS h];exact bb⟩⟩,aq,h,true,CL,az,bt,λ_ _=>bb⟩
    ·simp at a
   |fp=>simp[n7,aD]at SG
end
end Go.bd

namespace Go.bd
open Go.RowKit (Below)
section
variable{C:aL}{S dd dP:c9}{ad dC d4:Nat->Prop}{h T:K ag}{j an bh:Nat}{w b1:World}{n ao:Nat}{ar:Array Oper}
variable{bu:World}{bG:Nat}{bX:List Frame}{v:D}{al:hw}
variable{fn:Nat}{bc:List hI}{aJ:Bool}{ro:Option Nat}{cs:List gL}{H:K D}{tmps:Array Value}{bx:List Item}{ai:List Frame}{b0 aN:Nat}
def aoL{aq:List (Nat×D)}:∀(k:List ft),Eb C H aq h k=true->∀x∈k,∃b,pf x.g aq=some b/\(b=true->∃ac,gW x.op C h aq H=some ac/\eo aq x.i=some ac):=by
 intro k
 induction k with
 |nil=>intro _ x a;simp at a
 |cons F k al=>
  intro a x af
  simp only[Eb]at a
  split at a
  ·simp at a
  ·rename_i bt
   rcases Zr.1 af with rfl|af
   ·exact⟨false,bt,Zs⟩
   ·exact al a x af
  ·rename_i bt
   split at a
   ·rename_i ac t7 I J
    simp only[Zp]at a
    have:=Qn _ _ _ a.1
    subst this
    rcases Zr.1 af with rfl|af
    ·exact⟨true,bt,λ_=>⟨ac,I,J⟩⟩
    ·exact al a.2 x af
   ·simp at a
def aAX{iB:List qf}{q:Nat}{az:List (gk×ft)}:∃s rest,Bl iB q az=s::rest/\s.u2=ui q iB/\s.VW=FH q iB/\
 (match az with|[]=>s.fp=none/\rest=[]|e::hq=>s.fp=some e.2/\rest=Bl iB (q+1) hq):=by
 cases az with
 |nil=>exact⟨_,_,rfl,rfl,rfl,rfl,rfl⟩
 |cons e az=>exact⟨_,_,rfl,rfl,rfl,rfl,rfl⟩
def B5{q:Nat}:∀{iB:List qf}{x:ft},x∈ui q iB↔∃k∈iB,k.b0=q/\k.x=x:=by
 intro iB
 induction iB with
 |nil=>intro x;simp[ui]
 |cons F iB al=>
  intro x
  simp only[ui,hK]
  by_cases a:F.b0=q
  ·simp only[a,ZC,Zr,al]
   constructor
   ·rintro(rfl|⟨k,I,J,am⟩)
    ·exact⟨F, .inl rfl,a,rfl⟩
    ·exact⟨k, .inr I,J,am⟩
   ·rintro⟨k,rfl|I,J,am⟩
    ·exact .inl am.symm
    ·exact .inr ⟨k,I,J,am⟩
  ·simp only[a,ZA,al]
   constructor
   ·rintro⟨k,I,J,am⟩;exact⟨k, .tail _ I,J,am⟩
   ·rintro⟨k,I,J,am⟩
    rcases Zr.1 I with rfl|I
    ·exact absurd J a
    ·exact⟨k,I,J,am⟩
def azc{q:Nat}:∀{iB:List qf}{k:qf},k∈iB->k.b0<q->q<=k.aN->Ds k.x.op=true->k.x∈FH q iB:=by
 intro iB
 induction iB with
 |nil=>intro k a;simp at a
 |cons F iB al=>
  intro k az I J am
  simp only[FH,fA]
  rcases Zr.1 az with rfl|az
  ·rw[Zu]
   ·exact Zq ..
   ·have bF:Nat.blt k.b0 q=true:=by simp[Nat.blt];omega
    have cn:Nat.ble q k.aN=true:=by simpa using J
    simp[bF,cn,am]
  ·split
   ·exact Zt _ (al az I J am)
   ·exact al az I J am
def anx{q:Nat}:∀{iB:List qf},(iB.Pairwise λF b=>F.x.i<b.x.i)->(ui q iB).Pairwise λF b=>F.i≠b.i:=by
 intro iB
 induction iB with
 |nil=>intro _;simp[ui]
 |cons F iB al=>
  intro a
  rw[List.pairwise_cons]at a
  simp only[ui,hK]
  split
  ·rw[List.pairwise_cons]
   refine⟨λx af=> ?_,al a.2⟩
   obtain⟨k,I,_,rfl⟩:=B5.1 af
   have:=a.1 k I;omega
  ·exact al a.2
def awj(op:jZ):n7 op=true/\m6 op= .fp\/n7 op=false/\(m6 op= .ig\/m6 op= .make):=by
 unfold n7
 cases m6 op<;>simp
def axl(cI:Env C bu dP d4)(gp:nS C bu bG bX al){q:List dR}{base eA:Nat}{aq:List (Nat×D)}(wd:b0<=base)(gn:base+ar.size<=j)(gP:C.a2<=base){s:xJ}{rest:List xJ}
 (dm:match (gD C n ao ar).drop eA with|[]=>s.fp=none|e::hq=>s.fp=some e.2/\rest=Bl (l6 C n ao ar) (eA+1) hq)
 (a:(match s.fp with
    |none=>Kc (lo ao ar.toList 0) aq H λH=>al .run q ⟨fn,n,ao,bc,aJ,ro,cs⟩ H h j
    |some a=>(match pf a.g aq with
     |none=>none
     |some w=>bY (w) ((match hU a.op C h j aq H with
       |some r=>oA r al C (.BG ar base aq a.i rest (lo ao ar.toList 0)) q ⟨fn,n,ao,bc,aJ,ro,cs⟩ H h j
       |none=>none))<|al .run (.drawn ar base ((a.i,undef)::aq) rest (lo ao ar.toList 0)::q) ⟨fn,n,ao,bc,aJ,ro,cs⟩ H h j))=some v):
 ∀(k:List Nat) (S:c9) (ad:Nat->Prop) (w:World) (tmps:Array Value) (dp:Nat->Prop),jf C bu bG bX fn ao bc aJ ro cs h j S ad w b0 ai->lW C S ad ao q bx->rS C S ad h base n ao ar aq eA (eA+1) H tmps dp->xI ar dp k->
  (∀k∈l6 C n ao ar,k.b0<eA+1->¬dp k.x.i->∃ac,eo aq k.x.i=some ac/\Jr C h aq H k.x ac)->Ends C bu bG bX v (lone (ct S fn bc aJ ro tmps (.inRegion ar k::bx) .run) ai w):=by
 intro k
 induction k with
 |nil=>
  intro S ad w tmps dp aC aD aH aF Ue
  cases aF with
  |nil j7=>
   have OG:(gD C n ao ar).drop eA=[]:=by
    cases bL:(gD C n ao ar).drop eA with
    |nil=>rfl
    |cons e hq=>
     exfalso
     have z:(gD C n ao ar)[eA]? =some e:=by
      have:((gD C n ao ar).drop eA)[0]? =some e:=by rw[bL];rfl
      rwa[YJ]at this
     have bT:=j7 e.1.i (aoN aH.st (Zj z)).1
     have:=(aH.done eA e z).1 bT
     omega
   rw[OG]at dm
   simp only at dm
   rw[dm]at a
   simp only[NN,o8]at a
   split at a
   ·rename_i c1 e4
    refine .head ahJ ?_
    have bD:pp S ad ao (λ_=>True) (is ar ar.size) aq H tmps:=by
     obtain⟨_,eV,iZ⟩:=MC ar ar.size (Zi _)
     intro t ac _ bb
     apply aH.Ea t ac
     split at bb
     ·rename_i W bK
      obtain⟨b3,b7,cS⟩:=eV t W bK
      left
      refine⟨W,j7 W b3,b7,λpO KV tk=> ?_,bb⟩
      rcases zb W pO with c2|CA
      ·exact absurd tk (cS pO c2 (aH.yy pO KV))
      ·exact CA
     ·rename_i bK
      exact .inr ⟨λW KV=>iZ t bK W (aH.yy W KV),bb⟩
    exact gp _ _ _ _ _ _ _ _ _ _ _ _ v a S ad w b0 tmps bx ai (aC.state (.plain aD (acz bD aH.size e4)))
   ·simp at a
 |cons i k mB=>
  intro S ad w tmps dp aC aD aH aF Ue
  cases aF with
  |cons bj rm mb tx=>
   rename_i U
   have aN:i<ar.size:=(ZN.1 bj).1
   obtain⟨p,x,o',f1,fD,z3,z4,z5,sI⟩:=Ap aH.st i aN
   have atX:o'=U:=by
    have:=z5.oper
    rw[z4,bj]at this
    exact(YB this).symm
   subst atX
   have Pn:=aoO aH.st aH.closed aH.yy aH.Ea fD bj rm mb
   have O0:=JX aH.closed (PN fD) (by rw[z3];exact bj) mb
   have aA:=z5
   have bU:=aA.g
   have ET:=aA.op
   have cA:=aA.reads
   rw[z4]at bU ET cA
   have AV:∀kF,Sub kF aq->jv S ad (ld tmps) (ji (is ar i) kF H) o'.op.operands.toList:=by
    intro kF A6
    refine acj (X:=λt=>bit p.r t=true) (λt ac bZ bb=>Pn t ac bZ ?_) (λt a6=>ayS sI a6) cA aC.hW
    split at bb
    ·exact A6 _ _ bb
    ·exact bb
   have TR:∀W b t,o'.guard=some (W,b)->xX W (is ar i)=some t->bit p.r t=true:=by
    intro W b t I J
    rw[sI.r,GA,z3]
    have:bit (N8 (is ar i) o'.guard) t=true:=by
     rw[I]
     simp only[N8,J]
     rw[Nh];simp
    rw[this];simp
   have kp:∀(dd:c9) (ac:Value),(ct dd fn bc aJ ro tmps (.inRegion ar (i::k)::bx) .run).finish ac=ct dd fn bc aJ ro (qL tmps o'.dst ac) (.inRegion ar k::bx) .run:=by
    intro dd ac
    rw[NP (g:=ct dd fn bc aJ ro tmps _ .run) rfl bj];rfl
   rcases awj x.op with ⟨gH,pE⟩|⟨gH,pE⟩
   ·
    have KU:(p,x)∈gD C n ao ar:=by rw[Nt];exact YN.2 ⟨Zj f1,gH⟩
    obtain⟨ah,bL⟩:=Z1.1 KU
    have auj:ah=eA:=by
     rcases YV ah eA with c2|E|fO
     ·exact absurd ((aH.done ah _ bL).2 c2) (by simpa only[z3]using rm)
     ·exact E
     ·exfalso
      have fI:ah-1<(gD C n ao ar).length:=zq (Zc.1 bL).1
      have aeS:(gD C n ao ar)[ah-1]? =some ((gD C n ao ar)[ah-1]):=Ze fI
      have adO:=aH.st.chain
      rw[NT]at adO
      have aj:=asR adO (ah-1) ((gD C n ao ar)[ah-1]).1 p (by rw[Zy,aeS];rfl) (by rw[show ah-1+1=ah by omega,Zy,bL];rfl)
      have bT:=O0 _ aj
      have:=(aH.done (ah-1) _ aeS).1 bT
      omega
    subst auj
    have OG:(gD C n ao ar).drop ah=(p,x)::(gD C n ao ar).drop (ah+1):=by
     have c2:=(Zc.1 bL).1
     rw[Zv c2,(Zc.1 bL).2]
    rw[OG]at dm
    simp only at dm
    obtain⟨lL,rr⟩:=dm
    rw[lL]at a
    simp only at a
    have z:ar[((p,x):gk×ft).1.i]? =some o':=by simp only[z3];exact bj
    split at a
    ·simp at a
    ·rename_i WH lM
     have tE:=QJ (zm aN) bU Pn TR (Sub.refl aq) lM
     have aeB:¬dp ((p,x):gk×ft).1.i:=by simpa only[z3]using rm
     have avk:x.i=((p,x):gk×ft).1.i:=by simp only[z3,z4]
     cases WH with
     |false=>
      simp only[j3]at a
      refine .head (Wl bj tE) ?_
      rw[kp]
      rw[avk,rr]at a
      have:=aH.fp bL z aeB mb (v:=undef) trivial aA.dst
      exact gp _ _ _ _ _ _ _ _ _ _ _ _ v a S ad w b0 _ _ ai (aC.state (.drawn aD wd gn this (by simp only[z3];exact tx)))
     |true=>
      simp only[eX]at a
      split at a
      ·rename_i r V
       have mu:=adX aC.V aC.er cI.kx (AV aq (Sub.refl aq)) ET V
       have Li:mT C S ad h b0 j n ao H tmps (.BG ar base aq x.i rest (lo ao ar.toList 0)::q) (.inRegion ar (i::k)::bx):=by
        have ae8:=mT.drawn (b0:=b0) (aN:=j) (k:=k) aD wd gn aH bL z aeB mb (by simp only[z3];exact tx)
        simp only[z3]at ae8
        rw[rr,z4]
        exact ae8
       exact aa3 cI gp aC Li aC.kg (Zi _) bj tE mu a
      ·simp at a
   ·
    have atD:=Zj f1
    have f6:(⟨x,vC p.m (q7 (gD C n ao ar)),CB p.i (q7 (gD C n ao ar))⟩:qf)∈l6 C n ao ar:=by
     rw[Nv];exact ZE.2 ⟨(p,x),YN.2 ⟨atD,by simp[gH]⟩,rfl⟩
    have oS:vC p.m (q7 (gD C n ao ar))<eA+1:=by
     have:=aov p.m (q7 (gD C n ao ar)) eA (λah e bL gq=>by
      rw[NT,Zy]at bL
      cases cr:(gD C n ao ar)[ah]? with
      |none=>rw[cr]at bL;cases bL
      |some bz=>
       rw[cr]at bL;cases bL
       cases aj:bit p.m bz.1.i with
       |false=>rfl
       |true=>have:=(aH.done ah bz cr).1 (O0 _ aj);omega)
     omega
    have Hw:¬dp x.i:=by rw[z4];exact rm
    obtain⟨ac,HP,UH⟩:=aH.ahead _ f6 oS
    obtain⟨wc,kF,b,adB,oY,h9,oO⟩:=UH Hw
    have tE:=QJ (zm aN) bU Pn TR adB oY
    have Ul:ar[x.i]? =some o':=by rw[z4];exact bj
    have Uf:∀Rd:Nat->Prop,(∀W,dp W->Rd W)->∀k∈l6 C n ao ar,k.b0<eA+1->¬Rd k.x.i->∃ac,eo aq k.x.i=some ac/\Jr C h aq H k.x ac:=λRd Eu bV I J am=>Ue bV I J (λah=>am (Eu _ ah))
    have KD:add dp x.i=add dp i:=by rw[z4]
    cases b with
    |false=>
     have:ac=undef:=h9 rfl
     subst this
     refine .head (Wl bj tE) ?_
     rw[kp]
     have io:=aH.ig (dd:=S) (dC:=ad) f6 oS Ul Hw mb HP (λ_ _=>rfl) (λ_ a=>a) (λ_ a=> .inl a) (by trivial) aA.dst
     simp only[KD]at io
     exact mB S ad w _ _ aC aD io tx (Uf _ λ_ a=> .inl a)
    |true=>
     obtain⟨_,K3,_⟩:=oO rfl
     rcases pE with pE|pE
     ·obtain⟨t7,uT,amL,amI,uk,aG,a1,bf,da⟩:=Ue _ f6 oS Hw
      simp only at uT bf da
      rw[HP]at uT;cases uT
      have A9:=QJ (zm aN) bU Pn TR aG bf
      have gn:uk=true:=by rw[<-A9,tE]
      have uM:=da gn pE
      have CK:dq C S ad amI j bu.heap.size w:=aC.V.acu a1
      obtain⟨ba,cj⟩:=afZ CK (AV amL aG) ET uM
      refine .head (FN bj tE ba (.inl rfl)) ?_
      rw[kp]
      have io:=aH.ig (dd:=S) (dC:=ad) f6 oS Ul Hw mb HP (λ_ _=>rfl) (λ_ a=>a) (λ_ a=> .inl a) cj aA.dst
      simp only[KD]at io
      exact mB S ad w _ _ aC aD io tx (Uf _ λ_ a=> .inl a)
     ·obtain⟨cY,bp,hP⟩:=K3 pE
      simp only at bp hP
      have oT:¬ad (base+x.i):=λah=>Hw (aH.ids x.i (by rw[z4];exact aN) ah)
      obtain⟨o7,e6,fq,k2⟩:=agc (w:=w) (S:=S) oT (AV kF adB) (PL ET bp)
      have c2:base+x.i<j:=by rw[z4];omega
      have kJ:=aC.V.alloc (an:=j) (T:=h) (b:=base+x.i) Zo c2 (Zi _) oT aC.er rfl hP (λ_ _=> .inl rfl) k2 (agd (PL ET bp))
      have af:iG C b0 S ad h bu.heap.size w (gs S (base+x.i) ⟨w.heap.size,0,0⟩) (add ad (base+x.i)) h (w.alloc o7):=
       ⟨rL oT,λ_ a=> .inl a,λe a=>a.elim .inl (λa=> .inr Zo),λ_ _ _=>rfl,Below.alloc (Below.refl _ _) aC.er _⟩
      refine .head (FN bj tE e6 (.inl rfl)) ?_
      rw[kp, <-Ip af.iW aC.hV]
      have io:=aH.ig (dd:=gs S (base+x.i) ⟨w.heap.size,0,0⟩) (dC:=add ad (base+x.i)) f6 oS Ul Hw mb HP af.iW af.jP (λ_ a=>a) fq aA.dst
      simp only[KD]at io
      exact mB _ _ _ _ _ (aC.ext kJ af (Zi _)) (aD.ab af.iW af.jP) io tx (Uf _ λ_ a=> .inl a)
end
end Go.bd

