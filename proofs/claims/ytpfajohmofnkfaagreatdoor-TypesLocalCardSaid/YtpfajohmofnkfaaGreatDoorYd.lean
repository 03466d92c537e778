/- A part of the last text's proof; no condition of its own -/
import Derived.Test.YtpfajohmofnkfaaGreatDoorYc
import Derived.Defers
import Derived.RangeFuncRecord
import Derived.Orders
set_option maxHeartbeats 8000000
set_option linter.all false
namespace Go.bi
open Go.RowKit (Below)
def pQ(tmps:Array Value)(dst:Option Nat)(v:Value):Array Value:=match dst with|some d=>tmps.setIfInBounds d v|none=>tmps
def NH(tmps:Array Value)(dst:Option Nat)(v:Value):(pQ tmps dst v).size=tmps.size:=by cases dst<;>simp[pQ]
def aeb(tmps:Array Value)(dst:Option Nat)(v:Value)(t:Nat)(a:∀d,dst=some d->d<tmps.size):(pQ tmps dst v)[t]? =if dst=some t then some v else tmps[t]? :=by
 cases dst with
 |none=>simp[pQ]
 |some d=>
  have:=a d rfl
  simp only[pQ,Zf,Array.getElem?_setIfInBounds]
  by_cases J:d=t
  ·subst J;simp[this]
  ·simp[J]
def Sub(aw hr:List (Nat×F)):Prop:=∀aa ae,ep aw aa=some ae->ep hr aa=some ae
def Sub.refl(aw:List (Nat×F)):Sub aw aw:=λ_ _ a=>a
def Sub.trans{K b c:List (Nat×F)}(a:Sub K b)(B:Sub b c):Sub K c:=λaa ae bG=>B aa ae (a aa ae bG)
def Sub.cons{aw:List (Nat×F)}{i:Nat}{v:F}(a:ep aw i=none):Sub aw ((i,v)::aw):=λaa ae bG=>by
 rw[qS,Zg]
 ·exact bG
 ·intro J;subst J;rw[a]at bG;cases bG
def pj(C:aZ)(h T:V an):Prop:=∀x,ab C h x=ab C T x\/ab C h x=none
inductive v8(ax:Array Oper):(Nat->Prop)->List Nat->Prop
 |nil {dk}:(∀i,i<ax.size->dk i)->v8 ax dk []
 |cons {dk i Y l}:ax[i]? =some Y->¬dk i->(∀J∈Y.after.toList,Region.binds .any J=true->dk J.on)->v8 ax (add dk i) l->v8 ax dk (i::l)
noncomputable def wl(C:aZ)(n av:Nat)(ax:Array Oper):List fi:=(rO C n av ax.toList 0 []).getD []
noncomputable def oy(ax:Array Oper):List gh:=Bp ax.toList 0 [] []
noncomputable def gz(C:aZ)(n av:Nat)(ax:Array Oper):List (gh×fi):=Fh (oy ax) (wl C n av ax)
noncomputable def lv(C:aZ)(n av:Nat)(ax:Array Oper):List pk:=F4 (qa (gz C n av ax)) (oy ax) (wl C n av ax)
structure pi(C:aZ)(n av:Nat)(ax:Array Oper):Prop where
 ala:rO C n av ax.toList 0 []=some (wl C n av ax)
 azk:DE ax.toList 0=true
 au9:JE (oy ax)=true
 chain:Iu (qa (gz C n av ax))=true
section
variable{C:aZ}{n av:Nat}{ax:Array Oper}
def Pv(a:pi C n av ax):(wl C n av ax).length=ax.size/\∀aa x,(wl C n av ax)[aa]? =some x->x.i=aa/\∃Y,Kp C n av ax x Y:=by
 have b6:=a.ala
 have:=akW (ax:=ax) ax.toList 0 _ Zs (by rw[Kh];exact b6)
 exact⟨by simpa using this.1,λaa x ah=>by simpa using this.2 aa x ah⟩
def Hv(ax:Array Oper):(oy ax).length=ax.size/\(∀aa p,(oy ax)[aa]? =some p->p.i=aa/\∃Y,Eg ax p Y):=by
 have:=adk (ax:=ax) ax.toList 0 [] Zs Zs
 rw[Kh]at this
 exact⟨by unfold oy;simpa using this.1,λaa p az=>by simpa using this.2.1 aa p az⟩
noncomputable def qU(C:aZ)(n av:Nat)(ax:Array Oper):List (gh×fi):=(oy ax).zip (wl C n av ax)
def xX(a:pi C n av ax)(i:Nat)(aJ:i<ax.size):∃p x Y,(qU C n av ax)[i]? =some (p,x)/\(oy ax)[i]? =some p/\p.i=i/\x.i=i/\Kp C n av ax x Y/\Eg ax p Y:=by
 obtain⟨bh,cl⟩:=Pv a
 obtain⟨c0,dL⟩:=Hv ax
 have ah:(wl C n av ax)[i]? =some ((wl C n av ax)[i]'Zo):=Ze _
 have az:(oy ax)[i]? =some ((oy ax)[i]'Zo):=Ze _
 obtain⟨dt,Y,dG⟩:=cl _ _ ah
 obtain⟨cX,o',cP⟩:=dL _ _ az
 have:o'=Y:=by
  have bD:=dG.oper;have cF:=cP.oper
  rw[dt]at bD;rw[cX]at cF
  rw[bD]at cF;exact(Yx cF).symm
 subst this
 refine⟨_,_,o', ?_,az,cX,dt,dG,cP⟩
 unfold qU
 rw[List.getElem?_zip_eq_some]
 exact⟨az,ah⟩
def xY(a:pi C n av ax){e:gh×fi}(H:e∈qU C n av ax):∃Y,e.1.i<ax.size/\e.2.i=e.1.i/\(qU C n av ax)[e.1.i]? =some e/\(oy ax)[e.1.i]? =some e.1/\Kp C n av ax e.2 Y/\Eg ax e.1 Y:=by
 obtain⟨aa,bG⟩:=Z1.1 H
 have fD:(qU C n av ax).length=ax.size:=by
  unfold qU
  rw[List.length_zip,(Pv a).1,(Hv ax).1,Nat.min_self]
 have c1:aa<ax.size:=zt (Zb.1 bG).1
 obtain⟨p,x,Y,Q,U,ar,aK,bH,cu⟩:=xX a aa c1
 rw[bG]at Q
 cases Q
 refine⟨Y,by simp only;omega,by simp only;omega, ?_, ?_,bH,cu⟩
 ·simp only[ar];exact bG
 ·simp only[ar];exact U
def KS:gz C n av ax=(qU C n av ax).filter λ(x:gh×fi)=>nr x.2.op:=apA _ _
def KU:lv C n av ax=((qU C n av ax).filter λ(x:gh×fi)=> !nr x.2.op).map λ(x:gh×fi)=>⟨x.2,ua x.1.m (qa (gz C n av ax)),AU x.1.i (qa (gz C n av ax))⟩:=atu _ _ _
def KW{l:pk}(aC:l∈lv C n av ax):∃p,(p,l.x)∈qU C n av ax/\nr l.x.op=false/\l.bS=ua p.m (qa (gz C n av ax))/\l.aJ=AU p.i (qa (gz C n av ax)):=by
 rw[KU]at aC
 obtain⟨e,H,rfl⟩:=ZT.1 aC
 obtain⟨Q,U⟩:=YN.1 H
 exact⟨e.1,Q,by simpa using U,rfl,rfl⟩
def KT{e:gh×fi}(H:e∈gz C n av ax):e∈qU C n av ax/\nr e.2.op=true:=by
 rw[KS]at H
 exact YN.1 H
def Xl(a:pi C n av ax)(i:Nat)(aJ:i<ax.size):(∃l∈lv C n av ax,l.x.i=i)\/(∃(p:Nat) (e:gh×fi),(gz C n av ax)[p]? =some e/\e.1.i=i):=by
 obtain⟨p,x,Y,Q,U,ar,aK,bH,cu⟩:=xX a i aJ
 have bp:=Zl Q
 cases gD:nr x.op with
 |true=>
  refine .inr ?_
  have:(p,x)∈gz C n av ax:=by rw[KS];exact YN.2 ⟨bp,gD⟩
  obtain⟨am,b1⟩:=Z1.1 this
  exact⟨am,_,b1,ar⟩
 |false=>
  refine .inl ⟨_,by rw[KU];exact ZT.2 ⟨(p,x),YN.2 ⟨bp,by simp[gD]⟩,rfl⟩,aK⟩
def Xk(a:pi C n av ax):(qU C n av ax).Pairwise λK b=>K.1.i<b.1.i:=by
 rw[YR]
 intro i aa aJ bG Me
 have fD:(qU C n av ax).length=ax.size:=by
  unfold qU
  rw[List.length_zip,(Pv a).1,(Hv ax).1,Nat.min_self]
 obtain⟨p,x,Y,Q,U,ar,_⟩:=xX a i Zo
 obtain⟨aBk,iC,o',tc,E0,azq,_⟩:=xX a aa Zo
 rw[Ze aJ]at Q
 rw[Ze bG]at tc
 rw[Yx Q,Yx tc]
 simp only;omega
def Xj(a:pi C n av ax){p am:Nat}{e bt:gh×fi}(az:(gz C n av ax)[p]? =some e)(b1:(gz C n av ax)[am]? =some bt)(bx:e.1.i=bt.1.i):p=am:=by
 have IM:(gz C n av ax).Pairwise λK b=>K.1.i<b.1.i:=by rw[KS];exact(Xk a).filter _
 rw[YR]at IM
 obtain⟨Q,U⟩:=Zb.1 az
 obtain⟨ar,aK⟩:=Zb.1 b1
 rcases YU p am with c1|rfl|gK
 ·have:=IM p am Q ar c1
  rw[U,aK]at this;omega
 ·rfl
 ·have:=IM am p ar Q gK
  rw[U,aK]at this;omega
def Pw(a:pi C n av ax):(lv C n av ax).Pairwise λK b=>K.x.i<b.x.i:=by
 rw[KU,List.pairwise_map]
 have Q:((qU C n av ax).filter λ(x:gh×fi)=> !nr x.2.op).Pairwise λK b=>K.1.i<b.1.i:=(Xk a).filter _
 refine Q.imp_of_mem λ{K b} aE aj c1=> ?_
 obtain⟨_,_,bD,_⟩:=xY a (YN.1 aE).1
 obtain⟨_,_,cF,_⟩:=xY a (YN.1 aj).1
 show K.2.i<b.2.i
 rw[bD,cF];exact c1
def KV(a:pi C n av ax){l:pk}(aC:l∈lv C n av ax):l.x.i<ax.size:=by
 obtain⟨p,az,_⟩:=KW aC
 obtain⟨_,Q,U,_⟩:=xY a az
 simp only at Q U;omega
def alH(a:pi C n av ax){e:gh×fi}(H:e∈gz C n av ax):e.1.i<ax.size/\e.2.i=e.1.i:=by
 obtain⟨_,Q,U,_⟩:=xY a (KT H).1
 exact⟨Q,U⟩
def BQ(ax:Array Oper)(dk:Nat->Prop):Prop:=∀i Y,ax[i]? =some Y->dk i->∀J∈Y.after.toList,Region.binds .any J=true->dk J.on
def Hw{dk:Nat->Prop}(bT:BQ ax dk){p:gh}(az:p∈oy ax){Y:Oper}(bl:ax[p.i]? =some Y)
 (lB:∀J∈Y.after.toList,Region.binds .any J=true->dk J.on):∀K,fq p.m K=true->dk K:=by
 have key:=(adk (ax:=ax) ax.toList 0 [] Zs Zs).2.2 (λi m=>(∀Y,ax[i]? =some Y->∀J∈Y.after.toList,Region.binds .any J=true->dk J.on)->∀K,fq m K=true->dk K) Zs
  (λaa Y m bG _ bp lB K aE=>by
   obtain⟨J,Q,U,ar⟩:=bp K aE
   have bx:=lB Y bG J Q U
   rcases ar with rfl|⟨gm,aK,bH⟩
   ·exact bx
   ·exact aK (λo' Fr ia apu jI=>bT J.on o' Fr bx ia apu jI) K bH)
 rw[Kh]at key
 exact key p az (λo' Fr=>by rw[bl]at Fr;cases Fr;exact lB)
end
structure Kl(C:aZ)(af:Nat->Prop)(h:V an)(base:Nat)(aw:List (Nat×F))(M:V F)(x:fi)(ae:F):Prop where
 key:ep aw x.i=some ae
 ok:∃kb b,Sub kb aw/\om x.g kb=some b/\(b=false->ae=undef)/\(b=true->(nr x.op=false)/\
  (mu x.op= .make->∃cT,nO x.op C (base+x.i) kb M=some (ae,cT)/\ab C h (base+x.i)=some cT)/\
  (mu x.op= .hV->BH x.op=false->∀kk,gS x.op C kk kb M=some ae))
def G1(C:aZ)(h:V an)(aw:List (Nat×F))(M:V F)(x:fi)(ae:F):Prop:=
 ∃kb kk b,Sub kb aw/\pj C kk h/\om x.g kb=some b/\(b=true->mu x.op= .hV->gS x.op C kk kb M=some ae)
def y9(R:c6)(af:Nat->Prop)(av:Nat)(ax:Array Oper)(dk:Nat->Prop)(aw:List (Nat×F))(M:V F)(tmps:Array Value):Prop:=
 ∀t v,((∃aa,dk aa/\rQ ax aa=some t/\(∀oR,dk oR->rQ ax oR=some t->oR<=aa)/\ep aw aa=some v)\/((∀aa,dk aa->rQ ax aa≠some t)/\fq av t=true/\M.get t=some v))->
  tmps[t]? =some (aQ R v)/\cj af v
structure qK(C:aZ)(R:c6)(af:Nat->Prop)(h:V an)(base n av:Nat)(ax:Array Oper)(aw:List (Nat×F))(B m:Nat)(M:V F)(tmps:Array Value)(dk:Nat->Prop):Prop where
 st:pi C n av ax
 size:tmps.size=n
 M3:B<=(gz C n av ax).length
 c9:C.a8<=base
 closed:BQ ax dk
 w4:∀i,dk i->i<ax.size
 done:∀p a,(gz C n av ax)[p]? =some a->(dk a.1.i↔p<B)
 tv:∀l∈lv C n av ax,dk l.x.i->l.bS<m
 keys:∀i ae,ep aw i=some ae->(∃l∈lv C n av ax,l.x.i=i/\l.bS<m)\/(∃p a,(gz C n av ax)[p]? =some a/\a.1.i=i/\p<B)
 uD:∀p a,(gz C n av ax)[p]? =some a->p<B->∃ae,ep aw a.1.i=some ae
 ahead:∀l∈lv C n av ax,l.bS<m->∃ae,ep aw l.x.i=some ae/\(¬dk l.x.i->Kl C af h base aw M l.x ae)
 Ci:y9 R af av ax dk aw M tmps
 ids:∀i,i<ax.size->af (base+i)->dk i
 free:∀i,i<ax.size->ep aw i=none->ab C h (base+i)=none
section
variable{C:aZ}{R db:c6}{af dB:Nat->Prop}{h T:V an}{j au bj:Nat}{w bW:World}
def ou.ad{av:Nat}{X:Nat->Prop}{eh:List (Nat×Nat)}{aw:List (Nat×F)}{M:V F}{tmps:Array Value}(dJ:∀b,af b->db b=R b)(gB:∀b,af b->dB b)(a:ou R af av X eh aw M tmps):ou db dB av X eh aw M tmps:=
 λt v ah bB=>by
  obtain⟨Q,U⟩:=a t v ah bB
  exact⟨by rw[Q,p4 dJ U],oE gB v U⟩
def y9.ad{av:Nat}{ax:Array Oper}{dk:Nat->Prop}{aw:List (Nat×F)}{M:V F}{tmps:Array Value}(dJ:∀b,af b->db b=R b)(gB:∀b,af b->dB b)(a:y9 R af av ax dk aw M tmps):y9 db dB av ax dk aw M tmps:=
 λt v bB=>by
  obtain⟨Q,U⟩:=a t v bB
  exact⟨by rw[Q,p4 dJ U],oE gB v U⟩
def rB.ad(dJ:∀b,af b->db b=R b)(gB:∀b,af b->dB b)(a:rB C R af):rB C db dB:=λg b5=>by
 obtain⟨Q,U,ar⟩:=a g b5
 exact⟨gB g Q,by rw[dJ g Q];exact U,by rw[dJ g Q];exact ar⟩
def qK.ad{de base n av B m:Nat}{ax:Array Oper}{aw:List (Nat×F)}{M:V F}{tmps:Array Value}{dk:Nat->Prop}(ah:il C de R af h bj w db dB T bW)(aC:base+ax.size<=de)
 (a:qK C R af h base n av ax aw B m M tmps dk):qK C db dB T base n av ax aw B m M tmps dk:=by
 have Fl:∀i,i<ax.size->dB (base+i)->dk i:=λi aJ aM=>(ah.new _ aM).elim (a.ids i aJ) (λam=>Zo)
 refine⟨a.st,a.size,a.M3,a.c9,a.closed,a.w4,a.done,a.tv,a.keys,a.uD, ?_,a.Ci.ad ah.iA ah.jt,Fl, ?_⟩
 ·intro l hk nU
  obtain⟨ae,Q,U⟩:=a.ahead l hk nU
  refine⟨ae,Q,λbT=> ?_⟩
  obtain⟨ar,kb,b,aK,bH,cu,dM⟩:=U bT
  refine⟨ar,kb,b,aK,bH,cu,λaj=> ?_⟩
  obtain⟨fs,jW,rW⟩:=dM aj
  refine⟨fs,λaN=> ?_,rW⟩
  obtain⟨cT,uo,ye⟩:=jW aN
  refine⟨cT,uo, ?_⟩
  have c1:=KV a.st hk
  rw[ah.ad _ (λaM=>bT (a.ids _ c1 aM)) Zo]
  exact ye
 ·intro i aJ bB
  rw[ah.ad _ ?_ Zo]
  ·exact a.free i aJ bB
  ·intro aM
   have bT:=a.ids i aJ aM
   rcases Xl a.st i aJ with ⟨l,qm,nT⟩|⟨p,e,az,H⟩
   ·obtain⟨ae,be,_⟩:=a.ahead l qm (a.tv l qm (by rw[nT];exact bT))
    rw[nT,bB]at be;cases be
   ·obtain⟨ae,be⟩:=a.uD p e az ((a.done p e az).1 (by rw[H];exact bT))
    rw[H,bB]at be;cases be
end
end Go.bi

namespace Go.bi
open Go.RowKit (Below)
section
variable{C:aZ}{R db:c6}{af dB:Nat->Prop}{h T:V an}{j au bj:Nat}{w bW:World}{n av:Nat}{ax:Array Oper}
def acR{K b t:Nat}(Q:fq K t=true)(U:fq b t=true):Nat.beq (Nat.land K b) 0=false:=by
 cases a:Nat.beq (Nat.land K b) 0 with
 |false=>rfl
 |true=>
  have J:=Zj a
  have:=akK K b t
  rw[J,KI,Q,U]at this
  cases this
def NF{p:gh}{Y:Oper}(a:Eg ax p Y){t:Nat}(aM:Y.dst=some t):fq p.w t=true:=by rw[a.w];exact alR.2 aM
def avA{p:gh}{Y:Oper}(a:Eg ax p Y){t:Nat}(Z:Operand.tmp t∈Y.op.operands.toList):fq p.r t=true:=by
 rw[a.r,Ex,auY.2 Z];rfl
def Pl(a:pi C n av ax){i aa:Nat}{p am:gh}(Me:i<aa)(az:(oy ax)[i]? =some p)(b1:(oy ax)[aa]? =some am){t:Nat}
 (aB:(fq p.w t=true/\(fq am.r t=true\/fq am.w t=true))\/(fq am.w t=true/\fq p.r t=true)):fq am.m i=true:=by
 have:=auL a.au9 i aa p am Me az b1
 have IL:p.i=i:=((Hv ax).2 i p az).1
 unfold Nr at this
 rw[IL]at this
 rcases aB with ⟨Q,U⟩|⟨Q,U⟩
 ·have ar:fq (Nat.lor am.r am.w) t=true:=by rw[Ex];rcases U with U|U<;>simp[U]
  rw[acR Q ar]at this
  simpa using this
 ·rw[acR Q U]at this
  simpa using this
def Nc{i:Nat}{p:gh}(az:(oy ax)[i]? =some p):p∈oy ax:=Zl az
def alI(di:pi C n av ax){dk:Nat->Prop}{aw:List (Nat×F)}{M:V F}{tmps:Array Value}(ib:BQ ax dk)(Iz:∀i,dk i->i<ax.size)(aM:y9 R af av ax dk aw M tmps)
 {i:Nat}{p:gh}{Y:Oper}(az:(oy ax)[i]? =some p)(bl:ax[i]? =some Y)(qn:¬dk i)(lB:∀J∈Y.after.toList,Region.binds .any J=true->dk J.on):
 ou R af av (λt=>fq p.r t=true) (h8 ax i) aw M tmps:=by
 have aJ:i<ax.size:=(ZQ.1 bl).1
 obtain⟨_,eZ,ji⟩:=Ki ax i (zo aJ)
 have IL:p.i=i:=((Hv ax).2 i p az).1
 have Mp:=Hw ib (Nc az) (by rw[IL];exact bl) lB
 have acU:∀t aa,fq p.r t=true->i<aa->dk aa->rQ ax aa=some t->False:=by
  intro t aa Z Me bT uw
  obtain⟨am,x,vk,_,b1,wY,_,ah,yy⟩:=xX di aa (Iz aa bT)
  have yw:ax[aa]? =some vk:=by rw[<-wY];exact yy.oper
  have bJ:=NF yy (t:=t) (by rw[<-Hz yw];exact uw)
  have aj:=Pl di Me az b1 (.inr ⟨bJ,Z⟩)
  have:=Hw ib (Nc b1) (by rw[wY];exact yw) (ib aa vk yw bT) i aj
  exact qn this
 intro t v bQ bB
 apply aM t v
 split at bB
 ·rename_i aa bG
  obtain⟨b4,b7,cN⟩:=eZ t aa bG
  left
  have ap6:aa<ax.size:=Zo
  obtain⟨am,x,vk,_,b1,wY,_,ah,yy⟩:=xX di aa ap6
  have yw:ax[aa]? =some vk:=by rw[<-wY];exact yy.oper
  have bJ:=NF yy (t:=t) (by rw[<-Hz yw];exact b7)
  have aj:=Pl di b4 b1 az (.inl ⟨bJ, .inl bQ⟩)
  refine⟨aa,Mp aa aj,b7,λoR Cy r2=> ?_,bB⟩
  rcases YU oR i with Q|Q|Q
  ·rcases Y1 aa oR with U|U
   ·exact absurd r2 (cN oR U Q)
   ·exact U
  ·exact absurd (Q▸Cy) qn
  ·exact(acU t oR bQ Q Cy r2).elim
 ·rename_i bG
  right
  refine⟨λaa bT uw=> ?_,bB.1,bB.2⟩
  rcases YU aa i with Q|Q|Q
  ·exact ji t bG aa Q uw
  ·exact qn (Q▸bT)
  ·exact acU t aa bQ Q bT uw
def y9.put(di:pi C n av ax){dk:Nat->Prop}{aw hr:List (Nat×F)}{M:V F}{tmps:Array Value}(ib:BQ ax dk)(Iz:∀i,dk i->i<ax.size)(aM:y9 R af av ax dk aw M tmps)(eN:tmps.size=n)
 {i:Nat}{Y:Oper}{v:F}(bl:ax[i]? =some Y)(qn:¬dk i)(QK:∀aa,dk aa->∀ae,ep hr aa=some ae->ep aw aa=some ae)(aoT:ep hr i=some v)(oI:∀d,Y.dst=some d->d<n)(fk:cj af v):
 y9 R af av ax (add dk i) hr M (pQ tmps Y.dst (aQ R v)):=by
 have aJ:i<ax.size:=(ZQ.1 bl).1
 have QZ:=Hz bl
 have Fx:∀t,(pQ tmps Y.dst (aQ R v))[t]? =if Y.dst=some t then some (aQ R v)else tmps[t]? :=λt=>aeb _ _ _ _ (by rw[eN];exact oI)
 intro t ae a
 rw[Fx]
 by_cases Fg:Y.dst=some t
 ·rw[Zq Fg]
  rcases a with ⟨aa,bT,uw,wS,be⟩|⟨Q,_⟩
  ·
   have abi:aa=i:=by
    rcases bT with bT|bT
    ·have gl:=wS i (.inr rfl) (by rw[QZ];exact Fg)
     rcases Y1 i aa with c1|wO
     ·exfalso
      obtain⟨p,x,SP,_,az,IL,_,_,C0⟩:=xX di i aJ
      obtain⟨am,iC,vk,_,b1,wY,_,_,yy⟩:=xX di aa (Iz aa bT)
      have yw:ax[aa]? =some vk:=by rw[<-wY];exact yy.oper
      have aqD:SP=Y:=by
       have:=C0.oper
       rw[IL,bl]at this
       exact(Yx this).symm
      subst aqD
      have aj:=Pl di c1 az b1 (.inl ⟨NF C0 Fg, .inr (NF yy (by rw[<-Hz yw];exact uw))⟩)
      exact qn (Hw ib (Nc b1) (by rw[wY];exact yw) (ib aa vk yw bT) i aj)
     ·omega
    ·exact bT
   subst abi
   rw[aoT]at be
   cases be
   exact⟨rfl,fk⟩
  ·exact absurd (by rw[QZ];exact Fg) (Q i (.inr rfl))
 ·rw[Zg Fg]
  apply aM t ae
  rcases a with ⟨aa,bT,uw,wS,be⟩|⟨Q,U⟩
  ·left
   have Cy:dk aa:=bT.resolve_right λJ=>Fg (by rw[<-QZ, <-J];exact uw)
   exact⟨aa,Cy,uw,λoR IA r2=>wS oR (.inl IA) r2,QK aa Cy ae be⟩
  ·right
   exact⟨λaa bG=>Q aa (.inl bG),U⟩
def BQ.add{dk:Nat->Prop}(ib:BQ ax dk){i:Nat}{Y:Oper}(bl:ax[i]? =some Y)(lB:∀J∈Y.after.toList,Region.binds .any J=true->dk J.on):BQ ax (add dk i):=by
 intro aa vk bG bT J bx aj
 rcases bT with bT|bT
 ·exact .inl (ib aa vk bG bT J bx aj)
 ·subst bT
  rw[bl]at bG;cases bG
  exact .inl (lB J bx aj)
def M7(di:pi C n av ax){l:pk}(aC:l∈lv C n av ax){p:Nat}{e:gh×fi}(az:(gz C n av ax)[p]? =some e):l.x.i≠e.1.i:=by
 intro J
 obtain⟨am,Q,U,_⟩:=KW aC
 obtain⟨ar,aK⟩:=KT (Zl az)
 obtain⟨_,_,b7,cN,_⟩:=xY di Q
 obtain⟨_,_,cw,c4,_⟩:=xY di ar
 simp only at b7 cN
 rw[<-b7,J,c4]at cN
 cases cN
 rw[U]at aK;cases aK
def qK.ff{base eE:Nat}{aw:List (Nat×F)}{M:V F}{tmps:Array Value}{dk:Nat->Prop}(a:qK C R af h base n av ax aw eE (eE+1) M tmps dk){e:gh×fi}(H:(gz C n av ax)[eE]? =some e)
 {Y:Oper}(bl:ax[e.1.i]? =some Y)(qn:¬dk e.1.i)(lB:∀J∈Y.after.toList,Region.binds .any J=true->dk J.on){v:F}(fk:cj af v)(oI:∀d,Y.dst=some d->d<n):
 qK C R af h base n av ax ((e.1.i,v)::aw) (eE+1) (eE+1) M (pQ tmps Y.dst (aQ R v)) (add dk e.1.i):=by
 have Q5:ep aw e.1.i=none:=by
  cases bB:ep aw e.1.i with
  |none=>rfl
  |some ae=>
   exfalso
   rcases a.keys _ ae bB with ⟨l,Q,U,_⟩|⟨p,bt,Q,U,ar⟩
   ·exact M7 a.st Q H U
   ·have:=Xj a.st Q H U;omega
 have yB:Sub aw ((e.1.i,v)::aw):=Sub.cons Q5
 have aJ:e.1.i<ax.size:=(ZQ.1 bl).1
 refine⟨a.st,by rw[NH];exact a.size,zt (Zb.1 H).1,a.c9,a.closed.add bl lB, ?_, ?_, ?_, ?_, ?_, ?_, ?_, ?_, ?_⟩
 ·rintro i (bT|bT)
  ·exact a.w4 i bT
  ·omega
 ·intro p bt cv
  constructor
  ·rintro(bT|bT)
   ·have:=(a.done p bt cv).1 bT;omega
   ·have:=Xj a.st cv H bT;omega
  ·intro az
   rcases Y1 p eE with c1|wO
   ·exact .inl ((a.done p bt cv).2 c1)
   ·have:p=eE:=Zo
    subst this
    rw[H]at cv;cases cv
    exact .inr rfl
 ·rintro l aC (bT|bT)
  ·exact a.tv l aC bT
  ·exact(M7 a.st aC H bT).elim
 ·intro i ae be
  rw[qS]at be
  split at be
  ·rename_i J
   exact .inr ⟨eE,e,H,J,Zo⟩
  ·rcases a.keys i ae be with Q|⟨p,bt,Q,U,ar⟩
   ·exact .inl Q
   ·exact .inr ⟨p,bt,Q,U,Zo⟩
 ·intro p bt cv az
  rw[qS]
  split
  ·exact⟨v,rfl⟩
  ·rename_i dD
   have:p≠eE:=λJ=>by subst J;rw[H]at cv;cases cv;exact dD rfl
   exact a.uD p bt cv Zo
 ·intro l aC nU
  obtain⟨ae,Q,U⟩:=a.ahead l aC nU
  refine⟨ae,yB _ _ Q,λbT=> ?_⟩
  obtain⟨_,kb,b,aK,bH⟩:=U (λam=>bT (.inl am))
  exact⟨yB _ _ Q,kb,b,aK.trans yB,bH⟩
 ·refine a.Ci.put a.st a.closed a.w4 a.size bl qn ?_ (by rw[qS,Zq rfl]) oI fk
  intro aa bT ae be
  rw[qS,Zg]at be
  ·exact be
  ·intro J;subst J;exact qn bT
 ·intro i kP aM
  exact .inl (a.ids i kP aM)
 ·intro i kP bB
  rw[qS]at bB
  split at bB
  ·cases bB
  ·exact a.free i kP bB
def qK.hV{base eE m:Nat}{aw:List (Nat×F)}{M:V F}{tmps:Array Value}{dk:Nat->Prop}(a:qK C R af h base n av ax aw eE m M tmps dk){l:pk}(aC:l∈lv C n av ax)(nU:l.bS<m)
 {Y:Oper}(bl:ax[l.x.i]? =some Y)(qn:¬dk l.x.i)(lB:∀J∈Y.after.toList,Region.binds .any J=true->dk J.on){v:F}(bB:ep aw l.x.i=some v)
 (dJ:∀b,af b->db b=R b)(gB:∀b,af b->dB b)(aob:∀b,dB b->af b\/b=base+l.x.i)(fk:cj dB v)(oI:∀d,Y.dst=some d->d<n):
 qK C db dB h base n av ax aw eE m M (pQ tmps Y.dst (aQ db v)) (add dk l.x.i):=by
 have aJ:l.x.i<ax.size:=(ZQ.1 bl).1
 refine⟨a.st,by rw[NH];exact a.size,a.M3,a.c9,a.closed.add bl lB, ?_, ?_, ?_,a.keys,a.uD, ?_, ?_, ?_,a.free⟩
 ·rintro i (bT|bT)
  ·exact a.w4 i bT
  ·omega
 ·intro p bt cv
  constructor
  ·rintro(bT|bT)
   ·exact(a.done p bt cv).1 bT
   ·exact(M7 a.st aC cv bT.symm).elim
  ·intro az
   exact .inl ((a.done p bt cv).2 az)
 ·rintro b8 hk (bT|bT)
  ·exact a.tv b8 hk bT
  ·have:=(Pw a.st)
   by_cases am:b8=l
   ·rw[am];exact nU
   ·exfalso
    obtain⟨K,aE⟩:=Z1.1 hk
    obtain⟨b,aj⟩:=Z1.1 aC
    obtain⟨Ii,ng⟩:=Zb.1 aE
    obtain⟨nQ,nh⟩:=Zb.1 aj
    rw[YR]at this
    rcases YU K b with c1|J|gK
    ·have:=this K b Ii nQ c1
     rw[ng,nh]at this;omega
    ·subst J
     rw[ng]at nh;exact am nh
    ·have:=this b K nQ Ii gK
     rw[ng,nh]at this;omega
 ·intro b8 hk aqe
  obtain⟨ae,Q,U⟩:=a.ahead b8 hk aqe
  refine⟨ae,Q,λbT=> ?_⟩
  obtain⟨ar,kb,b,aK,bH,cu,dM⟩:=U (λam=>bT (.inl am))
  exact⟨ar,kb,b,aK,bH,cu,dM⟩
 ·exact(a.Ci.ad dJ gB).put a.st a.closed a.w4 a.size bl qn (λ_ _ _ am=>am) bB oI fk
 ·intro i kP aM
  rcases aob _ aM with aM|aM
  ·exact .inl (a.ids i kP aM)
  ·exact .inr Zo
end
end Go.bi

namespace Go.bi
open Go.RowKit (Below)
def sU(R:c6)(p:ry):PanicEntry:={v:=aQ R p.v,recovered:=p.recovered}
def gJ(R:c6):kD->FrameMode
 | .run=> .run
 | .returning=> .returning
 | .panicking f4=> .panicking (f4.map (sU R))
def qb(af:Nat->Prop):kD->Prop
 | .panicking f4=>∀p∈f4,cj af p.v
 |_=>True
inductive BS(C:aZ)(R:c6)(af:Nat->Prop)(av:Nat):dV->Item->Prop
 |code {c:Code}:lu C av c=true->BS C R af av (.code c) (.code c)
 |inBlock {id:Nat}:BS C R af av (.inBlock id) (.inBlock id)
 |inLoop {b:Code}:lu C av b=true->BS C R af av (.inLoop b) (.inLoop b)
 |inScope {b:Code}:lu C av b=true->BS C R af av (.inScope b) (.inScope b)
 |Cm {l:Nat}:af l->BS C R af av (.endRangeFunc l) (.endRangeFunc (R l).cE)
 |begin:BS C R af av .beginRound .beginRound
inductive lm(C:aZ)(R:c6)(af:Nat->Prop)(av:Nat):List dV->List Item->Prop
 |nil:lm C R af av [] []
 |cons {K x B bv}:BS C R af av K x->lm C R af av B bv->lm C R af av (K::B) (x::bv)
def OK(C:aZ)(R:c6)(af:Nat->Prop)(n av:Nat)(ax:Array Oper)(aw:List (Nat×F))(rest:List fi)(fin:List (Nat×Nat))(M:V F)(tmps:Array Value)(l:List Nat):Prop:=
 ∃i,i<=ax.size/\l=List.range' i (ax.size-i)/\rO C n av (ax.toList.drop i) i (h8 ax i)=some rest/\fin=kL av ax.toList 0/\ou R af av (λ_=>True) (h8 ax i) aw M tmps/\tmps.size=n
def ajG(C:aZ)(R:c6)(af:Nat->Prop)(n av:Nat)(ax:Array Oper)(aw:List (Nat×F))(a:Nat)(rest:List fi)(fin:List (Nat×Nat))(M:V F)(tmps:Array Value)(l:List Nat):Prop:=
 ∃Y,ax[a]? =some Y/\(∀d,Y.dst=some d->d<n)/\l=List.range' (a+1) (ax.size-(a+1))/\rO C n av (ax.toList.drop (a+1)) (a+1) (h8 ax (a+1))=some rest/\fin=kL av ax.toList 0/\
  ou R af av (λ_=>True) (h8 ax a) aw M tmps/\tmps.size=n
inductive B1(C:aZ)(R:c6)(af:Nat->Prop)(h:V an)(de j n av:Nat)(M:V F)(tmps:Array Value):List dV->List Item->Prop
 |plain {B bv}:lm C R af av B bv->je R af n av M tmps->B1 C R af h de j n av M tmps B bv
 |seq {ax aw rest fin l B bv}:lm C R af av B bv->OK C R af n av ax aw rest fin M tmps l->B1 C R af h de j n av M tmps (.GG ax aw rest fin::B) (.inRegion ax l::bv)
 |drawn {ax base aw l B bv dk eE}:lm C R af av B bv->de<=base->base+ax.size<=j->qK C R af h base n av ax aw eE eE M tmps dk->v8 ax dk l->
   B1 C R af h de j n av M tmps (.drawn ax base aw (yN (lv C n av ax) eE ((gz C n av ax).drop eE)) (kL av ax.toList 0)::B) (.inRegion ax l::bv)
inductive md(C:aZ)(R:c6)(af:Nat->Prop)(h:V an)(bS aJ n av:Nat)(M:V F)(tmps:Array Value):List dV->List Item->Prop
 |seq {ax aw a rest fin l B bv}:lm C R af av B bv->ajG C R af n av ax aw a rest fin M tmps l->md C R af h bS aJ n av M tmps (.sJ ax aw a rest fin::B) (.inRegion ax (a::l)::bv)
 |drawn {ax base aw l B bv dk eE e Y}:lm C R af av B bv->bS<=base->base+ax.size<=aJ->qK C R af h base n av ax aw eE (eE+1) M tmps dk->(gz C n av ax)[eE]? =some e->
   ax[e.1.i]? =some Y->¬dk e.1.i->(∀J∈Y.after.toList,Region.binds .any J=true->dk J.on)->v8 ax (add dk e.1.i) l->
   md C R af h bS aJ n av M tmps (.y4 ax base aw e.1.i (yN (lv C n av ax) (eE+1) ((gz C n av ax).drop (eE+1))) (kL av ax.toList 0)::B) (.inRegion ax (e.1.i::l)::bv)
 |da {l B bv}:lm C R af av B bv->je R af n av M tmps->af l->md C R af h bS aJ n av M tmps (.inRangeFunc l::B) (.inRangeFunc (R l).cE::bv)
def Aj(C:aZ)(R:c6)(af:Nat->Prop)(h:V an)(bS aJ n av:Nat)(M:V F)(tmps:Array Value)(bN:kD)(todo:List dV)(bv:List Item):Prop:=match bN with
 | .run=>md C R af h bS aJ n av M tmps todo bv
 |_=>je R af n av M tmps
def cr(R:c6)(fn:Nat)(bd:List hA)(aG:Bool)(ro:Option Nat)(tmps:Array Value)(bv:List Item)(mode:FrameMode):Frame:=
 {fn,tmps,todo:=bv,defers:=bd.map (lr R),mode,kind:=if aG then .deferred else .normal,roundOf:=ro.map λl=>(R l).cE}
structure vY(C:aZ)(af:Nat->Prop)(fn av:Nat)(bd:List hA)(ro:Option Nat):Prop where
 bd:∀d∈bd,wu af d
 ro:∀l,ro=some l->af l
 fn:Ov C fn av
inductive oo(C:aZ)(R:c6)(af:Nat->Prop)(h:V an)(bz:Nat)(bO:List Frame):Nat->List gH->List Frame->Prop
 |nil {de}:oo C R af h bz bO de [] bO
 |cons {bS de fn n av M todo bd bN aG ro cs tmps bv aq}:Aj C R af h bS de n av M tmps bN todo bv->qb af bN->vY C af fn av bd ro->(cs=[]->fn=bz/\aG=false/\ro=none)->bS<=de->oo C R af h bz bO bS cs aq->
   oo C R af h bz bO de (⟨fn,n,av,M,todo,bd,bN,aG,ro⟩::cs) (cr R fn bd aG ro tmps bv (gJ R bN)::aq)
section
variable{C:aZ}{R db:c6}{af dB:Nat->Prop}{h T:V an}{j au bj:Nat}{w bW:World}{n av:Nat}{ax:Array Oper}
def lm.ad{B:List dV}{bv:List Item}(dJ:∀b,af b->db b=R b)(gB:∀b,af b->dB b)(a:lm C R af av B bv):lm C db dB av B bv:=by
 induction a with
 |nil=>exact .nil
 |cons Q _ ak=>
  refine .cons ?_ ak
  cases Q with
  |code a=>exact .code a
  |inBlock=>exact .inBlock
  |inLoop a=>exact .inLoop a
  |inScope a=>exact .inScope a
  |Cm a=>rw[<-dJ _ a];exact .Cm (gB _ a)
  |begin=>exact .begin
def md.ad{bS de:Nat}{M:V F}{tmps:Array Value}{B:List dV}{bv:List Item}(ah:il C de R af h bj w db dB T bW)(a:md C R af h bS de n av M tmps B bv):md C db dB T bS de n av M tmps B bv:=by
 cases a with
 |seq Q U=>
  obtain⟨Y,bh,cl,a3,a4,a5,hB,hY⟩:=U
  exact .seq (Q.ad ah.iA ah.jt) ⟨Y,bh,cl,a3,a4,a5,hB.ad ah.iA ah.jt,hY⟩
 |drawn Q U ar aK bH cu dM fs jW=>exact .drawn (Q.ad ah.iA ah.jt) U ar (aK.ad ah ar) bH cu dM fs jW
 |da Q U ar=>rw[<-ah.iA _ ar];exact .da (Q.ad ah.iA ah.jt) (U.ad ah.iA ah.jt) (ah.jt _ ar)
def Aj.ad{bS de:Nat}{M:V F}{tmps:Array Value}{bN:kD}{B:List dV}{bv:List Item}(ah:il C de R af h bj w db dB T bW)(a:Aj C R af h bS de n av M tmps bN B bv):Aj C db dB T bS de n av M tmps bN B bv:=by
 cases bN with
 |run=>exact md.ad ah a
 |returning=>exact je.ad ah.iA ah.jt a
 |panicking f4=>exact je.ad ah.iA ah.jt a
def vY.ad{fn:Nat}{bd:List hA}{ro:Option Nat}(gB:∀b,af b->dB b)(a:vY C af fn av bd ro):vY C dB fn av bd ro:=
 ⟨λd aM=>ε gB (a.bd d aM),λl aC=>gB l (a.ro l aC),a.fn⟩
def Gd{fn:Nat}{bd:List hA}{aG:Bool}{ro:Option Nat}{tmps:Array Value}{bv:List Item}{mode:FrameMode}(dJ:∀b,af b->db b=R b)(a:vY C af fn av bd ro):cr db fn bd aG ro tmps bv mode=cr R fn bd aG ro tmps bv mode:=by
 unfold cr
 congr 1
 ·exact YE λd aM=>Pc dJ (a.bd d aM)
 ·cases ro with
  |none=>rfl
  |some l=>simp only[ZV,dJ l (a.ro l rfl)]
def akX{bN:kD}(dJ:∀b,af b->db b=R b)(a:qb af bN):gJ db bN=gJ R bN:=by
 cases bN with
 |panicking f4=>
  simp only[gJ]
  congr 1
  exact YE λp az=>by simp only[sU,p4 dJ (a p az)]
 |_=>rfl
def anH{bN:kD}(gB:∀b,af b->dB b)(a:qb af bN):qb dB bN:=by
 cases bN with
 |panicking f4=>exact λp az=>oE gB _ (a p az)
 |_=>trivial
def il.mono{de Jo:Nat}(a:il C de R af h bj w db dB T bW)(aC:Jo<=de):il C Jo R af h bj w db dB T bW:=
 ⟨a.iA,a.jt,λb aj=>(a.new b aj).imp id (λam=>Zo),λb aj c1=>a.ad b aj Zo,a.below⟩
def oo.ad{bz:Nat}{bO:List Frame}{de:Nat}{cs:List gH}{aq:List Frame}(a:oo C R af h bz bO de cs aq)(ah:il C de R af h bj w db dB T bW):oo C db dB T bz bO de cs aq:=by
 induction a with
 |nil=>exact .nil
 |cons Q bp U aK bH cu ak=>
  rw[<-Gd (R:=R) (db:=db) ah.iA U, <-akX ah.iA bp]
  exact .cons (Q.ad ah) (anH ah.jt bp) (U.ad ah.jt) aK bH (ak (ah.mono bH))
def KX(t:Nat):∀(l:List Nat) (M:V F),(wm l M).get t=if t∈l then none else M.get t:=by
 intro l
 induction l with
 |nil=>intro M;simp[wm]
 |cons d l ak=>
  intro M
  simp only[wm,ak,V.kc,Zt]
  by_cases a:t∈l
  ·simp[a]
  ·by_cases J:d=t
   ·subst J;simp
   ·have:¬t=d:=λam=>J am.symm
    simp[a,J,this]
def je.drop{M:V F}{tmps:Array Value}(a:je R af n av M tmps)(l:List Nat):je R af n av (wm l M) tmps:=by
 refine⟨a.size,λt v aj bB=> ?_⟩
 rw[KX]at bB
 split at bB
 ·cases bB
 ·exact a.val t v aj bB
def Xq{l:List Oper}{Y:Oper}{d:Nat}(bl:Y∈l)(aM:Y.dst=some d):d∈dstsOf l:=by
 induction l with
 |nil=>cases bl
 |cons K l ak=>
  simp only[dstsOf]
  rcases Zt.1 bl with rfl|bl
  ·rw[aM];exact Zu ..
  ·split
   ·exact Zr _ (ak bl)
   ·exact ak bl
def md.drop{bS de:Nat}{M:V F}{tmps:Array Value}{B:List dV}{bv:List Item}(a:md C R af h bS de n av M tmps B bv):je R af n av (ud B M) tmps:=by
 cases a with
 |seq Q U=>
  rename_i ax aw a rest fin l B bv
  obtain⟨Y,bh,cl,a3,a4,a5,hB,hY⟩:=U
  refine⟨hY,λt v aj bB=> ?_⟩
  simp only[ud]at bB
  rw[KX]at bB
  split at bB
  ·cases bB
  ·rename_i aL
   have aJ:a<ax.size:=(ZQ.1 bh).1
   obtain⟨_,eZ,_⟩:=Ki ax a (zo aJ)
   apply hB t v trivial
   cases bG:ep (h8 ax a) t with
   |some aa=>
    exfalso
    obtain⟨b4,b7,_⟩:=eZ t aa bG
    unfold rQ at b7
    cases bl:ax[aa]? with
    |none=>rw[bl]at b7;cases b7
    |some o'=>
     rw[bl]at b7
     exact aL (Xq (by rw[Array.mem_toList_iff];exact Y6 bl) b7)
   |none=>exact⟨aj,bB⟩
 |drawn Q U ar aK bH cu dM fs jW=>
  rename_i ax base aw l B bv dk eE e Y
  refine⟨aK.size,λt v aj bB=> ?_⟩
  simp only[ud]at bB
  rw[KX]at bB
  split at bB
  ·cases bB
  ·rename_i aL
   apply aK.Ci t v
   right
   refine⟨λaa bT aM=> ?_,aj,bB⟩
   unfold rQ at aM
   cases bl:ax[aa]? with
   |none=>rw[bl]at aM;cases aM
   |some o'=>
    rw[bl]at aM
    exact aL (Xq (by rw[Array.mem_toList_iff];exact Y6 bl) aM)
 |da Q U ar=>exact U
def Aj.drop{bS de:Nat}{M:V F}{tmps:Array Value}{bN:kD}{B:List dV}{bv:List Item}(a:Aj C R af h bS de n av M tmps bN B bv):je R af n av (ud B M) tmps:=by
 cases bN with
 |run=>exact md.drop a
 |_=>
  have cy:je R af n av M tmps:=a
  unfold ud
  split<;>first|exact cy.drop _|exact cy
def ou.put{M:V F}{aw:List (Nat×F)}{tmps:Array Value}{i:Nat}{Y:Oper}{v:F}(bl:ax[i]? =some Y)(bB:ou R af av (λ_=>True) (h8 ax i) aw M tmps)(aM:∀d,Y.dst=some d->d<tmps.size)(fk:cj af v):
 ou R af av (λ_=>True) (h8 ax (i+1)) ((i,v)::aw) M (pQ tmps Y.dst (aQ R v)):=by
 have aJ:i<ax.size:=(ZQ.1 bl).1
 obtain⟨_,eZ,_⟩:=Ki ax i (zo aJ)
 intro t ae _ a
 rw[aeb _ _ _ _ aM]
 rw[Kg bl,Ep]at a
 split at a
 ·rename_i aa bG
  split at bG
  ·rename_i J
   cases bG
   rw[qS,Zq rfl]at a
   cases a
   rw[Zq J]
   exact⟨rfl,fk⟩
  ·rename_i J
   rw[Zg J]
   have:=(eZ t aa bG).1
   rw[qS,Zg Zo]at a
   exact bB t ae trivial (by rw[bG];exact a)
 ·rename_i bG
  split at bG
  ·cases bG
  ·rename_i J
   rw[Zg J]
   exact bB t ae trivial (by rw[bG];exact a)
def Le{g:Frame}{a:Nat}{l:List Nat}{bv:List Item}{Y:Oper}(b5:g.todo= .inRegion ax (a::l)::bv)(bl:ax[a]? =some Y)(v:Value):
 g.finish v={g with tmps:=pQ g.tmps Y.dst v,todo:= .inRegion ax l::bv}:=by
 unfold Frame.finish
 rw[b5]
 simp only[bl,ZF]
 cases Y.dst<;>rfl
def amE{bS de j n av fn:Nat}{M:V F}{tmps:Array Value}{todo:List dV}{bv:List Item}{bd:List hA}{aG:Bool}{ro:Option Nat}{mode:FrameMode}{v:F}(a:md C R af h bS de n av M tmps todo bv)(aC:de<=j)(fk:cj af v):
 ∃eI B hv hz hP,todo=eI::B/\oC eI v=some hv/\(cr R fn bd aG ro tmps bv mode).finish (aQ R v)=cr R fn bd aG ro hz hP mode/\B1 C R af h bS j n av M hz (hv::B) hP:=by
 cases a with
 |seq Q U=>
  rename_i ax aw a rest fin l B bv
  obtain⟨Y,bh,cl,a3,a4,a5,hB,hY⟩:=U
  have c1:a<ax.size:=(ZQ.1 bh).1
  refine⟨_,B, .GG ax ((a,v)::aw) rest fin,pQ tmps Y.dst (aQ R v), .inRegion ax l::bv,rfl,rfl, ?_, .seq Q ⟨a+1,Zo,a3,a4,a5,hB.put bh (by rw[hY];exact cl) fk,by rw[NH];exact hY⟩⟩
  rw[Le (g:=cr R fn bd aG ro tmps _ mode) rfl bh];rfl
 |drawn Q U ar aK bH cu dM fs jW=>
  rename_i ax base aw l B bv dk eE e Y
  have H:=Zl bH
  have oI:∀d,Y.dst=some d->d<n:=by
   obtain⟨o',b4,b7,cN,ej,fY,dY⟩:=xY aK.st (KT H).1
   have:o'=Y:=by
    have:=dY.oper
    rw[cu]at this
    exact(Yx this).symm
   subst this
   exact fY.dst
  refine⟨_,B, .drawn ax base ((e.1.i,v)::aw) _ _,pQ tmps Y.dst (aQ R v), .inRegion ax l::bv,rfl,rfl, ?_, .drawn Q U (Zz ar aC) (aK.ff bH cu dM fs fk oI) jW⟩
  rw[Le (g:=cr R fn bd aG ro tmps _ mode) rfl cu];rfl
 |da Q U ar=>
  rename_i l B bv
  exact⟨_,B, .endRangeFunc l,tmps, .endRangeFunc (R l).cE::bv,rfl,rfl,rfl, .plain (.cons (.Cm ar) Q) U⟩
def Oc{M:V F}{aw kb:List (Nat×F)}{tmps:Array Value}{X:Nat->Prop}{i:Nat}{Y:Oper}{g:Option (Nat×Bool)}{b:Bool}(aJ:i<=ax.size)(b5:Hm (h8 ax i) Y.guard=some g)(bB:ou R af av X (h8 ax i) aw M tmps)
 (bQ:∀aa b t,Y.guard=some (aa,b)->wn aa (h8 ax i)=some t->X t)(aD:Sub kb aw)(a:om g kb=some b):Region.wanted Y (yielded ax tmps)=b:=by
 obtain⟨eM,_,_⟩:=Ki ax i aJ
 unfold Hm at b5
 unfold Region.wanted
 split at b5
 ·rename_i apU
  simp at b5;subst b5
  simp[om]at a
  rw[apU, <-a]
 ·rename_i aa lk uz
  rw[uz]
  split at b5
  ·rename_i t bc
   split at b5
   ·rename_i oR bG
    rw[hD]at b5
    split at b5
    ·rename_i J
     subst J
     simp at b5;subst b5
     simp only[om]at a
     split at a
     ·rename_i ae be
      have:=bB t ae (bQ aa lk t uz bc) (by rw[bG];exact aD _ _ be)
      have H:yielded ax tmps aa=(match aQ R ae with| .bool b=>some b|_=>none):=by
       unfold yielded
       have aM:=eM aa t bc
       unfold rQ at aM
       rw[aM]
       simp only[ZF,this.1]
       cases aQ R ae<;>rfl
      simp only[H]
      cases ae<;>simp[aQ]at a ⊢ <;>first|(rw[<-a])|exact a|(subst a;rfl)|skip
      all_goals simp_all
     ·simp at a
    ·simp at b5
   ·simp at b5
  ·simp at b5
end
end Go.bi

namespace Go.bi
open Go.RowKit (Below)
structure OA(C:aZ)(br:World):Prop where
 val:∀f args v,C.hc f args=some v->((∀R ik,aQ R v=aQ ik v)/\∀af,cj af v)/\(∀R ik,bY R args=bY ik args)/\∀af,es af args
 ok:∀f args v,C.hc f args=some v->∀R w,Below br.heap.size br w->
  (callFunc f (bY R args).toArray).run C.P w= .ok (.value (aQ R v)) w\/
  ((callFunc f (bY R args).toArray).run C.P w= .ok (.enter f (bY R args).toArray) w/\Calls C.P f (bY R args).toArray w λJ bW=>J= .returned (aQ R v)/\Below w.heap.size w bW)
structure Env(C:aZ)(br:World)(dR:c6)(d3:Nat->Prop):Prop where
 j5:xG C.P
 hc:OA C br
 base:dl C dR d3 .nil C.a8 br.heap.size br
 hK:rB C dR d3
def Ends(C:aZ)(br:World)(bz:Nat)(bO:List Frame)(v:F)(dm:Machine):Prop:=
 ∃R bW fr,Steps C.P dm (lone fr bO bW)/\fr.leaving C.P bW (.returned (aQ R v))/\fr.fn=bz/\Below br.heap.size br bW
structure B0(C:aZ)(br:World)(bz:Nat)(bO:List Frame)(bN:kD)(todo:List dV)(fn n av:Nat)(bd:List hA)(aG:Bool)(ro:Option Nat)(cs:List gH)(M:V F)(h:V an)(j:Nat)
 (R:c6)(af:Nat->Prop)(w:World)(de:Nat)(tmps:Array Value)(bv:List Item)(aq:List Frame):Prop where
 Z:dl C R af h j br.heap.size w
 kI:Below br.heap.size br w
 hK:rB C R af
 jO:de<=j
 hJ:vY C af fn av bd ro
 mode:qb af bN
 bot:cs=[]->fn=bz/\aG=false/\ro=none
 cs:oo C R af h bz bO de cs aq
 todo:match bN with
  | .run=>B1 C R af h de j n av M tmps todo bv
  |_=>je R af n av M tmps
def m6(C:aZ)(br:World)(bz:Nat)(bO:List Frame)(ak:hp):Prop:=
 ∀bN todo fn n av bd aG ro cs M h j v,ak bN todo ⟨fn,n,av,bd,aG,ro,cs⟩ M h j=some v->
  ∀R af w de tmps bv aq,B0 C br bz bO bN todo fn n av bd aG ro cs M h j R af w de tmps bv aq->Ends C br bz bO v (lone (cr R fn bd aG ro tmps bv (gJ R bN)) aq w)
section
variable{C:aZ}{R db:c6}{af dB:Nat->Prop}{h T:V an}{j au bj:Nat}{w bW:World}{n av:Nat}{ax:Array Oper}
variable{br:World}{bz:Nat}{bO:List Frame}{v:F}
def Ends.head{dm G0:Machine}(a:step C.P dm= .next G0)(cy:Ends C br bz bO v G0):Ends C br bz bO v dm:=by
 obtain⟨R,bW,fr,Q,U⟩:=cy
 exact⟨R,bW,fr, .head a Q,U⟩
def Ends.steps{dm G0:Machine}(a:Steps C.P dm G0)(cy:Ends C br bz bO v G0):Ends C br bz bO v dm:=by
 obtain⟨R,bW,fr,Q,U⟩:=cy
 exact⟨R,bW,fr,a.trans Q,U⟩
def dl.later(Z:dl C R af h j bj w)(aj:Below w.heap.size w bW):dl C R af h j bj bW:=
 ⟨Z.a8,Z.lt,Z.vl,λb Y a d=>(Z.obj b Y a d).ad (λ_ _=>rfl) (λ_ a=>a) (aj.block _ (Z.obj b Y a d).lt),Z.sep,Z.base,Z.fm⟩
def Env.now{dR:c6}{d3:Nat->Prop}(bx:Env C br dR d3)(aj:Below br.heap.size br w):dl C dR d3 .nil C.a8 w.heap.size w:=by
 have Z:=bx.base.later aj
 refine⟨Z.a8,Z.lt,Z.vl,Z.obj,Z.sep, ?_,Z.fm⟩
 intro b Y aL bl _
 exfalso
 unfold ab at bl
 rw[fw,Zg (by simp[Nat.blt];omega)]at bl
 simp at bl
def Env.later{dR:c6}{d3:Nat->Prop}(bx:Env C br dR d3)(aj:Below br.heap.size br w):Env C w dR d3:=
 ⟨bx.j5,⟨bx.hc.val,λf args v a R pe nh=>bx.hc.ok f args v a R pe (aj.trans (nh.mono aj.size))⟩,bx.now aj,bx.hK⟩
variable{fn:Nat}{bd:List hA}{aG:Bool}{ro:Option Nat}{tmps:Array Value}{bv:List Item}{aq:List Frame}
def l8(tmps:Array Value)(bv:List Item):stepG C.P true {frame:=cr R fn bd aG ro tmps bv .run,callers:=aq,status:= .running,dying:=none} w=stepG.exec C.P true true (cr R fn bd aG ro tmps bv .run) aq none w:=by
 simp[stepG,cr]
def axB{K b:Code}:step C.P (lone (cr R fn bd aG ro tmps (.code (.seq K b)::bv) .run) aq w)= .next (lone (cr R fn bd aG ro tmps (.code K:: .code b::bv) .run) aq w):=
 step_lone_go (by rw[l8];simp[stepG.exec,cr])
def axC:step C.P (lone (cr R fn bd aG ro tmps (.code .skip::bv) .run) aq w)= .next (lone (cr R fn bd aG ro tmps bv .run) aq w):=
 step_lone_go (by rw[l8];simp[stepG.exec,cr])
def axr{l:Nat}:step C.P (lone (cr R fn bd aG ro tmps (.code (.label l)::bv) .run) aq w)= .next (lone (cr R fn bd aG ro tmps bv .run) aq w):=
 step_lone_go (by rw[l8];simp[stepG.exec,cr])
def axo{l:Nat}:step C.P (lone (cr R fn bd aG ro tmps (.inBlock l::bv) .run) aq w)= .next (lone (cr R fn bd aG ro tmps bv .run) aq w):=
 step_lone_go (by rw[l8];simp[stepG.exec,cr])
def axq{b:Code}:step C.P (lone (cr R fn bd aG ro tmps (.inScope b::bv) .run) aq w)= .next (lone (cr R fn bd aG ro tmps bv .run) aq w):=
 step_lone_go (by rw[l8];simp[stepG.exec,cr])
def axi{id:Nat}{b:Code}:step C.P (lone (cr R fn bd aG ro tmps (.code (.block id b)::bv) .run) aq w)= .next (lone (cr R fn bd aG ro tmps (.code b:: .inBlock id::bv) .run) aq w):=
 step_lone_go (by rw[l8];simp[stepG.exec,cr])
def axs{b:Code}:step C.P (lone (cr R fn bd aG ro tmps (.code (.loop b)::bv) .run) aq w)= .next (lone (cr R fn bd aG ro tmps (.code b:: .inLoop b::bv) .run) aq w):=
 step_lone_go (by rw[l8];simp[stepG.exec,cr])
def axp{b:Code}:step C.P (lone (cr R fn bd aG ro tmps (.inLoop b::bv) .run) aq w)= .next (lone (cr R fn bd aG ro tmps (.code b:: .inLoop b::bv) .run) aq w):=
 step_lone_go (by rw[l8];simp[stepG.exec,cr])
def axA{b:Code}:step C.P (lone (cr R fn bd aG ro tmps (.code (.scope b)::bv) .run) aq w)= .next (lone (cr R fn bd aG ro tmps (.code b:: .inScope b::bv) .run) aq w):=
 step_lone_go (by rw[l8];simp[stepG.exec,cr])
def axj{c:Operand}{K b:Code}{t:Bool}(a:kC tmps c= .bool t):step C.P (lone (cr R fn bd aG ro tmps (.code (.cond c K b)::bv) .run) aq w)= .next (lone (cr R fn bd aG ro tmps (.code (if t then K else b)::bv) .run) aq w):=
 step_lone_go (by
  have cy:(cr R fn bd aG ro tmps (.code (.cond c K b)::bv) .run).eval c= .bool t:=by rw[HH];exact a
  rw[l8]
  simp only[cr]at cy
  simp[stepG.exec,cr,cy])
def axn{id:Nat}{hP:List Item}(a:Go.exitTo id bv=some hP):step C.P (lone (cr R fn bd aG ro tmps (.code (.exit id)::bv) .run) aq w)= .next (lone (cr R fn bd aG ro tmps hP .run) aq w):=
 step_lone_go (by rw[l8];simp[stepG.exec,cr,a])
def axx:step C.P (lone (cr R fn bd aG none tmps (.code .ret::bv) .run) aq w)= .next (lone (cr R fn bd aG none tmps (.code .ret::bv) .returning) aq w):=
 step_lone_go (by rw[l8];simp[stepG.exec,cr])
def axl:step C.P (lone (cr R fn bd aG none tmps [] .run) aq w)= .next (lone (cr R fn bd aG none tmps [] .returning) aq w):=
 step_lone_go (by rw[l8];simp[stepG.exec,cr])
def axv{id:Nat}:step C.P (lone (cr R fn bd aG ro tmps (.code (.region id ax false)::bv) .run) aq w)= .next (lone (cr R fn bd aG ro tmps (.inRegion ax (List.range ax.size)::bv) .run) aq w):=
 step_lone_go (by rw[l8];simp[stepG.exec,cr])
def axw{id:Nat}:step C.P (lone (cr R fn bd aG ro tmps (.code (.region id ax true)::bv) .run) aq w)=
 .next (lone (cr R fn bd aG ro tmps (.inRegion ax (Region.schedule (C.P.follows .mixedOrders) ax (w.tape w.drawn (.order fn id)))::bv) .run) aq w.drew):=
 step_lone_go (by rw[l8];simp[stepG.exec,cr,Question.forced,Question.cut])
def aeJ:step C.P (lone (cr R fn bd aG ro tmps (.inRegion ax []::bv) .run) aq w)= .next (lone (cr R fn bd aG ro tmps bv .run) aq w):=
 step_lone_go (by rw[l8];simp[stepG.exec,cr])
def Ty{i:Nat}{l:List Nat}{Y:Oper}(bl:ax[i]? =some Y)(bJ:Region.wanted Y (yielded ax tmps)=false):
 step C.P (lone (cr R fn bd aG ro tmps (.inRegion ax (i::l)::bv) .run) aq w)= .next (lone ((cr R fn bd aG ro tmps (.inRegion ax (i::l)::bv) .run).finish Go.undef) aq w):=
 step_lone_go (by rw[l8];simp[stepG.exec,cr,bl,bJ])
def SN{ay:Operand->Value}{Y:Oper}{tA:Next}(Z:(execOp ay Y).run C.P w= .ok tA bW)(a:∀d,tA≠ .defer d):∀c,Y.op≠ .defer c:=by
 intro c aB
 have ah:execOp ay Y=(do pure (.defer (<-resolve ay c Y.type))):=by unfold execOp;rw[aB]
 rw[ah]at Z
 simp only[Sem.run_bind]at Z
 cases b1:(resolve ay c Y.type).run C.P w with
 |ok d pe=>
  rw[b1]at Z
  simp only[Result.andThen_ok,Sem.run_pure,Result.ok.injEq]at Z
  exact a d Z.1.symm
 |halt J pe=>
  rw[b1]at Z
  simp at Z
def GL{i:Nat}{l:List Nat}{Y:Oper}(bl:ax[i]? =some Y)(bJ:Region.wanted Y (yielded ax tmps)=true)(jL:ro=none\/∀c,Y.op≠ .defer c):
 stepG C.P true {frame:=cr R fn bd aG ro tmps (.inRegion ax (i::l)::bv) .run,callers:=aq,status:= .running,dying:=none} w=
  stepG.apply C.P true (cr R fn bd aG ro tmps (.inRegion ax (i::l)::bv) .run) aq none (execOp (kC tmps) Y) w:=by
 rw[l8]
 rcases jL with rfl|jL
 ·simp[stepG.exec,stepG.oper,cr,Frame.oper?,bl,bJ,HH]
 ·cases ro with
  |none=>simp[stepG.exec,stepG.oper,cr,Frame.oper?,bl,bJ,HH]
  |some r=>
   have:∀(c:Call),Y.op≠ .defer c:=jL
   simp[stepG.exec,stepG.oper,cr,Frame.oper?,bl,bJ,HH]
   split
   ·rename_i U;exact absurd U (this _)
   ·rfl
def DU{i:Nat}{l:List Nat}{Y:Oper}{ae:Value}{tA:Next}(bl:ax[i]? =some Y)(bJ:Region.wanted Y (yielded ax tmps)=true)
 (Z:(execOp (kC tmps) Y).run C.P w= .ok tA bW)(aL:tA= .value ae\/(tA= .skip/\ae=Go.undef)):
 step C.P (lone (cr R fn bd aG ro tmps (.inRegion ax (i::l)::bv) .run) aq w)= .next (lone ((cr R fn bd aG ro tmps (.inRegion ax (i::l)::bv) .run).finish ae) aq bW):=
 step_lone_go (by
  rw[GL bl bJ (.inr (SN Z (by rcases aL with rfl|⟨rfl,rfl⟩<;>simp)))]
  rcases aL with rfl|⟨rfl,rfl⟩
  ·simp[stepG.apply,Z]
  ·simp[stepG.apply,Z])
def aeH{i:Nat}{l:List Nat}{Y:Oper}{f:Nat}{args:Array Value}(bl:ax[i]? =some Y)(bJ:Region.wanted Y (yielded ax tmps)=true)
 (Z:(execOp (kC tmps) Y).run C.P w= .ok (.enter f args) bW):
 step C.P (lone (cr R fn bd aG ro tmps (.inRegion ax (i::l)::bv) .run) aq w)= .next (lone (Frame.enter C.P f args .normal) (cr R fn bd aG ro tmps (.inRegion ax (i::l)::bv) .run::aq) bW):=
 step_lone_go (by rw[GL bl bJ (.inr (SN Z Zs))];simp[stepG.apply,Z,cr])
def axy{i:Nat}{l:List Nat}{Y:Oper}{b f:Nat}{aX:Array Value}{assign body:Code}(bl:ax[i]? =some Y)(bJ:Region.wanted Y (yielded ax tmps)=true)
 (Z:(execOp (kC tmps) Y).run C.P w= .ok (.round b f aX assign body) bW):
 step C.P (lone (cr R fn bd aG ro tmps (.inRegion ax (i::l)::bv) .run) aq w)= .next (lone (Frame.round b f aX assign body .normal) (cr R fn bd aG ro tmps (.inRegion ax (i::l)::bv) .run::aq) bW):=
 step_lone_go (by rw[GL bl bJ (.inr (SN Z Zs))];simp[stepG.apply,Z,cr])
def axk{i:Nat}{l:List Nat}{Y:Oper}{d:hA}(bl:ax[i]? =some Y)(bJ:Region.wanted Y (yielded ax tmps)=true)
 (Z:(execOp (kC tmps) Y).run C.P w= .ok (.defer (lr R d)) bW):
 step C.P (lone (cr R fn bd aG none tmps (.inRegion ax (i::l)::bv) .run) aq w)= .next (lone ((cr R fn (d::bd) aG none tmps (.inRegion ax (i::l)::bv) .run).finish Go.undef) aq bW):=
 step_lone_go (by rw[GL bl bJ (.inl rfl)];simp[stepG.apply,Z,cr])
def axt{i:Nat}{l:List Nat}{Y:Oper}{ae:F}(bl:ax[i]? =some Y)(bJ:Region.wanted Y (yielded ax tmps)=true)
 (Z:(execOp (kC tmps) Y).run C.P w= .halt (.panic (aQ R ae)) bW):
 step C.P (lone (cr R fn bd aG none tmps (.inRegion ax (i::l)::bv) .run) aq w)= .next (lone (cr R fn bd aG none tmps (.inRegion ax (i::l)::bv) (gJ R (.panicking [⟨ae,false⟩]))) aq bW):=
 step_lone_go (by rw[GL bl bJ (.inl rfl)];simp[stepG.apply,Z,cr,Frame.raise,gJ,sU])
def axu{i:Nat}{l:List Nat}{Y:Oper}{ae:Value}{i1:List Frame}(bl:ax[i]? =some Y)(bJ:Region.wanted Y (yielded ax tmps)=true)
 (Z:(execOp (kC tmps) Y).run C.P w= .ok .recover bW)
 (bc:Go.tryRecover (cr R fn bd aG none tmps (.inRegion ax (i::l)::bv) .run) aq=some (ae,i1)\/(Go.tryRecover (cr R fn bd aG none tmps (.inRegion ax (i::l)::bv) .run) aq=none/\ae= .nilIface/\i1=aq)):
 step C.P (lone (cr R fn bd aG none tmps (.inRegion ax (i::l)::bv) .run) aq w)= .next (lone ((cr R fn bd aG none tmps (.inRegion ax (i::l)::bv) .run).finish ae) i1 bW):=
 step_lone_go (by
  rw[GL bl bJ (.inl rfl)]
  have J:(cr R fn bd aG none tmps (.inRegion ax (i::l)::bv) .run).roundOf=none:=rfl
  rcases bc with bc|⟨bc,rfl,rfl⟩
  ·simp[stepG.apply,Z,J,bc]
  ·simp[stepG.apply,Z,J,bc])
def axh{b:Nat}(Z:(Instr.beginRound (R b).cE).run C.P w= .ok () bW):
 step C.P (lone (cr R fn bd aG (some b) tmps (.beginRound::bv) .run) aq w)= .next (lone (cr R fn bd aG (some b) tmps bv .run) aq bW):=
 step_lone_go (by rw[l8];simp[stepG.exec,stepG.apply,cr,Z,Frame.finish])
def axm{b:Nat}{ix:Option Code}(Z:(Instr.endLoop b).run C.P w= .ok ix bW):
 step C.P (lone (cr R fn bd aG ro tmps (.endRangeFunc b::bv) .run) aq w)= .next (lone (cr R fn bd aG ro tmps ((ix.map Item.code).toList++bv) .run) aq bW):=
 step_lone_go (by rw[l8];simp[stepG.exec,cr,Z])
def aeI{f:Operand}{params:Array Tmp}{assign body:Code}{b:Nat}{mark:List Deferred}{g:Nat}{args:Array Value}{mE:World}{d:Deferred}
 (bx:(Instr.enterLoop fn tmps params assign body (ro.map λl=>(R l).cE)).run C.P w= .ok (b,mark) mE)
 (lD:(resolve (kC tmps) {callee:= .value f,args:= #[.const (.func (.yield b) #[] #[])],argTypes:= #[]} 0).run C.P mE= .ok d mE)(Re:(invoke d.target d.args).run C.P mE= .ok (.enter g args) bW):
 step C.P (lone (cr R fn bd aG ro tmps (.code (.rangeFunc f params assign body)::bv) .run) aq w)=
  .next (lone (Frame.enter C.P g args .normal) ({cr R fn bd aG ro tmps (.inRangeFunc b::bv) .run with defers:=mark++bd.map (lr R)}::aq) bW):=
 step_lone_go (by
  rw[l8]
  have cF:({cr R fn bd aG ro tmps (.inRangeFunc b::bv) .run with defers:=mark++bd.map (lr R)}:Frame).eval=kC tmps:=by rw[HH];rfl
  simp only[cr]at cF
  simp[stepG.exec,cr,Sem.runT_eq,bx,GStep.bare_after,stepG.apply,cF,Sem.run_bind,lD,Re,Result.andThen])
def axz{ix:Option Code}{b:Nat}{ae:Value}{g:Frame}(aN:(ix=none/\bv=[])\/(ix=some .ret/\∃B,bv= .code .ret::B)\/(∃id B,ix=some (.exit id)/\bv= .code (.exit id)::B/\Go.exitTo id B=none))
 (bx:(Instr.endRound (R b).cE ix).run C.P w= .ok ae bW):
 step C.P (lone (cr R fn bd false (some b) tmps bv .run) (g::aq) w)= .next (lone (g.finish ae) aq bW):=
 step_lone_go (by
  rw[l8]
  rcases aN with ⟨rfl,rfl⟩|⟨rfl,B,rfl⟩|⟨id,B,rfl,rfl,ah⟩
  ·simp[stepG.exec,cr,Sem.runT_eq,bx,GStep.bare_after,doReturn]
  ·simp[stepG.exec,cr,Sem.runT_eq,bx,GStep.bare_after,doReturn]
  ·simp[stepG.exec,cr,Sem.runT_eq,bx,GStep.bare_after,doReturn,ah])
def axD{r:Nat}{ct:List F}{ds:List hA}{pr:List Deferred}{mode:FrameMode}{dB:List hA}(bp:mode≠ .run)(bx:(Instr.takeDeferred (R r).cE).run C.P w= .ok pr bW)(aM:pr++ds.map (lr R)=dB.map (lr R)):
 step C.P (lone (cr R fn (⟨.collected r,ct⟩::ds) aG ro tmps bv mode) aq w)= .next (lone (cr R fn dB aG ro tmps bv mode) aq bW):=
 step_lone_go (by
  cases mode with
  |run=>exact absurd rfl bp
  |returning=>simp[stepG,unwind,cr,lr,Cb,Sem.runT_eq,bx,GStep.bare_after,aM]
  |panicking f4=>simp[stepG,unwind,cr,lr,Cb,Sem.runT_eq,bx,GStep.bare_after,aM])
end
end Go.bi

namespace Go.bi
open Go.RowKit (Below)
section
variable{C:aZ}{R db dR:c6}{af dB d3:Nat->Prop}{h T:V an}{j au bj:Nat}{w bW:World}{n av:Nat}{ax:Array Oper}
variable{br:World}{bz:Nat}{bO:List Frame}{v:F}{ak:hp}
variable{fn:Nat}{bd:List hA}{aG:Bool}{ro:Option Nat}{cs:List gH}{M:V F}{tmps:Array Value}{bv:List Item}{aq:List Frame}{bS aJ:Nat}
structure iS(C:aZ)(br:World)(bz:Nat)(bO:List Frame)(fn av:Nat)(bd:List hA)(aG:Bool)(ro:Option Nat)(cs:List gH)(h:V an)(j:Nat)(R:c6)(af:Nat->Prop)(w:World)(de:Nat)(aq:List Frame):Prop where
 Z:dl C R af h j br.heap.size w
 kI:Below br.heap.size br w
 hK:rB C R af
 jO:de<=j
 hJ:vY C af fn av bd ro
 bot:cs=[]->fn=bz/\aG=false/\ro=none
 cs:oo C R af h bz bO de cs aq
def iS.ew{de:Nat}(a:iS C br bz bO fn av bd aG ro cs h j R af w de aq):br.heap.size<=w.heap.size:=a.kI.size
def iS.ext{de:Nat}(a:iS C br bz bO fn av bd aG ro cs h j R af w de aq)(Z:dl C db dB T au br.heap.size bW)(ah:il C de R af h br.heap.size w db dB T bW)(aL:j<=au):
 iS C br bz bO fn av bd aG ro cs T au db dB bW de aq:=
 ⟨Z,a.kI.trans ah.below,a.hK.ad ah.iA ah.jt,Zz a.jO aL,a.hJ.ad ah.jt,a.bot,a.cs.ad ah⟩
def iS.state{de:Nat}{todo:List dV}(a:iS C br bz bO fn av bd aG ro cs h j R af w de aq)(bc:B1 C R af h de j n av M tmps todo bv):
 B0 C br bz bO .run todo fn n av bd aG ro cs M h j R af w de tmps bv aq:=⟨a.Z,a.kI,a.hK,a.jO,a.hJ,trivial,a.bot,a.cs,bc⟩
def B0.akq{todo:List dV}{de:Nat}(a:B0 C br bz bO .run todo fn n av bd aG ro cs M h j R af w de tmps bv aq):iS C br bz bO fn av bd aG ro cs h j R af w de aq/\B1 C R af h de j n av M tmps todo bv:=
 ⟨⟨a.Z,a.kI,a.hK,a.jO,a.hJ,a.bot,a.cs⟩,a.todo⟩
def oo.inv{de aV:Nat}{todo:List dV}{bN:kD}(a:oo C R af h bz bO de (⟨fn,aV,av,M,todo,bd,bN,aG,ro⟩::cs) aq):
 ∃bS tmps bv i1,aq=cr R fn bd aG ro tmps bv (gJ R bN)::i1/\Aj C R af h bS de aV av M tmps bN todo bv/\qb af bN/\vY C af fn av bd ro/\(cs=[]->fn=bz/\aG=false/\ro=none)/\bS<=de/\oo C R af h bz bO bS cs i1:=by
 cases a with
 |cons Q bp U aK bH cu=>exact⟨_,_,_,_,rfl,Q,bp,U,aK,bH,cu⟩
def Xv(gk:m6 C br bz bO ak){f:Nat}{args:List F}{de:Nat}{Cf:Bool}{sX:List gH}{ww:List Frame}(Z:dl C R af h j br.heap.size w)(aj:Below br.heap.size br w)(hK:rB C R af)(aC:de<=j)
 (hT:oo C R af h bz bO de sX ww)(LZ:sX=[]->f=bz/\Cf=false)(h0:es af args)(a:nM ak C f args Cf sX h j=some v):Ends C br bz bO v (lone (Frame.enter C.P f (bY R args).toArray (if Cf then .deferred else .normal)) ww w):=by
 unfold nM at a
 split at a
 ·rename_i func ch
  split at a
  ·rename_i c aB
   simp only[lS,e0,Zp]at a
   obtain⟨⟨⟨Q,U⟩,ar⟩,a⟩:=a
   have Q:=jf Q
   have pG:Frame.enter C.P f (bY R args).toArray (if Cf then .deferred else .normal)=cr R f [] Cf none ((bY R args).toArray++Array.replicate (func.ntmps-args.length) Go.undef) [.code c] (gJ R .run):=by
    simp[Frame.enter,cr,gJ,ch,aB,jG]
   rw[pG]
   refine gk _ _ _ _ _ _ _ _ _ _ _ _ v a R af w de _ _ ww ?_
   refine⟨Z,aj,hK,aC,⟨Zs,Zs,func,ch,ar⟩,trivial,λJ=>⟨(LZ J).1,(LZ J).2,rfl⟩,hT, .plain (.cons (.code U) .nil) ⟨?_, ?_⟩⟩
   ·simp[jG];omega
   ·intro t ae _ be
    rw[kw]at be
    have c1:t<args.length:=(Zb.1 be).1
    refine⟨?_,AF h0 be⟩
    rw[YD (by simpa[jG]using c1)]
    simp[At,be]
  ·simp at a
 ·simp at a
def K6(gk:m6 C br bz bO ak){f:Nat}{args:List F}{de:Nat}{sX:List gH}{ww:List Frame}(Z:dl C R af h j br.heap.size w)(aj:Below br.heap.size br w)(hK:rB C R af)(aC:de<=j)
 (hT:oo C R af h bz bO de sX ww)(LZ:sX=[]->f=bz)(h0:es af args)(a:nM ak C f args false sX h j=some v):Ends C br bz bO v (lone (Frame.enter C.P f (bY R args).toArray .normal) ww w):=
 Xv (Cf:=false) gk Z aj hK aC hT (λJ=>⟨LZ J,rfl⟩) h0 a
def EW(gk:m6 C br bz bO ak){eI:dV}{B:List dV}{ae:F}(aE:iS C br bz bO fn av bd aG ro cs h j R af w bS aq)(aD:md C R af h bS aJ n av M tmps (eI::B) bv)(r5:aJ<=j)(AH:cj af ae)
 (a:(match oC eI ae with|some hv=>ak .run (hv::B) ⟨fn,n,av,bd,aG,ro,cs⟩ M h j|none=>none)=some v):
 Ends C br bz bO v (lone ((cr R fn bd aG ro tmps bv .run).finish (aQ R ae)) aq w):=by
 obtain⟨aA0,uY,hv,hz,hP,bD,cF,fx,jh⟩:=amE (fn:=fn) (bd:=bd) (aG:=aG) (ro:=ro) (mode:= .run) aD r5 AH
 cases bD
 rw[cF]at a
 rw[fx]
 exact gk _ _ _ _ _ _ _ _ _ _ _ _ v a R af w bS hz hP aq (aE.state jh)
def as0{f:Nat}{args:List F}{ae:F}(cG:Env C br dR d3)(aj:Below br.heap.size br w)(bl:C.hc f args=some ae):
 (
  (∀ik,(callFunc f (bY ik args).toArray).run C.P w= .ok (.value (aQ ik ae)) w)\/
  ((∀ik,(callFunc f (bY ik args).toArray).run C.P w= .ok (.enter f (bY ik args).toArray) w)/\∀ik,Calls C.P f (bY ik args).toArray w λJ bW=>J= .returned (aQ ik ae)/\Below w.heap.size w bW))/\∀dk,cj dk ae:=by
 obtain⟨⟨b4,b7⟩,cN,ej⟩:=cG.hc.val f args ae bl
 refine⟨?_,b7⟩
 rcases cG.hc.ok f args ae bl dR w aj with a|⟨Q,U⟩
 ·left;intro ik;rw[cN ik dR,b4 ik dR];exact a
 ·right;exact⟨λik=>by rw[cN ik dR];exact Q,λik=>by rw[cN ik dR,b4 ik dR];exact U⟩
mutual
def NR:∀(d:Nat) (x e:F),F.same d x e=true->x=e
 |0,_,_,a=>by simp[F.same]at a
 |d+1,x,e,a=>by
  unfold F.same at a
  split at a<;>(try(cases a;done))
  ·simp at a;rw[a]
  ·simp at a;rw[a.1,a.2]
  ·rw[(Jy _ _).1 a]
  ·simp only[Zp]at a;rw[Zj a.1,Zj a.2]
  ·rfl
  ·simp only[Zp]at a;rw[Zj a.1.1.1,Zj a.1.1.2,Zj a.1.2,Zj a.2]
  ·simp only[Zp]at a;rw[Zj a.1.1.1,Zj a.1.1.2,Zj a.1.2,Zj a.2]
  ·rfl
  ·rw[Zj a]
  ·rfl
  ·simp only[Zp,Zh]at a
   rw[a.1.1,JY d _ _ a.1.2,JY d _ _ a.2]
  ·rfl
  ·simp only[Zp]at a;rw[Zj a.1,NR d _ _ a.2]
  ·rfl
  ·rw[JY d _ _ a]
  ·rw[JY d _ _ a]
def JY:∀(d:Nat) (x e:List F),n9 (F.same d) x e=true->x=e
 |_,[],[],_=>rfl
 |_,[],_::_,a=>by simp[n9]at a
 |_,_::_,[],a=>by simp[n9]at a
 |d,K::x,b::e,a=>by
  simp only[n9,Zp]at a
  rw[NR d _ _ a.1,JY d _ _ a.2]
end
def Ends.same{dm:Machine}{f9:F}(bx:∀R,aQ R f9=aQ R v)(a:Ends C br bz bO f9 dm):Ends C br bz bO v dm:=by
 obtain⟨R,bW,fr,Q,U,ar⟩:=a
 exact⟨R,bW,fr,Q,by rw[<-bx];exact U,ar⟩
def amX{eI:dV}{B:List dV}{cd:h9}:∀(l:List (F×V an)) (v:F),x7 ak eI B cd M j l=some v->∀ae T,(ae,T)∈l->
 ∃f9,(match oC eI ae with|some hv=>ak .run (hv::B) cd M T j|none=>none)=some f9/\∀R,aQ R f9=aQ R v:=by
 intro l
 induction l with
 |nil=>intro v a;simp[x7]at a
 |cons p l mS=>
  intro v a ae T bp
  obtain⟨K,hj⟩:=p
  cases l with
  |nil=>
   simp only[x7]at a
   simp at bp
   obtain⟨rfl,rfl⟩:=bp
   exact⟨v,a,λ_=>rfl⟩
  |cons am l=>
   simp only[x7]at a
   split at a
   ·rename_i hv ap1
    split at a
    ·rename_i x e ah H
     simp only[e0,Zf]at a
     obtain⟨az,rfl⟩:=a
     rcases Zt.1 bp with J|bp
     ·cases J
      exact⟨x,by rw[ap1];exact ah,λ_=>rfl⟩
     ·obtain⟨f9,b4,b7⟩:=mS e H ae T bp
      exact⟨f9,b4,λR=>by rw[b7 R,NR _ _ _ az]⟩
    ·simp at a
   ·simp at a
def ax3{ae:F}{c8:List gH}{de:Nat}{bv:List Item}(hT:oo C R af h bz bO de cs aq)(a:BN aG cs=some (ae,c8)):
 ∃i1,oo C R af h bz bO de c8 i1/\cj af ae/\(c8=[]->cs=[])/\
  (Go.tryRecover (cr R fn bd aG none tmps bv .run) aq=some (aQ R ae,i1)\/(Go.tryRecover (cr R fn bd aG none tmps bv .run) aq=none/\aQ R ae= .nilIface/\i1=aq)):=by
 unfold BN at a
 rw[fw]at a
 cases aG with
 |false=>
  simp at a
  obtain⟨rfl,rfl⟩:=a
  exact⟨aq,hT,trivial,id, .inr ⟨by simp[Go.tryRecover,cr],rfl,rfl⟩⟩
 |true=>
  simp only[ZD]at a
  cases cs with
  |nil=>simp at a
  |cons c rest=>
   obtain⟨gT,aV,ks,cZ,vD,gi,mw,jg,kV⟩:=c
   obtain⟨re,hz,hP,i1,rfl,bV,cw,c4,ec,eU,dK⟩:=hT.inv
   have same:(ae,c8)=(F.nilIface,(⟨gT,aV,ks,cZ,vD,gi,mw,jg,kV⟩:gH)::rest)->(∀v Bx,gJ R mw≠ .panicking (⟨v,false,false⟩::Bx))->
    ∃Qf,oo C R af h bz bO de c8 Qf/\cj af ae/\(c8=[]->(⟨gT,aV,ks,cZ,vD,gi,mw,jg,kV⟩:gH)::rest=[])/\
     (Go.tryRecover (cr R fn bd true none tmps bv .run) (cr R gT gi jg kV hz hP (gJ R mw)::i1)=some (aQ R ae,Qf)\/
      (Go.tryRecover (cr R fn bd true none tmps bv .run) (cr R gT gi jg kV hz hP (gJ R mw)::i1)=none/\aQ R ae= .nilIface/\Qf=cr R gT gi jg kV hz hP (gJ R mw)::i1)):=by
    intro J dD
    simp only[YL]at J
    obtain⟨rfl,rfl⟩:=J
    refine⟨_,hT,trivial,λJ=>(by cases J), .inr ⟨?_,rfl,rfl⟩⟩
    simp only[Go.tryRecover,cr,ZD]
   simp only at a
   split at a
   ·rename_i v Bx
    simp only[Zf,YL]at a
    obtain⟨rfl,rfl⟩:=a
    have b5:qb af (.panicking (⟨v,true⟩::Bx)):=by
     intro p az
     rcases Zt.1 az with rfl|az
     ·exact cw ⟨v,false⟩ (Zu ..)
     ·exact cw p (Zr _ az)
    refine⟨cr R gT gi jg kV hz hP (gJ R (.panicking (⟨v,true⟩::Bx)))::i1, .cons (bN:= .panicking (⟨v,true⟩::Bx)) bV b5 c4 ec eU dK,cw ⟨v,false⟩ (Zu ..),λJ=>(by cases J), .inl ?_⟩
    simp[Go.tryRecover,cr,gJ,sU]
   ·rename_i kp
    simp only[Zf]at a
    refine same a.symm λv Bx J=> ?_
    cases mw with
    |run=>cases J
    |returning=>cases J
    |panicking f4=>
     cases f4 with
     |nil=>cases J
     |cons p dq=>
      obtain⟨avJ,avz⟩:=p
      cases avz with
      |true=>simp[gJ,sU]at J
      |false=>exact kp avJ dq rfl
def awO{aV:Nat}:∀(dq:List Nat) (ct:List F) (M cZ:V F) (tmps:Array Value),je R af aV av M tmps->es af ct->xp aV dq ct M=some cZ->
 dq.length=ct.length/\je R af aV av cZ ((dq.zip (bY R ct)).foldl (λtmps p=>tmps.setIfInBounds p.1 p.2) tmps):=by
 intro dq
 induction dq with
 |nil=>
  intro ct M cZ tmps bc _ a
  cases ct with
  |nil=>simp[xp]at a;subst a;exact⟨rfl,by simpa[bY]using bc⟩
  |cons K ct=>simp[xp]at a
 |cons p dq asf=>
  intro ct M cZ tmps bc b5 a
  cases ct with
  |nil=>simp[xp]at a
  |cons K ct=>
   simp only[xp,e0]at a
   obtain⟨az,a⟩:=a
   have az:=k4 az
   have RT:je R af aV av (M.set p (some K)) (tmps.setIfInBounds p (aQ R K)):=by
    refine⟨by simp[bc.size],λt ae aC be=> ?_⟩
    rw[V.kc]at be
    by_cases J:p=t
    ·subst J
     simp at be;subst be
     exact⟨by simp[bc.size,az],b5.1⟩
    ·simp[J]at be
     obtain⟨Q,U⟩:=bc.val t ae aC be
     exact⟨by rw[Array.getElem?_setIfInBounds_ne J];exact Q,U⟩
   obtain⟨Q,U⟩:=asf ct _ cZ _ RT b5.2 a
   exact⟨by simp[Q],by simpa[bY]using U⟩
def Wp(cG:Env C br dR d3)(gk:m6 C br bz bO ak){eI:dV}{B:List dV}{i:Nat}{l:List Nat}{Y:Oper}{r:d4}(aE:iS C br bz bO fn av bd aG ro cs h j R af w bS aq)
 (aD:md C R af h bS aJ n av M tmps (eI::B) (.inRegion ax (i::l)::bv))(Mn:bS<=aJ)(r5:aJ<=j)(bl:ax[i]? =some Y)(bJ:Region.wanted Y (yielded ax tmps)=true)
 (lT:im C R af h j br.heap.size w (execOp (kC tmps) Y) r)(a:nI r ak C eI B ⟨fn,n,av,bd,aG,ro,cs⟩ M h j=some v):
 Ends C br bz bO v (lone (cr R fn bd aG ro tmps (.inRegion ax (i::l)::bv) .run) aq w):=by
 have nU:bS<=j:=Zz Mn r5
 have done:∀v ae T au,Aa C R af h j br.heap.size w (execOp (kC tmps) Y) ae T au->(match oC eI ae with|some hv=>ak .run (hv::B) ⟨fn,n,av,bd,aG,ro,cs⟩ M T au|none=>none)=some v->
  Ends C br bz bO v (lone (cr R fn bd aG ro tmps (.inRegion ax (i::l)::bv) .run) aq w):=by
  intro v ae T au aM a
  obtain⟨db,dB,bW,tA,cX,cP,eQ,iq,f5,iV⟩:=aM
  have FI:tA= .value (aQ db ae)\/(tA= .skip/\aQ db ae=Go.undef):=cP.imp id λ⟨K,b⟩=>⟨K,by rw[b];rfl⟩
  refine .head (DU bl bJ cX FI) ?_
  rw[<-Gd f5.iA aE.hJ]
  exact EW gk (aE.ext iq (f5.mono nU) iV) (aD.ad (f5.mono r5)) (Zz r5 iV) eQ a
 cases r with
 |val ae=>exact done v ae h j lT a
 |fh ae T au=>exact done v ae T au lT a
 |enter f args=>
  obtain⟨Q,U⟩:=lT
  refine .head (aeH bl bJ Q) ?_
  simp only[nI]at a
  refine K6 gk aE.Z aE.kI aE.hK r5 ?_ (λJ=>by simp[DV]at J) U a
  exact .cons (bN:= .run) aD trivial aE.hJ aE.bot Mn aE.cs
 |known f args ae=>
  obtain⟨Q,U,ar⟩:=lT
  obtain⟨aN,AH⟩:=as0 cG aE.kI Q
  simp only[nI]at a
  rcases aN with aN|⟨kQ,h4⟩
  ·rw[aN R]at U
   refine .head (DU bl bJ U (.inl rfl)) ?_
   exact EW gk aE aD r5 (AH af) a
  ·rw[kQ R]at U
   refine .head (aeH bl bJ U) ?_
   obtain⟨J,bW,fr,⟨rfl,Il⟩,arB,_,Ml⟩:=h4 R (cr R fn bd aG ro tmps (.inRegion ax (i::l)::bv) .run::aq)
   refine .steps arB (.head (step_leave_returned Ml) ?_)
   have ah:il C aJ R af h br.heap.size w R af h bW:=⟨λ_ _=>rfl,λ_ a=>a,λ_ a=> .inl a,λ_ _ _=>rfl,Il.mono aE.ew⟩
   exact EW gk (aE.ext (aE.Z.later Il) (ah.mono Mn) (Zi _)) (aD.ad ah) r5 (AH af) a
 |round b args=>
  obtain⟨Q,U,ar⟩:=lT
  simp only[nI]at a
  split at a
  ·rename_i st qA gT aV ks cZ params assign body gi hF
   split at a
   ·rename_i ajJ hL
    obtain⟨hz,gN,my,rn,Gl,Bs,sq,Bt⟩:=aE.Z.obj b _ hF ar
    obtain⟨cD,cp⟩:=awO params args cZ ajJ hz my U hL
    rw[run_yield gN (by simp[jG,cD])]at Q
    refine .head (axy bl bJ Q) ?_
    have pG:Frame.round (R b).cE gT (((params.toArray).zip (bY R args).toArray).foldl (λtmps (t,K)=>tmps.setIfInBounds t K) hz) assign body .normal=
     cr R gT [] false (some b) ((params.zip (bY R args)).foldl (λtmps p=>tmps.setIfInBounds p.1 p.2) hz) [.code assign, .beginRound, .code body] (gJ R .run):=by
     simp[Frame.round,cr,gJ]
    simp only at pG ⊢
    rw[pG]
    refine gk _ _ _ _ _ _ _ _ _ _ _ _ v a R af w aJ _ _ _ ?_
    refine⟨aE.Z,aE.kI,aE.hK,r5,⟨Zs,λl aC=>(by cases aC;exact ar),Bt⟩,trivial,λJ=>by simp[DV]at J, .cons (bN:= .run) aD trivial aE.hJ aE.bot Mn aE.cs, ?_⟩
    exact .plain (.cons (.code Gl) (.cons .begin (.cons (.code Bs) .nil))) cp
   ·simp at a
  ·simp at a
 |defer d=>
  obtain⟨Q,U⟩:=lT
  simp only[nI]at a
  cases ro with
  |some b=>simp at a
  |none=>
   simp only at a
   refine .head (axk bl bJ Q) ?_
   have apP:vY C af fn av (d::bd) none:=⟨λk6 aM=>by
    rcases Zt.1 aM with rfl|aM
    ·exact U
    ·exact aE.hJ.bd k6 aM,aE.hJ.ro,aE.hJ.fn⟩
   exact EW (ae:=undef) gk ⟨aE.Z,aE.kI,aE.hK,aE.jO,apP,aE.bot,aE.cs⟩ aD r5 trivial a
 |recover=>
  simp only[nI]at a
  cases ro with
  |some b=>simp at a
  |none=>
   simp only at a
   split at a
   ·rename_i ae c8 ard
    obtain⟨i1,b4,b7,cN,ej⟩:=ax3 (fn:=fn) (bd:=bd) (tmps:=tmps) (bv:= .inRegion ax (i::l)::bv) aE.cs ard
    refine .head (axu bl bJ lT ej) ?_
    exact EW (ae:=ae) gk ⟨aE.Z,aE.kI,aE.hK,aE.jO,aE.hJ,λJ=>aE.bot (cN J),b4⟩ aD r5 b7 a
   ·simp at a
 |panic ae=>
  obtain⟨Q,U⟩:=lT
  simp only[nI]at a
  cases ro with
  |some b=>simp at a
  |none=>
   simp only at a
   refine .head (axt bl bJ Q) ?_
   refine gk _ _ _ _ _ _ _ _ _ _ _ _ v a R af w bS tmps _ aq ?_
   exact⟨aE.Z,aE.kI,aE.hK,aE.jO,aE.hJ,λp az=>by simp at az;subst az;exact U,aE.bot,aE.cs,aD.drop⟩
 |fork b8=>
  obtain⟨ae,T,bp,aM⟩:=lT
  simp only[nI]at a
  obtain⟨f9,b4,b7⟩:=amX b8 v a ae T bp
  exact .same b7 (done f9 ae T j aM b4)
def adf{Y:Op}{eA:Operand->Option F}{b:Nat}{ae:F}{cT:an}{dk:Nat->Prop}(a:p1 Y C eA b=some (ae,cT)):v6 C dk cT:=by
 have key:∀l:List F,v6 C dk (.cells (V.ofList l 0 .nil) l.length .own):=λl=>⟨λ_ _ _ a=>(by cases a),λ_ _ _ a=>(by cases a;exact Gm)⟩
 have asY:v6 C dk (.map [] 0):=⟨λ_ _ _ a=>(by cases a),λ_ _ _ a=>(by cases a)⟩
 cases Y<;>simp only[p1]at a<;>(try(cases a;done))
 case alloc t=>unfold Dp at a;split at a<;>simp at a;rw[<-a.2];exact key _
 case box t x=>unfold Jq at a;split at a<;>simp at a;rw[<-a.2];exact key _
 case buildSlice t len jP=>
  unfold Jr at a
  split at a
  ·split at a
   ·simp only[e0]at a
    obtain⟨_,a⟩:=a
    split at a<;>simp at a
    rw[<-a.2];exact key _
   ·simp at a
  ·simp at a
 case makeMap t r=>cases r<;>simp at a;rw[<-a.2];exact asY
def alN{i:Nat}(aJ:ax.toList.drop i=[]):ax.size<=i:=by simpa using aJ
def amG{av:Nat}{aw:List (Nat×F)}:∀(l:List Oper) (i:Nat) (eh:List (Nat×Nat)) (nG M cZ:V F),(∀t,fq av t=true->M.get t=match ep eh t with|some aa=>ep aw aa|none=>nG.get t)->
 x4 aw (kL av l i) M=some cZ->∀t,fq av t=true->cZ.get t=match ep (vG l i eh) t with|some aa=>ep aw aa|none=>nG.get t:=by
 intro l
 induction l with
 |nil=>intro i eh nG M cZ hL a;simp[kL,x4]at a;subst a;exact hL
 |cons Y l ak=>
  intro i eh nG M cZ hL a
  simp only[kL]at a
  simp only[vG]
  split at a
  ·rename_i d aM
   rw[fw]at a
   split at a
   ·rename_i aj
    simp only[x4]at a
    split at a
    ·rename_i ae be
     simp only[g8]at a
     refine ak (i+1) _ nG _ cZ (λt bc=> ?_) a
     rw[V.kc,Ep,aM]
     by_cases J:d=t
     ·subst J;simp[be]
     ·simp[J];exact hL t bc
    ·simp at a
   ·rename_i aj
    refine ak (i+1) _ nG _ cZ (λt bc=> ?_) a
    rw[Ep,aM]
    have J:d≠t:=λJ=>aj (by rw[J];exact bc)
    simp[J];exact hL t bc
  ·rename_i aM
   refine ak (i+1) _ nG _ cZ (λt bc=> ?_) a
   rw[Ep,aM]
   simp;exact hL t bc
def XP{aw:List (Nat×F)}{M cZ:V F}(bB:ou R af av (λ_=>True) (h8 ax ax.size) aw M tmps)(eN:tmps.size=n)(a:x4 aw (kL av ax.toList 0) M=some cZ):je R af n av cZ tmps:=by
 refine⟨eN,λt ae aC be=> ?_⟩
 have:=amG (av:=av) (aw:=aw) ax.toList 0 [] M M cZ (λ_ _=>rfl) a t aC
 rw[be]at this
 apply bB t ae trivial
 have J:h8 ax ax.size=vG ax.toList 0 []:=by unfold h8;rw[ZC Zs]
 rw[J]
 cases bG:ep (vG ax.toList 0 []) t with
 |some aa=>rw[bG]at this;exact this.symm
 |none=>rw[bG]at this;exact⟨aC,this.symm⟩
def aez(cG:Env C br dR d3)(gk:m6 C br bz bO ak){B:List dV}{fin:List (Nat×Nat)}:∀(rest:List fi) (aw:List (Nat×F)) (h:V an) (j:Nat) (R:c6) (af:Nat->Prop) (w:World) (tmps:Array Value) (l:List Nat) (aq:List Frame),
 iS C br bz bO fn av bd aG ro cs h j R af w bS aq->lm C R af av B bv->OK C R af n av ax aw rest fin M tmps l->
 yV rest ⟨ak,ax,fin,B,⟨fn,n,av,bd,aG,ro,cs⟩⟩ C M aw h j=some v->Ends C br bz bO v (lone (cr R fn bd aG ro tmps (.inRegion ax l::bv) .run) aq w):=by
 intro rest
 induction rest with
 |nil=>
  intro aw h j R af w tmps l aq aE aN aD a
  obtain⟨i,aJ,rfl,aB,rfl,bB,eN⟩:=aD
  have L5:ax.size<=i:=by
   cases aM:ax.toList.drop i with
   |nil=>exact alN aM
   |cons Y b8=>
    rw[aM]at aB
    obtain⟨_,_,r,_,_,_,_,_,J⟩:=Pd aB
    cases J
  have:i=ax.size:=Zo
  subst this
  simp only[Nat.sub_self,List.range'_zero]
  have cy:HF ⟨ak,ax,kL av ax.toList 0,B,⟨fn,n,av,bd,aG,ro,cs⟩⟩ C M aw h j=some v:=a
  simp only[HF,Lb,od]at cy
  split at cy
  ·rename_i cZ hL
   refine .head aeJ ?_
   exact gk _ _ _ _ _ _ _ _ _ _ _ _ v cy R af w bS tmps bv aq (aE.state (.plain aN (XP bB eN hL)))
  ·simp at cy
 |cons x rest FN=>
  intro aw h j R af w tmps l aq aE aN aD a
  obtain⟨i,aJ,rfl,aB,rfl,bB,eN⟩:=aD
  cases aM:ax.toList.drop i with
  |nil=>rw[aM]at aB;simp[rO]at aB
  |cons Y b8=>
   rw[aM]at aB
   obtain⟨g,op,r,dt,dG,hd,wg,jU,J⟩:=Pd aB
   cases J
   obtain⟨cX,cP,eQ⟩:=Py aM
   rw[<-Kg cX, <-cP]at jU
   have Fz:List.range' i (ax.size-i)=i::List.range' (i+1) (ax.size-(i+1)):=by
    rw[show ax.size-i=(ax.size-(i+1))+1 by omega,List.range'_succ]
   rw[Fz]
   have oI:=Xp hd
   have Fx:∀(db:c6) (dB:Nat->Prop) (ae:F),ou db dB av (λ_=>True) (h8 ax i) aw M tmps->cj dB ae->OK C db dB n av ax ((i,ae)::aw) rest (kL av ax.toList 0) M (pQ tmps Y.dst (aQ db ae)) (List.range' (i+1) (ax.size-(i+1))):=by
    intro db dB ae tn AH
    exact⟨i+1,Zo,rfl,jU,rfl,tn.put cX (by rw[eN];exact oI) AH,by rw[NH];exact eN⟩
   have j0:∀(db:c6) (ae:Value),(cr db fn bd aG ro tmps (.inRegion ax (i::List.range' (i+1) (ax.size-(i+1)))::bv) .run).finish ae=cr db fn bd aG ro (pQ tmps Y.dst ae) (.inRegion ax (List.range' (i+1) (ax.size-(i+1)))::bv) .run:=by
    intro db ae
    rw[Le (g:=cr db fn bd aG ro tmps _ .run) rfl cX];rfl
   have cy:DG i g op rest (yV rest) ⟨ak,ax,kL av ax.toList 0,B,⟨fn,n,av,bd,aG,ro,cs⟩⟩ C M aw h j=some v:=a
   simp only[DG,N8,od]at cy
   split at cy
   ·rename_i TS lW
    have sj:=Oc aJ dt bB (λ_ _ _ _ _=>trivial) (Sub.refl aw) lW
    cases TS with
    |false=>
     simp only[Zw,ZA]at cy
     refine .head (Ty cX sj) ?_
     rw[j0]
     exact FN _ _ _ _ _ _ _ _ _ aE aN (Fx R af undef bB trivial) cy
    |true=>
     simp only[ZD]at cy
     have yr:jd R af (kC tmps) (iX (h8 ax i) aw M) Y.op.operands.toList:=XD bB (λ_ _=>trivial) wg aE.hK
     rw[Nw]at cy
     cases oL:mu op with
     |hV=>
      simp only[oL,od]at cy
      split at cy
      ·rename_i ae be
       obtain⟨bh,cl⟩:=ac2 aE.Z yr dG be
       refine .head (DU cX sj bh (.inl rfl)) ?_
       rw[j0]
       exact FN _ _ _ _ _ _ _ _ _ aE aN (Fx R af ae bB cl) cy
      ·simp at cy
     |make=>
      simp only[oL,od]at cy
      split at cy
      ·rename_i res lD
       simp only[M9,lS]at lD
       split at lD
       ·rename_i ae cT bp
        simp only[g8,Zf]at lD
        subst lD
        have nV:=rl aE.Z
        obtain⟨ob,e8,fQ,kt⟩:=ade (w:=w) (R:=R) nV yr (Na dG bp)
        have ah:il C bS R af h br.heap.size w (gn R j ⟨w.heap.size,0,0⟩) (add af j) (bn C h j (some cT)) (w.alloc ob):=
         ⟨qF nV,λ_ a=> .inl a,λx a=>a.elim .inl (λa=> .inr (zt aE.jO)),λx ah c1=>by rw[fR _ aE.Z.a8,Zg (zt aE.jO)],Below.alloc (Below.refl _ _) aE.ew _⟩
        have mj:=aE.Z.alloc aE.Z.a8 (YA _) (Yf _) nV aE.ew rfl (T:=bn C h j (some cT)) (by rw[fR _ aE.Z.a8,Zq rfl]) (λx ah=> .inl (by rw[fR _ aE.Z.a8,Zg ah])) kt (adf (Na dG bp))
        refine .head (DU cX sj e8 (.inl rfl)) ?_
        rw[j0, <-Gd ah.iA aE.hJ]
        exact FN _ _ _ _ _ _ _ _ _ (aE.ext mj ah (Yf _)) (aN.ad ah.iA ah.jt) (Fx _ _ ae (bB.ad ah.iA ah.jt) fQ) cy
       ·simp at lD
      ·simp at cy
     |ff=>
      simp only[oL,od]at cy
      split at cy
      ·rename_i res lD
       have lT:=aaU aE.Z aE.ew cG.j5 yr dG lD
       have arW:md C R af h bS j n av M tmps (.sJ ax aw i rest (kL av ax.toList 0)::B) (.inRegion ax (i::List.range' (i+1) (ax.size-(i+1)))::bv):=
        .seq aN ⟨Y,cX,oI,rfl,jU,rfl,bB,eN⟩
       have now:∀ae T au,Aa C R af h j br.heap.size w (execOp (kC tmps) Y) ae T au->yV rest ⟨ak,ax,kL av ax.toList 0,B,⟨fn,n,av,bd,aG,ro,cs⟩⟩ C M ((i,ae)::aw) T au=some v->
        Ends C br bz bO v (lone (cr R fn bd aG ro tmps (.inRegion ax (i::List.range' (i+1) (ax.size-(i+1)))::bv) .run) aq w):=by
        intro ae T au aM a
        obtain⟨db,dB,bW,tA,bD,cF,fx,jh,pw,HC⟩:=aM
        have FI:tA= .value (aQ db ae)\/(tA= .skip/\aQ db ae=Go.undef):=cF.imp id λ⟨K,b⟩=>⟨K,by rw[b];rfl⟩
        refine .head (DU cX sj bD FI) ?_
        rw[j0, <-Gd pw.iA aE.hJ]
        exact FN _ _ _ _ _ _ _ _ _ (aE.ext jh (pw.mono aE.jO) HC) (aN.ad pw.iA pw.jt) (Fx _ _ ae (bB.ad pw.iA pw.jt) fx) a
       have p8:nI res ak C (.sJ ax aw i rest (kL av ax.toList 0)) B ⟨fn,n,av,bd,aG,ro,cs⟩ M h j=some v->Ends C br bz bO v (lone (cr R fn bd aG ro tmps (.inRegion ax (i::List.range' (i+1) (ax.size-(i+1)))::bv) .run) aq w):=
        λa=>Wp cG gk aE arW aE.jO (Zi _) cX sj lT a
       cases res with
       |val ae=>exact now ae h j lT cy
       |fh ae T au=>exact now ae T au lT cy
       |_=>exact p8 cy
      ·simp at cy
   ·simp at cy
end
end Go.bi

namespace Go.bi
open Go.RowKit (Below)
def als{l:List Bool}(a:l.count false=0):∀b∈l,b=true:=by
 intro b aj
 cases b with
 |true=>rfl
 |false=>exact absurd aj (List.count_eq_zero.1 a)
def awG{ax:Array Oper}(lB:DE ax.toList 0=true):∀(fuel t:Nat) (ie:Array Bool),ie.size=ax.size->ie.toList.count false=fuel->
 v8 ax (λi=>ie.getD i false=true) (Region.linearise.go .any ax fuel t ie []):=by
 intro fuel
 induction fuel with
 |zero=>
  intro t ie aD aB
  simp only[Region.linearise.go,List.reverse_nil]
  refine .nil λi aJ=> ?_
  have c1:i<ie.size:=Zo
  have:=als aB ie[i] Zs
  simp[c1,this]
 |succ fuel ak=>
  intro t ie aD aB
  simp only[Region.linearise.go]
  have ti:∃i,i<ax.size/\ie.getD i true=false:=by
   have Ro:false∈ie.toList:=by
    rw[<-List.count_pos_iff];omega
   obtain⟨i,aJ⟩:=Z1.1 Ro
   have c1:i<ie.size:=by have:=(Zb.1 aJ).1;simpa using this
   refine⟨i,Zo, ?_⟩
   rw[ZS]at aJ
   simp[aJ]
  have II:∃i,i<ax.size/\ie.getD i true=false/\∀aa,aa<i->ie.getD aa false=true:=by
   have key:∀m,(∃i,i<m/\i<ax.size/\ie.getD i true=false)->∃i,i<ax.size/\ie.getD i true=false/\∀aa,aa<i->ie.getD aa false=true:=by
    intro m
    induction m with
    |zero=>rintro⟨i,a,_⟩;omega
    |succ m pJ=>
     rintro⟨i,Q,U,ar⟩
     by_cases am:∃i,i<m/\i<ax.size/\ie.getD i true=false
     ·exact pJ am
     ·have:i=m:=by
       rcases Y1 i m with a|a
       ·exact absurd ⟨i,a,U,ar⟩ am
       ·omega
      subst this
      refine⟨i,U,ar,λaa bG=> ?_⟩
      have c1:aa<ie.size:=Zo
      cases aj:ie[aa]with
      |true=>simp[c1,aj]
      |false=>exact absurd ⟨aa,bG,Zo,by simp[c1,aj]⟩ am
   obtain⟨i,Q,U⟩:=ti
   exact key (i+1) ⟨i,Zo,Q,U⟩
  obtain⟨i0,uA,arQ,hS⟩:=II
  have arc:i0∈Region.ready .any ax ie:=by
   rw[mem_ready]
   refine⟨arQ,ax[i0],Array.getElem?_eq_getElem uA,λJ bx aj=> ?_⟩
   have:=auI lB i0 ax[i0] (by rw[ZS];exact Array.getElem?_eq_getElem uA) J (by simpa using bx) aj
   exact hS _ Zo
  change v8 ax _ (match (Region.ready .any ax ie)[t%(Region.ready .any ax ie).length]? with
   |some i=>Region.linearise.go .any ax fuel (t/(Region.ready .any ax ie).length) (ie.setIfInBounds i true) [i]
   |none=>[].reverse)
  have fD:0<(Region.ready .any ax ie).length:=List.length_pos_of_mem arc
  have c1:t%(Region.ready .any ax ie).length<(Region.ready .any ax ie).length:=Nat.mod_lt _ fD
  rw[Ze c1]
  simp only[]
  generalize aJ:(Region.ready .any ax ie)[t%(Region.ready .any ax ie).length]=i
  have Ro:i∈Region.ready .any ax ie:=by rw[<-aJ];exact List.getElem_mem c1
  obtain⟨Q,Y,U,ar⟩:=mem_ready.1 Ro
  have azR:i<ax.size:=(ZQ.1 U).1
  have jk:i<ie.size:=Zo
  have aa1:ie[i]=false:=by simpa[jk]using Q
  rw[linearise_go_acc,List.reverse_singleton,List.singleton_append]
  refine .cons U (by simp[jk,aa1]) (λJ bx aj=>ar J (by simpa using bx) aj) ?_
  have bT:add (λi=>ie.getD i false=true) i=λaa=>(ie.setIfInBounds i true).getD aa false=true:=by
   funext aa
   apply propext
   unfold add
   by_cases J:aa=i
   ·subst J;simp[jk]
   ·rw[getD_set_ne false (λam=>J am.symm)]
    simp[J]
  rw[bT]
  refine ak _ _ (by simpa using aD) ?_
  rw[Array.toList_setIfInBounds,List.count_set (by simpa using jk)]
  have:(ie.toList[i]'(by simpa using jk))=false:=by simpa using aa1
  simp[this,aB]
def awH{ax:Array Oper}(lB:DE ax.toList 0=true)(t:Nat):v8 ax (λ_=>False) (Region.schedule true ax t):=by
 simp only[Region.schedule,Bool.true_or,ZD,Region.linearise]
 have:=awG lB ax.size t (Array.replicate ax.size false) Zs Zs
 have J:(λi=>(Array.replicate ax.size false).getD i false=true)=λ_=>False:=by
  funext i
  apply propext
  by_cases a:i<ax.size<;>simp[a]
 rw[J]at this
 exact this
section
variable{C:aZ}{R db dR:c6}{af dB d3:Nat->Prop}{h T:V an}{j au bj:Nat}{w bW:World}{n av:Nat}{ax:Array Oper}
variable{br:World}{bz:Nat}{bO:List Frame}{v:F}{ak:hp}
variable{fn:Nat}{bd:List hA}{aG:Bool}{ro:Option Nat}{cs:List gH}{M:V F}{tmps:Array Value}{bv:List Item}{aq:List Frame}{bS aJ:Nat}
def asj{op:jC}(aN:mu op= .hV)(aD:BH op=false)(h T:V an)(aw:List (Nat×F))(M:V F):gS op C h aw M=gS op C T aw M:=by
 cases op<;>simp only[gS]<;>(try rfl)<;>simp[BH]at aD
 case hV b3 Y=>cases Y<;>simp[BH]at aD<;>rfl
def pj.refl(h:V an):pj C h h:=λ_=> .inl rfl
def pj.trans{a2 aS bb:V an}(a:pj C a2 aS)(B:pj C aS bb):pj C a2 bb:=λx=>by
 rcases a x with a|a
 ·rcases B x with B|B
  ·exact .inl (a.trans B)
  ·exact .inr (a.trans B)
 ·exact .inr a
def ac0(h:V an):pj C .nil h:=by
 intro b
 unfold ab
 rw[fw,fw]
 split
 ·exact .inl rfl
 ·exact .inr rfl
def alE{base:Nat}(aL:C.a8<=base):∀(l:List fi) (aw:List (Nat×F)) (h:V an) (hr:List (Nat×F)) (T:V an),(l.Pairwise λK b=>K.i≠b.i)->(∀x∈l,ep aw x.i=none/\ab C h (base+x.i)=none/\nr x.op=false)->
 wk C base M l aw h=some (hr,T)->Sub aw hr/\pj C h T/\(∀i,ep hr i≠none->ep aw i≠none\/∃x∈l,x.i=i)/\(∀b,ab C T b≠ab C h b->∃x∈l,b=base+x.i)/\
 ∀x∈l,∃ae,(∀af,Kl C af T base hr M x ae)/\G1 C T hr M x ae:=by
 intro l
 induction l with
 |nil=>
  intro aw h hr T _ _ a
  simp[wk]at a
  obtain⟨rfl,rfl⟩:=a
  exact⟨Sub.refl _,pj.refl _,λi a=> .inl a,λb a=>absurd rfl a,Zs⟩
 |cons x l ak=>
  intro aw h hr T az ch a
  rw[List.pairwise_cons]at az
  obtain⟨el,dA⟩:=az
  obtain⟨Lk,PV,PW⟩:=ch x (Zu ..)
  have step:∀(ae:F) (a2:V an),pj C h a2->(∀b,ab C a2 b≠ab C h b->b=base+x.i)->wk C base M l ((x.i,ae)::aw) a2=some (hr,T)->
   (∀hr T,Sub ((x.i,ae)::aw) hr->pj C a2 T->(ab C a2 (base+x.i)≠none->ab C T (base+x.i)=ab C a2 (base+x.i))->(∀af,Kl C af T base hr M x ae)/\G1 C T hr M x ae)->
   Sub aw hr/\pj C h T/\(∀i,ep hr i≠none->ep aw i≠none\/∃iC∈x::l,iC.i=i)/\(∀b,ab C T b≠ab C h b->∃iC∈x::l,b=base+iC.i)/\∀iC∈x::l,∃ae,(∀af,Kl C af T base hr M iC ae)/\G1 C T hr M iC ae:=by
   intro ae a2 qm uu aM ah
   have yB:Sub aw ((x.i,ae)::aw):=Sub.cons Lk
   have qj:∀iC∈l,ep ((x.i,ae)::aw) iC.i=none/\ab C a2 (base+iC.i)=none/\nr iC.op=false:=by
    intro iC qq
    obtain⟨b4,b7,cN⟩:=ch iC (Zr _ qq)
    have dD:=el iC qq
    refine⟨by rw[qS,Zg dD];exact b4, ?_,cN⟩
    by_cases am:ab C a2 (base+iC.i)=ab C h (base+iC.i)
    ·rw[am];exact b7
    ·have:=uu _ am;omega
   obtain⟨bV,cw,c4,ec,eU⟩:=ak _ _ _ _ dA qj aM
   have wW:ab C T (base+x.i)=ab C a2 (base+x.i):=by
    by_cases am:ab C T (base+x.i)=ab C a2 (base+x.i)
    ·exact am
    ·obtain⟨iC,qq,J⟩:=ec _ am
     exact absurd Zo (el iC qq)
   refine⟨yB.trans bV,qm.trans cw,λi aJ=> ?_,λb aj=> ?_,λiC qq=> ?_⟩
   ·rcases c4 i aJ with Q|⟨iC,Q,U⟩
    ·rw[qS]at Q
     split at Q
     ·rename_i J;exact .inr ⟨x,Zu ..,J⟩
     ·exact .inl Q
    ·exact .inr ⟨iC,Zr _ Q,U⟩
   ·by_cases am:ab C T b=ab C a2 b
    ·rw[am]at aj
     exact⟨x,Zu ..,uu b aj⟩
    ·obtain⟨iC,Q,U⟩:=ec b am
     exact⟨iC,Zr _ Q,U⟩
   ·rcases Zt.1 qq with rfl|qq
    ·exact⟨ae,ah hr T bV cw (λ_=>wW)⟩
    ·exact eU iC qq
  have wW:∀(ae:F) (hr:List (Nat×F)),Sub ((x.i,ae)::aw) hr->ep hr x.i=some ae:=λae hr aD=>aD _ _ (by rw[qS,Zq rfl])
  simp only[wk]at a
  split at a
  ·simp at a
  ·rename_i bJ
   refine step undef h (pj.refl _) (λb aj=>absurd rfl aj) a λhr T aD aC _=> ?_
   have A1:Sub aw hr:=(Sub.cons Lk).trans aD
   exact⟨λaf=>⟨wW _ _ aD,aw,false,A1,bJ,λ_=>rfl,Zs⟩,aw, .nil,false,A1,ac0 _,bJ,Zs⟩
  ·rename_i bJ
   cases aN:mu x.op with
   |make=>
    rw[aN]at a
    simp only at a
    split at a
    ·rename_i ae cT bp
     simp only[g8]at a
     have aj:C.a8<=base+x.i:=Zo
     refine step ae _ (λb=> ?_) (λb jI=> ?_) a λhr T aD aC Mi=> ?_
     ·rw[fR _ aj]
      by_cases J:b=base+x.i
      ·subst J;exact .inr PV
      ·rw[Zg J];exact .inl rfl
     ·rw[fR _ aj]at jI
      by_cases J:b=base+x.i
      ·exact J
      ·rw[Zg J]at jI;exact absurd rfl jI
     ·have A1:Sub aw hr:=(Sub.cons Lk).trans aD
      have hF:ab C T (base+x.i)=some cT:=by
       rw[Mi (by rw[fR _ aj,Zq rfl];simp),fR _ aj,Zq rfl]
      exact⟨λaf=>⟨wW _ _ aD,aw,true,A1,bJ,Zs,λ_=>⟨PW,λ_=>⟨cT,bp,hF⟩,λam=>by rw[aN]at am;cases am⟩⟩,aw,h,true,A1,
       (by
        intro b
        rcases aC b with am|am
        ·rw[fR _ aj]at am
         by_cases J:b=base+x.i
         ·subst J;exact .inr PV
         ·rw[Zg J]at am;exact .inl am
        ·rw[fR _ aj]at am
         by_cases J:b=base+x.i
         ·subst J;exact .inr PV
         ·rw[Zg J]at am;exact .inr am),bJ,λ_ am=>by rw[aN]at am;cases am⟩
    ·simp at a
   |hV=>
    rw[aN]at a
    simp only at a
    split at a
    ·rename_i ae be
     refine step ae h (pj.refl _) (λb aj=>absurd rfl aj) a λhr T aD aC _=> ?_
     have A1:Sub aw hr:=(Sub.cons Lk).trans aD
     exact⟨λaf=>⟨wW _ _ aD,aw,true,A1,bJ,Zs,λ_=>⟨PW,λam=>(by rw[aN]at am;cases am),λ_ FE kk=>by rw[asj aN FE kk h];exact be⟩⟩,aw,h,true,A1,aC,bJ,λ_ _=>be⟩
    ·simp at a
   |ff=>simp[nr,aN]at PW
end
end Go.bi

namespace Go.bi
open Go.RowKit (Below)
section
variable{C:aZ}{R db dR:c6}{af dB d3:Nat->Prop}{h T:V an}{j au bj:Nat}{w bW:World}{n av:Nat}{ax:Array Oper}
variable{br:World}{bz:Nat}{bO:List Frame}{v:F}{ak:hp}
variable{fn:Nat}{bd:List hA}{aG:Bool}{ro:Option Nat}{cs:List gH}{M:V F}{tmps:Array Value}{bv:List Item}{aq:List Frame}{bS aJ:Nat}
def alF{aw:List (Nat×F)}:∀(l:List fi),Cj C M aw h l=true->∀x∈l,∃b,om x.g aw=some b/\(b=true->∃ae,gS x.op C h aw M=some ae/\ep aw x.i=some ae):=by
 intro l
 induction l with
 |nil=>intro _ x a;simp at a
 |cons K l ak=>
  intro a x ah
  simp only[Cj]at a
  split at a
  ·simp at a
  ·rename_i bJ
   rcases Zt.1 ah with rfl|ah
   ·exact⟨false,bJ,Zs⟩
   ·exact ak a x ah
  ·rename_i bJ
   split at a
   ·rename_i ae sI Q U
    simp only[Zp]at a
    have:=NR _ _ _ a.1
    subst this
    rcases Zt.1 ah with rfl|ah
    ·exact⟨true,bJ,λ_=>⟨ae,Q,U⟩⟩
    ·exact ak a.2 x ah
   ·simp at a
def axF{ig:List pk}{B:Nat}{aC:List (gh×fi)}:∃s rest,yN ig B aC=s::rest/\s.tv=sQ B ig/\s.S6=DN B ig/\
 (match aC with|[]=>s.ff=none/\rest=[]|e::hk=>s.ff=some e.2/\rest=yN ig (B+1) hk):=by
 cases aC with
 |nil=>exact⟨_,_,rfl,rfl,rfl,rfl,rfl⟩
 |cons e aC=>exact⟨_,_,rfl,rfl,rfl,rfl,rfl⟩
def An{B:Nat}:∀{ig:List pk}{x:fi},x∈sQ B ig↔∃l∈ig,l.bS=B/\l.x=x:=by
 intro ig
 induction ig with
 |nil=>intro x;simp[sQ]
 |cons K ig ak=>
  intro x
  simp only[sQ,hD]
  by_cases a:K.bS=B
  ·simp only[a,ZD,Zt,ak]
   constructor
   ·rintro(rfl|⟨l,Q,U,ar⟩)
    ·exact⟨K, .inl rfl,a,rfl⟩
    ·exact⟨l, .inr Q,U,ar⟩
   ·rintro⟨l,rfl|Q,U,ar⟩
    ·exact .inl ar.symm
    ·exact .inr ⟨l,Q,U,ar⟩
  ·simp only[a,ZA,ak]
   constructor
   ·rintro⟨l,Q,U,ar⟩;exact⟨l, .tail _ Q,U,ar⟩
   ·rintro⟨l,Q,U,ar⟩
    rcases Zt.1 Q with rfl|Q
    ·exact absurd U a
    ·exact⟨l,Q,U,ar⟩
def avT{B:Nat}:∀{ig:List pk}{l:pk},l∈ig->l.bS<B->B<=l.aJ->BH l.x.op=true->l.x∈DN B ig:=by
 intro ig
 induction ig with
 |nil=>intro l a;simp at a
 |cons K ig ak=>
  intro l aC Q U ar
  simp only[DN,fw]
  rcases Zt.1 aC with rfl|aC
  ·rw[Zq]
   ·exact Zu ..
   ·have bD:Nat.blt l.bS B=true:=by simp[Nat.blt];omega
    have cF:Nat.ble B l.aJ=true:=by simpa using U
    simp[bD,cF,ar]
  ·split
   ·exact Zr _ (ak aC Q U ar)
   ·exact ak aC Q U ar
def aku{B:Nat}:∀{ig:List pk},(ig.Pairwise λK b=>K.x.i<b.x.i)->(sQ B ig).Pairwise λK b=>K.i≠b.i:=by
 intro ig
 induction ig with
 |nil=>intro _;simp[sQ]
 |cons K ig ak=>
  intro a
  rw[List.pairwise_cons]at a
  simp only[sQ,hD]
  split
  ·rw[List.pairwise_cons]
   refine⟨λx ah=> ?_,ak a.2⟩
   obtain⟨l,Q,_,rfl⟩:=An.1 ah
   have:=a.1 l Q;omega
  ·exact ak a.2
def asX(op:jC):nr op=true/\mu op= .ff\/nr op=false/\(mu op= .hV\/mu op= .make):=by
 unfold nr
 cases mu op<;>simp
def at0(cG:Env C br dR d3)(gk:m6 C br bz bO ak){B:List dV}{base eE:Nat}{aw:List (Nat×F)}(uE:bS<=base)(f1:base+ax.size<=j)(gU:C.a8<=base){s:wa}{rest:List wa}
 (di:match (gz C n av ax).drop eE with|[]=>s.ff=none|e::hk=>s.ff=some e.2/\rest=yN (lv C n av ax) (eE+1) hk)
 (a:(match s.ff with
    |none=>HK (kL av ax.toList 0) aw M λM=>ak .run B ⟨fn,n,av,bd,aG,ro,cs⟩ M h j
    |some a=>(match om a.g aw with
     |none=>none
     |some w=>bP (w) ((match hI a.op C h j aw M with
       |some r=>nI r ak C (.y4 ax base aw a.i rest (kL av ax.toList 0)) B ⟨fn,n,av,bd,aG,ro,cs⟩ M h j
       |none=>none))<|ak .run (.drawn ax base ((a.i,undef)::aw) rest (kL av ax.toList 0)::B) ⟨fn,n,av,bd,aG,ro,cs⟩ M h j))=some v):
 ∀(l:List Nat) (R:c6) (af:Nat->Prop) (w:World) (tmps:Array Value) (dk:Nat->Prop),iS C br bz bO fn av bd aG ro cs h j R af w bS aq->lm C R af av B bv->qK C R af h base n av ax aw eE (eE+1) M tmps dk->v8 ax dk l->
  (∀l∈lv C n av ax,l.bS<eE+1->¬dk l.x.i->∃ae,ep aw l.x.i=some ae/\G1 C h aw M l.x ae)->Ends C br bz bO v (lone (cr R fn bd aG ro tmps (.inRegion ax l::bv) .run) aq w):=by
 intro l
 induction l with
 |nil=>
  intro R af w tmps dk aE aN aM aD Ru
  cases aD with
  |nil kO=>
   have L5:(gz C n av ax).drop eE=[]:=by
    cases b1:(gz C n av ax).drop eE with
    |nil=>rfl
    |cons e hk=>
     exfalso
     have H:(gz C n av ax)[eE]? =some e:=by
      have:((gz C n av ax).drop eE)[0]? =some e:=by rw[b1];rfl
      rwa[YJ]at this
     have bT:=kO e.1.i (alH aM.st (Zl H)).1
     have:=(aM.done eE e H).1 bT
     omega
   rw[L5]at di
   simp only at di
   rw[di]at a
   simp only[Lb,od]at a
   split at a
   ·rename_i cZ hL
    refine .head aeJ ?_
    have bB:ou R af av (λ_=>True) (h8 ax ax.size) aw M tmps:=by
     obtain⟨_,eZ,ji⟩:=Ki ax ax.size (Zi _)
     intro t ae _ be
     apply aM.Ci t ae
     split at be
     ·rename_i aa bG
      obtain⟨b4,b7,cN⟩:=eZ t aa bG
      left
      refine⟨aa,kO aa b4,b7,λoR IA r2=> ?_,be⟩
      rcases Y1 aa oR with c1|wO
      ·exact absurd r2 (cN oR c1 (aM.w4 oR IA))
      ·exact wO
     ·rename_i bG
      exact .inr ⟨λaa IA=>ji t bG aa (aM.w4 aa IA),be⟩
    exact gk _ _ _ _ _ _ _ _ _ _ _ _ v a R af w bS tmps bv aq (aE.state (.plain aN (XP bB aM.size hL)))
   ·simp at a
 |cons i l mS=>
  intro R af w tmps dk aE aN aM aD Ru
  cases aD with
  |cons bl qn lB pI=>
   rename_i Y
   have aJ:i<ax.size:=(ZQ.1 bl).1
   obtain⟨p,x,o',fW,fv,z3,z4,z5,rv⟩:=xX aM.st i aJ
   have aqI:o'=Y:=by
    have:=z5.oper
    rw[z4,bl]at this
    exact(Yx this).symm
   subst aqI
   have MM:=alI aM.st aM.closed aM.w4 aM.Ci fv bl qn lB
   have Mp:=Hw aM.closed (Nc fv) (by rw[z3];exact bl) lB
   have aB:=z5
   have b5:=aB.g
   have CY:=aB.op
   have cC:=aB.reads
   rw[z4]at b5 CY cC
   have yr:∀kb,Sub kb aw->jd R af (kC tmps) (iX (h8 ax i) kb M) o'.op.operands.toList:=by
    intro kb yB
    refine XD (X:=λt=>fq p.r t=true) (λt ae bQ be=>MM t ae bQ ?_) (λt bc=>avA rv bc) cC aE.hK
    split at be
    ·exact yB _ _ be
    ·exact be
   have Q7:∀aa b t,o'.guard=some (aa,b)->wn aa (h8 ax i)=some t->fq p.r t=true:=by
    intro aa b t Q U
    rw[rv.r,Ex,z3]
    have:fq (Lx (h8 ax i) o'.guard) t=true:=by
     rw[Q]
     simp only[Lx,U]
     rw[KH];simp
    rw[this];simp
   have j0:∀(db:c6) (ae:Value),(cr db fn bd aG ro tmps (.inRegion ax (i::l)::bv) .run).finish ae=cr db fn bd aG ro (pQ tmps o'.dst ae) (.inRegion ax l::bv) .run:=by
    intro db ae
    rw[Le (g:=cr db fn bd aG ro tmps _ .run) rfl bl];rfl
   rcases asX x.op with ⟨gD,oL⟩|⟨gD,oL⟩
   ·
    have Iz:(p,x)∈gz C n av ax:=by rw[KS];exact YN.2 ⟨Zl fW,gD⟩
    obtain⟨am,b1⟩:=Z1.1 Iz
    have aq4:am=eE:=by
     rcases YU am eE with c1|J|gK
     ·exact absurd ((aM.done am _ b1).2 c1) (by simpa only[z3]using qn)
     ·exact J
     ·exfalso
      have fD:am-1<(gz C n av ax).length:=zt (Zb.1 b1).1
      have abT:(gz C n av ax)[am-1]? =some ((gz C n av ax)[am-1]):=Ze fD
      have aaL:=aM.st.chain
      rw[Lj]at aaL
      have aj:=apB aaL (am-1) ((gz C n av ax)[am-1]).1 p (by rw[Zx,abT];rfl) (by rw[show am-1+1=am by omega,Zx,b1];rfl)
      have bT:=Mp _ aj
      have:=(aM.done (am-1) _ abT).1 bT
      omega
    subst aq4
    have L5:(gz C n av ax).drop am=(p,x)::(gz C n av ax).drop (am+1):=by
     have c1:=(Zb.1 b1).1
     rw[Zv c1,(Zb.1 b1).2]
    rw[L5]at di
    simp only at di
    obtain⟨k8,qp⟩:=di
    rw[k8]at a
    simp only at a
    have H:ax[((p,x):gh×fi).1.i]? =some o':=by simp only[z3];exact bl
    split at a
    ·simp at a
    ·rename_i TS lW
     have sj:=Oc (zo aJ) b5 MM Q7 (Sub.refl aw) lW
     have abz:¬dk ((p,x):gh×fi).1.i:=by simpa only[z3]using qn
     have ar3:x.i=((p,x):gh×fi).1.i:=by simp only[z3,z4]
     cases TS with
     |false=>
      simp only[jF]at a
      refine .head (Ty bl sj) ?_
      rw[j0]
      rw[ar3,qp]at a
      have:=aM.ff b1 H abz lB (v:=undef) trivial aB.dst
      exact gk _ _ _ _ _ _ _ _ _ _ _ _ v a R af w bS _ _ aq (aE.state (.drawn aN uE f1 this (by simp only[z3];exact pI)))
     |true=>
      simp only[eP]at a
      split at a
      ·rename_i r Z
       have lT:=aaU aE.Z aE.ew cG.j5 (yr aw (Sub.refl aw)) CY Z
       have IW:md C R af h bS j n av M tmps (.y4 ax base aw x.i rest (kL av ax.toList 0)::B) (.inRegion ax (i::l)::bv):=by
        have ab9:=md.drawn (bS:=bS) (aJ:=j) (l:=l) aN uE f1 aM b1 H abz lB (by simp only[z3];exact pI)
        simp only[z3]at ab9
        rw[qp,z4]
        exact ab9
       exact Wp cG gk aE IW aE.jO (Zi _) bl sj lT a
      ·simp at a
   ·
    have aqn:=Zl fW
    have gr:(⟨x,ua p.m (qa (gz C n av ax)),AU p.i (qa (gz C n av ax))⟩:pk)∈lv C n av ax:=by
     rw[KU];exact ZT.2 ⟨(p,x),YN.2 ⟨aqn,by simp[gD]⟩,rfl⟩
    have nU:ua p.m (qa (gz C n av ax))<eE+1:=by
     have:=alr p.m (qa (gz C n av ax)) eE (λam e b1 gl=>by
      rw[Lj,Zx]at b1
      cases cv:(gz C n av ax)[am]? with
      |none=>rw[cv]at b1;cases b1
      |some bt=>
       rw[cv]at b1;cases b1
       cases aj:fq p.m bt.1.i with
       |false=>rfl
       |true=>have:=(aM.done am bt cv).1 (Mp _ aj);omega)
     omega
    have Fq:¬dk x.i:=by rw[z4];exact qn
    obtain⟨ae,w2,Db⟩:=aM.ahead _ gr nU
    obtain⟨uD,kb,b,aaA,yF,hS,nQ⟩:=Db Fq
    have sj:=Oc (zo aJ) b5 MM Q7 aaA yF
    have RA:ax[x.i]? =some o':=by rw[z4];exact bl
    have Rv:∀Ou:Nat->Prop,(∀aa,dk aa->Ou aa)->∀l∈lv C n av ax,l.bS<eE+1->¬Ou l.x.i->∃ae,ep aw l.x.i=some ae/\G1 C h aw M l.x ae:=λOu Cy b8 Q U ar=>Ru b8 Q U (λam=>ar (Cy _ am))
    have Ij:add dk x.i=add dk i:=by rw[z4]
    cases b with
    |false=>
     have:ae=undef:=hS rfl
     subst this
     refine .head (Ty bl sj) ?_
     rw[j0]
     have jJ:=aM.hV (db:=R) (dB:=af) gr nU RA Fq lB w2 (λ_ _=>rfl) (λ_ a=>a) (λ_ a=> .inl a) (by trivial) aB.dst
     simp only[Ij]at jJ
     exact mS R af w _ _ aE aN jJ pI (Rv _ λ_ a=> .inl a)
    |true=>
     obtain⟨_,IJ,_⟩:=nQ rfl
     rcases oL with oL|oL
     ·obtain⟨sI,tm,ajL,ajI,sS,aO,bg,bs,c7⟩:=Ru _ gr nU Fq
      simp only at tm bs c7
      rw[w2]at tm;cases tm
      have arX:=Oc (zo aJ) b5 MM Q7 aO bs
      have f1:sS=true:=by rw[<-arX,sj]
      have ti:=c7 f1 oL
      have AZ:dl C R af ajI j br.heap.size w:=aE.Z.XK bg
      obtain⟨bh,cl⟩:=ac2 AZ (yr ajL aO) CY ti
      refine .head (DU bl sj bh (.inl rfl)) ?_
      rw[j0]
      have jJ:=aM.hV (db:=R) (dB:=af) gr nU RA Fq lB w2 (λ_ _=>rfl) (λ_ a=>a) (λ_ a=> .inl a) cl aB.dst
      simp only[Ij]at jJ
      exact mS R af w _ _ aE aN jJ pI (Rv _ λ_ a=> .inl a)
     ·obtain⟨cT,bp,hF⟩:=IJ oL
      simp only at bp hF
      have nV:¬af (base+x.i):=λam=>Fq (aM.ids x.i (by rw[z4];exact aJ) am)
      obtain⟨ob,e8,fQ,kt⟩:=ade (w:=w) (R:=R) nV (yr kb aaA) (Na CY bp)
      have c1:base+x.i<j:=by rw[z4];omega
      have mj:=aE.Z.alloc (au:=j) (T:=h) (b:=base+x.i) Zo c1 (Zi _) nV aE.ew rfl hF (λ_ _=> .inl rfl) kt (adf (Na CY bp))
      have ah:il C bS R af h br.heap.size w (gn R (base+x.i) ⟨w.heap.size,0,0⟩) (add af (base+x.i)) h (w.alloc ob):=
       ⟨qF nV,λ_ a=> .inl a,λe a=>a.elim .inl (λa=> .inr Zo),λ_ _ _=>rfl,Below.alloc (Below.refl _ _) aE.ew _⟩
      refine .head (DU bl sj e8 (.inl rfl)) ?_
      rw[j0, <-Gd ah.iA aE.hJ]
      have jJ:=aM.hV (db:=gn R (base+x.i) ⟨w.heap.size,0,0⟩) (dB:=add af (base+x.i)) gr nU RA Fq lB w2 ah.iA ah.jt (λ_ a=>a) fQ aB.dst
      simp only[Ij]at jJ
      exact mS _ _ _ _ _ (aE.ext mj ah (Zi _)) (aN.ad ah.iA ah.jt) jJ pI (Rv _ λ_ a=> .inl a)
end
end Go.bi

