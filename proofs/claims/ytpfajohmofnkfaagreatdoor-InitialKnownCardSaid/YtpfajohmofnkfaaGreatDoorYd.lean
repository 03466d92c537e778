/- A part of the proof of the claim's last text: what it is used for is said there; no condition of its own. -/
import Derived.Test.YtpfajohmofnkfaaGreatDoorYc
import Derived.Defers
import Derived.RangeFuncRecord
import Derived.Orders
set_option maxHeartbeats 8000000
set_option linter.all false
namespace Go.bg
open Go.RowKit (Below)
def pJ(tmps:Array Value)(dst:Option Nat)(v:Value):Array Value:=match dst with|some d=>tmps.setIfInBounds d v|none=>tmps
def NA(tmps:Array Value)(dst:Option Nat)(v:Value):(pJ tmps dst v).size=tmps.size:=by cases dst<;>simp[pJ]
def adp(tmps:Array Value)(dst:Option Nat)(v:Value)(t:Nat)(a:∀d,dst=some d->d<tmps.size):(pJ tmps dst v)[t]? =if dst=some t then some v else tmps[t]? :=by
 cases dst with
 |none=>simp[pJ]
 |some d=>
  have:=a d rfl
  simp only[pJ,Zf,Array.getElem?_setIfInBounds]
  by_cases F:d=t
  ·subst F;simp[this]
  ·simp[F]
def Sub(au ho:List (Nat×H)):Prop:=∀Y ad,et au Y=some ad->et ho Y=some ad
def Sub.refl(au:List (Nat×H)):Sub au au:=λ_ _ a=>a
def Sub.trans{J b c:List (Nat×H)}(a:Sub J b)(D:Sub b c):Sub J c:=λY ad bH=>D Y ad (a Y ad bH)
def Sub.cons{au:List (Nat×H)}{i:Nat}{v:H}(a:et au i=none):Sub au ((i,v)::au):=λY ad bH=>by
 rw[qS,Zh]
 ·exact bH
 ·intro F;subst F;rw[a]at bH;cases bH
def pi(C:aW)(h T:S ak):Prop:=∀x,aa C h x=aa C T x\/aa C h x=none
inductive we(av:Array Oper):(Nat->Prop)->List Nat->Prop
 |nil {di}:(∀i,i<av.size->di i)->we av di []
 |cons {di i W l}:av[i]? =some W->¬di i->(∀F∈W.after.toList,Region.binds .any F=true->di F.on)->we av (add di i) l->we av di (i::l)
noncomputable def ws(C:aW)(n aq:Nat)(av:Array Oper):List fg:=(rS C n aq av.toList 0 []).getD []
noncomputable def ov(av:Array Oper):List gd:=Bs av.toList 0 [] []
noncomputable def gx(C:aW)(n aq:Nat)(av:Array Oper):List (gd×fg):=Fk (ov av) (ws C n aq av)
noncomputable def lE(C:aW)(n aq:Nat)(av:Array Oper):List pj:=F6 (p4 (gx C n aq av)) (ov av) (ws C n aq av)
structure pg(C:aW)(n aq:Nat)(av:Array Oper):Prop where
 aj4:rS C n aq av.toList 0 []=some (ws C n aq av)
 aw0:DH av.toList 0=true
 atb:JF (ov av)=true
 chain:It (p4 (gx C n aq av))=true
section
variable{C:aW}{n aq:Nat}{av:Array Oper}
def Pd(a:pg C n aq av):(ws C n aq av).length=av.size/\∀Y x,(ws C n aq av)[Y]? =some x->x.i=Y/\∃W,Kq C n aq av x W:=by
 have cj:=a.aj4
 have:=ajT (av:=av) av.toList 0 _ Zs (by rw[Kj];exact cj)
 exact⟨by simpa using this.1,λY x ag=>by simpa using this.2 Y x ag⟩
def HA(av:Array Oper):(ov av).length=av.size/\(∀Y p,(ov av)[Y]? =some p->p.i=Y/\∃W,Ej av p W):=by
 have:=acx (av:=av) av.toList 0 [] Zs Zs
 rw[Kj]at this
 exact⟨by unfold ov;simpa using this.1,λY p ay=>by simpa using this.2.1 Y p ay⟩
noncomputable def qU(C:aW)(n aq:Nat)(av:Array Oper):List (gd×fg):=(ov av).zip (ws C n aq av)
def xT(a:pg C n aq av)(i:Nat)(aM:i<av.size):∃p x W,(qU C n aq av)[i]? =some (p,x)/\(ov av)[i]? =some p/\p.i=i/\x.i=i/\Kq C n aq av x W/\Ej av p W:=by
 obtain⟨bd,cg⟩:=Pd a
 obtain⟨cZ,dO⟩:=HA av
 have ag:(ws C n aq av)[i]? =some ((ws C n aq av)[i]'Zo):=Ze _
 have ay:(ov av)[i]? =some ((ov av)[i]'Zo):=Ze _
 obtain⟨dk,W,dB⟩:=cg _ _ ag
 obtain⟨cT,o',cJ⟩:=dO _ _ ay
 have:o'=W:=by
  have bB:=dB.oper;have cF:=cJ.oper
  rw[dk]at bB;rw[cT]at cF
  rw[bB]at cF;exact(Yu cF).symm
 subst this
 refine⟨_,_,o', ?_,ay,cT,dk,dB,cJ⟩
 unfold qU
 rw[List.getElem?_zip_eq_some]
 exact⟨ay,ag⟩
def xU(a:pg C n aq av){e:gd×fg}(I:e∈qU C n aq av):∃W,e.1.i<av.size/\e.2.i=e.1.i/\(qU C n aq av)[e.1.i]? =some e/\(ov av)[e.1.i]? =some e.1/\Kq C n aq av e.2 W/\Ej av e.1 W:=by
 obtain⟨Y,bH⟩:=ZX.1 I
 have fB:(qU C n aq av).length=av.size:=by
  unfold qU
  rw[List.length_zip,(Pd a).1,(HA av).1,Nat.min_self]
 have c2:Y<av.size:=by have:=(Zc.1 bH).1;omega
 obtain⟨p,x,W,R,U,ar,aO,bN,cv⟩:=xT a Y c2
 rw[bH]at R
 cases R
 refine⟨W,by simp only;omega,by simp only;omega, ?_, ?_,bN,cv⟩
 ·simp only[ar];exact bH
 ·simp only[ar];exact U
def KU:gx C n aq av=(qU C n aq av).filter λ(x:gd×fg)=>nt x.2.op:=aoc _ _
def KW:lE C n aq av=((qU C n aq av).filter λ(x:gd×fg)=> !nt x.2.op).map λ(x:gd×fg)=>⟨x.2,uc x.1.m (p4 (gx C n aq av)),AS x.1.i (p4 (gx C n aq av))⟩:=arJ _ _ _
def KY{l:pj}(aB:l∈lE C n aq av):∃p,(p,l.x)∈qU C n aq av/\nt l.x.op=false/\l.bT=uc p.m (p4 (gx C n aq av))/\l.aM=AS p.i (p4 (gx C n aq av)):=by
 rw[KW]at aB
 obtain⟨e,I,rfl⟩:=ZW.1 aB
 obtain⟨R,U⟩:=YE.1 I
 exact⟨e.1,R,by simpa using U,rfl,rfl⟩
def KV{e:gd×fg}(I:e∈gx C n aq av):e∈qU C n aq av/\nt e.2.op=true:=by
 rw[KU]at I
 exact YE.1 I
def WF(a:pg C n aq av)(i:Nat)(aM:i<av.size):(∃l∈lE C n aq av,l.x.i=i)\/(∃(p:Nat) (e:gd×fg),(gx C n aq av)[p]? =some e/\e.1.i=i):=by
 obtain⟨p,x,W,R,U,ar,aO,bN,cv⟩:=xT a i aM
 have bp:=Zj R
 cases gb:nt x.op with
 |true=>
  refine .inr ?_
  have:(p,x)∈gx C n aq av:=by rw[KU];exact YE.2 ⟨bp,gb⟩
  obtain⟨an,cl⟩:=ZX.1 this
  exact⟨an,_,cl,ar⟩
 |false=>
  refine .inl ⟨_,by rw[KW];exact ZW.2 ⟨(p,x),YE.2 ⟨bp,by simp[gb]⟩,rfl⟩,aO⟩
def WE(a:pg C n aq av):(qU C n aq av).Pairwise λJ b=>J.1.i<b.1.i:=by
 rw[YH]
 intro i Y aM bH L6
 have fB:(qU C n aq av).length=av.size:=by
  unfold qU
  rw[List.length_zip,(Pd a).1,(HA av).1,Nat.min_self]
 obtain⟨p,x,W,R,U,ar,_⟩:=xT a i Zo
 obtain⟨ayK,iE,o',tc,E4,aw6,_⟩:=xT a Y Zo
 rw[Ze aM]at R
 rw[Ze bH]at tc
 rw[Yu R,Yu tc]
 simp only;omega
def WD(a:pg C n aq av){p an:Nat}{e br:gd×fg}(ay:(gx C n aq av)[p]? =some e)(cl:(gx C n aq av)[an]? =some br)(bt:e.1.i=br.1.i):p=an:=by
 have IN:(gx C n aq av).Pairwise λJ b=>J.1.i<b.1.i:=by rw[KU];exact(WE a).filter _
 rw[YH]at IN
 obtain⟨R,U⟩:=Zc.1 ay
 obtain⟨ar,aO⟩:=Zc.1 cl
 rcases YL p an with c2|rfl|gU
 ·have:=IN p an R ar c2
  rw[U,aO]at this;omega
 ·rfl
 ·have:=IN an p ar R gU
  rw[U,aO]at this;omega
def Pe(a:pg C n aq av):(lE C n aq av).Pairwise λJ b=>J.x.i<b.x.i:=by
 rw[KW,List.pairwise_map]
 have R:((qU C n aq av).filter λ(x:gd×fg)=> !nt x.2.op).Pairwise λJ b=>J.1.i<b.1.i:=(WE a).filter _
 refine R.imp_of_mem λ{J b} aC ai c2=> ?_
 obtain⟨_,_,bB,_⟩:=xU a (YE.1 aC).1
 obtain⟨_,_,cF,_⟩:=xU a (YE.1 ai).1
 show J.2.i<b.2.i
 rw[bB,cF];exact c2
def KX(a:pg C n aq av){l:pj}(aB:l∈lE C n aq av):l.x.i<av.size:=by
 obtain⟨p,ay,_⟩:=KY aB
 obtain⟨_,R,U,_⟩:=xU a ay
 simp only at R U;omega
def aku(a:pg C n aq av){e:gd×fg}(I:e∈gx C n aq av):e.1.i<av.size/\e.2.i=e.1.i:=by
 obtain⟨_,R,U,_⟩:=xU a (KV I).1
 exact⟨R,U⟩
def BU(av:Array Oper)(di:Nat->Prop):Prop:=∀i W,av[i]? =some W->di i->∀F∈W.after.toList,Region.binds .any F=true->di F.on
def HB{di:Nat->Prop}(bS:BU av di){p:gd}(ay:p∈ov av){W:Oper}(bf:av[p.i]? =some W)
 (lJ:∀F∈W.after.toList,Region.binds .any F=true->di F.on):∀J,bit p.m J=true->di J:=by
 have key:=(acx (av:=av) av.toList 0 [] Zs Zs).2.2 (λi m=>(∀W,av[i]? =some W->∀F∈W.after.toList,Region.binds .any F=true->di F.on)->∀J,bit m J=true->di J) Zs
  (λY W m bH _ bp lJ J aC=>by
   obtain⟨F,R,U,ar⟩:=bp J aC
   have bt:=lJ W bH F R U
   rcases ar with rfl|⟨gj,aO,bN⟩
   ·exact bt
   ·exact aO (λo' Ft ib an7 jQ=>bS F.on o' Ft bt ib an7 jQ) J bN)
 rw[Kj]at key
 exact key p ay (λo' Ft=>by rw[bf]at Ft;cases Ft;exact lJ)
end
structure Kn(C:aW)(ae:Nat->Prop)(h:S ak)(base:Nat)(au:List (Nat×H))(K:S H)(x:fg)(ad:H):Prop where
 key:et au x.i=some ad
 ok:∃kj b,Sub kj au/\og x.g kj=some b/\(b=false->ad=undef)/\(b=true->(nt x.op=false)/\
  (mA x.op= .make->∃cR,nQ x.op C (base+x.i) kj K=some (ad,cR)/\aa C h (base+x.i)=some cR)/\
  (mA x.op= .hX->BK x.op=false->∀ks,gJ x.op C ks kj K=some ad))
def G5(C:aW)(h:S ak)(au:List (Nat×H))(K:S H)(x:fg)(ad:H):Prop:=
 ∃kj ks b,Sub kj au/\pi C ks h/\og x.g kj=some b/\(b=true->mA x.op= .hX->gJ x.op C ks kj K=some ad)
def Ab(Q:c6)(ae:Nat->Prop)(aq:Nat)(av:Array Oper)(di:Nat->Prop)(au:List (Nat×H))(K:S H)(tmps:Array Value):Prop:=
 ∀t v,((∃Y,di Y/\rT av Y=some t/\(∀oR,di oR->rT av oR=some t->oR<=Y)/\et au Y=some v)\/((∀Y,di Y->rT av Y≠some t)/\bit aq t=true/\K.get t=some v))->
  tmps[t]? =some (aN Q v)/\ch ae v
structure qG(C:aW)(Q:c6)(ae:Nat->Prop)(h:S ak)(base n aq:Nat)(av:Array Oper)(au:List (Nat×H))(D m:Nat)(K:S H)(tmps:Array Value)(di:Nat->Prop):Prop where
 st:pg C n aq av
 size:tmps.size=n
 MW:D<=(gx C n aq av).length
 dW:C.a7<=base
 closed:BU av di
 w5:∀i,di i->i<av.size
 done:∀p a,(gx C n aq av)[p]? =some a->(di a.1.i↔p<D)
 tx:∀l∈lE C n aq av,di l.x.i->l.bT<m
 keys:∀i ad,et au i=some ad->(∃l∈lE C n aq av,l.x.i=i/\l.bT<m)\/(∃p a,(gx C n aq av)[p]? =some a/\a.1.i=i/\p<D)
 uH:∀p a,(gx C n aq av)[p]? =some a->p<D->∃ad,et au a.1.i=some ad
 ahead:∀l∈lE C n aq av,l.bT<m->∃ad,et au l.x.i=some ad/\(¬di l.x.i->Kn C ae h base au K l.x ad)
 Cj:Ab Q ae aq av di au K tmps
 ids:∀i,i<av.size->ae (base+i)->di i
 free:∀i,i<av.size->et au i=none->aa C h (base+i)=none
section
variable{C:aW}{Q c9:c6}{ae du:Nat->Prop}{h T:S ak}{j ao bi:Nat}{w bV:World}
def ot.ac{aq:Nat}{X:Nat->Prop}{ej:List (Nat×Nat)}{au:List (Nat×H)}{K:S H}{tmps:Array Value}(dF:∀b,ae b->c9 b=Q b)(gy:∀b,ae b->du b)(a:ot Q ae aq X ej au K tmps):ot c9 du aq X ej au K tmps:=
 λt v ag bA=>by
  obtain⟨R,U⟩:=a t v ag bA
  exact⟨by rw[R,pX dF U],oC gy v U⟩
def Ab.ac{aq:Nat}{av:Array Oper}{di:Nat->Prop}{au:List (Nat×H)}{K:S H}{tmps:Array Value}(dF:∀b,ae b->c9 b=Q b)(gy:∀b,ae b->du b)(a:Ab Q ae aq av di au K tmps):Ab c9 du aq av di au K tmps:=
 λt v bA=>by
  obtain⟨R,U⟩:=a t v bA
  exact⟨by rw[R,pX dF U],oC gy v U⟩
def rG.ac(dF:∀b,ae b->c9 b=Q b)(gy:∀b,ae b->du b)(a:rG C Q ae):rG C c9 du:=λg b0=>by
 obtain⟨R,U,ar⟩:=a g b0
 exact⟨gy g R,by rw[dF g R];exact U,by rw[dF g R];exact ar⟩
def qG.ac{cX base n aq D m:Nat}{av:Array Oper}{au:List (Nat×H)}{K:S H}{tmps:Array Value}{di:Nat->Prop}(ag:iq C cX Q ae h bi w c9 du T bV)(aB:base+av.size<=cX)
 (a:qG C Q ae h base n aq av au D m K tmps di):qG C c9 du T base n aq av au D m K tmps di:=by
 have Fo:∀i,i<av.size->du (base+i)->di i:=λi aM aH=>(ag.new _ aH).elim (a.ids i aM) (λan=>Zo)
 refine⟨a.st,a.size,a.MW,a.dW,a.closed,a.w5,a.done,a.tx,a.keys,a.uH, ?_,a.Cj.ac ag.iD ag.ju,Fo, ?_⟩
 ·intro l hh nZ
  obtain⟨ad,R,U⟩:=a.ahead l hh nZ
  refine⟨ad,R,λbS=> ?_⟩
  obtain⟨ar,kj,b,aO,bN,cv,dP⟩:=U bS
  refine⟨ar,kj,b,aO,bN,cv,λai=> ?_⟩
  obtain⟨fq,j2,rZ⟩:=dP ai
  refine⟨fq,λaF=> ?_,rZ⟩
  obtain⟨cR,up,yb⟩:=j2 aF
  refine⟨cR,up, ?_⟩
  have c2:=KX a.st hh
  rw[ag.ac _ (λaH=>bS (a.ids _ c2 aH)) Zo]
  exact yb
 ·intro i aM bA
  rw[ag.ac _ ?_ Zo]
  ·exact a.free i aM bA
  ·intro aH
   have bS:=a.ids i aM aH
   rcases WF a.st i aM with ⟨l,qe,lL⟩|⟨p,e,ay,I⟩
   ·obtain⟨ad,bc,_⟩:=a.ahead l qe (a.tx l qe (by rw[lL];exact bS))
    rw[lL,bA]at bc;cases bc
   ·obtain⟨ad,bc⟩:=a.uH p e ay ((a.done p e ay).1 (by rw[I];exact bS))
    rw[I,bA]at bc;cases bc
end
end Go.bg

namespace Go.bg
open Go.RowKit (Below)
section
variable{C:aW}{Q c9:c6}{ae du:Nat->Prop}{h T:S ak}{j ao bi:Nat}{w bV:World}{n aq:Nat}{av:Array Oper}
def ab7{J b t:Nat}(R:bit J t=true)(U:bit b t=true):Nat.beq (Nat.land J b) 0=false:=by
 cases a:Nat.beq (Nat.land J b) 0 with
 |false=>rfl
 |true=>
  have F:=Zl a
  have:=ajE J b t
  rw[F,KK,R,U]at this
  cases this
def Ny{p:gd}{W:Oper}(a:Ej av p W){t:Nat}(aH:W.dst=some t):bit p.w t=true:=by rw[a.w];exact akE.2 aH
def atA{p:gd}{W:Oper}(a:Ej av p W){t:Nat}(Z:Operand.tmp t∈W.op.operands.toList):bit p.r t=true:=by
 rw[a.r,EA,as1.2 Z];rfl
def O4(a:pg C n aq av){i Y:Nat}{p an:gd}(L6:i<Y)(ay:(ov av)[i]? =some p)(cl:(ov av)[Y]? =some an){t:Nat}
 (az:(bit p.w t=true/\(bit an.r t=true\/bit an.w t=true))\/(bit an.w t=true/\bit p.r t=true)):bit an.m i=true:=by
 have:=asO a.atb i Y p an L6 ay cl
 have IM:p.i=i:=((HA av).2 i p ay).1
 unfold Nk at this
 rw[IM]at this
 rcases az with ⟨R,U⟩|⟨R,U⟩
 ·have ar:bit (Nat.lor an.r an.w) t=true:=by rw[EA];rcases U with U|U<;>simp[U]
  rw[ab7 R ar]at this
  simpa using this
 ·rw[ab7 R U]at this
  simpa using this
def M8{i:Nat}{p:gd}(ay:(ov av)[i]? =some p):p∈ov av:=Zj ay
def akv(df:pg C n aq av){di:Nat->Prop}{au:List (Nat×H)}{K:S H}{tmps:Array Value}(iJ:BU av di)(Ix:∀i,di i->i<av.size)(aH:Ab Q ae aq av di au K tmps)
 {i:Nat}{p:gd}{W:Oper}(ay:(ov av)[i]? =some p)(bf:av[i]? =some W)(qf:¬di i)(lJ:∀F∈W.after.toList,Region.binds .any F=true->di F.on):
 ot Q ae aq (λt=>bit p.r t=true) (h8 av i) au K tmps:=by
 have aM:i<av.size:=(ZJ.1 bf).1
 obtain⟨_,e3,jw⟩:=Kk av i (zk aM)
 have IM:p.i=i:=((HA av).2 i p ay).1
 have Mi:=HB iJ (M8 ay) (by rw[IM];exact bf) lJ
 have aca:∀t Y,bit p.r t=true->i<Y->di Y->rT av Y=some t->False:=by
  intro t Y Z L6 bS ux
  obtain⟨an,x,yN,_,cl,w1,_,ag,yr⟩:=xT df Y (Ix Y bS)
  have yq:av[Y]? =some yN:=by rw[<-w1];exact yr.oper
  have bP:=Ny yr (t:=t) (by rw[<-HE yq];exact ux)
  have ai:=O4 df L6 ay cl (.inr ⟨bP,Z⟩)
  have:=HB iJ (M8 cl) (by rw[w1];exact yq) (iJ Y yN yq bS) i ai
  exact qf this
 intro t v bQ bA
 apply aH t v
 split at bA
 ·rename_i Y bH
  obtain⟨b3,b2,cQ⟩:=e3 t Y bH
  left
  have aoF:Y<av.size:=Zo
  obtain⟨an,x,yN,_,cl,w1,_,ag,yr⟩:=xT df Y aoF
  have yq:av[Y]? =some yN:=by rw[<-w1];exact yr.oper
  have bP:=Ny yr (t:=t) (by rw[<-HE yq];exact b2)
  have ai:=O4 df b3 cl ay (.inl ⟨bP, .inl bQ⟩)
  refine⟨Y,Mi Y ai,b2,λoR CA r3=> ?_,bA⟩
  rcases YL oR i with R|R|R
  ·rcases Y8 Y oR with U|U
   ·exact absurd r3 (cQ oR U R)
   ·exact U
  ·exact absurd (R▸CA) qf
  ·exact(aca t oR bQ R CA r3).elim
 ·rename_i bH
  right
  refine⟨λY bS ux=> ?_,bA.1,bA.2⟩
  rcases YL Y i with R|R|R
  ·exact jw t bH Y R ux
  ·exact qf (R▸bS)
  ·exact aca t Y bQ R bS ux
def Ab.put(df:pg C n aq av){di:Nat->Prop}{au ho:List (Nat×H)}{K:S H}{tmps:Array Value}(iJ:BU av di)(Ix:∀i,di i->i<av.size)(aH:Ab Q ae aq av di au K tmps)(eH:tmps.size=n)
 {i:Nat}{W:Oper}{v:H}(bf:av[i]? =some W)(qf:¬di i)(Qi:∀Y,di Y->∀ad,et ho Y=some ad->et au Y=some ad)(anA:et ho i=some v)(oF:∀d,W.dst=some d->d<n)(fh:ch ae v):
 Ab Q ae aq av (add di i) ho K (pJ tmps W.dst (aN Q v)):=by
 have aM:i<av.size:=(ZJ.1 bf).1
 have Qt:=HE bf
 have Fz:∀t,(pJ tmps W.dst (aN Q v))[t]? =if W.dst=some t then some (aN Q v)else tmps[t]? :=λt=>adp _ _ _ _ (by rw[eH];exact oF)
 intro t ad a
 rw[Fz]
 by_cases Fj:W.dst=some t
 ·rw[Zq Fj]
  rcases a with ⟨Y,bS,ux,wW,bc⟩|⟨R,_⟩
  ·
   have aaz:Y=i:=by
    rcases bS with bS|bS
    ·have gr:=wW i (.inr rfl) (by rw[Qt];exact Fj)
     rcases Y8 i Y with c2|AR
     ·exfalso
      obtain⟨p,x,asK,_,ay,IM,_,_,C3⟩:=xT df i aM
      obtain⟨an,iE,yN,_,cl,w1,_,_,yr⟩:=xT df Y (Ix Y bS)
      have yq:av[Y]? =some yN:=by rw[<-w1];exact yr.oper
      have ao5:asK=W:=by
       have:=C3.oper
       rw[IM,bf]at this
       exact(Yu this).symm
      subst ao5
      have ai:=O4 df c2 ay cl (.inl ⟨Ny C3 Fj, .inr (Ny yr (by rw[<-HE yq];exact ux))⟩)
      exact qf (HB iJ (M8 cl) (by rw[w1];exact yq) (iJ Y yN yq bS) i ai)
     ·omega
    ·exact bS
   subst aaz
   rw[anA]at bc
   cases bc
   exact⟨rfl,fh⟩
  ·exact absurd (by rw[Qt];exact Fj) (R i (.inr rfl))
 ·rw[Zh Fj]
  apply aH t ad
  rcases a with ⟨Y,bS,ux,wW,bc⟩|⟨R,U⟩
  ·left
   have CA:di Y:=bS.resolve_right λF=>Fj (by rw[<-Qt, <-F];exact ux)
   exact⟨Y,CA,ux,λoR Iy r3=>wW oR (.inl Iy) r3,Qi Y CA ad bc⟩
  ·right
   exact⟨λY bH=>R Y (.inl bH),U⟩
def BU.add{di:Nat->Prop}(iJ:BU av di){i:Nat}{W:Oper}(bf:av[i]? =some W)(lJ:∀F∈W.after.toList,Region.binds .any F=true->di F.on):BU av (add di i):=by
 intro Y yN bH bS F bt ai
 rcases bS with bS|bS
 ·exact .inl (iJ Y yN bH bS F bt ai)
 ·subst bS
  rw[bf]at bH;cases bH
  exact .inl (lJ F bt ai)
def M3(df:pg C n aq av){l:pj}(aB:l∈lE C n aq av){p:Nat}{e:gd×fg}(ay:(gx C n aq av)[p]? =some e):l.x.i≠e.1.i:=by
 intro F
 obtain⟨an,R,U,_⟩:=KY aB
 obtain⟨ar,aO⟩:=KV (Zj ay)
 obtain⟨_,_,b2,cQ,_⟩:=xU df R
 obtain⟨_,_,cw,c0,_⟩:=xU df ar
 simp only at b2 cQ
 rw[<-b2,F,c0]at cQ
 cases cQ
 rw[U]at aO;cases aO
def qG.fe{base d0:Nat}{au:List (Nat×H)}{K:S H}{tmps:Array Value}{di:Nat->Prop}(a:qG C Q ae h base n aq av au d0 (d0+1) K tmps di){e:gd×fg}(I:(gx C n aq av)[d0]? =some e)
 {W:Oper}(bf:av[e.1.i]? =some W)(qf:¬di e.1.i)(lJ:∀F∈W.after.toList,Region.binds .any F=true->di F.on){v:H}(fh:ch ae v)(oF:∀d,W.dst=some d->d<n):
 qG C Q ae h base n aq av ((e.1.i,v)::au) (d0+1) (d0+1) K (pJ tmps W.dst (aN Q v)) (add di e.1.i):=by
 have QA:et au e.1.i=none:=by
  cases bA:et au e.1.i with
  |none=>rfl
  |some ad=>
   exfalso
   rcases a.keys _ ad bA with ⟨l,R,U,_⟩|⟨p,br,R,U,ar⟩
   ·exact M3 a.st R I U
   ·have:=WD a.st R I U;omega
 have yw:Sub au ((e.1.i,v)::au):=Sub.cons QA
 have aM:e.1.i<av.size:=(ZJ.1 bf).1
 refine⟨a.st,by rw[NA];exact a.size,by have:=(Zc.1 I).1;omega,a.dW,a.closed.add bf lJ, ?_, ?_, ?_, ?_, ?_, ?_, ?_, ?_, ?_⟩
 ·rintro i (bS|bS)
  ·exact a.w5 i bS
  ·omega
 ·intro p br ct
  constructor
  ·rintro(bS|bS)
   ·have:=(a.done p br ct).1 bS;omega
   ·have:=WD a.st ct I bS;omega
  ·intro ay
   rcases Y8 p d0 with c2|AR
   ·exact .inl ((a.done p br ct).2 c2)
   ·have:p=d0:=Zo
    subst this
    rw[I]at ct;cases ct
    exact .inr rfl
 ·rintro l aB (bS|bS)
  ·exact a.tx l aB bS
  ·exact(M3 a.st aB I bS).elim
 ·intro i ad bc
  rw[qS]at bc
  split at bc
  ·rename_i F
   exact .inr ⟨d0,e,I,F,Zo⟩
  ·rcases a.keys i ad bc with R|⟨p,br,R,U,ar⟩
   ·exact .inl R
   ·exact .inr ⟨p,br,R,U,Zo⟩
 ·intro p br ct ay
  rw[qS]
  split
  ·exact⟨v,rfl⟩
  ·rename_i dI
   have:p≠d0:=λF=>by subst F;rw[I]at ct;cases ct;exact dI rfl
   exact a.uH p br ct Zo
 ·intro l aB nZ
  obtain⟨ad,R,U⟩:=a.ahead l aB nZ
  refine⟨ad,yw _ _ R,λbS=> ?_⟩
  obtain⟨_,kj,b,aO,bN⟩:=U (λan=>bS (.inl an))
  exact⟨yw _ _ R,kj,b,aO.trans yw,bN⟩
 ·refine a.Cj.put a.st a.closed a.w5 a.size bf qf ?_ (by rw[qS,Zq rfl]) oF fh
  intro Y bS ad bc
  rw[qS,Zh]at bc
  ·exact bc
  ·intro F;subst F;exact qf bS
 ·intro i kX aH
  exact .inl (a.ids i kX aH)
 ·intro i kX bA
  rw[qS]at bA
  split at bA
  ·cases bA
  ·exact a.free i kX bA
def qG.hX{base d0 m:Nat}{au:List (Nat×H)}{K:S H}{tmps:Array Value}{di:Nat->Prop}(a:qG C Q ae h base n aq av au d0 m K tmps di){l:pj}(aB:l∈lE C n aq av)(nZ:l.bT<m)
 {W:Oper}(bf:av[l.x.i]? =some W)(qf:¬di l.x.i)(lJ:∀F∈W.after.toList,Region.binds .any F=true->di F.on){v:H}(bA:et au l.x.i=some v)
 (dF:∀b,ae b->c9 b=Q b)(gy:∀b,ae b->du b)(am3:∀b,du b->ae b\/b=base+l.x.i)(fh:ch du v)(oF:∀d,W.dst=some d->d<n):
 qG C c9 du h base n aq av au d0 m K (pJ tmps W.dst (aN c9 v)) (add di l.x.i):=by
 have aM:l.x.i<av.size:=(ZJ.1 bf).1
 refine⟨a.st,by rw[NA];exact a.size,a.MW,a.dW,a.closed.add bf lJ, ?_, ?_, ?_,a.keys,a.uH, ?_, ?_, ?_,a.free⟩
 ·rintro i (bS|bS)
  ·exact a.w5 i bS
  ·omega
 ·intro p br ct
  constructor
  ·rintro(bS|bS)
   ·exact(a.done p br ct).1 bS
   ·exact(M3 a.st aB ct bS.symm).elim
  ·intro ay
   exact .inl ((a.done p br ct).2 ay)
 ·rintro b5 hh (bS|bS)
  ·exact a.tx b5 hh bS
  ·have:=(Pe a.st)
   by_cases an:b5=l
   ·rw[an];exact nZ
   ·exfalso
    obtain⟨J,aC⟩:=ZX.1 hh
    obtain⟨b,ai⟩:=ZX.1 aB
    obtain⟨Ih,nl⟩:=Zc.1 aC
    obtain⟨nV,nn⟩:=Zc.1 ai
    rw[YH]at this
    rcases YL J b with c2|F|gU
    ·have:=this J b Ih nV c2
     rw[nl,nn]at this;omega
    ·subst F
     rw[nl]at nn;exact an nn
    ·have:=this b J nV Ih gU
     rw[nl,nn]at this;omega
 ·intro b5 hh aoK
  obtain⟨ad,R,U⟩:=a.ahead b5 hh aoK
  refine⟨ad,R,λbS=> ?_⟩
  obtain⟨ar,kj,b,aO,bN,cv,dP⟩:=U (λan=>bS (.inl an))
  exact⟨ar,kj,b,aO,bN,cv,dP⟩
 ·exact(a.Cj.ac dF gy).put a.st a.closed a.w5 a.size bf qf (λ_ _ _ an=>an) bA oF fh
 ·intro i kX aH
  rcases am3 _ aH with aH|aH
  ·exact .inl (a.ids i kX aH)
  ·exact .inr Zo
end
end Go.bg

namespace Go.bg
open Go.RowKit (Below)
def sU(Q:c6)(p:rC):PanicEntry:={v:=aN Q p.v,recovered:=p.recovered}
def gG(Q:c6):kN->FrameMode
 | .run=> .run
 | .returning=> .returning
 | .panicking f5=> .panicking (f5.map (sU Q))
def p5(ae:Nat->Prop):kN->Prop
 | .panicking f5=>∀p∈f5,ch ae p.v
 |_=>True
inductive BX(C:aW)(Q:c6)(ae:Nat->Prop)(aq:Nat):dN->Item->Prop
 |code {c:Code}:lC C aq c=true->BX C Q ae aq (.code c) (.code c)
 |inBlock {id:Nat}:BX C Q ae aq (.inBlock id) (.inBlock id)
 |inLoop {b:Code}:lC C aq b=true->BX C Q ae aq (.inLoop b) (.inLoop b)
 |inScope {b:Code}:lC C aq b=true->BX C Q ae aq (.inScope b) (.inScope b)
 |Cn {l:Nat}:ae l->BX C Q ae aq (.endRangeFunc l) (.endRangeFunc (Q l).cE)
 |begin:BX C Q ae aq .beginRound .beginRound
inductive lx(C:aW)(Q:c6)(ae:Nat->Prop)(aq:Nat):List dN->List Item->Prop
 |nil:lx C Q ae aq [] []
 |cons {J x D bq}:BX C Q ae aq J x->lx C Q ae aq D bq->lx C Q ae aq (J::D) (x::bq)
def Ow(C:aW)(Q:c6)(ae:Nat->Prop)(n aq:Nat)(av:Array Oper)(au:List (Nat×H))(rest:List fg)(fin:List (Nat×Nat))(K:S H)(tmps:Array Value)(l:List Nat):Prop:=
 ∃i,i<=av.size/\l=List.range' i (av.size-i)/\rS C n aq (av.toList.drop i) i (h8 av i)=some rest/\fin=kT aq av.toList 0/\ot Q ae aq (λ_=>True) (h8 av i) au K tmps/\tmps.size=n
def aiz(C:aW)(Q:c6)(ae:Nat->Prop)(n aq:Nat)(av:Array Oper)(au:List (Nat×H))(a:Nat)(rest:List fg)(fin:List (Nat×Nat))(K:S H)(tmps:Array Value)(l:List Nat):Prop:=
 ∃W,av[a]? =some W/\(∀d,W.dst=some d->d<n)/\l=List.range' (a+1) (av.size-(a+1))/\rS C n aq (av.toList.drop (a+1)) (a+1) (h8 av (a+1))=some rest/\fin=kT aq av.toList 0/\
  ot Q ae aq (λ_=>True) (h8 av a) au K tmps/\tmps.size=n
inductive B4(C:aW)(Q:c6)(ae:Nat->Prop)(h:S ak)(cX j n aq:Nat)(K:S H)(tmps:Array Value):List dN->List Item->Prop
 |plain {D bq}:lx C Q ae aq D bq->ja Q ae n aq K tmps->B4 C Q ae h cX j n aq K tmps D bq
 |seq {av au rest fin l D bq}:lx C Q ae aq D bq->Ow C Q ae n aq av au rest fin K tmps l->B4 C Q ae h cX j n aq K tmps (.GH av au rest fin::D) (.inRegion av l::bq)
 |drawn {av base au l D bq di d0}:lx C Q ae aq D bq->cX<=base->base+av.size<=j->qG C Q ae h base n aq av au d0 d0 K tmps di->we av di l->
   B4 C Q ae h cX j n aq K tmps (.drawn av base au (yK (lE C n aq av) d0 ((gx C n aq av).drop d0)) (kT aq av.toList 0)::D) (.inRegion av l::bq)
inductive ml(C:aW)(Q:c6)(ae:Nat->Prop)(h:S ak)(bT aM n aq:Nat)(K:S H)(tmps:Array Value):List dN->List Item->Prop
 |seq {av au a rest fin l D bq}:lx C Q ae aq D bq->aiz C Q ae n aq av au a rest fin K tmps l->ml C Q ae h bT aM n aq K tmps (.sL av au a rest fin::D) (.inRegion av (a::l)::bq)
 |drawn {av base au l D bq di d0 e W}:lx C Q ae aq D bq->bT<=base->base+av.size<=aM->qG C Q ae h base n aq av au d0 (d0+1) K tmps di->(gx C n aq av)[d0]? =some e->
   av[e.1.i]? =some W->¬di e.1.i->(∀F∈W.after.toList,Region.binds .any F=true->di F.on)->we av (add di e.1.i) l->
   ml C Q ae h bT aM n aq K tmps (.y6 av base au e.1.i (yK (lE C n aq av) (d0+1) ((gx C n aq av).drop (d0+1))) (kT aq av.toList 0)::D) (.inRegion av (e.1.i::l)::bq)
 |dy {l D bq}:lx C Q ae aq D bq->ja Q ae n aq K tmps->ae l->ml C Q ae h bT aM n aq K tmps (.inRangeFunc l::D) (.inRangeFunc (Q l).cE::bq)
def Ak(C:aW)(Q:c6)(ae:Nat->Prop)(h:S ak)(bT aM n aq:Nat)(K:S H)(tmps:Array Value)(bM:kN)(todo:List dN)(bq:List Item):Prop:=match bM with
 | .run=>ml C Q ae h bT aM n aq K tmps todo bq
 |_=>ja Q ae n aq K tmps
def co(Q:c6)(fn:Nat)(bb:List hy)(aD:Bool)(ro:Option Nat)(tmps:Array Value)(bq:List Item)(mode:FrameMode):Frame:=
 {fn,tmps,todo:=bq,defers:=bb.map (lA Q),mode,kind:=if aD then .deferred else .normal,roundOf:=ro.map λl=>(Q l).cE}
structure v7(C:aW)(ae:Nat->Prop)(fn aq:Nat)(bb:List hy)(ro:Option Nat):Prop where
 bb:∀d∈bb,wD ae d
 ro:∀l,ro=some l->ae l
 fn:Og C fn aq
inductive oh(C:aW)(Q:c6)(ae:Nat->Prop)(h:S ak)(bv:Nat)(bO:List Frame):Nat->List gC->List Frame->Prop
 |nil {cX}:oh C Q ae h bv bO cX [] bO
 |cons {bT cX fn n aq K todo bb bM aD ro cs tmps bq ap}:Ak C Q ae h bT cX n aq K tmps bM todo bq->p5 ae bM->v7 C ae fn aq bb ro->(cs=[]->fn=bv/\aD=false/\ro=none)->bT<=cX->oh C Q ae h bv bO bT cs ap->
   oh C Q ae h bv bO cX (⟨fn,n,aq,K,todo,bb,bM,aD,ro⟩::cs) (co Q fn bb aD ro tmps bq (gG Q bM)::ap)
section
variable{C:aW}{Q c9:c6}{ae du:Nat->Prop}{h T:S ak}{j ao bi:Nat}{w bV:World}{n aq:Nat}{av:Array Oper}
def lx.ac{D:List dN}{bq:List Item}(dF:∀b,ae b->c9 b=Q b)(gy:∀b,ae b->du b)(a:lx C Q ae aq D bq):lx C c9 du aq D bq:=by
 induction a with
 |nil=>exact .nil
 |cons R _ al=>
  refine .cons ?_ al
  cases R with
  |code a=>exact .code a
  |inBlock=>exact .inBlock
  |inLoop a=>exact .inLoop a
  |inScope a=>exact .inScope a
  |Cn a=>rw[<-dF _ a];exact .Cn (gy _ a)
  |begin=>exact .begin
def ml.ac{bT cX:Nat}{K:S H}{tmps:Array Value}{D:List dN}{bq:List Item}(ag:iq C cX Q ae h bi w c9 du T bV)(a:ml C Q ae h bT cX n aq K tmps D bq):ml C c9 du T bT cX n aq K tmps D bq:=by
 cases a with
 |seq R U=>
  obtain⟨W,bd,cg,a3,a4,a5,hz,h0⟩:=U
  exact .seq (R.ac ag.iD ag.ju) ⟨W,bd,cg,a3,a4,a5,hz.ac ag.iD ag.ju,h0⟩
 |drawn R U ar aO bN cv dP fq j2=>exact .drawn (R.ac ag.iD ag.ju) U ar (aO.ac ag ar) bN cv dP fq j2
 |dy R U ar=>rw[<-ag.iD _ ar];exact .dy (R.ac ag.iD ag.ju) (U.ac ag.iD ag.ju) (ag.ju _ ar)
def Ak.ac{bT cX:Nat}{K:S H}{tmps:Array Value}{bM:kN}{D:List dN}{bq:List Item}(ag:iq C cX Q ae h bi w c9 du T bV)(a:Ak C Q ae h bT cX n aq K tmps bM D bq):Ak C c9 du T bT cX n aq K tmps bM D bq:=by
 cases bM with
 |run=>exact ml.ac ag a
 |returning=>exact ja.ac ag.iD ag.ju a
 |panicking f5=>exact ja.ac ag.iD ag.ju a
def v7.ac{fn:Nat}{bb:List hy}{ro:Option Nat}(gy:∀b,ae b->du b)(a:v7 C ae fn aq bb ro):v7 C du fn aq bb ro:=
 ⟨λd aH=>Xy gy (a.bb d aH),λl aB=>gy l (a.ro l aB),a.fn⟩
def Gf{fn:Nat}{bb:List hy}{aD:Bool}{ro:Option Nat}{tmps:Array Value}{bq:List Item}{mode:FrameMode}(dF:∀b,ae b->c9 b=Q b)(a:v7 C ae fn aq bb ro):co c9 fn bb aD ro tmps bq mode=co Q fn bb aD ro tmps bq mode:=by
 unfold co
 congr 1
 ·exact Yy λd aH=>OW dF (a.bb d aH)
 ·cases ro with
  |none=>rfl
  |some l=>simp only[ZS,dF l (a.ro l rfl)]
def ajU{bM:kN}(dF:∀b,ae b->c9 b=Q b)(a:p5 ae bM):gG c9 bM=gG Q bM:=by
 cases bM with
 |panicking f5=>
  simp only[gG]
  congr 1
  exact Yy λp ay=>by simp only[sU,pX dF (a p ay)]
 |_=>rfl
def amw{bM:kN}(gy:∀b,ae b->du b)(a:p5 ae bM):p5 du bM:=by
 cases bM with
 |panicking f5=>exact λp ay=>oC gy _ (a p ay)
 |_=>trivial
def iq.mono{cX Jo:Nat}(a:iq C cX Q ae h bi w c9 du T bV)(aB:Jo<=cX):iq C Jo Q ae h bi w c9 du T bV:=
 ⟨a.iD,a.ju,λb ai=>(a.new b ai).imp id (λan=>Zo),λb ai c2=>a.ac b ai Zo,a.below⟩
def oh.ac{bv:Nat}{bO:List Frame}{cX:Nat}{cs:List gC}{ap:List Frame}(a:oh C Q ae h bv bO cX cs ap)(ag:iq C cX Q ae h bi w c9 du T bV):oh C c9 du T bv bO cX cs ap:=by
 induction a with
 |nil=>exact .nil
 |cons R bp U aO bN cv al=>
  rw[<-Gf (Q:=Q) (c9:=c9) ag.iD U, <-ajU ag.iD bp]
  exact .cons (R.ac ag) (amw ag.ju bp) (U.ac ag.ju) aO bN (al (ag.mono bN))
def KZ(t:Nat):∀(l:List Nat) (K:S H),(wt l K).get t=if t∈l then none else K.get t:=by
 intro l
 induction l with
 |nil=>intro K;simp[wt]
 |cons d l al=>
  intro K
  simp only[wt,al,S.j1,Zt]
  by_cases a:t∈l
  ·simp[a]
  ·by_cases F:d=t
   ·subst F;simp
   ·have:¬t=d:=λan=>F an.symm
    simp[a,F,this]
def ja.drop{K:S H}{tmps:Array Value}(a:ja Q ae n aq K tmps)(l:List Nat):ja Q ae n aq (wt l K) tmps:=by
 refine⟨a.size,λt v ai bA=> ?_⟩
 rw[KZ]at bA
 split at bA
 ·cases bA
 ·exact a.val t v ai bA
def WK{l:List Oper}{W:Oper}{d:Nat}(bf:W∈l)(aH:W.dst=some d):d∈dstsOf l:=by
 induction l with
 |nil=>cases bf
 |cons J l al=>
  simp only[dstsOf]
  rcases Zt.1 bf with rfl|bf
  ·rw[aH];exact Zw ..
  ·split
   ·exact Zu _ (al bf)
   ·exact al bf
def ml.drop{bT cX:Nat}{K:S H}{tmps:Array Value}{D:List dN}{bq:List Item}(a:ml C Q ae h bT cX n aq K tmps D bq):ja Q ae n aq (uf D K) tmps:=by
 cases a with
 |seq R U=>
  rename_i av au a rest fin l D bq
  obtain⟨W,bd,cg,a3,a4,a5,hz,h0⟩:=U
  refine⟨h0,λt v ai bA=> ?_⟩
  simp only[uf]at bA
  rw[KZ]at bA
  split at bA
  ·cases bA
  ·rename_i aK
   have aM:a<av.size:=(ZJ.1 bd).1
   obtain⟨_,e3,_⟩:=Kk av a (zk aM)
   apply hz t v trivial
   cases bH:et (h8 av a) t with
   |some Y=>
    exfalso
    obtain⟨b3,b2,_⟩:=e3 t Y bH
    unfold rT at b2
    cases bf:av[Y]? with
    |none=>rw[bf]at b2;cases b2
    |some o'=>
     rw[bf]at b2
     exact aK (WK (by rw[Array.mem_toList_iff];exact Y0 bf) b2)
   |none=>exact⟨ai,bA⟩
 |drawn R U ar aO bN cv dP fq j2=>
  rename_i av base au l D bq di d0 e W
  refine⟨aO.size,λt v ai bA=> ?_⟩
  simp only[uf]at bA
  rw[KZ]at bA
  split at bA
  ·cases bA
  ·rename_i aK
   apply aO.Cj t v
   right
   refine⟨λY bS aH=> ?_,ai,bA⟩
   unfold rT at aH
   cases bf:av[Y]? with
   |none=>rw[bf]at aH;cases aH
   |some o'=>
    rw[bf]at aH
    exact aK (WK (by rw[Array.mem_toList_iff];exact Y0 bf) aH)
 |dy R U ar=>exact U
def Ak.drop{bT cX:Nat}{K:S H}{tmps:Array Value}{bM:kN}{D:List dN}{bq:List Item}(a:Ak C Q ae h bT cX n aq K tmps bM D bq):ja Q ae n aq (uf D K) tmps:=by
 cases bM with
 |run=>exact ml.drop a
 |_=>
  have cD:ja Q ae n aq K tmps:=a
  unfold uf
  split<;>first|exact cD.drop _|exact cD
def ot.put{K:S H}{au:List (Nat×H)}{tmps:Array Value}{i:Nat}{W:Oper}{v:H}(bf:av[i]? =some W)(bA:ot Q ae aq (λ_=>True) (h8 av i) au K tmps)(aH:∀d,W.dst=some d->d<tmps.size)(fh:ch ae v):
 ot Q ae aq (λ_=>True) (h8 av (i+1)) ((i,v)::au) K (pJ tmps W.dst (aN Q v)):=by
 have aM:i<av.size:=(ZJ.1 bf).1
 obtain⟨_,e3,_⟩:=Kk av i (zk aM)
 intro t ad _ a
 rw[adp _ _ _ _ aH]
 rw[Ki bf,Et]at a
 split at a
 ·rename_i Y bH
  split at bH
  ·rename_i F
   cases bH
   rw[qS,Zq rfl]at a
   cases a
   rw[Zq F]
   exact⟨rfl,fh⟩
  ·rename_i F
   rw[Zh F]
   have:=(e3 t Y bH).1
   rw[qS,Zh Zo]at a
   exact bA t ad trivial (by rw[bH];exact a)
 ·rename_i bH
  split at bH
  ·cases bH
  ·rename_i F
   rw[Zh F]
   exact bA t ad trivial (by rw[bH];exact a)
def Le{g:Frame}{a:Nat}{l:List Nat}{bq:List Item}{W:Oper}(b0:g.todo= .inRegion av (a::l)::bq)(bf:av[a]? =some W)(v:Value):
 g.finish v={g with tmps:=pJ g.tmps W.dst v,todo:= .inRegion av l::bq}:=by
 unfold Frame.finish
 rw[b0]
 simp only[bf,ZF]
 cases W.dst<;>rfl
def alx{bT cX j n aq fn:Nat}{K:S H}{tmps:Array Value}{todo:List dN}{bq:List Item}{bb:List hy}{aD:Bool}{ro:Option Nat}{mode:FrameMode}{v:H}(a:ml C Q ae h bT cX n aq K tmps todo bq)(aB:cX<=j)(fh:ch ae v):
 ∃eJ D hs hx hP,todo=eJ::D/\oA eJ v=some hs/\(co Q fn bb aD ro tmps bq mode).finish (aN Q v)=co Q fn bb aD ro hx hP mode/\B4 C Q ae h bT j n aq K hx (hs::D) hP:=by
 cases a with
 |seq R U=>
  rename_i av au a rest fin l D bq
  obtain⟨W,bd,cg,a3,a4,a5,hz,h0⟩:=U
  have c2:a<av.size:=(ZJ.1 bd).1
  refine⟨_,D, .GH av ((a,v)::au) rest fin,pJ tmps W.dst (aN Q v), .inRegion av l::bq,rfl,rfl, ?_, .seq R ⟨a+1,Zo,a3,a4,a5,hz.put bd (by rw[h0];exact cg) fh,by rw[NA];exact h0⟩⟩
  rw[Le (g:=co Q fn bb aD ro tmps _ mode) rfl bd];rfl
 |drawn R U ar aO bN cv dP fq j2=>
  rename_i av base au l D bq di d0 e W
  have I:=Zj bN
  have oF:∀d,W.dst=some d->d<n:=by
   obtain⟨o',b3,b2,cQ,d1,fA,dU⟩:=xU aO.st (KV I).1
   have:o'=W:=by
    have:=dU.oper
    rw[cv]at this
    exact(Yu this).symm
   subst this
   exact fA.dst
  refine⟨_,D, .drawn av base ((e.1.i,v)::au) _ _,pJ tmps W.dst (aN Q v), .inRegion av l::bq,rfl,rfl, ?_, .drawn R U (ZA ar aB) (aO.fe bN cv dP fq fh oF) j2⟩
  rw[Le (g:=co Q fn bb aD ro tmps _ mode) rfl cv];rfl
 |dy R U ar=>
  rename_i l D bq
  exact⟨_,D, .endRangeFunc l,tmps, .endRangeFunc (Q l).cE::bq,rfl,rfl,rfl, .plain (.cons (.Cn ar) R) U⟩
def N1{K:S H}{au kj:List (Nat×H)}{tmps:Array Value}{X:Nat->Prop}{i:Nat}{W:Oper}{g:Option (Nat×Bool)}{b:Bool}(aM:i<=av.size)(b0:Hr (h8 av i) W.guard=some g)(bA:ot Q ae aq X (h8 av i) au K tmps)
 (bQ:∀Y b t,W.guard=some (Y,b)->wu Y (h8 av i)=some t->X t)(aI:Sub kj au)(a:og g kj=some b):Region.wanted W (yielded av tmps)=b:=by
 obtain⟨eM,_,_⟩:=Kk av i aM
 unfold Hr at b0
 unfold Region.wanted
 split at b0
 ·rename_i aou
  simp at b0;subst b0
  simp[og]at a
  rw[aou, <-a]
 ·rename_i Y lu uD
  rw[uD]
  split at b0
  ·rename_i t be
   split at b0
   ·rename_i oR bH
    rw[hB]at b0
    split at b0
    ·rename_i F
     subst F
     simp at b0;subst b0
     simp only[og]at a
     split at a
     ·rename_i ad bc
      have:=bA t ad (bQ Y lu t uD be) (by rw[bH];exact aI _ _ bc)
      have I:yielded av tmps Y=(match aN Q ad with| .bool b=>some b|_=>none):=by
       unfold yielded
       have aH:=eM Y t be
       unfold rT at aH
       rw[aH]
       simp only[ZF,this.1]
       cases aN Q ad<;>rfl
      simp only[I]
      cases ad<;>simp[aN]at a ⊢ <;>first|(rw[<-a])|exact a|(subst a;rfl)|skip
      all_goals simp_all
     ·simp at a
    ·simp at b0
   ·simp at b0
  ·simp at b0
end
end Go.bg

namespace Go.bg
open Go.RowKit (Below)
structure Ol(C:aW)(bo:World):Prop where
 val:∀f args v,C.g6 f args=some v->((∀Q ip,aN Q v=aN ip v)/\∀ae,ch ae v)/\(∀Q ip,bX Q args=bX ip args)/\∀ae,ew ae args
 ok:∀f args v,C.g6 f args=some v->∀Q w,Below bo.heap.size bo w->
  (callFunc f (bX Q args).toArray).run C.P w= .ok (.value (aN Q v)) w\/
  ((callFunc f (bX Q args).toArray).run C.P w= .ok (.enter f (bX Q args).toArray) w/\Calls C.P f (bX Q args).toArray w λF bV=>F= .returned (aN Q v)/\Below w.heap.size w bV)
structure Env(C:aW)(bo:World)(dK:c6)(d4:Nat->Prop):Prop where
 kc:xD C.P
 g6:Ol C bo
 base:de C dK d4 .nil C.a7 bo.heap.size bo
 hL:rG C dK d4
def Ends(C:aW)(bo:World)(bv:Nat)(bO:List Frame)(v:H)(dn:Machine):Prop:=
 ∃Q bV fr,Steps C.P dn (lone fr bO bV)/\fr.leaving C.P bV (.returned (aN Q v))/\fr.fn=bv/\Below bo.heap.size bo bV
structure B3(C:aW)(bo:World)(bv:Nat)(bO:List Frame)(bM:kN)(todo:List dN)(fn n aq:Nat)(bb:List hy)(aD:Bool)(ro:Option Nat)(cs:List gC)(K:S H)(h:S ak)(j:Nat)
 (Q:c6)(ae:Nat->Prop)(w:World)(cX:Nat)(tmps:Array Value)(bq:List Item)(ap:List Frame):Prop where
 Z:de C Q ae h j bo.heap.size w
 kR:Below bo.heap.size bo w
 hL:rG C Q ae
 jT:cX<=j
 hK:v7 C ae fn aq bb ro
 mode:p5 ae bM
 bot:cs=[]->fn=bv/\aD=false/\ro=none
 cs:oh C Q ae h bv bO cX cs ap
 todo:match bM with
  | .run=>B4 C Q ae h cX j n aq K tmps todo bq
  |_=>ja Q ae n aq K tmps
def nc(C:aW)(bo:World)(bv:Nat)(bO:List Frame)(al:hm):Prop:=
 ∀bM todo fn n aq bb aD ro cs K h j v,al bM todo ⟨fn,n,aq,bb,aD,ro,cs⟩ K h j=some v->
  ∀Q ae w cX tmps bq ap,B3 C bo bv bO bM todo fn n aq bb aD ro cs K h j Q ae w cX tmps bq ap->Ends C bo bv bO v (lone (co Q fn bb aD ro tmps bq (gG Q bM)) ap w)
section
variable{C:aW}{Q c9:c6}{ae du:Nat->Prop}{h T:S ak}{j ao bi:Nat}{w bV:World}{n aq:Nat}{av:Array Oper}
variable{bo:World}{bv:Nat}{bO:List Frame}{v:H}
def Ends.head{dn G4:Machine}(a:step C.P dn= .next G4)(cD:Ends C bo bv bO v G4):Ends C bo bv bO v dn:=by
 obtain⟨Q,bV,fr,R,U⟩:=cD
 exact⟨Q,bV,fr, .head a R,U⟩
def Ends.steps{dn G4:Machine}(a:Steps C.P dn G4)(cD:Ends C bo bv bO v G4):Ends C bo bv bO v dn:=by
 obtain⟨Q,bV,fr,R,U⟩:=cD
 exact⟨Q,bV,fr,a.trans R,U⟩
def de.later(Z:de C Q ae h j bi w)(ai:Below w.heap.size w bV):de C Q ae h j bi bV:=
 ⟨Z.a7,Z.lt,Z.vn,λb W a d=>(Z.obj b W a d).ac (λ_ _=>rfl) (λ_ a=>a) (ai.block _ (Z.obj b W a d).lt),Z.sep,Z.base,Z.fk⟩
def Env.now{dK:c6}{d4:Nat->Prop}(bt:Env C bo dK d4)(ai:Below bo.heap.size bo w):de C dK d4 .nil C.a7 w.heap.size w:=by
 have Z:=bt.base.later ai
 refine⟨Z.a7,Z.lt,Z.vn,Z.obj,Z.sep, ?_,Z.fk⟩
 intro b W aK bf _
 exfalso
 unfold aa at bf
 rw[fo,Zh (by simp[Nat.blt];omega)]at bf
 simp at bf
def Env.later{dK:c6}{d4:Nat->Prop}(bt:Env C bo dK d4)(ai:Below bo.heap.size bo w):Env C w dK d4:=
 ⟨bt.kc,⟨bt.g6.val,λf args v a Q mL nn=>bt.g6.ok f args v a Q mL (ai.trans (nn.mono ai.size))⟩,bt.now ai,bt.hL⟩
variable{fn:Nat}{bb:List hy}{aD:Bool}{ro:Option Nat}{tmps:Array Value}{bq:List Item}{ap:List Frame}
def mh(tmps:Array Value)(bq:List Item):stepG C.P true {frame:=co Q fn bb aD ro tmps bq .run,callers:=ap,status:= .running,dying:=none} w=stepG.exec C.P true true (co Q fn bb aD ro tmps bq .run) ap none w:=by
 simp[stepG,co]
def avt{J b:Code}:step C.P (lone (co Q fn bb aD ro tmps (.code (.seq J b)::bq) .run) ap w)= .next (lone (co Q fn bb aD ro tmps (.code J:: .code b::bq) .run) ap w):=
 step_lone_go (by rw[mh];simp[stepG.exec,co])
def avu:step C.P (lone (co Q fn bb aD ro tmps (.code .skip::bq) .run) ap w)= .next (lone (co Q fn bb aD ro tmps bq .run) ap w):=
 step_lone_go (by rw[mh];simp[stepG.exec,co])
def avj{l:Nat}:step C.P (lone (co Q fn bb aD ro tmps (.code (.label l)::bq) .run) ap w)= .next (lone (co Q fn bb aD ro tmps bq .run) ap w):=
 step_lone_go (by rw[mh];simp[stepG.exec,co])
def avg{l:Nat}:step C.P (lone (co Q fn bb aD ro tmps (.inBlock l::bq) .run) ap w)= .next (lone (co Q fn bb aD ro tmps bq .run) ap w):=
 step_lone_go (by rw[mh];simp[stepG.exec,co])
def avi{b:Code}:step C.P (lone (co Q fn bb aD ro tmps (.inScope b::bq) .run) ap w)= .next (lone (co Q fn bb aD ro tmps bq .run) ap w):=
 step_lone_go (by rw[mh];simp[stepG.exec,co])
def ava{id:Nat}{b:Code}:step C.P (lone (co Q fn bb aD ro tmps (.code (.block id b)::bq) .run) ap w)= .next (lone (co Q fn bb aD ro tmps (.code b:: .inBlock id::bq) .run) ap w):=
 step_lone_go (by rw[mh];simp[stepG.exec,co])
def avk{b:Code}:step C.P (lone (co Q fn bb aD ro tmps (.code (.loop b)::bq) .run) ap w)= .next (lone (co Q fn bb aD ro tmps (.code b:: .inLoop b::bq) .run) ap w):=
 step_lone_go (by rw[mh];simp[stepG.exec,co])
def avh{b:Code}:step C.P (lone (co Q fn bb aD ro tmps (.inLoop b::bq) .run) ap w)= .next (lone (co Q fn bb aD ro tmps (.code b:: .inLoop b::bq) .run) ap w):=
 step_lone_go (by rw[mh];simp[stepG.exec,co])
def avs{b:Code}:step C.P (lone (co Q fn bb aD ro tmps (.code (.scope b)::bq) .run) ap w)= .next (lone (co Q fn bb aD ro tmps (.code b:: .inScope b::bq) .run) ap w):=
 step_lone_go (by rw[mh];simp[stepG.exec,co])
def avb{c:Operand}{J b:Code}{t:Bool}(a:kK tmps c= .bool t):step C.P (lone (co Q fn bb aD ro tmps (.code (.cond c J b)::bq) .run) ap w)= .next (lone (co Q fn bb aD ro tmps (.code (if t then J else b)::bq) .run) ap w):=
 step_lone_go (by
  have cD:(co Q fn bb aD ro tmps (.code (.cond c J b)::bq) .run).eval c= .bool t:=by rw[HL];exact a
  rw[mh]
  simp only[co]at cD
  simp[stepG.exec,co,cD])
def avf{id:Nat}{hP:List Item}(a:Go.exitTo id bq=some hP):step C.P (lone (co Q fn bb aD ro tmps (.code (.exit id)::bq) .run) ap w)= .next (lone (co Q fn bb aD ro tmps hP .run) ap w):=
 step_lone_go (by rw[mh];simp[stepG.exec,co,a])
def avp:step C.P (lone (co Q fn bb aD none tmps (.code .ret::bq) .run) ap w)= .next (lone (co Q fn bb aD none tmps (.code .ret::bq) .returning) ap w):=
 step_lone_go (by rw[mh];simp[stepG.exec,co])
def avd:step C.P (lone (co Q fn bb aD none tmps [] .run) ap w)= .next (lone (co Q fn bb aD none tmps [] .returning) ap w):=
 step_lone_go (by rw[mh];simp[stepG.exec,co])
def avn{id:Nat}:step C.P (lone (co Q fn bb aD ro tmps (.code (.region id av false)::bq) .run) ap w)= .next (lone (co Q fn bb aD ro tmps (.inRegion av (List.range av.size)::bq) .run) ap w):=
 step_lone_go (by rw[mh];simp[stepG.exec,co])
def avo{id:Nat}:step C.P (lone (co Q fn bb aD ro tmps (.code (.region id av true)::bq) .run) ap w)=
 .next (lone (co Q fn bb aD ro tmps (.inRegion av (Region.schedule (C.P.follows .mixedOrders) av (w.tape w.drawn (.order fn id)))::bq) .run) ap w.drew):=
 step_lone_go (by rw[mh];simp[stepG.exec,co,Question.forced,Question.cut])
def adV:step C.P (lone (co Q fn bb aD ro tmps (.inRegion av []::bq) .run) ap w)= .next (lone (co Q fn bb aD ro tmps bq .run) ap w):=
 step_lone_go (by rw[mh];simp[stepG.exec,co])
def SW{i:Nat}{l:List Nat}{W:Oper}(bf:av[i]? =some W)(bP:Region.wanted W (yielded av tmps)=false):
 step C.P (lone (co Q fn bb aD ro tmps (.inRegion av (i::l)::bq) .run) ap w)= .next (lone ((co Q fn bb aD ro tmps (.inRegion av (i::l)::bq) .run).finish Go.undef) ap w):=
 step_lone_go (by rw[mh];simp[stepG.exec,co,bf,bP])
def Sj{aw:Operand->Value}{W:Oper}{tB:Next}(Z:(execOp aw W).run C.P w= .ok tB bV)(a:∀d,tB≠ .defer d):∀c,W.op≠ .defer c:=by
 intro c az
 have ag:execOp aw W=(do pure (.defer (<-resolve aw c W.type))):=by unfold execOp;rw[az]
 rw[ag]at Z
 simp only[Sem.run_bind]at Z
 cases cl:(resolve aw c W.type).run C.P w with
 |ok d mL=>
  rw[cl]at Z
  simp only[Result.andThen_ok,Sem.run_pure,Result.ok.injEq]at Z
  exact a d Z.1.symm
 |halt F mL=>
  rw[cl]at Z
  simp at Z
def GM{i:Nat}{l:List Nat}{W:Oper}(bf:av[i]? =some W)(bP:Region.wanted W (yielded av tmps)=true)(jk:ro=none\/∀c,W.op≠ .defer c):
 stepG C.P true {frame:=co Q fn bb aD ro tmps (.inRegion av (i::l)::bq) .run,callers:=ap,status:= .running,dying:=none} w=
  stepG.apply C.P true (co Q fn bb aD ro tmps (.inRegion av (i::l)::bq) .run) ap none (execOp (kK tmps) W) w:=by
 rw[mh]
 rcases jk with rfl|jk
 ·simp[stepG.exec,stepG.oper,co,Frame.oper?,bf,bP,HL]
 ·cases ro with
  |none=>simp[stepG.exec,stepG.oper,co,Frame.oper?,bf,bP,HL]
  |some r=>
   have:∀(c:Call),W.op≠ .defer c:=jk
   simp[stepG.exec,stepG.oper,co,Frame.oper?,bf,bP,HL]
   split
   ·rename_i U;exact absurd U (this _)
   ·rfl
def DX{i:Nat}{l:List Nat}{W:Oper}{ad:Value}{tB:Next}(bf:av[i]? =some W)(bP:Region.wanted W (yielded av tmps)=true)
 (Z:(execOp (kK tmps) W).run C.P w= .ok tB bV)(aK:tB= .value ad\/(tB= .skip/\ad=Go.undef)):
 step C.P (lone (co Q fn bb aD ro tmps (.inRegion av (i::l)::bq) .run) ap w)= .next (lone ((co Q fn bb aD ro tmps (.inRegion av (i::l)::bq) .run).finish ad) ap bV):=
 step_lone_go (by
  rw[GM bf bP (.inr (Sj Z (by rcases aK with rfl|⟨rfl,rfl⟩<;>simp)))]
  rcases aK with rfl|⟨rfl,rfl⟩
  ·simp[stepG.apply,Z]
  ·simp[stepG.apply,Z])
def adT{i:Nat}{l:List Nat}{W:Oper}{f:Nat}{args:Array Value}(bf:av[i]? =some W)(bP:Region.wanted W (yielded av tmps)=true)
 (Z:(execOp (kK tmps) W).run C.P w= .ok (.enter f args) bV):
 step C.P (lone (co Q fn bb aD ro tmps (.inRegion av (i::l)::bq) .run) ap w)= .next (lone (Frame.enter C.P f args .normal) (co Q fn bb aD ro tmps (.inRegion av (i::l)::bq) .run::ap) bV):=
 step_lone_go (by rw[GM bf bP (.inr (Sj Z Zs))];simp[stepG.apply,Z,co])
def avq{i:Nat}{l:List Nat}{W:Oper}{b f:Nat}{aU:Array Value}{assign body:Code}(bf:av[i]? =some W)(bP:Region.wanted W (yielded av tmps)=true)
 (Z:(execOp (kK tmps) W).run C.P w= .ok (.round b f aU assign body) bV):
 step C.P (lone (co Q fn bb aD ro tmps (.inRegion av (i::l)::bq) .run) ap w)= .next (lone (Frame.round b f aU assign body .normal) (co Q fn bb aD ro tmps (.inRegion av (i::l)::bq) .run::ap) bV):=
 step_lone_go (by rw[GM bf bP (.inr (Sj Z Zs))];simp[stepG.apply,Z,co])
def avc{i:Nat}{l:List Nat}{W:Oper}{d:hy}(bf:av[i]? =some W)(bP:Region.wanted W (yielded av tmps)=true)
 (Z:(execOp (kK tmps) W).run C.P w= .ok (.defer (lA Q d)) bV):
 step C.P (lone (co Q fn bb aD none tmps (.inRegion av (i::l)::bq) .run) ap w)= .next (lone ((co Q fn (d::bb) aD none tmps (.inRegion av (i::l)::bq) .run).finish Go.undef) ap bV):=
 step_lone_go (by rw[GM bf bP (.inl rfl)];simp[stepG.apply,Z,co])
def avl{i:Nat}{l:List Nat}{W:Oper}{ad:H}(bf:av[i]? =some W)(bP:Region.wanted W (yielded av tmps)=true)
 (Z:(execOp (kK tmps) W).run C.P w= .halt (.panic (aN Q ad)) bV):
 step C.P (lone (co Q fn bb aD none tmps (.inRegion av (i::l)::bq) .run) ap w)= .next (lone (co Q fn bb aD none tmps (.inRegion av (i::l)::bq) (gG Q (.panicking [⟨ad,false⟩]))) ap bV):=
 step_lone_go (by rw[GM bf bP (.inl rfl)];simp[stepG.apply,Z,co,Frame.raise,gG,sU])
def avm{i:Nat}{l:List Nat}{W:Oper}{ad:Value}{iU:List Frame}(bf:av[i]? =some W)(bP:Region.wanted W (yielded av tmps)=true)
 (Z:(execOp (kK tmps) W).run C.P w= .ok .recover bV)
 (be:Go.tryRecover (co Q fn bb aD none tmps (.inRegion av (i::l)::bq) .run) ap=some (ad,iU)\/(Go.tryRecover (co Q fn bb aD none tmps (.inRegion av (i::l)::bq) .run) ap=none/\ad= .nilIface/\iU=ap)):
 step C.P (lone (co Q fn bb aD none tmps (.inRegion av (i::l)::bq) .run) ap w)= .next (lone ((co Q fn bb aD none tmps (.inRegion av (i::l)::bq) .run).finish ad) iU bV):=
 step_lone_go (by
  rw[GM bf bP (.inl rfl)]
  have F:(co Q fn bb aD none tmps (.inRegion av (i::l)::bq) .run).roundOf=none:=rfl
  rcases be with be|⟨be,rfl,rfl⟩
  ·simp[stepG.apply,Z,F,be]
  ·simp[stepG.apply,Z,F,be])
def au9{b:Nat}(Z:(Instr.beginRound (Q b).cE).run C.P w= .ok () bV):
 step C.P (lone (co Q fn bb aD (some b) tmps (.beginRound::bq) .run) ap w)= .next (lone (co Q fn bb aD (some b) tmps bq .run) ap bV):=
 step_lone_go (by rw[mh];simp[stepG.exec,stepG.apply,co,Z,Frame.finish])
def ave{b:Nat}{iA:Option Code}(Z:(Instr.endLoop b).run C.P w= .ok iA bV):
 step C.P (lone (co Q fn bb aD ro tmps (.endRangeFunc b::bq) .run) ap w)= .next (lone (co Q fn bb aD ro tmps ((iA.map Item.code).toList++bq) .run) ap bV):=
 step_lone_go (by rw[mh];simp[stepG.exec,co,Z])
def adU{f:Operand}{params:Array Tmp}{assign body:Code}{b:Nat}{mark:List Deferred}{g:Nat}{args:Array Value}{ld:World}{d:Deferred}
 (bt:(Instr.enterLoop fn tmps params assign body (ro.map λl=>(Q l).cE)).run C.P w= .ok (b,mark) ld)
 (lM:(resolve (kK tmps) {callee:= .value f,args:= #[.const (.func (.yield b) #[] #[])],argTypes:= #[]} 0).run C.P ld= .ok d ld)(QI:(invoke d.target d.args).run C.P ld= .ok (.enter g args) bV):
 step C.P (lone (co Q fn bb aD ro tmps (.code (.rangeFunc f params assign body)::bq) .run) ap w)=
  .next (lone (Frame.enter C.P g args .normal) ({co Q fn bb aD ro tmps (.inRangeFunc b::bq) .run with defers:=mark++bb.map (lA Q)}::ap) bV):=
 step_lone_go (by
  rw[mh]
  have cF:({co Q fn bb aD ro tmps (.inRangeFunc b::bq) .run with defers:=mark++bb.map (lA Q)}:Frame).eval=kK tmps:=by rw[HL];rfl
  simp only[co]at cF
  simp[stepG.exec,co,Sem.runT_eq,bt,GStep.bare_after,stepG.apply,cF,Sem.run_bind,lM,QI,Result.andThen])
def avr{iA:Option Code}{b:Nat}{ad:Value}{g:Frame}(aF:(iA=none/\bq=[])\/(iA=some .ret/\∃D,bq= .code .ret::D)\/(∃id D,iA=some (.exit id)/\bq= .code (.exit id)::D/\Go.exitTo id D=none))
 (bt:(Instr.endRound (Q b).cE iA).run C.P w= .ok ad bV):
 step C.P (lone (co Q fn bb false (some b) tmps bq .run) (g::ap) w)= .next (lone (g.finish ad) ap bV):=
 step_lone_go (by
  rw[mh]
  rcases aF with ⟨rfl,rfl⟩|⟨rfl,D,rfl⟩|⟨id,D,rfl,rfl,ag⟩
  ·simp[stepG.exec,co,Sem.runT_eq,bt,GStep.bare_after,doReturn]
  ·simp[stepG.exec,co,Sem.runT_eq,bt,GStep.bare_after,doReturn]
  ·simp[stepG.exec,co,Sem.runT_eq,bt,GStep.bare_after,doReturn,ag])
def avv{r:Nat}{cp:List H}{ds:List hy}{pp:List Deferred}{mode:FrameMode}{du:List hy}(bp:mode≠ .run)(bt:(Instr.takeDeferred (Q r).cE).run C.P w= .ok pp bV)(aH:pp++ds.map (lA Q)=du.map (lA Q)):
 step C.P (lone (co Q fn (⟨.collected r,cp⟩::ds) aD ro tmps bq mode) ap w)= .next (lone (co Q fn du aD ro tmps bq mode) ap bV):=
 step_lone_go (by
  cases mode with
  |run=>exact absurd rfl bp
  |returning=>simp[stepG,unwind,co,lA,Cc,Sem.runT_eq,bt,GStep.bare_after,aH]
  |panicking f5=>simp[stepG,unwind,co,lA,Cc,Sem.runT_eq,bt,GStep.bare_after,aH])
end
end Go.bg

namespace Go.bg
open Go.RowKit (Below)
section
variable{C:aW}{Q c9 dK:c6}{ae du d4:Nat->Prop}{h T:S ak}{j ao bi:Nat}{w bV:World}{n aq:Nat}{av:Array Oper}
variable{bo:World}{bv:Nat}{bO:List Frame}{v:H}{al:hm}
variable{fn:Nat}{bb:List hy}{aD:Bool}{ro:Option Nat}{cs:List gC}{K:S H}{tmps:Array Value}{bq:List Item}{ap:List Frame}{bT aM:Nat}
structure iO(C:aW)(bo:World)(bv:Nat)(bO:List Frame)(fn aq:Nat)(bb:List hy)(aD:Bool)(ro:Option Nat)(cs:List gC)(h:S ak)(j:Nat)(Q:c6)(ae:Nat->Prop)(w:World)(cX:Nat)(ap:List Frame):Prop where
 Z:de C Q ae h j bo.heap.size w
 kR:Below bo.heap.size bo w
 hL:rG C Q ae
 jT:cX<=j
 hK:v7 C ae fn aq bb ro
 bot:cs=[]->fn=bv/\aD=false/\ro=none
 cs:oh C Q ae h bv bO cX cs ap
def iO.ek{cX:Nat}(a:iO C bo bv bO fn aq bb aD ro cs h j Q ae w cX ap):bo.heap.size<=w.heap.size:=a.kR.size
def iO.ext{cX:Nat}(a:iO C bo bv bO fn aq bb aD ro cs h j Q ae w cX ap)(Z:de C c9 du T ao bo.heap.size bV)(ag:iq C cX Q ae h bo.heap.size w c9 du T bV)(aK:j<=ao):
 iO C bo bv bO fn aq bb aD ro cs T ao c9 du bV cX ap:=
 ⟨Z,a.kR.trans ag.below,a.hL.ac ag.iD ag.ju,ZA a.jT aK,a.hK.ac ag.ju,a.bot,a.cs.ac ag⟩
def iO.state{cX:Nat}{todo:List dN}(a:iO C bo bv bO fn aq bb aD ro cs h j Q ae w cX ap)(be:B4 C Q ae h cX j n aq K tmps todo bq):
 B3 C bo bv bO .run todo fn n aq bb aD ro cs K h j Q ae w cX tmps bq ap:=⟨a.Z,a.kR,a.hL,a.jT,a.hK,trivial,a.bot,a.cs,be⟩
def B3.aji{todo:List dN}{cX:Nat}(a:B3 C bo bv bO .run todo fn n aq bb aD ro cs K h j Q ae w cX tmps bq ap):iO C bo bv bO fn aq bb aD ro cs h j Q ae w cX ap/\B4 C Q ae h cX j n aq K tmps todo bq:=
 ⟨⟨a.Z,a.kR,a.hL,a.jT,a.hK,a.bot,a.cs⟩,a.todo⟩
def oh.inv{cX aS:Nat}{todo:List dN}{bM:kN}(a:oh C Q ae h bv bO cX (⟨fn,aS,aq,K,todo,bb,bM,aD,ro⟩::cs) ap):
 ∃bT tmps bq iU,ap=co Q fn bb aD ro tmps bq (gG Q bM)::iU/\Ak C Q ae h bT cX aS aq K tmps bM todo bq/\p5 ae bM/\v7 C ae fn aq bb ro/\(cs=[]->fn=bv/\aD=false/\ro=none)/\bT<=cX/\oh C Q ae h bv bO bT cs iU:=by
 cases a with
 |cons R bp U aO bN cv=>exact⟨_,_,_,_,rfl,R,bp,U,aO,bN,cv⟩
def WQ(gh:nc C bo bv bO al){f:Nat}{args:List H}{cX:Nat}{Ch:Bool}{sX:List gC}{wF:List Frame}(Z:de C Q ae h j bo.heap.size w)(ai:Below bo.heap.size bo w)(hL:rG C Q ae)(aB:cX<=j)
 (hU:oh C Q ae h bv bO cX sX wF)(LS:sX=[]->f=bv/\Ch=false)(hg:ew ae args)(a:nO al C f args Ch sX h j=some v):Ends C bo bv bO v (lone (Frame.enter C.P f (bX Q args).toArray (if Ch then .deferred else .normal)) wF w):=by
 unfold nO at a
 split at a
 ·rename_i func ce
  split at a
  ·rename_i c az
   simp only[l0,eY,Zn]at a
   obtain⟨⟨⟨R,U⟩,ar⟩,a⟩:=a
   have R:=jb R
   have uB:Frame.enter C.P f (bX Q args).toArray (if Ch then .deferred else .normal)=co Q f [] Ch none ((bX Q args).toArray++Array.replicate (func.ntmps-args.length) Go.undef) [.code c] (gG Q .run):=by
    simp[Frame.enter,co,gG,ce,az,jL]
   rw[uB]
   refine gh _ _ _ _ _ _ _ _ _ _ _ _ v a Q ae w cX _ _ wF ?_
   refine⟨Z,ai,hL,aB,⟨Zs,Zs,func,ce,ar⟩,trivial,λF=>⟨(LS F).1,(LS F).2,rfl⟩,hU, .plain (.cons (.code U) .nil) ⟨?_, ?_⟩⟩
   ·simp[jL];omega
   ·intro t ad _ bc
    rw[kC]at bc
    have c2:t<args.length:=(Zc.1 bc).1
    refine⟨?_,AF hg bc⟩
    rw[Yx (by simpa[jL]using c2)]
    simp[Ar,bc]
  ·simp at a
 ·simp at a
def K8(gh:nc C bo bv bO al){f:Nat}{args:List H}{cX:Nat}{sX:List gC}{wF:List Frame}(Z:de C Q ae h j bo.heap.size w)(ai:Below bo.heap.size bo w)(hL:rG C Q ae)(aB:cX<=j)
 (hU:oh C Q ae h bv bO cX sX wF)(LS:sX=[]->f=bv)(hg:ew ae args)(a:nO al C f args false sX h j=some v):Ends C bo bv bO v (lone (Frame.enter C.P f (bX Q args).toArray .normal) wF w):=
 WQ (Ch:=false) gh Z ai hL aB hU (λF=>⟨LS F,rfl⟩) hg a
def E0(gh:nc C bo bv bO al){eJ:dN}{D:List dN}{ad:H}(aC:iO C bo bv bO fn aq bb aD ro cs h j Q ae w bT ap)(aI:ml C Q ae h bT aM n aq K tmps (eJ::D) bq)(r7:aM<=j)(AH:ch ae ad)
 (a:(match oA eJ ad with|some hs=>al .run (hs::D) ⟨fn,n,aq,bb,aD,ro,cs⟩ K h j|none=>none)=some v):
 Ends C bo bv bO v (lone ((co Q fn bb aD ro tmps bq .run).finish (aN Q ad)) ap w):=by
 obtain⟨ayq,sl,hs,hx,hP,bB,cF,fp,jM⟩:=alx (fn:=fn) (bb:=bb) (aD:=aD) (ro:=ro) (mode:= .run) aI r7 AH
 cases bB
 rw[cF]at a
 rw[fp]
 exact gh _ _ _ _ _ _ _ _ _ _ _ _ v a Q ae w bT hx hP ap (aC.state jM)
def arc{f:Nat}{args:List H}{ad:H}(cG:Env C bo dK d4)(ai:Below bo.heap.size bo w)(bf:C.g6 f args=some ad):
 (
  (∀ip,(callFunc f (bX ip args).toArray).run C.P w= .ok (.value (aN ip ad)) w)\/
  ((∀ip,(callFunc f (bX ip args).toArray).run C.P w= .ok (.enter f (bX ip args).toArray) w)/\∀ip,Calls C.P f (bX ip args).toArray w λF bV=>F= .returned (aN ip ad)/\Below w.heap.size w bV))/\∀di,ch di ad:=by
 obtain⟨⟨b3,b2⟩,cQ,d1⟩:=cG.g6.val f args ad bf
 refine⟨?_,b2⟩
 rcases cG.g6.ok f args ad bf dK w ai with a|⟨R,U⟩
 ·left;intro ip;rw[cQ ip dK,b3 ip dK];exact a
 ·right;exact⟨λip=>by rw[cQ ip dK];exact R,λip=>by rw[cQ ip dK,b3 ip dK];exact U⟩
mutual
def NH:∀(d:Nat) (x e:H),H.same d x e=true->x=e
 |0,_,_,a=>by simp[H.same]at a
 |d+1,x,e,a=>by
  unfold H.same at a
  split at a<;>(try(cases a;done))
  ·simp at a;rw[a]
  ·simp at a;rw[a.1,a.2]
  ·rw[(Jy _ _).1 a]
  ·simp only[Zn]at a;rw[Zl a.1,Zl a.2]
  ·rfl
  ·simp only[Zn]at a;rw[Zl a.1.1.1,Zl a.1.1.2,Zl a.1.2,Zl a.2]
  ·simp only[Zn]at a;rw[Zl a.1.1.1,Zl a.1.1.2,Zl a.1.2,Zl a.2]
  ·rfl
  ·rw[Zl a]
  ·rfl
  ·simp only[Zn,Zg]at a
   rw[a.1.1,JX d _ _ a.1.2,JX d _ _ a.2]
  ·rfl
  ·simp only[Zn]at a;rw[Zl a.1,NH d _ _ a.2]
  ·rfl
  ·rw[JX d _ _ a]
  ·rw[JX d _ _ a]
def JX:∀(d:Nat) (x e:List H),nw (H.same d) x e=true->x=e
 |_,[],[],_=>rfl
 |_,[],_::_,a=>by simp[nw]at a
 |_,_::_,[],a=>by simp[nw]at a
 |d,J::x,b::e,a=>by
  simp only[nw,Zn]at a
  rw[NH d _ _ a.1,JX d _ _ a.2]
end
def Ends.same{dn:Machine}{hI:H}(bt:∀Q,aN Q hI=aN Q v)(a:Ends C bo bv bO hI dn):Ends C bo bv bO v dn:=by
 obtain⟨Q,bV,fr,R,U,ar⟩:=a
 exact⟨Q,bV,fr,R,by rw[<-bt];exact U,ar⟩
def alP{eJ:dN}{D:List dN}{b8:h9}:∀(l:List (H×S ak)) (v:H),x4 al eJ D b8 K j l=some v->∀ad T,(ad,T)∈l->
 ∃hI,(match oA eJ ad with|some hs=>al .run (hs::D) b8 K T j|none=>none)=some hI/\∀Q,aN Q hI=aN Q v:=by
 intro l
 induction l with
 |nil=>intro v a;simp[x4]at a
 |cons p l mZ=>
  intro v a ad T bp
  obtain⟨J,fY⟩:=p
  cases l with
  |nil=>
   simp only[x4]at a
   simp at bp
   obtain⟨rfl,rfl⟩:=bp
   exact⟨v,a,λ_=>rfl⟩
  |cons an l=>
   simp only[x4]at a
   split at a
   ·rename_i hs aoA
    split at a
    ·rename_i x e ag I
     simp only[eY,Zf]at a
     obtain⟨ay,rfl⟩:=a
     rcases Zt.1 bp with F|bp
     ·cases F
      exact⟨x,by rw[aoA];exact ag,λ_=>rfl⟩
     ·obtain⟨hI,b3,b2⟩:=mZ e I ad T bp
      exact⟨hI,b3,λQ=>by rw[b2 Q,NH _ _ _ ay]⟩
    ·simp at a
   ·simp at a
def avV{ad:H}{c8:List gC}{cX:Nat}{bq:List Item}(hU:oh C Q ae h bv bO cX cs ap)(a:BQ aD cs=some (ad,c8)):
 ∃iU,oh C Q ae h bv bO cX c8 iU/\ch ae ad/\(c8=[]->cs=[])/\
  (Go.tryRecover (co Q fn bb aD none tmps bq .run) ap=some (aN Q ad,iU)\/(Go.tryRecover (co Q fn bb aD none tmps bq .run) ap=none/\aN Q ad= .nilIface/\iU=ap)):=by
 unfold BQ at a
 rw[fo]at a
 cases aD with
 |false=>
  simp at a
  obtain⟨rfl,rfl⟩:=a
  exact⟨ap,hU,trivial,id, .inr ⟨by simp[Go.tryRecover,co],rfl,rfl⟩⟩
 |true=>
  simp only[ZD]at a
  cases cs with
  |nil=>simp at a
  |cons c rest=>
   obtain⟨gK,aS,kz,c1,vH,ge,mD,jd,k5⟩:=c
   obtain⟨ri,hx,hP,iU,rfl,bZ,cw,c0,ep,dG,dQ⟩:=hU.inv
   have same:(ad,c8)=(H.nilIface,(⟨gK,aS,kz,c1,vH,ge,mD,jd,k5⟩:gC)::rest)->(∀v BA,gG Q mD≠ .panicking (⟨v,false,false⟩::BA))->
    ∃PU,oh C Q ae h bv bO cX c8 PU/\ch ae ad/\(c8=[]->(⟨gK,aS,kz,c1,vH,ge,mD,jd,k5⟩:gC)::rest=[])/\
     (Go.tryRecover (co Q fn bb true none tmps bq .run) (co Q gK ge jd k5 hx hP (gG Q mD)::iU)=some (aN Q ad,PU)\/
      (Go.tryRecover (co Q fn bb true none tmps bq .run) (co Q gK ge jd k5 hx hP (gG Q mD)::iU)=none/\aN Q ad= .nilIface/\PU=co Q gK ge jd k5 hx hP (gG Q mD)::iU)):=by
    intro F dI
    simp only[YN]at F
    obtain⟨rfl,rfl⟩:=F
    refine⟨_,hU,trivial,λF=>(by cases F), .inr ⟨?_,rfl,rfl⟩⟩
    simp only[Go.tryRecover,co,ZD]
   simp only at a
   split at a
   ·rename_i v BA
    simp only[Zf,YN]at a
    obtain⟨rfl,rfl⟩:=a
    have b0:p5 ae (.panicking (⟨v,true⟩::BA)):=by
     intro p ay
     rcases Zt.1 ay with rfl|ay
     ·exact cw ⟨v,false⟩ (Zw ..)
     ·exact cw p (Zu _ ay)
    refine⟨co Q gK ge jd k5 hx hP (gG Q (.panicking (⟨v,true⟩::BA)))::iU, .cons (bM:= .panicking (⟨v,true⟩::BA)) bZ b0 c0 ep dG dQ,cw ⟨v,false⟩ (Zw ..),λF=>(by cases F), .inl ?_⟩
    simp[Go.tryRecover,co,gG,sU]
   ·rename_i mY
    simp only[Zf]at a
    refine same a.symm λv BA F=> ?_
    cases mD with
    |run=>cases F
    |returning=>cases F
    |panicking f5=>
     cases f5 with
     |nil=>cases F
     |cons p dl=>
      obtain⟨atJ,atz⟩:=p
      cases atz with
      |true=>simp[gG,sU]at F
      |false=>exact mY atJ dl rfl
def auL{aS:Nat}:∀(dl:List Nat) (cp:List H) (K c1:S H) (tmps:Array Value),ja Q ae aS aq K tmps->ew ae cp->xl aS dl cp K=some c1->
 dl.length=cp.length/\ja Q ae aS aq c1 ((dl.zip (bX Q cp)).foldl (λtmps p=>tmps.setIfInBounds p.1 p.2) tmps):=by
 intro dl
 induction dl with
 |nil=>
  intro cp K c1 tmps be _ a
  cases cp with
  |nil=>simp[xl]at a;subst a;exact⟨rfl,by simpa[bX]using be⟩
  |cons J cp=>simp[xl]at a
 |cons p dl aqs=>
  intro cp K c1 tmps be b0 a
  cases cp with
  |nil=>simp[xl]at a
  |cons J cp=>
   simp only[xl,eY]at a
   obtain⟨ay,a⟩:=a
   have ay:=lh ay
   have Ro:ja Q ae aS aq (K.set p (some J)) (tmps.setIfInBounds p (aN Q J)):=by
    refine⟨by simp[be.size],λt ad aB bc=> ?_⟩
    rw[S.j1]at bc
    by_cases F:p=t
    ·subst F
     simp at bc;subst bc
     exact⟨by simp[be.size,ay],b0.1⟩
    ·simp[F]at bc
     obtain⟨R,U⟩:=be.val t ad aB bc
     exact⟨by rw[Array.getElem?_setIfInBounds_ne F];exact R,U⟩
   obtain⟨R,U⟩:=aqs cp _ c1 _ Ro b0.2 a
   exact⟨by simp[R],by simpa[bX]using U⟩
def VL(cG:Env C bo dK d4)(gh:nc C bo bv bO al){eJ:dN}{D:List dN}{i:Nat}{l:List Nat}{W:Oper}{r:ea}(aC:iO C bo bv bO fn aq bb aD ro cs h j Q ae w bT ap)
 (aI:ml C Q ae h bT aM n aq K tmps (eJ::D) (.inRegion av (i::l)::bq))(Mf:bT<=aM)(r7:aM<=j)(bf:av[i]? =some W)(bP:Region.wanted W (yielded av tmps)=true)
 (l1:ir C Q ae h j bo.heap.size w (execOp (kK tmps) W) r)(a:nI r al C eJ D ⟨fn,n,aq,bb,aD,ro,cs⟩ K h j=some v):
 Ends C bo bv bO v (lone (co Q fn bb aD ro tmps (.inRegion av (i::l)::bq) .run) ap w):=by
 have nZ:bT<=j:=ZA Mf r7
 have done:∀v ad T ao,Ac C Q ae h j bo.heap.size w (execOp (kK tmps) W) ad T ao->(match oA eJ ad with|some hs=>al .run (hs::D) ⟨fn,n,aq,bb,aD,ro,cs⟩ K T ao|none=>none)=some v->
  Ends C bo bv bO v (lone (co Q fn bb aD ro tmps (.inRegion av (i::l)::bq) .run) ap w):=by
  intro v ad T ao aH a
  obtain⟨c9,du,bV,tB,cT,cJ,eT,iu,f6,iR⟩:=aH
  have FM:tB= .value (aN c9 ad)\/(tB= .skip/\aN c9 ad=Go.undef):=cJ.imp id λ⟨J,b⟩=>⟨J,by rw[b];rfl⟩
  refine .head (DX bf bP cT FM) ?_
  rw[<-Gf f6.iD aC.hK]
  exact E0 gh (aC.ext iu (f6.mono nZ) iR) (aI.ac (f6.mono r7)) (ZA r7 iR) eT a
 cases r with
 |val ad=>exact done v ad h j l1 a
 |fv ad T ao=>exact done v ad T ao l1 a
 |enter f args=>
  obtain⟨R,U⟩:=l1
  refine .head (adT bf bP R) ?_
  simp only[nI]at a
  refine K8 gh aC.Z aC.kR aC.hL r7 ?_ (λF=>by simp[DY]at F) U a
  exact .cons (bM:= .run) aI trivial aC.hK aC.bot Mf aC.cs
 |known f args ad=>
  obtain⟨R,U,ar⟩:=l1
  obtain⟨aF,AH⟩:=arc cG aC.kR R
  simp only[nI]at a
  rcases aF with aF|⟨kY,jh⟩
  ·rw[aF Q]at U
   refine .head (DX bf bP U (.inl rfl)) ?_
   exact E0 gh aC aI r7 (AH ae) a
  ·rw[kY Q]at U
   refine .head (adT bf bP U) ?_
   obtain⟨F,bV,fr,⟨rfl,Ik⟩,apW,_,Md⟩:=jh Q (co Q fn bb aD ro tmps (.inRegion av (i::l)::bq) .run::ap)
   refine .steps apW (.head (step_leave_returned Md) ?_)
   have ag:iq C aM Q ae h bo.heap.size w Q ae h bV:=⟨λ_ _=>rfl,λ_ a=>a,λ_ a=> .inl a,λ_ _ _=>rfl,Ik.mono aC.ek⟩
   exact E0 gh (aC.ext (aC.Z.later Ik) (ag.mono Mf) (Zi _)) (aI.ac ag) r7 (AH ae) a
 |round b args=>
  obtain⟨R,U,ar⟩:=l1
  simp only[nI]at a
  split at a
  ·rename_i st qu gK aS kz c1 params assign body ge g8
   split at a
   ·rename_i aiC h5
    obtain⟨hx,gH,mG,rp,Gn,Bv,ss,Bw⟩:=aC.Z.obj b _ g8 ar
    obtain⟨cB,cu⟩:=auL params args c1 aiC hx mG U h5
    rw[run_yield gH (by simp[jL,cB])]at R
    refine .head (avq bf bP R) ?_
    have uB:Frame.round (Q b).cE gK (((params.toArray).zip (bX Q args).toArray).foldl (λtmps (t,J)=>tmps.setIfInBounds t J) hx) assign body .normal=
     co Q gK [] false (some b) ((params.zip (bX Q args)).foldl (λtmps p=>tmps.setIfInBounds p.1 p.2) hx) [.code assign, .beginRound, .code body] (gG Q .run):=by
     simp[Frame.round,co,gG]
    simp only at uB ⊢
    rw[uB]
    refine gh _ _ _ _ _ _ _ _ _ _ _ _ v a Q ae w aM _ _ _ ?_
    refine⟨aC.Z,aC.kR,aC.hL,r7,⟨Zs,λl aB=>(by cases aB;exact ar),Bw⟩,trivial,λF=>by simp[DY]at F, .cons (bM:= .run) aI trivial aC.hK aC.bot Mf aC.cs, ?_⟩
    exact .plain (.cons (.code Gn) (.cons .begin (.cons (.code Bv) .nil))) cu
   ·simp at a
  ·simp at a
 |defer d=>
  obtain⟨R,U⟩:=l1
  simp only[nI]at a
  cases ro with
  |some b=>simp at a
  |none=>
   simp only at a
   refine .head (avc bf bP R) ?_
   have aop:v7 C ae fn aq (d::bb) none:=⟨λlj aH=>by
    rcases Zt.1 aH with rfl|aH
    ·exact U
    ·exact aC.hK.bb lj aH,aC.hK.ro,aC.hK.fn⟩
   exact E0 (ad:=undef) gh ⟨aC.Z,aC.kR,aC.hL,aC.jT,aop,aC.bot,aC.cs⟩ aI r7 trivial a
 |recover=>
  simp only[nI]at a
  cases ro with
  |some b=>simp at a
  |none=>
   simp only at a
   split at a
   ·rename_i ad c8 apB
    obtain⟨iU,b3,b2,cQ,d1⟩:=avV (fn:=fn) (bb:=bb) (tmps:=tmps) (bq:= .inRegion av (i::l)::bq) aC.cs apB
    refine .head (avm bf bP l1 d1) ?_
    exact E0 (ad:=ad) gh ⟨aC.Z,aC.kR,aC.hL,aC.jT,aC.hK,λF=>aC.bot (cQ F),b3⟩ aI r7 b2 a
   ·simp at a
 |panic ad=>
  obtain⟨R,U⟩:=l1
  simp only[nI]at a
  cases ro with
  |some b=>simp at a
  |none=>
   simp only at a
   refine .head (avl bf bP R) ?_
   refine gh _ _ _ _ _ _ _ _ _ _ _ _ v a Q ae w bT tmps _ ap ?_
   exact⟨aC.Z,aC.kR,aC.hL,aC.jT,aC.hK,λp ay=>by simp at ay;subst ay;exact U,aC.bot,aC.cs,aI.drop⟩
 |fork b5=>
  obtain⟨ad,T,bp,aH⟩:=l1
  simp only[nI]at a
  obtain⟨hI,b3,b2⟩:=alP b5 v a ad T bp
  exact .same b2 (done hI ad T j aH b3)
def acs{W:Op}{ez:Operand->Option H}{b:Nat}{ad:H}{cR:ak}{di:Nat->Prop}(a:pU W C ez b=some (ad,cR)):tS C di cR:=by
 have key:∀l:List H,tS C di (.cells (S.ofList l 0 .nil) l.length .own):=λl=>⟨λ_ _ _ a=>(by cases a),λ_ _ _ a=>(by cases a;exact Gp)⟩
 have ara:tS C di (.map [] 0):=⟨λ_ _ _ a=>(by cases a),λ_ _ _ a=>(by cases a)⟩
 cases W<;>simp only[pU]at a<;>(try(cases a;done))
 case alloc t=>unfold Ds at a;split at a<;>simp at a;rw[<-a.2];exact key _
 case box t x=>unfold Jp at a;split at a<;>simp at a;rw[<-a.2];exact key _
 case buildSlice t len jU=>
  unfold Jq at a
  split at a
  ·split at a
   ·simp only[eY]at a
    obtain⟨_,a⟩:=a
    split at a<;>simp at a
    rw[<-a.2];exact key _
   ·simp at a
  ·simp at a
 case makeMap t r=>cases r<;>simp at a;rw[<-a.2];exact ara
def akA{i:Nat}(aM:av.toList.drop i=[]):av.size<=i:=by simpa using aM
def alz{aq:Nat}{au:List (Nat×H)}:∀(l:List Oper) (i:Nat) (ej:List (Nat×Nat)) (nF K c1:S H),(∀t,bit aq t=true->K.get t=match et ej t with|some Y=>et au Y|none=>nF.get t)->
 x0 au (kT aq l i) K=some c1->∀t,bit aq t=true->c1.get t=match et (vL l i ej) t with|some Y=>et au Y|none=>nF.get t:=by
 intro l
 induction l with
 |nil=>intro i ej nF K c1 h5 a;simp[kT,x0]at a;subst a;exact h5
 |cons W l al=>
  intro i ej nF K c1 h5 a
  simp only[kT]at a
  simp only[vL]
  split at a
  ·rename_i d aH
   rw[fo]at a
   split at a
   ·rename_i ai
    simp only[x0]at a
    split at a
    ·rename_i ad bc
     simp only[he]at a
     refine al (i+1) _ nF _ c1 (λt be=> ?_) a
     rw[S.j1,Et,aH]
     by_cases F:d=t
     ·subst F;simp[bc]
     ·simp[F];exact h5 t be
    ·simp at a
   ·rename_i ai
    refine al (i+1) _ nF _ c1 (λt be=> ?_) a
    rw[Et,aH]
    have F:d≠t:=λF=>ai (by rw[F];exact be)
    simp[F];exact h5 t be
  ·rename_i aH
   refine al (i+1) _ nF _ c1 (λt be=> ?_) a
   rw[Et,aH]
   simp;exact h5 t be
def Xa{au:List (Nat×H)}{K c1:S H}(bA:ot Q ae aq (λ_=>True) (h8 av av.size) au K tmps)(eH:tmps.size=n)(a:x0 au (kT aq av.toList 0) K=some c1):ja Q ae n aq c1 tmps:=by
 refine⟨eH,λt ad aB bc=> ?_⟩
 have:=alz (aq:=aq) (au:=au) av.toList 0 [] K K c1 (λ_ _=>rfl) a t aB
 rw[bc]at this
 apply bA t ad trivial
 have F:h8 av av.size=vL av.toList 0 []:=by unfold h8;rw[Zy Zs]
 rw[F]
 cases bH:et (vL av.toList 0 []) t with
 |some Y=>rw[bH]at this;exact this.symm
 |none=>rw[bH]at this;exact⟨aB,this.symm⟩
def adL(cG:Env C bo dK d4)(gh:nc C bo bv bO al){D:List dN}{fin:List (Nat×Nat)}:∀(rest:List fg) (au:List (Nat×H)) (h:S ak) (j:Nat) (Q:c6) (ae:Nat->Prop) (w:World) (tmps:Array Value) (l:List Nat) (ap:List Frame),
 iO C bo bv bO fn aq bb aD ro cs h j Q ae w bT ap->lx C Q ae aq D bq->Ow C Q ae n aq av au rest fin K tmps l->
 yY rest ⟨al,av,fin,D,⟨fn,n,aq,bb,aD,ro,cs⟩⟩ C K au h j=some v->Ends C bo bv bO v (lone (co Q fn bb aD ro tmps (.inRegion av l::bq) .run) ap w):=by
 intro rest
 induction rest with
 |nil=>
  intro au h j Q ae w tmps l ap aC aF aI a
  obtain⟨i,aM,rfl,az,rfl,bA,eH⟩:=aI
  have LZ:av.size<=i:=by
   cases aH:av.toList.drop i with
   |nil=>exact akA aH
   |cons W b5=>
    rw[aH]at az
    obtain⟨_,_,r,_,_,_,_,_,F⟩:=OX az
    cases F
  have:i=av.size:=Zo
  subst this
  simp only[Nat.sub_self,List.range'_zero]
  have cD:HJ ⟨al,av,kT aq av.toList 0,D,⟨fn,n,aq,bb,aD,ro,cs⟩⟩ C K au h j=some v:=a
  simp only[HJ,Ld,oa]at cD
  split at cD
  ·rename_i c1 h5
   refine .head adV ?_
   exact gh _ _ _ _ _ _ _ _ _ _ _ _ v cD Q ae w bT tmps bq ap (aC.state (.plain aF (Xa bA eH h5)))
  ·simp at cD
 |cons x rest FR=>
  intro au h j Q ae w tmps l ap aC aF aI a
  obtain⟨i,aM,rfl,az,rfl,bA,eH⟩:=aI
  cases aH:av.toList.drop i with
  |nil=>rw[aH]at az;simp[rS]at az
  |cons W b5=>
   rw[aH]at az
   obtain⟨g,op,r,dk,dB,gF,t6,jY,F⟩:=OX az
   cases F
   obtain⟨cT,cJ,eT⟩:=Pg aH
   rw[<-Ki cT, <-cJ]at jY
   have FB:List.range' i (av.size-i)=i::List.range' (i+1) (av.size-(i+1)):=by
    rw[show av.size-i=(av.size-(i+1))+1 by omega,List.range'_succ]
   rw[FB]
   have oF:=WJ gF
   have Fz:∀(c9:c6) (du:Nat->Prop) (ad:H),ot c9 du aq (λ_=>True) (h8 av i) au K tmps->ch du ad->Ow C c9 du n aq av ((i,ad)::au) rest (kT aq av.toList 0) K (pJ tmps W.dst (aN c9 ad)) (List.range' (i+1) (av.size-(i+1))):=by
    intro c9 du ad yz AH
    exact⟨i+1,Zo,rfl,jY,rfl,yz.put cT (by rw[eH];exact oF) AH,by rw[NA];exact eH⟩
   have jg:∀(c9:c6) (ad:Value),(co c9 fn bb aD ro tmps (.inRegion av (i::List.range' (i+1) (av.size-(i+1)))::bq) .run).finish ad=co c9 fn bb aD ro (pJ tmps W.dst ad) (.inRegion av (List.range' (i+1) (av.size-(i+1)))::bq) .run:=by
    intro c9 ad
    rw[Le (g:=co c9 fn bb aD ro tmps _ .run) rfl cT];rfl
   have cD:DJ i g op rest (yY rest) ⟨al,av,kT aq av.toList 0,D,⟨fn,n,aq,bb,aD,ro,cs⟩⟩ C K au h j=some v:=a
   simp only[DJ,NX,oa]at cD
   split at cD
   ·rename_i Tf kl
    have si:=N1 aM dk bA (λ_ _ _ _ _=>trivial) (Sub.refl au) kl
    cases Tf with
    |false=>
     simp only[Zv,ZB]at cD
     refine .head (SW cT si) ?_
     rw[jg]
     exact FR _ _ _ _ _ _ _ _ _ aC aF (Fz Q ae undef bA trivial) cD
    |true=>
     simp only[ZD]at cD
     have yn:i7 Q ae (kK tmps) (iT (h8 av i) au K) W.op.operands.toList:=WY bA (λ_ _=>trivial) t6 aC.hL
     rw[Nq]at cD
     cases oH:mA op with
     |hX=>
      simp only[oH,oa]at cD
      split at cD
      ·rename_i ad bc
       obtain⟨bd,cg⟩:=ach aC.Z yn dB bc
       refine .head (DX cT si bd (.inl rfl)) ?_
       rw[jg]
       exact FR _ _ _ _ _ _ _ _ _ aC aF (Fz Q ae ad bA cg) cD
      ·simp at cD
     |make=>
      simp only[oH,oa]at cD
      split at cD
      ·rename_i res lM
       simp only[M5,l0]at lM
       split at lM
       ·rename_i ad cR bp
        simp only[he,Zf]at lM
        subst lM
        have n0:=rn aC.Z
        obtain⟨mc,fb,ff,mb⟩:=acr (w:=w) (Q:=Q) n0 yn (M6 dB bp)
        have ag:iq C bT Q ae h bo.heap.size w (gk Q j ⟨w.heap.size,0,0⟩) (add ae j) (bm C h j (some cR)) (w.alloc mc):=
         ⟨qB n0,λ_ a=> .inl a,λx a=>a.elim .inl (λa=> .inr (by have:=aC.jT;omega)),λx ag c2=>by rw[fT _ aC.Z.a7,Zh (by have:=aC.jT;omega)],Below.alloc (Below.refl _ _) aC.ek _⟩
        have l2:=aC.Z.alloc aC.Z.a7 (Yg _) (Ya _) n0 aC.ek rfl (T:=bm C h j (some cR)) (by rw[fT _ aC.Z.a7,Zq rfl]) (λx ag=> .inl (by rw[fT _ aC.Z.a7,Zh ag])) mb (acs (M6 dB bp))
        refine .head (DX cT si fb (.inl rfl)) ?_
        rw[jg, <-Gf ag.iD aC.hK]
        exact FR _ _ _ _ _ _ _ _ _ (aC.ext l2 ag (Ya _)) (aF.ac ag.iD ag.ju) (Fz _ _ ad (bA.ac ag.iD ag.ju) ff) cD
       ·simp at lM
      ·simp at cD
     |fe=>
      simp only[oH,oa]at cD
      split at cD
      ·rename_i res lM
       have l1:=aac aC.Z aC.ek cG.kc yn dB lM
       have ap9:ml C Q ae h bT j n aq K tmps (.sL av au i rest (kT aq av.toList 0)::D) (.inRegion av (i::List.range' (i+1) (av.size-(i+1)))::bq):=
        .seq aF ⟨W,cT,oF,rfl,jY,rfl,bA,eH⟩
       have now:∀ad T ao,Ac C Q ae h j bo.heap.size w (execOp (kK tmps) W) ad T ao->yY rest ⟨al,av,kT aq av.toList 0,D,⟨fn,n,aq,bb,aD,ro,cs⟩⟩ C K ((i,ad)::au) T ao=some v->
        Ends C bo bv bO v (lone (co Q fn bb aD ro tmps (.inRegion av (i::List.range' (i+1) (av.size-(i+1)))::bq) .run) ap w):=by
        intro ad T ao aH a
        obtain⟨c9,du,bV,tB,bB,cF,fp,jM,ps,HH⟩:=aH
        have FM:tB= .value (aN c9 ad)\/(tB= .skip/\aN c9 ad=Go.undef):=cF.imp id λ⟨J,b⟩=>⟨J,by rw[b];rfl⟩
        refine .head (DX cT si bB FM) ?_
        rw[jg, <-Gf ps.iD aC.hK]
        exact FR _ _ _ _ _ _ _ _ _ (aC.ext jM (ps.mono aC.jT) HH) (aF.ac ps.iD ps.ju) (Fz _ _ ad (bA.ac ps.iD ps.ju) fp) a
       have p0:nI res al C (.sL av au i rest (kT aq av.toList 0)) D ⟨fn,n,aq,bb,aD,ro,cs⟩ K h j=some v->Ends C bo bv bO v (lone (co Q fn bb aD ro tmps (.inRegion av (i::List.range' (i+1) (av.size-(i+1)))::bq) .run) ap w):=
        λa=>VL cG gh aC ap9 aC.jT (Zi _) cT si l1 a
       cases res with
       |val ad=>exact now ad h j l1 cD
       |fv ad T ao=>exact now ad T ao l1 cD
       |_=>exact p0 cD
      ·simp at cD
   ·simp at cD
end
end Go.bg

namespace Go.bg
open Go.RowKit (Below)
def akc{l:List Bool}(a:l.count false=0):∀b∈l,b=true:=by
 intro b ai
 cases b with
 |true=>rfl
 |false=>exact absurd ai (List.count_eq_zero.1 a)
def auC{av:Array Oper}(lJ:DH av.toList 0=true):∀(fuel t:Nat) (ii:Array Bool),ii.size=av.size->ii.toList.count false=fuel->
 we av (λi=>ii.getD i false=true) (Region.linearise.go .any av fuel t ii []):=by
 intro fuel
 induction fuel with
 |zero=>
  intro t ii aI az
  simp only[Region.linearise.go,List.reverse_nil]
  refine .nil λi aM=> ?_
  have c2:i<ii.size:=Zo
  have:=akc az ii[i] Zs
  simp[c2,this]
 |succ fuel al=>
  intro t ii aI az
  simp only[Region.linearise.go]
  have r6:∃i,i<av.size/\ii.getD i true=false:=by
   have QS:false∈ii.toList:=by
    rw[<-List.count_pos_iff];omega
   obtain⟨i,aM⟩:=ZX.1 QS
   have c2:i<ii.size:=by have:=(Zc.1 aM).1;simpa using this
   refine⟨i,Zo, ?_⟩
   rw[ZL]at aM
   simp[aM]
  have IH:∃i,i<av.size/\ii.getD i true=false/\∀Y,Y<i->ii.getD Y false=true:=by
   have key:∀m,(∃i,i<m/\i<av.size/\ii.getD i true=false)->∃i,i<av.size/\ii.getD i true=false/\∀Y,Y<i->ii.getD Y false=true:=by
    intro m
    induction m with
    |zero=>rintro⟨i,a,_⟩;omega
    |succ m pA=>
     rintro⟨i,R,U,ar⟩
     by_cases an:∃i,i<m/\i<av.size/\ii.getD i true=false
     ·exact pA an
     ·have:i=m:=by
       rcases Y8 i m with a|a
       ·exact absurd ⟨i,a,U,ar⟩ an
       ·omega
      subst this
      refine⟨i,U,ar,λY bH=> ?_⟩
      have c2:Y<ii.size:=Zo
      cases ai:ii[Y]with
      |true=>simp[c2,ai]
      |false=>exact absurd ⟨Y,bH,Zo,by simp[c2,ai]⟩ an
   obtain⟨i,R,U⟩:=r6
   exact key (i+1) ⟨i,Zo,R,U⟩
  obtain⟨i0,uE,ap4,hT⟩:=IH
  have apA:i0∈Region.ready .any av ii:=by
   rw[mem_ready]
   refine⟨ap4,av[i0],Array.getElem?_eq_getElem uE,λF bt ai=> ?_⟩
   have:=asL lJ i0 av[i0] (by rw[ZL];exact Array.getElem?_eq_getElem uE) F (by simpa using bt) ai
   exact hT _ Zo
  change we av _ (match (Region.ready .any av ii)[t%(Region.ready .any av ii).length]? with
   |some i=>Region.linearise.go .any av fuel (t/(Region.ready .any av ii).length) (ii.setIfInBounds i true) [i]
   |none=>[].reverse)
  have fB:0<(Region.ready .any av ii).length:=List.length_pos_of_mem apA
  have c2:t%(Region.ready .any av ii).length<(Region.ready .any av ii).length:=Nat.mod_lt _ fB
  rw[Ze c2]
  simp only[]
  generalize aM:(Region.ready .any av ii)[t%(Region.ready .any av ii).length]=i
  have QS:i∈Region.ready .any av ii:=by rw[<-aM];exact List.getElem_mem c2
  obtain⟨R,W,U,ar⟩:=mem_ready.1 QS
  have axl:i<av.size:=(ZJ.1 U).1
  have lk:i<ii.size:=Zo
  have aah:ii[i]=false:=by simpa[lk]using R
  rw[linearise_go_acc,List.reverse_singleton,List.singleton_append]
  refine .cons U (by simp[lk,aah]) (λF bt ai=>ar F (by simpa using bt) ai) ?_
  have bS:add (λi=>ii.getD i false=true) i=λY=>(ii.setIfInBounds i true).getD Y false=true:=by
   funext Y
   apply propext
   unfold add
   by_cases F:Y=i
   ·subst F;simp[lk]
   ·rw[getD_set_ne false (λan=>F an.symm)]
    simp[F]
  rw[bS]
  refine al _ _ (by simpa using aI) ?_
  rw[Array.toList_setIfInBounds,List.count_set (by simpa using lk)]
  have:(ii.toList[i]'(by simpa using lk))=false:=by simpa using aah
  simp[this,az]
def auD{av:Array Oper}(lJ:DH av.toList 0=true)(t:Nat):we av (λ_=>False) (Region.schedule true av t):=by
 simp only[Region.schedule,Bool.true_or,ZD,Region.linearise]
 have:=auC lJ av.size t (Array.replicate av.size false) Zs Zs
 have F:(λi=>(Array.replicate av.size false).getD i false=true)=λ_=>False:=by
  funext i
  apply propext
  by_cases a:i<av.size<;>simp[a]
 rw[F]at this
 exact this
section
variable{C:aW}{Q c9 dK:c6}{ae du d4:Nat->Prop}{h T:S ak}{j ao bi:Nat}{w bV:World}{n aq:Nat}{av:Array Oper}
variable{bo:World}{bv:Nat}{bO:List Frame}{v:H}{al:hm}
variable{fn:Nat}{bb:List hy}{aD:Bool}{ro:Option Nat}{cs:List gC}{K:S H}{tmps:Array Value}{bq:List Item}{ap:List Frame}{bT aM:Nat}
def aqy{op:jF}(aF:mA op= .hX)(aI:BK op=false)(h T:S ak)(au:List (Nat×H))(K:S H):gJ op C h au K=gJ op C T au K:=by
 cases op<;>simp only[gJ]<;>(try rfl)<;>simp[BK]at aI
 case hX b1 W=>cases W<;>simp[BK]at aI<;>rfl
def pi.refl(h:S ak):pi C h h:=λ_=> .inl rfl
def pi.trans{aX aJ aY:S ak}(a:pi C aX aJ)(D:pi C aJ aY):pi C aX aY:=λx=>by
 rcases a x with a|a
 ·rcases D x with D|D
  ·exact .inl (a.trans D)
  ·exact .inr (a.trans D)
 ·exact .inr a
def acf(h:S ak):pi C .nil h:=by
 intro b
 unfold aa
 rw[fo,fo]
 split
 ·exact .inl rfl
 ·exact .inr rfl
def akr{base:Nat}(aK:C.a7<=base):∀(l:List fg) (au:List (Nat×H)) (h:S ak) (ho:List (Nat×H)) (T:S ak),(l.Pairwise λJ b=>J.i≠b.i)->(∀x∈l,et au x.i=none/\aa C h (base+x.i)=none/\nt x.op=false)->
 wr C base K l au h=some (ho,T)->Sub au ho/\pi C h T/\(∀i,et ho i≠none->et au i≠none\/∃x∈l,x.i=i)/\(∀b,aa C T b≠aa C h b->∃x∈l,b=base+x.i)/\
 ∀x∈l,∃ad,(∀ae,Kn C ae T base ho K x ad)/\G5 C T ho K x ad:=by
 intro l
 induction l with
 |nil=>
  intro au h ho T _ _ a
  simp[wr]at a
  obtain⟨rfl,rfl⟩:=a
  exact⟨Sub.refl _,pi.refl _,λi a=> .inl a,λb a=>absurd rfl a,Zs⟩
 |cons x l al=>
  intro au h ho T ay ce a
  rw[List.pairwise_cons]at ay
  obtain⟨eo,dt⟩:=ay
  obtain⟨Lj,PC,PD⟩:=ce x (Zw ..)
  have step:∀(ad:H) (aX:S ak),pi C h aX->(∀b,aa C aX b≠aa C h b->b=base+x.i)->wr C base K l ((x.i,ad)::au) aX=some (ho,T)->
   (∀ho T,Sub ((x.i,ad)::au) ho->pi C aX T->(aa C aX (base+x.i)≠none->aa C T (base+x.i)=aa C aX (base+x.i))->(∀ae,Kn C ae T base ho K x ad)/\G5 C T ho K x ad)->
   Sub au ho/\pi C h T/\(∀i,et ho i≠none->et au i≠none\/∃iE∈x::l,iE.i=i)/\(∀b,aa C T b≠aa C h b->∃iE∈x::l,b=base+iE.i)/\∀iE∈x::l,∃ad,(∀ae,Kn C ae T base ho K iE ad)/\G5 C T ho K iE ad:=by
   intro ad aX qe th aH ag
   have yw:Sub au ((x.i,ad)::au):=Sub.cons Lj
   have qc:∀iE∈l,et ((x.i,ad)::au) iE.i=none/\aa C aX (base+iE.i)=none/\nt iE.op=false:=by
    intro iE qj
    obtain⟨b3,b2,cQ⟩:=ce iE (Zu _ qj)
    have dI:=eo iE qj
    refine⟨by rw[qS,Zh dI];exact b3, ?_,cQ⟩
    by_cases an:aa C aX (base+iE.i)=aa C h (base+iE.i)
    ·rw[an];exact b2
    ·have:=th _ an;omega
   obtain⟨bZ,cw,c0,ep,dG⟩:=al _ _ _ _ dt qc aH
   have C2:aa C T (base+x.i)=aa C aX (base+x.i):=by
    by_cases an:aa C T (base+x.i)=aa C aX (base+x.i)
    ·exact an
    ·obtain⟨iE,qj,F⟩:=ep _ an
     exact absurd Zo (eo iE qj)
   refine⟨yw.trans bZ,qe.trans cw,λi aM=> ?_,λb ai=> ?_,λiE qj=> ?_⟩
   ·rcases c0 i aM with R|⟨iE,R,U⟩
    ·rw[qS]at R
     split at R
     ·rename_i F;exact .inr ⟨x,Zw ..,F⟩
     ·exact .inl R
    ·exact .inr ⟨iE,Zu _ R,U⟩
   ·by_cases an:aa C T b=aa C aX b
    ·rw[an]at ai
     exact⟨x,Zw ..,th b ai⟩
    ·obtain⟨iE,R,U⟩:=ep b an
     exact⟨iE,Zu _ R,U⟩
   ·rcases Zt.1 qj with rfl|qj
    ·exact⟨ad,ag ho T bZ cw (λ_=>C2)⟩
    ·exact dG iE qj
  have C2:∀(ad:H) (ho:List (Nat×H)),Sub ((x.i,ad)::au) ho->et ho x.i=some ad:=λad ho aI=>aI _ _ (by rw[qS,Zq rfl])
  simp only[wr]at a
  split at a
  ·simp at a
  ·rename_i bP
   refine step undef h (pi.refl _) (λb ai=>absurd rfl ai) a λho T aI aB _=> ?_
   have A5:Sub au ho:=(Sub.cons Lj).trans aI
   exact⟨λae=>⟨C2 _ _ aI,au,false,A5,bP,λ_=>rfl,Zs⟩,au, .nil,false,A5,acf _,bP,Zs⟩
  ·rename_i bP
   cases aF:mA x.op with
   |make=>
    rw[aF]at a
    simp only at a
    split at a
    ·rename_i ad cR bp
     simp only[he]at a
     have ai:C.a7<=base+x.i:=Zo
     refine step ad _ (λb=> ?_) (λb jQ=> ?_) a λho T aI aB Ma=> ?_
     ·rw[fT _ ai]
      by_cases F:b=base+x.i
      ·subst F;exact .inr PC
      ·rw[Zh F];exact .inl rfl
     ·rw[fT _ ai]at jQ
      by_cases F:b=base+x.i
      ·exact F
      ·rw[Zh F]at jQ;exact absurd rfl jQ
     ·have A5:Sub au ho:=(Sub.cons Lj).trans aI
      have g8:aa C T (base+x.i)=some cR:=by
       rw[Ma (by rw[fT _ ai,Zq rfl];simp),fT _ ai,Zq rfl]
      exact⟨λae=>⟨C2 _ _ aI,au,true,A5,bP,Zs,λ_=>⟨PD,λ_=>⟨cR,bp,g8⟩,λan=>by rw[aF]at an;cases an⟩⟩,au,h,true,A5,
       (by
        intro b
        rcases aB b with an|an
        ·rw[fT _ ai]at an
         by_cases F:b=base+x.i
         ·subst F;exact .inr PC
         ·rw[Zh F]at an;exact .inl an
        ·rw[fT _ ai]at an
         by_cases F:b=base+x.i
         ·subst F;exact .inr PC
         ·rw[Zh F]at an;exact .inr an),bP,λ_ an=>by rw[aF]at an;cases an⟩
    ·simp at a
   |hX=>
    rw[aF]at a
    simp only at a
    split at a
    ·rename_i ad bc
     refine step ad h (pi.refl _) (λb ai=>absurd rfl ai) a λho T aI aB _=> ?_
     have A5:Sub au ho:=(Sub.cons Lj).trans aI
     exact⟨λae=>⟨C2 _ _ aI,au,true,A5,bP,Zs,λ_=>⟨PD,λan=>(by rw[aF]at an;cases an),λ_ FG ks=>by rw[aqy aF FG ks h];exact bc⟩⟩,au,h,true,A5,aB,bP,λ_ _=>bc⟩
    ·simp at a
   |fe=>simp[nt,aF]at PD
end
end Go.bg

namespace Go.bg
open Go.RowKit (Below)
section
variable{C:aW}{Q c9 dK:c6}{ae du d4:Nat->Prop}{h T:S ak}{j ao bi:Nat}{w bV:World}{n aq:Nat}{av:Array Oper}
variable{bo:World}{bv:Nat}{bO:List Frame}{v:H}{al:hm}
variable{fn:Nat}{bb:List hy}{aD:Bool}{ro:Option Nat}{cs:List gC}{K:S H}{tmps:Array Value}{bq:List Item}{ap:List Frame}{bT aM:Nat}
def aks{au:List (Nat×H)}:∀(l:List fg),Ck C K au h l=true->∀x∈l,∃b,og x.g au=some b/\(b=true->∃ad,gJ x.op C h au K=some ad/\et au x.i=some ad):=by
 intro l
 induction l with
 |nil=>intro _ x a;simp at a
 |cons J l al=>
  intro a x ag
  simp only[Ck]at a
  split at a
  ·simp at a
  ·rename_i bP
   rcases Zt.1 ag with rfl|ag
   ·exact⟨false,bP,Zs⟩
   ·exact al a x ag
  ·rename_i bP
   split at a
   ·rename_i ad sJ R U
    simp only[Zn]at a
    have:=NH _ _ _ a.1
    subst this
    rcases Zt.1 ag with rfl|ag
    ·exact⟨true,bP,λ_=>⟨ad,R,U⟩⟩
    ·exact al a.2 x ag
   ·simp at a
def avw{ij:List pj}{D:Nat}{aB:List (gd×fg)}:∃s rest,yK ij D aB=s::rest/\s.tx=sQ D ij/\s.Sx=DQ D ij/\
 (match aB with|[]=>s.fe=none/\rest=[]|e::hh=>s.fe=some e.2/\rest=yK ij (D+1) hh):=by
 cases aB with
 |nil=>exact⟨_,_,rfl,rfl,rfl,rfl,rfl⟩
 |cons e aB=>exact⟨_,_,rfl,rfl,rfl,rfl,rfl⟩
def An{D:Nat}:∀{ij:List pj}{x:fg},x∈sQ D ij↔∃l∈ij,l.bT=D/\l.x=x:=by
 intro ij
 induction ij with
 |nil=>intro x;simp[sQ]
 |cons J ij al=>
  intro x
  simp only[sQ,hB]
  by_cases a:J.bT=D
  ·simp only[a,ZD,Zt,al]
   constructor
   ·rintro(rfl|⟨l,R,U,ar⟩)
    ·exact⟨J, .inl rfl,a,rfl⟩
    ·exact⟨l, .inr R,U,ar⟩
   ·rintro⟨l,rfl|R,U,ar⟩
    ·exact .inl ar.symm
    ·exact .inr ⟨l,R,U,ar⟩
  ·simp only[a,ZB,al]
   constructor
   ·rintro⟨l,R,U,ar⟩;exact⟨l, .tail _ R,U,ar⟩
   ·rintro⟨l,R,U,ar⟩
    rcases Zt.1 R with rfl|R
    ·exact absurd U a
    ·exact⟨l,R,U,ar⟩
def atT{D:Nat}:∀{ij:List pj}{l:pj},l∈ij->l.bT<D->D<=l.aM->BK l.x.op=true->l.x∈DQ D ij:=by
 intro ij
 induction ij with
 |nil=>intro l a;simp at a
 |cons J ij al=>
  intro l aB R U ar
  simp only[DQ,fo]
  rcases Zt.1 aB with rfl|aB
  ·rw[Zq]
   ·exact Zw ..
   ·have bB:Nat.blt l.bT D=true:=by simp[Nat.blt];omega
    have cF:Nat.ble D l.aM=true:=by simpa using U
    simp[bB,cF,ar]
  ·split
   ·exact Zu _ (al aB R U ar)
   ·exact al aB R U ar
def ajp{D:Nat}:∀{ij:List pj},(ij.Pairwise λJ b=>J.x.i<b.x.i)->(sQ D ij).Pairwise λJ b=>J.i≠b.i:=by
 intro ij
 induction ij with
 |nil=>intro _;simp[sQ]
 |cons J ij al=>
  intro a
  rw[List.pairwise_cons]at a
  simp only[sQ,hB]
  split
  ·rw[List.pairwise_cons]
   refine⟨λx ag=> ?_,al a.2⟩
   obtain⟨l,R,_,rfl⟩:=An.1 ag
   have:=a.1 l R;omega
  ·exact al a.2
def aq9(op:jF):nt op=true/\mA op= .fe\/nt op=false/\(mA op= .hX\/mA op= .make):=by
 unfold nt
 cases mA op<;>simp
def asa(cG:Env C bo dK d4)(gh:nc C bo bv bO al){D:List dN}{base d0:Nat}{au:List (Nat×H)}(uI:bT<=base)(gg:base+av.size<=j)(gL:C.a7<=base){s:wg}{rest:List wg}
 (df:match (gx C n aq av).drop d0 with|[]=>s.fe=none|e::hh=>s.fe=some e.2/\rest=yK (lE C n aq av) (d0+1) hh)
 (a:(match s.fe with
    |none=>HO (kT aq av.toList 0) au K λK=>al .run D ⟨fn,n,aq,bb,aD,ro,cs⟩ K h j
    |some a=>(match og a.g au with
     |none=>none
     |some w=>bR (w) ((match hJ a.op C h j au K with
       |some r=>nI r al C (.y6 av base au a.i rest (kT aq av.toList 0)) D ⟨fn,n,aq,bb,aD,ro,cs⟩ K h j
       |none=>none))<|al .run (.drawn av base ((a.i,undef)::au) rest (kT aq av.toList 0)::D) ⟨fn,n,aq,bb,aD,ro,cs⟩ K h j))=some v):
 ∀(l:List Nat) (Q:c6) (ae:Nat->Prop) (w:World) (tmps:Array Value) (di:Nat->Prop),iO C bo bv bO fn aq bb aD ro cs h j Q ae w bT ap->lx C Q ae aq D bq->qG C Q ae h base n aq av au d0 (d0+1) K tmps di->we av di l->
  (∀l∈lE C n aq av,l.bT<d0+1->¬di l.x.i->∃ad,et au l.x.i=some ad/\G5 C h au K l.x ad)->Ends C bo bv bO v (lone (co Q fn bb aD ro tmps (.inRegion av l::bq) .run) ap w):=by
 intro l
 induction l with
 |nil=>
  intro Q ae w tmps di aC aF aH aI QZ
  cases aI with
  |nil jP=>
   have LZ:(gx C n aq av).drop d0=[]:=by
    cases cl:(gx C n aq av).drop d0 with
    |nil=>rfl
    |cons e hh=>
     exfalso
     have I:(gx C n aq av)[d0]? =some e:=by
      have:((gx C n aq av).drop d0)[0]? =some e:=by rw[cl];rfl
      rwa[YB]at this
     have bS:=jP e.1.i (aku aH.st (Zj I)).1
     have:=(aH.done d0 e I).1 bS
     omega
   rw[LZ]at df
   simp only at df
   rw[df]at a
   simp only[Ld,oa]at a
   split at a
   ·rename_i c1 h5
    refine .head adV ?_
    have bA:ot Q ae aq (λ_=>True) (h8 av av.size) au K tmps:=by
     obtain⟨_,e3,jw⟩:=Kk av av.size (Zi _)
     intro t ad _ bc
     apply aH.Cj t ad
     split at bc
     ·rename_i Y bH
      obtain⟨b3,b2,cQ⟩:=e3 t Y bH
      left
      refine⟨Y,jP Y b3,b2,λoR Iy r3=> ?_,bc⟩
      rcases Y8 Y oR with c2|AR
      ·exact absurd r3 (cQ oR c2 (aH.w5 oR Iy))
      ·exact AR
     ·rename_i bH
      exact .inr ⟨λY Iy=>jw t bH Y (aH.w5 Y Iy),bc⟩
    exact gh _ _ _ _ _ _ _ _ _ _ _ _ v a Q ae w bT tmps bq ap (aC.state (.plain aF (Xa bA aH.size h5)))
   ·simp at a
 |cons i l mZ=>
  intro Q ae w tmps di aC aF aH aI QZ
  cases aI with
  |cons bf qf lJ yu=>
   rename_i W
   have aM:i<av.size:=(ZJ.1 bf).1
   obtain⟨p,x,o',fW,fw,z3,z4,z5,rA⟩:=xT aH.st i aM
   have apa:o'=W:=by
    have:=z5.oper
    rw[z4,bf]at this
    exact(Yu this).symm
   subst apa
   have MG:=akv aH.st aH.closed aH.w5 aH.Cj fw bf qf lJ
   have Mi:=HB aH.closed (M8 fw) (by rw[z3];exact bf) lJ
   have az:=z5
   have b0:=az.g
   have C1:=az.op
   have cz:=az.reads
   rw[z4]at b0 C1 cz
   have yn:∀kj,Sub kj au->i7 Q ae (kK tmps) (iT (h8 av i) kj K) o'.op.operands.toList:=by
    intro kj yw
    refine WY (X:=λt=>bit p.r t=true) (λt ad bQ bc=>MG t ad bQ ?_) (λt be=>atA rA be) cz aC.hL
    split at bc
    ·exact yw _ _ bc
    ·exact bc
   have QC:∀Y b t,o'.guard=some (Y,b)->wu Y (h8 av i)=some t->bit p.r t=true:=by
    intro Y b t R U
    rw[rA.r,EA,z3]
    have:bit (Lx (h8 av i) o'.guard) t=true:=by
     rw[R]
     simp only[Lx,U]
     rw[KJ];simp
    rw[this];simp
   have jg:∀(c9:c6) (ad:Value),(co c9 fn bb aD ro tmps (.inRegion av (i::l)::bq) .run).finish ad=co c9 fn bb aD ro (pJ tmps o'.dst ad) (.inRegion av l::bq) .run:=by
    intro c9 ad
    rw[Le (g:=co c9 fn bb aD ro tmps _ .run) rfl bf];rfl
   rcases aq9 x.op with ⟨gb,oH⟩|⟨gb,oH⟩
   ·
    have Ix:(p,x)∈gx C n aq av:=by rw[KU];exact YE.2 ⟨Zj fW,gb⟩
    obtain⟨an,cl⟩:=ZX.1 Ix
    have apt:an=d0:=by
     rcases YL an d0 with c2|F|gU
     ·exact absurd ((aH.done an _ cl).2 c2) (by simpa only[z3]using qf)
     ·exact F
     ·exfalso
      have fB:an-1<(gx C n aq av).length:=by have:=(Zc.1 cl).1;omega
      have aa6:(gx C n aq av)[an-1]? =some ((gx C n aq av)[an-1]):=Ze fB
      have π:=aH.st.chain
      rw[Li]at π
      have ai:=aod π (an-1) ((gx C n aq av)[an-1]).1 p (by rw[Zx,aa6];rfl) (by rw[show an-1+1=an by omega,Zx,cl];rfl)
      have bS:=Mi _ ai
      have:=(aH.done (an-1) _ aa6).1 bS
      omega
    subst apt
    have LZ:(gx C n aq av).drop an=(p,x)::(gx C n aq av).drop (an+1):=by
     have c2:=(Zc.1 cl).1
     rw[Zr c2,(Zc.1 cl).2]
    rw[LZ]at df
    simp only at df
    obtain⟨lm,qi⟩:=df
    rw[lm]at a
    simp only at a
    have I:av[((p,x):gd×fg).1.i]? =some o':=by simp only[z3];exact bf
    split at a
    ·simp at a
    ·rename_i Tf kl
     have si:=N1 (zk aM) b0 MG QC (Sub.refl au) kl
     have aaP:¬di ((p,x):gd×fg).1.i:=by simpa only[z3]using qf
     have aqg:x.i=((p,x):gd×fg).1.i:=by simp only[z3,z4]
     cases Tf with
     |false=>
      simp only[jK]at a
      refine .head (SW bf si) ?_
      rw[jg]
      rw[aqg,qi]at a
      have:=aH.fe cl I aaP lJ (v:=undef) trivial az.dst
      exact gh _ _ _ _ _ _ _ _ _ _ _ _ v a Q ae w bT _ _ ap (aC.state (.drawn aF uI gg this (by simp only[z3];exact yu)))
     |true=>
      simp only[e2]at a
      split at a
      ·rename_i r Z
       have l1:=aac aC.Z aC.ek cG.kc (yn au (Sub.refl au)) C1 Z
       have IZ:ml C Q ae h bT j n aq K tmps (.y6 av base au x.i rest (kT aq av.toList 0)::D) (.inRegion av (i::l)::bq):=by
        have abl:=ml.drawn (bT:=bT) (aM:=j) (l:=l) aF uI gg aH cl I aaP lJ (by simp only[z3];exact yu)
        simp only[z3]at abl
        rw[qi,z4]
        exact abl
       exact VL cG gh aC IZ aC.jT (Zi _) bf si l1 a
      ·simp at a
   ·
    have aoS:=Zj fW
    have f0:(⟨x,uc p.m (p4 (gx C n aq av)),AS p.i (p4 (gx C n aq av))⟩:pj)∈lE C n aq av:=by
     rw[KW];exact ZW.2 ⟨(p,x),YE.2 ⟨aoS,by simp[gb]⟩,rfl⟩
    have nZ:uc p.m (p4 (gx C n aq av))<d0+1:=by
     have:=akb p.m (p4 (gx C n aq av)) d0 (λan e cl gr=>by
      rw[Li,Zx]at cl
      cases ct:(gx C n aq av)[an]? with
      |none=>rw[ct]at cl;cases cl
      |some br=>
       rw[ct]at cl;cases cl
       cases ai:bit p.m br.1.i with
       |false=>rfl
       |true=>have:=(aH.done an br ct).1 (Mi _ ai);omega)
     omega
    have Fr:¬di x.i:=by rw[z4];exact qf
    obtain⟨ad,FL,Rq⟩:=aH.ahead _ f0 nZ
    obtain⟨uH,kj,b,β,pz,hT,nV⟩:=Rq Fr
    have si:=N1 (zk aM) b0 MG QC β pz
    have Q6:av[x.i]? =some o':=by rw[z4];exact bf
    have Q0:∀Of:Nat->Prop,(∀Y,di Y->Of Y)->∀l∈lE C n aq av,l.bT<d0+1->¬Of l.x.i->∃ad,et au l.x.i=some ad/\G5 C h au K l.x ad:=λOf CA b5 R U ar=>QZ b5 R U (λan=>ar (CA _ an))
    have Ii:add di x.i=add di i:=by rw[z4]
    cases b with
    |false=>
     have:ad=undef:=hT rfl
     subst this
     refine .head (SW bf si) ?_
     rw[jg]
     have h6:=aH.hX (c9:=Q) (du:=ae) f0 nZ Q6 Fr lJ FL (λ_ _=>rfl) (λ_ a=>a) (λ_ a=> .inl a) (by trivial) az.dst
     simp only[Ii]at h6
     exact mZ Q ae w _ _ aC aF h6 yu (Q0 _ λ_ a=> .inl a)
    |true=>
     obtain⟨_,II,_⟩:=nV rfl
     rcases oH with oH|oH
     ·obtain⟨sJ,to,aiE,aiB,sS,aL,a6,ba,c7⟩:=QZ _ f0 nZ Fr
      simp only at to ba c7
      rw[FL]at to;cases to
      have yA:=N1 (zk aM) b0 MG QC aL ba
      have gg:sS=true:=by rw[<-yA,si]
      have r6:=c7 gg oH
      have A4:de C Q ae aiB j bo.heap.size w:=aC.Z.W5 a6
      obtain⟨bd,cg⟩:=ach A4 (yn aiE aL) C1 r6
      refine .head (DX bf si bd (.inl rfl)) ?_
      rw[jg]
      have h6:=aH.hX (c9:=Q) (du:=ae) f0 nZ Q6 Fr lJ FL (λ_ _=>rfl) (λ_ a=>a) (λ_ a=> .inl a) cg az.dst
      simp only[Ii]at h6
      exact mZ Q ae w _ _ aC aF h6 yu (Q0 _ λ_ a=> .inl a)
     ·obtain⟨cR,bp,g8⟩:=II oH
      simp only at bp g8
      have n0:¬ae (base+x.i):=λan=>Fr (aH.ids x.i (by rw[z4];exact aM) an)
      obtain⟨mc,fb,ff,mb⟩:=acr (w:=w) (Q:=Q) n0 (yn kj β) (M6 C1 bp)
      have c2:base+x.i<j:=by rw[z4];omega
      have l2:=aC.Z.alloc (ao:=j) (T:=h) (b:=base+x.i) Zo c2 (Zi _) n0 aC.ek rfl g8 (λ_ _=> .inl rfl) mb (acs (M6 C1 bp))
      have ag:iq C bT Q ae h bo.heap.size w (gk Q (base+x.i) ⟨w.heap.size,0,0⟩) (add ae (base+x.i)) h (w.alloc mc):=
       ⟨qB n0,λ_ a=> .inl a,λe a=>a.elim .inl (λa=> .inr Zo),λ_ _ _=>rfl,Below.alloc (Below.refl _ _) aC.ek _⟩
      refine .head (DX bf si fb (.inl rfl)) ?_
      rw[jg, <-Gf ag.iD aC.hK]
      have h6:=aH.hX (c9:=gk Q (base+x.i) ⟨w.heap.size,0,0⟩) (du:=add ae (base+x.i)) f0 nZ Q6 Fr lJ FL ag.iD ag.ju (λ_ a=>a) ff az.dst
      simp only[Ii]at h6
      exact mZ _ _ _ _ _ (aC.ext l2 ag (Zi _)) (aF.ac ag.iD ag.ju) h6 yu (Q0 _ λ_ a=> .inl a)
end
end Go.bg

