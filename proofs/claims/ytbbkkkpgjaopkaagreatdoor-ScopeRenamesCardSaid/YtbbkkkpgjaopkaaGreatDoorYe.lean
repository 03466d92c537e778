/- Part of the proof of the last text; no conditions -/
import Derived.Test.YtbbkkkpgjaopkaaGreatDoorYd
import Derived.Defers
import Derived.RangeFuncRecord
import Derived.Orders
set_option maxHeartbeats 8000000
set_option linter.all false
namespace Go.bp
open Go.RowKit (Below)
section
variable{C:aM}{J cX:cQ}{Y dg:Nat->Prop}{h S:R ag}{j aq bd:Nat}{w bO:World}{n am:Nat}{ao:Array Oper}
def abH{D b t:Nat}(I:e8 D t=true)(M:e8 b t=true):Nat.beq (Nat.land D b) 0=false:=by
 cases a:Nat.beq (Nat.land D b) 0 with
 |false=>rfl
 |true=>
  have B:=Zj a
  have:=aiH D b t
  rw[B,J9,I,M]at this
  cases this
def MJ{p:fR}{V:Oper}(a:DD ao p V){t:Nat}(aI:V.dst=some t):e8 p.w t=true:=by rw[a.w];exact ajI.2 aI
def asN{p:fR}{V:Oper}(a:DD ao p V){t:Nat}(U:Operand.tmp t∈V.op.operands.toList):e8 p.r t=true:=by
 rw[a.r,DT,asc.2 U];rfl
def Ow(a:o7 C n am ao){i W:Nat}{p al:fR}(yO:i<W)(av:(oi ao)[i]? =some p)(bJ:(oi ao)[W]? =some al){t:Nat}
 (ay:(e8 p.w t=true/\(e8 al.r t=true\/e8 al.w t=true))\/(e8 al.w t=true/\e8 p.r t=true)):e8 al.m i=true:=by
 have:=ar3 a.aso i W p al yO av bJ
 have H9:p.i=i:=((GQ ao).2 i p av).1
 unfold My at this
 rw[H9]at this
 rcases ay with ⟨I,M⟩|⟨I,M⟩
 ·have ak:e8 (Nat.lor al.r al.w) t=true:=by rw[DT];rcases M with M|M<;>simp[M]
  rw[abH I ak]at this
  simpa using this
 ·rw[abH I M]at this
  simpa using this
def Mk{i:Nat}{p:fR}(av:(oi ao)[i]? =some p):p∈oi ao:=Zl av
def ajz(cK:o7 C n am ao){c8:Nat->Prop}{an:List (Nat×z)}{H:R z}{tmps:Array Value}(j1:AU ao c8)(HS:∀i,c8 i->i<ao.size)(aI:xW J Y am ao c8 an H tmps)
 {i:Nat}{p:fR}{V:Oper}(av:(oi ao)[i]? =some p)(bb:ao[i]? =some V)(p9:¬c8 i)(lp:∀B∈V.after.toList,Region.binds .any B=true->c8 B.on):
 od J Y am (λt=>e8 p.r t=true) (hP ao i) an H tmps:=by
 have aE:i<ao.size:=(ZM.1 bb).1
 obtain⟨_,e5,f3⟩:=Jz ao i (zq aE)
 have H9:p.i=i:=((GQ ao).2 i p av).1
 have Lw:=GR j1 (Mk av) (by rw[H9];exact bb) lp
 have abK:∀t W,e8 p.r t=true->i<W->c8 W->rp ao W=some t->False:=by
  intro t W U yO bZ tV
  obtain⟨al,x,xv,_,bJ,vt,_,af,xa⟩:=wz cK W (HS W bZ)
  have w9:ao[W]? =some xv:=by rw[<-vt];exact xa.oper
  have bQ:=MJ xa (t:=t) (by rw[<-GV w9];exact tV)
  have aj:=Ow cK yO av bJ (.inr ⟨bQ,U⟩)
  have:=GR j1 (Mk bJ) (by rw[vt];exact w9) (j1 W xv w9 bZ) i aj
  exact p9 this
 intro t v bI bt
 apply aI t v
 split at bt
 ·rename_i W bB
  obtain⟨cb,b5,cG⟩:=e5 t W bB
  left
  have ans:W<ao.size:=Zo
  obtain⟨al,x,xv,_,bJ,vt,_,af,xa⟩:=wz cK W ans
  have w9:ao[W]? =some xv:=by rw[<-vt];exact xa.oper
  have bQ:=MJ xa (t:=t) (by rw[<-GV w9];exact b5)
  have aj:=Ow cK cb bJ av (.inl ⟨bQ, .inl bI⟩)
  refine⟨W,Lw W aj,b5,λoM By rD=> ?_,bt⟩
  rcases YT oM i with I|I|I
  ·rcases ze W oM with M|M
   ·exact absurd rD (cG oM M I)
   ·exact M
  ·exact absurd (I▸By) p9
  ·exact(abK t oM bI I By rD).elim
 ·rename_i bB
  right
  refine⟨λW bZ tV=> ?_,bt.1,bt.2⟩
  rcases YT W i with I|I|I
  ·exact f3 t bB W I tV
  ·exact p9 (I▸bZ)
  ·exact abK t W bI I bZ tV
def xW.put(cK:o7 C n am ao){c8:Nat->Prop}{an g6:List (Nat×z)}{H:R z}{tmps:Array Value}(j1:AU ao c8)(HS:∀i,c8 i->i<ao.size)(aI:xW J Y am ao c8 an H tmps)(d9:tmps.size=n)
 {i:Nat}{V:Oper}{v:z}(bb:ao[i]? =some V)(p9:¬c8 i)(PP:∀W,c8 W->∀aa,d1 g6 W=some aa->d1 an W=some aa)(amq:d1 g6 i=some v)(p1:∀d,V.dst=some d->d<n)(e9:b2 Y v):
 xW J Y am ao (add c8 i) g6 H (pz tmps V.dst (aJ J v)):=by
 have aE:i<ao.size:=(ZM.1 bb).1
 have P3:=GV bb
 have sN:∀t,(pz tmps V.dst (aJ J v))[t]? =if V.dst=some t then some (aJ J v)else tmps[t]? :=λt=>acX _ _ _ _ (by rw[d9];exact p1)
 intro t aa a
 rw[sN]
 by_cases EA:V.dst=some t
 ·rw[Zp EA]
  rcases a with ⟨W,bZ,tV,vo,aU⟩|⟨I,_⟩
  ·
   have τ:W=i:=by
    rcases bZ with bZ|bZ
    ·have f8:=vo i (.inr rfl) (by rw[P3];exact EA)
     rcases ze i W with cO|yM
     ·exfalso
      obtain⟨p,x,arZ,_,av,H9,_,_,rM⟩:=wz cK i aE
      obtain⟨al,ih,xv,_,bJ,vt,_,_,xa⟩:=wz cK W (HS W bZ)
      have w9:ao[W]? =some xv:=by rw[<-vt];exact xa.oper
      have an8:arZ=V:=by
       have:=rM.oper
       rw[H9,bb]at this
       exact(Yv this).symm
      subst an8
      have aj:=Ow cK cO av bJ (.inl ⟨MJ rM EA, .inr (MJ xa (by rw[<-GV w9];exact tV))⟩)
      exact p9 (GR j1 (Mk bJ) (by rw[vt];exact w9) (j1 W xv w9 bZ) i aj)
     ·omega
    ·exact bZ
   subst τ
   rw[amq]at aU
   cases aU
   exact⟨rfl,e9⟩
  ·exact absurd (by rw[P3];exact EA) (I i (.inr rfl))
 ·rw[Zg EA]
  apply aI t aa
  rcases a with ⟨W,bZ,tV,vo,aU⟩|⟨I,M⟩
  ·left
   have By:c8 W:=bZ.resolve_right λB=>EA (by rw[<-P3, <-B];exact tV)
   exact⟨W,By,tV,λoM HT rD=>vo oM (.inl HT) rD,PP W By aa aU⟩
  ·right
   exact⟨λW bB=>I W (.inl bB),M⟩
def AU.add{c8:Nat->Prop}(j1:AU ao c8){i:Nat}{V:Oper}(bb:ao[i]? =some V)(lp:∀B∈V.after.toList,Region.binds .any B=true->c8 B.on):AU ao (add c8 i):=by
 intro W xv bB bZ B bl aj
 rcases bZ with bZ|bZ
 ·exact .inl (j1 W xv bB bZ B bl aj)
 ·subst bZ
  rw[bb]at bB;cases bB
  exact .inl (lp B bl aj)
def Me(cK:o7 C n am ao){k:pa}(az:k∈lj C n am ao){p:Nat}{e:fR×e4}(av:(gc C n am ao)[p]? =some e):k.x.i≠e.1.i:=by
 intro B
 obtain⟨al,I,M,_⟩:=Ks az
 obtain⟨ak,aA⟩:=Kp (Zl av)
 obtain⟨_,_,b5,cG,_⟩:=wA cK I
 obtain⟨_,_,cq,df,_⟩:=wA cK ak
 simp only at b5 cG
 rw[<-b5,B,df]at cG
 cases cG
 rw[M]at aA;cases aA
def qv.e2{base dY:Nat}{an:List (Nat×z)}{H:R z}{tmps:Array Value}{c8:Nat->Prop}(a:qv C J Y h base n am ao an dY (dY+1) H tmps c8){e:fR×e4}(F:(gc C n am ao)[dY]? =some e)
 {V:Oper}(bb:ao[e.1.i]? =some V)(p9:¬c8 e.1.i)(lp:∀B∈V.after.toList,Region.binds .any B=true->c8 B.on){v:z}(e9:b2 Y v)(p1:∀d,V.dst=some d->d<n):
 qv C J Y h base n am ao ((e.1.i,v)::an) (dY+1) (dY+1) H (pz tmps V.dst (aJ J v)) (add c8 e.1.i):=by
 have Qc:d1 an e.1.i=none:=by
  cases bt:d1 an e.1.i with
  |none=>rfl
  |some aa=>
   exfalso
   rcases a.keys _ aa bt with ⟨k,I,M,_⟩|⟨p,br,I,M,ak⟩
   ·exact Me a.st I F M
   ·have:=Wg a.st I F M;omega
 have xf:Sub an ((e.1.i,v)::an):=Sub.cons Qc
 have aE:e.1.i<ao.size:=(ZM.1 bb).1
 refine⟨a.st,by rw[ML];exact a.size,zy (Zb.1 F).1,a.dH,a.closed.add bb lp, ?_, ?_, ?_, ?_, ?_, ?_, ?_, ?_, ?_⟩
 ·rintro i (bZ|bZ)
  ·exact a.vy i bZ
  ·omega
 ·intro p br ce
  constructor
  ·rintro(bZ|bZ)
   ·have:=(a.done p br ce).1 bZ;omega
   ·have:=Wg a.st ce F bZ;omega
  ·intro av
   rcases ze p dY with cO|yM
   ·exact .inl ((a.done p br ce).2 cO)
   ·have:p=dY:=Zo
    subst this
    rw[F]at ce;cases ce
    exact .inr rfl
 ·rintro k az (bZ|bZ)
  ·exact a.sZ k az bZ
  ·exact(Me a.st az F bZ).elim
 ·intro i aa aU
  rw[qB]at aU
  split at aU
  ·rename_i B
   exact .inr ⟨dY,e,F,B,Zo⟩
  ·rcases a.keys i aa aU with I|⟨p,br,I,M,ak⟩
   ·exact .inl I
   ·exact .inr ⟨p,br,I,M,Zo⟩
 ·intro p br ce av
  rw[qB]
  split
  ·exact⟨v,rfl⟩
  ·rename_i c5
   have:p≠dY:=λB=>by subst B;rw[F]at ce;cases ce;exact c5 rfl
   exact a.t7 p br ce Zo
 ·intro k az mw
  obtain⟨aa,I,M⟩:=a.ahead k az mw
  refine⟨aa,xf _ _ I,λbZ=> ?_⟩
  obtain⟨_,jU,b,aA,bq⟩:=M (λal=>bZ (.inl al))
  exact⟨xf _ _ I,jU,b,aA.trans xf,bq⟩
 ·refine a.Bi.put a.st a.closed a.vy a.size bb p9 ?_ (by rw[qB,Zp rfl]) p1 e9
  intro W bZ aa aU
  rw[qB,Zg]at aU
  ·exact aU
  ·intro B;subst B;exact p9 bZ
 ·intro i j2 aI
  exact .inl (a.ids i j2 aI)
 ·intro i j2 bt
  rw[qB]at bt
  split at bt
  ·cases bt
  ·exact a.free i j2 bt
def qv.hC{base dY m:Nat}{an:List (Nat×z)}{H:R z}{tmps:Array Value}{c8:Nat->Prop}(a:qv C J Y h base n am ao an dY m H tmps c8){k:pa}(az:k∈lj C n am ao)(mw:k.bL<m)
 {V:Oper}(bb:ao[k.x.i]? =some V)(p9:¬c8 k.x.i)(lp:∀B∈V.after.toList,Region.binds .any B=true->c8 B.on){v:z}(bt:d1 an k.x.i=some v)
 (dt:∀b,Y b->cX b=J b)(f1:∀b,Y b->dg b)(al0:∀b,dg b->Y b\/b=base+k.x.i)(e9:b2 dg v)(p1:∀d,V.dst=some d->d<n):
 qv C cX dg h base n am ao an dY m H (pz tmps V.dst (aJ cX v)) (add c8 k.x.i):=by
 have aE:k.x.i<ao.size:=(ZM.1 bb).1
 refine⟨a.st,by rw[ML];exact a.size,a.Ma,a.dH,a.closed.add bb lp, ?_, ?_, ?_,a.keys,a.t7, ?_, ?_, ?_,a.free⟩
 ·rintro i (bZ|bZ)
  ·exact a.vy i bZ
  ·omega
 ·intro p br ce
  constructor
  ·rintro(bZ|bZ)
   ·exact(a.done p br ce).1 bZ
   ·exact(Me a.st az ce bZ.symm).elim
  ·intro av
   exact .inl ((a.done p br ce).2 av)
 ·rintro b6 gY (bZ|bZ)
  ·exact a.sZ b6 gY bZ
  ·have:=(OI a.st)
   by_cases al:b6=k
   ·rw[al];exact mw
   ·exfalso
    obtain⟨D,aC⟩:=ZW.1 gY
    obtain⟨b,aj⟩:=ZW.1 az
    obtain⟨Hz,m2⟩:=Zb.1 aC
    obtain⟨nI,m3⟩:=Zb.1 aj
    rw[YP]at this
    rcases YT D b with cO|B|fH
    ·have:=this D b Hz nI cO
     rw[m2,m3]at this;omega
    ·subst B
     rw[m2]at m3;exact al m3
    ·have:=this b D nI Hz fH
     rw[m2,m3]at this;omega
 ·intro b6 gY anK
  obtain⟨aa,I,M⟩:=a.ahead b6 gY anK
  refine⟨aa,I,λbZ=> ?_⟩
  obtain⟨ak,jU,b,aA,bq,bV,c2⟩:=M (λal=>bZ (.inl al))
  exact⟨ak,jU,b,aA,bq,bV,c2⟩
 ·exact(a.Bi.ad dt f1).put a.st a.closed a.vy a.size bb p9 (λ_ _ _ al=>al) bt p1 e9
 ·intro i j2 aI
  rcases al0 _ aI with aI|aI
  ·exact .inl (a.ids i j2 aI)
  ·exact .inr Zo
end
def sq(J:cQ)(p:q4):PanicEntry:={v:=aJ J p.v,recovered:=p.recovered}
def gi(J:cQ):ku->FrameMode
 | .run=> .run
 | .returning=> .returning
 | .panicking fL=> .panicking (fL.map (sq J))
def pV(Y:Nat->Prop):ku->Prop
 | .panicking fL=>∀p∈fL,b2 Y p.v
 |_=>True
inductive AW(C:aM)(J:cQ)(Y:Nat->Prop)(am:Nat):dy->Item->Prop
 |code {c:Code}:li C am c=true->AW C J Y am (.code c) (.code c)
 |inBlock {id:Nat}:AW C J Y am (.inBlock id) (.inBlock id)
 |inLoop {b:Code}:li C am b=true->AW C J Y am (.inLoop b) (.inLoop b)
 |inScope {b:Code}:li C am b=true->AW C J Y am (.inScope b) (.inScope b)
 |Bm {k:Nat}:Y k->AW C J Y am (.endRangeFunc k) (.endRangeFunc (J k).cz)
 |begin:AW C J Y am .beginRound .beginRound
inductive lc(C:aM)(J:cQ)(Y:Nat->Prop)(am:Nat):List dy->List Item->Prop
 |nil:lc C J Y am [] []
 |cons {D x o bo}:AW C J Y am D x->lc C J Y am o bo->lc C J Y am (D::o) (x::bo)
def NS(C:aM)(J:cQ)(Y:Nat->Prop)(n am:Nat)(ao:Array Oper)(an:List (Nat×z))(rest:List e4)(fin:List (Nat×Nat))(H:R z)(tmps:Array Value)(k:List Nat):Prop:=
 ∃i,i<=ao.size/\k=List.range' i (ao.size-i)/\rn C n am (ao.toList.drop i) i (hP ao i)=some rest/\fin=kH am ao.toList 0/\od J Y am (λ_=>True) (hP ao i) an H tmps/\tmps.size=n
def ahD(C:aM)(J:cQ)(Y:Nat->Prop)(n am:Nat)(ao:Array Oper)(an:List (Nat×z))(a:Nat)(rest:List e4)(fin:List (Nat×Nat))(H:R z)(tmps:Array Value)(k:List Nat):Prop:=
 ∃V,ao[a]? =some V/\(∀d,V.dst=some d->d<n)/\k=List.range' (a+1) (ao.size-(a+1))/\rn C n am (ao.toList.drop (a+1)) (a+1) (hP ao (a+1))=some rest/\fin=kH am ao.toList 0/\
  od J Y am (λ_=>True) (hP ao a) an H tmps/\tmps.size=n
inductive A3(C:aM)(J:cQ)(Y:Nat->Prop)(h:R ag)(c0 j n am:Nat)(H:R z)(tmps:Array Value):List dy->List Item->Prop
 |plain {o bo}:lc C J Y am o bo->iM J Y n am H tmps->A3 C J Y h c0 j n am H tmps o bo
 |seq {ao an rest fin k o bo}:lc C J Y am o bo->NS C J Y n am ao an rest fin H tmps k->A3 C J Y h c0 j n am H tmps (.FL ao an rest fin::o) (.inRegion ao k::bo)
 |drawn {ao base an k o bo c8 dY}:lc C J Y am o bo->c0<=base->base+ao.size<=j->qv C J Y h base n am ao an dY dY H tmps c8->uM ao c8 k->
   A3 C J Y h c0 j n am H tmps (.drawn ao base an (xt (lj C n am ao) dY ((gc C n am ao).drop dY)) (kH am ao.toList 0)::o) (.inRegion ao k::bo)
inductive lV(C:aM)(J:cQ)(Y:Nat->Prop)(h:R ag)(bL aE n am:Nat)(H:R z)(tmps:Array Value):List dy->List Item->Prop
 |seq {ao an a rest fin k o bo}:lc C J Y am o bo->ahD C J Y n am ao an a rest fin H tmps k->lV C J Y h bL aE n am H tmps (.sd ao an a rest fin::o) (.inRegion ao (a::k)::bo)
 |drawn {ao base an k o bo c8 dY e V}:lc C J Y am o bo->bL<=base->base+ao.size<=aE->qv C J Y h base n am ao an dY (dY+1) H tmps c8->(gc C n am ao)[dY]? =some e->
   ao[e.1.i]? =some V->¬c8 e.1.i->(∀B∈V.after.toList,Region.binds .any B=true->c8 B.on)->uM ao (add c8 e.1.i) k->
   lV C J Y h bL aE n am H tmps (.xP ao base an e.1.i (xt (lj C n am ao) (dY+1) ((gc C n am ao).drop (dY+1))) (kH am ao.toList 0)::o) (.inRegion ao (e.1.i::k)::bo)
 |ec {k o bo}:lc C J Y am o bo->iM J Y n am H tmps->Y k->lV C J Y h bL aE n am H tmps (.inRangeFunc k::o) (.inRangeFunc (J k).cz::bo)
def ya(C:aM)(J:cQ)(Y:Nat->Prop)(h:R ag)(bL aE n am:Nat)(H:R z)(tmps:Array Value)(bG:ku)(todo:List dy)(bo:List Item):Prop:=match bG with
 | .run=>lV C J Y h bL aE n am H tmps todo bo
 |_=>iM J Y n am H tmps
def cd(J:cQ)(fn:Nat)(aW:List he)(aH:Bool)(ro:Option Nat)(tmps:Array Value)(bo:List Item)(mode:FrameMode):Frame:=
 {fn,tmps,todo:=bo,defers:=aW.map (lg J),mode,kind:=if aH then .deferred else .normal,roundOf:=ro.map λk=>(J k).cz}
structure uH(C:aM)(Y:Nat->Prop)(fn am:Nat)(aW:List he)(ro:Option Nat):Prop where
 aW:∀d∈aW,u3 Y d
 ro:∀k,ro=some k->Y k
 fn:NF C fn am
inductive n7(C:aM)(J:cQ)(Y:Nat->Prop)(h:R ag)(bz:Nat)(bH:List Frame):Nat->List gh->List Frame->Prop
 |nil {c0}:n7 C J Y h bz bH c0 [] bH
 |cons {bL c0 fn n am H todo aW bG aH ro cs tmps bo ax}:ya C J Y h bL c0 n am H tmps bG todo bo->pV Y bG->uH C Y fn am aW ro->(cs=[]->fn=bz/\aH=false/\ro=none)->bL<=c0->n7 C J Y h bz bH bL cs ax->
   n7 C J Y h bz bH c0 (⟨fn,n,am,H,todo,aW,bG,aH,ro⟩::cs) (cd J fn aW aH ro tmps bo (gi J bG)::ax)
section
variable{C:aM}{J cX:cQ}{Y dg:Nat->Prop}{h S:R ag}{j aq bd:Nat}{w bO:World}{n am:Nat}{ao:Array Oper}
def lc.ad{o:List dy}{bo:List Item}(dt:∀b,Y b->cX b=J b)(f1:∀b,Y b->dg b)(a:lc C J Y am o bo):lc C cX dg am o bo:=by
 induction a with
 |nil=>exact .nil
 |cons I _ ah=>
  refine .cons ?_ ah
  cases I with
  |code a=>exact .code a
  |inBlock=>exact .inBlock
  |inLoop a=>exact .inLoop a
  |inScope a=>exact .inScope a
  |Bm a=>rw[<-dt _ a];exact .Bm (f1 _ a)
  |begin=>exact .begin
def lV.ad{bL c0:Nat}{H:R z}{tmps:Array Value}{o:List dy}{bo:List Item}(af:hZ C c0 J Y h bd w cX dg S bO)(a:lV C J Y h bL c0 n am H tmps o bo):lV C cX dg S bL c0 n am H tmps o bo:=by
 cases a with
 |seq I M=>
  obtain⟨V,bm,ct,a3,a4,a5,kd,kz⟩:=M
  exact .seq (I.ad af.ic af.i6) ⟨V,bm,ct,a3,a4,a5,kd.ad af.ic af.i6,kz⟩
 |drawn I M ak aA bq bV c2 eg hf=>exact .drawn (I.ad af.ic af.i6) M ak (aA.ad af ak) bq bV c2 eg hf
 |ec I M ak=>rw[<-af.ic _ ak];exact .ec (I.ad af.ic af.i6) (M.ad af.ic af.i6) (af.i6 _ ak)
def ya.ad{bL c0:Nat}{H:R z}{tmps:Array Value}{bG:ku}{o:List dy}{bo:List Item}(af:hZ C c0 J Y h bd w cX dg S bO)(a:ya C J Y h bL c0 n am H tmps bG o bo):ya C cX dg S bL c0 n am H tmps bG o bo:=by
 cases bG with
 |run=>exact lV.ad af a
 |returning=>exact iM.ad af.ic af.i6 a
 |panicking fL=>exact iM.ad af.ic af.i6 a
def uH.ad{fn:Nat}{aW:List he}{ro:Option Nat}(f1:∀b,Y b->dg b)(a:uH C Y fn am aW ro):uH C dg fn am aW ro:=
 ⟨λd aI=>W3 f1 (a.aW d aI),λk az=>f1 k (a.ro k az),a.fn⟩
def Fq{fn:Nat}{aW:List he}{aH:Bool}{ro:Option Nat}{tmps:Array Value}{bo:List Item}{mode:FrameMode}(dt:∀b,Y b->cX b=J b)(a:uH C Y fn am aW ro):cd cX fn aW aH ro tmps bo mode=cd J fn aW aH ro tmps bo mode:=by
 unfold cd
 congr 1
 ·exact YB λd aI=>Oj dt (a.aW d aI)
 ·cases ro with
  |none=>rfl
  |some k=>simp only[ZR,dt k (a.ro k rfl)]
def aiW{bG:ku}(dt:∀b,Y b->cX b=J b)(a:pV Y bG):gi cX bG=gi J bG:=by
 cases bG with
 |panicking fL=>
  simp only[gi]
  congr 1
  exact YB λp av=>by simp only[sq,pR dt (a p av)]
 |_=>rfl
def alv{bG:ku}(f1:∀b,Y b->dg b)(a:pV Y bG):pV dg bG:=by
 cases bG with
 |panicking fL=>exact λp av=>ou f1 _ (a p av)
 |_=>trivial
def hZ.mono{c0 IH:Nat}(a:hZ C c0 J Y h bd w cX dg S bO)(az:IH<=c0):hZ C IH J Y h bd w cX dg S bO:=
 ⟨a.ic,a.i6,λb aj=>(a.new b aj).imp id (λal=>Zo),λb aj cO=>a.ad b aj Zo,a.below⟩
def n7.ad{bz:Nat}{bH:List Frame}{c0:Nat}{cs:List gh}{ax:List Frame}(a:n7 C J Y h bz bH c0 cs ax)(af:hZ C c0 J Y h bd w cX dg S bO):n7 C cX dg S bz bH c0 cs ax:=by
 induction a with
 |nil=>exact .nil
 |cons I aX M aA bq bV ah=>
  rw[<-Fq (J:=J) (cX:=cX) af.ic M, <-aiW af.ic aX]
  exact .cons (I.ad af) (alv af.i6 aX) (M.ad af.i6) aA bq (ah (af.mono bq))
def Kt(t:Nat):∀(k:List Nat) (H:R z),(uW k H).get t=if t∈k then none else H.get t:=by
 intro k
 induction k with
 |nil=>intro H;simp[uW]
 |cons d k ah=>
  intro H
  simp only[uW,ah,R.jF,Zq]
  by_cases a:t∈k
  ·simp[a]
  ·by_cases B:d=t
   ·subst B;simp
   ·have:¬t=d:=λal=>B al.symm
    simp[a,B,this]
def iM.drop{H:R z}{tmps:Array Value}(a:iM J Y n am H tmps)(k:List Nat):iM J Y n am (uW k H) tmps:=by
 refine⟨a.size,λt v aj bt=> ?_⟩
 rw[Kt]at bt
 split at bt
 ·cases bt
 ·exact a.val t v aj bt
def Wn{k:List Oper}{V:Oper}{d:Nat}(bb:V∈k)(aI:V.dst=some d):d∈dstsOf k:=by
 induction k with
 |nil=>cases bb
 |cons D k ah=>
  simp only[dstsOf]
  rcases Zq.1 bb with rfl|bb
  ·rw[aI];exact Zv ..
  ·split
   ·exact Zt _ (ah bb)
   ·exact ah bb
def lV.drop{bL c0:Nat}{H:R z}{tmps:Array Value}{o:List dy}{bo:List Item}(a:lV C J Y h bL c0 n am H tmps o bo):iM J Y n am (tB o H) tmps:=by
 cases a with
 |seq I M=>
  rename_i ao an a rest fin k o bo
  obtain⟨V,bm,ct,a3,a4,a5,kd,kz⟩:=M
  refine⟨kz,λt v aj bt=> ?_⟩
  simp only[tB]at bt
  rw[Kt]at bt
  split at bt
  ·cases bt
  ·rename_i aL
   have aE:a<ao.size:=(ZM.1 bm).1
   obtain⟨_,e5,_⟩:=Jz ao a (zq aE)
   apply kd t v trivial
   cases bB:d1 (hP ao a) t with
   |some W=>
    exfalso
    obtain⟨cb,b5,_⟩:=e5 t W bB
    unfold rp at b5
    cases bb:ao[W]? with
    |none=>rw[bb]at b5;cases b5
    |some o'=>
     rw[bb]at b5
     exact aL (Wn (by rw[Array.mem_toList_iff];exact Y8 bb) b5)
   |none=>exact⟨aj,bt⟩
 |drawn I M ak aA bq bV c2 eg hf=>
  rename_i ao base an k o bo c8 dY e V
  refine⟨aA.size,λt v aj bt=> ?_⟩
  simp only[tB]at bt
  rw[Kt]at bt
  split at bt
  ·cases bt
  ·rename_i aL
   apply aA.Bi t v
   right
   refine⟨λW bZ aI=> ?_,aj,bt⟩
   unfold rp at aI
   cases bb:ao[W]? with
   |none=>rw[bb]at aI;cases aI
   |some o'=>
    rw[bb]at aI
    exact aL (Wn (by rw[Array.mem_toList_iff];exact Y8 bb) aI)
 |ec I M ak=>exact M
def ya.drop{bL c0:Nat}{H:R z}{tmps:Array Value}{bG:ku}{o:List dy}{bo:List Item}(a:ya C J Y h bL c0 n am H tmps bG o bo):iM J Y n am (tB o H) tmps:=by
 cases bG with
 |run=>exact lV.drop a
 |_=>
  have cu:iM J Y n am H tmps:=a
  unfold tB
  split<;>first|exact cu.drop _|exact cu
def od.put{H:R z}{an:List (Nat×z)}{tmps:Array Value}{i:Nat}{V:Oper}{v:z}(bb:ao[i]? =some V)(bt:od J Y am (λ_=>True) (hP ao i) an H tmps)(aI:∀d,V.dst=some d->d<tmps.size)(e9:b2 Y v):
 od J Y am (λ_=>True) (hP ao (i+1)) ((i,v)::an) H (pz tmps V.dst (aJ J v)):=by
 have aE:i<ao.size:=(ZM.1 bb).1
 obtain⟨_,e5,_⟩:=Jz ao i (zq aE)
 intro t aa _ a
 rw[acX _ _ _ _ aI]
 rw[Jx bb,DN]at a
 split at a
 ·rename_i W bB
  split at bB
  ·rename_i B
   cases bB
   rw[qB,Zp rfl]at a
   cases a
   rw[Zp B]
   exact⟨rfl,e9⟩
  ·rename_i B
   rw[Zg B]
   have:=(e5 t W bB).1
   rw[qB,Zg Zo]at a
   exact bt t aa trivial (by rw[bB];exact a)
 ·rename_i bB
  split at bB
  ·cases bB
  ·rename_i B
   rw[Zg B]
   exact bt t aa trivial (by rw[bB];exact a)
def KH{g:Frame}{a:Nat}{k:List Nat}{bo:List Item}{V:Oper}(bX:g.todo= .inRegion ao (a::k)::bo)(bb:ao[a]? =some V)(v:Value):
 g.finish v={g with tmps:=pz g.tmps V.dst v,todo:= .inRegion ao k::bo}:=by
 unfold Frame.finish
 rw[bX]
 simp only[bb,ZU]
 cases V.dst<;>rfl
def akw{bL c0 j n am fn:Nat}{H:R z}{tmps:Array Value}{todo:List dy}{bo:List Item}{aW:List he}{aH:Bool}{ro:Option Nat}{mode:FrameMode}{v:z}(a:lV C J Y h bL c0 n am H tmps todo bo)(az:c0<=j)(e9:b2 Y v):
 ∃ej o hb hd hv,todo=ej::o/\oo ej v=some hb/\(cd J fn aW aH ro tmps bo mode).finish (aJ J v)=cd J fn aW aH ro hd hv mode/\A3 C J Y h bL j n am H hd (hb::o) hv:=by
 cases a with
 |seq I M=>
  rename_i ao an a rest fin k o bo
  obtain⟨V,bm,ct,a3,a4,a5,kd,kz⟩:=M
  have cO:a<ao.size:=(ZM.1 bm).1
  refine⟨_,o, .FL ao ((a,v)::an) rest fin,pz tmps V.dst (aJ J v), .inRegion ao k::bo,rfl,rfl, ?_, .seq I ⟨a+1,Zo,a3,a4,a5,kd.put bm (by rw[kz];exact ct) e9,by rw[ML];exact kz⟩⟩
  rw[KH (g:=cd J fn aW aH ro tmps _ mode) rfl bm];rfl
 |drawn I M ak aA bq bV c2 eg hf=>
  rename_i ao base an k o bo c8 dY e V
  have F:=Zl bq
  have p1:∀d,V.dst=some d->d<n:=by
   obtain⟨o',cb,b5,cG,er,eV,d3⟩:=wA aA.st (Kp F).1
   have:o'=V:=by
    have:=d3.oper
    rw[bV]at this
    exact(Yv this).symm
   subst this
   exact eV.dst
  refine⟨_,o, .drawn ao base ((e.1.i,v)::an) _ _,pz tmps V.dst (aJ J v), .inRegion ao k::bo,rfl,rfl, ?_, .drawn I M (ZA ak az) (aA.e2 bq bV c2 eg e9 p1) hf⟩
  rw[KH (g:=cd J fn aW aH ro tmps _ mode) rfl bV];rfl
 |ec I M ak=>
  rename_i k o bo
  exact⟨_,o, .endRangeFunc k,tmps, .endRangeFunc (J k).cz::bo,rfl,rfl,rfl, .plain (.cons (.Bm ak) I) M⟩
def Nh{H:R z}{an jU:List (Nat×z)}{tmps:Array Value}{X:Nat->Prop}{i:Nat}{V:Oper}{g:Option (Nat×Bool)}{b:Bool}(aE:i<=ao.size)(bX:GG (hP ao i) V.guard=some g)(bt:od J Y am X (hP ao i) an H tmps)
 (bI:∀W b t,V.guard=some (W,b)->uX W (hP ao i)=some t->X t)(aD:Sub jU an)(a:n3 g jU=some b):Region.wanted V (yielded ao tmps)=b:=by
 obtain⟨ez,_,_⟩:=Jz ao i aE
 unfold GG at bX
 unfold Region.wanted
 split at bX
 ·rename_i anf
  simp at bX;subst bX
  simp[n3]at a
  rw[anf, <-a]
 ·rename_i W k9 tZ
  rw[tZ]
  split at bX
  ·rename_i t aZ
   split at bX
   ·rename_i oM bB
    rw[hw]at bX
    split at bX
    ·rename_i B
     subst B
     simp at bX;subst bX
     simp only[n3]at a
     split at a
     ·rename_i aa aU
      have:=bt t aa (bI W k9 t tZ aZ) (by rw[bB];exact aD _ _ aU)
      have F:yielded ao tmps W=(match aJ J aa with| .bool b=>some b|_=>none):=by
       unfold yielded
       have aI:=ez W t aZ
       unfold rp at aI
       rw[aI]
       simp only[ZU,this.1]
       cases aJ J aa<;>rfl
      simp only[F]
      cases aa<;>simp[aJ]at a ⊢ <;>first|(rw[<-a])|exact a|(subst a;rfl)|skip
      all_goals simp_all
     ·simp at a
    ·simp at bX
   ·simp at bX
  ·simp at bX
end
structure NL(C:aM)(bi:World):Prop where
 val:∀f args v,C.gS f args=some v->((∀J hY,aJ J v=aJ hY v)/\∀Y,b2 Y v)/\(∀J hY,bP J args=bP hY args)/\∀Y,d2 Y args
 ok:∀f args v,C.gS f args=some v->∀J w,Below bi.heap.size bi w->
  (callFunc f (bP J args).toArray).run C.P w= .ok (.value (aJ J v)) w\/
  ((callFunc f (bP J args).toArray).run C.P w= .ok (.enter f (bP J args).toArray) w/\Calls C.P f (bP J args).toArray w λB bO=>B= .returned (aJ J v)/\Below w.heap.size w bO)
structure Env(C:aM)(bi:World)(dx:cQ)(dE:Nat->Prop):Prop where
 jM:wg C.P
 gS:NL C bi
 base:c9 C dx dE .nil C.a6 bi.heap.size bi
 hp:re C dx dE
def Ends(C:aM)(bi:World)(bz:Nat)(bH:List Frame)(v:z)(dQ:Machine):Prop:=
 ∃J bO fr,Steps C.P dQ (lone fr bH bO)/\fr.leaving C.P bO (.returned (aJ J v))/\fr.fn=bz/\Below bi.heap.size bi bO
structure A2(C:aM)(bi:World)(bz:Nat)(bH:List Frame)(bG:ku)(todo:List dy)(fn n am:Nat)(aW:List he)(aH:Bool)(ro:Option Nat)(cs:List gh)(H:R z)(h:R ag)(j:Nat)
 (J:cQ)(Y:Nat->Prop)(w:World)(c0:Nat)(tmps:Array Value)(bo:List Item)(ax:List Frame):Prop where
 U:c9 C J Y h j bi.heap.size w
 kD:Below bi.heap.size bi w
 hp:re C J Y
 jx:c0<=j
 ho:uH C Y fn am aW ro
 mode:pV Y bG
 bot:cs=[]->fn=bz/\aH=false/\ro=none
 cs:n7 C J Y h bz bH c0 cs ax
 todo:match bG with
  | .run=>A3 C J Y h c0 j n am H tmps todo bo
  |_=>iM J Y n am H tmps
def mQ(C:aM)(bi:World)(bz:Nat)(bH:List Frame)(ah:g5):Prop:=
 ∀bG todo fn n am aW aH ro cs H h j v,ah bG todo ⟨fn,n,am,aW,aH,ro,cs⟩ H h j=some v->
  ∀J Y w c0 tmps bo ax,A2 C bi bz bH bG todo fn n am aW aH ro cs H h j J Y w c0 tmps bo ax->Ends C bi bz bH v (lone (cd J fn aW aH ro tmps bo (gi J bG)) ax w)
section
variable{C:aM}{J cX:cQ}{Y dg:Nat->Prop}{h S:R ag}{j aq bd:Nat}{w bO:World}{n am:Nat}{ao:Array Oper}
variable{bi:World}{bz:Nat}{bH:List Frame}{v:z}
def Ends.head{dQ Gk:Machine}(a:step C.P dQ= .next Gk)(cu:Ends C bi bz bH v Gk):Ends C bi bz bH v dQ:=by
 obtain⟨J,bO,fr,I,M⟩:=cu
 exact⟨J,bO,fr, .head a I,M⟩
def Ends.steps{dQ Gk:Machine}(a:Steps C.P dQ Gk)(cu:Ends C bi bz bH v Gk):Ends C bi bz bH v dQ:=by
 obtain⟨J,bO,fr,I,M⟩:=cu
 exact⟨J,bO,fr,a.trans I,M⟩
def c9.later(U:c9 C J Y h j bd w)(aj:Below w.heap.size w bO):c9 C J Y h j bd bO:=
 ⟨U.a6,U.lt,U.ur,λb V a d=>(U.obj b V a d).ad (λ_ _=>rfl) (λ_ a=>a) (aj.block _ (U.obj b V a d).lt),U.sep,U.base,U.eb⟩
def Env.now{dx:cQ}{dE:Nat->Prop}(bl:Env C bi dx dE)(aj:Below bi.heap.size bi w):c9 C dx dE .nil C.a6 w.heap.size w:=by
 have U:=bl.base.later aj
 refine⟨U.a6,U.lt,U.ur,U.obj,U.sep, ?_,U.eb⟩
 intro b V aL bb _
 exfalso
 unfold Z at bb
 rw[eU,Zg (by simp[Nat.blt];omega)]at bb
 simp at bb
def Env.later{dx:cQ}{dE:Nat->Prop}(bl:Env C bi dx dE)(aj:Below bi.heap.size bi w):Env C w dx dE:=
 ⟨bl.jM,⟨bl.gS.val,λf args v a J pJ m3=>bl.gS.ok f args v a J pJ (aj.trans (m3.mono aj.size))⟩,bl.now aj,bl.hp⟩
variable{fn:Nat}{aW:List he}{aH:Bool}{ro:Option Nat}{tmps:Array Value}{bo:List Item}{ax:List Frame}
def lR(tmps:Array Value)(bo:List Item):stepG C.P true {frame:=cd J fn aW aH ro tmps bo .run,callers:=ax,status:= .running,dying:=none} w=stepG.exec C.P true true (cd J fn aW aH ro tmps bo .run) ax none w:=by
 simp[stepG,cd]
def auQ{D b:Code}:step C.P (lone (cd J fn aW aH ro tmps (.code (.seq D b)::bo) .run) ax w)= .next (lone (cd J fn aW aH ro tmps (.code D:: .code b::bo) .run) ax w):=
 step_lone_go (by rw[lR];simp[stepG.exec,cd])
def auR:step C.P (lone (cd J fn aW aH ro tmps (.code .skip::bo) .run) ax w)= .next (lone (cd J fn aW aH ro tmps bo .run) ax w):=
 step_lone_go (by rw[lR];simp[stepG.exec,cd])
def auG{k:Nat}:step C.P (lone (cd J fn aW aH ro tmps (.code (.label k)::bo) .run) ax w)= .next (lone (cd J fn aW aH ro tmps bo .run) ax w):=
 step_lone_go (by rw[lR];simp[stepG.exec,cd])
def auD{k:Nat}:step C.P (lone (cd J fn aW aH ro tmps (.inBlock k::bo) .run) ax w)= .next (lone (cd J fn aW aH ro tmps bo .run) ax w):=
 step_lone_go (by rw[lR];simp[stepG.exec,cd])
def auF{b:Code}:step C.P (lone (cd J fn aW aH ro tmps (.inScope b::bo) .run) ax w)= .next (lone (cd J fn aW aH ro tmps bo .run) ax w):=
 step_lone_go (by rw[lR];simp[stepG.exec,cd])
def aux{id:Nat}{b:Code}:step C.P (lone (cd J fn aW aH ro tmps (.code (.block id b)::bo) .run) ax w)= .next (lone (cd J fn aW aH ro tmps (.code b:: .inBlock id::bo) .run) ax w):=
 step_lone_go (by rw[lR];simp[stepG.exec,cd])
def auH{b:Code}:step C.P (lone (cd J fn aW aH ro tmps (.code (.loop b)::bo) .run) ax w)= .next (lone (cd J fn aW aH ro tmps (.code b:: .inLoop b::bo) .run) ax w):=
 step_lone_go (by rw[lR];simp[stepG.exec,cd])
def auE{b:Code}:step C.P (lone (cd J fn aW aH ro tmps (.inLoop b::bo) .run) ax w)= .next (lone (cd J fn aW aH ro tmps (.code b:: .inLoop b::bo) .run) ax w):=
 step_lone_go (by rw[lR];simp[stepG.exec,cd])
def auP{b:Code}:step C.P (lone (cd J fn aW aH ro tmps (.code (.scope b)::bo) .run) ax w)= .next (lone (cd J fn aW aH ro tmps (.code b:: .inScope b::bo) .run) ax w):=
 step_lone_go (by rw[lR];simp[stepG.exec,cd])
def auy{c:Operand}{D b:Code}{t:Bool}(a:ks tmps c= .bool t):step C.P (lone (cd J fn aW aH ro tmps (.code (.cond c D b)::bo) .run) ax w)= .next (lone (cd J fn aW aH ro tmps (.code (if t then D else b)::bo) .run) ax w):=
 step_lone_go (by
  have cu:(cd J fn aW aH ro tmps (.code (.cond c D b)::bo) .run).eval c= .bool t:=by rw[G2];exact a
  rw[lR]
  simp only[cd]at cu
  simp[stepG.exec,cd,cu])
def auC{id:Nat}{hv:List Item}(a:Go.exitTo id bo=some hv):step C.P (lone (cd J fn aW aH ro tmps (.code (.exit id)::bo) .run) ax w)= .next (lone (cd J fn aW aH ro tmps hv .run) ax w):=
 step_lone_go (by rw[lR];simp[stepG.exec,cd,a])
def auM:step C.P (lone (cd J fn aW aH none tmps (.code .ret::bo) .run) ax w)= .next (lone (cd J fn aW aH none tmps (.code .ret::bo) .returning) ax w):=
 step_lone_go (by rw[lR];simp[stepG.exec,cd])
def auA:step C.P (lone (cd J fn aW aH none tmps [] .run) ax w)= .next (lone (cd J fn aW aH none tmps [] .returning) ax w):=
 step_lone_go (by rw[lR];simp[stepG.exec,cd])
def auK{id:Nat}:step C.P (lone (cd J fn aW aH ro tmps (.code (.region id ao false)::bo) .run) ax w)= .next (lone (cd J fn aW aH ro tmps (.inRegion ao (List.range ao.size)::bo) .run) ax w):=
 step_lone_go (by rw[lR];simp[stepG.exec,cd])
def auL{id:Nat}:step C.P (lone (cd J fn aW aH ro tmps (.code (.region id ao true)::bo) .run) ax w)=
 .next (lone (cd J fn aW aH ro tmps (.inRegion ao (Region.schedule (C.P.follows .mixedOrders) ao (w.tape w.drawn (.order fn id)))::bo) .run) ax w.drew):=
 step_lone_go (by rw[lR];simp[stepG.exec,cd,Question.forced,Question.cut])
def adu:step C.P (lone (cd J fn aW aH ro tmps (.inRegion ao []::bo) .run) ax w)= .next (lone (cd J fn aW aH ro tmps bo .run) ax w):=
 step_lone_go (by rw[lR];simp[stepG.exec,cd])
def SM{i:Nat}{k:List Nat}{V:Oper}(bb:ao[i]? =some V)(bQ:Region.wanted V (yielded ao tmps)=false):
 step C.P (lone (cd J fn aW aH ro tmps (.inRegion ao (i::k)::bo) .run) ax w)= .next (lone ((cd J fn aW aH ro tmps (.inRegion ao (i::k)::bo) .run).finish Go.undef) ax w):=
 step_lone_go (by rw[lR];simp[stepG.exec,cd,bb,bQ])
def R0{aw:Operand->Value}{V:Oper}{s4:Next}(U:(execOp aw V).run C.P w= .ok s4 bO)(a:∀d,s4≠ .defer d):∀c,V.op≠ .defer c:=by
 intro c ay
 have af:execOp aw V=(do pure (.defer (<-resolve aw c V.type))):=by unfold execOp;rw[ay]
 rw[af]at U
 simp only[Sem.run_bind]at U
 cases bJ:(resolve aw c V.type).run C.P w with
 |ok d pJ=>
  rw[bJ]at U
  simp only[Result.andThen_ok,Sem.run_pure,Result.ok.injEq]at U
  exact a d U.1.symm
 |halt B pJ=>
  rw[bJ]at U
  simp at U
def FP{i:Nat}{k:List Nat}{V:Oper}(bb:ao[i]? =some V)(bQ:Region.wanted V (yielded ao tmps)=true)(ls:ro=none\/∀c,V.op≠ .defer c):
 stepG C.P true {frame:=cd J fn aW aH ro tmps (.inRegion ao (i::k)::bo) .run,callers:=ax,status:= .running,dying:=none} w=
  stepG.apply C.P true (cd J fn aW aH ro tmps (.inRegion ao (i::k)::bo) .run) ax none (execOp (ks tmps) V) w:=by
 rw[lR]
 rcases ls with rfl|ls
 ·simp[stepG.exec,stepG.oper,cd,Frame.oper?,bb,bQ,G2]
 ·cases ro with
  |none=>simp[stepG.exec,stepG.oper,cd,Frame.oper?,bb,bQ,G2]
  |some r=>
   have:∀(c:Call),V.op≠ .defer c:=ls
   simp[stepG.exec,stepG.oper,cd,Frame.oper?,bb,bQ,G2]
   split
   ·rename_i M;exact absurd M (this _)
   ·rfl
def C1{i:Nat}{k:List Nat}{V:Oper}{aa:Value}{s4:Next}(bb:ao[i]? =some V)(bQ:Region.wanted V (yielded ao tmps)=true)
 (U:(execOp (ks tmps) V).run C.P w= .ok s4 bO)(aL:s4= .value aa\/(s4= .skip/\aa=Go.undef)):
 step C.P (lone (cd J fn aW aH ro tmps (.inRegion ao (i::k)::bo) .run) ax w)= .next (lone ((cd J fn aW aH ro tmps (.inRegion ao (i::k)::bo) .run).finish aa) ax bO):=
 step_lone_go (by
  rw[FP bb bQ (.inr (R0 U (by rcases aL with rfl|⟨rfl,rfl⟩<;>simp)))]
  rcases aL with rfl|⟨rfl,rfl⟩
  ·simp[stepG.apply,U]
  ·simp[stepG.apply,U])
def ads{i:Nat}{k:List Nat}{V:Oper}{f:Nat}{args:Array Value}(bb:ao[i]? =some V)(bQ:Region.wanted V (yielded ao tmps)=true)
 (U:(execOp (ks tmps) V).run C.P w= .ok (.enter f args) bO):
 step C.P (lone (cd J fn aW aH ro tmps (.inRegion ao (i::k)::bo) .run) ax w)= .next (lone (Frame.enter C.P f args .normal) (cd J fn aW aH ro tmps (.inRegion ao (i::k)::bo) .run::ax) bO):=
 step_lone_go (by rw[FP bb bQ (.inr (R0 U Zs))];simp[stepG.apply,U,cd])
def auN{i:Nat}{k:List Nat}{V:Oper}{b f:Nat}{aN:Array Value}{assign body:Code}(bb:ao[i]? =some V)(bQ:Region.wanted V (yielded ao tmps)=true)
 (U:(execOp (ks tmps) V).run C.P w= .ok (.round b f aN assign body) bO):
 step C.P (lone (cd J fn aW aH ro tmps (.inRegion ao (i::k)::bo) .run) ax w)= .next (lone (Frame.round b f aN assign body .normal) (cd J fn aW aH ro tmps (.inRegion ao (i::k)::bo) .run::ax) bO):=
 step_lone_go (by rw[FP bb bQ (.inr (R0 U Zs))];simp[stepG.apply,U,cd])
def auz{i:Nat}{k:List Nat}{V:Oper}{d:he}(bb:ao[i]? =some V)(bQ:Region.wanted V (yielded ao tmps)=true)
 (U:(execOp (ks tmps) V).run C.P w= .ok (.defer (lg J d)) bO):
 step C.P (lone (cd J fn aW aH none tmps (.inRegion ao (i::k)::bo) .run) ax w)= .next (lone ((cd J fn (d::aW) aH none tmps (.inRegion ao (i::k)::bo) .run).finish Go.undef) ax bO):=
 step_lone_go (by rw[FP bb bQ (.inl rfl)];simp[stepG.apply,U,cd])
def auI{i:Nat}{k:List Nat}{V:Oper}{aa:z}(bb:ao[i]? =some V)(bQ:Region.wanted V (yielded ao tmps)=true)
 (U:(execOp (ks tmps) V).run C.P w= .halt (.panic (aJ J aa)) bO):
 step C.P (lone (cd J fn aW aH none tmps (.inRegion ao (i::k)::bo) .run) ax w)= .next (lone (cd J fn aW aH none tmps (.inRegion ao (i::k)::bo) (gi J (.panicking [⟨aa,false⟩]))) ax bO):=
 step_lone_go (by rw[FP bb bQ (.inl rfl)];simp[stepG.apply,U,cd,Frame.raise,gi,sq])
def auJ{i:Nat}{k:List Nat}{V:Oper}{aa:Value}{iD:List Frame}(bb:ao[i]? =some V)(bQ:Region.wanted V (yielded ao tmps)=true)
 (U:(execOp (ks tmps) V).run C.P w= .ok .recover bO)
 (aZ:Go.tryRecover (cd J fn aW aH none tmps (.inRegion ao (i::k)::bo) .run) ax=some (aa,iD)\/(Go.tryRecover (cd J fn aW aH none tmps (.inRegion ao (i::k)::bo) .run) ax=none/\aa= .nilIface/\iD=ax)):
 step C.P (lone (cd J fn aW aH none tmps (.inRegion ao (i::k)::bo) .run) ax w)= .next (lone ((cd J fn aW aH none tmps (.inRegion ao (i::k)::bo) .run).finish aa) iD bO):=
 step_lone_go (by
  rw[FP bb bQ (.inl rfl)]
  have B:(cd J fn aW aH none tmps (.inRegion ao (i::k)::bo) .run).roundOf=none:=rfl
  rcases aZ with aZ|⟨aZ,rfl,rfl⟩
  ·simp[stepG.apply,U,B,aZ]
  ·simp[stepG.apply,U,B,aZ])
def auw{b:Nat}(U:(Instr.beginRound (J b).cz).run C.P w= .ok () bO):
 step C.P (lone (cd J fn aW aH (some b) tmps (.beginRound::bo) .run) ax w)= .next (lone (cd J fn aW aH (some b) tmps bo .run) ax bO):=
 step_lone_go (by rw[lR];simp[stepG.exec,stepG.apply,cd,U,Frame.finish])
def auB{b:Nat}{h9:Option Code}(U:(Instr.endLoop b).run C.P w= .ok h9 bO):
 step C.P (lone (cd J fn aW aH ro tmps (.endRangeFunc b::bo) .run) ax w)= .next (lone (cd J fn aW aH ro tmps ((h9.map Item.code).toList++bo) .run) ax bO):=
 step_lone_go (by rw[lR];simp[stepG.exec,cd,U])
def adt{f:Operand}{params:Array Tmp}{assign body:Code}{b:Nat}{mark:List Deferred}{g:Nat}{args:Array Value}{mM:World}{d:Deferred}
 (bl:(Instr.enterLoop fn tmps params assign body (ro.map λk=>(J k).cz)).run C.P w= .ok (b,mark) mM)
 (oE:(resolve (ks tmps) {callee:= .value f,args:= #[.const (.func (.yield b) #[] #[])],argTypes:= #[]} 0).run C.P mM= .ok d mM)(Qg:(invoke d.target d.args).run C.P mM= .ok (.enter g args) bO):
 step C.P (lone (cd J fn aW aH ro tmps (.code (.rangeFunc f params assign body)::bo) .run) ax w)=
  .next (lone (Frame.enter C.P g args .normal) ({cd J fn aW aH ro tmps (.inRangeFunc b::bo) .run with defers:=mark++aW.map (lg J)}::ax) bO):=
 step_lone_go (by
  rw[lR]
  have cg:({cd J fn aW aH ro tmps (.inRangeFunc b::bo) .run with defers:=mark++aW.map (lg J)}:Frame).eval=ks tmps:=by rw[G2];rfl
  simp only[cd]at cg
  simp[stepG.exec,cd,Sem.runT_eq,bl,GStep.bare_after,stepG.apply,cg,Sem.run_bind,oE,Qg,Result.andThen])
def auO{h9:Option Code}{b:Nat}{aa:Value}{g:Frame}(aG:(h9=none/\bo=[])\/(h9=some .ret/\∃o,bo= .code .ret::o)\/(∃id o,h9=some (.exit id)/\bo= .code (.exit id)::o/\Go.exitTo id o=none))
 (bl:(Instr.endRound (J b).cz h9).run C.P w= .ok aa bO):
 step C.P (lone (cd J fn aW false (some b) tmps bo .run) (g::ax) w)= .next (lone (g.finish aa) ax bO):=
 step_lone_go (by
  rw[lR]
  rcases aG with ⟨rfl,rfl⟩|⟨rfl,o,rfl⟩|⟨id,o,rfl,rfl,af⟩
  ·simp[stepG.exec,cd,Sem.runT_eq,bl,GStep.bare_after,doReturn]
  ·simp[stepG.exec,cd,Sem.runT_eq,bl,GStep.bare_after,doReturn]
  ·simp[stepG.exec,cd,Sem.runT_eq,bl,GStep.bare_after,doReturn,af])
def auS{r:Nat}{cf:List z}{ds:List he}{pd:List Deferred}{mode:FrameMode}{dg:List he}(aX:mode≠ .run)(bl:(Instr.takeDeferred (J r).cz).run C.P w= .ok pd bO)(aI:pd++ds.map (lg J)=dg.map (lg J)):
 step C.P (lone (cd J fn (⟨.collected r,cf⟩::ds) aH ro tmps bo mode) ax w)= .next (lone (cd J fn dg aH ro tmps bo mode) ax bO):=
 step_lone_go (by
  cases mode with
  |run=>exact absurd rfl aX
  |returning=>simp[stepG,unwind,cd,lg,Bc,Sem.runT_eq,bl,GStep.bare_after,aI]
  |panicking fL=>simp[stepG,unwind,cd,lg,Bc,Sem.runT_eq,bl,GStep.bare_after,aI])
end
section
variable{C:aM}{J cX dx:cQ}{Y dg dE:Nat->Prop}{h S:R ag}{j aq bd:Nat}{w bO:World}{n am:Nat}{ao:Array Oper}
variable{bi:World}{bz:Nat}{bH:List Frame}{v:z}{ah:g5}
variable{fn:Nat}{aW:List he}{aH:Bool}{ro:Option Nat}{cs:List gh}{H:R z}{tmps:Array Value}{bo:List Item}{ax:List Frame}{bL aE:Nat}
structure iv(C:aM)(bi:World)(bz:Nat)(bH:List Frame)(fn am:Nat)(aW:List he)(aH:Bool)(ro:Option Nat)(cs:List gh)(h:R ag)(j:Nat)(J:cQ)(Y:Nat->Prop)(w:World)(c0:Nat)(ax:List Frame):Prop where
 U:c9 C J Y h j bi.heap.size w
 kD:Below bi.heap.size bi w
 hp:re C J Y
 jx:c0<=j
 ho:uH C Y fn am aW ro
 bot:cs=[]->fn=bz/\aH=false/\ro=none
 cs:n7 C J Y h bz bH c0 cs ax
def iv.eB{c0:Nat}(a:iv C bi bz bH fn am aW aH ro cs h j J Y w c0 ax):bi.heap.size<=w.heap.size:=a.kD.size
def iv.ext{c0:Nat}(a:iv C bi bz bH fn am aW aH ro cs h j J Y w c0 ax)(U:c9 C cX dg S aq bi.heap.size bO)(af:hZ C c0 J Y h bi.heap.size w cX dg S bO)(aL:j<=aq):
 iv C bi bz bH fn am aW aH ro cs S aq cX dg bO c0 ax:=
 ⟨U,a.kD.trans af.below,a.hp.ad af.ic af.i6,ZA a.jx aL,a.ho.ad af.i6,a.bot,a.cs.ad af⟩
def iv.state{c0:Nat}{todo:List dy}(a:iv C bi bz bH fn am aW aH ro cs h j J Y w c0 ax)(aZ:A3 C J Y h c0 j n am H tmps todo bo):
 A2 C bi bz bH .run todo fn n am aW aH ro cs H h j J Y w c0 tmps bo ax:=⟨a.U,a.kD,a.hp,a.jx,a.ho,trivial,a.bot,a.cs,aZ⟩
def A2.ail{todo:List dy}{c0:Nat}(a:A2 C bi bz bH .run todo fn n am aW aH ro cs H h j J Y w c0 tmps bo ax):iv C bi bz bH fn am aW aH ro cs h j J Y w c0 ax/\A3 C J Y h c0 j n am H tmps todo bo:=
 ⟨⟨a.U,a.kD,a.hp,a.jx,a.ho,a.bot,a.cs⟩,a.todo⟩
def n7.inv{c0 aQ:Nat}{todo:List dy}{bG:ku}(a:n7 C J Y h bz bH c0 (⟨fn,aQ,am,H,todo,aW,bG,aH,ro⟩::cs) ax):
 ∃bL tmps bo iD,ax=cd J fn aW aH ro tmps bo (gi J bG)::iD/\ya C J Y h bL c0 aQ am H tmps bG todo bo/\pV Y bG/\uH C Y fn am aW ro/\(cs=[]->fn=bz/\aH=false/\ro=none)/\bL<=c0/\n7 C J Y h bz bH bL cs iD:=by
 cases a with
 |cons I aX M aA bq bV=>exact⟨_,_,_,_,rfl,I,aX,M,aA,bq,bV⟩
def Ws(fW:mQ C bi bz bH ah){f:Nat}{args:List z}{c0:Nat}{Bg:Bool}{su:List gh}{u5:List Frame}(U:c9 C J Y h j bi.heap.size w)(aj:Below bi.heap.size bi w)(hp:re C J Y)(az:c0<=j)
 (hA:n7 C J Y h bz bH c0 su u5)(K6:su=[]->f=bz/\Bg=false)(ja:d2 Y args)(a:nD ah C f args Bg su h j=some v):Ends C bi bz bH v (lone (Frame.enter C.P f (bP J args).toArray (if Bg then .deferred else .normal)) u5 w):=by
 unfold nD at a
 split at a
 ·rename_i func ch
  split at a
  ·rename_i c ay
   simp only[lG,ey,Zn]at a
   obtain⟨⟨⟨I,M⟩,ak⟩,a⟩:=a
   have I:=iN I
   have tY:Frame.enter C.P f (bP J args).toArray (if Bg then .deferred else .normal)=cd J f [] Bg none ((bP J args).toArray++Array.replicate (func.ntmps-args.length) Go.undef) [.code c] (gi J .run):=by
    simp[Frame.enter,cd,gi,ch,ay,jo]
   rw[tY]
   refine fW _ _ _ _ _ _ _ _ _ _ _ _ v a J Y w c0 _ _ u5 ?_
   refine⟨U,aj,hp,az,⟨Zs,Zs,func,ch,ak⟩,trivial,λB=>⟨(K6 B).1,(K6 B).2,rfl⟩,hA, .plain (.cons (.code M) .nil) ⟨?_, ?_⟩⟩
   ·simp[jo];omega
   ·intro t aa _ aU
    rw[lO]at aU
    have cO:t<args.length:=(Zb.1 aU).1
    refine⟨?_,yA ja aU⟩
    rw[Yz (by simpa[jo]using cO)]
    simp[yl,aU]
  ·simp at a
 ·simp at a
def KB(fW:mQ C bi bz bH ah){f:Nat}{args:List z}{c0:Nat}{su:List gh}{u5:List Frame}(U:c9 C J Y h j bi.heap.size w)(aj:Below bi.heap.size bi w)(hp:re C J Y)(az:c0<=j)
 (hA:n7 C J Y h bz bH c0 su u5)(K6:su=[]->f=bz)(ja:d2 Y args)(a:nD ah C f args false su h j=some v):Ends C bi bz bH v (lone (Frame.enter C.P f (bP J args).toArray .normal) u5 w):=
 Ws (Bg:=false) fW U aj hp az hA (λB=>⟨K6 B,rfl⟩) ja a
def Ef(fW:mQ C bi bz bH ah){ej:dy}{o:List dy}{aa:z}(aC:iv C bi bz bH fn am aW aH ro cs h j J Y w bL ax)(aD:lV C J Y h bL aE n am H tmps (ej::o) bo)(rG:aE<=j)(yC:b2 Y aa)
 (a:(match oo ej aa with|some hb=>ah .run (hb::o) ⟨fn,n,am,aW,aH,ro,cs⟩ H h j|none=>none)=some v):
 Ends C bi bz bH v (lone ((cd J fn aW aH ro tmps bo .run).finish (aJ J aa)) ax w):=by
 obtain⟨axC,rV,hb,hd,hv,bA,cg,eN,iP⟩:=akw (fn:=fn) (aW:=aW) (aH:=aH) (ro:=ro) (mode:= .run) aD rG yC
 cases bA
 rw[cg]at a
 rw[eN]
 exact fW _ _ _ _ _ _ _ _ _ _ _ _ v a J Y w bL hd hv ax (aC.state iP)
def aqc{f:Nat}{args:List z}{aa:z}(cA:Env C bi dx dE)(aj:Below bi.heap.size bi w)(bb:C.gS f args=some aa):
 (
  (∀hY,(callFunc f (bP hY args).toArray).run C.P w= .ok (.value (aJ hY aa)) w)\/
  ((∀hY,(callFunc f (bP hY args).toArray).run C.P w= .ok (.enter f (bP hY args).toArray) w)/\∀hY,Calls C.P f (bP hY args).toArray w λB bO=>B= .returned (aJ hY aa)/\Below w.heap.size w bO))/\∀c8,b2 c8 aa:=by
 obtain⟨⟨cb,b5⟩,cG,er⟩:=cA.gS.val f args aa bb
 refine⟨?_,b5⟩
 rcases cA.gS.ok f args aa bb dx w aj with a|⟨I,M⟩
 ·left;intro hY;rw[cG hY dx,cb hY dx];exact a
 ·right;exact⟨λhY=>by rw[cG hY dx];exact I,λhY=>by rw[cG hY dx,cb hY dx];exact M⟩
mutual
def MY:∀(d:Nat) (x e:z),z.same d x e=true->x=e
 |0,_,_,a=>by simp[z.same]at a
 |d+1,x,e,a=>by
  unfold z.same at a
  split at a<;>(try(cases a;done))
  ·simp at a;rw[a]
  ·simp at a;rw[a.1,a.2]
  ·rw[(IV _ _).1 a]
  ·simp only[Zn]at a;rw[Zj a.1,Zj a.2]
  ·rfl
  ·simp only[Zn]at a;rw[Zj a.1.1.1,Zj a.1.1.2,Zj a.1.2,Zj a.2]
  ·simp only[Zn]at a;rw[Zj a.1.1.1,Zj a.1.1.2,Zj a.1.2,Zj a.2]
  ·rfl
  ·rw[Zj a]
  ·rfl
  ·simp only[Zn,Zh]at a
   rw[a.1.1,Jj d _ _ a.1.2,Jj d _ _ a.2]
  ·rfl
  ·simp only[Zn]at a;rw[Zj a.1,MY d _ _ a.2]
  ·rfl
  ·rw[Jj d _ _ a]
  ·rw[Jj d _ _ a]
def Jj:∀(d:Nat) (x e:List z),pv (z.same d) x e=true->x=e
 |_,[],[],_=>rfl
 |_,[],_::_,a=>by simp[pv]at a
 |_,_::_,[],a=>by simp[pv]at a
 |d,D::x,b::e,a=>by
  simp only[pv,Zn]at a
  rw[MY d _ _ a.1,Jj d _ _ a.2]
end
def Ends.same{dQ:Machine}{gp:z}(bl:∀J,aJ J gp=aJ J v)(a:Ends C bi bz bH gp dQ):Ends C bi bz bH v dQ:=by
 obtain⟨J,bO,fr,I,M,ak⟩:=a
 exact⟨J,bO,fr,I,by rw[<-bl];exact M,ak⟩
def akP{ej:dy}{o:List dy}{bR:hR}:∀(k:List (z×R ag)) (v:z),wJ ah ej o bR H j k=some v->∀aa S,(aa,S)∈k->
 ∃gp,(match oo ej aa with|some hb=>ah .run (hb::o) bR H S j|none=>none)=some gp/\∀J,aJ J gp=aJ J v:=by
 intro k
 induction k with
 |nil=>intro v a;simp[wJ]at a
 |cons p k lI=>
  intro v a aa S aX
  obtain⟨D,h2⟩:=p
  cases k with
  |nil=>
   simp only[wJ]at a
   simp at aX
   obtain⟨rfl,rfl⟩:=aX
   exact⟨v,a,λ_=>rfl⟩
  |cons al k=>
   simp only[wJ]at a
   split at a
   ·rename_i hb ano
    split at a
    ·rename_i x e af F
     simp only[ey,Ze]at a
     obtain⟨av,rfl⟩:=a
     rcases Zq.1 aX with B|aX
     ·cases B
      exact⟨x,by rw[ano];exact af,λ_=>rfl⟩
     ·obtain⟨gp,cb,b5⟩:=lI e F aa S aX
      exact⟨gp,cb,λJ=>by rw[b5 J,MY _ _ _ av]⟩
    ·simp at a
   ·simp at a
def avf{aa:z}{cU:List gh}{c0:Nat}{bo:List Item}(hA:n7 C J Y h bz bH c0 cs ax)(a:AL aH cs=some (aa,cU)):
 ∃iD,n7 C J Y h bz bH c0 cU iD/\b2 Y aa/\(cU=[]->cs=[])/\
  (Go.tryRecover (cd J fn aW aH none tmps bo .run) ax=some (aJ J aa,iD)\/(Go.tryRecover (cd J fn aW aH none tmps bo .run) ax=none/\aJ J aa= .nilIface/\iD=ax)):=by
 unfold AL at a
 rw[eU]at a
 cases aH with
 |false=>
  simp at a
  obtain⟨rfl,rfl⟩:=a
  exact⟨ax,hA,trivial,id, .inr ⟨by simp[Go.tryRecover,cd],rfl,rfl⟩⟩
 |true=>
  simp only[ZE]at a
  cases cs with
  |nil=>simp at a
  |cons c rest=>
   obtain⟨gs,aQ,kk,cN,uB,fS,l6,iO,kQ⟩:=c
   obtain⟨qR,hd,hv,iD,rfl,bM,cq,df,fb,eJ,et⟩:=hA.inv
   have same:(aa,cU)=(z.nilIface,(⟨gs,aQ,kk,cN,uB,fS,l6,iO,kQ⟩:gh)::rest)->(∀v Au,gi J l6≠ .panicking (⟨v,false,false⟩::Au))->
    ∃Pq,n7 C J Y h bz bH c0 cU Pq/\b2 Y aa/\(cU=[]->(⟨gs,aQ,kk,cN,uB,fS,l6,iO,kQ⟩:gh)::rest=[])/\
     (Go.tryRecover (cd J fn aW true none tmps bo .run) (cd J gs fS iO kQ hd hv (gi J l6)::iD)=some (aJ J aa,Pq)\/
      (Go.tryRecover (cd J fn aW true none tmps bo .run) (cd J gs fS iO kQ hd hv (gi J l6)::iD)=none/\aJ J aa= .nilIface/\Pq=cd J gs fS iO kQ hd hv (gi J l6)::iD)):=by
    intro B c5
    simp only[YK]at B
    obtain⟨rfl,rfl⟩:=B
    refine⟨_,hA,trivial,λB=>(by cases B), .inr ⟨?_,rfl,rfl⟩⟩
    simp only[Go.tryRecover,cd,ZE]
   simp only at a
   split at a
   ·rename_i v Au
    simp only[Ze,YK]at a
    obtain⟨rfl,rfl⟩:=a
    have bX:pV Y (.panicking (⟨v,true⟩::Au)):=by
     intro p av
     rcases Zq.1 av with rfl|av
     ·exact cq ⟨v,false⟩ (Zv ..)
     ·exact cq p (Zt _ av)
    refine⟨cd J gs fS iO kQ hd hv (gi J (.panicking (⟨v,true⟩::Au)))::iD, .cons (bG:= .panicking (⟨v,true⟩::Au)) bM bX df fb eJ et,cq ⟨v,false⟩ (Zv ..),λB=>(by cases B), .inl ?_⟩
    simp[Go.tryRecover,cd,gi,sq]
   ·rename_i m7
    simp only[Ze]at a
    refine same a.symm λv Au B=> ?_
    cases l6 with
    |run=>cases B
    |returning=>cases B
    |panicking fL=>
     cases fL with
     |nil=>cases B
     |cons p db=>
      obtain⟨asV,asM⟩:=p
      cases asM with
      |true=>simp[gi,sq]at B
      |false=>exact m7 asV db rfl
def at7{aQ:Nat}:∀(db:List Nat) (cf:List z) (H cN:R z) (tmps:Array Value),iM J Y aQ am H tmps->d2 Y cf->vT aQ db cf H=some cN->
 db.length=cf.length/\iM J Y aQ am cN ((db.zip (bP J cf)).foldl (λtmps p=>tmps.setIfInBounds p.1 p.2) tmps):=by
 intro db
 induction db with
 |nil=>
  intro cf H cN tmps aZ _ a
  cases cf with
  |nil=>simp[vT]at a;subst a;exact⟨rfl,by simpa[bP]using aZ⟩
  |cons D cf=>simp[vT]at a
 |cons p db apD=>
  intro cf H cN tmps aZ bX a
  cases cf with
  |nil=>simp[vT]at a
  |cons D cf=>
   simp only[vT,ey]at a
   obtain⟨av,a⟩:=a
   have av:=kX av
   have Q2:iM J Y aQ am (H.set p (some D)) (tmps.setIfInBounds p (aJ J D)):=by
    refine⟨by simp[aZ.size],λt aa az aU=> ?_⟩
    rw[R.jF]at aU
    by_cases B:p=t
    ·subst B
     simp at aU;subst aU
     exact⟨by simp[aZ.size,av],bX.1⟩
    ·simp[B]at aU
     obtain⟨I,M⟩:=aZ.val t aa az aU
     exact⟨by rw[Array.getElem?_setIfInBounds_ne B];exact I,M⟩
   obtain⟨I,M⟩:=apD cf _ cN _ Q2 bX.2 a
   exact⟨by simp[I],by simpa[bP]using M⟩
def Vq(cA:Env C bi dx dE)(fW:mQ C bi bz bH ah){ej:dy}{o:List dy}{i:Nat}{k:List Nat}{V:Oper}{r:dI}(aC:iv C bi bz bH fn am aW aH ro cs h j J Y w bL ax)
 (aD:lV C J Y h bL aE n am H tmps (ej::o) (.inRegion ao (i::k)::bo))(Lu:bL<=aE)(rG:aE<=j)(bb:ao[i]? =some V)(bQ:Region.wanted V (yielded ao tmps)=true)
 (lH:h0 C J Y h j bi.heap.size w (execOp (ks tmps) V) r)(a:ny r ah C ej o ⟨fn,n,am,aW,aH,ro,cs⟩ H h j=some v):
 Ends C bi bz bH v (lone (cd J fn aW aH ro tmps (.inRegion ao (i::k)::bo) .run) ax w):=by
 have mw:bL<=j:=ZA Lu rG
 have done:∀v aa S aq,xX C J Y h j bi.heap.size w (execOp (ks tmps) V) aa S aq->(match oo ej aa with|some hb=>ah .run (hb::o) ⟨fn,n,am,aW,aH,ro,cs⟩ H S aq|none=>none)=some v->
  Ends C bi bz bH v (lone (cd J fn aW aH ro tmps (.inRegion ao (i::k)::bo) .run) ax w):=by
  intro v aa S aq aI a
  obtain⟨cX,dg,bO,s4,cL,cJ,eI,h3,fM,iz⟩:=aI
  have E1:s4= .value (aJ cX aa)\/(s4= .skip/\aJ cX aa=Go.undef):=cJ.imp id λ⟨D,b⟩=>⟨D,by rw[b];rfl⟩
  refine .head (C1 bb bQ cL E1) ?_
  rw[<-Fq fM.ic aC.ho]
  exact Ef fW (aC.ext h3 (fM.mono mw) iz) (aD.ad (fM.mono rG)) (ZA rG iz) eI a
 cases r with
 |val aa=>exact done v aa h j lH a
 |fl aa S aq=>exact done v aa S aq lH a
 |enter f args=>
  obtain⟨I,M⟩:=lH
  refine .head (ads bb bQ I) ?_
  simp only[ny]at a
  refine KB fW aC.U aC.kD aC.hp rG ?_ (λB=>by simp[C3]at B) M a
  exact .cons (bG:= .run) aD trivial aC.ho aC.bot Lu aC.cs
 |known f args aa=>
  obtain⟨I,M,ak⟩:=lH
  obtain⟨aG,yC⟩:=aqc cA aC.kD I
  simp only[ny]at a
  rcases aG with aG|⟨jI,hh⟩
  ·rw[aG J]at M
   refine .head (C1 bb bQ M (.inl rfl)) ?_
   exact Ef fW aC aD rG (yC Y) a
  ·rw[jI J]at M
   refine .head (ads bb bQ M) ?_
   obtain⟨B,bO,fr,⟨rfl,HD⟩,ao1,_,Ls⟩:=hh J (cd J fn aW aH ro tmps (.inRegion ao (i::k)::bo) .run::ax)
   refine .steps ao1 (.head (step_leave_returned Ls) ?_)
   have af:hZ C aE J Y h bi.heap.size w J Y h bO:=⟨λ_ _=>rfl,λ_ a=>a,λ_ a=> .inl a,λ_ _ _=>rfl,HD.mono aC.eB⟩
   exact Ef fW (aC.ext (aC.U.later HD) (af.mono Lu) (Zi _)) (aD.ad af) rG (yC Y) a
 |round b args=>
  obtain⟨I,M,ak⟩:=lH
  simp only[ny]at a
  split at a
  ·rename_i st qm gs aQ kk cN params assign body fS hi
   split at a
   ·rename_i ahG m1
    obtain⟨hd,gH,l9,s5,Fx,Ap,r2,Aq⟩:=aC.U.obj b _ hi ak
    obtain⟨cH,cB⟩:=at7 params args cN ahG hd l9 M m1
    rw[run_yield gH (by simp[jo,cH])]at I
    refine .head (auN bb bQ I) ?_
    have tY:Frame.round (J b).cz gs (((params.toArray).zip (bP J args).toArray).foldl (λtmps (t,D)=>tmps.setIfInBounds t D) hd) assign body .normal=
     cd J gs [] false (some b) ((params.zip (bP J args)).foldl (λtmps p=>tmps.setIfInBounds p.1 p.2) hd) [.code assign, .beginRound, .code body] (gi J .run):=by
     simp[Frame.round,cd,gi]
    simp only at tY ⊢
    rw[tY]
    refine fW _ _ _ _ _ _ _ _ _ _ _ _ v a J Y w aE _ _ _ ?_
    refine⟨aC.U,aC.kD,aC.hp,rG,⟨Zs,λk az=>(by cases az;exact ak),Aq⟩,trivial,λB=>by simp[C3]at B, .cons (bG:= .run) aD trivial aC.ho aC.bot Lu aC.cs, ?_⟩
    exact .plain (.cons (.code Fx) (.cons .begin (.cons (.code Ap) .nil))) cB
   ·simp at a
  ·simp at a
 |defer d=>
  obtain⟨I,M⟩:=lH
  simp only[ny]at a
  cases ro with
  |some b=>simp at a
  |none=>
   simp only at a
   refine .head (auz bb bQ I) ?_
   have am8:uH C Y fn am (d::aW) none:=⟨λkZ aI=>by
    rcases Zq.1 aI with rfl|aI
    ·exact M
    ·exact aC.ho.aW kZ aI,aC.ho.ro,aC.ho.fn⟩
   exact Ef (aa:=undef) fW ⟨aC.U,aC.kD,aC.hp,aC.jx,am8,aC.bot,aC.cs⟩ aD rG trivial a
 |recover=>
  simp only[ny]at a
  cases ro with
  |some b=>simp at a
  |none=>
   simp only at a
   split at a
   ·rename_i aa cU aoB
    obtain⟨iD,cb,b5,cG,er⟩:=avf (fn:=fn) (aW:=aW) (tmps:=tmps) (bo:= .inRegion ao (i::k)::bo) aC.cs aoB
    refine .head (auJ bb bQ lH er) ?_
    exact Ef (aa:=aa) fW ⟨aC.U,aC.kD,aC.hp,aC.jx,aC.ho,λB=>aC.bot (cG B),cb⟩ aD rG b5 a
   ·simp at a
 |panic aa=>
  obtain⟨I,M⟩:=lH
  simp only[ny]at a
  cases ro with
  |some b=>simp at a
  |none=>
   simp only at a
   refine .head (auI bb bQ I) ?_
   refine fW _ _ _ _ _ _ _ _ _ _ _ _ v a J Y w bL tmps _ ax ?_
   exact⟨aC.U,aC.kD,aC.hp,aC.jx,aC.ho,λp av=>by simp at av;subst av;exact M,aC.bot,aC.cs,aD.drop⟩
 |fork b6=>
  obtain⟨aa,S,aX,aI⟩:=lH
  simp only[ny]at a
  obtain⟨gp,cb,b5⟩:=akP b6 v a aa S aX
  exact .same b5 (done gp aa S j aI cb)
def ab3{V:Op}{d5:Operand->Option z}{b:Nat}{aa:z}{cE:ag}{c8:Nat->Prop}(a:pP V C d5 b=some (aa,cE)):uK C c8 cE:=by
 have key:∀k:List z,uK C c8 (.cells (R.ofList k 0 .nil) k.length .own):=λk=>⟨λ_ _ _ a=>(by cases a),λ_ _ _ a=>(by cases a;exact Fy)⟩
 have aqa:uK C c8 (.map [] 0):=⟨λ_ _ _ a=>(by cases a),λ_ _ _ a=>(by cases a)⟩
 cases V<;>simp only[pP]at a<;>(try(cases a;done))
 case alloc t=>unfold Cp at a;split at a<;>simp at a;rw[<-a.2];exact key _
 case box t x=>unfold IK at a;split at a<;>simp at a;rw[<-a.2];exact key _
 case buildSlice t len jy=>
  unfold IL at a
  split at a
  ·split at a
   ·simp only[ey]at a
    obtain⟨_,a⟩:=a
    split at a<;>simp at a
    rw[<-a.2];exact key _
   ·simp at a
  ·simp at a
 case makeMap t r=>cases r<;>simp at a;rw[<-a.2];exact aqa
def ajE{i:Nat}(aE:ao.toList.drop i=[]):ao.size<=i:=by simpa using aE
def aky{am:Nat}{an:List (Nat×z)}:∀(k:List Oper) (i:Nat) (wr:List (Nat×Nat)) (nu H cN:R z),(∀t,e8 am t=true->H.get t=match d1 wr t with|some W=>d1 an W|none=>nu.get t)->
 wH an (kH am k i) H=some cN->∀t,e8 am t=true->cN.get t=match d1 (uD k i wr) t with|some W=>d1 an W|none=>nu.get t:=by
 intro k
 induction k with
 |nil=>intro i wr nu H cN m1 a;simp[kH,wH]at a;subst a;exact m1
 |cons V k ah=>
  intro i wr nu H cN m1 a
  simp only[kH]at a
  simp only[uD]
  split at a
  ·rename_i d aI
   rw[eU]at a
   split at a
   ·rename_i aj
    simp only[wH]at a
    split at a
    ·rename_i aa aU
     simp only[gB]at a
     refine ah (i+1) _ nu _ cN (λt aZ=> ?_) a
     rw[R.jF,DN,aI]
     by_cases B:d=t
     ·subst B;simp[aU]
     ·simp[B];exact m1 t aZ
    ·simp at a
   ·rename_i aj
    refine ah (i+1) _ nu _ cN (λt aZ=> ?_) a
    rw[DN,aI]
    have B:d≠t:=λB=>aj (by rw[B];exact aZ)
    simp[B];exact m1 t aZ
  ·rename_i aI
   refine ah (i+1) _ nu _ cN (λt aZ=> ?_) a
   rw[DN,aI]
   simp;exact m1 t aZ
def WJ{an:List (Nat×z)}{H cN:R z}(bt:od J Y am (λ_=>True) (hP ao ao.size) an H tmps)(d9:tmps.size=n)(a:wH an (kH am ao.toList 0) H=some cN):iM J Y n am cN tmps:=by
 refine⟨d9,λt aa az aU=> ?_⟩
 have:=aky (am:=am) (an:=an) ao.toList 0 [] H H cN (λ_ _=>rfl) a t az
 rw[aU]at this
 apply bt t aa trivial
 have B:hP ao ao.size=uD ao.toList 0 []:=by unfold hP;rw[ZB Zs]
 rw[B]
 cases bB:d1 (uD ao.toList 0 []) t with
 |some W=>rw[bB]at this;exact this.symm
 |none=>rw[bB]at this;exact⟨az,this.symm⟩
def adk(cA:Env C bi dx dE)(fW:mQ C bi bz bH ah){o:List dy}{fin:List (Nat×Nat)}:∀(rest:List e4) (an:List (Nat×z)) (h:R ag) (j:Nat) (J:cQ) (Y:Nat->Prop) (w:World) (tmps:Array Value) (k:List Nat) (ax:List Frame),
 iv C bi bz bH fn am aW aH ro cs h j J Y w bL ax->lc C J Y am o bo->NS C J Y n am ao an rest fin H tmps k->
 xH rest ⟨ah,ao,fin,o,⟨fn,n,am,aW,aH,ro,cs⟩⟩ C H an h j=some v->Ends C bi bz bH v (lone (cd J fn aW aH ro tmps (.inRegion ao k::bo) .run) ax w):=by
 intro rest
 induction rest with
 |nil=>
  intro an h j J Y w tmps k ax aC aG aD a
  obtain⟨i,aE,rfl,ay,rfl,bt,d9⟩:=aD
  have Lb:ao.size<=i:=by
   cases aI:ao.toList.drop i with
   |nil=>exact ajE aI
   |cons V b6=>
    rw[aI]at ay
    obtain⟨_,_,r,_,_,_,_,_,B⟩:=Ok ay
    cases B
  have:i=ao.size:=Zo
  subst this
  simp only[Y2,List.range'_zero]
  have cu:G0 ⟨ah,ao,kH am ao.toList 0,o,⟨fn,n,am,aW,aH,ro,cs⟩⟩ C H an h j=some v:=a
  simp only[G0,KG,nW]at cu
  split at cu
  ·rename_i cN m1
   refine .head adu ?_
   exact fW _ _ _ _ _ _ _ _ _ _ _ _ v cu J Y w bL tmps bo ax (aC.state (.plain aG (WJ bt d9 m1)))
  ·simp at cu
 |cons x rest E6=>
  intro an h j J Y w tmps k ax aC aG aD a
  obtain⟨i,aE,rfl,ay,rfl,bt,d9⟩:=aD
  cases aI:ao.toList.drop i with
  |nil=>rw[aI]at ay;simp[rn]at ay
  |cons V b6=>
   rw[aI]at ay
   obtain⟨g,op,r,dv,dK,gM,yj,jD,B⟩:=Ok ay
   cases B
   obtain⟨cL,cJ,eI⟩:=OK aI
   rw[<-Jx cL, <-cJ]at jD
   have ES:List.range' i (ao.size-i)=i::List.range' (i+1) (ao.size-(i+1)):=by
    rw[show ao.size-i=(ao.size-(i+1))+1 by omega,List.range'_succ]
   rw[ES]
   have p1:=Wm gM
   have sN:∀(cX:cQ) (dg:Nat->Prop) (aa:z),od cX dg am (λ_=>True) (hP ao i) an H tmps->b2 dg aa->NS C cX dg n am ao ((i,aa)::an) rest (kH am ao.toList 0) H (pz tmps V.dst (aJ cX aa)) (List.range' (i+1) (ao.size-(i+1))):=by
    intro cX dg aa xh yC
    exact⟨i+1,Zo,rfl,jD,rfl,xh.put cL (by rw[d9];exact p1) yC,by rw[ML];exact d9⟩
   have jH:∀(cX:cQ) (aa:Value),(cd cX fn aW aH ro tmps (.inRegion ao (i::List.range' (i+1) (ao.size-(i+1)))::bo) .run).finish aa=cd cX fn aW aH ro (pz tmps V.dst aa) (.inRegion ao (List.range' (i+1) (ao.size-(i+1)))::bo) .run:=by
    intro cX aa
    rw[KH (g:=cd cX fn aW aH ro tmps _ .run) rfl cL];rfl
   have cu:CI i g op rest (xH rest) ⟨ah,ao,kH am ao.toList 0,o,⟨fn,n,am,aW,aH,ro,cs⟩⟩ C H an h j=some v:=a
   simp only[CI,Nc,nW]at cu
   split at cu
   ·rename_i Ta lv
    have rT:=Nh aE dv bt (λ_ _ _ _ _=>trivial) (Sub.refl an) lv
    cases Ta with
    |false=>
     simp only[Zu,ZD]at cu
     refine .head (SM cL rT) ?_
     rw[jH]
     exact E6 _ _ _ _ _ _ _ _ _ aC aG (sN J Y undef bt trivial) cu
    |true=>
     simp only[ZE]at cu
     have w1:iL J Y (ks tmps) (iC (hP ao i) an H) V.op.operands.toList:=Wy bt (λ_ _=>trivial) yj aC.hp
     rw[MC]at cu
     cases p6:l3 op with
     |hC=>
      simp only[p6,nW]at cu
      split at cu
      ·rename_i aa aU
       obtain⟨bm,ct⟩:=abR aC.U w1 dK aU
       refine .head (C1 cL rT bm (.inl rfl)) ?_
       rw[jH]
       exact E6 _ _ _ _ _ _ _ _ _ aC aG (sN J Y aa bt ct) cu
      ·simp at cu
     |make=>
      simp only[p6,nW]at cu
      split at cu
      ·rename_i res oE
       simp only[Mh,lG]at oE
       split at oE
       ·rename_i aa cE aX
        simp only[gB,Ze]at oE
        subst oE
        have nM:=qW aC.U
        obtain⟨nU,d4,fk,iH⟩:=ab2 (w:=w) (J:=J) nM w1 (Mi dK aX)
        have af:hZ C bL J Y h bi.heap.size w (fY J j ⟨w.heap.size,0,0⟩) (add Y j) (bn C h j (some cE)) (w.alloc nU):=
         ⟨qs nM,λ_ a=> .inl a,λx a=>a.elim .inl (λa=> .inr (zy aC.jx)),λx af cO=>by rw[fq _ aC.U.a6,Zg (zy aC.jx)],Below.alloc (Below.refl _ _) aC.eB _⟩
        have BE:=aC.U.alloc aC.U.a6 (Yx _) (Z6 _) nM aC.eB rfl (S:=bn C h j (some cE)) (by rw[fq _ aC.U.a6,Zp rfl]) (λx af=> .inl (by rw[fq _ aC.U.a6,Zg af])) iH (ab3 (Mi dK aX))
        refine .head (C1 cL rT d4 (.inl rfl)) ?_
        rw[jH, <-Fq af.ic aC.ho]
        exact E6 _ _ _ _ _ _ _ _ _ (aC.ext BE af (Z6 _)) (aG.ad af.ic af.i6) (sN _ _ aa (bt.ad af.ic af.i6) fk) cu
       ·simp at oE
      ·simp at cu
     |e2=>
      simp only[p6,nW]at cu
      split at cu
      ·rename_i res oE
       have lH:=XU aC.U aC.eB cA.jM w1 dK oE
       have apg:lV C J Y h bL j n am H tmps (.sd ao an i rest (kH am ao.toList 0)::o) (.inRegion ao (i::List.range' (i+1) (ao.size-(i+1)))::bo):=
        .seq aG ⟨V,cL,p1,rfl,jD,rfl,bt,d9⟩
       have now:∀aa S aq,xX C J Y h j bi.heap.size w (execOp (ks tmps) V) aa S aq->xH rest ⟨ah,ao,kH am ao.toList 0,o,⟨fn,n,am,aW,aH,ro,cs⟩⟩ C H ((i,aa)::an) S aq=some v->
        Ends C bi bz bH v (lone (cd J fn aW aH ro tmps (.inRegion ao (i::List.range' (i+1) (ao.size-(i+1)))::bo) .run) ax w):=by
        intro aa S aq aI a
        obtain⟨cX,dg,bO,s4,bA,cg,eN,iP,pg,GY⟩:=aI
        have E1:s4= .value (aJ cX aa)\/(s4= .skip/\aJ cX aa=Go.undef):=cg.imp id λ⟨D,b⟩=>⟨D,by rw[b];rfl⟩
        refine .head (C1 cL rT bA E1) ?_
        rw[jH, <-Fq pg.ic aC.ho]
        exact E6 _ _ _ _ _ _ _ _ _ (aC.ext iP (pg.mono aC.jx) GY) (aG.ad pg.ic pg.i6) (sN _ _ aa (bt.ad pg.ic pg.i6) eN) a
       have pS:ny res ah C (.sd ao an i rest (kH am ao.toList 0)) o ⟨fn,n,am,aW,aH,ro,cs⟩ H h j=some v->Ends C bi bz bH v (lone (cd J fn aW aH ro tmps (.inRegion ao (i::List.range' (i+1) (ao.size-(i+1)))::bo) .run) ax w):=
        λa=>Vq cA fW aC apg aC.jx (Zi _) cL rT lH a
       cases res with
       |val aa=>exact now aa h j lH cu
       |fl aa S aq=>exact now aa S aq lH cu
       |_=>exact pS cu
      ·simp at cu
   ·simp at cu
end
def ajf{k:List Bool}(a:k.count false=0):∀b∈k,b=true:=by
 intro b aj
 cases b with
 |true=>rfl
 |false=>exact absurd aj (List.count_eq_zero.1 a)
def atY{ao:Array Oper}(lp:CG ao.toList 0=true):∀(fuel t:Nat) (hU:Array Bool),hU.size=ao.size->hU.toList.count false=fuel->
 uM ao (λi=>hU.getD i false=true) (Region.linearise.go .any ao fuel t hU []):=by
 intro fuel
 induction fuel with
 |zero=>
  intro t hU aD ay
  simp only[Region.linearise.go,List.reverse_nil]
  refine .nil λi aE=> ?_
  have cO:i<hU.size:=Zo
  have:=ajf ay hU[i] Zs
  simp[cO,this]
 |succ fuel ah=>
  intro t hU aD ay
  simp only[Region.linearise.go]
  have HN:∃i,i<ao.size/\hU.getD i true=false:=by
   have Qr:false∈hU.toList:=by
    rw[<-List.count_pos_iff];omega
   obtain⟨i,aE⟩:=ZW.1 Qr
   have cO:i<hU.size:=by have:=(Zb.1 aE).1;simpa using this
   refine⟨i,Zo, ?_⟩
   rw[ZO]at aE
   simp[aE]
  have H3:∃i,i<ao.size/\hU.getD i true=false/\∀W,W<i->hU.getD W false=true:=by
   have key:∀m,(∃i,i<m/\i<ao.size/\hU.getD i true=false)->∃i,i<ao.size/\hU.getD i true=false/\∀W,W<i->hU.getD W false=true:=by
    intro m
    induction m with
    |zero=>rintro⟨i,a,_⟩;omega
    |succ m ps=>
     rintro⟨i,I,M,ak⟩
     by_cases al:∃i,i<m/\i<ao.size/\hU.getD i true=false
     ·exact ps al
     ·have:i=m:=by
       rcases ze i m with a|a
       ·exact absurd ⟨i,a,M,ak⟩ al
       ·omega
      subst this
      refine⟨i,M,ak,λW bB=> ?_⟩
      have cO:W<hU.size:=Zo
      cases aj:hU[W]with
      |true=>simp[cO,aj]
      |false=>exact absurd ⟨W,bB,Zo,by simp[cO,aj]⟩ al
   obtain⟨i,I,M⟩:=HN
   exact key (i+1) ⟨i,Zo,I,M⟩
  obtain⟨i0,t2,apb,hz⟩:=H3
  have aoA:i0∈Region.ready .any ao hU:=by
   rw[mem_ready]
   refine⟨apb,ao[i0],Array.getElem?_eq_getElem t2,λB bl aj=> ?_⟩
   have:=ar0 lp i0 ao[i0] (by rw[ZO];exact Array.getElem?_eq_getElem t2) B (by simpa using bl) aj
   exact hz _ Zo
  change uM ao _ (match (Region.ready .any ao hU)[t%(Region.ready .any ao hU).length]? with
   |some i=>Region.linearise.go .any ao fuel (t/(Region.ready .any ao hU).length) (hU.setIfInBounds i true) [i]
   |none=>[].reverse)
  have eD:0<(Region.ready .any ao hU).length:=List.length_pos_of_mem aoA
  have cO:t%(Region.ready .any ao hU).length<(Region.ready .any ao hU).length:=Nat.mod_lt _ eD
  rw[Zf cO]
  simp only[]
  generalize aE:(Region.ready .any ao hU)[t%(Region.ready .any ao hU).length]=i
  have Qr:i∈Region.ready .any ao hU:=by rw[<-aE];exact List.getElem_mem cO
  obtain⟨I,V,M,ak⟩:=mem_ready.1 Qr
  have awB:i<ao.size:=(ZM.1 M).1
  have jt:i<hU.size:=Zo
  have X1:hU[i]=false:=by simpa[jt]using I
  rw[linearise_go_acc,List.reverse_singleton,List.singleton_append]
  refine .cons M (by simp[jt,X1]) (λB bl aj=>ak B (by simpa using bl) aj) ?_
  have bZ:add (λi=>hU.getD i false=true) i=λW=>(hU.setIfInBounds i true).getD W false=true:=by
   funext W
   apply propext
   unfold add
   by_cases B:W=i
   ·subst B;simp[jt]
   ·rw[getD_set_ne false (λal=>B al.symm)]
    simp[B]
  rw[bZ]
  refine ah _ _ (by simpa using aD) ?_
  rw[Array.toList_setIfInBounds,List.count_set (by simpa using jt)]
  have:(hU.toList[i]'(by simpa using jt))=false:=by simpa using X1
  simp[this,ay]
def atZ{ao:Array Oper}(lp:CG ao.toList 0=true)(t:Nat):uM ao (λ_=>False) (Region.schedule true ao t):=by
 simp only[Region.schedule,Bool.true_or,ZE,Region.linearise]
 have:=atY lp ao.size t (Array.replicate ao.size false) Zs Zs
 have B:(λi=>(Array.replicate ao.size false).getD i false=true)=λ_=>False:=by
  funext i
  apply propext
  by_cases a:i<ao.size<;>simp[a]
 rw[B]at this
 exact this
section
variable{C:aM}{J cX dx:cQ}{Y dg dE:Nat->Prop}{h S:R ag}{j aq bd:Nat}{w bO:World}{n am:Nat}{ao:Array Oper}
variable{bi:World}{bz:Nat}{bH:List Frame}{v:z}{ah:g5}
variable{fn:Nat}{aW:List he}{aH:Bool}{ro:Option Nat}{cs:List gh}{H:R z}{tmps:Array Value}{bo:List Item}{ax:List Frame}{bL aE:Nat}
def apH{op:jl}(aG:l3 op= .hC)(aD:AG op=false)(h S:R ag)(an:List (Nat×z))(H:R z):gr op C h an H=gr op C S an H:=by
 cases op<;>simp only[gr]<;>(try rfl)<;>simp[AG]at aD
 case hC bT V=>cases V<;>simp[AG]at aD<;>rfl
def o9.refl(h:R ag):o9 C h h:=λ_=> .inl rfl
def o9.trans{a1 aT be:R ag}(a:o9 C a1 aT)(o:o9 C aT be):o9 C a1 be:=λx=>by
 rcases a x with a|a
 ·rcases o x with o|o
  ·exact .inl (a.trans o)
  ·exact .inr (a.trans o)
 ·exact .inr a
def abP(h:R ag):o9 C .nil h:=by
 intro b
 unfold Z
 rw[eU,eU]
 split
 ·exact .inl rfl
 ·exact .inr rfl
def ajv{base:Nat}(aL:C.a6<=base):∀(k:List e4) (an:List (Nat×z)) (h:R ag) (g6:List (Nat×z)) (S:R ag),(k.Pairwise λD b=>D.i≠b.i)->(∀x∈k,d1 an x.i=none/\Z C h (base+x.i)=none/\nb x.op=false)->
 uU C base H k an h=some (g6,S)->Sub an g6/\o9 C h S/\(∀i,d1 g6 i≠none->d1 an i≠none\/∃x∈k,x.i=i)/\(∀b,Z C S b≠Z C h b->∃x∈k,b=base+x.i)/\
 ∀x∈k,∃aa,(∀Y,JI C Y S base g6 H x aa)/\Gm C S g6 H x aa:=by
 intro k
 induction k with
 |nil=>
  intro an h g6 S _ _ a
  simp[uU]at a
  obtain⟨rfl,rfl⟩:=a
  exact⟨Sub.refl _,o9.refl _,λi a=> .inl a,λb a=>absurd rfl a,Zs⟩
 |cons x k ah=>
  intro an h g6 S av ch a
  rw[List.pairwise_cons]at av
  obtain⟨dZ,dm⟩:=av
  obtain⟨KJ,O6,O7⟩:=ch x (Zv ..)
  have step:∀(aa:z) (a1:R ag),o9 C h a1->(∀b,Z C a1 b≠Z C h b->b=base+x.i)->uU C base H k ((x.i,aa)::an) a1=some (g6,S)->
   (∀g6 S,Sub ((x.i,aa)::an) g6->o9 C a1 S->(Z C a1 (base+x.i)≠none->Z C S (base+x.i)=Z C a1 (base+x.i))->(∀Y,JI C Y S base g6 H x aa)/\Gm C S g6 H x aa)->
   Sub an g6/\o9 C h S/\(∀i,d1 g6 i≠none->d1 an i≠none\/∃ih∈x::k,ih.i=i)/\(∀b,Z C S b≠Z C h b->∃ih∈x::k,b=base+ih.i)/\∀ih∈x::k,∃aa,(∀Y,JI C Y S base g6 H ih aa)/\Gm C S g6 H ih aa:=by
   intro aa a1 p7 rB aI af
   have xf:Sub an ((x.i,aa)::an):=Sub.cons KJ
   have p3:∀ih∈k,d1 ((x.i,aa)::an) ih.i=none/\Z C a1 (base+ih.i)=none/\nb ih.op=false:=by
    intro ih qe
    obtain⟨cb,b5,cG⟩:=ch ih (Zt _ qe)
    have c5:=dZ ih qe
    refine⟨by rw[qB,Zg c5];exact cb, ?_,cG⟩
    by_cases al:Z C a1 (base+ih.i)=Z C h (base+ih.i)
    ·rw[al];exact b5
    ·have:=rB _ al;omega
   obtain⟨bM,cq,df,fb,eJ⟩:=ah _ _ _ _ dm p3 aI
   have H7:Z C S (base+x.i)=Z C a1 (base+x.i):=by
    by_cases al:Z C S (base+x.i)=Z C a1 (base+x.i)
    ·exact al
    ·obtain⟨ih,qe,B⟩:=fb _ al
     exact absurd Zo (dZ ih qe)
   refine⟨xf.trans bM,p7.trans cq,λi aE=> ?_,λb aj=> ?_,λih qe=> ?_⟩
   ·rcases df i aE with I|⟨ih,I,M⟩
    ·rw[qB]at I
     split at I
     ·rename_i B;exact .inr ⟨x,Zv ..,B⟩
     ·exact .inl I
    ·exact .inr ⟨ih,Zt _ I,M⟩
   ·by_cases al:Z C S b=Z C a1 b
    ·rw[al]at aj
     exact⟨x,Zv ..,rB b aj⟩
    ·obtain⟨ih,I,M⟩:=fb b al
     exact⟨ih,Zt _ I,M⟩
   ·rcases Zq.1 qe with rfl|qe
    ·exact⟨aa,af g6 S bM cq (λ_=>H7)⟩
    ·exact eJ ih qe
  have H7:∀(aa:z) (g6:List (Nat×z)),Sub ((x.i,aa)::an) g6->d1 g6 x.i=some aa:=λaa g6 aD=>aD _ _ (by rw[qB,Zp rfl])
  simp only[uU]at a
  split at a
  ·simp at a
  ·rename_i bQ
   refine step undef h (o9.refl _) (λb aj=>absurd rfl aj) a λg6 S aD az _=> ?_
   have yZ:Sub an g6:=(Sub.cons KJ).trans aD
   exact⟨λY=>⟨H7 _ _ aD,an,false,yZ,bQ,λ_=>rfl,Zs⟩,an, .nil,false,yZ,abP _,bQ,Zs⟩
  ·rename_i bQ
   cases aG:l3 x.op with
   |make=>
    rw[aG]at a
    simp only at a
    split at a
    ·rename_i aa cE aX
     simp only[gB]at a
     have aj:C.a6<=base+x.i:=Zo
     refine step aa _ (λb=> ?_) (λb jb=> ?_) a λg6 S aD az Ln=> ?_
     ·rw[fq _ aj]
      by_cases B:b=base+x.i
      ·subst B;exact .inr O6
      ·rw[Zg B];exact .inl rfl
     ·rw[fq _ aj]at jb
      by_cases B:b=base+x.i
      ·exact B
      ·rw[Zg B]at jb;exact absurd rfl jb
     ·have yZ:Sub an g6:=(Sub.cons KJ).trans aD
      have hi:Z C S (base+x.i)=some cE:=by
       rw[Ln (by rw[fq _ aj,Zp rfl];simp),fq _ aj,Zp rfl]
      exact⟨λY=>⟨H7 _ _ aD,an,true,yZ,bQ,Zs,λ_=>⟨O7,λ_=>⟨cE,aX,hi⟩,λal=>by rw[aG]at al;cases al⟩⟩,an,h,true,yZ,
       (by
        intro b
        rcases az b with al|al
        ·rw[fq _ aj]at al
         by_cases B:b=base+x.i
         ·subst B;exact .inr O6
         ·rw[Zg B]at al;exact .inl al
        ·rw[fq _ aj]at al
         by_cases B:b=base+x.i
         ·subst B;exact .inr O6
         ·rw[Zg B]at al;exact .inr al),bQ,λ_ al=>by rw[aG]at al;cases al⟩
    ·simp at a
   |hC=>
    rw[aG]at a
    simp only at a
    split at a
    ·rename_i aa aU
     refine step aa h (o9.refl _) (λb aj=>absurd rfl aj) a λg6 S aD az _=> ?_
     have yZ:Sub an g6:=(Sub.cons KJ).trans aD
     exact⟨λY=>⟨H7 _ _ aD,an,true,yZ,bQ,Zs,λ_=>⟨O7,λal=>(by rw[aG]at al;cases al),λ_ EX kc=>by rw[apH aG EX kc h];exact aU⟩⟩,an,h,true,yZ,az,bQ,λ_ _=>aU⟩
    ·simp at a
   |e2=>simp[nb,aG]at O7
end
end Go.bp

