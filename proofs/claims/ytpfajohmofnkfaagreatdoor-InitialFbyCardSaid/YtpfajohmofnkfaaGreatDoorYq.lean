/- A part of the last text's proof; no condition of its own -/
import Derived.Test.YtpfajohmofnkfaaGreatDoorYp
import Derived.Test.YtpfajohmofnkfaaGreatDoorRows
import Derived.ProofKit
set_option maxHeartbeats 8000000
set_option linter.all false
namespace Go.Proofs.YtpfajohmofnkfaaGreatDoor
open Go.bd Go.aR
noncomputable section
def axg{C:aL}{h:K ag}(x e:Int):qY C h .max [3,3] [.Z x, .Z e]=some (.Z (max x e)):=by
 show nU true (.Z x) [.Z e]=_
 simp only[nU,fA,tF]
 congr 2
 simp only[Zh]
 split<;>simp_all<;>omega
def yz(k:List Int):List D:=k.map λd=> .Z d
section
variable{X:cb}{h T aP aM:K ag}{j an aG a1:Nat}{P:Nat->Prop}
def apk:dw X h .eql 47 true .cx .cx=some .zT:=Zk
def apl(b U:Nat):dw X h .eql 47 true (.ptr b U) .cx=some .zF:=Zk
def agq:dw X h .neq 47 true .cx .cx=some .zF:=Zk
def axB(b U:Nat):dw X h .neq 47 true (.ptr b U) .cx=some .zT:=Zk
def aq7(aw:du X){k:List Int}{aW:D}{b:Nat}(cA:dD X h P b aW 1 ((yz k).map λv=>[v])):
 aY X 157 [aW] h j (λac T an=>ac= .Z (r9 k)/\bo X h j T an) (λ_ _ _=>False):=by
 refine zx aw (ajU X) ?_
 rw[ajV]
 unfold XC
 have d5:=cA.len
 have hO:=cA.many
 simp only[yz,Zn]at d5 hO
 refine ci @d5 ⟨?_⟩
 refine fK (λm H T aU=>∃(W:Nat),H.g 3=some (.Z ((k.take W).foldl (λm d=>max m d) 0))/\H.g 6=some aW/\H.g 7=some (.Z (k.length:Int))/\H.g 8=some (.Z (W:Int))/\W+m=k.length/\T=h/\aU=j)
  k.length ⟨0,fW,bw,bw,fW,Zo,rfl,rfl⟩ ?_
 rintro m H aM a1 ⟨W,t3,fU,gd,hb,bK,rfl,rfl⟩
 cases m with
 |zero=>
  have d:=zr W k.length
  rw[Zx Zo]at t3
  refine gx @hb @gd @d @t3 ⟨?_⟩
  exact⟨rfl,bo.refl _ _⟩
 |succ m=>
  have d:=zs W k.length
  have bF:=zv W
  obtain⟨g,bU⟩:=zt k W
  obtain⟨fC,fe,_⟩:=cA.one (i:=W) (v:= .Z g) (by simp[yz,bU])
  have g0:=axg (C:=o X) (h:=aM) ((k.take W).foldl (λm d=>max m d) 0) g
  refine eF @hb @gd @fU @d @fC @fe (Za @t3 (Za @g0 @bF)) ⟨?_⟩
  exact⟨m,Zo,W+1,by refine AB ⟨?_⟩;rw[Az _ _ bU],a7 fU,a7 gd,bw,Zo,rfl,rfl⟩
structure vs(X:cb)(h:K ag)(P:Nat->Prop)(fx:Nat)(st:Option Int):Prop where
 at_:∃c v,Y X h fx=some (.cells c 1 .own)/\c.get 0=some v/\(st=none->v= .cx)/\∀F,st=some F->∃b,v= .ptr b 0/\P b/\aO X h (.ptr b 1)=some (.Z F)
def vs.ab{fx:Nat}{st:Option Int}(a:vs X h P fx st)(q:Y X T fx=Y X h fx)(PE:∀e,P e->Y X T e=Y X h e):vs X T P fx st:=by
 obtain⟨c,v,I,J,am,aB⟩:=a.at_
 refine⟨⟨c,v,by rw[q];exact I,J,am,λF aC=> ?_⟩⟩
 obtain⟨b,bF,cn,eU⟩:=aB F aC
 exact⟨b,bF,cn,zB (PE b cn) eU⟩
def aB5(aw:du X){fx cR:Nat}{st:Option Int}{F:Int}(A9:(o X).a2<=fx)(HR:¬P fx)(hY:vs X h P fx st)(v6:P cR)(bs:aO X h (.ptr cR 1)=some (.Z F)):
 aY X 98 [.ptr cR 0, .ptr fx 0] h j (λac T an=>ac= .tuple []/\vs X T P fx (y0 st F)/\(∀e,e≠fx->Y X T e=Y X h e)/\an=j) (λ_ _ _=>False):=by
 refine zx aw (amB X) ?_
 rw[amC]
 unfold aaI
 obtain⟨c,v,I,J,am,aB⟩:=hY.at_
 have az:aO X h (.ptr fx 0)=some v:=by rw[bO I];exact J
 cases st with
 |none=>
  have bD:=am rfl
  subst bD
  refine cT @az @apk ⟨?_⟩
  refine⟨rfl,⟨⟨_, .ptr cR 0,bg A9,by rw[show(D.ptr cR 0).cells=[.ptr cR 0] from rfl,jd];rfl,(λa=>by cases a),λfV aC=> ?_⟩⟩,λe z=>aI A9 z,rfl⟩
  cases aC
  exact⟨cR,rfl,v6,zB (aI A9 (λE=>HR (E▸v6))) bs⟩
 |some a0=>
  obtain⟨b,rfl,cn,eU⟩:=aB a0 rfl
  have apf:=apl (X:=X) (h:=h) b 0
  refine cT @az @apf ⟨?_⟩
  exact⟨rfl,hY,λ_ _=>rfl,rfl⟩
def axU(aw:du X){fx cR lf mM:Nat}{st:Option Int}{F U d:Int}(A9:(o X).a2<=fx)(HR:¬P fx)(hY:vs X h P fx st)(v6:P cR)(bs:aO X h (.ptr cR 1)=some (.Z F))
 (I:aO X h (.ptr lf 0)=some (.func (.func 98) [] [.ptr fx 0]))(J:aO X h (.ptr mM 0)=some (.ptr cR 0)):
 aY X 156 [.Z U, .Z d, .ptr lf 0, .ptr mM 0] h j (λac T an=>ac= .Z d/\vs X T P fx (if 0<U then y0 st F else st)/\(∀e,e≠fx->Y X T e=Y X h e)/\an=j) (λ_ _ _=>False):=by
 refine zx aw (ajS X) ?_
 rw[ajT]
 unfold XB
 by_cases bj:0<U
 ·have aJ:decide (0<U)=true:=by simp[bj]
  rw[Zu bj]
  refine et @aJ @I @J ⟨?_⟩
  show aY X 98 [.ptr cR 0, .ptr fx 0] _ _ _ _
  refine(aB5 aw A9 HR hY v6 bs).Zm ?_
  rintro ac T aU ⟨rfl,b3,b7,rfl⟩
  refine cK ⟨?_⟩
  exact⟨rfl,b3,b7,rfl⟩
 ·have aJ:decide (0<U)=false:=by simp only[Zb];exact bj
  rw[Zg bj]
  refine ci @aJ ⟨?_⟩
  exact⟨rfl,hY,λ_ _=>rfl,rfl⟩
def aoJ(bH:List be)(st:Option Int){W:Nat}{x:be}(af:bH[W]? =some x):mU (bH.drop W) st=((l5 x st).1::(mU (bH.drop (W+1)) (l5 x st).2).1,(mU (bH.drop (W+1)) (l5 x st).2).2):=by
 have aH:bH.drop W=x::bH.drop (W+1):=by
  obtain⟨af,z⟩:=Zc.1 af
  rw[Zv af,z]
 rw[aH,mU]
set_option maxRecDepth 100000 in
def aoG(aw:du X){fx dK:Nat}(A9:(o X).a2<=fx)(aDX:fx<dK)(HR:¬P fx)(bE:∀e,P e->e<dK):∀(N:Nat) (E:be),SizeOf.sizeOf E<N->d2 gV E->∀(v:D) (h:K ag) (j:Nat) (st:Option Int),(o X).a2<=j->dK<=j->cy X h P E v->vs X h P fx st->
 aY X 97 [v, .func (.func 98) [] [.ptr fx 0]] h j (λac T an=>ac= .Z (l5 E st).1/\vs X T P fx (l5 E st).2/\ca X [fx] h j T an) (λ_ _ _=>False):=by
 intro N
 induction N with
 |zero=>intro E a;omega
 |succ N al=>
  intro E i2 A8 v h j st aE bp bs hY
  have Lo:=A8
  rw[d2.eq]at Lo
  obtain⟨bt,oY⟩:=Lo
  refine zx aw (amz X) ?_
  rw[amA]
  unfold aaH
  obtain⟨b,aW,cp,a8,rfl,aj,a0,ba,_,_,_,_,_,_,h4,cA,has⟩:=bs.open
  have uI:=bE b aj
  have d5:=cA.len
  have hO:=cA.many
  have tC:=has.len
  rw[Zn,tC]at d5 hO
  refine s6 ?_
  refine s6 ?_
  generalize dZ:Go.bd.bn X _ (j+1) _=aP
  have b3:aO X aP (.ptr j 0)=some (.ptr b 0):=by rw[<-dZ,co];simp(disch:=omega) only[bg,aI]<;>rfl
  have b7:aO X aP (.ptr (j+1) 0)=some (.func (.func 98) [] [.ptr fx 0]):=by rw[<-dZ,co,bg Zo];rfl
  have bN:bo X h j aP (j+1+1):=by rw[<-dZ];exact dM
  clear dZ
  have bR:∀e,P e->Y X aP e=Y X h e:=λe z=>bN.ab e (zq (bE e z))
  have DV:aO X aP (.ptr b 8)=some aW:=zB (bR b aj) h4
  refine et @b3 @DV @d5 ⟨?_⟩
  refine fK (λm H T aU=>∃(W:Nat) (s:D) (cJ:List Nat) (jN:List Int) (ii:Option Int),H.g 2=some (.ptr j 0)/\H.g 3=some (.ptr (j+1) 0)/\H.g 5=some s/\H.g 12=some aW/\H.g 13=some (.Z (E.args.length:Int))/\H.g 14=some (.Z (W:Int))/\W+m=E.args.length/\jN.length=W
   /\mU E.args st=(jN++(mU (E.args.drop W) ii).1,(mU (E.args.drop W) ii).2)/\gB X T s 1 (yz jN) cJ/\(∀e∈cJ,j+1+1<=e/\e<aU)/\vs X T P fx ii/\ca X [fx] aP (j+1+1) T aU)
   E.args.length ⟨0, .aV,[],[],st,bw,bw,bw,bw,bw,fW,Zo,rfl,by rw[ZZ];simp, .inl (.inl ⟨rfl,rfl,rfl⟩),Zs,hY.ab (bN.ab fx Zo) bR,ca.refl _ _ _⟩ ?_
  rintro m H aM a1 ⟨W,s,cJ,jN,w0,dQ,t3,t5,rH,jt,lb,bK,adG,io,aF,fd,Ou,dl⟩
  have f7:=dl.le
  have asa:∀e,P e->e≠fx:=λe z E=>HR (E▸z)
  have cq:∀e,P e->Y X aM e=Y X h e:=λe z=>by have:=bE e z;rw[dl.ab e Zo (by simp[asa e z]),bR e z]
  have x2:aO X aM (.ptr j 0)=some (.ptr b 0):=zB (dl.ab j Zo (by simp;omega)) b3
  have NV:aO X aM (.ptr (j+1) 0)=some (.func (.func 98) [] [.ptr fx 0]):=zB (dl.ab (j+1) Zo (by simp;omega)) b7
  cases m with
  |zero=>
   have d:=zr W E.args.length
   rw[ZH Zo,mU]at io
   simp only[Yx]at io
   rw[abX,io]
   simp only[]
   have JA:aO X aM (.ptr b 0)=some (.Z E.kind):=zB (cq b aj) a0
   have Rw:aO X aM (.ptr b 1)=some (.Z E.at_):=zB (cq b aj) ba
   have oL:ca X [fx] h j aM a1:=⟨Zo,λe I J=>by rw[dl.ab e Zo J];exact bN.ab e I⟩
   obtain⟨xQ,Pc⟩:=aF.IK (P:=λe=>e<a1) (by simp[yz];omega) (λe z=>(fd e z).2)
   have o6:∀i,i<jN.length->∃U,gv 1 s (.Z (i:Int))=some (.ptr xQ U)/\aO X aM (.ptr xQ U)=some (.Z (u7 jN i)):=λi aN=>by
    have bU:jN[i]? =some (u7 jN i):=by unfold u7;rw[Ze aN];rfl
    obtain⟨fC,fe,_⟩:=Pc.one (i:=i) (v:= .Z (u7 jN i)) (by simp[yz,bU])
    exact⟨i,fC,fe⟩
   have sn:=bt.bR
   have fin:∀{aX:K ag}{bf:Nat},bo X aM a1 aX bf->∀(U d:Int) (eE:Int×Option Int),eE=(d,if 0<U then y0 w0 E.at_ else w0)->aY X 156 [.Z U, .Z d, .ptr (j+1) 0, .ptr j 0] aX bf (λac T an=>ac= .Z eE.1/\vs X T P fx eE.2/\ca X [fx] h j T an) (λ_ _ _=>False):=by
    rintro aX bf cg U d eE rfl
    have cP:∀e,P e->Y X aX e=Y X aM e:=λe z=>cg.ab e (zq (bE e z))
    refine(axU aw A9 HR (Ou.ab (cg.ab fx Zo) cP) aj (zB (cP b aj) Rw) (zB (cg.ab _ Zo) NV) (zB (cg.ab _ Zo) x2)).Zm ?_
    rintro ac bC da ⟨rfl,cG,cw,rfl⟩
    have ip:=cg.le
    exact⟨rfl,cG,Zo,λe I J=>by rw[cw e (by simpa using J),cg.ab e Zo];exact oL.ab e I J⟩
   by_cases dU:E.kind=5
   ·have:=bt.qh 1 (by rw[dU];rfl)
    obtain⟨U,fC,fe⟩:=o6 0 Zo
    have fC:gv 1 s (.Z 0)=some (.ptr xQ U):=fC
    refine eF @lb @jt @d @dQ @t3 @t5 (Za @x2 (Za @JA (Za @nX (Za @nt (Za @fC @fe))))) ⟨?_⟩
    show aY X 156 [.Z (u7 jN 0), .Z 1, .ptr (j+1) 0, .ptr j 0] aM a1 _ _
    exact fin (bo.refl _ _) _ _ _ (by unfold ut;rw[Zu dU])
   by_cases m5:E.kind=21
   ·have:=bt.qh 2 (by rw[m5];rfl)
    obtain⟨U,fC,fe⟩:=o6 1 Zo
    have fC:gv 1 s (.Z 1)=some (.ptr xQ U):=fC
    refine eF @lb @jt @d @dQ @t3 @t5 (Za @x2 (Za @JA (Za @nX (Za @nt (Za @fC @fe))))) ⟨?_⟩
    show aY X 156 [.Z (u7 jN 1), .Z 0, .ptr (j+1) 0, .ptr j 0] aM a1 _ _
    exact fin (bo.refl _ _) _ _ _ (by unfold ut;rw[Zg dU,Zu m5])
   by_cases nB:E.kind=22
   ·have:=bt.qh 2 (by rw[nB];rfl)
    obtain⟨U,fC,fe⟩:=o6 0 Zo
    have fC:gv 1 s (.Z 0)=some (.ptr xQ U):=fC
    refine eF @lb @jt @d @dQ @t3 @t5 (Za @x2 (Za @JA (Za @nX (Za @nt (Za @fC @fe))))) ⟨?_⟩
    unfold ut
    rw[Zg dU,Zg m5,Zu nB]
    exact⟨rfl,Ou,oL⟩
   have bU:∀{ak av:bI},(∀aX bf,bo X aM a1 aX bf->ak (.Z (r9 jN)) aX bf)->aY X 157 [s] aM a1 ak av:=λaD=>(aq7 aw Pc).mono (λac T aU a=>by rw[a.1];exact aD T aU a.2) (λ_ _ _ a=>a.elim)
   by_cases cP:E.kind=6\/E.kind=24\/E.kind=25
   ·have gO:ut E.kind E.at_ jN w0=(0,if 0<r9 jN then y0 w0 E.at_ else w0):=by unfold ut;rw[Zg dU,Zg m5,Zg nB,Zu cP]
    rcases cP with q|q|q
    all_goals
     refine eF @lb @jt @d @dQ @t3 @t5 (Za @x2 (Za @JA (Za @nX @nt))) ⟨?_⟩
     refine bU λaX bf cg=> ?_
     refine cK ⟨?_⟩
     show aY X 156 [.Z (r9 jN), .Z 0, .ptr (j+1) 0, .ptr j 0] aX bf _ _
     exact fin cg _ _ _ gO
   ·have gO:ut E.kind E.at_ jN w0=(r9 jN,w0):=by unfold ut;rw[Zg dU,Zg m5,Zg nB,Zg cP]
    rw[gO]
    simp only[YS]at cP
    obtain⟨dy,aD7,aD8⟩:=cP
    refine eF @lb @jt @d @dQ @t3 @t5 (Za @x2 (Za @JA @nt)) ⟨?_⟩
    refine bU λaX bf cg=> ?_
    exact⟨rfl,Ou.ab (cg.ab fx Zo) (λe z=>cg.ab e (zq (bE e z))),oL.trans (ca.of cg)⟩
  |succ m=>
   have d:=zs W E.args.length
   have bF:=zv W
   obtain⟨x,af⟩:=zt E.args W
   obtain⟨w,mA,Lr⟩:=has.get W x af
   obtain⟨fC,fe,_⟩:=(cA.ab cq).one mA
   have eO:=Qq (Zj af)
   rw[aoJ _ _ af]at io
   refine eF @lb @jt @rH @t5 @t3 @d (Za @fC (Za @fe @NV)) ⟨?_⟩
   refine(al x Zo (WJ oY (Zj af)) w aM a1 w0 Zo Zo (cy.ab cq _ _ Lr) Ou).Zm ?_
   rintro ac aX bf ⟨rfl,adD,dY⟩
   have ip:=dY.le
   generalize v1:l5 x w0=dE at*
   obtain⟨As,aAy⟩:=dE
   simp only at io adD ⊢
   refine cK ⟨?_⟩
   generalize eH:Go.bd.bn X aX bf _=bC
   have eh:Y X bC bf=zu [.Z As] 1:=by rw[<-eH,bg Zo]
   have d0:∀e,e<bf->Y X bC e=Y X aX e:=λe z=>by rw[<-eH,aI Zo Zo]
   clear eH
   obtain⟨fk,bW,gC,ix,A5,vW,md⟩:=(aF.ab (T:=bC) (λe z=>by have:=fd e z;rw[d0 e Zo,dY.ab e Zo (by simp;omega)])).append (j:=bf+1) Zd (sD (q:=1) eh (n8 _) rfl 1) rfl Zd rfl (by simp[yz];omega) Zo (λe z=>zq (fd e z))
   refine kN ix ?_
   refine cT @lb @bF ⟨?_⟩
   have Bh:∀e,e<j+1+1->e∉cJ:=λe I J=>zq (fd e J)
   have dU:∀e,e<j+1+1->Y X bW e=Y X aX e:=λe z=>by rw[md e Zo (Bh e z),d0 e Zo]
   refine⟨m,Zo,W+1,fk,gC,jN++[As],aAy,a7 dQ,a7 t3,bw,a7 rH,a7 jt,bw,Zo,by simp[adG],by rw[io];simp, ?_,λe z=> ?_,adD.ab (dU fx Zo) (λe z=>dU e (zq (bE e z))),⟨Zo,λe I J=> ?_⟩⟩
   ·have:yz (jN++[As])=yz jN++[.Z As]:=by simp[yz]
    rw[this];exact .inl A5
   ·rcases vW e z with rfl|a
    ·omega
    ·have:=fd e a;omega
   ·rw[dU e I,dY.ab e Zo J];exact dl.ab e I J
end
def yM(ai:List Go.aR.Node):Int×Int:=if (lx ai).1≠0 then lx ai else match E6 ai with|some F=>(28,F)|none=>(0,0)
section
variable{X:cb}{h T aP aM:K ag}{j an aG a1:Nat}{P:Nat->Prop}
def aoe{ai:List Go.aR.Node}{p ac:D}{c3:Nat->Prop}(a:DG X h ai P c3 p ac):∃v,ac= .tuple [v, .agg [.Z (lx ai).1, .Z (lx ai).2]]:=by
 unfold DG at a
 by_cases aA:(lx ai).1=0
 ·rw[Zu aA]at a
  obtain⟨v,rfl,_⟩:=a
  have:lx ai=(0,0):=by
   unfold lx at aA ⊢
   split at aA
   ·rename_i a;exact absurd aA a
   ·rename_i a
    rw[Zg a]
    split at aA
    ·simp at aA
    ·rfl
  exact⟨v,by rw[this]⟩
 ·rw[Zg aA]at a
  exact⟨_,a⟩
set_option maxRecDepth 100000 in
def aob(aw:iI X)(bT:lV X)(eN:rT X)(gY:xD X)(er:DK X){ai:List Go.aR.Node}{p:D}(aE:(o X).a2<=j)(bU:nQ X h P ai p)(bE:∀e,P e->(o X).a2<=e/\e<j)(bt:∀g∈ai,mQ gV g)(aS:ai≠[])(az:nC ai=none):
 aY X 48 [p] h j (λac T an=>ac= .agg [.Z (yM ai).1, .Z (yM ai).2]/\bo X h j T an) (λ_ _ _=>False):=by
 refine zx aw.todu (amb X) ?_
 rw[amc]
 unfold aar
 refine pq ?_
 generalize dZ:Go.bd.bn X h j _=aP
 have b3:Y X aP j=zu [.Z 0, .Z 0] 2:=by rw[<-dZ,bg aE];rfl
 have bN:bo X h j aP (j+1):=by rw[<-dZ];exact dM
 clear dZ
 refine(abC (j:=j+1) aw bT eN gY er Zo (bU.ab (bm:=P) (λe z=>bN.ab e (bE e z).2) (λ_ a=>a)) (λe z=>by have:=bE e z;exact⟨this.1,Zo⟩) bt aS az).Zm ?_
 rintro ac aM a1 ⟨ls,bJ⟩
 obtain⟨v,rfl⟩:=aoe ls
 clear ls
 have f7:=bJ.le
 have jk:=bN.trans bJ
 have b7:Y X aM j=zu [.Z 0, .Z 0] 2:=by rw[bJ.ab _ Zo];exact b3
 have La:(lx ai).1≠0->yM ai=lx ai:=λa=>by unfold yM;rw[Zu a]
 have Lb:(lx ai).1=0->yM ai=match E6 ai with|some F=>(28,F)|none=>(0,0):=λa=>by unfold yM;rw[Zg (by simp[a])]
 generalize lx ai=Bv at La Lb ⊢
 obtain⟨cc,vy⟩:=Bv
 simp only at La Lb
 refine cK ⟨?_⟩
 generalize e9:Go.bd.bn X _ a1 _=aX
 have cS:Y X aX a1=zu [.Z cc, .Z vy] 2:=by rw[<-e9,bg Zo];rfl
 have cP:∀e,e<a1->Y X aX e=Y X aM e:=λe z=>by rw[<-e9];exact zw
 clear e9
 have cg:bo X h j aX (a1+1):=⟨Zo,λe z=>by rw[cP e Zo];exact jk.ab e z⟩
 rw[<-cP j Zo]at b7
 by_cases aA:cc=0
 ·have pG:=Lb aA
  subst aA
  clear La Lb
  have d:decide ((0:Int)≠0)=false:=rfl
  have kZ:∀e,P e->Y X aX e=Y X h e:=λe z=>cg.ab e (bE e z).2
  obtain⟨iV,Bq,L5,br,rfl,jA,a0,cA,kK⟩:=bU.ab (bm:=P) kZ (λ_ a=>a)
  have yr:=kK.wide
  have d5:=cA.len
  have hO:=cA.many
  rw[yr.1]at d5 hO
  refine gx (bO cS) @d @a0 @d5 ⟨?_⟩
  refine fK (λm H T aU=>∃(W:Nat),H.g 2=some (.ptr j 0)/\H.g 23=some Bq/\H.g 24=some (.Z (ai.length:Int))/\H.g 25=some (.Z (W:Int))/\W+m=ai.length/\(ai.take W).findSome? UP=none/\bo X aX (a1+1) T aU)
   ai.length ⟨0,bw,bw,bw,fW,Zo,rfl,bo.refl _ _⟩ ?_
  rintro m H bW b4 ⟨W,dQ,I1,rI,jY,bK,j9,dJ⟩
  have ib:=dJ.le
  have fS:Y X bW j=zu [.Z 0, .Z 0] 2:=by rw[dJ.ab _ Zo];exact b7
  have Fb:∀e,P e->Y X bW e=Y X aX e:=λe z=>by have:=bE e z;exact dJ.ab e Zo
  cases m with
  |zero=>
   have d:=zr W ai.length
   rw[Zx Zo]at j9
   have jn:E6 ai=none:=j9
   rw[jn]at pG
   simp only[]at pG
   rw[pG]
   refine eF @jY @rI @d @dQ @fS @Dy @I7 ⟨?_⟩
   exact⟨rfl,⟨Zo,λe z=>by rw[aI aE Zo,dJ.ab e Zo];exact cg.ab e z⟩⟩
  |succ m=>
   have d:=zs W ai.length
   have bF:=zv W
   obtain⟨g,kX⟩:=zt ai W
   have mx:=Zj kX
   obtain⟨row,e3,jD⟩:=kK.get W g kX
   have dS:=cA.f3 W (by rw[yr.1];omega)
   have ic:=(cA.ab Fb).row Zd e3
   have jE:=jD.jH
   obtain⟨dj,dG,jJ,eP,bQ,cf,cM,ew,gz,rfl,oP,my,qz,j8,e2⟩:=jD
   have lM:=e2.wide
   have aey:=j8.len
   have atG:=j8.many
   rw[lM.1]at aey atG
   refine iM @jY @rI @I1 @d @dS @ic ⟨?_⟩
   refine fw (hF (q:=6) (b:=b4) (U:=0) (n:=6) (c:=K.ofList [.str [], .Z 0, .aV, .aV, .aV, .aV] 0 .nil) (bg Zo) Zo rfl Zd Zd jE) ?_
   generalize fB:Go.bd.bn X _ b4 _=b9
   have dT:Y X b9 b4=zu [.str g.name, .Z g.at_,dj,dG,jJ,eP] 6:=by rw[<-fB,bg Zo];rfl
   have dy:∀e,e<b4->Y X b9 e=Y X bW e:=λe z=>by rw[<-fB];exact zw
   clear fB
   have eG:bo X aX (a1+1) b9 (b4+1):=⟨Zo,λe z=>by rw[dy e Zo];exact dJ.ab e z⟩
   refine cT (bO dT) @aey ⟨?_⟩
   refine fK (λm H T aU=>∃(ah:Nat),H.g 2=some (.ptr j 0)/\H.g 23=some Bq/\H.g 24=some (.Z (ai.length:Int))/\H.g 25=some (.Z (W:Int))/\H.g 30=some eP/\H.g 31=some (.Z (g.eqs.length:Int))/\H.g 32=some (.Z (ah:Int))/\ah+m=g.eqs.length/\(g.eqs.take ah).findSome? E7=none/\bo X aX (a1+1) T aU)
    g.eqs.length ⟨0,a7 dQ,a7 I1,a7 rI,a7 jY,bw,bw,fW,Zo,rfl,eG⟩ ?_
   clear dQ I1 rI jY
   rintro fq H cB ef ⟨ah,dQ,I1,rI,jY,w5,Du,Wr,bL,HE,eW⟩
   have n5:=eW.le
   have eY:Y X cB j=zu [.Z 0, .Z 0] 2:=by rw[eW.ab _ Zo];exact b7
   have ru:∀e,P e->Y X cB e=Y X aX e:=λe z=>by have:=bE e z;exact eW.ab e Zo
   cases fq with
   |zero=>
    have d:=zr ah g.eqs.length
    rw[Zx Zo]at HE
    refine gg @Wr @Du @d @jY @bF ⟨?_⟩
    exact⟨m,Zo,W+1,a7 dQ,a7 I1,a7 rI,bw,Zo,by rw[Ek kX j9];exact HE,eW⟩
   |succ fq=>
    have d:=zs ah g.eqs.length
    have cn:=zv ah
    obtain⟨eq,A1⟩:=zt g.eqs ah
    obtain⟨azL,A4,tu⟩:=e2.get ah eq A1
    have pD:=j8.f3 ah (by rw[lM.1];omega)
    have Lf:=(j8.ab ru).row Zd A4
    obtain⟨ky,mI,db,dx,k8,rfl,hA,ka,mz,nA⟩:=tu
    have au9:=((bt g mx).eqs eq (Zj A1)).right
    obtain⟨cR,rfl,v6,_⟩:=mz.ptr
    refine iM @Wr @Du @w5 @d @pD @Lf ⟨?_⟩
    refine fw (hF (q:=4) (b:=ef) (U:=0) (n:=4) (c:=K.ofList [.aV, .aV, .Z 0, .cx] 0 .nil) (bg Zo) Zo rfl Zd Zd nA) ?_
    generalize rg:Go.bd.bn X _ ef _=dX
    have h7:Y X dX ef=zu [ky,mI, .Z eq.at_, .ptr cR 0] 4:=by rw[<-rg,bg Zo];rfl
    have hS:∀e,e<ef->Y X dX e=Y X cB e:=λe z=>by rw[<-rg];exact zw
    clear rg
    refine ci (bO h7) ⟨?_⟩
    generalize uH:Go.bd.bn X dX (ef+1) _=ee
    have mW:Y X ee (ef+1)=zu [.cx] 1:=by rw[<-uH,bg Zo];rfl
    have hs:∀e,e<ef+1->Y X ee e=Y X dX e:=λe z=>by rw[<-uH,aI Zo Zo]
    clear uH
    have acK:Y X ee ef=zu [ky,mI, .Z eq.at_, .ptr cR 0] 4:=by rw[hs _ Zo];exact h7
    have av7:∀e,P e->Y X ee e=Y X aX e:=λe z=>by have:=bE e z;rw[hs e Zo,hS e Zo,ru e z]
    have jS:bo X aX (a1+1) ee (ef+1+1):=⟨Zo,λe z=>by rw[hs e Zo,hS e Zo];exact eW.ab e z⟩
    refine ci (bO acK) ⟨?_⟩
    refine(aoG (P:=P) (fx:=ef+1) (dK:=ef+1+1) aw.todu Zo Zo (λa=>zq (bE _ a)) (λe z=>zq (bE e z)) (SizeOf.sizeOf eq.right+1) eq.right (Yq _) au9 (.ptr cR 0) ee (ef+1+1) none Zo (Zi _) (cy.ab av7 _ _ mz) ⟨⟨_, .cx,mW,rfl,λ_=>rfl,λF a=>by cases a⟩⟩).Zm ?_
    rintro ac gM d1 ⟨rfl,asf,Tj⟩
    have aDf:=Tj.le
    have Ew:bo X aX (a1+1) gM d1:=⟨Zo,λe z=>by rw[Tj.ab e Zo (by simp;omega)];exact jS.ab e z⟩
    have hN:Y X gM j=zu [.Z 0, .Z 0] 2:=by rw[Ew.ab _ Zo];exact b7
    have Em:Y X gM ef=zu [ky,mI, .Z eq.at_, .ptr cR 0] 4:=by rw[Tj.ab _ Zo Zs];exact acK
    obtain⟨c,v,lf,mM,WF,Mx⟩:=asf.at_
    have Vu:aO X gM (.ptr (ef+1) 0)=some v:=by rw[bO lf];exact mM
    have CC:E7 eq=match l5 eq.right none with|(_,some F)=>some F|(d,none)=>if 0<d then some eq.at_ else none:=rfl
    generalize l5 eq.right none=dE at*
    obtain⟨As,aA2⟩:=dE
    simp only at WF Mx CC ⊢
    have bad:∀(F:Int) (Gk:K ag) (dV:Nat),E7 eq=some F->(∀e,e<j->Y X Gk e=Y X gM e)->d1<=dV->(D.agg [.Z 28, .Z F]= .agg [.Z (yM ai).1, .Z (yM ai).2]/\bo X h j Gk dV):=λF Gk dV aC aD yp=>by
     have jn:E6 ai=some F:=GX kX j9 (GX A1 HE aC)
     rw[jn]at pG
     simp only[]at pG
     rw[pG]
     exact⟨rfl,Zo,λe z=>by rw[aD e z,Ew.ab e Zo];exact cg.ab e z⟩
    cases aA2 with
    |some F=>
     obtain⟨tc,rfl,eV,iZ⟩:=Mx F rfl
     have c8:=axB (X:=X) (h:=gM) tc 0
     refine eF @Vu @c8 @iZ @dQ @hN @Dy @I7 ⟨?_⟩
     exact bad F _ _ CC (λe z=>aI aE Zo) (Zi _)
    |none=>
     have bD:=WF rfl
     subst bD
     have CC:E7 eq=if 0<As then some eq.at_ else none:=CC
     by_cases aH:0<As
     ·have aJ:decide (0<As)=true:=by simp[aH]
      rw[Zu aH]at CC
      refine eF @Vu @agq @aJ (bO Em) @dQ @hN (Za @Dy @I7) ⟨?_⟩
      exact bad eq.at_ _ _ CC (λe z=>aI aE Zo) (Zi _)
     ·have aJ:decide (0<As)=false:=by simp only[Zb];exact aH
      rw[Zg aH]at CC
      refine gg @Vu @agq @aJ @Wr @cn ⟨?_⟩
      exact⟨fq,Zo,ah+1,a7 dQ,a7 I1,a7 rI,a7 jY,a7 w5,a7 Du,bw,Zo,by rw[Ek A1 HE];exact CC,Ew⟩
 ·have pG:=La aA
  clear La Lb
  have d:decide (cc≠0)=true:=by simp[aA]
  rw[pG]
  refine gg (bO cS) @d @b7 @Dy @I7 ⟨?_⟩
  exact⟨rfl,⟨Zo,λe z=>by rw[aI aE Zo];exact cg.ab e z⟩⟩
end
def mn(ai:List Go.aR.Node)(t:bi->Option ej)(E:be):de:=match lJ ai t E with| .ok (x::_)=>x|_=>dH
def Ei(ai:List Go.aR.Node)(t:bi->Option ej)(ah:fc):fc:=⟨ah.left,ah.c7,ah.at_,i1 (mn ai t) ah.right⟩
def q5(ai:List Go.aR.Node)(g:Go.aR.Node):Go.aR.Node:=⟨g.name,g.at_,g.ez,g.out,g.loc,g.eqs.map (Ei ai (fH g))⟩
def ln(ai:List Go.aR.Node):List Go.aR.Node:=ai.map (q5 ai)
section
variable{ai:List Go.aR.Node}{t:bi->Option ej}
def Wx{E:be}{row:List de}(a:lJ ai t E= .ok row):mn ai t E=row.headD dH:=by unfold mn;rw[a];cases row<;>rfl
def ap1(nm:bi)(arc:List Go.aR.Node):∀(ai:List Go.aR.Node) (q:Nat),x0 nm q (ai.map (q5 arc))=x0 nm q ai:=by
 intro ai
 induction ai with
 |nil=>intro q;rfl
 |cons g ai al=>intro q;rw[ZL,x0,x0,al];rfl
def Sy(nm:bi):nv (ln ai) nm=nv ai nm:=ap1 nm ai ai 0
def an5(nm:bi)(F:List de):Ak (ln ai) nm F=Ak ai nm F:=by
 unfold Ak
 rw[Sy,ln,Zy]
 cases ai[(nv ai nm).getD 0]? <;>rfl
def azM(q at_:Int)(nm:bi)(no:Bool)(ty:de)(n:Int)(k c4:List be)(F:List de):iq (ln ai) t (.mk q at_ nm no ty n k) F=iq ai t (.mk q at_ nm no ty n c4) F:=by
 unfold iq
 simp only[an5]
 rfl
def Sp{q at_:Int}{nm:bi}{no:Bool}{ty:de}{n:Int}{args:List be}{row:List de}(a:lJ ai t (.mk q at_ nm no ty n args)= .ok row):∃bV,j1 ai t args= .ok (bV,true)/\iq ai t (.mk q at_ nm no ty n args) bV=(row,true):=by
 rw[lJ]at a
 cases aC:j1 ai t args with
 |error F=>rw[aC]at a;cases a
 |ok r=>
  obtain⟨bV,one⟩:=r
  rw[aC]at a
  simp only at a
  cases one with
  |false=>simp at a
  |true=>
   simp only[Bool.true_eq_false,ZA]at a
   generalize ic:iq ai t (.mk q at_ nm no ty n args) bV=azQ at a
   obtain⟨eL,e7⟩:=azQ
   cases e7 with
   |false=>simp at a
   |true=>simp at a;subst a;exact⟨bV,rfl,ic⟩
def Nf{E:be}{k:List be}{r:List de}(a:j1 ai t (E::k)= .ok (r,true)):∃x gb,r=x::gb/\lJ ai t E= .ok [x]/\j1 ai t k= .ok (gb,true):=by
 rw[j1]at a
 cases bs:lJ ai t E with
 |error F=>rw[bs]at a;cases a
 |ok ah=>
  rw[bs]at a
  simp only at a
  cases az:j1 ai t k with
  |error F=>rw[az]at a;cases a
  |ok cw=>
   obtain⟨bV,one⟩:=cw
   rw[az]at a
   match ah,a with
   |[x],a=>simp at a;obtain⟨rfl,rfl⟩:=a;exact⟨x,bV,rfl,rfl,rfl⟩
def Sq{q at_:Int}{nm:bi}{no:Bool}{ty:de}{n:Int}{args:List be}{row bV:List de}(aC:j1 ai t args= .ok (bV,true))(V:iq ai t (.mk q at_ nm no ty n args) bV=(row,true)):lJ ai t (.mk q at_ nm no ty n args)= .ok row:=by
 rw[lJ,aC]
 simp[V]
def aba{E:be}{k:List be}{x:de}{r:List de}(bs:lJ ai t E= .ok [x])(az:j1 ai t k= .ok (r,true)):j1 ai t (E::k)= .ok (x::r,true):=by
 rw[j1,bs,az]
def apQ(ty:de):lJ ai t (o4 ty)= .ok [ty]:=Sq (bV:=[]) (by rw[j1]) rfl
mutual
def aco:∀(E:be) (row:List de),d2 gV E->lJ ai t E= .ok row->lJ (ln ai) t (i1 (mn ai t) E)= .ok row
 | .mk q F nm no ty n args,row,bt,a=>by
   have UG:=Wx a
   obtain⟨bV,aC,V⟩:=Sp a
   rw[d2]at bt
   have kJ:=abb args bV bt.2 aC
   rw[i1]
   by_cases bk:q=5
   ·subst bk
    obtain⟨x,af⟩:=Nd bt.1 rfl
    have af:args=[x]:=af
    subst af
    obtain⟨e,gb,rfl,cG,cw⟩:=Nf aC
    rw[j1]at cw;cases cw
    have e3:row=[e]:=by
     have:iq ai t (.mk 5 F nm no ty n [x]) [e]=([e],true):=rfl
     rw[this]at V;cases V;rfl
    subst e3
    rw[GW (by rfl),UG]
    refine Sq (aba (apQ e) kJ) ?_
    show([e],rB [e,e])=_
    simp[rB]
   ·rw[Cj (E:= .mk q F nm no ty n args) bk,Z8,Kb bk]
    exact Sq kJ ((azM q F nm no ty n _ args bV).trans V)
def abb:∀(k:List be) (r:List de),e0 gV k->j1 ai t k= .ok (r,true)->j1 (ln ai) t (hj (mn ai t) k)= .ok (r,true)
 |[],r,_,a=>by rw[j1]at a;rw[hj,j1];exact a
 |E::k,r,bt,a=>by
  rw[e0]at bt
  obtain⟨x,gb,rfl,I,J⟩:=Nf a
  rw[hj]
  exact aba (aco E [x] bt.1 I) (abb k gb bt.2 J)
end
def azO(bU:∀g∈ai,∀d∈g.out,gR d.ty=true)(a6:∀w v,t w=some v->gR v.d.ty=true){E:be}{bV:List de}(aD:xF gV E)(aE:pY E=true->(t E.name).isSome=true)(az:bV.length=E.args.length)(bp:∀e∈bV,gR e=true):∀e∈(iq ai t E bV).1,gR e=true:=by
 have c8:E.kind≠1->E.kind≠2->E.kind≠25->gR (bV.headD dH)=true:=by
  intro I J ra
  have:∃m,nq E.kind=some (m+1):=by
   unfold nq
   rw[Zg ra,Zg Zo]
   split
   ·exact⟨0,rfl⟩
   ·split
    ·exact⟨2,rfl⟩
    ·exact⟨1,rfl⟩
  obtain⟨m,tr⟩:=this
  have:=aD.qh _ tr
  match bV,az,bp with
  |[],az,_=>simp at az;omega
  |x::bV,_,bp=>exact bp x (Zq ..)
 unfold iq
 dsimp only
 by_cases ah:E.kind=1
 ·rw[Zu ah]
  intro e z;simp at z;subst z;exact aD.ty (.inl ah)
 rw[Zg ah]
 clear ah
 by_cases ah:E.kind=2
 ·rw[Zu ah]
  intro e z;simp at z;subst z
  have:=aE (by simp[pY,ah])
  unfold od
  cases bL:t E.name with
  |none=>rw[bL]at this;cases this
  |some v=>exact a6 _ v bL
 rw[Zg ah]
 clear ah
 by_cases ah:E.kind=3\/E.kind=5
 ·rw[Zu ah]
  intro e z;rw[Yu.1 z];exact c8 Zo Zo Zo
 rw[Zg ah]
 clear ah
 by_cases ah:E.kind=4\/E.kind=19\/E.kind=20
 ·rw[Zu ah]
  intro e z;rw[Yu.1 z];exact c8 Zo Zo Zo
 rw[Zg ah]
 clear ah
 by_cases ah:E.kind=6
 ·rw[Zu ah]
  intro e z;rw[Yu.1 z];exact c8 Zo Zo Zo
 rw[Zg ah]
 clear ah
 by_cases ah:E.kind=7\/E.kind=8\/E.kind=9\/E.kind=21\/E.kind=22
 ·rw[Zu ah]
  intro e z;rw[Yu.1 z];exact c8 Zo Zo Zo
 rw[Zg ah]
 clear ah
 by_cases ah:E.kind=16\/E.kind=17\/E.kind=18
 ·rw[Zu ah]
  intro e z;rw[Yu.1 z];exact c8 Zo Zo Zo
 rw[Zg ah]
 clear ah
 by_cases ah:E.kind=10\/E.kind=11
 ·rw[Zu ah]
  intro e z;simp at z;subst z;rfl
 rw[Zg ah]
 clear ah
 by_cases ah:E.kind=12\/E.kind=13\/E.kind=14\/E.kind=15
 ·rw[Zu ah]
  intro e z;simp at z;subst z;rfl
 rw[Zg ah]
 clear ah
 by_cases ah:E.kind=23
 ·rw[Zu ah]
  intro e z;simp at z;subst z
  have:=aD.qh 3 (by rw[ah];decide)
  match bV,az,bp with
  |F::b::bV,_,bp=>exact bp b Zs
  |[],az,_=>simp at az;omega
  |[F],az,_=>simp at az;omega
 rw[Zg ah]
 clear ah
 by_cases ah:E.kind=24
 ·rw[Zu ah]
  intro e z;rw[Yu.1 z];exact c8 Zo Zo Zo
 rw[Zg ah]
 clear ah
 by_cases ah:E.kind=26
 ·rw[Zu ah]
  intro e z;simp at z;subst z;exact aD.ty (.inr ah)
 rw[Zg ah]
 clear ah
 ·unfold Ak
  cases bL:ai[(nv ai E.name).getD 0]? with
  |none=>intro e z;simp at z
  |some g=>
   intro e z
   obtain⟨d,aH,rfl⟩:=ZE.1 z
   exact bU g (Zj bL) d aH
mutual
def acp(bU:∀g∈ai,∀d∈g.out,gR d.ty=true)(a6:∀w v,t w=some v->gR v.d.ty=true):∀(E:be) (row:List de),d2 gV E->(∀x∈oe E,pY x=true->(t x.name).isSome=true)->lJ ai t E= .ok row->(∀e∈row,gR e=true)/\∀x∈oe E,x.kind=5->gR (mn ai t x)=true
 | .mk q F nm no ty n args,row,bt,aE,a=>by
   have UG:=Wx a
   obtain⟨bV,aC,V⟩:=Sp a
   rw[d2]at bt
   obtain⟨I,J,am⟩:=abc bU a6 args bV bt.2 (λx af=>aE x (by rw[oe];exact Zt _ af)) aC
   have e3:=azO bU a6 bt.1 (aE _ (ag7 _)) I J
   rw[V]at e3
   refine⟨e3,λx af bk=> ?_⟩
   rw[oe]at af
   rcases Zr.1 af with rfl|af
   ·rw[UG]
    have bk:q=5:=bk
    subst bk
    have cn:iq ai t (.mk 5 F nm no ty n args) bV=([bV.headD dH],true):=rfl
    rw[cn]at V
    cases V
    exact e3 _ (Zq ..)
   ·exact am x af bk
def abc(bU:∀g∈ai,∀d∈g.out,gR d.ty=true)(a6:∀w v,t w=some v->gR v.d.ty=true):∀(k:List be) (r:List de),e0 gV k->(∀x∈og k,pY x=true->(t x.name).isSome=true)->j1 ai t k= .ok (r,true)->r.length=k.length/\(∀e∈r,gR e=true)/\∀x∈og k,x.kind=5->gR (mn ai t x)=true
 |[],r,_,_,a=>by rw[j1]at a;cases a;exact⟨rfl,Zs,λx af=>by rw[og]at af;cases af⟩
 |E::k,r,bt,aE,a=>by
  rw[e0]at bt
  rw[og]at aE
  obtain⟨x,gb,rfl,I,J⟩:=Nf a
  obtain⟨bR,cq⟩:=acp bU a6 E [x] bt.1 (λx af=>aE x (List.mem_append_left _ af)) I
  obtain⟨e6,fq,k2⟩:=abc bU a6 k gb bt.2 (λx af=>aE x (List.mem_append_right _ af)) J
  refine⟨by simp[e6],λe z=> ?_,λe z=> ?_⟩
  ·rcases Zr.1 z with rfl|z
   ·exact bR _ (Zq ..)
   ·exact fq e z
  ·rw[og]at z
   rcases Zz.1 z with z|z
   ·exact cq e z
   ·exact k2 e z
end
def ahS(g:Go.aR.Node):fH (q5 ai g)=fH g:=by
 unfold fH
 show((g.eqs.map (Ei ai (fH g))).zipIdx.foldl ID (nF g).1)=_
 rw[List.zipIdx_map,List.foldl_map]
 rfl
def aBb{g:Go.aR.Node}{w:bi}{v:ej}(a:fH g w=some v):∃x∈hM g,v.d=x.2:=by
 have I:=aBa g w
 rw[a]at I
 have key:∀w v,(nF g).1 w=some v->∃x∈hM g,v.d=x.2:=by
  unfold nF
  refine aqa (nO:=λs:(bi->Option ej)×List bi=>∀w v,s.1 w=some v->∃x∈hM g,v.d=x.2) _ _ (λw v a=>by cases a) λs x af aF w v bD=> ?_
  unfold wO at bD
  split at bD
  ·exact aF w v bD
  ·simp only at bD
   split at bD
   ·cases bD;exact⟨x,af,rfl⟩
   ·exact aF w v bD
 cases bL:(nF g).1 w with
 |none=>rw[bL]at I;cases I
 |some gK=>
  rw[bL]at I
  simp only[ZU,Zf,yY,YP]at I
  obtain⟨x,af,E⟩:=key w gK bL
  exact⟨x,af,I.2.trans E⟩
end
section
variable{ai:List Go.aR.Node}
def axK{q:Nat}{g:Go.aR.Node}(a:(qF ai q g).1=0):(qF (ln ai) q (q5 ai g)).1=0:=by
 unfold qF at a ⊢
 have aE:rA (ln ai) q (q5 ai g)=rA ai q g:=by unfold rA;rw[Sy];rfl
 rw[aE,ahS]
 rw[ah7]at a ⊢
 obtain⟨I,J⟩:=a
 obtain⟨cw,d9,fQ⟩:=(VV (fH g) ai q g.eqs (λ_=>none,vF (fH g) g (rA ai q g)) (λ_=>Zs)).1 I
 have az:(q5 ai g).eqs.flatMap fc.left=g.eqs.flatMap fc.left:=by
  show(g.eqs.map (Ei ai (fH g))).flatMap fc.left=_
  rw[List.flatMap_map]
  rfl
 refine⟨(VV (fH g) (ln ai) q (q5 ai g).eqs (λ_=>none,vF (fH g) (q5 ai g) (rA ai q g)) (λ_=>Zs)).2 ⟨cw,λw bt=> ?_,λah bL=> ?_⟩,λx af=> ?_⟩
 ·rw[az]at bt ⊢
  exact d9 w bt
 ·obtain⟨ml,si,rfl⟩:=ZE.1 bL
  intro f0 pK
  rcases ag6 _ _ pK with E|⟨x,af,bF,cn⟩
  ·exact⟨λaE=>by simp[pY,E]at aE,λa=>by rw[E]at a;cases a⟩
  ·obtain⟨eL,e7⟩:=fQ ml si x af
   rw[Sy,bF]
   rcases cn with cn|cn
   ·exact⟨λaE=>eL (by simpa[pY,cn]using aE),λa=>e7 (by rw[<-cn];exact a)⟩
   ·exact⟨λaE=>by simp[pY,cn]at aE,λa=>by rw[cn]at a;cases a⟩
 ·have:=J x af
  rw[ay5]at this ⊢
  rw[az]
  exact this
def aoc:∀(k:List Go.aR.Node) (q:Nat),(xR ai q k).1=0->(xR (ln ai) q (k.map (q5 ai))).1=0:=by
 intro k
 induction k with
 |nil=>intro q _;rfl
 |cons g k al=>
  intro q a
  rw[xR]at a
  rw[ZL,xR]
  split at a
  ·rename_i I;exact absurd a I
  ·rename_i I
   rw[Zg (by simp only[ne_eq,Decidable.not_not]at I ⊢;exact axK I)]
   exact al _ a
def apA{t:bi->Option ej}{ah:fc}(bt:d2 gV ah.right)(a:q3 ai t ah=none):q3 (ln ai) t (Ei ai t ah)=none:=by
 unfold q3 at a ⊢
 cases bs:lJ ai t ah.right with
 |error F=>rw[bs]at a;cases a
 |ok row=>
  rw[bs]at a
  have:=aco ah.right row bt bs
  show(match lJ (ln ai) t (i1 (mn ai t) ah.right)with| .error F=>some F| .ok row=>if (1<ah.left.length/\(i1 (mn ai t) ah.right).kind≠25)\/row≠ah.left.map (od t)then some ah.at_ else none)=none
  rw[this,Ka]
  simp only at a ⊢
  have aD:r4 ah.right.kind≠25->ah.right.kind≠25:=λI J=>I (by rw[J];rfl)
  split at a
  ·cases a
  ·rename_i bL
   rw[Zg λaf=>bL (af.imp (λe=>⟨e.1,aD e.2⟩) id)]
def axN{g:Go.aR.Node}(bt:mQ gV g)(a:u6 ai g=none):u6 (ln ai) (q5 ai g)=none:=by
 unfold u6 at a ⊢
 rw[ahS]
 have aH:GN (fH g) (q5 ai g)=GN (fH g) g:=rfl
 rw[aH]
 split at a
 ·cases a
 ·rename_i I
  rw[Yv]at a ⊢
  intro ah bL
  obtain⟨ml,si,rfl⟩:=ZE.1 bL
  exact apA (bt.eqs ml si).right (a ml si)
def apT(bt:∀g∈ai,mQ gV g)(az:nC ai=none)(a:(lx ai).1=0):(∀g∈ln ai,mQ gV g)/\nC (ln ai)=none/\yM (ln ai)=(0,0):=by
 have I:=azn a
 have J:BD ai=none:=by
  unfold lx at a
  rw[Zg (by simp[I])]at a
  cases ay:BD ai with
  |none=>rfl
  |some F=>rw[ay]at a;cases a
 have AH:∀g∈ai,u6 ai g=none:=by
  unfold BD at J
  rw[Yv]at J
  exact J
 have bU:∀g∈ai,∀d∈g.out,gR d.ty=true:=λg bU d aH=>((bt g bU).out d aH).type
 have a6:∀g∈ai,∀w v,fH g w=some v->gR v.d.ty=true:=λg bU w v bD=>by
  obtain⟨x,af,E⟩:=aBb bD
  rw[E]
  exact(ao6 (bt g bU) af).type
 have A8:∀g∈ai,∀ah∈g.eqs,d2 gV (i1 (mn ai (fH g)) ah.right):=λg mx ah bL=>by
  obtain⟨q,aD⟩:=azE I mx bL
  have mA:=((bt g mx).eqs ah bL).right
  have aE:=AH g mx
  unfold u6 at aE
  split at aE
  ·cases aE
  ·rw[Yv]at aE
   have ka:=aE ah bL
   unfold q3 at ka
   cases bs:lJ ai (fH g) ah.right with
   |error F=>rw[bs]at ka;cases ka
   |ok row=>exact aik _ mA (acp bU (a6 g mx) _ row mA (λx af=>(aD x af).1) bs).2
 have qB:∀g∈ln ai,mQ gV g:=λg mx=>by
  obtain⟨h6,aS,rfl⟩:=ZE.1 mx
  have aD:=bt h6 aS
  refine⟨aD.name,aD.ez,aD.out,aD.loc,aD.some,λah bL=> ?_,aD.ap⟩
  obtain⟨ml,si,rfl⟩:=ZE.1 bL
  have sk:=aD.eqs ml si
  exact⟨sk.left,sk.some,A8 h6 aS ml si,sk.ap,sk.aw3⟩
 have oR:nC (ln ai)=none:=by
  have key:∀k:List Go.aR.Node,(∀g∈k,mQ gV g)->pV k=none->pV (k.map (q5 ai))=none:=by
   intro k
   induction k with
   |nil=>intro _ _;rfl
   |cons g k al=>
    intro oY a
    rw[ZL]
    unfold pV at a ⊢
    split at a
    ·cases a
    ·rename_i bL
     rw[Zg (by show ¬(256<g.ez.length+g.out.length+g.loc.length\/4096<(g.eqs.map _).length);rw[Zn];exact bL)]
     split at a
     ·cases a
     ·rename_i bs
      have:wI (q5 ai g).eqs=none:=(af1 _).2 λah bL=>by
       obtain⟨ml,si,rfl⟩:=ZE.1 bL
       show fO 201 (i1 _ ml.right)<=200
       rw[atd 201 ml.right ((oY g (Zq ..)).eqs ml si).right]
       exact(af1 _).1 bs ml si
      rw[this]
      exact al (λg bU=>oY g (Zt _ bU)) a
  unfold nC at az ⊢
  rw[ln,Zy]
  cases bL:ai[64]? with
  |some g=>rw[bL]at az;cases az
  |none=>rw[bL]at az;exact key ai bt az
 refine⟨qB,oR, ?_⟩
 have aA:(uo (ln ai)).1=0:=aoc ai 0 I
 have tB:BD (ln ai)=none:=by
  unfold BD
  rw[Yv]
  intro g mx
  obtain⟨h6,aS,rfl⟩:=ZE.1 mx
  exact axN (bt h6 aS) (AH h6 aS)
 have V:lx (ln ai)=(0,0):=by unfold lx;rw[Zg (by simp[aA]),tB]
 have aN:E6 (ln ai)=none:=(avF (bA:=gV) λg bU ah bL=>((qB g bU).eqs ah bL).right).2 (by
  rw[YI]
  intro g mx
  rw[YI]
  intro ah bL
  obtain⟨h6,aS,rfl⟩:=ZE.1 mx
  obtain⟨ml,si,rfl⟩:=ZE.1 bL
  have:=afL (H:=mn ai (fH h6)) ml.right ((bt h6 aS).eqs ml si).right
  unfold P1
  show(so (i1 _ ml.right)&&xM (i1 _ ml.right))=true
  rw[this.1,this.2];rfl)
 unfold yM
 rw[V,aN]
 rfl
end
end
end Go.Proofs.YtpfajohmofnkfaaGreatDoor

namespace Go.Proofs.YtpfajohmofnkfaaGreatDoor
open Go.bd
noncomputable section
variable (X : cb) (h : K ag) (j : Nat) (ak av : bI) (a0 ba cj a3 a4 a5 hy h3 h4 : D)
def W8(a:aL)(b:D)(c:K ag)(d:Nat)(e f:bI):Prop:=
 aiD b a c 2000 λg=>WS a 15 g c d f λc d g h i=>bB (λb c d=>qb b λg=>Q3 a c g λg=>bB (λb c d=>xx b 3 a 31 c d f λc d g=>hn c λc h=>Jj g a d λd g i=>nk a g d c λc=>aiC b a c h λc g=>bB (λb c d=>kP b 3 0 a c λ_ _ g=>je g (λb c d=>xx b 3 a 48 c d f λb c d=>F5 λg=>ax (dw a c .eql 26 false b g) λb=>m4 b (λb=>aY a 50 [] c d b f) c d λa c d=>dh (λa=>e a c d) λc=>aZ b (c a) (c .zF)) λe h=>fF (λb c d e=>hJ c 39 38 λg=>bB (λc d e=>mN (λa c d=>gU a 39 λe=>b (aa a 39 e) c d) c 37 39 λb g h=>DB g h a d e λd e g=>fy 5 d a g λ_ h=>DF h b λb i=>fF (λb c d e=>hJ c 46 45 λg=>bB (λc d e=>F2 (λa c d=>gU a 46 λe=>b (aa a 46 e) c d) c 44 46 a d e λb d e g=>fy 3 d a g λ_ h=>ou c λi=>aY a 18 [h, .func (.func 53) [] [i]] g e (λ_ a e=>b (aa c 9 d) a e) f) λa=>aZ g (a (aa c 47 g) d e) (i (aa c 47 g) d e)) (zA c 7 d 44 h 45 b 46 (.Z 0)) g e) λa=>aZ g (a (aa c 40 g) d e) (h (aa c 40 g) d e)) (zz b 37 g 38 e 39 (.Z 0)) c d) λh=>aZ g (aY a 50 [] c i e f) (h (zy b 5 d 32 g) c i)) λa=>aZ g (e .zF c d) (a (aa b 24 g) c d)) λj=>aZ i (aY a 50 [] h g e f) (j (zA (cO [b]) 2 .zF 4 d 3 c 21 i) h g)
def ajj:dg X 11 [a0] h j ak av=W8 X a0 h j ak av:=Zk
def aji:cW X 11 1=true:=Zk
def Ro(a:aL)(b c:D)(d:K ag)(e:Nat)(f g:bI):Prop:=
 h1 b 0 a d λ_ h=>ax (bq .eql h (.Z 5)) λh=>bB (λ_ a b=>f .zT a b) λf=>aZ h (ax (aO a d c) λi=>aY a 54 [i,b] d e (λd e g=>QT d g a e λ_ d e g=>fb (e+18) λi=>it a g d λj=>ax (e8 [.Z 0, .Z 0, .str [], .zF, .zF, .zF, .Z 0, .int .u64 0, .aV] [(0,1, .Z 1),(4,3,j)]) λk=>xP a g (e+4) k λg k=>h1 b 8 a k λ_ l=>xw 1 l λl=>ax (aO a k l) λl=>ax (hi 2 [.cx, .cx] [(0,1,g),(1,1,l)] (e+11)) λg=>mF a k (e+11) g.1 g.2 λe g=>kB b 0 λk=>rO a g k 21 λg=>kB b 8 λk=>it a g d λl=>gT l (some j) (nk a g k e λa=>f (zz (cO [b,c]) 3 .zF 10 h 4 d) a i)) g) (f (zy (cO [b,c]) 3 .zF 10 h) d e)
def aat:dg X 53 [a0,ba] h j ak av=Ro X a0 ba h j ak av:=Zk
def aas:cW X 53 2=true:=Zk
end
end Go.Proofs.YtpfajohmofnkfaaGreatDoor

namespace Go.Proofs.YtpfajohmofnkfaaGreatDoor
open Go.bd Go.aR
noncomputable section
section
variable{X:cb}{h T c6 aP aM:K ag}{j an aG a1:Nat}{P bm c3 ij es:Nat->Prop}
structure sT(X:cb)(c6:K ag)(dK:Nat)(es:Nat->Prop)(h:K ag)(n:Nat):Prop where
 le:dK<=n
 low:∀e,e<dK->¬es e->Y X h e=Y X c6 e
 own:∀e,es e->kR X c6 e->kR X h e
def kj.own{r:Nat}{cE:Nat->Option D}(a:kj X h P r cE)(U1:Y X T r=Y X h r)(q:∀e,P e->kR X h e->kR X T e):kj X T P r cE:=by
 obtain⟨dn,eR,I,J,am⟩:=a
 exact⟨dn,eR,by rw[U1];exact I,J,λx af=>⟨(am x af).1,q _ (am x af).1 (am x af).2⟩⟩
structure MU(X:cb)(c6:K ag)(dK:Nat)(es c3:Nat->Prop)(pd ah r:Nat)(cE:Nat->Option D):Prop where
 aBs:aO X c6 (.ptr pd 0)=some (.ptr ah 0)
 qr:aO X c6 (.ptr ah 0)=some (.map r)
 mp:kj X c6 es r cE
 nM:pd<dK/\¬es pd
 ky:ah<dK/\¬es ah
 Qi:r<dK/\¬es r
 pl:∀e,es e->(o X).a2<=e/\e<dK
 WN:∀e,c3 e->e<dK/\¬es e
 a2:(o X).a2<=dK
structure aiU(X:cb)(h:K ag)(cR jW rG:Nat)(ty:de)(w:D)(T:K ag):Prop where
 lit:Y X T jW=zu (gE 1 0 [] false ty 0 .aV) 9
 aW:Y X T rG=zu [.ptr jW 0,w] 2
 own:kR X T cR
 sn:aO X T (.ptr cR 0)=some (.Z 21)
 hS:aO X T (.ptr cR 8)=some (.slice rG 0 2 2)
 bR:∀U,U≠0->U≠8->aO X T (.ptr cR U)=aO X h (.ptr cR U)
set_option maxRecDepth 100000 in
def apU(aw:du X){dK pd ah r cR:Nat}{cE:Nat->Option D}{E x:be}{ty:de}{w:D}(e4:MU X c6 dK es c3 pd ah r cE)(fi:sT X c6 dK es h j)(bE:∀e,P e->es e)
 (bs:cy X h P E (.ptr cR 0))(aDD:kR X c6 cR)(bk:E.kind=5)(af:E.args=[x])(bt:cE cR=some w)(a6:kE X c6 c3 w [ty]):
 aY X 53 [.ptr cR 0, .ptr pd 0] h j (λac T an=>ac= .zT/\sT X c6 dK es T an/\j<=an/\∃jW rG xc,j<=jW/\jW<rG/\rG<an/\aiU X h cR jW rG ty xc T/\(∀e,e<j->e≠cR->Y X T e=Y X h e)/\
  ∃aW cp,aO X h (.ptr cR 8)=some aW/\dD X h P cp aW 1 [[xc]]) (λ_ _ _=>False):=by
 refine zx aw (aas X) ?_
 rw[aat]
 unfold Ro
 obtain⟨b,aW,cp,a8,aj,Ox,tt,I,eb,cA,has⟩:=agH bs
 cases aj
 obtain⟨_,_,_,_,jB,_,Ht,_⟩:=bs.open
 cases jB
 rw[bk]at Ht
 have gq:=fi.le
 have iQ:=e4.pl cR (bE cR Ox)
 have d:decide ((5:Int)=5)=true:=rfl
 have aA8:aO X h (.ptr pd 0)=some (.ptr ah 0):=zB (fi.low pd e4.nM.1 e4.nM.2) e4.aBs
 have ay4:aO X h (.ptr ah 0)=some (.map r):=zB (fi.low ah e4.ky.1 e4.ky.2) e4.qr
 have aw7:kj X h es r cE:=e4.mp.own (fi.low r e4.Qi.1 e4.Qi.2) fi.own
 have aCd:kE X h c3 w [ty]:=a6.ab (λe z=>fi.low e (e4.WN e z).1 (e4.WN e z).2) (λ_ a=>a)
 have yv:=e4.ky.1
 have HI:=e4.Qi.1
 have gP:=e4.a2
 refine et @Ht @d @aA8 ⟨?_⟩
 refine(aBg (j:=j) (h:=h) (P:=es) (c3:=c3) (t:=ty) aw Zo ay4 Zo Zo aw7 (λe z=>zq (e4.pl e z).2) tt Zo iQ.1 bt aCd (λe z=>zq (e4.WN e z).1)).Zm ?_
 rintro ac aP m ⟨rfl,bN⟩
 have jm:=bN.le
 have tC:=has.len
 rw[af]at tC
 match a8,tC with
 |[xc],_=>
  obtain⟨fC,fe,i3⟩:=cA.one (i:=0) (v:=xc) rfl
  have Hj:=e4.pl cp (bE cp i3)
  obtain⟨Nq,PW,go,yr⟩:=tt
  have aqZ:Y X aP cR=some (.cells Nq PW .own):=by rw[bN.ab cR Zo];exact go
  have arB:aO X aP (.ptr cR 8)=some aW:=zB (bN.ab cR Zo) eb
  have avt:aO X aP (.ptr cp 0)=some xc:=zB (bN.ab cp Zo) fe
  refine cK ⟨?_⟩
  generalize dI:Go.bd.bn X _ m _=aM
  have b7:Y X aM m=zu (ed ty) 3:=by rw[<-dI,bg Zo];rfl
  have cq:∀e,e<m->Y X aM e=Y X aP e:=λe z=>by rw[<-dI];exact zw
  clear dI
  have e7:d8 X aM 3 (.ptr m 0)=some (.agg (ed ty)):=by rw[sq,b7];rfl
  have KH:e8 [.Z 0, .Z 0, .str [], .zF, .zF, .zF, .Z 0, .int .u64 0, .aV] [(0,1, .Z 1),(4,3, .agg (ed ty))]=some (.agg (gE 1 0 [] false ty 0 .aV)):=by simp[e8,qp,qq,lS,D.cells,ed,gE]
  refine fw e7 ?_
  refine fw KH ?_
  refine D2 ?_
  generalize e9:Go.bd.bn X aM (m+1+4) _=aX
  have cS:Y X aX (m+1+4)=zu (gE 1 0 [] false ty 0 .aV) 9:=by rw[<-e9,bg Zo];rfl
  have cP:∀e,e<m+1->Y X aX e=Y X aM e:=λe z=>by rw[<-e9];exact zw
  clear e9
  have Px:∀e,e<m->Y X aX e=Y X aP e:=λe z=>by rw[cP e Zo,cq e z]
  have arC:aO X aX (.ptr cR 8)=some aW:=zB (Px cR Zo) arB
  have avu:aO X aX (.ptr cp 0)=some xc:=zB (Px cp Zo) avt
  have Pt:gv 1 aW (.Z 0)=some (.ptr cp 0):=fC
  obtain⟨aEJ,au5,Lq⟩:=has.get 0 x (by rw[af];rfl)
  cases au5
  obtain⟨cf,rfl,ny,_⟩:=Lq.ptr
  refine he @arC @Pt @avu ⟨?_⟩
  generalize eH:Go.bd.bn X aX (m+1+11) _=bC
  have eh:Y X bC (m+1+11)=zu [.ptr (m+1+4) 0, .ptr cf 0] 2:=by rw[<-eH,bg Zo]
  have d0:∀e,e<m+1+11->Y X bC e=Y X aX e:=λe z=>by rw[<-eH];exact zw
  clear eH
  have El:Y X bC cR=some (.cells Nq PW .own):=by rw[d0 cR Zo,Px cR Zo];exact aqZ
  refine fw (hF (q:=1) (v:= .Z 21) El iQ.1 rfl Zd Zo rfl) ?_
  generalize lr:Go.bd.bn X bC cR _=bW
  have qs:Y X bW cR=some (.cells (dN Nq 0 [.Z 21]) PW .own):=by rw[<-lr,bg Zo];rfl
  have dU:∀e,e≠cR->Y X bW e=Y X bC e:=λe z=>by rw[<-lr,aI iQ.1 z]
  clear lr
  have mJ:d8 X bW 3 (.ptr m 0)=some (.agg (ed ty)):=by rw[sq,dU m Zo,d0 m Zo,cP m Zo, <-sq];exact e7
  refine r7 @mJ ⟨?_⟩
  refine g2 (sA _) ?_
  refine fw (hF (q:=1) (v:= .slice (m+1+11) 0 2 2) qs iQ.1 rfl Zd Zo rfl) ?_
  generalize fB:Go.bd.bn X bW cR _=b9
  have nZ:Y X b9 cR=some (.cells (dN (dN Nq 0 [.Z 21]) 8 [.slice (m+1+11) 0 2 2]) PW .own):=by rw[<-fB,bg Zo];rfl
  have dy:∀e,e≠cR->Y X b9 e=Y X bC e:=λe z=>by rw[<-dU e z, <-fB,aI iQ.1 z]
  clear fB
  refine cK ⟨?_⟩
  have UY:∀e,e<j->e≠cR->Y X b9 e=Y X h e:=λe z c8=>by rw[dy e c8,d0 e Zo,Px e Zo];exact bN.ab e z
  refine⟨rfl,⟨Zo,λe z CG=> ?_,λe z atY=> ?_⟩,Zo,m+1+4,m+1+11, .ptr cf 0,Zo,Zo,Zo,⟨?_, ?_,⟨_,_,nZ,yr⟩, ?_, ?_,λU kw aEn=> ?_⟩,UY,aW,cp,eb,cA⟩
  ·rw[UY e Zo (λE=>CG (E▸bE cR Ox))];exact fi.low e z CG
  ·by_cases afi:e=cR
   ·subst afi;exact⟨_,_,nZ,yr⟩
   ·exact(fi.own e z atY).ab (UY e (zq (e4.pl e z).2) afi)
  ·rw[dy _ Zo,d0 _ Zo];exact cS
  ·rw[dy _ Zo];exact eh
  ·rw[bO nZ,jd,jd];rfl
  ·rw[bO nZ,jd];rfl
  ·rw[bO nZ,jd,jd,bO go,Zg (by simp;omega),Zg (by simp;omega)]
end
section
variable{X:cb}{h T c6 aP aM:K ag}{j an aG a1:Nat}{P bm c3 ij es:Nat->Prop}
def dD.PB{C:aL}{b bl:Nat}{aW:D}{br:List (List D)}(a:dD C h P b aW bl br)(q:br≠[]->Y C T b=Y C h b):dD C T P b aW bl br:=
 ⟨a.aj,a.many,a.wide,a.len,a.f3,λi r W v aN bK=>zB (q (λE=>by rw[E]at aN;simp at aN)) (a.cell i r W v aN bK)⟩
def Rj(X:cb)(c6:K ag)(ai:List Go.aR.Node)(t:bi->Option ej)(cE:Nat->Option D)(es c3:Nat->Prop)(h:K ag)(bm:Nat->Prop)(E:be)(v:D):Prop:=
 (d2 gV E/\lY X c6 ai t cE es c3 E v/\(∀e,bm e->es e)/\∀e,bm e->Y X h e=Y X c6 e)\/∃ty,E=o4 ty
def BX(X:cb)(c6:K ag)(ai:List Go.aR.Node)(t:bi->Option ej)(cE:Nat->Option D)(es c3:Nat->Prop)(h:K ag):(Nat->Prop)->List be->List D->Prop
 |_,[],a8=>a8=[]
 |P,E::bH,a8=>∃v jc bm,a8=v::jc/\(∀e,bm e->P e)/\cy X h bm E v/\Rj X c6 ai t cE es c3 h bm E v/\BX X c6 ai t cE es c3 h (λe=>P e/\¬bm e) bH jc
section
variable{ai:List Go.aR.Node}{t:bi->Option ej}{cE:Nat->Option D}
def BX.ab:∀{bH:List be}{a8:List D}{P nP:Nat->Prop},BX X c6 ai t cE es c3 h P bH a8->(∀e,P e->Y X T e=Y X h e)->(∀e,P e->nP e)->BX X c6 ai t cE es c3 T nP bH a8:=by
 intro bH
 induction bH with
 |nil=>intro a8 P nP a _ _;exact a
 |cons E bH al=>
  rintro a8 P nP ⟨v,jc,bm,rfl,fj,I,J,am⟩ q ay
  refine⟨v,jc,bm,rfl,λe z=>ay e (fj e z),cy.ab (λe z=>q e (fj e z)) _ _ I, ?_,al am (λe z=>q e z.1) (λe z=>⟨ay e z.1,z.2⟩)⟩
  rcases J with ⟨F,b,c,d⟩|J
  ·exact .inl ⟨F,b,c,λe z=>(q e (fj e z)).trans (d e z)⟩
  ·exact .inr J
def agX:∀{bH:List be}{a8:List D}{P:Nat->Prop},dk X h P bH a8->e0 gV bH->kD X c6 ai t cE es c3 bH a8->(∀e,P e->es e)->(∀e,P e->Y X h e=Y X c6 e)->BX X c6 ai t cE es c3 h P bH a8:=by
 intro bH
 induction bH with
 |nil=>intro a8 P a _ _ _ _;unfold dk at a;exact a
 |cons E bH al=>
  intro a8 P a bt a6 ay aD
  unfold dk at a
  obtain⟨v,jc,bm,rfl,fj,I,J⟩:=a
  rw[e0]at bt
  rw[kD]at a6
  obtain⟨gK,aEK,bF,t1,dQ⟩:=a6
  cases bF
  exact⟨v,jc,bm,rfl,fj,I, .inl ⟨bt.1,t1,λe z=>ay e (fj e z),λe z=>aD e (fj e z)⟩,al J bt.2 dQ (λe z=>ay e z.1) (λe z=>aD e z.1)⟩
def act(aw:du X){cR:Nat}{F:D}{q:Int}(aS:aO X h (.ptr cR 0)=some (.Z q))(aD:q≠5):
 aY X 53 [.ptr cR 0,F] h j (λac T an=>ac= .zT/\T=h/\an=j) (λ_ _ _=>False):=by
 refine zx aw (aas X) ?_
 rw[aat]
 unfold Ro
 have d:decide (q=5)=false:=by simp[aD]
 refine cT @aS @d ⟨?_⟩
 exact⟨rfl,rfl,rfl⟩
def po(X:cb)(c6:K ag)(e:Nat):Prop:=aO X c6 (.ptr e 0)=some (.Z 5)
structure amM(X:cb)(c6:K ag)(dK:Nat)(es c3:Nat->Prop)(ai:List Go.aR.Node)(t:bi->Option ej)(cE:Nat->Option D)(P:Nat->Prop)(h:K ag)(j cR:Nat)(q at_:Int)(nm:bi)(no:Bool)(ty:de)(n:Int)(jq:List be)(aP:K ag)(aG:Nat)(aW:D)(cp:Nat)(a8:List D):Prop where
 r5:sT X c6 dK es aP aG
 le:j<=aG
 low:∀e,e<j->¬(P e/\po X c6 e)->Y X aP e=Y X h e
 own:kR X aP cR
 d3:aO X aP (.ptr cR 0)=some (.Z q)
 db:aO X aP (.ptr cR 1)=some (.Z at_)
 dx:aO X aP (.ptr cR 2)=some (.str nm)
 gf:aO X aP (.ptr cR 3)=some (.bool no)
 ul:aO X aP (.ptr cR 4)=some (.bool ty.b)
 jO:aO X aP (.ptr cR 5)=some (.bool ty.s)
 s7:aO X aP (.ptr cR 6)=some (.Z ty.w)
 JN:aO X aP (.ptr cR 7)=some (.int .u64 n)
 vw:aO X aP (.ptr cR 8)=some aW
 rd:dD X aP (λe=>P e\/cQ j aG e) cp aW 1 (a8.map λv=>[v])
 B6:a8≠[]->cp≠cR
 pl:BX X c6 ai t cE es c3 aP (λe=>(P e\/cQ j aG e)/\e≠cR/\e≠cp) jq a8
 len:a8.length=jq.length
def aAY(aw:du X){dK pd ah r cR:Nat}(e4:MU X c6 dK es c3 pd ah r cE)(fi:sT X c6 dK es h j)(AL:∀e,P e->e<j){q at_ n:Int}{nm:bi}{no:Bool}{ty:de}{args:List be}(bs:cy X h P (.mk q at_ nm no ty n args) (.ptr cR 0))(ay:Rj X c6 ai t cE es c3 h P (.mk q at_ nm no ty n args) (.ptr cR 0)):
 aY X 53 [.ptr cR 0, .ptr pd 0] h j (λac aP aG=>ac= .zT/\∃aW cp a8,amM X c6 dK es c3 ai t cE P h j cR (r4 q) at_ nm no ty n (vI (mn ai t) (.mk q at_ nm no ty n args)++args) aP aG aW cp a8) (λ_ _ _=>False):=by
 have TJ:=bs
 unfold cy at bs
 obtain⟨aCz,aj,jA,tt,aS,I,J,am,aB,bk,b6,c5,aW,cp,a8,eb,cA,ti,has⟩:=bs
 cases aj
 by_cases aD:q=5
 ·subst aD
  rcases ay with ⟨bt,a6,bE,gY⟩|⟨QB,E⟩
  ·rw[d2]at bt
   obtain⟨x,af⟩:=Nd bt.1 rfl
   have af:args=[x]:=af
   subst af
   rw[lY]at a6
   obtain⟨b,jJ,anV,jc,row,w,aj,_,t1,dQ,t3,t4,_,fU,gd⟩:=a6
   cases aj
   rw[co, <-gY cR jA, <-co,eb]at t1
   cases t1
   have pJ:=Md (cA.ab (T:=c6) λe z=>(gY e z).symm) dQ
   have pJ:a8=jc:=by
    have:=congrArg (List.map λr:List D=>r.headD .cx) pJ
    simpa[Yy,Function.comp_def]using this
   subst pJ
   obtain⟨bV,aC,V⟩:=Sp t3
   obtain⟨e,gb,rfl,_,cw⟩:=Nf aC
   rw[j1]at cw;cases cw
   have e3:row=[e]:=by
    have:iq ai t (.mk 5 at_ nm no ty n [x]) [e]=([e],true):=rfl
    rw[this]at V;cases V;rfl
   subst e3
   have tB:=Wx t3
   refine(apU aw e4 fi bE TJ ?_ rfl rfl t4 fU).Zm ?_
   ·exact tt.ab (gY cR jA).symm
   rintro ac aP aG ⟨rfl,Oh,gq,jW,rG,xc,qA,n4,atr,gO,kq,Qr,aCs,ada,wj⟩
   rw[eb]at ada
   cases ada
   have pJ:=Md cA wj
   have pJ:a8=[xc]:=by
    have:=congrArg (List.map λr:List D=>r.headD .cx) pJ
    simpa[Yy,Function.comp_def]using this
   subst pJ
   have aen:∀e,P e->e≠cR->Y X aP e=Y X h e:=λe z c8=>kq e (AL e z) c8
   have asT:=AL cR jA
   have asb:po X c6 cR:=by unfold po;rw[co, <-gY cR jA, <-co];exact aS
   refine⟨rfl, .slice rG 0 2 2,rG,[.ptr jW 0,xc],Oh,gq,λe z CG=>kq e z (λE=>CG (E▸⟨jA,asb⟩)),gO.own,gO.sn,by rw[gO.bR _ Zd Zd];exact I,by rw[gO.bR _ Zd Zd];exact J,by rw[gO.bR _ Zd Zd];exact am,by rw[gO.bR _ Zd Zd];exact aB,by rw[gO.bR _ Zd Zd];exact bk,by rw[gO.bR _ Zd Zd];exact b6,by rw[gO.bR _ Zd Zd];exact c5,gO.hS, ?_,λ_=>Zo, ?_, ?_⟩
   ·exact FG (q:=2) (br:=[[.ptr jW 0],[xc]]) gO.aW rfl Zs Zd (.inr ⟨Zo,atr⟩)
   ·rw[GW rfl,tB]
    refine⟨.ptr jW 0,[xc],λe=>e=jW,rfl,λe z=>⟨.inr ⟨Zo,Zo⟩,Zo,Zo⟩,cy.leaf gO.lit rfl, .inr ⟨_,rfl⟩, ?_⟩
    have:=agX (X:=X) (c6:=c6) (ai:=ai) (t:=t) (cE:=cE) (es:=es) (c3:=c3) (dk.ab (T:=aP) (λe z=>aen e z.1 z.2.1) _ _ has) bt.2 gd (λe z=>bE e z.1) (λe z=>by rw[aen e z.1 z.2.1];exact gY e z.1)
    exact this.ab (λ_ _=>rfl) (λe z=>by have:=AL e z.1;exact⟨⟨.inl z.1,z.2.1,Zo⟩,Zo⟩)
   ·rw[GW rfl];rfl
  ·cases E
 ·refine(act aw aS aD).Zm ?_
  rintro ac aP aG ⟨rfl,bF,cn⟩
  have bF:=bF.symm
  subst bF
  subst cn
  have oW:BX X c6 ai t cE es c3 h (λe=>P e/\e≠cR/\e≠cp) args a8:=by
   rcases ay with ⟨bt,a6,bE,gY⟩|⟨QB,E⟩
   ·rw[d2]at bt
    rw[lY]at a6
    obtain⟨b,jJ,anV,jc,row,w,aj,_,t1,dQ,t3,t4,_,fU,gd⟩:=a6
    cases aj
    rw[co, <-gY cR jA, <-co,eb]at t1
    cases t1
    have pJ:=Md (cA.ab (T:=c6) λe z=>(gY e z).symm) dQ
    have pJ:a8=jc:=by
     have:=congrArg (List.map λr:List D=>r.headD .cx) pJ
     simpa[Yy,Function.comp_def]using this
    subst pJ
    exact agX has bt.2 gd (λe z=>bE e z.1) (λe z=>gY e z.1)
   ·cases E
    unfold dk at has
    exact has
  refine⟨rfl,aW,cp,a8,fi,Zi _,λ_ _ _=>rfl,tt,by rw[Kb aD];exact aS,I,J,am,aB,bk,b6,c5,eb,cA.lift (λ_ a=> .inl a),ti, ?_, ?_⟩
  ·rw[Cj (E:= .mk q at_ nm no ty n args) aD,Z8]
   exact oW.ab (λ_ _=>rfl) (λe z=>⟨.inl z.1,z.2⟩)
  ·rw[Cj (E:= .mk q at_ nm no ty n args) aD];exact has.len
end
end
section
variable{X:cb}{h T c6 aP aM:K ag}{j an aG a1:Nat}{P bm c3 ij es:Nat->Prop}
section
variable{ai:List Go.aR.Node}{t:bi->Option ej}{cE:Nat->Option D}
structure aaP(X:cb)(c6:K ag)(dK:Nat)(es c3:Nat->Prop)(ai:List Go.aR.Node)(t:bi->Option ej)(cE:Nat->Option D)(H:be->de)(bh:Nat->Prop)(aP:K ag)(aG:Nat)(jq:List be)(a8:List D)(W:Nat)(h:K ag)(n:Nat):Prop where
 r5:sT X c6 dK es h n
 le:aG<=n
 low:∀e,e<aG->¬(bh e/\po X c6 e)->Y X h e=Y X aP e
 at_:∃mS,(∀e,mS e->bh e)/\BX X c6 ai t cE es c3 h mS (jq.drop W) (a8.drop W)/\dk X h (λe=>(bh e/\¬mS e)\/cQ aG n e) ((jq.take W).map (i1 H)) (a8.take W)
def aBQ(aw:du X){ty:de}{v F:D}(bs:cy X h P (o4 ty) v):
 aY X 18 [v, .func (.func 53) [] [F]] h j (λac T an=>ac= .tuple []/\T=h/\an=j) (λ_ _ _=>False):=by
 obtain⟨b,aW,cp,a8,rfl,aj,aS,_,_,_,_,_,_,_,h4,cA,has⟩:=bs.open
 refine zx aw (Rm X) ?_
 rw[Rn]
 unfold MX
 refine ci @IG ⟨?_⟩
 refine(act (j:=j) (F:=F) (q:=1) aw aS Zd).Zm ?_
 rintro ac aP aG ⟨rfl,bF,cn⟩
 have bF:=bF.symm
 subst bF
 have cn:=cn.symm
 subst cn
 have bD:=has.len
 have bD:a8=[]:=Z4 bD
 subst bD
 have d5:gy aW=some (.Z 0):=cA.len
 refine cT @h4 @d5 ⟨?_⟩
 refine fK (λm H T aU=>H.g 18=some (.Z 0)/\H.g 19=some (.Z 0)/\T=h/\aU=j) 0 ⟨bw,bw,rfl,rfl⟩ ?_
 rintro m H aM a1 ⟨ve,qO,bF,cn⟩
 have d:decide ((0:Int)<0)=false:=rfl
 refine et @qO @ve @d ⟨?_⟩
 exact⟨rfl,bF,cn⟩
set_option maxRecDepth 100000 in
def aBR(aw:du X){dK pd ah r:Nat}(e4:MU X c6 dK es c3 pd ah r cE):∀(N:Nat) (E:be),SizeOf.sizeOf E<N->∀(P:Nat->Prop) (v:D) (h:K ag) (j:Nat),sT X c6 dK es h j->(∀e,P e->e<j)->cy X h P E v->Rj X c6 ai t cE es c3 h P E v->
 aY X 18 [v, .func (.func 53) [] [.ptr pd 0]] h j (λac T an=>ac= .tuple []/\sT X c6 dK es T an/\j<=an/\cy X T (λe=>P e\/cQ j an e) (i1 (mn ai t) E) v/\∀e,e<j->¬(P e/\po X c6 e)->Y X T e=Y X h e) (λ_ _ _=>False):=by
 intro N
 induction N with
 |zero=>intro E a;omega
 |succ N al=>
  intro E i2 P v h j fi AL bs ay
  cases E with
  |mk q at_ nm no ty n args=>
  obtain⟨cR,rfl,jA,_⟩:=bs.ptr
  have asT:=AL cR jA
  refine zx aw (Rm X) ?_
  rw[Rn]
  unfold MX
  refine ci @IG ⟨?_⟩
  refine(aAY aw e4 fi AL bs ay).Zm ?_
  rintro ac aP aG ⟨rfl,aW,cp,a8,hY⟩
  have jm:=hY.le
  have d5:=hY.rd.len
  have hO:=hY.rd.many
  rw[Zn,hY.len]at d5 hO
  have vw:=hY.vw
  rw[i1]
  have pC:vI (mn ai t) (.mk q at_ nm no ty n args)++hj (mn ai t) args=(vI (mn ai t) (.mk q at_ nm no ty n args)++args).map (i1 (mn ai t)):=by
   rw[Yi,Su]
   congr 1
   unfold vI
   split
   ·rw[ZL,acs];rfl
   ·rfl
  rw[pC]
  have at9:∀F∈vI (mn ai t) (.mk q at_ nm no ty n args)++args,SizeOf.sizeOf F<N\/∃ty,F=o4 ty:=λF aC=>by
   rcases Zz.1 aC with a|a
   ·unfold vI at a
    split at a
    ·exact .inr ⟨_,Yu.1 a⟩
    ·cases a
   ·have:=Qq (E:= .mk q at_ nm no ty n args) a
    exact .inl Zo
  generalize vI (mn ai t) (.mk q at_ nm no ty n args)++args=jq at*
  let bh:Nat->Prop:=λe=>(P e\/cQ j aG e)/\e≠cR/\e≠cp
  have Oc:∀e,bh e->e<aG:=λe z=>by
   rcases z.1 with a|a
   ·have:=AL e a;omega
   ·exact a.2
  refine cT @vw @d5 ⟨?_⟩
  have Hd:aaP X c6 dK es c3 ai t cE (mn ai t) bh aP aG jq a8 0 aP aG:=⟨hY.r5,Zi _,λ_ _ _=>rfl,bh,λ_ a=>a,hY.pl,by rw[ZI,ZI];exact dk.nil⟩
  refine fK (λm H T aU=>∃(W:Nat),H.g 1=some (.func (.func 53) [] [.ptr pd 0])/\H.g 17=some aW/\H.g 18=some (.Z (jq.length:Int))/\H.g 19=some (.Z (W:Int))/\W+m=jq.length/\aaP X c6 dK es c3 ai t cE (mn ai t) bh aP aG jq a8 W T aU)
   jq.length ⟨0,bw,bw,bw,fW,Zo,Hd⟩ ?_
  rintro m H aM a1 ⟨W,t1,w4,ve,qO,bK,oM⟩
  have f7:=oM.le
  obtain⟨mS,sb,oW,mZ⟩:=oM.at_
  have asy:a8≠[]->Y X aM cp=Y X aP cp:=λa=>by
   have:=hY.rd.aj (by simpa using a)
   exact oM.low cp (by
    rcases this with a|a
    ·have:=AL _ a;omega
    ·exact a.2) (λa=>a.1.2.2 rfl)
  have wj:=dD.PB (T:=aM) hY.rd (λa=>asy (by simpa using a))
  cases m with
  |zero=>
   have d:=zr W jq.length
   refine et @qO @ve @d ⟨?_⟩
   have uO:W=jq.length:=Zo
   rw[Zx Zo,Zx (by rw[hY.len];omega)]at mZ
   have T2:∀e,(P e\/cQ j aG e)->(P e\/cQ j a1 e):=λe z=>z.imp id λa=>⟨a.1,zq a.2⟩
   have e2:Y X aM cR=Y X aP cR:=oM.low cR Zo (λa=>a.1.2.1 rfl)
   have az:∀U,aO X aM (.ptr cR U)=aO X aP (.ptr cR U):=λU=>by rw[co,e2, <-co]
   refine⟨rfl,oM.r5,Zo, ?_,λe z CG=> ?_⟩
   ·unfold cy
    refine⟨cR,rfl, .inl jA,hY.own.ab e2,by rw[az];exact hY.d3,by rw[az];exact hY.db,by rw[az];exact hY.dx,by rw[az];exact hY.gf,by rw[az];exact hY.ul,by rw[az];exact hY.jO,by rw[az];exact hY.s7,by rw[az];exact hY.JN,aW,cp,a8,by rw[az];exact hY.vw,wj.lift T2,hY.B6, ?_⟩
    by_cases bD:a8=[]
    ·subst bD
     have:=hY.len
     have:jq=[]:=Z4 this.symm
     subst this
     exact dk.nil
    have uI:cp<aG:=by
     rcases hY.rd.aj (by simpa using bD)with a|a
     ·have:=AL _ a;omega
     ·exact a.2
    refine dk.lift (λe z=> ?_) _ _ mZ
    rcases z with ⟨z,_⟩|z
    ·exact⟨T2 e z.1,z.2⟩
    ·have I:=z.1
     exact⟨.inr ⟨Zo,z.2⟩,Zo,Zo⟩
   ·rw[oM.low e Zo (λa=>by
     rcases a.1.1 with ah|ah
     ·exact CG ⟨ah,a.2⟩
     ·have:=ah.1;omega)]
    exact hY.low e z CG
  |succ m=>
   have d:=zs W jq.length
   have bF:=zv W
   obtain⟨F,aC⟩:=zt jq W
   obtain⟨w,mA⟩:∃w,a8[W]? =some w:=⟨_,Ze (by rw[hY.len];omega)⟩
   have aH:∀{α:Type}{k:List α}{x:α},k[W]? =some x->k.drop W=x::k.drop (W+1):=λaf=>by
    obtain⟨I,J⟩:=Zc.1 af
    rw[Zv I,J]
   have kc:∀{α:Type}{k:List α}{x:α},k[W]? =some x->k.take (W+1)=k.take W++[x]:=λaf=>by
    rw[ZY,af];rfl
   rw[aH aC,aH mA]at oW
   obtain⟨b1,jc,bm,cn,fj,Lq,AZ,rq⟩:=oW
   cases cn
   obtain⟨b3,b7,cS⟩:=wj.one mA
   have To:∀e,bm e->e<aG:=λe z=>Oc e (sb e (fj e z))
   refine eF @qO @ve @w4 @t1 @d @b3 @b7 ⟨?_⟩
   have TA:aY X 18 [w, .func (.func 53) [] [.ptr pd 0]] aM a1 (λac T an=>ac= .tuple []/\sT X c6 dK es T an/\a1<=an/\cy X T (λe=>bm e\/cQ a1 an e) (i1 (mn ai t) F) w/\∀e,e<a1->¬(bm e/\po X c6 e)->Y X T e=Y X aM e) (λ_ _ _=>False):=by
    rcases at9 F (Zj aC)with a|⟨QB,rfl⟩
    ·exact al F a bm w aM a1 oM.r5 (λe z=>zq (To e z)) Lq AZ
    ·refine(aBQ aw Lq).Zm ?_
     rintro ac aX bf ⟨rfl,bF,rfl⟩
     have bF:=bF.symm
     subst bF
     exact⟨rfl,oM.r5,Zi _,by rw[acs];exact cy.lift (λ_ a=> .inl a) _ _ Lq,λ_ _ _=>rfl⟩
   refine TA.Zm ?_
   rintro ac aX bf ⟨rfl,vT,ip,avf,mc⟩
   refine cT @qO @bF ⟨?_⟩
   refine⟨m,Zo,W+1,a7 t1,a7 w4,a7 ve,bw,Zo,vT,Zo,λe z yp=> ?_,λe=>mS e/\¬bm e,λe z=>sb e z.1,rq.ab (λe z=>mc e (zq (Oc e (sb e z.1))) (λa=>z.2 a.1)) (λ_ a=>a), ?_⟩
   ·rw[mc e Zo (λa=>yp ⟨sb e (fj e a.1),a.2⟩)];exact oM.low e z yp
   ·rw[kc aC,kc mA,Yi]
    refine dk.snoc (bm:=λe=>bm e\/cQ a1 bf e) (es:=λe=>(bh e/\¬mS e)\/cQ aG a1 e) avf (dk.ab (λe z=> ?_) _ _ mZ) (λe z=> ?_) (λe z=> ?_)
    ·rcases z with z|z
     ·exact mc e (zq (Oc e z.1)) (λa=>z.2 (fj e a.1))
     ·have I:=z.1
      exact mc e z.2 (λa=>zq (To e a.1))
    ·rcases z with z|z
     ·exact .inl ⟨z.1,λa=>z.2 a.1⟩
     ·exact .inr ⟨z.1,zq z.2⟩
    ·rcases z with z|z
     ·exact⟨.inl ⟨sb e (fj e z),λa=>a.2 z⟩,λa=>a.elim (λa=>a.2 (fj e z)) λa=>by have:=To e z;have:=a.1;omega⟩
     ·have I:=z.1
      exact⟨.inr ⟨Zo,z.2⟩,λa=>a.elim (λa=>zq (Oc e a.1)) λa=>zq a.2⟩
end
end
section
variable{X:cb}{h T aP aM:K ag}{j an aG a1:Nat}{P:Nat->Prop}
def apq(F b c d:Int):kl X h 50 26 (.agg [.Z F, .Z b]) (.agg [.Z c, .Z d])=(match some (uY F c)with|some true=>(match some (uY b d)with|some true=>some true|some false=>some false|none=>none)|some false=>some false|none=>none):=Zk
def apn(F b:Int):dw X h .eql 26 false (.agg [.Z F, .Z b]) (.agg [.Z F, .Z b])=some .zT:=by
 have a:dw X h .eql 26 false (.agg [.Z F, .Z b]) (.agg [.Z F, .Z b])=(match kl X h 50 26 (.agg [.Z F, .Z b]) (.agg [.Z F, .Z b])with|some b=>oE b|none=>none):=Zk
 rw[a,apq,CT,CT]
 simp
end
section
variable{X:cb}{h T c6 aP aM:K ag}{j an aG a1:Nat}{P bm c3 ij es:Nat->Prop}
def aho{b bl:Nat}{aW:D}{br:List (List D)}(a:dD X c6 P b aW bl br)(cr:∀r∈br,∃v,r[0]? =some v/\v≠ .Z 5)(c8:br≠[]):¬po X c6 b:=λV=>by
 match br,c8,a,cr with
 |r::k,_,a,cr=>
  obtain⟨v,I,J⟩:=cr r (Zq ..)
  have:=a.cell 0 r 0 v rfl I
  unfold po at V
  rw[ze,V]at this
  cases this
  exact J rfl
def Mc{b bl:Nat}{aW:D}{br:List (List D)}(a:dD X h P b aW bl br)(cr:∀r∈br,∃v,r[0]? =some v/\v≠ .Z 5)(aS:∀e,P e->Y X h e=Y X c6 e)(q:∀e,P e->¬po X c6 e->Y X T e=Y X h e):dD X T P b aW bl br:=
 dD.PB a λc8=>q b (a.aj c8) (aho (a.ab (T:=c6) λe z=>(aS e z).symm) cr c8)
def UM(k:List fo):∀r∈k.map eT,∃v,r[0]? =some v/\v≠ .Z 5:=λr V=>by
 obtain⟨d,_,rfl⟩:=ZE.1 V
 exact⟨.str d.name,rfl,λa=>by cases a⟩
def avp(k:List bi):∀r∈ih k,∃v,r[0]? =some v/\v≠ .Z 5:=λr V=>by
 unfold ih at V
 obtain⟨d,_,rfl⟩:=ZE.1 V
 exact⟨.str d,rfl,λa=>by cases a⟩
def avn:∀{cN:List fc}{br:List (List D)}{P:Nat->Prop},mP X h P cN br->∀r∈br,∃v,r[0]? =some v/\v≠ .Z 5:=by
 intro cN
 induction cN with
 |nil=>rintro br P rfl r V;cases V
 |cons ah cN al=>
  rintro br P ⟨row,gz,bm,rfl,_,I,J⟩ r V
  rcases Zr.1 V with rfl|V
  ·obtain⟨aW,lR,bQ,cf,k8,rfl,am,_⟩:=I
   exact⟨aW,rfl,λa=>by have:=am.len;rw[a]at this;cases this⟩
  ·exact al J r V
def avo:∀{cN:List Go.aR.Node}{br:List (List D)}{P:Nat->Prop},lX X h P cN br->∀r∈br,∃v,r[0]? =some v/\v≠ .Z 5:=by
 intro cN
 induction cN with
 |nil=>rintro br P rfl r V;cases V
 |cons ah cN al=>
  rintro br P ⟨row,gz,bm,rfl,_,I,J⟩ r V
  rcases Zr.1 V with rfl|V
  ·obtain⟨_,_,_,_,_,_,_,_,_,rfl,_⟩:=I
   exact⟨.str ah.name,rfl,λa=>by cases a⟩
  ·exact al J r V
structure W2(X:cb)(c6:K ag)(dK:Nat)(es qU:Nat->Prop)(ai:List Go.aR.Node)(t:bi->Option ej)(eqs:List fc)(br:List (List D))(aP:K ag)(aG:Nat)(q:Nat)(h:K ag)(n:Nat):Prop where
 r5:sT X c6 dK es h n
 le:aG<=n
 low:∀e,e<aG->¬(qU e/\po X c6 e)->Y X h e=Y X aP e
 at_:∃DI,(∀e,DI e->qU e)/\(∀e,DI e->Y X h e=Y X c6 e)/\mP X h DI (eqs.drop q) (br.drop q)/\mP X h (λe=>(qU e/\¬DI e)\/cQ aG n e) ((eqs.take q).map (Ei ai t)) (br.take q)
structure W3(X:cb)(c6:K ag)(dK:Nat)(es:Nat->Prop)(ai:List Go.aR.Node)(br:List (List D))(W:Nat)(h:K ag)(n:Nat):Prop where
 r5:sT X c6 dK es h n
 low:∀e,e<dK->¬(es e/\po X c6 e)->Y X h e=Y X c6 e
 at_:∃mS,(∀e,mS e->es e)/\(∀e,mS e->Y X h e=Y X c6 e)/\lX X h mS (ai.drop W) (br.drop W)/\lX X h (λe=>(es e/\¬mS e)\/cQ dK n e) ((ai.take W).map (q5 ai)) (br.take W)
end
section
variable{X:cb}{h T aP aM:K ag}{j an aG a1:Nat}{P bm c3 ij:Nat->Prop}
def ug.SQ{ai:List Go.aR.Node}{t:bi->Option ej}{cE:Nat->Option D}:∀{cN:List fc}{br:List (List D)},ug X h ai t cE P c3 cN br->br.length=cN.length/\∀(i:Nat) ah row,cN[i]? =some ah->br[i]? =some row->∃v,row[3]? =some v/\q3 ai t ah=none/\lY X h ai t cE P c3 ah.right v:=by
 intro cN
 induction cN with
 |nil=>rintro br rfl;exact⟨rfl,λi ah row a=>by simp at a⟩
 |cons E cN al=>
  rintro br ⟨row,gz,v,rfl,I,J,am,aB⟩
  obtain⟨bR,cq⟩:=al aB
  refine⟨by simp[bR],λi ah rF bL V=> ?_⟩
  cases i with
  |zero=>simp at bL V;subst bL;subst V;exact⟨v,I,J,am⟩
  |succ i=>simp at bL V;exact cq i ah rF bL V
def uf.SQ{ai:List Go.aR.Node}{cE:Nat->Option D}:∀{k:List Go.aR.Node}{br:List (List D)},uf X h ai cE P c3 k br->br.length=k.length/\∀(i:Nat) g,k[i]? =some g->∃row,br[i]? =some row/\DN X h ai cE P c3 g row:=by
 intro k
 induction k with
 |nil=>rintro br rfl;exact⟨rfl,λi g a=>by simp at a⟩
 |cons F k al=>
  rintro br ⟨row,gz,rfl,I,J⟩
  obtain⟨cG,cw⟩:=al J
  refine⟨by simp[cG],λi g aN=> ?_⟩
  cases i with
  |zero=>simp at aN;subst aN;exact⟨row,rfl,I⟩
  |succ i=>simp at aN;obtain⟨r,eL,e7⟩:=cw i g aN;exact⟨r,by simpa using eL,e7⟩
set_option maxRecDepth 100000 in
def awx(aw:iI X)(eN:Jp X)(f6:xC X)(adv:rT X)(adw:xD X)(er:DK X)(Lj:(o X).hh 50 []=some .zT){a0 ba:D}{p4 s:bi}(aE:(o X).a2<=j)(az:gy a0=some (.Z (p4.length:Int)))(aF:s.length<=5000)(aj:∀c∈s,c<256)
 (jF:tZ X h 1 a0 none (some (.Z (min (p4.length:Int) 2000))) none=some ba)(qA:gy ba=some (.Z (s.length:Int)))(ED:∀T aU,bo X h j T aU->Cc X T ba=some (.str s)):
 aY X 11 [a0] h j (λac T an=>ac= .zT/\bo X h j T an) (λ_ _ _=>False):=by
 refine zx aw.todu (aji X) ?_
 rw[ajj]
 unfold W8
 refine et @az @axm @jF ⟨?_⟩
 refine(ayv aw eN f6 aF aj aE qA ED).Zm ?_
 rintro ac aP aG ⟨EU,bN⟩
 have jm:=bN.le
 cases CJ:Dk s with
 |error mC=>
  rw[CJ]at EU
  obtain⟨q,F⟩:=mC
  have Ht:=ayz aF CJ
  have bb:ac= .tuple [.cx, .agg [.Z q, .Z F]]:=EU
  subst bb
  have bz:decide (q≠0)=true:=by simp[Ht]
  refine ci @bz ⟨?_⟩
  refine GH Lj ?_
  refine cK ⟨?_⟩
  exact⟨rfl,Zo,λe z=>by simp(disch:=omega) only[aI];exact bN.ab e z⟩
 |ok ai=>
  rw[CJ]at EU
  obtain⟨v,rfl,AZ⟩:=EU
  obtain⟨A8,c8,oR⟩:=ayA CJ
  obtain⟨b,_,_,_,rfl,Ox,_⟩:=id AZ
  have uI:=Ox.2
  have bz:decide ((0:Int)≠0)=false:=rfl
  refine cT @bz @Sm ⟨?_⟩
  generalize dI:Go.bd.bn X _ aG _=aM
  have eV:∃c,Y X aM aG=some (.cells c 2 .own):=⟨_,by rw[<-dI,bg Zo];rfl⟩
  have bJ:bo X aP aG aM (aG+1):=⟨Zo,λe z=>by rw[<-dI];exact zw⟩
  clear dI
  obtain⟨an9,eV⟩:=eV
  have at1:=AZ.ab (T:=aM) (bm:=cQ j aG) (λe z=>bJ.ab e z.2) (λ_ a=>a)
  refine(abC (j:=aG+1) (P:=cQ j aG) aw eN.err adv adw er Zo at1 (λe z=>⟨zq z.1,zq z.2⟩) A8 c8 oR).Zm ?_
  rintro ac aX bf ⟨ls,cg⟩
  have ip:=cg.le
  have iZ:Y X aX aG=some (.cells an9 2 .own):=by rw[cg.ab _ Zo];exact eV
  have G7:bo X aP aG aX bf:=bJ.trans (cg.k3 Zo)
  have Pd:=apT A8 oR
  unfold DG at ls
  generalize HJ:lx ai=Bv at*
  obtain⟨cc,vy⟩:=Bv
  simp only at ls Pd
  by_cases aA:cc=0
  ·subst aA
   rw[Zu rfl]at ls
   obtain⟨avb,atu,wk⟩:=Pd rfl
   obtain⟨xa,rfl,ah,r,cE,rfl,Tr,Ts,si,arZ,ar8,aCL⟩:=ls
   have aCM:=Tr.1;have aCN:=Tr.2
   have aCO:=Ts.1;have aCP:=Ts.2
   refine ci @iZ ⟨?_⟩
   generalize eH:Go.bd.bn X _ aG _=bC
   have U2:aO X bC (.ptr aG 0)=some (.Z 0):=by rw[<-eH,bO (bg Zo)];exact Dy _ _ _
   have aw5:aO X bC (.ptr bf 0)=some (.ptr ah 0):=by rw[<-eH,co];simp(disch:=omega) only[aI,bg]<;>rfl
   have d0:∀e,e<bf->e≠aG->Y X bC e=Y X aX e:=λe I J=>by rw[<-eH];exact zw
   clear eH
   obtain⟨dO,aW,cp,br,A0,Tu,bM,cA,atR⟩:=ar8
   cases A0
   have at2:=AZ.ab (T:=aX) (bm:=cQ j aG) (λe z=>G7.ab e z.2) (λ_ a=>a)
   obtain⟨aCm,aEA,aCr,aEw,A0,_,abi,wi,kK⟩:=at2
   cases A0
   rw[bM]at abi;cases abi
   have:=Md cA wi
   subst this
   clear wi
   obtain⟨HI,EQ⟩:=atR.SQ
   have ku:∀e,cQ j aG e->Y X bC e=Y X aX e:=λe z=>by have:=z.2;exact d0 e Zo Zo
   have H6:∀e,cQ (aG+1) bf e->Y X bC e=Y X aX e:=λe z=>by have:=z.1;exact d0 e z.2 Zo
   have JI:aO X bC (.ptr b 0)=some aW:=zB (ku b Tu) bM
   have Ut:=cA.ab ku
   have K4:lX X bC (cQ j aG) ai br:=lX.ab ku (λ_ a=>a) kK
   have d5:=cA.len
   have hO:=cA.many
   have arR:MU X bC (bf+1) (cQ j aG) (cQ (aG+1) bf) bf ah r cE:=⟨aw5,zB (H6 ah Tr) si,arZ.ab (H6 r Ts) ku,⟨Zo,λa=>zq a.2⟩,⟨Zo,λa=>zq a.2⟩,⟨Zo,λa=>zq a.2⟩,λe z=>⟨zq z.1,zq z.2⟩,λe z=>⟨zq z.2,λa=>by have:=a.2;have:=z.1;omega⟩,Zo⟩
   have kp:∀{bW b9:K ag}{b4 eB:Nat},sT X bC (bf+1) (cQ j aG) bW b4->bo X bW b4 b9 eB->bo X h j b9 eB:=λI J=>⟨by have:=I.le;have:=J.le;omega,λe z=>by rw[J.ab e (zq I.le),I.low e Zo (λa=>zq a.1),d0 e Zo Zo,G7.ab e Zo];exact bN.ab e z⟩
   have asq:¬po X bC b:=λa=>by
    unfold po at a
    rw[JI]at a
    cases a
    cases d5
   have Hd:W3 X bC (bf+1) (cQ j aG) ai br 0 bC (bf+1):=⟨⟨Zi _,λ_ _ _=>rfl,λ_ _ a=>a⟩,λ_ _ _=>rfl,cQ j aG,λ_ a=>a,λ_ _=>rfl,by simpa using K4,by rw[ZI,ZI];rfl⟩
   refine gx @U2 @bz @JI @d5 ⟨?_⟩
   refine fK (λm H T aU=>∃(W:Nat),H.g 3=some (.ptr b 0)/\H.g 5=some (.ptr bf 0)/\H.g 37=some aW/\H.g 38=some (.Z (br.length:Int))/\H.g 39=some (.Z (W:Int))/\W+m=br.length/\W3 X bC (bf+1) (cQ j aG) ai br W T aU)
    br.length ⟨0,bw,bw,bw,bw,fW,Zo,Hd⟩ ?_
   rintro m H bW b4 ⟨W,t3,t5,t37,FT,FU,bK,fi⟩
   have ib:=fi.r5.le
   obtain⟨mS,sb,adz,rq,TH⟩:=fi.at_
   have aeV:dD X bW (cQ j aG) cp aW 6 br:=dD.PB Ut λc8=>fi.low cp (zq (Ut.aj c8).2) (λa=>aho Ut (avo K4) c8 a.2)
   cases m with
   |zero=>
    have d:=zr W br.length
    have anA:aO X bW (.ptr b 0)=some aW:=zB (fi.low b (zq Tu.2) (λa=>asq a.2)) JI
    rw[Zx Zo,Zx Zo]at TH
    have at7:nQ X bW (λe=>cQ j aG e\/cQ (bf+1) b4 e) (ln ai) (.ptr b 0):=⟨b,aW,cp,br,rfl, .inl Tu,anA,aeV.lift (λ_ a=> .inl a),TH.ab (λ_ _=>rfl) (λe z=>z.imp (λa=>a.1) id)⟩
    refine gx @FU @FT @d @t3 ⟨?_⟩
    refine(aob (j:=b4) aw eN.err adv adw er Zo at7 (λe z=>by
     rcases z with z|z
     ·have:=z.1;have:=z.2;omega
     ·have:=z.1;have:=z.2;omega) avb (by simp[ln,c8]) atu).Zm ?_
    rintro ac b9 eB ⟨rfl,eG⟩
    rw[wk]
    have KH:e8 [.Z 0, .Z 0] []=some (.agg [.Z 0, .Z 0]):=rfl
    have ao9:=apn (X:=X) (h:=b9) 0 0
    refine cT @KH @ao9 ⟨?_⟩
    refine GH Lj ?_
    refine cK ⟨?_⟩
    exact⟨rfl,kp fi.r5 eG⟩
   |succ m=>
    have d:=zs W br.length
    have bF:=zv W
    obtain⟨g,kX⟩:=zt ai W
    have mx:=Zj kX
    obtain⟨row,e3,EO,dj,dG,jJ,eP,bQ,cf,cM,ew,Dr,rfl,oP,my,qz,j8,e2,auZ⟩:=EQ W g kX
    have aH:∀{α:Type}{k:List α}{x:α}{i:Nat},k[i]? =some x->k.drop i=x::k.drop (i+1):=λaf=>by
     obtain⟨I,J⟩:=Zc.1 af
     rw[Zv I,J]
    have kc:∀{α:Type}{k:List α}{x:α}{i:Nat},k[i]? =some x->k.take (i+1)=k.take i++[x]:=λaf=>by
     rw[ZY,af];rfl
    rw[aH kX,aH e3]at rq
    obtain⟨azL,aEx,qU,cn,Oo,jD,auu⟩:=rq
    simp only[Yw]at cn
    obtain⟨rfl,rfl⟩:=cn
    obtain⟨aEz,aED,Qr,ahz,db,dx,gf,ul,Bu,eU,e6,fq,k2,Bi,aga⟩:=id jD
    simp only[Yw,Ya,Y8]at eU
    obtain⟨rfl,rfl,rfl,rfl⟩:=eU
    have Hq:∀e,qU e->Y X bW e=Y X bC e:=λe z=>adz e (Oo e z)
    have uN:∀e,qU e->cQ j aG e:=λe z=>sb e (Oo e z)
    have arx:=Md (Bi.ab (T:=bC) λe z=>(Hq e z).symm) (j8.ab ku)
    subst arx
    have dS:=cA.f3 W Zo
    have ic:=aeV.row Zd e3
    have jE:=jD.jH
    have HE:=Bi.len
    have EW:=Bi.many
    obtain⟨yv,aui⟩:=auZ.SQ
    refine iM @FU @FT @t37 @d @dS @ic ⟨?_⟩
    refine fw (hF (q:=6) (b:=b4) (U:=0) (n:=6) (c:=K.ofList [.str [], .Z 0, .aV, .aV, .aV, .aV] 0 .nil) (bg Zo) Zo rfl Zd Zd jE) ?_
    generalize fB:Go.bd.bn X _ b4 _=b9
    have dT:Y X b9 b4=zu [.str g.name, .Z g.at_,dj,dG,jJ,eP] 6:=by rw[<-fB,bg Zo];rfl
    have dy:∀e,e<b4->Y X b9 e=Y X bW e:=λe z=>by rw[<-fB];exact zw
    clear fB
    have as1:sT X bC (bf+1) (cQ j aG) b9 (b4+1):=⟨Zo,λe z aE=>by rw[dy e Zo];exact fi.r5.low e z aE,λe z bj=>(fi.r5.own e z bj).ab (dy e (zq z.2))⟩
    have S7:W2 X bC (bf+1) (cQ j aG) qU ai (fH g) g.eqs Bu b9 (b4+1) 0 b9 (b4+1):=⟨as1,Zi _,λ_ _ _=>rfl,qU,λ_ a=>a,λe z=>by rw[dy e (zq (uN e z).2)];exact Hq e z,(aga.ab (λe z=>dy e (zq (uN e z).2)) (λ_ a=>a)),by rw[ZI,ZI];rfl⟩
    refine cT (bO dT) @HE ⟨?_⟩
    refine fK (λm H T aU=>∃(q:Nat),H.g 3=some (.ptr b 0)/\H.g 5=some (.ptr bf 0)/\H.g 37=some aW/\H.g 38=some (.Z (br.length:Int))/\H.g 39=some (.Z (W:Int))/\H.g 44=some eP/\H.g 45=some (.Z (Bu.length:Int))/\H.g 46=some (.Z (q:Int))/\q+m=Bu.length/\W2 X bC (bf+1) (cQ j aG) qU ai (fH g) g.eqs Bu b9 (b4+1) q T aU)
     Bu.length ⟨0,a7 t3,a7 t5,a7 t37,a7 FT,a7 FU,bw,bw,fW,Zo,S7⟩ ?_
    clear t3 t5 t37 FT FU
    rintro Vv H DR tM ⟨q,t3,t5,t37,FT,FU,ahQ,Ws,Wt,aD,bT⟩
    have aDg:=bT.le
    obtain⟨DI,Ha,Tb,adZ,TN⟩:=bT.at_
    have H7:∀e,e<b4->¬(qU e/\po X bC e)->Y X DR e=Y X bW e:=λe z aE=>by rw[bT.low e Zo aE,dy e z]
    have PC:∀e,qU e->¬po X bC e->Y X DR e=Y X bW e:=λe z aE=>H7 e (zq (uN e z).2) (λa=>aE a.2)
    have af9:=Mc Bi (avn aga) Hq PC
    cases Vv with
    |zero=>
     have d:=zr q Bu.length
     refine gg @Wt @Ws @d @FU @bF ⟨?_⟩
     rw[Zx Zo,Zx Zo]at TN
     have auA:pn X DR (λe=>qU e\/cQ (b4+1) tM e) (q5 ai g) [.str g.name, .Z g.at_,dj,dG,jJ,eP]:=
      ⟨dj,dG,jJ,eP,db,dx,gf,ul,Bu,rfl,(Mc e6 (UM _) Hq PC).lift (λ_ a=> .inl a),(Mc fq (UM _) Hq PC).lift (λ_ a=> .inl a),(Mc k2 (UM _) Hq PC).lift (λ_ a=> .inl a),af9.lift (λ_ a=> .inl a),TN.ab (λ_ _=>rfl) (λe z=>z.imp (λa=>a.1) id)⟩
     refine⟨m,Zo,W+1,a7 t3,a7 t5,a7 t37,a7 FT,bw,Zo,bT.r5,λe z aE=> ?_,λe=>mS e/\¬qU e,λe z=>sb e z.1,λe z=> ?_,auu.ab (λe z=> ?_) (λ_ a=>a), ?_⟩
     ·rw[H7 e Zo (λa=>aE ⟨uN e a.1,a.2⟩)];exact fi.low e z aE
     ·rw[H7 e (zq (sb e z.1).2) (λa=>z.2 a.1)];exact adz e z.1
     ·exact H7 e (zq (sb e z.1).2) (λa=>z.2 a.1)
     ·rw[kc kX,kc e3,Yi]
      refine lX.snoc (bm:=λe=>qU e\/cQ (b4+1) tM e) (es:=λe=>(cQ j aG e/\¬mS e)\/cQ (bf+1) b4 e) auA (TH.ab (λe z=> ?_) (λ_ a=>a)) (λe z=> ?_) (λe z=> ?_)
      ·rcases z with z|z
       ·exact H7 e (zq z.1.2) (λa=>z.2 (Oo e a.1))
       ·have I:=z.1
        exact H7 e z.2 (λa=>zq (uN e a.1).2)
      ·rcases z with z|z
       ·exact .inl ⟨z.1,λa=>z.2 a.1⟩
       ·exact .inr ⟨z.1,zq z.2⟩
      ·rcases z with z|z
       ·exact⟨.inl ⟨uN e z,λa=>a.2 z⟩,λa=>a.elim (λa=>a.2 (Oo e z)) λa=>by have:=(uN e z).2;have:=a.1;omega⟩
       ·have I:=z.1
        exact⟨.inr ⟨Zo,z.2⟩,λa=>a.elim (λa=>zq a.1.2) λa=>zq a.2⟩
    |succ Vv=>
     have d:=zs q Bu.length
     have cn:=zv q
     obtain⟨vb,A1⟩:∃eq,g.eqs[q]? =some eq:=⟨_,Ze Zo⟩
     have auk:=Zj A1
     obtain⟨azV,A4⟩:∃r,Bu[q]? =some r:=⟨_,Ze Zo⟩
     obtain⟨FZ,au7,OH,auV⟩:=aui q vb azV A1 A4
     rw[aH A1,aH A4]at adZ
     obtain⟨aEy,V7,B,iL,qu,tu,aum⟩:=adZ
     simp only[Yw]at iL
     obtain⟨rfl,rfl⟩:=iL
     obtain⟨ky,mI,cX,cF,k8,rfl,hA,⟨ka,aud⟩,mz,nA⟩:=id tu
     cases au7
     have pD:=Bi.f3 q Zo
     have Lf:=af9.row Zd A4
     have AM:∀e,B e->cQ j aG e:=λe z=>uN e (Ha e (qu e z))
     refine iM @Wt @Ws @ahQ @d @pD @Lf ⟨?_⟩
     refine fw (hF (q:=4) (b:=tM) (U:=0) (n:=4) (c:=K.ofList [.aV, .aV, .Z 0, .cx] 0 .nil) (bg Zo) Zo rfl Zd Zd nA) ?_
     generalize Tp:Go.bd.bn X _ tM _=M2
     have aqS:Y X M2 tM=zu [ky,mI, .Z vb.at_,FZ] 4:=by rw[<-Tp,bg Zo];rfl
     have LF:∀e,e<tM->Y X M2 e=Y X DR e:=λe z=>by rw[<-Tp];exact zw
     clear Tp
     have as2:sT X bC (bf+1) (cQ j aG) M2 (tM+1):=⟨Zo,λe z aE=>by rw[LF e Zo];exact bT.r5.low e z aE,λe z bj=>(bT.r5.own e z bj).ab (LF e (zq z.2))⟩
     refine cT (bO aqS) @t5 ⟨?_⟩
     refine(aBR (X:=X) (c6:=bC) (ai:=ai) (t:=fH g) (cE:=cE) (es:=cQ j aG) (c3:=cQ (aG+1) bf) aw.todu arR (SizeOf.sizeOf vb.right+1) vb.right (Yq _) (λe=>B e/\(vb.c7≠[]->e≠cF)) FZ M2 (tM+1) as2 (λe z=>zq (AM e z.1).2)
      (cy.ab (λe z=>LF e (zq (AM e z.1).2)) _ _ aud) (.inl ⟨((A8 g mx).eqs vb auk).right,lY.ab ku H6 (λ_ _=>rfl) (λ_ a=>a) (λ_ a=>a) _ _ auV,λe z=>AM e z.1,λe z=>by rw[LF e (zq (AM e z.1).2)];exact Tb e (qu e z.1)⟩)).Zm ?_
     rintro ac M3 VE ⟨rfl,as3,aDh,avj,atp⟩
     have Fc:∀e,e<tM->¬((B e/\(vb.c7≠[]->e≠cF))/\po X bC e)->Y X M3 e=Y X DR e:=λe z aE=>by rw[atp e Zo aE,LF e z]
     have awi:∀e,B e->¬po X bC e->Y X M3 e=Y X DR e:=λe z aE=>Fc e (zq (AM e z).2) (λa=>aE a.2)
     have lp:∀e,B e->Y X DR e=Y X bC e:=λe z=>Tb e (qu e z)
     have kY:cy X M3 (λe=>(B e\/cQ (tM+1) VE e)/\((Ei ai (fH g) vb).c7≠[]->e≠cF)) (i1 (mn ai (fH g)) vb.right) FZ:=cy.lift (λe z=>by
      rcases z with z|z
      ·exact⟨.inl z.1,z.2⟩
      ·refine⟨.inr z,λc8 E=> ?_⟩
       have I:=z.1
       have J:=(AM _ (ka.aj (λa=>c8 (show vb.c7=[] by simpa using a)))).2
       omega) _ _ avj
     have auB:xA X M3 (λe=>B e\/cQ (tM+1) VE e) (Ei ai (fH g) vb) [ky,mI, .Z vb.at_,FZ]:=
      ⟨ky,mI,cX,cF,FZ,rfl,(Mc hA (avp _) lp awi).lift (λ_ a=> .inl a),⟨(dD.PB ka λc8=>Fc cF (zq (AM _ (ka.aj c8)).2) (λa=>a.1.2 (λa=>c8 (by simp[a])) rfl)).lift (λ_ a=> .inl a),kY⟩,cy.lift (λ_ a=>a.1) _ _ kY,nA⟩
     refine cT @Wt @cn ⟨?_⟩
     refine⟨Vv,Zo,q+1,a7 t3,a7 t5,a7 t37,a7 FT,a7 FU,a7 ahQ,a7 Ws,bw,Zo,as3,Zo,λe z aE=> ?_,λe=>DI e/\¬B e,λe z=>Ha e z.1,λe z=> ?_,aum.ab (λe z=> ?_) (λ_ a=>a), ?_⟩
     ·rw[Fc e Zo (λa=>aE ⟨Ha e (qu e a.1.1),a.2⟩)];exact bT.low e z aE
     ·rw[Fc e (zq (uN e (Ha e z.1)).2) (λa=>z.2 a.1.1)];exact Tb e z.1
     ·exact Fc e (zq (uN e (Ha e z.1)).2) (λa=>z.2 a.1.1)
     ·rw[kc A1,kc A4,Yi]
      refine mP.snoc (bm:=λe=>B e\/cQ (tM+1) VE e) (es:=λe=>(qU e/\¬DI e)\/cQ (b4+1) tM e) auB (TN.ab (λe z=> ?_) (λ_ a=>a)) (λe z=> ?_) (λe z=> ?_)
      ·rcases z with z|z
       ·exact Fc e (zq (uN e z.1).2) (λa=>z.2 (qu e a.1.1))
       ·have I:=z.1
        exact Fc e z.2 (λa=>zq (AM e a.1.1).2)
      ·rcases z with z|z
       ·exact .inl ⟨z.1,λa=>z.2 a.1⟩
       ·exact .inr ⟨z.1,zq z.2⟩
      ·rcases z with z|z
       ·exact⟨.inl ⟨Ha e (qu e z),λa=>a.2 z⟩,λa=>a.elim (λa=>a.2 (qu e z)) λa=>by have:=(AM e z).2;have:=a.1;omega⟩
       ·have I:=z.1
        exact⟨.inr ⟨Zo,z.2⟩,λa=>a.elim (λa=>zq (uN e a.1).2) λa=>zq a.2⟩
  ·rw[Zg aA]at ls
   subst ls
   have cr:decide (cc≠0)=true:=by simp[aA]
   refine ci @iZ ⟨?_⟩
   generalize eH:Go.bd.bn X _ aG _=bC
   have U2:aO X bC (.ptr aG 0)=some (.Z cc):=by rw[<-eH,bO (bg Zo)];exact Dy _ _ _
   have d0:∀e,e<aG->Y X bC e=Y X aX e:=λe I=>by rw[<-eH];exact zw
   clear eH
   refine cT @U2 @cr ⟨?_⟩
   refine GH Lj ?_
   refine cK ⟨?_⟩
   exact⟨rfl,Zo,λe z=>by rw[d0 e Zo,G7.ab e Zo];exact bN.ab e z⟩
end
end
end Go.Proofs.YtpfajohmofnkfaaGreatDoor

namespace Go.bd
noncomputable section
open Go.RowKit (Below)
def W7(k:List D):Prop:=∀v∈k,(∀S iF,aQ S v=aQ iF v)/\∀ad,ck ad v
def Gc(w:World)(v:Value)(bl:Nat)(k:List D):Prop:=
 (v= .slice none 0 0/\k=[])\/∃cH off len cap cm ty fr,v= .slice (some ⟨cH,off,none⟩) len cap/\len<=cap/\k.length=len*bl/\W7 k/\
  (0<k.length->w.heap[cH]? =some (.cells cm ty fr)/\off+k.length<=cm.size/\∀i x,k[i]? =some x->cm[off+i]? =some (aQ (λ_=>default) x))
def aiJ(C:aL)(F:D)(b bl:Nat)(k:List D):Prop:=
 (F= .aV/\k=[])\/∃len cap,F= .slice b 0 len cap/\len<=cap/\k.length=len*bl/\(0<k.length->Y C .nil b=some (.cells (K.ofList k 0 .nil) k.length .ki))
def yH(k:List D)(G:K ag)(b:Nat):K ag:=if 0<k.length then G.set b (some (.cells (K.ofList k 0 .nil) k.length .ki))else G
def Gc.pl{w:World}{v:Value}{bl:Nat}{k:List D}(a:Gc w v bl k)(b:Nat):∃(F:D) (pl:mR),(∀S:c9,S b=pl->aQ S F=v)/\(∀ad:Nat->Prop,ad b->ck ad F)/\
 ((F= .aV/\k=[])\/∃len cap,F= .slice b 0 len cap/\len<=cap/\k.length=len*bl)/\(0<k.length->∀C S ad,kk C S ad (.cells (K.ofList k 0 .nil) k.length .ki) pl w):=by
 rcases a with ⟨rfl,rfl⟩|⟨cH,off,len,cap,cm,ty,fr,rfl,I,J,am,aB⟩
 ·exact⟨.aV,default,λ_ _=>rfl,λ_ _=>trivial, .inl ⟨rfl,rfl⟩,λa=>by simp at a⟩
 ·refine⟨.slice b 0 len cap,⟨cH,off,k.length⟩,λS dL=>by simp[aQ,dL],λad d=>d, .inr ⟨len,cap,rfl,I,J⟩,λa C S ad=> ?_⟩
  obtain⟨bR,cq,cP⟩:=aB a
  obtain⟨b0,aN⟩:=fr
  refine⟨cm,ty,b0,aN,bR,⟨trivial,Zi _,cq⟩,cq,λi x af=> ?_⟩
  rw[k4]at af
  have bp:=am x (Zj af)
  exact⟨by rw[bp.1 S (λ_=>default)];exact cP i x af,bp.2 ad⟩
section
variable{P:Program}{w:World}
def aww{nm:List (String×Nat)}(iR:BW P nm){laid:List (String×DataW Unit)}{hh:Nat->List D->Option D}(a:laidMet P laid w){a2:Nat}{os:List (Nat×ag)}(az:g7 P nm laid P.globals.size=(a2,os)){v0:Value}{p4:Nat}{fT:List D}(aS:Gc w v0 p4 fT):
 ∃S ad a0,dq ⟨P,yH fT (nK os .nil) a2,a2+1,hh,P.globals.size⟩ S ad .nil (a2+1) w.heap.size w/\sV ⟨P,yH fT (nK os .nil) a2,a2+1,hh,P.globals.size⟩ S ad/\ep ad [a0]/\b2 S [a0]=[v0]/\
  aiJ ⟨P,yH fT (nK os .nil) a2,a2+1,hh,P.globals.size⟩ a0 a2 p4 fT:=by
 obtain⟨a0,IF,d3,h6,t0,kw⟩:=aS.pl a2
 obtain⟨dr,f6,_,lN⟩:=a
 have cr:sU w dr:=λb off aj=>(lN b off aj).1
 obtain⟨ba,cj,f,a3⟩:=afU (C:=⟨P,yH fT (nK os .nil) a2,a2+1,hh,P.globals.size⟩) iR laid P.globals.size dr rfl f6 cr (λb off aj=>(lN b off aj).2)
 rw[az]at ba cj a3
 simp only at ba cj a3
 have eN:∀b U,Y ⟨P,yH fT (nK os .nil) a2,a2+1,hh,P.globals.size⟩ .nil b=some U->((b,U)∈os/\b<a2)\/(b=a2/\0<fT.length/\U= .cells (K.ofList fT 0 .nil) fT.length .ki):=by
  intro b U bj
  unfold Y at bj
  rw[fA]at bj
  split at bj
  ·rename_i aj
   have aj:=lG aj
   unfold yH at bj
   split at bj
   ·rename_i ay
    rw[K.kI]at bj
    split at bj
    ·rename_i E;cases bj;exact .inr ⟨E.symm▸rfl,ay,rfl⟩
    ·rcases Wc b U os .nil bj with ah|ah
     ·exact .inl ⟨ah,by have cw:b<P.globals.size\/b<a2:=(cj (b,U) ah).2.1;have:P.globals.size<=a2:=ba;omega⟩
     ·simp at ah
   ·rcases Wc b U os .nil bj with ah|ah
    ·exact .inl ⟨ah,by have cw:b<P.globals.size\/b<a2:=(cj (b,U) ah).2.1;have:P.globals.size<=a2:=ba;omega⟩
    ·simp at ah
  ·simp at bj
 refine⟨λb=>if b<P.globals.size then⟨b,0,0⟩else if b=a2 then IF else f b,λb=>b<a2+1,a0,⟨Zi _,λ_ a=>a,λb U bj=> ?_, ?_, ?_, ?_, ?_⟩, ?_, ?_, ?_, ?_⟩
 ·rcases eN b U bj with a|a
  ·omega
  ·omega
 ·intro b U bj _
  rcases eN b U bj with a|⟨rfl,ay,rfl⟩
  ·exact a3 (λb=>if b<P.globals.size then⟨b,0,0⟩else if b=a2 then IF else f b) (λb=>b<a2+1) (λb I J=>⟨by rw[Zg Zo,Zg Zo],Zo⟩) (λg bU=>⟨by rw[Zu bU],by have:P.globals.size<=a2:=ba;omega⟩) (b,U) a.1
  ·show kk _ _ _ _ (if b<P.globals.size then(⟨b,0,0⟩:mR)else if b=b then IF else f b) w
   rw[Zg (by have:P.globals.size<=b:=ba;omega),Zu rfl]
   exact kw ay _ _ _
 ·intro b dO U o' _ _ d _ _ aj
  exact absurd d (zn.2 aj)
 ·intro b U aj _ d
  exact absurd d (zn.2 aj)
 ·intro b U bj _
  rcases eN b U bj with a|⟨rfl,ay,rfl⟩
  ·exact(cj (b,U) a.1).2.2 _ _
  ·refine⟨λc n k az=>(by cases az),λc n st aA i v bD=> ?_⟩
   cases aA
   rw[k4]at bD
   exact(Zc.1 bD).1
 ·intro g bU
  have bU:g<P.globals.size:=bU
  exact⟨Zo,by simp[bU],by simp[bU]⟩
 ·exact⟨h6 _ Zo,trivial⟩
 ·simp only[b2]
  rw[d3 _ (by rw[Zg Zo,Zu rfl])]
 ·rcases t0 with a|⟨len,cap,cG,cw,d9⟩
  ·exact .inl a
  ·refine .inr ⟨len,cap,cG,cw,d9,λa=> ?_⟩
   unfold Y yH
   have:Nat.blt a2 (a2+1)=true:=by simp[Nat.blt]
   rw[this,eX,Zu a,K.kI,Zu rfl]
end
end
end Go.bd

namespace Go.Proofs.YtpfajohmofnkfaaGreatDoor
open Go.bd Go.aR
noncomputable section
def nm:List (String×Nat):=[((Tryz.prog.typeName? 3 304).getD "",304)]
def ao:Nat×List (Nat×ag):=g7 Tryz.prog nm Rows.initialFbyRow.laid Tryz.prog.globals.size
def Ik:ao.1=22:=Zk
def fu:K ag:=nK ao.2 .nil
def arh:fu.get 1=zu [.str [45,62], .str [60,60], .str [62,62], .str [60,61], .str [62,61], .str [60,62], .str [40], .str [41], .str [44], .str [59], .str [58], .str [61], .str [60], .str [62], .str [43], .str [45], .str [42]] 17:=Zk
def G5:fu.get 2=zu [.slice 14 0 18 18] 1:=Zk
def vP:fu.get 3=zu [.map 16] 1:=Zk
def Er:fu.get 4=zu [.bool true, .bool false, .int .i64 1] 3:=Zk
def N9:fu.get 5=zu [.map 15] 1:=Zk
def Ki:fu.get 6=zu [.iface 304 (.ptr 13 0)] 1:=Zk
def x8:fu.get 7=zu [.iface 304 (.ptr 12 0)] 1:=Zk
def AG:fu.get 9=zu [.slice 17 0 2 2, .slice 18 0 1 1, .slice 19 0 6 6, .slice 20 0 2 2, .slice 21 0 1 1] 5:=Zk
def ari:fu.get 14=zu [.str [110,111,100,101], .str [114,101,116,117,114,110,115], .str [118,97,114], .str [108,101,116], .str [116,101,108], .str [119,104,101,110], .str [110,111,116], .str [111,114], .str [120,111,114], .str [97,110,100], .str [112,114,101], .str [102,98,121], .str [105,102], .str [116,104,101,110], .str [101,108,115,101], .str [109,101,114,103,101], .str [116,114,117,101], .str [102,97,108,115,101]] 18:=Zk
def ark:fu.get 16=some (.look [(.str [97,110,100], .bool true),(.str [101,108,115,101], .bool true),(.str [102,97,108,115,101], .bool true),(.str [102,98,121], .bool true),(.str [105,102], .bool true),(.str [108,101,116], .bool true),(.str [109,101,114,103,101], .bool true),(.str [110,111,100,101], .bool true),(.str [110,111,116], .bool true),(.str [111,114], .bool true),(.str [112,114,101], .bool true),(.str [114,101,116,117,114,110,115], .bool true),(.str [116,101,108], .bool true),(.str [116,104,101,110], .bool true),(.str [116,114,117,101], .bool true),(.str [118,97,114], .bool true),(.str [119,104,101,110], .bool true),(.str [120,111,114], .bool true)]):=Zk
structure rX(X:cb):Prop where
 a2:X.a2=23
 get:∀b,b<22->X.G.get b=fu.get b
section
variable{X:cb}{h:K ag}
def rX.Y(a:rX X){b:Nat}(aj:b<22):Y X h b=fu.get b:=by
 have E:Nat.blt b (o X).a2=true:=by
  show Nat.blt b X.a2=true
  rw[a.a2];simp[Nat.blt];omega
 unfold Go.bd.Y
 rw[E,eX]
 exact a.get b aj
def rX.yE(a:rX X){b n:Nat}(aj:b<22){c:K D}{st:ox}(bU:fu.get b=some (.cells c n st))(U:Nat):aO X h (.ptr b U)=c.get U:=bO (by rw[a.Y aj];exact bU) U
def aqz(a:rX X):DK X:=λh=>by
 rw[sq,a.Y Zd,Er]
 rfl
def aqA(a:rX X):lV X:=⟨⟨13,λh=>by rw[a.yE Zd Ki];rfl⟩,⟨12,λh=>by rw[a.yE Zd x8];rfl⟩⟩
def aqF(a:rX X):Rf X:=⟨λh=>by
 rw[sq,a.Y Zd,arh]
 rfl⟩
def aw0(w:bi):∀L:List (bi×D),(L.map Prod.fst).Nodup->pX X h 9 (.str w) (L.map λE=>(D.str E.1,E.2))=some ((L.find? λE=>decide (E.1=w)).map Prod.snd):=by
 intro L
 induction L with
 |nil=>intro _;rfl
 |cons E L al=>
  intro aE
  rw[ZL,List.nodup_cons]at aE
  simp only[ZL,pX,al aE.2,ace,Fo,zj]
  by_cases a:E.1=w
  ·have cz:w=E.1:=a.symm
   have j9:L.find? (λE=>decide (E.1=w))=none:=by
    rw[zk]
    intro x af bL
    have:x.1=w:=by simpa using bL
    exact aE.1 (by rw[a, <-this];exact List.mem_map_of_mem af)
   simp[a,j9]
  ·have cz:¬w=E.1:=λah=>a ah.symm
   simp[a,cz]
noncomputable def tU:List bi:=[[97,110,100],[101,108,115,101],[102,97,108,115,101],[102,98,121],[105,102],[108,101,116],[109,101,114,103,101],[110,111,100,101],[110,111,116],[111,114],[112,114,101],[114,101,116,117,114,110,115],[116,101,108],[116,104,101,110],[116,114,117,101],[118,97,114],[119,104,101,110],[120,111,114]]
def ahq(s:bi):s∈tU↔s∈wU:=by
 constructor
 ·intro a
  have:∀w∈tU,w∈wU:=by decide
  exact this s a
 ·intro a
  have:∀w∈wU,w∈tU:=by decide
  exact this s a
def azl:((tU.map λs=>(s,D.bool true)).map λE:bi×D=>(D.str E.1,E.2))=[(.str [97,110,100], .bool true),(.str [101,108,115,101], .bool true),(.str [102,97,108,115,101], .bool true),(.str [102,98,121], .bool true),(.str [105,102], .bool true),(.str [108,101,116], .bool true),(.str [109,101,114,103,101], .bool true),(.str [110,111,100,101], .bool true),(.str [110,111,116], .bool true),(.str [111,114], .bool true),(.str [112,114,101], .bool true),(.str [114,101,116,117,114,110,115], .bool true),(.str [116,101,108], .bool true),(.str [116,104,101,110], .bool true),(.str [116,114,117,101], .bool true),(.str [118,97,114], .bool true),(.str [119,104,101,110], .bool true),(.str [120,111,114], .bool true)]:=rfl
def aqD(a:rX X):MV X:=⟨.map 16,λh=>⟨by rw[a.yE Zd vP];rfl,λs=>by
 have bF:Y X h 16=_:=(a.Y Zd).trans ark
 rw[<-azl]at bF
 have O3:((tU.map λs=>(s,D.bool true)).map Prod.fst).Nodup:=by decide
 simp only[lO,bF,P2,eX,aw0 s _ O3]
 have ch:((tU.map λs=>(s,D.bool true)).find? λE=>decide (E.1=s)).map Prod.snd=if s∈tU then some (D.bool true)else none:=by
  by_cases aF:s∈tU
  ·rw[Zu aF]
   generalize tU=L at aF
   induction L with
   |nil=>cases aF
   |cons F L al=>
    rw[ZL,zj]
    by_cases aC:F=s
    ·simp[aC]
    ·simp only[aC,Yd]
     exact al ((Zr.1 aF).resolve_left (λE=>aC E.symm))
  ·rw[Zg aF]
   have:(tU.map λs=>(s,D.bool true)).find? (λE=>decide (E.1=s))=none:=by
    rw[zk]
    intro x af bL
    obtain⟨e,z,rfl⟩:=ZE.1 af
    have:e=s:=by simpa using bL
    exact aF (this▸z)
   rw[this];rfl
 rw[ch]
 have:decide (s∈wU)=decide (s∈tU):=by
  by_cases aF:s∈tU
  ·simp[aF,(ahq s).1 aF]
  ·have:¬s∈wU:=λah=>aF ((ahq s).2 ah)
   simp[aF,this]
 rw[this]
 by_cases aF:s∈tU
 ·simp[aF,Ii]
 ·simp[aF,Ii]⟩⟩
def IL{P:Nat->Prop}{b q bl n:Nat}{br:List (List D)}{st:ox}(a:rX X)(aj:b<22)(bU:fu.get b=some (.cells (K.ofList br.flatten 0 .nil) n st))(aE:n=q*bl)(aD:br.length=q)(V:∀r∈br,r.length=bl)(bp:q<=300000)(bE:P b):dD X h P b (.slice b 0 q q) bl br:=
 FG (st:=st) (by rw[a.Y aj,bU,aE]) aD V bp bE
def aqC(a:rX X):rT X:=⟨by rw[a.a2];decide,λh=>⟨14, .slice 14 0 18 18,by rw[a.yE Zd G5];rfl,IL a Zd ari rfl rfl Zd Zd (by rw[a.a2];decide)⟩⟩
def arm:fu.get 17=zu ((ar 0).map λU=>[D.str U.1, .int .i64 U.2]).flatten 4:=Zk
def arn:fu.get 18=zu ((ar 1).map λU=>[D.str U.1, .int .i64 U.2]).flatten 2:=Zk
def aro:fu.get 19=zu ((ar 2).map λU=>[D.str U.1, .int .i64 U.2]).flatten 12:=Zk
def arp:fu.get 20=zu ((ar 3).map λU=>[D.str U.1, .int .i64 U.2]).flatten 4:=Zk
def arq:fu.get 21=zu ((ar 4).map λU=>[D.str U.1, .int .i64 U.2]).flatten 2:=Zk
def Mz(q:Nat):∀r∈(ar q).map λU=>[D.str U.1, .int .i64 U.2],r.length=2:=by
 intro r V
 obtain⟨U,_,rfl⟩:=ZE.1 V
 rfl
set_option maxRecDepth 20000 in
def aqB(a:rX X):xC X:=⟨by rw[a.a2];decide,λh q aD=>by
 have bE:∀b,b<22->b<X.a2:=λb aj=>by rw[a.a2];omega
 match q,aD with
 |0,_=>exact⟨17, .slice 17 0 2 2,by rw[a.yE Zd AG];rfl,IL (P:=λe=>e<X.a2) (b:=17) (br:=(ar 0).map λU=>[D.str U.1, .int .i64 U.2]) a Zd arm rfl rfl (Mz 0) Zd (bE 17 Zd)⟩
 |1,_=>exact⟨18, .slice 18 0 1 1,by rw[a.yE Zd AG];rfl,IL (P:=λe=>e<X.a2) (b:=18) (br:=(ar 1).map λU=>[D.str U.1, .int .i64 U.2]) a Zd arn rfl rfl (Mz 1) Zd (bE 18 Zd)⟩
 |2,_=>exact⟨19, .slice 19 0 6 6,by rw[a.yE Zd AG];rfl,IL (P:=λe=>e<X.a2) (b:=19) (br:=(ar 2).map λU=>[D.str U.1, .int .i64 U.2]) a Zd aro rfl rfl (Mz 2) Zd (bE 19 Zd)⟩
 |3,_=>exact⟨20, .slice 20 0 2 2,by rw[a.yE Zd AG];rfl,IL (P:=λe=>e<X.a2) (b:=20) (br:=(ar 3).map λU=>[D.str U.1, .int .i64 U.2]) a Zd arp rfl rfl (Mz 3) Zd (bE 20 Zd)⟩
 |4,_=>exact⟨21, .slice 21 0 1 1,by rw[a.yE Zd AG];rfl,IL (P:=λe=>e<X.a2) (b:=21) (br:=(ar 4).map λU=>[D.str U.1, .int .i64 U.2]) a Zd arq rfl rfl (Mz 4) Zd (bE 21 Zd)⟩⟩
def apw(F b:Int):kl X h 20 3 (.int .i64 F) (.int .i64 b)=some (uY F b):=Zk
def ax2(F:Int):np X 20 3 (.int .i64 F)=true:=Zk
def awZ(w:Int):∀L:List (Int×D),(L.map Prod.fst).Nodup->pX X h 3 (.int .i64 w) (L.map λE=>(D.int .i64 E.1,E.2))=some ((L.find? λE=>decide (E.1=w)).map Prod.snd):=by
 intro L
 induction L with
 |nil=>intro _;rfl
 |cons E L al=>
  intro aE
  rw[ZL,List.nodup_cons]at aE
  simp only[ZL,pX,al aE.2,apw,CT,zj]
  by_cases a:E.1=w
  ·have j9:L.find? (λE=>decide (E.1=w))=none:=by
    rw[zk]
    intro x af bL
    have:x.1=w:=by simpa using bL
    exact aE.1 (by rw[a, <-this];exact List.mem_map_of_mem af)
   simp[a,j9]
  ·have cz:¬w=E.1:=λah=>a ah.symm
   simp[a,cz]
noncomputable def IX:List (Int×(Int×Bool×Bool×Bool)):=[1,2,3,4,5,6,19,20,23,24,25,26].map λq:Int=>(q,(vd q).getD (0,false,false,false))
def arj:fu.get 15=some (.look ((IX.map λE=>(E.1,D.agg (qN E.2))).map λE=>(D.int .i64 E.1,E.2))):=Zk
def aAf(q:Int):(IX.find? λE=>decide (E.1=q)).map Prod.snd=vd q:=by
 by_cases aD:q=1\/q=2\/q=3\/q=4\/q=5\/q=6\/q=19\/q=20\/q=23\/q=24\/q=25\/q=26
 ·rcases aD with rfl|rfl|rfl|rfl|rfl|rfl|rfl|rfl|rfl|rfl|rfl|rfl<;>decide
 ·have I:vd q=none:=by
   unfold vd
   rw[Zg Zo,Zg Zo,Zg Zo,Zg Zo,Zg Zo,Zg Zo,Zg Zo,Zg Zo,Zg Zo]
  rw[I]
  have:IX.find? (λE=>decide (E.1=q))=none:=by
   rw[zk]
   intro x af bL
   have Po:x.1=q:=by simpa using bL
   obtain⟨e,z,rfl⟩:=ZE.1 af
   simp only at Po
   subst Po
   simp only[Zr,ZK,Yz]at z
   exact aD z
  rw[this];rfl
def aqE(a:rX X):xD X:=⟨λh=>⟨.map 15,by rw[a.yE Zd N9];rfl,λq=>by
 have bF:Y X h 15=_:=(a.Y Zd).trans arj
 have O3:((IX.map λE=>(E.1,D.agg (qN E.2))).map Prod.fst).Nodup:=by decide
 simp only[lO,bF,ax2,eX,awZ q _ O3]
 have ch:((IX.map λE=>(E.1,D.agg (qN E.2))).find? λE=>decide (E.1=q)).map Prod.snd=(vd q).map λs=>D.agg (qN s):=by
  rw[<-aAf q,List.find?_map]
  have:((λE:Int×D=>decide (E.1=q))∘λE:Int×(Int×Bool×Bool×Bool)=>(E.1,D.agg (qN E.2)))=λE=>decide (E.1=q):=rfl
  rw[this]
  cases IX.find? (λE=>decide (E.1=q))<;>rfl
 rw[ch]
 cases vd q with
 |none=>rfl
 |some s=>rfl⟩⟩
def aqG(a:rX X):Jp X:=⟨aqA a,aqD a,aqF a⟩
end
end
end Go.Proofs.YtpfajohmofnkfaaGreatDoor

