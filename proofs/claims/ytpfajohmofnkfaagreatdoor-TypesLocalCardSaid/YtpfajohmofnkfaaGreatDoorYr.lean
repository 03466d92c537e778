/- A part of the last text's proof; no condition of its own -/
import Derived.Test.YtpfajohmofnkfaaGreatDoorYq
import Derived.Test.YtpfajohmofnkfaaGreatDoorRows
import Derived.ProofKit
set_option maxHeartbeats 8000000
set_option linter.all false
namespace Go.Proofs.YtpfajohmofnkfaaGreatDoor
open Go.bi Go.aU
noncomputable section
section
variable{X:ck}{h T a2 aS:V an}{j au aO bg:Nat}{P bu d6 iT:Nat->Prop}
def ae0{aq:List Go.aU.Node}{t:bk->Option eJ}{df:Nat->Option F}{J:bE}{v:F}(bc:me X h aq t df P d6 J v):∃b w row,v= .ptr b 0/\P b/\rR aq t J= .ok row/\df b=some w/\kH X h d6 w row:=by
 cases J
 rw[me]at bc
 obtain⟨b,iQ,aza,ma,row,w,aj,bC,Q,U,ar,aK,bH,cu,dM⟩:=bc
 exact⟨b,w,row,aj,bC,ar,aK,cu⟩
def sO.HR{aq:List Go.aU.Node}{t:bk->Option eJ}{df:Nat->Option F}:∀{cR:List e9}{aR:List (List F)},sO X h aq t df P d6 cR aR->aR.length=cR.length/\∀(i:Nat) am row,cR[i]? =some am->aR[i]? =some row->∃v,row[3]? =some v/\qW aq t am=none/\me X h aq t df P d6 am.right v:=by
 intro cR
 induction cR with
 |nil=>rintro aR rfl;exact⟨rfl,λi am row a=>by simp at a⟩
 |cons J cR ak=>
  rintro aR ⟨row,fV,v,rfl,Q,U,ar,aK⟩
  obtain⟨bV,cw⟩:=ak aK
  refine⟨by simp[bV],λi am iB b1 Z=> ?_⟩
  cases i with
  |zero=>simp at b1 Z;subst b1;subst Z;exact⟨v,Q,U,ar⟩
  |succ i=>simp at b1 Z;exact cw i am iB b1 Z
def sN.HR{aq:List Go.aU.Node}{df:Nat->Option F}:∀{l:List Go.aU.Node}{aR:List (List F)},sN X h aq df P d6 l aR->aR.length=l.length/\∀(i:Nat) g,l[i]? =some g->∃row,aR[i]? =some row/\BV X h aq df P d6 g row:=by
 intro l
 induction l with
 |nil=>rintro aR rfl;exact⟨rfl,λi g a=>by simp at a⟩
 |cons K l ak=>
  rintro aR ⟨row,fV,rfl,Q,U⟩
  obtain⟨cD,cp⟩:=ak U
  refine⟨by simp[cD],λi g aJ=> ?_⟩
  cases i with
  |zero=>simp at aJ;subst aJ;exact⟨row,rfl,Q⟩
  |succ i=>simp at aJ;obtain⟨r,eW,e5⟩:=cp i g aJ;exact⟨r,by simpa using eW,e5⟩
structure ON(X:ck)(gb:V an)(bS:Nat)(P:Nat->Prop)(c9 ho:Nat)(aR:List (List F))(i:Nat)(h:V an)(n:Nat):Prop where
 le:bS<=n
 avL:ao X h (.ptr ho 0)=some (.en c9 0 aR.length 6)
 low:∀e,e<bS->e≠c9->ab X h e=ab X gb e
 at_:∃(eo:List (List F)) (ebs:List Nat),nC X h c9 6 eo/\eo.length=aR.length/\ebs.length=i/\ebs.Nodup/\(∀e∈ebs,bS<=e/\e<n)/\(∀B,i<=B->eo[B]? =aR[B]?)/\∀(B:Nat) row iB d1,aR[B]? =some row->eo[B]? =some iB->ebs[B]? =some d1->B4 X h P row iB d1
set_option maxRecDepth 100000 in
def atd(aA:iE X)(eS:GZ X)(gr:vZ X)(aap:rC X)(aaq:xD X)(ew:Ec X)(IX:(o X).hc 30 []=some (.bool true)){a0 bh:F}{o7 s:bk}(aL:(o X).a8<=j)(aC:dX a0=some (.Z (o7.length:Int)))(aD:s.length<=5000)(aj:∀c∈s,c<256)
 (jm:sD X h 1 a0 none (some (.Z (min (o7.length:Int) 3000))) none=some bh)(qm:dX bh=some (.Z (s.length:Int)))(CH:∀T aV,bq X h j T aV->Au X T bh=some (.str s)):
 aW X 8 [a0] h j (λae T au=>ae= .bool true/\bq X h j T au) (λ_ _ _=>False):=by
 refine zA aA.todz (ajz X) ?_
 rw[ajA]
 unfold VX
 refine er @aC @at1 @jm ⟨?_⟩
 refine(avd aA eS gr aD aj aL qm CH).Zm ?_
 rintro ae a2 aO ⟨C0,bU⟩
 have jy:=bU.le
 cases AY:BA s with
 |error lX=>
  rw[AY]at C0
  obtain⟨B,K⟩:=lX
  have IB:=avh aD AY
  have be:ae= .tuple [.cz, .agg [.Z B, .Z K]]:=C0
  subst be
  have bt:decide (B≠0)=true:=by simp[IB]
  refine ci @bt ⟨?_⟩
  refine EF IX ?_
  refine cL ⟨?_⟩
  exact⟨rfl,Zo,λe H=>by simp(disch:=omega) only[aI];exact bU.ad e H⟩
 |ok aq=>
  rw[AY]at C0
  obtain⟨v,rfl,CZ⟩:=C0
  obtain⟨MN,dD,pH⟩:=avi AY
  obtain⟨b,_,_,_,rfl,ao4,_⟩:=id CZ
  have ut:=ao4.2
  have bt:decide ((0:Int)≠0)=false:=rfl
  refine cV @bt @PF ⟨?_⟩
  generalize dI:Go.bi.bn X _ aO _=aS
  have eZ:∃c,ab X aS aO=some (.cells c 2 .own):=⟨_,by rw[<-dI,bm Zo];rfl⟩
  have bK:bq X a2 aO aS (aO+1):=⟨Zo,λe H=>by rw[<-dI];exact zz⟩
  clear dI
  obtain⟨ak4,eZ⟩:=eZ
  have aqL:=CZ.ad (T:=aS) (bu:=da j aO) (λe H=>bK.ad e H.2) (λ_ a=>a)
  refine(WV (j:=aO+1) (P:=da j aO) aA eS.err aap aaq ew Zo aqL (λe H=>⟨zt H.1,zt H.2⟩) MN dD pH).Zm ?_
  rintro ae bb bs ⟨lU,cq⟩
  have iL:=cq.le
  have ji:ab X bb aO=some (.cells ak4 2 .own):=by rw[cq.ad _ Zo];exact eZ
  have E2:bq X a2 aO bb bs:=bK.trans (cq.kv Zo)
  have FC:=av5 (aq:=aq)
  unfold D9 at lU
  generalize FB:rp aq=DP at*
  obtain⟨cc,xS⟩:=DP
  simp only at lU FC
  by_cases aB:cc=0
  ·subst aB
   rw[Zq rfl]at lU
   have FC:=FC rfl
   obtain⟨vE,rfl,am,r,df,rfl,QL,LU,aqW,aoA,aoM,aoz⟩:=lU
   have azv:=QL.1;have LS:=QL.2
   have azy:=LU.1;have Ih:=LU.2
   refine ci @ji ⟨?_⟩
   generalize fl:Go.bi.bn X _ aO _=bF
   have Sc:ao X bF (.ptr aO 0)=some (.Z 0):=by rw[<-fl,bR (bm Zo)];exact Kd _ _ _
   have ec:∀e,e≠aO->ab X bF e=ab X bb e:=λe Q=>by rw[<-fl];exact zz
   clear fl
   obtain⟨dP,a6,cH,aR,yx,ao5,fB,cC,aqB⟩:=aoM
   cases yx
   have aqM:=CZ.ad (T:=bb) (bu:=da j aO) (λe H=>E2.ad e H.2) (λ_ a=>a)
   obtain⟨ay0,awZ,azb,aBs,yx,_,WC,uM,kS⟩:=aqM
   cases yx
   rw[fB]at WC;cases WC
   have:=JT cC uM
   subst this
   clear uM
   obtain⟨uO,CU⟩:=aqB.HR
   have IB:aR≠[]:=λJ=>by rw[J]at uO;exact dD (ZW uO.symm)
   have ld:∀e,da j aO e->ab X bF e=ab X bb e:=λe H=>by have:=H.2;exact ec e Zo
   have M0:∀e,da (aO+1) bs e->ab X bF e=ab X bb e:=λe H=>by have:=H.1;exact ec e Zo
   have O1:ao X bF (.ptr b 0)=some a6:=zE (ec b Zo) fB
   have j0:∀{T:V an}{aV:Nat},bq X bF bs T aV->bq X h j T aV:=λa=>⟨zt a.le,λe H=>by rw[a.ad e Zo,ec e Zo,E2.ad e Zo];exact bU.ad e H⟩
   refine er @Sc @bt @O1 ⟨?_⟩
   refine(alb (j:=bs) (P:=da j aO) aA.todz Zo (cC.ad ld) (λe H=>zt H.2)).Zm ?_
   rintro ae bX b2 ⟨⟨w2,Db,I0⟩,dH⟩
   have h5:=dH.le
   obtain⟨c9,rfl,yv,Mb⟩:∃c9,ae= .en c9 0 aR.length 6/\da bs b2 c9/\nC X bX c9 6 aR:=by
    rcases I0 with ⟨J,_⟩|a
    ·exact absurd J IB
    ·exact a
   have aqv:=yv.1;have abA:=yv.2
   have QO:eB [.aP] [(0,1, .en c9 0 aR.length 6)]=some (.agg [.en c9 0 aR.length 6]):=by simp[eB,py,pz,li,F.cells]
   refine fF QO ?_
   refine sT ?_
   generalize f6:Go.bi.bn X bX b2 _=cf
   have dY:ao X cf (.ptr b2 0)=some (.en c9 0 aR.length 6):=by rw[<-f6,bR (bm Zo)];rfl
   have dK:∀e,e<b2->ab X cf e=ab X bX e:=λe H=>by rw[<-f6];exact zz
   clear f6
   have sk:∀e,da j aO e->ab X cf e=ab X bb e:=λe H=>by have:=H.2;rw[dK e Zo,dH.ad e Zo,ld e H]
   have i6:=cC.many
   have eD:=n7 c9 0 aR.length 6
   have LI:ON X cf (b2+1) (da j aO) c9 b2 aR 0 cf (b2+1):=⟨Zi _,dY,λ_ _ _=>rfl,aR,[],Mb.ad (dK c9 abA),rfl,rfl,List.nodup_nil,Zs,λ_ _=>rfl,λB K b c _ _ a=>by simp at a⟩
   refine cV @dY @eD ⟨?_⟩
   refine fU (λm M T aV=>∃(i:Nat),M.g 3=some (.ptr b 0)/\M.g 5=some (.ptr am 0)/\M.g 6=some (.ptr b2 0)/\M.g 49=some (.Z (aR.length:Int))/\M.g 50=some (.Z (i:Int))/\i+m=aR.length/\ON X cf (b2+1) (da j aO) c9 b2 aR i T aV)
    aR.length ⟨0,bw,bw,bw,bw,gc,Zo,LI⟩ ?_
   rintro m M cx eu ⟨i,t3,t5,fM,m3,pa,aJ,gu⟩
   have nn:=gu.le
   have vq:=gu.avL
   have n2:∀e,da j aO e->ab X cx e=ab X bb e:=λe H=>by have:=H.2;rw[gu.low e Zo Zo,sk e H]
   obtain⟨eo,ebs,iI,Ie,AT,wM,Fi,aay,QH⟩:=gu.at_
   cases m with
   |succ m=>
    have d:=zv i aR.length
    have bD:=zy i
    obtain⟨g,apT⟩:=zw aq i
    obtain⟨row,ft,jK⟩:=kS.get i g apT
    obtain⟨cY,dj,iQ,ev,dt,dG,hd,wg,hX,rfl,nl,lC,oK,iu,e3⟩:=id jK
    have aax:eo[i]? =some [.str g.name, .Z g.at_,cY,dj,iQ,ev]:=by rw[aay i (Zi _)];exact ft
    have QG:=iI.l5 (P:=λe=>e=c9) Zo rfl
    rw[Ie]at QG
    have dZ:=QG.f2 i Zo
    have apk:=QG.cell i _ 5 ev aax rfl
    refine e7 @pa @m3 @d @fM @vq @dZ @apk ⟨?_⟩
    refine(alc (j:=eu+17) (P:=da j aO) aA.todz Zo (iu.ad n2) (λe H=>zt H.2)).Zm ?_
    rintro ae dx hW ⟨⟨w2,Db,I0⟩,g9⟩
    have yt:=g9.le
    have NI:ao X dx (.ptr b2 0)=some (.en c9 0 aR.length 6):=zE (g9.ad b2 Zo) vq
    have aoP:=iI.ad (g9.ad c9 Zo)
    have arC:=(ke eD).2.2
    refine cV @dZ @NI ⟨?_⟩
    refine gP arC ?_
    refine cL ⟨?_⟩
    refine aoP.cell Zo aax Zd w2 Db λei QF hl=> ?_
    have JN:ao X ei (.ptr b2 0)=some (.en c9 0 aR.length 6):=zE (hl b2 Zo) NI
    have bn:([.str g.name, .Z g.at_,cY,dj,iQ,ev]:List F).set 5 ae=[.str g.name, .Z g.at_,cY,dj,iQ,ae]:=rfl
    rw[bn]at QF
    have aav:=QF.l5 (P:=λe=>e=c9) (by rw[Yq];omega) rfl
    rw[Yq,Ie]at aav
    have jk:i<eo.length:=Zo
    have apm:=aav.cell i _ 5 ae (by rw[YC,Zq rfl,Zq jk]) rfl
    refine gt @fM @JN @dZ @apm ⟨?_⟩
    have aqf:∀e,e<eu->e≠c9->ab X ei e=ab X cx e:=λe Q U=>by rw[hl e U,g9.ad e Zo]
    have done:∀(T:V an) (aV d1:Nat),hW<=aV->eu<=d1->d1<aV->d1≠c9->B3 X T d1 ae hX->(∀e,e≠d1->ab X T e=ab X ei e)->ON X cf (b2+1) (da j aO) c9 b2 aR (i+1) T aV:=λT aV d1 Q U ar aK hL aN=>by
     have MW:∀e,e<eu->e≠c9->ab X T e=ab X cx e:=λe cD cp=>by rw[aN e Zo,aqf e cD cp]
     refine⟨Zo,zE (aN b2 Zo) JN,λe cD cp=>by rw[MW e Zo cp];exact gu.low e cD cp,_,ebs++[d1],QF.ad (aN c9 (λJ=>aK J.symm)),by rw[Yq];exact Ie,by rw[ZM,AT];rfl, ?_, ?_,λB azU=> ?_,λB K fN c cD cp dF=> ?_⟩
     ·rw[List.nodup_append]
      exact⟨wM,Zs,λK aE c aB J=>by have:=(Fi K aE).2;simp at aB;omega⟩
     ·intro e H
      rcases Zy.1 H with H|H
      ·have:=Fi e H;omega
      ·simp at H;omega
     ·rw[YC,Zg Zo];exact aay B Zo
     ·rw[YC]at cp
      by_cases abk:i=B
      ·subst abk
       rw[Zq rfl,Zq jk]at cp
       rw[ft]at cD
       rw[ZE Zo,AT,Nat.sub_self]at dF
       simp at cD cp dF
       subst cD;subst cp;subst dF
       exact⟨_,_,_,_,_,_,_,hX,wg,rfl,rfl,iu.ad (λe H=>by have:=H.2;rw[MW e Zo Zo];exact n2 e H),hL⟩
      ·rw[Zg abk]at cp
       have r7:B<ebs.length:=by
        rcases Y1 B ebs.length with a|a
        ·exact a
        ·rw[ZE a]at dF
         have:B-ebs.length≠0:=Zo
         rw[ZG (by simp;omega)]at dF
         cases dF
       rw[ZO r7]at dF
       have apl:=Fi c (Zl dF)
       exact(QH B K fN c cD cp dF).ad (λe H=>by have:=H.2;exact MW e Zo Zo) (MW c apl.2 Zo)
    rcases I0 with ⟨IT,mQ⟩|⟨d1,rfl,wL,wO⟩
    ·refine(awg aA.todz mQ).Zm ?_
     rintro w hj d2 ⟨rfl,rfl,rfl⟩
     refine cV @pa @bD ⟨?_⟩
     exact⟨m,Zo,i+1,bf t3,bf t5,bf fM,bf m3,bw,Zo,done _ _ eu (Zi _) (Zi _) Zo Zo (.inl ⟨IT,mQ⟩) (λ_ _=>rfl)⟩
    ·have apD:=wL.1;have apE:=wL.2
     refine(awh aA.todz Zo Zo Zo (wO.ad (hl d1 Zo)) (λr Z=> ?_) iu.many).Zm ?_
     ·obtain⟨B,aN,arh⟩:=List.mem_iff_getElem.1 Z
      have lW:=e3.wide
      obtain⟨xl,aq1⟩:=zw g.eqs B
      obtain⟨Tf,yA,sb⟩:=e3.get B xl aq1
      rw[Ze aN,arh]at yA
      cases yA
      obtain⟨_,_,_,_,_,_,_,_,_,Q⟩:=sb
      exact Q
     rintro w hj d2 ⟨rfl,Q8,aqb,ap8⟩
     refine cV @pa @bD ⟨?_⟩
     exact⟨m,Zo,i+1,bf t3,bf t5,bf fM,bf m3,bw,Zo,done _ _ d1 aqb Zo Zo Zo (.inr ⟨rfl,Q8⟩) ap8⟩
   |zero=>
    have d:=zu i aR.length
    have azS:i=aR.length:=Zo
    refine gt @pa @m3 @d @fM ⟨?_⟩
    let Af:Nat->Prop:=λe=>(da j aO e\/e∈ebs)\/e=c9\/e=b2
    have abx:=cC.many
    have aaw:dO X cx Af c9 (.en c9 0 aR.length 6) 6 eo:=by
     have:=iI.l5 (P:=Af) Zo (.inr (.inl rfl))
     rw[Ie]at this
     exact this
    have aqR:nE X cx Af (aq.map hN) (.ptr b2 0):=⟨b2,_,c9,eo,rfl, .inr (.inr rfl),vq,aaw,(auB (kS.ad n2 (λ_ a=>a)) Ie Zo wM (λe H az=>by have:=(Fi e H).1;have:=az.2;omega) QH).ad (λ_ _=>rfl) (λe H=> .inl H)⟩
    have Ib:∀e,Af e->(o X).a8<=e/\e<eu:=λe H=>by
     rcases H with (H|H)|rfl|rfl
     ·have:=H.1;have:=H.2;omega
     ·have:=Fi e H;omega
     ·omega
     ·omega
    refine(WV (j:=eu) (P:=Af) aA eS.err aap aaq ew Zo aqR Ib (λg b5=>by obtain⟨iY,b6,rfl⟩:=ZT.1 b5;exact aux (MN iY b6)) (by simp[dD]) (atA pH)).Zm ?_
    rintro ae OJ tz ⟨QV,CA⟩
    have az8:=CA.le
    unfold D9 at QV
    rw[Zq FC]at QV
    obtain⟨aBy,rfl,cp,e5,Jp,rfl,LS,Ih,aqX,aoB,aoN,aat⟩:=QV
    rw[alh]at aat
    have azw:=LS.1;have azx:=LS.2
    have azz:=Ih.1;have azA:=Ih.2
    refine cL ⟨?_⟩
    generalize qg:Go.bi.bn X _ tz _=dx
    have as3:ao X dx (.ptr tz 0)=some (.Z 0):=by rw[<-qg,bR (bm Zo)];exact Kd _ _ _
    have hw:∀e,e<tz->ab X dx e=ab X OJ e:=λe Q=>by rw[<-qg];exact zz
    clear qg
    have asJ:∀e,Af e->ab X dx e=ab X cx e:=λe H=>by have:=(Ib e H).2;rw[hw e Zo,CA.ad e Zo]
    have qu:∀e,da j aO e->ab X dx e=ab X bb e:=λe H=>by rw[asJ e (.inl (.inl H)),n2 e H]
    have M1:∀e,da (aO+1) bs e->ab X dx e=ab X bb e:=λe H=>by have:=H.2;rw[hw e Zo,CA.ad e Zo,gu.low e Zo Zo,dK e Zo,dH.ad e Zo,M0 e H]
    have MY:∀e,da eu tz e->ab X dx e=ab X OJ e:=λe H=>hw e H.2
    have Mw:ao X dx (.ptr am 0)=some (.map r):=zE (M1 am QL) aqW
    have abU:ao X dx (.ptr cp 0)=some (.map e5):=zE (MY cp LS) aqX
    have aox:k3 X dx (da j aO) r df:=aoA.ad (M1 r LU) qu
    have aow:k3 X dx Af e5 Jp:=aoB.ad (MY e5 Ih) (λe H=>by have:=(Ib e H).2;exact hw e Zo)
    have aoG:mH X dx r (ps aq):=aoz.ad (M1 r LU)
    have aoF:mH X dx e5 (ps aq):=aat.ad (MY e5 Ih)
    have aky:ao X dx (.ptr b 0)=some a6:=zE (qu b ao5) fB
    obtain⟨dL,NU,azc,ayT,abP,_,akw,C3,aqC⟩:=aoN
    cases abP
    have art:some NU=some (.en c9 0 aR.length 6):=by rw[<-akw,cJ,CA.ad b2 Zo, <-cJ];exact vq
    cases art
    have aoQ:=JT C3 (aaw.ad (T:=OJ) (λe H=>CA.ad e (Ib e H).2))
    subst aoQ
    obtain⟨aAI,aqx⟩:=aqC.HR
    have x0:decide ((0:Int)≠0)=false:=rfl
    have wj:decide ((ps aq:Int)≠(ps aq:Int))=false:=by simp
    refine ci @as3 ⟨?_⟩
    rw[x0]
    refine cL ⟨?_⟩
    refine(acY aA.todz abU aoF).Zm ?_
    rintro ae pZ au ⟨rfl,Q,rfl⟩
    have Q:=Q.symm
    subst Q
    refine ci @t5 ⟨?_⟩
    refine(acY aA.todz Mw aoG).Zm ?_
    rintro ae pZ au ⟨rfl,Q,rfl⟩
    have Q:=Q.symm
    subst Q
    have eD:=cC.len
    refine gt @wj @t3 @aky @eD ⟨?_⟩
    refine fU (λm M T aV=>∃(aa:Nat),M.g 5=some (.ptr am 0)/\M.g 8=some (.ptr cp 0)/\M.g 97=some a6/\M.g 98=some (.Z (aR.length:Int))/\M.g 99=some (.Z (aa:Int))/\aa+m=aR.length/\bq X dx (tz+1) T aV)
     aR.length ⟨0,bf t5,bw,bw,bw,gc,Zo,bq.refl _ _⟩ ?_
    clear t3 t5 fM m3 pa
    rintro m M V7 l0 ⟨aa,t5,gx,GO,D1,sG,bG,LC⟩
    have az9:=LC.le
    cases m with
    |zero=>
     have d:=zu aa aR.length
     refine er @sG @D1 @d ⟨?_⟩
     refine EF IX ?_
     exact⟨rfl,j0 ⟨Zo,λe H=>by rw[LC.ad e Zo,hw e Zo,CA.ad e Zo,gu.low e Zo Zo,dK e Zo,dH.ad e H]⟩⟩
    |succ m=>
     have d:=zv aa aR.length
     have bD:=zy aa
     obtain⟨g,nk⟩:=zw aq aa
     obtain⟨row,ft,CS,cY,dj,iQ,ev,c0,dL,ef,hQ,aww,rfl,nl,lC,oK,iu,e3,arL⟩:=CU aa g nk
     have jK:m5 X bb (da j aO) g [.str g.name, .Z g.at_,cY,dj,iQ,ev]:=⟨cY,dj,iQ,ev,c0,dL,ef,hQ,aww,rfl,nl,lC,oK,iu,e3⟩
     have jL:=jK.iz
     obtain⟨iB,arl,aAv,awV,axa,awZ,Tn,O2,ay1,ay2,ay3,aBu,rfl,azN,azO,azP,apZ,azI,arM⟩:=aqx aa (hN g) (by rw[Zx,nk];rfl)
     obtain⟨HE,aaV⟩:=zw ebs aa
     have apF:=Zl aaV
     have wL:=Fi HE apF
     obtain⟨_,_,_,_,_,_,aBz,hX,we,q8,gL,uL,Fy⟩:=QH aa _ _ HE ft arl aaV
     simp only[Yw,Yb]at q8 gL
     obtain⟨_,_,_,_,_,rfl⟩:=q8
     obtain⟨_,_,_,_,_,rfl⟩:=gL
     have IT:=JT uL (iu.ad n2)
     subst IT
     have ic:=JT apZ ((Fy.ad (CA.ad HE wL.2)).l5 (P:=λ_=>True) iu.many trivial)
     subst ic
     have asK:∀e,da j aO e->ab X V7 e=ab X bb e:=λe H=>by have:=H.2;rw[LC.ad e Zo,qu e H]
     have dZ:=cC.f2 aa Zo
     have ic:=(cC.ad asK).row Zd ft
     have aq5:=iu.len
     have C2:=iu.many
     obtain⟨wZ,aq2⟩:=arL.HR
     obtain⟨aAE,aq3⟩:=arM.HR
     refine iZ @sG @D1 @GO @d @dZ @ic ⟨?_⟩
     refine fF (h6 (B:=6) (b:=l0) (Y:=0) (n:=6) (c:=V.ofList [.str [], .Z 0, .aP, .aP, .aP, .aP] 0 .nil) (bm Zo) Zo rfl Zd Zd jL) ?_
     generalize QI:Go.bi.bn X _ l0 _=V8
     have h1:ab X V8 l0=zx [.str g.name, .Z g.at_,cY,dj,iQ,ev] 6:=by rw[<-QI,bm Zo];rfl
     have Sb:∀e,e<l0->ab X V8 e=ab X V7 e:=λe H=>by rw[<-QI];exact zz
     clear QI
     refine cV (bR h1) @aq5 ⟨?_⟩
     refine fU (λm M T aV=>∃(B:Nat),M.g 5=some (.ptr am 0)/\M.g 8=some (.ptr cp 0)/\M.g 97=some a6/\M.g 98=some (.Z (aR.length:Int))/\M.g 99=some (.Z (aa:Int))/\M.g 104=some ev/\M.g 105=some (.Z (hX.length:Int))/\M.g 106=some (.Z (B:Int))/\B+m=hX.length/\bq X dx (tz+1) T aV)
      hX.length ⟨0,bf t5,bf gx,bf GO,bf D1,bf sG,bw,bw,gc,Zo,⟨Zo,λe H=>by rw[Sb e Zo];exact LC.ad e H⟩⟩ ?_
     clear t5 gx GO D1 sG
     rintro kt M V9 Dw ⟨B,t5,gx,GO,D1,sG,aeQ,TD,TE,aN,LD⟩
     have aAa:=LD.le
     cases kt with
     |zero=>
      have d:=zu B hX.length
      refine gA @TE @TD @d @sG @bD ⟨?_⟩
      exact⟨m,Zo,aa+1,bf t5,bf gx,bf GO,bf D1,bw,Zo,LD⟩
     |succ kt=>
      have d:=zv B hX.length
      have cF:=zy B
      obtain⟨xl,Mz⟩:∃eq,g.eqs[B]? =some eq:=⟨_,Ze Zo⟩
      obtain⟨Tf,yA,sb⟩:=e3.get B xl Mz
      obtain⟨afd,acg,L6,arG⟩:=aq2 B xl Tf Mz yA
      have r7:hX.length-1-(hX.length-1-B)=B:=Zo
      obtain⟨aBF,ach,_,arH⟩:=aq3 (hX.length-1-B) xl Tf (by show g.eqs.reverse[_]? =_;rw[List.getElem?_reverse Zo, <-wZ,r7];exact Mz) (by rw[List.getElem?_reverse Zo,r7];exact yA)
      rw[acg]at ach
      cases ach
      have asL:∀e,da j aO e->ab X V9 e=ab X bb e:=λe H=>by have:=H.2;rw[LD.ad e Zo,qu e H]
      have qk:=iu.f2 B Zo
      have RM:=(iu.ad asL).row Zd yA
      obtain⟨nu,o5,dt,dG,lL,rfl,hM,mo,mR,oM⟩:=sb
      cases acg
      obtain⟨d1,w,NQ,rfl,L7,ti,jz,Da⟩:=ae0 arG
      obtain⟨azj,bW,aBv,r0,_,aa0,aqd,arN⟩:=ae0 arH
      cases r0
      rw[PJ (TH g) aq xl.right,ti]at aa0
      cases aa0
      have apD:=L7.1
      have apE:=L7.2
      obtain⟨_,_,_,_,arT,_,wW,_⟩:=adJ mR
      cases arT
      refine iZ @TE @TD @aeQ @d @qk @RM ⟨?_⟩
      refine fF (h6 (B:=4) (b:=Dw) (Y:=0) (n:=4) (c:=V.ofList [.aP, .aP, .Z 0, .cz] 0 .nil) (bm Zo) Zo rfl Zd Zd oM) ?_
      generalize QJ:Go.bi.bn X _ Dw _=OL
      have γ:ab X OL Dw=zx [nu,o5, .Z xl.at_, .ptr d1 0] 4:=by rw[<-QJ,bm Zo];rfl
      have asW:∀e,e<Dw->ab X OL e=ab X V9 e:=λe H=>by rw[<-QJ];exact zz
      clear QJ
      have FX:∀e,e<tz+1->ab X OL e=ab X dx e:=λe H=>by rw[asW e Zo,LD.ad e H]
      refine er (bR γ) @t5 @gx ⟨?_⟩
      refine(aep (j:=Dw+1+10) (P:=da j aO) (d6:=da (aO+1) bs) (l:=NQ) aA.todz Zo (zE (FX am Zo) Mw) (aox.ad (FX r Zo) (λe H=>by have:=H.2;exact FX e Zo)) (wW.ad (by rw[FX d1 Zo,qu d1 L7])) Zo jz (Da.ad (λe H=>by have:=H.2;rw[FX e Zo,M1 e H]) (λ_ a=>a)) (λe H=>zt H.2)).Zm ?_
      rintro tI Wa aul ⟨⟨w2,yE⟩,Qq⟩
      have aAb:=Qq.le
      have anA:ab X Wa Dw=zx [nu,o5, .Z xl.at_, .ptr d1 0] 4:=by rw[Qq.ad Dw Zo];exact γ
      have FY:∀e,e<tz+1->ab X Wa e=ab X dx e:=λe H=>by rw[Qq.ad e Zo,FX e H]
      refine ci (bR anA) ⟨?_⟩
      refine gP (by simp[F.same]) ?_
      refine(aep (j:=aul) (P:=Af) (d6:=da eu tz) (l:=NQ) aA.todz Zo (zE (FY cp Zo) abU) (aow.ad (FY e5 Zo) (λe H=>by have:=(Ib e H).2;exact FY e Zo)) (wW.ad (by rw[FY d1 Zo,qu d1 L7])) Zo aqd (arN.ad (λe H=>by have:=H.2;rw[FY e Zo,MY e H]) (λ_ a=>a)) (λe H=>zt H.2)).Zm ?_
      rintro D4 ayU Nk ⟨⟨Db,arR⟩,Qr⟩
      have aAc:=Qr.le
      refine(PG (j:=Nk) (P:=λe=>e<Nk) aA.todz Zo (yE.ad (λe H=>Qr.ad e H.2) (λe H=>zt H.2)) (arR.ad (λ_ _=>rfl) (λe H=>H.2)) (λ_ a=>a)).Zm ?_
      rintro ae ayV aBf ⟨rfl,aaf⟩
      have aAd:=aaf.le
      have Ck:decide (NQ=NQ)=true:=by simp
      refine er @Ck @TE @cF ⟨?_⟩
      exact⟨kt,Zo,B+1,bf t5,bf gx,bf GO,bf D1,bf sG,bf aeQ,bf TD,bw,Zo,⟨Zo,λe H=>by rw[aaf.ad e Zo,Qr.ad e Zo];rw[FY e H]⟩⟩
  ·rw[Zg aB]at lU
   subst lU
   have cv:decide (cc≠0)=true:=by simp[aB]
   refine ci @ji ⟨?_⟩
   generalize fl:Go.bi.bn X _ aO _=bF
   have Sc:ao X bF (.ptr aO 0)=some (.Z cc):=by rw[<-fl,bR (bm Zo)];exact Kd _ _ _
   have ec:∀e,e<aO->ab X bF e=ab X bb e:=λe Q=>by rw[<-fl];exact zz
   clear fl
   refine cV @Sc @cv ⟨?_⟩
   refine EF IX ?_
   refine cL ⟨?_⟩
   exact⟨rfl,Zo,λe H=>by rw[ec e Zo,E2.ad e Zo];exact bU.ad e H⟩
end
end
end Go.Proofs.YtpfajohmofnkfaaGreatDoor

namespace Go.bi
noncomputable section
open Go.RowKit (Below)
def T5(l:List F):Prop:=∀v∈l,(∀R ik,aQ R v=aQ ik v)/\∀af,cj af v
def D8(w:World)(v:Value)(a1:Nat)(l:List F):Prop:=
 (v= .slice none 0 0/\l=[])\/∃cE off len cap co ty fr,v= .slice (some ⟨cE,off,none⟩) len cap/\len<=cap/\l.length=len*a1/\T5 l/\
  (0<l.length->w.heap[cE]? =some (.cells co ty fr)/\off+l.length<=co.size/\∀i x,l[i]? =some x->co[off+i]? =some (aQ (λ_=>default) x))
def afO(C:aZ)(K:F)(b a1:Nat)(l:List F):Prop:=
 (K= .aP/\l=[])\/∃len cap,K= .slice b 0 len cap/\len<=cap/\l.length=len*a1/\(0<l.length->ab C .nil b=some (.cells (V.ofList l 0 .nil) l.length .jR))
def xf(l:List F)(G:V an)(b:Nat):V an:=if 0<l.length then G.set b (some (.cells (V.ofList l 0 .nil) l.length .jR))else G
def D8.pl{w:World}{v:Value}{a1:Nat}{l:List F}(a:D8 w v a1 l)(b:Nat):∃(K:F) (pl:mc),(∀R:c6,R b=pl->aQ R K=v)/\(∀af:Nat->Prop,af b->cj af K)/\
 ((K= .aP/\l=[])\/∃len cap,K= .slice b 0 len cap/\len<=cap/\l.length=len*a1)/\(0<l.length->∀C R af,jT C R af (.cells (V.ofList l 0 .nil) l.length .jR) pl w):=by
 rcases a with ⟨rfl,rfl⟩|⟨cE,off,len,cap,co,ty,fr,rfl,Q,U,ar,aK⟩
 ·exact⟨.aP,default,λ_ _=>rfl,λ_ _=>trivial, .inl ⟨rfl,rfl⟩,λa=>by simp at a⟩
 ·refine⟨.slice b 0 len cap,⟨cE,off,l.length⟩,λR dJ=>by simp[aQ,dJ],λaf d=>d, .inr ⟨len,cap,rfl,Q,U⟩,λa C R af=> ?_⟩
  obtain⟨bV,cw,c4⟩:=aK a
  obtain⟨bS,aJ⟩:=fr
  refine⟨co,ty,bS,aJ,bV,⟨trivial,Zi _,cw⟩,cw,λi x ah=> ?_⟩
  rw[kw]at ah
  have bp:=ar x (Zl ah)
  exact⟨by rw[bp.1 R (λ_=>default)];exact c4 i x ah,bp.2 af⟩
section
variable{P:Program}{w:World}
def atc{nm:List (String×Nat)}(iv:Ae P nm){laid:List (String×DataW Unit)}{hc:Nat->List F->Option F}(a:laidMet P laid w){a8:Nat}{os:List (Nat×an)}(aC:g1 P nm laid P.globals.size=(a8,os)){v0:Value}{o7:Nat}{fP:List F}(b6:D8 w v0 o7 fP):
 ∃R af a0,dl ⟨P,xf fP (m1 os .nil) a8,a8+1,hc,P.globals.size⟩ R af .nil (a8+1) w.heap.size w/\rB ⟨P,xf fP (m1 os .nil) a8,a8+1,hc,P.globals.size⟩ R af/\es af [a0]/\bY R [a0]=[v0]/\
  afO ⟨P,xf fP (m1 os .nil) a8,a8+1,hc,P.globals.size⟩ a0 a8 o7 fP:=by
 obtain⟨a0,Gs,d7,iY,t0,kf⟩:=b6.pl a8
 obtain⟨dq,gr,_,k9⟩:=a
 have cv:rA w dq:=λb off aj=>(k9 b off aj).1
 obtain⟨bh,cl,f,a3⟩:=acW (C:=⟨P,xf fP (m1 os .nil) a8,a8+1,hc,P.globals.size⟩) iv laid P.globals.size dq rfl gr cv (λb off aj=>(k9 b off aj).2)
 rw[aC]at bh cl a3
 simp only at bh cl a3
 have eS:∀b Y,ab ⟨P,xf fP (m1 os .nil) a8,a8+1,hc,P.globals.size⟩ .nil b=some Y->((b,Y)∈os/\b<a8)\/(b=a8/\0<fP.length/\Y= .cells (V.ofList fP 0 .nil) fP.length .jR):=by
  intro b Y bl
  unfold ab at bl
  rw[fw]at bl
  split at bl
  ·rename_i aj
   have aj:=k4 aj
   unfold xf at bl
   split at bl
   ·rename_i az
    rw[V.kc]at bl
    split at bl
    ·rename_i J;cases bl;exact .inr ⟨J.symm▸rfl,az,rfl⟩
    ·rcases To b Y os .nil bl with am|am
     ·exact .inl ⟨am,by have cp:b<P.globals.size\/b<a8:=(cl (b,Y) am).2.1;have:P.globals.size<=a8:=bh;omega⟩
     ·simp at am
   ·rcases To b Y os .nil bl with am|am
    ·exact .inl ⟨am,by have cp:b<P.globals.size\/b<a8:=(cl (b,Y) am).2.1;have:P.globals.size<=a8:=bh;omega⟩
    ·simp at am
  ·simp at bl
 refine⟨λb=>if b<P.globals.size then⟨b,0,0⟩else if b=a8 then Gs else f b,λb=>b<a8+1,a0,⟨Zi _,λ_ a=>a,λb Y bl=> ?_, ?_, ?_, ?_, ?_⟩, ?_, ?_, ?_, ?_⟩
 ·rcases eS b Y bl with a|a
  ·omega
  ·omega
 ·intro b Y bl _
  rcases eS b Y bl with a|⟨rfl,az,rfl⟩
  ·exact a3 (λb=>if b<P.globals.size then⟨b,0,0⟩else if b=a8 then Gs else f b) (λb=>b<a8+1) (λb Q U=>⟨by rw[Zg Zo,Zg Zo],Zo⟩) (λg b5=>⟨by rw[Zq b5],by have:P.globals.size<=a8:=bh;omega⟩) (b,Y) a.1
  ·show jT _ _ _ _ (if b<P.globals.size then(⟨b,0,0⟩:mc)else if b=b then Gs else f b) w
   rw[Zg (by have:P.globals.size<=b:=bh;omega),Zq rfl]
   exact kf az _ _ _
 ·intro b dP Y o' _ _ d _ _ aj
  exact absurd d (zq.2 aj)
 ·intro b Y aj _ d
  exact absurd d (zq.2 aj)
 ·intro b Y bl _
  rcases eS b Y bl with a|⟨rfl,az,rfl⟩
  ·exact(cl (b,Y) a.1).2.2 _ _
  ·refine⟨λc n l aC=>(by cases aC),λc n st aB i v bB=> ?_⟩
   cases aB
   rw[kw]at bB
   exact(Zb.1 bB).1
 ·intro g b5
  have b5:g<P.globals.size:=b5
  exact⟨Zo,by simp[b5],by simp[b5]⟩
 ·exact⟨iY _ Zo,trivial⟩
 ·simp only[bY]
  rw[d7 _ (by rw[Zg Zo,Zq rfl])]
 ·rcases t0 with a|⟨len,cap,cD,cp,dF⟩
  ·exact .inl a
  ·refine .inr ⟨len,cap,cD,cp,dF,λa=> ?_⟩
   unfold ab xf
   have:Nat.blt a8 (a8+1)=true:=by simp[Nat.blt]
   rw[this,eP,Zq a,V.kc,Zq rfl]
end
end
end Go.bi

namespace Go.Proofs.YtpfajohmofnkfaaGreatDoor
open Go.bi Go.aU
noncomputable section
def nm:List (String×Nat):=[((Tryz.prog.typeName? 3 304).getD "",304)]
def av:Nat×List (Nat×an):=g1 Tryz.prog nm Rows.typesLocalRow.laid Tryz.prog.globals.size
def F8:av.1=22:=Zk
def fk:V an:=m1 av.2 .nil
def anT:fk.get 1=zx [.str [45,62], .str [60,60], .str [62,62], .str [60,61], .str [62,61], .str [60,62], .str [40], .str [41], .str [44], .str [59], .str [58], .str [61], .str [60], .str [62], .str [43], .str [45], .str [42]] 17:=Zk
def EZ:fk.get 2=zx [.slice 14 0 18 18] 1:=Zk
def um:fk.get 3=zx [.map 16] 1:=Zk
def Cv:fk.get 4=zx [.bool true, .bool false, .int .i64 1] 3:=Zk
def Ly:fk.get 5=zx [.map 15] 1:=Zk
def HU:fk.get 6=zx [.iface 304 (.ptr 13 0)] 1:=Zk
def wx:fk.get 7=zx [.iface 304 (.ptr 12 0)] 1:=Zk
def yd:fk.get 9=zx [.slice 17 0 2 2, .slice 18 0 1 1, .slice 19 0 6 6, .slice 20 0 2 2, .slice 21 0 1 1] 5:=Zk
def anU:fk.get 14=zx [.str [110,111,100,101], .str [114,101,116,117,114,110,115], .str [118,97,114], .str [108,101,116], .str [116,101,108], .str [119,104,101,110], .str [110,111,116], .str [111,114], .str [120,111,114], .str [97,110,100], .str [112,114,101], .str [102,98,121], .str [105,102], .str [116,104,101,110], .str [101,108,115,101], .str [109,101,114,103,101], .str [116,114,117,101], .str [102,97,108,115,101]] 18:=Zk
def anW:fk.get 16=some (.look [(.str [97,110,100], .bool true),(.str [101,108,115,101], .bool true),(.str [102,97,108,115,101], .bool true),(.str [102,98,121], .bool true),(.str [105,102], .bool true),(.str [108,101,116], .bool true),(.str [109,101,114,103,101], .bool true),(.str [110,111,100,101], .bool true),(.str [110,111,116], .bool true),(.str [111,114], .bool true),(.str [112,114,101], .bool true),(.str [114,101,116,117,114,110,115], .bool true),(.str [116,101,108], .bool true),(.str [116,104,101,110], .bool true),(.str [116,114,117,101], .bool true),(.str [118,97,114], .bool true),(.str [119,104,101,110], .bool true),(.str [120,111,114], .bool true)]):=Zk
structure qP(X:ck):Prop where
 a8:X.a8=23
 get:∀b,b<22->X.G.get b=fk.get b
section
variable{X:ck}{h:V an}
def qP.ab(a:qP X){b:Nat}(aj:b<22):ab X h b=fk.get b:=by
 have J:Nat.blt b (o X).a8=true:=by
  show Nat.blt b X.a8=true
  rw[a.a8];simp[Nat.blt];omega
 unfold Go.bi.ab
 rw[J,eP]
 exact a.get b aj
def qP.xa(a:qP X){b n:Nat}(aj:b<22){c:V F}{st:nF}(b5:fk.get b=some (.cells c n st))(Y:Nat):ao X h (.ptr b Y)=c.get Y:=bR (by rw[a.ab aj];exact b5) Y
def ang(a:qP X):Ec X:=λh=>by
 rw[u4,a.ab Zd,Cv]
 rfl
def anh(a:qP X):lP X:=⟨⟨13,λh=>by rw[a.xa Zd HU];rfl⟩,⟨12,λh=>by rw[a.xa Zd wx];rfl⟩⟩
def anm(a:qP X):Ow X:=⟨λh=>by
 rw[u4,a.ab Zd,anT]
 rfl⟩
def atI(w:bk):∀L:List (bk×F),(L.map Prod.fst).Nodup->o1 X h 9 (.str w) (L.map λJ=>(F.str J.1,J.2))=some ((L.find? λJ=>decide (J.1=w)).map Prod.snd):=by
 intro L
 induction L with
 |nil=>intro _;rfl
 |cons J L ak=>
  intro aL
  rw[ZK,List.nodup_cons]at aL
  simp only[ZK,o1,ak aL.2,Xz,Du,zk]
  by_cases a:J.1=w
  ·have cy:w=J.1:=a.symm
   have k7:L.find? (λJ=>decide (J.1=w))=none:=by
    rw[zl]
    intro x ah b1
    have:x.1=w:=by simpa using b1
    exact aL.1 (by rw[a, <-this];exact List.mem_map_of_mem ah)
   simp[a,k7]
  ·have cy:¬w=J.1:=λam=>a am.symm
   simp[a,cy]
noncomputable def sy:List bk:=[[97,110,100],[101,108,115,101],[102,97,108,115,101],[102,98,121],[105,102],[108,101,116],[109,101,114,103,101],[110,111,100,101],[110,111,116],[111,114],[112,114,101],[114,101,116,117,114,110,115],[116,101,108],[116,104,101,110],[116,114,117,101],[118,97,114],[119,104,101,110],[120,111,114]]
def aen(s:bk):s∈sy↔s∈vs:=by
 constructor
 ·intro a
  have:∀w∈sy,w∈vs:=by decide
  exact this s a
 ·intro a
  have:∀w∈vs,w∈sy:=by decide
  exact this s a
def av2:((sy.map λs=>(s,F.bool true)).map λJ:bk×F=>(F.str J.1,J.2))=[(.str [97,110,100], .bool true),(.str [101,108,115,101], .bool true),(.str [102,97,108,115,101], .bool true),(.str [102,98,121], .bool true),(.str [105,102], .bool true),(.str [108,101,116], .bool true),(.str [109,101,114,103,101], .bool true),(.str [110,111,100,101], .bool true),(.str [110,111,116], .bool true),(.str [111,114], .bool true),(.str [112,114,101], .bool true),(.str [114,101,116,117,114,110,115], .bool true),(.str [116,101,108], .bool true),(.str [116,104,101,110], .bool true),(.str [116,114,117,101], .bool true),(.str [118,97,114], .bool true),(.str [119,104,101,110], .bool true),(.str [120,111,114], .bool true)]:=rfl
def ank(a:qP X):Ks X:=⟨.map 16,λh=>⟨by rw[a.xa Zd um];rfl,λs=>by
 have bD:ab X h 16=_:=(a.ab Zd).trans anW
 rw[<-av2]at bD
 have wT:((sy.map λs=>(s,F.bool true)).map Prod.fst).Nodup:=by decide
 simp only[kr,bD,Nt,eP,atI s _ wT]
 have ch:((sy.map λs=>(s,F.bool true)).find? λJ=>decide (J.1=s)).map Prod.snd=if s∈sy then some (F.bool true)else none:=by
  by_cases aD:s∈sy
  ·rw[Zq aD]
   generalize sy=L at aD
   induction L with
   |nil=>cases aD
   |cons K L ak=>
    rw[ZK,zk]
    by_cases aE:K=s
    ·simp[aE]
    ·simp only[aE,Yd]
     exact ak ((Zt.1 aD).resolve_left (λJ=>aE J.symm))
  ·rw[Zg aD]
   have:(sy.map λs=>(s,F.bool true)).find? (λJ=>decide (J.1=s))=none:=by
    rw[zl]
    intro x ah b1
    obtain⟨e,H,rfl⟩:=ZT.1 ah
    have:e=s:=by simpa using b1
    exact aD (this▸H)
   rw[this];rfl
 rw[ch]
 have:decide (s∈vs)=decide (s∈sy):=by
  by_cases aD:s∈sy
  ·simp[aD,(aen s).1 aD]
  ·have:¬s∈vs:=λam=>aD ((aen s).2 am)
   simp[aD,this]
 rw[this]
 by_cases aD:s∈sy
 ·simp[aD,F6]
 ·simp[aD,F6]⟩⟩
def Gx{P:Nat->Prop}{b B a1 n:Nat}{aR:List (List F)}{st:nF}(a:qP X)(aj:b<22)(b5:fk.get b=some (.cells (V.ofList aR.flatten 0 .nil) n st))(aL:n=B*a1)(aN:aR.length=B)(Z:∀r∈aR,r.length=a1)(bp:B<=300000)(bC:P b):dO X h P b (.slice b 0 B B) a1 aR:=
 Gw (st:=st) (by rw[a.ab aj,b5,aL]) aN Z bp bC
def anj(a:qP X):rC X:=⟨by rw[a.a8];decide,λh=>⟨14, .slice 14 0 18 18,by rw[a.xa Zd EZ];rfl,Gx a Zd anU rfl rfl Zd Zd (by rw[a.a8];decide)⟩⟩
def anY:fk.get 17=zx ((ax 0).map λY=>[F.str Y.1, .int .i64 Y.2]).flatten 4:=Zk
def anZ:fk.get 18=zx ((ax 1).map λY=>[F.str Y.1, .int .i64 Y.2]).flatten 2:=Zk
def an0:fk.get 19=zx ((ax 2).map λY=>[F.str Y.1, .int .i64 Y.2]).flatten 12:=Zk
def an1:fk.get 20=zx ((ax 3).map λY=>[F.str Y.1, .int .i64 Y.2]).flatten 4:=Zk
def an2:fk.get 21=zx ((ax 4).map λY=>[F.str Y.1, .int .i64 Y.2]).flatten 2:=Zk
def Kf(B:Nat):∀r∈(ax B).map λY=>[F.str Y.1, .int .i64 Y.2],r.length=2:=by
 intro r Z
 obtain⟨Y,_,rfl⟩:=ZT.1 Z
 rfl
set_option maxRecDepth 20000 in
def ani(a:qP X):vZ X:=⟨by rw[a.a8];decide,λh B aN=>by
 have bC:∀b,b<22->b<X.a8:=λb aj=>by rw[a.a8];omega
 match B,aN with
 |0,_=>exact⟨17, .slice 17 0 2 2,by rw[a.xa Zd yd];rfl,Gx (P:=λe=>e<X.a8) (b:=17) (aR:=(ax 0).map λY=>[F.str Y.1, .int .i64 Y.2]) a Zd anY rfl rfl (Kf 0) Zd (bC 17 Zd)⟩
 |1,_=>exact⟨18, .slice 18 0 1 1,by rw[a.xa Zd yd];rfl,Gx (P:=λe=>e<X.a8) (b:=18) (aR:=(ax 1).map λY=>[F.str Y.1, .int .i64 Y.2]) a Zd anZ rfl rfl (Kf 1) Zd (bC 18 Zd)⟩
 |2,_=>exact⟨19, .slice 19 0 6 6,by rw[a.xa Zd yd];rfl,Gx (P:=λe=>e<X.a8) (b:=19) (aR:=(ax 2).map λY=>[F.str Y.1, .int .i64 Y.2]) a Zd an0 rfl rfl (Kf 2) Zd (bC 19 Zd)⟩
 |3,_=>exact⟨20, .slice 20 0 2 2,by rw[a.xa Zd yd];rfl,Gx (P:=λe=>e<X.a8) (b:=20) (aR:=(ax 3).map λY=>[F.str Y.1, .int .i64 Y.2]) a Zd an1 rfl rfl (Kf 3) Zd (bC 20 Zd)⟩
 |4,_=>exact⟨21, .slice 21 0 1 1,by rw[a.xa Zd yd];rfl,Gx (P:=λe=>e<X.a8) (b:=21) (aR:=(ax 4).map λY=>[F.str Y.1, .int .i64 Y.2]) a Zd an2 rfl rfl (Kf 4) Zd (bC 21 Zd)⟩⟩
def amg(K b:Int):kl X h 20 3 (.int .i64 K) (.int .i64 b)=some (w5 K b):=Zk
def auK(K:Int):mL X 20 3 (.int .i64 K)=true:=Zk
def atH(w:Int):∀L:List (Int×F),(L.map Prod.fst).Nodup->o1 X h 3 (.int .i64 w) (L.map λJ=>(F.int .i64 J.1,J.2))=some ((L.find? λJ=>decide (J.1=w)).map Prod.snd):=by
 intro L
 induction L with
 |nil=>intro _;rfl
 |cons J L ak=>
  intro aL
  rw[ZK,List.nodup_cons]at aL
  simp only[ZK,o1,ak aL.2,amg,FO,zk]
  by_cases a:J.1=w
  ·have k7:L.find? (λJ=>decide (J.1=w))=none:=by
    rw[zl]
    intro x ah b1
    have:x.1=w:=by simpa using b1
    exact aL.1 (by rw[a, <-this];exact List.mem_map_of_mem ah)
   simp[a,k7]
  ·have cy:¬w=J.1:=λam=>a am.symm
   simp[a,cy]
noncomputable def GJ:List (Int×(Int×Bool×Bool×Bool)):=[1,2,3,4,5,6,19,20,23,24,25,26].map λB:Int=>(B,(tF B).getD (0,false,false,false))
def anV:fk.get 15=some (.look ((GJ.map λJ=>(J.1,F.agg (pS J.2))).map λJ=>(F.int .i64 J.1,J.2))):=Zk
def awU(B:Int):(GJ.find? λJ=>decide (J.1=B)).map Prod.snd=tF B:=by
 by_cases aN:B=1\/B=2\/B=3\/B=4\/B=5\/B=6\/B=19\/B=20\/B=23\/B=24\/B=25\/B=26
 ·rcases aN with rfl|rfl|rfl|rfl|rfl|rfl|rfl|rfl|rfl|rfl|rfl|rfl<;>decide
 ·have Q:tF B=none:=by
   unfold tF
   rw[Zg Zo,Zg Zo,Zg Zo,Zg Zo,Zg Zo,Zg Zo,Zg Zo,Zg Zo,Zg Zo]
  rw[Q]
  have:GJ.find? (λJ=>decide (J.1=B))=none:=by
   rw[zl]
   intro x ah b1
   have MO:x.1=B:=by simpa using b1
   obtain⟨e,H,rfl⟩:=ZT.1 ah
   simp only at MO
   subst MO
   simp only[Zt,ZL,Yr]at H
   exact aN H
  rw[this];rfl
def anl(a:qP X):xD X:=⟨λh=>⟨.map 15,by rw[a.xa Zd Ly];rfl,λB=>by
 have bD:ab X h 15=_:=(a.ab Zd).trans anV
 have wT:((GJ.map λJ=>(J.1,F.agg (pS J.2))).map Prod.fst).Nodup:=by decide
 simp only[kr,bD,auK,eP,atH B _ wT]
 have ch:((GJ.map λJ=>(J.1,F.agg (pS J.2))).find? λJ=>decide (J.1=B)).map Prod.snd=(tF B).map λs=>F.agg (pS s):=by
  rw[<-awU B,List.find?_map]
  have:((λJ:Int×F=>decide (J.1=B))∘λJ:Int×(Int×Bool×Bool×Bool)=>(J.1,F.agg (pS J.2)))=λJ=>decide (J.1=B):=rfl
  rw[this]
  cases GJ.find? (λJ=>decide (J.1=B))<;>rfl
 rw[ch]
 cases tF B with
 |none=>rfl
 |some s=>rfl⟩⟩
def ann(a:qP X):GZ X:=⟨anh a,ank a,anm a⟩
end
end
end Go.Proofs.YtpfajohmofnkfaaGreatDoor

