/- Part of the proof of the last text; no conditions -/
import Derived.Test.YtbbkkkpgjaopkaaGreatDoorYj
set_option maxHeartbeats 8000000
set_option linter.all false
namespace Go.Proofs.YtbbkkkpgjaopkaaGreatDoor
open Go.bp Go.aS
noncomputable section
section
variable{X:cn}{h S a1 aT:R ag}{j aq aP bk aF bE:Nat}{aN:List Tok}{i:Nat}
def auc(aB:dR X){n:Nat}(ah:∀m,m<n->qu X aF bE aN m):∀h j i r,h1 X h j aF bE aN i->Go.aS.shift n (aN.drop i)=some r->a7 X 121 [.ptr aF 0] h j (jm X aF bE aN h j r) (ii X aF h j r):=by
 intro h j i r av U
 cases n with
 |zero=>simp[Go.aS.shift]at U
 |succ n=>
 refine zF aB (ae3 X) ?_
 rw[ae4]
 unfold TI
 have gu:=av.a6
 have jG:=av.g0
 have hz:=av.ci
 have jc:=av.gG
 unfold Go.aS.shift at U
 rcases f0 U with ⟨D,I,rfl⟩|⟨left,ea,I,U⟩
 ·exact((ah n Zo).s9 h j i _ av I).mono zM (λaa S aq a=>a)
 refine((ah n Zo).s9 h j i _ av I).mono ?_ zL
 rintro uC a1 aP ⟨B,rU,bl,b4,dZ,hK⟩
 cases bl
 have ju:=hK.le
 refine gQ ?_
 refine f6 (λm H S aQ=>∃left v cp,H.g 0=some (.ptr aF 0)/\H.g 3=some v/\cm X S (ec j aQ) left v/\aS X S aF bE aN cp/\co X [aF] h j S aQ/\oZ m left (aN.drop cp)=some r)
  n ⟨left,uC,rU,bC,bC,b4,dZ,hK,U⟩ ?_
 clear b4 dZ hK I U ju
 rintro m H aT bk ⟨left,v,jg,t0,t3,cl,dm,dp,U⟩
 cases m with
 |zero=>simp[oZ]at U
 |succ m=>
 unfold oZ at U
 have gP:=dp.le
 have ft:=av.go dm gP
 refine gQ ?_
 obtain⟨cB,rfl,m8,_⟩:=cl.ptr
 have m8:=m8.2
 refine cr @t0 ⟨?_⟩
 obtain⟨x,b6,aI,af⟩:=qq U
 refine(nl aB ft aI _).Zm ?_
 rintro De be bF ⟨rfl,ge,en⟩
 have iT:=en.le
 have qI:=aI
 refine rs bW.eq_1 ⟨?_⟩
 refine jK (λcN S aQ=>∃Is eS x cp dH,cN.g 0=some (.ptr aF 0)/\cN.g 3=some (.ptr cB 0)/\cN.g 4=some (.Z eS)/\cN.g 5=some (.ptr dH 0)/\cN.g 6=some (.bool Is)/\Z X S dH=zC (bW x) 7/\bk<=dH/\dH<aQ/\cm X S (ec j bk) left (.ptr cB 0)/\aS X S aF bE aN cp/\co X [aF] h j S aQ/\bk<=aQ/\
  (Is=true->o0 m eS x left (aN.drop cp)=some r)/\(Is=false->r= .ok (left,aN.drop cp))) (λW bB=> ?_) ?_
 ·have cG:∀h,Z X (bn X (bn X h bF (zC (bW gJ) 7)) bF (some (.cells (dP (R.ofList (bW gJ) 0 .nil) 0 (bW x)) 7 .own))) bF=zC (bW x) 7:=λh=>bv Zo
  rcases af with ⟨aD,U⟩|⟨aD,U⟩
  ·rw[aD]at ge ⊢
   simp only[ZE]at ge ⊢
   refine cV ⟨?_⟩
   refine bB _ _ _ ⟨true,19,x,jg+1,bF,aY t0,aY t3,bC,bC,bC,bv Zo,Zo,Zo, ?_,ge.ad (zE) (zE), ?_,Zo,λ_=>by rw[(fo qI).2];exact U,λa=>by cases a⟩
   ·refine cm.ex cl (λe I M=> ?_) (Zi _) (Zi _)
    simp(disch:=omega) only[aK]
    exact en.ad e Zo Zx
   ·exact⟨Zo,λe F bI=>by rw[<-(dp.trans en).ad e F bI];exact zE⟩
  ·rw[aD]at ge ⊢
   simp only[Zu,ZD]at ge ⊢
   simp only[]at U
   refine cr @t0 ⟨?_⟩
   refine e1 (λbU=>bD X be bF bU (bF+1)/\Z X bU bF=zC (bW gJ) 7) ⟨dL,bv Zo⟩ ?_
   rintro bU ⟨dz,er⟩
   have ko:=ft.go (ge.ex dz Zo Zo) (by omega:bk<=bF+1)
   obtain⟨e,gg,ox,apm⟩:=qq U
   refine(nl aB ko ox _).Zm ?_
   rintro FY bY cw ⟨rfl,gk,dF⟩
   have iU:=dF.le
   have eV:Z X bY bF=zC (bW gJ) 7:=by rw[dF.ad _ Zo Zx];exact er
   have dY:∀e,e<bk->e≠aF->Z X bY e=Z X aT e:=λe I M=>by
    rw[dF.ad e Zo (by simpa using M),dz.ad e Zo,en.ad e Zo (by simpa using M)]
   have el:=((dp.trans en).trans (co.of dz)).trans dF
   unfold bW gJ dw at eV
   rcases apm with ⟨QT,U⟩|⟨QT,U⟩
   ·rw[QT]at gk ⊢
    simp only[ZE]at gk ⊢
    refine dk bW.eq_1 @eV ⟨?_⟩
    refine bB _ _ _ ⟨true,20,e,jg+1,bF,aY t0,aY t3,bC,bC,bC,bv Zo,Zo,Zo, ?_,gk.ad (zE) (zE), ?_,Zo,λ_=>by rw[(fo ox).2];exact U,λa=>by cases a⟩
    ·refine cm.ex cl (λe I M=> ?_) (Zi _) (Zi _)
     simp(disch:=omega) only[aK]
     exact dY e M Zo
    ·exact⟨Zo,λe F bI=>by rw[<-el.ad e F bI];exact zE⟩
   ·rw[QT]at gk ⊢
    simp only[Zu,ZD]at gk ⊢
    simp only[ok,Ze]at U
    refine hT bW.eq_1 gJ.eq_1 dw.eq_1 @eV ⟨?_⟩
    refine bB _ _ _ ⟨false,20,gJ,jg,bF,aY t0,aY t3,bC,bC,bC,bv Zo,Zo,Zo, ?_,gk.ad (zE) (zE), ?_,Zo,λa=>(by cases a),λ_=>U.symm⟩
    ·refine cm.ex cl (λe I M=> ?_) (Zi _) (Zi _)
     simp(disch:=omega) only[aK]
     exact dY e M Zo
    ·exact⟨Zo,λe F bI=>by rw[<-el.ad e F bI];exact zE⟩
 ·clear cl ge en af U aI qI dm ft
  rintro av2 ck dB ⟨Is,eS,x,hB,dH,t0,t3,t4,t5,eZ,d3,aw7,aw8,eC,g8,el,qL,F,m7⟩
  cases Is with
  |false=>
   have U:=m7 rfl
   subst U
   refine dk @eZ @t3 ⟨?_⟩
   exact⟨left,hB,rfl,cm.lift (λe F=>⟨F.1,zy F.2⟩) _ _ eC,g8,el⟩
  |true=>
   have U:=F rfl
   cases m with
   |zero=>simp[o0]at U
   |succ m=>
   unfold o0 at U
   have lP:=av.go g8 (by omega:j<=dB)
   refine dk @eZ @t0 ⟨?_⟩
   cases aI:aN.drop hB with
   |nil=>rw[aI]at U;simp[ib,andThen]at U
   |cons e k=>
   rw[aI]at U
   simp only[ib]at U
   refine(As aB lP.a6 lP.par lP.ci lP.g0 lP.gG lP.many (fo aI).1 4).mono ?_ ?_
   ·rintro adP cC e6 ⟨aG,rfl,hj,eR⟩
    have qM:=eR.le
    rw[Zp aG]at U
    simp only[andThen,ok]at U
    have eA:Z X cC dH=zC (bW x) 7:=by rw[eR.ad _ Zo Zx];exact d3
    have fa:=cm.ex (S:=cC) eC (λe I M=>eR.ad e Zo Zx) (Zi _) (Zi _)
    have tN:=el.trans eR
    refine rs bW.eq_1 ⟨?_⟩
    refine gQ ?_
    refine DW (λPT=> ?_) (λPT=> ?_)
    ·rw[Zp PT]at U
     simp only[bad,Ze]at U
     subst U
     refine cr bW.eq_1 ⟨?_⟩
     refine(G4 aB Zo e _ ?_).mono (λ_ _ _ a=>a.elim) (λ_ _ _ a=>a)
     intro S aq bZ
     exact⟨_,rfl,rfl,tN.trans (co.of (bD.trans dL bZ))⟩
    ·rw[Zg PT]at U
     refine gV bW.eq_1 @t4 @t5 @t3 (bS eA) ⟨?_⟩
     refine⟨m,Zo,_, .ptr (e6+1+1) 0,hB+1,aY t0,bC,cm.lit (o:=1) (cap:=1) (n:=e.n) (kind:=eS) (at_:=x.at_) (name:=[]) (no:=false) (ty:=dw) (b:=e6+1+1) (gn:= .own) (cD:=e6+1) (bj:=[.ptr cB 0]) (bv (b:=e6+1+1) Zo) ⟨Zo,Zo⟩ ?_ ⟨Zo,Zo⟩ rfl Zo Zo (dh.one (cm.ad (λe F=> ?_) _ _ fa) (λe F=> ?_)), ?_, ?_,by rw[(fo aI).2];exact U⟩
     ·exact zP
     ·have I:=F.1;have M:=F.2
      simp(disch:=omega) only[aK]
     ·simp only[ec]at F ⊢;omega
     ·exact hj.ad (zE) (zE)
     ·exact⟨Zo,λe F bI=>by
       rw[<-tN.ad e F bI]
       simp(disch:=omega) only[aK]⟩
   ·rintro adP cC e6 ⟨aG,rfl,eR⟩
    rw[Zg aG]at U
    simp only[andThen,bad,Ze]at U
    subst U
    exact⟨_,rfl,rfl,el.trans eR⟩
end
section
variable{X:cn}{h S a1 aT:R ag}{j aq aP bk aF bE:Nat}{aN:List Tok}{i:Nat}
def apO{n aO W:Nat}{cs:List z}(o:IntKind)(a:W<n):sV true n aO (.agg cs) (.int o (W:Int))=some (.agg ((cs.drop (W*aO)).take aO)):=by
 simp[sV,qT,eU,a]
def R9:List z:=[.str [110,111,116], .Z 3, .str [45], .Z 4, .str [112,114,101], .Z 5]
def asH{W:Nat}(a:W<3):∃s o,xy.drop W=(s,o)::xy.drop (W+1)/\(R9.drop (W*2)).take 2=[.str s, .Z o]:=by
 match W,a with
 |0,_=>exact⟨_,_,rfl,rfl⟩
 |1,_=>exact⟨_,_,rfl,rfl⟩
 |2,_=>exact⟨_,_,rfl,rfl⟩
def asO(aB:dR X){n:Nat}(ah:∀m,m<n->qu X aF bE aN m):∀h j i r,h1 X h j aF bE aN i->Go.aS.vO n (aN.drop i)=some r->a7 X 127 [.ptr aF 0] h j (jm X aF bE aN h j r) (ii X aF h j r):=by
 intro h j i r av U
 cases n with
 |zero=>simp[Go.aS.vO]at U
 |succ n=>
 refine zF aB (ae9 X) ?_
 rw[afa]
 unfold TL
 have gu:=av.a6
 have jG:=av.g0
 have hz:=av.ci
 have jc:=av.gG
 unfold Go.aS.vO at U
 cases aj:oh xy (aN.drop i)with
 |none=>rw[aj]at U;cases U
 |some xA=>
 rw[aj]at U
 refine u1 ⟨?_⟩
 refine jK (λH S aQ=>H.g 0=some (.ptr aF 0)/\aS X S aF bE aN i/\co X [aF] h j S aQ/\xA=(none,aN.drop i)) (λW bB=> ?_) ?_
 ·refine f6 (λm H S aQ=>∃W,m=3-W/\W<=3/\H.g 0=some (.ptr aF 0)/\H.g 15=some (.agg R9)/\H.g 16=some (.Z (W:Int))/\aS X S aF bE aN i/\co X [aF] h j S aQ/\oh (xy.drop W) (aN.drop i)=some xA)
   3 ⟨0,rfl,Zo,bC,gC,gC,av.par,co.refl _ _ _,aj⟩ ?_
  rintro m H aT bk ⟨W,rfl,EF,t0,C5,SS,dm,dp,aj⟩
  have gP:=dp.le
  have ft:=av.go dm gP
  refine rs @SS ⟨?_⟩
  refine gQ ?_
  refine DW (λcO=> ?_) (λcO=> ?_)
  ·have cO:W<3:=Zo
   obtain⟨s,eS,kg,fN⟩:=asH cO
   rw[kg]at aj
   simp only[oh]at aj
   have ο:=apO (n:=3) (aO:=2) (cs:=R9) .i64 cO
   rw[fN]at ο
   refine hT @C5 @SS @ο @t0 ⟨?_⟩
   refine e1 (λbe=>bD X aT bk be (bk+1)/\Z X be bk=zC [.str s, .Z eS] 2) ⟨dL,bv Zo⟩ ?_
   rintro be ⟨cx,cG⟩
   cases aI:aN.drop i with
   |nil=>rw[aI]at aj;simp[lC]at aj
   |cons x k=>
   rw[aI]at aj
   refine(nl aB (ft.go (dm.ex cx Zo Zo) Zo) aI s).Zm ?_
   rintro aa bU cP ⟨rfl,gW,es⟩
   have je:=es.le
   have er:Z X bU bk=zC [.str s, .Z eS] 2:=by rw[es.ad _ Zo Zx];exact cG
   have tN:=dp.trans ((co.of cx).trans es)
   cases aD:gI x s with
   |true=>
    rw[aD]at gW
    simp only[lC,aD,ZE]at aj gW ⊢
    simp only[Ze]at aj
    subst aj
    simp only[]at U
    refine eW bW.eq_1 (bS er) @t0 ⟨?_⟩
    refine e1 (λbY=>bD X bU cP bY (cP+1+10)/\Z X bY cP=zC (bW x) 7) ⟨dL,bv Zo⟩ ?_
    rintro bY ⟨dW,eV⟩
    have nX:=ft.go (gW.ex dW Zo Zo) (by omega:bk<=cP+1+10)
    have dF:=tN.trans (co.of dW)
    rw[<-(fo aI).2]at U
    rcases f0 U with ⟨D,bV,rfl⟩|⟨GY,l4,bV,U⟩
    ·exact((ah n Zo).s9 bY _ _ _ nX bV).mono zM (λaa S aq a=>a.of dF (λ_ a=>a))
    refine((ah n Zo).s9 bY _ _ _ nX bV).mono ?_ zL
    rintro xO ck dB ⟨awf,hB,P8,eC,g8,el⟩
    cases P8
    have qL:=el.le
    simp only[ok,Ze]at U
    subst U
    obtain⟨AD,rfl,Ib,_⟩:=eC.ptr
    have d3:Z X ck cP=zC (bW x) 7:=by rw[el.ad _ Zo Zx];exact eV
    have WV:Z X ck bk=zC [.str s, .Z eS] 2:=by rw[el.ad _ Zo Zx,dW.ad _ Zo];exact er
    refine eW (bS d3) (bS WV) bW.eq_1 ⟨?_⟩
    refine iY (oY _ _) ?_
    refine eW (bS d3) (bS WV) bW.eq_1 ⟨?_⟩
    refine iY (oY _ _) ?_
    refine⟨_,hB,rfl,cm.lit (o:=1) (cap:=1) (n:=0) (kind:=eS) (at_:=x.at_) (name:=[]) (no:=false) (ty:=dw) (b:=cP+1+8) (gn:= .own) (cD:=cP+1+6) (bj:=[.ptr AD 0]) (bv (b:=cP+1+8) Zo) ⟨Zo,Zo⟩ ?_ ⟨Zo,Zo⟩ rfl Zo Zo (dh.one (cm.ad (λe F=> ?_) _ _ eC) (λe F=> ?_)), ?_, ?_⟩
    ·exact zP
    ·have I:=F.1;have M:=F.2
     simp(disch:=omega) only[aK]
    ·simp only[ec]at F ⊢;omega
    ·exact g8.ad (zE) (zE)
    ·exact⟨Zo,λe F bI=>by
      rw[<-(dF.trans el).ad e F bI]
      simp(disch:=omega) only[aK]⟩
   |false=>
    rw[aD]at gW
    simp only[lC,aD,Zu,ZD]at aj gW ⊢
    have bA:=zD W
    refine hT bW.eq_1 gJ.eq_1 @SS @bA ⟨?_⟩
    refine⟨_, ?_,W+1,rfl,Zo,aY t0,aY C5,bC,gW.ad (zE) (zE), ?_,aj⟩
    ·omega
    ·exact⟨Zo,λb aj bI=>by rw[<-tN.ad b aj bI];exact zE⟩
  ·have bB:W=3:=Zo
   subst bB
   simp only[xy,Yp,Ya,oh,Ze]at aj
   refine cV ⟨?_⟩
   exact bB _ _ _ ⟨aY t0,dm,dp,aj.symm⟩
 ·clear aj
  rintro nu gx a6 ⟨t0,aaw,KW,rfl⟩
  simp only[]at U
  have HX:=KW.le
  have Sb:=av.go aaw HX
  refine cr @t0 ⟨?_⟩
  rcases f0 U with ⟨D,I,rfl⟩|⟨left,ea,I,U⟩
  ·exact((ah n Zo).part gx a6 i _ Sb I).mono zM (λaa S aq a=>a.of KW (λ_ a=>a))
  refine((ah n Zo).part gx a6 i _ Sb I).mono ?_ zL
  rintro uC a1 aP ⟨B,rU,bl,b4,dZ,hK⟩
  cases bl
  have ju:=hK.le
  refine gQ ?_
  refine f6 (λm H S aQ=>∃left v cp,H.g 0=some (.ptr aF 0)/\H.g 7=some v/\cm X S (ec j aQ) left v/\aS X S aF bE aN cp/\co X [aF] h j S aQ/\mN m left (aN.drop cp)=some r)
   n ⟨left,uC,rU,aY t0,bC,cm.lift (λe F=>⟨zy F.1,F.2⟩) _ _ b4,dZ,KW.trans hK,U⟩ ?_
  clear b4 dZ hK I U ju t0 aaw KW HX Sb
  rintro m H aT bk ⟨left,v,jg,t0,gT,cl,dm,dp,U⟩
  cases m with
  |zero=>simp[mN]at U
  |succ m=>
  unfold mN at U
  have gP:=dp.le
  have ft:=av.go dm gP
  refine gQ ?_
  obtain⟨cB,rfl,m8,_⟩:=cl.ptr
  have m8:=m8.2
  refine cr @t0 ⟨?_⟩
  obtain⟨x,b6,aI,af⟩:=qq U
  refine(nl aB ft aI _).Zm ?_
  rintro De be bF ⟨rfl,ge,en⟩
  have iT:=en.le
  have Xu:=dp.trans en
  have cx:=cm.ex (S:=be) cl (λe I M=>en.ad e Zo Zx) (Zi _) (Zi _)
  rcases af with ⟨aD,U⟩|⟨aD,U⟩
  ·rw[aD]at ge ⊢
   simp only[ZE]at ge ⊢
   rw[<-(fo aI).2]at U
   simp only[]at U
   refine dk bW.eq_1 @t0 ⟨?_⟩
   refine e1 (λbY=>bD X be bF bY (bF+1)/\Z X bY bF=zC (bW x) 7) ⟨dL,bv Zo⟩ ?_
   rintro bY ⟨dW,eV⟩
   have nX:=ft.go (ge.ex dW Zo Zo) (by omega:bk<=bF+1)
   obtain⟨e,l4,HI,In⟩:=qq U
   refine(nl aB nX HI _).Zm ?_
   rintro adO ck dB ⟨rfl,g8,el⟩
   have qL:=el.le
   have d3:Z X ck bF=zC (bW x) 7:=by rw[el.ad _ Zo Zx];exact eV
   have tM:=(Xu.trans (co.of dW)).trans el
   have eC:=cm.ex (S:=ck) cx (λe I M=>by rw[el.ad e Zo Zx,dW.ad e Zo]) (Zi _) (Zi _)
   have m9:andThen (ib 1 (aN.drop (if gI e [110,111,116]then jg+1+1 else jg+1))) (λc k=>mN m (.mk 6 x.at_ c.text (gI e [110,111,116]) dw 0 [left]) k)=some r:=by
    rcases In with ⟨QU,m9⟩|⟨QU,m9⟩
    ·simp only[QU,ZE];rw[(fo HI).2];exact m9
    ·simp only[QU,Zu,ZD];exact m9
   clear U In
   generalize (if gI e [110,111,116]then jg+1+1 else jg+1)=hB at m9 g8
   generalize (if gI e [110,111,116]then e else gJ)=Te
   generalize gI e [110,111,116]=no at m9
   refine hT bW.eq_1 (bS d3) @t0 @gT ⟨?_⟩
   refine e1 (λcC=>bD X ck dB cC (dB+1+11)/\Z X cC (dB+1+7)=zC [.ptr cB 0] 1) ⟨dL,bv Zo⟩ ?_
   rintro cC ⟨fa,eA⟩
   have mB:=ft.go (g8.ex fa Zo Zo) (by omega:bk<=dB+1+11)
   cases rE:aN.drop hB with
   |nil=>rw[rE]at m9;simp[ib,andThen]at m9
   |cons c lJ=>
   rw[rE]at m9
   simp only[ib]at m9
   refine(As aB mB.a6 mB.par mB.ci mB.g0 mB.gG mB.many (fo rE).1 1).mono ?_ ?_
   ·rintro u8 dS hs ⟨aG,rfl,vq,gD⟩
    have yP:=gD.le
    rw[Zp aG]at m9
    simp only[andThen,ok]at m9
    have h4:Z X dS bF=zC (bW x) 7:=by rw[gD.ad _ Zo Zx,fa.ad _ Zo];exact d3
    have ak5:Z X dS (dB+1+7)=zC [.ptr cB 0] 1:=by rw[gD.ad _ Zo Zx];exact eA
    refine dk bW.eq_1 (bS h4) ⟨?_⟩
    refine iY (oY _ _) ?_
    refine⟨m,Zo,_, .ptr (dB+1+9) 0,hB+1,aY t0,bC,cm.lit (o:=1) (cap:=1) (n:=0) (kind:=6) (at_:=x.at_) (name:=c.text) (no:=no) (ty:=dw) (b:=dB+1+9) (gn:= .own) (cD:=dB+1+7) (bj:=[.ptr cB 0]) (bv (b:=dB+1+9) Zo) ⟨Zo,Zo⟩ ?_ ⟨Zo,Zo⟩ rfl Zo Zo (dh.one (cm.ad (λe F=> ?_) _ _ eC) (λe F=> ?_)), ?_, ?_,by rw[(fo rE).2];exact m9⟩
    ·simp(disch:=omega) only[aK];exact ak5
    ·have I:=F.1;have M:=F.2
     simp(disch:=omega) only[aK]
     rw[gD.ad e Zo Zx,fa.ad e Zo]
    ·simp only[ec]at F ⊢;omega
    ·exact vq.ad (zE) (zE)
    ·exact⟨Zo,λe F bI=>by
      rw[<-((tM.trans (co.of fa)).trans gD).ad e F bI]
      simp(disch:=omega) only[aK]⟩
   ·rintro u8 dS hs ⟨aG,rfl,gD⟩
    rw[Zg aG]at m9
    simp only[andThen,bad,Ze]at m9
    subst m9
    exact⟨_,rfl,rfl,(tM.trans (co.of fa)).trans gD⟩
  ·rw[aD]at ge ⊢
   simp only[Zu,ZD]at ge ⊢
   simp only[ok,Ze]at U
   subst U
   refine eW bW.eq_1 gJ.eq_1 @gT ⟨?_⟩
   refine⟨left,jg,rfl,cm.ex cx (λe I M=> ?_) (Zi _) Zo,ge.ad (zE) (zE), ?_⟩
   ·simp(disch:=omega) only[aK]
   ·exact⟨Zo,λb aj bI=>by rw[<-Xu.ad b aj bI];exact zE⟩
end
section
variable{X:cn}{h S a1 aT:R ag}{j aq aP bk aF bE:Nat}{aN:List Tok}{i:Nat}
def uu(D b:Nat)(cR:List Nat):Nat->Prop:=λe=>D<=e/\e<b/\e∉cR
def dh.off{C:aM}{bh:Nat->Prop}{D b cD:Nat}{cR:List Nat}{bf:z}{b3:List bx}{bj:List z}(a:dh C h (uu D b cR) b3 bj)(U:ee C h (λe=>bh e/\e∈cR) cD bf 1 (bj.map λv=>[v])):dh C h (λe=>ec D b e/\e≠cD) b3 bj:=by
 cases bj with
 |nil=>
  have:=a.len
  cases b3 with
  |nil=>exact .nil
  |cons=>simp at this
 |cons v bj=>
  have aj:=(U.aj Zs).2
  exact dh.lift (λe F=>⟨⟨F.1,F.2.1⟩,λB=>F.2.2 (B▸aj)⟩) _ _ a
def iZ(aB:dR X)(av:h1 X h j aF bE aN i){cD:Nat}{s:bc}(Ev:cD<j)(QW:cD≠aF)(aD:Z X h cD=zC [.str s] 1){r:Except Int (Tok×List Tok)}(U:ed s (aN.drop i)=some r):
 a7 X 59 [.ptr aF 0, .slice cD 0 1 1] h j (λaa S aq=>∃x cp,r= .ok (x,aN.drop cp)/\aa= .agg (bW x)/\aS X S aF bE aN cp/\co X [aF] h j S aq) (ii X aF h j r):=by
 have I:ee X h (λe=>e=cD) cD (.slice cD 0 1 1) 1 (g3 [s]):=MQ (ba:=[[.str s]]) (st:= .own) aD rfl Zs Zs rfl
 refine(ad3 aB av.a6 av.par av.ci av.g0 av.gG av.many Ev QW I (r:=r) ?_)
 simp only[q1]
 rw[U]
 obtain⟨B|⟨x,k⟩,_⟩:∃al,al=r:=⟨r,rfl⟩
 all_goals(rename_i bJ;subst bJ;rfl)
def aqR(aB:dR X){n:Nat}(rK:n<=300000)(ah:∀m,m<n->qu X aF bE aN m):∀h j i r,h1 X h j aF bE aN i->Go.aS.list n (aN.drop i)=some r->a7 X 136 [.ptr aF 0] h j (λaa S aq=>∃b3 cp bj cD,r= .ok (b3,aN.drop cp)/\ee X S (ec j aq) cD aa 1 (bj.map λv=>[v])/\dh X S (λe=>ec j aq e/\e≠cD) b3 bj/\aS X S aF bE aN cp/\co X [aF] h j S aq) (ii X aF h j r):=by
 intro h j i r av U
 cases n with
 |zero=>simp[Go.aS.list]at U
 |succ n=>
 refine zF aB (afb X) ?_
 rw[afc]
 unfold TM
 have gu:=av.a6
 have jG:=av.g0
 have hz:=av.ci
 have jc:=av.gG
 unfold Go.aS.list at U
 obtain⟨x,b6,aI,af⟩:=qq U
 refine(nl aB av aI _).Zm ?_
 rintro uC a1 aP ⟨rfl,dZ,hK⟩
 have ju:=hK.le
 rcases af with ⟨aD,U⟩|⟨aD,U⟩
 ·rw[aD]at dZ ⊢
  simp only[ZE]at dZ ⊢
  simp only[ok,Ze]at U
  subst U
  refine cr bW.eq_1 ⟨?_⟩
  refine⟨[],i+1,[],0,by rw[(fo aI).2],ee.nil _ _, .nil,dZ.ad (zE) (zE), ?_⟩
  exact⟨Zo,λb aj bI=>by rw[<-hK.ad b aj bI];exact zE⟩
 ·rw[aD]at dZ ⊢
  simp only[Zu,ZD]at dZ ⊢
  simp only[]at U
  refine dk bW.eq_1 gJ.eq_1 ⟨?_⟩
  refine e1 (λbe=>bD X a1 aP be (aP+1)) dL ?_
  intro aT cl
  have ft:=av.go (dZ.ex cl Zo Zo) (by omega:j<=aP+1)
  have dp:=hK.trans (co.of cl)
  rcases f0 U with ⟨D,M,rfl⟩|⟨B,c4,M,U⟩
  ·exact((ah n Zo).arrow aT _ _ _ ft M).mono zM (λaa S aq a=>a.of dp (λ_ a=>by cases a;rfl))
  refine((ah n Zo).arrow aT _ _ _ ft M).mono ?_ zL
  rintro v3 be bF ⟨eN,i3,P7,cx,ge,en⟩
  cases P7
  have iT:=en.le
  obtain⟨dN,rfl,qc,_⟩:=cx.ptr
  have qc:=qc.2
  refine cV ⟨?_⟩
  refine f6 (λm H S aQ=>∃b3 bj s cR cp,bj.length+m<=n+1/\H.g 0=some (.ptr aF 0)/\H.g 5=some s/\gU X S s 1 bj cR/\(∀e∈cR,j<=e/\e<aQ)/\dh X S (uu j aQ cR) b3 bj/\aS X S aF bE aN cp/\co X [aF] h j S aQ/\oQ m b3 (aN.drop cp)=some r)
   n ⟨[B],[.ptr dN 0], .slice bF 0 1 1,[bF],i3,Zx,bC,bC, .inr ⟨bF,1,_,_,rfl,rfl,rfl,bv Zo,pt _,rfl,Zo⟩, ?_, ?_,ge.ad (zE) (zE), ?_,U⟩ ?_
  ·intro e F
   simp at F
   omega
  ·refine dh.one (cm.ad (λe F=> ?_) _ _ cx) (λe F=>⟨zy F.1,zy F.2,by have:=F.2;simp;omega⟩)
   have:=F.2
   simp(disch:=omega) only[aK]
  ·exact⟨Zo,λb aj bI=>by rw[<-(dp.trans en).ad b aj bI];exact zE⟩
  clear cx ge en M U qc
  rintro m H bU cP ⟨b3,bj,s,cR,i4,aX,t0,t5,nP,ip,EC,gW,es,U⟩
  cases m with
  |zero=>simp[oQ]at U
  |succ m=>
  unfold oQ at U
  have je:=es.le
  have ko:=av.go gW je
  refine gQ ?_
  refine cr @t0 ⟨?_⟩
  obtain⟨e,b6,aI,af⟩:=qq U
  refine(nl aB ko aI _).Zm ?_
  rintro FY bY cw ⟨rfl,gk,dF⟩
  have iU:=dF.le
  have kj:∀e,j<=e->e<cP->Z X bY e=Z X bU e:=λe I M=>dF.ad e Zo Zx
  have oH:=nP.ad (S:=bY) (λe F=>kj e (ip e F).1 (ip e F).2)
  have tX:=dh.ad (S:=bY) (λe F=>kj e F.1 F.2.1) _ _ EC
  rcases af with ⟨aD,U⟩|⟨aD,U⟩
  ·rw[aD]at gk ⊢
   simp only[ZE]at gk ⊢
   rw[<-(fo aI).2]at U
   simp only[]at U
   refine eW bW.eq_1 @t0 @t5 ⟨?_⟩
   refine e1 (λbe=>bD X bY cw be (cw+1)) dL ?_
   intro ck eC
   have el:=(es.trans dF).trans (co.of eC)
   have lP:=ko.go (gk.ex eC Zo Zo) (by omega:cP<=cw+1)
   rcases f0 U with ⟨D,c2,rfl⟩|⟨OM,lJ,c2,U⟩
   ·exact((ah m Zo).arrow ck _ _ _ lP c2).mono zM (λaa S aq a=>a.of el (λ_ a=>by cases a;rfl))
   refine((ah m Zo).arrow ck _ _ _ lP c2).mono ?_ zL
   rintro Ju cC e6 ⟨Wq,oK,w0,fa,hj,eR⟩
   cases w0
   have qM:=eR.le
   obtain⟨FE,rfl,vs,_⟩:=fa.ptr
   have vs:=vs.2
   refine cV ⟨?_⟩
   have ap3:∀gb,gb=bn X cC e6 (zC [.ptr FE 0] 1)->∀e,j<=e->e<cw->Z X gb e=Z X bY e:=by
    rintro gb rfl e I M
    rw[aK Zo Zo,eR.ad e Zo Zx,eC.ad e Zo]
   have jJ:kS X (bn X cC e6 (zC [.ptr FE 0] 1)) 1 (.slice e6 0 1 1)=some (1,[.ptr FE 0]):=td (bv Zo) (pt _) rfl _
   obtain⟨eP,dS,iy,j0,Q0,HE,vn⟩:=(oH.ad (S:=bn X cC e6 (zC [.ptr FE 0] 1)) (λe F=>ap3 _ rfl e (ip e F).1 (zy (ip e F).2))).append (j:=e6+1) Zd jJ rfl Zd rfl Zx Zo (λe F=>zy (ip e F).2)
   refine mc j0 ?_
   have ia:∀e,e<e6->e∉cR->Z X dS e=Z X cC e:=λe I M=>by
    rw[vn e Zo M,aK Zo Zo]
   refine⟨m,Zo,b3++[OM],bj++[.ptr FE 0],eP,iy,oK,Zx,aY t0,bC, .inl Q0, ?_, ?_, ?_, ?_,U⟩
   ·intro e F
    rcases HE e F with rfl|F
    ·omega
    ·have:=ip e F;omega
   ·refine dh.snoc (cm.ad (λe F=> ?_) _ _ fa) (dh.ad (λe F=> ?_) _ _ tX) (λe F=>⟨F.1,zy F.2.1,λf4=> ?_⟩) (λe F=>⟨⟨zy F.1,zy F.2,λf4=> ?_⟩,λoJ=>by have:=F.1;have:=oJ.2.1;omega⟩)
    ·have I:=F.1
     exact ia e F.2 (λf4=>zy (ip e f4))
    ·have M:=F.2.1
     rw[ia e Zo F.2.2,eR.ad e Zo (by have:=F.1;simp;omega),eC.ad e Zo]
    ·have M:=F.2.1
     rcases HE e f4 with rfl|f4
     ·omega
     ·exact F.2.2 f4
    ·have I:=F.1;have M:=F.2
     rcases HE e f4 with rfl|f4
     ·omega
     ·have:=ip e f4;omega
   ·exact hj.ad (ia _ Zo (λB=>zy (ip _ B))) (ia _ Zo (λB=>zy (ip _ B)))
   ·exact⟨Zo,λb aj bI=>by rw[ia b Zo (λB=>zy (ip _ B))];exact(el.trans eR).ad b aj bI⟩
  ·rw[aD]at gk ⊢
   simp only[Zu,ZD]at gk ⊢
   simp only[]at U
   refine hT bW.eq_1 gJ.eq_1 @t0 @t5 ⟨?_⟩
   refine e1 (λbe=>bD X bY cw be (cw+1+1)/\Z X be (cw+1)=zC [.str [41]] 1) ⟨dL,bv Zo⟩ ?_
   rintro ck ⟨eC,d3⟩
   have el:=(es.trans dF).trans (co.of eC)
   have lP:=ko.go (gk.ex eC Zo Zo) (by omega:cP<=cw+1+1)
   rcases f0 U with ⟨D,c2,rfl⟩|⟨OM,lJ,c2,U⟩
   ·exact(iZ aB lP Zo Zo d3 c2).mono zM (λaa S aq a=>a.of el (λ_ a=>by cases a;rfl))
   refine(iZ aB lP Zo Zo d3 c2).mono ?_ zL
   rintro Ju cC e6 ⟨Wq,oK,w0,_,hj,eR⟩
   cases w0
   have qM:=eR.le
   simp only[ok,Ze]at U
   subst U
   refine cr @t5 ⟨?_⟩
   have f5:∀e,j<=e->e<cw->Z X cC e=Z X bY e:=λe I M=>by
    rw[eR.ad e Zo Zx,eC.ad e Zo]
   obtain⟨cD,cW⟩:=(oH.ad (S:=cC) (λe F=>f5 e (ip e F).1 (zy (ip e F).2))).MP (P:=λe=>ec j e6 e/\e∈cR) Zo (λe F=>⟨⟨(ip e F).1,zy (ip e F).2⟩,F⟩)
   refine⟨b3,oK,bj,cD,rfl,cW.lift (λe F=>F.1), ?_,hj,el.trans eR⟩
   exact dh.lift (λe F=>⟨⟨F.1.1,zy F.1.2⟩,F.2⟩) _ _ (dh.off (dh.ad (λe F=>f5 e F.1 (zy F.2.1)) _ _ tX) cW)
end
section
variable{X:cn}{h S a1 aT:R ag}{j aq aP bk aF bE:Nat}{aN:List Tok}{i:Nat}
def asy(aB:dR X){n:Nat}{r:Except Int (bx×List Tok)}(av:h1 X h j aF bE aN i){x:Tok}{k:List Tok}(aI:aN.drop i=x::k)(aG:x.kind=5)(U:Go.aS.part (n+1) (x::k)=some r):
 a7 X 133 [.ptr aF 0] h j (jm X aF bE aN h j r) (ii X aF h j r):=by
 refine zF aB (x4 X) ?_
 rw[x5]
 unfold wi
 have gu:=av.a6
 have jG:=av.g0
 have hz:=av.ci
 have jc:=av.gG
 obtain⟨af,js⟩:=fo aI
 unfold Go.aS.part at U
 refine(qV aB av.a6 av.par av.g0 av.gG af).Zm ?_
 rintro aa a1 aP ⟨rfl,b4⟩
 have ju:=b4.le
 have dZ:=av.par.ex b4 Zo Zo
 obtain⟨c,am,bm,ct,a3,a4⟩:=dZ.at_
 have bM:=jw bm a3
 have jt:=(Zb.1 af).1
 have ub:=av.many
 have c5:=dZ.ne
 have bA:=zD i
 refine gO bW.eq_1 @bM (Za @bA @bm) ⟨?_⟩
 generalize dX:bn X _ aF _=aT
 have fe:Z X aT aP=zC (bW x) 7:=by rw[<-dX];exact zP
 have h5:Z X aT (aP+1)=zC (gN 0 x.at_ [] false dw 0 .aV) 9:=by rw[<-dX];exact zP
 have dm:aS X aT aF bE aN (i+1):=by
  refine dZ.on (c:=dP c 1 [.Z ((i+1:Nat):Int)]) ?_ (λdV st a=>by rw[bm]at a;cases a;exact pM ..) ?_
  ·rw[<-dX];simp(disch:=omega) only[aK,bv];rfl
  ·rw[<-dX];simp(disch:=omega) only[aK]
 have dp:co X [aF] h j aT (aP+2):=by
  refine⟨Zo,λb aj bI=> ?_⟩
  rw[<-b4.ad b aj, <-dX]
  simp only[Zq,ZJ,YV,Yn,ZI,Ye]at bI
  simp(disch:=omega) only[aK]
 clear dX bM bm ct a3 a4 dZ b4
 have sB:∃dK,Z X aT aF=some (.cells dK 2 .own)/\aR X aT (.ptr aF 1)=some (.Z ((i+1:Nat):Int)):=by
  obtain⟨c,am,b0,cy,cT,fi⟩:=dm.at_
  exact⟨c,b0,jw b0 cT⟩
 have ft:=av.go dm (by omega:j<=aP+1+1)
 refine jK (λH S aQ=>∃v,H.g 4=some v/\jm X aF bE aN h j r v S aQ) (λW bB=> ?_) (by
  rintro H S aQ ⟨v,t4,a⟩
  refine cr @t4 ⟨?_⟩
  exact a)
 rw[Zp aG]at U
 simp only[ok,Ze]at U
 subst U
 have fM:decide (x.kind=5)=true:=by simp[aG]
 refine hT (bS fe) @h5 @fM bW.eq_1 ⟨?_⟩
 refine iY (by simp[z.same,pv]) ?_
 refine eW (bS fe) @h5 bW.eq_1 ⟨?_⟩
 refine iY (oY _ _) ?_
 refine eW (bS fe) @h5 bW.eq_1 ⟨?_⟩
 refine iY (oY _ _) ?_
 refine eW (bS fe) @h5 bW.eq_1 ⟨?_⟩
 refine bB _ _ _ ⟨.ptr (aP+1) 0,bC,_,i+1,by rw[<-js],cm.leaf (b:=aP+1) (m:=9) (st:= .own) ?_ ⟨Zo,Zo⟩,dm.ad (zE) (zE), ?_⟩
 ·exact zP
 ·exact⟨Zo,λb aj bI=>by rw[<-dp.ad b aj bI];exact zE⟩
end
section
variable{X:cn}{h S a1 aT:R ag}{j aq aP bk aF bE:Nat}{aN:List Tok}{i:Nat}
def acI(aB:dR X){n:Nat}{r:Except Int (bx×List Tok)}(av:h1 X h j aF bE aN i){x:Tok}{k:List Tok}(aI:aN.drop i=x::k)(aG:x.kind=2)(aZ:x.text=[116,114,117,101]\/x.text=[102,97,108,115,101])(U:Go.aS.part (n+1) (x::k)=some r):
 a7 X 133 [.ptr aF 0] h j (jm X aF bE aN h j r) (ii X aF h j r):=by
 refine zF aB (x4 X) ?_
 rw[x5]
 unfold wi
 have gu:=av.a6
 have jG:=av.g0
 have hz:=av.ci
 have jc:=av.gG
 obtain⟨af,js⟩:=fo aI
 unfold Go.aS.part at U
 refine(qV aB av.a6 av.par av.g0 av.gG af).Zm ?_
 rintro aa a1 aP ⟨rfl,b4⟩
 have ju:=b4.le
 have dZ:=av.par.ex b4 Zo Zo
 obtain⟨c,am,bm,ct,a3,a4⟩:=dZ.at_
 have bM:=jw bm a3
 have jt:=(Zb.1 af).1
 have ub:=av.many
 have c5:=dZ.ne
 have bA:=zD i
 refine gO bW.eq_1 @bM (Za @bA @bm) ⟨?_⟩
 generalize dX:bn X _ aF _=aT
 have fe:Z X aT aP=zC (bW x) 7:=by rw[<-dX];exact zP
 have h5:Z X aT (aP+1)=zC (gN 0 x.at_ [] false dw 0 .aV) 9:=by rw[<-dX];exact zP
 have dm:aS X aT aF bE aN (i+1):=by
  refine dZ.on (c:=dP c 1 [.Z ((i+1:Nat):Int)]) ?_ (λdV st a=>by rw[bm]at a;cases a;exact pM ..) ?_
  ·rw[<-dX];simp(disch:=omega) only[aK,bv];rfl
  ·rw[<-dX];simp(disch:=omega) only[aK]
 have dp:co X [aF] h j aT (aP+2):=by
  refine⟨Zo,λb aj bI=> ?_⟩
  rw[<-b4.ad b aj, <-dX]
  simp only[Zq,ZJ,YV,Yn,ZI,Ye]at bI
  simp(disch:=omega) only[aK]
 clear dX bM bm ct a3 a4 dZ b4
 have sB:∃dK,Z X aT aF=some (.cells dK 2 .own)/\aR X aT (.ptr aF 1)=some (.Z ((i+1:Nat):Int)):=by
  obtain⟨c,am,b0,cy,cT,fi⟩:=dm.at_
  exact⟨c,b0,jw b0 cT⟩
 have ft:=av.go dm (by omega:j<=aP+1+1)
 refine jK (λH S aQ=>∃v,H.g 4=some v/\jm X aF bE aN h j r v S aQ) (λW bB=> ?_) (by
  rintro H S aQ ⟨v,t4,a⟩
  refine cr @t4 ⟨?_⟩
  exact a)
 rw[Zg (by rw[aG];decide),Zp (by rcases aZ with a|a<;>simp[aG,a])]at U
 simp only[ok,Ze]at U
 subst U
 have fM:decide (x.kind=5)=false:=by simp[aG]
 have cJ:decide (x.kind=2)=true:=by simp[aG]
 rcases aZ with aZ|aZ
 ·have GW:decide (x.text=[116,114,117,101])=true:=by simp[aZ]
  refine ln (bS fe) @h5 @fM @cJ @GW bW.eq_1 ⟨?_⟩
  refine bB _ _ _ ⟨.ptr (aP+1) 0,bC,_,i+1,by rw[<-js],cm.leaf (b:=aP+1) (m:=9) (st:= .own) (n:=if x.text=[116,114,117,101]then 1 else 0) ?_ ⟨Zo,Zo⟩,dm.ad (zE) (zE), ?_⟩
  ·rw[Zp aZ];exact zP
  ·exact⟨Zo,λb aj bI=>by rw[<-dp.ad b aj bI];exact zE⟩
 ·have GW:decide (x.text=[116,114,117,101])=false:=by simp[aZ]
  have aW:decide (x.text=[102,97,108,115,101])=true:=by simp[aZ]
  refine eQ (bS fe) @h5 @fM @cJ @GW @aW bW.eq_1 ⟨?_⟩
  refine bB _ _ _ ⟨.ptr (aP+1) 0,bC,_,i+1,by rw[<-js],cm.leaf (b:=aP+1) (m:=9) (st:= .own) (n:=if x.text=[116,114,117,101]then 1 else 0) ?_ ⟨Zo,Zo⟩,dm.ad (zE) (zE), ?_⟩
  ·rw[Zg (by rw[aZ];decide)];exact zP
  ·exact⟨Zo,λb aj bI=>by rw[<-dp.ad b aj bI];exact zE⟩
end
section
variable{X:cn}{h S a1 aT:R ag}{j aq aP bk aF bE:Nat}{aN:List Tok}{i:Nat}
def asA(aB:dR X){n:Nat}(ah:∀m,m<n+1->qu X aF bE aN m){r:Except Int (bx×List Tok)}(av:h1 X h j aF bE aN i){x:Tok}{k:List Tok}(aI:aN.drop i=x::k)(rK:n<=1000000)(aG:x.kind=1)(U:Go.aS.part (n+1) (x::k)=some r):
 a7 X 133 [.ptr aF 0] h j (jm X aF bE aN h j r) (ii X aF h j r):=by
 refine zF aB (x4 X) ?_
 rw[x5]
 unfold wi
 have gu:=av.a6
 have jG:=av.g0
 have hz:=av.ci
 have jc:=av.gG
 obtain⟨af,js⟩:=fo aI
 unfold Go.aS.part at U
 refine(qV aB av.a6 av.par av.g0 av.gG af).Zm ?_
 rintro aa a1 aP ⟨rfl,b4⟩
 have ju:=b4.le
 have dZ:=av.par.ex b4 Zo Zo
 obtain⟨c,am,bm,ct,a3,a4⟩:=dZ.at_
 have bM:=jw bm a3
 have jt:=(Zb.1 af).1
 have ub:=av.many
 have c5:=dZ.ne
 have bA:=zD i
 refine gO bW.eq_1 @bM (Za @bA @bm) ⟨?_⟩
 generalize dX:bn X _ aF _=aT
 have fe:Z X aT aP=zC (bW x) 7:=by rw[<-dX];exact zP
 have h5:Z X aT (aP+1)=zC (gN 0 x.at_ [] false dw 0 .aV) 9:=by rw[<-dX];exact zP
 have dm:aS X aT aF bE aN (i+1):=by
  refine dZ.on (c:=dP c 1 [.Z ((i+1:Nat):Int)]) ?_ (λdV st a=>by rw[bm]at a;cases a;exact pM ..) ?_
  ·rw[<-dX];simp(disch:=omega) only[aK,bv];rfl
  ·rw[<-dX];simp(disch:=omega) only[aK]
 have dp:co X [aF] h j aT (aP+2):=by
  refine⟨Zo,λb aj bI=> ?_⟩
  rw[<-b4.ad b aj, <-dX]
  simp only[Zq,ZJ,YV,Yn,ZI,Ye]at bI
  simp(disch:=omega) only[aK]
 clear dX bM bm ct a3 a4 dZ b4
 have sB:∃dK,Z X aT aF=some (.cells dK 2 .own)/\aR X aT (.ptr aF 1)=some (.Z ((i+1:Nat):Int)):=by
  obtain⟨c,am,b0,cy,cT,fi⟩:=dm.at_
  exact⟨c,b0,jw b0 cT⟩
 have ft:=av.go dm (by omega:j<=aP+1+1)
 refine jK (λH S aQ=>∃v,H.g 4=some v/\jm X aF bE aN h j r v S aQ) (λW bB=> ?_) (by
  rintro H S aQ ⟨v,t4,a⟩
  refine cr @t4 ⟨?_⟩
  exact a)
 rw[Zg (by rw[aG];decide),Zg (by simp[aG]),Zp aG]at U
 have fM:decide (x.kind=5)=false:=by simp[aG]
 have cJ:decide (x.kind=2)=false:=by simp[aG]
 have cL:decide (x.kind=1)=true:=by simp[aG]
 refine ln (bS fe) @h5 @fM @cJ @cL bW.eq_1 ⟨?_⟩
 refine iY (by simp[z.same,Cx]) ?_
 refine eW (bS fe) @h5 bW.eq_1 ⟨?_⟩
 refine e1 (λbe=>Z X be (aP+1)=zC (gN 2 x.at_ x.text false dw 0 .aV) 9/\aS X be aF bE aN (i+1)/\co X [aF] h j be (aP+1+1+10)) ⟨?_, ?_, ?_⟩ ?_
 ·exact zP
 ·exact dm.ad (zE) (zE)
 ·exact⟨Zo,λb aj bI=>by rw[<-dp.ad b aj bI];exact zE⟩
 clear dm ft dp fe h5 sB
 rintro be ⟨h5,ge,en⟩
 have mA:=av.go ge (by omega:j<=aP+1+1+10)
 rw[<-js]at U
 obtain⟨e,gE,BI,apl⟩:=qq U
 refine(nl aB mA BI _).Zm ?_
 rintro FX bU cP ⟨rfl,gW,es⟩
 have je:=es.le
 have Hb:Z X bU (aP+1)=zC (gN 2 x.at_ x.text false dw 0 .aV) 9:=by rw[es.ad _ Zo Zx];exact h5
 have tN:=en.trans es
 rcases apl with ⟨aD,U⟩|⟨aD,U⟩
 ·rw[aD]at gW ⊢
  simp only[ZE]at gW ⊢
  rw[<-(fo BI).2]at U
  simp only[]at U
  refine cr bW.eq_1 ⟨?_⟩
  refine e1 (λbY=>bD X bU cP bY (cP+1)) dL ?_
  intro bY dW
  have nX:=mA.go (gW.ex dW Zo Zo) (by omega:aP+1+1+10<=cP+1)
  have dF:=tN.trans (co.of dW)
  rcases f0 U with ⟨D,bV,rfl⟩|⟨b3,l4,bV,U⟩
  ·exact((ah n Zo).list bY _ _ _ nX bV).mono (λaa S aq a=>by obtain⟨B,cp,bj,cD,a,_⟩:=a;cases a) (λaa S aq a=>a.of dF (λ_ a=>by cases a;rfl))
  refine((ah n Zo).list bY _ _ _ nX bV).mono ?_ zL
  rintro xO ck dB ⟨lF,hB,bj,cD,P8,cW,EC,g8,el⟩
  cases P8
  have qL:=el.le
  simp only[ok,Ze]at U
  subst U
  have ru:Z X ck (aP+1)=zC (gN 2 x.at_ x.text false dw 0 .aV) 9:=by rw[el.ad _ Zo Zx,dW.ad _ Zo];exact Hb
  have qa:∃w,xO.cells=[w]/\w=xO/\nV xO=true:=by
   have:=cW.len
   cases xO<;>first|exact⟨_,rfl,rfl,rfl⟩|(simp[gl]at this;done)
  obtain⟨w,bQ,rfl,oI⟩:=qa
  have cK:∀cC Bb,Z X cC (aP+1)=some (.cells Bb 9 .own)->fc X cC 1 (.ptr (aP+1) 8) w=some (bn X cC (aP+1) (some (.cells (Bb.set 8 (some w)) 9 .own))):=λcC Bb a=>sa a Zo Zo bQ oI
  refine cr @ru ⟨?_⟩
  refine gm (cK _ _ (bv Zo)) ?_
  refine bB _ _ _ ⟨.ptr (aP+1) 0,bC,_,hB,rfl,cm.of (b:=aP+1) (m:=9) (st:= .own) (cD:=cD) (bf:=w) (kind:=25) (at_:=x.at_) (name:=x.text) (no:=false) (ty:=dw) (n:=0) (bj:=bj) ?_ ⟨Zo,Zo⟩ ?_ (λbt=> ?_) ?_,g8.ad (zE) (zE), ?_⟩
  ·exact zP
  ·refine(cW.ad (λe F=> ?_)).lift (λe F=>⟨zy F.1,F.2⟩)
   have:=F.1
   simp(disch:=omega) only[aK]
  ·have:=(cW.aj (by simpa using bt)).1
   omega
  ·refine dh.lift (λe F=>⟨⟨zy F.1.1,zy F.1.2⟩,zy F.1.1,F.2⟩) _ _ (dh.ad (λe F=> ?_) _ _ EC)
   have I:=F.1.1
   have M:=F.1.2
   simp(disch:=omega) only[aK]
  ·exact⟨Zo,λb aj bI=>by rw[<-(dF.trans el).ad b aj bI];exact zE⟩
 ·rw[aD]at gW ⊢
  simp only[Zu,ZD]at gW ⊢
  simp only[ok,Ze]at U
  subst U
  refine dk bW.eq_1 gJ.eq_1 ⟨?_⟩
  refine bB _ _ _ ⟨.ptr (aP+1) 0,bC,_,i+1,rfl,cm.leaf (b:=aP+1) (m:=9) (st:= .own) ?_ ⟨Zo,Zo⟩,gW.ad (zE) (zE), ?_⟩
  ·simp(disch:=omega) only[aK];exact Hb
  ·exact⟨Zo,λb aj bI=>by rw[<-tN.ad b aj bI];exact zE⟩
end
section
variable{X:cn}{h S a1 aT:R ag}{j aq aP bk aF bE:Nat}{aN:List Tok}{i:Nat}
def asD(aB:dR X){n:Nat}(ah:∀m,m<n+1->qu X aF bE aN m){r:Except Int (bx×List Tok)}(av:h1 X h j aF bE aN i){x:Tok}{k:List Tok}(aI:aN.drop i=x::k)(aG:x.kind=3)(U:Go.aS.part (n+1) (x::k)=some r):
 a7 X 133 [.ptr aF 0] h j (jm X aF bE aN h j r) (ii X aF h j r):=by
 refine zF aB (x4 X) ?_
 rw[x5]
 unfold wi
 have gu:=av.a6
 have jG:=av.g0
 have hz:=av.ci
 have jc:=av.gG
 obtain⟨af,js⟩:=fo aI
 unfold Go.aS.part at U
 refine(qV aB av.a6 av.par av.g0 av.gG af).Zm ?_
 rintro aa a1 aP ⟨rfl,b4⟩
 have ju:=b4.le
 have dZ:=av.par.ex b4 Zo Zo
 obtain⟨c,am,bm,ct,a3,a4⟩:=dZ.at_
 have bM:=jw bm a3
 have jt:=(Zb.1 af).1
 have ub:=av.many
 have c5:=dZ.ne
 have bA:=zD i
 refine gO bW.eq_1 @bM (Za @bA @bm) ⟨?_⟩
 generalize dX:bn X _ aF _=aT
 have fe:Z X aT aP=zC (bW x) 7:=by rw[<-dX];exact zP
 have h5:Z X aT (aP+1)=zC (gN 0 x.at_ [] false dw 0 .aV) 9:=by rw[<-dX];exact zP
 have dm:aS X aT aF bE aN (i+1):=by
  refine dZ.on (c:=dP c 1 [.Z ((i+1:Nat):Int)]) ?_ (λdV st a=>by rw[bm]at a;cases a;exact pM ..) ?_
  ·rw[<-dX];simp(disch:=omega) only[aK,bv];rfl
  ·rw[<-dX];simp(disch:=omega) only[aK]
 have dp:co X [aF] h j aT (aP+2):=by
  refine⟨Zo,λb aj bI=> ?_⟩
  rw[<-b4.ad b aj, <-dX]
  simp only[Zq,ZJ,YV,Yn,ZI,Ye]at bI
  simp(disch:=omega) only[aK]
 clear dX bM bm ct a3 a4 dZ b4
 have sB:∃dK,Z X aT aF=some (.cells dK 2 .own)/\aR X aT (.ptr aF 1)=some (.Z ((i+1:Nat):Int)):=by
  obtain⟨c,am,b0,cy,cT,fi⟩:=dm.at_
  exact⟨c,b0,jw b0 cT⟩
 have ft:=av.go dm (by omega:j<=aP+1+1)
 refine jK (λH S aQ=>∃v,H.g 4=some v/\jm X aF bE aN h j r v S aQ) (λW bB=> ?_) (by
  rintro H S aQ ⟨v,t4,a⟩
  refine cr @t4 ⟨?_⟩
  exact a)
 rw[Zg (by rw[aG];decide),Zg (by simp[aG]),Zg (by rw[aG];decide),Zp aG]at U
 have fM:decide (x.kind=5)=false:=by simp[aG]
 have cJ:decide (x.kind=2)=false:=by simp[aG]
 have cL:decide (x.kind=1)=false:=by simp[aG]
 have eI:decide (x.kind=3)=true:=by simp[aG]
 refine eQ (bS fe) @h5 @fM @cJ @cL @eI bW.eq_1 ⟨?_⟩
 refine iY (by simp[z.same,pv]) ?_
 refine eW (bS fe) @h5 bW.eq_1 ⟨?_⟩
 refine e1 (λbe=>Z X be (aP+1+1+10)=zC [.str [40]] 1/\Z X be (aP+1)=zC (gN 26 x.at_ [] false x.ty 0 .aV) 9/\aS X be aF bE aN (i+1)/\co X [aF] h j be (aP+1+1+10+1)) ⟨bv Zo, ?_, ?_, ?_⟩ ?_
 ·exact zP
 ·exact dm.ad (zE) (zE)
 ·exact⟨Zo,λb aj bI=>by rw[<-dp.ad b aj bI];exact zE⟩
 clear dm ft dp fe h5 sB
 rintro be ⟨ax,h5,ge,en⟩
 have mA:=av.go ge (by omega:j<=aP+1+1+10+1)
 rw[<-js]at U
 rcases f0 U with ⟨D,aA,rfl⟩|⟨o5,gE,aA,U⟩
 ·exact(iZ aB mA Zo Zo ax aA).mono zM (λaa S aq a=>a.of en (λ_ a=>by cases a;rfl))
 refine(iZ aB mA Zo Zo ax aA).mono ?_ zL
 rintro v4 bU cP ⟨avO,i4,p2,_,gW,es⟩
 cases p2
 have je:=es.le
 have ko:=mA.go gW je
 have wR:=en.trans es
 rcases f0 U with ⟨D,bq,rfl⟩|⟨pg,gg,bq,U⟩
 ·exact((ah n Zo).arrow bU _ _ _ ko bq).mono zM (λaa S aq a=>a.of wR (λ_ a=>by cases a;rfl))
 refine((ah n Zo).arrow bU _ _ _ ko bq).mono ?_ zL
 rintro v5 bY cw ⟨Kx,i5,rF,dW,gk,dF⟩
 cases rF
 have iU:=dF.le
 have nX:=ko.go gk iU
 have pX:=wR.trans dF
 obtain⟨lQ,rfl,oD,_⟩:=dW.ptr
 have oD:=oD.2
 have qE:Z X bY (aP+1)=zC (gN 26 x.at_ [] false x.ty 0 .aV) 9:=by rw[dF.ad _ Zo Zx,es.ad _ Zo Zx];exact h5
 refine cr @qE ⟨?_⟩
 refine e1 (λck=>Z X ck (cw+1)=zC [.str [41]] 1/\Z X ck cw=zC [.ptr lQ 0] 1/\Z X ck (aP+1)=zC (gN 26 x.at_ [] false x.ty 0 (.slice cw 0 1 1)) 9/\cm X ck (ec cP cw) pg (.ptr lQ 0)/\aS X ck aF bE aN i5/\co X [aF] h j ck (cw+1+1)) ⟨bv Zo, ?_, ?_, ?_, ?_, ?_⟩ ?_
 ·exact zP
 ·exact zP
 ·refine cm.ex dW (λe I M=> ?_) Zo Zo
  simp(disch:=omega) only[aK]
 ·exact gk.ad (zE) (zE)
 ·exact⟨Zo,λb aj bI=>by rw[<-pX.ad b aj bI];exact zE⟩
 clear dW gk qE dF
 rintro ck ⟨Hd,alg,ru,eC,g8,el⟩
 have lP:=av.go g8 (by omega:j<=cw+1+1)
 rcases f0 U with ⟨D,c2,rfl⟩|⟨JA,lJ,c2,U⟩
 ·exact(iZ aB lP Zo Zo Hd c2).mono zM (λaa S aq a=>a.of el (λ_ a=>by cases a;rfl))
 refine(iZ aB lP Zo Zo Hd c2).mono ?_ zL
 rintro Ju cC e6 ⟨avP,oK,w0,_,hj,eR⟩
 cases w0
 have qM:=eR.le
 simp only[ok,Ze]at U
 subst U
 refine bB _ _ _ ⟨.ptr (aP+1) 0,bC,_,oK,rfl,cm.lit (o:=1) (cap:=1) (b:=aP+1) (m:=9) (st:= .own) (gn:= .own) (cD:=cw) (bj:=[.ptr lQ 0]) ?_ ⟨Zo,Zo⟩ ?_ ⟨Zo,Zo⟩ rfl Zo Zo (dh.one (cm.ad (λe F=> ?_) _ _ eC) (λe F=> ?_)),hj,el.trans eR⟩
 ·rw[eR.ad _ Zo Zx];exact ru
 ·rw[eR.ad _ Zo Zx];exact alg
 ·have I:=F.1;have M:=F.2
  exact eR.ad e Zo Zx
 ·simp only[ec]at F ⊢;omega
end
section
variable{X:cn}{h S a1 aT:R ag}{j aq aP bk aF bE:Nat}{aN:List Tok}{i:Nat}
def asC(aB:dR X){n:Nat}(ah:∀m,m<n+1->qu X aF bE aN m){r:Except Int (bx×List Tok)}(av:h1 X h j aF bE aN i){x:Tok}{k:List Tok}(aI:aN.drop i=x::k)(aG:x.kind=6)(aZ:x.text=[40])(U:Go.aS.part (n+1) (x::k)=some r):
 a7 X 133 [.ptr aF 0] h j (jm X aF bE aN h j r) (ii X aF h j r):=by
 refine zF aB (x4 X) ?_
 rw[x5]
 unfold wi
 have gu:=av.a6
 have jG:=av.g0
 have hz:=av.ci
 have jc:=av.gG
 obtain⟨af,js⟩:=fo aI
 unfold Go.aS.part at U
 refine(qV aB av.a6 av.par av.g0 av.gG af).Zm ?_
 rintro aa a1 aP ⟨rfl,b4⟩
 have ju:=b4.le
 have dZ:=av.par.ex b4 Zo Zo
 obtain⟨c,am,bm,ct,a3,a4⟩:=dZ.at_
 have bM:=jw bm a3
 have jt:=(Zb.1 af).1
 have ub:=av.many
 have c5:=dZ.ne
 have bA:=zD i
 refine gO bW.eq_1 @bM (Za @bA @bm) ⟨?_⟩
 generalize dX:bn X _ aF _=aT
 have fe:Z X aT aP=zC (bW x) 7:=by rw[<-dX];exact zP
 have h5:Z X aT (aP+1)=zC (gN 0 x.at_ [] false dw 0 .aV) 9:=by rw[<-dX];exact zP
 have dm:aS X aT aF bE aN (i+1):=by
  refine dZ.on (c:=dP c 1 [.Z ((i+1:Nat):Int)]) ?_ (λdV st a=>by rw[bm]at a;cases a;exact pM ..) ?_
  ·rw[<-dX];simp(disch:=omega) only[aK,bv];rfl
  ·rw[<-dX];simp(disch:=omega) only[aK]
 have dp:co X [aF] h j aT (aP+2):=by
  refine⟨Zo,λb aj bI=> ?_⟩
  rw[<-b4.ad b aj, <-dX]
  simp only[Zq,ZJ,YV,Yn,ZI,Ye]at bI
  simp(disch:=omega) only[aK]
 clear dX bM bm ct a3 a4 dZ b4
 have sB:∃dK,Z X aT aF=some (.cells dK 2 .own)/\aR X aT (.ptr aF 1)=some (.Z ((i+1:Nat):Int)):=by
  obtain⟨c,am,b0,cy,cT,fi⟩:=dm.at_
  exact⟨c,b0,jw b0 cT⟩
 have ft:=av.go dm (by omega:j<=aP+1+1)
 refine jK (λH S aQ=>∃v,H.g 4=some v/\jm X aF bE aN h j r v S aQ) (λW bB=> ?_) (by
  rintro H S aQ ⟨v,t4,a⟩
  refine cr @t4 ⟨?_⟩
  exact a)
 rw[Zg (by rw[aG];decide),Zg (by simp[aG]),Zg (by rw[aG];decide),Zg (by rw[aG];decide),Zp (by simp[aG,aZ])]at U
 have fM:decide (x.kind=5)=false:=by simp[aG]
 have cJ:decide (x.kind=2)=false:=by simp[aG]
 have cL:decide (x.kind=1)=false:=by simp[aG]
 have eI:decide (x.kind=3)=false:=by simp[aG]
 have iz:decide (x.kind=6)=true:=by simp[aG]
 have GW:decide (x.text=[40])=true:=by simp[aZ]
 refine eQ (bS fe) @h5 @fM @cJ @cL @eI (Za @iz (Za @GW bW.eq_1)) ⟨?_⟩
 rw[<-js]at U
 rcases f0 U with ⟨D,bq,rfl⟩|⟨pg,gg,bq,U⟩
 ·exact((ah n Zo).arrow aT _ _ _ ft bq).mono zM (λaa S aq a=>a.of dp (λ_ a=>by cases a;rfl))
 refine((ah n Zo).arrow aT _ _ _ ft bq).mono ?_ zL
 rintro v5 bY cw ⟨Kx,i5,rF,dW,gk,dF⟩
 cases rF
 have iU:=dF.le
 have nX:=ft.go gk iU
 have pX:=dp.trans dF
 refine cV ⟨?_⟩
 refine e1 (λck=>Z X ck cw=zC [.str [41]] 1/\bD X bY cw ck (cw+1)) ⟨bv Zo,dL⟩ ?_
 rintro ck ⟨Hd,eC⟩
 have lP:=nX.go (gk.ex eC Zo Zo) (by omega:cw<=cw+1)
 have el:=pX.trans (co.of eC)
 rcases f0 U with ⟨D,c2,rfl⟩|⟨JA,lJ,c2,U⟩
 ·exact(iZ aB lP Zo Zo Hd c2).mono zM (λaa S aq a=>a.of el (λ_ a=>by cases a;rfl))
 refine(iZ aB lP Zo Zo Hd c2).mono ?_ zL
 rintro Ju cC e6 ⟨avP,oK,w0,_,hj,eR⟩
 cases w0
 have qM:=eR.le
 simp only[ok,Ze]at U
 subst U
 refine bB _ _ _ ⟨v5,bC,_,oK,rfl,cm.ex dW (λe I M=>by rw[eR.ad e Zo Zx,eC.ad e Zo]) Zo Zo,hj,el.trans eR⟩
end
section
variable{X:cn}{h S a1 aT:R ag}{j aq aP bk aF bE:Nat}{aN:List Tok}{i:Nat}
def asz(aB:dR X){n:Nat}(ah:∀m,m<n+1->qu X aF bE aN m){r:Except Int (bx×List Tok)}(av:h1 X h j aF bE aN i){x:Tok}{k:List Tok}(aI:aN.drop i=x::k)(aG:x.kind=2)(aZ:x.text=[109,101,114,103,101])(U:Go.aS.part (n+1) (x::k)=some r):
 a7 X 133 [.ptr aF 0] h j (jm X aF bE aN h j r) (ii X aF h j r):=by
 refine zF aB (x4 X) ?_
 rw[x5]
 unfold wi
 have gu:=av.a6
 have jG:=av.g0
 have hz:=av.ci
 have jc:=av.gG
 obtain⟨af,js⟩:=fo aI
 unfold Go.aS.part at U
 refine(qV aB av.a6 av.par av.g0 av.gG af).Zm ?_
 rintro aa a1 aP ⟨rfl,b4⟩
 have ju:=b4.le
 have dZ:=av.par.ex b4 Zo Zo
 obtain⟨c,am,bm,ct,a3,a4⟩:=dZ.at_
 have bM:=jw bm a3
 have jt:=(Zb.1 af).1
 have ub:=av.many
 have c5:=dZ.ne
 have bA:=zD i
 refine gO bW.eq_1 @bM (Za @bA @bm) ⟨?_⟩
 generalize dX:bn X _ aF _=aT
 have fe:Z X aT aP=zC (bW x) 7:=by rw[<-dX];exact zP
 have h5:Z X aT (aP+1)=zC (gN 0 x.at_ [] false dw 0 .aV) 9:=by rw[<-dX];exact zP
 have dm:aS X aT aF bE aN (i+1):=by
  refine dZ.on (c:=dP c 1 [.Z ((i+1:Nat):Int)]) ?_ (λdV st a=>by rw[bm]at a;cases a;exact pM ..) ?_
  ·rw[<-dX];simp(disch:=omega) only[aK,bv];rfl
  ·rw[<-dX];simp(disch:=omega) only[aK]
 have dp:co X [aF] h j aT (aP+2):=by
  refine⟨Zo,λb aj bI=> ?_⟩
  rw[<-b4.ad b aj, <-dX]
  simp only[Zq,ZJ,YV,Yn,ZI,Ye]at bI
  simp(disch:=omega) only[aK]
 clear dX bM bm ct a3 a4 dZ b4
 have sB:∃dK,Z X aT aF=some (.cells dK 2 .own)/\aR X aT (.ptr aF 1)=some (.Z ((i+1:Nat):Int)):=by
  obtain⟨c,am,b0,cy,cT,fi⟩:=dm.at_
  exact⟨c,b0,jw b0 cT⟩
 have ft:=av.go dm (by omega:j<=aP+1+1)
 refine jK (λH S aQ=>∃v,H.g 4=some v/\jm X aF bE aN h j r v S aQ) (λW bB=> ?_) (by
  rintro H S aQ ⟨v,t4,a⟩
  refine cr @t4 ⟨?_⟩
  exact a)
 rw[Zg (by rw[aG];decide),Zg (by simp[aG,aZ]),Zg (by rw[aG];decide),Zg (by rw[aG];decide),Zg (by simp[aG]),Zg (by simp[aG,aZ]),Zp (by simp[aG,aZ])]at U
 have fM:decide (x.kind=5)=false:=by simp[aG]
 have cJ:decide (x.kind=2)=true:=by simp[aG]
 have cL:decide (x.kind=1)=false:=by simp[aG]
 have eI:decide (x.kind=3)=false:=by simp[aG]
 have iz:decide (x.kind=6)=false:=by simp[aG]
 have cH:decide (x.text=[116,114,117,101])=false:=by simp[aZ]
 have cB:decide (x.text=[102,97,108,115,101])=false:=by simp[aZ]
 have dN:decide (x.text=[105,102])=false:=by simp[aZ]
 have fx:decide (x.text=[109,101,114,103,101])=true:=by simp[aZ]
 refine eQ (bS fe) @h5 @fM @cJ @cL @eI (Za @iz (Za @cH (Za @cB (Za @dN (Za @fx bW.eq_1))))) ⟨?_⟩
 rw[<-js]at U
 cases BI:aN.drop (i+1)with
 |nil=>rw[BI]at U;simp[ib,andThen]at U
 |cons c gE=>
 rw[BI]at U
 simp only[ib]at U
 refine(As aB ft.a6 ft.par ft.ci ft.g0 ft.gG ft.many (fo BI).1 1).mono ?_ ?_
 ·rintro FX bU cP ⟨f2,rfl,gW,es⟩
  have je:=es.le
  rw[Zp f2]at U
  simp only[andThen,ok]at U
  rw[<-(fo BI).2]at U
  have Hb:Z X bU (aP+1)=zC (gN 0 x.at_ [] false dw 0 .aV) 9:=by rw[es.ad _ Zo Zx];exact h5
  have wR:=dp.trans es
  refine dk bW.eq_1 @Hb ⟨?_⟩
  refine e1 (λbe=>Z X be (aP+1)=zC (gN 24 x.at_ c.text false dw 0 .aV) 9/\aS X be aF bE aN (i+1+1)/\co X [aF] h j be cP) ⟨?_, ?_, ?_⟩ ?_
  ·exact zP
  ·exact gW.ad (zE) (zE)
  ·exact⟨Zo,λb aj bI=>by rw[<-wR.ad b aj bI];exact zE⟩
  clear Hb gW es wR h5 sB dm ft dp fe
  rintro be ⟨h5,ge,en⟩
  have mA:=av.go ge (by omega:j<=cP)
  cases EP:Go.aS.part n (aN.drop (i+1+1))with
  |none=>rw[EP]at U;cases U
  |some MO=>
  rw[EP]at U
  refine((ah n Zo).part be _ _ _ mA EP).mono ?_ ?_
  ·rintro v5 bY cw ⟨pg,i5,rfl,dW,gk,dF⟩
   simp only[]at U
   have iU:=dF.le
   have nX:=mA.go gk iU
   have pX:=en.trans dF
   cases LF:Go.aS.part n (aN.drop i5)with
   |none=>rw[LF]at U;cases U
   |some xA=>
   rw[LF]at U
   refine((ah n Zo).part bY _ _ _ nX LF).mono ?_ ?_
   ·rintro xO ck dB ⟨GY,hB,rfl,eC,g8,el⟩
    simp only[Ze]at U
    subst U
    have qL:=el.le
    obtain⟨lQ,rfl,oD,_⟩:=dW.ptr
    obtain⟨AD,rfl,Ib,_⟩:=eC.ptr
    have ru:Z X ck (aP+1)=zC (gN 24 x.at_ c.text false dw 0 .aV) 9:=by rw[el.ad _ Zo Zx,dF.ad _ Zo Zx];exact h5
    refine cr @ru ⟨?_⟩
    refine bB _ _ _ ⟨.ptr (aP+1) 0,bC,_,hB,rfl,cm.lit (o:=2) (cap:=2) (b:=aP+1) (m:=9) (st:= .own) (gn:= .own) (cD:=dB) (bj:=[.ptr lQ 0, .ptr AD 0]) ?_ ⟨Zo,Zo⟩ ?_ ⟨Zo,Zo⟩ rfl Zo Zo (dh.two (cm.ad (λe F=> ?_) _ _ dW) (cm.ad (λe F=> ?_) _ _ eC) (λe F=> ?_) (λe F=> ?_)),g8.ad (zE) (zE), ?_⟩
    ·exact zP
    ·exact zP
    ·have I:=F.1;have M:=F.2
     simp(disch:=omega) only[aK]
     exact el.ad e Zo Zx
    ·have I:=F.1;have M:=F.2
     simp(disch:=omega) only[aK]
    ·simp only[ec]at F ⊢;omega
    ·simp only[ec]at F ⊢;omega
    ·exact⟨Zo,λb aj bI=>by rw[<-(pX.trans el).ad b aj bI];exact zE⟩
   ·rintro xO ck dB ⟨D,rfl,rfl,el⟩
    simp only[Ze]at U
    subst U
    exact⟨D,rfl,rfl,pX.trans el⟩
  ·rintro v5 bY cw ⟨D,rfl,rfl,dF⟩
   simp only[Ze]at U
   subst U
   exact⟨D,rfl,rfl,en.trans dF⟩
 ·rintro FX bU cP ⟨f2,rfl,es⟩
  rw[Zg f2]at U
  simp only[andThen,bad,Ze]at U
  subst U
  exact⟨_,rfl,rfl,dp.trans es⟩
end
section
variable{X:cn}{h S a1 aT:R ag}{j aq aP bk aF bE:Nat}{aN:List Tok}{i:Nat}
def R7(aB:dR X){n:Nat}{r:Except Int (bx×List Tok)}(av:h1 X h j aF bE aN i){x:Tok}{k:List Tok}(aI:aN.drop i=x::k)(eJ:x.kind≠5)(bM:x.kind≠1)(df:x.kind≠3)(et:x.kind=6->x.text≠[40])(cq:x.kind=2->x.text≠[116,114,117,101]/\x.text≠[102,97,108,115,101]/\x.text≠[105,102]/\x.text≠[109,101,114,103,101])(U:Go.aS.part (n+1) (x::k)=some r):
 a7 X 133 [.ptr aF 0] h j (jm X aF bE aN h j r) (ii X aF h j r):=by
 refine zF aB (x4 X) ?_
 rw[x5]
 unfold wi
 have gu:=av.a6
 have jG:=av.g0
 have hz:=av.ci
 have jc:=av.gG
 obtain⟨af,js⟩:=fo aI
 unfold Go.aS.part at U
 refine(qV aB av.a6 av.par av.g0 av.gG af).Zm ?_
 rintro aa a1 aP ⟨rfl,b4⟩
 have ju:=b4.le
 have dZ:=av.par.ex b4 Zo Zo
 obtain⟨c,am,bm,ct,a3,a4⟩:=dZ.at_
 have bM:=jw bm a3
 have jt:=(Zb.1 af).1
 have ub:=av.many
 have c5:=dZ.ne
 have bA:=zD i
 refine gO bW.eq_1 @bM (Za @bA @bm) ⟨?_⟩
 generalize dX:bn X _ aF _=aT
 have fe:Z X aT aP=zC (bW x) 7:=by rw[<-dX];exact zP
 have h5:Z X aT (aP+1)=zC (gN 0 x.at_ [] false dw 0 .aV) 9:=by rw[<-dX];exact zP
 have dm:aS X aT aF bE aN (i+1):=by
  refine dZ.on (c:=dP c 1 [.Z ((i+1:Nat):Int)]) ?_ (λdV st a=>by rw[bm]at a;cases a;exact pM ..) ?_
  ·rw[<-dX];simp(disch:=omega) only[aK,bv];rfl
  ·rw[<-dX];simp(disch:=omega) only[aK]
 have dp:co X [aF] h j aT (aP+2):=by
  refine⟨Zo,λb aj bI=> ?_⟩
  rw[<-b4.ad b aj, <-dX]
  simp only[Zq,ZJ,YV,Yn,ZI,Ye]at bI
  simp(disch:=omega) only[aK]
 clear dX bM bm ct a3 a4 dZ b4
 have sB:∃dK,Z X aT aF=some (.cells dK 2 .own)/\aR X aT (.ptr aF 1)=some (.Z ((i+1:Nat):Int)):=by
  obtain⟨c,am,b0,cy,cT,fi⟩:=dm.at_
  exact⟨c,b0,jw b0 cT⟩
 have ft:=av.go dm (by omega:j<=aP+1+1)
 refine jK (λH S aQ=>∃v,H.g 4=some v/\jm X aF bE aN h j r v S aQ) (λW bB=> ?_) (by
  rintro H S aQ ⟨v,t4,a⟩
  refine cr @t4 ⟨?_⟩
  exact a)
 have LN:r= .error x.at_:=by
  by_cases M:x.kind=2
  ·obtain⟨fg,hc,vM,I2⟩:=cq M
   have bV:¬x.kind=6:=Zo
   rw[Zg eJ,Zg (by simp[fg,hc]),Zg bM,Zg df,Zg (by simp[bV]),Zg (by simp[vM]),Zg (by simp[I2])]at U
   simp only[bad,Ze]at U
   exact U.symm
  ·by_cases bV:x.kind=6
   ·rw[Zg eJ,Zg (by simp[M]),Zg bM,Zg df,Zg (by simp[et bV]),Zg (by simp[M]),Zg (by simp[M])]at U
    simp only[bad,Ze]at U
    exact U.symm
   ·rw[Zg eJ,Zg (by simp[M]),Zg bM,Zg df,Zg (by simp[bV]),Zg (by simp[M]),Zg (by simp[M])]at U
    simp only[bad,Ze]at U
    exact U.symm
 subst LN
 have fM:decide (x.kind=5)=false:=by simp[eJ]
 have cL:decide (x.kind=1)=false:=by simp[bM]
 have eI:decide (x.kind=3)=false:=by simp[df]
 obtain⟨dK,Po,Pp⟩:=sB
 have cg:bg .sub (.Z ((i+1:Nat):Int)) (.Z 1)=some (.Z (((i+1:Nat):Int) -1)):=by rw[vx Zo Zo]
 have fin:∀(be:R ag) (ai:bN),(∀b,b<j->b∉[aF]->Z X be b=Z X aT b)->a7 X 87 [.agg (bW x)] be (aP+1+1) ai (ii X aF h j (Except.error x.at_:Except Int (bx×List Tok))):=by
  intro be ai ak
  refine(G4 aB Zo x _ ?_).mono (λ_ _ _ a=>a.elim) (λ_ _ _ a=>a)
  intro S aq bZ
  have HW:=bZ.le
  exact⟨_,rfl,rfl,Zo,λb aj bI=>by rw[bZ.ad b Zo,ak b aj bI];exact dp.ad b aj bI⟩
 by_cases M:x.kind=2
 ·obtain⟨fg,hc,vM,I2⟩:=cq M
  have cJ:decide (x.kind=2)=true:=by simp[M]
  have iz:decide (x.kind=6)=false:=by simp[M]
  have cH:decide (x.text=[116,114,117,101])=false:=by simp[fg]
  have cB:decide (x.text=[102,97,108,115,101])=false:=by simp[hc]
  have dN:decide (x.text=[105,102])=false:=by simp[vM]
  have fx:decide (x.text=[109,101,114,103,101])=false:=by simp[I2]
  refine eQ (bS fe) @h5 @fM @cJ @cL @eI (Za @iz (Za @cH (Za @cB (Za @dN (Za @fx (Za bW.eq_1 (Za @Po (Za @Pp @cg)))))))) ⟨?_⟩
  refine fin _ _ (λb aj bI=> ?_)
  simp only[Zq,ZJ,YV,Yn,ZI,Ye]at bI
  simp(disch:=omega) only[aK]
 ·have cJ:decide (x.kind=2)=false:=by simp[M]
  by_cases bV:x.kind=6
  ·have iz:decide (x.kind=6)=true:=by simp[bV]
   have cH:decide (x.text=[40])=false:=by simp[et bV]
   refine eQ (bS fe) @h5 @fM @cJ @cL @eI (Za @iz (Za @cH (Za bW.eq_1 (Za @Po (Za @Pp @cg))))) ⟨?_⟩
   refine fin _ _ (λb aj bI=> ?_)
   simp only[Zq,ZJ,YV,Yn,ZI,Ye]at bI
   simp(disch:=omega) only[aK]
  ·have iz:decide (x.kind=6)=false:=by simp[bV]
   refine eQ (bS fe) @h5 @fM @cJ @cL @eI (Za @iz (Za bW.eq_1 (Za @Po (Za @Pp @cg)))) ⟨?_⟩
   refine fin _ _ (λb aj bI=> ?_)
   simp only[Zq,ZJ,YV,Yn,ZI,Ye]at bI
   simp(disch:=omega) only[aK]
end
section
variable{X:cn}{h S a1 aT:R ag}{j aq aP bk aF bE:Nat}{aN:List Tok}{i:Nat}
def co.s1{X:cn}{aF:Nat}{h S:R ag}{j aq n:Nat}(a:co X [aF] h j S aq)(o:aq<=n):co X [aF] h j S n:=⟨ZA a.le o,a.ad⟩
def kc.one{C:aM}{h:R ag}{s:z}{aO:Nat}{k:List z}{cR:List Nat}(a:kc C h s aO k cR):s.cells=[s]/\nV s=true/\z.same 30 s s=true:=by
 rcases a with ⟨rfl,_⟩|⟨b,eb,n,c,rfl,_⟩
 ·exact⟨rfl,rfl,rfl⟩
 ·exact⟨rfl,rfl,by simp[z.same]⟩
def asx(aB:dR X){n:Nat}(ah:∀m,m<n+1->qu X aF bE aN m){r:Except Int (bx×List Tok)}(av:h1 X h j aF bE aN i){x:Tok}{k:List Tok}(aI:aN.drop i=x::k)(aG:x.kind=2)(aZ:x.text=[105,102])(U:Go.aS.part (n+1) (x::k)=some r):
 a7 X 133 [.ptr aF 0] h j (jm X aF bE aN h j r) (ii X aF h j r):=by
 refine zF aB (x4 X) ?_
 rw[x5]
 unfold wi
 have gu:=av.a6
 have jG:=av.g0
 have hz:=av.ci
 have jc:=av.gG
 obtain⟨af,js⟩:=fo aI
 unfold Go.aS.part at U
 refine(qV aB av.a6 av.par av.g0 av.gG af).Zm ?_
 rintro aa a1 aP ⟨rfl,b4⟩
 have ju:=b4.le
 have dZ:=av.par.ex b4 Zo Zo
 obtain⟨c,am,bm,ct,a3,a4⟩:=dZ.at_
 have bM:=jw bm a3
 have jt:=(Zb.1 af).1
 have ub:=av.many
 have c5:=dZ.ne
 have bA:=zD i
 refine gO bW.eq_1 @bM (Za @bA @bm) ⟨?_⟩
 generalize dX:bn X _ aF _=aT
 have fe:Z X aT aP=zC (bW x) 7:=by rw[<-dX];exact zP
 have h5:Z X aT (aP+1)=zC (gN 0 x.at_ [] false dw 0 .aV) 9:=by rw[<-dX];exact zP
 have dm:aS X aT aF bE aN (i+1):=by
  refine dZ.on (c:=dP c 1 [.Z ((i+1:Nat):Int)]) ?_ (λdV st a=>by rw[bm]at a;cases a;exact pM ..) ?_
  ·rw[<-dX];simp(disch:=omega) only[aK,bv];rfl
  ·rw[<-dX];simp(disch:=omega) only[aK]
 have dp:co X [aF] h j aT (aP+2):=by
  refine⟨Zo,λb aj bI=> ?_⟩
  rw[<-b4.ad b aj, <-dX]
  simp only[Zq,ZJ,YV,Yn,ZI,Ye]at bI
  simp(disch:=omega) only[aK]
 clear dX bM bm ct a3 a4 dZ b4
 have sB:∃dK,Z X aT aF=some (.cells dK 2 .own)/\aR X aT (.ptr aF 1)=some (.Z ((i+1:Nat):Int)):=by
  obtain⟨c,am,b0,cy,cT,fi⟩:=dm.at_
  exact⟨c,b0,jw b0 cT⟩
 have ft:=av.go dm (by omega:j<=aP+1+1)
 refine jK (λH S aQ=>∃v,H.g 4=some v/\jm X aF bE aN h j r v S aQ) (λW bB=> ?_) (by
  rintro H S aQ ⟨v,t4,a⟩
  refine cr @t4 ⟨?_⟩
  exact a)
 rw[Zg (by rw[aG];decide),Zg (by simp[aG,aZ]),Zg (by rw[aG];decide),Zg (by rw[aG];decide),Zg (by simp[aG]),Zp (by simp[aG,aZ])]at U
 have fM:decide (x.kind=5)=false:=by simp[aG]
 have cJ:decide (x.kind=2)=true:=by simp[aG]
 have cL:decide (x.kind=1)=false:=by simp[aG]
 have eI:decide (x.kind=3)=false:=by simp[aG]
 have iz:decide (x.kind=6)=false:=by simp[aG]
 have cH:decide (x.text=[116,114,117,101])=false:=by simp[aZ]
 have cB:decide (x.text=[102,97,108,115,101])=false:=by simp[aZ]
 have dN:decide (x.text=[105,102])=true:=by simp[aZ]
 refine eQ (bS fe) @h5 @fM @cJ @cL @eI (Za @iz (Za @cH (Za @cB (Za @dN (Za bW.eq_1 gN.eq_1))))) ⟨?_⟩
 rw[<-js]at U
 refine e1 (λbe=>Z X be (aP+1)=zC (gN 23 x.at_ [] false dw 0 .aV) 9/\aS X be aF bE aN (i+1)/\co X [aF] h j be (aP+1+1)) ⟨?_, ?_, ?_⟩ ?_
 ·exact zP
 ·exact dm.ad (zE) (zE)
 ·exact⟨Zo,λb aj bI=>by rw[<-dp.ad b aj bI];exact zE⟩
 clear dm ft dp fe h5 sB
 rintro sk ⟨WZ,LC,PF⟩
 have aaW:gU X sk .aV 1 [] []:= .inl (.inl ⟨rfl,rfl,rfl⟩)
 have tT:∀e∈([]:List Nat),aP+2<=e/\e<aP+1+1:=by simp
 have XW:dh X sk (uu (aP+2) (aP+1+1) []) [] []:= .nil
 have aoN:z.same 30 .aV .aV=true:=rfl
 have acQ:=av.go LC (by omega:j<=(aP+1+1)+12)
 rcases f0 U with ⟨D,bq,rfl⟩|⟨GZ,gg,bq,U⟩
 ·exact((ah n Zo).arrow sk _ _ _ acQ bq).mono zM (λaa S aq a=>a.of (co.s1 PF Zo) (λ_ a=>by cases a;rfl))
 refine((ah n Zo).arrow sk _ _ _ acQ bq).mono ?_ zL
 clear bq
 rintro v5 bY cw ⟨Kx,axz,rF,dW,gk,dF⟩
 cases rF
 have iU:=dF.le
 have pX:=(co.s1 PF (by omega:(aP+1+1)<=(aP+1+1)+12)).trans dF
 obtain⟨ut,rfl,oD,_⟩:=dW.ptr
 have oD:=oD.2
 have qE:Z X bY (aP+1)=zC (gN 23 x.at_ [] false dw 0 z.aV) 9:=by rw[dF.ad _ Zo Zx];exact WZ
 have kj:∀e,aP+2<=e->e<(aP+1+1)->Z X bY e=Z X sk e:=λe I M=>dF.ad e Zo Zx
 have oH:=aaW.ad (S:=bY) (λe F=>kj e (tT e F).1 (tT e F).2)
 have tX:=dh.ad (S:=bY) (λe F=>kj e F.1 F.2.1) _ _ XW
 clear kj
 refine dk (bS qE) gN.eq_1 ⟨?_⟩
 refine iY aoN ?_
 have jJ:kS X (bn X bY ((aP+1+1)+7) (zC [.ptr ut 0] 1)) 1 (.slice ((aP+1+1)+7) 0 1 1)=some (1,[.ptr ut 0]):=td (bv Zo) (pt _) rfl _
 obtain⟨Ji,ck,DU,j0,rR,qH,nJ⟩:=(oH.ad (S:=bn X bY ((aP+1+1)+7) (zC [.ptr ut 0] 1)) (λe F=>aK Zo (zy (tT e F).2))).append (j:=cw) Zd jJ rfl Zd rfl Zs Zo (λe F=>zy (tT e F).2)
 refine mc j0 ?_
 have et:∀e,e<cw->e∉([]:List Nat)->e≠(aP+1+1)+7->Z X ck e=Z X bY e:=λe I M ak=>by
  rw[nJ e Zo M,aK Zo ak]
 have ru:Z X ck (aP+1)=zC (gN 23 x.at_ [] false dw 0 z.aV) 9:=by
  rw[et _ Zo (λa=>zy (tT _ a)) Zo];exact qE
 obtain⟨qa,yS,aoO⟩:=kc.one rR
 refine cV ⟨?_⟩
 refine gm (sa ru Zo Zo qa yS) ?_
 have pZ:∀e∈DU,aP+2<=e/\e<cw+1:=by
  intro e F
  rcases qH e F with rfl|F
  ·omega
  ·have:=tT e F;omega
 have BM:dh X ck (uu (aP+2) (cw+1) DU) ([]++[GZ]) ([]++[.ptr ut 0]):=by
  refine dh.snoc (cm.ad (λe F=> ?_) _ _ dW) (dh.ad (λe F=> ?_) _ _ tX) (λe F=>⟨F.1,zy F.2.1,λf4=> ?_⟩) (λe F=>⟨⟨zy F.1,zy F.2,λf4=> ?_⟩,λoJ=>by have:=F.1;have:=oJ.2.1;omega⟩)
  ·have I:=F.1
   exact et e F.2 (λf4=>zy (tT e f4)) Zo
  ·have M:=F.2.1
   exact et e Zo F.2.2 Zo
  ·have M:=F.2.1
   rcases qH e f4 with rfl|f4
   ·omega
   ·exact F.2.2 f4
  ·have I:=F.1;have M:=F.2
   rcases qH e f4 with rfl|f4
   ·omega
   ·have:=tT e f4;omega
 have el:co X [aF] h j ck (cw+1):=⟨Zo,λb aj bI=>by
  rw[et b Zo (λB=>zy (tT _ B)) Zo];exact pX.ad b aj bI⟩
 have g8:=gk.ad (et aF Zo (λB=>zy (tT _ B)) Zo) (et bE Zo (λB=>zy (tT _ B)) Zo)
 clear tX dW gk dF pX qE oH jJ j0 nJ qH qa yS XW WZ aaW LC PF
 refine cV ⟨?_⟩
 refine e1 (λcC=>Z X cC (cw+1)=zC [.str [116,104,101,110]] 1/\Z X cC (aP+1)=zC (gN 23 x.at_ [] false dw 0 Ji) 9/\(∀e,e<cw+1->e≠aP+1->Z X cC e=Z X ck e)) ⟨bv Zo, ?_, ?_⟩ ?_
 ·exact zP
 ·intro e I M
  simp(disch:=omega) only[aK]
 clear ru
 rintro cC ⟨Bu,Hc,f5⟩
 have hj:=g8.ad (f5 aF Zo Zo) (f5 bE Zo Zo)
 have mB:=av.go hj (by omega:j<=cw+1+1)
 have eR:co X [aF] h j cC (cw+1+1):=⟨Zo,λb aj bI=>by rw[f5 b Zo Zo];exact el.ad b aj bI⟩
 rcases f0 U with ⟨D,eg,rfl⟩|⟨Td,nR,eg,U⟩
 ·exact(iZ aB mB Zo Zo Bu eg).mono zM (λaa S aq a=>a.of eR (λ_ a=>by cases a;rfl))
 refine(iZ aB mB Zo Zo Bu eg).mono ?_ zL
 clear eg
 rintro FZ oc s2 ⟨avQ,axx,BK,_,aaA,gD⟩
 cases BK
 have anG:=gD.le
 have PG:=eR.trans gD
 have Pg:Z X oc (aP+1)=zC (gN 23 x.at_ [] false dw 0 Ji) 9:=by rw[gD.ad _ Zo Zx];exact Hc
 have dY:∀e,aP+2<=e->e<cw+1->Z X oc e=Z X ck e:=λe I M=>by
  rw[gD.ad e Zo Zx,f5 e M Zo]
 have aaX:gU X oc Ji 1 ([]++[.ptr ut 0]) DU:= .inl (rR.ad (λe F=>dY e (pZ e F).1 (pZ e F).2))
 have XX:dh X oc (uu (aP+2) s2 DU) ([]++[GZ]) ([]++[.ptr ut 0]):=
  dh.lift (λe F=>⟨F.1,zy F.2.1,F.2.2⟩) _ _ (dh.ad (λe F=>dY e F.1 F.2.1) _ _ BM)
 have pZ:∀e∈DU,aP+2<=e/\e<s2:=λe F=>zy (pZ e F)
 clear BM rR g8 el hj mB eR gD Bu Hc f5 et dY
 refine dk (bS Pg) gN.eq_1 ⟨?_⟩
 have acR:=av.go aaA (by omega:j<=s2+12)
 rcases f0 U with ⟨D,bq,rfl⟩|⟨OO,gg,bq,U⟩
 ·exact((ah n Zo).arrow oc _ _ _ acR bq).mono zM (λaa S aq a=>a.of (co.s1 PG Zo) (λ_ a=>by cases a;rfl))
 refine((ah n Zo).arrow oc _ _ _ acR bq).mono ?_ zL
 clear bq
 rintro v5 bY cw ⟨Kx,axA,rF,dW,gk,dF⟩
 cases rF
 have iU:=dF.le
 have pX:=(co.s1 PG (by omega:s2<=s2+12)).trans dF
 obtain⟨AE,rfl,oD,_⟩:=dW.ptr
 have oD:=oD.2
 have qE:Z X bY (aP+1)=zC (gN 23 x.at_ [] false dw 0 Ji) 9:=by rw[dF.ad _ Zo Zx];exact Pg
 have kj:∀e,aP+2<=e->e<s2->Z X bY e=Z X oc e:=λe I M=>dF.ad e Zo Zx
 have oH:=aaX.ad (S:=bY) (λe F=>kj e (pZ e F).1 (pZ e F).2)
 have tX:=dh.ad (S:=bY) (λe F=>kj e F.1 F.2.1) _ _ XX
 clear kj
 refine dk (bS qE) gN.eq_1 ⟨?_⟩
 refine iY aoO ?_
 have jJ:kS X (bn X bY (s2+7) (zC [.ptr AE 0] 1)) 1 (.slice (s2+7) 0 1 1)=some (1,[.ptr AE 0]):=td (bv Zo) (pt _) rfl _
 obtain⟨CV,ck,DV,j0,rR,qH,nJ⟩:=(oH.ad (S:=bn X bY (s2+7) (zC [.ptr AE 0] 1)) (λe F=>aK Zo (zy (pZ e F).2))).append (j:=cw) Zd jJ rfl Zd rfl Zs Zo (λe F=>zy (pZ e F).2)
 refine mc j0 ?_
 have et:∀e,e<cw->e∉DU->e≠s2+7->Z X ck e=Z X bY e:=λe I M ak=>by
  rw[nJ e Zo M,aK Zo ak]
 have ru:Z X ck (aP+1)=zC (gN 23 x.at_ [] false dw 0 Ji) 9:=by
  rw[et _ Zo (λa=>zy (pZ _ a)) Zo];exact qE
 obtain⟨qa,yS,aoP⟩:=kc.one rR
 refine cV ⟨?_⟩
 refine gm (sa ru Zo Zo qa yS) ?_
 have p0:∀e∈DV,aP+2<=e/\e<cw+1:=by
  intro e F
  rcases qH e F with rfl|F
  ·omega
  ·have:=pZ e F;omega
 have BM:dh X ck (uu (aP+2) (cw+1) DV) (([]++[GZ])++[OO]) (([]++[.ptr ut 0])++[.ptr AE 0]):=by
  refine dh.snoc (cm.ad (λe F=> ?_) _ _ dW) (dh.ad (λe F=> ?_) _ _ tX) (λe F=>⟨F.1,zy F.2.1,λf4=> ?_⟩) (λe F=>⟨⟨zy F.1,zy F.2,λf4=> ?_⟩,λoJ=>by have:=F.1;have:=oJ.2.1;omega⟩)
  ·have I:=F.1
   exact et e F.2 (λf4=>zy (pZ e f4)) Zo
  ·have M:=F.2.1
   exact et e Zo F.2.2 Zo
  ·have M:=F.2.1
   rcases qH e f4 with rfl|f4
   ·omega
   ·exact F.2.2 f4
  ·have I:=F.1;have M:=F.2
   rcases qH e f4 with rfl|f4
   ·omega
   ·have:=pZ e f4;omega
 have el:co X [aF] h j ck (cw+1):=⟨Zo,λb aj bI=>by
  rw[et b Zo (λB=>zy (pZ _ B)) Zo];exact pX.ad b aj bI⟩
 have g8:=gk.ad (et aF Zo (λB=>zy (pZ _ B)) Zo) (et bE Zo (λB=>zy (pZ _ B)) Zo)
 clear tX dW gk dF pX qE oH jJ j0 nJ qH qa yS XX Pg aaX aaA PG
 refine cV ⟨?_⟩
 refine e1 (λcC=>Z X cC (cw+1)=zC [.str [101,108,115,101]] 1/\Z X cC (aP+1)=zC (gN 23 x.at_ [] false dw 0 CV) 9/\(∀e,e<cw+1->e≠aP+1->Z X cC e=Z X ck e)) ⟨bv Zo, ?_, ?_⟩ ?_
 ·exact zP
 ·intro e I M
  simp(disch:=omega) only[aK]
 clear ru
 rintro cC ⟨Bu,Hc,f5⟩
 have hj:=g8.ad (f5 aF Zo Zo) (f5 bE Zo Zo)
 have mB:=av.go hj (by omega:j<=cw+1+1)
 have eR:co X [aF] h j cC (cw+1+1):=⟨Zo,λb aj bI=>by rw[f5 b Zo Zo];exact el.ad b aj bI⟩
 rcases f0 U with ⟨D,eg,rfl⟩|⟨Td,nR,eg,U⟩
 ·exact(iZ aB mB Zo Zo Bu eg).mono zM (λaa S aq a=>a.of eR (λ_ a=>by cases a;rfl))
 refine(iZ aB mB Zo Zo Bu eg).mono ?_ zL
 clear eg
 rintro FZ x8 vI ⟨avQ,axy,BK,_,aaB,gD⟩
 cases BK
 have awM:=gD.le
 have PH:=eR.trans gD
 have Ph:Z X x8 (aP+1)=zC (gN 23 x.at_ [] false dw 0 CV) 9:=by rw[gD.ad _ Zo Zx];exact Hc
 have dY:∀e,aP+2<=e->e<cw+1->Z X x8 e=Z X ck e:=λe I M=>by
  rw[gD.ad e Zo Zx,f5 e M Zo]
 have aaY:gU X x8 CV 1 (([]++[.ptr ut 0])++[.ptr AE 0]) DV:= .inl (rR.ad (λe F=>dY e (p0 e F).1 (p0 e F).2))
 have XY:dh X x8 (uu (aP+2) vI DV) (([]++[GZ])++[OO]) (([]++[.ptr ut 0])++[.ptr AE 0]):=
  dh.lift (λe F=>⟨F.1,zy F.2.1,F.2.2⟩) _ _ (dh.ad (λe F=>dY e F.1 F.2.1) _ _ BM)
 have p0:∀e∈DV,aP+2<=e/\e<vI:=λe F=>zy (p0 e F)
 clear BM rR g8 el hj mB eR gD Bu Hc f5 et dY
 refine dk (bS Ph) gN.eq_1 ⟨?_⟩
 have acS:=av.go aaB (by omega:j<=vI+12)
 rcases f0 U with ⟨D,bq,rfl⟩|⟨ajN,gg,bq,U⟩
 ·exact((ah n Zo).arrow x8 _ _ _ acS bq).mono zM (λaa S aq a=>a.of (co.s1 PH Zo) (λ_ a=>by cases a;rfl))
 refine((ah n Zo).arrow x8 _ _ _ acS bq).mono ?_ zL
 clear bq
 rintro v5 bY cw ⟨Kx,apx,rF,dW,gk,dF⟩
 cases rF
 have iU:=dF.le
 have pX:=(co.s1 PH (by omega:vI<=vI+12)).trans dF
 obtain⟨I9,rfl,oD,_⟩:=dW.ptr
 have oD:=oD.2
 have qE:Z X bY (aP+1)=zC (gN 23 x.at_ [] false dw 0 CV) 9:=by rw[dF.ad _ Zo Zx];exact Ph
 have kj:∀e,aP+2<=e->e<vI->Z X bY e=Z X x8 e:=λe I M=>dF.ad e Zo Zx
 have oH:=aaY.ad (S:=bY) (λe F=>kj e (p0 e F).1 (p0 e F).2)
 have tX:=dh.ad (S:=bY) (λe F=>kj e F.1 F.2.1) _ _ XY
 clear kj
 refine dk (bS qE) gN.eq_1 ⟨?_⟩
 refine iY aoP ?_
 have jJ:kS X (bn X bY (vI+7) (zC [.ptr I9 0] 1)) 1 (.slice (vI+7) 0 1 1)=some (1,[.ptr I9 0]):=td (bv Zo) (pt _) rfl _
 obtain⟨Sw,ck,Oa,j0,rR,qH,nJ⟩:=(oH.ad (S:=bn X bY (vI+7) (zC [.ptr I9 0] 1)) (λe F=>aK Zo (zy (p0 e F).2))).append (j:=cw) Zd jJ rfl Zd rfl Zs Zo (λe F=>zy (p0 e F).2)
 refine mc j0 ?_
 have et:∀e,e<cw->e∉DV->e≠vI+7->Z X ck e=Z X bY e:=λe I M ak=>by
  rw[nJ e Zo M,aK Zo ak]
 have ru:Z X ck (aP+1)=zC (gN 23 x.at_ [] false dw 0 CV) 9:=by
  rw[et _ Zo (λa=>zy (p0 _ a)) Zo];exact qE
 obtain⟨qa,yS,axk⟩:=kc.one rR
 refine cV ⟨?_⟩
 refine gm (sa ru Zo Zo qa yS) ?_
 have XH:∀e∈Oa,aP+2<=e/\e<cw+1:=by
  intro e F
  rcases qH e F with rfl|F
  ·omega
  ·have:=p0 e F;omega
 have BM:dh X ck (uu (aP+2) (cw+1) Oa) (([]++[GZ]++[OO])++[ajN]) (([]++[.ptr ut 0]++[.ptr AE 0])++[.ptr I9 0]):=by
  refine dh.snoc (cm.ad (λe F=> ?_) _ _ dW) (dh.ad (λe F=> ?_) _ _ tX) (λe F=>⟨F.1,zy F.2.1,λf4=> ?_⟩) (λe F=>⟨⟨zy F.1,zy F.2,λf4=> ?_⟩,λoJ=>by have:=F.1;have:=oJ.2.1;omega⟩)
  ·have I:=F.1
   exact et e F.2 (λf4=>zy (p0 e f4)) Zo
  ·have M:=F.2.1
   exact et e Zo F.2.2 Zo
  ·have M:=F.2.1
   rcases qH e f4 with rfl|f4
   ·omega
   ·exact F.2.2 f4
  ·have I:=F.1;have M:=F.2
   rcases qH e f4 with rfl|f4
   ·omega
   ·have:=p0 e f4;omega
 have el:co X [aF] h j ck (cw+1):=⟨Zo,λb aj bI=>by
  rw[et b Zo (λB=>zy (p0 _ B)) Zo];exact pX.ad b aj bI⟩
 have g8:=gk.ad (et aF Zo (λB=>zy (p0 _ B)) Zo) (et bE Zo (λB=>zy (p0 _ B)) Zo)
 clear tX dW gk dF pX qE oH jJ j0 nJ qH qa yS XY Ph aaY aaB PH
 simp only[ok,Ze]at U
 subst U
 have gf:∀e,e≠aP+1->Z X (bn X ck (aP+1) (some (.cells ((R.ofList (gN 23 x.at_ [] false dw 0 CV) 0 .nil).set 8 (some Sw)) 9 .own))) e=Z X ck e:=λe a=>aK Zo a
 obtain⟨cD,cW⟩:=(gU.ad (S:=bn X ck (aP+1) (some (.cells ((R.ofList (gN 23 x.at_ [] false dw 0 CV) 0 .nil).set 8 (some Sw)) 9 .own))) (.inl rR) (λe F=>gf e (zy (XH e F)))).MP (P:=λe=>ec (aP+2) (cw+1) e/\e∈Oa) Zs (λe F=>⟨by have:=XH e F;exact⟨Zo,Zo⟩,F⟩)
 refine bB _ _ _ ⟨.ptr (aP+1) 0,bC,_,apx,rfl,cm.of (b:=aP+1) (m:=9) (st:= .own) (cD:=cD) (bf:=Sw) (kind:=23) (at_:=x.at_) (name:=[]) (no:=false) (ty:=dw) (n:=0) (bj:=[.ptr ut 0, .ptr AE 0, .ptr I9 0]) ?_ ⟨Zo,Zo⟩ (cW.lift (λe F=>⟨zy F.1.1,F.1.2⟩)) (λ_=> ?_) ?_, ?_, ?_⟩
 ·rw[bv Zo];rfl
 ·have:=(cW.aj Zs).1.1
  omega
 ·exact dh.lift (λe F=>⟨⟨zy F.1.1,zy F.1.2⟩,zy F.1.1,F.2⟩) _ _ (dh.off (dh.ad (λe F=>gf e (zy F.1)) _ _ BM) cW)
 ·exact g8.ad (gf _ Zo) (gf _ Zo)
 ·exact⟨el.le,λb aj bI=>by rw[gf b Zo];exact el.ad b aj bI⟩
end
section
variable{X:cn}{h S a1 aT:R ag}{j aq aP bk aF bE:Nat}{aN:List Tok}{i:Nat}
def asB(aB:dR X){n:Nat}(rK:n<=300000)(ah:∀m,m<n->qu X aF bE aN m):∀h j i r,h1 X h j aF bE aN i->Go.aS.part n (aN.drop i)=some r->a7 X 133 [.ptr aF 0] h j (jm X aF bE aN h j r) (ii X aF h j r):=by
 intro h j i r av U
 cases n with
 |zero=>simp[Go.aS.part]at U
 |succ n=>
 cases aI:aN.drop i with
 |nil=>rw[aI]at U;simp[Go.aS.part]at U
 |cons x k=>
 rw[aI]at U
 by_cases eJ:x.kind=5
 ·exact asy aB av aI eJ U
 by_cases bM:x.kind=1
 ·exact asA aB ah av aI Zo bM U
 by_cases df:x.kind=3
 ·exact asD aB ah av aI df U
 by_cases et:x.kind=6
 ·by_cases aZ:x.text=[40]
  ·exact asC aB ah av aI et aZ U
  ·exact R7 aB av aI eJ bM df (λ_=>aZ) (λa=>Zo) U
 by_cases cq:x.kind=2
 ·by_cases I:x.text=[116,114,117,101]
  ·exact acI aB av aI cq (.inl I) U
  by_cases M:x.text=[102,97,108,115,101]
  ·exact acI aB av aI cq (.inr M) U
  by_cases ak:x.text=[105,102]
  ·exact asx aB ah av aI cq ak U
  by_cases aA:x.text=[109,101,114,103,101]
  ·exact asz aB ah av aI cq aA U
  ·exact R7 aB av aI eJ bM df (λa=>Zo) (λ_=>⟨I,M,ak,aA⟩) U
 ·exact R7 aB av aI eJ bM df (λa=>Zo) (λa=>absurd a cq) U
def Vs(aB:dR X)(eo:uI X):∀n,n<=300000->qu X aF bE aN n:=by
 intro n
 induction n using Nat.strongRecOn with
 |ind n ah=>
  intro aL
  have ah:∀m,m<n->qu X aF bE aN m:=λm aX=>ah m aX Zo
  exact⟨aqF aB eo ah,auc aB ah,asO aB ah,asB aB aL ah,aku aB ah,aim aB ah,aqR aB aL ah⟩
end
def E7(n:Int):z:= .Z n
def tq(X:cn)(h:R ag)(hl aE:Nat)(left:List bc)(cS:List Int):Prop:=hl<aE/\(q X).a6<=hl/\∃c bf kq yh so,Z X h hl=some (.cells c 4 .own)/\c.get 0=some bf/\c.get 1=some kq/\gU X h bf 1 (left.map .str) yh/\gU X h kq 1 (cS.map E7) so
 /\(∀e∈yh,hl<e/\e<aE/\e∉so)/\∀e∈so,hl<e/\e<aE
def tq.ad{X:cn}{h S:R ag}{hl aE j2:Nat}{left:List bc}{cS:List Int}(a:tq X h hl aE left cS)(o:∀e,hl<=e->e<aE->Z X S e=Z X h e)(gd:aE<=j2):tq X S hl j2 left cS:=by
 obtain⟨a2,Bw,c,bf,kq,yh,so,I,M,ak,aA,bq,bV,c2⟩:=a
 exact⟨Zo,Bw,c,bf,kq,yh,so,by rw[o hl Zo a2];exact I,M,ak,aA.ad (λe F=>o e (zy (bV e F)) (bV e F).2.1),bq.ad (λe F=>o e (zy (c2 e F)) (c2 e F).2),
  λe F=>by have:=bV e F;exact⟨this.1,Zo,this.2.2⟩,λe F=>zy (c2 e F)⟩
def gU.one{C:aM}{h:R ag}{s:z}{aO:Nat}{k:List z}{cR:List Nat}(a:gU C h s aO k cR):s.cells=[s]/\nV s=true/\z.same 30 s s=true:=by
 rcases a with a|⟨b,n,c,st,rfl,_⟩
 ·exact kc.one a
 ·exact⟨rfl,rfl,by simp[z.same]⟩
section
variable{X:cn}{h S a1 aT:R ag}{j aq aP bk aF bE:Nat}{aN:List Tok}{i:Nat}
def RW(aB:dR X)(av:h1 X h j aF bE aN i){oV hl:Nat}(LF:oV<hl)(axb:oV≠aF)(amF:aF<hl)(amG:bE<hl)(aon:aR X h (.ptr oV 0)=some (.ptr aF 0)){left:List bc}{cS:List Int}(bJ:tq X h hl j left cS)(aX:left.length<=1000000)(p8:cS.length<=300000){x:Tok}{k:List Tok}(aI:aN.drop i=x::k):
 a7 X 88 [.ptr oV 0, .ptr hl 0] h j (λaa S aq=>x.kind=1/\aa= .tuple []/\tq X S hl aq (left++[x.text]) (cS++[x.at_])/\aS X S aF bE aN (i+1)/\j<=aq/\co X [aF] h hl S aq)
  (λaa S aq=>x.kind≠1/\aa=wG 21 x.at_/\co X [aF] h j S aq):=by
 refine zF aB (ahc X) ?_
 rw[ahd]
 unfold UU
 have gu:=av.a6
 have jG:=av.g0
 have hz:=av.ci
 have jc:=av.gG
 refine cr @aon ⟨?_⟩
 refine(As aB av.a6 av.par av.ci av.g0 av.gG av.many (fo aI).1 1).mono ?_ (λaa S aq a=>a)
 rintro aa a1 aP ⟨aG,rfl,dZ,hK⟩
 have ju:=hK.le
 have iG:=bJ.ad (S:=a1) (j2:=aP) (λe I M=>hK.ad e M Zx) ju
 have aaH:=bJ.1
 clear bJ
 obtain⟨a2,Bw,c,bf,kq,yh,so,cb,b5,cG,er,eV,d3,eA⟩:=iG
 obtain⟨gH,l9,s5⟩:=gU.one er
 obtain⟨Fx,Ap,r2⟩:=gU.one eV
 refine hT bW.eq_1 (bS cb) @b5 @cG ⟨?_⟩
 have jJ:∀gb,Z X gb (aP+1+4)=zC [.str x.text] 1->kS X gb 1 (.slice (aP+1+4) 0 1 1)=some (1,[.str x.text]):=λgb a=>td a (pt _) rfl _
 have aoW:∀gb,Z X gb (aP+1+10)=zC [.Z x.at_] 1->kS X gb 1 (.slice (aP+1+10) 0 1 1)=some (1,[.Z x.at_]):=λgb a=>td a (pt _) rfl _
 generalize gt:bn X _ (aP+1+10) _=be
 have df:∀e,e<aP->Z X be e=Z X a1 e:=λe F=>by rw[<-gt];exact zE
 have t3:Z X be aP=zC (bW x) 7:=by rw[<-gt];exact zP
 have eN:Z X be (aP+1+4)=zC [.str x.text] 1:=by rw[<-gt];exact zP
 have f3:Z X be (aP+1+10)=zC [.Z x.at_] 1:=by rw[<-gt];exact zP
 clear gt
 obtain⟨eP,bU,VG,j0,rQ,tS,f2⟩:=(er.ad (S:=be) (λe F=>df e (d3 e F).2.1)).append (j:=aP+1+16) Zd (jJ be eN) rfl Zd rfl Zx Zo (λe F=>zy (d3 e F).2.1)
 refine mc j0 ?_
 have fx:Z X bU hl=some (.cells c 4 .own):=by rw[f2 _ Zo (λa=>zy (d3 _ a).1),df _ a2];exact cb
 have t4:Z X bU aP=zC (bW x) 7:=by rw[f2 _ Zo (λa=>zy (d3 _ a).2.1)];exact t3
 have om:Z X bU (aP+1+10)=zC [.Z x.at_] 1:=by rw[f2 _ Zo (λa=>zy (d3 _ a).2.1)];exact f3
 refine dk (bS fx) @cG ⟨?_⟩
 refine iY r2 ?_
 refine dk (bS t4) bW.eq_1 ⟨?_⟩
 refine iY (oY _ _) ?_
 have ak4:gU X bU kq 1 (cS.map E7) so:=eV.ad (λe F=>by
  rw[f2 e (zy (eA e F)) (λa=>(d3 e a).2.2 F)]
  exact df e (eA e F).2)
 obtain⟨Sx,bY,N9,amv,oH,PU,oz⟩:=ak4.append (j:=aP+1+16+1) Zd (aoW bU om) rfl Zd rfl Zx Zo (λe F=>zy (eA e F).2)
 refine mc amv ?_
 obtain⟨fg,hc,vM⟩:=kc.one rQ
 obtain⟨I2,asm,axV⟩:=kc.one oH
 have lQ:Z X bY hl=some (.cells c 4 .own):=by rw[oz _ Zo (λa=>zy (eA _ a).1)];exact fx
 refine gm (sa lQ Zo Zo fg hc) ?_
 refine cV ⟨?_⟩
 refine gm (sa (bv Zo) Zo Zo I2 asm) ?_
 have abt:∀e∈VG,hl<e/\e<aP+1+16+1+1/\e∉N9:=by
  intro e F
  rcases tS e F with rfl|F
  ·refine⟨Zo,Zo,λa=> ?_⟩
   rcases PU _ a with a|a
   ·omega
   ·have:=eA _ a;omega
  ·obtain⟨bm,ct,a3⟩:=d3 e F
   refine⟨Zo,Zo,λa=> ?_⟩
   rcases PU _ a with a|a
   ·omega
   ·exact a3 a
 have abu:∀e∈N9,hl<e/\e<aP+1+16+1+1:=by
  intro e F
  rcases PU e F with rfl|F
  ·omega
  ·have:=eA e F;omega
 have f5:∀gb,gb=bn X (bn X bY hl (some (.cells (c.set 0 (some eP)) 4 .own))) hl (some (.cells ((c.set 0 (some eP)).set 1 (some Sx)) 4 .own))->∀e,e≠hl->Z X gb e=Z X bY e:=by
  rintro gb rfl e F
  rw[aK Zo F,aK Zo F]
 refine⟨aG,rfl,⟨Zo,Bw,(c.set 0 (some eP)).set 1 (some Sx),eP,Sx,VG,N9,bv Zo, ?_, ?_, ?_, ?_,abt,abu⟩, ?_,Zo,Zo,λb aj bI=> ?_⟩
 ·rw[R.jF,Zg Zd,R.jF,Zp rfl]
 ·rw[R.jF,Zp rfl]
 ·rw[Yw]
  refine .inl (rQ.ad λe F=> ?_)
  have:=abt e F
  rw[f5 _ rfl e Zo,oz e (by rcases tS e F with rfl|a;omega;have:=d3 e a;omega) (λa=> ?_)]
  rcases tS e F with rfl|cu
  ·have:=eA _ a;omega
  ·exact(d3 e cu).2.2 a
 ·rw[Yw]
  exact .inl (oH.ad λe F=>f5 _ rfl e (zy (abu e F)))
 ·have ia:∀e,e<hl->Z X bY e=Z X a1 e:=λe F=>by
   rw[oz e Zo (λa=>zy (eA _ a)),f2 e Zo (λa=>zy (d3 _ a)),df e Zo]
  exact dZ.ad (by rw[f5 _ rfl _ Zo,ia _ amF]) (by rw[f5 _ rfl _ Zo,ia _ amG])
 ·rw[f5 _ rfl _ Zo,oz b Zo (λa=>zy (eA _ a)),f2 b Zo (λa=>zy (d3 _ a)),df b Zo]
  exact hK.ad b Zo bI
end
end
end Go.Proofs.YtbbkkkpgjaopkaaGreatDoor

