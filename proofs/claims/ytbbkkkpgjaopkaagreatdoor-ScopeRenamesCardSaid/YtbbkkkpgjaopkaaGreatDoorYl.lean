/- Part of the proof of the last text; no conditions -/
import Derived.Test.YtbbkkkpgjaopkaaGreatDoorYk
set_option maxHeartbeats 8000000
set_option linter.all false
namespace Go.Proofs.YtbbkkkpgjaopkaaGreatDoor
open Go.bp Go.aS
noncomputable section
def xY(X:cn)(h:R ag)(P:Nat->Prop)(al:eL)(row:List z):Prop:=∃bf kq b0 cy hF,row=[bf,kq, .Z al.at_,hF]/\ee X h P b0 bf 1 (g3 al.left)/\(ee X h P cy kq 1 (al.cS.map λn=>[E7 n])/\cm X h (λe=>P e/\(al.cS≠[]->e≠cy)) al.right hF)/\cm X h P al.right hF/\iI row=true
def xY.ad{X:cn}{h S:R ag}{P bh:Nat->Prop}{al:eL}{row:List z}(a:xY X h P al row)(o:∀e,P e->Z X S e=Z X h e)(az:∀e,P e->bh e):xY X S bh al row:=by
 obtain⟨bf,kq,b0,cy,hF,I,M,ak,aA,bq⟩:=a
 exact⟨bf,kq,b0,cy,hF,I,(M.ad o).lift az,⟨(ak.1.ad o).lift az,cm.lift (λe F=>⟨az e F.1,F.2⟩) _ _ (cm.ad (λe F=>o e F.1) _ _ ak.2)⟩,cm.lift az _ _ (cm.ad o _ _ aA),bq⟩
def tl(X:cn)(h:R ag)(P:Nat->Prop)(al:eL)(row:List z):Prop:=∃(ai:Nat->Nat) (bf kq:z) (b0 cy:Nat) (hF:z),row=[bf,kq, .Z al.at_,hF]/\gL X h (λe=>P e/\ai e=1) b0 bf 1 (g3 al.left)/\ee X h (λe=>P e/\ai e=2) cy kq 1 (al.cS.map λn=>[E7 n])/\cm X h (λe=>P e/\ai e=0) al.right hF/\iI row=true
def tl.ad{X:cn}{h S:R ag}{P bh:Nat->Prop}{al:eL}{row:List z}(a:tl X h P al row)(o:∀e,P e->Z X S e=Z X h e)(az:∀e,P e->bh e):tl X S bh al row:=by
 obtain⟨ai,bf,kq,b0,cy,hF,I,M,ak,aA,bq⟩:=a
 exact⟨ai,bf,kq,b0,cy,hF,I,(M.ad λe F=>o e F.1).lift λe F=>⟨az e F.1,F.2⟩,(ak.ad λe F=>o e F.1).lift λe F=>⟨az e F.1,F.2⟩,cm.lift (λe F=>⟨az e F.1,F.2⟩) _ _ (cm.ad (λe F=>o e F.1) _ _ aA),bq⟩
def tl.row{X:cn}{h:R ag}{P:Nat->Prop}{al:eL}{row:List z}(a:tl X h P al row):xY X h P al row:=by
 obtain⟨ai,bf,kq,b0,cy,hF,I,M,ak,aA,bq⟩:=a
 exact⟨bf,kq,b0,cy,hF,I,M.rd.lift λe F=>F.1,⟨ak.lift λe F=>F.1,cm.lift (λe F=>⟨F.1,λc5 B=>by have:=(ak.aj (by simpa using c5)).2;rw[<-B,F.2]at this;cases this⟩) _ _ aA⟩,cm.lift (λe F=>F.1) _ _ aA,bq⟩
section
variable{X:cn}{h S a1 aT:R ag}{j aq aP bk aF bE:Nat}{aN:List Tok}{i:Nat}
def akb(aB:dR X)(eo:uI X){n:Nat}(rK:n<=200000)(av:h1 X h j aF bE aN i){r:Except Int (eL×List Tok)}(U:tC n (aN.drop i)=some r):
 a7 X 63 [.ptr aF 0] h j (λaa S aq=>∃al cp row,r= .ok (al,aN.drop cp)/\aa= .agg row/\tl X S (ec j aq) al row/\aS X S aF bE aN cp/\co X [aF] h j S aq) (ii X aF h j r):=by
 refine zF aB (ags X) ?_
 rw[agt]
 unfold Uu
 have gu:=av.a6
 have jG:=av.g0
 have hz:=av.ci
 have jc:=av.gG
 unfold tC at U
 obtain⟨x,b6,aI,af⟩:=qq U
 refine cV ⟨?_⟩
 refine e1 (λa1=>aR X a1 (.ptr j 0)=some (.ptr aF 0)/\Z X a1 (j+1)=zC [.aV, .aV, .Z 0, .cM] 4/\tq X a1 (j+2) (j+1+1+1) [] []/\aS X a1 aF bE aN i/\bD X h j a1 (j+1+1+1)) ⟨?_, ?_, ?_, ?_, ?_⟩ ?_
 ·exact bC
 ·exact zP
 ·exact⟨Zo,Zo,_, .aV, .aV,[],[],bv Zo,rfl,rfl, .inl (.inl ⟨rfl,rfl,rfl⟩), .inl (.inl ⟨rfl,rfl,rfl⟩),Zs,Zs⟩
 ·exact av.par.ad (zE) (zE)
 ·exact dL
 rintro a1 ⟨e9,pW,iG,dZ,b4⟩
 have ma:=av.go dZ (by omega:j<=j+1+1+1)
 refine(nl aB ma aI _).Zm ?_
 rintro FW aT bk ⟨rfl,dm,dp⟩
 have gP:=dp.le
 have u9:=(co.of (X:=[aF]) b4).trans dp
 refine rs bW.eq_1 ⟨?_⟩
 refine jK (λH S aQ=>∃(b9:List Tok) (cp:Nat),H.g 1=some (.ptr j 0)/\H.g 2=some (.ptr (j+1) 0)/\H.g 3=some (.ptr (j+2) 0)/\tq X S (j+2) aQ (b9.map Tok.text) (b9.map Tok.at_)/\aS X S aF bE aN cp/\j+2<aQ/\co X [aF] h j S aQ/\aR X S (.ptr j 0)=some (.ptr aF 0)/\Z X S (j+1)=zC [.aV, .aV, .Z 0, .cM] 4/\b9.length<=300000/\
  (andThen (ed [61] (aN.drop cp)) λB k=>andThen (arrow n k) λr k=>andThen (ed [59] k) λ_ k=>ok (⟨b9.map Tok.text,b9.map Tok.at_,B.at_,r⟩:eL) k)=some r) (λW bB=> ?_) ?_
 ·
  have El:aR X aT (.ptr j 0)=some (.ptr aF 0):=by rw[dp.fA _ _ Zo Zx];exact e9
  have tJ:Z X aT (j+1)=zC [.aV, .aV, .Z 0, .cM] 4:=by rw[dp.ad _ Zo Zx];exact pW
  have m8:=iG.ad (S:=aT) (j2:=bk) (λe I M=>dp.ad e M Zx) gP
  rcases af with ⟨aD,U⟩|⟨aD,U⟩
  ·rw[aD]at dm ⊢
   simp only[ZE]at dm ⊢
   rw[<-(fo aI).2]at U
   simp only[]at U
   refine cr bW.eq_1 ⟨?_⟩
   simp only[YQ,Z4]
   refine e1 (λbe=>aR X be (.ptr j 0)=some (.ptr aF 0)/\Z X be (j+1)=zC [.aV, .aV, .Z 0, .cM] 4/\tq X be (j+2) (bk+1) [] []/\aS X be aF bE aN (i+1)/\co X [aF] h j be (bk+1)) ⟨?_, ?_, ?_, ?_, ?_⟩ ?_
   ·exact Pc @El
   ·simp(disch:=omega) only[aK];exact tJ
   ·exact m8.ad (λe I M=>zE) Zo
   ·exact dm.ad (zE) (zE)
   ·exact⟨Zo,λb aj bI=>by rw[<-u9.ad b aj bI];exact zE⟩
   clear El tJ m8 dm u9 dp b4 dZ iG pW e9 ma
   rintro be ⟨tK,sC,qc,ge,en⟩
   have mA:=av.go ge (by omega:j<=bk+1)
   cases sI:aN.drop (i+1)with
   |nil=>rw[sI]at U;simp[ib,andThen]at U
   |cons e eT=>
   rw[sI]at U
   simp only[ib]at U
   refine(RW aB mA Zo Zo Zo Zo tK qc Zs Zs sI).mono ?_ ?_
   ·rintro FX bU cP ⟨f2,rfl,rN,gW,je,es⟩
    rw[Zp f2]at U
    simp only[andThen,ok]at U
    rw[<-(fo sI).2]at U
    have He:aR X bU (.ptr j 0)=some (.ptr aF 0):=by rw[es.fA _ _ Zo Zx];exact tK
    have wL:Z X bU (j+1)=zC [.aV, .aV, .Z 0, .cM] 4:=by rw[es.ad _ Zo Zx];exact sC
    have Xt:co X [aF] h j bU cP:=⟨Zo,λb aj bI=>by rw[es.ad b Zo bI];exact en.ad b aj bI⟩
    refine cr @He ⟨?_⟩
    refine e1 (λbY=>Z X bY cP=zC [.str [44]] 1/\bD X bU cP bY (cP+1)) ⟨bv Zo,dL⟩ ?_
    rintro bY ⟨Xf,dW⟩
    have nX:=av.go (gW.ex dW Zo Zo) (by omega:j<=cP+1)
    have dF:=Xt.trans (co.of dW)
    have abh:=U
    cases bQ:ed [44] (aN.drop (i+1+1))with
    |none=>rw[bQ]at U;cases U
    |some xF=>
    rw[bQ]at U
    refine(iZ aB nX Zo Zo Xf bQ).mono ?_ ?_
    ·rintro xO ck dB ⟨F0,hB,rfl,_,g8,el⟩
     have qL:=el.le
     simp only[]at U
     have Hf:aR X ck (.ptr j 0)=some (.ptr aF 0):=by rw[el.fA _ _ Zo Zx,dW.fA _ _ Zo];exact He
     have yB:Z X ck (j+1)=zC [.aV, .aV, .Z 0, .cM] 4:=by rw[el.ad _ Zo Zx,dW.ad _ Zo];exact wL
     have Ib:=rN.ad (S:=ck) (j2:=dB) (λe I M=>by rw[el.ad e Zo Zx,dW.ad e M]) Zo
     have tM:=dF.trans el
     clear He wL rN gW es Xt dF dW Xf nX el
     refine jK (λH S aQ=>∃(b9:List Tok) (cp:Nat),H.g 1=some (.ptr j 0)/\H.g 2=some (.ptr (j+1) 0)/\H.g 3=some (.ptr (j+2) 0)/\tq X S (j+2) aQ (b9.map Tok.text) (b9.map Tok.at_)/\aS X S aF bE aN cp/\j+2<aQ/\co X [aF] h j S aQ/\aR X S (.ptr j 0)=some (.ptr aF 0)/\Z X S (j+1)=zC [.aV, .aV, .Z 0, .cM] 4/\b9.length<=300000/\
      (andThen (andThen (ed [41] (aN.drop cp)) λ_ k=>ok b9 k) λb9 k=>andThen (ed [61] k) λB k=>andThen (arrow n k) λr k=>andThen (ed [59] k) λ_ k=>ok (⟨b9.map Tok.text,b9.map Tok.at_,B.at_,r⟩:eL) k)=some r) (λaxD HU=> ?_) ?_
     ·refine f6 (λm H S aQ=>∃(b9:List Tok) (cp:Nat) (b:Bool),H.g 1=some (.ptr j 0)/\H.g 2=some (.ptr (j+1) 0)/\H.g 3=some (.ptr (j+2) 0)/\H.g 4=some (.func (.func 88) [] [.ptr j 0, .ptr (j+2) 0])/\H.g 7=some (.bool b)/\tq X S (j+2) aQ (b9.map Tok.text) (b9.map Tok.at_)/\aS X S aF bE aN cp/\j+2<aQ/\co X [aF] h j S aQ/\aR X S (.ptr j 0)=some (.ptr aF 0)/\Z X S (j+1)=zC [.aV, .aV, .Z 0, .cM] 4/\b9.length+m<=n+5/\
       (b=true->(andThen (andThen (qS m b9 (aN.drop cp)) λb9 k=>andThen (ed [41] k) λ_ k=>ok b9 k) λb9 k=>andThen (ed [61] k) λB k=>andThen (arrow n k) λr k=>andThen (ed [59] k) λ_ k=>ok (⟨b9.map Tok.text,b9.map Tok.at_,B.at_,r⟩:eL) k)=some r)/\
       (b=false->(andThen (andThen (ed [41] (aN.drop cp)) λ_ k=>ok b9 k) λb9 k=>andThen (ed [61] k) λB k=>andThen (arrow n k) λr k=>andThen (ed [59] k) λ_ k=>ok (⟨b9.map Tok.text,b9.map Tok.at_,B.at_,r⟩:eL) k)=some r))
       n ⟨[e],hB,true,bC,bC,bC,bC,bC,Ib,g8,Zo,tM,Hf,yB,Zx,λ_=>U,λa=>(by cases a)⟩ ?_
      clear Hf yB Ib g8 tM U abh bQ
      rintro m H cC e6 ⟨b9,oK,b,t1,eY,t3,t4,gT,vs,hj,Qp,eR,u6,wM,aX,F,m7⟩
      refine rs @gT ⟨?_⟩
      refine gQ ?_
      cases b with
      |false=>
       refine uP ?_
       exact HU _ _ _ ⟨b9,oK,aY t1,aY eY,aY t3,vs,hj,Qp,eR,u6,wM,Zo,m7 rfl⟩
      |true=>
       have U:=F rfl
       cases m with
       |zero=>simp[qS,andThen]at U
       |succ m=>
       unfold qS at U
       refine uQ ?_
       have mB:=av.go hj (by omega:j<=e6)
       refine cr @t4 ⟨?_⟩
       simp only[YQ,Z4]
       cases rE:aN.drop oK with
       |nil=>rw[rE]at U;simp[ib,andThen]at U
       |cons br lJ=>
       rw[rE]at U
       simp only[ib]at U
       refine(RW aB mB Zo Zo Zo Zo u6 vs Zx Zx rE).mono ?_ ?_
       ·rintro u8 dS hs ⟨vn,rfl,LG,vq,yP,gD⟩
        rw[Zp vn]at U
        simp only[andThen,ok]at U
        rw[<-(fo rE).2]at U
        have Xg:aR X dS (.ptr j 0)=some (.ptr aF 0):=by rw[gD.fA _ _ Zo Zx];exact u6
        have KS:Z X dS (j+1)=zC [.aV, .aV, .Z 0, .cM] 4:=by rw[gD.ad _ Zo Zx];exact wM
        have amb:co X [aF] h j dS hs:=⟨Zo,λb aj bI=>by rw[gD.ad b Zo bI];exact eR.ad b aj bI⟩
        have r6:=av.go vq (by omega:j<=hs)
        refine dk @t1 @Xg ⟨?_⟩
        cases qJ:aN.drop (oK+1)with
        |nil=>rw[qJ]at U;simp[hO,lC]at U
        |cons w nR=>
        refine(nl aB r6 qJ [44]).Zm ?_
        rintro avj dD is ⟨rfl,lr,hq⟩
        have rJ:=hq.le
        rw[qJ]at U
        have wN:aR X dD (.ptr j 0)=some (.ptr aF 0):=by rw[hq.fA _ _ Zo Zx];exact Xg
        have u4:Z X dD (j+1)=zC [.aV, .aV, .Z 0, .cM] 4:=by rw[hq.ad _ Zo Zx];exact KS
        have QL:=LG.ad (S:=dD) (j2:=is) (λe I M=>hq.ad e M Zx) rJ
        have yE:=amb.trans hq
        refine cV ⟨?_⟩
        refine⟨m,Zo,b9++[br],_,gI w [44],aY t1,aY eY,aY t3,aY t4,bC,by simpa using QL,lr,Zo,yE,wN,u4,Zx,λa=> ?_,λa=> ?_⟩
        ·simp only[hO,lC,a,ZE]at U ⊢
         rw[(fo qJ).2]
         exact U
        ·simp only[hO,lC,a,Zu,ZD]at U ⊢
         rw[qJ]
         exact U
       ·rintro u8 dS hs ⟨vn,rfl,gD⟩
        rw[Zg vn]at U
        simp only[andThen,bad,Ze]at U
        subst U
        exact⟨_,rfl,rfl,eR.trans gD⟩
     ·clear Hf yB Ib g8 tM U abh bQ
      rintro H cC e6 ⟨b9,oK,t1,eY,t3,vs,hj,Qp,eR,u6,wM,aX,U⟩
      refine dk @t1 @u6 ⟨?_⟩
      refine e1 (λdS=>Z X dS e6=zC [.str [41]] 1/\bD X cC e6 dS (e6+1)) ⟨bv Zo,dL⟩ ?_
      rintro dS ⟨Bv,jY⟩
      have r6:=av.go (hj.ex jY Zo Zo) (by omega:j<=e6+1)
      have gD:=eR.trans (co.of jY)
      cases bQ:ed [41] (aN.drop oK)with
      |none=>rw[bQ]at U;cases U
      |some xF=>
      rw[bQ]at U
      refine(iZ aB r6 Zo Zo Bv bQ).mono ?_ ?_
      ·rintro v9 dD is ⟨AM,i9,rfl,_,lr,hq⟩
       have rJ:=hq.le
       simp only[andThen,ok]at U
       have wN:aR X dD (.ptr j 0)=some (.ptr aF 0):=by rw[hq.fA _ _ Zo Zx,jY.fA _ _ Zo];exact u6
       have u4:Z X dD (j+1)=zC [.aV, .aV, .Z 0, .cM] 4:=by rw[hq.ad _ Zo Zx,jY.ad _ Zo];exact wM
       have QL:=vs.ad (S:=dD) (j2:=is) (λe I M=>by rw[hq.ad e Zo Zx,jY.ad e M]) Zo
       exact bB _ _ _ ⟨b9,i9,t1,eY,t3,QL,lr,Zo,gD.trans hq,wN,u4,aX,U⟩
      ·rintro v9 dD is ⟨D,rfl,rfl,hq⟩
       simp only[andThen,Ze]at U
       subst U
       exact⟨D,rfl,rfl,gD.trans hq⟩
    ·rintro xO ck dB ⟨D,rfl,rfl,el⟩
     simp only[Ze]at U
     subst U
     exact⟨D,rfl,rfl,dF.trans el⟩
   ·rintro FX bU cP ⟨f2,rfl,es⟩
    rw[Zg f2]at U
    simp only[andThen,bad,Ze]at U
    subst U
    exact⟨_,rfl,rfl,en.trans es⟩
  ·rw[aD]at dm ⊢
   simp only[Zu,ZD]at dm ⊢
   simp only[]at U
   refine dk bW.eq_1 gJ.eq_1 ⟨?_⟩
   simp only[YQ,Z4]
   refine e1 (λbe=>aR X be (.ptr j 0)=some (.ptr aF 0)/\Z X be (j+1)=zC [.aV, .aV, .Z 0, .cM] 4/\tq X be (j+2) (bk+1) [] []/\aS X be aF bE aN i/\co X [aF] h j be (bk+1)) ⟨?_, ?_, ?_, ?_, ?_⟩ ?_
   ·exact Pc @El
   ·simp(disch:=omega) only[aK];exact tJ
   ·exact m8.ad (λe I M=>zE) Zo
   ·exact dm.ad (zE) (zE)
   ·exact⟨Zo,λb aj bI=>by rw[<-u9.ad b aj bI];exact zE⟩
   clear El tJ m8 dm u9 dp b4 dZ iG pW e9 ma
   rintro be ⟨tK,sC,qc,ge,en⟩
   have mA:=av.go ge (by omega:j<=bk+1)
   rw[aI]at U
   simp only[ib]at U
   refine(RW aB mA Zo Zo Zo Zo tK qc Zs Zs aI).mono ?_ ?_
   ·rintro FX bU cP ⟨f2,rfl,rN,gW,je,es⟩
    rw[Zp f2]at U
    simp only[andThen,ok]at U
    rw[<-(fo aI).2]at U
    have He:aR X bU (.ptr j 0)=some (.ptr aF 0):=by rw[es.fA _ _ Zo Zx];exact tK
    have wL:Z X bU (j+1)=zC [.aV, .aV, .Z 0, .cM] 4:=by rw[es.ad _ Zo Zx];exact sC
    exact bB _ _ _ ⟨[x],i+1,bC,bC,bC,rN,gW,Zo,⟨Zo,λb aj bI=>by rw[es.ad b Zo bI];exact en.ad b aj bI⟩,He,wL,Zs,U⟩
   ·rintro FX bU cP ⟨f2,rfl,es⟩
    rw[Zg f2]at U
    simp only[andThen,bad,Ze]at U
    subst U
    exact⟨_,rfl,rfl,en.trans es⟩
 ·clear af U dm u9 dp b4 dZ iG pW e9 ma aI
  rintro H be bF ⟨b9,i3,t1,eY,t3,qc,ge,awU,en,tK,sC,aX,U⟩
  refine dk @t1 @tK ⟨?_⟩
  refine e1 (λbU=>Z X bU bF=zC [.str [61]] 1/\bD X be bF bU (bF+1)) ⟨bv Zo,dL⟩ ?_
  rintro bU ⟨Bt,dz⟩
  have ko:=av.go (ge.ex dz Zo Zo) (by omega:j<=bF+1)
  have es:=en.trans (co.of dz)
  rcases f0 U with ⟨D,bq,rfl⟩|⟨B,gg,bq,U⟩
  ·exact(iZ aB ko Zo Zo Bt bq).mono zM (λaa S aq a=>a.of es (λ_ a=>by cases a;rfl))
  refine(iZ aB ko Zo Zo Bt bq).mono ?_ zL
  rintro v5 bY cw ⟨f7,i5,rF,rfl,gk,dF⟩
  cases rF
  have iU:=dF.le
  have KU:aR X bY (.ptr j 0)=some (.ptr aF 0):=by rw[dF.fA _ _ Zo Zx,dz.fA _ _ Zo];exact tK
  have Eg:Z X bY (j+1)=zC [.aV, .aV, .Z 0, .cM] 4:=by rw[dF.ad _ Zo Zx,dz.ad _ Zo];exact sC
  have oD:=qc.ad (S:=bY) (j2:=cw) (λe I M=>by rw[dF.ad e Zo Zx,dz.ad e M]) Zo
  have wQ:=es.trans dF
  obtain⟨a2,Bw,c,bf,kq,yh,so,cb,b5,cG,er,eV,d3,eA⟩:=oD
  clear qc ge en tK sC dz Bt ko es dF
  refine dk @t3 bW.eq_1 ⟨?_⟩
  have abA:∀e,e≠j+2->Z X (bn X bY (j+2) (some (.cells (dP c 2 (z.Z B.at_).cells) 4 .own))) e=Z X bY e:=λe F=>aK Zo F
  refine dk @t1 @KU ⟨?_⟩
  refine e1 (λck=>Z X ck (j+2)=some (.cells (c.set 2 (some (.Z B.at_))) 4 .own)/\∀e,e≠j+2->Z X ck e=Z X bY e) ⟨(bv Zo).trans (by simp only[z.cells,pM]),abA⟩ ?_
  clear abA
  rintro ck ⟨AD,et⟩
  have g8:aS X ck aF bE aN i5:=gk.ad (et _ Zo) (et _ Zo)
  have el:co X [aF] h j ck cw:=⟨wQ.le,λb aj bI=>by rw[et b Zo];exact wQ.ad b aj bI⟩
  rcases f0 U with ⟨D,c2,rfl⟩|⟨OM,lJ,c2,U⟩
  ·exact((Vs aB eo n Zo).arrow ck _ _ _ (av.go g8 Zo) c2).mono zM (λaa S aq a=>a.of el (λ_ a=>by cases a;rfl))
  refine((Vs aB eo n Zo).arrow ck _ _ _ (av.go g8 Zo) c2).mono ?_ zL
  rintro Ju cC e6 ⟨Wq,oK,w0,fa,hj,eR⟩
  cases w0
  have qM:=eR.le
  obtain⟨pK,rfl,axr,_⟩:=fa.ptr
  have FE:Z X cC (j+2)=some (.cells (c.set 2 (some (.Z B.at_))) 4 .own):=by rw[eR.ad _ Zo Zx];exact AD
  have u6:aR X cC (.ptr j 0)=some (.ptr aF 0):=by rw[eR.fA _ _ Zo Zx,c6,et _ Zo, <-c6];exact KU
  have f5:∀e,j<=e->e<cw->e≠j+2->Z X cC e=Z X bY e:=λe I M ak=>by rw[eR.ad e M Zx,et e ak]
  refine cr @t3 ⟨?_⟩
  refine dk @t1 @u6 ⟨?_⟩
  refine e1 (λdS=>Z X dS e6=zC [.str [59]] 1/\Z X dS (j+2)=some (.cells ((c.set 2 (some (.Z B.at_))).set 3 (some (.ptr pK 0))) 4 .own)/\∀e,e<e6->e≠j+2->Z X dS e=Z X cC e) ⟨bv Zo, ?_, ?_⟩ ?_
  ·rw[aK Zo Zo,bv Zo];simp only[z.cells,pM]
  ·intro e I M
   rw[aK Zo Zo,aK Zo M]
  rintro dS ⟨Bv,as0,ia⟩
  have vq:aS X dS aF bE aN oK:=hj.ad (ia _ Zo Zo) (ia _ Zo Zo)
  have gD:co X [aF] h j dS (e6+1):=⟨Zo,λb aj bI=>by rw[ia b Zo Zo];exact(el.trans eR).ad b aj bI⟩
  rcases f0 U with ⟨D,hf,rfl⟩|⟨AM,rW,hf,U⟩
  ·exact(iZ aB (av.go vq Zo) Zo Zo Bv hf).mono zM (λaa S aq a=>a.of gD (λ_ a=>by cases a;rfl))
  refine(iZ aB (av.go vq Zo) Zo Zo Bv hf).mono ?_ zL
  rintro v9 dD is ⟨ayl,i9,amS,_,lr,hq⟩
  cases amS
  have rJ:=hq.le
  simp only[ok,Ze]at U
  subst U
  have acZ:Z X dD (j+2)=some (.cells ((c.set 2 (some (.Z B.at_))).set 3 (some (.ptr pK 0))) 4 .own):=by rw[hq.ad _ Zo Zx];exact as0
  have gf:∀e,j<=e->e<e6->e≠j+2->Z X dD e=Z X cC e:=λe I M ak=>by rw[hq.ad e Zo Zx,ia e M ak]
  have u4:Z X dD (j+1)=zC [.aV, .aV, .Z 0, .cM] 4:=by rw[gf _ Zo Zo Zo,f5 _ Zo Zo Zo];exact Eg
  have dV:((c.set 2 (some (z.Z B.at_))).set 3 (some (.ptr pK 0))).get 0=some bf:=by rw[R.jF,Zg Zd,R.jF,Zg Zd];exact b5
  have dv:((c.set 2 (some (z.Z B.at_))).set 3 (some (.ptr pK 0))).get 1=some kq:=by rw[R.jF,Zg Zd,R.jF,Zg Zd];exact cG
  have dK:((c.set 2 (some (z.Z B.at_))).set 3 (some (.ptr pK 0))).get 2=some (.Z B.at_):=by rw[R.jF,Zg Zd,R.jF,Zp rfl]
  have gM:((c.set 2 (some (z.Z B.at_))).set 3 (some (.ptr pK 0))).get 3=some (.ptr pK 0):=by rw[R.jF,Zp rfl]
  generalize ((c.set 2 (some (z.Z B.at_))).set 3 (some (.ptr pK 0)))=gA at acZ dV dv dK gM
  obtain⟨gH,l9,s5⟩:=gU.one er
  obtain⟨Fx,Ap,r2⟩:=gU.one eV
  have az:d0 X dD 4 (.ptr (j+2) 0)=some (.agg [bf,kq, .Z B.at_, .ptr pK 0]):=by
   rw[Ag];simp[bS acZ,dV,dv,dK,gM]
  refine eW @t3 @az @eY ⟨?_⟩
  refine gm (j8 (o:=4) u4 Zo rfl Zd Zd (by simp[z.cells,iI,l9,Ap,show nV (.Z B.at_)=true from rfl,show nV (.ptr pK 0)=true from rfl])) ?_
  refine cr @eY ⟨?_⟩
  have Ce:∀e,e≠j+1->∀cE,Z X (bn X dD (j+1) cE) e=Z X dD e:=λe F cE=>aK Zo F
  have nI:∀e,j+2<e->e<cw->∀cE,Z X (bn X dD (j+1) cE) e=Z X bY e:=λe I M cE=>by rw[Ce e Zo,gf e Zo Zo Zo,f5 e Zo M Zo]
  obtain⟨b0,aaK⟩:=(er.ad (S:=bn X dD (j+1) (some (.cells (dP (R.ofList [.aV, .aV, .Z 0, .cM] 0 .nil) 0 [bf,kq, .Z B.at_, .ptr pK 0]) 4 .own))) (λe F=>nI e (d3 e F).1 (d3 e F).2.1 _)).ata (ef:=λe=>ec j is e/\e∈yh) Zx (λe F=>by have:=d3 e F;exact⟨⟨Zo,Zo⟩,F⟩)
  obtain⟨cy,Ie⟩:=(eV.ad (S:=bn X dD (j+1) (some (.cells (dP (R.ofList [.aV, .aV, .Z 0, .cM] 0 .nil) 0 [bf,kq, .Z B.at_, .ptr pK 0]) 4 .own))) (λe F=>nI e (eA e F).1 (eA e F).2 _)).MP (P:=λe=>ec j is e/\e∈so) Zx (λe F=>by have:=eA e F;exact⟨⟨Zo,Zo⟩,F⟩)
  have mZ:=cm.ad (S:=bn X dD (j+1) (some (.cells (dP (R.ofList [.aV, .aV, .Z 0, .cM] 0 .nil) 0 [bf,kq, .Z B.at_, .ptr pK 0]) 4 .own))) (λe F=>by
   have I:=F.1
   rw[Ce e Zo,gf e Zo F.2 Zo]) _ _ fa
  refine⟨_,i9,[bf,kq, .Z B.at_, .ptr pK 0],rfl,rfl,⟨λe=>if e∈yh then 1 else if e∈so then 2 else 0,bf,kq,b0,cy, .ptr pK 0,rfl, ?_, ?_, ?_,by simp[iI,l9,Ap,show nV (.Z B.at_)=true from rfl,show nV (.ptr pK 0)=true from rfl]⟩, ?_, ?_⟩
  ·rw[Yk]at aaK;exact aaK.lift λe F=>⟨F.1,Zp F.2⟩
  ·rw[Yk]at Ie;exact Ie.lift λe F=>⟨F.1,(Zg (λa=>(d3 e a).2.2 F.2)).trans (Zp F.2)⟩
  ·exact cm.lift (λe F=>⟨⟨zy F.1,zy F.2⟩,(Zg (λa=>by have:=d3 e a;have:=F.1;omega)).trans (Zg (λa=>by have:=eA e a;have:=F.1;omega))⟩) _ _ mZ
  ·exact lr.ad (Ce _ Zo _) (Ce _ Zo _)
  ·exact⟨Zo,λb aj bI=>by rw[Ce b Zo];exact(gD.trans hq).ad b aj bI⟩
end
def d6(d:ep):List z:=[.str d.name, .Z d.at_, .bool d.ty.b, .bool d.ty.s, .Z d.ty.w, .str d.on, .Z d.fX, .bool d.no]
def adJ(k:List Tok):∀r∈k.map bW,r.length=7:=by
 intro r U;obtain⟨t,_,rfl⟩:=ZK.1 U;rfl
def Wl(k:List ep):∀r∈k.map d6,r.length=8:=by
 intro r U;obtain⟨t,_,rfl⟩:=ZK.1 U;rfl
def avF{s:bc}{k:List Tok}{x:Tok}{b6:List Tok}(a:ed s k=some (.ok (x,b6))):b6.length+1=k.length:=by
 cases k with
 |nil=>cases a
 |cons e k=>
  simp only[ed]at a
  split at a
  ·simp only[ok,Ze,Except.ok.injEq,YK]at a
   rw[<-a.2];rfl
  ·cases a
structure JO(X:cn)(aF bE:Nat)(aN:List Tok)(j:Nat)(gx:R ag)(loc:Bool)(H:da)(h:R ag)(n:Nat)(s:z)(ds:List ep)(cR:List Nat)(i:Nat):Prop where
 t0:H.g 0=some (.ptr aF 0)
 t1:H.g 1=some (.bool loc)
 t5:H.g 5=some s
 bf:gU X h s 8 (ds.map d6).flatten cR
 cR:∀e∈cR,j<=e/\e<n
 par:aS X h aF bE aN i
 fr:co X [aF] gx j h n
section
variable{X:cn}{h S a1 aT:R ag}{j aq aP bk aF bE:Nat}{aN:List Tok}{i:Nat}
def ajF(ds:List ep):(ds.map d6).flatten.length=ds.length*8:=by rw[u0 (Wl ds),Zr]
def ave(ds:List Tok):(ds.map bW).flatten.length=ds.length*7:=by rw[u0 (adJ ds),Zr]
def D2(aB:dR X){n:Nat}(k0:aN.length<=100000)(av:h1 X h j aF bE aN i){loc:Bool}{r:Except Int (List ep×List Tok)}(U:iA n loc [] (aN.drop i)=some r):
 a7 X 62 [.ptr aF 0, .bool loc] h j (λaa S aq=>∃ds cp b,r= .ok (ds,aN.drop cp)/\gL X S (ec j aq) b aa 8 (ds.map d6)/\aS X S aF bE aN cp/\co X [aF] h j S aq) (ii X aF h j r):=by
 refine zF aB (agq X) ?_
 rw[agr]
 unfold Ut
 have gu:=av.a6
 have jG:=av.g0
 have hz:=av.ci
 have jc:=av.gG
 refine gQ ?_
 refine f6 (λm H S aQ=>∃s ds cR cp,JO X aF bE aN j h loc H S aQ s ds cR cp/\ds.length+(aN.drop cp).length<=aN.length/\iA m loc ds (aN.drop cp)=some r)
  n ⟨.aV,[],[],i,⟨bC,bC,bC, .inl (.inl ⟨rfl,rfl,rfl⟩),Zs,av.par,co.refl _ _ _⟩,Zs,U⟩ ?_
 clear U
 rintro m H a1 aP ⟨s,ds,cR,rU,lS,sM,U⟩
 cases m with
 |zero=>simp[iA]at U
 |succ m=>
 unfold iA at U
 refine gQ ?_
 have ju:=lS.fr.le
 refine jK (λH S aQ=>∃(b9:List Tok) (uy:z) (sp:List Nat) (cp:Nat),JO X aF bE aN j h loc H S aQ s ds cR cp/\aP<=aQ/\(∀e∈cR,e<aP)/\H.g 6=some uy/\gU X S uy 7 (b9.map bW).flatten sp/\(∀e∈sp,aP<=e/\e<aQ)/\ds.length+b9.length+(aN.drop cp).length<=aN.length/\
  Bh loc (iA m loc) ds b9 (aN.drop cp)=some r) (λW bB=> ?_) ?_
 ·refine f6 (λo H S aQ=>∃(b9:List Tok) (uy:z) (sp:List Nat) (cp:Nat) (b:Bool),JO X aF bE aN j h loc H S aQ s ds cR cp/\aP<=aQ/\(∀e∈cR,e<aP)/\H.g 6=some uy/\H.g 7=some (.bool b)/\gU X S uy 7 (b9.map bW).flatten sp/\(∀e∈sp,aP<=e/\e<aQ)/\ds.length+b9.length+(aN.drop cp).length<=aN.length/\
   (b=true->andThen (qS o b9 (aN.drop cp)) (λb9 k=>Bh loc (iA m loc) ds b9 k)=some r)/\(b=false->Bh loc (iA m loc) ds b9 (aN.drop cp)=some r))
   m ⟨[], .aV,[],rU,true,⟨aY lS.t0,aY lS.t1,aY lS.t5,lS.bf,lS.cR,lS.par,lS.fr⟩,Zo,λe F=>(lS.cR e F).2,bC,bC, .inl (.inl ⟨rfl,rfl,rfl⟩),Zs,by simpa using sM,λ_=>U,λa=>(by cases a)⟩ ?_
  clear U lS sM
  rintro o H aT bk ⟨b9,uy,sp,jg,b,kv,gP,ip,eZ,gT,Ih,fV,p8,F,m7⟩
  have ft:=av.go kv.par kv.fr.le
  have t0:=kv.t0
  have t1:=kv.t1
  have t5:=kv.t5
  refine rs @gT ⟨?_⟩
  refine gQ ?_
  cases b with
  |false=>
   refine uP ?_
   exact bB _ _ _ ⟨b9,uy,sp,jg,⟨aY t0,aY t1,aY t5,kv.bf,kv.cR,kv.par,kv.fr⟩,gP,ip,aY eZ,Ih,fV,p8,m7 rfl⟩
  |true=>
   have U:=F rfl
   cases o with
   |zero=>simp[qS,andThen]at U
   |succ o=>
   unfold qS at U
   refine uQ ?_
   refine dk @eZ @t0 ⟨?_⟩
   cases aI:aN.drop jg with
   |nil=>rw[aI]at U;simp[ib,andThen]at U
   |cons x k=>
   rw[aI]at U
   simp only[ib]at U
   refine(As aB ft.a6 ft.par ft.ci ft.g0 ft.gG ft.many (fo aI).1 1).mono ?_ ?_
   ·rintro De be bF ⟨aG,rfl,ge,en⟩
    have iT:=en.le
    rw[Zp aG]at U
    simp only[andThen,ok]at U
    rw[<-(fo aI).2]at U
    have eD:(aN.drop jg).length=(aN.drop (jg+1)).length+1:=by rw[aI,(fo aI).2];rfl
    have kj:∀e,j<=e->e<bk->Z X be e=Z X aT e:=λe I M=>en.ad e M Zx
    have aes:=kv.bf.ad (S:=be) (λe F=>kj e (kv.cR e F).1 (kv.cR e F).2)
    have aoV:=Ih.ad (S:=be) (λe F=>kj e (zy (fV e F)) (fV e F).2)
    have Er:=kv.fr.trans en
    refine cr bW.eq_1 ⟨?_⟩
    have jJ:kS X (bn X be bF (zC (bW x) 7)) 7 (.slice bF 0 1 1)=some (1,bW x):=td (bv Zo) (pt _) rfl _
    obtain⟨aup,bU,VI,j0,rQ,amD,f2⟩:=(aoV.ad (S:=bn X be bF (zC (bW x) 7)) (λe F=>aK Zo (zy (fV e F).2))).append (j:=bF+1) Zd jJ rfl Zd rfl (by rw[ave];simp only[bW,ZG,ZY];omega) Zo (λe F=>zy (fV e F).2)
    refine mc j0 ?_
    have fb:∀e,e<bF->e∉sp->Z X bU e=Z X be e:=λe I M=>by rw[f2 e Zo M,aK Zo Zo]
    have dH:∀e,e<aP->e∉sp:=λe I M=>zy (fV e M)
    have gW:aS X bU aF bE aN (jg+1):=ge.ad (fb _ Zo (dH _ Zo)) (fb _ Zo (dH _ Zo))
    have es:co X [aF] h j bU (bF+1+1):=⟨Zo,λb aj bI=>by rw[fb b Zo (dH _ Zo)];exact Er.ad b aj bI⟩
    have aet:=aes.ad (S:=bU) (λe F=>fb e (zy (ip e F)) (dH _ (ip e F)))
    have fN:(b9.map bW).flatten++bW x=((b9++[x]).map bW).flatten:=by simp
    rw[fN]at rQ
    have K5:∀e∈VI,aP<=e/\e<bF+1+1:=λe F=>by
     rcases amD e F with rfl|a
     ·omega
     ·have:=fV e a;omega
    refine cr @t0 ⟨?_⟩
    have ko:=av.go gW es.le
    obtain⟨w,gg,ox⟩:∃w gg,aN.drop (jg+1)=w::gg:=by
     cases a:aN.drop (jg+1)with
     |nil=>rw[a]at U;simp[hO,lC]at U
     |cons w gg=>exact⟨w,gg,rfl⟩
    refine(nl aB ko ox [44]).Zm ?_
    rintro FY bY cw ⟨rfl,gk,dF⟩
    have iU:=dF.le
    have eJ:∀e,j<=e->e<bF+1+1->Z X bY e=Z X bU e:=λe I M=>dF.ad e M Zx
    refine cV ⟨?_⟩
    refine⟨o,Zo,b9++[x],aup,VI,_,gI w [44],⟨aY t0,aY t1,aY t5,aet.ad (λe F=>eJ e (kv.cR e F).1 (zy (ip e F))),λe F=>⟨(kv.cR e F).1,zy (ip e F)⟩,gk,es.trans dF⟩,Zo,ip,bC,bC, .inl (rQ.ad (λe F=>eJ e (zy (K5 e F)) (K5 e F).2)),λe F=>⟨(K5 e F).1,zy (K5 e F).2⟩, ?_,λa=> ?_,λa=> ?_⟩
    ·have bq:=congrArg List.length (fo ox).2
     have bV:(aN.drop (jg+1)).length=gg.length+1:=by rw[ox];rfl
     split
     ·simp only[ZP,List.length_singleton];omega
     ·simp only[ZP,List.length_singleton];omega
    ·rw[ox]at U
     simp only[hO,lC,a,ZE]at U ⊢
     rw[(fo ox).2]
     exact U
    ·rw[ox]at U
     simp only[hO,lC,a,Zu,ZD]at U ⊢
     rw[ox]
     exact U
   ·rintro De be bF ⟨aG,rfl,en⟩
    rw[Zg aG]at U
    simp only[andThen,bad,Ze]at U
    subst U
    exact⟨_,rfl,rfl,kv.fr.trans en⟩
 ·clear U lS sM
  rintro H aT bk ⟨b9,uy,sp,jg,kv,gP,ip,eZ,Ih,fV,p8,U⟩
  have t0:=kv.t0
  have t1:=kv.t1
  have t5:=kv.t5
  have dp:=kv.fr
  have ug:=kv.bf
  have wV:=kv.cR
  have dm:=kv.par
  clear kv
  refine cr @t0 ⟨?_⟩
  refine e1 (λbe=>Z X be bk=zC [.str [58]] 1/\bD X aT bk be (bk+1)) ⟨bv Zo,dL⟩ ?_
  rintro be ⟨Pt,cx⟩
  have mA:=av.go (dm.ex cx Zo Zo) (by omega:j<=bk+1)
  have en:=dp.trans (co.of cx)
  unfold Bh at U
  rcases f0 U with ⟨D,aA,rfl⟩|⟨o5,gE,aA,U⟩
  ·exact(iZ aB mA Zo Zo Pt aA).mono zM (λaa S aq a=>a.of en (λ_ a=>by cases a;rfl))
  refine(iZ aB mA Zo Zo Pt aA).mono ?_ zL
  rintro v4 bU cP ⟨avO,i4,p2,_,gW,es⟩
  cases p2
  have awD:=avF aA
  have je:=es.le
  have ko:=mA.go gW je
  have wR:=en.trans es
  have fb:∀e,j<=e->e<bk->Z X bU e=Z X aT e:=λe I M=>by rw[es.ad e Zo Zx,cx.ad e M]
  have rQ:=ug.ad (S:=bU) (λe F=>fb e (wV e F).1 (wV e F).2)
  have aaZ:=Ih.ad (S:=bU) (λe F=>fb e (zy (fV e F)) (fV e F).2)
  clear ug Ih fb Pt cx mA en es aA dp dm
  refine cr @t0 ⟨?_⟩
  cases ox:aN.drop i4 with
  |nil=>rw[ox]at U;simp[ib,andThen]at U
  |cons t gg=>
  rw[ox]at U
  simp only[ib]at U
  refine(As aB ko.a6 ko.par ko.ci ko.g0 ko.gG ko.many (fo ox).1 3).mono ?_ (λFY bY cw a=>by
   obtain⟨aG,rfl,dF⟩:=a
   rw[Zg aG]at U
   simp only[andThen,bad,Ze]at U
   subst U
   exact⟨_,rfl,rfl,wR.trans dF⟩)
  rintro FY bY cw ⟨aG,rfl,gk,dF⟩
  have iU:=dF.le
  rw[Zp aG]at U
  simp only[andThen,ok]at U
  rw[<-(fo ox).2]at U
  have awE:(aN.drop i4).length=(aN.drop (i4+1)).length+1:=by rw[ox,(fo ox).2];rfl
  have wQ:=wR.trans dF
  have eJ:∀e,j<=e->e<cP->Z X bY e=Z X bU e:=λe I M=>dF.ad e M Zx
  have oH:=rQ.ad (S:=bY) (λe F=>eJ e (wV e F).1 (zy (wV e F)))
  have aa0:=aaZ.ad (S:=bY) (λe F=>eJ e (zy (fV e F)) (zy (fV e F)))
  clear rQ aaZ eJ dF wR
  refine dk bW.eq_1 @t0 ⟨?_⟩
  refine e1 (λck=>Z X ck cw=zC (d6 ⟨[],0,t.ty,[],0,false⟩) 8/\bD X bY cw ck (cw+1)) ⟨bv Zo,dL⟩ ?_
  rintro ck ⟨rt,eC⟩
  have lP:=av.go (gk.ex eC Zo Zo) (by omega:j<=cw+1)
  have el:=wQ.trans (co.of eC)
  obtain⟨w,lJ,rE,aa8⟩:=qq U
  refine(nl aB lP rE _).Zm ?_
  rintro adP cC e6 ⟨rfl,hj,eR⟩
  have qM:=eR.le
  have PE:=el.trans eR
  have sA:Z X cC cw=zC (d6 ⟨[],0,t.ty,[],0,false⟩) 8:=by rw[eR.ad _ Zo Zx];exact rt
  have f5:∀e,j<=e->e<cw->Z X cC e=Z X bY e:=λe I M=>by rw[eR.ad e Zo Zx,eC.ad e M]
  have ψ:(aN.drop (i4+1)).length=lJ.length+1:=by rw[rE];rfl
  refine rs bW.eq_1 ⟨?_⟩
  refine jK (λH S aQ=>∃(on:bc) (fX:Int) (no:Bool) (cp:Nat),H.g 0=some (.ptr aF 0)/\H.g 1=some (.bool loc)/\H.g 5=some s/\H.g 6=some uy/\H.g 8=some (.ptr cw 0)/\Z X S cw=zC (d6 ⟨[],0,t.ty,on,fX,no⟩) 8/\(∀e,j<=e->e<cw->Z X S e=Z X bY e)/\aS X S aF bE aN cp/\co X [aF] h j S aQ/\cw<aQ/\(aN.drop cp).length<=(aN.drop (i4+1)).length/\
   wy loc (iA m loc) (ds++b9.map (pf t.ty on fX no)) (aN.drop cp)=some r) (λW bB=> ?_) ?_
  ·rcases aa8 with ⟨aD,U⟩|⟨aD,U⟩
   ·rw[aD]at hj ⊢
    simp only[ZE]at hj ⊢
    rw[<-(fo rE).2]at U
    simp only[yn]at U
    refine cr @t0 ⟨?_⟩
    refine e1 (λdS=>bD X cC e6 dS (e6+1)) dL ?_
    intro dS jY
    have r6:=lP.go (hj.ex jY Zo Zo) (by omega:cw+1<=e6+1)
    have wK:Z X dS cw=zC (d6 ⟨[],0,t.ty,[],0,false⟩) 8:=by rw[jY.ad _ Zo];exact sA
    obtain⟨v6,rW,Ez⟩:∃v6 rW,aN.drop (i4+1+1)=v6::rW:=by
     cases a:aN.drop (i4+1+1)with
     |nil=>rw[a]at U;simp[hO,lC,andThen]at U
     |cons w gg=>exact⟨w,gg,rfl⟩
    refine(nl aB r6 Ez _).Zm ?_
    rintro avj dD is ⟨rfl,lr,hq⟩
    have rJ:=hq.le
    have yE:=(PE.trans (co.of jY)).trans hq
    have Ee:Z X dD cw=zC (d6 ⟨[],0,t.ty,[],0,false⟩) 8:=by rw[hq.ad _ Zo Zx];exact wK
    have qd:andThen (andThen (ib 1 (aN.drop (if gI v6 [110,111,116]then i4+1+1+1 else i4+1+1))) (λon k=>ok (on.text,on.at_,gI v6 [110,111,116]) k)) (λr k=>wy loc (iA m loc) (ds++b9.map (pf t.ty r.1 r.2.1 r.2.2)) k)=some r:=by
     rw[Ez]at U
     cases aaQ:gI v6 [110,111,116]with
     |true=>simp only[hO,lC,aaQ,ZE]at U ⊢;rw[(fo Ez).2];exact U
     |false=>simp only[hO,lC,aaQ,Zu,ZD]at U ⊢;rw[Ez];exact U
    have ω:(aN.drop (if gI v6 [110,111,116]then i4+1+1+1 else i4+1+1)).length<=(aN.drop (i4+1)).length:=by simp only[Yy];split<;>omega
    clear U
    generalize (if gI v6 [110,111,116]then i4+1+1+1 else i4+1+1)=i9 at qd lr ω
    generalize (if gI v6 [110,111,116]then v6 else gJ)=z9
    generalize gI v6 [110,111,116]=no at qd
    unfold d6 at Ee
    refine eW bW.eq_1 @Ee @t0 ⟨?_⟩
    refine e1 (λjS=>Z X jS cw=zC (d6 ⟨[],0,t.ty,[],0,no⟩) 8/\(∀e,e<is->e≠cw->Z X jS e=Z X dD e)) ⟨by rw[bv Zo];rfl,λe I M=>aK Zo M⟩ ?_
    rintro jS ⟨ali,uk⟩
    have EO:=lr.ad (uk _ Zo Zo) (uk _ Zo Zo)
    have rz:co X [aF] h j jS is:=⟨Zo,λb aj bI=>by rw[uk b Zo Zo];exact yE.ad b aj bI⟩
    have FD:=av.go EO (by omega:j<=is)
    cases Ey:aN.drop i9 with
    |nil=>rw[Ey]at qd;simp[ib,andThen]at qd
    |cons c axI=>
    rw[Ey]at qd
    simp only[ib]at qd
    refine(As aB FD.a6 FD.par FD.ci FD.g0 FD.gG FD.many (fo Ey).1 1).mono ?_ ?_
    ·rintro avi jT Fr ⟨t6,rfl,H8,u7⟩
     have anF:=u7.le
     rw[Zp t6]at qd
     simp only[andThen,ok]at qd
     rw[<-(fo Ey).2]at qd
     have Ed:Z X jT cw=zC (d6 ⟨[],0,t.ty,[],0,no⟩) 8:=by rw[u7.ad _ Zo Zx];exact ali
     unfold d6 at Ed
     refine dk bW.eq_1 @Ed ⟨?_⟩
     refine iY (oY _ _) ?_
     refine dk bW.eq_1 @Ed ⟨?_⟩
     refine bB _ _ _ ⟨c.text,c.at_,no,i9+1,aY t0,aY t1,aY t5,aY eZ,bC, ?_,λe I M=> ?_, ?_, ?_,Zo, ?_,qd⟩
     ·exact zP
     ·simp(disch:=omega) only[aK]
      rw[u7.ad e Zo Zx,uk e Zo Zo,hq.ad e Zo Zx,jY.ad e Zo,f5 e I M]
     ·exact H8.ad (zE) (zE)
     ·exact⟨Zo,λb aj bI=>by rw[<-(rz.trans u7).ad b aj bI];exact zE⟩
     ·simp only[Yy]at ω ⊢;omega
    ·rintro avi jT Fr ⟨t6,rfl,u7⟩
     rw[Zg t6]at qd
     simp only[andThen,bad,Ze]at qd
     subst qd
     exact⟨_,rfl,rfl,rz.trans u7⟩
   ·rw[aD]at hj ⊢
    simp only[Zu,ZD]at hj ⊢
    simp only[yn,andThen,ok]at U
    refine dk bW.eq_1 gJ.eq_1 ⟨?_⟩
    refine bB _ _ _ ⟨[],0,false,i4+1,aY t0,aY t1,aY t5,aY eZ,bC, ?_,λe I M=> ?_, ?_, ?_,Zo,Zi _,U⟩
    ·simp(disch:=omega) only[aK];exact sA
    ·simp(disch:=omega) only[aK];exact f5 e I M
    ·exact hj.ad (zE) (zE)
    ·exact⟨Zo,λb aj bI=>by rw[<-PE.ad b aj bI];exact zE⟩
  ·clear U aa8 hj PE eR sA f5 el rt eC lP wQ t0 t1 t5 eZ gk
   rintro H ck dB ⟨on,fX,no,hB,t0,t1,t5,eZ,hH,rt,et,g8,el,awV,Lr,U⟩
   have rR:=oH.ad (S:=ck) (λe F=>et e (wV e F).1 (zy (wV e F)))
   have aa1:=aa0.ad (S:=ck) (λe F=>et e (zy (fV e F)) (zy (fV e F)))
   clear oH aa0
   obtain⟨VM,cW⟩:=aa1.FF Zd (adJ b9) (by simp only[Zr];omega) (P:=λe=>aP<=e/\e<bk) fV
   have eD:=cW.len
   rw[Zr]at eD
   refine G9 @eZ @eD ⟨?_⟩
   have y3:=eD
   refine jK (λH S aQ=>∃(eP:z) (iy:List Nat),H.g 0=some (.ptr aF 0)/\H.g 1=some (.bool loc)/\H.g 5=some eP/\gU X S eP 8 ((ds++b9.map (pf t.ty on fX no)).map d6).flatten iy/\(∀e∈iy,j<=e/\e<aQ)/\aS X S aF bE aN hB/\co X [aF] h j S aQ/\dB<=aQ) (λW bB=> ?_) ?_
   ·refine f6 (λacb H S aQ=>∃(o:Nat) (eP:z) (iy:List Nat) (nm:bc) (DR:Int),acb=b9.length-o/\o<=b9.length/\H.g 0=some (.ptr aF 0)/\H.g 1=some (.bool loc)/\H.g 5=some eP/\H.g 8=some (.ptr cw 0)/\H.g 52=some uy/\H.g 53=some (.Z (b9.length:Int))/\H.g 54=some (.Z (o:Int))/\Z X S cw=zC (d6 ⟨nm,DR,t.ty,on,fX,no⟩) 8/\
     gU X S eP 8 ((ds++(b9.take o).map (pf t.ty on fX no)).map d6).flatten iy/\(∀e∈iy,(e∈cR\/dB<=e)/\e<aQ)/\(∀e,aP<=e->e<bk->Z X S e=Z X ck e)/\aS X S aF bE aN hB/\co X [aF] h j S aQ/\dB<=aQ)
     b9.length ⟨0,s,cR,[],0,Zo,Zo,aY t0,aY t1,aY t5,aY hH,bC,bC,gC,rt,by simpa using rR,λe F=>⟨.inl F,zy (wV e F)⟩,λ_ _ _=>rfl,g8,el,Zi _⟩ ?_
    rintro acb H cC e6 ⟨o,eP,iy,nm,DR,rfl,qK,t0,t1,t5,hH,SZ,AK,mK,sA,B1,ve,abF,hj,eR,qM⟩
    refine G9 @AK @mK ⟨?_⟩
    refine gQ ?_
    refine DW (λcO=> ?_) (λcO=> ?_)
    ·have cO:o<b9.length:=Zo
     have ρ:=cW.gZ o (by simpa using cO)
     have QS:=(cW.ad (S:=cC) (λe F=>abF e F.1 F.2)).row Zd (i:=o) (r:=bW b9[o]) (by rw[Zw,Zf cO];rfl)
     have LV:b9.take (o+1)=b9.take o++[b9[o]]:=List.take_succ_eq_append_getElem cO
     generalize b9[o]=br at QS LV
     have yi:∀e∈iy,j<=e/\e≠cw/\¬(aP<=e/\e<bk)/\e<e6:=λe F=>by
      obtain⟨I,M⟩:=ve e F
      rcases I with I|I
      ·have:=wV e I;have:=ip e I;exact⟨Zo,Zo,Zo,Zo⟩
      ·exact⟨Zo,Zo,Zo,Zo⟩
     unfold d6 at sA
     refine eQ @SZ @mK @ρ @QS bW.eq_1 @hH @sA ⟨?_⟩
     refine iY (oY _ _) ?_
     refine eQ @SZ @mK @ρ @QS bW.eq_1 @hH (Za @sA @t5) ⟨?_⟩
     generalize yI:bn X _ (e6+1+8) _=dD
     have ot:Z X dD (e6+1+8)=zC (d6 (pf t.ty on fX no br)) 8:=by rw[<-yI,bv Zo];rfl
     have Ee:Z X dD cw=zC (d6 (pf t.ty on fX no br)) 8:=by rw[<-yI];exact zP
     have gf:∀e,e<e6->e≠cw->Z X dD e=Z X cC e:=λe I M=>by rw[<-yI];exact zE
     clear yI
     have jJ:kS X dD 8 (.slice (e6+1+8) 0 1 1)=some (1,d6 (pf t.ty on fX no br)):=td ot (pt _) rfl _
     have e3:(ds++(b9.take o).map (pf t.ty on fX no)).length<=100000:=by
      simp only[ZP,Zr,Ym];omega
     obtain⟨k5,jS,so,j0,aaT,amC,sK⟩:=(B1.ad (S:=dD) (λe F=>gf e (yi e F).2.2.2 (yi e F).2.1)).append (j:=e6+1+8+1) Zd jJ rfl Zd rfl (by rw[ajF];simp only[d6,ZG,ZY];omega) Zo (λe F=>zy (yi e F))
     refine mc j0 ?_
     have uk:∀e,e<e6->e≠cw->e∉iy->Z X jS e=Z X cC e:=λe I M ak=>by rw[sK e Zo ak,gf e I M]
     have bA:=zD o
     have fN:((ds++(b9.take o).map (pf t.ty on fX no)).map d6).flatten++d6 (pf t.ty on fX no br)=((ds++(b9.take (o+1)).map (pf t.ty on fX no)).map d6).flatten:=by rw[LV];simp
     rw[fN]at aaT
     refine dk @mK @bA ⟨?_⟩
     refine⟨b9.length-(o+1),Zo,o+1,k5,so,br.text,br.at_,rfl,Zo,aY t0,aY t1,bC,aY hH,aY SZ,aY AK,bC, ?_, .inl aaT, ?_, ?_, ?_, ?_,Zo⟩
     ·rw[sK _ Zo (λa=>(yi _ a).2.1 rfl)];exact Ee
     ·intro e F
      rcases amC e F with rfl|a
      ·exact⟨.inr Zo,Zo⟩
      ·have:=ve e a;exact⟨this.1,Zo⟩
     ·intro e I M
      rw[uk e Zo Zo (λa=>(yi e a).2.2.1 ⟨I,M⟩)]
      exact abF e I M
     ·exact hj.ad (uk _ Zo Zo (λa=>zy (yi _ a))) (uk _ Zo Zo (λa=>zy (yi _ a)))
     ·exact⟨Zo,λb aj bI=>by rw[uk b Zo Zo (λa=>zy (yi _ a))];exact eR.ad b aj bI⟩
    ·have w4:o=b9.length:=Zo
     subst w4
     rw[zi]at B1
     refine cV ⟨?_⟩
     exact bB _ _ _ ⟨eP,iy,aY t0,aY t1,aY t5,B1,λe F=>by
      obtain⟨I,M⟩:=ve e F
      rcases I with I|I
      ·have:=wV e I;omega
      ·omega,hj,eR,qM⟩
   ·clear rR aa1 rt et t0 t1 t5 eZ hH g8 el cW eD
    rintro H cC e6 ⟨eP,iy,t0,t1,t5,B1,ve,hj,eR,qM⟩
    have aac:(ds++b9.map (pf t.ty on fX no)).length+(aN.drop hB).length<=aN.length:=by simp only[ZP,Zr];omega
    generalize ds++b9.map (pf t.ty on fX no)=GS at B1 U aac
    have fin:∀(S:R ag) (aQ:Nat),(∀e,e<e6->e≠aF->Z X S e=Z X cC e)->e6<=aQ->r= .ok (GS,aN.drop hB)->aS X S aF bE aN hB->∃ds cp b,r= .ok (ds,aN.drop cp)/\gL X S (ec j aQ) b eP 8 (ds.map d6)/\aS X S aF bE aN cp/\co X [aF] h j S aQ:=by
     intro S aQ I M ak aA
     obtain⟨b,cW⟩:=(B1.ad (S:=S) (λe F=>I e (ve e F).2 (zy (ve e F)))).MR Zd (Wl GS) (by simp only[Zr];omega) (ef:=ec j aQ) (λe F=>⟨(ve e F).1,zy (ve e F)⟩)
     exact⟨GS,hB,b,ak,cW,aA,Zo,λb aj bI=>by rw[I b Zo (by simpa using bI)];exact eR.ad b aj bI⟩
    refine cr @t0 ⟨?_⟩
    obtain⟨Du,nR,qJ⟩:∃Du nR,aN.drop hB=Du::nR:=by
     cases a:aN.drop hB with
     |nil=>rw[a]at U;simp[wy,xN]at U
     |cons w gg=>exact⟨w,gg,rfl⟩
    refine e1 (λdS=>dS=cC) rfl ?_
    rintro dS rfl
    refine(qV aB Zo hj Zo Zo (fo qJ).1).Zm ?_
    rintro u8 dD is ⟨rfl,mZ⟩
    have rJ:=mZ.le
    have lr:=hj.ad (mZ.ad _ Zo) (mZ.ad _ Zo)
    rw[qJ]at U
    simp only[wy,xN]at U
    by_cases LP:Du.text=[59]
    ·rw[Zp LP]at U
     have cL:decide (Du.text≠[59])=false:=by simp[LP]
     have W4:iA m loc GS (aN.drop (hB+1))=some r->∀(H:da) (gb:R ag),H.g 0=some (.ptr aF 0)->H.g 1=some (.bool loc)->H.g 5=some eP->(∀e,e<is->e≠aF->Z X gb e=Z X dD e)->aS X gb aF bE aN (hB+1)->
      ∃eH,eH<m+1/\∃s ds cR cp,JO X aF bE aN j h loc H gb is s ds cR cp/\ds.length+(aN.drop cp).length<=aN.length/\iA eH loc ds (aN.drop cp)=some r:=by
      intro na H gb t0 t1 t5 aG aoo
      refine⟨m,Zo,eP,GS,iy,hB+1,⟨t0,t1,t5,B1.ad (λe F=> ?_),λe F=>zy (ve e F),aoo,Zo,λb aj bI=> ?_⟩, ?_,na⟩
      ·have:=ve e F
       rw[aG e Zo Zo,mZ.ad e Zo]
      ·rw[aG b Zo (by simpa using bI),mZ.ad b Zo];exact eR.ad b aj bI
      ·simp only[Yy]at aac ⊢;omega
     obtain⟨c,am,bm,ct,a3,a4⟩:=lr.at_
     have Rq:=jw bm a3
     have abD:=jw bm ct
     have jt:=(Zb.1 (fo qJ).1).1
     have c5:=lr.ne
     have bA:=zD hB
     have acO:∀gb,gb=bn X dD aF (some (.cells (dP c 1 [.Z ((hB+1:Nat):Int)]) 2 .own))->aS X gb aF bE aN (hB+1):=by
      rintro gb rfl
      refine lr.on (c:=dP c 1 [.Z ((hB+1:Nat):Int)]) (bv Zo) (λdV st a=>by rw[bm]at a;cases a;exact pM ..) (aK Zo Zo)
     cases loc with
     |false=>
      simp only[Zu,ZD]at U
      have kg:(Du::nR).drop 1=aN.drop (hB+1):=by rw[(fo qJ).2];rfl
      rw[kg]at U
      refine eQ bW.eq_1 @cL @t1 @t0 @Rq @bA @bm ⟨?_⟩
      exact W4 U _ _ (aY t0) (aY t1) (aY t5) (λe I M=>aK Zo M) (acO _ rfl)
     |true=>
      simp only[ZE]at U
      obtain⟨uE,rW,Ez⟩:∃uE rW,nR=uE::rW:=by
       cases nR with
       |nil=>simp[xN]at U
       |cons w gg=>exact⟨w,gg,rfl⟩
      subst Ez
      simp only[xN]at U
      have ce:aN[hB+1]? =some uE:=(fo (fo qJ).2).1
      have E5:=(Zb.1 ce).1
      have σ:=a4.gZ (hB+1) (by rw[Zr];exact E5)
      have XO:aR X dD (.ptr bE ((hB+1)*7+1))=some (.str uE.text):=a4.cell (hB+1) (bW uE) 1 _ (by rw[Zw,ce];rfl) rfl
      by_cases Lt:uE.text=[108,101,116]
      ·rw[Zp Lt]at U
       simp only[ok,Ze]at U
       have cJ:decide (uE.text=[108,101,116])=true:=by simp[Lt]
       refine eQ bW.eq_1 @cL @t1 @t0 @abD @Rq (Za @bA (Za @σ (Za @XO (Za @cJ @t5)))) ⟨?_⟩
       exact fin _ _ (λe I M=>mZ.ad e Zo) Zo (by rw[<-U,qJ]) lr
      ·rw[Zg Lt]at U
       have cJ:decide (uE.text=[108,101,116])=false:=by simp[Lt]
       have kg:(Du::uE::rW).drop 1=aN.drop (hB+1):=by rw[(fo qJ).2];rfl
       rw[kg]at U
       refine eQ bW.eq_1 @cL @t1 @t0 @abD @Rq (Za @bA (Za @σ (Za @XO (Za @cJ @bm)))) ⟨?_⟩
       exact W4 U _ _ (aY t0) (aY t1) (aY t5) (λe I M=>aK Zo M) (acO _ rfl)
    ·rw[Zg LP]at U
     simp only[ok,Ze]at U
     have cL:decide (Du.text≠[59])=true:=by simp[LP]
     refine eW bW.eq_1 @cL @t5 ⟨?_⟩
     exact fin _ _ (λe I M=>mZ.ad e Zo) Zo (by rw[<-U,qJ]) lr
end
def lA{v w:z}(a:gl v=some w):v.cells=[v]/\nV v=true/\z.same 30 v v=true:=by
 cases v with
 |slice b V n c=>exact⟨rfl,rfl,by simp[z.same]⟩
 |fh b V n c=>exact⟨rfl,rfl,by simp[z.same]⟩
 |aV=>exact⟨rfl,rfl,rfl⟩
 |_=>simp[gl]at a
def uG(X:cn)(h:R ag):(Nat->Prop)->List eL->List (List z)->Prop
 |_,[],ba=>ba=[]
 |P,al::b8,ba=>∃row gv bh,ba=row::gv/\(∀e,bh e->P e)/\xY X h bh al row/\uG X h (λe=>P e/\¬bh e) b8 gv
def uG.ad{X:cn}{h S:R ag}:∀{b8:List eL}{ba:List (List z)}{P bh:Nat->Prop}(o:∀e,P e->Z X S e=Z X h e) (az:∀e,P e->bh e),uG X h P b8 ba->uG X S bh b8 ba:=by
 intro b8
 induction b8 with
 |nil=>intro ba P bh o az a;exact a
 |cons al b8 ah=>
  rintro ba P bh o az ⟨row,gv,c7,I,bJ,M,ak⟩
  exact⟨row,gv,c7,I,λe F=>az e (bJ e F),M.ad (λe F=>o e (bJ e F)) (λe F=>F),ah (λe F=>o e F.1) (λe F=>⟨az e F.1,F.2⟩) ak⟩
def xY.len{X:cn}{h:R ag}{P:Nat->Prop}{al:eL}{row:List z}(a:xY X h P al row):row.length=4:=by
 obtain⟨_,_,_,_,_,rfl,_⟩:=a;rfl
def uG.wide{X:cn}{h:R ag}:∀{b8:List eL}{ba:List (List z)}{P:Nat->Prop},uG X h P b8 ba->ba.length=b8.length/\∀r∈ba,r.length=4:=by
 intro b8
 induction b8 with
 |nil=>rintro ba P rfl;simp
 |cons D b8 ah=>
  rintro ba P ⟨mD,gv,c7,rfl,bJ,M,ak⟩
  obtain⟨aA,bq⟩:=ah ak
  refine⟨by simp[aA],λr U=> ?_⟩
  rcases Zq.1 U with rfl|U
  ·exact M.len
  ·exact bq r U
def lD(X:cn)(h:R ag):(Nat->Prop)->List eL->List (List z)->Prop
 |_,[],ba=>ba=[]
 |P,al::b8,ba=>∃row gv bh,ba=row::gv/\(∀e,bh e->P e)/\tl X h bh al row/\lD X h (λe=>P e/\¬bh e) b8 gv
def lD.ad{X:cn}{h S:R ag}:∀{b8:List eL}{ba:List (List z)}{P bh:Nat->Prop}(o:∀e,P e->Z X S e=Z X h e) (az:∀e,P e->bh e),lD X h P b8 ba->lD X S bh b8 ba:=by
 intro b8
 induction b8 with
 |nil=>intro ba P bh o az a;exact a
 |cons al b8 ah=>
  rintro ba P bh o az ⟨row,gv,c7,I,bJ,M,ak⟩
  exact⟨row,gv,c7,I,λe F=>az e (bJ e F),M.ad (λe F=>o e (bJ e F)) (λe F=>F),ah (λe F=>o e F.1) (λe F=>⟨az e F.1,F.2⟩) ak⟩
def lD.snoc{X:cn}{h:R ag}{bh:Nat->Prop}{al:eL}{row:List z}(a:tl X h bh al row):∀{b8:List eL}{ba:List (List z)}{oa P:Nat->Prop},lD X h oa b8 ba->(∀e,oa e->P e)->(∀e,bh e->P e/\¬oa e)->lD X h P (b8++[al]) (ba++[row]):=by
 intro b8
 induction b8 with
 |nil=>rintro ba oa P rfl I M;exact⟨row,[],bh,rfl,λe F=>(M e F).1,a,rfl⟩
 |cons D b8 ah=>
  rintro ba oa P ⟨mD,gv,c7,rfl,bJ,ak,aA⟩ I M
  exact⟨mD,gv++[row],c7,rfl,λe F=>I e (bJ e F),ak,ah aA (λe F=>⟨I e F.1,F.2⟩) (λe F=>⟨⟨(M e F).1,λio=>(M e F).2 (bJ e io)⟩,λoJ=>(M e F).2 oJ.1⟩)⟩
def lD.wide{X:cn}{h:R ag}:∀{b8:List eL}{ba:List (List z)}{P:Nat->Prop},lD X h P b8 ba->ba.length=b8.length/\∀r∈ba,r.length=4:=by
 intro b8
 induction b8 with
 |nil=>rintro ba P rfl;simp
 |cons D b8 ah=>
  rintro ba P ⟨mD,gv,c7,rfl,bJ,M,ak⟩
  obtain⟨aA,bq⟩:=ah ak
  refine⟨by simp[aA],λr U=> ?_⟩
  rcases Zq.1 U with rfl|U
  ·exact M.row.len
  ·exact bq r U
def lD.eqs{X:cn}{h:R ag}:∀{b8:List eL}{ba:List (List z)}{P:Nat->Prop},lD X h P b8 ba->uG X h P b8 ba:=by
 intro b8
 induction b8 with
 |nil=>intro ba P a;exact a
 |cons al b8 ah=>rintro ba P ⟨row,gv,c7,I,bJ,M,ak⟩;exact⟨row,gv,c7,I,bJ,M.row,ah ak⟩
def qw(X:cn)(h:R ag)(P:Nat->Prop)(g:Go.aS.Node)(row:List z):Prop:=∃c1 dn bf ev b0 cy cT fi ba,row=[.str g.name, .Z g.at_,c1,dn,bf,ev]/\ee X h P b0 c1 8 (g.eh.map d6)/\ee X h P cy dn 8 (g.out.map d6)/\ee X h P cT bf 8 (g.loc.map d6)/\ee X h P fi ev 4 ba/\uG X h P g.eqs ba
def qx(X:cn)(h:R ag)(P:Nat->Prop)(g:Go.aS.Node)(row:List z):Prop:=∃(ai:Nat->Nat) (c1 dn bf ev:z) (b0 cy cT fi:Nat) (ba:List (List z)),row=[.str g.name, .Z g.at_,c1,dn,bf,ev]/\gL X h (λe=>P e/\ai e=1) b0 c1 8 (g.eh.map d6)/\gL X h (λe=>P e/\ai e=2) cy dn 8 (g.out.map d6)/\gL X h (λe=>P e/\ai e=3) cT bf 8 (g.loc.map d6)/\gL X h (λe=>P e/\ai e=4) fi ev 4 ba/\lD X h (λe=>P e/\ai e=0) g.eqs ba
def qx.row{X:cn}{h:R ag}{P:Nat->Prop}{g:Go.aS.Node}{row:List z}(a:qx X h P g row):qw X h P g row:=by
 obtain⟨ai,c1,dn,bf,ev,b0,cy,cT,fi,ba,B,I,M,ak,aA,bq⟩:=a
 exact⟨c1,dn,bf,ev,b0,cy,cT,fi,ba,B,I.rd.lift λ_ a=>a.1,M.rd.lift λ_ a=>a.1,ak.rd.lift λ_ a=>a.1,aA.rd.lift λ_ a=>a.1,bq.eqs.ad (λ_ _=>rfl) λ_ a=>a.1⟩
def qx.ad{X:cn}{h S:R ag}{P bh:Nat->Prop}{g:Go.aS.Node}{row:List z}(a:qx X h P g row)(o:∀e,P e->Z X S e=Z X h e)(az:∀e,P e->bh e):qx X S bh g row:=by
 obtain⟨ai,c1,dn,bf,ev,b0,cy,cT,fi,ba,B,I,M,ak,aA,bq⟩:=a
 have dY:∀i e,P e/\ai e=i->Z X S e=Z X h e:=λi e F=>o e F.1
 have II:∀i e,P e/\ai e=i->bh e/\ai e=i:=λi e F=>⟨az e F.1,F.2⟩
 exact⟨ai,c1,dn,bf,ev,b0,cy,cT,fi,ba,B,(I.ad (dY 1)).lift (II 1),(M.ad (dY 2)).lift (II 2),(ak.ad (dY 3)).lift (II 3),(aA.ad (dY 4)).lift (II 4),bq.ad (dY 0) (II 0)⟩
structure sh(X:cn)(h:R ag)(n r1:Nat)(nm:bc)(D:Int)(c1 dn bf:z)(eh out loc:List ep):Prop where
 mr:Z X h r1=zC [.str nm, .Z D,c1,dn,bf, .aV] 6
 lt:r1<n
 xD:∃d4 fk iH b0 cy cT,r1+1<=d4/\d4<=fk/\fk<=iH/\iH<=n/\gL X h (ec (r1+1) d4) b0 c1 8 (eh.map d6)/\gL X h (ec d4 fk) cy dn 8 (out.map d6)/\gL X h (ec fk iH) cT bf 8 (loc.map d6)
def sh.ad{X:cn}{h S:R ag}{n aQ r1:Nat}{nm:bc}{D:Int}{c1 dn bf:z}{eh out loc:List ep}(a:sh X h n r1 nm D c1 dn bf eh out loc)(o:∀e,r1<=e->e<n->Z X S e=Z X h e)(aL:n<=aQ):sh X S aQ r1 nm D c1 dn bf eh out loc:=by
 obtain⟨d4,fk,iH,b0,cy,cT,cH,cB,dN,fx,I,M,ak⟩:=a.xD
 exact⟨by rw[o r1 (Zi _) a.lt];exact a.mr,zy a.lt,d4,fk,iH,b0,cy,cT,cH,cB,dN,Zo,I.ad λe F=>o e (zy F.1) (zy F.2),M.ad λe F=>o e (zy F.1) (zy F.2),ak.ad λe F=>o e (zy F.1) (zy F.2)⟩
section
variable{X:cn}{h S a1 aT:R ag}{j aq aP bk aF bE:Nat}{aN:List Tok}{i:Nat}
def sh.fr{n aQ r1:Nat}{nm:bc}{D:Int}{c1 dn bf:z}{eh out loc:List ep}(a:sh X h n r1 nm D c1 dn bf eh out loc)(fT:co X [aF] h n S aQ)(aj:aF<r1):sh X S aQ r1 nm D c1 dn bf eh out loc:=
 a.ad (λe I M=>fT.ad e M Zx) fT.le
def avG{iX k5:bc}{k:List Tok}:q1 [iX,k5] gJ k=andThen (ed iX k) λ_ k=>ed k5 k:=by
 simp only[q1]
 cases a:ed iX k with
 |none=>rfl
 |some r=>
  cases r with
  |error D=>rfl
  |ok p=>
   obtain⟨x,b6⟩:=p
   simp only[andThen]
   cases ed k5 b6 with
   |none=>rfl
   |some fD=>cases fD with
    |error D=>rfl
    |ok p=>obtain⟨e,c4⟩:=p;rfl
def arN(aB:dR X)(eo:uI X){n:Nat}(rK:n<=200000)(k0:aN.length<=100000)(av:h1 X h j aF bE aN i){r:Except Int (Go.aS.Node×List Tok)}(U:Go.aS.node n (aN.drop i)=some r):
 a7 X 36 [.ptr aF 0] h j (λaa S aq=>∃g cp row,r= .ok (g,aN.drop cp)/\aa= .agg row/\qx X S (ec j aq) g row/\aS X S aF bE aN cp/\co X [aF] h j S aq) (ii X aF h j r):=by
 refine zF aB (afH X) ?_
 rw[afI]
 unfold T6
 have gu:=av.a6
 have jG:=av.g0
 have hz:=av.ci
 have jc:=av.gG
 unfold Go.aS.node at U
 refine cV ⟨?_⟩
 refine e1 (λa1=>Z X a1 (j+1)=zC [.str [110,111,100,101]] 1/\Z X a1 j=zC [.str [], .Z 0, .aV, .aV, .aV, .aV] 6/\bD X h j a1 (j+1+1)) ⟨bv Zo,by exact zP,dL⟩ ?_
 rintro a1 ⟨ax,pW,b4⟩
 have ma:=av.go (av.par.ex b4 Zo Zo) (by omega:j<=j+1+1)
 have hK:co X [aF] h j a1 (j+1+1):=co.of b4
 rcases f0 U with ⟨D,M,rfl⟩|⟨jk,c4,M,U⟩
 ·exact(iZ aB ma Zo Zo ax M).mono zM (λaa S aq a=>a.of hK (λ_ a=>by cases a;rfl))
 refine(iZ aB ma Zo Zo ax M).mono ?_ zL
 clear M
 rintro adR aT bk ⟨ayj,jg,wZ,_,dm,dp⟩
 cases wZ
 have gP:=dp.le
 have u9:=hK.trans dp
 have tJ:Z X aT j=zC [.str [], .Z 0, .aV, .aV, .aV, .aV] 6:=by rw[dp.ad _ Zo Zx];exact pW
 have ft:=av.go dm u9.le
 clear ax pW b4 ma hK dp
 cases sI:aN.drop jg with
 |nil=>rw[sI]at U;simp[ib,andThen]at U
 |cons x eT=>
 rw[sI]at U
 simp only[ib]at U
 refine(As aB ft.a6 ft.par ft.ci ft.g0 ft.gG ft.many (fo sI).1 1).mono ?_ (λFY bY cw a=>by
  obtain⟨aG,rfl,dF⟩:=a
  rw[Zg aG]at U
  simp only[andThen,bad,Ze]at U
  subst U
  exact⟨_,rfl,rfl,u9.trans dF⟩)
 rintro De be bF ⟨aG,rfl,ge,en⟩
 have iT:=en.le
 rw[Zp aG]at U
 simp only[andThen,ok]at U
 rw[<-(fo sI).2]at U
 have sC:Z X be j=zC [.str [], .Z 0, .aV, .aV, .aV, .aV] 6:=by rw[en.ad _ Zo Zx];exact tJ
 have Er:=u9.trans en
 clear tJ en u9 dm ft
 refine cr bW.eq_1 ⟨?_⟩
 refine e1 (λbU=>Z X bU (bF+1+1)=zC [.str [40]] 1/\sh X bU (bF+1+1+1) (bF+1) x.text x.at_ .aV .aV .aV [] [] []/\bD X be bF bU (bF+1+1+1)) ⟨bv Zo,⟨by exact zP,Zo,bF+1+1,bF+1+1,bF+1+1,0,0,0,Zi _,Zi _,Zi _,Zo,gL.nil _ _,gL.nil _ _,gL.nil _ _⟩,dL⟩ ?_
 rintro bU ⟨Bt,acn,dz⟩
 have wL:Z X bU j=zC [.str [], .Z 0, .aV, .aV, .aV, .aV] 6:=by rw[dz.ad _ Zo];exact sC
 have es:=Er.trans (co.of dz)
 have ko:=av.go (ge.ex dz Zo Zo) (by omega:j<=bF+1+1+1)
 clear sC Er ge dz
 change andThen (ed [40] (aN.drop (jg+1))) _=some r at U
 rcases f0 U with ⟨D,M,rfl⟩|⟨jk,c4,M,U⟩
 ·exact(iZ aB ko Zo Zo Bt M).mono zM (λaa S aq a=>a.of es (λ_ a=>by cases a;rfl))
 refine(iZ aB ko Zo Zo Bt M).mono ?_ zL
 clear M
 rintro v5 bY cw ⟨ayk,i5,rF,_,gk,dF⟩
 cases rF
 have iU:=dF.le
 have aco:=acn.fr dF Zo
 have Eg:Z X bY j=zC [.str [], .Z 0, .aV, .aV, .aV, .aV] 6:=by rw[dF.ad _ Zo Zx];exact wL
 have wQ:=es.trans dF
 have nX:=av.go gk wQ.le
 clear acn wL es dF Bt ko
 obtain⟨e,l4,HI,In⟩:=qq U
 refine(nl aB nX HI _).Zm ?_
 rintro adO ck dB ⟨rfl,g8,el⟩
 have qL:=el.le
 have Mr:=aco.fr el Zo
 have yB:Z X ck j=zC [.str [], .Z 0, .aV, .aV, .aV, .aV] 6:=by rw[el.ad _ Zo Zx];exact Eg
 have tM:=wQ.trans el
 clear aco Eg wQ el gk nX
 refine rs bW.eq_1 ⟨?_⟩
 refine jK (λH S aQ=>∃(c1:z) (eh:List ep) (cp:Nat),H.g 0=some (.ptr aF 0)/\H.g 2=some (.ptr j 0)/\H.g 4=some (.ptr (bF+1) 0)/\sh X S aQ (bF+1) x.text x.at_ c1 .aV .aV eh [] []/\Z X S j=zC [.str [], .Z 0, .aV, .aV, .aV, .aV] 6/\aS X S aF bE aN cp/\co X [aF] h j S aQ/\
  (andThen (ed [114,101,116,117,114,110,115] (aN.drop cp)) λ_ k=>andThen (ed [40] k) λ_ k=>andThen (iA n false [] k) λout k=>andThen (ed [41] k) λ_ k=>
   hO [118,97,114] k λe k=>andThen (match e with
    |some _=>andThen (iA n true [] k) λds k=>andThen (ed [59] k) λ_ k=>ok ds k
    |none=>ok [] k) λloc k=>
   andThen (ed [108,101,116] k) λ_ k=>andThen (ll n [] k) λb8 k=>ok (⟨x.text,x.at_,eh,out,loc,b8⟩:Go.aS.Node) k)=some r) (λW bB=> ?_) ?_
 ·rcases In with ⟨aD,U⟩|⟨aD,U⟩
  ·rw[aD]at g8 ⊢
   simp only[ZE]at g8 ⊢
   rw[<-(fo HI).2]at U
   simp only[andThen,ok]at U
   refine cr bW.eq_1 ⟨?_⟩
   refine bB _ _ _ ⟨.aV,[],i5+1,bC,bC,bC,Mr.ad (λe I M=>zE) Zo,by simp(disch:=omega) only[aK];exact yB,g8.ad (zE) (zE), ?_,U⟩
   exact⟨Zo,λb aj bI=>by rw[<-tM.ad b aj bI];exact zE⟩
  ·rw[aD]at g8 ⊢
   simp only[Zu,ZD]at g8 ⊢
   simp only[]at U
   refine dk bW.eq_1 gJ.eq_1 ⟨?_⟩
   refine e1 (λcC=>bD X ck dB cC (dB+1)) dL ?_
   intro cC fa
   have Cz:=Mr.fr (co.of (X:=[aF]) fa) Zo
   have wM:Z X cC j=zC [.str [], .Z 0, .aV, .aV, .aV, .aV] 6:=by rw[fa.ad _ Zo];exact yB
   have eR:=tM.trans (co.of fa)
   have mB:=av.go (g8.ex fa Zo Zo) (by omega:j<=dB+1)
   clear Mr yB tM g8 fa
   rcases f0 U with ⟨D,aE,rfl⟩|⟨eh,aqG,aE,U⟩
   ·rcases f0 aE with ⟨fK,M,ak⟩|⟨ds,nR,M,aE⟩
    ·cases ak
     exact(D2 aB k0 mB M).mono (λaa S aq a=>by obtain⟨B,cp,b,a,_⟩:=a;cases a) (λaa S aq a=>a.of eR (λ_ a=>by cases a;rfl))
    refine(D2 aB k0 mB M).mono ?_ zL
    rintro FZ dS hs ⟨ajG,i8,wq,BK,BY,vq,gD⟩
    cases BK
    have yP:=gD.le
    have Fu:=Cz.fr gD Zo
    obtain⟨gH,l9,s5⟩:=lA BY.rd.len
    refine cV ⟨?_⟩
    have wK:=Fu.mr
    refine gm (sa (V:=2) wK Zo Zo gH l9) ?_
    refine cV ⟨?_⟩
    refine e1 (λdD=>Z X dD hs=zC [.str [41]] 1/\∀e,e<hs->e≠(bF+1)->Z X dD e=Z X dS e) ⟨bv Zo,λe I M=>zE⟩ ?_
    rintro dD ⟨Pu,gf⟩
    have lr:=vq.ad (gf _ Zo Zo) (gf _ Zo Zo)
    have hq:co X [aF] h j dD (hs+1):=⟨Zo,λb aj bI=>by rw[gf b Zo Zo];exact(eR.trans gD).ad b aj bI⟩
    rcases f0 aE with ⟨fK,aA,bq⟩|⟨AM,rW,aA,aE⟩
    ·cases bq
     exact(iZ aB (av.go lr Zo) Zo Zo Pu aA).mono zM (λaa S aq a=>a.of hq (λ_ a=>by cases a;rfl))
    ·cases aE
   ·rcases f0 aE with ⟨fK,M,ak⟩|⟨ds,nR,M,aE⟩
    ·cases ak
    refine(D2 aB k0 mB M).mono ?_ zL
    rintro FZ dS hs ⟨ajG,i8,wq,BK,BY,vq,gD⟩
    cases BK
    have yP:=gD.le
    have Fu:=Cz.fr gD Zo
    obtain⟨gH,l9,s5⟩:=lA BY.rd.len
    refine cV ⟨?_⟩
    have wK:=Fu.mr
    refine gm (sa (V:=2) wK Zo Zo gH l9) ?_
    refine cV ⟨?_⟩
    refine e1 (λdD=>Z X dD hs=zC [.str [41]] 1/\Z X dD (bF+1)=zC [.str x.text, .Z x.at_,FZ, .aV, .aV, .aV] 6/\∀e,e<hs->e≠(bF+1)->Z X dD e=Z X dS e) ⟨bv Zo,by rw[aK Zo Zo,bv Zo];rfl,λe I M=>zE⟩ ?_
    rintro dD ⟨Pu,Ee,gf⟩
    have lr:=vq.ad (gf _ Zo Zo) (gf _ Zo Zo)
    have hq:co X [aF] h j dD (hs+1):=⟨Zo,λb aj bI=>by rw[gf b Zo Zo];exact(eR.trans gD).ad b aj bI⟩
    have aw9:=Cz.lt
    have Fv:sh X dD (hs+1) (bF+1) x.text x.at_ FZ .aV .aV _ [] []:=⟨Ee,Zo,hs,hs,hs,wq,0,0,Zo,Zi _,Zi _,Zo,(BY.ad (λe F=>gf e F.2 (zy F.1))).lift (λe F=>⟨zy F.1,zy F.2⟩),gL.nil _ _,gL.nil _ _⟩
    have u4:Z X dD j=zC [.str [], .Z 0, .aV, .aV, .aV, .aV] 6:=by rw[gf _ Zo Zo,gD.ad _ Zo Zx];exact wM
    rcases f0 aE with ⟨fK,aA,bq⟩|⟨AM,rW,aA,aE⟩
    ·cases bq
    refine(iZ aB (av.go lr Zo) Zo Zo Pu aA).mono ?_ zL
    rintro tg jS up ⟨aeh,abb,P6,_,EO,rz⟩
    cases P6
    cases aE
    exact bB _ _ _ ⟨FZ,_,abb,bC,bC,bC,Fv.fr rz Zo,by rw[rz.ad _ Zo Zx];exact u4,EO,hq.trans rz,U⟩
 ·clear In g8 Mr yB tM U
  rintro H cC e6 ⟨c1,eh,oK,t0,eY,t4,Cz,wM,hj,eR,U⟩
  have Qp:=Cz.lt
  refine cr @t0 ⟨?_⟩
  refine e1 (λdS=>Z X dS e6=zC [.str [114,101,116,117,114,110,115], .str [40]] 2/\bD X cC e6 dS (e6+1)) ⟨bv Zo,dL⟩ ?_
  rintro dS ⟨Bv,jY⟩
  have Fu:=Cz.fr (co.of (X:=[aF]) jY) Zo
  have KS:Z X dS j=zC [.str [], .Z 0, .aV, .aV, .aV, .aV] 6:=by rw[jY.ad _ Zo];exact wM
  have gD:=eR.trans (co.of jY)
  have r6:=av.go (hj.ex jY Zo Zo) (by omega:j<=e6+1)
  clear Cz wM eR hj jY
  have BY:ee X dS (λe=>e=e6) e6 (.slice e6 0 2 2) 1 (g3 [[114,101,116,117,114,110,115],[40]]):=MQ (ba:=[[.str [114,101,116,117,114,110,115]],[.str [40]]]) (st:= .own) Bv rfl Zs Zd rfl
  have bQ:∃xF,q1 [[114,101,116,117,114,110,115],[40]] gJ (aN.drop oK)=some xF/\andThen (some xF) (λ(_:Tok) k=>andThen (iA n false [] k) λout k=>andThen (ed [41] k) λ_ k=>
   hO [118,97,114] k λe k=>andThen (match e with
    |some _=>andThen (iA n true [] k) λds k=>andThen (ed [59] k) λ_ k=>ok ds k
    |none=>ok [] k) λloc k=>
   andThen (ed [108,101,116] k) λ_ k=>andThen (ll n [] k) λb8 k=>ok (⟨x.text,x.at_,eh,out,loc,b8⟩:Go.aS.Node) k)=some r:=by
   rw[avG]
   rcases f0 U with ⟨D,I,rfl⟩|⟨bm,ea,I,U⟩
   ·exact⟨.error D,by rw[I];rfl,rfl⟩
   ·rcases f0 U with ⟨D,M,rfl⟩|⟨ct,c4,M,U⟩
    ·exact⟨.error D,by rw[I];exact M,rfl⟩
    ·exact⟨.ok (ct,c4),by rw[I];exact M,U⟩
  clear U
  obtain⟨xF,bQ,U⟩:=bQ
  refine(ad3 aB r6.a6 r6.par r6.ci r6.g0 r6.gG r6.many Zo Zo BY bQ).mono ?_ (λaa S aq a=>by
   obtain⟨D,rfl,rfl,a⟩:=a
   simp only[andThen,Ze]at U
   subst U
   exact⟨D,rfl,rfl,gD.trans a⟩)
  rintro v9 dD is ⟨AM,i9,rfl,_,lr,hq⟩
  change andThen (iA n false [] (aN.drop i9)) _=some r at U
  have rJ:=hq.le
  have Fv:=Fu.fr hq Zo
  have u4:Z X dD j=zC [.str [], .Z 0, .aV, .aV, .aV, .aV] 6:=by rw[hq.ad _ Zo Zx];exact KS
  have yE:=gD.trans hq
  have Sd:=av.go lr yE.le
  clear Fu KS gD hq BY Bv r6 bQ lr
  refine cr @t0 ⟨?_⟩
  rcases f0 U with ⟨D,M,rfl⟩|⟨out,axH,M,U⟩
  ·exact(D2 aB k0 Sd M).mono (λaa S aq a=>by obtain⟨B,cp,b,a,_⟩:=a;cases a) (λaa S aq a=>a.of yE (λ_ a=>by cases a;rfl))
  refine(D2 aB k0 Sd M).mono ?_ zL
  clear M
  rintro tg jS up ⟨out,abb,aiv,P6,BX,EO,rz⟩
  cases P6
  have awF:=rz.le
  have acl:=Fv.fr rz Zo
  have W7:Z X jS j=zC [.str [], .Z 0, .aV, .aV, .aV, .aV] 6:=by rw[rz.ad _ Zo Zx];exact u4
  have Xp:=yE.trans rz
  obtain⟨gH,l9,s5⟩:=lA BX.rd.len
  have awW:=Fv.lt
  refine cr @t4 ⟨?_⟩
  refine gm (sa (V:=3) acl.mr Zo Zo gH l9) ?_
  refine cr @t0 ⟨?_⟩
  refine e1 (λjT=>Z X jT up=zC [.str [41]] 1/\Z X jT (bF+1)=zC [.str x.text, .Z x.at_,c1,tg, .aV, .aV] 6/\∀e,e<up->e≠bF+1->Z X jT e=Z X jS e) ⟨bv Zo,by rw[aK Zo Zo,bv Zo];rfl,λe I M=>zE⟩ ?_
  rintro jT ⟨Pr,Ed,Cd⟩
  have H8:=EO.ad (Cd _ Zo Zo) (Cd _ Zo Zo)
  have u7:co X [aF] h j jT (up+1):=⟨Zo,λb aj bI=>by rw[Cd b Zo Zo];exact Xp.ad b aj bI⟩
  have acm:sh X jT (up+1) (bF+1) x.text x.at_ c1 tg .aV eh out []:=by
   obtain⟨d4,fk,iH,GC,_,_,cH,cB,dN,fx,xd,_,_⟩:=Fv.xD
   exact⟨Ed,Zo,d4,up,up,GC,aiv,0,cH,Zo,Zi _,Zo,xd.ad (λe F=>by have:=F.1;have:=F.2;rw[Cd e Zo Zo,rz.ad e Zo Zx]),(BX.ad (λe F=>Cd e F.2 (zy F.1))).lift (λe F=>⟨zy F.1,zy F.2⟩),gL.nil _ _⟩
  have W8:Z X jT j=zC [.str [], .Z 0, .aV, .aV, .aV, .aV] 6:=by rw[Cd _ Zo Zo];exact W7
  clear Fv acl u4 W7 yE rz Xp BX EO Cd Ed Sd
  rcases f0 U with ⟨D,aA,rfl⟩|⟨aye,axJ,aA,U⟩
  ·exact(iZ aB (av.go H8 Zo) Zo Zo Pr aA).mono zM (λaa S aq a=>a.of u7 (λ_ a=>by cases a;rfl))
  refine(iZ aB (av.go H8 Zo) Zo Zo Pr aA).mono ?_ zL
  clear aA
  rintro ax9 A0 RV ⟨ayf,abc,amQ,_,aax,Hm⟩
  cases amQ
  have Qn:=Hm.le
  have RX:=acm.fr Hm Zo
  have W9:Z X A0 j=zC [.str [], .Z 0, .aV, .aV, .aV, .aV] 6:=by rw[Hm.ad _ Zo Zx];exact W8
  have PB:=u7.trans Hm
  have acP:=av.go aax PB.le
  clear acm W8 u7 Hm H8 Pr aax
  refine cr @t0 ⟨?_⟩
  obtain⟨e,axK,XR,aa7⟩:=qq U
  refine(nl aB acP XR _).Zm ?_
  rintro ax7 U7 Mm ⟨rfl,yT,Hn⟩
  have awG:=Hn.le
  have Mp:=RX.fr Hn Zo
  have KO:Z X U7 j=zC [.str [], .Z 0, .aV, .aV, .aV, .aV] 6:=by rw[Hn.ad _ Zo Zx];exact W9
  have KX:=PB.trans Hn
  have awR:=RX.lt
  clear RX W9 PB Hn acP U
  refine rs bW.eq_1 ⟨?_⟩
  refine jK (λH S aQ=>∃(bf:z) (loc:List ep) (cp:Nat),H.g 0=some (.ptr aF 0)/\H.g 2=some (.ptr j 0)/\H.g 4=some (.ptr (bF+1) 0)/\sh X S aQ (bF+1) x.text x.at_ c1 tg bf eh out loc/\Z X S j=zC [.str [], .Z 0, .aV, .aV, .aV, .aV] 6/\aS X S aF bE aN cp/\co X [aF] h j S aQ/\
   (andThen (ed [108,101,116] (aN.drop cp)) λ_ k=>andThen (ll n [] k) λb8 k=>ok (⟨x.text,x.at_,eh,out,loc,b8⟩:Go.aS.Node) k)=some r) (λW bB=> ?_) ?_
  ·rcases aa7 with ⟨aD,U⟩|⟨aD,U⟩
   ·rw[aD]at yT ⊢
    simp only[ZE]at yT ⊢
    rw[<-(fo XR).2]at U
    simp only[]at U
    refine dk bW.eq_1 @t0 ⟨?_⟩
    refine e1 (λDF=>bD X U7 Mm DF (Mm+1)) dL ?_
    intro DF Hj
    have Ft:=Mp.fr (co.of (X:=[aF]) Hj) Zo
    have KP:Z X DF j=zC [.str [], .Z 0, .aV, .aV, .aV, .aV] 6:=by rw[Hj.ad _ Zo];exact KO
    have Ho:=KX.trans (co.of Hj)
    have asJ:=av.go (yT.ex Hj Zo Zo) (by omega:j<=Mm+1)
    clear Mp KO KX yT Hj
    have La:∃rd,iA n true [] (aN.drop (abc+1))=some rd/\(match rd with
     | .error D=>r= .error D
     | .ok (ds,k)=>∃xF,ed [59] k=some xF/\(match xF with
       | .error D=>r= .error D
       | .ok (_,k)=>(andThen (ed [108,101,116] k) λ_ k=>andThen (ll n [] k) λb8 k=>ok (⟨x.text,x.at_,eh,out,ds,b8⟩:Go.aS.Node) k)=some r)):=by
     rcases f0 U with ⟨D,aE,rfl⟩|⟨loc,aqG,aE,U⟩
     ·rcases f0 aE with ⟨fK,M,ak⟩|⟨ds,nR,M,aE⟩
      ·cases ak;exact⟨_,M,rfl⟩
      ·rcases f0 aE with ⟨fK,aA,bq⟩|⟨AM,rW,aA,aE⟩
       ·cases bq;exact⟨_,M,_,aA,rfl⟩
       ·cases aE
     ·rcases f0 aE with ⟨fK,M,ak⟩|⟨ds,nR,M,aE⟩
      ·cases ak
      ·rcases f0 aE with ⟨fK,aA,bq⟩|⟨AM,rW,aA,aE⟩
       ·cases bq
       ·cases aE;exact⟨_,M,_,aA,U⟩
    obtain⟨rd,M,aaN⟩:=La
    refine(D2 aB k0 asJ M).mono ?_ (λaa S aq a=>by
     obtain⟨D,rfl,rfl,a⟩:=a
     subst aaN
     exact⟨D,rfl,rfl,Ho.trans a⟩)
    rintro S8 JU IS ⟨ds,axw,aiw,rfl,aaL,aoe,wP⟩
    obtain⟨xF,aA,EW⟩:=aaN
    have awH:=wP.le
    have Mq:=Ft.fr wP Zo
    have KQ:Z X JU j=zC [.str [], .Z 0, .aV, .aV, .aV, .aV] 6:=by rw[wP.ad _ Zo Zx];exact KP
    have al9:=Ho.trans wP
    obtain⟨fg,hc,vM⟩:=lA aaL.rd.len
    refine cr @t4 ⟨?_⟩
    refine gm (sa (V:=4) Mq.mr Zo Zo fg hc) ?_
    refine cr @t0 ⟨?_⟩
    refine e1 (λjT=>Z X jT IS=zC [.str [59]] 1/\Z X jT (bF+1)=zC [.str x.text, .Z x.at_,c1,tg,S8, .aV] 6/\∀e,e<IS->e≠bF+1->Z X jT e=Z X JU e) ⟨bv Zo,by rw[aK Zo Zo,bv Zo];rfl,λe I M=>zE⟩ ?_
    rintro x7 ⟨alE,alj,Fb⟩
    have LB:=aoe.ad (Fb _ Zo Zo) (Fb _ Zo Zo)
    have yD:co X [aF] h j x7 (IS+1):=⟨Zo,λb aj bI=>by rw[Fb b Zo Zo];exact al9.ad b aj bI⟩
    have IY:sh X x7 (IS+1) (bF+1) x.text x.at_ c1 tg S8 eh out ds:=by
     obtain⟨d4,fk,iH,GC,Od,_,cH,cB,dN,fx,xd,ls,_⟩:=Ft.xD
     have dY:∀e,bF+1<e->e<Mm+1->Z X x7 e=Z X DF e:=λe I M=>by rw[Fb e Zo Zo,wP.ad e Zo Zx]
     exact⟨alj,Zo,d4,fk,IS,GC,Od,aiw,cH,cB,Zo,Zo,xd.ad (λe F=>dY e (zy F.1) (zy F.2)),ls.ad (λe F=>dY e (zy F.1) (zy F.2)),(aaL.ad (λe F=>Fb e F.2 (zy F.1))).lift (λe F=>⟨zy F.1,zy F.2⟩)⟩
    have KR:Z X x7 j=zC [.str [], .Z 0, .aV, .aV, .aV, .aV] 6:=by rw[Fb _ Zo Zo];exact KQ
    refine(iZ aB (av.go LB Zo) Zo Zo alE aA).mono ?_ (λaa S aq a=>by
     obtain⟨D,rfl,rfl,a⟩:=a
     subst EW
     exact⟨D,rfl,rfl,yD.trans a⟩)
    rintro ayb Gq IT ⟨ayi,y4,rfl,_,QH,Ep⟩
    exact bB _ _ _ ⟨S8,ds,y4,aY t0,aY eY,aY t4,IY.fr Ep Zo,by rw[Ep.ad _ Zo Zx];exact KR,QH,yD.trans Ep,EW⟩
   ·rw[aD]at yT ⊢
    simp only[Zu,ZD]at yT ⊢
    simp only[andThen,ok]at U
    refine dk bW.eq_1 gJ.eq_1 ⟨?_⟩
    refine bB _ _ _ ⟨.aV,[],abc,aY t0,aY eY,aY t4,Mp.ad (λe I M=>zE) Zo,by simp(disch:=omega) only[aK];exact KO,yT.ad (zE) (zE), ?_,U⟩
    exact⟨Zo,λb aj bI=>by rw[<-KX.ad b aj bI];exact zE⟩
  ·clear aa7 yT Mp KO KX t0 eY t4
   rintro H DF Mn ⟨bf,loc,axv,t0,eY,t4,Ft,KP,aay,Ho,U⟩
   have awS:=Ft.lt
   refine cr @t0 ⟨?_⟩
   refine e1 (λdS=>Z X dS Mn=zC [.str [108,101,116]] 1/\bD X DF Mn dS (Mn+1)) ⟨bv Zo,dL⟩ ?_
   rintro JU ⟨Ps,Bz⟩
   have Mq:=Ft.fr (co.of (X:=[aF]) Bz) Zo
   have KQ:Z X JU j=zC [.str [], .Z 0, .aV, .aV, .aV, .aV] 6:=by rw[Bz.ad _ Zo];exact KP
   have wP:=Ho.trans (co.of Bz)
   have Sc:=av.go (aay.ex Bz Zo Zo) (by omega:j<=Mn+1)
   clear Ft KP Ho aay Bz
   rcases f0 U with ⟨D,aA,rfl⟩|⟨ayg,axL,aA,U⟩
   ·exact(iZ aB Sc Zo Zo Ps aA).mono zM (λaa S aq a=>a.of wP (λ_ a=>by cases a;rfl))
   refine(iZ aB Sc Zo Zo Ps aA).mono ?_ zL
   clear aA
   rintro aya x7 kl ⟨ayh,i16,amR,_,LB,yD⟩
   cases amR
   have awI:=yD.le
   have IY:=Mq.fr yD Zo
   have KR:Z X x7 j=zC [.str [], .Z 0, .aV, .aV, .aV, .aV] 6:=by rw[yD.ad _ Zo Zx];exact KQ
   have Xq:=wP.trans yD
   have awT:=IY.lt
   clear Mq KQ wP yD Sc Ps
   obtain⟨F1,F2,avT,GC,Od,VM,axs,Io,axt,axu,xd,ls,rP⟩:=IY.xD
   obtain⟨uC,FW,De⟩:=lA xd.rd.len
   obtain⟨mM,pJ,ayd⟩:=lA ls.rd.len
   obtain⟨g4,gK,z3⟩:=lA rP.rd.len
   refine gQ ?_
   refine f6 (λm H S aQ=>∃(ev:z) (b8:List eL) (ba:List (List z)) (cR:List Nat) (cp:Nat),H.g 0=some (.ptr aF 0)/\H.g 2=some (.ptr j 0)/\H.g 4=some (.ptr (bF+1) 0)/\Z X S (bF+1)=zC [.str x.text, .Z x.at_,c1,tg,bf,ev] 6/\
    (∀e,bF+2<=e->e<kl->Z X S e=Z X x7 e)/\gU X S ev 4 ba.flatten cR/\(∀e∈cR,kl<=e/\e<aQ)/\lD X S (uu kl aQ cR) b8 ba/\Z X S j=zC [.str [], .Z 0, .aV, .aV, .aV, .aV] 6/\aS X S aF bE aN cp/\co X [aF] h j S aQ/\kl<=aQ/\b8.length+m<=n/\
    (andThen (ll m b8 (aN.drop cp)) λb8 k=>ok (⟨x.text,x.at_,eh,out,loc,b8⟩:Go.aS.Node) k)=some r)
    n ⟨.aV,[],[],[],i16,t0,eY,t4,IY.mr,λ_ _ _=>rfl, .inl (.inl ⟨rfl,rfl,rfl⟩),Zs,rfl,KR,LB,Xq,Zi _,Zs,U⟩ ?_
   clear U LB KR Xq t0 eY t4
   rintro m H Gq IT ⟨ev,b8,ba,cR,y4,t0,eY,t4,Pd,abE,LR,tR,LK,Xa,QH,Ep,awJ,awY,U⟩
   cases m with
   |zero=>simp[ll,andThen]at U
   |succ m=>
   unfold ll at U
   have asK:=av.go QH Ep.le
   refine gQ ?_
   refine cr @t0 ⟨?_⟩
   have Ig:∃e k,aN.drop y4=e::k/\((gI e [116,101,108]=true/\ok (⟨x.text,x.at_,eh,out,loc,b8⟩:Go.aS.Node) k=some r)\/(gI e [116,101,108]=false/\(andThen (andThen (tC m (aN.drop y4)) λal k=>ll m (b8++[al]) k) λb8 k=>ok (⟨x.text,x.at_,eh,out,loc,b8⟩:Go.aS.Node) k)=some r)):=by
    rcases f0 U with ⟨D,I,rfl⟩|⟨ac0,b6,I,U⟩
    ·obtain⟨e,k,M,ak⟩:=qq I
     rcases ak with ⟨ak,aA⟩|⟨ak,aA⟩
     ·cases aA
     ·exact⟨e,k,M, .inr ⟨ak,by rw[show(andThen (tC m (aN.drop y4)) λal k=>ll m (b8++[al]) k)=some (.error D) from aA];rfl⟩⟩
    ·obtain⟨e,k,M,ak⟩:=qq I
     rcases ak with ⟨ak,aA⟩|⟨ak,aA⟩
     ·cases aA
      exact⟨e,_,M, .inl ⟨ak,U⟩⟩
     ·exact⟨e,k,M, .inr ⟨ak,by rw[show(andThen (tC m (aN.drop y4)) λal k=>ll m (b8++[al]) k)=some (.ok (ac0,b6)) from aA];exact U⟩⟩
   clear U
   obtain⟨e,axM,XS,apk⟩:=Ig
   refine(nl aB asK XS _).Zm ?_
   rintro ax8 A1 vH ⟨rfl,ue,PC⟩
   have awK:=PC.le
   have Ix:∀e,j<=e->e<IT->Z X A1 e=Z X Gq e:=λe I M=>PC.ad e M Zx
   have Xr:=Ep.trans PC
   rcases apk with ⟨aD,U⟩|⟨aD,U⟩
   ·rw[aD]at ue ⊢
    simp only[ZE]at ue ⊢
    simp only[ok,Ze]at U
    subst U
    obtain⟨bA,cg,eN⟩:=gU.one LR
    have Pe:Z X A1 (bF+1)=zC [.str x.text, .Z x.at_,c1,tg,bf,ev] 6:=by rw[Ix _ Zo Zo];exact Pd
    have alA:Z X A1 j=zC [.str [], .Z 0, .aV, .aV, .aV, .aV] 6:=by rw[Ix _ Zo Zo];exact Xa
    refine hT bW.eq_1 @t4 (bS Pe) @eY ⟨?_⟩
    refine gm (j8 (o:=6) (b:=j) (V:=0) (n:=6) (c:=R.ofList [.str [], .Z 0, .aV, .aV, .aV, .aV] 0 .nil) (by simp(disch:=omega) only[aK];exact alA) Zo rfl Zd Zd (by simp[z.cells,iI,FW,pJ,gK,cg,show nV (.Z x.at_)=true from rfl,show nV (.str x.text)=true from rfl])) ?_
    refine cr @eY ⟨?_⟩
    have Ce:∀gb,(∀e,j<e->e<vH->Z X gb e=Z X A1 e)->∀e,j<e->e<IT->Z X gb e=Z X Gq e:=λgb a e I M=>by rw[a e I Zo,Ix e Zo M]
    generalize Xy:bn X _ j _=gb
    have L7:∀e,e≠j->e<vH->Z X gb e=Z X A1 e:=λe I M=>by rw[<-Xy];exact zE
    clear Xy
    have Rp:=Ce gb (λe I M=>L7 e Zo M)
    have sO:=LK.wide
    obtain⟨aiC,vv⟩:=(LR.ad (S:=gb) (λe F=>Rp e (zy (tR e F)) (tR e F).2)).MR Zd sO.2 (by rw[sO.1];omega) (ef:=λe=>ec j (vH+1) e/\e∈cR) (λe F=>by have:=tR e F;exact⟨⟨Zo,Zo⟩,F⟩)
    have df:∀e,ec (bF+1+1) kl e->Z X gb e=Z X x7 e:=λe F=>by
     have I:=F.1;have M:=F.2
     rw[Rp e Zo Zo];exact abE e Zo M
    have m7:∀e,e<kl->e∉cR:=λe I M=>zy (tR e M)
    refine⟨_,y4+1,_,by rw[(fo XS).2],rfl,⟨λe=>if e∈cR then 4 else if kl<=e then 0 else if e<F1 then 1 else if e<F2 then 2 else 3,c1,tg,bf,ev,GC,Od,VM,aiC,ba,rfl, ?_, ?_, ?_,vv.lift λe F=>⟨F.1,Zp F.2⟩, ?_⟩, ?_, ?_⟩
    ·refine(xd.ad λe F=>df e ⟨F.1,zy F.2⟩).lift λe F=>⟨⟨zy F.1,zy F.2⟩, ?_⟩
     have I:=F.1;have M:=F.2
     simp only[]
     rw[Zg (m7 e Zo),Zg Zo,Zp M]
    ·refine(ls.ad λe F=>df e ⟨zy F.1,zy F.2⟩).lift λe F=>⟨⟨zy F.1,zy F.2⟩, ?_⟩
     have I:=F.1;have M:=F.2
     simp only[]
     rw[Zg (m7 e Zo),Zg Zo,Zg Zo,Zp M]
    ·refine(rP.ad λe F=>df e ⟨zy F.1,zy F.2⟩).lift λe F=>⟨⟨zy F.1,zy F.2⟩, ?_⟩
     have I:=F.1;have M:=F.2
     simp only[]
     rw[Zg (m7 e Zo),Zg Zo,Zg Zo,Zg Zo]
    ·refine LK.ad (λe F=>Rp e (zy F.1) F.2.1) (λe F=>⟨⟨zy F.1,zy F.2.1⟩, ?_⟩)
     simp only[]
     rw[Zg F.2.2,Zp F.1]
    ·exact ue.ad (L7 _ Zo Zo) (L7 _ Zo Zo)
    ·exact⟨Zo,λb aj bI=>by rw[L7 b Zo Zo];exact Xr.ad b aj bI⟩
   ·rw[aD]at ue ⊢
    simp only[Zu,ZD]at ue ⊢
    obtain⟨bA,cg,eN⟩:=gU.one LR
    have Pe:Z X A1 (bF+1)=zC [.str x.text, .Z x.at_,c1,tg,bf,ev] 6:=by rw[Ix _ Zo Zo];exact Pd
    refine gV bW.eq_1 gJ.eq_1 @t4 (bS Pe) @t0 ⟨?_⟩
    refine e1 (λNR=>bD X A1 vH NR (vH+1+8)) dL ?_
    intro NR Pz
    have apZ:∀e,j<=e->e<IT->Z X NR e=Z X Gq e:=λe I M=>by rw[Pz.ad e Zo];exact Ix e I M
    have Xs:=Xr.trans (co.of Pz)
    have asL:=av.go (ue.ex Pz Zo Zo) (by omega:j<=vH+1+8)
    have aoL:∃CS,tC m (aN.drop y4)=some CS/\(match CS with
     | .error D=>r= .error D
     | .ok (al,k)=>(andThen (ll m (b8++[al]) k) λb8 k=>ok (⟨x.text,x.at_,eh,out,loc,b8⟩:Go.aS.Node) k)=some r):=by
     rcases f0 U with ⟨D,I,rfl⟩|⟨ac0,b6,I,U⟩
     ·rcases f0 I with ⟨fK,M,ak⟩|⟨al,k,M,ak⟩
      ·cases ak;exact⟨_,M,rfl⟩
      ·exact⟨_,M,by show andThen _ _=_;rw[ak];rfl⟩
     ·rcases f0 I with ⟨fK,M,ak⟩|⟨al,k,M,ak⟩
      ·cases ak
      ·exact⟨_,M,by show andThen _ _=_;rw[ak];exact U⟩
    obtain⟨CS,I,g9⟩:=aoL
    refine(akb aB eo Zo asL I).mono ?_ (λaa S aq a=>by
     obtain⟨D,rfl,rfl,a⟩:=a
     subst g9
     exact⟨D,rfl,rfl,Xs.trans a⟩)
    rintro ayc Gr acd ⟨al,apw,row,rfl,rfl,QQ,aof,PD⟩
    have awL:=PD.le
    have ama:=Xs.trans PD
    have Iy:∀e,j<=e->e<IT->Z X Gr e=Z X Gq e:=λe I M=>by rw[PD.ad e Zo Zx];exact apZ e I M
    have WY:Z X Gr (bF+1)=zC [.str x.text, .Z x.at_,c1,tg,bf,ev] 6:=by rw[Iy _ Zo Zo];exact Pd
    have aoK:=QQ.row.len
    obtain⟨iW,eX,fD,hD,rfl⟩:∃iW eX fD hD,row=[iW,eX,fD,hD]:=by
     match row,aoK with
     |[D,b,c,d],_=>exact⟨D,b,c,d,rfl⟩
    have qb:iI [iW,eX,fD,hD]=true:=by obtain⟨_,_,_,_,_,_,I,_,_,_,bq⟩:=QQ;exact bq
    refine cr (bS WY) ⟨?_⟩
    refine iY eN ?_
    have jJ:kS X (bn X Gr (vH+1+4) (zC [iW,eX,fD,hD] 4)) 4 (.slice (vH+1+4) 0 1 1)=some (1,[iW,eX,fD,hD]):=td (bv Zo) (pt _) rfl _
    have sO:=LK.wide
    have sJ:=u0 sO.2
    obtain⟨at1,JV,iy,j0,aaU,K4,anu⟩:=(LR.ad (S:=bn X Gr (vH+1+4) (zC [iW,eX,fD,hD] 4)) (λe F=>by have:=tR e F;rw[aK Zo Zo];exact Iy e Zo Zo)).append (j:=acd) Zd jJ rfl Zd qb (by rw[sJ,sO.1];simp only[ZG,ZY];omega) Zo (λe F=>zy (tR e F))
    refine mc j0 ?_
    obtain⟨ez,e5,f3⟩:=kc.one aaU
    have Aa:∀e,e<acd->e≠vH+1+4->e∉cR->Z X JV e=Z X Gr e:=λe I M ak=>by rw[anu e Zo ak,aK Zo M]
    have dH:∀e,e<kl->e∉cR:=λe I M=>zy (tR e M)
    have alm:Z X JV (bF+1)=zC [.str x.text, .Z x.at_,c1,tg,bf,ev] 6:=by rw[Aa _ Zo Zo (dH _ Zo)];exact WY
    refine cr @t4 ⟨?_⟩
    refine gm (sa (V:=5) alm Zo Zo ez e5) ?_
    have Ab:∀e,e≠bF+1->∀cE,Z X (bn X JV (bF+1) cE) e=Z X JV e:=λe a cE=>aK Zo a
    refine⟨m,Zo,at1,b8++[al],ba++[[iW,eX,fD,hD]],iy,apw,aY t0,aY eY,aY t4,by rw[bv Zo];rfl, ?_, .inl ?_, ?_, ?_, ?_, ?_, ?_,Zo,Zx,g9⟩
    ·intro e I M
     rw[Ab e Zo,Aa e Zo Zo (dH e M),Iy e Zo Zo]
     exact abE e I M
    ·rw[zj,Yi,List.flatten_nil,Z4]
     exact aaU.ad λe F=>Ab e (by rcases K4 e F with rfl|a;omega;have:=tR e a;omega) _
    ·intro e F
     rcases K4 e F with rfl|a
     ·omega
     ·have:=tR e a;omega
    ·refine lD.snoc (QQ.ad (λe F=> ?_) (λe F=>F)) (LK.ad (λe F=> ?_) (λe F=>F)) (λe F=> ?_) (λe F=>⟨?_,λoJ=>by have:=F.1;have:=oJ.2.1;omega⟩)
     ·have I:=F.1;have M:=F.2
      rw[Ab e Zo,Aa e Zo Zo (λa=>zy (tR e a))]
     ·have I:=F.1;have M:=F.2.1
      rw[Ab e Zo,Aa e Zo Zo F.2.2,Iy e Zo Zo]
     ·have I:=F.1;have M:=F.2.1
      refine⟨I,Zo,λa=> ?_⟩
      rcases K4 e a with rfl|a
      ·omega
      ·exact F.2.2 a
     ·have I:=F.1;have M:=F.2
      refine⟨Zo,Zo,λa=> ?_⟩
      rcases K4 e a with rfl|a
      ·omega
      ·have:=tR e a;omega
    ·rw[Ab _ Zo,Aa _ Zo Zo (dH _ Zo),Iy _ Zo Zo];exact Xa
    ·exact aof.ad (by rw[Ab _ Zo,Aa _ Zo Zo (dH _ Zo)]) (by rw[Ab _ Zo,Aa _ Zo Zo (dH _ Zo)])
    ·exact⟨Zo,λb aj bI=>by rw[Ab b Zo,Aa b Zo Zo (dH b Zo)];exact ama.ad b aj bI⟩
end
end
end Go.Proofs.YtbbkkkpgjaopkaaGreatDoor

