/- Part of the proof of the last text; no conditions -/
import Derived.Test.YtendhgofocgngaaGreatDoorYn
set_option maxHeartbeats 8000000
set_option linter.all false
namespace Go.Proofs.YtendhgofocgngaaGreatDoor
open Go.bn Go.aT
noncomputable section
section
variable{X:co}{h R aU aQ:S ai}{j ap aL bc aH bM:Nat}{aO:List Tok}{i:Nat}
def awZ(az:dN X){n:Nat}(ag:∀m,m<n+1->qK X aH bM aO m){r:Except Int (bs×List Tok)}(av:iG X h j aH bM aO i){x:Tok}{k:List Tok}(aI:aO.drop i=x::k)(aC:x.kind=3)(V:Go.aT.part (n+1) (x::k)=some r):
 ba X 171 [.ptr aH 0] h j (jV X aH bM aO h j r) (iT X aH h j r):=by
 refine zJ az (Ap X) ?_
 rw[Aq]
 unfold xu
 have gL:=av.bf
 have ki:=av.hp
 have hc:=av.ck
 have jL:=av.gY
 obtain⟨af,j2⟩:=fx aI
 unfold Go.aT.part at V
 refine(ru az av.bf av.par av.hp av.gY af).Zm ?_
 rintro ac aU aL ⟨rfl,cb⟩
 have jn:=cb.le
 have ec:=av.par.ex cb Zo Zo
 obtain⟨c,am,bd,ca,a3,a4⟩:=ec.at_
 have bJ:=j7 bd a3
 have jx:=(Zb.1 af).1
 have uY:=av.many
 have cK:=ec.ne
 have bw:=zH i
 refine gb b6.eq_1 @bJ (Za @bw @bd) ⟨?_⟩
 generalize dG:bp X _ aH _=aQ
 have eE:Z X aQ aL=zG (b6 x) 7:=by rw[<-dG];simp(disch:=omega) only[aJ,bz]<;>rfl
 have iK:Z X aQ (aL+1)=zG (gR 0 x.at_ [] false dC 0 .a2) 9:=by rw[<-dG];simp(disch:=omega) only[aJ,bz]<;>rfl
 have dq:aT X aQ aH bM aO (i+1):=by
  refine ec.on (c:=dM c 1 [.Z ((i+1:Nat):Int)]) ?_ (λdE st a=>by rw[bd]at a;cases a;exact rI ..) ?_
  ·rw[<-dG];simp(disch:=omega) only[aJ,bz];rfl
  ·rw[<-dG];simp(disch:=omega) only[aJ]
 have dy:cx X [aH] h j aQ (aL+2):=by
  refine⟨Zo,λb ah bT=> ?_⟩
  rw[<-cb.ad b ah, <-dG]
  simp only[Zr,ZL,Y0,Yx,ZI,Yj]at bT
  simp(disch:=omega) only[aJ]
 clear dG bJ bd ca a3 a4 ec cb
 have tq:∃dR,Z X aQ aH=some (.cells dR 2 .own)/\aV X aQ (.ptr aH 1)=some (.Z ((i+1:Nat):Int)):=by
  obtain⟨c,am,ch,cD,di,f4⟩:=dq.at_
  exact⟨c,ch,j7 ch di⟩
 have fB:=av.go dq (by omega:j<=aL+1+1)
 refine iw (λI R aP=>∃v,I.g 4=some v/\jV X aH bM aO h j r v R aP) (λW bx=> ?_) (by
  rintro I R aP ⟨v,t4,a⟩
  refine cq @t4 ⟨?_⟩
  exact a)
 rw[Zg (by rw[aC];decide),Zg (by simp[aC]),Zg (by rw[aC];decide),Zq aC]at V
 have fG:decide (x.kind=5)=false:=by simp[aC]
 have cE:decide (x.kind=2)=false:=by simp[aC]
 have cI:decide (x.kind=1)=false:=by simp[aC]
 have eV:decide (x.kind=3)=true:=by simp[aC]
 refine eD (bX eE) @iK @fG @cE @cI @eV b6.eq_1 ⟨?_⟩
 refine ka (by simp[z.same,pK]) ?_
 refine ey (bX eE) @iK b6.eq_1 ⟨?_⟩
 refine ff (λbr=>Z X br (aL+1+1+10)=zG [.str [40]] 1/\Z X br (aL+1)=zG (gR 26 x.at_ [] false x.ty 0 .a2) 9/\aT X br aH bM aO (i+1)/\cx X [aH] h j br (aL+1+1+10+1)) ⟨bz Zo, ?_, ?_, ?_⟩ ?_
 ·simp(disch:=omega) only[aJ,bz]<;>rfl
 ·exact dq.ad (zI) (zI)
 ·exact⟨Zo,λb ah bT=>by rw[<-dy.ad b ah bT];exact zI⟩
 clear dq fB dy eE iK tq
 rintro br ⟨aE,iK,gx,eF⟩
 have nc:=av.go gx (by omega:j<=aL+1+1+10+1)
 rw[<-j2]at V
 rcases gi V with ⟨E,ay,rfl⟩|⟨ln,fI,ay,V⟩
 ·exact(jG az nc Zo Zo aE ay).mono (λac R ap a=>by obtain⟨B,cC,a,_⟩:=a;cases a) (λac R ap a=>a.of eF (λ_ a=>by cases a;rfl))
 refine(jG az nc Zo Zo aE ay).mono ?_ (λac R ap a=>by obtain⟨E,a,_⟩:=a;cases a)
 rintro v4 b0 cU ⟨aAi,i4,o4,_,hd,eJ⟩
 cases o4
 have jy:=eJ.le
 have kY:=nc.go hd jy
 have x2:=eF.trans eJ
 rcases gi V with ⟨E,be,rfl⟩|⟨n9,fA,be,V⟩
 ·exact((ag n Zo).arrow b0 _ _ _ kY be).mono (λac R ap a=>by obtain⟨B,cC,a,_⟩:=a;cases a) (λac R ap a=>a.of x2 (λ_ a=>by cases a;rfl))
 refine((ag n Zo).arrow b0 _ _ _ kY be).mono ?_ (λac R ap a=>by obtain⟨E,a,_⟩:=a;cases a)
 rintro v5 b5 cA ⟨Ml,i5,sr,d1,gy,dT⟩
 cases sr
 have jz:=dT.le
 have oC:=kY.go gy jz
 have qc:=x2.trans dT
 obtain⟨mj,rfl,ol,_⟩:=d1.ptr
 have ol:=ol.2
 have qY:Z X b5 (aL+1)=zG (gR 26 x.at_ [] false x.ty 0 .a2) 9:=by rw[dT.ad _ Zo (by simp;omega),eJ.ad _ Zo (by simp;omega)];exact iK
 refine cq @qY ⟨?_⟩
 refine ff (λcp=>Z X cp (cA+1)=zG [.str [41]] 1/\Z X cp cA=zG [.ptr mj 0] 1/\Z X cp (aL+1)=zG (gR 26 x.at_ [] false x.ty 0 (.slice cA 0 1 1)) 9/\cm X cp (du cU cA) n9 (.ptr mj 0)/\aT X cp aH bM aO i5/\cx X [aH] h j cp (cA+1+1)) ⟨bz Zo, ?_, ?_, ?_, ?_, ?_⟩ ?_
 ·simp(disch:=omega) only[aJ,bz]<;>rfl
 ·simp(disch:=omega) only[aJ,bz]<;>rfl
 ·refine cm.ex d1 (λe H K=> ?_) Zo Zo
  simp(disch:=omega) only[aJ]
 ·exact gy.ad (zI) (zI)
 ·exact⟨Zo,λb ah bT=>by rw[<-qc.ad b ah bT];exact zI⟩
 clear d1 gy qY dT
 rintro cp ⟨IM,ao6,si,eQ,he,ez⟩
 have mi:=av.go he (by omega:j<=cA+1+1)
 rcases gi V with ⟨E,c9,rfl⟩|⟨vA,lz,c9,V⟩
 ·exact(jG az mi Zo Zo IM c9).mono (λac R ap a=>by obtain⟨B,cC,a,_⟩:=a;cases a) (λac R ap a=>a.of ez (λ_ a=>by cases a;rfl))
 refine(jG az mi Zo Zo IM c9).mono ?_ (λac R ap a=>by obtain⟨E,a,_⟩:=a;cases a)
 rintro Lc cH eh ⟨aAj,mD,yf,_,hK,e4⟩
 cases yf
 have pF:=e4.le
 simp only[ok,Zf]at V
 subst V
 refine bx _ _ _ ⟨.ptr (aL+1) 0,bt,_,mD,rfl,cm.lit (o:=1) (cap:=1) (b:=aL+1) (m:=9) (st:= .own) (ic:= .own) (cj:=cA) (aY:=[.ptr mj 0]) ?_ ⟨Zo,Zo⟩ ?_ ⟨Zo,Zo⟩ rfl Zo Zo (c2.one (cm.ad (λe D=> ?_) _ _ eQ) (λe D=> ?_)),hK,ez.trans e4⟩
 ·rw[e4.ad _ Zo (by simp;omega)];exact si
 ·rw[e4.ad _ Zo (by simp;omega)];exact ao6
 ·have H:=D.1;have K:=D.2
  exact e4.ad e Zo (by simp;omega)
 ·simp only[du]at D ⊢;omega
end
section
variable{X:co}{h R aU aQ:S ai}{j ap aL bc aH bM:Nat}{aO:List Tok}{i:Nat}
def awY(az:dN X){n:Nat}(ag:∀m,m<n+1->qK X aH bM aO m){r:Except Int (bs×List Tok)}(av:iG X h j aH bM aO i){x:Tok}{k:List Tok}(aI:aO.drop i=x::k)(aC:x.kind=6)(bh:x.text=[40])(V:Go.aT.part (n+1) (x::k)=some r):
 ba X 171 [.ptr aH 0] h j (jV X aH bM aO h j r) (iT X aH h j r):=by
 refine zJ az (Ap X) ?_
 rw[Aq]
 unfold xu
 have gL:=av.bf
 have ki:=av.hp
 have hc:=av.ck
 have jL:=av.gY
 obtain⟨af,j2⟩:=fx aI
 unfold Go.aT.part at V
 refine(ru az av.bf av.par av.hp av.gY af).Zm ?_
 rintro ac aU aL ⟨rfl,cb⟩
 have jn:=cb.le
 have ec:=av.par.ex cb Zo Zo
 obtain⟨c,am,bd,ca,a3,a4⟩:=ec.at_
 have bJ:=j7 bd a3
 have jx:=(Zb.1 af).1
 have uY:=av.many
 have cK:=ec.ne
 have bw:=zH i
 refine gb b6.eq_1 @bJ (Za @bw @bd) ⟨?_⟩
 generalize dG:bp X _ aH _=aQ
 have eE:Z X aQ aL=zG (b6 x) 7:=by rw[<-dG];simp(disch:=omega) only[aJ,bz]<;>rfl
 have iK:Z X aQ (aL+1)=zG (gR 0 x.at_ [] false dC 0 .a2) 9:=by rw[<-dG];simp(disch:=omega) only[aJ,bz]<;>rfl
 have dq:aT X aQ aH bM aO (i+1):=by
  refine ec.on (c:=dM c 1 [.Z ((i+1:Nat):Int)]) ?_ (λdE st a=>by rw[bd]at a;cases a;exact rI ..) ?_
  ·rw[<-dG];simp(disch:=omega) only[aJ,bz];rfl
  ·rw[<-dG];simp(disch:=omega) only[aJ]
 have dy:cx X [aH] h j aQ (aL+2):=by
  refine⟨Zo,λb ah bT=> ?_⟩
  rw[<-cb.ad b ah, <-dG]
  simp only[Zr,ZL,Y0,Yx,ZI,Yj]at bT
  simp(disch:=omega) only[aJ]
 clear dG bJ bd ca a3 a4 ec cb
 have tq:∃dR,Z X aQ aH=some (.cells dR 2 .own)/\aV X aQ (.ptr aH 1)=some (.Z ((i+1:Nat):Int)):=by
  obtain⟨c,am,ch,cD,di,f4⟩:=dq.at_
  exact⟨c,ch,j7 ch di⟩
 have fB:=av.go dq (by omega:j<=aL+1+1)
 refine iw (λI R aP=>∃v,I.g 4=some v/\jV X aH bM aO h j r v R aP) (λW bx=> ?_) (by
  rintro I R aP ⟨v,t4,a⟩
  refine cq @t4 ⟨?_⟩
  exact a)
 rw[Zg (by rw[aC];decide),Zg (by simp[aC]),Zg (by rw[aC];decide),Zg (by rw[aC];decide),Zq (by simp[aC,bh])]at V
 have fG:decide (x.kind=5)=false:=by simp[aC]
 have cE:decide (x.kind=2)=false:=by simp[aC]
 have cI:decide (x.kind=1)=false:=by simp[aC]
 have eV:decide (x.kind=3)=false:=by simp[aC]
 have hP:decide (x.kind=6)=true:=by simp[aC]
 have Ix:decide (x.text=[40])=true:=by simp[bh]
 refine eD (bX eE) @iK @fG @cE @cI @eV (Za @hP (Za @Ix b6.eq_1)) ⟨?_⟩
 rw[<-j2]at V
 rcases gi V with ⟨E,be,rfl⟩|⟨n9,fA,be,V⟩
 ·exact((ag n Zo).arrow aQ _ _ _ fB be).mono (λac R ap a=>by obtain⟨B,cC,a,_⟩:=a;cases a) (λac R ap a=>a.of dy (λ_ a=>by cases a;rfl))
 refine((ag n Zo).arrow aQ _ _ _ fB be).mono ?_ (λac R ap a=>by obtain⟨E,a,_⟩:=a;cases a)
 rintro v5 b5 cA ⟨Ml,i5,sr,d1,gy,dT⟩
 cases sr
 have jz:=dT.le
 have oC:=fB.go gy jz
 have qc:=dy.trans dT
 refine cY ⟨?_⟩
 refine ff (λcp=>Z X cp cA=zG [.str [41]] 1/\bG X b5 cA cp (cA+1)) ⟨bz Zo,dS⟩ ?_
 rintro cp ⟨IM,eQ⟩
 have mi:=oC.go (gy.ex eQ Zo Zo) (by omega:cA<=cA+1)
 have ez:=qc.trans (cx.of eQ)
 rcases gi V with ⟨E,c9,rfl⟩|⟨vA,lz,c9,V⟩
 ·exact(jG az mi Zo Zo IM c9).mono (λac R ap a=>by obtain⟨B,cC,a,_⟩:=a;cases a) (λac R ap a=>a.of ez (λ_ a=>by cases a;rfl))
 refine(jG az mi Zo Zo IM c9).mono ?_ (λac R ap a=>by obtain⟨E,a,_⟩:=a;cases a)
 rintro Lc cH eh ⟨aAj,mD,yf,_,hK,e4⟩
 cases yf
 have pF:=e4.le
 simp only[ok,Zf]at V
 subst V
 refine bx _ _ _ ⟨v5,bt,_,mD,rfl,cm.ex d1 (λe H K=>by rw[e4.ad e Zo (by simp;omega),eQ.ad e Zo]) Zo Zo,hK,ez.trans e4⟩
end
section
variable{X:co}{h R aU aQ:S ai}{j ap aL bc aH bM:Nat}{aO:List Tok}{i:Nat}
def awV(az:dN X){n:Nat}(ag:∀m,m<n+1->qK X aH bM aO m){r:Except Int (bs×List Tok)}(av:iG X h j aH bM aO i){x:Tok}{k:List Tok}(aI:aO.drop i=x::k)(aC:x.kind=2)(bh:x.text=[109,101,114,103,101])(V:Go.aT.part (n+1) (x::k)=some r):
 ba X 171 [.ptr aH 0] h j (jV X aH bM aO h j r) (iT X aH h j r):=by
 refine zJ az (Ap X) ?_
 rw[Aq]
 unfold xu
 have gL:=av.bf
 have ki:=av.hp
 have hc:=av.ck
 have jL:=av.gY
 obtain⟨af,j2⟩:=fx aI
 unfold Go.aT.part at V
 refine(ru az av.bf av.par av.hp av.gY af).Zm ?_
 rintro ac aU aL ⟨rfl,cb⟩
 have jn:=cb.le
 have ec:=av.par.ex cb Zo Zo
 obtain⟨c,am,bd,ca,a3,a4⟩:=ec.at_
 have bJ:=j7 bd a3
 have jx:=(Zb.1 af).1
 have uY:=av.many
 have cK:=ec.ne
 have bw:=zH i
 refine gb b6.eq_1 @bJ (Za @bw @bd) ⟨?_⟩
 generalize dG:bp X _ aH _=aQ
 have eE:Z X aQ aL=zG (b6 x) 7:=by rw[<-dG];simp(disch:=omega) only[aJ,bz]<;>rfl
 have iK:Z X aQ (aL+1)=zG (gR 0 x.at_ [] false dC 0 .a2) 9:=by rw[<-dG];simp(disch:=omega) only[aJ,bz]<;>rfl
 have dq:aT X aQ aH bM aO (i+1):=by
  refine ec.on (c:=dM c 1 [.Z ((i+1:Nat):Int)]) ?_ (λdE st a=>by rw[bd]at a;cases a;exact rI ..) ?_
  ·rw[<-dG];simp(disch:=omega) only[aJ,bz];rfl
  ·rw[<-dG];simp(disch:=omega) only[aJ]
 have dy:cx X [aH] h j aQ (aL+2):=by
  refine⟨Zo,λb ah bT=> ?_⟩
  rw[<-cb.ad b ah, <-dG]
  simp only[Zr,ZL,Y0,Yx,ZI,Yj]at bT
  simp(disch:=omega) only[aJ]
 clear dG bJ bd ca a3 a4 ec cb
 have tq:∃dR,Z X aQ aH=some (.cells dR 2 .own)/\aV X aQ (.ptr aH 1)=some (.Z ((i+1:Nat):Int)):=by
  obtain⟨c,am,ch,cD,di,f4⟩:=dq.at_
  exact⟨c,ch,j7 ch di⟩
 have fB:=av.go dq (by omega:j<=aL+1+1)
 refine iw (λI R aP=>∃v,I.g 4=some v/\jV X aH bM aO h j r v R aP) (λW bx=> ?_) (by
  rintro I R aP ⟨v,t4,a⟩
  refine cq @t4 ⟨?_⟩
  exact a)
 rw[Zg (by rw[aC];decide),Zg (by simp[aC,bh]),Zg (by rw[aC];decide),Zg (by rw[aC];decide),Zg (by simp[aC]),Zg (by simp[aC,bh]),Zq (by simp[aC,bh])]at V
 have fG:decide (x.kind=5)=false:=by simp[aC]
 have cE:decide (x.kind=2)=true:=by simp[aC]
 have cI:decide (x.kind=1)=false:=by simp[aC]
 have eV:decide (x.kind=3)=false:=by simp[aC]
 have hP:decide (x.kind=6)=false:=by simp[aC]
 have cP:decide (x.text=[116,114,117,101])=false:=by simp[bh]
 have cG:decide (x.text=[102,97,108,115,101])=false:=by simp[bh]
 have d4:decide (x.text=[105,102])=false:=by simp[bh]
 have fK:decide (x.text=[109,101,114,103,101])=true:=by simp[bh]
 refine eD (bX eE) @iK @fG @cE @cI @eV (Za @hP (Za @cP (Za @cG (Za @d4 (Za @fK b6.eq_1))))) ⟨?_⟩
 rw[<-j2]at V
 cases Dc:aO.drop (i+1)with
 |nil=>rw[Dc]at V;simp[il,andThen]at V
 |cons c fI=>
 rw[Dc]at V
 simp only[il]at V
 refine(BT az fB.bf fB.par fB.ck fB.hp fB.gY fB.many (fx Dc).1 1).mono ?_ ?_
 ·rintro HA b0 cU ⟨gl,rfl,hd,eJ⟩
  have jy:=eJ.le
  rw[Zq gl]at V
  simp only[andThen,ok]at V
  rw[<-(fx Dc).2]at V
  have IJ:Z X b0 (aL+1)=zG (gR 0 x.at_ [] false dC 0 .a2) 9:=by rw[eJ.ad _ Zo (by simp;omega)];exact iK
  have x2:=dy.trans eJ
  refine dd b6.eq_1 @IJ ⟨?_⟩
  refine ff (λbr=>Z X br (aL+1)=zG (gR 24 x.at_ c.text false dC 0 .a2) 9/\aT X br aH bM aO (i+1+1)/\cx X [aH] h j br cU) ⟨?_, ?_, ?_⟩ ?_
  ·simp(disch:=omega) only[aJ,bz]<;>rfl
  ·exact hd.ad (zI) (zI)
  ·exact⟨Zo,λb ah bT=>by rw[<-x2.ad b ah bT];exact zI⟩
  clear IJ hd eJ x2 iK tq dq fB dy eE
  rintro br ⟨iK,gx,eF⟩
  have nc:=av.go gx (by omega:j<=cU)
  cases yo:Go.aT.part n (aO.drop (i+1+1))with
  |none=>rw[yo]at V;cases V
  |some OV=>
  rw[yo]at V
  refine((ag n Zo).part br _ _ _ nc yo).mono ?_ ?_
  ·rintro v5 b5 cA ⟨n9,i5,rfl,d1,gy,dT⟩
   simp only[]at V
   have jz:=dT.le
   have oC:=nc.go gy jz
   have qc:=eF.trans dT
   cases NE:Go.aT.part n (aO.drop i5)with
   |none=>rw[NE]at V;cases V
   |some yT=>
   rw[NE]at V
   refine((ag n Zo).part b5 _ _ _ oC NE).mono ?_ ?_
   ·rintro y8 cp d2 ⟨Iz,hu,rfl,eQ,he,ez⟩
    simp only[Zf]at V
    subst V
    have rb:=ez.le
    obtain⟨mj,rfl,ol,_⟩:=d1.ptr
    obtain⟨B2,rfl,Dn,_⟩:=eQ.ptr
    have si:Z X cp (aL+1)=zG (gR 24 x.at_ c.text false dC 0 .a2) 9:=by rw[ez.ad _ Zo (by simp;omega),dT.ad _ Zo (by simp;omega)];exact iK
    refine cq @si ⟨?_⟩
    refine bx _ _ _ ⟨.ptr (aL+1) 0,bt,_,hu,rfl,cm.lit (o:=2) (cap:=2) (b:=aL+1) (m:=9) (st:= .own) (ic:= .own) (cj:=d2) (aY:=[.ptr mj 0, .ptr B2 0]) ?_ ⟨Zo,Zo⟩ ?_ ⟨Zo,Zo⟩ rfl Zo Zo (c2.two (cm.ad (λe D=> ?_) _ _ d1) (cm.ad (λe D=> ?_) _ _ eQ) (λe D=> ?_) (λe D=> ?_)),he.ad (zI) (zI), ?_⟩
    ·simp(disch:=omega) only[aJ,bz]<;>rfl
    ·simp(disch:=omega) only[aJ,bz]<;>rfl
    ·have H:=D.1;have K:=D.2
     simp(disch:=omega) only[aJ]
     exact ez.ad e Zo (by simp;omega)
    ·have H:=D.1;have K:=D.2
     simp(disch:=omega) only[aJ]
    ·simp only[du]at D ⊢;omega
    ·simp only[du]at D ⊢;omega
    ·exact⟨Zo,λb ah bT=>by rw[<-(qc.trans ez).ad b ah bT];exact zI⟩
   ·rintro y8 cp d2 ⟨E,rfl,rfl,ez⟩
    simp only[Zf]at V
    subst V
    exact⟨E,rfl,rfl,qc.trans ez⟩
  ·rintro v5 b5 cA ⟨E,rfl,rfl,dT⟩
   simp only[Zf]at V
   subst V
   exact⟨E,rfl,rfl,eF.trans dT⟩
 ·rintro HA b0 cU ⟨gl,rfl,eJ⟩
  rw[Zg gl]at V
  simp only[andThen,bad,Zf]at V
  subst V
  exact⟨_,rfl,rfl,dy.trans eJ⟩
end
section
variable{X:co}{h R aU aQ:S ai}{j ap aL bc aH bM:Nat}{aO:List Tok}{i:Nat}
def UD(az:dN X){n:Nat}{r:Except Int (bs×List Tok)}(av:iG X h j aH bM aO i){x:Tok}{k:List Tok}(aI:aO.drop i=x::k)(eS:x.kind≠5)(bJ:x.kind≠1)(cF:x.kind≠3)(eK:x.kind=6->x.text≠[40])(b2:x.kind=2->x.text≠[116,114,117,101]/\x.text≠[102,97,108,115,101]/\x.text≠[105,102]/\x.text≠[109,101,114,103,101])(V:Go.aT.part (n+1) (x::k)=some r):
 ba X 171 [.ptr aH 0] h j (jV X aH bM aO h j r) (iT X aH h j r):=by
 refine zJ az (Ap X) ?_
 rw[Aq]
 unfold xu
 have gL:=av.bf
 have ki:=av.hp
 have hc:=av.ck
 have jL:=av.gY
 obtain⟨af,j2⟩:=fx aI
 unfold Go.aT.part at V
 refine(ru az av.bf av.par av.hp av.gY af).Zm ?_
 rintro ac aU aL ⟨rfl,cb⟩
 have jn:=cb.le
 have ec:=av.par.ex cb Zo Zo
 obtain⟨c,am,bd,ca,a3,a4⟩:=ec.at_
 have bJ:=j7 bd a3
 have jx:=(Zb.1 af).1
 have uY:=av.many
 have cK:=ec.ne
 have bw:=zH i
 refine gb b6.eq_1 @bJ (Za @bw @bd) ⟨?_⟩
 generalize dG:bp X _ aH _=aQ
 have eE:Z X aQ aL=zG (b6 x) 7:=by rw[<-dG];simp(disch:=omega) only[aJ,bz]<;>rfl
 have iK:Z X aQ (aL+1)=zG (gR 0 x.at_ [] false dC 0 .a2) 9:=by rw[<-dG];simp(disch:=omega) only[aJ,bz]<;>rfl
 have dq:aT X aQ aH bM aO (i+1):=by
  refine ec.on (c:=dM c 1 [.Z ((i+1:Nat):Int)]) ?_ (λdE st a=>by rw[bd]at a;cases a;exact rI ..) ?_
  ·rw[<-dG];simp(disch:=omega) only[aJ,bz];rfl
  ·rw[<-dG];simp(disch:=omega) only[aJ]
 have dy:cx X [aH] h j aQ (aL+2):=by
  refine⟨Zo,λb ah bT=> ?_⟩
  rw[<-cb.ad b ah, <-dG]
  simp only[Zr,ZL,Y0,Yx,ZI,Yj]at bT
  simp(disch:=omega) only[aJ]
 clear dG bJ bd ca a3 a4 ec cb
 have tq:∃dR,Z X aQ aH=some (.cells dR 2 .own)/\aV X aQ (.ptr aH 1)=some (.Z ((i+1:Nat):Int)):=by
  obtain⟨c,am,ch,cD,di,f4⟩:=dq.at_
  exact⟨c,ch,j7 ch di⟩
 have fB:=av.go dq (by omega:j<=aL+1+1)
 refine iw (λI R aP=>∃v,I.g 4=some v/\jV X aH bM aO h j r v R aP) (λW bx=> ?_) (by
  rintro I R aP ⟨v,t4,a⟩
  refine cq @t4 ⟨?_⟩
  exact a)
 have NM:r= .error x.at_:=by
  by_cases K:x.kind=2
  ·obtain⟨e7,hh,vm,KL⟩:=b2 K
   have bV:¬x.kind=6:=Zo
   rw[Zg eS,Zg (by simp[e7,hh]),Zg bJ,Zg cF,Zg (by simp[bV]),Zg (by simp[vm]),Zg (by simp[KL])]at V
   simp only[bad,Zf]at V
   exact V.symm
  ·by_cases bV:x.kind=6
   ·rw[Zg eS,Zg (by simp[K]),Zg bJ,Zg cF,Zg (by simp[eK bV]),Zg (by simp[K]),Zg (by simp[K])]at V
    simp only[bad,Zf]at V
    exact V.symm
   ·rw[Zg eS,Zg (by simp[K]),Zg bJ,Zg cF,Zg (by simp[bV]),Zg (by simp[K]),Zg (by simp[K])]at V
    simp only[bad,Zf]at V
    exact V.symm
 subst NM
 have fG:decide (x.kind=5)=false:=by simp[eS]
 have cI:decide (x.kind=1)=false:=by simp[bJ]
 have eV:decide (x.kind=3)=false:=by simp[cF]
 obtain⟨dR,RB,RC⟩:=tq
 have b3:bm .sub (.Z ((i+1:Nat):Int)) (.Z 1)=some (.Z (((i+1:Nat):Int) -1)):=by rw[tH Zo Zo]
 have fin:∀(br:S ai) (aj:bR),(∀b,b<j->b∉[aH]->Z X br b=Z X aQ b)->ba X 97 [.agg (b6 x)] br (aL+1+1) aj (iT X aH h j (Except.error x.at_:Except Int (bs×List Tok))):=by
  intro br aj ak
  refine(IE az Zo x _ ?_).mono (λ_ _ _ a=>a.elim) (λ_ _ _ a=>a)
  intro R ap cd
  have Jv:=cd.le
  exact⟨_,rfl,rfl,Zo,λb ah bT=>by rw[cd.ad b Zo,ak b ah bT];exact dy.ad b ah bT⟩
 by_cases K:x.kind=2
 ·obtain⟨e7,hh,vm,KL⟩:=b2 K
  have cE:decide (x.kind=2)=true:=by simp[K]
  have hP:decide (x.kind=6)=false:=by simp[K]
  have cP:decide (x.text=[116,114,117,101])=false:=by simp[e7]
  have cG:decide (x.text=[102,97,108,115,101])=false:=by simp[hh]
  have d4:decide (x.text=[105,102])=false:=by simp[vm]
  have fK:decide (x.text=[109,101,114,103,101])=false:=by simp[KL]
  refine eD (bX eE) @iK @fG @cE @cI @eV (Za @hP (Za @cP (Za @cG (Za @d4 (Za @fK (Za b6.eq_1 (Za @RB (Za @RC @b3)))))))) ⟨?_⟩
  refine fin _ _ (λb ah bT=> ?_)
  simp only[Zr,ZL,Y0,Yx,ZI,Yj]at bT
  simp(disch:=omega) only[aJ]
 ·have cE:decide (x.kind=2)=false:=by simp[K]
  by_cases bV:x.kind=6
  ·have hP:decide (x.kind=6)=true:=by simp[bV]
   have cP:decide (x.text=[40])=false:=by simp[eK bV]
   refine eD (bX eE) @iK @fG @cE @cI @eV (Za @hP (Za @cP (Za b6.eq_1 (Za @RB (Za @RC @b3))))) ⟨?_⟩
   refine fin _ _ (λb ah bT=> ?_)
   simp only[Zr,ZL,Y0,Yx,ZI,Yj]at bT
   simp(disch:=omega) only[aJ]
  ·have hP:decide (x.kind=6)=false:=by simp[bV]
   refine eD (bX eE) @iK @fG @cE @cI @eV (Za @hP (Za b6.eq_1 (Za @RB (Za @RC @b3)))) ⟨?_⟩
   refine fin _ _ (λb ah bT=> ?_)
   simp only[Zr,ZL,Y0,Yx,ZI,Yj]at bT
   simp(disch:=omega) only[aJ]
end
section
variable{X:co}{h R aU aQ:S ai}{j ap aL bc aH bM:Nat}{aO:List Tok}{i:Nat}
def cx.rq{X:co}{aH:Nat}{h R:S ai}{j ap n:Nat}(a:cx X [aH] h j R ap)(o:ap<=n):cx X [aH] h j R n:=⟨Zy a.le o,a.ad⟩
def je.one{C:aK}{h:S ai}{s:z}{aR:Nat}{k:List z}{cw:List Nat}(a:je C h s aR k cw):s.cells=[s]/\oA s=true/\z.same 30 s s=true:=by
 rcases a with ⟨rfl,_⟩|⟨b,et,n,c,rfl,_⟩
 ·exact⟨rfl,rfl,rfl⟩
 ·exact⟨rfl,rfl,by simp[z.same]⟩
def awT(az:dN X){n:Nat}(ag:∀m,m<n+1->qK X aH bM aO m){r:Except Int (bs×List Tok)}(av:iG X h j aH bM aO i){x:Tok}{k:List Tok}(aI:aO.drop i=x::k)(aC:x.kind=2)(bh:x.text=[105,102])(V:Go.aT.part (n+1) (x::k)=some r):
 ba X 171 [.ptr aH 0] h j (jV X aH bM aO h j r) (iT X aH h j r):=by
 refine zJ az (Ap X) ?_
 rw[Aq]
 unfold xu
 have gL:=av.bf
 have ki:=av.hp
 have hc:=av.ck
 have jL:=av.gY
 obtain⟨af,j2⟩:=fx aI
 unfold Go.aT.part at V
 refine(ru az av.bf av.par av.hp av.gY af).Zm ?_
 rintro ac aU aL ⟨rfl,cb⟩
 have jn:=cb.le
 have ec:=av.par.ex cb Zo Zo
 obtain⟨c,am,bd,ca,a3,a4⟩:=ec.at_
 have bJ:=j7 bd a3
 have jx:=(Zb.1 af).1
 have uY:=av.many
 have cK:=ec.ne
 have bw:=zH i
 refine gb b6.eq_1 @bJ (Za @bw @bd) ⟨?_⟩
 generalize dG:bp X _ aH _=aQ
 have eE:Z X aQ aL=zG (b6 x) 7:=by rw[<-dG];simp(disch:=omega) only[aJ,bz]<;>rfl
 have iK:Z X aQ (aL+1)=zG (gR 0 x.at_ [] false dC 0 .a2) 9:=by rw[<-dG];simp(disch:=omega) only[aJ,bz]<;>rfl
 have dq:aT X aQ aH bM aO (i+1):=by
  refine ec.on (c:=dM c 1 [.Z ((i+1:Nat):Int)]) ?_ (λdE st a=>by rw[bd]at a;cases a;exact rI ..) ?_
  ·rw[<-dG];simp(disch:=omega) only[aJ,bz];rfl
  ·rw[<-dG];simp(disch:=omega) only[aJ]
 have dy:cx X [aH] h j aQ (aL+2):=by
  refine⟨Zo,λb ah bT=> ?_⟩
  rw[<-cb.ad b ah, <-dG]
  simp only[Zr,ZL,Y0,Yx,ZI,Yj]at bT
  simp(disch:=omega) only[aJ]
 clear dG bJ bd ca a3 a4 ec cb
 have tq:∃dR,Z X aQ aH=some (.cells dR 2 .own)/\aV X aQ (.ptr aH 1)=some (.Z ((i+1:Nat):Int)):=by
  obtain⟨c,am,ch,cD,di,f4⟩:=dq.at_
  exact⟨c,ch,j7 ch di⟩
 have fB:=av.go dq (by omega:j<=aL+1+1)
 refine iw (λI R aP=>∃v,I.g 4=some v/\jV X aH bM aO h j r v R aP) (λW bx=> ?_) (by
  rintro I R aP ⟨v,t4,a⟩
  refine cq @t4 ⟨?_⟩
  exact a)
 rw[Zg (by rw[aC];decide),Zg (by simp[aC,bh]),Zg (by rw[aC];decide),Zg (by rw[aC];decide),Zg (by simp[aC]),Zq (by simp[aC,bh])]at V
 have fG:decide (x.kind=5)=false:=by simp[aC]
 have cE:decide (x.kind=2)=true:=by simp[aC]
 have cI:decide (x.kind=1)=false:=by simp[aC]
 have eV:decide (x.kind=3)=false:=by simp[aC]
 have hP:decide (x.kind=6)=false:=by simp[aC]
 have cP:decide (x.text=[116,114,117,101])=false:=by simp[bh]
 have cG:decide (x.text=[102,97,108,115,101])=false:=by simp[bh]
 have d4:decide (x.text=[105,102])=true:=by simp[bh]
 refine eD (bX eE) @iK @fG @cE @cI @eV (Za @hP (Za @cP (Za @cG (Za @d4 (Za b6.eq_1 gR.eq_1))))) ⟨?_⟩
 rw[<-j2]at V
 refine ff (λbr=>Z X br (aL+1)=zG (gR 23 x.at_ [] false dC 0 .a2) 9/\aT X br aH bM aO (i+1)/\cx X [aH] h j br (aL+1+1)) ⟨?_, ?_, ?_⟩ ?_
 ·simp(disch:=omega) only[aJ,bz]<;>rfl
 ·exact dq.ad (zI) (zI)
 ·exact⟨Zo,λb ah bT=>by rw[<-dy.ad b ah bT];exact zI⟩
 clear dq fB dy eE iK tq
 rintro ul ⟨abh,adk,RT⟩
 have adM:f0 X ul .a2 1 [] []:= .inl (.inl ⟨rfl,rfl,rfl⟩)
 have uL:∀e∈([]:List Nat),aL+2<=e/\e<aL+1+1:=by simp
 have acj:c2 X ul (vr (aL+2) (aL+1+1) []) [] []:= .nil
 have asX:z.same 30 .a2 .a2=true:=rfl
 have afP:=av.go adk (by omega:j<=(aL+1+1)+12)
 rcases gi V with ⟨E,be,rfl⟩|⟨IA,fA,be,V⟩
 ·exact((ag n Zo).arrow ul _ _ _ afP be).mono (λac R ap a=>by obtain⟨B,cC,a,_⟩:=a;cases a) (λac R ap a=>a.of (cx.rq RT Zo) (λ_ a=>by cases a;rfl))
 refine((ag n Zo).arrow ul _ _ _ afP be).mono ?_ (λac R ap a=>by obtain⟨E,a,_⟩:=a;cases a)
 clear be
 rintro v5 b5 cA ⟨Ml,aCu,sr,d1,gy,dT⟩
 cases sr
 have jz:=dT.le
 have qc:=(cx.rq RT (by omega:(aL+1+1)<=(aL+1+1)+12)).trans dT
 obtain⟨vp,rfl,ol,_⟩:=d1.ptr
 have ol:=ol.2
 have qY:Z X b5 (aL+1)=zG (gR 23 x.at_ [] false dC 0 z.a2) 9:=by rw[dT.ad _ Zo (by simp;omega)];exact abh
 have l0:∀e,aL+2<=e->e<(aL+1+1)->Z X b5 e=Z X ul e:=λe H K=>dT.ad e Zo (by simp;omega)
 have o6:=adM.ad (R:=b5) (λe D=>l0 e (uL e D).1 (uL e D).2)
 have uP:=c2.ad (R:=b5) (λe D=>l0 e D.1 D.2.1) _ _ acj
 clear l0
 refine dd (bX qY) gR.eq_1 ⟨?_⟩
 refine ka asX ?_
 have hY:jN X (bp X b5 ((aL+1+1)+7) (zG [.ptr vp 0] 1)) 1 (.slice ((aL+1+1)+7) 0 1 1)=some (1,[.ptr vp 0]):=qC (bz Zo) (mF _) rfl _
 obtain⟨KY,cp,FB,gU,sG,q2,kz⟩:=(o6.ad (R:=bp X b5 ((aL+1+1)+7) (zG [.ptr vp 0] 1)) (λe D=>aJ Zo (zC (uL e D).2))).append (j:=cA) Zd hY rfl Zd rfl Zs Zo (λe D=>zC (uL e D).2)
 refine kl gU ?_
 have eK:∀e,e<cA->e∉([]:List Nat)->e≠(aL+1+1)+7->Z X cp e=Z X b5 e:=λe H K ak=>by
  rw[kz e Zo K,aJ Zo ak]
 have si:Z X cp (aL+1)=zG (gR 23 x.at_ [] false dC 0 z.a2) 9:=by
  rw[eK _ Zo (λa=>zC (uL _ a)) Zo];exact qY
 obtain⟨oj,Be,asY⟩:=je.one sG
 refine cY ⟨?_⟩
 refine gr (rC si Zo Zo oj Be) ?_
 have qf:∀e∈FB,aL+2<=e/\e<cA+1:=by
  intro e D
  rcases q2 e D with rfl|D
  ·omega
  ·have:=uL e D;omega
 have Dh:c2 X cp (vr (aL+2) (cA+1) FB) ([]++[IA]) ([]++[.ptr vp 0]):=by
  refine c2.snoc (cm.ad (λe D=> ?_) _ _ d1) (c2.ad (λe D=> ?_) _ _ uP) (λe D=>⟨D.1,zC D.2.1,λfY=> ?_⟩) (λe D=>⟨⟨zC D.1,zC D.2,λfY=> ?_⟩,λo7=>by have:=D.1;have:=o7.2.1;omega⟩)
  ·have H:=D.1
   exact eK e D.2 (λfY=>zC (uL e fY)) Zo
  ·have K:=D.2.1
   exact eK e Zo D.2.2 Zo
  ·have K:=D.2.1
   rcases q2 e fY with rfl|fY
   ·omega
   ·exact D.2.2 fY
  ·have H:=D.1;have K:=D.2
   rcases q2 e fY with rfl|fY
   ·omega
   ·have:=uL e fY;omega
 have ez:cx X [aH] h j cp (cA+1):=⟨Zo,λb ah bT=>by
  rw[eK b Zo (λB=>zC (uL _ B)) Zo];exact qc.ad b ah bT⟩
 have he:=gy.ad (eK aH Zo (λB=>zC (uL _ B)) Zo) (eK bM Zo (λB=>zC (uL _ B)) Zo)
 clear uP d1 gy dT qc qY o6 hY gU kz q2 oj Be acj abh adM adk RT
 refine cY ⟨?_⟩
 refine ff (λcH=>Z X cH (cA+1)=zG [.str [116,104,101,110]] 1/\Z X cH (aL+1)=zG (gR 23 x.at_ [] false dC 0 KY) 9/\(∀e,e<cA+1->e≠aL+1->Z X cH e=Z X cp e)) ⟨bz Zo, ?_, ?_⟩ ?_
 ·simp(disch:=omega) only[aJ,bz]<;>rfl
 ·intro e H K
  simp(disch:=omega) only[aJ]
 clear si
 rintro cH ⟨CW,IK,gG⟩
 have hK:=he.ad (gG aH Zo Zo) (gG bM Zo Zo)
 have nd:=av.go hK (by omega:j<=cA+1+1)
 have e4:cx X [aH] h j cH (cA+1+1):=⟨Zo,λb ah bT=>by rw[gG b Zo Zo];exact ez.ad b ah bT⟩
 rcases gi V with ⟨E,eg,rfl⟩|⟨Ab,m6,eg,V⟩
 ·exact(jG az nd Zo Zo CW eg).mono (λac R ap a=>by obtain⟨B,cC,a,_⟩:=a;cases a) (λac R ap a=>a.of e4 (λ_ a=>by cases a;rfl))
 refine(jG az nd Zo Zo CW eg).mono ?_ (λac R ap a=>by obtain⟨E,a,_⟩:=a;cases a)
 clear eg
 rintro HC r4 rr ⟨aAk,aCs,Df,_,adl,gT⟩
 cases Df
 have arE:=gT.le
 have RU:=e4.trans gT
 have Rv:Z X r4 (aL+1)=zG (gR 23 x.at_ [] false dC 0 KY) 9:=by rw[gT.ad _ Zo (by simp;omega)];exact IK
 have de:∀e,aL+2<=e->e<cA+1->Z X r4 e=Z X cp e:=λe H K=>by
  rw[gT.ad e Zo (by simp;omega),gG e K Zo]
 have adN:f0 X r4 KY 1 ([]++[.ptr vp 0]) FB:= .inl (sG.ad (λe D=>de e (qf e D).1 (qf e D).2))
 have ack:c2 X r4 (vr (aL+2) rr FB) ([]++[IA]) ([]++[.ptr vp 0]):=
  c2.lift (λe D=>⟨D.1,zC D.2.1,D.2.2⟩) _ _ (c2.ad (λe D=>de e D.1 D.2.1) _ _ Dh)
 have qf:∀e∈FB,aL+2<=e/\e<rr:=λe D=>zC (qf e D)
 clear Dh sG he ez hK nd e4 gT CW IK gG eK de
 refine dd (bX Rv) gR.eq_1 ⟨?_⟩
 have afQ:=av.go adl (by omega:j<=rr+12)
 rcases gi V with ⟨E,be,rfl⟩|⟨Q4,fA,be,V⟩
 ·exact((ag n Zo).arrow r4 _ _ _ afQ be).mono (λac R ap a=>by obtain⟨B,cC,a,_⟩:=a;cases a) (λac R ap a=>a.of (cx.rq RU Zo) (λ_ a=>by cases a;rfl))
 refine((ag n Zo).arrow r4 _ _ _ afQ be).mono ?_ (λac R ap a=>by obtain⟨E,a,_⟩:=a;cases a)
 clear be
 rintro v5 b5 cA ⟨Ml,aCv,sr,d1,gy,dT⟩
 cases sr
 have jz:=dT.le
 have qc:=(cx.rq RU (by omega:rr<=rr+12)).trans dT
 obtain⟨B3,rfl,ol,_⟩:=d1.ptr
 have ol:=ol.2
 have qY:Z X b5 (aL+1)=zG (gR 23 x.at_ [] false dC 0 KY) 9:=by rw[dT.ad _ Zo (by simp;omega)];exact Rv
 have l0:∀e,aL+2<=e->e<rr->Z X b5 e=Z X r4 e:=λe H K=>dT.ad e Zo (by simp;omega)
 have o6:=adN.ad (R:=b5) (λe D=>l0 e (qf e D).1 (qf e D).2)
 have uP:=c2.ad (R:=b5) (λe D=>l0 e D.1 D.2.1) _ _ ack
 clear l0
 refine dd (bX qY) gR.eq_1 ⟨?_⟩
 refine ka asY ?_
 have hY:jN X (bp X b5 (rr+7) (zG [.ptr B3 0] 1)) 1 (.slice (rr+7) 0 1 1)=some (1,[.ptr B3 0]):=qC (bz Zo) (mF _) rfl _
 obtain⟨EA,cp,FC,gU,sG,q2,kz⟩:=(o6.ad (R:=bp X b5 (rr+7) (zG [.ptr B3 0] 1)) (λe D=>aJ Zo (zC (qf e D).2))).append (j:=cA) Zd hY rfl Zd rfl Zs Zo (λe D=>zC (qf e D).2)
 refine kl gU ?_
 have eK:∀e,e<cA->e∉FB->e≠rr+7->Z X cp e=Z X b5 e:=λe H K ak=>by
  rw[kz e Zo K,aJ Zo ak]
 have si:Z X cp (aL+1)=zG (gR 23 x.at_ [] false dC 0 KY) 9:=by
  rw[eK _ Zo (λa=>zC (qf _ a)) Zo];exact qY
 obtain⟨oj,Be,asZ⟩:=je.one sG
 refine cY ⟨?_⟩
 refine gr (rC si Zo Zo oj Be) ?_
 have qg:∀e∈FC,aL+2<=e/\e<cA+1:=by
  intro e D
  rcases q2 e D with rfl|D
  ·omega
  ·have:=qf e D;omega
 have Dh:c2 X cp (vr (aL+2) (cA+1) FC) (([]++[IA])++[Q4]) (([]++[.ptr vp 0])++[.ptr B3 0]):=by
  refine c2.snoc (cm.ad (λe D=> ?_) _ _ d1) (c2.ad (λe D=> ?_) _ _ uP) (λe D=>⟨D.1,zC D.2.1,λfY=> ?_⟩) (λe D=>⟨⟨zC D.1,zC D.2,λfY=> ?_⟩,λo7=>by have:=D.1;have:=o7.2.1;omega⟩)
  ·have H:=D.1
   exact eK e D.2 (λfY=>zC (qf e fY)) Zo
  ·have K:=D.2.1
   exact eK e Zo D.2.2 Zo
  ·have K:=D.2.1
   rcases q2 e fY with rfl|fY
   ·omega
   ·exact D.2.2 fY
  ·have H:=D.1;have K:=D.2
   rcases q2 e fY with rfl|fY
   ·omega
   ·have:=qf e fY;omega
 have ez:cx X [aH] h j cp (cA+1):=⟨Zo,λb ah bT=>by
  rw[eK b Zo (λB=>zC (qf _ B)) Zo];exact qc.ad b ah bT⟩
 have he:=gy.ad (eK aH Zo (λB=>zC (qf _ B)) Zo) (eK bM Zo (λB=>zC (qf _ B)) Zo)
 clear uP d1 gy dT qc qY o6 hY gU kz q2 oj Be ack Rv adN adl RU
 refine cY ⟨?_⟩
 refine ff (λcH=>Z X cH (cA+1)=zG [.str [101,108,115,101]] 1/\Z X cH (aL+1)=zG (gR 23 x.at_ [] false dC 0 EA) 9/\(∀e,e<cA+1->e≠aL+1->Z X cH e=Z X cp e)) ⟨bz Zo, ?_, ?_⟩ ?_
 ·simp(disch:=omega) only[aJ,bz]<;>rfl
 ·intro e H K
  simp(disch:=omega) only[aJ]
 clear si
 rintro cH ⟨CW,IK,gG⟩
 have hK:=he.ad (gG aH Zo Zo) (gG bM Zo Zo)
 have nd:=av.go hK (by omega:j<=cA+1+1)
 have e4:cx X [aH] h j cH (cA+1+1):=⟨Zo,λb ah bT=>by rw[gG b Zo Zo];exact ez.ad b ah bT⟩
 rcases gi V with ⟨E,eg,rfl⟩|⟨Ab,m6,eg,V⟩
 ·exact(jG az nd Zo Zo CW eg).mono (λac R ap a=>by obtain⟨B,cC,a,_⟩:=a;cases a) (λac R ap a=>a.of e4 (λ_ a=>by cases a;rfl))
 refine(jG az nd Zo Zo CW eg).mono ?_ (λac R ap a=>by obtain⟨E,a,_⟩:=a;cases a)
 clear eg
 rintro HC oR wU ⟨aAk,aCt,Df,_,adm,gT⟩
 cases Df
 have aBw:=gT.le
 have RV:=e4.trans gT
 have Rw:Z X oR (aL+1)=zG (gR 23 x.at_ [] false dC 0 EA) 9:=by rw[gT.ad _ Zo (by simp;omega)];exact IK
 have de:∀e,aL+2<=e->e<cA+1->Z X oR e=Z X cp e:=λe H K=>by
  rw[gT.ad e Zo (by simp;omega),gG e K Zo]
 have adO:f0 X oR EA 1 (([]++[.ptr vp 0])++[.ptr B3 0]) FC:= .inl (sG.ad (λe D=>de e (qg e D).1 (qg e D).2))
 have acl:c2 X oR (vr (aL+2) wU FC) (([]++[IA])++[Q4]) (([]++[.ptr vp 0])++[.ptr B3 0]):=
  c2.lift (λe D=>⟨D.1,zC D.2.1,D.2.2⟩) _ _ (c2.ad (λe D=>de e D.1 D.2.1) _ _ Dh)
 have qg:∀e∈FC,aL+2<=e/\e<wU:=λe D=>zC (qg e D)
 clear Dh sG he ez hK nd e4 gT CW IK gG eK de
 refine dd (bX Rw) gR.eq_1 ⟨?_⟩
 have afR:=av.go adm (by omega:j<=wU+12)
 rcases gi V with ⟨E,be,rfl⟩|⟨anr,fA,be,V⟩
 ·exact((ag n Zo).arrow oR _ _ _ afR be).mono (λac R ap a=>by obtain⟨B,cC,a,_⟩:=a;cases a) (λac R ap a=>a.of (cx.rq RV Zo) (λ_ a=>by cases a;rfl))
 refine((ag n Zo).arrow oR _ _ _ afR be).mono ?_ (λac R ap a=>by obtain⟨E,a,_⟩:=a;cases a)
 clear be
 rintro v5 b5 cA ⟨Ml,atM,sr,d1,gy,dT⟩
 cases sr
 have jz:=dT.le
 have qc:=(cx.rq RV (by omega:wU<=wU+12)).trans dT
 obtain⟨KR,rfl,ol,_⟩:=d1.ptr
 have ol:=ol.2
 have qY:Z X b5 (aL+1)=zG (gR 23 x.at_ [] false dC 0 EA) 9:=by rw[dT.ad _ Zo (by simp;omega)];exact Rw
 have l0:∀e,aL+2<=e->e<wU->Z X b5 e=Z X oR e:=λe H K=>dT.ad e Zo (by simp;omega)
 have o6:=adO.ad (R:=b5) (λe D=>l0 e (qg e D).1 (qg e D).2)
 have uP:=c2.ad (R:=b5) (λe D=>l0 e D.1 D.2.1) _ _ acl
 clear l0
 refine dd (bX qY) gR.eq_1 ⟨?_⟩
 refine ka asZ ?_
 have hY:jN X (bp X b5 (wU+7) (zG [.ptr KR 0] 1)) 1 (.slice (wU+7) 0 1 1)=some (1,[.ptr KR 0]):=qC (bz Zo) (mF _) rfl _
 obtain⟨U0,cp,Qs,gU,sG,q2,kz⟩:=(o6.ad (R:=bp X b5 (wU+7) (zG [.ptr KR 0] 1)) (λe D=>aJ Zo (zC (qg e D).2))).append (j:=cA) Zd hY rfl Zd rfl Zs Zo (λe D=>zC (qg e D).2)
 refine kl gU ?_
 have eK:∀e,e<cA->e∉FC->e≠wU+7->Z X cp e=Z X b5 e:=λe H K ak=>by
  rw[kz e Zo K,aJ Zo ak]
 have si:Z X cp (aL+1)=zG (gR 23 x.at_ [] false dC 0 EA) 9:=by
  rw[eK _ Zo (λa=>zC (qg _ a)) Zo];exact qY
 obtain⟨oj,Be,aCd⟩:=je.one sG
 refine cY ⟨?_⟩
 refine gr (rC si Zo Zo oj Be) ?_
 have ab3:∀e∈Qs,aL+2<=e/\e<cA+1:=by
  intro e D
  rcases q2 e D with rfl|D
  ·omega
  ·have:=qg e D;omega
 have Dh:c2 X cp (vr (aL+2) (cA+1) Qs) (([]++[IA]++[Q4])++[anr]) (([]++[.ptr vp 0]++[.ptr B3 0])++[.ptr KR 0]):=by
  refine c2.snoc (cm.ad (λe D=> ?_) _ _ d1) (c2.ad (λe D=> ?_) _ _ uP) (λe D=>⟨D.1,zC D.2.1,λfY=> ?_⟩) (λe D=>⟨⟨zC D.1,zC D.2,λfY=> ?_⟩,λo7=>by have:=D.1;have:=o7.2.1;omega⟩)
  ·have H:=D.1
   exact eK e D.2 (λfY=>zC (qg e fY)) Zo
  ·have K:=D.2.1
   exact eK e Zo D.2.2 Zo
  ·have K:=D.2.1
   rcases q2 e fY with rfl|fY
   ·omega
   ·exact D.2.2 fY
  ·have H:=D.1;have K:=D.2
   rcases q2 e fY with rfl|fY
   ·omega
   ·have:=qg e fY;omega
 have ez:cx X [aH] h j cp (cA+1):=⟨Zo,λb ah bT=>by
  rw[eK b Zo (λB=>zC (qg _ B)) Zo];exact qc.ad b ah bT⟩
 have he:=gy.ad (eK aH Zo (λB=>zC (qg _ B)) Zo) (eK bM Zo (λB=>zC (qg _ B)) Zo)
 clear uP d1 gy dT qc qY o6 hY gU kz q2 oj Be acl Rw adO adm RV
 simp only[ok,Zf]at V
 subst V
 have hw:∀e,e≠aL+1->Z X (bp X cp (aL+1) (some (.cells ((S.ofList (gR 23 x.at_ [] false dC 0 EA) 0 .nil).set 8 (some U0)) 9 .own))) e=Z X cp e:=λe a=>aJ Zo a
 obtain⟨cj,cR⟩:=(f0.ad (R:=bp X cp (aL+1) (some (.cells ((S.ofList (gR 23 x.at_ [] false dC 0 EA) 0 .nil).set 8 (some U0)) 9 .own))) (.inl sG) (λe D=>hw e (zC (ab3 e D)))).B5 (P:=λe=>du (aL+2) (cA+1) e/\e∈Qs) Zs (λe D=>⟨by have:=ab3 e D;exact⟨Zo,Zo⟩,D⟩)
 refine bx _ _ _ ⟨.ptr (aL+1) 0,bt,_,atM,rfl,cm.of (b:=aL+1) (m:=9) (st:= .own) (cj:=cj) (bi:=U0) (kind:=23) (at_:=x.at_) (name:=[]) (no:=false) (ty:=dC) (n:=0) (aY:=[.ptr vp 0, .ptr B3 0, .ptr KR 0]) ?_ ⟨Zo,Zo⟩ (cR.lift (λe D=>⟨zC D.1.1,D.1.2⟩)) (λ_=> ?_) ?_, ?_, ?_⟩
 ·rw[bz Zo];rfl
 ·have:=(cR.ah Zs).1.1
  omega
 ·exact c2.lift (λe D=>⟨⟨zC D.1.1,zC D.1.2⟩,zC D.1.1,D.2⟩) _ _ (c2.off (c2.ad (λe D=>hw e (zC D.1)) _ _ Dh) cR)
 ·exact he.ad (hw _ Zo) (hw _ Zo)
 ·exact⟨ez.le,λb ah bT=>by rw[hw b Zo];exact ez.ad b ah bT⟩
end
section
variable{X:co}{h R aU aQ:S ai}{j ap aL bc aH bM:Nat}{aO:List Tok}{i:Nat}
def awX(az:dN X){n:Nat}(nK:n<=300000)(ag:∀m,m<n->qK X aH bM aO m):∀h j i r,iG X h j aH bM aO i->Go.aT.part n (aO.drop i)=some r->ba X 171 [.ptr aH 0] h j (jV X aH bM aO h j r) (iT X aH h j r):=by
 intro h j i r av V
 cases n with
 |zero=>simp[Go.aT.part]at V
 |succ n=>
 cases aI:aO.drop i with
 |nil=>rw[aI]at V;simp[Go.aT.part]at V
 |cons x k=>
 rw[aI]at V
 by_cases eS:x.kind=5
 ·exact awU az av aI eS V
 by_cases bJ:x.kind=1
 ·exact awW az ag av aI Zo bJ V
 by_cases cF:x.kind=3
 ·exact awZ az ag av aI cF V
 by_cases eK:x.kind=6
 ·by_cases bh:x.text=[40]
  ·exact awY az ag av aI eK bh V
  ·exact UD az av aI eS bJ cF (λ_=>bh) (λa=>Zo) V
 by_cases b2:x.kind=2
 ·by_cases H:x.text=[116,114,117,101]
  ·exact afH az av aI b2 (.inl H) V
  by_cases K:x.text=[102,97,108,115,101]
  ·exact afH az av aI b2 (.inr K) V
  by_cases ak:x.text=[105,102]
  ·exact awT az ag av aI b2 ak V
  by_cases ay:x.text=[109,101,114,103,101]
  ·exact awV az ag av aI b2 ay V
  ·exact UD az av aI eS bJ cF (λa=>Zo) (λ_=>⟨H,K,ak,ay⟩) V
 ·exact UD az av aI eS bJ cF (λa=>Zo) (λa=>absurd a b2) V
def X1(az:dN X)(eN:vG X):∀n,n<=300000->qK X aH bM aO n:=by
 intro n
 induction n using Nat.strongRecOn with
 |ind n ag=>
  intro aM
  have ag:∀m,m<n->qK X aH bM aO m:=λm aZ=>ag m aZ Zo
  exact⟨auZ az eN ag,ays az ag,axb az ag,awX az aM ag,aoh az ag,alH az ag,au9 az aM ag⟩
end
def GP(n:Int):z:= .Z n
def uj(X:co)(h:S ai)(hL aA:Nat)(left:List aW)(cL:List Int):Prop:=hL<aA/\(q X).bf<=hL/\∃c bi jE AF tb,Z X h hL=some (.cells c 4 .own)/\c.get 0=some bi/\c.get 1=some jE/\f0 X h bi 1 (left.map .str) AF/\f0 X h jE 1 (cL.map GP) tb
 /\(∀e∈AF,hL<e/\e<aA/\e∉tb)/\∀e∈tb,hL<e/\e<aA
def uj.ad{X:co}{h R:S ai}{hL aA ky:Nat}{left:List aW}{cL:List Int}(a:uj X h hL aA left cL)(o:∀e,hL<=e->e<aA->Z X R e=Z X h e)(gC:aA<=ky):uj X R hL ky left cL:=by
 obtain⟨a8,CY,c,bi,jE,AF,tb,H,K,ak,ay,be,bV,c9⟩:=a
 exact⟨Zo,CY,c,bi,jE,AF,tb,by rw[o hL Zo a8];exact H,K,ak,ay.ad (λe D=>o e (zC (bV e D)) (bV e D).2.1),be.ad (λe D=>o e (zC (c9 e D)) (c9 e D).2),
  λe D=>by have:=bV e D;exact⟨this.1,Zo,this.2.2⟩,λe D=>zC (c9 e D)⟩
def f0.one{C:aK}{h:S ai}{s:z}{aR:Nat}{k:List z}{cw:List Nat}(a:f0 C h s aR k cw):s.cells=[s]/\oA s=true/\z.same 30 s s=true:=by
 rcases a with a|⟨b,n,c,st,rfl,_⟩
 ·exact je.one a
 ·exact⟨rfl,rfl,by simp[z.same]⟩
section
variable{X:co}{h R aU aQ:S ai}{j ap aL bc aH bM:Nat}{aO:List Tok}{i:Nat}
def Uq(az:dN X)(av:iG X h j aH bM aO i){ph hL:Nat}(NE:ph<hL)(aB2:ph≠aH)(aqB:aH<hL)(aqC:bM<hL)(ass:aV X h (.ptr ph 0)=some (.ptr aH 0)){left:List aW}{cL:List Int}(bP:uj X h hL j left cL)(aZ:left.length<=1000000)(Gs:cL.length<=300000){x:Tok}{k:List Tok}(aI:aO.drop i=x::k):
 ba X 98 [.ptr ph 0, .ptr hL 0] h j (λac R ap=>x.kind=1/\ac= .tuple []/\uj X R hL ap (left++[x.text]) (cL++[x.at_])/\aT X R aH bM aO (i+1)/\j<=ap/\cx X [aH] h hL R ap)
  (λac R ap=>x.kind≠1/\ac=xQ 21 x.at_/\cx X [aH] h j R ap):=by
 refine zJ az (akK X) ?_
 rw[akL]
 unfold Xz
 have gL:=av.bf
 have ki:=av.hp
 have hc:=av.ck
 have jL:=av.gY
 refine cq @ass ⟨?_⟩
 refine(BT az av.bf av.par av.ck av.hp av.gY av.many (fx aI).1 1).mono ?_ (λac R ap a=>a)
 rintro ac aU aL ⟨aC,rfl,ec,ij⟩
 have jn:=ij.le
 have it:=bP.ad (R:=aU) (ky:=aL) (λe H K=>ij.ad e K (by simp;omega)) jn
 have aB8:=bP.1
 clear bP
 obtain⟨a8,CY,c,bi,jE,AF,tb,b4,b1,cM,eu,eZ,eb,eW⟩:=it
 obtain⟨gZ,mM,tQ⟩:=f0.one eu
 obtain⟨Hf,BQ,sM⟩:=f0.one eZ
 refine hm b6.eq_1 (bX b4) @b1 @cM ⟨?_⟩
 have hY:∀gt,Z X gt (aL+1+4)=zG [.str x.text] 1->jN X gt 1 (.slice (aL+1+4) 0 1 1)=some (1,[.str x.text]):=λgt a=>qC a (mF _) rfl _
 have as7:∀gt,Z X gt (aL+1+10)=zG [.Z x.at_] 1->jN X gt 1 (.slice (aL+1+10) 0 1 1)=some (1,[.Z x.at_]):=λgt a=>qC a (mF _) rfl _
 generalize gk:bp X _ (aL+1+10) _=br
 have cF:∀e,e<aL->Z X br e=Z X aU e:=λe D=>by rw[<-gk];exact zI
 have t3:Z X br aL=zG (b6 x) 7:=by rw[<-gk];simp(disch:=omega) only[aJ,bz]<;>rfl
 have er:Z X br (aL+1+4)=zG [.str x.text] 1:=by rw[<-gk];simp(disch:=omega) only[aJ,bz]<;>rfl
 have f3:Z X br (aL+1+10)=zG [.Z x.at_] 1:=by rw[<-gk];simp(disch:=omega) only[aJ,bz]<;>rfl
 clear gk
 obtain⟨e1,b0,ζ,gU,sF,uK,gl⟩:=(eu.ad (R:=br) (λe D=>cF e (eb e D).2.1)).append (j:=aL+1+16) Zd (hY br er) rfl Zd rfl (by simp;omega) Zo (λe D=>zC (eb e D).2.1)
 refine kl gU ?_
 have fK:Z X b0 hL=some (.cells c 4 .own):=by rw[gl _ Zo (λa=>zC (eb _ a).1),cF _ a8];exact b4
 have t4:Z X b0 aL=zG (b6 x) 7:=by rw[gl _ Zo (λa=>zC (eb _ a).2.1)];exact t3
 have nC:Z X b0 (aL+1+10)=zG [.Z x.at_] 1:=by rw[gl _ Zo (λa=>zC (eb _ a).2.1)];exact f3
 refine dd (bX fK) @cM ⟨?_⟩
 refine ka sM ?_
 refine dd (bX t4) b6.eq_1 ⟨?_⟩
 refine ka (rz _ _) ?_
 have aoT:f0 X b0 jE 1 (cL.map GP) tb:=eZ.ad (λe D=>by
  rw[gl e (zC (eW e D)) (λa=>(eb e a).2.2 D)]
  exact cF e (eW e D).2)
 obtain⟨U1,b5,Qr,aqp,o6,Sb,lW⟩:=aoT.append (j:=aL+1+16+1) Zd (as7 b0 nC) rfl Zd rfl (by simp;omega) Zo (λe D=>zC (eW e D).2)
 refine kl aqp ?_
 obtain⟨e7,hh,vm⟩:=je.one sF
 obtain⟨KL,awH,aCP⟩:=je.one o6
 have mj:Z X b5 hL=some (.cells c 4 .own):=by rw[lW _ Zo (λa=>zC (eW _ a).1)];exact fK
 refine gr (rC mj Zo Zo e7 hh) ?_
 refine cY ⟨?_⟩
 refine gr (rC (bz Zo) Zo Zo KL awH) ?_
 have aep:∀e∈ζ,hL<e/\e<aL+1+16+1+1/\e∉Qr:=by
  intro e D
  rcases uK e D with rfl|D
  ·refine⟨Zo,Zo,λa=> ?_⟩
   rcases Sb _ a with a|a
   ·omega
   ·have:=eW _ a;omega
  ·obtain⟨bd,ca,a3⟩:=eb e D
   refine⟨Zo,Zo,λa=> ?_⟩
   rcases Sb _ a with a|a
   ·omega
   ·exact a3 a
 have aeq:∀e∈Qr,hL<e/\e<aL+1+16+1+1:=by
  intro e D
  rcases Sb e D with rfl|D
  ·omega
  ·have:=eW e D;omega
 have gG:∀gt,gt=bp X (bp X b5 hL (some (.cells (c.set 0 (some e1)) 4 .own))) hL (some (.cells ((c.set 0 (some e1)).set 1 (some U1)) 4 .own))->∀e,e≠hL->Z X gt e=Z X b5 e:=by
  rintro gt rfl e D
  rw[aJ Zo D,aJ Zo D]
 refine⟨aC,rfl,⟨Zo,CY,(c.set 0 (some e1)).set 1 (some U1),e1,U1,ζ,Qr,bz Zo, ?_, ?_, ?_, ?_,aep,aeq⟩, ?_,Zo,Zo,λb ah bT=> ?_⟩
 ·rw[S.kw,Zg Zd,S.kw,Zq rfl]
 ·rw[S.kw,Zq rfl]
 ·rw[Yo]
  refine .inl (sF.ad λe D=> ?_)
  have:=aep e D
  rw[gG _ rfl e Zo,lW e (by rcases uK e D with rfl|a;omega;have:=eb e a;omega) (λa=> ?_)]
  rcases uK e D with rfl|cy
  ·have:=eW _ a;omega
  ·exact(eb e cy).2.2 a
 ·rw[Yo]
  exact .inl (o6.ad λe D=>gG _ rfl e (zC (aeq e D)))
 ·have h8:∀e,e<hL->Z X b5 e=Z X aU e:=λe D=>by
   rw[lW e Zo (λa=>zC (eW _ a)),gl e Zo (λa=>zC (eb _ a)),cF e Zo]
  exact ec.ad (by rw[gG _ rfl _ Zo,h8 _ aqB]) (by rw[gG _ rfl _ Zo,h8 _ aqC])
 ·rw[gG _ rfl _ Zo,lW b Zo (λa=>zC (eW _ a)),gl b Zo (λa=>zC (eb _ a)),cF b Zo]
  exact ij.ad b Zo bT
end
def Ai(X:co)(h:S ai)(P:Nat->Prop)(al:eo)(row:List z):Prop:=∃bi jE ch cD hy,row=[bi,jE, .Z al.at_,hy]/\dZ X h P ch bi 1 (f8 al.left)/\(dZ X h P cD jE 1 (al.cL.map λn=>[GP n])/\cm X h (λe=>P e/\(al.cL≠[]->e≠cD)) al.right hy)/\cm X h P al.right hy/\hZ row=true
def Ai.ad{X:co}{h R:S ai}{P bk:Nat->Prop}{al:eo}{row:List z}(a:Ai X h P al row)(o:∀e,P e->Z X R e=Z X h e)(aw:∀e,P e->bk e):Ai X R bk al row:=by
 obtain⟨bi,jE,ch,cD,hy,H,K,ak,ay,be⟩:=a
 exact⟨bi,jE,ch,cD,hy,H,(K.ad o).lift aw,⟨(ak.1.ad o).lift aw,cm.lift (λe D=>⟨aw e D.1,D.2⟩) _ _ (cm.ad (λe D=>o e D.1) _ _ ak.2)⟩,cm.lift aw _ _ (cm.ad o _ _ ay),be⟩
def rV(X:co)(h:S ai)(P:Nat->Prop)(al:eo)(row:List z):Prop:=∃(aj:Nat->Nat) (bi jE:z) (ch cD:Nat) (hy:z),row=[bi,jE, .Z al.at_,hy]/\iU X h (λe=>P e/\aj e=1) ch bi 1 (f8 al.left)/\dZ X h (λe=>P e/\aj e=2) cD jE 1 (al.cL.map λn=>[GP n])/\cm X h (λe=>P e/\aj e=0) al.right hy/\hZ row=true
def rV.ad{X:co}{h R:S ai}{P bk:Nat->Prop}{al:eo}{row:List z}(a:rV X h P al row)(o:∀e,P e->Z X R e=Z X h e)(aw:∀e,P e->bk e):rV X R bk al row:=by
 obtain⟨aj,bi,jE,ch,cD,hy,H,K,ak,ay,be⟩:=a
 exact⟨aj,bi,jE,ch,cD,hy,H,(K.ad λe D=>o e D.1).lift λe D=>⟨aw e D.1,D.2⟩,(ak.ad λe D=>o e D.1).lift λe D=>⟨aw e D.1,D.2⟩,cm.lift (λe D=>⟨aw e D.1,D.2⟩) _ _ (cm.ad (λe D=>o e D.1) _ _ ay),be⟩
def rV.row{X:co}{h:S ai}{P:Nat->Prop}{al:eo}{row:List z}(a:rV X h P al row):Ai X h P al row:=by
 obtain⟨aj,bi,jE,ch,cD,hy,H,K,ak,ay,be⟩:=a
 exact⟨bi,jE,ch,cD,hy,H,K.rd.lift λe D=>D.1,⟨ak.lift λe D=>D.1,cm.lift (λe D=>⟨D.1,λcK B=>by have:=(ak.ah (by simpa using cK)).2;rw[<-B,D.2]at this;cases this⟩) _ _ ay⟩,cm.lift (λe D=>D.1) _ _ ay,be⟩
section
variable{X:co}{h R aU aQ:S ai}{j ap aL bc aH bM:Nat}{aO:List Tok}{i:Nat}
def anS(az:dN X)(eN:vG X){n:Nat}(nK:n<=200000)(av:iG X h j aH bM aO i){r:Except Int (eo×List Tok)}(V:sd n (aO.drop i)=some r):
 ba X 63 [.ptr aH 0] h j (λac R ap=>∃al cC row,r= .ok (al,aO.drop cC)/\ac= .agg row/\rV X R (du j ap) al row/\aT X R aH bM aO cC/\cx X [aH] h j R ap) (iT X aH h j r):=by
 refine zJ az (ajY X) ?_
 rw[ajZ]
 unfold Xa
 have gL:=av.bf
 have ki:=av.hp
 have hc:=av.ck
 have jL:=av.gY
 unfold sd at V
 obtain⟨x,bQ,aI,af⟩:=qE V
 refine cY ⟨?_⟩
 refine ff (λaU=>aV X aU (.ptr j 0)=some (.ptr aH 0)/\Z X aU (j+1)=zG [.a2, .a2, .Z 0, .cW] 4/\uj X aU (j+2) (j+1+1+1) [] []/\aT X aU aH bM aO i/\bG X h j aU (j+1+1+1)) ⟨?_, ?_, ?_, ?_, ?_⟩ ?_
 ·exact bt
 ·simp(disch:=omega) only[aJ,bz]<;>rfl
 ·exact⟨Zo,Zo,_, .a2, .a2,[],[],bz Zo,rfl,rfl, .inl (.inl ⟨rfl,rfl,rfl⟩), .inl (.inl ⟨rfl,rfl,rfl⟩),Zs,Zs⟩
 ·exact av.par.ad (zI) (zI)
 ·exact dS
 rintro aU ⟨fo,p9,it,ec,cb⟩
 have mO:=av.go ec (by omega:j<=j+1+1+1)
 refine(nW az mO aI _).Zm ?_
 rintro xd aQ bc ⟨rfl,dq,dy⟩
 have gE:=dy.le
 have wj:=(cx.of (X:=[aH]) cb).trans dy
 refine qW b6.eq_1 ⟨?_⟩
 refine iw (λI R aP=>∃(ci:List Tok) (cC:Nat),I.g 1=some (.ptr j 0)/\I.g 2=some (.ptr (j+1) 0)/\I.g 3=some (.ptr (j+2) 0)/\uj X R (j+2) aP (ci.map Tok.text) (ci.map Tok.at_)/\aT X R aH bM aO cC/\j+2<aP/\cx X [aH] h j R aP/\aV X R (.ptr j 0)=some (.ptr aH 0)/\Z X R (j+1)=zG [.a2, .a2, .Z 0, .cW] 4/\ci.length<=300000/\
  (andThen (dX [61] (aO.drop cC)) λB k=>andThen (arrow n k) λr k=>andThen (dX [59] k) λ_ k=>ok (⟨ci.map Tok.text,ci.map Tok.at_,B.at_,r⟩:eo) k)=some r) (λW bx=> ?_) ?_
 ·
  have F3:aV X aQ (.ptr j 0)=some (.ptr aH 0):=by rw[dy.fq _ _ Zo (by simp;omega)];exact fo
  have uB:Z X aQ (j+1)=zG [.a2, .a2, .Z 0, .cW] 4:=by rw[dy.ad _ Zo (by simp;omega)];exact p9
  have nL:=it.ad (R:=aQ) (ky:=bc) (λe H K=>dy.ad e K (by simp;omega)) gE
  rcases af with ⟨aD,V⟩|⟨aD,V⟩
  ·rw[aD]at dq ⊢
   simp only[ZC]at dq ⊢
   rw[<-(fx aI).2]at V
   simp only[]at V
   refine cq b6.eq_1 ⟨?_⟩
   simp only[Yn,Z0]
   refine ff (λbr=>aV X br (.ptr j 0)=some (.ptr aH 0)/\Z X br (j+1)=zG [.a2, .a2, .Z 0, .cW] 4/\uj X br (j+2) (bc+1) [] []/\aT X br aH bM aO (i+1)/\cx X [aH] h j br (bc+1)) ⟨?_, ?_, ?_, ?_, ?_⟩ ?_
   ·exact Rr @F3
   ·simp(disch:=omega) only[aJ];exact uB
   ·exact nL.ad (λe H K=>zI) Zo
   ·exact dq.ad (zI) (zI)
   ·exact⟨Zo,λb ah bT=>by rw[<-wj.ad b ah bT];exact zI⟩
   clear F3 uB nL dq wj dy cb ec it p9 fo mO
   rintro br ⟨uC,tr,qn,gx,eF⟩
   have nc:=av.go gx (by omega:j<=bc+1)
   cases tx:aO.drop (i+1)with
   |nil=>rw[tx]at V;simp[il,andThen]at V
   |cons e d9=>
   rw[tx]at V
   simp only[il]at V
   refine(Uq az nc Zo Zo Zo Zo uC qn Zs Zs tx).mono ?_ ?_
   ·rintro HA b0 cU ⟨gl,rfl,sD,hd,jy,eJ⟩
    rw[Zq gl]at V
    simp only[andThen,ok]at V
    rw[<-(fx tx).2]at V
    have IN:aV X b0 (.ptr j 0)=some (.ptr aH 0):=by rw[eJ.fq _ _ Zo (by simp;omega)];exact uC
    have xV:Z X b0 (j+1)=zG [.a2, .a2, .Z 0, .cW] 4:=by rw[eJ.ad _ Zo (by simp;omega)];exact tr
    have abM:cx X [aH] h j b0 cU:=⟨Zo,λb ah bT=>by rw[eJ.ad b Zo bT];exact eF.ad b ah bT⟩
    refine cq @IN ⟨?_⟩
    refine ff (λb5=>Z X b5 cU=zG [.str [44]] 1/\bG X b0 cU b5 (cU+1)) ⟨bz Zo,dS⟩ ?_
    rintro b5 ⟨abx,d1⟩
    have oC:=av.go (hd.ex d1 Zo Zo) (by omega:j<=cU+1)
    have dT:=abM.trans (cx.of d1)
    have ad9:=V
    cases bF:dX [44] (aO.drop (i+1+1))with
    |none=>rw[bF]at V;cases V
    |some yZ=>
    rw[bF]at V
    refine(jG az oC Zo Zo abx bF).mono ?_ ?_
    ·rintro y8 cp d2 ⟨ua,hu,rfl,_,he,ez⟩
     have rb:=ez.le
     simp only[]at V
     have IP:aV X cp (.ptr j 0)=some (.ptr aH 0):=by rw[ez.fq _ _ Zo (by simp;omega),d1.fq _ _ Zo];exact IN
     have AZ:Z X cp (j+1)=zG [.a2, .a2, .Z 0, .cW] 4:=by rw[ez.ad _ Zo (by simp;omega),d1.ad _ Zo];exact xV
     have Dn:=sD.ad (R:=cp) (ky:=d2) (λe H K=>by rw[ez.ad e Zo (by simp;omega),d1.ad e K]) Zo
     have uE:=dT.trans ez
     clear IN xV sD hd eJ abM dT d1 abx oC ez
     refine iw (λI R aP=>∃(ci:List Tok) (cC:Nat),I.g 1=some (.ptr j 0)/\I.g 2=some (.ptr (j+1) 0)/\I.g 3=some (.ptr (j+2) 0)/\uj X R (j+2) aP (ci.map Tok.text) (ci.map Tok.at_)/\aT X R aH bM aO cC/\j+2<aP/\cx X [aH] h j R aP/\aV X R (.ptr j 0)=some (.ptr aH 0)/\Z X R (j+1)=zG [.a2, .a2, .Z 0, .cW] 4/\ci.length<=300000/\
      (andThen (andThen (dX [41] (aO.drop cC)) λ_ k=>ok ci k) λci k=>andThen (dX [61] k) λB k=>andThen (arrow n k) λr k=>andThen (dX [59] k) λ_ k=>ok (⟨ci.map Tok.text,ci.map Tok.at_,B.at_,r⟩:eo) k)=some r) (λN6 Jn=> ?_) ?_
     ·refine fP (λm I R aP=>∃(ci:List Tok) (cC:Nat) (b:Bool),I.g 1=some (.ptr j 0)/\I.g 2=some (.ptr (j+1) 0)/\I.g 3=some (.ptr (j+2) 0)/\I.g 4=some (.func (.func 98) [] [.ptr j 0, .ptr (j+2) 0])/\I.g 7=some (.bool b)/\uj X R (j+2) aP (ci.map Tok.text) (ci.map Tok.at_)/\aT X R aH bM aO cC/\j+2<aP/\cx X [aH] h j R aP/\aV X R (.ptr j 0)=some (.ptr aH 0)/\Z X R (j+1)=zG [.a2, .a2, .Z 0, .cW] 4/\ci.length+m<=n+5/\
       (b=true->(andThen (andThen (pe m ci (aO.drop cC)) λci k=>andThen (dX [41] k) λ_ k=>ok ci k) λci k=>andThen (dX [61] k) λB k=>andThen (arrow n k) λr k=>andThen (dX [59] k) λ_ k=>ok (⟨ci.map Tok.text,ci.map Tok.at_,B.at_,r⟩:eo) k)=some r)/\
       (b=false->(andThen (andThen (dX [41] (aO.drop cC)) λ_ k=>ok ci k) λci k=>andThen (dX [61] k) λB k=>andThen (arrow n k) λr k=>andThen (dX [59] k) λ_ k=>ok (⟨ci.map Tok.text,ci.map Tok.at_,B.at_,r⟩:eo) k)=some r))
       n ⟨[e],hu,true,bt,bt,bt,bt,bt,Dn,he,Zo,uE,IP,AZ,by simp;omega,λ_=>V,λa=>(by cases a)⟩ ?_
      clear IP AZ Dn he uE V ad9 bF
      rintro m I cH eh ⟨ci,mD,b,t1,ei,t3,t4,fC,Do,hK,SN,e4,wh,xW,aZ,D,ma⟩
      refine qW @fC ⟨?_⟩
      refine gM ?_
      cases b with
      |false=>
       refine vO ?_
       exact Jn _ _ _ ⟨ci,mD,a6 t1,a6 ei,a6 t3,Do,hK,SN,e4,wh,xW,Zo,ma rfl⟩
      |true=>
       have V:=D rfl
       cases m with
       |zero=>simp[pe,andThen]at V
       |succ m=>
       unfold pe at V
       refine vP ?_
       have nd:=av.go hK (by omega:j<=eh)
       refine cq @t4 ⟨?_⟩
       simp only[Yn,Z0]
       cases sq:aO.drop mD with
       |nil=>rw[sq]at V;simp[il,andThen]at V
       |cons aG lz=>
       rw[sq]at V
       simp only[il]at V
       refine(Uq az nd Zo Zo Zo Zo wh Do (by simp;omega) (by simp;omega) sq).mono ?_ ?_
       ·rintro u8 ea jM ⟨Di,rfl,asu,wE,Dj,gT⟩
        rw[Zq Di]at V
        simp only[andThen,ok]at V
        rw[<-(fx sq).2]at V
        have aby:aV X ea (.ptr j 0)=some (.ptr aH 0):=by rw[gT.fq _ _ Zo (by simp;omega)];exact wh
        have MO:Z X ea (j+1)=zG [.a2, .a2, .Z 0, .cW] 4:=by rw[gT.ad _ Zo (by simp;omega)];exact xW
        have ap2:cx X [aH] h j ea jM:=⟨Zo,λb ah bT=>by rw[gT.ad b Zo bT];exact e4.ad b ah bT⟩
        have sQ:=av.go wE (by omega:j<=jM)
        refine dd @t1 @aby ⟨?_⟩
        cases q4:aO.drop (mD+1)with
        |nil=>rw[q4]at V;simp[hM,kZ]at V
        |cons w m6=>
        refine(nW az sQ q4 [44]).Zm ?_
        rintro azI eC mK ⟨rfl,mC,hT⟩
        have wz:=hT.le
        rw[q4]at V
        have xX:aV X eC (.ptr j 0)=some (.ptr aH 0):=by rw[hT.fq _ _ Zo (by simp;omega)];exact aby
        have we:Z X eC (j+1)=zG [.a2, .a2, .Z 0, .cW] 4:=by rw[hT.ad _ Zo (by simp;omega)];exact MO
        have S6:=asu.ad (R:=eC) (ky:=mK) (λe H K=>hT.ad e K (by simp;omega)) wz
        have A3:=ap2.trans hT
        refine cY ⟨?_⟩
        refine⟨m,Zo,ci++[aG],_,gH w [44],a6 t1,a6 ei,a6 t3,a6 t4,bt,by simpa using S6,mC,Zo,A3,xX,we,by simp;omega,λa=> ?_,λa=> ?_⟩
        ·simp only[hM,kZ,a,ZC]at V ⊢
         rw[(fx q4).2]
         exact V
        ·simp only[hM,kZ,a,Zw,ZA]at V ⊢
         rw[q4]
         exact V
       ·rintro u8 ea jM ⟨Di,rfl,gT⟩
        rw[Zg Di]at V
        simp only[andThen,bad,Zf]at V
        subst V
        exact⟨_,rfl,rfl,e4.trans gT⟩
     ·clear IP AZ Dn he uE V ad9 bF
      rintro I cH eh ⟨ci,mD,t1,ei,t3,Do,hK,SN,e4,wh,xW,aZ,V⟩
      refine dd @t1 @wh ⟨?_⟩
      refine ff (λea=>Z X ea eh=zG [.str [41]] 1/\bG X cH eh ea (eh+1)) ⟨bz Zo,dS⟩ ?_
      rintro ea ⟨CX,kx⟩
      have sQ:=av.go (hK.ex kx Zo Zo) (by omega:j<=eh+1)
      have gT:=e4.trans (cx.of kx)
      cases bF:dX [41] (aO.drop mD)with
      |none=>rw[bF]at V;cases V
      |some yZ=>
      rw[bF]at V
      refine(jG az sQ Zo Zo CX bF).mono ?_ ?_
      ·rintro v9 eC mK ⟨ub,i9,rfl,_,mC,hT⟩
       have wz:=hT.le
       simp only[andThen,ok]at V
       have xX:aV X eC (.ptr j 0)=some (.ptr aH 0):=by rw[hT.fq _ _ Zo (by simp;omega),kx.fq _ _ Zo];exact wh
       have we:Z X eC (j+1)=zG [.a2, .a2, .Z 0, .cW] 4:=by rw[hT.ad _ Zo (by simp;omega),kx.ad _ Zo];exact xW
       have S6:=Do.ad (R:=eC) (ky:=mK) (λe H K=>by rw[hT.ad e Zo (by simp;omega),kx.ad e K]) Zo
       exact bx _ _ _ ⟨ci,i9,t1,ei,t3,S6,mC,Zo,gT.trans hT,xX,we,aZ,V⟩
      ·rintro v9 eC mK ⟨E,rfl,rfl,hT⟩
       simp only[andThen,Zf]at V
       subst V
       exact⟨E,rfl,rfl,gT.trans hT⟩
    ·rintro y8 cp d2 ⟨E,rfl,rfl,ez⟩
     simp only[Zf]at V
     subst V
     exact⟨E,rfl,rfl,dT.trans ez⟩
   ·rintro HA b0 cU ⟨gl,rfl,eJ⟩
    rw[Zg gl]at V
    simp only[andThen,bad,Zf]at V
    subst V
    exact⟨_,rfl,rfl,eF.trans eJ⟩
  ·rw[aD]at dq ⊢
   simp only[Zw,ZA]at dq ⊢
   simp only[]at V
   refine dd b6.eq_1 g1.eq_1 ⟨?_⟩
   simp only[Yn,Z0]
   refine ff (λbr=>aV X br (.ptr j 0)=some (.ptr aH 0)/\Z X br (j+1)=zG [.a2, .a2, .Z 0, .cW] 4/\uj X br (j+2) (bc+1) [] []/\aT X br aH bM aO i/\cx X [aH] h j br (bc+1)) ⟨?_, ?_, ?_, ?_, ?_⟩ ?_
   ·exact Rr @F3
   ·simp(disch:=omega) only[aJ];exact uB
   ·exact nL.ad (λe H K=>zI) Zo
   ·exact dq.ad (zI) (zI)
   ·exact⟨Zo,λb ah bT=>by rw[<-wj.ad b ah bT];exact zI⟩
   clear F3 uB nL dq wj dy cb ec it p9 fo mO
   rintro br ⟨uC,tr,qn,gx,eF⟩
   have nc:=av.go gx (by omega:j<=bc+1)
   rw[aI]at V
   simp only[il]at V
   refine(Uq az nc Zo Zo Zo Zo uC qn Zs Zs aI).mono ?_ ?_
   ·rintro HA b0 cU ⟨gl,rfl,sD,hd,jy,eJ⟩
    rw[Zq gl]at V
    simp only[andThen,ok]at V
    rw[<-(fx aI).2]at V
    have IN:aV X b0 (.ptr j 0)=some (.ptr aH 0):=by rw[eJ.fq _ _ Zo (by simp;omega)];exact uC
    have xV:Z X b0 (j+1)=zG [.a2, .a2, .Z 0, .cW] 4:=by rw[eJ.ad _ Zo (by simp;omega)];exact tr
    exact bx _ _ _ ⟨[x],i+1,bt,bt,bt,sD,hd,Zo,⟨Zo,λb ah bT=>by rw[eJ.ad b Zo bT];exact eF.ad b ah bT⟩,IN,xV,Zs,V⟩
   ·rintro HA b0 cU ⟨gl,rfl,eJ⟩
    rw[Zg gl]at V
    simp only[andThen,bad,Zf]at V
    subst V
    exact⟨_,rfl,rfl,eF.trans eJ⟩
 ·clear af V dq wj dy cb ec it p9 fo mO aI
  rintro I br bL ⟨ci,i3,t1,ei,t3,qn,gx,aBH,eF,uC,tr,aZ,V⟩
  refine dd @t1 @uC ⟨?_⟩
  refine ff (λb0=>Z X b0 bL=zG [.str [61]] 1/\bG X br bL b0 (bL+1)) ⟨bz Zo,dS⟩ ?_
  rintro b0 ⟨CV,dz⟩
  have kY:=av.go (gx.ex dz Zo Zo) (by omega:j<=bL+1)
  have eJ:=eF.trans (cx.of dz)
  rcases gi V with ⟨E,be,rfl⟩|⟨B,fA,be,V⟩
  ·exact(jG az kY Zo Zo CV be).mono (λac R ap a=>by obtain⟨B,cC,a,_⟩:=a;cases a) (λac R ap a=>a.of eJ (λ_ a=>by cases a;rfl))
  refine(jG az kY Zo Zo CV be).mono ?_ (λac R ap a=>by obtain⟨E,a,_⟩:=a;cases a)
  rintro v5 b5 cA ⟨fy,i5,sr,rfl,gy,dT⟩
  cases sr
  have jz:=dT.le
  have MQ:aV X b5 (.ptr j 0)=some (.ptr aH 0):=by rw[dT.fq _ _ Zo (by simp;omega),dz.fq _ _ Zo];exact uC
  have FY:Z X b5 (j+1)=zG [.a2, .a2, .Z 0, .cW] 4:=by rw[dT.ad _ Zo (by simp;omega),dz.ad _ Zo];exact tr
  have ol:=qn.ad (R:=b5) (ky:=cA) (λe H K=>by rw[dT.ad e Zo (by simp;omega),dz.ad e K]) Zo
  have x1:=eJ.trans dT
  obtain⟨a8,CY,c,bi,jE,AF,tb,b4,b1,cM,eu,eZ,eb,eW⟩:=ol
  clear qn gx eF uC tr dz CV kY eJ dT
  refine dd @t3 b6.eq_1 ⟨?_⟩
  have aeu:∀e,e≠j+2->Z X (bp X b5 (j+2) (some (.cells (dM c 2 (z.Z B.at_).cells) 4 .own))) e=Z X b5 e:=λe D=>aJ Zo D
  refine dd @t1 @MQ ⟨?_⟩
  refine ff (λcp=>Z X cp (j+2)=some (.cells (c.set 2 (some (.Z B.at_))) 4 .own)/\∀e,e≠j+2->Z X cp e=Z X b5 e) ⟨(bz Zo).trans (by simp only[z.cells,rI]),aeu⟩ ?_
  clear aeu
  rintro cp ⟨B2,eK⟩
  have he:aT X cp aH bM aO i5:=gy.ad (eK _ Zo) (eK _ Zo)
  have ez:cx X [aH] h j cp cA:=⟨x1.le,λb ah bT=>by rw[eK b Zo];exact x1.ad b ah bT⟩
  rcases gi V with ⟨E,c9,rfl⟩|⟨Q2,lz,c9,V⟩
  ·exact((X1 az eN n Zo).arrow cp _ _ _ (av.go he Zo) c9).mono (λac R ap a=>by obtain⟨B,cC,a,_⟩:=a;cases a) (λac R ap a=>a.of ez (λ_ a=>by cases a;rfl))
  refine((X1 az eN n Zo).arrow cp _ _ _ (av.go he Zo) c9).mono ?_ (λac R ap a=>by obtain⟨E,a,_⟩:=a;cases a)
  rintro Lc cH eh ⟨aaG,mD,yf,e3,hK,e4⟩
  cases yf
  have pF:=e4.le
  obtain⟨pW,rfl,aCl,_⟩:=e3.ptr
  have Hm:Z X cH (j+2)=some (.cells (c.set 2 (some (.Z B.at_))) 4 .own):=by rw[e4.ad _ Zo (by simp;omega)];exact B2
  have wh:aV X cH (.ptr j 0)=some (.ptr aH 0):=by rw[e4.fq _ _ Zo (by simp;omega),da,eK _ Zo, <-da];exact MQ
  have gG:∀e,j<=e->e<cA->e≠j+2->Z X cH e=Z X b5 e:=λe H K ak=>by rw[e4.ad e K (by simp;omega),eK e ak]
  refine cq @t3 ⟨?_⟩
  refine dd @t1 @wh ⟨?_⟩
  refine ff (λea=>Z X ea eh=zG [.str [59]] 1/\Z X ea (j+2)=some (.cells ((c.set 2 (some (.Z B.at_))).set 3 (some (.ptr pW 0))) 4 .own)/\∀e,e<eh->e≠j+2->Z X ea e=Z X cH e) ⟨bz Zo, ?_, ?_⟩ ?_
  ·rw[aJ Zo Zo,bz Zo];simp only[z.cells,rI]
  ·intro e H K
   rw[aJ Zo Zo,aJ Zo K]
  rintro ea ⟨CX,axn,h8⟩
  have wE:aT X ea aH bM aO mD:=hK.ad (h8 _ Zo Zo) (h8 _ Zo Zo)
  have gT:cx X [aH] h j ea (eh+1):=⟨Zo,λb ah bT=>by rw[h8 b Zo Zo];exact(ez.trans e4).ad b ah bT⟩
  rcases gi V with ⟨E,hI,rfl⟩|⟨ub,rk,hI,V⟩
  ·exact(jG az (av.go wE Zo) Zo Zo CX hI).mono (λac R ap a=>by obtain⟨B,cC,a,_⟩:=a;cases a) (λac R ap a=>a.of gT (λ_ a=>by cases a;rfl))
  refine(jG az (av.go wE Zo) Zo Zo CX hI).mono ?_ (λac R ap a=>by obtain⟨E,a,_⟩:=a;cases a)
  rintro v9 eC mK ⟨aDm,i9,aqQ,_,mC,hT⟩
  cases aqQ
  have wz:=hT.le
  simp only[ok,Zf]at V
  subst V
  have afX:Z X eC (j+2)=some (.cells ((c.set 2 (some (.Z B.at_))).set 3 (some (.ptr pW 0))) 4 .own):=by rw[hT.ad _ Zo (by simp;omega)];exact axn
  have hw:∀e,j<=e->e<eh->e≠j+2->Z X eC e=Z X cH e:=λe H K ak=>by rw[hT.ad e Zo (by simp;omega),h8 e K ak]
  have we:Z X eC (j+1)=zG [.a2, .a2, .Z 0, .cW] 4:=by rw[hw _ Zo Zo Zo,gG _ Zo Zo Zo];exact FY
  have dE:((c.set 2 (some (z.Z B.at_))).set 3 (some (.ptr pW 0))).get 0=some bi:=by rw[S.kw,Zg Zd,S.kw,Zg Zd];exact b1
  have dF:((c.set 2 (some (z.Z B.at_))).set 3 (some (.ptr pW 0))).get 1=some jE:=by rw[S.kw,Zg Zd,S.kw,Zg Zd];exact cM
  have dR:((c.set 2 (some (z.Z B.at_))).set 3 (some (.ptr pW 0))).get 2=some (.Z B.at_):=by rw[S.kw,Zg Zd,S.kw,Zq rfl]
  have g3:((c.set 2 (some (z.Z B.at_))).set 3 (some (.ptr pW 0))).get 3=some (.ptr pW 0):=by rw[S.kw,Zq rfl]
  generalize ((c.set 2 (some (z.Z B.at_))).set 3 (some (.ptr pW 0)))=gp at afX dE dF dR g3
  obtain⟨gZ,mM,tQ⟩:=f0.one eu
  obtain⟨Hf,BQ,sM⟩:=f0.one eZ
  have aw:ep X eC 4 (.ptr (j+2) 0)=some (.agg [bi,jE, .Z B.at_, .ptr pW 0]):=by
   rw[BA];simp[bX afX,dE,dF,dR,g3]
  refine ey @t3 @aw @ei ⟨?_⟩
  refine gr (km (o:=4) we Zo rfl Zd Zd (by simp[z.cells,hZ,mM,BQ,show oA (.Z B.at_)=true from rfl,show oA (.ptr pW 0)=true from rfl])) ?_
  refine cq @ei ⟨?_⟩
  have DN:∀e,e≠j+1->∀cN,Z X (bp X eC (j+1) cN) e=Z X eC e:=λe D cN=>aJ Zo D
  have m0:∀e,j+2<e->e<cA->∀cN,Z X (bp X eC (j+1) cN) e=Z X b5 e:=λe H K cN=>by rw[DN e Zo,hw e Zo Zo Zo,gG e Zo K Zo]
  obtain⟨ch,NN⟩:=(eu.ad (R:=bp X eC (j+1) (some (.cells (dM (S.ofList [.a2, .a2, .Z 0, .cW] 0 .nil) 0 [bi,jE, .Z B.at_, .ptr pW 0]) 4 .own))) (λe D=>m0 e (eb e D).1 (eb e D).2.1 _)).axw (d8:=λe=>du j mK e/\e∈AF) (by simp;omega) (λe D=>by have:=eb e D;exact⟨⟨Zo,Zo⟩,D⟩)
  obtain⟨cD,JQ⟩:=(eZ.ad (R:=bp X eC (j+1) (some (.cells (dM (S.ofList [.a2, .a2, .Z 0, .cW] 0 .nil) 0 [bi,jE, .Z B.at_, .ptr pW 0]) 4 .own))) (λe D=>m0 e (eW e D).1 (eW e D).2 _)).B5 (P:=λe=>du j mK e/\e∈tb) (by simp;omega) (λe D=>by have:=eW e D;exact⟨⟨Zo,Zo⟩,D⟩)
  have qb:=cm.ad (R:=bp X eC (j+1) (some (.cells (dM (S.ofList [.a2, .a2, .Z 0, .cW] 0 .nil) 0 [bi,jE, .Z B.at_, .ptr pW 0]) 4 .own))) (λe D=>by
   have H:=D.1
   rw[DN e Zo,hw e Zo D.2 Zo]) _ _ e3
  refine⟨_,i9,[bi,jE, .Z B.at_, .ptr pW 0],rfl,rfl,⟨λe=>if e∈AF then 1 else if e∈tb then 2 else 0,bi,jE,ch,cD, .ptr pW 0,rfl, ?_, ?_, ?_,by simp[hZ,mM,BQ,show oA (.Z B.at_)=true from rfl,show oA (.ptr pW 0)=true from rfl]⟩, ?_, ?_⟩
  ·rw[YA]at NN;exact NN.lift λe D=>⟨D.1,Zq D.2⟩
  ·rw[YA]at JQ;exact JQ.lift λe D=>⟨D.1,(Zg (λa=>(eb e a).2.2 D.2)).trans (Zq D.2)⟩
  ·exact cm.lift (λe D=>⟨⟨zC D.1,zC D.2⟩,(Zg (λa=>by have:=eb e a;have:=D.1;omega)).trans (Zg (λa=>by have:=eW e a;have:=D.1;omega))⟩) _ _ qb
  ·exact mC.ad (DN _ Zo _) (DN _ Zo _)
  ·exact⟨Zo,λb ah bT=>by rw[DN b Zo];exact(gT.trans hT).ad b ah bT⟩
end
end
end Go.Proofs.YtendhgofocgngaaGreatDoor

