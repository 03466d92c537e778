/- Part of the proof of the last text; no conditions -/
import Derived.Test.YtbbkkkpgjaopkaaGreatDoorYo
set_option maxHeartbeats 8000000
set_option linter.all false
namespace Go.Proofs.YtbbkkkpgjaopkaaGreatDoor
open Go.bs Go.aQ
noncomputable section
section
variable{X:cl}{h R aX aP:M ak}{j au aM be aJ bJ:Nat}{aU:List Tok}{i:Nat}
def ato(az:dW X){n:Nat}(aj:∀m,m<n+1->qN X aJ bJ aU m){r:Except Int (bL×List Tok)}(ay:iu X h j aJ bJ aU i){x:Tok}{k:List Tok}(aH:aU.drop i=x::k)(aG:x.kind=6)(a8:x.text=[40])(V:Go.aQ.part (n+1) (x::k)=some r):
 a1 X 133 [.ptr aJ 0] h j (jN X aJ bJ aU h j r) (iN X aJ h j r):=by
 refine zL az (yL X) ?_
 rw[yM]
 unfold wX
 have gx:=ay.aY
 have j8:=ay.hi
 have hB:=ay.ch
 have jy:=ay.gV
 obtain⟨af,jU⟩:=fz aH
 unfold Go.aQ.part at V
 refine(rp az ay.aY ay.par ay.hi ay.gV af).Zm ?_
 rintro ab aX aM ⟨rfl,bY⟩
 have jD:=bY.le
 have eb:=ay.par.ex bY Zo Zo
 obtain⟨c,ao,a7,b2,a3,a4⟩:=eb.at_
 have bS:=jW a7 a3
 have jC:=(Zb.1 af).1
 have uJ:=ay.many
 have cE:=eb.ne
 have bB:=zJ i
 refine gG b0.eq_1 @bS (Za @bB @a7) ⟨?_⟩
 generalize dN:bl X _ aJ _=aP
 have ft:Z X aP aM=zI (b0 x) 7:=by rw[<-dN];simp(disch:=omega) only[aL,bn]<;>rfl
 have iA:Z X aP (aM+1)=zI (gL 0 x.at_ [] false dr 0 .aW) 9:=by rw[<-dN];simp(disch:=omega) only[aL,bn]<;>rfl
 have dm:aQ X aP aJ bJ aU (i+1):=by
  refine eb.on (c:=d3 c 1 [.Z ((i+1:Nat):Int)]) ?_ (λd9 st a=>by rw[a7]at a;cases a;exact qL ..) ?_
  ·rw[<-dN];simp(disch:=omega) only[aL,bn];rfl
  ·rw[<-dN];simp(disch:=omega) only[aL]
 have dt:cu X [aJ] h j aP (aM+2):=by
  refine⟨Zo,λb al bN=> ?_⟩
  rw[<-bY.ad b al, <-dN]
  simp only[Zr,ZN,Y4,Yw,ZK,Yi]at bN
  simp(disch:=omega) only[aL]
 clear dN bS a7 b2 a3 a4 eb bY
 have th:∃dx,Z X aP aJ=some (.cells dx 2 .own)/\aV X aP (.ptr aJ 1)=some (.Z ((i+1:Nat):Int)):=by
  obtain⟨c,ao,b4,cr,cS,fh⟩:=dm.at_
  exact⟨c,b4,jW b4 cS⟩
 have fB:=ay.go dm (by omega:j<=aM+1+1)
 refine kx (λI R aS=>∃v,I.g 4=some v/\jN X aJ bJ aU h j r v R aS) (λY bD=> ?_) (by
  rintro I R aS ⟨v,t4,a⟩
  refine ce @t4 ⟨?_⟩
  exact a)
 rw[Zg (by rw[aG];decide),Zg (by simp[aG]),Zg (by rw[aG];decide),Zg (by rw[aG];decide),Zu (by simp[aG,a8])]at V
 have fR:decide (x.kind=5)=false:=by simp[aG]
 have cC:decide (x.kind=2)=false:=by simp[aG]
 have cB:decide (x.kind=1)=false:=by simp[aG]
 have dI:decide (x.kind=3)=false:=by simp[aG]
 have i7:decide (x.kind=6)=true:=by simp[aG]
 have HG:decide (x.text=[40])=true:=by simp[a8]
 refine fA (bU ft) @iA @fR @cC @cB @dI (Za @i7 (Za @HG b0.eq_1)) ⟨?_⟩
 rw[<-jU]at V
 rcases ge V with ⟨E,bm,rfl⟩|⟨oM,fG,bm,V⟩
 ·exact((aj n Zo).arrow aP _ _ _ fB bm).mono (λab R au a=>by obtain⟨D,cx,a,_⟩:=a;cases a) (λab R au a=>a.of dt (λ_ a=>by cases a;rfl))
 refine((aj n Zo).arrow aP _ _ _ fB bm).mono ?_ (λab R au a=>by obtain⟨E,a,_⟩:=a;cases a)
 rintro v5 bZ ct ⟨K9,i5,si,dC,g8,dV⟩
 cases si
 have hQ:=dV.le
 have oo:=fB.go g8 hQ
 have qm:=dt.trans dV
 refine c7 ⟨?_⟩
 refine e8 (λb9=>Z X b9 ct=zI [.str [41]] 1/\bp X bZ ct b9 (ct+1)) ⟨bn Zo,dM⟩ ?_
 rintro b9 ⟨HT,eY⟩
 have mu:=oo.go (g8.ex eY Zo Zo) (by omega:ct<=ct+1)
 have eD:=qm.trans (cu.of eY)
 rcases ge V with ⟨E,df,rfl⟩|⟨vg,kA,df,V⟩
 ·exact(jt az mu Zo Zo HT df).mono (λab R au a=>by obtain⟨D,cx,a,_⟩:=a;cases a) (λab R au a=>a.of eD (λ_ a=>by cases a;rfl))
 refine(jt az mu Zo Zo HT df).mono ?_ (λab R au a=>by obtain⟨E,a,_⟩:=a;cases a)
 rintro J5 cm en ⟨awv,o6,xG,_,hD,eZ⟩
 cases xG
 have re:=eZ.le
 simp only[ok,Zc]at V
 subst V
 refine bD _ _ _ ⟨v5,bF,_,o6,rfl,cG.ex dC (λe H K=>by rw[eZ.ad e Zo Zx,eY.ad e Zo]) Zo Zo,hD,eD.trans eZ⟩
end
section
variable{X:cl}{h R aX aP:M ak}{j au aM be aJ bJ:Nat}{aU:List Tok}{i:Nat}
def atl(az:dW X){n:Nat}(aj:∀m,m<n+1->qN X aJ bJ aU m){r:Except Int (bL×List Tok)}(ay:iu X h j aJ bJ aU i){x:Tok}{k:List Tok}(aH:aU.drop i=x::k)(aG:x.kind=2)(a8:x.text=[109,101,114,103,101])(V:Go.aQ.part (n+1) (x::k)=some r):
 a1 X 133 [.ptr aJ 0] h j (jN X aJ bJ aU h j r) (iN X aJ h j r):=by
 refine zL az (yL X) ?_
 rw[yM]
 unfold wX
 have gx:=ay.aY
 have j8:=ay.hi
 have hB:=ay.ch
 have jy:=ay.gV
 obtain⟨af,jU⟩:=fz aH
 unfold Go.aQ.part at V
 refine(rp az ay.aY ay.par ay.hi ay.gV af).Zm ?_
 rintro ab aX aM ⟨rfl,bY⟩
 have jD:=bY.le
 have eb:=ay.par.ex bY Zo Zo
 obtain⟨c,ao,a7,b2,a3,a4⟩:=eb.at_
 have bS:=jW a7 a3
 have jC:=(Zb.1 af).1
 have uJ:=ay.many
 have cE:=eb.ne
 have bB:=zJ i
 refine gG b0.eq_1 @bS (Za @bB @a7) ⟨?_⟩
 generalize dN:bl X _ aJ _=aP
 have ft:Z X aP aM=zI (b0 x) 7:=by rw[<-dN];simp(disch:=omega) only[aL,bn]<;>rfl
 have iA:Z X aP (aM+1)=zI (gL 0 x.at_ [] false dr 0 .aW) 9:=by rw[<-dN];simp(disch:=omega) only[aL,bn]<;>rfl
 have dm:aQ X aP aJ bJ aU (i+1):=by
  refine eb.on (c:=d3 c 1 [.Z ((i+1:Nat):Int)]) ?_ (λd9 st a=>by rw[a7]at a;cases a;exact qL ..) ?_
  ·rw[<-dN];simp(disch:=omega) only[aL,bn];rfl
  ·rw[<-dN];simp(disch:=omega) only[aL]
 have dt:cu X [aJ] h j aP (aM+2):=by
  refine⟨Zo,λb al bN=> ?_⟩
  rw[<-bY.ad b al, <-dN]
  simp only[Zr,ZN,Y4,Yw,ZK,Yi]at bN
  simp(disch:=omega) only[aL]
 clear dN bS a7 b2 a3 a4 eb bY
 have th:∃dx,Z X aP aJ=some (.cells dx 2 .own)/\aV X aP (.ptr aJ 1)=some (.Z ((i+1:Nat):Int)):=by
  obtain⟨c,ao,b4,cr,cS,fh⟩:=dm.at_
  exact⟨c,b4,jW b4 cS⟩
 have fB:=ay.go dm (by omega:j<=aM+1+1)
 refine kx (λI R aS=>∃v,I.g 4=some v/\jN X aJ bJ aU h j r v R aS) (λY bD=> ?_) (by
  rintro I R aS ⟨v,t4,a⟩
  refine ce @t4 ⟨?_⟩
  exact a)
 rw[Zg (by rw[aG];decide),Zg (by simp[aG,a8]),Zg (by rw[aG];decide),Zg (by rw[aG];decide),Zg (by simp[aG]),Zg (by simp[aG,a8]),Zu (by simp[aG,a8])]at V
 have fR:decide (x.kind=5)=false:=by simp[aG]
 have cC:decide (x.kind=2)=true:=by simp[aG]
 have cB:decide (x.kind=1)=false:=by simp[aG]
 have dI:decide (x.kind=3)=false:=by simp[aG]
 have i7:decide (x.kind=6)=false:=by simp[aG]
 have cF:decide (x.text=[116,114,117,101])=false:=by simp[a8]
 have cH:decide (x.text=[102,97,108,115,101])=false:=by simp[a8]
 have d7:decide (x.text=[105,102])=false:=by simp[a8]
 have fU:decide (x.text=[109,101,114,103,101])=true:=by simp[a8]
 refine fA (bU ft) @iA @fR @cC @cB @dI (Za @i7 (Za @cF (Za @cH (Za @d7 (Za @fU b0.eq_1))))) ⟨?_⟩
 rw[<-jU]at V
 cases C2:aU.drop (i+1)with
 |nil=>rw[C2]at V;simp[iH,andThen]at V
 |cons c fl=>
 rw[C2]at V
 simp only[iH]at V
 refine(Bv az fB.aY fB.par fB.ch fB.hi fB.gV fB.many (fz C2).1 1).mono ?_ ?_
 ·rintro GK bT b3 ⟨gg,rfl,g7,eJ⟩
  have je:=eJ.le
  rw[Zu gg]at V
  simp only[andThen,ok]at V
  rw[<-(fz C2).2]at V
  have HQ:Z X bT (aM+1)=zI (gL 0 x.at_ [] false dr 0 .aW) 9:=by rw[eJ.ad _ Zo Zx];exact iA
  have xy:=dt.trans eJ
  refine dq b0.eq_1 @HQ ⟨?_⟩
  refine e8 (λbf=>Z X bf (aM+1)=zI (gL 24 x.at_ c.text false dr 0 .aW) 9/\aQ X bf aJ bJ aU (i+1+1)/\cu X [aJ] h j bf b3) ⟨?_, ?_, ?_⟩ ?_
  ·simp(disch:=omega) only[aL,bn]<;>rfl
  ·exact g7.ad (zK) (zK)
  ·exact⟨Zo,λb al bN=>by rw[<-xy.ad b al bN];exact zK⟩
  clear HQ g7 eJ xy iA th dm fB dt ft
  rintro bf ⟨iA,gz,eG⟩
  have nh:=ay.go gz (by omega:j<=b3)
  cases Dl:Go.aQ.part n (aU.drop (i+1+1))with
  |none=>rw[Dl]at V;cases V
  |some adL=>
  rw[Dl]at V
  refine((aj n Zo).part bf _ _ _ nh Dl).mono ?_ ?_
  ·rintro v5 bZ ct ⟨oM,i5,rfl,dC,g8,dV⟩
   simp only[]at V
   have hQ:=dV.le
   have oo:=nh.go g8 hQ
   have qm:=eG.trans dV
   cases Mg:Go.aQ.part n (aU.drop i5)with
   |none=>rw[Mg]at V;cases V
   |some gW=>
   rw[Mg]at V
   refine((aj n Zo).part bZ _ _ _ oo Mg).mono ?_ ?_
   ·rintro yt b9 dP ⟨Ac,h1,rfl,eY,hr,eD⟩
    simp only[Zc]at V
    subst V
    have qx:=eD.le
    obtain⟨mv,rfl,rg,_⟩:=dC.ptr
    obtain⟨BH,rfl,IL,_⟩:=eY.ptr
    have r8:Z X b9 (aM+1)=zI (gL 24 x.at_ c.text false dr 0 .aW) 9:=by rw[eD.ad _ Zo Zx,dV.ad _ Zo Zx];exact iA
    refine ce @r8 ⟨?_⟩
    refine bD _ _ _ ⟨.ptr (aM+1) 0,bF,_,h1,rfl,cG.lit (q:=2) (cap:=2) (b:=aM+1) (m:=9) (st:= .own) (ha:= .own) (cn:=dP) (bx:=[.ptr mv 0, .ptr BH 0]) ?_ ⟨Zo,Zo⟩ ?_ ⟨Zo,Zo⟩ rfl Zo Zo (dw.two (cG.ad (λe B=> ?_) _ _ dC) (cG.ad (λe B=> ?_) _ _ eY) (λe B=> ?_) (λe B=> ?_)),hr.ad (zK) (zK), ?_⟩
    ·simp(disch:=omega) only[aL,bn]<;>rfl
    ·simp(disch:=omega) only[aL,bn]<;>rfl
    ·have H:=B.1;have K:=B.2
     simp(disch:=omega) only[aL]
     exact eD.ad e Zo Zx
    ·have H:=B.1;have K:=B.2
     simp(disch:=omega) only[aL]
    ·simp only[ei]at B ⊢;omega
    ·simp only[ei]at B ⊢;omega
    ·exact⟨Zo,λb al bN=>by rw[<-(qm.trans eD).ad b al bN];exact zK⟩
   ·rintro yt b9 dP ⟨E,rfl,rfl,eD⟩
    simp only[Zc]at V
    subst V
    exact⟨E,rfl,rfl,qm.trans eD⟩
  ·rintro v5 bZ ct ⟨E,rfl,rfl,dV⟩
   simp only[Zc]at V
   subst V
   exact⟨E,rfl,rfl,eG.trans dV⟩
 ·rintro GK bT b3 ⟨gg,rfl,eJ⟩
  rw[Zg gg]at V
  simp only[andThen,bad,Zc]at V
  subst V
  exact⟨_,rfl,rfl,dt.trans eJ⟩
end
section
variable{X:cl}{h R aX aP:M ak}{j au aM be aJ bJ:Nat}{aU:List Tok}{i:Nat}
def SR(az:dW X){n:Nat}{r:Except Int (bL×List Tok)}(ay:iu X h j aJ bJ aU i){x:Tok}{k:List Tok}(aH:aU.drop i=x::k)(eM:x.kind≠5)(bS:x.kind≠1)(cM:x.kind≠3)(dS:x.kind=6->x.text≠[40])(ck:x.kind=2->x.text≠[116,114,117,101]/\x.text≠[102,97,108,115,101]/\x.text≠[105,102]/\x.text≠[109,101,114,103,101])(V:Go.aQ.part (n+1) (x::k)=some r):
 a1 X 133 [.ptr aJ 0] h j (jN X aJ bJ aU h j r) (iN X aJ h j r):=by
 refine zL az (yL X) ?_
 rw[yM]
 unfold wX
 have gx:=ay.aY
 have j8:=ay.hi
 have hB:=ay.ch
 have jy:=ay.gV
 obtain⟨af,jU⟩:=fz aH
 unfold Go.aQ.part at V
 refine(rp az ay.aY ay.par ay.hi ay.gV af).Zm ?_
 rintro ab aX aM ⟨rfl,bY⟩
 have jD:=bY.le
 have eb:=ay.par.ex bY Zo Zo
 obtain⟨c,ao,a7,b2,a3,a4⟩:=eb.at_
 have bS:=jW a7 a3
 have jC:=(Zb.1 af).1
 have uJ:=ay.many
 have cE:=eb.ne
 have bB:=zJ i
 refine gG b0.eq_1 @bS (Za @bB @a7) ⟨?_⟩
 generalize dN:bl X _ aJ _=aP
 have ft:Z X aP aM=zI (b0 x) 7:=by rw[<-dN];simp(disch:=omega) only[aL,bn]<;>rfl
 have iA:Z X aP (aM+1)=zI (gL 0 x.at_ [] false dr 0 .aW) 9:=by rw[<-dN];simp(disch:=omega) only[aL,bn]<;>rfl
 have dm:aQ X aP aJ bJ aU (i+1):=by
  refine eb.on (c:=d3 c 1 [.Z ((i+1:Nat):Int)]) ?_ (λd9 st a=>by rw[a7]at a;cases a;exact qL ..) ?_
  ·rw[<-dN];simp(disch:=omega) only[aL,bn];rfl
  ·rw[<-dN];simp(disch:=omega) only[aL]
 have dt:cu X [aJ] h j aP (aM+2):=by
  refine⟨Zo,λb al bN=> ?_⟩
  rw[<-bY.ad b al, <-dN]
  simp only[Zr,ZN,Y4,Yw,ZK,Yi]at bN
  simp(disch:=omega) only[aL]
 clear dN bS a7 b2 a3 a4 eb bY
 have th:∃dx,Z X aP aJ=some (.cells dx 2 .own)/\aV X aP (.ptr aJ 1)=some (.Z ((i+1:Nat):Int)):=by
  obtain⟨c,ao,b4,cr,cS,fh⟩:=dm.at_
  exact⟨c,b4,jW b4 cS⟩
 have fB:=ay.go dm (by omega:j<=aM+1+1)
 refine kx (λI R aS=>∃v,I.g 4=some v/\jN X aJ bJ aU h j r v R aS) (λY bD=> ?_) (by
  rintro I R aS ⟨v,t4,a⟩
  refine ce @t4 ⟨?_⟩
  exact a)
 have pR:r= .error x.at_:=by
  by_cases K:x.kind=2
  ·obtain⟨e3,g9,ws,JC⟩:=ck K
   have b1:¬x.kind=6:=Zo
   rw[Zg eM,Zg (by simp[e3,g9]),Zg bS,Zg cM,Zg (by simp[b1]),Zg (by simp[ws]),Zg (by simp[JC])]at V
   simp only[bad,Zc]at V
   exact V.symm
  ·by_cases b1:x.kind=6
   ·rw[Zg eM,Zg (by simp[K]),Zg bS,Zg cM,Zg (by simp[dS b1]),Zg (by simp[K]),Zg (by simp[K])]at V
    simp only[bad,Zc]at V
    exact V.symm
   ·rw[Zg eM,Zg (by simp[K]),Zg bS,Zg cM,Zg (by simp[b1]),Zg (by simp[K]),Zg (by simp[K])]at V
    simp only[bad,Zc]at V
    exact V.symm
 subst pR
 have fR:decide (x.kind=5)=false:=by simp[eM]
 have cB:decide (x.kind=1)=false:=by simp[bS]
 have dI:decide (x.kind=3)=false:=by simp[cM]
 obtain⟨dx,Qj,Qk⟩:=th
 have cp:bg .sub (.Z ((i+1:Nat):Int)) (.Z 1)=some (.Z (((i+1:Nat):Int) -1)):=by rw[xY Zo Zo]
 have fin:∀(bf:M ak) (ah:bQ),(∀b,b<j->b∉[aJ]->Z X bf b=Z X aP b)->a1 X 87 [.agg (b0 x)] bf (aM+1+1) ah (iN X aJ h j (Except.error x.at_:Except Int (bL×List Tok))):=by
  intro bf ah am
  refine(HM az Zo x _ ?_).mono (λ_ _ _ a=>a.elim) (λ_ _ _ a=>a)
  intro R au bP
  have Iy:=bP.le
  exact⟨_,rfl,rfl,Zo,λb al bN=>by rw[bP.ad b Zo,am b al bN];exact dt.ad b al bN⟩
 by_cases K:x.kind=2
 ·obtain⟨e3,g9,ws,JC⟩:=ck K
  have cC:decide (x.kind=2)=true:=by simp[K]
  have i7:decide (x.kind=6)=false:=by simp[K]
  have cF:decide (x.text=[116,114,117,101])=false:=by simp[e3]
  have cH:decide (x.text=[102,97,108,115,101])=false:=by simp[g9]
  have d7:decide (x.text=[105,102])=false:=by simp[ws]
  have fU:decide (x.text=[109,101,114,103,101])=false:=by simp[JC]
  refine fA (bU ft) @iA @fR @cC @cB @dI (Za @i7 (Za @cF (Za @cH (Za @d7 (Za @fU (Za b0.eq_1 (Za @Qj (Za @Qk @cp)))))))) ⟨?_⟩
  refine fin _ _ (λb al bN=> ?_)
  simp only[Zr,ZN,Y4,Yw,ZK,Yi]at bN
  simp(disch:=omega) only[aL]
 ·have cC:decide (x.kind=2)=false:=by simp[K]
  by_cases b1:x.kind=6
  ·have i7:decide (x.kind=6)=true:=by simp[b1]
   have cF:decide (x.text=[40])=false:=by simp[dS b1]
   refine fA (bU ft) @iA @fR @cC @cB @dI (Za @i7 (Za @cF (Za b0.eq_1 (Za @Qj (Za @Qk @cp))))) ⟨?_⟩
   refine fin _ _ (λb al bN=> ?_)
   simp only[Zr,ZN,Y4,Yw,ZK,Yi]at bN
   simp(disch:=omega) only[aL]
  ·have i7:decide (x.kind=6)=false:=by simp[b1]
   refine fA (bU ft) @iA @fR @cC @cB @dI (Za @i7 (Za b0.eq_1 (Za @Qj (Za @Qk @cp)))) ⟨?_⟩
   refine fin _ _ (λb al bN=> ?_)
   simp only[Zr,ZN,Y4,Yw,ZK,Yi]at bN
   simp(disch:=omega) only[aL]
end
section
variable{X:cl}{h R aX aP:M ak}{j au aM be aJ bJ:Nat}{aU:List Tok}{i:Nat}
def cu.tJ{X:cl}{aJ:Nat}{h R:M ak}{j au n:Nat}(a:cu X [aJ] h j R au)(q:au<=n):cu X [aJ] h j R n:=⟨ZB a.le q,a.ad⟩
def ib.one{C:aT}{h:M ak}{s:y}{aN:Nat}{k:List y}{cy:List Nat}(a:ib C h s aN k cy):s.cells=[s]/\l3 s=true/\y.same 30 s s=true:=by
 rcases a with ⟨rfl,_⟩|⟨b,ez,n,c,rfl,_⟩
 ·exact⟨rfl,rfl,rfl⟩
 ·exact⟨rfl,rfl,by simp[y.same]⟩
def atj(az:dW X){n:Nat}(aj:∀m,m<n+1->qN X aJ bJ aU m){r:Except Int (bL×List Tok)}(ay:iu X h j aJ bJ aU i){x:Tok}{k:List Tok}(aH:aU.drop i=x::k)(aG:x.kind=2)(a8:x.text=[105,102])(V:Go.aQ.part (n+1) (x::k)=some r):
 a1 X 133 [.ptr aJ 0] h j (jN X aJ bJ aU h j r) (iN X aJ h j r):=by
 refine zL az (yL X) ?_
 rw[yM]
 unfold wX
 have gx:=ay.aY
 have j8:=ay.hi
 have hB:=ay.ch
 have jy:=ay.gV
 obtain⟨af,jU⟩:=fz aH
 unfold Go.aQ.part at V
 refine(rp az ay.aY ay.par ay.hi ay.gV af).Zm ?_
 rintro ab aX aM ⟨rfl,bY⟩
 have jD:=bY.le
 have eb:=ay.par.ex bY Zo Zo
 obtain⟨c,ao,a7,b2,a3,a4⟩:=eb.at_
 have bS:=jW a7 a3
 have jC:=(Zb.1 af).1
 have uJ:=ay.many
 have cE:=eb.ne
 have bB:=zJ i
 refine gG b0.eq_1 @bS (Za @bB @a7) ⟨?_⟩
 generalize dN:bl X _ aJ _=aP
 have ft:Z X aP aM=zI (b0 x) 7:=by rw[<-dN];simp(disch:=omega) only[aL,bn]<;>rfl
 have iA:Z X aP (aM+1)=zI (gL 0 x.at_ [] false dr 0 .aW) 9:=by rw[<-dN];simp(disch:=omega) only[aL,bn]<;>rfl
 have dm:aQ X aP aJ bJ aU (i+1):=by
  refine eb.on (c:=d3 c 1 [.Z ((i+1:Nat):Int)]) ?_ (λd9 st a=>by rw[a7]at a;cases a;exact qL ..) ?_
  ·rw[<-dN];simp(disch:=omega) only[aL,bn];rfl
  ·rw[<-dN];simp(disch:=omega) only[aL]
 have dt:cu X [aJ] h j aP (aM+2):=by
  refine⟨Zo,λb al bN=> ?_⟩
  rw[<-bY.ad b al, <-dN]
  simp only[Zr,ZN,Y4,Yw,ZK,Yi]at bN
  simp(disch:=omega) only[aL]
 clear dN bS a7 b2 a3 a4 eb bY
 have th:∃dx,Z X aP aJ=some (.cells dx 2 .own)/\aV X aP (.ptr aJ 1)=some (.Z ((i+1:Nat):Int)):=by
  obtain⟨c,ao,b4,cr,cS,fh⟩:=dm.at_
  exact⟨c,b4,jW b4 cS⟩
 have fB:=ay.go dm (by omega:j<=aM+1+1)
 refine kx (λI R aS=>∃v,I.g 4=some v/\jN X aJ bJ aU h j r v R aS) (λY bD=> ?_) (by
  rintro I R aS ⟨v,t4,a⟩
  refine ce @t4 ⟨?_⟩
  exact a)
 rw[Zg (by rw[aG];decide),Zg (by simp[aG,a8]),Zg (by rw[aG];decide),Zg (by rw[aG];decide),Zg (by simp[aG]),Zu (by simp[aG,a8])]at V
 have fR:decide (x.kind=5)=false:=by simp[aG]
 have cC:decide (x.kind=2)=true:=by simp[aG]
 have cB:decide (x.kind=1)=false:=by simp[aG]
 have dI:decide (x.kind=3)=false:=by simp[aG]
 have i7:decide (x.kind=6)=false:=by simp[aG]
 have cF:decide (x.text=[116,114,117,101])=false:=by simp[a8]
 have cH:decide (x.text=[102,97,108,115,101])=false:=by simp[a8]
 have d7:decide (x.text=[105,102])=true:=by simp[a8]
 refine fA (bU ft) @iA @fR @cC @cB @dI (Za @i7 (Za @cF (Za @cH (Za @d7 (Za b0.eq_1 gL.eq_1))))) ⟨?_⟩
 rw[<-jU]at V
 refine e8 (λbf=>Z X bf (aM+1)=zI (gL 23 x.at_ [] false dr 0 .aW) 9/\aQ X bf aJ bJ aU (i+1)/\cu X [aJ] h j bf (aM+1+1)) ⟨?_, ?_, ?_⟩ ?_
 ·simp(disch:=omega) only[aL,bn]<;>rfl
 ·exact dm.ad (zK) (zK)
 ·exact⟨Zo,λb al bN=>by rw[<-dt.ad b al bN];exact zK⟩
 clear dm fB dt ft iA th
 rintro Ez ⟨XD,aa2,QC⟩
 have abj:gu X Ez .aW 1 [] []:= .inl (.inl ⟨rfl,rfl,rfl⟩)
 have uy:∀e∈([]:List Nat),aM+2<=e/\e<aM+1+1:=by simp
 have aai:dw X Ez (p3 (aM+2) (aM+1+1) []) [] []:= .nil
 have apy:y.same 30 .aW .aW=true:=rfl
 have adt:=ay.go aa2 (by omega:j<=(aM+1+1)+12)
 rcases ge V with ⟨E,bm,rfl⟩|⟨HI,fG,bm,V⟩
 ·exact((aj n Zo).arrow Ez _ _ _ adt bm).mono (λab R au a=>by obtain⟨D,cx,a,_⟩:=a;cases a) (λab R au a=>a.of (cu.tJ QC Zo) (λ_ a=>by cases a;rfl))
 refine((aj n Zo).arrow Ez _ _ _ adt bm).mono ?_ (λab R au a=>by obtain⟨E,a,_⟩:=a;cases a)
 clear bm
 rintro v5 bZ ct ⟨K9,ayh,si,dC,g8,dV⟩
 cases si
 have hQ:=dV.le
 have qm:=(cu.tJ QC (by omega:(aM+1+1)<=(aM+1+1)+12)).trans dV
 obtain⟨u5,rfl,rg,_⟩:=dC.ptr
 have rg:=rg.2
 have q1:Z X bZ (aM+1)=zI (gL 23 x.at_ [] false dr 0 y.aW) 9:=by rw[dV.ad _ Zo Zx];exact XD
 have o9:∀e,aM+2<=e->e<(aM+1+1)->Z X bZ e=Z X Ez e:=λe H K=>dV.ad e Zo Zx
 have o3:=abj.ad (R:=bZ) (λe B=>o9 e (uy e B).1 (uy e B).2)
 have uC:=dw.ad (R:=bZ) (λe B=>o9 e B.1 B.2.1) _ _ aai
 clear o9
 refine dq (bU q1) gL.eq_1 ⟨?_⟩
 refine j0 apy ?_
 have h7:hI X (bl X bZ ((aM+1+1)+7) (zI [.ptr u5 0] 1)) 1 (.slice ((aM+1+1)+7) 0 1 1)=some (1,[.ptr u5 0]):=pp (bn Zo) (lk _) rfl _
 obtain⟨JO,b9,EM,ii,pT,q8,n9⟩:=(o3.ad (R:=bl X bZ ((aM+1+1)+7) (zI [.ptr u5 0] 1)) (λe B=>aL Zo (zE (uy e B).2))).append (j:=ct) Zd h7 rfl Zd rfl Zs Zo (λe B=>zE (uy e B).2)
 refine kh ii ?_
 have dS:∀e,e<ct->e∉([]:List Nat)->e≠(aM+1+1)+7->Z X b9 e=Z X bZ e:=λe H K am=>by
  rw[n9 e Zo K,aL Zo am]
 have r8:Z X b9 (aM+1)=zI (gL 23 x.at_ [] false dr 0 y.aW) 9:=by
  rw[dS _ Zo (λa=>zE (uy _ a)) Zo];exact q1
 obtain⟨qz,AG,apz⟩:=ib.one pT
 refine c7 ⟨?_⟩
 refine gi (nO r8 Zo Zo qz AG) ?_
 have qq:∀e∈EM,aM+2<=e/\e<ct+1:=by
  intro e B
  rcases q8 e B with rfl|B
  ·omega
  ·have:=uy e B;omega
 have C7:dw X b9 (p3 (aM+2) (ct+1) EM) ([]++[HI]) ([]++[.ptr u5 0]):=by
  refine dw.snoc (cG.ad (λe B=> ?_) _ _ dC) (dw.ad (λe B=> ?_) _ _ uC) (λe B=>⟨B.1,zE B.2.1,λgh=> ?_⟩) (λe B=>⟨⟨zE B.1,zE B.2,λgh=> ?_⟩,λo5=>by have:=B.1;have:=o5.2.1;omega⟩)
  ·have H:=B.1
   exact dS e B.2 (λgh=>zE (uy e gh)) Zo
  ·have K:=B.2.1
   exact dS e Zo B.2.2 Zo
  ·have K:=B.2.1
   rcases q8 e gh with rfl|gh
   ·omega
   ·exact B.2.2 gh
  ·have H:=B.1;have K:=B.2
   rcases q8 e gh with rfl|gh
   ·omega
   ·have:=uy e gh;omega
 have eD:cu X [aJ] h j b9 (ct+1):=⟨Zo,λb al bN=>by
  rw[dS b Zo (λD=>zE (uy _ D)) Zo];exact qm.ad b al bN⟩
 have hr:=g8.ad (dS aJ Zo (λD=>zE (uy _ D)) Zo) (dS bJ Zo (λD=>zE (uy _ D)) Zo)
 clear uC dC g8 dV qm q1 o3 h7 ii n9 q8 qz AG aai XD abj aa2 QC
 refine c7 ⟨?_⟩
 refine e8 (λcm=>Z X cm (ct+1)=zI [.str [116,104,101,110]] 1/\Z X cm (aM+1)=zI (gL 23 x.at_ [] false dr 0 JO) 9/\(∀e,e<ct+1->e≠aM+1->Z X cm e=Z X b9 e)) ⟨bn Zo, ?_, ?_⟩ ?_
 ·simp(disch:=omega) only[aL,bn]<;>rfl
 ·intro e H K
  simp(disch:=omega) only[aL]
 clear r8
 rintro cm ⟨CO,HR,e1⟩
 have hD:=hr.ad (e1 aJ Zo Zo) (e1 bJ Zo Zo)
 have ni:=ay.go hD (by omega:j<=ct+1+1)
 have eZ:cu X [aJ] h j cm (ct+1+1):=⟨Zo,λb al bN=>by rw[e1 b Zo Zo];exact eD.ad b al bN⟩
 rcases ge V with ⟨E,ev,rfl⟩|⟨yv,oe,ev,V⟩
 ·exact(jt az ni Zo Zo CO ev).mono (λab R au a=>by obtain⟨D,cx,a,_⟩:=a;cases a) (λab R au a=>a.of eZ (λ_ a=>by cases a;rfl))
 refine(jt az ni Zo Zo CO ev).mono ?_ (λab R au a=>by obtain⟨E,a,_⟩:=a;cases a)
 clear ev
 rintro GM sY u2 ⟨aww,ayf,C4,_,aa3,gR⟩
 cases C4
 have aor:=gR.le
 have QD:=eZ.trans gR
 have Qd:Z X sY (aM+1)=zI (gL 23 x.at_ [] false dr 0 JO) 9:=by rw[gR.ad _ Zo Zx];exact HR
 have de:∀e,aM+2<=e->e<ct+1->Z X sY e=Z X b9 e:=λe H K=>by
  rw[gR.ad e Zo Zx,e1 e K Zo]
 have abk:gu X sY JO 1 ([]++[.ptr u5 0]) EM:= .inl (pT.ad (λe B=>de e (qq e B).1 (qq e B).2))
 have aaj:dw X sY (p3 (aM+2) u2 EM) ([]++[HI]) ([]++[.ptr u5 0]):=
  dw.lift (λe B=>⟨B.1,zE B.2.1,B.2.2⟩) _ _ (dw.ad (λe B=>de e B.1 B.2.1) _ _ C7)
 have qq:∀e∈EM,aM+2<=e/\e<u2:=λe B=>zE (qq e B)
 clear C7 pT hr eD hD ni eZ gR CO HR e1 dS de
 refine dq (bU Qd) gL.eq_1 ⟨?_⟩
 have adu:=ay.go aa3 (by omega:j<=u2+12)
 rcases ge V with ⟨E,bm,rfl⟩|⟨PJ,fG,bm,V⟩
 ·exact((aj n Zo).arrow sY _ _ _ adu bm).mono (λab R au a=>by obtain⟨D,cx,a,_⟩:=a;cases a) (λab R au a=>a.of (cu.tJ QD Zo) (λ_ a=>by cases a;rfl))
 refine((aj n Zo).arrow sY _ _ _ adu bm).mono ?_ (λab R au a=>by obtain⟨E,a,_⟩:=a;cases a)
 clear bm
 rintro v5 bZ ct ⟨K9,ayi,si,dC,g8,dV⟩
 cases si
 have hQ:=dV.le
 have qm:=(cu.tJ QD (by omega:u2<=u2+12)).trans dV
 obtain⟨BJ,rfl,rg,_⟩:=dC.ptr
 have rg:=rg.2
 have q1:Z X bZ (aM+1)=zI (gL 23 x.at_ [] false dr 0 JO) 9:=by rw[dV.ad _ Zo Zx];exact Qd
 have o9:∀e,aM+2<=e->e<u2->Z X bZ e=Z X sY e:=λe H K=>dV.ad e Zo Zx
 have o3:=abk.ad (R:=bZ) (λe B=>o9 e (qq e B).1 (qq e B).2)
 have uC:=dw.ad (R:=bZ) (λe B=>o9 e B.1 B.2.1) _ _ aaj
 clear o9
 refine dq (bU q1) gL.eq_1 ⟨?_⟩
 refine j0 apz ?_
 have h7:hI X (bl X bZ (u2+7) (zI [.ptr BJ 0] 1)) 1 (.slice (u2+7) 0 1 1)=some (1,[.ptr BJ 0]):=pp (bn Zo) (lk _) rfl _
 obtain⟨Ee,b9,EN,ii,pT,q8,n9⟩:=(o3.ad (R:=bl X bZ (u2+7) (zI [.ptr BJ 0] 1)) (λe B=>aL Zo (zE (qq e B).2))).append (j:=ct) Zd h7 rfl Zd rfl Zs Zo (λe B=>zE (qq e B).2)
 refine kh ii ?_
 have dS:∀e,e<ct->e∉EM->e≠u2+7->Z X b9 e=Z X bZ e:=λe H K am=>by
  rw[n9 e Zo K,aL Zo am]
 have r8:Z X b9 (aM+1)=zI (gL 23 x.at_ [] false dr 0 JO) 9:=by
  rw[dS _ Zo (λa=>zE (qq _ a)) Zo];exact q1
 obtain⟨qz,AG,apA⟩:=ib.one pT
 refine c7 ⟨?_⟩
 refine gi (nO r8 Zo Zo qz AG) ?_
 have qr:∀e∈EN,aM+2<=e/\e<ct+1:=by
  intro e B
  rcases q8 e B with rfl|B
  ·omega
  ·have:=qq e B;omega
 have C7:dw X b9 (p3 (aM+2) (ct+1) EN) (([]++[HI])++[PJ]) (([]++[.ptr u5 0])++[.ptr BJ 0]):=by
  refine dw.snoc (cG.ad (λe B=> ?_) _ _ dC) (dw.ad (λe B=> ?_) _ _ uC) (λe B=>⟨B.1,zE B.2.1,λgh=> ?_⟩) (λe B=>⟨⟨zE B.1,zE B.2,λgh=> ?_⟩,λo5=>by have:=B.1;have:=o5.2.1;omega⟩)
  ·have H:=B.1
   exact dS e B.2 (λgh=>zE (qq e gh)) Zo
  ·have K:=B.2.1
   exact dS e Zo B.2.2 Zo
  ·have K:=B.2.1
   rcases q8 e gh with rfl|gh
   ·omega
   ·exact B.2.2 gh
  ·have H:=B.1;have K:=B.2
   rcases q8 e gh with rfl|gh
   ·omega
   ·have:=qq e gh;omega
 have eD:cu X [aJ] h j b9 (ct+1):=⟨Zo,λb al bN=>by
  rw[dS b Zo (λD=>zE (qq _ D)) Zo];exact qm.ad b al bN⟩
 have hr:=g8.ad (dS aJ Zo (λD=>zE (qq _ D)) Zo) (dS bJ Zo (λD=>zE (qq _ D)) Zo)
 clear uC dC g8 dV qm q1 o3 h7 ii n9 q8 qz AG aaj Qd abk aa3 QD
 refine c7 ⟨?_⟩
 refine e8 (λcm=>Z X cm (ct+1)=zI [.str [101,108,115,101]] 1/\Z X cm (aM+1)=zI (gL 23 x.at_ [] false dr 0 Ee) 9/\(∀e,e<ct+1->e≠aM+1->Z X cm e=Z X b9 e)) ⟨bn Zo, ?_, ?_⟩ ?_
 ·simp(disch:=omega) only[aL,bn]<;>rfl
 ·intro e H K
  simp(disch:=omega) only[aL]
 clear r8
 rintro cm ⟨CO,HR,e1⟩
 have hD:=hr.ad (e1 aJ Zo Zo) (e1 bJ Zo Zo)
 have ni:=ay.go hD (by omega:j<=ct+1+1)
 have eZ:cu X [aJ] h j cm (ct+1+1):=⟨Zo,λb al bN=>by rw[e1 b Zo Zo];exact eD.ad b al bN⟩
 rcases ge V with ⟨E,ev,rfl⟩|⟨yv,oe,ev,V⟩
 ·exact(jt az ni Zo Zo CO ev).mono (λab R au a=>by obtain⟨D,cx,a,_⟩:=a;cases a) (λab R au a=>a.of eZ (λ_ a=>by cases a;rfl))
 refine(jt az ni Zo Zo CO ev).mono ?_ (λab R au a=>by obtain⟨E,a,_⟩:=a;cases a)
 clear ev
 rintro GM yP u3 ⟨aww,ayg,C4,_,aa4,gR⟩
 cases C4
 have aos:=gR.le
 have QE:=eZ.trans gR
 have Qe:Z X yP (aM+1)=zI (gL 23 x.at_ [] false dr 0 Ee) 9:=by rw[gR.ad _ Zo Zx];exact HR
 have de:∀e,aM+2<=e->e<ct+1->Z X yP e=Z X b9 e:=λe H K=>by
  rw[gR.ad e Zo Zx,e1 e K Zo]
 have abl:gu X yP Ee 1 (([]++[.ptr u5 0])++[.ptr BJ 0]) EN:= .inl (pT.ad (λe B=>de e (qr e B).1 (qr e B).2))
 have aak:dw X yP (p3 (aM+2) u3 EN) (([]++[HI])++[PJ]) (([]++[.ptr u5 0])++[.ptr BJ 0]):=
  dw.lift (λe B=>⟨B.1,zE B.2.1,B.2.2⟩) _ _ (dw.ad (λe B=>de e B.1 B.2.1) _ _ C7)
 have qr:∀e∈EN,aM+2<=e/\e<u3:=λe B=>zE (qr e B)
 clear C7 pT hr eD hD ni eZ gR CO HR e1 dS de
 refine dq (bU Qe) gL.eq_1 ⟨?_⟩
 have adv:=ay.go aa4 (by omega:j<=u3+12)
 rcases ge V with ⟨E,bm,rfl⟩|⟨akp,fG,bm,V⟩
 ·exact((aj n Zo).arrow yP _ _ _ adv bm).mono (λab R au a=>by obtain⟨D,cx,a,_⟩:=a;cases a) (λab R au a=>a.of (cu.tJ QE Zo) (λ_ a=>by cases a;rfl))
 refine((aj n Zo).arrow yP _ _ _ adv bm).mono ?_ (λab R au a=>by obtain⟨E,a,_⟩:=a;cases a)
 clear bm
 rintro v5 bZ ct ⟨K9,aqf,si,dC,g8,dV⟩
 cases si
 have hQ:=dV.le
 have qm:=(cu.tJ QE (by omega:u3<=u3+12)).trans dV
 obtain⟨JG,rfl,rg,_⟩:=dC.ptr
 have rg:=rg.2
 have q1:Z X bZ (aM+1)=zI (gL 23 x.at_ [] false dr 0 Ee) 9:=by rw[dV.ad _ Zo Zx];exact Qe
 have o9:∀e,aM+2<=e->e<u3->Z X bZ e=Z X yP e:=λe H K=>dV.ad e Zo Zx
 have o3:=abl.ad (R:=bZ) (λe B=>o9 e (qr e B).1 (qr e B).2)
 have uC:=dw.ad (R:=bZ) (λe B=>o9 e B.1 B.2.1) _ _ aak
 clear o9
 refine dq (bU q1) gL.eq_1 ⟨?_⟩
 refine j0 apA ?_
 have h7:hI X (bl X bZ (u3+7) (zI [.ptr JG 0] 1)) 1 (.slice (u3+7) 0 1 1)=some (1,[.ptr JG 0]):=pp (bn Zo) (lk _) rfl _
 obtain⟨Te,b9,O6,ii,pT,q8,n9⟩:=(o3.ad (R:=bl X bZ (u3+7) (zI [.ptr JG 0] 1)) (λe B=>aL Zo (zE (qr e B).2))).append (j:=ct) Zd h7 rfl Zd rfl Zs Zo (λe B=>zE (qr e B).2)
 refine kh ii ?_
 have dS:∀e,e<ct->e∉EN->e≠u3+7->Z X b9 e=Z X bZ e:=λe H K am=>by
  rw[n9 e Zo K,aL Zo am]
 have r8:Z X b9 (aM+1)=zI (gL 23 x.at_ [] false dr 0 Ee) 9:=by
  rw[dS _ Zo (λa=>zE (qr _ a)) Zo];exact q1
 obtain⟨qz,AG,ax5⟩:=ib.one pT
 refine c7 ⟨?_⟩
 refine gi (nO r8 Zo Zo qz AG) ?_
 have ρ:∀e∈O6,aM+2<=e/\e<ct+1:=by
  intro e B
  rcases q8 e B with rfl|B
  ·omega
  ·have:=qr e B;omega
 have C7:dw X b9 (p3 (aM+2) (ct+1) O6) (([]++[HI]++[PJ])++[akp]) (([]++[.ptr u5 0]++[.ptr BJ 0])++[.ptr JG 0]):=by
  refine dw.snoc (cG.ad (λe B=> ?_) _ _ dC) (dw.ad (λe B=> ?_) _ _ uC) (λe B=>⟨B.1,zE B.2.1,λgh=> ?_⟩) (λe B=>⟨⟨zE B.1,zE B.2,λgh=> ?_⟩,λo5=>by have:=B.1;have:=o5.2.1;omega⟩)
  ·have H:=B.1
   exact dS e B.2 (λgh=>zE (qr e gh)) Zo
  ·have K:=B.2.1
   exact dS e Zo B.2.2 Zo
  ·have K:=B.2.1
   rcases q8 e gh with rfl|gh
   ·omega
   ·exact B.2.2 gh
  ·have H:=B.1;have K:=B.2
   rcases q8 e gh with rfl|gh
   ·omega
   ·have:=qr e gh;omega
 have eD:cu X [aJ] h j b9 (ct+1):=⟨Zo,λb al bN=>by
  rw[dS b Zo (λD=>zE (qr _ D)) Zo];exact qm.ad b al bN⟩
 have hr:=g8.ad (dS aJ Zo (λD=>zE (qr _ D)) Zo) (dS bJ Zo (λD=>zE (qr _ D)) Zo)
 clear uC dC g8 dV qm q1 o3 h7 ii n9 q8 qz AG aak Qe abl aa4 QE
 simp only[ok,Zc]at V
 subst V
 have gJ:∀e,e≠aM+1->Z X (bl X b9 (aM+1) (some (.cells ((M.ofList (gL 23 x.at_ [] false dr 0 Ee) 0 .nil).set 8 (some Te)) 9 .own))) e=Z X b9 e:=λe a=>aL Zo a
 obtain⟨cn,c3⟩:=(gu.ad (R:=bl X b9 (aM+1) (some (.cells ((M.ofList (gL 23 x.at_ [] false dr 0 Ee) 0 .nil).set 8 (some Te)) 9 .own))) (.inl pT) (λe B=>gJ e (zE (ρ e B)))).NA (P:=λe=>ei (aM+2) (ct+1) e/\e∈O6) Zs (λe B=>⟨by have:=ρ e B;exact⟨Zo,Zo⟩,B⟩)
 refine bD _ _ _ ⟨.ptr (aM+1) 0,bF,_,aqf,rfl,cG.of (b:=aM+1) (m:=9) (st:= .own) (cn:=cn) (a2:=Te) (kind:=23) (at_:=x.at_) (name:=[]) (no:=false) (ty:=dr) (n:=0) (bx:=[.ptr u5 0, .ptr BJ 0, .ptr JG 0]) ?_ ⟨Zo,Zo⟩ (c3.lift (λe B=>⟨zE B.1.1,B.1.2⟩)) (λ_=> ?_) ?_, ?_, ?_⟩
 ·rw[bn Zo];rfl
 ·have:=(c3.al Zs).1.1
  omega
 ·exact dw.lift (λe B=>⟨⟨zE B.1.1,zE B.1.2⟩,zE B.1.1,B.2⟩) _ _ (dw.off (dw.ad (λe B=>gJ e (zE B.1)) _ _ C7) c3)
 ·exact hr.ad (gJ _ Zo) (gJ _ Zo)
 ·exact⟨eD.le,λb al bN=>by rw[gJ b Zo];exact eD.ad b al bN⟩
end
section
variable{X:cl}{h R aX aP:M ak}{j au aM be aJ bJ:Nat}{aU:List Tok}{i:Nat}
def atn(az:dW X){n:Nat}(lY:n<=300000)(aj:∀m,m<n->qN X aJ bJ aU m):∀h j i r,iu X h j aJ bJ aU i->Go.aQ.part n (aU.drop i)=some r->a1 X 133 [.ptr aJ 0] h j (jN X aJ bJ aU h j r) (iN X aJ h j r):=by
 intro h j i r ay V
 cases n with
 |zero=>simp[Go.aQ.part]at V
 |succ n=>
 cases aH:aU.drop i with
 |nil=>rw[aH]at V;simp[Go.aQ.part]at V
 |cons x k=>
 rw[aH]at V
 by_cases eM:x.kind=5
 ·exact atk az ay aH eM V
 by_cases bS:x.kind=1
 ·exact atm az aj ay aH Zo bS V
 by_cases cM:x.kind=3
 ·exact atp az aj ay aH cM V
 by_cases dS:x.kind=6
 ·by_cases a8:x.text=[40]
  ·exact ato az aj ay aH dS a8 V
  ·exact SR az ay aH eM bS cM (λ_=>a8) (λa=>Zo) V
 by_cases ck:x.kind=2
 ·by_cases H:x.text=[116,114,117,101]
  ·exact adl az ay aH ck (.inl H) V
  by_cases K:x.text=[102,97,108,115,101]
  ·exact adl az ay aH ck (.inr K) V
  by_cases am:x.text=[105,102]
  ·exact atj az aj ay aH ck am V
  by_cases aC:x.text=[109,101,114,103,101]
  ·exact atl az aj ay aH ck aC V
  ·exact SR az ay aH eM bS cM (λa=>Zo) (λ_=>⟨H,K,am,aC⟩) V
 ·exact SR az ay aH eM bS cM (λa=>Zo) (λa=>absurd a ck) V
def V8(az:dW X)(c2:mY X):∀n,n<=300000->qN X aJ bJ aU n:=by
 intro n
 induction n using Nat.strongRecOn with
 |ind n aj=>
  intro aI
  have aj:∀m,m<n->qN X aJ bJ aU m:=λm bc=>aj m bc Zo
  exact⟨arv az c2 aj,auJ az aj,atz az aj,atn az aI aj,ak3 az aj,ai1 az aj,arI az aI aj⟩
end
def FY(n:Int):y:= .Z n
def ud(X:cl)(h:M ak)(hG aF:Nat)(left:List ba)(cX:List Int):Prop:=hG<aF/\(o X).aY<=hG/\∃c a2 kY y0 s3,Z X h hG=some (.cells c 4 .own)/\c.get 0=some a2/\c.get 1=some kY/\gu X h a2 1 (left.map .str) y0/\gu X h kY 1 (cX.map FY) s3
 /\(∀e∈y0,hG<e/\e<aF/\e∉s3)/\∀e∈s3,hG<e/\e<aF
def ud.ad{X:cl}{h R:M ak}{hG aF lg:Nat}{left:List ba}{cX:List Int}(a:ud X h hG aF left cX)(q:∀e,hG<=e->e<aF->Z X R e=Z X h e)(f8:aF<=lg):ud X R hG lg left cX:=by
 obtain⟨bi,CQ,c,a2,kY,y0,s3,H,K,am,aC,bm,b1,df⟩:=a
 exact⟨Zo,CQ,c,a2,kY,y0,s3,by rw[q hG Zo bi];exact H,K,am,aC.ad (λe B=>q e (zE (b1 e B)) (b1 e B).2.1),bm.ad (λe B=>q e (zE (df e B)) (df e B).2),
  λe B=>by have:=b1 e B;exact⟨this.1,Zo,this.2.2⟩,λe B=>zE (df e B)⟩
def gu.one{C:aT}{h:M ak}{s:y}{aN:Nat}{k:List y}{cy:List Nat}(a:gu C h s aN k cy):s.cells=[s]/\l3 s=true/\y.same 30 s s=true:=by
 rcases a with a|⟨b,n,c,st,rfl,_⟩
 ·exact ib.one a
 ·exact⟨rfl,rfl,by simp[y.same]⟩
section
variable{X:cl}{h R aX aP:M ak}{j au aM be aJ bJ:Nat}{aU:List Tok}{i:Nat}
def SH(az:dW X)(ay:iu X h j aJ bJ aU i){pi hG:Nat}(Mg:pi<hG)(axU:pi≠aJ)(anu:aJ<hG)(anv:bJ<hG)(ao9:aV X h (.ptr pi 0)=some (.ptr aJ 0)){left:List ba}{cX:List Int}(bG:ud X h hG j left cX)(bc:left.length<=1000000)(FB:cX.length<=300000){x:Tok}{k:List Tok}(aH:aU.drop i=x::k):
 a1 X 88 [.ptr pi 0, .ptr hG 0] h j (λab R au=>x.kind=1/\ab= .tuple []/\ud X R hG au (left++[x.text]) (cX++[x.at_])/\aQ X R aJ bJ aU (i+1)/\j<=au/\cu X [aJ] h hG R au)
  (λab R au=>x.kind≠1/\ab=xm 21 x.at_/\cu X [aJ] h j R au):=by
 refine zL az (ahN X) ?_
 rw[ahO]
 unfold VB
 have gx:=ay.aY
 have j8:=ay.hi
 have hB:=ay.ch
 have jy:=ay.gV
 refine ce @ao9 ⟨?_⟩
 refine(Bv az ay.aY ay.par ay.ch ay.hi ay.gV ay.many (fz aH).1 1).mono ?_ (λab R au a=>a)
 rintro ab aX aM ⟨aG,rfl,eb,h5⟩
 have jD:=h5.le
 have jf:=bG.ad (R:=aX) (lg:=aM) (λe H K=>h5.ad e K Zx) jD
 have ax1:=bG.1
 clear bG
 obtain⟨bi,CQ,c,a2,kY,y0,s3,g1,b5,cR,ep,fw,dU,eu⟩:=jf
 obtain⟨gO,kf,sz⟩:=gu.one ep
 obtain⟨Gk,Bs,sA⟩:=gu.one fw
 refine g6 b0.eq_1 (bU g1) @b5 @cR ⟨?_⟩
 have h7:∀gt,Z X gt (aM+1+4)=zI [.str x.text] 1->hI X gt 1 (.slice (aM+1+4) 0 1 1)=some (1,[.str x.text]):=λgt a=>pp a (lk _) rfl _
 have apG:∀gt,Z X gt (aM+1+10)=zI [.Z x.at_] 1->hI X gt 1 (.slice (aM+1+10) 0 1 1)=some (1,[.Z x.at_]):=λgt a=>pp a (lk _) rfl _
 generalize fE:bl X _ (aM+1+10) _=bf
 have cM:∀e,e<aM->Z X bf e=Z X aX e:=λe B=>by rw[<-fE];exact zK
 have t3:Z X bf aM=zI (b0 x) 7:=by rw[<-fE];simp(disch:=omega) only[aL,bn]<;>rfl
 have fj:Z X bf (aM+1+4)=zI [.str x.text] 1:=by rw[<-fE];simp(disch:=omega) only[aL,bn]<;>rfl
 have jS:Z X bf (aM+1+10)=zI [.Z x.at_] 1:=by rw[<-fE];simp(disch:=omega) only[aL,bn]<;>rfl
 clear fE
 obtain⟨fc,bT,Wq,ii,pS,mh,gg⟩:=(ep.ad (R:=bf) (λe B=>cM e (dU e B).2.1)).append (j:=aM+1+16) Zd (h7 bf fj) rfl Zd rfl Zx Zo (λe B=>zE (dU e B).2.1)
 refine kh ii ?_
 have fU:Z X bT hG=some (.cells c 4 .own):=by rw[gg _ Zo (λa=>zE (dU _ a).1),cM _ bi];exact g1
 have t4:Z X bT aM=zI (b0 x) 7:=by rw[gg _ Zo (λa=>zE (dU _ a).2.1)];exact t3
 have f4:Z X bT (aM+1+10)=zI [.Z x.at_] 1:=by rw[gg _ Zo (λa=>zE (dU _ a).2.1)];exact jS
 refine dq (bU fU) @cR ⟨?_⟩
 refine j0 sA ?_
 refine dq (bU t4) b0.eq_1 ⟨?_⟩
 refine j0 (ry _ _) ?_
 have alL:gu X bT kY 1 (cX.map FY) s3:=fw.ad (λe B=>by
  rw[gg e (zE (eu e B)) (λa=>(dU e a).2.2 B)]
  exact cM e (eu e B).2)
 obtain⟨Tf,bZ,O5,ani,o3,QM,oX⟩:=alL.append (j:=aM+1+16+1) Zd (apG bT f4) rfl Zd rfl Zx Zo (λe B=>zE (eu e B).2)
 refine kh ani ?_
 obtain⟨e3,g9,ws⟩:=ib.one pS
 obtain⟨JC,as9,ayH⟩:=ib.one o3
 have mv:Z X bZ hG=some (.cells c 4 .own):=by rw[oX _ Zo (λa=>zE (eu _ a).1)];exact fU
 refine gi (nO mv Zo Zo e3 g9) ?_
 refine c7 ⟨?_⟩
 refine gi (nO (bn Zo) Zo Zo JC as9) ?_
 have abU:∀e∈Wq,hG<e/\e<aM+1+16+1+1/\e∉O5:=by
  intro e B
  rcases mh e B with rfl|B
  ·refine⟨Zo,Zo,λa=> ?_⟩
   rcases QM _ a with a|a
   ·omega
   ·have:=eu _ a;omega
  ·obtain⟨a7,b2,a3⟩:=dU e B
   refine⟨Zo,Zo,λa=> ?_⟩
   rcases QM _ a with a|a
   ·omega
   ·exact a3 a
 have abV:∀e∈O5,hG<e/\e<aM+1+16+1+1:=by
  intro e B
  rcases QM e B with rfl|B
  ·omega
  ·have:=eu e B;omega
 have e1:∀gt,gt=bl X (bl X bZ hG (some (.cells (c.set 0 (some fc)) 4 .own))) hG (some (.cells ((c.set 0 (some fc)).set 1 (some Tf)) 4 .own))->∀e,e≠hG->Z X gt e=Z X bZ e:=by
  rintro gt rfl e B
  rw[aL Zo B,aL Zo B]
 refine⟨aG,rfl,⟨Zo,CQ,(c.set 0 (some fc)).set 1 (some Tf),fc,Tf,Wq,O5,bn Zo, ?_, ?_, ?_, ?_,abU,abV⟩, ?_,Zo,Zo,λb al bN=> ?_⟩
 ·rw[M.j7,Zg Zd,M.j7,Zu rfl]
 ·rw[M.j7,Zu rfl]
 ·rw[Yu]
  refine .inl (pS.ad λe B=> ?_)
  have:=abU e B
  rw[e1 _ rfl e Zo,oX e (by rcases mh e B with rfl|a;omega;have:=dU e a;omega) (λa=> ?_)]
  rcases mh e B with rfl|co
  ·have:=eu _ a;omega
  ·exact(dU e co).2.2 a
 ·rw[Yu]
  exact .inl (o3.ad λe B=>e1 _ rfl e (zE (abV e B)))
 ·have fS:∀e,e<hG->Z X bZ e=Z X aX e:=λe B=>by
   rw[oX e Zo (λa=>zE (eu _ a)),gg e Zo (λa=>zE (dU _ a)),cM e Zo]
  exact eb.ad (by rw[e1 _ rfl _ Zo,fS _ anu]) (by rw[e1 _ rfl _ Zo,fS _ anv])
 ·rw[e1 _ rfl _ Zo,oX b Zo (λa=>zE (eu _ a)),gg b Zo (λa=>zE (dU _ a)),cM b Zo]
  exact h5.ad b Zo bN
end
def vl(X:cl)(h:M ak)(P:Nat->Prop)(ai:ee)(row:List y):Prop:=∃a2 kY b4 cr jZ,row=[a2,kY, .Z ai.at_,jZ]/\et X h P b4 a2 1 (ip ai.left)/\(et X h P cr kY 1 (ai.cX.map λn=>[FY n])/\cG X h (λe=>P e/\(ai.cX≠[]->e≠cr)) ai.right jZ)/\cG X h P ai.right jZ/\iI row=true
def vl.ad{X:cl}{h R:M ak}{P Q:Nat->Prop}{ai:ee}{row:List y}(a:vl X h P ai row)(q:∀e,P e->Z X R e=Z X h e)(aB:∀e,P e->Q e):vl X R Q ai row:=by
 obtain⟨a2,kY,b4,cr,jZ,H,K,am,aC,bm⟩:=a
 exact⟨a2,kY,b4,cr,jZ,H,(K.ad q).lift aB,⟨(am.1.ad q).lift aB,cG.lift (λe B=>⟨aB e B.1,B.2⟩) _ _ (cG.ad (λe B=>q e B.1) _ _ am.2)⟩,cG.lift aB _ _ (cG.ad q _ _ aC),bm⟩
def yF(X:cl)(h:M ak)(P:Nat->Prop)(ai:ee)(row:List y):Prop:=∃(ah:Nat->Nat) (a2 kY:y) (b4 cr:Nat) (jZ:y),row=[a2,kY, .Z ai.at_,jZ]/\hd X h (λe=>P e/\ah e=1) b4 a2 1 (ip ai.left)/\et X h (λe=>P e/\ah e=2) cr kY 1 (ai.cX.map λn=>[FY n])/\cG X h (λe=>P e/\ah e=0) ai.right jZ/\iI row=true
def yF.ad{X:cl}{h R:M ak}{P Q:Nat->Prop}{ai:ee}{row:List y}(a:yF X h P ai row)(q:∀e,P e->Z X R e=Z X h e)(aB:∀e,P e->Q e):yF X R Q ai row:=by
 obtain⟨ah,a2,kY,b4,cr,jZ,H,K,am,aC,bm⟩:=a
 exact⟨ah,a2,kY,b4,cr,jZ,H,(K.ad λe B=>q e B.1).lift λe B=>⟨aB e B.1,B.2⟩,(am.ad λe B=>q e B.1).lift λe B=>⟨aB e B.1,B.2⟩,cG.lift (λe B=>⟨aB e B.1,B.2⟩) _ _ (cG.ad (λe B=>q e B.1) _ _ aC),bm⟩
def yF.row{X:cl}{h:M ak}{P:Nat->Prop}{ai:ee}{row:List y}(a:yF X h P ai row):vl X h P ai row:=by
 obtain⟨ah,a2,kY,b4,cr,jZ,H,K,am,aC,bm⟩:=a
 exact⟨a2,kY,b4,cr,jZ,H,K.rd.lift λe B=>B.1,⟨am.lift λe B=>B.1,cG.lift (λe B=>⟨B.1,λcE D=>by have:=(am.al (by simpa using cE)).2;rw[<-D,B.2]at this;cases this⟩) _ _ aC⟩,cG.lift (λe B=>B.1) _ _ aC,bm⟩
section
variable{X:cl}{h R aX aP:M ak}{j au aM be aJ bJ:Nat}{aU:List Tok}{i:Nat}
def akM(az:dW X)(c2:mY X){n:Nat}(lY:n<=200000)(ay:iu X h j aJ bJ aU i){r:Except Int (ee×List Tok)}(V:uo n (aU.drop i)=some r):
 a1 X 63 [.ptr aJ 0] h j (λab R au=>∃ai cx row,r= .ok (ai,aU.drop cx)/\ab= .agg row/\yF X R (ei j au) ai row/\aQ X R aJ bJ aU cx/\cu X [aJ] h j R au) (iN X aJ h j r):=by
 refine zL az (ag9 X) ?_
 rw[aha]
 unfold U9
 have gx:=ay.aY
 have j8:=ay.hi
 have hB:=ay.ch
 have jy:=ay.gV
 unfold uo at V
 obtain⟨x,cb,aH,af⟩:=qJ V
 refine c7 ⟨?_⟩
 refine e8 (λaX=>aV X aX (.ptr j 0)=some (.ptr aJ 0)/\Z X aX (j+1)=zI [.aW, .aW, .Z 0, .cN] 4/\ud X aX (j+2) (j+1+1+1) [] []/\aQ X aX aJ bJ aU i/\bp X h j aX (j+1+1+1)) ⟨?_, ?_, ?_, ?_, ?_⟩ ?_
 ·exact bF
 ·simp(disch:=omega) only[aL,bn]<;>rfl
 ·exact⟨Zo,Zo,_, .aW, .aW,[],[],bn Zo,rfl,rfl, .inl (.inl ⟨rfl,rfl,rfl⟩), .inl (.inl ⟨rfl,rfl,rfl⟩),Zs,Zs⟩
 ·exact ay.par.ad (zK) (zK)
 ·exact dM
 rintro aX ⟨fk,ql,jf,eb,bY⟩
 have mR:=ay.go eb (by omega:j<=j+1+1+1)
 refine(nP az mR aH _).Zm ?_
 rintro GJ aP be ⟨rfl,dm,dt⟩
 have f1:=dt.le
 have vP:=(cu.of (X:=[aJ]) bY).trans dt
 refine r6 b0.eq_1 ⟨?_⟩
 refine kx (λI R aS=>∃(xs:List Tok) (cx:Nat),I.g 1=some (.ptr j 0)/\I.g 2=some (.ptr (j+1) 0)/\I.g 3=some (.ptr (j+2) 0)/\ud X R (j+2) aS (xs.map Tok.text) (xs.map Tok.at_)/\aQ X R aJ bJ aU cx/\j+2<aS/\cu X [aJ] h j R aS/\aV X R (.ptr j 0)=some (.ptr aJ 0)/\Z X R (j+1)=zI [.aW, .aW, .Z 0, .cN] 4/\xs.length<=300000/\
  (andThen (eo [61] (aU.drop cx)) λD k=>andThen (arrow n k) λr k=>andThen (eo [59] k) λ_ k=>ok (⟨xs.map Tok.text,xs.map Tok.at_,D.at_,r⟩:ee) k)=some r) (λY bD=> ?_) ?_
 ·
  have Fb:aV X aP (.ptr j 0)=some (.ptr aJ 0):=by rw[dt.fm _ _ Zo Zx];exact fk
  have ti:Z X aP (j+1)=zI [.aW, .aW, .Z 0, .cN] 4:=by rw[dt.ad _ Zo Zx];exact ql
  have nF:=jf.ad (R:=aP) (lg:=be) (λe H K=>dt.ad e K Zx) f1
  rcases af with ⟨aE,V⟩|⟨aE,V⟩
  ·rw[aE]at dm ⊢
   simp only[ZE]at dm ⊢
   rw[<-(fz aH).2]at V
   simp only[]at V
   refine ce b0.eq_1 ⟨?_⟩
   simp only[YS,Yn]
   refine e8 (λbf=>aV X bf (.ptr j 0)=some (.ptr aJ 0)/\Z X bf (j+1)=zI [.aW, .aW, .Z 0, .cN] 4/\ud X bf (j+2) (be+1) [] []/\aQ X bf aJ bJ aU (i+1)/\cu X [aJ] h j bf (be+1)) ⟨?_, ?_, ?_, ?_, ?_⟩ ?_
   ·exact P9 @Fb
   ·simp(disch:=omega) only[aL];exact ti
   ·exact nF.ad (λe H K=>zK) Zo
   ·exact dm.ad (zK) (zK)
   ·exact⟨Zo,λb al bN=>by rw[<-vP.ad b al bN];exact zK⟩
   clear Fb ti nF dm vP dt bY eb jf ql fk mR
   rintro bf ⟨us,q3,qA,gz,eG⟩
   have nh:=ay.go gz (by omega:j<=be+1)
   cases to:aU.drop (i+1)with
   |nil=>rw[to]at V;simp[iH,andThen]at V
   |cons e ec=>
   rw[to]at V
   simp only[iH]at V
   refine(SH az nh Zo Zo Zo Zo us qA Zs Zs to).mono ?_ ?_
   ·rintro GK bT b3 ⟨gg,rfl,sp,g7,je,eJ⟩
    rw[Zu gg]at V
    simp only[andThen,ok]at V
    rw[<-(fz to).2]at V
    have HU:aV X bT (.ptr j 0)=some (.ptr aJ 0):=by rw[eJ.fm _ _ Zo Zx];exact us
    have xt:Z X bT (j+1)=zI [.aW, .aW, .Z 0, .cN] 4:=by rw[eJ.ad _ Zo Zx];exact q3
    have X8:cu X [aJ] h j bT b3:=⟨Zo,λb al bN=>by rw[eJ.ad b Zo bN];exact eG.ad b al bN⟩
    refine ce @HU ⟨?_⟩
    refine e8 (λbZ=>Z X bZ b3=zI [.str [44]] 1/\bp X bT b3 bZ (b3+1)) ⟨bn Zo,dM⟩ ?_
    rintro bZ ⟨XS,dC⟩
    have oo:=ay.go (g7.ex dC Zo Zo) (by omega:j<=b3+1)
    have dV:=X8.trans (cu.of dC)
    have abG:=V
    cases br:eo [44] (aU.drop (i+1+1))with
    |none=>rw[br]at V;cases V
    |some iK=>
    rw[br]at V
    refine(jt az oo Zo Zo XS br).mono ?_ ?_
    ·rintro yt b9 dP ⟨t7,h1,rfl,_,hr,eD⟩
     have qx:=eD.le
     simp only[]at V
     have HV:aV X b9 (.ptr j 0)=some (.ptr aJ 0):=by rw[eD.fm _ _ Zo Zx,dC.fm _ _ Zo];exact HU
     have Aq:Z X b9 (j+1)=zI [.aW, .aW, .Z 0, .cN] 4:=by rw[eD.ad _ Zo Zx,dC.ad _ Zo];exact xt
     have IL:=sp.ad (R:=b9) (lg:=dP) (λe H K=>by rw[eD.ad e Zo Zx,dC.ad e K]) Zo
     have ut:=dV.trans eD
     clear HU xt sp g7 eJ X8 dV dC XS oo eD
     refine kx (λI R aS=>∃(xs:List Tok) (cx:Nat),I.g 1=some (.ptr j 0)/\I.g 2=some (.ptr (j+1) 0)/\I.g 3=some (.ptr (j+2) 0)/\ud X R (j+2) aS (xs.map Tok.text) (xs.map Tok.at_)/\aQ X R aJ bJ aU cx/\j+2<aS/\cu X [aJ] h j R aS/\aV X R (.ptr j 0)=some (.ptr aJ 0)/\Z X R (j+1)=zI [.aW, .aW, .Z 0, .cN] 4/\xs.length<=300000/\
      (andThen (andThen (eo [41] (aU.drop cx)) λ_ k=>ok xs k) λxs k=>andThen (eo [61] k) λD k=>andThen (arrow n k) λr k=>andThen (eo [59] k) λ_ k=>ok (⟨xs.map Tok.text,xs.map Tok.at_,D.at_,r⟩:ee) k)=some r) (λayl aok=> ?_) ?_
     ·refine gK (λm I R aS=>∃(xs:List Tok) (cx:Nat) (b:Bool),I.g 1=some (.ptr j 0)/\I.g 2=some (.ptr (j+1) 0)/\I.g 3=some (.ptr (j+2) 0)/\I.g 4=some (.func (.func 88) [] [.ptr j 0, .ptr (j+2) 0])/\I.g 7=some (.bool b)/\ud X R (j+2) aS (xs.map Tok.text) (xs.map Tok.at_)/\aQ X R aJ bJ aU cx/\j+2<aS/\cu X [aJ] h j R aS/\aV X R (.ptr j 0)=some (.ptr aJ 0)/\Z X R (j+1)=zI [.aW, .aW, .Z 0, .cN] 4/\xs.length+m<=n+5/\
       (b=true->(andThen (andThen (rm m xs (aU.drop cx)) λxs k=>andThen (eo [41] k) λ_ k=>ok xs k) λxs k=>andThen (eo [61] k) λD k=>andThen (arrow n k) λr k=>andThen (eo [59] k) λ_ k=>ok (⟨xs.map Tok.text,xs.map Tok.at_,D.at_,r⟩:ee) k)=some r)/\
       (b=false->(andThen (andThen (eo [41] (aU.drop cx)) λ_ k=>ok xs k) λxs k=>andThen (eo [61] k) λD k=>andThen (arrow n k) λr k=>andThen (eo [59] k) λ_ k=>ok (⟨xs.map Tok.text,xs.map Tok.at_,D.at_,r⟩:ee) k)=some r))
       n ⟨[e],h1,true,bF,bF,bF,bF,bF,IL,hr,Zo,ut,HV,Aq,Zx,λ_=>V,λa=>(by cases a)⟩ ?_
      clear HV Aq IL hr ut V abG br
      rintro m I cm en ⟨xs,o6,b,t1,eR,t3,t4,fx,Dn,hD,Rm,eZ,vN,r9,bc,B,jV⟩
      refine r6 @fx ⟨?_⟩
      refine gT ?_
      cases b with
      |false=>
       refine s5 ?_
       exact aok _ _ _ ⟨xs,o6,bz t1,bz eR,bz t3,Dn,hD,Rm,eZ,vN,r9,Zo,jV rfl⟩
      |true=>
       have V:=B rfl
       cases m with
       |zero=>simp[rm,andThen]at V
       |succ m=>
       unfold rm at V
       refine s6 ?_
       have ni:=ay.go hD (by omega:j<=en)
       refine ce @t4 ⟨?_⟩
       simp only[YS,Yn]
       cases sh:aU.drop o6 with
       |nil=>rw[sh]at V;simp[iH,andThen]at V
       |cons bo kA=>
       rw[sh]at V
       simp only[iH]at V
       refine(SH az ni Zo Zo Zo Zo vN Dn Zx Zx sh).mono ?_ ?_
       ·rintro u8 dk jI ⟨Da,rfl,apb,v7,Dc,gR⟩
        rw[Zu Da]at V
        simp only[andThen,ok]at V
        rw[<-(fz sh).2]at V
        have XT:aV X dk (.ptr j 0)=some (.ptr aJ 0):=by rw[gR.fm _ _ Zo Zx];exact vN
        have LA:Z X dk (j+1)=zI [.aW, .aW, .Z 0, .cN] 4:=by rw[gR.ad _ Zo Zx];exact r9
        have amV:cu X [aJ] h j dk jI:=⟨Zo,λb al bN=>by rw[gR.ad b Zo bN];exact eZ.ad b al bN⟩
        have sG:=ay.go v7 (by omega:j<=jI)
        refine dq @t1 @XT ⟨?_⟩
        cases ra:aU.drop (o6+1)with
        |nil=>rw[ra]at V;simp[h8,l6]at V
        |cons w oe=>
        refine(nP az sG ra [44]).Zm ?_
        rintro avW d8 kd ⟨rfl,mH,hO⟩
        have uH:=hO.le
        rw[ra]at V
        have xu:aV X d8 (.ptr j 0)=some (.ptr aJ 0):=by rw[hO.fm _ _ Zo Zx];exact XT
        have tj:Z X d8 (j+1)=zI [.aW, .aW, .Z 0, .cN] 4:=by rw[hO.ad _ Zo Zx];exact LA
        have RF:=apb.ad (R:=d8) (lg:=kd) (λe H K=>hO.ad e K Zx) uH
        have Aw:=amV.trans hO
        refine c7 ⟨?_⟩
        refine⟨m,Zo,xs++[bo],_,gX w [44],bz t1,bz eR,bz t3,bz t4,bF,by simpa using RF,mH,Zo,Aw,xu,tj,Zx,λa=> ?_,λa=> ?_⟩
        ·simp only[h8,l6,a,ZE]at V ⊢
         rw[(fz ra).2]
         exact V
        ·simp only[h8,l6,a,Zv,ZD]at V ⊢
         rw[ra]
         exact V
       ·rintro u8 dk jI ⟨Da,rfl,gR⟩
        rw[Zg Da]at V
        simp only[andThen,bad,Zc]at V
        subst V
        exact⟨_,rfl,rfl,eZ.trans gR⟩
     ·clear HV Aq IL hr ut V abG br
      rintro I cm en ⟨xs,o6,t1,eR,t3,Dn,hD,Rm,eZ,vN,r9,bc,V⟩
      refine dq @t1 @vN ⟨?_⟩
      refine e8 (λdk=>Z X dk en=zI [.str [41]] 1/\bp X cm en dk (en+1)) ⟨bn Zo,dM⟩ ?_
      rintro dk ⟨CP,kt⟩
      have sG:=ay.go (hD.ex kt Zo Zo) (by omega:j<=en+1)
      have gR:=eZ.trans (cu.of kt)
      cases br:eo [41] (aU.drop o6)with
      |none=>rw[br]at V;cases V
      |some iK=>
      rw[br]at V
      refine(jt az sG Zo Zo CP br).mono ?_ ?_
      ·rintro v9 d8 kd ⟨t8,i9,rfl,_,mH,hO⟩
       have uH:=hO.le
       simp only[andThen,ok]at V
       have xu:aV X d8 (.ptr j 0)=some (.ptr aJ 0):=by rw[hO.fm _ _ Zo Zx,kt.fm _ _ Zo];exact vN
       have tj:Z X d8 (j+1)=zI [.aW, .aW, .Z 0, .cN] 4:=by rw[hO.ad _ Zo Zx,kt.ad _ Zo];exact r9
       have RF:=Dn.ad (R:=d8) (lg:=kd) (λe H K=>by rw[hO.ad e Zo Zx,kt.ad e K]) Zo
       exact bD _ _ _ ⟨xs,i9,t1,eR,t3,RF,mH,Zo,gR.trans hO,xu,tj,bc,V⟩
      ·rintro v9 d8 kd ⟨E,rfl,rfl,hO⟩
       simp only[andThen,Zc]at V
       subst V
       exact⟨E,rfl,rfl,gR.trans hO⟩
    ·rintro yt b9 dP ⟨E,rfl,rfl,eD⟩
     simp only[Zc]at V
     subst V
     exact⟨E,rfl,rfl,dV.trans eD⟩
   ·rintro GK bT b3 ⟨gg,rfl,eJ⟩
    rw[Zg gg]at V
    simp only[andThen,bad,Zc]at V
    subst V
    exact⟨_,rfl,rfl,eG.trans eJ⟩
  ·rw[aE]at dm ⊢
   simp only[Zv,ZD]at dm ⊢
   simp only[]at V
   refine dq b0.eq_1 gZ.eq_1 ⟨?_⟩
   simp only[YS,Yn]
   refine e8 (λbf=>aV X bf (.ptr j 0)=some (.ptr aJ 0)/\Z X bf (j+1)=zI [.aW, .aW, .Z 0, .cN] 4/\ud X bf (j+2) (be+1) [] []/\aQ X bf aJ bJ aU i/\cu X [aJ] h j bf (be+1)) ⟨?_, ?_, ?_, ?_, ?_⟩ ?_
   ·exact P9 @Fb
   ·simp(disch:=omega) only[aL];exact ti
   ·exact nF.ad (λe H K=>zK) Zo
   ·exact dm.ad (zK) (zK)
   ·exact⟨Zo,λb al bN=>by rw[<-vP.ad b al bN];exact zK⟩
   clear Fb ti nF dm vP dt bY eb jf ql fk mR
   rintro bf ⟨us,q3,qA,gz,eG⟩
   have nh:=ay.go gz (by omega:j<=be+1)
   rw[aH]at V
   simp only[iH]at V
   refine(SH az nh Zo Zo Zo Zo us qA Zs Zs aH).mono ?_ ?_
   ·rintro GK bT b3 ⟨gg,rfl,sp,g7,je,eJ⟩
    rw[Zu gg]at V
    simp only[andThen,ok]at V
    rw[<-(fz aH).2]at V
    have HU:aV X bT (.ptr j 0)=some (.ptr aJ 0):=by rw[eJ.fm _ _ Zo Zx];exact us
    have xt:Z X bT (j+1)=zI [.aW, .aW, .Z 0, .cN] 4:=by rw[eJ.ad _ Zo Zx];exact q3
    exact bD _ _ _ ⟨[x],i+1,bF,bF,bF,sp,g7,Zo,⟨Zo,λb al bN=>by rw[eJ.ad b Zo bN];exact eG.ad b al bN⟩,HU,xt,Zs,V⟩
   ·rintro GK bT b3 ⟨gg,rfl,eJ⟩
    rw[Zg gg]at V
    simp only[andThen,bad,Zc]at V
    subst V
    exact⟨_,rfl,rfl,eG.trans eJ⟩
 ·clear af V dm vP dt bY eb jf ql fk mR aH
  rintro I bf bE ⟨xs,i3,t1,eR,t3,qA,gz,axD,eG,us,q3,bc,V⟩
  refine dq @t1 @us ⟨?_⟩
  refine e8 (λbT=>Z X bT bE=zI [.str [61]] 1/\bp X bf bE bT (bE+1)) ⟨bn Zo,dM⟩ ?_
  rintro bT ⟨CN,dA⟩
  have kW:=ay.go (gz.ex dA Zo Zo) (by omega:j<=bE+1)
  have eJ:=eG.trans (cu.of dA)
  rcases ge V with ⟨E,bm,rfl⟩|⟨D,fG,bm,V⟩
  ·exact(jt az kW Zo Zo CN bm).mono (λab R au a=>by obtain⟨D,cx,a,_⟩:=a;cases a) (λab R au a=>a.of eJ (λ_ a=>by cases a;rfl))
  refine(jt az kW Zo Zo CN bm).mono ?_ (λab R au a=>by obtain⟨E,a,_⟩:=a;cases a)
  rintro v5 bZ ct ⟨ig,i5,si,rfl,g8,dV⟩
  cases si
  have hQ:=dV.le
  have LD:aV X bZ (.ptr j 0)=some (.ptr aJ 0):=by rw[dV.fm _ _ Zo Zx,dA.fm _ _ Zo];exact us
  have Fa:Z X bZ (j+1)=zI [.aW, .aW, .Z 0, .cN] 4:=by rw[dV.ad _ Zo Zx,dA.ad _ Zo];exact q3
  have rg:=qA.ad (R:=bZ) (lg:=ct) (λe H K=>by rw[dV.ad e Zo Zx,dA.ad e K]) Zo
  have xx:=eJ.trans dV
  obtain⟨bi,CQ,c,a2,kY,y0,s3,g1,b5,cR,ep,fw,dU,eu⟩:=rg
  clear qA gz eG us q3 dA CN kW eJ dV
  refine dq @t3 b0.eq_1 ⟨?_⟩
  have abY:∀e,e≠j+2->Z X (bl X bZ (j+2) (some (.cells (d3 c 2 (y.Z D.at_).cells) 4 .own))) e=Z X bZ e:=λe B=>aL Zo B
  refine dq @t1 @LD ⟨?_⟩
  refine e8 (λb9=>Z X b9 (j+2)=some (.cells (c.set 2 (some (.Z D.at_))) 4 .own)/\∀e,e≠j+2->Z X b9 e=Z X bZ e) ⟨(bn Zo).trans (by simp only[y.cells,qL]),abY⟩ ?_
  clear abY
  rintro b9 ⟨BH,dS⟩
  have hr:aQ X b9 aJ bJ aU i5:=g8.ad (dS _ Zo) (dS _ Zo)
  have eD:cu X [aJ] h j b9 ct:=⟨xx.le,λb al bN=>by rw[dS b Zo];exact xx.ad b al bN⟩
  rcases ge V with ⟨E,df,rfl⟩|⟨EY,kA,df,V⟩
  ·exact((V8 az c2 n Zo).arrow b9 _ _ _ (ay.go hr Zo) df).mono (λab R au a=>by obtain⟨D,cx,a,_⟩:=a;cases a) (λab R au a=>a.of eD (λ_ a=>by cases a;rfl))
  refine((V8 az c2 n Zo).arrow b9 _ _ _ (ay.go hr Zo) df).mono ?_ (λab R au a=>by obtain⟨E,a,_⟩:=a;cases a)
  rintro J5 cm en ⟨W4,o6,xG,e6,hD,eZ⟩
  cases xG
  have re:=eZ.le
  obtain⟨p9,rfl,ax9,_⟩:=e6.ptr
  have BI:Z X cm (j+2)=some (.cells (c.set 2 (some (.Z D.at_))) 4 .own):=by rw[eZ.ad _ Zo Zx];exact BH
  have vN:aV X cm (.ptr j 0)=some (.ptr aJ 0):=by rw[eZ.fm _ _ Zo Zx,cT,dS _ Zo, <-cT];exact LD
  have e1:∀e,j<=e->e<ct->e≠j+2->Z X cm e=Z X bZ e:=λe H K am=>by rw[eZ.ad e K Zx,dS e am]
  refine ce @t3 ⟨?_⟩
  refine dq @t1 @vN ⟨?_⟩
  refine e8 (λdk=>Z X dk en=zI [.str [59]] 1/\Z X dk (j+2)=some (.cells ((c.set 2 (some (.Z D.at_))).set 3 (some (.ptr p9 0))) 4 .own)/\∀e,e<en->e≠j+2->Z X dk e=Z X cm e) ⟨bn Zo, ?_, ?_⟩ ?_
  ·rw[aL Zo Zo,bn Zo];simp only[y.cells,qL]
  ·intro e H K
   rw[aL Zo Zo,aL Zo K]
  rintro dk ⟨CP,S0,fS⟩
  have v7:aQ X dk aJ bJ aU o6:=hD.ad (fS _ Zo Zo) (fS _ Zo Zo)
  have gR:cu X [aJ] h j dk (en+1):=⟨Zo,λb al bN=>by rw[fS b Zo Zo];exact(eD.trans eZ).ad b al bN⟩
  rcases ge V with ⟨E,hN,rfl⟩|⟨t8,sw,hN,V⟩
  ·exact(jt az (ay.go v7 Zo) Zo Zo CP hN).mono (λab R au a=>by obtain⟨D,cx,a,_⟩:=a;cases a) (λab R au a=>a.of gR (λ_ a=>by cases a;rfl))
  refine(jt az (ay.go v7 Zo) Zo Zo CP hN).mono ?_ (λab R au a=>by obtain⟨E,a,_⟩:=a;cases a)
  rintro v9 d8 kd ⟨ay6,i9,anN,_,mH,hO⟩
  cases anN
  have uH:=hO.le
  simp only[ok,Zc]at V
  subst V
  have adE:Z X d8 (j+2)=some (.cells ((c.set 2 (some (.Z D.at_))).set 3 (some (.ptr p9 0))) 4 .own):=by rw[hO.ad _ Zo Zx];exact S0
  have gJ:∀e,j<=e->e<en->e≠j+2->Z X d8 e=Z X cm e:=λe H K am=>by rw[hO.ad e Zo Zx,fS e K am]
  have tj:Z X d8 (j+1)=zI [.aW, .aW, .Z 0, .cN] 4:=by rw[gJ _ Zo Zo Zo,e1 _ Zo Zo Zo];exact Fa
  have d9:((c.set 2 (some (y.Z D.at_))).set 3 (some (.ptr p9 0))).get 0=some a2:=by rw[M.j7,Zg Zd,M.j7,Zg Zd];exact b5
  have dl:((c.set 2 (some (y.Z D.at_))).set 3 (some (.ptr p9 0))).get 1=some kY:=by rw[M.j7,Zg Zd,M.j7,Zg Zd];exact cR
  have dx:((c.set 2 (some (y.Z D.at_))).set 3 (some (.ptr p9 0))).get 2=some (.Z D.at_):=by rw[M.j7,Zg Zd,M.j7,Zu rfl]
  have gD:((c.set 2 (some (y.Z D.at_))).set 3 (some (.ptr p9 0))).get 3=some (.ptr p9 0):=by rw[M.j7,Zu rfl]
  generalize ((c.set 2 (some (y.Z D.at_))).set 3 (some (.ptr p9 0)))=gC at adE d9 dl dx gD
  obtain⟨gO,kf,sz⟩:=gu.one ep
  obtain⟨Gk,Bs,sA⟩:=gu.one fw
  have aB:dT X d8 4 (.ptr (j+2) 0)=some (.agg [a2,kY, .Z D.at_, .ptr p9 0]):=by
   rw[x6];simp[bU adE,d9,dl,dx,gD]
  refine eP @t3 @aB @eR ⟨?_⟩
  refine gi (jJ (q:=4) tj Zo rfl Zd Zd (by simp[y.cells,iI,kf,Bs,show l3 (.Z D.at_)=true from rfl,show l3 (.ptr p9 0)=true from rfl])) ?_
  refine ce @eR ⟨?_⟩
  have DH:∀e,e≠j+1->∀cK,Z X (bl X d8 (j+1) cK) e=Z X d8 e:=λe B cK=>aL Zo B
  have n8:∀e,j+2<e->e<ct->∀cK,Z X (bl X d8 (j+1) cK) e=Z X bZ e:=λe H K cK=>by rw[DH e Zo,gJ e Zo Zo Zo,e1 e Zo K Zo]
  obtain⟨b4,Mm⟩:=(ep.ad (R:=bl X d8 (j+1) (some (.cells (d3 (M.ofList [.aW, .aW, .Z 0, .cN] 0 .nil) 0 [a2,kY, .Z D.at_, .ptr p9 0]) 4 .own))) (λe B=>n8 e (dU e B).1 (dU e B).2.1 _)).atR (ek:=λe=>ei j kd e/\e∈y0) Zx (λe B=>by have:=dU e B;exact⟨⟨Zo,Zo⟩,B⟩)
  obtain⟨cr,Dq⟩:=(fw.ad (R:=bl X d8 (j+1) (some (.cells (d3 (M.ofList [.aW, .aW, .Z 0, .cN] 0 .nil) 0 [a2,kY, .Z D.at_, .ptr p9 0]) 4 .own))) (λe B=>n8 e (eu e B).1 (eu e B).2 _)).NA (P:=λe=>ei j kd e/\e∈s3) Zx (λe B=>by have:=eu e B;exact⟨⟨Zo,Zo⟩,B⟩)
  have nB:=cG.ad (R:=bl X d8 (j+1) (some (.cells (d3 (M.ofList [.aW, .aW, .Z 0, .cN] 0 .nil) 0 [a2,kY, .Z D.at_, .ptr p9 0]) 4 .own))) (λe B=>by
   have H:=B.1
   rw[DH e Zo,gJ e Zo B.2 Zo]) _ _ e6
  refine⟨_,i9,[a2,kY, .Z D.at_, .ptr p9 0],rfl,rfl,⟨λe=>if e∈y0 then 1 else if e∈s3 then 2 else 0,a2,kY,b4,cr, .ptr p9 0,rfl, ?_, ?_, ?_,by simp[iI,kf,Bs,show l3 (.Z D.at_)=true from rfl,show l3 (.ptr p9 0)=true from rfl]⟩, ?_, ?_⟩
  ·rw[YB]at Mm;exact Mm.lift λe B=>⟨B.1,Zu B.2⟩
  ·rw[YB]at Dq;exact Dq.lift λe B=>⟨B.1,(Zg (λa=>(dU e a).2.2 B.2)).trans (Zu B.2)⟩
  ·exact cG.lift (λe B=>⟨⟨zE B.1,zE B.2⟩,(Zg (λa=>by have:=dU e a;have:=B.1;omega)).trans (Zg (λa=>by have:=eu e a;have:=B.1;omega))⟩) _ _ nB
  ·exact mH.ad (DH _ Zo _) (DH _ Zo _)
  ·exact⟨Zo,λb al bN=>by rw[DH b Zo];exact(gR.trans hO).ad b al bN⟩
end
end
end Go.Proofs.YtbbkkkpgjaopkaaGreatDoor

