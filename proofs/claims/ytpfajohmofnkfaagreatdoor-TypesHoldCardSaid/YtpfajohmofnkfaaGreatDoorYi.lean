/- A part of the last text's proof; no condition of its own -/
import Derived.Test.YtpfajohmofnkfaaGreatDoorYh
set_option maxHeartbeats 8000000
set_option linter.all false
namespace Go.Proofs.YtpfajohmofnkfaaGreatDoor
open Go.bk Go.aZ
noncomputable section
section
variable{X:co}{h U a6 aR:V an}{j ar aJ bc aK bN:Nat}{aY:List Tok}{i:Nat}
def vW(K b:Nat)(cM:List Nat):Nat->Prop:=λe=>K<=e/\e<b/\e∉cM
def dB.off{C:a2}{bv:Nat->Prop}{K b cD:Nat}{cM:List Nat}{a8:J}{b7:List bG}{bj:List J}(a:dB C h (vW K b cM) b7 bj)(Z:d1 C h (λe=>bv e/\e∈cM) cD a8 1 (bj.map λv=>[v])):dB C h (λe=>cW K b e/\e≠cD) b7 bj:=by
 cases bj with
 |nil=>
  have:=a.len
  cases b7 with
  |nil=>exact .nil
  |cons=>simp at this
 |cons v bj=>
  have ai:=(Z.ai Zs).2
  exact dB.lift (λe H=>⟨⟨H.1,H.2.1⟩,λI=>H.2.2 (I▸ai)⟩) _ _ a
def jw(az:dx X)(aA:iF X h j aK bN aY i){cD:Nat}{s:bq}(IS:cD<j)(Jw:cD≠aK)(aI:ab X h cD=zs [.str s] 1){r:Except Int (Tok×List Tok)}(Z:eO s (aY.drop i)=some r):
 aW X 172 [.ptr aK 0, .slice cD 0 1 1] h j (λae U ar=>∃x cB,r= .ok (x,aY.drop cB)/\ae= .agg (cb x)/\aZ X U aK bN aY cB/\cf X [aK] h j U ar) (iT X aK h j r):=by
 have T:d1 X h (λe=>e=cD) cD (.slice cD 0 1 1) 1 (ib [s]):=Eb (bF:=[[.str s]]) (st:= .own) aI rfl Zs Zs rfl
 refine(aft az aA.ba aA.par aA.ei aA.hB aA.g4 aA.many IS Jw T (r:=r) ?_)
 simp only[rO]
 rw[Z]
 obtain⟨I|⟨x,l⟩,_⟩:∃ao,ao=r:=⟨r,rfl⟩
 all_goals(rename_i b6;subst b6;rfl)
def atT(az:dx X){n:Nat}(sw:n<=300000)(am:∀m,m<n->q2 X aK bN aY m):∀h j i r,iF X h j aK bN aY i->Go.aZ.list n (aY.drop i)=some r->aW X 262 [.ptr aK 0] h j (λae U ar=>∃b7 cB bj cD,r= .ok (b7,aY.drop cB)/\d1 X U (cW j ar) cD ae 1 (bj.map λv=>[v])/\dB X U (λe=>cW j ar e/\e≠cD) b7 bj/\aZ X U aK bN aY cB/\cf X [aK] h j U ar) (iT X aK h j r):=by
 intro h j i r aA Z
 cases n with
 |zero=>simp[Go.aZ.list]at Z
 |succ n=>
 refine zv az (ai1 X) ?_
 rw[ai2]
 unfold VV
 have gP:=aA.ba
 have ke:=aA.hB
 have hc:=aA.ei
 have jD:=aA.g4
 unfold Go.aZ.list at Z
 obtain⟨x,ci,aO,ah⟩:=qW Z
 refine(nQ az aA aO _).Zm ?_
 rintro wh a6 aJ ⟨rfl,ey,ii⟩
 have jF:=ii.le
 rcases ah with ⟨aI,Z⟩|⟨aI,Z⟩
 ·rw[aI]at ey ⊢
  simp only[ZD]at ey ⊢
  simp only[ok,Zf]at Z
  subst Z
  refine ce cb.eq_1 ⟨?_⟩
  refine⟨[],i+1,[],0,by rw[(fP aO).2],d1.nil _ _, .nil,ey.ad (zu) (zu), ?_⟩
  exact⟨Zo,λb ai bW=>by rw[<-ii.ad b ai bW];exact zu⟩
 ·rw[aI]at ey ⊢
  simp only[Zx,ZA]at ey ⊢
  simp only[]at Z
  refine c1 cb.eq_1 g6.eq_1 ⟨?_⟩
  refine fk (λa7=>bh X a6 aJ a7 (aJ+1)) dR ?_
  intro aR bC
  have fT:=aA.go (ey.ex bC Zo Zo) (by omega:j<=aJ+1)
  have dz:=ii.trans (cf.of bC)
  rcases gx Z with ⟨K,W,rfl⟩|⟨I,c5,W,Z⟩
  ·exact((am n Zo).arrow aR _ _ _ fT W).mono (λae U ar a=>by obtain⟨I,cB,a,_⟩:=a;cases a) (λae U ar a=>a.of dz (λ_ a=>by cases a;rfl))
  refine((am n Zo).arrow aR _ _ _ fT W).mono ?_ (λae U ar a=>by obtain⟨K,a,_⟩:=a;cases a)
  rintro v3 a7 bd ⟨fH,i3,apM,cm,gL,ej⟩
  cases apM
  have ik:=ej.le
  obtain⟨d6,rfl,mM,_⟩:=cm.ptr
  have mM:=mM.2
  refine cS ⟨?_⟩
  refine fC (λm M U aV=>∃b7 bj s cM cB,bj.length+m<=n+1/\M.g 0=some (.ptr aK 0)/\M.g 5=some s/\gC X U s 1 bj cM/\(∀e∈cM,j<=e/\e<aV)/\dB X U (vW j aV cM) b7 bj/\aZ X U aK bN aY cB/\cf X [aK] h j U aV/\pj m b7 (aY.drop cB)=some r)
   n ⟨[I],[.ptr d6 0], .slice bd 0 1 1,[bd],i3,by simp;omega,bp,bp, .inr ⟨bd,1,_,_,rfl,rfl,rfl,bi Zo,og _⟩, ?_, ?_,gL.ad (zu) (zu), ?_,Z⟩ ?_
  ·intro e H
   simp at H
   omega
  ·refine dB.one (cR.ad (λe H=> ?_) _ _ cm) (λe H=>⟨zo H.1,zo H.2,by have:=H.2;simp;omega⟩)
   have:=H.2
   simp(disch:=omega) only[aG]
  ·exact⟨Zo,λb ai bW=>by rw[<-(dz.trans ej).ad b ai bW];exact zu⟩
  clear cm gL ej W Z mM
  rintro m M bw db ⟨b7,bj,s,cM,i4,bs,t0,t5,jq,fj,FM,hn,eI,Z⟩
  cases m with
  |zero=>simp[pj]at Z
  |succ m=>
  unfold pj at Z
  have jd:=eI.le
  have kO:=aA.go hn jd
  refine gX ?_
  refine ce @t0 ⟨?_⟩
  obtain⟨e,ci,aO,ah⟩:=qW Z
  refine(nQ az kO aO _).Zm ?_
  rintro Ey bS cj ⟨rfl,ho,dG⟩
  have il:=dG.le
  have pe:∀e,j<=e->e<db->ab X bS e=ab X bw e:=λe T W=>dG.ad e Zo (by simp;omega)
  have o7:=jq.ad (U:=bS) (λe H=>pe e (fj e H).1 (fj e H).2)
  have u2:=dB.ad (U:=bS) (λe H=>pe e H.1 H.2.1) _ _ FM
  rcases ah with ⟨aI,Z⟩|⟨aI,Z⟩
  ·rw[aI]at ho ⊢
   simp only[ZD]at ho ⊢
   rw[<-(fP aO).2]at Z
   simp only[]at Z
   refine d9 cb.eq_1 @t0 @t5 ⟨?_⟩
   refine fk (λa7=>bh X bS cj a7 (cj+1)) dR ?_
   intro b4 dV
   have eD:=(eI.trans dG).trans (cf.of dV)
   have mv:=kO.go (ho.ex dV Zo Zo) (by omega:db<=cj+1)
   rcases gx Z with ⟨K,dP,rfl⟩|⟨PQ,mr,dP,Z⟩
   ·exact((am m Zo).arrow b4 _ _ _ mv dP).mono (λae U ar a=>by obtain⟨I,cB,a,_⟩:=a;cases a) (λae U ar a=>a.of eD (λ_ a=>by cases a;rfl))
   refine((am m Zo).arrow b4 _ _ _ mv dP).mono ?_ (λae U ar a=>by obtain⟨K,a,_⟩:=a;cases a)
   rintro KJ cu e1 ⟨XG,o9,yL,e7,hR,ev⟩
   cases yL
   have nE:=ev.le
   obtain⟨B7,rfl,Dn,_⟩:=e7.ptr
   have Dn:=Dn.2
   refine cS ⟨?_⟩
   have as2:∀gF,gF=bo X cu e1 (zs [.ptr B7 0] 1)->∀e,j<=e->e<cj->ab X gF e=ab X bS e:=by
    rintro gF rfl e T W
    rw[aG Zo Zo,ev.ad e Zo (by simp;omega),dV.ad e Zo]
   have ki:lh X (bo X cu e1 (zs [.ptr B7 0] 1)) 1 (.slice e1 0 1 1)=some (1,[.ptr B7 0]):=s2 (bi Zo) (og _) rfl _
   obtain⟨fg,d4,gG,iv,R4,IR,xi⟩:=(o7.ad (U:=bo X cu e1 (zs [.ptr B7 0] 1)) (λe H=>as2 _ rfl e (fj e H).1 (zo (fj e H).2))).append (j:=e1+1) Zd ki rfl Zd rfl (by simp;omega) Zo (λe H=>zo (fj e H).2)
   refine ky iv ?_
   have iM:∀e,e<e1->e∉cM->ab X d4 e=ab X cu e:=λe T W=>by
    rw[xi e Zo W,aG Zo Zo]
   refine⟨m,Zo,b7++[PQ],bj++[.ptr B7 0],fg,gG,o9,by simp;omega,aQ t0,bp, .inl R4, ?_, ?_, ?_, ?_,Z⟩
   ·intro e H
    rcases IR e H with rfl|H
    ·omega
    ·have:=fj e H;omega
   ·refine dB.snoc (cR.ad (λe H=> ?_) _ _ e7) (dB.ad (λe H=> ?_) _ _ u2) (λe H=>⟨H.1,zo H.2.1,λgh=> ?_⟩) (λe H=>⟨⟨zo H.1,zo H.2,λgh=> ?_⟩,λo8=>by have:=H.1;have:=o8.2.1;omega⟩)
    ·have T:=H.1
     exact iM e H.2 (λgh=>zo (fj e gh))
    ·have W:=H.2.1
     rw[iM e Zo H.2.2,ev.ad e Zo (by have:=H.1;simp;omega),dV.ad e Zo]
    ·have W:=H.2.1
     rcases IR e gh with rfl|gh
     ·omega
     ·exact H.2.2 gh
    ·have T:=H.1;have W:=H.2
     rcases IR e gh with rfl|gh
     ·omega
     ·have:=fj e gh;omega
   ·exact hR.ad (iM _ Zo (λI=>zo (fj _ I))) (iM _ Zo (λI=>zo (fj _ I)))
   ·exact⟨Zo,λb ai bW=>by rw[iM b Zo (λI=>zo (fj _ I))];exact(eD.trans ev).ad b ai bW⟩
  ·rw[aI]at ho ⊢
   simp only[Zx,ZA]at ho ⊢
   simp only[]at Z
   refine gl cb.eq_1 g6.eq_1 @t0 @t5 ⟨?_⟩
   refine fk (λa7=>bh X bS cj a7 (cj+1+1)/\ab X a7 (cj+1)=zs [.str [41]] 1) ⟨dR,bi Zo⟩ ?_
   rintro b4 ⟨dV,d8⟩
   have eD:=(eI.trans dG).trans (cf.of dV)
   have mv:=kO.go (ho.ex dV Zo Zo) (by omega:db<=cj+1+1)
   rcases gx Z with ⟨K,dP,rfl⟩|⟨PQ,mr,dP,Z⟩
   ·exact(jw az mv Zo Zo d8 dP).mono (λae U ar a=>by obtain⟨I,cB,a,_⟩:=a;cases a) (λae U ar a=>a.of eD (λ_ a=>by cases a;rfl))
   refine(jw az mv Zo Zo d8 dP).mono ?_ (λae U ar a=>by obtain⟨K,a,_⟩:=a;cases a)
   rintro KJ cu e1 ⟨XG,o9,yL,_,hR,ev⟩
   cases yL
   have nE:=ev.le
   simp only[ok,Zf]at Z
   subst Z
   refine ce @t5 ⟨?_⟩
   have fR:∀e,j<=e->e<cj->ab X cu e=ab X bS e:=λe T W=>by
    rw[ev.ad e Zo (by simp;omega),dV.ad e Zo]
   obtain⟨cD,cG⟩:=(o7.ad (U:=cu) (λe H=>fR e (fj e H).1 (zo (fj e H).2))).Kr (P:=λe=>cW j e1 e/\e∈cM) Zo (λe H=>⟨⟨(fj e H).1,zo (fj e H).2⟩,H⟩)
   refine⟨b7,o9,bj,cD,rfl,cG.lift (λe H=>H.1), ?_,hR,eD.trans ev⟩
   exact dB.lift (λe H=>⟨⟨H.1.1,zo H.1.2⟩,H.2⟩) _ _ (dB.off (dB.ad (λe H=>fR e H.1 (zo H.2.1)) _ _ u2) cG)
end
section
variable{X:co}{h U a6 aR:V an}{j ar aJ bc aK bN:Nat}{aY:List Tok}{i:Nat}
def avy(az:dx X){n:Nat}{r:Except Int (bG×List Tok)}(aA:iF X h j aK bN aY i){x:Tok}{l:List Tok}(aO:aY.drop i=x::l)(aL:x.kind=5)(Z:Go.aZ.part (n+1) (x::l)=some r):
 aW X 261 [.ptr aK 0] h j (jN X aK bN aY h j r) (iT X aK h j r):=by
 refine zv az (AD X) ?_
 rw[AE]
 unfold x8
 have gP:=aA.ba
 have ke:=aA.hB
 have hc:=aA.ei
 have jD:=aA.g4
 obtain⟨ah,jW⟩:=fP aO
 unfold Go.aZ.part at Z
 refine(rE az aA.ba aA.par aA.hB aA.g4 ah).Zm ?_
 rintro ae a6 aJ ⟨rfl,bT⟩
 have jF:=bT.le
 have ey:=aA.par.ex bT Zo Zo
 obtain⟨c,av,bf,ck,a3,a4⟩:=ey.at_
 have bY:=j1 bf a3
 have ls:=(Zc.1 ah).1
 have vf:=aA.many
 have dT:=ey.ne
 have bH:=zt i
 refine hm cb.eq_1 @bY (Za @bH @bf) ⟨?_⟩
 generalize d2:bo X _ aK _=aR
 have fI:ab X aR aJ=zs (cb x) 7:=by rw[<-d2];simp(disch:=omega) only[aG,bi]<;>rfl
 have ih:ab X aR (aJ+1)=zs (g9 0 x.at_ [] false dU 0 .aU) 9:=by rw[<-d2];simp(disch:=omega) only[aG,bi]<;>rfl
 have dD:aZ X aR aK bN aY (i+1):=by
  refine ey.on (c:=d3 c 1 [.Z ((i+1:Nat):Int)]) ?_ (λee st a=>by rw[bf]at a;cases a;exact q0 ..) ?_
  ·rw[<-d2];simp(disch:=omega) only[aG,bi];rfl
  ·rw[<-d2];simp(disch:=omega) only[aG]
 have dz:cf X [aK] h j aR (aJ+2):=by
  refine⟨Zo,λb ai bW=> ?_⟩
  rw[<-bT.ad b ai, <-d2]
  simp only[Zq,ZG,YU,Yr,ZF,Ye]at bW
  simp(disch:=omega) only[aG]
 clear d2 bY bf ck a3 a4 ey bT
 have tw:∃dZ,ab X aR aK=some (.cells dZ 2 .own)/\al X aR (.ptr aK 1)=some (.Z ((i+1:Nat):Int)):=by
  obtain⟨c,av,cT,dL,et,ig⟩:=dD.at_
  exact⟨c,cT,j1 cT et⟩
 have fT:=aA.go dD (by omega:j<=aJ+1+1)
 refine j0 (λM U aV=>∃v,M.g 4=some v/\jN X aK bN aY h j r v U aV) (λaa bL=> ?_) (by
  rintro M U aV ⟨v,t4,a⟩
  refine ce @t4 ⟨?_⟩
  exact a)
 rw[Zr aL]at Z
 simp only[ok,Zf]at Z
 subst Z
 have gc:decide (x.kind=5)=true:=by simp[aL]
 refine gl (bR fI) @ih @gc cb.eq_1 ⟨?_⟩
 refine gs (by simp[J.same,nK]) ?_
 refine d9 (bR fI) @ih cb.eq_1 ⟨?_⟩
 refine gs (pt _ _) ?_
 refine d9 (bR fI) @ih cb.eq_1 ⟨?_⟩
 refine gs (pt _ _) ?_
 refine d9 (bR fI) @ih cb.eq_1 ⟨?_⟩
 refine bL _ _ _ ⟨.ptr (aJ+1) 0,bp,_,i+1,by rw[<-jW],cR.leaf (b:=aJ+1) (m:=9) (st:= .own) ?_ ⟨Zo,Zo⟩,dD.ad (zu) (zu), ?_⟩
 ·simp(disch:=omega) only[aG,bi]<;>rfl
 ·exact⟨Zo,λb ai bW=>by rw[<-dz.ad b ai bW];exact zu⟩
end
section
variable{X:co}{h U a6 aR:V an}{j ar aJ bc aK bN:Nat}{aY:List Tok}{i:Nat}
def ad3(az:dx X){n:Nat}{r:Except Int (bG×List Tok)}(aA:iF X h j aK bN aY i){x:Tok}{l:List Tok}(aO:aY.drop i=x::l)(aL:x.kind=2)(bb:x.text=[116,114,117,101]\/x.text=[102,97,108,115,101])(Z:Go.aZ.part (n+1) (x::l)=some r):
 aW X 261 [.ptr aK 0] h j (jN X aK bN aY h j r) (iT X aK h j r):=by
 refine zv az (AD X) ?_
 rw[AE]
 unfold x8
 have gP:=aA.ba
 have ke:=aA.hB
 have hc:=aA.ei
 have jD:=aA.g4
 obtain⟨ah,jW⟩:=fP aO
 unfold Go.aZ.part at Z
 refine(rE az aA.ba aA.par aA.hB aA.g4 ah).Zm ?_
 rintro ae a6 aJ ⟨rfl,bT⟩
 have jF:=bT.le
 have ey:=aA.par.ex bT Zo Zo
 obtain⟨c,av,bf,ck,a3,a4⟩:=ey.at_
 have bY:=j1 bf a3
 have ls:=(Zc.1 ah).1
 have vf:=aA.many
 have dT:=ey.ne
 have bH:=zt i
 refine hm cb.eq_1 @bY (Za @bH @bf) ⟨?_⟩
 generalize d2:bo X _ aK _=aR
 have fI:ab X aR aJ=zs (cb x) 7:=by rw[<-d2];simp(disch:=omega) only[aG,bi]<;>rfl
 have ih:ab X aR (aJ+1)=zs (g9 0 x.at_ [] false dU 0 .aU) 9:=by rw[<-d2];simp(disch:=omega) only[aG,bi]<;>rfl
 have dD:aZ X aR aK bN aY (i+1):=by
  refine ey.on (c:=d3 c 1 [.Z ((i+1:Nat):Int)]) ?_ (λee st a=>by rw[bf]at a;cases a;exact q0 ..) ?_
  ·rw[<-d2];simp(disch:=omega) only[aG,bi];rfl
  ·rw[<-d2];simp(disch:=omega) only[aG]
 have dz:cf X [aK] h j aR (aJ+2):=by
  refine⟨Zo,λb ai bW=> ?_⟩
  rw[<-bT.ad b ai, <-d2]
  simp only[Zq,ZG,YU,Yr,ZF,Ye]at bW
  simp(disch:=omega) only[aG]
 clear d2 bY bf ck a3 a4 ey bT
 have tw:∃dZ,ab X aR aK=some (.cells dZ 2 .own)/\al X aR (.ptr aK 1)=some (.Z ((i+1:Nat):Int)):=by
  obtain⟨c,av,cT,dL,et,ig⟩:=dD.at_
  exact⟨c,cT,j1 cT et⟩
 have fT:=aA.go dD (by omega:j<=aJ+1+1)
 refine j0 (λM U aV=>∃v,M.g 4=some v/\jN X aK bN aY h j r v U aV) (λaa bL=> ?_) (by
  rintro M U aV ⟨v,t4,a⟩
  refine ce @t4 ⟨?_⟩
  exact a)
 rw[Zh (by rw[aL];decide),Zr (by rcases bb with a|a<;>simp[aL,a])]at Z
 simp only[ok,Zf]at Z
 subst Z
 have gc:decide (x.kind=5)=false:=by simp[aL]
 have cQ:decide (x.kind=2)=true:=by simp[aL]
 rcases bb with bb|bb
 ·have m6:decide (x.text=[116,114,117,101])=true:=by simp[bb]
  refine iu (bR fI) @ih @gc @cQ @m6 cb.eq_1 ⟨?_⟩
  refine bL _ _ _ ⟨.ptr (aJ+1) 0,bp,_,i+1,by rw[<-jW],cR.leaf (b:=aJ+1) (m:=9) (st:= .own) (n:=if x.text=[116,114,117,101]then 1 else 0) ?_ ⟨Zo,Zo⟩,dD.ad (zu) (zu), ?_⟩
  ·rw[Zr bb];simp(disch:=omega) only[aG,bi]<;>rfl
  ·exact⟨Zo,λb ai bW=>by rw[<-dz.ad b ai bW];exact zu⟩
 ·have m6:decide (x.text=[116,114,117,101])=false:=by simp[bb]
  have bg:decide (x.text=[102,97,108,115,101])=true:=by simp[bb]
  refine eu (bR fI) @ih @gc @cQ @m6 @bg cb.eq_1 ⟨?_⟩
  refine bL _ _ _ ⟨.ptr (aJ+1) 0,bp,_,i+1,by rw[<-jW],cR.leaf (b:=aJ+1) (m:=9) (st:= .own) (n:=if x.text=[116,114,117,101]then 1 else 0) ?_ ⟨Zo,Zo⟩,dD.ad (zu) (zu), ?_⟩
  ·rw[Zh (by rw[bb];decide)];simp(disch:=omega) only[aG,bi]<;>rfl
  ·exact⟨Zo,λb ai bW=>by rw[<-dz.ad b ai bW];exact zu⟩
end
section
variable{X:co}{h U a6 aR:V an}{j ar aJ bc aK bN:Nat}{aY:List Tok}{i:Nat}
def avA(az:dx X){n:Nat}(am:∀m,m<n+1->q2 X aK bN aY m){r:Except Int (bG×List Tok)}(aA:iF X h j aK bN aY i){x:Tok}{l:List Tok}(aO:aY.drop i=x::l)(sw:n<=1000000)(aL:x.kind=1)(Z:Go.aZ.part (n+1) (x::l)=some r):
 aW X 261 [.ptr aK 0] h j (jN X aK bN aY h j r) (iT X aK h j r):=by
 refine zv az (AD X) ?_
 rw[AE]
 unfold x8
 have gP:=aA.ba
 have ke:=aA.hB
 have hc:=aA.ei
 have jD:=aA.g4
 obtain⟨ah,jW⟩:=fP aO
 unfold Go.aZ.part at Z
 refine(rE az aA.ba aA.par aA.hB aA.g4 ah).Zm ?_
 rintro ae a6 aJ ⟨rfl,bT⟩
 have jF:=bT.le
 have ey:=aA.par.ex bT Zo Zo
 obtain⟨c,av,bf,ck,a3,a4⟩:=ey.at_
 have bY:=j1 bf a3
 have ls:=(Zc.1 ah).1
 have vf:=aA.many
 have dT:=ey.ne
 have bH:=zt i
 refine hm cb.eq_1 @bY (Za @bH @bf) ⟨?_⟩
 generalize d2:bo X _ aK _=aR
 have fI:ab X aR aJ=zs (cb x) 7:=by rw[<-d2];simp(disch:=omega) only[aG,bi]<;>rfl
 have ih:ab X aR (aJ+1)=zs (g9 0 x.at_ [] false dU 0 .aU) 9:=by rw[<-d2];simp(disch:=omega) only[aG,bi]<;>rfl
 have dD:aZ X aR aK bN aY (i+1):=by
  refine ey.on (c:=d3 c 1 [.Z ((i+1:Nat):Int)]) ?_ (λee st a=>by rw[bf]at a;cases a;exact q0 ..) ?_
  ·rw[<-d2];simp(disch:=omega) only[aG,bi];rfl
  ·rw[<-d2];simp(disch:=omega) only[aG]
 have dz:cf X [aK] h j aR (aJ+2):=by
  refine⟨Zo,λb ai bW=> ?_⟩
  rw[<-bT.ad b ai, <-d2]
  simp only[Zq,ZG,YU,Yr,ZF,Ye]at bW
  simp(disch:=omega) only[aG]
 clear d2 bY bf ck a3 a4 ey bT
 have tw:∃dZ,ab X aR aK=some (.cells dZ 2 .own)/\al X aR (.ptr aK 1)=some (.Z ((i+1:Nat):Int)):=by
  obtain⟨c,av,cT,dL,et,ig⟩:=dD.at_
  exact⟨c,cT,j1 cT et⟩
 have fT:=aA.go dD (by omega:j<=aJ+1+1)
 refine j0 (λM U aV=>∃v,M.g 4=some v/\jN X aK bN aY h j r v U aV) (λaa bL=> ?_) (by
  rintro M U aV ⟨v,t4,a⟩
  refine ce @t4 ⟨?_⟩
  exact a)
 rw[Zh (by rw[aL];decide),Zh (by simp[aL]),Zr aL]at Z
 have gc:decide (x.kind=5)=false:=by simp[aL]
 have cQ:decide (x.kind=2)=false:=by simp[aL]
 have c3:decide (x.kind=1)=true:=by simp[aL]
 refine iu (bR fI) @ih @gc @cQ @c3 cb.eq_1 ⟨?_⟩
 refine gs (by simp[J.same,DS]) ?_
 refine d9 (bR fI) @ih cb.eq_1 ⟨?_⟩
 refine fk (λa7=>ab X a7 (aJ+1)=zs (g9 2 x.at_ x.text false dU 0 .aU) 9/\aZ X a7 aK bN aY (i+1)/\cf X [aK] h j a7 (aJ+1+1+10)) ⟨?_, ?_, ?_⟩ ?_
 ·simp(disch:=omega) only[aG,bi]<;>rfl
 ·exact dD.ad (zu) (zu)
 ·exact⟨Zo,λb ai bW=>by rw[<-dz.ad b ai bW];exact zu⟩
 clear dD fT dz fI ih tw
 rintro a7 ⟨ih,gL,ej⟩
 have ng:=aA.go gL (by omega:j<=aJ+1+1+10)
 rw[<-jW]at Z
 obtain⟨e,g2,C8,asd⟩:=qW Z
 refine(nQ az ng C8 _).Zm ?_
 rintro Ex bw db ⟨rfl,hn,eI⟩
 have jd:=eI.le
 have Im:ab X bw (aJ+1)=zs (g9 2 x.at_ x.text false dU 0 .aU) 9:=by rw[eI.ad _ Zo (by simp;omega)];exact ih
 have rn:=ej.trans eI
 rcases asd with ⟨aI,Z⟩|⟨aI,Z⟩
 ·rw[aI]at hn ⊢
  simp only[ZD]at hn ⊢
  rw[<-(fP C8).2]at Z
  simp only[]at Z
  refine ce cb.eq_1 ⟨?_⟩
  refine fk (λbS=>bh X bw db bS (db+1)) dR ?_
  intro bS dF
  have ov:=ng.go (hn.ex dF Zo Zo) (by omega:aJ+1+1+10<=db+1)
  have dG:=rn.trans (cf.of dF)
  rcases gx Z with ⟨K,cr,rfl⟩|⟨b7,mQ,cr,Z⟩
  ·exact((am n Zo).list bS _ _ _ ov cr).mono (λae U ar a=>by obtain⟨I,cB,bj,cD,a,_⟩:=a;cases a) (λae U ar a=>a.of dG (λ_ a=>by cases a;rfl))
  refine((am n Zo).list bS _ _ _ ov cr).mono ?_ (λae U ar a=>by obtain⟨K,a,_⟩:=a;cases a)
  rintro Ar b4 dH ⟨me,h9,bj,cD,Re,cG,FM,hH,eD⟩
  cases Re
  have pY:=eD.le
  simp only[ok,Zf]at Z
  subst Z
  have sg:ab X b4 (aJ+1)=zs (g9 2 x.at_ x.text false dU 0 .aU) 9:=by rw[eD.ad _ Zo (by simp;omega),dF.ad _ Zo];exact Im
  have qA:∃w,Ar.cells=[w]/\w=Ar/\p7 Ar=true:=by
   have:=cG.len
   cases Ar<;>first|exact⟨_,rfl,rfl,rfl⟩|(simp[dI]at this;done)
  obtain⟨w,bI,rfl,sE⟩:=qA
  have dp:∀cu Pr,ab X cu (aJ+1)=some (.cells Pr 9 .own)->b8 X cu 1 (.ptr (aJ+1) 8) w=some (bo X cu (aJ+1) (some (.cells (Pr.set 8 (some w)) 9 .own))):=λcu Pr a=>rK a Zo Zo bI sE
  refine ce @sg ⟨?_⟩
  refine fS (dp _ _ (bi Zo)) ?_
  refine bL _ _ _ ⟨.ptr (aJ+1) 0,bp,_,h9,rfl,cR.of (b:=aJ+1) (m:=9) (st:= .own) (cD:=cD) (a8:=w) (kind:=25) (at_:=x.at_) (name:=x.text) (no:=false) (ty:=dU) (n:=0) (bj:=bj) ?_ ⟨Zo,Zo⟩ ?_ (λbD=> ?_) ?_,hH.ad (zu) (zu), ?_⟩
  ·simp(disch:=omega) only[aG,bi]<;>rfl
  ·refine(cG.ad (λe H=> ?_)).lift (λe H=>⟨zo H.1,H.2⟩)
   have:=H.1
   simp(disch:=omega) only[aG]
  ·have:=(cG.ai (by simpa using bD)).1
   omega
  ·refine dB.lift (λe H=>⟨⟨zo H.1.1,zo H.1.2⟩,zo H.1.1,H.2⟩) _ _ (dB.ad (λe H=> ?_) _ _ FM)
   have T:=H.1.1
   have W:=H.1.2
   simp(disch:=omega) only[aG]
  ·exact⟨Zo,λb ai bW=>by rw[<-(dG.trans eD).ad b ai bW];exact zu⟩
 ·rw[aI]at hn ⊢
  simp only[Zx,ZA]at hn ⊢
  simp only[ok,Zf]at Z
  subst Z
  refine c1 cb.eq_1 g6.eq_1 ⟨?_⟩
  refine bL _ _ _ ⟨.ptr (aJ+1) 0,bp,_,i+1,rfl,cR.leaf (b:=aJ+1) (m:=9) (st:= .own) ?_ ⟨Zo,Zo⟩,hn.ad (zu) (zu), ?_⟩
  ·simp(disch:=omega) only[aG];exact Im
  ·exact⟨Zo,λb ai bW=>by rw[<-rn.ad b ai bW];exact zu⟩
end
section
variable{X:co}{h U a6 aR:V an}{j ar aJ bc aK bN:Nat}{aY:List Tok}{i:Nat}
def avD(az:dx X){n:Nat}(am:∀m,m<n+1->q2 X aK bN aY m){r:Except Int (bG×List Tok)}(aA:iF X h j aK bN aY i){x:Tok}{l:List Tok}(aO:aY.drop i=x::l)(aL:x.kind=3)(Z:Go.aZ.part (n+1) (x::l)=some r):
 aW X 261 [.ptr aK 0] h j (jN X aK bN aY h j r) (iT X aK h j r):=by
 refine zv az (AD X) ?_
 rw[AE]
 unfold x8
 have gP:=aA.ba
 have ke:=aA.hB
 have hc:=aA.ei
 have jD:=aA.g4
 obtain⟨ah,jW⟩:=fP aO
 unfold Go.aZ.part at Z
 refine(rE az aA.ba aA.par aA.hB aA.g4 ah).Zm ?_
 rintro ae a6 aJ ⟨rfl,bT⟩
 have jF:=bT.le
 have ey:=aA.par.ex bT Zo Zo
 obtain⟨c,av,bf,ck,a3,a4⟩:=ey.at_
 have bY:=j1 bf a3
 have ls:=(Zc.1 ah).1
 have vf:=aA.many
 have dT:=ey.ne
 have bH:=zt i
 refine hm cb.eq_1 @bY (Za @bH @bf) ⟨?_⟩
 generalize d2:bo X _ aK _=aR
 have fI:ab X aR aJ=zs (cb x) 7:=by rw[<-d2];simp(disch:=omega) only[aG,bi]<;>rfl
 have ih:ab X aR (aJ+1)=zs (g9 0 x.at_ [] false dU 0 .aU) 9:=by rw[<-d2];simp(disch:=omega) only[aG,bi]<;>rfl
 have dD:aZ X aR aK bN aY (i+1):=by
  refine ey.on (c:=d3 c 1 [.Z ((i+1:Nat):Int)]) ?_ (λee st a=>by rw[bf]at a;cases a;exact q0 ..) ?_
  ·rw[<-d2];simp(disch:=omega) only[aG,bi];rfl
  ·rw[<-d2];simp(disch:=omega) only[aG]
 have dz:cf X [aK] h j aR (aJ+2):=by
  refine⟨Zo,λb ai bW=> ?_⟩
  rw[<-bT.ad b ai, <-d2]
  simp only[Zq,ZG,YU,Yr,ZF,Ye]at bW
  simp(disch:=omega) only[aG]
 clear d2 bY bf ck a3 a4 ey bT
 have tw:∃dZ,ab X aR aK=some (.cells dZ 2 .own)/\al X aR (.ptr aK 1)=some (.Z ((i+1:Nat):Int)):=by
  obtain⟨c,av,cT,dL,et,ig⟩:=dD.at_
  exact⟨c,cT,j1 cT et⟩
 have fT:=aA.go dD (by omega:j<=aJ+1+1)
 refine j0 (λM U aV=>∃v,M.g 4=some v/\jN X aK bN aY h j r v U aV) (λaa bL=> ?_) (by
  rintro M U aV ⟨v,t4,a⟩
  refine ce @t4 ⟨?_⟩
  exact a)
 rw[Zh (by rw[aL];decide),Zh (by simp[aL]),Zh (by rw[aL];decide),Zr aL]at Z
 have gc:decide (x.kind=5)=false:=by simp[aL]
 have cQ:decide (x.kind=2)=false:=by simp[aL]
 have c3:decide (x.kind=1)=false:=by simp[aL]
 have eZ:decide (x.kind=3)=true:=by simp[aL]
 refine eu (bR fI) @ih @gc @cQ @c3 @eZ cb.eq_1 ⟨?_⟩
 refine gs (by simp[J.same,nK]) ?_
 refine d9 (bR fI) @ih cb.eq_1 ⟨?_⟩
 refine fk (λa7=>ab X a7 (aJ+1+1+10)=zs [.str [40]] 1/\ab X a7 (aJ+1)=zs (g9 26 x.at_ [] false x.ty 0 .aU) 9/\aZ X a7 aK bN aY (i+1)/\cf X [aK] h j a7 (aJ+1+1+10+1)) ⟨bi Zo, ?_, ?_, ?_⟩ ?_
 ·simp(disch:=omega) only[aG,bi]<;>rfl
 ·exact dD.ad (zu) (zu)
 ·exact⟨Zo,λb ai bW=>by rw[<-dz.ad b ai bW];exact zu⟩
 clear dD fT dz fI ih tw
 rintro a7 ⟨aq,ih,gL,ej⟩
 have ng:=aA.go gL (by omega:j<=aJ+1+1+10+1)
 rw[<-jW]at Z
 rcases gx Z with ⟨K,aP,rfl⟩|⟨kB,g2,aP,Z⟩
 ·exact(jw az ng Zo Zo aq aP).mono (λae U ar a=>by obtain⟨I,cB,a,_⟩:=a;cases a) (λae U ar a=>a.of ej (λ_ a=>by cases a;rfl))
 refine(jw az ng Zo Zo aq aP).mono ?_ (λae U ar a=>by obtain⟨K,a,_⟩:=a;cases a)
 rintro v4 bw db ⟨ayV,i4,tM,_,hn,eI⟩
 cases tM
 have jd:=eI.le
 have kO:=ng.go hn jd
 have yD:=ej.trans eI
 rcases gx Z with ⟨K,bK,rfl⟩|⟨pN,gM,bK,Z⟩
 ·exact((am n Zo).arrow bw _ _ _ kO bK).mono (λae U ar a=>by obtain⟨I,cB,a,_⟩:=a;cases a) (λae U ar a=>a.of yD (λ_ a=>by cases a;rfl))
 refine((am n Zo).arrow bw _ _ _ kO bK).mono ?_ (λae U ar a=>by obtain⟨K,a,_⟩:=a;cases a)
 rintro v5 bS cj ⟨Ly,i5,sq,dF,ho,dG⟩
 cases sq
 have il:=dG.le
 have ov:=kO.go ho il
 have qs:=yD.trans dG
 obtain⟨lC,rfl,ru,_⟩:=dF.ptr
 have ru:=ru.2
 have rl:ab X bS (aJ+1)=zs (g9 26 x.at_ [] false x.ty 0 .aU) 9:=by rw[dG.ad _ Zo (by simp;omega),eI.ad _ Zo (by simp;omega)];exact ih
 refine ce @rl ⟨?_⟩
 refine fk (λb4=>ab X b4 (cj+1)=zs [.str [41]] 1/\ab X b4 cj=zs [.ptr lC 0] 1/\ab X b4 (aJ+1)=zs (g9 26 x.at_ [] false x.ty 0 (.slice cj 0 1 1)) 9/\cR X b4 (cW db cj) pN (.ptr lC 0)/\aZ X b4 aK bN aY i5/\cf X [aK] h j b4 (cj+1+1)) ⟨bi Zo, ?_, ?_, ?_, ?_, ?_⟩ ?_
 ·simp(disch:=omega) only[aG,bi]<;>rfl
 ·simp(disch:=omega) only[aG,bi]<;>rfl
 ·refine cR.ex dF (λe T W=> ?_) Zo Zo
  simp(disch:=omega) only[aG]
 ·exact ho.ad (zu) (zu)
 ·exact⟨Zo,λb ai bW=>by rw[<-qs.ad b ai bW];exact zu⟩
 clear dF ho rl dG
 rintro b4 ⟨Iq,anH,sg,dV,hH,eD⟩
 have mv:=aA.go hH (by omega:j<=cj+1+1)
 rcases gx Z with ⟨K,dP,rfl⟩|⟨ww,mr,dP,Z⟩
 ·exact(jw az mv Zo Zo Iq dP).mono (λae U ar a=>by obtain⟨I,cB,a,_⟩:=a;cases a) (λae U ar a=>a.of eD (λ_ a=>by cases a;rfl))
 refine(jw az mv Zo Zo Iq dP).mono ?_ (λae U ar a=>by obtain⟨K,a,_⟩:=a;cases a)
 rintro KJ cu e1 ⟨ayW,o9,yL,_,hR,ev⟩
 cases yL
 have nE:=ev.le
 simp only[ok,Zf]at Z
 subst Z
 refine bL _ _ _ ⟨.ptr (aJ+1) 0,bp,_,o9,rfl,cR.lit (F:=1) (cap:=1) (b:=aJ+1) (m:=9) (st:= .own) (i1:= .own) (cD:=cj) (bj:=[.ptr lC 0]) ?_ ⟨Zo,Zo⟩ ?_ ⟨Zo,Zo⟩ rfl Zo Zo (dB.one (cR.ad (λe H=> ?_) _ _ dV) (λe H=> ?_)),hR,eD.trans ev⟩
 ·rw[ev.ad _ Zo (by simp;omega)];exact sg
 ·rw[ev.ad _ Zo (by simp;omega)];exact anH
 ·have T:=H.1;have W:=H.2
  exact ev.ad e Zo (by simp;omega)
 ·simp only[cW]at H ⊢;omega
end
section
variable{X:co}{h U a6 aR:V an}{j ar aJ bc aK bN:Nat}{aY:List Tok}{i:Nat}
def avC(az:dx X){n:Nat}(am:∀m,m<n+1->q2 X aK bN aY m){r:Except Int (bG×List Tok)}(aA:iF X h j aK bN aY i){x:Tok}{l:List Tok}(aO:aY.drop i=x::l)(aL:x.kind=6)(bb:x.text=[40])(Z:Go.aZ.part (n+1) (x::l)=some r):
 aW X 261 [.ptr aK 0] h j (jN X aK bN aY h j r) (iT X aK h j r):=by
 refine zv az (AD X) ?_
 rw[AE]
 unfold x8
 have gP:=aA.ba
 have ke:=aA.hB
 have hc:=aA.ei
 have jD:=aA.g4
 obtain⟨ah,jW⟩:=fP aO
 unfold Go.aZ.part at Z
 refine(rE az aA.ba aA.par aA.hB aA.g4 ah).Zm ?_
 rintro ae a6 aJ ⟨rfl,bT⟩
 have jF:=bT.le
 have ey:=aA.par.ex bT Zo Zo
 obtain⟨c,av,bf,ck,a3,a4⟩:=ey.at_
 have bY:=j1 bf a3
 have ls:=(Zc.1 ah).1
 have vf:=aA.many
 have dT:=ey.ne
 have bH:=zt i
 refine hm cb.eq_1 @bY (Za @bH @bf) ⟨?_⟩
 generalize d2:bo X _ aK _=aR
 have fI:ab X aR aJ=zs (cb x) 7:=by rw[<-d2];simp(disch:=omega) only[aG,bi]<;>rfl
 have ih:ab X aR (aJ+1)=zs (g9 0 x.at_ [] false dU 0 .aU) 9:=by rw[<-d2];simp(disch:=omega) only[aG,bi]<;>rfl
 have dD:aZ X aR aK bN aY (i+1):=by
  refine ey.on (c:=d3 c 1 [.Z ((i+1:Nat):Int)]) ?_ (λee st a=>by rw[bf]at a;cases a;exact q0 ..) ?_
  ·rw[<-d2];simp(disch:=omega) only[aG,bi];rfl
  ·rw[<-d2];simp(disch:=omega) only[aG]
 have dz:cf X [aK] h j aR (aJ+2):=by
  refine⟨Zo,λb ai bW=> ?_⟩
  rw[<-bT.ad b ai, <-d2]
  simp only[Zq,ZG,YU,Yr,ZF,Ye]at bW
  simp(disch:=omega) only[aG]
 clear d2 bY bf ck a3 a4 ey bT
 have tw:∃dZ,ab X aR aK=some (.cells dZ 2 .own)/\al X aR (.ptr aK 1)=some (.Z ((i+1:Nat):Int)):=by
  obtain⟨c,av,cT,dL,et,ig⟩:=dD.at_
  exact⟨c,cT,j1 cT et⟩
 have fT:=aA.go dD (by omega:j<=aJ+1+1)
 refine j0 (λM U aV=>∃v,M.g 4=some v/\jN X aK bN aY h j r v U aV) (λaa bL=> ?_) (by
  rintro M U aV ⟨v,t4,a⟩
  refine ce @t4 ⟨?_⟩
  exact a)
 rw[Zh (by rw[aL];decide),Zh (by simp[aL]),Zh (by rw[aL];decide),Zh (by rw[aL];decide),Zr (by simp[aL,bb])]at Z
 have gc:decide (x.kind=5)=false:=by simp[aL]
 have cQ:decide (x.kind=2)=false:=by simp[aL]
 have c3:decide (x.kind=1)=false:=by simp[aL]
 have eZ:decide (x.kind=3)=false:=by simp[aL]
 have h3:decide (x.kind=6)=true:=by simp[aL]
 have m6:decide (x.text=[40])=true:=by simp[bb]
 refine eu (bR fI) @ih @gc @cQ @c3 @eZ (Za @h3 (Za @m6 cb.eq_1)) ⟨?_⟩
 rw[<-jW]at Z
 rcases gx Z with ⟨K,bK,rfl⟩|⟨pN,gM,bK,Z⟩
 ·exact((am n Zo).arrow aR _ _ _ fT bK).mono (λae U ar a=>by obtain⟨I,cB,a,_⟩:=a;cases a) (λae U ar a=>a.of dz (λ_ a=>by cases a;rfl))
 refine((am n Zo).arrow aR _ _ _ fT bK).mono ?_ (λae U ar a=>by obtain⟨K,a,_⟩:=a;cases a)
 rintro v5 bS cj ⟨Ly,i5,sq,dF,ho,dG⟩
 cases sq
 have il:=dG.le
 have ov:=fT.go ho il
 have qs:=dz.trans dG
 refine cS ⟨?_⟩
 refine fk (λb4=>ab X b4 cj=zs [.str [41]] 1/\bh X bS cj b4 (cj+1)) ⟨bi Zo,dR⟩ ?_
 rintro b4 ⟨Iq,dV⟩
 have mv:=ov.go (ho.ex dV Zo Zo) (by omega:cj<=cj+1)
 have eD:=qs.trans (cf.of dV)
 rcases gx Z with ⟨K,dP,rfl⟩|⟨ww,mr,dP,Z⟩
 ·exact(jw az mv Zo Zo Iq dP).mono (λae U ar a=>by obtain⟨I,cB,a,_⟩:=a;cases a) (λae U ar a=>a.of eD (λ_ a=>by cases a;rfl))
 refine(jw az mv Zo Zo Iq dP).mono ?_ (λae U ar a=>by obtain⟨K,a,_⟩:=a;cases a)
 rintro KJ cu e1 ⟨ayW,o9,yL,_,hR,ev⟩
 cases yL
 have nE:=ev.le
 simp only[ok,Zf]at Z
 subst Z
 refine bL _ _ _ ⟨v5,bp,_,o9,rfl,cR.ex dF (λe T W=>by rw[ev.ad e Zo (by simp;omega),dV.ad e Zo]) Zo Zo,hR,eD.trans ev⟩
end
section
variable{X:co}{h U a6 aR:V an}{j ar aJ bc aK bN:Nat}{aY:List Tok}{i:Nat}
def avz(az:dx X){n:Nat}(am:∀m,m<n+1->q2 X aK bN aY m){r:Except Int (bG×List Tok)}(aA:iF X h j aK bN aY i){x:Tok}{l:List Tok}(aO:aY.drop i=x::l)(aL:x.kind=2)(bb:x.text=[109,101,114,103,101])(Z:Go.aZ.part (n+1) (x::l)=some r):
 aW X 261 [.ptr aK 0] h j (jN X aK bN aY h j r) (iT X aK h j r):=by
 refine zv az (AD X) ?_
 rw[AE]
 unfold x8
 have gP:=aA.ba
 have ke:=aA.hB
 have hc:=aA.ei
 have jD:=aA.g4
 obtain⟨ah,jW⟩:=fP aO
 unfold Go.aZ.part at Z
 refine(rE az aA.ba aA.par aA.hB aA.g4 ah).Zm ?_
 rintro ae a6 aJ ⟨rfl,bT⟩
 have jF:=bT.le
 have ey:=aA.par.ex bT Zo Zo
 obtain⟨c,av,bf,ck,a3,a4⟩:=ey.at_
 have bY:=j1 bf a3
 have ls:=(Zc.1 ah).1
 have vf:=aA.many
 have dT:=ey.ne
 have bH:=zt i
 refine hm cb.eq_1 @bY (Za @bH @bf) ⟨?_⟩
 generalize d2:bo X _ aK _=aR
 have fI:ab X aR aJ=zs (cb x) 7:=by rw[<-d2];simp(disch:=omega) only[aG,bi]<;>rfl
 have ih:ab X aR (aJ+1)=zs (g9 0 x.at_ [] false dU 0 .aU) 9:=by rw[<-d2];simp(disch:=omega) only[aG,bi]<;>rfl
 have dD:aZ X aR aK bN aY (i+1):=by
  refine ey.on (c:=d3 c 1 [.Z ((i+1:Nat):Int)]) ?_ (λee st a=>by rw[bf]at a;cases a;exact q0 ..) ?_
  ·rw[<-d2];simp(disch:=omega) only[aG,bi];rfl
  ·rw[<-d2];simp(disch:=omega) only[aG]
 have dz:cf X [aK] h j aR (aJ+2):=by
  refine⟨Zo,λb ai bW=> ?_⟩
  rw[<-bT.ad b ai, <-d2]
  simp only[Zq,ZG,YU,Yr,ZF,Ye]at bW
  simp(disch:=omega) only[aG]
 clear d2 bY bf ck a3 a4 ey bT
 have tw:∃dZ,ab X aR aK=some (.cells dZ 2 .own)/\al X aR (.ptr aK 1)=some (.Z ((i+1:Nat):Int)):=by
  obtain⟨c,av,cT,dL,et,ig⟩:=dD.at_
  exact⟨c,cT,j1 cT et⟩
 have fT:=aA.go dD (by omega:j<=aJ+1+1)
 refine j0 (λM U aV=>∃v,M.g 4=some v/\jN X aK bN aY h j r v U aV) (λaa bL=> ?_) (by
  rintro M U aV ⟨v,t4,a⟩
  refine ce @t4 ⟨?_⟩
  exact a)
 rw[Zh (by rw[aL];decide),Zh (by simp[aL,bb]),Zh (by rw[aL];decide),Zh (by rw[aL];decide),Zh (by simp[aL]),Zh (by simp[aL,bb]),Zr (by simp[aL,bb])]at Z
 have gc:decide (x.kind=5)=false:=by simp[aL]
 have cQ:decide (x.kind=2)=true:=by simp[aL]
 have c3:decide (x.kind=1)=false:=by simp[aL]
 have eZ:decide (x.kind=3)=false:=by simp[aL]
 have h3:decide (x.kind=6)=false:=by simp[aL]
 have cL:decide (x.text=[116,114,117,101])=false:=by simp[bb]
 have cC:decide (x.text=[102,97,108,115,101])=false:=by simp[bb]
 have d6:decide (x.text=[105,102])=false:=by simp[bb]
 have fU:decide (x.text=[109,101,114,103,101])=true:=by simp[bb]
 refine eu (bR fI) @ih @gc @cQ @c3 @eZ (Za @h3 (Za @cL (Za @cC (Za @d6 (Za @fU cb.eq_1))))) ⟨?_⟩
 rw[<-jW]at Z
 cases C8:aY.drop (i+1)with
 |nil=>rw[C8]at Z;simp[iO,andThen]at Z
 |cons c g2=>
 rw[C8]at Z
 simp only[iO]at Z
 refine(BW az fT.ba fT.par fT.ei fT.hB fT.g4 fT.many (fP C8).1 1).mono ?_ ?_
 ·rintro Ex bw db ⟨gg,rfl,hn,eI⟩
  have jd:=eI.le
  rw[Zr gg]at Z
  simp only[andThen,ok]at Z
  rw[<-(fP C8).2]at Z
  have Im:ab X bw (aJ+1)=zs (g9 0 x.at_ [] false dU 0 .aU) 9:=by rw[eI.ad _ Zo (by simp;omega)];exact ih
  have yD:=dz.trans eI
  refine c1 cb.eq_1 @Im ⟨?_⟩
  refine fk (λa7=>ab X a7 (aJ+1)=zs (g9 24 x.at_ c.text false dU 0 .aU) 9/\aZ X a7 aK bN aY (i+1+1)/\cf X [aK] h j a7 db) ⟨?_, ?_, ?_⟩ ?_
  ·simp(disch:=omega) only[aG,bi]<;>rfl
  ·exact hn.ad (zu) (zu)
  ·exact⟨Zo,λb ai bW=>by rw[<-yD.ad b ai bW];exact zu⟩
  clear Im hn eI yD ih tw dD fT dz fI
  rintro a7 ⟨ih,gL,ej⟩
  have ng:=aA.go gL (by omega:j<=db)
  cases Dk:Go.aZ.part n (aY.drop (i+1+1))with
  |none=>rw[Dk]at Z;cases Z
  |some aer=>
  rw[Dk]at Z
  refine((am n Zo).part a7 _ _ _ ng Dk).mono ?_ ?_
  ·rintro v5 bS cj ⟨pN,i5,rfl,dF,ho,dG⟩
   simp only[]at Z
   have il:=dG.le
   have ov:=ng.go ho il
   have qs:=ej.trans dG
   cases Dl:Go.aZ.part n (aY.drop i5)with
   |none=>rw[Dl]at Z;cases Z
   |some Kq=>
   rw[Dl]at Z
   refine((am n Zo).part bS _ _ _ ov Dl).mono ?_ ?_
   ·rintro Ar b4 dH ⟨H8,h9,rfl,dV,hH,eD⟩
    simp only[Zf]at Z
    subst Z
    have pY:=eD.le
    obtain⟨lC,rfl,ru,_⟩:=dF.ptr
    obtain⟨xL,rfl,Jn,_⟩:=dV.ptr
    have sg:ab X b4 (aJ+1)=zs (g9 24 x.at_ c.text false dU 0 .aU) 9:=by rw[eD.ad _ Zo (by simp;omega),dG.ad _ Zo (by simp;omega)];exact ih
    refine ce @sg ⟨?_⟩
    refine bL _ _ _ ⟨.ptr (aJ+1) 0,bp,_,h9,rfl,cR.lit (F:=2) (cap:=2) (b:=aJ+1) (m:=9) (st:= .own) (i1:= .own) (cD:=dH) (bj:=[.ptr lC 0, .ptr xL 0]) ?_ ⟨Zo,Zo⟩ ?_ ⟨Zo,Zo⟩ rfl Zo Zo (dB.two (cR.ad (λe H=> ?_) _ _ dF) (cR.ad (λe H=> ?_) _ _ dV) (λe H=> ?_) (λe H=> ?_)),hH.ad (zu) (zu), ?_⟩
    ·simp(disch:=omega) only[aG,bi]<;>rfl
    ·simp(disch:=omega) only[aG,bi]<;>rfl
    ·have T:=H.1;have W:=H.2
     simp(disch:=omega) only[aG]
     exact eD.ad e Zo (by simp;omega)
    ·have T:=H.1;have W:=H.2
     simp(disch:=omega) only[aG]
    ·simp only[cW]at H ⊢;omega
    ·simp only[cW]at H ⊢;omega
    ·exact⟨Zo,λb ai bW=>by rw[<-(qs.trans eD).ad b ai bW];exact zu⟩
   ·rintro Ar b4 dH ⟨K,rfl,rfl,eD⟩
    simp only[Zf]at Z
    subst Z
    exact⟨K,rfl,rfl,qs.trans eD⟩
  ·rintro v5 bS cj ⟨K,rfl,rfl,dG⟩
   simp only[Zf]at Z
   subst Z
   exact⟨K,rfl,rfl,ej.trans dG⟩
 ·rintro Ex bw db ⟨gg,rfl,eI⟩
  rw[Zh gg]at Z
  simp only[andThen,bad,Zf]at Z
  subst Z
  exact⟨_,rfl,rfl,dz.trans eI⟩
end
section
variable{X:co}{h U a6 aR:V an}{j ar aJ bc aK bN:Nat}{aY:List Tok}{i:Nat}
def Ta(az:dx X){n:Nat}{r:Except Int (bG×List Tok)}(aA:iF X h j aK bN aY i){x:Tok}{l:List Tok}(aO:aY.drop i=x::l)(er:x.kind≠5)(bY:x.kind≠1)(c7:x.kind≠3)(dK:x.kind=6->x.text≠[40])(cx:x.kind=2->x.text≠[116,114,117,101]/\x.text≠[102,97,108,115,101]/\x.text≠[105,102]/\x.text≠[109,101,114,103,101])(Z:Go.aZ.part (n+1) (x::l)=some r):
 aW X 261 [.ptr aK 0] h j (jN X aK bN aY h j r) (iT X aK h j r):=by
 refine zv az (AD X) ?_
 rw[AE]
 unfold x8
 have gP:=aA.ba
 have ke:=aA.hB
 have hc:=aA.ei
 have jD:=aA.g4
 obtain⟨ah,jW⟩:=fP aO
 unfold Go.aZ.part at Z
 refine(rE az aA.ba aA.par aA.hB aA.g4 ah).Zm ?_
 rintro ae a6 aJ ⟨rfl,bT⟩
 have jF:=bT.le
 have ey:=aA.par.ex bT Zo Zo
 obtain⟨c,av,bf,ck,a3,a4⟩:=ey.at_
 have bY:=j1 bf a3
 have ls:=(Zc.1 ah).1
 have vf:=aA.many
 have dT:=ey.ne
 have bH:=zt i
 refine hm cb.eq_1 @bY (Za @bH @bf) ⟨?_⟩
 generalize d2:bo X _ aK _=aR
 have fI:ab X aR aJ=zs (cb x) 7:=by rw[<-d2];simp(disch:=omega) only[aG,bi]<;>rfl
 have ih:ab X aR (aJ+1)=zs (g9 0 x.at_ [] false dU 0 .aU) 9:=by rw[<-d2];simp(disch:=omega) only[aG,bi]<;>rfl
 have dD:aZ X aR aK bN aY (i+1):=by
  refine ey.on (c:=d3 c 1 [.Z ((i+1:Nat):Int)]) ?_ (λee st a=>by rw[bf]at a;cases a;exact q0 ..) ?_
  ·rw[<-d2];simp(disch:=omega) only[aG,bi];rfl
  ·rw[<-d2];simp(disch:=omega) only[aG]
 have dz:cf X [aK] h j aR (aJ+2):=by
  refine⟨Zo,λb ai bW=> ?_⟩
  rw[<-bT.ad b ai, <-d2]
  simp only[Zq,ZG,YU,Yr,ZF,Ye]at bW
  simp(disch:=omega) only[aG]
 clear d2 bY bf ck a3 a4 ey bT
 have tw:∃dZ,ab X aR aK=some (.cells dZ 2 .own)/\al X aR (.ptr aK 1)=some (.Z ((i+1:Nat):Int)):=by
  obtain⟨c,av,cT,dL,et,ig⟩:=dD.at_
  exact⟨c,cT,j1 cT et⟩
 have fT:=aA.go dD (by omega:j<=aJ+1+1)
 refine j0 (λM U aV=>∃v,M.g 4=some v/\jN X aK bN aY h j r v U aV) (λaa bL=> ?_) (by
  rintro M U aV ⟨v,t4,a⟩
  refine ce @t4 ⟨?_⟩
  exact a)
 have Jp:r= .error x.at_:=by
  by_cases W:x.kind=2
  ·obtain⟨fJ,hp,uc,B1⟩:=cx W
   have cr:¬x.kind=6:=Zo
   rw[Zh er,Zh (by simp[fJ,hp]),Zh bY,Zh c7,Zh (by simp[cr]),Zh (by simp[uc]),Zh (by simp[B1])]at Z
   simp only[bad,Zf]at Z
   exact Z.symm
  ·by_cases cr:x.kind=6
   ·rw[Zh er,Zh (by simp[W]),Zh bY,Zh c7,Zh (by simp[dK cr]),Zh (by simp[W]),Zh (by simp[W])]at Z
    simp only[bad,Zf]at Z
    exact Z.symm
   ·rw[Zh er,Zh (by simp[W]),Zh bY,Zh c7,Zh (by simp[cr]),Zh (by simp[W]),Zh (by simp[W])]at Z
    simp only[bad,Zf]at Z
    exact Z.symm
 subst Jp
 have gc:decide (x.kind=5)=false:=by simp[er]
 have c3:decide (x.kind=1)=false:=by simp[bY]
 have eZ:decide (x.kind=3)=false:=by simp[c7]
 obtain⟨dZ,Qr,Qs⟩:=tw
 have cP:aC .sub (.Z ((i+1:Nat):Int)) (.Z 1)=some (.Z (((i+1:Nat):Int) -1)):=by rw[BA Zo Zo]
 have fin:∀(a7:V an) (ak:bJ),(∀b,b<j->b∉[aK]->ab X a7 b=ab X aR b)->aW X 206 [.agg (cb x)] a7 (aJ+1+1) ak (iT X aK h j (Except.error x.at_:Except Int (bG×List Tok))):=by
  intro a7 ak au
  refine(Ig az Zo x _ ?_).mono (λ_ _ _ a=>a.elim) (λ_ _ _ a=>a)
  intro U ar bX
  have Jb:=bX.le
  exact⟨_,rfl,rfl,Zo,λb ai bW=>by rw[bX.ad b Zo,au b ai bW];exact dz.ad b ai bW⟩
 by_cases W:x.kind=2
 ·obtain⟨fJ,hp,uc,B1⟩:=cx W
  have cQ:decide (x.kind=2)=true:=by simp[W]
  have h3:decide (x.kind=6)=false:=by simp[W]
  have cL:decide (x.text=[116,114,117,101])=false:=by simp[fJ]
  have cC:decide (x.text=[102,97,108,115,101])=false:=by simp[hp]
  have d6:decide (x.text=[105,102])=false:=by simp[uc]
  have fU:decide (x.text=[109,101,114,103,101])=false:=by simp[B1]
  refine eu (bR fI) @ih @gc @cQ @c3 @eZ (Za @h3 (Za @cL (Za @cC (Za @d6 (Za @fU (Za cb.eq_1 (Za @Qr (Za @Qs @cP)))))))) ⟨?_⟩
  refine fin _ _ (λb ai bW=> ?_)
  simp only[Zq,ZG,YU,Yr,ZF,Ye]at bW
  simp(disch:=omega) only[aG]
 ·have cQ:decide (x.kind=2)=false:=by simp[W]
  by_cases cr:x.kind=6
  ·have h3:decide (x.kind=6)=true:=by simp[cr]
   have cL:decide (x.text=[40])=false:=by simp[dK cr]
   refine eu (bR fI) @ih @gc @cQ @c3 @eZ (Za @h3 (Za @cL (Za cb.eq_1 (Za @Qr (Za @Qs @cP))))) ⟨?_⟩
   refine fin _ _ (λb ai bW=> ?_)
   simp only[Zq,ZG,YU,Yr,ZF,Ye]at bW
   simp(disch:=omega) only[aG]
  ·have h3:decide (x.kind=6)=false:=by simp[cr]
   refine eu (bR fI) @ih @gc @cQ @c3 @eZ (Za @h3 (Za cb.eq_1 (Za @Qr (Za @Qs @cP)))) ⟨?_⟩
   refine fin _ _ (λb ai bW=> ?_)
   simp only[Zq,ZG,YU,Yr,ZF,Ye]at bW
   simp(disch:=omega) only[aG]
end
section
variable{X:co}{h U a6 aR:V an}{j ar aJ bc aK bN:Nat}{aY:List Tok}{i:Nat}
def cf.j3{X:co}{aK:Nat}{h U:V an}{j ar n:Nat}(a:cf X [aK] h j U ar)(F:ar<=n):cf X [aK] h j U n:=⟨Zz a.le F,a.ad⟩
def kC.one{C:a2}{h:V an}{s:J}{br:Nat}{l:List J}{cM:List Nat}(a:kC C h s br l cM):s.cells=[s]/\p7 s=true/\J.same 30 s s=true:=by
 rcases a with ⟨rfl,_⟩|⟨b,fz,n,c,rfl,_⟩
 ·exact⟨rfl,rfl,rfl⟩
 ·exact⟨rfl,rfl,by simp[J.same]⟩
def avx(az:dx X){n:Nat}(am:∀m,m<n+1->q2 X aK bN aY m){r:Except Int (bG×List Tok)}(aA:iF X h j aK bN aY i){x:Tok}{l:List Tok}(aO:aY.drop i=x::l)(aL:x.kind=2)(bb:x.text=[105,102])(Z:Go.aZ.part (n+1) (x::l)=some r):
 aW X 261 [.ptr aK 0] h j (jN X aK bN aY h j r) (iT X aK h j r):=by
 refine zv az (AD X) ?_
 rw[AE]
 unfold x8
 have gP:=aA.ba
 have ke:=aA.hB
 have hc:=aA.ei
 have jD:=aA.g4
 obtain⟨ah,jW⟩:=fP aO
 unfold Go.aZ.part at Z
 refine(rE az aA.ba aA.par aA.hB aA.g4 ah).Zm ?_
 rintro ae a6 aJ ⟨rfl,bT⟩
 have jF:=bT.le
 have ey:=aA.par.ex bT Zo Zo
 obtain⟨c,av,bf,ck,a3,a4⟩:=ey.at_
 have bY:=j1 bf a3
 have ls:=(Zc.1 ah).1
 have vf:=aA.many
 have dT:=ey.ne
 have bH:=zt i
 refine hm cb.eq_1 @bY (Za @bH @bf) ⟨?_⟩
 generalize d2:bo X _ aK _=aR
 have fI:ab X aR aJ=zs (cb x) 7:=by rw[<-d2];simp(disch:=omega) only[aG,bi]<;>rfl
 have ih:ab X aR (aJ+1)=zs (g9 0 x.at_ [] false dU 0 .aU) 9:=by rw[<-d2];simp(disch:=omega) only[aG,bi]<;>rfl
 have dD:aZ X aR aK bN aY (i+1):=by
  refine ey.on (c:=d3 c 1 [.Z ((i+1:Nat):Int)]) ?_ (λee st a=>by rw[bf]at a;cases a;exact q0 ..) ?_
  ·rw[<-d2];simp(disch:=omega) only[aG,bi];rfl
  ·rw[<-d2];simp(disch:=omega) only[aG]
 have dz:cf X [aK] h j aR (aJ+2):=by
  refine⟨Zo,λb ai bW=> ?_⟩
  rw[<-bT.ad b ai, <-d2]
  simp only[Zq,ZG,YU,Yr,ZF,Ye]at bW
  simp(disch:=omega) only[aG]
 clear d2 bY bf ck a3 a4 ey bT
 have tw:∃dZ,ab X aR aK=some (.cells dZ 2 .own)/\al X aR (.ptr aK 1)=some (.Z ((i+1:Nat):Int)):=by
  obtain⟨c,av,cT,dL,et,ig⟩:=dD.at_
  exact⟨c,cT,j1 cT et⟩
 have fT:=aA.go dD (by omega:j<=aJ+1+1)
 refine j0 (λM U aV=>∃v,M.g 4=some v/\jN X aK bN aY h j r v U aV) (λaa bL=> ?_) (by
  rintro M U aV ⟨v,t4,a⟩
  refine ce @t4 ⟨?_⟩
  exact a)
 rw[Zh (by rw[aL];decide),Zh (by simp[aL,bb]),Zh (by rw[aL];decide),Zh (by rw[aL];decide),Zh (by simp[aL]),Zr (by simp[aL,bb])]at Z
 have gc:decide (x.kind=5)=false:=by simp[aL]
 have cQ:decide (x.kind=2)=true:=by simp[aL]
 have c3:decide (x.kind=1)=false:=by simp[aL]
 have eZ:decide (x.kind=3)=false:=by simp[aL]
 have h3:decide (x.kind=6)=false:=by simp[aL]
 have cL:decide (x.text=[116,114,117,101])=false:=by simp[bb]
 have cC:decide (x.text=[102,97,108,115,101])=false:=by simp[bb]
 have d6:decide (x.text=[105,102])=true:=by simp[bb]
 refine eu (bR fI) @ih @gc @cQ @c3 @eZ (Za @h3 (Za @cL (Za @cC (Za @d6 (Za cb.eq_1 g9.eq_1))))) ⟨?_⟩
 rw[<-jW]at Z
 refine fk (λa7=>ab X a7 (aJ+1)=zs (g9 23 x.at_ [] false dU 0 .aU) 9/\aZ X a7 aK bN aY (i+1)/\cf X [aK] h j a7 (aJ+1+1)) ⟨?_, ?_, ?_⟩ ?_
 ·simp(disch:=omega) only[aG,bi]<;>rfl
 ·exact dD.ad (zu) (zu)
 ·exact⟨Zo,λb ai bW=>by rw[<-dz.ad b ai bW];exact zu⟩
 clear dD fT dz fI ih tw
 rintro HE ⟨μ,abS,QL⟩
 have ab7:gC X HE .aU 1 [] []:= .inl (.inl ⟨rfl,rfl,rfl⟩)
 have uY:∀e∈([]:List Nat),aJ+2<=e/\e<aJ+1+1:=by simp
 have aa6:dB X HE (vW (aJ+2) (aJ+1+1) []) [] []:= .nil
 have arB:J.same 30 .aU .aU=true:=rfl
 have aec:=aA.go abS (by omega:j<=(aJ+1+1)+12)
 rcases gx Z with ⟨K,bK,rfl⟩|⟨H9,gM,bK,Z⟩
 ·exact((am n Zo).arrow HE _ _ _ aec bK).mono (λae U ar a=>by obtain⟨I,cB,a,_⟩:=a;cases a) (λae U ar a=>a.of (cf.j3 QL Zo) (λ_ a=>by cases a;rfl))
 refine((am n Zo).arrow HE _ _ _ aec bK).mono ?_ (λae U ar a=>by obtain⟨K,a,_⟩:=a;cases a)
 clear bK
 rintro v5 bS cj ⟨Ly,aAV,sq,dF,ho,dG⟩
 cases sq
 have il:=dG.le
 have qs:=(cf.j3 QL (by omega:(aJ+1+1)<=(aJ+1+1)+12)).trans dG
 obtain⟨vU,rfl,ru,_⟩:=dF.ptr
 have ru:=ru.2
 have rl:ab X bS (aJ+1)=zs (g9 23 x.at_ [] false dU 0 J.aU) 9:=by rw[dG.ad _ Zo (by simp;omega)];exact μ
 have pe:∀e,aJ+2<=e->e<(aJ+1+1)->ab X bS e=ab X HE e:=λe T W=>dG.ad e Zo (by simp;omega)
 have o7:=ab7.ad (U:=bS) (λe H=>pe e (uY e H).1 (uY e H).2)
 have u2:=dB.ad (U:=bS) (λe H=>pe e H.1 H.2.1) _ _ aa6
 clear pe
 refine c1 (bR rl) g9.eq_1 ⟨?_⟩
 refine gs arB ?_
 have ki:lh X (bo X bS ((aJ+1+1)+7) (zs [.ptr vU 0] 1)) 1 (.slice ((aJ+1+1)+7) 0 1 1)=some (1,[.ptr vU 0]):=s2 (bi Zo) (og _) rfl _
 obtain⟨Kv,b4,EY,iv,sC,pU,m8⟩:=(o7.ad (U:=bo X bS ((aJ+1+1)+7) (zs [.ptr vU 0] 1)) (λe H=>aG Zo (zo (uY e H).2))).append (j:=cj) Zd ki rfl Zd rfl Zs Zo (λe H=>zo (uY e H).2)
 refine ky iv ?_
 have dK:∀e,e<cj->e∉([]:List Nat)->e≠(aJ+1+1)+7->ab X b4 e=ab X bS e:=λe T W au=>by
  rw[m8 e Zo W,aG Zo au]
 have sg:ab X b4 (aJ+1)=zs (g9 23 x.at_ [] false dU 0 J.aU) 9:=by
  rw[dK _ Zo (λa=>zo (uY _ a)) Zo];exact rl
 obtain⟨qA,Bj,arC⟩:=kC.one sC
 refine cS ⟨?_⟩
 refine fS (rK sg Zo Zo qA Bj) ?_
 have qu:∀e∈EY,aJ+2<=e/\e<cj+1:=by
  intro e H
  rcases pU e H with rfl|H
  ·omega
  ·have:=uY e H;omega
 have Dd:dB X b4 (vW (aJ+2) (cj+1) EY) ([]++[H9]) ([]++[.ptr vU 0]):=by
  refine dB.snoc (cR.ad (λe H=> ?_) _ _ dF) (dB.ad (λe H=> ?_) _ _ u2) (λe H=>⟨H.1,zo H.2.1,λgh=> ?_⟩) (λe H=>⟨⟨zo H.1,zo H.2,λgh=> ?_⟩,λo8=>by have:=H.1;have:=o8.2.1;omega⟩)
  ·have T:=H.1
   exact dK e H.2 (λgh=>zo (uY e gh)) Zo
  ·have W:=H.2.1
   exact dK e Zo H.2.2 Zo
  ·have W:=H.2.1
   rcases pU e gh with rfl|gh
   ·omega
   ·exact H.2.2 gh
  ·have T:=H.1;have W:=H.2
   rcases pU e gh with rfl|gh
   ·omega
   ·have:=uY e gh;omega
 have eD:cf X [aK] h j b4 (cj+1):=⟨Zo,λb ai bW=>by
  rw[dK b Zo (λI=>zo (uY _ I)) Zo];exact qs.ad b ai bW⟩
 have hH:=ho.ad (dK aK Zo (λI=>zo (uY _ I)) Zo) (dK bN Zo (λI=>zo (uY _ I)) Zo)
 clear u2 dF ho dG qs rl o7 ki iv m8 pU qA Bj aa6 μ ab7 abS QL
 refine cS ⟨?_⟩
 refine fk (λcu=>ab X cu (cj+1)=zs [.str [116,104,101,110]] 1/\ab X cu (aJ+1)=zs (g9 23 x.at_ [] false dU 0 Kv) 9/\(∀e,e<cj+1->e≠aJ+1->ab X cu e=ab X b4 e)) ⟨bi Zo, ?_, ?_⟩ ?_
 ·simp(disch:=omega) only[aG,bi]<;>rfl
 ·intro e T W
  simp(disch:=omega) only[aG]
 clear sg
 rintro cu ⟨CS,In,fR⟩
 have hR:=hH.ad (fR aK Zo Zo) (fR bN Zo Zo)
 have nh:=aA.go hR (by omega:j<=cj+1+1)
 have ev:cf X [aK] h j cu (cj+1+1):=⟨Zo,λb ai bW=>by rw[fR b Zo Zo];exact eD.ad b ai bW⟩
 rcases gx Z with ⟨K,fi,rfl⟩|⟨At,oh,fi,Z⟩
 ·exact(jw az nh Zo Zo CS fi).mono (λae U ar a=>by obtain⟨I,cB,a,_⟩:=a;cases a) (λae U ar a=>a.of ev (λ_ a=>by cases a;rfl))
 refine(jw az nh Zo Zo CS fi).mono ?_ (λae U ar a=>by obtain⟨K,a,_⟩:=a;cases a)
 clear fi
 rintro Hl us xA ⟨ayX,aAT,Db,_,abT,gJ⟩
 cases Db
 have az6:=gJ.le
 have QM:=ev.trans gJ
 have Qk:ab X us (aJ+1)=zs (g9 23 x.at_ [] false dU 0 Kv) 9:=by rw[gJ.ad _ Zo (by simp;omega)];exact In
 have eE:∀e,aJ+2<=e->e<cj+1->ab X us e=ab X b4 e:=λe T W=>by
  rw[gJ.ad e Zo (by simp;omega),fR e W Zo]
 have ab8:gC X us Kv 1 ([]++[.ptr vU 0]) EY:= .inl (sC.ad (λe H=>eE e (qu e H).1 (qu e H).2))
 have aa7:dB X us (vW (aJ+2) xA EY) ([]++[H9]) ([]++[.ptr vU 0]):=
  dB.lift (λe H=>⟨H.1,zo H.2.1,H.2.2⟩) _ _ (dB.ad (λe H=>eE e H.1 H.2.1) _ _ Dd)
 have qu:∀e∈EY,aJ+2<=e/\e<xA:=λe H=>zo (qu e H)
 clear Dd sC hH eD hR nh ev gJ CS In fR dK eE
 refine c1 (bR Qk) g9.eq_1 ⟨?_⟩
 have aed:=aA.go abT (by omega:j<=xA+12)
 rcases gx Z with ⟨K,bK,rfl⟩|⟨PS,gM,bK,Z⟩
 ·exact((am n Zo).arrow us _ _ _ aed bK).mono (λae U ar a=>by obtain⟨I,cB,a,_⟩:=a;cases a) (λae U ar a=>a.of (cf.j3 QM Zo) (λ_ a=>by cases a;rfl))
 refine((am n Zo).arrow us _ _ _ aed bK).mono ?_ (λae U ar a=>by obtain⟨K,a,_⟩:=a;cases a)
 clear bK
 rintro v5 bS cj ⟨Ly,aAW,sq,dF,ho,dG⟩
 cases sq
 have il:=dG.le
 have qs:=(cf.j3 QM (by omega:xA<=xA+12)).trans dG
 obtain⟨B8,rfl,ru,_⟩:=dF.ptr
 have ru:=ru.2
 have rl:ab X bS (aJ+1)=zs (g9 23 x.at_ [] false dU 0 Kv) 9:=by rw[dG.ad _ Zo (by simp;omega)];exact Qk
 have pe:∀e,aJ+2<=e->e<xA->ab X bS e=ab X us e:=λe T W=>dG.ad e Zo (by simp;omega)
 have o7:=ab8.ad (U:=bS) (λe H=>pe e (qu e H).1 (qu e H).2)
 have u2:=dB.ad (U:=bS) (λe H=>pe e H.1 H.2.1) _ _ aa7
 clear pe
 refine c1 (bR rl) g9.eq_1 ⟨?_⟩
 refine gs arC ?_
 have ki:lh X (bo X bS (xA+7) (zs [.ptr B8 0] 1)) 1 (.slice (xA+7) 0 1 1)=some (1,[.ptr B8 0]):=s2 (bi Zo) (og _) rfl _
 obtain⟨Eh,b4,EZ,iv,sC,pU,m8⟩:=(o7.ad (U:=bo X bS (xA+7) (zs [.ptr B8 0] 1)) (λe H=>aG Zo (zo (qu e H).2))).append (j:=cj) Zd ki rfl Zd rfl Zs Zo (λe H=>zo (qu e H).2)
 refine ky iv ?_
 have dK:∀e,e<cj->e∉EY->e≠xA+7->ab X b4 e=ab X bS e:=λe T W au=>by
  rw[m8 e Zo W,aG Zo au]
 have sg:ab X b4 (aJ+1)=zs (g9 23 x.at_ [] false dU 0 Kv) 9:=by
  rw[dK _ Zo (λa=>zo (qu _ a)) Zo];exact rl
 obtain⟨qA,Bj,arD⟩:=kC.one sC
 refine cS ⟨?_⟩
 refine fS (rK sg Zo Zo qA Bj) ?_
 have qv:∀e∈EZ,aJ+2<=e/\e<cj+1:=by
  intro e H
  rcases pU e H with rfl|H
  ·omega
  ·have:=qu e H;omega
 have Dd:dB X b4 (vW (aJ+2) (cj+1) EZ) (([]++[H9])++[PS]) (([]++[.ptr vU 0])++[.ptr B8 0]):=by
  refine dB.snoc (cR.ad (λe H=> ?_) _ _ dF) (dB.ad (λe H=> ?_) _ _ u2) (λe H=>⟨H.1,zo H.2.1,λgh=> ?_⟩) (λe H=>⟨⟨zo H.1,zo H.2,λgh=> ?_⟩,λo8=>by have:=H.1;have:=o8.2.1;omega⟩)
  ·have T:=H.1
   exact dK e H.2 (λgh=>zo (qu e gh)) Zo
  ·have W:=H.2.1
   exact dK e Zo H.2.2 Zo
  ·have W:=H.2.1
   rcases pU e gh with rfl|gh
   ·omega
   ·exact H.2.2 gh
  ·have T:=H.1;have W:=H.2
   rcases pU e gh with rfl|gh
   ·omega
   ·have:=qu e gh;omega
 have eD:cf X [aK] h j b4 (cj+1):=⟨Zo,λb ai bW=>by
  rw[dK b Zo (λI=>zo (qu _ I)) Zo];exact qs.ad b ai bW⟩
 have hH:=ho.ad (dK aK Zo (λI=>zo (qu _ I)) Zo) (dK bN Zo (λI=>zo (qu _ I)) Zo)
 clear u2 dF ho dG qs rl o7 ki iv m8 pU qA Bj aa7 Qk ab8 abT QM
 refine cS ⟨?_⟩
 refine fk (λcu=>ab X cu (cj+1)=zs [.str [101,108,115,101]] 1/\ab X cu (aJ+1)=zs (g9 23 x.at_ [] false dU 0 Eh) 9/\(∀e,e<cj+1->e≠aJ+1->ab X cu e=ab X b4 e)) ⟨bi Zo, ?_, ?_⟩ ?_
 ·simp(disch:=omega) only[aG,bi]<;>rfl
 ·intro e T W
  simp(disch:=omega) only[aG]
 clear sg
 rintro cu ⟨CS,In,fR⟩
 have hR:=hH.ad (fR aK Zo Zo) (fR bN Zo Zo)
 have nh:=aA.go hR (by omega:j<=cj+1+1)
 have ev:cf X [aK] h j cu (cj+1+1):=⟨Zo,λb ai bW=>by rw[fR b Zo Zo];exact eD.ad b ai bW⟩
 rcases gx Z with ⟨K,fi,rfl⟩|⟨At,oh,fi,Z⟩
 ·exact(jw az nh Zo Zo CS fi).mono (λae U ar a=>by obtain⟨I,cB,a,_⟩:=a;cases a) (λae U ar a=>a.of ev (λ_ a=>by cases a;rfl))
 refine(jw az nh Zo Zo CS fi).mono ?_ (λae U ar a=>by obtain⟨K,a,_⟩:=a;cases a)
 clear fi
 rintro Hl Cs xB ⟨ayX,aAU,Db,_,abU,gJ⟩
 cases Db
 have az7:=gJ.le
 have QN:=ev.trans gJ
 have Ql:ab X Cs (aJ+1)=zs (g9 23 x.at_ [] false dU 0 Eh) 9:=by rw[gJ.ad _ Zo (by simp;omega)];exact In
 have eE:∀e,aJ+2<=e->e<cj+1->ab X Cs e=ab X b4 e:=λe T W=>by
  rw[gJ.ad e Zo (by simp;omega),fR e W Zo]
 have ab9:gC X Cs Eh 1 (([]++[.ptr vU 0])++[.ptr B8 0]) EZ:= .inl (sC.ad (λe H=>eE e (qv e H).1 (qv e H).2))
 have aa8:dB X Cs (vW (aJ+2) xB EZ) (([]++[H9])++[PS]) (([]++[.ptr vU 0])++[.ptr B8 0]):=
  dB.lift (λe H=>⟨H.1,zo H.2.1,H.2.2⟩) _ _ (dB.ad (λe H=>eE e H.1 H.2.1) _ _ Dd)
 have qv:∀e∈EZ,aJ+2<=e/\e<xB:=λe H=>zo (qv e H)
 clear Dd sC hH eD hR nh ev gJ CS In fR dK eE
 refine c1 (bR Ql) g9.eq_1 ⟨?_⟩
 have aee:=aA.go abU (by omega:j<=xB+12)
 rcases gx Z with ⟨K,bK,rfl⟩|⟨al6,gM,bK,Z⟩
 ·exact((am n Zo).arrow Cs _ _ _ aee bK).mono (λae U ar a=>by obtain⟨I,cB,a,_⟩:=a;cases a) (λae U ar a=>a.of (cf.j3 QN Zo) (λ_ a=>by cases a;rfl))
 refine((am n Zo).arrow Cs _ _ _ aee bK).mono ?_ (λae U ar a=>by obtain⟨K,a,_⟩:=a;cases a)
 clear bK
 rintro v5 bS cj ⟨Ly,asm,sq,dF,ho,dG⟩
 cases sq
 have il:=dG.le
 have qs:=(cf.j3 QN (by omega:xB<=xB+12)).trans dG
 obtain⟨Kn,rfl,ru,_⟩:=dF.ptr
 have ru:=ru.2
 have rl:ab X bS (aJ+1)=zs (g9 23 x.at_ [] false dU 0 Eh) 9:=by rw[dG.ad _ Zo (by simp;omega)];exact Ql
 have pe:∀e,aJ+2<=e->e<xB->ab X bS e=ab X Cs e:=λe T W=>dG.ad e Zo (by simp;omega)
 have o7:=ab9.ad (U:=bS) (λe H=>pe e (qv e H).1 (qv e H).2)
 have u2:=dB.ad (U:=bS) (λe H=>pe e H.1 H.2.1) _ _ aa8
 clear pe
 refine c1 (bR rl) g9.eq_1 ⟨?_⟩
 refine gs arD ?_
 have ki:lh X (bo X bS (xB+7) (zs [.ptr Kn 0] 1)) 1 (.slice (xB+7) 0 1 1)=some (1,[.ptr Kn 0]):=s2 (bi Zo) (og _) rfl _
 obtain⟨Tu,b4,Pl,iv,sC,pU,m8⟩:=(o7.ad (U:=bo X bS (xB+7) (zs [.ptr Kn 0] 1)) (λe H=>aG Zo (zo (qv e H).2))).append (j:=cj) Zd ki rfl Zd rfl Zs Zo (λe H=>zo (qv e H).2)
 refine ky iv ?_
 have dK:∀e,e<cj->e∉EZ->e≠xB+7->ab X b4 e=ab X bS e:=λe T W au=>by
  rw[m8 e Zo W,aG Zo au]
 have sg:ab X b4 (aJ+1)=zs (g9 23 x.at_ [] false dU 0 Eh) 9:=by
  rw[dK _ Zo (λa=>zo (qv _ a)) Zo];exact rl
 obtain⟨qA,Bj,aAI⟩:=kC.one sC
 refine cS ⟨?_⟩
 refine fS (rK sg Zo Zo qA Bj) ?_
 have aaS:∀e∈Pl,aJ+2<=e/\e<cj+1:=by
  intro e H
  rcases pU e H with rfl|H
  ·omega
  ·have:=qv e H;omega
 have Dd:dB X b4 (vW (aJ+2) (cj+1) Pl) (([]++[H9]++[PS])++[al6]) (([]++[.ptr vU 0]++[.ptr B8 0])++[.ptr Kn 0]):=by
  refine dB.snoc (cR.ad (λe H=> ?_) _ _ dF) (dB.ad (λe H=> ?_) _ _ u2) (λe H=>⟨H.1,zo H.2.1,λgh=> ?_⟩) (λe H=>⟨⟨zo H.1,zo H.2,λgh=> ?_⟩,λo8=>by have:=H.1;have:=o8.2.1;omega⟩)
  ·have T:=H.1
   exact dK e H.2 (λgh=>zo (qv e gh)) Zo
  ·have W:=H.2.1
   exact dK e Zo H.2.2 Zo
  ·have W:=H.2.1
   rcases pU e gh with rfl|gh
   ·omega
   ·exact H.2.2 gh
  ·have T:=H.1;have W:=H.2
   rcases pU e gh with rfl|gh
   ·omega
   ·have:=qv e gh;omega
 have eD:cf X [aK] h j b4 (cj+1):=⟨Zo,λb ai bW=>by
  rw[dK b Zo (λI=>zo (qv _ I)) Zo];exact qs.ad b ai bW⟩
 have hH:=ho.ad (dK aK Zo (λI=>zo (qv _ I)) Zo) (dK bN Zo (λI=>zo (qv _ I)) Zo)
 clear u2 dF ho dG qs rl o7 ki iv m8 pU qA Bj aa8 Ql ab9 abU QN
 simp only[ok,Zf]at Z
 subst Z
 have hA:∀e,e≠aJ+1->ab X (bo X b4 (aJ+1) (some (.cells ((V.ofList (g9 23 x.at_ [] false dU 0 Eh) 0 .nil).set 8 (some Tu)) 9 .own))) e=ab X b4 e:=λe a=>aG Zo a
 obtain⟨cD,cG⟩:=(gC.ad (U:=bo X b4 (aJ+1) (some (.cells ((V.ofList (g9 23 x.at_ [] false dU 0 Eh) 0 .nil).set 8 (some Tu)) 9 .own))) (.inl sC) (λe H=>hA e (zo (aaS e H)))).Kr (P:=λe=>cW (aJ+2) (cj+1) e/\e∈Pl) Zs (λe H=>⟨by have:=aaS e H;exact⟨Zo,Zo⟩,H⟩)
 refine bL _ _ _ ⟨.ptr (aJ+1) 0,bp,_,asm,rfl,cR.of (b:=aJ+1) (m:=9) (st:= .own) (cD:=cD) (a8:=Tu) (kind:=23) (at_:=x.at_) (name:=[]) (no:=false) (ty:=dU) (n:=0) (bj:=[.ptr vU 0, .ptr B8 0, .ptr Kn 0]) ?_ ⟨Zo,Zo⟩ (cG.lift (λe H=>⟨zo H.1.1,H.1.2⟩)) (λ_=> ?_) ?_, ?_, ?_⟩
 ·rw[bi Zo];rfl
 ·have:=(cG.ai Zs).1.1
  omega
 ·exact dB.lift (λe H=>⟨⟨zo H.1.1,zo H.1.2⟩,zo H.1.1,H.2⟩) _ _ (dB.off (dB.ad (λe H=>hA e (zo H.1)) _ _ Dd) cG)
 ·exact hH.ad (hA _ Zo) (hA _ Zo)
 ·exact⟨eD.le,λb ai bW=>by rw[hA b Zo];exact eD.ad b ai bW⟩
end
section
variable{X:co}{h U a6 aR:V an}{j ar aJ bc aK bN:Nat}{aY:List Tok}{i:Nat}
def avB(az:dx X){n:Nat}(sw:n<=300000)(am:∀m,m<n->q2 X aK bN aY m):∀h j i r,iF X h j aK bN aY i->Go.aZ.part n (aY.drop i)=some r->aW X 261 [.ptr aK 0] h j (jN X aK bN aY h j r) (iT X aK h j r):=by
 intro h j i r aA Z
 cases n with
 |zero=>simp[Go.aZ.part]at Z
 |succ n=>
 cases aO:aY.drop i with
 |nil=>rw[aO]at Z;simp[Go.aZ.part]at Z
 |cons x l=>
 rw[aO]at Z
 by_cases er:x.kind=5
 ·exact avy az aA aO er Z
 by_cases bY:x.kind=1
 ·exact avA az am aA aO Zo bY Z
 by_cases c7:x.kind=3
 ·exact avD az am aA aO c7 Z
 by_cases dK:x.kind=6
 ·by_cases bb:x.text=[40]
  ·exact avC az am aA aO dK bb Z
  ·exact Ta az aA aO er bY c7 (λ_=>bb) (λa=>Zo) Z
 by_cases cx:x.kind=2
 ·by_cases T:x.text=[116,114,117,101]
  ·exact ad3 az aA aO cx (.inl T) Z
  by_cases W:x.text=[102,97,108,115,101]
  ·exact ad3 az aA aO cx (.inr W) Z
  by_cases au:x.text=[105,102]
  ·exact avx az am aA aO cx au Z
  by_cases aP:x.text=[109,101,114,103,101]
  ·exact avz az am aA aO cx aP Z
  ·exact Ta az aA aO er bY c7 (λa=>Zo) (λ_=>⟨T,W,au,aP⟩) Z
 ·exact Ta az aA aO er bY c7 (λa=>Zo) (λa=>absurd a cx) Z
def WJ(az:dx X)(e3:wC X):∀n,n<=300000->q2 X aK bN aY n:=by
 intro n
 induction n using Nat.strongRecOn with
 |ind n am=>
  intro aM
  have am:∀m,m<n->q2 X aK bN aY m:=λm bs=>am m bs Zo
  exact⟨atJ az e3 am,axc az am,avQ az am,avB az aM am,amR az am,akB az am,atT az aM am⟩
end
def JJ(n:Int):J:= .Z n
def ur(X:co)(h:V an)(hV aN:Nat)(left:List bq)(dm:List Int):Prop:=hV<aN/\(q X).ba<=hV/\∃c a8 mw EX wL,ab X h hV=some (.cells c 4 .own)/\c.get 0=some a8/\c.get 1=some mw/\gC X h a8 1 (left.map .str) EX/\gC X h mw 1 (dm.map JJ) wL
 /\(∀e∈EX,hV<e/\e<aN/\e∉wL)/\∀e∈wL,hV<e/\e<aN
def ur.ad{X:co}{h U:V an}{hV aN k4:Nat}{left:List bq}{dm:List Int}(a:ur X h hV aN left dm)(F:∀e,hV<=e->e<aN->ab X U e=ab X h e)(gK:aN<=k4):ur X U hV k4 left dm:=by
 obtain⟨ch,CV,c,a8,mw,EX,wL,T,W,au,aP,bK,cr,dP⟩:=a
 exact⟨Zo,CV,c,a8,mw,EX,wL,by rw[F hV Zo ch];exact T,W,au,aP.ad (λe H=>F e (zo (cr e H)) (cr e H).2.1),bK.ad (λe H=>F e (zo (dP e H)) (dP e H).2),
  λe H=>by have:=cr e H;exact⟨this.1,Zo,this.2.2⟩,λe H=>zo (dP e H)⟩
def gC.one{C:a2}{h:V an}{s:J}{br:Nat}{l:List J}{cM:List Nat}(a:gC C h s br l cM):s.cells=[s]/\p7 s=true/\J.same 30 s s=true:=by
 rcases a with a|⟨b,n,c,st,rfl,_⟩
 ·exact kC.one a
 ·exact⟨rfl,rfl,by simp[J.same]⟩
section
variable{X:co}{h U a6 aR:V an}{j ar aJ bc aK bN:Nat}{aY:List Tok}{i:Nat}
def SY(az:dx X)(aA:iF X h j aK bN aY i){hq hV:Nat}(Dl:hq<hV)(aAx:hq≠aK)(apw:aK<hV)(apx:bN<hV)(aq5:al X h (.ptr hq 0)=some (.ptr aK 0)){left:List bq}{dm:List Int}(b6:ur X h hV j left dm)(bs:left.length<=1000000)(Bi:dm.length<=300000){x:Tok}{l:List Tok}(aO:aY.drop i=x::l):
 aW X 207 [.ptr hq 0, .ptr hV 0] h j (λae U ar=>x.kind=1/\ae= .tuple []/\ur X U hV ar (left++[x.text]) (dm++[x.at_])/\aZ X U aK bN aY (i+1)/\j<=ar/\cf X [aK] h hV U ar)
  (λae U ar=>x.kind≠1/\ae=oS 21 x.at_/\cf X [aK] h j U ar):=by
 refine zv az (ah9 X) ?_
 rw[aia]
 unfold Vv
 have gP:=aA.ba
 have ke:=aA.hB
 have hc:=aA.ei
 have jD:=aA.g4
 refine ce @aq5 ⟨?_⟩
 refine(BW az aA.ba aA.par aA.ei aA.hB aA.g4 aA.many (fP aO).1 1).mono ?_ (λae U ar a=>a)
 rintro ae a6 aJ ⟨aL,rfl,ey,ii⟩
 have jF:=ii.le
 have hz:=b6.ad (U:=a6) (k4:=aJ) (λe T W=>ii.ad e W (by simp;omega)) jF
 have aAD:=b6.1
 clear b6
 obtain⟨ch,CV,c,a8,mw,EX,wL,b5,cd,c0,el,fK,d8,eQ⟩:=hz
 obtain⟨gz,kv,nf⟩:=gC.one el
 obtain⟨GU,BU,sP⟩:=gC.one fK
 refine gl cb.eq_1 (bR b5) @cd @c0 ⟨?_⟩
 have ki:∀gF,ab X gF (aJ+1+4)=zs [.str x.text] 1->lh X gF 1 (.slice (aJ+1+4) 0 1 1)=some (1,[.str x.text]):=λgF a=>s2 a (og _) rfl _
 have arK:∀gF,ab X gF (aJ+1+10)=zs [.Z x.at_] 1->lh X gF 1 (.slice (aJ+1+10) 0 1 1)=some (1,[.Z x.at_]):=λgF a=>s2 a (og _) rfl _
 generalize fl:bo X _ (aJ+1+10) _=a7
 have c7:∀e,e<aJ->ab X a7 e=ab X a6 e:=λe H=>by rw[<-fl];exact zu
 have t3:ab X a7 aJ=zs (cb x) 7:=by rw[<-fl];simp(disch:=omega) only[aG,bi]<;>rfl
 have fH:ab X a7 (aJ+1+4)=zs [.str x.text] 1:=by rw[<-fl];simp(disch:=omega) only[aG,bi]<;>rfl
 have iU:ab X a7 (aJ+1+10)=zs [.Z x.at_] 1:=by rw[<-fl];simp(disch:=omega) only[aG,bi]<;>rfl
 clear fl
 obtain⟨fg,bw,WZ,iv,sB,uX,gg⟩:=(el.ad (U:=a7) (λe H=>c7 e (d8 e H).2.1)).append (j:=aJ+1+16) Zd (ki a7 fH) rfl Zd rfl (by simp;omega) Zo (λe H=>zo (d8 e H).2.1)
 refine ky iv ?_
 have fU:ab X bw hV=some (.cells c 4 .own):=by rw[gg _ Zo (λa=>zo (d8 _ a).1),c7 _ ch];exact b5
 have t4:ab X bw aJ=zs (cb x) 7:=by rw[gg _ Zo (λa=>zo (d8 _ a).2.1)];exact t3
 have nx:ab X bw (aJ+1+10)=zs [.Z x.at_] 1:=by rw[gg _ Zo (λa=>zo (d8 _ a).2.1)];exact iU
 refine c1 (bR fU) @c0 ⟨?_⟩
 refine gs sP ?_
 refine c1 (bR t4) cb.eq_1 ⟨?_⟩
 refine gs (pt _ _) ?_
 have ant:gC X bw mw 1 (dm.map JJ) wL:=fK.ad (λe H=>by
  rw[gg e (zo (eQ e H)) (λa=>(d8 e a).2.2 H)]
  exact c7 e (eQ e H).2)
 obtain⟨Tv,bS,Pk,api,o7,yI,mJ⟩:=ant.append (j:=aJ+1+16+1) Zd (arK bw nx) rfl Zd rfl (by simp;omega) Zo (λe H=>zo (eQ e H).2)
 refine ky api ?_
 obtain⟨fJ,hp,uc⟩:=kC.one sB
 obtain⟨B1,avk,aBl⟩:=kC.one o7
 have lC:ab X bS hV=some (.cells c 4 .own):=by rw[mJ _ Zo (λa=>zo (eQ _ a).1)];exact fU
 refine fS (rK lC Zo Zo fJ hp) ?_
 refine cS ⟨?_⟩
 refine fS (rK (bi Zo) Zo Zo B1 avk) ?_
 have acM:∀e∈WZ,hV<e/\e<aJ+1+16+1+1/\e∉Pk:=by
  intro e H
  rcases uX e H with rfl|H
  ·refine⟨Zo,Zo,λa=> ?_⟩
   rcases yI _ a with a|a
   ·omega
   ·have:=eQ _ a;omega
  ·obtain⟨bf,ck,a3⟩:=d8 e H
   refine⟨Zo,Zo,λa=> ?_⟩
   rcases yI _ a with a|a
   ·omega
   ·exact a3 a
 have acN:∀e∈Pk,hV<e/\e<aJ+1+16+1+1:=by
  intro e H
  rcases yI e H with rfl|H
  ·omega
  ·have:=eQ e H;omega
 have fR:∀gF,gF=bo X (bo X bS hV (some (.cells (c.set 0 (some fg)) 4 .own))) hV (some (.cells ((c.set 0 (some fg)).set 1 (some Tv)) 4 .own))->∀e,e≠hV->ab X gF e=ab X bS e:=by
  rintro gF rfl e H
  rw[aG Zo H,aG Zo H]
 refine⟨aL,rfl,⟨Zo,CV,(c.set 0 (some fg)).set 1 (some Tv),fg,Tv,WZ,Pk,bi Zo, ?_, ?_, ?_, ?_,acM,acN⟩, ?_,Zo,Zo,λb ai bW=> ?_⟩
 ·rw[V.kc,Zh Zd,V.kc,Zr rfl]
 ·rw[V.kc,Zr rfl]
 ·rw[Yw]
  refine .inl (sB.ad λe H=> ?_)
  have:=acM e H
  rw[fR _ rfl e Zo,mJ e (by rcases uX e H with rfl|a;omega;have:=d8 e a;omega) (λa=> ?_)]
  rcases uX e H with rfl|cz
  ·have:=eQ _ a;omega
  ·exact(d8 e cz).2.2 a
 ·rw[Yw]
  exact .inl (o7.ad λe H=>fR _ rfl e (zo (acN e H)))
 ·have iM:∀e,e<hV->ab X bS e=ab X a6 e:=λe H=>by
   rw[mJ e Zo (λa=>zo (eQ _ a)),gg e Zo (λa=>zo (d8 _ a)),c7 e Zo]
  exact ey.ad (by rw[fR _ rfl _ Zo,iM _ apw]) (by rw[fR _ rfl _ Zo,iM _ apx])
 ·rw[fR _ rfl _ Zo,mJ b Zo (λa=>zo (eQ _ a)),gg b Zo (λa=>zo (d8 _ a)),c7 b Zo]
  exact ii.ad b Zo bW
end
def x2(X:co)(h:V an)(P:Nat->Prop)(ao:gv)(row:List J):Prop:=∃a8 mw cT dL l4,row=[a8,mw, .Z ao.at_,l4]/\d1 X h P cT a8 1 (ib ao.left)/\d1 X h P dL mw 1 (ao.dm.map λn=>[JJ n])/\cR X h P ao.right l4/\jI row=true
def x2.ad{X:co}{h U:V an}{P bv:Nat->Prop}{ao:gv}{row:List J}(a:x2 X h P ao row)(F:∀e,P e->ab X U e=ab X h e)(aD:∀e,P e->bv e):x2 X U bv ao row:=by
 obtain⟨a8,mw,cT,dL,l4,T,W,au,aP,bK⟩:=a
 exact⟨a8,mw,cT,dL,l4,T,(W.ad F).lift aD,(au.ad F).lift aD,cR.lift aD _ _ (cR.ad F _ _ aP),bK⟩
section
variable{X:co}{h U a6 aR:V an}{j ar aJ bc aK bN:Nat}{aY:List Tok}{i:Nat}
def amx(az:dx X)(e3:wC X){n:Nat}(sw:n<=200000)(aA:iF X h j aK bN aY i){r:Except Int (gv×List Tok)}(Z:uI n (aY.drop i)=some r):
 aW X 176 [.ptr aK 0] h j (λae U ar=>∃ao cB row,r= .ok (ao,aY.drop cB)/\ae= .agg row/\x2 X U (cW j ar) ao row/\aZ X U aK bN aY cB/\cf X [aK] h j U ar) (iT X aK h j r):=by
 refine zv az (ahp X) ?_
 rw[ahq]
 unfold U5
 have gP:=aA.ba
 have ke:=aA.hB
 have hc:=aA.ei
 have jD:=aA.g4
 unfold uI at Z
 obtain⟨x,ci,aO,ah⟩:=qW Z
 refine cS ⟨?_⟩
 refine fk (λa6=>al X a6 (.ptr j 0)=some (.ptr aK 0)/\ab X a6 (j+1)=zs [.aU, .aU, .Z 0, .cy] 4/\ur X a6 (j+2) (j+1+1+1) [] []/\aZ X a6 aK bN aY i/\bh X h j a6 (j+1+1+1)) ⟨?_, ?_, ?_, ?_, ?_⟩ ?_
 ·exact bp
 ·simp(disch:=omega) only[aG,bi]<;>rfl
 ·exact⟨Zo,Zo,_, .aU, .aU,[],[],bi Zo,rfl,rfl, .inl (.inl ⟨rfl,rfl,rfl⟩), .inl (.inl ⟨rfl,rfl,rfl⟩),Zs,Zs⟩
 ·exact aA.par.ad (zu) (zu)
 ·exact dR
 rintro a6 ⟨fy,qq,hz,ey,bT⟩
 have mT:=aA.go ey (by omega:j<=j+1+1+1)
 refine(nQ az mT aO _).Zm ?_
 rintro Hk aR bc ⟨rfl,dD,dz⟩
 have f5:=dz.le
 have w5:=(cf.of (X:=[aK]) bT).trans dz
 refine rk cb.eq_1 ⟨?_⟩
 refine j0 (λM U aV=>∃(cp:List Tok) (cB:Nat),M.g 1=some (.ptr j 0)/\M.g 2=some (.ptr (j+1) 0)/\M.g 3=some (.ptr (j+2) 0)/\ur X U (j+2) aV (cp.map Tok.text) (cp.map Tok.at_)/\aZ X U aK bN aY cB/\j+2<aV/\cf X [aK] h j U aV/\al X U (.ptr j 0)=some (.ptr aK 0)/\ab X U (j+1)=zs [.aU, .aU, .Z 0, .cy] 4/\cp.length<=300000/\
  (andThen (eO [61] (aY.drop cB)) λI l=>andThen (arrow n l) λr l=>andThen (eO [59] l) λ_ l=>ok (⟨cp.map Tok.text,cp.map Tok.at_,I.at_,r⟩:gv) l)=some r) (λaa bL=> ?_) ?_
 ·
  have Fv:al X aR (.ptr j 0)=some (.ptr aK 0):=by rw[dz.f0 _ _ Zo (by simp;omega)];exact fy
  have uO:ab X aR (j+1)=zs [.aU, .aU, .Z 0, .cy] 4:=by rw[dz.ad _ Zo (by simp;omega)];exact qq
  have lV:=hz.ad (U:=aR) (k4:=bc) (λe T W=>dz.ad e W (by simp;omega)) f5
  rcases ah with ⟨aI,Z⟩|⟨aI,Z⟩
  ·rw[aI]at dD ⊢
   simp only[ZD]at dD ⊢
   rw[<-(fP aO).2]at Z
   simp only[]at Z
   refine ce cb.eq_1 ⟨?_⟩
   simp only[YK,Yx]
   refine fk (λa7=>al X a7 (.ptr j 0)=some (.ptr aK 0)/\ab X a7 (j+1)=zs [.aU, .aU, .Z 0, .cy] 4/\ur X a7 (j+2) (bc+1) [] []/\aZ X a7 aK bN aY (i+1)/\cf X [aK] h j a7 (bc+1)) ⟨?_, ?_, ?_, ?_, ?_⟩ ?_
   ·exact ε @Fv
   ·simp(disch:=omega) only[aG];exact uO
   ·exact lV.ad (λe T W=>zu) Zo
   ·exact dD.ad (zu) (zu)
   ·exact⟨Zo,λb ai bW=>by rw[<-w5.ad b ai bW];exact zu⟩
   clear Fv uO lV dD w5 dz bT ey hz qq fy mT
   rintro a7 ⟨uP,tx,mM,gL,ej⟩
   have ng:=aA.go gL (by omega:j<=bc+1)
   cases tL:aY.drop (i+1)with
   |nil=>rw[tL]at Z;simp[iO,andThen]at Z
   |cons e eV=>
   rw[tL]at Z
   simp only[iO]at Z
   refine(SY az ng Zo Zo Zo Zo uP mM Zs Zs tL).mono ?_ ?_
   ·rintro Ex bw db ⟨gg,rfl,o5,hn,jd,eI⟩
    rw[Zr gg]at Z
    simp only[andThen,ok]at Z
    rw[<-(fP tL).2]at Z
    have CU:al X bw (.ptr j 0)=some (.ptr aK 0):=by rw[eI.f0 _ _ Zo (by simp;omega)];exact uP
    have yx:ab X bw (j+1)=zs [.aU, .aU, .Z 0, .cy] 4:=by rw[eI.ad _ Zo (by simp;omega)];exact tx
    have aax:cf X [aK] h j bw db:=⟨Zo,λb ai bW=>by rw[eI.ad b Zo bW];exact ej.ad b ai bW⟩
    refine ce @CU ⟨?_⟩
    refine fk (λbS=>ab X bS db=zs [.str [44]] 1/\bh X bw db bS (db+1)) ⟨bi Zo,dR⟩ ?_
    rintro bS ⟨aae,dF⟩
    have ov:=aA.go (hn.ex dF Zo Zo) (by omega:j<=db+1)
    have dG:=aax.trans (cf.of dF)
    have acy:=Z
    cases bI:eO [44] (aY.drop (i+1+1))with
    |none=>rw[bI]at Z;cases Z
    |some Ai=>
    rw[bI]at Z
    refine(jw az ov Zo Zo aae bI).mono ?_ ?_
    ·rintro Ar b4 dH ⟨um,h9,rfl,_,hH,eD⟩
     have pY:=eD.le
     simp only[]at Z
     have Ir:al X b4 (.ptr j 0)=some (.ptr aK 0):=by rw[eD.f0 _ _ Zo (by simp;omega),dF.f0 _ _ Zo];exact CU
     have A5:ab X b4 (j+1)=zs [.aU, .aU, .Z 0, .cy] 4:=by rw[eD.ad _ Zo (by simp;omega),dF.ad _ Zo];exact yx
     have Jn:=o5.ad (U:=b4) (k4:=dH) (λe T W=>by rw[eD.ad e Zo (by simp;omega),dF.ad e W]) Zo
     have uT:=dG.trans eD
     clear CU yx o5 hn eI aax dG dF aae ov eD
     refine j0 (λM U aV=>∃(cp:List Tok) (cB:Nat),M.g 1=some (.ptr j 0)/\M.g 2=some (.ptr (j+1) 0)/\M.g 3=some (.ptr (j+2) 0)/\ur X U (j+2) aV (cp.map Tok.text) (cp.map Tok.at_)/\aZ X U aK bN aY cB/\j+2<aV/\cf X [aK] h j U aV/\al X U (.ptr j 0)=some (.ptr aK 0)/\ab X U (j+1)=zs [.aU, .aU, .Z 0, .cy] 4/\cp.length<=300000/\
      (andThen (andThen (eO [41] (aY.drop cB)) λ_ l=>ok cp l) λcp l=>andThen (eO [61] l) λI l=>andThen (arrow n l) λr l=>andThen (eO [59] l) λ_ l=>ok (⟨cp.map Tok.text,cp.map Tok.at_,I.at_,r⟩:gv) l)=some r) (λpc aqk=> ?_) ?_
     ·refine fC (λm M U aV=>∃(cp:List Tok) (cB:Nat) (b:Bool),M.g 1=some (.ptr j 0)/\M.g 2=some (.ptr (j+1) 0)/\M.g 3=some (.ptr (j+2) 0)/\M.g 4=some (.func (.func 207) [] [.ptr j 0, .ptr (j+2) 0])/\M.g 7=some (.bool b)/\ur X U (j+2) aV (cp.map Tok.text) (cp.map Tok.at_)/\aZ X U aK bN aY cB/\j+2<aV/\cf X [aK] h j U aV/\al X U (.ptr j 0)=some (.ptr aK 0)/\ab X U (j+1)=zs [.aU, .aU, .Z 0, .cy] 4/\cp.length+m<=n+5/\
       (b=true->(andThen (andThen (rC m cp (aY.drop cB)) λcp l=>andThen (eO [41] l) λ_ l=>ok cp l) λcp l=>andThen (eO [61] l) λI l=>andThen (arrow n l) λr l=>andThen (eO [59] l) λ_ l=>ok (⟨cp.map Tok.text,cp.map Tok.at_,I.at_,r⟩:gv) l)=some r)/\
       (b=false->(andThen (andThen (eO [41] (aY.drop cB)) λ_ l=>ok cp l) λcp l=>andThen (eO [61] l) λI l=>andThen (arrow n l) λr l=>andThen (eO [59] l) λ_ l=>ok (⟨cp.map Tok.text,cp.map Tok.at_,I.at_,r⟩:gv) l)=some r))
       n ⟨[e],h9,true,bp,bp,bp,bp,bp,Jn,hH,Zo,uT,Ir,A5,by simp;omega,λ_=>Z,λa=>(by cases a)⟩ ?_
      clear Ir A5 Jn hH uT Z acy bI
      rintro m M cu e1 ⟨cp,o9,b,t1,eF,t3,t4,fo,Dn,hR,Rz,ev,w2,yy,bs,H,m9⟩
      refine rk @fo ⟨?_⟩
      refine gX ?_
      cases b with
      |false=>
       refine pI ?_
       exact aqk _ _ _ ⟨cp,o9,aQ t1,aQ eF,aQ t3,Dn,hR,Rz,ev,w2,yy,Zo,m9 rfl⟩
      |true=>
       have Z:=H rfl
       cases m with
       |zero=>simp[rC,andThen]at Z
       |succ m=>
       unfold rC at Z
       refine pJ ?_
       have nh:=aA.go hR (by omega:j<=e1)
       refine ce @t4 ⟨?_⟩
       simp only[YK,Yx]
       cases sp:aY.drop o9 with
       |nil=>rw[sp]at Z;simp[iO,andThen]at Z
       |cons bu mr=>
       rw[sp]at Z
       simp only[iO]at Z
       refine(SY az nh Zo Zo Zo Zo w2 Dn (by simp;omega) (by simp;omega) sp).mono ?_ ?_
       ·rintro u8 d4 fd ⟨xi,rfl,ara,xp,vb,gJ⟩
        rw[Zr xi]at Z
        simp only[andThen,ok]at Z
        rw[<-(fP sp).2]at Z
        have aaf:al X d4 (.ptr j 0)=some (.ptr aK 0):=by rw[gJ.f0 _ _ Zo (by simp;omega)];exact w2
        have L2:ab X d4 (j+1)=zs [.aU, .aU, .Z 0, .cy] 4:=by rw[gJ.ad _ Zo (by simp;omega)];exact yy
        have aoK:cf X [aK] h j d4 fd:=⟨Zo,λb ai bW=>by rw[gJ.ad b Zo bW];exact ev.ad b ai bW⟩
        have sT:=aA.go xp (by omega:j<=fd)
        refine c1 @t1 @aaf ⟨?_⟩
        cases rs:aY.drop (o9+1)with
        |nil=>rw[rs]at Z;simp[io,l6]at Z
        |cons w oh=>
        refine(nQ az sT rs [44]).Zm ?_
        rintro TZ dM jf ⟨rfl,mL,hb⟩
        have tO:=hb.le
        rw[rs]at Z
        have yz:al X dM (.ptr j 0)=some (.ptr aK 0):=by rw[hb.f0 _ _ Zo (by simp;omega)];exact aaf
        have w0:ab X dM (j+1)=zs [.aU, .aU, .Z 0, .cy] 4:=by rw[hb.ad _ Zo (by simp;omega)];exact L2
        have RS:=ara.ad (U:=dM) (k4:=jf) (λe T W=>hb.ad e W (by simp;omega)) tO
        have A9:=aoK.trans hb
        refine cS ⟨?_⟩
        refine⟨m,Zo,cp++[bu],_,g5 w [44],aQ t1,aQ eF,aQ t3,aQ t4,bp,by simpa using RS,mL,Zo,A9,yz,w0,by simp;omega,λa=> ?_,λa=> ?_⟩
        ·simp only[io,l6,a,ZD]at Z ⊢
         rw[(fP rs).2]
         exact Z
        ·simp only[io,l6,a,Zx,ZA]at Z ⊢
         rw[rs]
         exact Z
       ·rintro u8 d4 fd ⟨xi,rfl,gJ⟩
        rw[Zh xi]at Z
        simp only[andThen,bad,Zf]at Z
        subst Z
        exact⟨_,rfl,rfl,ev.trans gJ⟩
     ·clear Ir A5 Jn hH uT Z acy bI
      rintro M cu e1 ⟨cp,o9,t1,eF,t3,Dn,hR,Rz,ev,w2,yy,bs,Z⟩
      refine c1 @t1 @w2 ⟨?_⟩
      refine fk (λd4=>ab X d4 e1=zs [.str [41]] 1/\bh X cu e1 d4 (e1+1)) ⟨bi Zo,dR⟩ ?_
      rintro d4 ⟨CT,gy⟩
      have sT:=aA.go (hR.ex gy Zo Zo) (by omega:j<=e1+1)
      have gJ:=ev.trans (cf.of gy)
      cases bI:eO [41] (aY.drop o9)with
      |none=>rw[bI]at Z;cases Z
      |some Ai=>
      rw[bI]at Z
      refine(jw az sT Zo Zo CT bI).mono ?_ ?_
      ·rintro v9 dM jf ⟨un,i9,rfl,_,mL,hb⟩
       have tO:=hb.le
       simp only[andThen,ok]at Z
       have yz:al X dM (.ptr j 0)=some (.ptr aK 0):=by rw[hb.f0 _ _ Zo (by simp;omega),gy.f0 _ _ Zo];exact w2
       have w0:ab X dM (j+1)=zs [.aU, .aU, .Z 0, .cy] 4:=by rw[hb.ad _ Zo (by simp;omega),gy.ad _ Zo];exact yy
       have RS:=Dn.ad (U:=dM) (k4:=jf) (λe T W=>by rw[hb.ad e Zo (by simp;omega),gy.ad e W]) Zo
       exact bL _ _ _ ⟨cp,i9,t1,eF,t3,RS,mL,Zo,gJ.trans hb,yz,w0,bs,Z⟩
      ·rintro v9 dM jf ⟨K,rfl,rfl,hb⟩
       simp only[andThen,Zf]at Z
       subst Z
       exact⟨K,rfl,rfl,gJ.trans hb⟩
    ·rintro Ar b4 dH ⟨K,rfl,rfl,eD⟩
     simp only[Zf]at Z
     subst Z
     exact⟨K,rfl,rfl,dG.trans eD⟩
   ·rintro Ex bw db ⟨gg,rfl,eI⟩
    rw[Zh gg]at Z
    simp only[andThen,bad,Zf]at Z
    subst Z
    exact⟨_,rfl,rfl,ej.trans eI⟩
  ·rw[aI]at dD ⊢
   simp only[Zx,ZA]at dD ⊢
   simp only[]at Z
   refine c1 cb.eq_1 g6.eq_1 ⟨?_⟩
   simp only[YK,Yx]
   refine fk (λa7=>al X a7 (.ptr j 0)=some (.ptr aK 0)/\ab X a7 (j+1)=zs [.aU, .aU, .Z 0, .cy] 4/\ur X a7 (j+2) (bc+1) [] []/\aZ X a7 aK bN aY i/\cf X [aK] h j a7 (bc+1)) ⟨?_, ?_, ?_, ?_, ?_⟩ ?_
   ·exact ε @Fv
   ·simp(disch:=omega) only[aG];exact uO
   ·exact lV.ad (λe T W=>zu) Zo
   ·exact dD.ad (zu) (zu)
   ·exact⟨Zo,λb ai bW=>by rw[<-w5.ad b ai bW];exact zu⟩
   clear Fv uO lV dD w5 dz bT ey hz qq fy mT
   rintro a7 ⟨uP,tx,mM,gL,ej⟩
   have ng:=aA.go gL (by omega:j<=bc+1)
   rw[aO]at Z
   simp only[iO]at Z
   refine(SY az ng Zo Zo Zo Zo uP mM Zs Zs aO).mono ?_ ?_
   ·rintro Ex bw db ⟨gg,rfl,o5,hn,jd,eI⟩
    rw[Zr gg]at Z
    simp only[andThen,ok]at Z
    rw[<-(fP aO).2]at Z
    have CU:al X bw (.ptr j 0)=some (.ptr aK 0):=by rw[eI.f0 _ _ Zo (by simp;omega)];exact uP
    have yx:ab X bw (j+1)=zs [.aU, .aU, .Z 0, .cy] 4:=by rw[eI.ad _ Zo (by simp;omega)];exact tx
    exact bL _ _ _ ⟨[x],i+1,bp,bp,bp,o5,hn,Zo,⟨Zo,λb ai bW=>by rw[eI.ad b Zo bW];exact ej.ad b ai bW⟩,CU,yx,Zs,Z⟩
   ·rintro Ex bw db ⟨gg,rfl,eI⟩
    rw[Zh gg]at Z
    simp only[andThen,bad,Zf]at Z
    subst Z
    exact⟨_,rfl,rfl,ej.trans eI⟩
 ·clear ah Z dD w5 dz bT ey hz qq fy mT aO
  rintro M a7 bd ⟨cp,i3,t1,eF,t3,mM,gL,aAi,ej,uP,tx,bs,Z⟩
  refine c1 @t1 @uP ⟨?_⟩
  refine fk (λbw=>ab X bw bd=zs [.str [61]] 1/\bh X a7 bd bw (bd+1)) ⟨bi Zo,dR⟩ ?_
  rintro bw ⟨CR,dj⟩
  have kO:=aA.go (gL.ex dj Zo Zo) (by omega:j<=bd+1)
  have eI:=ej.trans (cf.of dj)
  rcases gx Z with ⟨K,bK,rfl⟩|⟨I,gM,bK,Z⟩
  ·exact(jw az kO Zo Zo CR bK).mono (λae U ar a=>by obtain⟨I,cB,a,_⟩:=a;cases a) (λae U ar a=>a.of eI (λ_ a=>by cases a;rfl))
  refine(jw az kO Zo Zo CR bK).mono ?_ (λae U ar a=>by obtain⟨K,a,_⟩:=a;cases a)
  rintro v5 bS cj ⟨it,i5,sq,rfl,ho,dG⟩
  cases sq
  have il:=dG.le
  have L4:al X bS (.ptr j 0)=some (.ptr aK 0):=by rw[dG.f0 _ _ Zo (by simp;omega),dj.f0 _ _ Zo];exact uP
  have Ft:ab X bS (j+1)=zs [.aU, .aU, .Z 0, .cy] 4:=by rw[dG.ad _ Zo (by simp;omega),dj.ad _ Zo];exact tx
  have ru:=mM.ad (U:=bS) (k4:=cj) (λe T W=>by rw[dG.ad e Zo (by simp;omega),dj.ad e W]) Zo
  have yC:=eI.trans dG
  obtain⟨ch,CV,c,a8,mw,EX,wL,b5,cd,c0,el,fK,d8,eQ⟩:=ru
  clear mM gL ej uP tx dj CR kO eI dG
  refine c1 @t3 cb.eq_1 ⟨?_⟩
  have acR:∀e,e≠j+2->ab X (bo X bS (j+2) (some (.cells (d3 c 2 (J.Z I.at_).cells) 4 .own))) e=ab X bS e:=λe H=>aG Zo H
  refine c1 @t1 @L4 ⟨?_⟩
  refine fk (λb4=>ab X b4 (j+2)=some (.cells (c.set 2 (some (.Z I.at_))) 4 .own)/\∀e,e≠j+2->ab X b4 e=ab X bS e) ⟨(bi Zo).trans (by simp only[J.cells,q0]),acR⟩ ?_
  clear acR
  rintro b4 ⟨xL,dK⟩
  have hH:aZ X b4 aK bN aY i5:=ho.ad (dK _ Zo) (dK _ Zo)
  have eD:cf X [aK] h j b4 cj:=⟨yC.le,λb ai bW=>by rw[dK b Zo];exact yC.ad b ai bW⟩
  rcases gx Z with ⟨K,dP,rfl⟩|⟨PQ,mr,dP,Z⟩
  ·exact((WJ az e3 n Zo).arrow b4 _ _ _ (aA.go hH Zo) dP).mono (λae U ar a=>by obtain⟨I,cB,a,_⟩:=a;cases a) (λae U ar a=>a.of eD (λ_ a=>by cases a;rfl))
  refine((WJ az e3 n Zo).arrow b4 _ _ _ (aA.go hH Zo) dP).mono ?_ (λae U ar a=>by obtain⟨K,a,_⟩:=a;cases a)
  rintro KJ cu e1 ⟨XG,o9,yL,e7,hR,ev⟩
  cases yL
  have nE:=ev.le
  obtain⟨qZ,rfl,aAQ,_⟩:=e7.ptr
  have B7:ab X cu (j+2)=some (.cells (c.set 2 (some (.Z I.at_))) 4 .own):=by rw[ev.ad _ Zo (by simp;omega)];exact xL
  have w2:al X cu (.ptr j 0)=some (.ptr aK 0):=by rw[ev.f0 _ _ Zo (by simp;omega),cg,dK _ Zo, <-cg];exact L4
  have fR:∀e,j<=e->e<cj->e≠j+2->ab X cu e=ab X bS e:=λe T W au=>by rw[ev.ad e W (by simp;omega),dK e au]
  refine ce @t3 ⟨?_⟩
  refine c1 @t1 @w2 ⟨?_⟩
  refine fk (λd4=>ab X d4 e1=zs [.str [59]] 1/\ab X d4 (j+2)=some (.cells ((c.set 2 (some (.Z I.at_))).set 3 (some (.ptr qZ 0))) 4 .own)/\∀e,e<e1->e≠j+2->ab X d4 e=ab X cu e) ⟨bi Zo, ?_, ?_⟩ ?_
  ·rw[aG Zo Zo,bi Zo];simp only[J.cells,q0]
  ·intro e T W
   rw[aG Zo Zo,aG Zo W]
  rintro d4 ⟨CT,Ti,iM⟩
  have xp:aZ X d4 aK bN aY o9:=hR.ad (iM _ Zo Zo) (iM _ Zo Zo)
  have gJ:cf X [aK] h j d4 (e1+1):=⟨Zo,λb ai bW=>by rw[iM b Zo Zo];exact(eD.trans ev).ad b ai bW⟩
  rcases gx Z with ⟨K,kd,rfl⟩|⟨un,sI,kd,Z⟩
  ·exact(jw az (aA.go xp Zo) Zo Zo CT kd).mono (λae U ar a=>by obtain⟨I,cB,a,_⟩:=a;cases a) (λae U ar a=>a.of gJ (λ_ a=>by cases a;rfl))
  refine(jw az (aA.go xp Zo) Zo Zo CT kd).mono ?_ (λae U ar a=>by obtain⟨K,a,_⟩:=a;cases a)
  rintro v9 dM jf ⟨aBI,i9,apN,_,mL,hb⟩
  cases apN
  have tO:=hb.le
  simp only[ok,Zf]at Z
  subst Z
  have NY:ab X dM (j+2)=some (.cells ((c.set 2 (some (.Z I.at_))).set 3 (some (.ptr qZ 0))) 4 .own):=by rw[hb.ad _ Zo (by simp;omega)];exact Ti
  have hA:∀e,j<=e->e<e1->e≠j+2->ab X dM e=ab X cu e:=λe T W au=>by rw[hb.ad e Zo (by simp;omega),iM e W au]
  have w0:ab X dM (j+1)=zs [.aU, .aU, .Z 0, .cy] 4:=by rw[hA _ Zo Zo Zo,fR _ Zo Zo Zo];exact Ft
  have ee:((c.set 2 (some (J.Z I.at_))).set 3 (some (.ptr qZ 0))).get 0=some a8:=by rw[V.kc,Zh Zd,V.kc,Zh Zd];exact cd
  have dy:((c.set 2 (some (J.Z I.at_))).set 3 (some (.ptr qZ 0))).get 1=some mw:=by rw[V.kc,Zh Zd,V.kc,Zh Zd];exact c0
  have dZ:((c.set 2 (some (J.Z I.at_))).set 3 (some (.ptr qZ 0))).get 2=some (.Z I.at_):=by rw[V.kc,Zh Zd,V.kc,Zr rfl]
  have hk:((c.set 2 (some (J.Z I.at_))).set 3 (some (.ptr qZ 0))).get 3=some (.ptr qZ 0):=by rw[V.kc,Zr rfl]
  generalize ((c.set 2 (some (J.Z I.at_))).set 3 (some (.ptr qZ 0)))=f9 at NY ee dy dZ hk
  obtain⟨gz,kv,nf⟩:=gC.one el
  obtain⟨GU,BU,sP⟩:=gC.one fK
  have aD:bM X dM 4 (.ptr (j+2) 0)=some (.agg [a8,mw, .Z I.at_, .ptr qZ 0]):=by
   rw[t2];simp[bR NY,ee,dy,dZ,hk]
  refine d9 @t3 @aD @eF ⟨?_⟩
  refine fS (im (F:=4) w0 Zo rfl Zd Zd (by simp[J.cells,jI,kv,BU,show p7 (.Z I.at_)=true from rfl,show p7 (.ptr qZ 0)=true from rfl])) ?_
  refine ce @eF ⟨?_⟩
  have DI:∀e,e≠j+1->∀cO,ab X (bo X dM (j+1) cO) e=ab X dM e:=λe H cO=>aG Zo H
  have oa:∀e,j+2<e->e<cj->∀cO,ab X (bo X dM (j+1) cO) e=ab X bS e:=λe T W cO=>by rw[DI e Zo,hA e Zo Zo Zo,fR e Zo W Zo]
  obtain⟨cT,abZ⟩:=(el.ad (U:=bo X dM (j+1) (some (.cells (d3 (V.ofList [.aU, .aU, .Z 0, .cy] 0 .nil) 0 [a8,mw, .Z I.at_, .ptr qZ 0]) 4 .own))) (λe H=>oa e (d8 e H).1 (d8 e H).2.1 _)).Kr (P:=cW j jf) (by simp;omega) (λe H=>by have:=d8 e H;exact⟨Zo,Zo⟩)
  obtain⟨dL,Jq⟩:=(fK.ad (U:=bo X dM (j+1) (some (.cells (d3 (V.ofList [.aU, .aU, .Z 0, .cy] 0 .nil) 0 [a8,mw, .Z I.at_, .ptr qZ 0]) 4 .own))) (λe H=>oa e (eQ e H).1 (eQ e H).2 _)).Kr (P:=cW j jf) (by simp;omega) (λe H=>by have:=eQ e H;exact⟨Zo,Zo⟩)
  refine⟨_,i9,[a8,mw, .Z I.at_, .ptr qZ 0],rfl,rfl,⟨a8,mw,cT,dL, .ptr qZ 0,rfl, ?_, ?_, ?_,by simp[jI,kv,BU,show p7 (.Z I.at_)=true from rfl,show p7 (.ptr qZ 0)=true from rfl]⟩, ?_, ?_⟩
  ·rw[YA]at abZ;exact abZ
  ·rw[YA]at Jq;exact Jq
  ·refine cR.lift (λe H=>⟨zo H.1,zo H.2⟩) _ _ (cR.ad (λe H=> ?_) _ _ e7)
   have T:=H.1
   show ab X (bo X dM (j+1) _) e=_
   rw[DI e Zo,hA e Zo H.2 Zo]
  ·exact mL.ad (DI _ Zo _) (DI _ Zo _)
  ·exact⟨Zo,λb ai bW=>by rw[DI b Zo];exact(gJ.trans hb).ad b ai bW⟩
end
end
end Go.Proofs.YtpfajohmofnkfaaGreatDoor

