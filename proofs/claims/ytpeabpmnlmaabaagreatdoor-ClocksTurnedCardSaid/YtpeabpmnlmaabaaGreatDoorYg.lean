/- Part of the proof of the last text; no conditions -/
import Derived.Test.YtpeabpmnlmaabaaGreatDoorYf
set_option maxHeartbeats 8000000
set_option linter.all false
namespace Go.Proofs.YtpeabpmnlmaabaaGreatDoor
open Go.bg Go.aL
noncomputable section
section
variable{X:ca}{h R aQ aP:S ag}{j an aV aX aM bU:Nat}{aZ:List Tok}{i:Nat}
def wT(F b:Nat)(cv:List Nat):Nat->Prop:=λe=>F<=e/\e<b/\e∉cv
def de.off{C:aN}{a7:Nat->Prop}{F b ce:Nat}{cv:List Nat}{aO:E}{b8:List bp}{bk:List E}(a:de C h (wT F b cv) b8 bk)(Y:dV C h (λe=>a7 e/\e∈cv) ce aO 1 (bk.map λv=>[v])):de C h (λe=>dU F b e/\e≠ce) b8 bk:=by
 cases bk with
 |nil=>
  have:=a.len
  cases b8 with
  |nil=>exact .nil
  |cons=>simp at this
 |cons v bk=>
  have aj:=(Y.aj Zs).2
  exact de.lift (λe z=>⟨⟨z.1,z.2.1⟩,λD=>z.2.2 (D▸aj)⟩) _ _ a
def ka(aw:dk X)(ay:je X h j aM bU aZ i){ce:Nat}{s:aR}(H0:ce<j)(LO:ce≠aM)(aC:W X h ce=zD [.str s] 1){r:Except Int (Tok×List Tok)}(Y:eL s (aZ.drop i)=some r):
 a2 X 69 [.ptr aM 0, .slice ce 0 1 1] h j (λac R an=>∃x cJ,r= .ok (x,aZ.drop cJ)/\ac= .agg (cg x)/\aL X R aM bU aZ cJ/\ch X [aM] h j R an) (ju X aM h j r):=by
 have H:dV X h (λe=>e=ce) ce (.slice ce 0 1 1) 1 (f8 [s]):=Ji (be:=[[.str s]]) (st:= .own) aC rfl Zs Zs rfl
 refine(aki aw ay.a8 ay.par ay.cb ay.hR ay.hp ay.many H0 LO H (r:=r) ?_)
 simp only[s7]
 rw[Y]
 obtain⟨D|⟨x,k⟩,_⟩:∃ak,ak=r:=⟨r,rfl⟩
 all_goals(rename_i bM;subst bM;rfl)
def azi(aw:dk X){n:Nat}(tX:n<=300000)(ah:∀m,m<n->sd X aM bU aZ m):∀h j i r,je X h j aM bU aZ i->Go.aL.list n (aZ.drop i)=some r->a2 X 156 [.ptr aM 0] h j (λac R an=>∃b8 cJ bk ce,r= .ok (b8,aZ.drop cJ)/\dV X R (dU j an) ce ac 1 (bk.map λv=>[v])/\de X R (λe=>dU j an e/\e≠ce) b8 bk/\aL X R aM bU aZ cJ/\ch X [aM] h j R an) (ju X aM h j r):=by
 intro h j i r ay Y
 cases n with
 |zero=>simp[Go.aL.list]at Y
 |succ n=>
 refine zG aw (amh X) ?_
 rw[ami]
 unfold aaq
 have g0:=ay.a8
 have kQ:=ay.hR
 have iy:=ay.cb
 have ki:=ay.hp
 unfold Go.aL.list at Y
 obtain⟨x,bS,aJ,af⟩:=r6 Y
 refine(oM aw ay aJ _).Zm ?_
 rintro w3 aQ aV ⟨rfl,eu,iM⟩
 have jy:=iM.le
 rcases af with ⟨aC,Y⟩|⟨aC,Y⟩
 ·rw[aC]at eu ⊢
  simp only[ZG]at eu ⊢
  simp only[ok,Zf]at Y
  subst Y
  refine cj cg.eq_1 ⟨?_⟩
  refine⟨[],i+1,[],0,by rw[(f2 aJ).2],dV.nil _ _, .nil,eu.ab (zF) (zF), ?_⟩
  exact⟨Zo,λb aj bZ=>by rw[<-iM.ab b aj bZ];exact zF⟩
 ·rw[aC]at eu ⊢
  simp only[Zw,ZB]at eu ⊢
  simp only[]at Y
  refine cS cg.eq_1 hr.eq_1 ⟨?_⟩
  refine e0 (λa6=>br X aQ aV a6 (aV+1)) dH ?_
  intro aP bI
  have f7:=ay.go (eu.ex bI Zo Zo) (by omega:j<=aV+1)
  have dz:=iM.trans (ch.of bI)
  rcases gJ Y with ⟨F,M,rfl⟩|⟨D,cZ,M,Y⟩
  ·exact((ah n Zo).arrow aP _ _ _ f7 M).mono zN (λac R an a=>a.of dz (λ_ a=>by cases a;rfl))
  refine((ah n Zo).arrow aP _ _ _ f7 M).mono ?_ zM
  rintro v3 a6 bz ⟨fL,i3,Us,cp,g2,ei⟩
  cases Us
  have jm:=ei.le
  obtain⟨dT,rfl,pg,_⟩:=cp.ptr
  have pg:=pg.2
  refine cL ⟨?_⟩
  refine fE (λm I R aS=>∃b8 bk s cv cJ,bk.length+m<=n+1/\I.g 0=some (.ptr aM 0)/\I.g 5=some s/\ga X R s 1 bk cv/\(∀e∈cv,j<=e/\e<aS)/\de X R (wT j aS cv) b8 bk/\aL X R aM bU aZ cJ/\ch X [aM] h j R aS/\qf m b8 (aZ.drop cJ)=some r)
   n ⟨[D],[.ptr dT 0], .slice bz 0 1 1,[bz],i3,Zx,bo,bo, .inr ⟨bz,1,_,_,rfl,rfl,rfl,bh Zo,nu _,rfl,Zo⟩, ?_, ?_,g2.ab (zF) (zF), ?_,Y⟩ ?_
  ·intro e z
   simp at z
   omega
  ·refine de.one (cn.ab (λe z=> ?_) _ _ cp) (λe z=>⟨zz z.1,zz z.2,by have:=z.2;simp;omega⟩)
   have:=z.2
   simp(disch:=omega) only[aI]
  ·exact⟨Zo,λb aj bZ=>by rw[<-(dz.trans ei).ab b aj bZ];exact zF⟩
  clear cp g2 ei M Y pg
  rintro m I bH cC ⟨b8,bk,s,cv,i4,bn,t0,t5,hP,eR,H7,hE,eH,Y⟩
  cases m with
  |zero=>simp[qf]at Y
  |succ m=>
  unfold qf at Y
  have iu:=eH.le
  have lD:=ay.go hE iu
  refine g3 ?_
  refine cj @t0 ⟨?_⟩
  obtain⟨e,bS,aJ,af⟩:=r6 Y
  refine(oM aw lD aJ _).Zm ?_
  rintro vx bN ci ⟨rfl,hF,dM⟩
  have iP:=dM.le
  have ly:∀e,j<=e->e<cC->W X bN e=W X bH e:=λe H M=>dM.ab e Zo Zx
  have p5:=hP.ab (R:=bN) (λe z=>ly e (eR e z).1 (eR e z).2)
  have wm:=de.ab (R:=bN) (λe z=>ly e z.1 z.2.1) _ _ H7
  rcases af with ⟨aC,Y⟩|⟨aC,Y⟩
  ·rw[aC]at hF ⊢
   simp only[ZG]at hF ⊢
   rw[<-(f2 aJ).2]at Y
   simp only[]at Y
   refine er cg.eq_1 @t0 @t5 ⟨?_⟩
   refine e0 (λa6=>br X bN ci a6 (ci+1)) dH ?_
   intro b6 ec
   have eD:=(eH.trans dM).trans (ch.of ec)
   have m7:=lD.go (hF.ex ec Zo Zo) (by omega:cC<=ci+1)
   rcases gJ Y with ⟨F,c6,rfl⟩|⟨Hu,m3,c6,Y⟩
   ·exact((ah m Zo).arrow b6 _ _ _ m7 c6).mono zN (λac R an a=>a.of eD (λ_ a=>by cases a;rfl))
   refine((ah m Zo).arrow b6 _ _ _ m7 c6).mono ?_ zM
   rintro M4 cy dX ⟨ado,p8,AF,eC,ii,et⟩
   cases AF
   have nr:=et.le
   obtain⟨Jh,rfl,EZ,_⟩:=eC.ptr
   have EZ:=EZ.2
   refine cL ⟨?_⟩
   have ayp:∀gV,gV=bm X cy dX (zD [.ptr Jh 0] 1)->∀e,j<=e->e<ci->W X gV e=W X bN e:=by
    rintro gV rfl e H M
    rw[aI Zo Zo,et.ab e Zo Zx,ec.ab e Zo]
   have kV:lZ X (bm X cy dX (zD [.ptr Jh 0] 1)) 1 (.slice dX 0 1 1)=some (1,[.ptr Jh 0]):=s2 (bh Zo) (nu _) rfl _
   obtain⟨e1,dt,gK,iN,Iw,Cv,sJ⟩:=(p5.ab (R:=bm X cy dX (zD [.ptr Jh 0] 1)) (λe z=>ayp _ rfl e (eR e z).1 (zz (eR e z).2))).append (j:=dX+1) Zd kV rfl Zd rfl Zx Zo (λe z=>zz (eR e z).2)
   refine kH iN ?_
   have gG:∀e,e<dX->e∉cv->W X dt e=W X cy e:=λe H M=>by
    rw[sJ e Zo M,aI Zo Zo]
   refine⟨m,Zo,b8++[Hu],bk++[.ptr Jh 0],e1,gK,p8,Zx,aW t0,bo, .inl Iw, ?_, ?_, ?_, ?_,Y⟩
   ·intro e z
    rcases Cv e z with rfl|z
    ·omega
    ·have:=eR e z;omega
   ·refine de.snoc (cn.ab (λe z=> ?_) _ _ eC) (de.ab (λe z=> ?_) _ _ wm) (λe z=>⟨z.1,zz z.2.1,λgA=> ?_⟩) (λe z=>⟨⟨zz z.1,zz z.2,λgA=> ?_⟩,λp7=>by have:=z.1;have:=p7.2.1;omega⟩)
    ·have H:=z.1
     exact gG e z.2 (λgA=>zz (eR e gA))
    ·have M:=z.2.1
     rw[gG e Zo z.2.2,et.ab e Zo (by have:=z.1;simp;omega),ec.ab e Zo]
    ·have M:=z.2.1
     rcases Cv e gA with rfl|gA
     ·omega
     ·exact z.2.2 gA
    ·have H:=z.1;have M:=z.2
     rcases Cv e gA with rfl|gA
     ·omega
     ·have:=eR e gA;omega
   ·exact ii.ab (gG _ Zo (λD=>zz (eR _ D))) (gG _ Zo (λD=>zz (eR _ D)))
   ·exact⟨Zo,λb aj bZ=>by rw[gG b Zo (λD=>zz (eR _ D))];exact(eD.trans et).ab b aj bZ⟩
  ·rw[aC]at hF ⊢
   simp only[Zw,ZB]at hF ⊢
   simp only[]at Y
   refine gk cg.eq_1 hr.eq_1 @t0 @t5 ⟨?_⟩
   refine e0 (λa6=>br X bN ci a6 (ci+1+1)/\W X a6 (ci+1)=zD [.str [41]] 1) ⟨dH,bh Zo⟩ ?_
   rintro b6 ⟨ec,d1⟩
   have eD:=(eH.trans dM).trans (ch.of ec)
   have m7:=lD.go (hF.ex ec Zo Zo) (by omega:cC<=ci+1+1)
   rcases gJ Y with ⟨F,c6,rfl⟩|⟨Hu,m3,c6,Y⟩
   ·exact(ka aw m7 Zo Zo d1 c6).mono zN (λac R an a=>a.of eD (λ_ a=>by cases a;rfl))
   refine(ka aw m7 Zo Zo d1 c6).mono ?_ zM
   rintro M4 cy dX ⟨ado,p8,AF,_,ii,et⟩
   cases AF
   have nr:=et.le
   simp only[ok,Zf]at Y
   subst Y
   refine cj @t5 ⟨?_⟩
   have f0:∀e,j<=e->e<ci->W X cy e=W X bN e:=λe H M=>by
    rw[et.ab e Zo Zx,ec.ab e Zo]
   obtain⟨ce,cG⟩:=(p5.ab (R:=cy) (λe z=>f0 e (eR e z).1 (zz (eR e z).2))).QI (P:=λe=>dU j dX e/\e∈cv) Zo (λe z=>⟨⟨(eR e z).1,zz (eR e z).2⟩,z⟩)
   refine⟨b8,p8,bk,ce,rfl,cG.lift (λe z=>z.1), ?_,ii,eD.trans et⟩
   exact de.lift (λe z=>⟨⟨z.1.1,zz z.1.2⟩,z.2⟩) _ _ (de.off (de.ab (λe z=>f0 e z.1 (zz z.2.1)) _ _ wm) cG)
end
section
variable{X:ca}{h R aQ aP:S ag}{j an aV aX aM bU:Nat}{aZ:List Tok}{i:Nat}
def aBp(aw:dk X){n:Nat}{r:Except Int (bp×List Tok)}(ay:je X h j aM bU aZ i){x:Tok}{k:List Tok}(aJ:aZ.drop i=x::k)(aH:x.kind=5)(Y:Go.aL.part (n+1) (x::k)=some r):
 a2 X 153 [.ptr aM 0] h j (kw X aM bU aZ h j r) (ju X aM h j r):=by
 refine zG aw (BM X) ?_
 rw[BN]
 unfold yT
 have g0:=ay.a8
 have kQ:=ay.hR
 have iy:=ay.cb
 have ki:=ay.hp
 obtain⟨af,kD⟩:=f2 aJ
 unfold Go.aL.part at Y
 refine(sW aw ay.a8 ay.par ay.hR ay.hp af).Zm ?_
 rintro ac aQ aV ⟨rfl,bL⟩
 have jy:=bL.le
 have eu:=ay.par.ex bL Zo Zo
 obtain⟨c,aq,bf,cf,a3,a4⟩:=eu.at_
 have bR:=kE bf a3
 have k9:=(Zb.1 af).1
 have wv:=ay.many
 have dn:=eu.ne
 have bC:=zE i
 refine hl cg.eq_1 @bR (Za @bC @bf) ⟨?_⟩
 generalize dR:bm X _ aM _=aP
 have fU:W X aP aV=zD (cg x) 7:=by rw[<-dR];exact zQ
 have ji:W X aP (aV+1)=zD (hv 0 x.at_ [] false dQ 0 .aY) 9:=by rw[<-dR];exact zQ
 have dI:aL X aP aM bU aZ (i+1):=by
  refine eu.on (c:=d7 c 1 [.Z ((i+1:Nat):Int)]) ?_ (λdx st a=>by rw[bf]at a;cases a;exact pz ..) ?_
  ·rw[<-dR];simp(disch:=omega) only[aI,bh];rfl
  ·rw[<-dR];simp(disch:=omega) only[aI]
 have dz:ch X [aM] h j aP (aV+2):=by
  refine⟨Zo,λb aj bZ=> ?_⟩
  rw[<-bL.ab b aj, <-dR]
  simp only[Zu,ZK,YX,Yq,ZI,Yb]at bZ
  simp(disch:=omega) only[aI]
 clear dR bR bf cf a3 a4 eu bL
 have uW:∃dC,W X aP aM=some (.cells dC 2 .own)/\aU X aP (.ptr aM 1)=some (.Z ((i+1:Nat):Int)):=by
  obtain⟨c,aq,bQ,cl,cU,fe⟩:=dI.at_
  exact⟨c,bQ,kE bQ cU⟩
 have f7:=ay.go dI (by omega:j<=aV+1+1)
 refine ko (λI R aS=>∃v,I.g 4=some v/\kw X aM bU aZ h j r v R aS) (λV bF=> ?_) (by
  rintro I R aS ⟨v,t4,a⟩
  refine cj @t4 ⟨?_⟩
  exact a)
 rw[Zp aH]at Y
 simp only[ok,Zf]at Y
 subst Y
 have gt:decide (x.kind=5)=true:=by simp[aH]
 refine gk (bG fU) @ji @gt cg.eq_1 ⟨?_⟩
 refine gP (by simp[E.same,oI]) ?_
 refine er (bG fU) @ji cg.eq_1 ⟨?_⟩
 refine gP (pt _ _) ?_
 refine er (bG fU) @ji cg.eq_1 ⟨?_⟩
 refine gP (pt _ _) ?_
 refine er (bG fU) @ji cg.eq_1 ⟨?_⟩
 refine bF _ _ _ ⟨.ptr (aV+1) 0,bo,_,i+1,by rw[<-kD],cn.leaf (b:=aV+1) (m:=9) (st:= .own) ?_ ⟨Zo,Zo⟩,dI.ab (zF) (zF), ?_⟩
 ·exact zQ
 ·exact⟨Zo,λb aj bZ=>by rw[<-dz.ab b aj bZ];exact zF⟩
end
section
variable{X:ca}{h R aQ aP:S ag}{j an aV aX aM bU:Nat}{aZ:List Tok}{i:Nat}
def aiE(aw:dk X){n:Nat}{r:Except Int (bp×List Tok)}(ay:je X h j aM bU aZ i){x:Tok}{k:List Tok}(aJ:aZ.drop i=x::k)(aH:x.kind=2)(ba:x.text=[116,114,117,101]\/x.text=[102,97,108,115,101])(Y:Go.aL.part (n+1) (x::k)=some r):
 a2 X 153 [.ptr aM 0] h j (kw X aM bU aZ h j r) (ju X aM h j r):=by
 refine zG aw (BM X) ?_
 rw[BN]
 unfold yT
 have g0:=ay.a8
 have kQ:=ay.hR
 have iy:=ay.cb
 have ki:=ay.hp
 obtain⟨af,kD⟩:=f2 aJ
 unfold Go.aL.part at Y
 refine(sW aw ay.a8 ay.par ay.hR ay.hp af).Zm ?_
 rintro ac aQ aV ⟨rfl,bL⟩
 have jy:=bL.le
 have eu:=ay.par.ex bL Zo Zo
 obtain⟨c,aq,bf,cf,a3,a4⟩:=eu.at_
 have bR:=kE bf a3
 have k9:=(Zb.1 af).1
 have wv:=ay.many
 have dn:=eu.ne
 have bC:=zE i
 refine hl cg.eq_1 @bR (Za @bC @bf) ⟨?_⟩
 generalize dR:bm X _ aM _=aP
 have fU:W X aP aV=zD (cg x) 7:=by rw[<-dR];exact zQ
 have ji:W X aP (aV+1)=zD (hv 0 x.at_ [] false dQ 0 .aY) 9:=by rw[<-dR];exact zQ
 have dI:aL X aP aM bU aZ (i+1):=by
  refine eu.on (c:=d7 c 1 [.Z ((i+1:Nat):Int)]) ?_ (λdx st a=>by rw[bf]at a;cases a;exact pz ..) ?_
  ·rw[<-dR];simp(disch:=omega) only[aI,bh];rfl
  ·rw[<-dR];simp(disch:=omega) only[aI]
 have dz:ch X [aM] h j aP (aV+2):=by
  refine⟨Zo,λb aj bZ=> ?_⟩
  rw[<-bL.ab b aj, <-dR]
  simp only[Zu,ZK,YX,Yq,ZI,Yb]at bZ
  simp(disch:=omega) only[aI]
 clear dR bR bf cf a3 a4 eu bL
 have uW:∃dC,W X aP aM=some (.cells dC 2 .own)/\aU X aP (.ptr aM 1)=some (.Z ((i+1:Nat):Int)):=by
  obtain⟨c,aq,bQ,cl,cU,fe⟩:=dI.at_
  exact⟨c,bQ,kE bQ cU⟩
 have f7:=ay.go dI (by omega:j<=aV+1+1)
 refine ko (λI R aS=>∃v,I.g 4=some v/\kw X aM bU aZ h j r v R aS) (λV bF=> ?_) (by
  rintro I R aS ⟨v,t4,a⟩
  refine cj @t4 ⟨?_⟩
  exact a)
 rw[Zg (by rw[aH];decide),Zp (by rcases ba with a|a<;>simp[aH,a])]at Y
 simp only[ok,Zf]at Y
 subst Y
 have gt:decide (x.kind=5)=false:=by simp[aH]
 have cM:decide (x.kind=2)=true:=by simp[aH]
 rcases ba with ba|ba
 ·have Ks:decide (x.text=[116,114,117,101])=true:=by simp[ba]
  refine ic (bG fU) @ji @gt @cM @Ks cg.eq_1 ⟨?_⟩
  refine bF _ _ _ ⟨.ptr (aV+1) 0,bo,_,i+1,by rw[<-kD],cn.leaf (b:=aV+1) (m:=9) (st:= .own) (n:=if x.text=[116,114,117,101]then 1 else 0) ?_ ⟨Zo,Zo⟩,dI.ab (zF) (zF), ?_⟩
  ·rw[Zp ba];exact zQ
  ·exact⟨Zo,λb aj bZ=>by rw[<-dz.ab b aj bZ];exact zF⟩
 ·have Ks:decide (x.text=[116,114,117,101])=false:=by simp[ba]
  have bj:decide (x.text=[102,97,108,115,101])=true:=by simp[ba]
  refine eh (bG fU) @ji @gt @cM @Ks @bj cg.eq_1 ⟨?_⟩
  refine bF _ _ _ ⟨.ptr (aV+1) 0,bo,_,i+1,by rw[<-kD],cn.leaf (b:=aV+1) (m:=9) (st:= .own) (n:=if x.text=[116,114,117,101]then 1 else 0) ?_ ⟨Zo,Zo⟩,dI.ab (zF) (zF), ?_⟩
  ·rw[Zg (by rw[ba];decide)];exact zQ
  ·exact⟨Zo,λb aj bZ=>by rw[<-dz.ab b aj bZ];exact zF⟩
end
section
variable{X:ca}{h R aQ aP:S ag}{j an aV aX aM bU:Nat}{aZ:List Tok}{i:Nat}
def aBr(aw:dk X){n:Nat}(ah:∀m,m<n+1->sd X aM bU aZ m){r:Except Int (bp×List Tok)}(ay:je X h j aM bU aZ i){x:Tok}{k:List Tok}(aJ:aZ.drop i=x::k)(tX:n<=1000000)(aH:x.kind=1)(Y:Go.aL.part (n+1) (x::k)=some r):
 a2 X 153 [.ptr aM 0] h j (kw X aM bU aZ h j r) (ju X aM h j r):=by
 refine zG aw (BM X) ?_
 rw[BN]
 unfold yT
 have g0:=ay.a8
 have kQ:=ay.hR
 have iy:=ay.cb
 have ki:=ay.hp
 obtain⟨af,kD⟩:=f2 aJ
 unfold Go.aL.part at Y
 refine(sW aw ay.a8 ay.par ay.hR ay.hp af).Zm ?_
 rintro ac aQ aV ⟨rfl,bL⟩
 have jy:=bL.le
 have eu:=ay.par.ex bL Zo Zo
 obtain⟨c,aq,bf,cf,a3,a4⟩:=eu.at_
 have bR:=kE bf a3
 have k9:=(Zb.1 af).1
 have wv:=ay.many
 have dn:=eu.ne
 have bC:=zE i
 refine hl cg.eq_1 @bR (Za @bC @bf) ⟨?_⟩
 generalize dR:bm X _ aM _=aP
 have fU:W X aP aV=zD (cg x) 7:=by rw[<-dR];exact zQ
 have ji:W X aP (aV+1)=zD (hv 0 x.at_ [] false dQ 0 .aY) 9:=by rw[<-dR];exact zQ
 have dI:aL X aP aM bU aZ (i+1):=by
  refine eu.on (c:=d7 c 1 [.Z ((i+1:Nat):Int)]) ?_ (λdx st a=>by rw[bf]at a;cases a;exact pz ..) ?_
  ·rw[<-dR];simp(disch:=omega) only[aI,bh];rfl
  ·rw[<-dR];simp(disch:=omega) only[aI]
 have dz:ch X [aM] h j aP (aV+2):=by
  refine⟨Zo,λb aj bZ=> ?_⟩
  rw[<-bL.ab b aj, <-dR]
  simp only[Zu,ZK,YX,Yq,ZI,Yb]at bZ
  simp(disch:=omega) only[aI]
 clear dR bR bf cf a3 a4 eu bL
 have uW:∃dC,W X aP aM=some (.cells dC 2 .own)/\aU X aP (.ptr aM 1)=some (.Z ((i+1:Nat):Int)):=by
  obtain⟨c,aq,bQ,cl,cU,fe⟩:=dI.at_
  exact⟨c,bQ,kE bQ cU⟩
 have f7:=ay.go dI (by omega:j<=aV+1+1)
 refine ko (λI R aS=>∃v,I.g 4=some v/\kw X aM bU aZ h j r v R aS) (λV bF=> ?_) (by
  rintro I R aS ⟨v,t4,a⟩
  refine cj @t4 ⟨?_⟩
  exact a)
 rw[Zg (by rw[aH];decide),Zg (by simp[aH]),Zp aH]at Y
 have gt:decide (x.kind=5)=false:=by simp[aH]
 have cM:decide (x.kind=2)=false:=by simp[aH]
 have c2:decide (x.kind=1)=true:=by simp[aH]
 refine ic (bG fU) @ji @gt @cM @c2 cg.eq_1 ⟨?_⟩
 refine gP (by simp[E.same,Ba]) ?_
 refine er (bG fU) @ji cg.eq_1 ⟨?_⟩
 refine e0 (λa6=>W X a6 (aV+1)=zD (hv 2 x.at_ x.text false dQ 0 .aY) 9/\aL X a6 aM bU aZ (i+1)/\ch X [aM] h j a6 (aV+1+1+10)) ⟨?_, ?_, ?_⟩ ?_
 ·exact zQ
 ·exact dI.ab (zF) (zF)
 ·exact⟨Zo,λb aj bZ=>by rw[<-dz.ab b aj bZ];exact zF⟩
 clear dI f7 dz fU ji uW
 rintro a6 ⟨ji,g2,ei⟩
 have n6:=ay.go g2 (by omega:j<=aV+1+1+10)
 rw[<-kD]at Y
 obtain⟨e,hn,EI,axu⟩:=r6 Y
 refine(oM aw n6 EI _).Zm ?_
 rintro vw bH cC ⟨rfl,hE,eH⟩
 have iu:=eH.le
 have KK:W X bH (aV+1)=zD (hv 2 x.at_ x.text false dQ 0 .aY) 9:=by rw[eH.ab _ Zo Zx];exact ji
 have sz:=ei.trans eH
 rcases axu with ⟨aC,Y⟩|⟨aC,Y⟩
 ·rw[aC]at hE ⊢
  simp only[ZG]at hE ⊢
  rw[<-(f2 EI).2]at Y
  simp only[]at Y
  refine cj cg.eq_1 ⟨?_⟩
  refine e0 (λbN=>br X bH cC bN (cC+1)) dH ?_
  intro bN dW
  have pq:=n6.go (hE.ex dW Zo Zo) (by omega:aV+1+1+10<=cC+1)
  have dM:=sz.trans (ch.of dW)
  rcases gJ Y with ⟨F,b1,rfl⟩|⟨b8,ny,b1,Y⟩
  ·exact((ah n Zo).list bN _ _ _ pq b1).mono (λac R an a=>by obtain⟨D,cJ,bk,ce,a,_⟩:=a;cases a) (λac R an a=>a.of dM (λ_ a=>by cases a;rfl))
  refine((ah n Zo).list bN _ _ _ pq b1).mono ?_ zM
  rintro Bu b6 dr ⟨mT,iC,bk,ce,Ut,cG,H7,h2,eD⟩
  cases Ut
  have oB:=eD.le
  simp only[ok,Zf]at Y
  subst Y
  have tI:W X b6 (aV+1)=zD (hv 2 x.at_ x.text false dQ 0 .aY) 9:=by rw[eD.ab _ Zo Zx,dW.ab _ Zo];exact KK
  have rJ:∃w,Bu.cells=[w]/\w=Bu/\po Bu=true:=by
   have:=cG.len
   cases Bu<;>first|exact⟨_,rfl,rfl,rfl⟩|(simp[gr]at this;done)
  obtain⟨w,bb,rfl,nt⟩:=rJ
  have c8:∀cy Sq,W X cy (aV+1)=some (.cells Sq 9 .own)->fT X cy 1 (.ptr (aV+1) 8) w=some (bm X cy (aV+1) (some (.cells (Sq.set 8 (some w)) 9 .own))):=λcy Sq a=>ux a Zo Zo bb nt
  refine cj @tI ⟨?_⟩
  refine gm (c8 _ _ (bh Zo)) ?_
  refine bF _ _ _ ⟨.ptr (aV+1) 0,bo,_,iC,rfl,cn.of (b:=aV+1) (m:=9) (st:= .own) (ce:=ce) (aO:=w) (kind:=25) (at_:=x.at_) (name:=x.text) (no:=false) (ty:=dQ) (n:=0) (bk:=bk) ?_ ⟨Zo,Zo⟩ ?_ (λbD=> ?_) ?_,h2.ab (zF) (zF), ?_⟩
  ·exact zQ
  ·refine(cG.ab (λe z=> ?_)).lift (λe z=>⟨zz z.1,z.2⟩)
   have:=z.1
   simp(disch:=omega) only[aI]
  ·have:=(cG.aj (by simpa using bD)).1
   omega
  ·refine de.lift (λe z=>⟨⟨zz z.1.1,zz z.1.2⟩,zz z.1.1,z.2⟩) _ _ (de.ab (λe z=> ?_) _ _ H7)
   have H:=z.1.1
   have M:=z.1.2
   simp(disch:=omega) only[aI]
  ·exact⟨Zo,λb aj bZ=>by rw[<-(dM.trans eD).ab b aj bZ];exact zF⟩
 ·rw[aC]at hE ⊢
  simp only[Zw,ZB]at hE ⊢
  simp only[ok,Zf]at Y
  subst Y
  refine cS cg.eq_1 hr.eq_1 ⟨?_⟩
  refine bF _ _ _ ⟨.ptr (aV+1) 0,bo,_,i+1,rfl,cn.leaf (b:=aV+1) (m:=9) (st:= .own) ?_ ⟨Zo,Zo⟩,hE.ab (zF) (zF), ?_⟩
  ·simp(disch:=omega) only[aI];exact KK
  ·exact⟨Zo,λb aj bZ=>by rw[<-sz.ab b aj bZ];exact zF⟩
end
section
variable{X:ca}{h R aQ aP:S ag}{j an aV aX aM bU:Nat}{aZ:List Tok}{i:Nat}
def aBu(aw:dk X){n:Nat}(ah:∀m,m<n+1->sd X aM bU aZ m){r:Except Int (bp×List Tok)}(ay:je X h j aM bU aZ i){x:Tok}{k:List Tok}(aJ:aZ.drop i=x::k)(aH:x.kind=3)(Y:Go.aL.part (n+1) (x::k)=some r):
 a2 X 153 [.ptr aM 0] h j (kw X aM bU aZ h j r) (ju X aM h j r):=by
 refine zG aw (BM X) ?_
 rw[BN]
 unfold yT
 have g0:=ay.a8
 have kQ:=ay.hR
 have iy:=ay.cb
 have ki:=ay.hp
 obtain⟨af,kD⟩:=f2 aJ
 unfold Go.aL.part at Y
 refine(sW aw ay.a8 ay.par ay.hR ay.hp af).Zm ?_
 rintro ac aQ aV ⟨rfl,bL⟩
 have jy:=bL.le
 have eu:=ay.par.ex bL Zo Zo
 obtain⟨c,aq,bf,cf,a3,a4⟩:=eu.at_
 have bR:=kE bf a3
 have k9:=(Zb.1 af).1
 have wv:=ay.many
 have dn:=eu.ne
 have bC:=zE i
 refine hl cg.eq_1 @bR (Za @bC @bf) ⟨?_⟩
 generalize dR:bm X _ aM _=aP
 have fU:W X aP aV=zD (cg x) 7:=by rw[<-dR];exact zQ
 have ji:W X aP (aV+1)=zD (hv 0 x.at_ [] false dQ 0 .aY) 9:=by rw[<-dR];exact zQ
 have dI:aL X aP aM bU aZ (i+1):=by
  refine eu.on (c:=d7 c 1 [.Z ((i+1:Nat):Int)]) ?_ (λdx st a=>by rw[bf]at a;cases a;exact pz ..) ?_
  ·rw[<-dR];simp(disch:=omega) only[aI,bh];rfl
  ·rw[<-dR];simp(disch:=omega) only[aI]
 have dz:ch X [aM] h j aP (aV+2):=by
  refine⟨Zo,λb aj bZ=> ?_⟩
  rw[<-bL.ab b aj, <-dR]
  simp only[Zu,ZK,YX,Yq,ZI,Yb]at bZ
  simp(disch:=omega) only[aI]
 clear dR bR bf cf a3 a4 eu bL
 have uW:∃dC,W X aP aM=some (.cells dC 2 .own)/\aU X aP (.ptr aM 1)=some (.Z ((i+1:Nat):Int)):=by
  obtain⟨c,aq,bQ,cl,cU,fe⟩:=dI.at_
  exact⟨c,bQ,kE bQ cU⟩
 have f7:=ay.go dI (by omega:j<=aV+1+1)
 refine ko (λI R aS=>∃v,I.g 4=some v/\kw X aM bU aZ h j r v R aS) (λV bF=> ?_) (by
  rintro I R aS ⟨v,t4,a⟩
  refine cj @t4 ⟨?_⟩
  exact a)
 rw[Zg (by rw[aH];decide),Zg (by simp[aH]),Zg (by rw[aH];decide),Zp aH]at Y
 have gt:decide (x.kind=5)=false:=by simp[aH]
 have cM:decide (x.kind=2)=false:=by simp[aH]
 have c2:decide (x.kind=1)=false:=by simp[aH]
 have e2:decide (x.kind=3)=true:=by simp[aH]
 refine eh (bG fU) @ji @gt @cM @c2 @e2 cg.eq_1 ⟨?_⟩
 refine gP (by simp[E.same,oI]) ?_
 refine er (bG fU) @ji cg.eq_1 ⟨?_⟩
 refine e0 (λa6=>W X a6 (aV+1+1+10)=zD [.str [40]] 1/\W X a6 (aV+1)=zD (hv 26 x.at_ [] false x.ty 0 .aY) 9/\aL X a6 aM bU aZ (i+1)/\ch X [aM] h j a6 (aV+1+1+10+1)) ⟨bh Zo, ?_, ?_, ?_⟩ ?_
 ·exact zQ
 ·exact dI.ab (zF) (zF)
 ·exact⟨Zo,λb aj bZ=>by rw[<-dz.ab b aj bZ];exact zF⟩
 clear dI f7 dz fU ji uW
 rintro a6 ⟨am,ji,g2,ei⟩
 have n6:=ay.go g2 (by omega:j<=aV+1+1+10+1)
 rw[<-kD]at Y
 rcases gJ Y with ⟨F,aB,rfl⟩|⟨qv,hn,aB,Y⟩
 ·exact(ka aw n6 Zo Zo am aB).mono zN (λac R an a=>a.of ei (λ_ a=>by cases a;rfl))
 refine(ka aw n6 Zo Zo am aB).mono ?_ zM
 rintro v4 bH cC ⟨aE8,i4,rD,_,hE,eH⟩
 cases rD
 have iu:=eH.le
 have lD:=n6.go hE iu
 have As:=ei.trans eH
 rcases gJ Y with ⟨F,bw,rfl⟩|⟨qI,gM,bw,Y⟩
 ·exact((ah n Zo).arrow bH _ _ _ lD bw).mono zN (λac R an a=>a.of As (λ_ a=>by cases a;rfl))
 refine((ah n Zo).arrow bH _ _ _ lD bw).mono ?_ zM
 rintro v5 bN ci ⟨N5,i5,tR,dW,hF,dM⟩
 cases tR
 have iP:=dM.le
 have pq:=lD.go hF iP
 have rx:=As.trans dM
 obtain⟨m8,rfl,sL,_⟩:=dW.ptr
 have sL:=sL.2
 have sx:W X bN (aV+1)=zD (hv 26 x.at_ [] false x.ty 0 .aY) 9:=by rw[dM.ab _ Zo Zx,eH.ab _ Zo Zx];exact ji
 refine cj @sx ⟨?_⟩
 refine e0 (λb6=>W X b6 (ci+1)=zD [.str [41]] 1/\W X b6 ci=zD [.ptr m8 0] 1/\W X b6 (aV+1)=zD (hv 26 x.at_ [] false x.ty 0 (.slice ci 0 1 1)) 9/\cn X b6 (dU cC ci) qI (.ptr m8 0)/\aL X b6 aM bU aZ i5/\ch X [aM] h j b6 (ci+1+1)) ⟨bh Zo, ?_, ?_, ?_, ?_, ?_⟩ ?_
 ·exact zQ
 ·exact zQ
 ·refine cn.ex dW (λe H M=> ?_) Zo Zo
  simp(disch:=omega) only[aI]
 ·exact hF.ab (zF) (zF)
 ·exact⟨Zo,λb aj bZ=>by rw[<-rx.ab b aj bZ];exact zF⟩
 clear dW hF sx dM
 rintro b6 ⟨KN,as7,tI,ec,h2,eD⟩
 have m7:=ay.go h2 (by omega:j<=ci+1+1)
 rcases gJ Y with ⟨F,c6,rfl⟩|⟨Na,m3,c6,Y⟩
 ·exact(ka aw m7 Zo Zo KN c6).mono zN (λac R an a=>a.of eD (λ_ a=>by cases a;rfl))
 refine(ka aw m7 Zo Zo KN c6).mono ?_ zM
 rintro M4 cy dX ⟨aE9,p8,AF,_,ii,et⟩
 cases AF
 have nr:=et.le
 simp only[ok,Zf]at Y
 subst Y
 refine bF _ _ _ ⟨.ptr (aV+1) 0,bo,_,p8,rfl,cn.lit (u:=1) (cap:=1) (b:=aV+1) (m:=9) (st:= .own) (iH:= .own) (ce:=ci) (bk:=[.ptr m8 0]) ?_ ⟨Zo,Zo⟩ ?_ ⟨Zo,Zo⟩ rfl Zo Zo (de.one (cn.ab (λe z=> ?_) _ _ ec) (λe z=> ?_)),ii,eD.trans et⟩
 ·rw[et.ab _ Zo Zx];exact tI
 ·rw[et.ab _ Zo Zx];exact as7
 ·have H:=z.1;have M:=z.2
  exact et.ab e Zo Zx
 ·simp only[dU]at z ⊢;omega
end
section
variable{X:ca}{h R aQ aP:S ag}{j an aV aX aM bU:Nat}{aZ:List Tok}{i:Nat}
def aBt(aw:dk X){n:Nat}(ah:∀m,m<n+1->sd X aM bU aZ m){r:Except Int (bp×List Tok)}(ay:je X h j aM bU aZ i){x:Tok}{k:List Tok}(aJ:aZ.drop i=x::k)(aH:x.kind=6)(ba:x.text=[40])(Y:Go.aL.part (n+1) (x::k)=some r):
 a2 X 153 [.ptr aM 0] h j (kw X aM bU aZ h j r) (ju X aM h j r):=by
 refine zG aw (BM X) ?_
 rw[BN]
 unfold yT
 have g0:=ay.a8
 have kQ:=ay.hR
 have iy:=ay.cb
 have ki:=ay.hp
 obtain⟨af,kD⟩:=f2 aJ
 unfold Go.aL.part at Y
 refine(sW aw ay.a8 ay.par ay.hR ay.hp af).Zm ?_
 rintro ac aQ aV ⟨rfl,bL⟩
 have jy:=bL.le
 have eu:=ay.par.ex bL Zo Zo
 obtain⟨c,aq,bf,cf,a3,a4⟩:=eu.at_
 have bR:=kE bf a3
 have k9:=(Zb.1 af).1
 have wv:=ay.many
 have dn:=eu.ne
 have bC:=zE i
 refine hl cg.eq_1 @bR (Za @bC @bf) ⟨?_⟩
 generalize dR:bm X _ aM _=aP
 have fU:W X aP aV=zD (cg x) 7:=by rw[<-dR];exact zQ
 have ji:W X aP (aV+1)=zD (hv 0 x.at_ [] false dQ 0 .aY) 9:=by rw[<-dR];exact zQ
 have dI:aL X aP aM bU aZ (i+1):=by
  refine eu.on (c:=d7 c 1 [.Z ((i+1:Nat):Int)]) ?_ (λdx st a=>by rw[bf]at a;cases a;exact pz ..) ?_
  ·rw[<-dR];simp(disch:=omega) only[aI,bh];rfl
  ·rw[<-dR];simp(disch:=omega) only[aI]
 have dz:ch X [aM] h j aP (aV+2):=by
  refine⟨Zo,λb aj bZ=> ?_⟩
  rw[<-bL.ab b aj, <-dR]
  simp only[Zu,ZK,YX,Yq,ZI,Yb]at bZ
  simp(disch:=omega) only[aI]
 clear dR bR bf cf a3 a4 eu bL
 have uW:∃dC,W X aP aM=some (.cells dC 2 .own)/\aU X aP (.ptr aM 1)=some (.Z ((i+1:Nat):Int)):=by
  obtain⟨c,aq,bQ,cl,cU,fe⟩:=dI.at_
  exact⟨c,bQ,kE bQ cU⟩
 have f7:=ay.go dI (by omega:j<=aV+1+1)
 refine ko (λI R aS=>∃v,I.g 4=some v/\kw X aM bU aZ h j r v R aS) (λV bF=> ?_) (by
  rintro I R aS ⟨v,t4,a⟩
  refine cj @t4 ⟨?_⟩
  exact a)
 rw[Zg (by rw[aH];decide),Zg (by simp[aH]),Zg (by rw[aH];decide),Zg (by rw[aH];decide),Zp (by simp[aH,ba])]at Y
 have gt:decide (x.kind=5)=false:=by simp[aH]
 have cM:decide (x.kind=2)=false:=by simp[aH]
 have c2:decide (x.kind=1)=false:=by simp[aH]
 have e2:decide (x.kind=3)=false:=by simp[aH]
 have ht:decide (x.kind=6)=true:=by simp[aH]
 have Ks:decide (x.text=[40])=true:=by simp[ba]
 refine eh (bG fU) @ji @gt @cM @c2 @e2 (Za @ht (Za @Ks cg.eq_1)) ⟨?_⟩
 rw[<-kD]at Y
 rcases gJ Y with ⟨F,bw,rfl⟩|⟨qI,gM,bw,Y⟩
 ·exact((ah n Zo).arrow aP _ _ _ f7 bw).mono zN (λac R an a=>a.of dz (λ_ a=>by cases a;rfl))
 refine((ah n Zo).arrow aP _ _ _ f7 bw).mono ?_ zM
 rintro v5 bN ci ⟨N5,i5,tR,dW,hF,dM⟩
 cases tR
 have iP:=dM.le
 have pq:=f7.go hF iP
 have rx:=dz.trans dM
 refine cL ⟨?_⟩
 refine e0 (λb6=>W X b6 ci=zD [.str [41]] 1/\br X bN ci b6 (ci+1)) ⟨bh Zo,dH⟩ ?_
 rintro b6 ⟨KN,ec⟩
 have m7:=pq.go (hF.ex ec Zo Zo) (by omega:ci<=ci+1)
 have eD:=rx.trans (ch.of ec)
 rcases gJ Y with ⟨F,c6,rfl⟩|⟨Na,m3,c6,Y⟩
 ·exact(ka aw m7 Zo Zo KN c6).mono zN (λac R an a=>a.of eD (λ_ a=>by cases a;rfl))
 refine(ka aw m7 Zo Zo KN c6).mono ?_ zM
 rintro M4 cy dX ⟨aE9,p8,AF,_,ii,et⟩
 cases AF
 have nr:=et.le
 simp only[ok,Zf]at Y
 subst Y
 refine bF _ _ _ ⟨v5,bo,_,p8,rfl,cn.ex dW (λe H M=>by rw[et.ab e Zo Zx,ec.ab e Zo]) Zo Zo,ii,eD.trans et⟩
end
section
variable{X:ca}{h R aQ aP:S ag}{j an aV aX aM bU:Nat}{aZ:List Tok}{i:Nat}
def aBq(aw:dk X){n:Nat}(ah:∀m,m<n+1->sd X aM bU aZ m){r:Except Int (bp×List Tok)}(ay:je X h j aM bU aZ i){x:Tok}{k:List Tok}(aJ:aZ.drop i=x::k)(aH:x.kind=2)(ba:x.text=[109,101,114,103,101])(Y:Go.aL.part (n+1) (x::k)=some r):
 a2 X 153 [.ptr aM 0] h j (kw X aM bU aZ h j r) (ju X aM h j r):=by
 refine zG aw (BM X) ?_
 rw[BN]
 unfold yT
 have g0:=ay.a8
 have kQ:=ay.hR
 have iy:=ay.cb
 have ki:=ay.hp
 obtain⟨af,kD⟩:=f2 aJ
 unfold Go.aL.part at Y
 refine(sW aw ay.a8 ay.par ay.hR ay.hp af).Zm ?_
 rintro ac aQ aV ⟨rfl,bL⟩
 have jy:=bL.le
 have eu:=ay.par.ex bL Zo Zo
 obtain⟨c,aq,bf,cf,a3,a4⟩:=eu.at_
 have bR:=kE bf a3
 have k9:=(Zb.1 af).1
 have wv:=ay.many
 have dn:=eu.ne
 have bC:=zE i
 refine hl cg.eq_1 @bR (Za @bC @bf) ⟨?_⟩
 generalize dR:bm X _ aM _=aP
 have fU:W X aP aV=zD (cg x) 7:=by rw[<-dR];exact zQ
 have ji:W X aP (aV+1)=zD (hv 0 x.at_ [] false dQ 0 .aY) 9:=by rw[<-dR];exact zQ
 have dI:aL X aP aM bU aZ (i+1):=by
  refine eu.on (c:=d7 c 1 [.Z ((i+1:Nat):Int)]) ?_ (λdx st a=>by rw[bf]at a;cases a;exact pz ..) ?_
  ·rw[<-dR];simp(disch:=omega) only[aI,bh];rfl
  ·rw[<-dR];simp(disch:=omega) only[aI]
 have dz:ch X [aM] h j aP (aV+2):=by
  refine⟨Zo,λb aj bZ=> ?_⟩
  rw[<-bL.ab b aj, <-dR]
  simp only[Zu,ZK,YX,Yq,ZI,Yb]at bZ
  simp(disch:=omega) only[aI]
 clear dR bR bf cf a3 a4 eu bL
 have uW:∃dC,W X aP aM=some (.cells dC 2 .own)/\aU X aP (.ptr aM 1)=some (.Z ((i+1:Nat):Int)):=by
  obtain⟨c,aq,bQ,cl,cU,fe⟩:=dI.at_
  exact⟨c,bQ,kE bQ cU⟩
 have f7:=ay.go dI (by omega:j<=aV+1+1)
 refine ko (λI R aS=>∃v,I.g 4=some v/\kw X aM bU aZ h j r v R aS) (λV bF=> ?_) (by
  rintro I R aS ⟨v,t4,a⟩
  refine cj @t4 ⟨?_⟩
  exact a)
 rw[Zg (by rw[aH];decide),Zg (by simp[aH,ba]),Zg (by rw[aH];decide),Zg (by rw[aH];decide),Zg (by simp[aH]),Zg (by simp[aH,ba]),Zp (by simp[aH,ba])]at Y
 have gt:decide (x.kind=5)=false:=by simp[aH]
 have cM:decide (x.kind=2)=true:=by simp[aH]
 have c2:decide (x.kind=1)=false:=by simp[aH]
 have e2:decide (x.kind=3)=false:=by simp[aH]
 have ht:decide (x.kind=6)=false:=by simp[aH]
 have cE:decide (x.text=[116,114,117,101])=false:=by simp[ba]
 have cA:decide (x.text=[102,97,108,115,101])=false:=by simp[ba]
 have dT:decide (x.text=[105,102])=false:=by simp[ba]
 have fG:decide (x.text=[109,101,114,103,101])=true:=by simp[ba]
 refine eh (bG fU) @ji @gt @cM @c2 @e2 (Za @ht (Za @cE (Za @cA (Za @dT (Za @fG cg.eq_1))))) ⟨?_⟩
 rw[<-kD]at Y
 cases EI:aZ.drop (i+1)with
 |nil=>rw[EI]at Y;simp[jq,andThen]at Y
 |cons c hn=>
 rw[EI]at Y
 simp only[jq]at Y
 refine(Dg aw f7.a8 f7.par f7.cb f7.hR f7.hp f7.many (f2 EI).1 1).mono ?_ ?_
 ·rintro vw bH cC ⟨gz,rfl,hE,eH⟩
  have iu:=eH.le
  rw[Zp gz]at Y
  simp only[andThen,ok]at Y
  rw[<-(f2 EI).2]at Y
  have KK:W X bH (aV+1)=zD (hv 0 x.at_ [] false dQ 0 .aY) 9:=by rw[eH.ab _ Zo Zx];exact ji
  have As:=dz.trans eH
  refine cS cg.eq_1 @KK ⟨?_⟩
  refine e0 (λa6=>W X a6 (aV+1)=zD (hv 24 x.at_ c.text false dQ 0 .aY) 9/\aL X a6 aM bU aZ (i+1+1)/\ch X [aM] h j a6 cC) ⟨?_, ?_, ?_⟩ ?_
  ·exact zQ
  ·exact hE.ab (zF) (zF)
  ·exact⟨Zo,λb aj bZ=>by rw[<-As.ab b aj bZ];exact zF⟩
  clear KK hE eH As ji uW dI f7 dz fU
  rintro a6 ⟨ji,g2,ei⟩
  have n6:=ay.go g2 (by omega:j<=cC)
  cases Io:Go.aL.part n (aZ.drop (i+1+1))with
  |none=>rw[Io]at Y;cases Y
  |some WU=>
  rw[Io]at Y
  refine((ah n Zo).part a6 _ _ _ n6 Io).mono ?_ ?_
  ·rintro v5 bN ci ⟨qI,i5,rfl,dW,hF,dM⟩
   simp only[]at Y
   have iP:=dM.le
   have pq:=n6.go hF iP
   have rx:=ei.trans dM
   cases Lz:Go.aL.part n (aZ.drop i5)with
   |none=>rw[Lz]at Y;cases Y
   |some MH=>
   rw[Lz]at Y
   refine((ah n Zo).part bN _ _ _ pq Lz).mono ?_ ?_
   ·rintro Bu b6 dr ⟨Ku,iC,rfl,ec,h2,eD⟩
    simp only[Zf]at Y
    subst Y
    have oB:=eD.le
    obtain⟨m8,rfl,sL,_⟩:=dW.ptr
    obtain⟨Dq,rfl,LD,_⟩:=ec.ptr
    have tI:W X b6 (aV+1)=zD (hv 24 x.at_ c.text false dQ 0 .aY) 9:=by rw[eD.ab _ Zo Zx,dM.ab _ Zo Zx];exact ji
    refine cj @tI ⟨?_⟩
    refine bF _ _ _ ⟨.ptr (aV+1) 0,bo,_,iC,rfl,cn.lit (u:=2) (cap:=2) (b:=aV+1) (m:=9) (st:= .own) (iH:= .own) (ce:=dr) (bk:=[.ptr m8 0, .ptr Dq 0]) ?_ ⟨Zo,Zo⟩ ?_ ⟨Zo,Zo⟩ rfl Zo Zo (de.two (cn.ab (λe z=> ?_) _ _ dW) (cn.ab (λe z=> ?_) _ _ ec) (λe z=> ?_) (λe z=> ?_)),h2.ab (zF) (zF), ?_⟩
    ·exact zQ
    ·exact zQ
    ·have H:=z.1;have M:=z.2
     simp(disch:=omega) only[aI]
     exact eD.ab e Zo Zx
    ·have H:=z.1;have M:=z.2
     simp(disch:=omega) only[aI]
    ·simp only[dU]at z ⊢;omega
    ·simp only[dU]at z ⊢;omega
    ·exact⟨Zo,λb aj bZ=>by rw[<-(rx.trans eD).ab b aj bZ];exact zF⟩
   ·rintro Bu b6 dr ⟨F,rfl,rfl,eD⟩
    simp only[Zf]at Y
    subst Y
    exact⟨F,rfl,rfl,rx.trans eD⟩
  ·rintro v5 bN ci ⟨F,rfl,rfl,dM⟩
   simp only[Zf]at Y
   subst Y
   exact⟨F,rfl,rfl,ei.trans dM⟩
 ·rintro vw bH cC ⟨gz,rfl,eH⟩
  rw[Zg gz]at Y
  simp only[andThen,bad,Zf]at Y
  subst Y
  exact⟨_,rfl,rfl,dz.trans eH⟩
end
section
variable{X:ca}{h R aQ aP:S ag}{j an aV aX aM bU:Nat}{aZ:List Tok}{i:Nat}
def WL(aw:dk X){n:Nat}{r:Except Int (bp×List Tok)}(ay:je X h j aM bU aZ i){x:Tok}{k:List Tok}(aJ:aZ.drop i=x::k)(dN:x.kind≠5)(bR:x.kind≠1)(cX:x.kind≠3)(dc:x.kind=6->x.text≠[40])(cm:x.kind=2->x.text≠[116,114,117,101]/\x.text≠[102,97,108,115,101]/\x.text≠[105,102]/\x.text≠[109,101,114,103,101])(Y:Go.aL.part (n+1) (x::k)=some r):
 a2 X 153 [.ptr aM 0] h j (kw X aM bU aZ h j r) (ju X aM h j r):=by
 refine zG aw (BM X) ?_
 rw[BN]
 unfold yT
 have g0:=ay.a8
 have kQ:=ay.hR
 have iy:=ay.cb
 have ki:=ay.hp
 obtain⟨af,kD⟩:=f2 aJ
 unfold Go.aL.part at Y
 refine(sW aw ay.a8 ay.par ay.hR ay.hp af).Zm ?_
 rintro ac aQ aV ⟨rfl,bL⟩
 have jy:=bL.le
 have eu:=ay.par.ex bL Zo Zo
 obtain⟨c,aq,bf,cf,a3,a4⟩:=eu.at_
 have bR:=kE bf a3
 have k9:=(Zb.1 af).1
 have wv:=ay.many
 have dn:=eu.ne
 have bC:=zE i
 refine hl cg.eq_1 @bR (Za @bC @bf) ⟨?_⟩
 generalize dR:bm X _ aM _=aP
 have fU:W X aP aV=zD (cg x) 7:=by rw[<-dR];exact zQ
 have ji:W X aP (aV+1)=zD (hv 0 x.at_ [] false dQ 0 .aY) 9:=by rw[<-dR];exact zQ
 have dI:aL X aP aM bU aZ (i+1):=by
  refine eu.on (c:=d7 c 1 [.Z ((i+1:Nat):Int)]) ?_ (λdx st a=>by rw[bf]at a;cases a;exact pz ..) ?_
  ·rw[<-dR];simp(disch:=omega) only[aI,bh];rfl
  ·rw[<-dR];simp(disch:=omega) only[aI]
 have dz:ch X [aM] h j aP (aV+2):=by
  refine⟨Zo,λb aj bZ=> ?_⟩
  rw[<-bL.ab b aj, <-dR]
  simp only[Zu,ZK,YX,Yq,ZI,Yb]at bZ
  simp(disch:=omega) only[aI]
 clear dR bR bf cf a3 a4 eu bL
 have uW:∃dC,W X aP aM=some (.cells dC 2 .own)/\aU X aP (.ptr aM 1)=some (.Z ((i+1:Nat):Int)):=by
  obtain⟨c,aq,bQ,cl,cU,fe⟩:=dI.at_
  exact⟨c,bQ,kE bQ cU⟩
 have f7:=ay.go dI (by omega:j<=aV+1+1)
 refine ko (λI R aS=>∃v,I.g 4=some v/\kw X aM bU aZ h j r v R aS) (λV bF=> ?_) (by
  rintro I R aS ⟨v,t4,a⟩
  refine cj @t4 ⟨?_⟩
  exact a)
 have LI:r= .error x.at_:=by
  by_cases M:x.kind=2
  ·obtain⟨fF,h5,yn,MB⟩:=cm M
   have b1:¬x.kind=6:=Zo
   rw[Zg dN,Zg (by simp[fF,h5]),Zg bR,Zg cX,Zg (by simp[b1]),Zg (by simp[yn]),Zg (by simp[MB])]at Y
   simp only[bad,Zf]at Y
   exact Y.symm
  ·by_cases b1:x.kind=6
   ·rw[Zg dN,Zg (by simp[M]),Zg bR,Zg cX,Zg (by simp[dc b1]),Zg (by simp[M]),Zg (by simp[M])]at Y
    simp only[bad,Zf]at Y
    exact Y.symm
   ·rw[Zg dN,Zg (by simp[M]),Zg bR,Zg cX,Zg (by simp[b1]),Zg (by simp[M]),Zg (by simp[M])]at Y
    simp only[bad,Zf]at Y
    exact Y.symm
 subst LI
 have gt:decide (x.kind=5)=false:=by simp[dN]
 have c2:decide (x.kind=1)=false:=by simp[bR]
 have e2:decide (x.kind=3)=false:=by simp[cX]
 obtain⟨dC,TD,TE⟩:=uW
 have cu:bv .sub (.Z ((i+1:Nat):Int)) (.Z 1)=some (.Z (((i+1:Nat):Int) -1)):=by rw[x7 Zo Zo]
 have fin:∀(a6:S ag) (ai:bK),(∀b,b<j->b∉[aM]->W X a6 b=W X aP b)->a2 X 93 [.agg (cg x)] a6 (aV+1+1) ai (ju X aM h j (Except.error x.at_:Except Int (bp×List Tok))):=by
  intro a6 ai al
  refine(KC aw Zo x _ ?_).mono (λ_ _ _ a=>a.elim) (λ_ _ _ a=>a)
  intro R an bY
  have Lr:=bY.le
  exact⟨_,rfl,rfl,Zo,λb aj bZ=>by rw[bY.ab b Zo,al b aj bZ];exact dz.ab b aj bZ⟩
 by_cases M:x.kind=2
 ·obtain⟨fF,h5,yn,MB⟩:=cm M
  have cM:decide (x.kind=2)=true:=by simp[M]
  have ht:decide (x.kind=6)=false:=by simp[M]
  have cE:decide (x.text=[116,114,117,101])=false:=by simp[fF]
  have cA:decide (x.text=[102,97,108,115,101])=false:=by simp[h5]
  have dT:decide (x.text=[105,102])=false:=by simp[yn]
  have fG:decide (x.text=[109,101,114,103,101])=false:=by simp[MB]
  refine eh (bG fU) @ji @gt @cM @c2 @e2 (Za @ht (Za @cE (Za @cA (Za @dT (Za @fG (Za cg.eq_1 (Za @TD (Za @TE @cu)))))))) ⟨?_⟩
  refine fin _ _ (λb aj bZ=> ?_)
  simp only[Zu,ZK,YX,Yq,ZI,Yb]at bZ
  simp(disch:=omega) only[aI]
 ·have cM:decide (x.kind=2)=false:=by simp[M]
  by_cases b1:x.kind=6
  ·have ht:decide (x.kind=6)=true:=by simp[b1]
   have cE:decide (x.text=[40])=false:=by simp[dc b1]
   refine eh (bG fU) @ji @gt @cM @c2 @e2 (Za @ht (Za @cE (Za cg.eq_1 (Za @TD (Za @TE @cu))))) ⟨?_⟩
   refine fin _ _ (λb aj bZ=> ?_)
   simp only[Zu,ZK,YX,Yq,ZI,Yb]at bZ
   simp(disch:=omega) only[aI]
  ·have ht:decide (x.kind=6)=false:=by simp[b1]
   refine eh (bG fU) @ji @gt @cM @c2 @e2 (Za @ht (Za cg.eq_1 (Za @TD (Za @TE @cu)))) ⟨?_⟩
   refine fin _ _ (λb aj bZ=> ?_)
   simp only[Zu,ZK,YX,Yq,ZI,Yb]at bZ
   simp(disch:=omega) only[aI]
end
section
variable{X:ca}{h R aQ aP:S ag}{j an aV aX aM bU:Nat}{aZ:List Tok}{i:Nat}
def ch.kZ{X:ca}{aM:Nat}{h R:S ag}{j an n:Nat}(a:ch X [aM] h j R an)(u:an<=n):ch X [aM] h j R n:=⟨ZD a.le u,a.ab⟩
def lm.one{C:aN}{h:S ag}{s:E}{bd:Nat}{k:List E}{cv:List Nat}(a:lm C h s bd k cv):s.cells=[s]/\po s=true/\E.same 30 s s=true:=by
 rcases a with ⟨rfl,_⟩|⟨b,eS,n,c,rfl,_⟩
 ·exact⟨rfl,rfl,rfl⟩
 ·exact⟨rfl,rfl,by simp[E.same]⟩
def aBo(aw:dk X){n:Nat}(ah:∀m,m<n+1->sd X aM bU aZ m){r:Except Int (bp×List Tok)}(ay:je X h j aM bU aZ i){x:Tok}{k:List Tok}(aJ:aZ.drop i=x::k)(aH:x.kind=2)(ba:x.text=[105,102])(Y:Go.aL.part (n+1) (x::k)=some r):
 a2 X 153 [.ptr aM 0] h j (kw X aM bU aZ h j r) (ju X aM h j r):=by
 refine zG aw (BM X) ?_
 rw[BN]
 unfold yT
 have g0:=ay.a8
 have kQ:=ay.hR
 have iy:=ay.cb
 have ki:=ay.hp
 obtain⟨af,kD⟩:=f2 aJ
 unfold Go.aL.part at Y
 refine(sW aw ay.a8 ay.par ay.hR ay.hp af).Zm ?_
 rintro ac aQ aV ⟨rfl,bL⟩
 have jy:=bL.le
 have eu:=ay.par.ex bL Zo Zo
 obtain⟨c,aq,bf,cf,a3,a4⟩:=eu.at_
 have bR:=kE bf a3
 have k9:=(Zb.1 af).1
 have wv:=ay.many
 have dn:=eu.ne
 have bC:=zE i
 refine hl cg.eq_1 @bR (Za @bC @bf) ⟨?_⟩
 generalize dR:bm X _ aM _=aP
 have fU:W X aP aV=zD (cg x) 7:=by rw[<-dR];exact zQ
 have ji:W X aP (aV+1)=zD (hv 0 x.at_ [] false dQ 0 .aY) 9:=by rw[<-dR];exact zQ
 have dI:aL X aP aM bU aZ (i+1):=by
  refine eu.on (c:=d7 c 1 [.Z ((i+1:Nat):Int)]) ?_ (λdx st a=>by rw[bf]at a;cases a;exact pz ..) ?_
  ·rw[<-dR];simp(disch:=omega) only[aI,bh];rfl
  ·rw[<-dR];simp(disch:=omega) only[aI]
 have dz:ch X [aM] h j aP (aV+2):=by
  refine⟨Zo,λb aj bZ=> ?_⟩
  rw[<-bL.ab b aj, <-dR]
  simp only[Zu,ZK,YX,Yq,ZI,Yb]at bZ
  simp(disch:=omega) only[aI]
 clear dR bR bf cf a3 a4 eu bL
 have uW:∃dC,W X aP aM=some (.cells dC 2 .own)/\aU X aP (.ptr aM 1)=some (.Z ((i+1:Nat):Int)):=by
  obtain⟨c,aq,bQ,cl,cU,fe⟩:=dI.at_
  exact⟨c,bQ,kE bQ cU⟩
 have f7:=ay.go dI (by omega:j<=aV+1+1)
 refine ko (λI R aS=>∃v,I.g 4=some v/\kw X aM bU aZ h j r v R aS) (λV bF=> ?_) (by
  rintro I R aS ⟨v,t4,a⟩
  refine cj @t4 ⟨?_⟩
  exact a)
 rw[Zg (by rw[aH];decide),Zg (by simp[aH,ba]),Zg (by rw[aH];decide),Zg (by rw[aH];decide),Zg (by simp[aH]),Zp (by simp[aH,ba])]at Y
 have gt:decide (x.kind=5)=false:=by simp[aH]
 have cM:decide (x.kind=2)=true:=by simp[aH]
 have c2:decide (x.kind=1)=false:=by simp[aH]
 have e2:decide (x.kind=3)=false:=by simp[aH]
 have ht:decide (x.kind=6)=false:=by simp[aH]
 have cE:decide (x.text=[116,114,117,101])=false:=by simp[ba]
 have cA:decide (x.text=[102,97,108,115,101])=false:=by simp[ba]
 have dT:decide (x.text=[105,102])=true:=by simp[ba]
 refine eh (bG fU) @ji @gt @cM @c2 @e2 (Za @ht (Za @cE (Za @cA (Za @dT (Za cg.eq_1 hv.eq_1))))) ⟨?_⟩
 rw[<-kD]at Y
 refine e0 (λa6=>W X a6 (aV+1)=zD (hv 23 x.at_ [] false dQ 0 .aY) 9/\aL X a6 aM bU aZ (i+1)/\ch X [aM] h j a6 (aV+1+1)) ⟨?_, ?_, ?_⟩ ?_
 ·exact zQ
 ·exact dI.ab (zF) (zF)
 ·exact⟨Zo,λb aj bZ=>by rw[<-dz.ab b aj bZ];exact zF⟩
 clear dI f7 dz fU ji uW
 rintro JY ⟨aed,agk,TZ⟩
 have agD:ga X JY .aY 1 [] []:= .inl (.inl ⟨rfl,rfl,rfl⟩)
 have wh:∀e∈([]:List Nat),aV+2<=e/\e<aV+1+1:=by simp
 have afk:de X JY (wT (aV+2) (aV+1+1) []) [] []:= .nil
 have awT:E.same 30 .aY .aY=true:=rfl
 have aiM:=ay.go agk (by omega:j<=(aV+1+1)+12)
 rcases gJ Y with ⟨F,bw,rfl⟩|⟨Kv,gM,bw,Y⟩
 ·exact((ah n Zo).arrow JY _ _ _ aiM bw).mono zN (λac R an a=>a.of (ch.kZ TZ Zo) (λ_ a=>by cases a;rfl))
 refine((ah n Zo).arrow JY _ _ _ aiM bw).mono ?_ zM
 clear bw
 rintro v5 bN ci ⟨N5,aG4,tR,dW,hF,dM⟩
 cases tR
 have iP:=dM.le
 have rx:=(ch.kZ TZ (by omega:(aV+1+1)<=(aV+1+1)+12)).trans dM
 obtain⟨wQ,rfl,sL,_⟩:=dW.ptr
 have sL:=sL.2
 have sx:W X bN (aV+1)=zD (hv 23 x.at_ [] false dQ 0 E.aY) 9:=by rw[dM.ab _ Zo Zx];exact aed
 have ly:∀e,aV+2<=e->e<(aV+1+1)->W X bN e=W X JY e:=λe H M=>dM.ab e Zo Zx
 have p5:=agD.ab (R:=bN) (λe z=>ly e (wh e z).1 (wh e z).2)
 have wm:=de.ab (R:=bN) (λe z=>ly e z.1 z.2.1) _ _ afk
 clear ly
 refine cS (bG sx) hv.eq_1 ⟨?_⟩
 refine gP awT ?_
 have kV:lZ X (bm X bN ((aV+1+1)+7) (zD [.ptr wQ 0] 1)) 1 (.slice ((aV+1+1)+7) 0 1 1)=some (1,[.ptr wQ 0]):=s2 (bh Zo) (nu _) rfl _
 obtain⟨MM,b6,Hi,iN,ua,sD,pd⟩:=(p5.ab (R:=bm X bN ((aV+1+1)+7) (zD [.ptr wQ 0] 1)) (λe z=>aI Zo (zz (wh e z).2))).append (j:=ci) Zd kV rfl Zd rfl Zs Zo (λe z=>zz (wh e z).2)
 refine kH iN ?_
 have dc:∀e,e<ci->e∉([]:List Nat)->e≠(aV+1+1)+7->W X b6 e=W X bN e:=λe H M al=>by
  rw[pd e Zo M,aI Zo al]
 have tI:W X b6 (aV+1)=zD (hv 23 x.at_ [] false dQ 0 E.aY) 9:=by
  rw[dc _ Zo (λa=>zz (wh _ a)) Zo];exact sx
 obtain⟨rJ,CC,awU⟩:=lm.one ua
 refine cL ⟨?_⟩
 refine gm (ux tI Zo Zo rJ CC) ?_
 have rB:∀e∈Hi,aV+2<=e/\e<ci+1:=by
  intro e z
  rcases sD e z with rfl|z
  ·omega
  ·have:=wh e z;omega
 have EM:de X b6 (wT (aV+2) (ci+1) Hi) ([]++[Kv]) ([]++[.ptr wQ 0]):=by
  refine de.snoc (cn.ab (λe z=> ?_) _ _ dW) (de.ab (λe z=> ?_) _ _ wm) (λe z=>⟨z.1,zz z.2.1,λgA=> ?_⟩) (λe z=>⟨⟨zz z.1,zz z.2,λgA=> ?_⟩,λp7=>by have:=z.1;have:=p7.2.1;omega⟩)
  ·have H:=z.1
   exact dc e z.2 (λgA=>zz (wh e gA)) Zo
  ·have M:=z.2.1
   exact dc e Zo z.2.2 Zo
  ·have M:=z.2.1
   rcases sD e gA with rfl|gA
   ·omega
   ·exact z.2.2 gA
  ·have H:=z.1;have M:=z.2
   rcases sD e gA with rfl|gA
   ·omega
   ·have:=wh e gA;omega
 have eD:ch X [aM] h j b6 (ci+1):=⟨Zo,λb aj bZ=>by
  rw[dc b Zo (λD=>zz (wh _ D)) Zo];exact rx.ab b aj bZ⟩
 have h2:=hF.ab (dc aM Zo (λD=>zz (wh _ D)) Zo) (dc bU Zo (λD=>zz (wh _ D)) Zo)
 clear wm dW hF dM rx sx p5 kV iN pd sD rJ CC afk aed agD agk TZ
 refine cL ⟨?_⟩
 refine e0 (λcy=>W X cy (ci+1)=zD [.str [116,104,101,110]] 1/\W X cy (aV+1)=zD (hv 23 x.at_ [] false dQ 0 MM) 9/\(∀e,e<ci+1->e≠aV+1->W X cy e=W X b6 e)) ⟨bh Zo, ?_, ?_⟩ ?_
 ·exact zQ
 ·intro e H M
  simp(disch:=omega) only[aI]
 clear tI
 rintro cy ⟨Es,KL,f0⟩
 have ii:=h2.ab (f0 aM Zo Zo) (f0 bU Zo Zo)
 have n7:=ay.go ii (by omega:j<=ci+1+1)
 have et:ch X [aM] h j cy (ci+1+1):=⟨Zo,λb aj bZ=>by rw[f0 b Zo Zo];exact eD.ab b aj bZ⟩
 rcases gJ Y with ⟨F,el,rfl⟩|⟨XS,pi,el,Y⟩
 ·exact(ka aw n7 Zo Zo Es el).mono zN (λac R an a=>a.of et (λ_ a=>by cases a;rfl))
 refine(ka aw n7 Zo Zo Es el).mono ?_ zM
 clear el
 rintro JA vK yh ⟨aFa,aG2,EK,_,agl,gZ⟩
 cases EK
 have aGd:=gZ.le
 have T0:=et.trans gZ
 have Tw:W X vK (aV+1)=zD (hv 23 x.at_ [] false dQ 0 MM) 9:=by rw[gZ.ab _ Zo Zx];exact KL
 have ej:∀e,aV+2<=e->e<ci+1->W X vK e=W X b6 e:=λe H M=>by
  rw[gZ.ab e Zo Zx,f0 e M Zo]
 have agE:ga X vK MM 1 ([]++[.ptr wQ 0]) Hi:= .inl (ua.ab (λe z=>ej e (rB e z).1 (rB e z).2))
 have afl:de X vK (wT (aV+2) yh Hi) ([]++[Kv]) ([]++[.ptr wQ 0]):=
  de.lift (λe z=>⟨z.1,zz z.2.1,z.2.2⟩) _ _ (de.ab (λe z=>ej e z.1 z.2.1) _ _ EM)
 have rB:∀e∈Hi,aV+2<=e/\e<yh:=λe z=>zz (rB e z)
 clear EM ua h2 eD ii n7 et gZ Es KL f0 dc ej
 refine cS (bG Tw) hv.eq_1 ⟨?_⟩
 have aiN:=ay.go agl (by omega:j<=yh+12)
 rcases gJ Y with ⟨F,bw,rfl⟩|⟨S0,gM,bw,Y⟩
 ·exact((ah n Zo).arrow vK _ _ _ aiN bw).mono zN (λac R an a=>a.of (ch.kZ T0 Zo) (λ_ a=>by cases a;rfl))
 refine((ah n Zo).arrow vK _ _ _ aiN bw).mono ?_ zM
 clear bw
 rintro v5 bN ci ⟨N5,aG5,tR,dW,hF,dM⟩
 cases tR
 have iP:=dM.le
 have rx:=(ch.kZ T0 (by omega:yh<=yh+12)).trans dM
 obtain⟨Dr,rfl,sL,_⟩:=dW.ptr
 have sL:=sL.2
 have sx:W X bN (aV+1)=zD (hv 23 x.at_ [] false dQ 0 MM) 9:=by rw[dM.ab _ Zo Zx];exact Tw
 have ly:∀e,aV+2<=e->e<yh->W X bN e=W X vK e:=λe H M=>dM.ab e Zo Zx
 have p5:=agE.ab (R:=bN) (λe z=>ly e (rB e z).1 (rB e z).2)
 have wm:=de.ab (R:=bN) (λe z=>ly e z.1 z.2.1) _ _ afl
 clear ly
 refine cS (bG sx) hv.eq_1 ⟨?_⟩
 refine gP awU ?_
 have kV:lZ X (bm X bN (yh+7) (zD [.ptr Dr 0] 1)) 1 (.slice (yh+7) 0 1 1)=some (1,[.ptr Dr 0]):=s2 (bh Zo) (nu _) rfl _
 obtain⟨F7,b6,Hj,iN,ua,sD,pd⟩:=(p5.ab (R:=bm X bN (yh+7) (zD [.ptr Dr 0] 1)) (λe z=>aI Zo (zz (rB e z).2))).append (j:=ci) Zd kV rfl Zd rfl Zs Zo (λe z=>zz (rB e z).2)
 refine kH iN ?_
 have dc:∀e,e<ci->e∉Hi->e≠yh+7->W X b6 e=W X bN e:=λe H M al=>by
  rw[pd e Zo M,aI Zo al]
 have tI:W X b6 (aV+1)=zD (hv 23 x.at_ [] false dQ 0 MM) 9:=by
  rw[dc _ Zo (λa=>zz (rB _ a)) Zo];exact sx
 obtain⟨rJ,CC,awV⟩:=lm.one ua
 refine cL ⟨?_⟩
 refine gm (ux tI Zo Zo rJ CC) ?_
 have rC:∀e∈Hj,aV+2<=e/\e<ci+1:=by
  intro e z
  rcases sD e z with rfl|z
  ·omega
  ·have:=rB e z;omega
 have EM:de X b6 (wT (aV+2) (ci+1) Hj) (([]++[Kv])++[S0]) (([]++[.ptr wQ 0])++[.ptr Dr 0]):=by
  refine de.snoc (cn.ab (λe z=> ?_) _ _ dW) (de.ab (λe z=> ?_) _ _ wm) (λe z=>⟨z.1,zz z.2.1,λgA=> ?_⟩) (λe z=>⟨⟨zz z.1,zz z.2,λgA=> ?_⟩,λp7=>by have:=z.1;have:=p7.2.1;omega⟩)
  ·have H:=z.1
   exact dc e z.2 (λgA=>zz (rB e gA)) Zo
  ·have M:=z.2.1
   exact dc e Zo z.2.2 Zo
  ·have M:=z.2.1
   rcases sD e gA with rfl|gA
   ·omega
   ·exact z.2.2 gA
  ·have H:=z.1;have M:=z.2
   rcases sD e gA with rfl|gA
   ·omega
   ·have:=rB e gA;omega
 have eD:ch X [aM] h j b6 (ci+1):=⟨Zo,λb aj bZ=>by
  rw[dc b Zo (λD=>zz (rB _ D)) Zo];exact rx.ab b aj bZ⟩
 have h2:=hF.ab (dc aM Zo (λD=>zz (rB _ D)) Zo) (dc bU Zo (λD=>zz (rB _ D)) Zo)
 clear wm dW hF dM rx sx p5 kV iN pd sD rJ CC afl Tw agE agl T0
 refine cL ⟨?_⟩
 refine e0 (λcy=>W X cy (ci+1)=zD [.str [101,108,115,101]] 1/\W X cy (aV+1)=zD (hv 23 x.at_ [] false dQ 0 F7) 9/\(∀e,e<ci+1->e≠aV+1->W X cy e=W X b6 e)) ⟨bh Zo, ?_, ?_⟩ ?_
 ·exact zQ
 ·intro e H M
  simp(disch:=omega) only[aI]
 clear tI
 rintro cy ⟨Es,KL,f0⟩
 have ii:=h2.ab (f0 aM Zo Zo) (f0 bU Zo Zo)
 have n7:=ay.go ii (by omega:j<=ci+1+1)
 have et:ch X [aM] h j cy (ci+1+1):=⟨Zo,λb aj bZ=>by rw[f0 b Zo Zo];exact eD.ab b aj bZ⟩
 rcases gJ Y with ⟨F,el,rfl⟩|⟨XS,pi,el,Y⟩
 ·exact(ka aw n7 Zo Zo Es el).mono zN (λac R an a=>a.of et (λ_ a=>by cases a;rfl))
 refine(ka aw n7 Zo Zo Es el).mono ?_ zM
 clear el
 rintro JA DV yi ⟨aFa,aG3,EK,_,agm,gZ⟩
 cases EK
 have aGe:=gZ.le
 have T1:=et.trans gZ
 have Tx:W X DV (aV+1)=zD (hv 23 x.at_ [] false dQ 0 F7) 9:=by rw[gZ.ab _ Zo Zx];exact KL
 have ej:∀e,aV+2<=e->e<ci+1->W X DV e=W X b6 e:=λe H M=>by
  rw[gZ.ab e Zo Zx,f0 e M Zo]
 have agF:ga X DV F7 1 (([]++[.ptr wQ 0])++[.ptr Dr 0]) Hj:= .inl (ua.ab (λe z=>ej e (rC e z).1 (rC e z).2))
 have afm:de X DV (wT (aV+2) yi Hj) (([]++[Kv])++[S0]) (([]++[.ptr wQ 0])++[.ptr Dr 0]):=
  de.lift (λe z=>⟨z.1,zz z.2.1,z.2.2⟩) _ _ (de.ab (λe z=>ej e z.1 z.2.1) _ _ EM)
 have rC:∀e∈Hj,aV+2<=e/\e<yi:=λe z=>zz (rC e z)
 clear EM ua h2 eD ii n7 et gZ Es KL f0 dc ej
 refine cS (bG Tx) hv.eq_1 ⟨?_⟩
 have aiO:=ay.go agm (by omega:j<=yi+12)
 rcases gJ Y with ⟨F,bw,rfl⟩|⟨arp,gM,bw,Y⟩
 ·exact((ah n Zo).arrow DV _ _ _ aiO bw).mono zN (λac R an a=>a.of (ch.kZ T1 Zo) (λ_ a=>by cases a;rfl))
 refine((ah n Zo).arrow DV _ _ _ aiO bw).mono ?_ zM
 clear bw
 rintro v5 bN ci ⟨N5,axG,tR,dW,hF,dM⟩
 cases tR
 have iP:=dM.le
 have rx:=(ch.kZ T1 (by omega:yi<=yi+12)).trans dM
 obtain⟨MF,rfl,sL,_⟩:=dW.ptr
 have sL:=sL.2
 have sx:W X bN (aV+1)=zD (hv 23 x.at_ [] false dQ 0 F7) 9:=by rw[dM.ab _ Zo Zx];exact Tx
 have ly:∀e,aV+2<=e->e<yi->W X bN e=W X DV e:=λe H M=>dM.ab e Zo Zx
 have p5:=agF.ab (R:=bN) (λe z=>ly e (rC e z).1 (rC e z).2)
 have wm:=de.ab (R:=bN) (λe z=>ly e z.1 z.2.1) _ _ afm
 clear ly
 refine cS (bG sx) hv.eq_1 ⟨?_⟩
 refine gP awV ?_
 have kV:lZ X (bm X bN (yi+7) (zD [.ptr MF 0] 1)) 1 (.slice (yi+7) 0 1 1)=some (1,[.ptr MF 0]):=s2 (bh Zo) (nu _) rfl _
 obtain⟨Xa,b6,Sh,iN,ua,sD,pd⟩:=(p5.ab (R:=bm X bN (yi+7) (zD [.ptr MF 0] 1)) (λe z=>aI Zo (zz (rC e z).2))).append (j:=ci) Zd kV rfl Zd rfl Zs Zo (λe z=>zz (rC e z).2)
 refine kH iN ?_
 have dc:∀e,e<ci->e∉Hj->e≠yi+7->W X b6 e=W X bN e:=λe H M al=>by
  rw[pd e Zo M,aI Zo al]
 have tI:W X b6 (aV+1)=zD (hv 23 x.at_ [] false dQ 0 F7) 9:=by
  rw[dc _ Zo (λa=>zz (rC _ a)) Zo];exact sx
 obtain⟨rJ,CC,aGO⟩:=lm.one ua
 refine cL ⟨?_⟩
 refine gm (ux tI Zo Zo rJ CC) ?_
 have ae5:∀e∈Sh,aV+2<=e/\e<ci+1:=by
  intro e z
  rcases sD e z with rfl|z
  ·omega
  ·have:=rC e z;omega
 have EM:de X b6 (wT (aV+2) (ci+1) Sh) (([]++[Kv]++[S0])++[arp]) (([]++[.ptr wQ 0]++[.ptr Dr 0])++[.ptr MF 0]):=by
  refine de.snoc (cn.ab (λe z=> ?_) _ _ dW) (de.ab (λe z=> ?_) _ _ wm) (λe z=>⟨z.1,zz z.2.1,λgA=> ?_⟩) (λe z=>⟨⟨zz z.1,zz z.2,λgA=> ?_⟩,λp7=>by have:=z.1;have:=p7.2.1;omega⟩)
  ·have H:=z.1
   exact dc e z.2 (λgA=>zz (rC e gA)) Zo
  ·have M:=z.2.1
   exact dc e Zo z.2.2 Zo
  ·have M:=z.2.1
   rcases sD e gA with rfl|gA
   ·omega
   ·exact z.2.2 gA
  ·have H:=z.1;have M:=z.2
   rcases sD e gA with rfl|gA
   ·omega
   ·have:=rC e gA;omega
 have eD:ch X [aM] h j b6 (ci+1):=⟨Zo,λb aj bZ=>by
  rw[dc b Zo (λD=>zz (rC _ D)) Zo];exact rx.ab b aj bZ⟩
 have h2:=hF.ab (dc aM Zo (λD=>zz (rC _ D)) Zo) (dc bU Zo (λD=>zz (rC _ D)) Zo)
 clear wm dW hF dM rx sx p5 kV iN pd sD rJ CC afm Tx agF agm T1
 simp only[ok,Zf]at Y
 subst Y
 have g4:∀e,e≠aV+1->W X (bm X b6 (aV+1) (some (.cells ((S.ofList (hv 23 x.at_ [] false dQ 0 F7) 0 .nil).set 8 (some Xa)) 9 .own))) e=W X b6 e:=λe a=>aI Zo a
 obtain⟨ce,cG⟩:=(ga.ab (R:=bm X b6 (aV+1) (some (.cells ((S.ofList (hv 23 x.at_ [] false dQ 0 F7) 0 .nil).set 8 (some Xa)) 9 .own))) (.inl ua) (λe z=>g4 e (zz (ae5 e z)))).QI (P:=λe=>dU (aV+2) (ci+1) e/\e∈Sh) Zs (λe z=>⟨by have:=ae5 e z;exact⟨Zo,Zo⟩,z⟩)
 refine bF _ _ _ ⟨.ptr (aV+1) 0,bo,_,axG,rfl,cn.of (b:=aV+1) (m:=9) (st:= .own) (ce:=ce) (aO:=Xa) (kind:=23) (at_:=x.at_) (name:=[]) (no:=false) (ty:=dQ) (n:=0) (bk:=[.ptr wQ 0, .ptr Dr 0, .ptr MF 0]) ?_ ⟨Zo,Zo⟩ (cG.lift (λe z=>⟨zz z.1.1,z.1.2⟩)) (λ_=> ?_) ?_, ?_, ?_⟩
 ·rw[bh Zo];rfl
 ·have:=(cG.aj Zs).1.1
  omega
 ·exact de.lift (λe z=>⟨⟨zz z.1.1,zz z.1.2⟩,zz z.1.1,z.2⟩) _ _ (de.off (de.ab (λe z=>g4 e (zz z.1)) _ _ EM) cG)
 ·exact h2.ab (g4 _ Zo) (g4 _ Zo)
 ·exact⟨eD.le,λb aj bZ=>by rw[g4 b Zo];exact eD.ab b aj bZ⟩
end
section
variable{X:ca}{h R aQ aP:S ag}{j an aV aX aM bU:Nat}{aZ:List Tok}{i:Nat}
def aBs(aw:dk X){n:Nat}(tX:n<=300000)(ah:∀m,m<n->sd X aM bU aZ m):∀h j i r,je X h j aM bU aZ i->Go.aL.part n (aZ.drop i)=some r->a2 X 153 [.ptr aM 0] h j (kw X aM bU aZ h j r) (ju X aM h j r):=by
 intro h j i r ay Y
 cases n with
 |zero=>simp[Go.aL.part]at Y
 |succ n=>
 cases aJ:aZ.drop i with
 |nil=>rw[aJ]at Y;simp[Go.aL.part]at Y
 |cons x k=>
 rw[aJ]at Y
 by_cases dN:x.kind=5
 ·exact aBp aw ay aJ dN Y
 by_cases bR:x.kind=1
 ·exact aBr aw ah ay aJ Zo bR Y
 by_cases cX:x.kind=3
 ·exact aBu aw ah ay aJ cX Y
 by_cases dc:x.kind=6
 ·by_cases ba:x.text=[40]
  ·exact aBt aw ah ay aJ dc ba Y
  ·exact WL aw ay aJ dN bR cX (λ_=>ba) (λa=>Zo) Y
 by_cases cm:x.kind=2
 ·by_cases H:x.text=[116,114,117,101]
  ·exact aiE aw ay aJ cm (.inl H) Y
  by_cases M:x.text=[102,97,108,115,101]
  ·exact aiE aw ay aJ cm (.inr M) Y
  by_cases al:x.text=[105,102]
  ·exact aBo aw ah ay aJ cm al Y
  by_cases aB:x.text=[109,101,114,103,101]
  ·exact aBq aw ah ay aJ cm aB Y
  ·exact WL aw ay aJ dN bR cX (λa=>Zo) (λ_=>⟨H,M,al,aB⟩) Y
 ·exact WL aw ay aJ dN bR cX (λa=>Zo) (λa=>absurd a cm) Y
def aci(aw:dk X)(dZ:xd X):∀n,n<=300000->sd X aM bU aZ n:=by
 intro n
 induction n using Nat.strongRecOn with
 |ind n ah=>
  intro aF
  have ah:∀m,m<n->sd X aM bU aZ m:=λm bn=>ah m bn Zo
  exact⟨ay7 aw dZ ah,aC1 aw ah,aBG aw ah,aBs aw aF ah,asd aw ah,apI aw ah,azi aw aF ah⟩
end
def IF(n:Int):E:= .Z n
def vJ(X:ca)(h:S ag)(hU aG:Nat)(left:List aR)(df:List Int):Prop:=hU<aG/\(o X).a8<=hU/\∃c aO jV BX uJ,W X h hU=some (.cells c 4 .own)/\c.get 0=some aO/\c.get 1=some jV/\ga X h aO 1 (left.map .str) BX/\ga X h jV 1 (df.map IF) uJ
 /\(∀e∈BX,hU<e/\e<aG/\e∉uJ)/\∀e∈uJ,hU<e/\e<aG
def vJ.ab{X:ca}{h R:S ag}{hU aG k8:Nat}{left:List aR}{df:List Int}(a:vJ X h hU aG left df)(u:∀e,hU<=e->e<aG->W X R e=W X h e)(gL:aG<=k8):vJ X R hU k8 left df:=by
 obtain⟨aK,Ev,c,aO,jV,BX,uJ,H,M,al,aB,bw,b1,c6⟩:=a
 exact⟨Zo,Ev,c,aO,jV,BX,uJ,by rw[u hU Zo aK];exact H,M,al,aB.ab (λe z=>u e (zz (b1 e z)) (b1 e z).2.1),bw.ab (λe z=>u e (zz (c6 e z)) (c6 e z).2),
  λe z=>by have:=b1 e z;exact⟨this.1,Zo,this.2.2⟩,λe z=>zz (c6 e z)⟩
def ga.one{C:aN}{h:S ag}{s:E}{bd:Nat}{k:List E}{cv:List Nat}(a:ga C h s bd k cv):s.cells=[s]/\po s=true/\E.same 30 s s=true:=by
 rcases a with a|⟨b,n,c,st,rfl,_⟩
 ·exact lm.one a
 ·exact⟨rfl,rfl,by simp[E.same]⟩
section
variable{X:ca}{h R aQ aP:S ag}{j an aV aX aM bU:Nat}{aZ:List Tok}{i:Nat}
def Wz(aw:dk X)(ay:je X h j aM bU aZ i){jE hU:Nat}(Lz:jE<hU)(aGE:jE≠aM)(auI:aM<hU)(auJ:bU<hU)(awx:aU X h (.ptr jE 0)=some (.ptr aM 0)){left:List aR}{df:List Int}(bM:vJ X h hU j left df)(bn:left.length<=1000000)(ES:df.length<=300000){x:Tok}{k:List Tok}(aJ:aZ.drop i=x::k):
 a2 X 94 [.ptr jE 0, .ptr hU 0] h j (λac R an=>x.kind=1/\ac= .tuple []/\vJ X R hU an (left++[x.text]) (df++[x.at_])/\aL X R aM bU aZ (i+1)/\j<=an/\ch X [aM] h hU R an)
  (λac R an=>x.kind≠1/\ac=pQ 21 x.at_/\ch X [aM] h j R an):=by
 refine zG aw (aoB X) ?_
 rw[aoC]
 unfold abL
 have g0:=ay.a8
 have kQ:=ay.hR
 have iy:=ay.cb
 have ki:=ay.hp
 refine cj @awx ⟨?_⟩
 refine(Dg aw ay.a8 ay.par ay.cb ay.hR ay.hp ay.many (f2 aJ).1 1).mono ?_ (λac R an a=>a)
 rintro ac aQ aV ⟨aH,rfl,eu,iM⟩
 have jy:=iM.le
 have iA:=bM.ab (R:=aQ) (k8:=aV) (λe H M=>iM.ab e M Zx) jy
 have aGK:=bM.1
 clear bM
 obtain⟨aK,Ev,c,aO,jV,BX,uJ,bP,b2,cI,dL,fg,d1,ew⟩:=iA
 obtain⟨hc,nB,sZ⟩:=ga.one dL
 obtain⟨I4,Dd,ui⟩:=ga.one fg
 refine gk cg.eq_1 (bG bP) @b2 @cI ⟨?_⟩
 have kV:∀gV,W X gV (aV+1+4)=zD [.str x.text] 1->lZ X gV 1 (.slice (aV+1+4) 0 1 1)=some (1,[.str x.text]):=λgV a=>s2 a (nu _) rfl _
 have aw3:∀gV,W X gV (aV+1+10)=zD [.Z x.at_] 1->lZ X gV 1 (.slice (aV+1+10) 0 1 1)=some (1,[.Z x.at_]):=λgV a=>s2 a (nu _) rfl _
 generalize eQ:bm X _ (aV+1+10) _=a6
 have cX:∀e,e<aV->W X a6 e=W X aQ e:=λe z=>by rw[<-eQ];exact zF
 have t3:W X a6 aV=zD (cg x) 7:=by rw[<-eQ];exact zQ
 have fL:W X a6 (aV+1+4)=zD [.str x.text] 1:=by rw[<-eQ];exact zQ
 have kO:W X a6 (aV+1+10)=zD [.Z x.at_] 1:=by rw[<-eQ];exact zQ
 clear eQ
 obtain⟨e1,bH,acA,iN,t8,wg,gz⟩:=(dL.ab (R:=a6) (λe z=>cX e (d1 e z).2.1)).append (j:=aV+1+16) Zd (kV a6 fL) rfl Zd rfl Zx Zo (λe z=>zz (d1 e z).2.1)
 refine kH iN ?_
 have fG:W X bH hU=some (.cells c 4 .own):=by rw[gz _ Zo (λa=>zz (d1 _ a).1),cX _ aK];exact bP
 have t4:W X bH aV=zD (cg x) 7:=by rw[gz _ Zo (λa=>zz (d1 _ a).2.1)];exact t3
 have f4:W X bH (aV+1+10)=zD [.Z x.at_] 1:=by rw[gz _ Zo (λa=>zz (d1 _ a).2.1)];exact kO
 refine cS (bG fG) @cI ⟨?_⟩
 refine gP ui ?_
 refine cS (bG t4) cg.eq_1 ⟨?_⟩
 refine gP (pt _ _) ?_
 have asU:ga X bH jV 1 (df.map IF) uJ:=fg.ab (λe z=>by
  rw[gz e (zz (ew e z)) (λa=>(d1 e a).2.2 z)]
  exact cX e (ew e z).2)
 obtain⟨Xb,bN,Sg,auv,p5,Ay,nq⟩:=asU.append (j:=aV+1+16+1) Zd (aw3 bH f4) rfl Zd rfl Zx Zo (λe z=>zz (ew e z).2)
 refine kH auv ?_
 obtain⟨fF,h5,yn⟩:=lm.one t8
 obtain⟨MB,aBc,aHr⟩:=lm.one p5
 have m8:W X bN hU=some (.cells c 4 .own):=by rw[nq _ Zo (λa=>zz (ew _ a).1)];exact fG
 refine gm (ux m8 Zo Zo fF h5) ?_
 refine cL ⟨?_⟩
 refine gm (ux (bh Zo) Zo Zo MB aBc) ?_
 have ahf:∀e∈acA,hU<e/\e<aV+1+16+1+1/\e∉Sg:=by
  intro e z
  rcases wg e z with rfl|z
  ·refine⟨Zo,Zo,λa=> ?_⟩
   rcases Ay _ a with a|a
   ·omega
   ·have:=ew _ a;omega
  ·obtain⟨bf,cf,a3⟩:=d1 e z
   refine⟨Zo,Zo,λa=> ?_⟩
   rcases Ay _ a with a|a
   ·omega
   ·exact a3 a
 have ahg:∀e∈Sg,hU<e/\e<aV+1+16+1+1:=by
  intro e z
  rcases Ay e z with rfl|z
  ·omega
  ·have:=ew e z;omega
 have f0:∀gV,gV=bm X (bm X bN hU (some (.cells (c.set 0 (some e1)) 4 .own))) hU (some (.cells ((c.set 0 (some e1)).set 1 (some Xb)) 4 .own))->∀e,e≠hU->W X gV e=W X bN e:=by
  rintro gV rfl e z
  rw[aI Zo z,aI Zo z]
 refine⟨aH,rfl,⟨Zo,Ev,(c.set 0 (some e1)).set 1 (some Xb),e1,Xb,acA,Sg,bh Zo, ?_, ?_, ?_, ?_,ahf,ahg⟩, ?_,Zo,Zo,λb aj bZ=> ?_⟩
 ·rw[S.jP,Zg Zd,S.jP,Zp rfl]
 ·rw[S.jP,Zp rfl]
 ·rw[ZW]
  refine .inl (t8.ab λe z=> ?_)
  have:=ahf e z
  rw[f0 _ rfl e Zo,nq e (by rcases wg e z with rfl|a;omega;have:=d1 e a;omega) (λa=> ?_)]
  rcases wg e z with rfl|cF
  ·have:=ew _ a;omega
  ·exact(d1 e cF).2.2 a
 ·rw[ZW]
  exact .inl (p5.ab λe z=>f0 _ rfl e (zz (ahg e z)))
 ·have gG:∀e,e<hU->W X bN e=W X aQ e:=λe z=>by
   rw[nq e Zo (λa=>zz (ew _ a)),gz e Zo (λa=>zz (d1 _ a)),cX e Zo]
  exact eu.ab (by rw[f0 _ rfl _ Zo,gG _ auI]) (by rw[f0 _ rfl _ Zo,gG _ auJ])
 ·rw[f0 _ rfl _ Zo,nq b Zo (λa=>zz (ew _ a)),gz b Zo (λa=>zz (d1 _ a)),cX b Zo]
  exact iM.ab b Zo bZ
end
def BG(X:ca)(h:S ag)(P:Nat->Prop)(ak:eZ)(row:List E):Prop:=∃aO jV bQ cl il,row=[aO,jV, .Z ak.at_,il]/\dV X h P bQ aO 1 (f8 ak.left)/\(dV X h P cl jV 1 (ak.df.map λn=>[IF n])/\cn X h (λe=>P e/\(ak.df≠[]->e≠cl)) ak.right il)/\cn X h P ak.right il/\iF row=true
def BG.ab{X:ca}{h R:S ag}{P a7:Nat->Prop}{ak:eZ}{row:List E}(a:BG X h P ak row)(u:∀e,P e->W X R e=W X h e)(az:∀e,P e->a7 e):BG X R a7 ak row:=by
 obtain⟨aO,jV,bQ,cl,il,H,M,al,aB,bw⟩:=a
 exact⟨aO,jV,bQ,cl,il,H,(M.ab u).lift az,⟨(al.1.ab u).lift az,cn.lift (λe z=>⟨az e z.1,z.2⟩) _ _ (cn.ab (λe z=>u e z.1) _ _ al.2)⟩,cn.lift az _ _ (cn.ab u _ _ aB),bw⟩
def vF(X:ca)(h:S ag)(P:Nat->Prop)(ak:eZ)(row:List E):Prop:=∃(ai:Nat->Nat) (aO jV:E) (bQ cl:Nat) (il:E),row=[aO,jV, .Z ak.at_,il]/\iI X h (λe=>P e/\ai e=1) bQ aO 1 (f8 ak.left)/\dV X h (λe=>P e/\ai e=2) cl jV 1 (ak.df.map λn=>[IF n])/\cn X h (λe=>P e/\ai e=0) ak.right il/\iF row=true
def vF.ab{X:ca}{h R:S ag}{P a7:Nat->Prop}{ak:eZ}{row:List E}(a:vF X h P ak row)(u:∀e,P e->W X R e=W X h e)(az:∀e,P e->a7 e):vF X R a7 ak row:=by
 obtain⟨ai,aO,jV,bQ,cl,il,H,M,al,aB,bw⟩:=a
 exact⟨ai,aO,jV,bQ,cl,il,H,(M.ab λe z=>u e z.1).lift λe z=>⟨az e z.1,z.2⟩,(al.ab λe z=>u e z.1).lift λe z=>⟨az e z.1,z.2⟩,cn.lift (λe z=>⟨az e z.1,z.2⟩) _ _ (cn.ab (λe z=>u e z.1) _ _ aB),bw⟩
def vF.row{X:ca}{h:S ag}{P:Nat->Prop}{ak:eZ}{row:List E}(a:vF X h P ak row):BG X h P ak row:=by
 obtain⟨ai,aO,jV,bQ,cl,il,H,M,al,aB,bw⟩:=a
 exact⟨aO,jV,bQ,cl,il,H,M.rd.lift λe z=>z.1,⟨al.lift λe z=>z.1,cn.lift (λe z=>⟨z.1,λdn D=>by have:=(al.aj (by simpa using dn)).2;rw[<-D,z.2]at this;cases this⟩) _ _ aB⟩,cn.lift (λe z=>z.1) _ _ aB,bw⟩
section
variable{X:ca}{h R aQ aP:S ag}{j an aV aX aM bU:Nat}{aZ:List Tok}{i:Nat}
def arT(aw:dk X)(dZ:xd X){n:Nat}(tX:n<=200000)(ay:je X h j aM bU aZ i){r:Except Int (eZ×List Tok)}(Y:vY n (aZ.drop i)=some r):
 a2 X 73 [.ptr aM 0] h j (λac R an=>∃ak cJ row,r= .ok (ak,aZ.drop cJ)/\ac= .agg row/\vF X R (dU j an) ak row/\aL X R aM bU aZ cJ/\ch X [aM] h j R an) (ju X aM h j r):=by
 refine zG aw (anX X) ?_
 rw[anY]
 unfold abm
 have g0:=ay.a8
 have kQ:=ay.hR
 have iy:=ay.cb
 have ki:=ay.hp
 unfold vY at Y
 obtain⟨x,bS,aJ,af⟩:=r6 Y
 refine cL ⟨?_⟩
 refine e0 (λaQ=>aU X aQ (.ptr j 0)=some (.ptr aM 0)/\W X aQ (j+1)=zD [.aY, .aY, .Z 0, .cN] 4/\vJ X aQ (j+2) (j+1+1+1) [] []/\aL X aQ aM bU aZ i/\br X h j aQ (j+1+1+1)) ⟨?_, ?_, ?_, ?_, ?_⟩ ?_
 ·exact bo
 ·exact zQ
 ·exact⟨Zo,Zo,_, .aY, .aY,[],[],bh Zo,rfl,rfl, .inl (.inl ⟨rfl,rfl,rfl⟩), .inl (.inl ⟨rfl,rfl,rfl⟩),Zs,Zs⟩
 ·exact ay.par.ab (zF) (zF)
 ·exact dH
 rintro aQ ⟨fM,rv,iA,eu,bL⟩
 have nC:=ay.go eu (by omega:j<=j+1+1+1)
 refine(oM aw nC aJ _).Zm ?_
 rintro DA aP aX ⟨rfl,dI,dz⟩
 have fN:=dz.le
 have xI:=(ch.of (X:=[aM]) bL).trans dz
 refine rt cg.eq_1 ⟨?_⟩
 refine ko (λI R aS=>∃(ck:List Tok) (cJ:Nat),I.g 1=some (.ptr j 0)/\I.g 2=some (.ptr (j+1) 0)/\I.g 3=some (.ptr (j+2) 0)/\vJ X R (j+2) aS (ck.map Tok.text) (ck.map Tok.at_)/\aL X R aM bU aZ cJ/\j+2<aS/\ch X [aM] h j R aS/\aU X R (.ptr j 0)=some (.ptr aM 0)/\W X R (j+1)=zD [.aY, .aY, .Z 0, .cN] 4/\ck.length<=300000/\
  (andThen (eL [61] (aZ.drop cJ)) λD k=>andThen (arrow n k) λr k=>andThen (eL [59] k) λ_ k=>ok (⟨ck.map Tok.text,ck.map Tok.at_,D.at_,r⟩:eZ) k)=some r) (λV bF=> ?_) ?_
 ·
  have HM:aU X aP (.ptr j 0)=some (.ptr aM 0):=by rw[dz.e6 _ _ Zo Zx];exact fM
  have v6:W X aP (j+1)=zD [.aY, .aY, .Z 0, .cN] 4:=by rw[dz.ab _ Zo Zx];exact rv
  have n1:=iA.ab (R:=aP) (k8:=aX) (λe H M=>dz.ab e M Zx) fN
  rcases af with ⟨aC,Y⟩|⟨aC,Y⟩
  ·rw[aC]at dI ⊢
   simp only[ZG]at dI ⊢
   rw[<-(f2 aJ).2]at Y
   simp only[]at Y
   refine cj cg.eq_1 ⟨?_⟩
   simp only[YF,Yh]
   refine e0 (λa6=>aU X a6 (.ptr j 0)=some (.ptr aM 0)/\W X a6 (j+1)=zD [.aY, .aY, .Z 0, .cN] 4/\vJ X a6 (j+2) (aX+1) [] []/\aL X a6 aM bU aZ (i+1)/\ch X [aM] h j a6 (aX+1)) ⟨?_, ?_, ?_, ?_, ?_⟩ ?_
   ·exact Ts @HM
   ·simp(disch:=omega) only[aI];exact v6
   ·exact n1.ab (λe H M=>zF) Zo
   ·exact dI.ab (zF) (zF)
   ·exact⟨Zo,λb aj bZ=>by rw[<-xI.ab b aj bZ];exact zF⟩
   clear HM v6 n1 dI xI dz bL eu iA rv fM nC
   rintro a6 ⟨v7,uX,pg,g2,ei⟩
   have n6:=ay.go g2 (by omega:j<=aX+1)
   cases u5:aZ.drop (i+1)with
   |nil=>rw[u5]at Y;simp[jq,andThen]at Y
   |cons e eW=>
   rw[u5]at Y
   simp only[jq]at Y
   refine(Wz aw n6 Zo Zo Zo Zo v7 pg Zs Zs u5).mono ?_ ?_
   ·rintro vw bH cC ⟨gz,rfl,rK,hE,iu,eH⟩
    rw[Zp gz]at Y
    simp only[andThen,ok]at Y
    rw[<-(f2 u5).2]at Y
    have Eu:aU X bH (.ptr j 0)=some (.ptr aM 0):=by rw[eH.e6 _ _ Zo Zx];exact v7
    have Am:W X bH (j+1)=zD [.aY, .aY, .Z 0, .cN] 4:=by rw[eH.ab _ Zo Zx];exact uX
    have aeO:ch X [aM] h j bH cC:=⟨Zo,λb aj bZ=>by rw[eH.ab b Zo bZ];exact ei.ab b aj bZ⟩
    refine cj @Eu ⟨?_⟩
    refine e0 (λbN=>W X bN cC=zD [.str [44]] 1/\br X bH cC bN (cC+1)) ⟨bh Zo,dH⟩ ?_
    rintro bN ⟨aet,dW⟩
    have pq:=ay.go (hE.ex dW Zo Zo) (by omega:j<=cC+1)
    have dM:=aeO.trans (ch.of dW)
    have ag3:=Y
    cases bb:eL [44] (aZ.drop (i+1+1))with
    |none=>rw[bb]at Y;cases Y
    |some Bm=>
    rw[bb]at Y
    refine(ka aw pq Zo Zo aet bb).mono ?_ ?_
    ·rintro Bu b6 dr ⟨JB,iC,rfl,_,h2,eD⟩
     have oB:=eD.le
     simp only[]at Y
     have KO:aU X b6 (.ptr j 0)=some (.ptr aM 0):=by rw[eD.e6 _ _ Zo Zx,dW.e6 _ _ Zo];exact Eu
     have Cj:W X b6 (j+1)=zD [.aY, .aY, .Z 0, .cN] 4:=by rw[eD.ab _ Zo Zx,dW.ab _ Zo];exact Am
     have LD:=rK.ab (R:=b6) (k8:=dr) (λe H M=>by rw[eD.ab e Zo Zx,dW.ab e M]) Zo
     have wa:=dM.trans eD
     clear Eu Am rK hE eH aeO dM dW aet pq eD
     refine ko (λI R aS=>∃(ck:List Tok) (cJ:Nat),I.g 1=some (.ptr j 0)/\I.g 2=some (.ptr (j+1) 0)/\I.g 3=some (.ptr (j+2) 0)/\vJ X R (j+2) aS (ck.map Tok.text) (ck.map Tok.at_)/\aL X R aM bU aZ cJ/\j+2<aS/\ch X [aM] h j R aS/\aU X R (.ptr j 0)=some (.ptr aM 0)/\W X R (j+1)=zD [.aY, .aY, .Z 0, .cN] 4/\ck.length<=300000/\
      (andThen (andThen (eL [41] (aZ.drop cJ)) λ_ k=>ok ck k) λck k=>andThen (eL [61] k) λD k=>andThen (arrow n k) λr k=>andThen (eL [59] k) λ_ k=>ok (⟨ck.map Tok.text,ck.map Tok.at_,D.at_,r⟩:eZ) k)=some r) (λwD Ib=> ?_) ?_
     ·refine fE (λm I R aS=>∃(ck:List Tok) (cJ:Nat) (b:Bool),I.g 1=some (.ptr j 0)/\I.g 2=some (.ptr (j+1) 0)/\I.g 3=some (.ptr (j+2) 0)/\I.g 4=some (.func (.func 94) [] [.ptr j 0, .ptr (j+2) 0])/\I.g 7=some (.bool b)/\vJ X R (j+2) aS (ck.map Tok.text) (ck.map Tok.at_)/\aL X R aM bU aZ cJ/\j+2<aS/\ch X [aM] h j R aS/\aU X R (.ptr j 0)=some (.ptr aM 0)/\W X R (j+1)=zD [.aY, .aY, .Z 0, .cN] 4/\ck.length+m<=n+5/\
       (b=true->(andThen (andThen (gN m ck (aZ.drop cJ)) λck k=>andThen (eL [41] k) λ_ k=>ok ck k) λck k=>andThen (eL [61] k) λD k=>andThen (arrow n k) λr k=>andThen (eL [59] k) λ_ k=>ok (⟨ck.map Tok.text,ck.map Tok.at_,D.at_,r⟩:eZ) k)=some r)/\
       (b=false->(andThen (andThen (eL [41] (aZ.drop cJ)) λ_ k=>ok ck k) λck k=>andThen (eL [61] k) λD k=>andThen (arrow n k) λr k=>andThen (eL [59] k) λ_ k=>ok (⟨ck.map Tok.text,ck.map Tok.at_,D.at_,r⟩:eZ) k)=some r))
       n ⟨[e],iC,true,bo,bo,bo,bo,bo,LD,h2,Zo,wa,KO,Cj,Zx,λ_=>Y,λa=>(by cases a)⟩ ?_
      clear KO Cj LD h2 wa Y ag3 bb
      rintro m I cy dX ⟨ck,p8,b,t1,eK,t3,t4,e9,EZ,ii,UU,et,xG,An,bn,z,jQ⟩
      refine rt @e9 ⟨?_⟩
      refine g3 ?_
      cases b with
      |false=>
       refine vO ?_
       exact Ib _ _ _ ⟨ck,p8,aW t1,aW eK,aW t3,EZ,ii,UU,et,xG,An,Zo,jQ rfl⟩
      |true=>
       have Y:=z rfl
       cases m with
       |zero=>simp[gN,andThen]at Y
       |succ m=>
       unfold gN at Y
       refine xp ?_
       have n7:=ay.go ii (by omega:j<=dX)
       refine cj @t4 ⟨?_⟩
       simp only[YF,Yh]
       cases tP:aZ.drop p8 with
       |nil=>rw[tP]at Y;simp[jq,andThen]at Y
       |cons bE m3=>
       rw[tP]at Y
       simp only[jq]at Y
       refine(Wz aw n7 Zo Zo Zo Zo xG EZ Zx Zx tP).mono ?_ ?_
       ·rintro u8 dt iv ⟨sJ,rfl,awz,xY,CA,gZ⟩
        rw[Zp sJ]at Y
        simp only[andThen,ok]at Y
        rw[<-(f2 tP).2]at Y
        have aeu:aU X dt (.ptr j 0)=some (.ptr aM 0):=by rw[gZ.e6 _ _ Zo Zx];exact xG
        have Oy:W X dt (j+1)=zD [.aY, .aY, .Z 0, .cN] 4:=by rw[gZ.ab _ Zo Zx];exact An
        have at9:ch X [aM] h j dt iv:=⟨Zo,λb aj bZ=>by rw[gZ.ab b Zo bZ];exact et.ab b aj bZ⟩
        have um:=ay.go xY (by omega:j<=iv)
        refine cS @t1 @aeu ⟨?_⟩
        cases sF:aZ.drop (p8+1)with
        |nil=>rw[sF]at Y;simp[iR,mP]at Y
        |cons w pi=>
        refine(oM aw um sF [44]).Zm ?_
        rintro Jz d6 hG ⟨rfl,ns,hw⟩
        have qT:=hw.le
        rw[sF]at Y
        have Ao:aU X d6 (.ptr j 0)=some (.ptr aM 0):=by rw[hw.e6 _ _ Zo Zx];exact aeu
        have xE:W X d6 (j+1)=zD [.aY, .aY, .Z 0, .cN] 4:=by rw[hw.ab _ Zo Zx];exact Oy
        have Vh:=awz.ab (R:=d6) (k8:=hG) (λe H M=>hw.ab e M Zx) qT
        have Cn:=at9.trans hw
        refine cL ⟨?_⟩
        refine⟨m,Zo,ck++[bE],_,hq w [44],aW t1,aW eK,aW t3,aW t4,bo,by simpa using Vh,ns,Zo,Cn,Ao,xE,Zx,λa=> ?_,λa=> ?_⟩
        ·simp only[iR,mP,a,ZG]at Y ⊢
         rw[(f2 sF).2]
         exact Y
        ·simp only[iR,mP,a,Zw,ZB]at Y ⊢
         rw[sF]
         exact Y
       ·rintro u8 dt iv ⟨sJ,rfl,gZ⟩
        rw[Zg sJ]at Y
        simp only[andThen,bad,Zf]at Y
        subst Y
        exact⟨_,rfl,rfl,et.trans gZ⟩
     ·clear KO Cj LD h2 wa Y ag3 bb
      rintro I cy dX ⟨ck,p8,t1,eK,t3,EZ,ii,UU,et,xG,An,bn,Y⟩
      refine cS @t1 @xG ⟨?_⟩
      refine e0 (λdt=>W X dt dX=zD [.str [41]] 1/\br X cy dX dt (dX+1)) ⟨bh Zo,dH⟩ ?_
      rintro dt ⟨Et,is⟩
      have um:=ay.go (ii.ex is Zo Zo) (by omega:j<=dX+1)
      have gZ:=et.trans (ch.of is)
      cases bb:eL [41] (aZ.drop p8)with
      |none=>rw[bb]at Y;cases Y
      |some Bm=>
      rw[bb]at Y
      refine(ka aw um Zo Zo Et bb).mono ?_ ?_
      ·rintro v9 d6 hG ⟨DC,i9,rfl,_,ns,hw⟩
       have qT:=hw.le
       simp only[andThen,ok]at Y
       have Ao:aU X d6 (.ptr j 0)=some (.ptr aM 0):=by rw[hw.e6 _ _ Zo Zx,is.e6 _ _ Zo];exact xG
       have xE:W X d6 (j+1)=zD [.aY, .aY, .Z 0, .cN] 4:=by rw[hw.ab _ Zo Zx,is.ab _ Zo];exact An
       have Vh:=EZ.ab (R:=d6) (k8:=hG) (λe H M=>by rw[hw.ab e Zo Zx,is.ab e M]) Zo
       exact bF _ _ _ ⟨ck,i9,t1,eK,t3,Vh,ns,Zo,gZ.trans hw,Ao,xE,bn,Y⟩
      ·rintro v9 d6 hG ⟨F,rfl,rfl,hw⟩
       simp only[andThen,Zf]at Y
       subst Y
       exact⟨F,rfl,rfl,gZ.trans hw⟩
    ·rintro Bu b6 dr ⟨F,rfl,rfl,eD⟩
     simp only[Zf]at Y
     subst Y
     exact⟨F,rfl,rfl,dM.trans eD⟩
   ·rintro vw bH cC ⟨gz,rfl,eH⟩
    rw[Zg gz]at Y
    simp only[andThen,bad,Zf]at Y
    subst Y
    exact⟨_,rfl,rfl,ei.trans eH⟩
  ·rw[aC]at dI ⊢
   simp only[Zw,ZB]at dI ⊢
   simp only[]at Y
   refine cS cg.eq_1 hr.eq_1 ⟨?_⟩
   simp only[YF,Yh]
   refine e0 (λa6=>aU X a6 (.ptr j 0)=some (.ptr aM 0)/\W X a6 (j+1)=zD [.aY, .aY, .Z 0, .cN] 4/\vJ X a6 (j+2) (aX+1) [] []/\aL X a6 aM bU aZ i/\ch X [aM] h j a6 (aX+1)) ⟨?_, ?_, ?_, ?_, ?_⟩ ?_
   ·exact Ts @HM
   ·simp(disch:=omega) only[aI];exact v6
   ·exact n1.ab (λe H M=>zF) Zo
   ·exact dI.ab (zF) (zF)
   ·exact⟨Zo,λb aj bZ=>by rw[<-xI.ab b aj bZ];exact zF⟩
   clear HM v6 n1 dI xI dz bL eu iA rv fM nC
   rintro a6 ⟨v7,uX,pg,g2,ei⟩
   have n6:=ay.go g2 (by omega:j<=aX+1)
   rw[aJ]at Y
   simp only[jq]at Y
   refine(Wz aw n6 Zo Zo Zo Zo v7 pg Zs Zs aJ).mono ?_ ?_
   ·rintro vw bH cC ⟨gz,rfl,rK,hE,iu,eH⟩
    rw[Zp gz]at Y
    simp only[andThen,ok]at Y
    rw[<-(f2 aJ).2]at Y
    have Eu:aU X bH (.ptr j 0)=some (.ptr aM 0):=by rw[eH.e6 _ _ Zo Zx];exact v7
    have Am:W X bH (j+1)=zD [.aY, .aY, .Z 0, .cN] 4:=by rw[eH.ab _ Zo Zx];exact uX
    exact bF _ _ _ ⟨[x],i+1,bo,bo,bo,rK,hE,Zo,⟨Zo,λb aj bZ=>by rw[eH.ab b Zo bZ];exact ei.ab b aj bZ⟩,Eu,Am,Zs,Y⟩
   ·rintro vw bH cC ⟨gz,rfl,eH⟩
    rw[Zg gz]at Y
    simp only[andThen,bad,Zf]at Y
    subst Y
    exact⟨_,rfl,rfl,ei.trans eH⟩
 ·clear af Y dI xI dz bL eu iA rv fM nC aJ
  rintro I a6 bz ⟨ck,i3,t1,eK,t3,pg,g2,aGn,ei,v7,uX,bn,Y⟩
  refine cS @t1 @v7 ⟨?_⟩
  refine e0 (λbH=>W X bH bz=zD [.str [61]] 1/\br X a6 bz bH (bz+1)) ⟨bh Zo,dH⟩ ?_
  rintro bH ⟨Er,cW⟩
  have lD:=ay.go (g2.ex cW Zo Zo) (by omega:j<=bz+1)
  have eH:=ei.trans (ch.of cW)
  rcases gJ Y with ⟨F,bw,rfl⟩|⟨D,gM,bw,Y⟩
  ·exact(ka aw lD Zo Zo Er bw).mono zN (λac R an a=>a.of eH (λ_ a=>by cases a;rfl))
  refine(ka aw lD Zo Zo Er bw).mono ?_ zM
  rintro v5 bN ci ⟨g9,i5,tR,rfl,hF,dM⟩
  cases tR
  have iP:=dM.le
  have OA:aU X bN (.ptr j 0)=some (.ptr aM 0):=by rw[dM.e6 _ _ Zo Zx,cW.e6 _ _ Zo];exact v7
  have HH:W X bN (j+1)=zD [.aY, .aY, .Z 0, .cN] 4:=by rw[dM.ab _ Zo Zx,cW.ab _ Zo];exact uX
  have sL:=pg.ab (R:=bN) (k8:=ci) (λe H M=>by rw[dM.ab e Zo Zx,cW.ab e M]) Zo
  have Ar:=eH.trans dM
  obtain⟨aK,Ev,c,aO,jV,BX,uJ,bP,b2,cI,dL,fg,d1,ew⟩:=sL
  clear pg g2 ei v7 uX cW Er lD eH dM
  refine cS @t3 cg.eq_1 ⟨?_⟩
  have ahm:∀e,e≠j+2->W X (bm X bN (j+2) (some (.cells (d7 c 2 (E.Z D.at_).cells) 4 .own))) e=W X bN e:=λe z=>aI Zo z
  refine cS @t1 @OA ⟨?_⟩
  refine e0 (λb6=>W X b6 (j+2)=some (.cells (c.set 2 (some (.Z D.at_))) 4 .own)/\∀e,e≠j+2->W X b6 e=W X bN e) ⟨(bh Zo).trans (by simp only[E.cells,pz]),ahm⟩ ?_
  clear ahm
  rintro b6 ⟨Dq,dc⟩
  have h2:aL X b6 aM bU aZ i5:=hF.ab (dc _ Zo) (dc _ Zo)
  have eD:ch X [aM] h j b6 ci:=⟨Ar.le,λb aj bZ=>by rw[dc b Zo];exact Ar.ab b aj bZ⟩
  rcases gJ Y with ⟨F,c6,rfl⟩|⟨Hu,m3,c6,Y⟩
  ·exact((aci aw dZ n Zo).arrow b6 _ _ _ (ay.go h2 Zo) c6).mono zN (λac R an a=>a.of eD (λ_ a=>by cases a;rfl))
  refine((aci aw dZ n Zo).arrow b6 _ _ _ (ay.go h2 Zo) c6).mono ?_ zM
  rintro M4 cy dX ⟨ado,p8,AF,eC,ii,et⟩
  cases AF
  have nr:=et.le
  obtain⟨re,rfl,aGW,_⟩:=eC.ptr
  have Jh:W X cy (j+2)=some (.cells (c.set 2 (some (.Z D.at_))) 4 .own):=by rw[et.ab _ Zo Zx];exact Dq
  have xG:aU X cy (.ptr j 0)=some (.ptr aM 0):=by rw[et.e6 _ _ Zo Zx,cw,dc _ Zo, <-cw];exact OA
  have f0:∀e,j<=e->e<ci->e≠j+2->W X cy e=W X bN e:=λe H M al=>by rw[et.ab e M Zx,dc e al]
  refine cj @t3 ⟨?_⟩
  refine cS @t1 @xG ⟨?_⟩
  refine e0 (λdt=>W X dt dX=zD [.str [59]] 1/\W X dt (j+2)=some (.cells ((c.set 2 (some (.Z D.at_))).set 3 (some (.ptr re 0))) 4 .own)/\∀e,e<dX->e≠j+2->W X dt e=W X cy e) ⟨bh Zo, ?_, ?_⟩ ?_
  ·rw[aI Zo Zo,bh Zo];simp only[E.cells,pz]
  ·intro e H M
   rw[aI Zo Zo,aI Zo M]
  rintro dt ⟨Et,aBR,gG⟩
  have xY:aL X dt aM bU aZ p8:=ii.ab (gG _ Zo Zo) (gG _ Zo Zo)
  have gZ:ch X [aM] h j dt (dX+1):=⟨Zo,λb aj bZ=>by rw[gG b Zo Zo];exact(eD.trans et).ab b aj bZ⟩
  rcases gJ Y with ⟨F,gY,rfl⟩|⟨DC,ue,gY,Y⟩
  ·exact(ka aw (ay.go xY Zo) Zo Zo Et gY).mono zN (λac R an a=>a.of gZ (λ_ a=>by cases a;rfl))
  refine(ka aw (ay.go xY Zo) Zo Zo Et gY).mono ?_ zM
  rintro v9 d6 hG ⟨aHR,i9,au0,_,ns,hw⟩
  cases au0
  have qT:=hw.le
  simp only[ok,Zf]at Y
  subst Y
  have aiX:W X d6 (j+2)=some (.cells ((c.set 2 (some (.Z D.at_))).set 3 (some (.ptr re 0))) 4 .own):=by rw[hw.ab _ Zo Zx];exact aBR
  have g4:∀e,j<=e->e<dX->e≠j+2->W X d6 e=W X cy e:=λe H M al=>by rw[hw.ab e Zo Zx,gG e M al]
  have xE:W X d6 (j+1)=zD [.aY, .aY, .Z 0, .cN] 4:=by rw[g4 _ Zo Zo Zo,f0 _ Zo Zo Zo];exact HH
  have dx:((c.set 2 (some (E.Z D.at_))).set 3 (some (.ptr re 0))).get 0=some aO:=by rw[S.jP,Zg Zd,S.jP,Zg Zd];exact b2
  have c5:((c.set 2 (some (E.Z D.at_))).set 3 (some (.ptr re 0))).get 1=some jV:=by rw[S.jP,Zg Zd,S.jP,Zg Zd];exact cI
  have dC:((c.set 2 (some (E.Z D.at_))).set 3 (some (.ptr re 0))).get 2=some (.Z D.at_):=by rw[S.jP,Zg Zd,S.jP,Zp rfl]
  have ge:((c.set 2 (some (E.Z D.at_))).set 3 (some (.ptr re 0))).get 3=some (.ptr re 0):=by rw[S.jP,Zp rfl]
  generalize ((c.set 2 (some (E.Z D.at_))).set 3 (some (.ptr re 0)))=fX at aiX dx c5 dC ge
  obtain⟨hc,nB,sZ⟩:=ga.one dL
  obtain⟨I4,Dd,ui⟩:=ga.one fg
  have az:dE X d6 4 (.ptr (j+2) 0)=some (.agg [aO,jV, .Z D.at_, .ptr re 0]):=by
   rw[C0];simp[bG aiX,dx,c5,dC,ge]
  refine er @t3 @az @eK ⟨?_⟩
  refine gm (jG (u:=4) xE Zo rfl Zd Zd (by simp[E.cells,iF,nB,Dd,show po (.Z D.at_)=true from rfl,show po (.ptr re 0)=true from rfl])) ?_
  refine cj @eK ⟨?_⟩
  have Ft:∀e,e≠j+1->∀cT,W X (bm X d6 (j+1) cT) e=W X d6 e:=λe z cT=>aI Zo z
  have nX:∀e,j+2<e->e<ci->∀cT,W X (bm X d6 (j+1) cT) e=W X bN e:=λe H M cT=>by rw[Ft e Zo,g4 e Zo Zo Zo,f0 e Zo M Zo]
  obtain⟨bQ,agr⟩:=(dL.ab (R:=bm X d6 (j+1) (some (.cells (d7 (S.ofList [.aY, .aY, .Z 0, .cN] 0 .nil) 0 [aO,jV, .Z D.at_, .ptr re 0]) 4 .own))) (λe z=>nX e (d1 e z).1 (d1 e z).2.1 _)).aBZ (fm:=λe=>dU j hG e/\e∈BX) Zx (λe z=>by have:=d1 e z;exact⟨⟨Zo,Zo⟩,z⟩)
  obtain⟨cl,LJ⟩:=(fg.ab (R:=bm X d6 (j+1) (some (.cells (d7 (S.ofList [.aY, .aY, .Z 0, .cN] 0 .nil) 0 [aO,jV, .Z D.at_, .ptr re 0]) 4 .own))) (λe z=>nX e (ew e z).1 (ew e z).2 _)).QI (P:=λe=>dU j hG e/\e∈uJ) Zx (λe z=>by have:=ew e z;exact⟨⟨Zo,Zo⟩,z⟩)
  have ie:=cn.ab (R:=bm X d6 (j+1) (some (.cells (d7 (S.ofList [.aY, .aY, .Z 0, .cN] 0 .nil) 0 [aO,jV, .Z D.at_, .ptr re 0]) 4 .own))) (λe z=>by
   have H:=z.1
   rw[Ft e Zo,g4 e Zo z.2 Zo]) _ _ eC
  refine⟨_,i9,[aO,jV, .Z D.at_, .ptr re 0],rfl,rfl,⟨λe=>if e∈BX then 1 else if e∈uJ then 2 else 0,aO,jV,bQ,cl, .ptr re 0,rfl, ?_, ?_, ?_,by simp[iF,nB,Dd,show po (.Z D.at_)=true from rfl,show po (.ptr re 0)=true from rfl]⟩, ?_, ?_⟩
  ·rw[Yt]at agr;exact agr.lift λe z=>⟨z.1,Zp z.2⟩
  ·rw[Yt]at LJ;exact LJ.lift λe z=>⟨z.1,(Zg (λa=>(d1 e a).2.2 z.2)).trans (Zp z.2)⟩
  ·exact cn.lift (λe z=>⟨⟨zz z.1,zz z.2⟩,(Zg (λa=>by have:=d1 e a;have:=z.1;omega)).trans (Zg (λa=>by have:=ew e a;have:=z.1;omega))⟩) _ _ ie
  ·exact ns.ab (Ft _ Zo _) (Ft _ Zo _)
  ·exact⟨Zo,λb aj bZ=>by rw[Ft b Zo];exact(gZ.trans hw).ab b aj bZ⟩
end
def dK(d:eb):List E:=[.str d.name, .Z d.at_, .bool d.ty.b, .bool d.ty.s, .Z d.ty.w, .str d.on, .Z d.eX, .bool d.no]
def ajN(k:List Tok):∀r∈k.map cg,r.length=7:=by
 intro r Y;obtain⟨t,_,rfl⟩:=ZE.1 Y;rfl
def SX(k:List eb):∀r∈k.map dK,r.length=8:=by
 intro r Y;obtain⟨t,_,rfl⟩:=ZE.1 Y;rfl
def aEX{s:aR}{k:List Tok}{x:Tok}{bS:List Tok}(a:eL s k=some (.ok (x,bS))):bS.length+1=k.length:=by
 cases k with
 |nil=>cases a
 |cons e k=>
  simp only[eL]at a
  split at a
  ·simp only[ok,Zf,Except.ok.injEq,YA]at a
   rw[<-a.2];rfl
  ·cases a
structure Nr(X:ca)(aM bU:Nat)(aZ:List Tok)(j:Nat)(fi:S ag)(loc:Bool)(I:c1)(h:S ag)(n:Nat)(s:E)(ds:List eb)(cv:List Nat)(i:Nat):Prop where
 t0:I.g 0=some (.ptr aM 0)
 t1:I.g 1=some (.bool loc)
 t5:I.g 5=some s
 aO:ga X h s 8 (ds.map dK).flatten cv
 cv:∀e∈cv,j<=e/\e<n
 par:aL X h aM bU aZ i
 fr:ch X [aM] fi j h n
section
variable{X:ca}{h R aQ aP:S ag}{j an aV aX aM bU:Nat}{aZ:List Tok}{i:Nat}
def N1(ds:List eb):(ds.map dK).flatten.length=ds.length*8:=by rw[tE (SX ds),Zi]
def aEe(ds:List Tok):(ds.map cg).flatten.length=ds.length*7:=by rw[tE (ajN ds),Zi]
def Hr(aw:dk X){n:Nat}(kW:aZ.length<=100000)(ay:je X h j aM bU aZ i){loc:Bool}{r:Except Int (List eb×List Tok)}(Y:jL n loc [] (aZ.drop i)=some r):
 a2 X 72 [.ptr aM 0, .bool loc] h j (λac R an=>∃ds cJ b,r= .ok (ds,aZ.drop cJ)/\iI X R (dU j an) b ac 8 (ds.map dK)/\aL X R aM bU aZ cJ/\ch X [aM] h j R an) (ju X aM h j r):=by
 refine zG aw (anV X) ?_
 rw[anW]
 unfold abl
 have g0:=ay.a8
 have kQ:=ay.hR
 have iy:=ay.cb
 have ki:=ay.hp
 refine g3 ?_
 refine fE (λm I R aS=>∃s ds cv cJ,Nr X aM bU aZ j h loc I R aS s ds cv cJ/\ds.length+(aZ.drop cJ).length<=aZ.length/\jL m loc ds (aZ.drop cJ)=some r)
  n ⟨.aY,[],[],i,⟨bo,bo,bo, .inl (.inl ⟨rfl,rfl,rfl⟩),Zs,ay.par,ch.refl _ _ _⟩,Zs,Y⟩ ?_
 clear Y
 rintro m I aQ aV ⟨s,ds,cv,hg,nd,Lu,Y⟩
 cases m with
 |zero=>simp[jL]at Y
 |succ m=>
 unfold jL at Y
 refine g3 ?_
 have jy:=nd.fr.le
 refine ko (λI R aS=>∃(ck:List Tok) (uw:E) (uK:List Nat) (cJ:Nat),Nr X aM bU aZ j h loc I R aS s ds cv cJ/\aV<=aS/\(∀e∈cv,e<aV)/\I.g 6=some uw/\ga X R uw 7 (ck.map cg).flatten uK/\(∀e∈uK,aV<=e/\e<aS)/\ds.length+ck.length+(aZ.drop cJ).length<=aZ.length/\
  Ed loc (jL m loc) ds ck (aZ.drop cJ)=some r) (λV bF=> ?_) ?_
 ·refine fE (λu I R aS=>∃(ck:List Tok) (uw:E) (uK:List Nat) (cJ:Nat) (b:Bool),Nr X aM bU aZ j h loc I R aS s ds cv cJ/\aV<=aS/\(∀e∈cv,e<aV)/\I.g 6=some uw/\I.g 7=some (.bool b)/\ga X R uw 7 (ck.map cg).flatten uK/\(∀e∈uK,aV<=e/\e<aS)/\ds.length+ck.length+(aZ.drop cJ).length<=aZ.length/\
   (b=true->andThen (gN u ck (aZ.drop cJ)) (λck k=>Ed loc (jL m loc) ds ck k)=some r)/\(b=false->Ed loc (jL m loc) ds ck (aZ.drop cJ)=some r))
   m ⟨[], .aY,[],hg,true,⟨aW nd.t0,aW nd.t1,aW nd.t5,nd.aO,nd.cv,nd.par,nd.fr⟩,Zo,λe z=>(nd.cv e z).2,bo,bo, .inl (.inl ⟨rfl,rfl,rfl⟩),Zs,by simpa using Lu,λ_=>Y,λa=>(by cases a)⟩ ?_
  clear Y nd Lu
  rintro u I aP aX ⟨ck,uw,uK,gq,b,lL,fN,eR,eY,e9,E6,f5,ES,z,jQ⟩
  have f7:=ay.go lL.par lL.fr.le
  have t0:=lL.t0
  have t1:=lL.t1
  have t5:=lL.t5
  refine rt @e9 ⟨?_⟩
  refine g3 ?_
  cases b with
  |false=>
   refine vO ?_
   exact bF _ _ _ ⟨ck,uw,uK,gq,⟨aW t0,aW t1,aW t5,lL.aO,lL.cv,lL.par,lL.fr⟩,fN,eR,aW eY,E6,f5,ES,jQ rfl⟩
  |true=>
   have Y:=z rfl
   cases u with
   |zero=>simp[gN,andThen]at Y
   |succ u=>
   unfold gN at Y
   refine xp ?_
   refine cS @eY @t0 ⟨?_⟩
   cases aJ:aZ.drop gq with
   |nil=>rw[aJ]at Y;simp[jq,andThen]at Y
   |cons x k=>
   rw[aJ]at Y
   simp only[jq]at Y
   refine(Dg aw f7.a8 f7.par f7.cb f7.hR f7.hp f7.many (f2 aJ).1 1).mono ?_ ?_
   ·rintro w4 a6 bz ⟨aH,rfl,g2,ei⟩
    have jm:=ei.le
    rw[Zp aH]at Y
    simp only[andThen,ok]at Y
    rw[<-(f2 aJ).2]at Y
    have eM:(aZ.drop gq).length=(aZ.drop (gq+1)).length+1:=by rw[aJ,(f2 aJ).2];rfl
    have ly:∀e,j<=e->e<aX->W X a6 e=W X aP e:=λe H M=>ei.ab e M Zx
    have akL:=lL.aO.ab (R:=a6) (λe z=>ly e (lL.cv e z).1 (lL.cv e z).2)
    have aw1:=E6.ab (R:=a6) (λe z=>ly e (zz (f5 e z)) (f5 e z).2)
    have HS:=lL.fr.trans ei
    refine cj cg.eq_1 ⟨?_⟩
    have kV:lZ X (bm X a6 bz (zD (cg x) 7)) 7 (.slice bz 0 1 1)=some (1,cg x):=s2 (bh Zo) (nu _) rfl _
    obtain⟨aDh,bH,acC,iN,t8,auH,gz⟩:=(aw1.ab (R:=bm X a6 bz (zD (cg x) 7)) (λe z=>aI Zo (zz (f5 e z).2))).append (j:=bz+1) Zd kV rfl Zd rfl (by rw[aEe];simp only[cg,ZF,Z0];omega) Zo (λe z=>zz (f5 e z).2)
    refine kH iN ?_
    have d4:∀e,e<bz->e∉uK->W X bH e=W X a6 e:=λe H M=>by rw[gz e Zo M,aI Zo Zo]
    have d5:∀e,e<aV->e∉uK:=λe H M=>zz (f5 e M)
    have hE:aL X bH aM bU aZ (gq+1):=g2.ab (d4 _ Zo (d5 _ Zo)) (d4 _ Zo (d5 _ Zo))
    have eH:ch X [aM] h j bH (bz+1+1):=⟨Zo,λb aj bZ=>by rw[d4 b Zo (d5 _ Zo)];exact HS.ab b aj bZ⟩
    have akM:=akL.ab (R:=bH) (λe z=>d4 e (zz (eR e z)) (d5 _ (eR e z)))
    have fD:(ck.map cg).flatten++cg x=((ck++[x]).map cg).flatten:=by simp
    rw[fD]at t8
    have OT:∀e∈acC,aV<=e/\e<bz+1+1:=λe z=>by
     rcases auH e z with rfl|a
     ·omega
     ·have:=f5 e a;omega
    refine cj @t0 ⟨?_⟩
    have lD:=ay.go hE eH.le
    obtain⟨w,gM,pW⟩:∃w gM,aZ.drop (gq+1)=w::gM:=by
     cases a:aZ.drop (gq+1)with
     |nil=>rw[a]at Y;simp[iR,mP]at Y
     |cons w gM=>exact⟨w,gM,rfl⟩
    refine(oM aw lD pW [44]).Zm ?_
    rintro vx bN ci ⟨rfl,hF,dM⟩
    have iP:=dM.le
    have dN:∀e,j<=e->e<bz+1+1->W X bN e=W X bH e:=λe H M=>dM.ab e M Zx
    refine cL ⟨?_⟩
    refine⟨u,Zo,ck++[x],aDh,acC,_,hq w [44],⟨aW t0,aW t1,aW t5,akM.ab (λe z=>dN e (lL.cv e z).1 (zz (eR e z))),λe z=>⟨(lL.cv e z).1,zz (eR e z)⟩,hF,eH.trans dM⟩,Zo,eR,bo,bo, .inl (t8.ab (λe z=>dN e (zz (OT e z)) (OT e z).2)),λe z=>⟨(OT e z).1,zz (OT e z).2⟩, ?_,λa=> ?_,λa=> ?_⟩
    ·have bw:=congrArg List.length (f2 pW).2
     have b1:(aZ.drop (gq+1)).length=gM.length+1:=by rw[pW];rfl
     split
     ·simp only[ZL,List.length_singleton];omega
     ·simp only[ZL,List.length_singleton];omega
    ·rw[pW]at Y
     simp only[iR,mP,a,ZG]at Y ⊢
     rw[(f2 pW).2]
     exact Y
    ·rw[pW]at Y
     simp only[iR,mP,a,Zw,ZB]at Y ⊢
     rw[pW]
     exact Y
   ·rintro w4 a6 bz ⟨aH,rfl,ei⟩
    rw[Zg aH]at Y
    simp only[andThen,bad,Zf]at Y
    subst Y
    exact⟨_,rfl,rfl,lL.fr.trans ei⟩
 ·clear Y nd Lu
  rintro I aP aX ⟨ck,uw,uK,gq,lL,fN,eR,eY,E6,f5,ES,Y⟩
  have t0:=lL.t0
  have t1:=lL.t1
  have t5:=lL.t5
  have dz:=lL.fr
  have t7:=lL.aO
  have Az:=lL.cv
  have dI:=lL.par
  clear lL
  refine cj @t0 ⟨?_⟩
  refine e0 (λa6=>W X a6 aX=zD [.str [58]] 1/\br X aP aX a6 (aX+1)) ⟨bh Zo,dH⟩ ?_
  rintro a6 ⟨TI,cp⟩
  have n6:=ay.go (dI.ex cp Zo Zo) (by omega:j<=aX+1)
  have ei:=dz.trans (ch.of cp)
  unfold Ed at Y
  rcases gJ Y with ⟨F,aB,rfl⟩|⟨qv,hn,aB,Y⟩
  ·exact(ka aw n6 Zo Zo TI aB).mono zN (λac R an a=>a.of ei (λ_ a=>by cases a;rfl))
  refine(ka aw n6 Zo Zo TI aB).mono ?_ zM
  rintro v4 bH cC ⟨aE8,i4,rD,_,hE,eH⟩
  cases rD
  have afL:=aEX aB
  have iu:=eH.le
  have lD:=n6.go hE iu
  have As:=ei.trans eH
  have d4:∀e,j<=e->e<aX->W X bH e=W X aP e:=λe H M=>by rw[eH.ab e Zo Zx,cp.ab e M]
  have t8:=t7.ab (R:=bH) (λe z=>d4 e (Az e z).1 (Az e z).2)
  have agG:=E6.ab (R:=bH) (λe z=>d4 e (zz (f5 e z)) (f5 e z).2)
  clear t7 E6 d4 TI cp n6 ei eH aB dz dI
  refine cj @t0 ⟨?_⟩
  cases pW:aZ.drop i4 with
  |nil=>rw[pW]at Y;simp[jq,andThen]at Y
  |cons t gM=>
  rw[pW]at Y
  simp only[jq]at Y
  refine(Dg aw lD.a8 lD.par lD.cb lD.hR lD.hp lD.many (f2 pW).1 3).mono ?_ (λvx bN ci a=>by
   obtain⟨aH,rfl,dM⟩:=a
   rw[Zg aH]at Y
   simp only[andThen,bad,Zf]at Y
   subst Y
   exact⟨_,rfl,rfl,As.trans dM⟩)
  rintro vx bN ci ⟨aH,rfl,hF,dM⟩
  have iP:=dM.le
  rw[Zp aH]at Y
  simp only[andThen,ok]at Y
  rw[<-(f2 pW).2]at Y
  have afM:(aZ.drop i4).length=(aZ.drop (i4+1)).length+1:=by rw[pW,(f2 pW).2];rfl
  have Ar:=As.trans dM
  have dN:∀e,j<=e->e<cC->W X bN e=W X bH e:=λe H M=>dM.ab e M Zx
  have p5:=t8.ab (R:=bN) (λe z=>dN e (Az e z).1 (zz (Az e z)))
  have agH:=agG.ab (R:=bN) (λe z=>dN e (zz (f5 e z)) (zz (f5 e z)))
  clear t8 agG dN dM As
  refine cS cg.eq_1 @t0 ⟨?_⟩
  refine e0 (λb6=>W X b6 ci=zD (dK ⟨[],0,t.ty,[],0,false⟩) 8/\br X bN ci b6 (ci+1)) ⟨bh Zo,dH⟩ ?_
  rintro b6 ⟨tH,ec⟩
  have m7:=ay.go (hF.ex ec Zo Zo) (by omega:j<=ci+1)
  have eD:=Ar.trans (ch.of ec)
  obtain⟨w,m3,tP,agS⟩:=r6 Y
  refine(oM aw m7 tP _).Zm ?_
  rintro aj3 cy dX ⟨rfl,ii,et⟩
  have nr:=et.le
  have TY:=eD.trans et
  have uV:W X cy ci=zD (dK ⟨[],0,t.ty,[],0,false⟩) 8:=by rw[et.ab _ Zo Zx];exact tH
  have f0:∀e,j<=e->e<ci->W X cy e=W X bN e:=λe H M=>by rw[et.ab e Zo Zx,ec.ab e M]
  have afN:(aZ.drop (i4+1)).length=m3.length+1:=by rw[tP];rfl
  refine rt cg.eq_1 ⟨?_⟩
  refine ko (λI R aS=>∃(on:aR) (eX:Int) (no:Bool) (cJ:Nat),I.g 0=some (.ptr aM 0)/\I.g 1=some (.bool loc)/\I.g 5=some s/\I.g 6=some uw/\I.g 8=some (.ptr ci 0)/\W X R ci=zD (dK ⟨[],0,t.ty,on,eX,no⟩) 8/\(∀e,j<=e->e<ci->W X R e=W X bN e)/\aL X R aM bU aZ cJ/\ch X [aM] h j R aS/\ci<aS/\(aZ.drop cJ).length<=(aZ.drop (i4+1)).length/\
   mS loc (jL m loc) (ds++ck.map (qH t.ty on eX no)) (aZ.drop cJ)=some r) (λV bF=> ?_) ?_
  ·rcases agS with ⟨aC,Y⟩|⟨aC,Y⟩
   ·rw[aC]at ii ⊢
    simp only[ZG]at ii ⊢
    rw[<-(f2 tP).2]at Y
    simp only[B6]at Y
    refine cj @t0 ⟨?_⟩
    refine e0 (λdt=>br X cy dX dt (dX+1)) dH ?_
    intro dt is
    have um:=m7.go (ii.ex is Zo Zo) (by omega:ci+1<=dX+1)
    have Al:W X dt ci=zD (dK ⟨[],0,t.ty,[],0,false⟩) 8:=by rw[is.ab _ Zo];exact uV
    obtain⟨yI,ue,H4⟩:∃yI ue,aZ.drop (i4+1+1)=yI::ue:=by
     cases a:aZ.drop (i4+1+1)with
     |nil=>rw[a]at Y;simp[iR,mP,andThen]at Y
     |cons w gM=>exact⟨w,gM,rfl⟩
    refine(oM aw um H4 _).Zm ?_
    rintro Jz d6 hG ⟨rfl,ns,hw⟩
    have qT:=hw.le
    have Cn:=(TY.trans (ch.of is)).trans hw
    have HD:W X d6 ci=zD (dK ⟨[],0,t.ty,[],0,false⟩) 8:=by rw[hw.ab _ Zo Zx];exact Al
    have rL:andThen (andThen (jq 1 (aZ.drop (if hq yI [110,111,116]then i4+1+1+1 else i4+1+1))) (λon k=>ok (on.text,on.at_,hq yI [110,111,116]) k)) (λr k=>mS loc (jL m loc) (ds++ck.map (qH t.ty r.1 r.2.1 r.2.2)) k)=some r:=by
     rw[H4]at Y
     cases agx:hq yI [110,111,116]with
     |true=>simp only[iR,mP,agx,ZG]at Y ⊢;rw[(f2 H4).2];exact Y
     |false=>simp only[iR,mP,agx,Zw,ZB]at Y ⊢;rw[H4];exact Y
    have afO:(aZ.drop (if hq yI [110,111,116]then i4+1+1+1 else i4+1+1)).length<=(aZ.drop (i4+1)).length:=by simp only[Yy];split<;>omega
    clear Y
    generalize (if hq yI [110,111,116]then i4+1+1+1 else i4+1+1)=i9 at rL ns afO
    generalize (if hq yI [110,111,116]then yI else hr)=z9
    generalize hq yI [110,111,116]=no at rL
    unfold dK at HD
    refine er cg.eq_1 @HD @t0 ⟨?_⟩
    refine e0 (λjZ=>W X jZ ci=zD (dK ⟨[],0,t.ty,[],0,no⟩) 8/\(∀e,e<hG->e≠ci->W X jZ e=W X d6 e)) ⟨by rw[bh Zo];rfl,λe H M=>aI Zo M⟩ ?_
    rintro jZ ⟨atb,wF⟩
    have CD:=ns.ab (wF _ Zo Zo) (wF _ Zo Zo)
    have tM:ch X [aM] h j jZ hG:=⟨Zo,λb aj bZ=>by rw[wF b Zo Zo];exact Cn.ab b aj bZ⟩
    have Jf:=ay.go CD (by omega:j<=hG)
    cases EH:aZ.drop i9 with
    |nil=>rw[EH]at rL;simp[jq,andThen]at rL
    |cons c aHe=>
    rw[EH]at rL
    simp only[jq]at rL
    refine(Dg aw Jf.a8 Jf.par Jf.cb Jf.hR Jf.hp Jf.many (f2 EH).1 1).mono ?_ ?_
    ·rintro aEu ol Qf ⟨xU,rfl,Ly,xH⟩
     have afR:=xH.le
     rw[Zp xU]at rL
     simp only[andThen,ok]at rL
     rw[<-(f2 EH).2]at rL
     have HC:W X ol ci=zD (dK ⟨[],0,t.ty,[],0,no⟩) 8:=by rw[xH.ab _ Zo Zx];exact atb
     unfold dK at HC
     refine cS cg.eq_1 @HC ⟨?_⟩
     refine gP (pt _ _) ?_
     refine cS cg.eq_1 @HC ⟨?_⟩
     refine bF _ _ _ ⟨c.text,c.at_,no,i9+1,aW t0,aW t1,aW t5,aW eY,bo, ?_,λe H M=> ?_, ?_, ?_,Zo, ?_,rL⟩
     ·exact zQ
     ·simp(disch:=omega) only[aI]
      rw[xH.ab e Zo Zx,wF e Zo Zo,hw.ab e Zo Zx,is.ab e Zo,f0 e H M]
     ·exact Ly.ab (zF) (zF)
     ·exact⟨Zo,λb aj bZ=>by rw[<-(tM.trans xH).ab b aj bZ];exact zF⟩
     ·simp only[Yy]at afO ⊢;omega
    ·rintro aEu ol Qf ⟨xU,rfl,xH⟩
     rw[Zg xU]at rL
     simp only[andThen,bad,Zf]at rL
     subst rL
     exact⟨_,rfl,rfl,tM.trans xH⟩
   ·rw[aC]at ii ⊢
    simp only[Zw,ZB]at ii ⊢
    simp only[B6,andThen,ok]at Y
    refine cS cg.eq_1 hr.eq_1 ⟨?_⟩
    refine bF _ _ _ ⟨[],0,false,i4+1,aW t0,aW t1,aW t5,aW eY,bo, ?_,λe H M=> ?_, ?_, ?_,Zo,Zj _,Y⟩
    ·simp(disch:=omega) only[aI];exact uV
    ·simp(disch:=omega) only[aI];exact f0 e H M
    ·exact ii.ab (zF) (zF)
    ·exact⟨Zo,λb aj bZ=>by rw[<-TY.ab b aj bZ];exact zF⟩
  ·clear Y agS ii TY et uV f0 eD tH ec m7 Ar t0 t1 t5 eY hF
   rintro I b6 dr ⟨on,eX,no,iC,t0,t1,t5,eY,gQ,tH,dc,h2,eD,aGo,Pe,Y⟩
   have ua:=p5.ab (R:=b6) (λe z=>dc e (Az e z).1 (zz (Az e z)))
   have agI:=agH.ab (R:=b6) (λe z=>dc e (zz (f5 e z)) (zz (f5 e z)))
   clear p5 agH
   obtain⟨NJ,cG⟩:=agI.uq Zd (ajN ck) (by simp only[Zi];omega) (P:=λe=>aV<=e/\e<aX) f5
   have eM:=cG.len
   rw[Zi]at eM
   refine KH @eY @eM ⟨?_⟩
   have CO:=eM
   refine ko (λI R aS=>∃(e1:E) (gK:List Nat),I.g 0=some (.ptr aM 0)/\I.g 1=some (.bool loc)/\I.g 5=some e1/\ga X R e1 8 ((ds++ck.map (qH t.ty on eX no)).map dK).flatten gK/\(∀e∈gK,j<=e/\e<aS)/\aL X R aM bU aZ iC/\ch X [aM] h j R aS/\dr<=aS) (λV bF=> ?_) ?_
   ·refine fE (λah1 I R aS=>∃(u:Nat) (e1:E) (gK:List Nat) (nm:aR) (Hf:Int),ah1=ck.length-u/\u<=ck.length/\I.g 0=some (.ptr aM 0)/\I.g 1=some (.bool loc)/\I.g 5=some e1/\I.g 8=some (.ptr ci 0)/\I.g 52=some uw/\I.g 53=some (.Z (ck.length:Int))/\I.g 54=some (.Z (u:Int))/\W X R ci=zD (dK ⟨nm,Hf,t.ty,on,eX,no⟩) 8/\
     ga X R e1 8 ((ds++(ck.take u).map (qH t.ty on eX no)).map dK).flatten gK/\(∀e∈gK,(e∈cv\/dr<=e)/\e<aS)/\(∀e,aV<=e->e<aX->W X R e=W X b6 e)/\aL X R aM bU aZ iC/\ch X [aM] h j R aS/\dr<=aS)
     ck.length ⟨0,s,cv,[],0,Zo,Zo,aW t0,aW t1,aW t5,aW gQ,bo,bo,fY,tH,by simpa using ua,λe z=>⟨.inl z,zz (Az e z)⟩,λ_ _ _=>rfl,h2,eD,Zj _⟩ ?_
    rintro ah1 I cy dX ⟨u,e1,gK,nm,Hf,rfl,sI,t0,t1,t5,gQ,yy,q7,k2,uV,E5,xN,aht,ii,et,nr⟩
    refine KH @q7 @k2 ⟨?_⟩
    refine g3 ?_
    refine BZ (λc3=> ?_) (λc3=> ?_)
    ·have c3:u<ck.length:=Zo
     have afF:=cG.fx u (by simpa using c3)
     have Vp:=(cG.ab (R:=cy) (λe z=>aht e z.1 z.2)).row Zd (i:=u) (r:=cg ck[u]) (by rw[Zy,Ze c3];rfl)
     have PO:ck.take (u+1)=ck.take u++[ck[u]]:=List.take_succ_eq_append_getElem c3
     generalize ck[u]=bE at Vp PO
     have BY:∀e∈gK,j<=e/\e≠ci/\¬(aV<=e/\e<aX)/\e<dX:=λe z=>by
      obtain⟨H,M⟩:=xN e z
      rcases H with H|H
      ·have:=Az e H;have:=eR e H;exact⟨Zo,Zo,Zo,Zo⟩
      ·exact⟨Zo,Zo,Zo,Zo⟩
     unfold dK at uV
     refine eh @yy @k2 @afF @Vp cg.eq_1 @gQ @uV ⟨?_⟩
     refine gP (pt _ _) ?_
     refine eh @yy @k2 @afF @Vp cg.eq_1 @gQ (Za @uV @t5) ⟨?_⟩
     generalize Ct:bm X _ (dX+1+8) _=d6
     have nk:W X d6 (dX+1+8)=zD (dK (qH t.ty on eX no bE)) 8:=by rw[<-Ct,bh Zo];rfl
     have HD:W X d6 ci=zD (dK (qH t.ty on eX no bE)) 8:=by rw[<-Ct];exact zQ
     have g4:∀e,e<dX->e≠ci->W X d6 e=W X cy e:=λe H M=>by rw[<-Ct];exact zF
     clear Ct
     have kV:lZ X d6 8 (.slice (dX+1+8) 0 1 1)=some (1,dK (qH t.ty on eX no bE)):=s2 nk (nu _) rfl _
     have d2:(ds++(ck.take u).map (qH t.ty on eX no)).length<=100000:=by
      simp only[ZL,Zi,Yz];omega
     obtain⟨jF,jZ,uJ,iN,agA,auD,rF⟩:=(E5.ab (R:=d6) (λe z=>g4 e (BY e z).2.2.2 (BY e z).2.1)).append (j:=dX+1+8+1) Zd kV rfl Zd rfl (by rw[N1];simp only[dK,ZF,Z0];omega) Zo (λe z=>zz (BY e z))
     refine kH iN ?_
     have wF:∀e,e<dX->e≠ci->e∉gK->W X jZ e=W X cy e:=λe H M al=>by rw[rF e Zo al,g4 e H M]
     have bC:=zE u
     have fD:((ds++(ck.take u).map (qH t.ty on eX no)).map dK).flatten++dK (qH t.ty on eX no bE)=((ds++(ck.take (u+1)).map (qH t.ty on eX no)).map dK).flatten:=by rw[PO];simp
     rw[fD]at agA
     refine cS @k2 @bC ⟨?_⟩
     refine⟨ck.length-(u+1),Zo,u+1,jF,uJ,bE.text,bE.at_,rfl,Zo,aW t0,aW t1,bo,aW gQ,aW yy,aW q7,bo, ?_, .inl agA, ?_, ?_, ?_, ?_,Zo⟩
     ·rw[rF _ Zo (λa=>(BY _ a).2.1 rfl)];exact HD
     ·intro e z
      rcases auD e z with rfl|a
      ·exact⟨.inr Zo,Zo⟩
      ·have:=xN e a;exact⟨this.1,Zo⟩
     ·intro e H M
      rw[wF e Zo Zo (λa=>(BY e a).2.2.1 ⟨H,M⟩)]
      exact aht e H M
     ·exact ii.ab (wF _ Zo Zo (λa=>zz (BY _ a))) (wF _ Zo Zo (λa=>zz (BY _ a)))
     ·exact⟨Zo,λb aj bZ=>by rw[wF b Zo Zo (λa=>zz (BY _ a))];exact et.ab b aj bZ⟩
    ·have xV:u=ck.length:=Zo
     subst xV
     rw[Y1]at E5
     refine cL ⟨?_⟩
     exact bF _ _ _ ⟨e1,gK,aW t0,aW t1,aW t5,E5,λe z=>by
      obtain⟨H,M⟩:=xN e z
      rcases H with H|H
      ·have:=Az e H;omega
      ·omega,ii,et,nr⟩
   ·clear ua agI tH dc t0 t1 t5 eY gQ h2 eD cG eM
    rintro I cy dX ⟨e1,gK,t0,t1,t5,E5,xN,ii,et,nr⟩
    have afQ:(ds++ck.map (qH t.ty on eX no)).length+(aZ.drop iC).length<=aZ.length:=by simp only[ZL,Zi];omega
    generalize ds++ck.map (qH t.ty on eX no)=Kp at E5 Y afQ
    have fin:∀(R:S ag) (aS:Nat),(∀e,e<dX->e≠aM->W X R e=W X cy e)->dX<=aS->r= .ok (Kp,aZ.drop iC)->aL X R aM bU aZ iC->∃ds cJ b,r= .ok (ds,aZ.drop cJ)/\iI X R (dU j aS) b e1 8 (ds.map dK)/\aL X R aM bU aZ cJ/\ch X [aM] h j R aS:=by
     intro R aS H M al aB
     obtain⟨b,cG⟩:=(E5.ab (R:=R) (λe z=>H e (xN e z).2 (zz (xN e z)))).QK Zd (SX Kp) (by simp only[Zi];omega) (fm:=dU j aS) (λe z=>⟨(xN e z).1,zz (xN e z)⟩)
     exact⟨Kp,iC,b,al,cG,aB,Zo,λb aj bZ=>by rw[H b Zo (by simpa using bZ)];exact et.ab b aj bZ⟩
    refine cj @t0 ⟨?_⟩
    obtain⟨GD,pi,sF⟩:∃GD pi,aZ.drop iC=GD::pi:=by
     cases a:aZ.drop iC with
     |nil=>rw[a]at Y;simp[mS,Bt]at Y
     |cons w gM=>exact⟨w,gM,rfl⟩
    refine e0 (λdt=>dt=cy) rfl ?_
    rintro dt rfl
    refine(sW aw Zo ii Zo Zo (f2 sF).1).Zm ?_
    rintro u8 d6 hG ⟨rfl,ie⟩
    have qT:=ie.le
    have ns:=ii.ab (ie.ab _ Zo) (ie.ab _ Zo)
    rw[sF]at Y
    simp only[mS,Bt]at Y
    by_cases PH:GD.text=[59]
    ·rw[Zp PH]at Y
     have c2:decide (GD.text≠[59])=false:=by simp[PH]
     have aej:jL m loc Kp (aZ.drop (iC+1))=some r->∀(I:c1) (gV:S ag),I.g 0=some (.ptr aM 0)->I.g 1=some (.bool loc)->I.g 5=some e1->(∀e,e<hG->e≠aM->W X gV e=W X d6 e)->aL X gV aM bU aZ (iC+1)->
      ∃gg,gg<m+1/\∃s ds cv cJ,Nr X aM bU aZ j h loc I gV hG s ds cv cJ/\ds.length+(aZ.drop cJ).length<=aZ.length/\jL gg loc ds (aZ.drop cJ)=some r:=by
      intro iB I gV t0 t1 t5 aH awy
      refine⟨m,Zo,e1,Kp,gK,iC+1,⟨t0,t1,t5,E5.ab (λe z=> ?_),λe z=>zz (xN e z),awy,Zo,λb aj bZ=> ?_⟩, ?_,iB⟩
      ·have:=xN e z
       rw[aH e Zo Zo,ie.ab e Zo]
      ·rw[aH b Zo (by simpa using bZ),ie.ab b Zo];exact et.ab b aj bZ
      ·simp only[Yy]at afQ ⊢;omega
     obtain⟨c,aq,bf,cf,a3,a4⟩:=ns.at_
     have VW:=kE bf a3
     have ahr:=kE bf cf
     have k9:=(Zb.1 (f2 sF).1).1
     have dn:=ns.ne
     have bC:=zE iC
     have aiK:∀gV,gV=bm X d6 aM (some (.cells (d7 c 1 [.Z ((iC+1:Nat):Int)]) 2 .own))->aL X gV aM bU aZ (iC+1):=by
      rintro gV rfl
      refine ns.on (c:=d7 c 1 [.Z ((iC+1:Nat):Int)]) (bh Zo) (λdx st a=>by rw[bf]at a;cases a;exact pz ..) (aI Zo Zo)
     cases loc with
     |false=>
      simp only[Zw,ZB]at Y
      have jl:(GD::pi).drop 1=aZ.drop (iC+1):=by rw[(f2 sF).2];rfl
      rw[jl]at Y
      refine eh cg.eq_1 @c2 @t1 @t0 @VW @bC @bf ⟨?_⟩
      exact aej Y _ _ (aW t0) (aW t1) (aW t5) (λe H M=>aI Zo M) (aiK _ rfl)
     |true=>
      simp only[ZG]at Y
      obtain⟨w6,ue,H4⟩:∃w6 ue,pi=w6::ue:=by
       cases pi with
       |nil=>simp[Bt]at Y
       |cons w gM=>exact⟨w,gM,rfl⟩
      subst H4
      simp only[Bt]at Y
      have cx:aZ[iC+1]? =some w6:=(f2 (f2 sF).2).1
      have ID:=(Zb.1 cx).1
      have afG:=a4.fx (iC+1) (by rw[Zi];exact ID)
      have afc:aU X d6 (.ptr bU ((iC+1)*7+1))=some (.str w6.text):=a4.cell (iC+1) (cg w6) 1 _ (by rw[Zy,cx];rfl) rfl
      by_cases Pg:w6.text=[108,101,116]
      ·rw[Zp Pg]at Y
       simp only[ok,Zf]at Y
       have cM:decide (w6.text=[108,101,116])=true:=by simp[Pg]
       refine eh cg.eq_1 @c2 @t1 @t0 @ahr @VW (Za @bC (Za @afG (Za @afc (Za @cM @t5)))) ⟨?_⟩
       exact fin _ _ (λe H M=>ie.ab e Zo) Zo (by rw[<-Y,sF]) ns
      ·rw[Zg Pg]at Y
       have cM:decide (w6.text=[108,101,116])=false:=by simp[Pg]
       have jl:(GD::w6::ue).drop 1=aZ.drop (iC+1):=by rw[(f2 sF).2];rfl
       rw[jl]at Y
       refine eh cg.eq_1 @c2 @t1 @t0 @ahr @VW (Za @bC (Za @afG (Za @afc (Za @cM @bf)))) ⟨?_⟩
       exact aej Y _ _ (aW t0) (aW t1) (aW t5) (λe H M=>aI Zo M) (aiK _ rfl)
    ·rw[Zg PH]at Y
     simp only[ok,Zf]at Y
     have c2:decide (GD.text≠[59])=true:=by simp[PH]
     refine er cg.eq_1 @c2 @t5 ⟨?_⟩
     exact fin _ _ (λe H M=>ie.ab e Zo) Zo (by rw[<-Y,sF]) ns
end
end
end Go.Proofs.YtpeabpmnlmaabaaGreatDoor

