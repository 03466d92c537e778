/- A part of the last text's proof; no condition of its own -/
import Derived.Test.YtpfajohmofnkfaaGreatDoorYh
set_option maxHeartbeats 8000000
set_option linter.all false
namespace Go.Proofs.YtpfajohmofnkfaaGreatDoor
open Go.bd Go.aR
noncomputable section
section
variable{X:cb}{h T aP aM:K ag}{j an aG a1 aK bP:Nat}{aT:List Tok}{i:Nat}
def wV(F b:Nat)(cJ:List Nat):Nat->Prop:=λe=>F<=e/\e<b/\e∉cJ
def dk.off{C:aL}{bm:Nat->Prop}{F b cp:Nat}{cJ:List Nat}{aW:D}{bH:List be}{a8:List D}(a:dk C h (wV F b cJ) bH a8)(V:dD C h (λe=>bm e/\e∈cJ) cp aW 1 (a8.map λv=>[v])):dk C h (λe=>cQ F b e/\e≠cp) bH a8:=by
 cases a8 with
 |nil=>
  have:=a.len
  cases bH with
  |nil=>exact .nil
  |cons=>simp at this
 |cons v a8=>
  have aj:=(V.aj Zs).2
  exact dk.lift (λe z=>⟨⟨z.1,z.2.1⟩,λE=>z.2.2 (E▸aj)⟩) _ _ a
def jK(aw:du X)(ay:iJ X h j aK bP aT i){cp:Nat}{s:bi}(Hj:cp<j)(Lg:cp≠aK)(aF:Y X h cp=zu [.str s] 1){r:Except Int (Tok×List Tok)}(V:eC s (aT.drop i)=some r):
 aY X 172 [.ptr aK 0, .slice cp 0 1 1] h j (λac T an=>∃x cD,r= .ok (x,aT.drop cD)/\ac= .agg (cd x)/\aR X T aK bP aT cD/\ca X [aK] h j T an) (iY X aK h j r):=by
 have I:dD X h (λe=>e=cp) cp (.slice cp 0 1 1) 1 (ih [s]):=FG (br:=[[.str s]]) (st:= .own) aF rfl Zs Zs rfl
 refine(aih aw ay.a2 ay.par ay.bM ay.ht ay.g8 ay.many Hj Lg I (r:=r) ?_)
 simp only[sG]
 rw[V]
 obtain⟨E|⟨x,k⟩,_⟩:∃ah,ah=r:=⟨r,rfl⟩
 all_goals(rename_i bL;subst bL;rfl)
def awV(aw:du X){n:Nat}(ts:n<=300000)(al:∀m,m<n->rR X aK bP aT m):∀h j i r,iJ X h j aK bP aT i->Go.aR.list n (aT.drop i)=some r->aY X 262 [.ptr aK 0] h j (λac T an=>∃bH cD a8 cp,r= .ok (bH,aT.drop cD)/\dD X T (cQ j an) cp ac 1 (a8.map λv=>[v])/\dk X T (λe=>cQ j an e/\e≠cp) bH a8/\aR X T aK bP aT cD/\ca X [aK] h j T an) (iY X aK h j r):=by
 intro h j i r ay V
 cases n with
 |zero=>simp[Go.aR.list]at V
 |succ n=>
 refine zx aw (alX X) ?_
 rw[alY]
 unfold aak
 have gP:=ay.a2
 have iQ:=ay.ht
 have h9:=ay.bM
 have jT:=ay.g8
 unfold Go.aR.list at V
 obtain⟨x,bV,aH,af⟩:=rJ V
 refine(oj aw ay aH _).Zm ?_
 rintro xb aP aG ⟨rfl,en,il⟩
 have jm:=il.le
 rcases af with ⟨aF,V⟩|⟨aF,V⟩
 ·rw[aF]at en ⊢
  simp only[ZC]at en ⊢
  simp only[ok,Zf]at V
  subst V
  refine ci cd.eq_1 ⟨?_⟩
  refine⟨[],i+1,[],0,by rw[(fN aH).2],dD.nil _ _, .nil,en.ab (zw) (zw), ?_⟩
  exact⟨Zo,λb aj bZ=>by rw[<-il.ab b aj bZ];exact zw⟩
 ·rw[aF]at en ⊢
  simp only[Zw,ZA]at en ⊢
  simp only[]at V
  refine cT cd.eq_1 hc.eq_1 ⟨?_⟩
  refine fh (λaX=>bo X aP aG aX (aG+1)) dM ?_
  intro aM bJ
  have fP:=ay.go (en.ex bJ Zo Zo) (by omega:j<=aG+1)
  have dl:=il.trans (ca.of bJ)
  rcases gu V with ⟨F,J,rfl⟩|⟨E,c4,J,V⟩
  ·exact((al n Zo).arrow aM _ _ _ fP J).mono (λac T an a=>by obtain⟨E,cD,a,_⟩:=a;cases a) (λac T an a=>a.of dl (λ_ a=>by cases a;rfl))
  refine((al n Zo).arrow aM _ _ _ fP J).mono ?_ (λac T an a=>by obtain⟨F,a,_⟩:=a;cases a)
  rintro v3 aX bf ⟨eU,i3,asN,cg,gI,dY⟩
  cases asN
  have ip:=dY.le
  obtain⟨d9,rfl,mz,_⟩:=cg.ptr
  have mz:=mz.2
  refine cK ⟨?_⟩
  refine fK (λm H T aU=>∃bH a8 s cJ cD,a8.length+m<=n+1/\H.g 0=some (.ptr aK 0)/\H.g 5=some s/\gB X T s 1 a8 cJ/\(∀e∈cJ,j<=e/\e<aU)/\dk X T (wV j aU cJ) bH a8/\aR X T aK bP aT cD/\ca X [aK] h j T aU/\pW m bH (aT.drop cD)=some r)
   n ⟨[E],[.ptr d9 0], .slice bf 0 1 1,[bf],i3,by simp;omega,bw,bw, .inr ⟨bf,1,_,_,rfl,rfl,rfl,bg Zo,n8 _⟩, ?_, ?_,gI.ab (zw) (zw), ?_,V⟩ ?_
  ·intro e z
   simp at z
   omega
  ·refine dk.one (cy.ab (λe z=> ?_) _ _ cg) (λe z=>⟨zq z.1,zq z.2,by have:=z.2;simp;omega⟩)
   have:=z.2
   simp(disch:=omega) only[aI]
  ·exact⟨Zo,λb aj bZ=>by rw[<-(dl.trans dY).ab b aj bZ];exact zw⟩
  clear cg gI dY J V mz
  rintro m H bC da ⟨bH,a8,s,cJ,i4,bp,t0,t5,jF,fd,Ho,hl,ey,V⟩
  cases m with
  |zero=>simp[pW]at V
  |succ m=>
  unfold pW at V
  have jC:=ey.le
  have k6:=ay.go hl jC
  refine gZ ?_
  refine ci @t0 ⟨?_⟩
  obtain⟨e,bV,aH,af⟩:=rJ V
  refine(oj aw k6 aH _).Zm ?_
  rintro FY bW b4 ⟨rfl,hm,dF⟩
  have ib:=dF.le
  have pQ:∀e,j<=e->e<da->Y X bW e=Y X bC e:=λe I J=>dF.ab e Zo (by simp;omega)
  have pI:=jF.ab (T:=bW) (λe z=>pQ e (fd e z).1 (fd e z).2)
  have v7:=dk.ab (T:=bW) (λe z=>pQ e z.1 z.2.1) _ _ Ho
  rcases af with ⟨aF,V⟩|⟨aF,V⟩
  ·rw[aF]at hm ⊢
   simp only[ZC]at hm ⊢
   rw[<-(fN aH).2]at V
   simp only[]at V
   refine et cd.eq_1 @t0 @t5 ⟨?_⟩
   refine fh (λaX=>bo X bW b4 aX (b4+1)) dM ?_
   intro b9 eG
   have eu:=(ey.trans dF).trans (ca.of eG)
   have mG:=k6.go (hm.ex eG Zo Zo) (by omega:da<=b4+1)
   rcases gu V with ⟨F,c5,rfl⟩|⟨Sh,mE,c5,V⟩
   ·exact((al m Zo).arrow b9 _ _ _ mG c5).mono (λac T an a=>by obtain⟨E,cD,a,_⟩:=a;cases a) (λac T an a=>a.of eu (λ_ a=>by cases a;rfl))
   refine((al m Zo).arrow b9 _ _ _ mG c5).mono ?_ (λac T an a=>by obtain⟨F,a,_⟩:=a;cases a)
   rintro Mw cB ef ⟨ab8,pM,AU,eW,hQ,el⟩
   cases AU
   have n5:=el.le
   obtain⟨IJ,rfl,EV,_⟩:=eW.ptr
   have EV:=EV.2
   refine cK ⟨?_⟩
   have awb:∀gA,gA=bn X cB ef (zu [.ptr IJ 0] 1)->∀e,j<=e->e<b4->Y X gA e=Y X bW e:=by
    rintro gA rfl e I J
    rw[aI Zo Zo,el.ab e Zo (by simp;omega),eG.ab e Zo]
   have ks:lA X (bn X cB ef (zu [.ptr IJ 0] 1)) 1 (.slice ef 0 1 1)=some (1,[.ptr IJ 0]):=sD (bg Zo) (n8 _) rfl _
   obtain⟨fk,dX,gC,ix,UC,KG,ym⟩:=(pI.ab (T:=bn X cB ef (zu [.ptr IJ 0] 1)) (λe z=>awb _ rfl e (fd e z).1 (zq (fd e z).2))).append (j:=ef+1) Zd ks rfl Zd rfl (by simp;omega) Zo (λe z=>zq (fd e z).2)
   refine kN ix ?_
   have hS:∀e,e<ef->e∉cJ->Y X dX e=Y X cB e:=λe I J=>by
    rw[ym e Zo J,aI Zo Zo]
   refine⟨m,Zo,bH++[Sh],a8++[.ptr IJ 0],fk,gC,pM,by simp;omega,a7 t0,bw, .inl UC, ?_, ?_, ?_, ?_,V⟩
   ·intro e z
    rcases KG e z with rfl|z
    ·omega
    ·have:=fd e z;omega
   ·refine dk.snoc (cy.ab (λe z=> ?_) _ _ eW) (dk.ab (λe z=> ?_) _ _ v7) (λe z=>⟨z.1,zq z.2.1,λgi=> ?_⟩) (λe z=>⟨⟨zq z.1,zq z.2,λgi=> ?_⟩,λpL=>by have:=z.1;have:=pL.2.1;omega⟩)
    ·have I:=z.1
     exact hS e z.2 (λgi=>zq (fd e gi))
    ·have J:=z.2.1
     rw[hS e Zo z.2.2,el.ab e Zo (by have:=z.1;simp;omega),eG.ab e Zo]
    ·have J:=z.2.1
     rcases KG e gi with rfl|gi
     ·omega
     ·exact z.2.2 gi
    ·have I:=z.1;have J:=z.2
     rcases KG e gi with rfl|gi
     ·omega
     ·have:=fd e gi;omega
   ·exact hQ.ab (hS _ Zo (λE=>zq (fd _ E))) (hS _ Zo (λE=>zq (fd _ E)))
   ·exact⟨Zo,λb aj bZ=>by rw[hS b Zo (λE=>zq (fd _ E))];exact(eu.trans el).ab b aj bZ⟩
  ·rw[aF]at hm ⊢
   simp only[Zw,ZA]at hm ⊢
   simp only[]at V
   refine gx cd.eq_1 hc.eq_1 @t0 @t5 ⟨?_⟩
   refine fh (λaX=>bo X bW b4 aX (b4+1+1)/\Y X aX (b4+1)=zu [.str [41]] 1) ⟨dM,bg Zo⟩ ?_
   rintro b9 ⟨eG,dT⟩
   have eu:=(ey.trans dF).trans (ca.of eG)
   have mG:=k6.go (hm.ex eG Zo Zo) (by omega:da<=b4+1+1)
   rcases gu V with ⟨F,c5,rfl⟩|⟨Sh,mE,c5,V⟩
   ·exact(jK aw mG Zo Zo dT c5).mono (λac T an a=>by obtain⟨E,cD,a,_⟩:=a;cases a) (λac T an a=>a.of eu (λ_ a=>by cases a;rfl))
   refine(jK aw mG Zo Zo dT c5).mono ?_ (λac T an a=>by obtain⟨F,a,_⟩:=a;cases a)
   rintro Mw cB ef ⟨ab8,pM,AU,_,hQ,el⟩
   cases AU
   have n5:=el.le
   simp only[ok,Zf]at V
   subst V
   refine ci @t5 ⟨?_⟩
   have gQ:∀e,j<=e->e<b4->Y X cB e=Y X bW e:=λe I J=>by
    rw[el.ab e Zo (by simp;omega),eG.ab e Zo]
   obtain⟨cp,cA⟩:=(pI.ab (T:=cB) (λe z=>gQ e (fd e z).1 (zq (fd e z).2))).IK (P:=λe=>cQ j ef e/\e∈cJ) Zo (λe z=>⟨⟨(fd e z).1,zq (fd e z).2⟩,z⟩)
   refine⟨bH,pM,a8,cp,rfl,cA.lift (λe z=>z.1), ?_,hQ,eu.trans el⟩
   exact dk.lift (λe z=>⟨⟨z.1.1,zq z.1.2⟩,z.2⟩) _ _ (dk.off (dk.ab (λe z=>gQ e z.1 (zq z.2.1)) _ _ v7) cA)
end
section
variable{X:cb}{h T aP aM:K ag}{j an aG a1 aK bP:Nat}{aT:List Tok}{i:Nat}
def ayD(aw:du X){n:Nat}{r:Except Int (be×List Tok)}(ay:iJ X h j aK bP aT i){x:Tok}{k:List Tok}(aH:aT.drop i=x::k)(aD:x.kind=5)(V:Go.aR.part (n+1) (x::k)=some r):
 aY X 261 [.ptr aK 0] h j (j0 X aK bP aT h j r) (iY X aK h j r):=by
 refine zx aw (BY X) ?_
 rw[BZ]
 unfold Ab
 have gP:=ay.a2
 have iQ:=ay.ht
 have h9:=ay.bM
 have jT:=ay.g8
 obtain⟨af,io⟩:=fN aH
 unfold Go.aR.part at V
 refine(sx aw ay.a2 ay.par ay.ht ay.g8 af).Zm ?_
 rintro ac aP aG ⟨rfl,bN⟩
 have jm:=bN.le
 have en:=ay.par.ex bN Zo Zo
 obtain⟨c,ao,ba,cj,a3,a4⟩:=en.at_
 have bR:=kf ba a3
 have lK:=(Zc.1 af).1
 have wg:=ay.many
 have c8:=en.ne
 have bF:=zv i
 refine he cd.eq_1 @bR (Za @bF @ba) ⟨?_⟩
 generalize dI:bn X _ aK _=aM
 have fE:Y X aM aG=zu (cd x) 7:=by rw[<-dI];simp(disch:=omega) only[aI,bg]<;>rfl
 have iN:Y X aM (aG+1)=zu (gE 0 x.at_ [] false dH 0 .aV) 9:=by rw[<-dI];simp(disch:=omega) only[aI,bg]<;>rfl
 have dB:aR X aM aK bP aT (i+1):=by
  refine en.on (c:=dN c 1 [.Z ((i+1:Nat):Int)]) ?_ (λd3 st a=>by rw[ba]at a;cases a;exact rM ..) ?_
  ·rw[<-dI];simp(disch:=omega) only[aI,bg];rfl
  ·rw[<-dI];simp(disch:=omega) only[aI]
 have dl:ca X [aK] h j aM (aG+2):=by
  refine⟨Zo,λb aj bZ=> ?_⟩
  rw[<-bN.ab b aj, <-dI]
  simp only[Zr,ZK,YS,Yz,ZG,Ya]at bZ
  simp(disch:=omega) only[aI]
 clear dI bR ba cj a3 a4 en bN
 have uy:∃dx,Y X aM aK=some (.cells dx 2 .own)/\aO X aM (.ptr aK 1)=some (.Z ((i+1:Nat):Int)):=by
  obtain⟨c,ao,bQ,cf,cM,ew⟩:=dB.at_
  exact⟨c,bQ,kf bQ cM⟩
 have fP:=ay.go dB (by omega:j<=aG+1+1)
 refine kt (λH T aU=>∃v,H.g 4=some v/\j0 X aK bP aT h j r v T aU) (λW bK=> ?_) (by
  rintro H T aU ⟨v,t4,a⟩
  refine ci @t4 ⟨?_⟩
  exact a)
 rw[Zu aD]at V
 simp only[ok,Zf]at V
 subst V
 have ga:decide (x.kind=5)=true:=by simp[aD]
 refine gx (bO fE) @iN @ga cd.eq_1 ⟨?_⟩
 refine g2 (by simp[D.same,o3]) ?_
 refine et (bO fE) @iN cd.eq_1 ⟨?_⟩
 refine g2 (qM _ _) ?_
 refine et (bO fE) @iN cd.eq_1 ⟨?_⟩
 refine g2 (qM _ _) ?_
 refine et (bO fE) @iN cd.eq_1 ⟨?_⟩
 refine bK _ _ _ ⟨.ptr (aG+1) 0,bw,_,i+1,by rw[<-io],cy.leaf (b:=aG+1) (m:=9) (st:= .own) ?_ ⟨Zo,Zo⟩,dB.ab (zw) (zw), ?_⟩
 ·simp(disch:=omega) only[aI,bg]<;>rfl
 ·exact⟨Zo,λb aj bZ=>by rw[<-dl.ab b aj bZ];exact zw⟩
end
section
variable{X:cb}{h T aP aM:K ag}{j an aG a1 aK bP:Nat}{aT:List Tok}{i:Nat}
def agU(aw:du X){n:Nat}{r:Except Int (be×List Tok)}(ay:iJ X h j aK bP aT i){x:Tok}{k:List Tok}(aH:aT.drop i=x::k)(aD:x.kind=2)(a6:x.text=[116,114,117,101]\/x.text=[102,97,108,115,101])(V:Go.aR.part (n+1) (x::k)=some r):
 aY X 261 [.ptr aK 0] h j (j0 X aK bP aT h j r) (iY X aK h j r):=by
 refine zx aw (BY X) ?_
 rw[BZ]
 unfold Ab
 have gP:=ay.a2
 have iQ:=ay.ht
 have h9:=ay.bM
 have jT:=ay.g8
 obtain⟨af,io⟩:=fN aH
 unfold Go.aR.part at V
 refine(sx aw ay.a2 ay.par ay.ht ay.g8 af).Zm ?_
 rintro ac aP aG ⟨rfl,bN⟩
 have jm:=bN.le
 have en:=ay.par.ex bN Zo Zo
 obtain⟨c,ao,ba,cj,a3,a4⟩:=en.at_
 have bR:=kf ba a3
 have lK:=(Zc.1 af).1
 have wg:=ay.many
 have c8:=en.ne
 have bF:=zv i
 refine he cd.eq_1 @bR (Za @bF @ba) ⟨?_⟩
 generalize dI:bn X _ aK _=aM
 have fE:Y X aM aG=zu (cd x) 7:=by rw[<-dI];simp(disch:=omega) only[aI,bg]<;>rfl
 have iN:Y X aM (aG+1)=zu (gE 0 x.at_ [] false dH 0 .aV) 9:=by rw[<-dI];simp(disch:=omega) only[aI,bg]<;>rfl
 have dB:aR X aM aK bP aT (i+1):=by
  refine en.on (c:=dN c 1 [.Z ((i+1:Nat):Int)]) ?_ (λd3 st a=>by rw[ba]at a;cases a;exact rM ..) ?_
  ·rw[<-dI];simp(disch:=omega) only[aI,bg];rfl
  ·rw[<-dI];simp(disch:=omega) only[aI]
 have dl:ca X [aK] h j aM (aG+2):=by
  refine⟨Zo,λb aj bZ=> ?_⟩
  rw[<-bN.ab b aj, <-dI]
  simp only[Zr,ZK,YS,Yz,ZG,Ya]at bZ
  simp(disch:=omega) only[aI]
 clear dI bR ba cj a3 a4 en bN
 have uy:∃dx,Y X aM aK=some (.cells dx 2 .own)/\aO X aM (.ptr aK 1)=some (.Z ((i+1:Nat):Int)):=by
  obtain⟨c,ao,bQ,cf,cM,ew⟩:=dB.at_
  exact⟨c,bQ,kf bQ cM⟩
 have fP:=ay.go dB (by omega:j<=aG+1+1)
 refine kt (λH T aU=>∃v,H.g 4=some v/\j0 X aK bP aT h j r v T aU) (λW bK=> ?_) (by
  rintro H T aU ⟨v,t4,a⟩
  refine ci @t4 ⟨?_⟩
  exact a)
 rw[Zg (by rw[aD];decide),Zu (by rcases a6 with a|a<;>simp[aD,a])]at V
 simp only[ok,Zf]at V
 subst V
 have ga:decide (x.kind=5)=false:=by simp[aD]
 have cF:decide (x.kind=2)=true:=by simp[aD]
 rcases a6 with a6|a6
 ·have J1:decide (x.text=[116,114,117,101])=true:=by simp[a6]
  refine iM (bO fE) @iN @ga @cF @J1 cd.eq_1 ⟨?_⟩
  refine bK _ _ _ ⟨.ptr (aG+1) 0,bw,_,i+1,by rw[<-io],cy.leaf (b:=aG+1) (m:=9) (st:= .own) (n:=if x.text=[116,114,117,101]then 1 else 0) ?_ ⟨Zo,Zo⟩,dB.ab (zw) (zw), ?_⟩
  ·rw[Zu a6];simp(disch:=omega) only[aI,bg]<;>rfl
  ·exact⟨Zo,λb aj bZ=>by rw[<-dl.ab b aj bZ];exact zw⟩
 ·have J1:decide (x.text=[116,114,117,101])=false:=by simp[a6]
  have bc:decide (x.text=[102,97,108,115,101])=true:=by simp[a6]
  refine eF (bO fE) @iN @ga @cF @J1 @bc cd.eq_1 ⟨?_⟩
  refine bK _ _ _ ⟨.ptr (aG+1) 0,bw,_,i+1,by rw[<-io],cy.leaf (b:=aG+1) (m:=9) (st:= .own) (n:=if x.text=[116,114,117,101]then 1 else 0) ?_ ⟨Zo,Zo⟩,dB.ab (zw) (zw), ?_⟩
  ·rw[Zg (by rw[a6];decide)];simp(disch:=omega) only[aI,bg]<;>rfl
  ·exact⟨Zo,λb aj bZ=>by rw[<-dl.ab b aj bZ];exact zw⟩
end
section
variable{X:cb}{h T aP aM:K ag}{j an aG a1 aK bP:Nat}{aT:List Tok}{i:Nat}
def ayF(aw:du X){n:Nat}(al:∀m,m<n+1->rR X aK bP aT m){r:Except Int (be×List Tok)}(ay:iJ X h j aK bP aT i){x:Tok}{k:List Tok}(aH:aT.drop i=x::k)(ts:n<=1000000)(aD:x.kind=1)(V:Go.aR.part (n+1) (x::k)=some r):
 aY X 261 [.ptr aK 0] h j (j0 X aK bP aT h j r) (iY X aK h j r):=by
 refine zx aw (BY X) ?_
 rw[BZ]
 unfold Ab
 have gP:=ay.a2
 have iQ:=ay.ht
 have h9:=ay.bM
 have jT:=ay.g8
 obtain⟨af,io⟩:=fN aH
 unfold Go.aR.part at V
 refine(sx aw ay.a2 ay.par ay.ht ay.g8 af).Zm ?_
 rintro ac aP aG ⟨rfl,bN⟩
 have jm:=bN.le
 have en:=ay.par.ex bN Zo Zo
 obtain⟨c,ao,ba,cj,a3,a4⟩:=en.at_
 have bR:=kf ba a3
 have lK:=(Zc.1 af).1
 have wg:=ay.many
 have c8:=en.ne
 have bF:=zv i
 refine he cd.eq_1 @bR (Za @bF @ba) ⟨?_⟩
 generalize dI:bn X _ aK _=aM
 have fE:Y X aM aG=zu (cd x) 7:=by rw[<-dI];simp(disch:=omega) only[aI,bg]<;>rfl
 have iN:Y X aM (aG+1)=zu (gE 0 x.at_ [] false dH 0 .aV) 9:=by rw[<-dI];simp(disch:=omega) only[aI,bg]<;>rfl
 have dB:aR X aM aK bP aT (i+1):=by
  refine en.on (c:=dN c 1 [.Z ((i+1:Nat):Int)]) ?_ (λd3 st a=>by rw[ba]at a;cases a;exact rM ..) ?_
  ·rw[<-dI];simp(disch:=omega) only[aI,bg];rfl
  ·rw[<-dI];simp(disch:=omega) only[aI]
 have dl:ca X [aK] h j aM (aG+2):=by
  refine⟨Zo,λb aj bZ=> ?_⟩
  rw[<-bN.ab b aj, <-dI]
  simp only[Zr,ZK,YS,Yz,ZG,Ya]at bZ
  simp(disch:=omega) only[aI]
 clear dI bR ba cj a3 a4 en bN
 have uy:∃dx,Y X aM aK=some (.cells dx 2 .own)/\aO X aM (.ptr aK 1)=some (.Z ((i+1:Nat):Int)):=by
  obtain⟨c,ao,bQ,cf,cM,ew⟩:=dB.at_
  exact⟨c,bQ,kf bQ cM⟩
 have fP:=ay.go dB (by omega:j<=aG+1+1)
 refine kt (λH T aU=>∃v,H.g 4=some v/\j0 X aK bP aT h j r v T aU) (λW bK=> ?_) (by
  rintro H T aU ⟨v,t4,a⟩
  refine ci @t4 ⟨?_⟩
  exact a)
 rw[Zg (by rw[aD];decide),Zg (by simp[aD]),Zu aD]at V
 have ga:decide (x.kind=5)=false:=by simp[aD]
 have cF:decide (x.kind=2)=false:=by simp[aD]
 have cX:decide (x.kind=1)=true:=by simp[aD]
 refine iM (bO fE) @iN @ga @cF @cX cd.eq_1 ⟨?_⟩
 refine g2 (by simp[D.same,Fo]) ?_
 refine et (bO fE) @iN cd.eq_1 ⟨?_⟩
 refine fh (λaX=>Y X aX (aG+1)=zu (gE 2 x.at_ x.text false dH 0 .aV) 9/\aR X aX aK bP aT (i+1)/\ca X [aK] h j aX (aG+1+1+10)) ⟨?_, ?_, ?_⟩ ?_
 ·simp(disch:=omega) only[aI,bg]<;>rfl
 ·exact dB.ab (zw) (zw)
 ·exact⟨Zo,λb aj bZ=>by rw[<-dl.ab b aj bZ];exact zw⟩
 clear dB fP dl fE iN uy
 rintro aX ⟨iN,gI,dY⟩
 have nG:=ay.go gI (by omega:j<=aG+1+1+10)
 rw[<-io]at V
 obtain⟨e,g6,EE,avg⟩:=rJ V
 refine(oj aw nG EE _).Zm ?_
 rintro FX bC da ⟨rfl,hl,ey⟩
 have jC:=ey.le
 have El:Y X bC (aG+1)=zu (gE 2 x.at_ x.text false dH 0 .aV) 9:=by rw[ey.ab _ Zo (by simp;omega)];exact iN
 have oL:=dY.trans ey
 rcases avg with ⟨aF,V⟩|⟨aF,V⟩
 ·rw[aF]at hl ⊢
  simp only[ZC]at hl ⊢
  rw[<-(fN EE).2]at V
  simp only[]at V
  refine ci cd.eq_1 ⟨?_⟩
  refine fh (λbW=>bo X bC da bW (da+1)) dM ?_
  intro bW dJ
  have o9:=nG.go (hl.ex dJ Zo Zo) (by omega:aG+1+1+10<=da+1)
  have dF:=oL.trans (ca.of dJ)
  rcases gu V with ⟨F,b6,rfl⟩|⟨bH,m7,b6,V⟩
  ·exact((al n Zo).list bW _ _ _ o9 b6).mono (λac T an a=>by obtain⟨E,cD,a8,cp,a,_⟩:=a;cases a) (λac T an a=>a.of dF (λ_ a=>by cases a;rfl))
  refine((al n Zo).list bW _ _ _ o9 b6).mono ?_ (λac T an a=>by obtain⟨F,a,_⟩:=a;cases a)
  rintro BF b9 eB ⟨j5,ie,a8,cp,TL,cA,Ho,hz,eu⟩
  cases TL
  have tq:=eu.le
  simp only[ok,Zf]at V
  subst V
  have nZ:Y X b9 (aG+1)=zu (gE 2 x.at_ x.text false dH 0 .aV) 9:=by rw[eu.ab _ Zo (by simp;omega),dJ.ab _ Zo];exact El
  have rn:∃w,BF.cells=[w]/\w=BF/\qJ BF=true:=by
   have:=cA.len
   cases BF<;>first|exact⟨_,rfl,rfl,rfl⟩|(simp[gy]at this;done)
  obtain⟨w,bt,rfl,mA⟩:=rn
  have dm:∀cB JN,Y X cB (aG+1)=some (.cells JN 9 .own)->gj X cB 1 (.ptr (aG+1) 8) w=some (bn X cB (aG+1) (some (.cells (JN.set 8 (some w)) 9 .own))):=λcB JN a=>t2 a Zo Zo bt mA
  refine ci @nZ ⟨?_⟩
  refine fw (dm _ _ (bg Zo)) ?_
  refine bK _ _ _ ⟨.ptr (aG+1) 0,bw,_,ie,rfl,cy.of (b:=aG+1) (m:=9) (st:= .own) (cp:=cp) (aW:=w) (kind:=25) (at_:=x.at_) (name:=x.text) (no:=false) (ty:=dH) (n:=0) (a8:=a8) ?_ ⟨Zo,Zo⟩ ?_ (λbD=> ?_) ?_,hz.ab (zw) (zw), ?_⟩
  ·simp(disch:=omega) only[aI,bg]<;>rfl
  ·refine(cA.ab (λe z=> ?_)).lift (λe z=>⟨zq z.1,z.2⟩)
   have:=z.1
   simp(disch:=omega) only[aI]
  ·have:=(cA.aj (by simpa using bD)).1
   omega
  ·refine dk.lift (λe z=>⟨⟨zq z.1.1,zq z.1.2⟩,zq z.1.1,z.2⟩) _ _ (dk.ab (λe z=> ?_) _ _ Ho)
   have I:=z.1.1
   have J:=z.1.2
   simp(disch:=omega) only[aI]
  ·exact⟨Zo,λb aj bZ=>by rw[<-(dF.trans eu).ab b aj bZ];exact zw⟩
 ·rw[aF]at hl ⊢
  simp only[Zw,ZA]at hl ⊢
  simp only[ok,Zf]at V
  subst V
  refine cT cd.eq_1 hc.eq_1 ⟨?_⟩
  refine bK _ _ _ ⟨.ptr (aG+1) 0,bw,_,i+1,rfl,cy.leaf (b:=aG+1) (m:=9) (st:= .own) ?_ ⟨Zo,Zo⟩,hl.ab (zw) (zw), ?_⟩
  ·simp(disch:=omega) only[aI];exact El
  ·exact⟨Zo,λb aj bZ=>by rw[<-oL.ab b aj bZ];exact zw⟩
end
section
variable{X:cb}{h T aP aM:K ag}{j an aG a1 aK bP:Nat}{aT:List Tok}{i:Nat}
def ayI(aw:du X){n:Nat}(al:∀m,m<n+1->rR X aK bP aT m){r:Except Int (be×List Tok)}(ay:iJ X h j aK bP aT i){x:Tok}{k:List Tok}(aH:aT.drop i=x::k)(aD:x.kind=3)(V:Go.aR.part (n+1) (x::k)=some r):
 aY X 261 [.ptr aK 0] h j (j0 X aK bP aT h j r) (iY X aK h j r):=by
 refine zx aw (BY X) ?_
 rw[BZ]
 unfold Ab
 have gP:=ay.a2
 have iQ:=ay.ht
 have h9:=ay.bM
 have jT:=ay.g8
 obtain⟨af,io⟩:=fN aH
 unfold Go.aR.part at V
 refine(sx aw ay.a2 ay.par ay.ht ay.g8 af).Zm ?_
 rintro ac aP aG ⟨rfl,bN⟩
 have jm:=bN.le
 have en:=ay.par.ex bN Zo Zo
 obtain⟨c,ao,ba,cj,a3,a4⟩:=en.at_
 have bR:=kf ba a3
 have lK:=(Zc.1 af).1
 have wg:=ay.many
 have c8:=en.ne
 have bF:=zv i
 refine he cd.eq_1 @bR (Za @bF @ba) ⟨?_⟩
 generalize dI:bn X _ aK _=aM
 have fE:Y X aM aG=zu (cd x) 7:=by rw[<-dI];simp(disch:=omega) only[aI,bg]<;>rfl
 have iN:Y X aM (aG+1)=zu (gE 0 x.at_ [] false dH 0 .aV) 9:=by rw[<-dI];simp(disch:=omega) only[aI,bg]<;>rfl
 have dB:aR X aM aK bP aT (i+1):=by
  refine en.on (c:=dN c 1 [.Z ((i+1:Nat):Int)]) ?_ (λd3 st a=>by rw[ba]at a;cases a;exact rM ..) ?_
  ·rw[<-dI];simp(disch:=omega) only[aI,bg];rfl
  ·rw[<-dI];simp(disch:=omega) only[aI]
 have dl:ca X [aK] h j aM (aG+2):=by
  refine⟨Zo,λb aj bZ=> ?_⟩
  rw[<-bN.ab b aj, <-dI]
  simp only[Zr,ZK,YS,Yz,ZG,Ya]at bZ
  simp(disch:=omega) only[aI]
 clear dI bR ba cj a3 a4 en bN
 have uy:∃dx,Y X aM aK=some (.cells dx 2 .own)/\aO X aM (.ptr aK 1)=some (.Z ((i+1:Nat):Int)):=by
  obtain⟨c,ao,bQ,cf,cM,ew⟩:=dB.at_
  exact⟨c,bQ,kf bQ cM⟩
 have fP:=ay.go dB (by omega:j<=aG+1+1)
 refine kt (λH T aU=>∃v,H.g 4=some v/\j0 X aK bP aT h j r v T aU) (λW bK=> ?_) (by
  rintro H T aU ⟨v,t4,a⟩
  refine ci @t4 ⟨?_⟩
  exact a)
 rw[Zg (by rw[aD];decide),Zg (by simp[aD]),Zg (by rw[aD];decide),Zu aD]at V
 have ga:decide (x.kind=5)=false:=by simp[aD]
 have cF:decide (x.kind=2)=false:=by simp[aD]
 have cX:decide (x.kind=1)=false:=by simp[aD]
 have eS:decide (x.kind=3)=true:=by simp[aD]
 refine eF (bO fE) @iN @ga @cF @cX @eS cd.eq_1 ⟨?_⟩
 refine g2 (by simp[D.same,o3]) ?_
 refine et (bO fE) @iN cd.eq_1 ⟨?_⟩
 refine fh (λaX=>Y X aX (aG+1+1+10)=zu [.str [40]] 1/\Y X aX (aG+1)=zu (gE 26 x.at_ [] false x.ty 0 .aV) 9/\aR X aX aK bP aT (i+1)/\ca X [aK] h j aX (aG+1+1+10+1)) ⟨bg Zo, ?_, ?_, ?_⟩ ?_
 ·simp(disch:=omega) only[aI,bg]<;>rfl
 ·exact dB.ab (zw) (zw)
 ·exact⟨Zo,λb aj bZ=>by rw[<-dl.ab b aj bZ];exact zw⟩
 clear dB fP dl fE iN uy
 rintro aX ⟨ai,iN,gI,dY⟩
 have nG:=ay.go gI (by omega:j<=aG+1+1+10+1)
 rw[<-io]at V
 rcases gu V with ⟨F,aB,rfl⟩|⟨lF,g6,aB,V⟩
 ·exact(jK aw nG Zo Zo ai aB).mono (λac T an a=>by obtain⟨E,cD,a,_⟩:=a;cases a) (λac T an a=>a.of dY (λ_ a=>by cases a;rfl))
 refine(jK aw nG Zo Zo ai aB).mono ?_ (λac T an a=>by obtain⟨F,a,_⟩:=a;cases a)
 rintro v4 bC da ⟨aB7,i4,uL,_,hl,ey⟩
 cases uL
 have jC:=ey.le
 have k6:=nG.go hl jC
 have AK:=dY.trans ey
 rcases gu V with ⟨F,bk,rfl⟩|⟨oG,gJ,bk,V⟩
 ·exact((al n Zo).arrow bC _ _ _ k6 bk).mono (λac T an a=>by obtain⟨E,cD,a,_⟩:=a;cases a) (λac T an a=>a.of AK (λ_ a=>by cases a;rfl))
 refine((al n Zo).arrow bC _ _ _ k6 bk).mono ?_ (λac T an a=>by obtain⟨F,a,_⟩:=a;cases a)
 rintro v5 bW b4 ⟨NC,i5,tm,dJ,hm,dF⟩
 cases tm
 have ib:=dF.le
 have o9:=k6.go hm ib
 have rb:=AK.trans dF
 obtain⟨mH,rfl,sj,_⟩:=dJ.ptr
 have sj:=sj.2
 have qs:Y X bW (aG+1)=zu (gE 26 x.at_ [] false x.ty 0 .aV) 9:=by rw[dF.ab _ Zo (by simp;omega),ey.ab _ Zo (by simp;omega)];exact iN
 refine ci @qs ⟨?_⟩
 refine fh (λb9=>Y X b9 (b4+1)=zu [.str [41]] 1/\Y X b9 b4=zu [.ptr mH 0] 1/\Y X b9 (aG+1)=zu (gE 26 x.at_ [] false x.ty 0 (.slice b4 0 1 1)) 9/\cy X b9 (cQ da b4) oG (.ptr mH 0)/\aR X b9 aK bP aT i5/\ca X [aK] h j b9 (b4+1+1)) ⟨bg Zo, ?_, ?_, ?_, ?_, ?_⟩ ?_
 ·simp(disch:=omega) only[aI,bg]<;>rfl
 ·simp(disch:=omega) only[aI,bg]<;>rfl
 ·refine cy.ex dJ (λe I J=> ?_) Zo Zo
  simp(disch:=omega) only[aI]
 ·exact hm.ab (zw) (zw)
 ·exact⟨Zo,λb aj bZ=>by rw[<-rb.ab b aj bZ];exact zw⟩
 clear dJ hm qs dF
 rintro b9 ⟨Kh,aqH,nZ,eG,hz,eu⟩
 have mG:=ay.go hz (by omega:j<=b4+1+1)
 rcases gu V with ⟨F,c5,rfl⟩|⟨xr,mE,c5,V⟩
 ·exact(jK aw mG Zo Zo Kh c5).mono (λac T an a=>by obtain⟨E,cD,a,_⟩:=a;cases a) (λac T an a=>a.of eu (λ_ a=>by cases a;rfl))
 refine(jK aw mG Zo Zo Kh c5).mono ?_ (λac T an a=>by obtain⟨F,a,_⟩:=a;cases a)
 rintro Mw cB ef ⟨aB8,pM,AU,_,hQ,el⟩
 cases AU
 have n5:=el.le
 simp only[ok,Zf]at V
 subst V
 refine bK _ _ _ ⟨.ptr (aG+1) 0,bw,_,pM,rfl,cy.lit (q:=1) (cap:=1) (b:=aG+1) (m:=9) (st:= .own) (ii:= .own) (cp:=b4) (a8:=[.ptr mH 0]) ?_ ⟨Zo,Zo⟩ ?_ ⟨Zo,Zo⟩ rfl Zo Zo (dk.one (cy.ab (λe z=> ?_) _ _ eG) (λe z=> ?_)),hQ,eu.trans el⟩
 ·rw[el.ab _ Zo (by simp;omega)];exact nZ
 ·rw[el.ab _ Zo (by simp;omega)];exact aqH
 ·have I:=z.1;have J:=z.2
  exact el.ab e Zo (by simp;omega)
 ·simp only[cQ]at z ⊢;omega
end
section
variable{X:cb}{h T aP aM:K ag}{j an aG a1 aK bP:Nat}{aT:List Tok}{i:Nat}
def ayH(aw:du X){n:Nat}(al:∀m,m<n+1->rR X aK bP aT m){r:Except Int (be×List Tok)}(ay:iJ X h j aK bP aT i){x:Tok}{k:List Tok}(aH:aT.drop i=x::k)(aD:x.kind=6)(a6:x.text=[40])(V:Go.aR.part (n+1) (x::k)=some r):
 aY X 261 [.ptr aK 0] h j (j0 X aK bP aT h j r) (iY X aK h j r):=by
 refine zx aw (BY X) ?_
 rw[BZ]
 unfold Ab
 have gP:=ay.a2
 have iQ:=ay.ht
 have h9:=ay.bM
 have jT:=ay.g8
 obtain⟨af,io⟩:=fN aH
 unfold Go.aR.part at V
 refine(sx aw ay.a2 ay.par ay.ht ay.g8 af).Zm ?_
 rintro ac aP aG ⟨rfl,bN⟩
 have jm:=bN.le
 have en:=ay.par.ex bN Zo Zo
 obtain⟨c,ao,ba,cj,a3,a4⟩:=en.at_
 have bR:=kf ba a3
 have lK:=(Zc.1 af).1
 have wg:=ay.many
 have c8:=en.ne
 have bF:=zv i
 refine he cd.eq_1 @bR (Za @bF @ba) ⟨?_⟩
 generalize dI:bn X _ aK _=aM
 have fE:Y X aM aG=zu (cd x) 7:=by rw[<-dI];simp(disch:=omega) only[aI,bg]<;>rfl
 have iN:Y X aM (aG+1)=zu (gE 0 x.at_ [] false dH 0 .aV) 9:=by rw[<-dI];simp(disch:=omega) only[aI,bg]<;>rfl
 have dB:aR X aM aK bP aT (i+1):=by
  refine en.on (c:=dN c 1 [.Z ((i+1:Nat):Int)]) ?_ (λd3 st a=>by rw[ba]at a;cases a;exact rM ..) ?_
  ·rw[<-dI];simp(disch:=omega) only[aI,bg];rfl
  ·rw[<-dI];simp(disch:=omega) only[aI]
 have dl:ca X [aK] h j aM (aG+2):=by
  refine⟨Zo,λb aj bZ=> ?_⟩
  rw[<-bN.ab b aj, <-dI]
  simp only[Zr,ZK,YS,Yz,ZG,Ya]at bZ
  simp(disch:=omega) only[aI]
 clear dI bR ba cj a3 a4 en bN
 have uy:∃dx,Y X aM aK=some (.cells dx 2 .own)/\aO X aM (.ptr aK 1)=some (.Z ((i+1:Nat):Int)):=by
  obtain⟨c,ao,bQ,cf,cM,ew⟩:=dB.at_
  exact⟨c,bQ,kf bQ cM⟩
 have fP:=ay.go dB (by omega:j<=aG+1+1)
 refine kt (λH T aU=>∃v,H.g 4=some v/\j0 X aK bP aT h j r v T aU) (λW bK=> ?_) (by
  rintro H T aU ⟨v,t4,a⟩
  refine ci @t4 ⟨?_⟩
  exact a)
 rw[Zg (by rw[aD];decide),Zg (by simp[aD]),Zg (by rw[aD];decide),Zg (by rw[aD];decide),Zu (by simp[aD,a6])]at V
 have ga:decide (x.kind=5)=false:=by simp[aD]
 have cF:decide (x.kind=2)=false:=by simp[aD]
 have cX:decide (x.kind=1)=false:=by simp[aD]
 have eS:decide (x.kind=3)=false:=by simp[aD]
 have jg:decide (x.kind=6)=true:=by simp[aD]
 have J1:decide (x.text=[40])=true:=by simp[a6]
 refine eF (bO fE) @iN @ga @cF @cX @eS (Za @jg (Za @J1 cd.eq_1)) ⟨?_⟩
 rw[<-io]at V
 rcases gu V with ⟨F,bk,rfl⟩|⟨oG,gJ,bk,V⟩
 ·exact((al n Zo).arrow aM _ _ _ fP bk).mono (λac T an a=>by obtain⟨E,cD,a,_⟩:=a;cases a) (λac T an a=>a.of dl (λ_ a=>by cases a;rfl))
 refine((al n Zo).arrow aM _ _ _ fP bk).mono ?_ (λac T an a=>by obtain⟨F,a,_⟩:=a;cases a)
 rintro v5 bW b4 ⟨NC,i5,tm,dJ,hm,dF⟩
 cases tm
 have ib:=dF.le
 have o9:=fP.go hm ib
 have rb:=dl.trans dF
 refine cK ⟨?_⟩
 refine fh (λb9=>Y X b9 b4=zu [.str [41]] 1/\bo X bW b4 b9 (b4+1)) ⟨bg Zo,dM⟩ ?_
 rintro b9 ⟨Kh,eG⟩
 have mG:=o9.go (hm.ex eG Zo Zo) (by omega:b4<=b4+1)
 have eu:=rb.trans (ca.of eG)
 rcases gu V with ⟨F,c5,rfl⟩|⟨xr,mE,c5,V⟩
 ·exact(jK aw mG Zo Zo Kh c5).mono (λac T an a=>by obtain⟨E,cD,a,_⟩:=a;cases a) (λac T an a=>a.of eu (λ_ a=>by cases a;rfl))
 refine(jK aw mG Zo Zo Kh c5).mono ?_ (λac T an a=>by obtain⟨F,a,_⟩:=a;cases a)
 rintro Mw cB ef ⟨aB8,pM,AU,_,hQ,el⟩
 cases AU
 have n5:=el.le
 simp only[ok,Zf]at V
 subst V
 refine bK _ _ _ ⟨v5,bw,_,pM,rfl,cy.ex dJ (λe I J=>by rw[el.ab e Zo (by simp;omega),eG.ab e Zo]) Zo Zo,hQ,eu.trans el⟩
end
section
variable{X:cb}{h T aP aM:K ag}{j an aG a1 aK bP:Nat}{aT:List Tok}{i:Nat}
def ayE(aw:du X){n:Nat}(al:∀m,m<n+1->rR X aK bP aT m){r:Except Int (be×List Tok)}(ay:iJ X h j aK bP aT i){x:Tok}{k:List Tok}(aH:aT.drop i=x::k)(aD:x.kind=2)(a6:x.text=[109,101,114,103,101])(V:Go.aR.part (n+1) (x::k)=some r):
 aY X 261 [.ptr aK 0] h j (j0 X aK bP aT h j r) (iY X aK h j r):=by
 refine zx aw (BY X) ?_
 rw[BZ]
 unfold Ab
 have gP:=ay.a2
 have iQ:=ay.ht
 have h9:=ay.bM
 have jT:=ay.g8
 obtain⟨af,io⟩:=fN aH
 unfold Go.aR.part at V
 refine(sx aw ay.a2 ay.par ay.ht ay.g8 af).Zm ?_
 rintro ac aP aG ⟨rfl,bN⟩
 have jm:=bN.le
 have en:=ay.par.ex bN Zo Zo
 obtain⟨c,ao,ba,cj,a3,a4⟩:=en.at_
 have bR:=kf ba a3
 have lK:=(Zc.1 af).1
 have wg:=ay.many
 have c8:=en.ne
 have bF:=zv i
 refine he cd.eq_1 @bR (Za @bF @ba) ⟨?_⟩
 generalize dI:bn X _ aK _=aM
 have fE:Y X aM aG=zu (cd x) 7:=by rw[<-dI];simp(disch:=omega) only[aI,bg]<;>rfl
 have iN:Y X aM (aG+1)=zu (gE 0 x.at_ [] false dH 0 .aV) 9:=by rw[<-dI];simp(disch:=omega) only[aI,bg]<;>rfl
 have dB:aR X aM aK bP aT (i+1):=by
  refine en.on (c:=dN c 1 [.Z ((i+1:Nat):Int)]) ?_ (λd3 st a=>by rw[ba]at a;cases a;exact rM ..) ?_
  ·rw[<-dI];simp(disch:=omega) only[aI,bg];rfl
  ·rw[<-dI];simp(disch:=omega) only[aI]
 have dl:ca X [aK] h j aM (aG+2):=by
  refine⟨Zo,λb aj bZ=> ?_⟩
  rw[<-bN.ab b aj, <-dI]
  simp only[Zr,ZK,YS,Yz,ZG,Ya]at bZ
  simp(disch:=omega) only[aI]
 clear dI bR ba cj a3 a4 en bN
 have uy:∃dx,Y X aM aK=some (.cells dx 2 .own)/\aO X aM (.ptr aK 1)=some (.Z ((i+1:Nat):Int)):=by
  obtain⟨c,ao,bQ,cf,cM,ew⟩:=dB.at_
  exact⟨c,bQ,kf bQ cM⟩
 have fP:=ay.go dB (by omega:j<=aG+1+1)
 refine kt (λH T aU=>∃v,H.g 4=some v/\j0 X aK bP aT h j r v T aU) (λW bK=> ?_) (by
  rintro H T aU ⟨v,t4,a⟩
  refine ci @t4 ⟨?_⟩
  exact a)
 rw[Zg (by rw[aD];decide),Zg (by simp[aD,a6]),Zg (by rw[aD];decide),Zg (by rw[aD];decide),Zg (by simp[aD]),Zg (by simp[aD,a6]),Zu (by simp[aD,a6])]at V
 have ga:decide (x.kind=5)=false:=by simp[aD]
 have cF:decide (x.kind=2)=true:=by simp[aD]
 have cX:decide (x.kind=1)=false:=by simp[aD]
 have eS:decide (x.kind=3)=false:=by simp[aD]
 have jg:decide (x.kind=6)=false:=by simp[aD]
 have cG:decide (x.text=[116,114,117,101])=false:=by simp[a6]
 have cw:decide (x.text=[102,97,108,115,101])=false:=by simp[a6]
 have d9:decide (x.text=[105,102])=false:=by simp[a6]
 have fQ:decide (x.text=[109,101,114,103,101])=true:=by simp[a6]
 refine eF (bO fE) @iN @ga @cF @cX @eS (Za @jg (Za @cG (Za @cw (Za @d9 (Za @fQ cd.eq_1))))) ⟨?_⟩
 rw[<-io]at V
 cases EE:aT.drop (i+1)with
 |nil=>rw[EE]at V;simp[iU,andThen]at V
 |cons c g6=>
 rw[EE]at V
 simp only[iU]at V
 refine(Df aw fP.a2 fP.par fP.bM fP.ht fP.g8 fP.many (fN EE).1 1).mono ?_ ?_
 ·rintro FX bC da ⟨gh,rfl,hl,ey⟩
  have jC:=ey.le
  rw[Zu gh]at V
  simp only[andThen,ok]at V
  rw[<-(fN EE).2]at V
  have El:Y X bC (aG+1)=zu (gE 0 x.at_ [] false dH 0 .aV) 9:=by rw[ey.ab _ Zo (by simp;omega)];exact iN
  have AK:=dl.trans ey
  refine cT cd.eq_1 @El ⟨?_⟩
  refine fh (λaX=>Y X aX (aG+1)=zu (gE 24 x.at_ c.text false dH 0 .aV) 9/\aR X aX aK bP aT (i+1+1)/\ca X [aK] h j aX da) ⟨?_, ?_, ?_⟩ ?_
  ·simp(disch:=omega) only[aI,bg]<;>rfl
  ·exact hl.ab (zw) (zw)
  ·exact⟨Zo,λb aj bZ=>by rw[<-AK.ab b aj bZ];exact zw⟩
  clear El hl ey AK iN uy dB fP dl fE
  rintro aX ⟨iN,gI,dY⟩
  have nG:=ay.go gI (by omega:j<=da)
  cases AZ:Go.aR.part n (aT.drop (i+1+1))with
  |none=>rw[AZ]at V;cases V
  |some ahj=>
  rw[AZ]at V
  refine((al n Zo).part aX _ _ _ nG AZ).mono ?_ ?_
  ·rintro v5 bW b4 ⟨oG,i5,rfl,dJ,hm,dF⟩
   simp only[]at V
   have ib:=dF.le
   have o9:=nG.go hm ib
   have rb:=dY.trans dF
   cases A0:Go.aR.part n (aT.drop i5)with
   |none=>rw[A0]at V;cases V
   |some Mb=>
   rw[A0]at V
   refine((al n Zo).part bW _ _ _ o9 A0).mono ?_ ?_
   ·rintro BF b9 eB ⟨J3,ie,rfl,eG,hz,eu⟩
    simp only[Zf]at V
    subst V
    have tq:=eu.le
    obtain⟨mH,rfl,sj,_⟩:=dJ.ptr
    obtain⟨Dp,rfl,K8,_⟩:=eG.ptr
    have nZ:Y X b9 (aG+1)=zu (gE 24 x.at_ c.text false dH 0 .aV) 9:=by rw[eu.ab _ Zo (by simp;omega),dF.ab _ Zo (by simp;omega)];exact iN
    refine ci @nZ ⟨?_⟩
    refine bK _ _ _ ⟨.ptr (aG+1) 0,bw,_,ie,rfl,cy.lit (q:=2) (cap:=2) (b:=aG+1) (m:=9) (st:= .own) (ii:= .own) (cp:=eB) (a8:=[.ptr mH 0, .ptr Dp 0]) ?_ ⟨Zo,Zo⟩ ?_ ⟨Zo,Zo⟩ rfl Zo Zo (dk.two (cy.ab (λe z=> ?_) _ _ dJ) (cy.ab (λe z=> ?_) _ _ eG) (λe z=> ?_) (λe z=> ?_)),hz.ab (zw) (zw), ?_⟩
    ·simp(disch:=omega) only[aI,bg]<;>rfl
    ·simp(disch:=omega) only[aI,bg]<;>rfl
    ·have I:=z.1;have J:=z.2
     simp(disch:=omega) only[aI]
     exact eu.ab e Zo (by simp;omega)
    ·have I:=z.1;have J:=z.2
     simp(disch:=omega) only[aI]
    ·simp only[cQ]at z ⊢;omega
    ·simp only[cQ]at z ⊢;omega
    ·exact⟨Zo,λb aj bZ=>by rw[<-(rb.trans eu).ab b aj bZ];exact zw⟩
   ·rintro BF b9 eB ⟨F,rfl,rfl,eu⟩
    simp only[Zf]at V
    subst V
    exact⟨F,rfl,rfl,rb.trans eu⟩
  ·rintro v5 bW b4 ⟨F,rfl,rfl,dF⟩
   simp only[Zf]at V
   subst V
   exact⟨F,rfl,rfl,dY.trans dF⟩
 ·rintro FX bC da ⟨gh,rfl,ey⟩
  rw[Zg gh]at V
  simp only[andThen,bad,Zf]at V
  subst V
  exact⟨_,rfl,rfl,dl.trans ey⟩
end
section
variable{X:cb}{h T aP aM:K ag}{j an aG a1 aK bP:Nat}{aT:List Tok}{i:Nat}
def VM(aw:du X){n:Nat}{r:Except Int (be×List Tok)}(ay:iJ X h j aK bP aT i){x:Tok}{k:List Tok}(aH:aT.drop i=x::k)(dU:x.kind≠5)(bR:x.kind≠1)(cP:x.kind≠3)(dy:x.kind=6->x.text≠[40])(cq:x.kind=2->x.text≠[116,114,117,101]/\x.text≠[102,97,108,115,101]/\x.text≠[105,102]/\x.text≠[109,101,114,103,101])(V:Go.aR.part (n+1) (x::k)=some r):
 aY X 261 [.ptr aK 0] h j (j0 X aK bP aT h j r) (iY X aK h j r):=by
 refine zx aw (BY X) ?_
 rw[BZ]
 unfold Ab
 have gP:=ay.a2
 have iQ:=ay.ht
 have h9:=ay.bM
 have jT:=ay.g8
 obtain⟨af,io⟩:=fN aH
 unfold Go.aR.part at V
 refine(sx aw ay.a2 ay.par ay.ht ay.g8 af).Zm ?_
 rintro ac aP aG ⟨rfl,bN⟩
 have jm:=bN.le
 have en:=ay.par.ex bN Zo Zo
 obtain⟨c,ao,ba,cj,a3,a4⟩:=en.at_
 have bR:=kf ba a3
 have lK:=(Zc.1 af).1
 have wg:=ay.many
 have c8:=en.ne
 have bF:=zv i
 refine he cd.eq_1 @bR (Za @bF @ba) ⟨?_⟩
 generalize dI:bn X _ aK _=aM
 have fE:Y X aM aG=zu (cd x) 7:=by rw[<-dI];simp(disch:=omega) only[aI,bg]<;>rfl
 have iN:Y X aM (aG+1)=zu (gE 0 x.at_ [] false dH 0 .aV) 9:=by rw[<-dI];simp(disch:=omega) only[aI,bg]<;>rfl
 have dB:aR X aM aK bP aT (i+1):=by
  refine en.on (c:=dN c 1 [.Z ((i+1:Nat):Int)]) ?_ (λd3 st a=>by rw[ba]at a;cases a;exact rM ..) ?_
  ·rw[<-dI];simp(disch:=omega) only[aI,bg];rfl
  ·rw[<-dI];simp(disch:=omega) only[aI]
 have dl:ca X [aK] h j aM (aG+2):=by
  refine⟨Zo,λb aj bZ=> ?_⟩
  rw[<-bN.ab b aj, <-dI]
  simp only[Zr,ZK,YS,Yz,ZG,Ya]at bZ
  simp(disch:=omega) only[aI]
 clear dI bR ba cj a3 a4 en bN
 have uy:∃dx,Y X aM aK=some (.cells dx 2 .own)/\aO X aM (.ptr aK 1)=some (.Z ((i+1:Nat):Int)):=by
  obtain⟨c,ao,bQ,cf,cM,ew⟩:=dB.at_
  exact⟨c,bQ,kf bQ cM⟩
 have fP:=ay.go dB (by omega:j<=aG+1+1)
 refine kt (λH T aU=>∃v,H.g 4=some v/\j0 X aK bP aT h j r v T aU) (λW bK=> ?_) (by
  rintro H T aU ⟨v,t4,a⟩
  refine ci @t4 ⟨?_⟩
  exact a)
 have Lc:r= .error x.at_:=by
  by_cases J:x.kind=2
  ·obtain⟨fG,hD,yK,L3⟩:=cq J
   have b6:¬x.kind=6:=Zo
   rw[Zg dU,Zg (by simp[fG,hD]),Zg bR,Zg cP,Zg (by simp[b6]),Zg (by simp[yK]),Zg (by simp[L3])]at V
   simp only[bad,Zf]at V
   exact V.symm
  ·by_cases b6:x.kind=6
   ·rw[Zg dU,Zg (by simp[J]),Zg bR,Zg cP,Zg (by simp[dy b6]),Zg (by simp[J]),Zg (by simp[J])]at V
    simp only[bad,Zf]at V
    exact V.symm
   ·rw[Zg dU,Zg (by simp[J]),Zg bR,Zg cP,Zg (by simp[b6]),Zg (by simp[J]),Zg (by simp[J])]at V
    simp only[bad,Zf]at V
    exact V.symm
 subst Lc
 have ga:decide (x.kind=5)=false:=by simp[dU]
 have cX:decide (x.kind=1)=false:=by simp[bR]
 have eS:decide (x.kind=3)=false:=by simp[cP]
 obtain⟨dx,SX,SY⟩:=uy
 have cn:bq .sub (.Z ((i+1:Nat):Int)) (.Z 1)=some (.Z (((i+1:Nat):Int) -1)):=by rw[CS Zo Zo]
 have fin:∀(aX:K ag) (ak:bI),(∀b,b<j->b∉[aK]->Y X aX b=Y X aM b)->aY X 206 [.agg (cd x)] aX (aG+1+1) ak (iY X aK h j (Except.error x.at_:Except Int (be×List Tok))):=by
  intro aX ak am
  refine(J9 aw Zo x _ ?_).mono (λ_ _ _ a=>a.elim) (λ_ _ _ a=>a)
  intro T an bT
  have KX:=bT.le
  exact⟨_,rfl,rfl,Zo,λb aj bZ=>by rw[bT.ab b Zo,am b aj bZ];exact dl.ab b aj bZ⟩
 by_cases J:x.kind=2
 ·obtain⟨fG,hD,yK,L3⟩:=cq J
  have cF:decide (x.kind=2)=true:=by simp[J]
  have jg:decide (x.kind=6)=false:=by simp[J]
  have cG:decide (x.text=[116,114,117,101])=false:=by simp[fG]
  have cw:decide (x.text=[102,97,108,115,101])=false:=by simp[hD]
  have d9:decide (x.text=[105,102])=false:=by simp[yK]
  have fQ:decide (x.text=[109,101,114,103,101])=false:=by simp[L3]
  refine eF (bO fE) @iN @ga @cF @cX @eS (Za @jg (Za @cG (Za @cw (Za @d9 (Za @fQ (Za cd.eq_1 (Za @SX (Za @SY @cn)))))))) ⟨?_⟩
  refine fin _ _ (λb aj bZ=> ?_)
  simp only[Zr,ZK,YS,Yz,ZG,Ya]at bZ
  simp(disch:=omega) only[aI]
 ·have cF:decide (x.kind=2)=false:=by simp[J]
  by_cases b6:x.kind=6
  ·have jg:decide (x.kind=6)=true:=by simp[b6]
   have cG:decide (x.text=[40])=false:=by simp[dy b6]
   refine eF (bO fE) @iN @ga @cF @cX @eS (Za @jg (Za @cG (Za cd.eq_1 (Za @SX (Za @SY @cn))))) ⟨?_⟩
   refine fin _ _ (λb aj bZ=> ?_)
   simp only[Zr,ZK,YS,Yz,ZG,Ya]at bZ
   simp(disch:=omega) only[aI]
  ·have jg:decide (x.kind=6)=false:=by simp[b6]
   refine eF (bO fE) @iN @ga @cF @cX @eS (Za @jg (Za cd.eq_1 (Za @SX (Za @SY @cn)))) ⟨?_⟩
   refine fin _ _ (λb aj bZ=> ?_)
   simp only[Zr,ZK,YS,Yz,ZG,Ya]at bZ
   simp(disch:=omega) only[aI]
end
section
variable{X:cb}{h T aP aM:K ag}{j an aG a1 aK bP:Nat}{aT:List Tok}{i:Nat}
def ca.k3{X:cb}{aK:Nat}{h T:K ag}{j an n:Nat}(a:ca X [aK] h j T an)(q:an<=n):ca X [aK] h j T n:=⟨ZB a.le q,a.ab⟩
def kS.one{C:aL}{h:K ag}{s:D}{bl:Nat}{k:List D}{cJ:List Nat}(a:kS C h s bl k cJ):s.cells=[s]/\qJ s=true/\D.same 30 s s=true:=by
 rcases a with ⟨rfl,_⟩|⟨b,fv,n,c,rfl,_⟩
 ·exact⟨rfl,rfl,rfl⟩
 ·exact⟨rfl,rfl,by simp[D.same]⟩
def ayC(aw:du X){n:Nat}(al:∀m,m<n+1->rR X aK bP aT m){r:Except Int (be×List Tok)}(ay:iJ X h j aK bP aT i){x:Tok}{k:List Tok}(aH:aT.drop i=x::k)(aD:x.kind=2)(a6:x.text=[105,102])(V:Go.aR.part (n+1) (x::k)=some r):
 aY X 261 [.ptr aK 0] h j (j0 X aK bP aT h j r) (iY X aK h j r):=by
 refine zx aw (BY X) ?_
 rw[BZ]
 unfold Ab
 have gP:=ay.a2
 have iQ:=ay.ht
 have h9:=ay.bM
 have jT:=ay.g8
 obtain⟨af,io⟩:=fN aH
 unfold Go.aR.part at V
 refine(sx aw ay.a2 ay.par ay.ht ay.g8 af).Zm ?_
 rintro ac aP aG ⟨rfl,bN⟩
 have jm:=bN.le
 have en:=ay.par.ex bN Zo Zo
 obtain⟨c,ao,ba,cj,a3,a4⟩:=en.at_
 have bR:=kf ba a3
 have lK:=(Zc.1 af).1
 have wg:=ay.many
 have c8:=en.ne
 have bF:=zv i
 refine he cd.eq_1 @bR (Za @bF @ba) ⟨?_⟩
 generalize dI:bn X _ aK _=aM
 have fE:Y X aM aG=zu (cd x) 7:=by rw[<-dI];simp(disch:=omega) only[aI,bg]<;>rfl
 have iN:Y X aM (aG+1)=zu (gE 0 x.at_ [] false dH 0 .aV) 9:=by rw[<-dI];simp(disch:=omega) only[aI,bg]<;>rfl
 have dB:aR X aM aK bP aT (i+1):=by
  refine en.on (c:=dN c 1 [.Z ((i+1:Nat):Int)]) ?_ (λd3 st a=>by rw[ba]at a;cases a;exact rM ..) ?_
  ·rw[<-dI];simp(disch:=omega) only[aI,bg];rfl
  ·rw[<-dI];simp(disch:=omega) only[aI]
 have dl:ca X [aK] h j aM (aG+2):=by
  refine⟨Zo,λb aj bZ=> ?_⟩
  rw[<-bN.ab b aj, <-dI]
  simp only[Zr,ZK,YS,Yz,ZG,Ya]at bZ
  simp(disch:=omega) only[aI]
 clear dI bR ba cj a3 a4 en bN
 have uy:∃dx,Y X aM aK=some (.cells dx 2 .own)/\aO X aM (.ptr aK 1)=some (.Z ((i+1:Nat):Int)):=by
  obtain⟨c,ao,bQ,cf,cM,ew⟩:=dB.at_
  exact⟨c,bQ,kf bQ cM⟩
 have fP:=ay.go dB (by omega:j<=aG+1+1)
 refine kt (λH T aU=>∃v,H.g 4=some v/\j0 X aK bP aT h j r v T aU) (λW bK=> ?_) (by
  rintro H T aU ⟨v,t4,a⟩
  refine ci @t4 ⟨?_⟩
  exact a)
 rw[Zg (by rw[aD];decide),Zg (by simp[aD,a6]),Zg (by rw[aD];decide),Zg (by rw[aD];decide),Zg (by simp[aD]),Zu (by simp[aD,a6])]at V
 have ga:decide (x.kind=5)=false:=by simp[aD]
 have cF:decide (x.kind=2)=true:=by simp[aD]
 have cX:decide (x.kind=1)=false:=by simp[aD]
 have eS:decide (x.kind=3)=false:=by simp[aD]
 have jg:decide (x.kind=6)=false:=by simp[aD]
 have cG:decide (x.text=[116,114,117,101])=false:=by simp[a6]
 have cw:decide (x.text=[102,97,108,115,101])=false:=by simp[a6]
 have d9:decide (x.text=[105,102])=true:=by simp[a6]
 refine eF (bO fE) @iN @ga @cF @cX @eS (Za @jg (Za @cG (Za @cw (Za @d9 (Za cd.eq_1 gE.eq_1))))) ⟨?_⟩
 rw[<-io]at V
 refine fh (λaX=>Y X aX (aG+1)=zu (gE 23 x.at_ [] false dH 0 .aV) 9/\aR X aX aK bP aT (i+1)/\ca X [aK] h j aX (aG+1+1)) ⟨?_, ?_, ?_⟩ ?_
 ·simp(disch:=omega) only[aI,bg]<;>rfl
 ·exact dB.ab (zw) (zw)
 ·exact⟨Zo,λb aj bZ=>by rw[<-dl.ab b aj bZ];exact zw⟩
 clear dB fP dl fE iN uy
 rintro Jy ⟨acR,aeM,Tg⟩
 have ae2:gB X Jy .aV 1 [] []:= .inl (.inl ⟨rfl,rfl,rfl⟩)
 have vX:∀e∈([]:List Nat),aG+2<=e/\e<aG+1+1:=by simp
 have ad0:dk X Jy (wV (aG+2) (aG+1+1) []) [] []:= .nil
 have auE:D.same 30 .aV .aV=true:=rfl
 have ag3:=ay.go aeM (by omega:j<=(aG+1+1)+12)
 rcases gu V with ⟨F,bk,rfl⟩|⟨J4,gJ,bk,V⟩
 ·exact((al n Zo).arrow Jy _ _ _ ag3 bk).mono (λac T an a=>by obtain⟨E,cD,a,_⟩:=a;cases a) (λac T an a=>a.of (ca.k3 Tg Zo) (λ_ a=>by cases a;rfl))
 refine((al n Zo).arrow Jy _ _ _ ag3 bk).mono ?_ (λac T an a=>by obtain⟨F,a,_⟩:=a;cases a)
 clear bk
 rintro v5 bW b4 ⟨NC,aD2,tm,dJ,hm,dF⟩
 cases tm
 have ib:=dF.le
 have rb:=(ca.k3 Tg (by omega:(aG+1+1)<=(aG+1+1)+12)).trans dF
 obtain⟨wT,rfl,sj,_⟩:=dJ.ptr
 have sj:=sj.2
 have qs:Y X bW (aG+1)=zu (gE 23 x.at_ [] false dH 0 D.aV) 9:=by rw[dF.ab _ Zo (by simp;omega)];exact acR
 have pQ:∀e,aG+2<=e->e<(aG+1+1)->Y X bW e=Y X Jy e:=λe I J=>dF.ab e Zo (by simp;omega)
 have pI:=ae2.ab (T:=bW) (λe z=>pQ e (vX e z).1 (vX e z).2)
 have v7:=dk.ab (T:=bW) (λe z=>pQ e z.1 z.2.1) _ _ ad0
 clear pQ
 refine cT (bO qs) gE.eq_1 ⟨?_⟩
 refine g2 auE ?_
 have ks:lA X (bn X bW ((aG+1+1)+7) (zu [.ptr wT 0] 1)) 1 (.slice ((aG+1+1)+7) 0 1 1)=some (1,[.ptr wT 0]):=sD (bg Zo) (n8 _) rfl _
 obtain⟨Mh,b9,GC,ix,tA,se,oQ⟩:=(pI.ab (T:=bn X bW ((aG+1+1)+7) (zu [.ptr wT 0] 1)) (λe z=>aI Zo (zq (vX e z).2))).append (j:=b4) Zd ks rfl Zd rfl Zs Zo (λe z=>zq (vX e z).2)
 refine kN ix ?_
 have dy:∀e,e<b4->e∉([]:List Nat)->e≠(aG+1+1)+7->Y X b9 e=Y X bW e:=λe I J am=>by
  rw[oQ e Zo J,aI Zo am]
 have nZ:Y X b9 (aG+1)=zu (gE 23 x.at_ [] false dH 0 D.aV) 9:=by
  rw[dy _ Zo (λa=>zq (vX _ a)) Zo];exact qs
 obtain⟨rn,CH,auF⟩:=kS.one tA
 refine cK ⟨?_⟩
 refine fw (t2 nZ Zo Zo rn CH) ?_
 have ri:∀e∈GC,aG+2<=e/\e<b4+1:=by
  intro e z
  rcases se e z with rfl|z
  ·omega
  ·have:=vX e z;omega
 have EJ:dk X b9 (wV (aG+2) (b4+1) GC) ([]++[J4]) ([]++[.ptr wT 0]):=by
  refine dk.snoc (cy.ab (λe z=> ?_) _ _ dJ) (dk.ab (λe z=> ?_) _ _ v7) (λe z=>⟨z.1,zq z.2.1,λgi=> ?_⟩) (λe z=>⟨⟨zq z.1,zq z.2,λgi=> ?_⟩,λpL=>by have:=z.1;have:=pL.2.1;omega⟩)
  ·have I:=z.1
   exact dy e z.2 (λgi=>zq (vX e gi)) Zo
  ·have J:=z.2.1
   exact dy e Zo z.2.2 Zo
  ·have J:=z.2.1
   rcases se e gi with rfl|gi
   ·omega
   ·exact z.2.2 gi
  ·have I:=z.1;have J:=z.2
   rcases se e gi with rfl|gi
   ·omega
   ·have:=vX e gi;omega
 have eu:ca X [aK] h j b9 (b4+1):=⟨Zo,λb aj bZ=>by
  rw[dy b Zo (λE=>zq (vX _ E)) Zo];exact rb.ab b aj bZ⟩
 have hz:=hm.ab (dy aK Zo (λE=>zq (vX _ E)) Zo) (dy bP Zo (λE=>zq (vX _ E)) Zo)
 clear v7 dJ hm dF rb qs pI ks ix oQ se rn CH ad0 acR ae2 aeM Tg
 refine cK ⟨?_⟩
 refine fh (λcB=>Y X cB (b4+1)=zu [.str [116,104,101,110]] 1/\Y X cB (aG+1)=zu (gE 23 x.at_ [] false dH 0 Mh) 9/\(∀e,e<b4+1->e≠aG+1->Y X cB e=Y X b9 e)) ⟨bg Zo, ?_, ?_⟩ ?_
 ·simp(disch:=omega) only[aI,bg]<;>rfl
 ·intro e I J
  simp(disch:=omega) only[aI]
 clear nZ
 rintro cB ⟨Eo,Kg,gQ⟩
 have hQ:=hz.ab (gQ aK Zo Zo) (gQ bP Zo Zo)
 have nH:=ay.go hQ (by omega:j<=b4+1+1)
 have el:ca X [aK] h j cB (b4+1+1):=⟨Zo,λb aj bZ=>by rw[gQ b Zo Zo];exact eu.ab b aj bZ⟩
 rcases gu V with ⟨F,eb,rfl⟩|⟨BH,o0,eb,V⟩
 ·exact(jK aw nH Zo Zo Eo eb).mono (λac T an a=>by obtain⟨E,cD,a,_⟩:=a;cases a) (λac T an a=>a.of el (λ_ a=>by cases a;rfl))
 refine(jK aw nH Zo Zo Eo eb).mono ?_ (λac T an a=>by obtain⟨F,a,_⟩:=a;cases a)
 clear eb
 rintro I6 vq yF ⟨aB9,aD0,EH,_,aeN,gG⟩
 cases EH
 have aDd:=gG.le
 have Th:=el.trans gG
 have SO:Y X vq (aG+1)=zu (gE 23 x.at_ [] false dH 0 Mh) 9:=by rw[gG.ab _ Zo (by simp;omega)];exact Kg
 have eA:∀e,aG+2<=e->e<b4+1->Y X vq e=Y X b9 e:=λe I J=>by
  rw[gG.ab e Zo (by simp;omega),gQ e J Zo]
 have ae3:gB X vq Mh 1 ([]++[.ptr wT 0]) GC:= .inl (tA.ab (λe z=>eA e (ri e z).1 (ri e z).2))
 have ad1:dk X vq (wV (aG+2) yF GC) ([]++[J4]) ([]++[.ptr wT 0]):=
  dk.lift (λe z=>⟨z.1,zq z.2.1,z.2.2⟩) _ _ (dk.ab (λe z=>eA e z.1 z.2.1) _ _ EJ)
 have ri:∀e∈GC,aG+2<=e/\e<yF:=λe z=>zq (ri e z)
 clear EJ tA hz eu hQ nH el gG Eo Kg gQ dy eA
 refine cT (bO SO) gE.eq_1 ⟨?_⟩
 have ag4:=ay.go aeN (by omega:j<=yF+12)
 rcases gu V with ⟨F,bk,rfl⟩|⟨Sj,gJ,bk,V⟩
 ·exact((al n Zo).arrow vq _ _ _ ag4 bk).mono (λac T an a=>by obtain⟨E,cD,a,_⟩:=a;cases a) (λac T an a=>a.of (ca.k3 Th Zo) (λ_ a=>by cases a;rfl))
 refine((al n Zo).arrow vq _ _ _ ag4 bk).mono ?_ (λac T an a=>by obtain⟨F,a,_⟩:=a;cases a)
 clear bk
 rintro v5 bW b4 ⟨NC,aD3,tm,dJ,hm,dF⟩
 cases tm
 have ib:=dF.le
 have rb:=(ca.k3 Th (by omega:yF<=yF+12)).trans dF
 obtain⟨Dq,rfl,sj,_⟩:=dJ.ptr
 have sj:=sj.2
 have qs:Y X bW (aG+1)=zu (gE 23 x.at_ [] false dH 0 Mh) 9:=by rw[dF.ab _ Zo (by simp;omega)];exact SO
 have pQ:∀e,aG+2<=e->e<yF->Y X bW e=Y X vq e:=λe I J=>dF.ab e Zo (by simp;omega)
 have pI:=ae3.ab (T:=bW) (λe z=>pQ e (ri e z).1 (ri e z).2)
 have v7:=dk.ab (T:=bW) (λe z=>pQ e z.1 z.2.1) _ _ ad1
 clear pQ
 refine cT (bO qs) gE.eq_1 ⟨?_⟩
 refine g2 auF ?_
 have ks:lA X (bn X bW (yF+7) (zu [.ptr Dq 0] 1)) 1 (.slice (yF+7) 0 1 1)=some (1,[.ptr Dq 0]):=sD (bg Zo) (n8 _) rfl _
 obtain⟨FK,b9,GD,ix,tA,se,oQ⟩:=(pI.ab (T:=bn X bW (yF+7) (zu [.ptr Dq 0] 1)) (λe z=>aI Zo (zq (ri e z).2))).append (j:=b4) Zd ks rfl Zd rfl Zs Zo (λe z=>zq (ri e z).2)
 refine kN ix ?_
 have dy:∀e,e<b4->e∉GC->e≠yF+7->Y X b9 e=Y X bW e:=λe I J am=>by
  rw[oQ e Zo J,aI Zo am]
 have nZ:Y X b9 (aG+1)=zu (gE 23 x.at_ [] false dH 0 Mh) 9:=by
  rw[dy _ Zo (λa=>zq (ri _ a)) Zo];exact qs
 obtain⟨rn,CH,auG⟩:=kS.one tA
 refine cK ⟨?_⟩
 refine fw (t2 nZ Zo Zo rn CH) ?_
 have rj:∀e∈GD,aG+2<=e/\e<b4+1:=by
  intro e z
  rcases se e z with rfl|z
  ·omega
  ·have:=ri e z;omega
 have EJ:dk X b9 (wV (aG+2) (b4+1) GD) (([]++[J4])++[Sj]) (([]++[.ptr wT 0])++[.ptr Dq 0]):=by
  refine dk.snoc (cy.ab (λe z=> ?_) _ _ dJ) (dk.ab (λe z=> ?_) _ _ v7) (λe z=>⟨z.1,zq z.2.1,λgi=> ?_⟩) (λe z=>⟨⟨zq z.1,zq z.2,λgi=> ?_⟩,λpL=>by have:=z.1;have:=pL.2.1;omega⟩)
  ·have I:=z.1
   exact dy e z.2 (λgi=>zq (ri e gi)) Zo
  ·have J:=z.2.1
   exact dy e Zo z.2.2 Zo
  ·have J:=z.2.1
   rcases se e gi with rfl|gi
   ·omega
   ·exact z.2.2 gi
  ·have I:=z.1;have J:=z.2
   rcases se e gi with rfl|gi
   ·omega
   ·have:=ri e gi;omega
 have eu:ca X [aK] h j b9 (b4+1):=⟨Zo,λb aj bZ=>by
  rw[dy b Zo (λE=>zq (ri _ E)) Zo];exact rb.ab b aj bZ⟩
 have hz:=hm.ab (dy aK Zo (λE=>zq (ri _ E)) Zo) (dy bP Zo (λE=>zq (ri _ E)) Zo)
 clear v7 dJ hm dF rb qs pI ks ix oQ se rn CH ad1 SO ae3 aeN Th
 refine cK ⟨?_⟩
 refine fh (λcB=>Y X cB (b4+1)=zu [.str [101,108,115,101]] 1/\Y X cB (aG+1)=zu (gE 23 x.at_ [] false dH 0 FK) 9/\(∀e,e<b4+1->e≠aG+1->Y X cB e=Y X b9 e)) ⟨bg Zo, ?_, ?_⟩ ?_
 ·simp(disch:=omega) only[aI,bg]<;>rfl
 ·intro e I J
  simp(disch:=omega) only[aI]
 clear nZ
 rintro cB ⟨Eo,Kg,gQ⟩
 have hQ:=hz.ab (gQ aK Zo Zo) (gQ bP Zo Zo)
 have nH:=ay.go hQ (by omega:j<=b4+1+1)
 have el:ca X [aK] h j cB (b4+1+1):=⟨Zo,λb aj bZ=>by rw[gQ b Zo Zo];exact eu.ab b aj bZ⟩
 rcases gu V with ⟨F,eb,rfl⟩|⟨BH,o0,eb,V⟩
 ·exact(jK aw nH Zo Zo Eo eb).mono (λac T an a=>by obtain⟨E,cD,a,_⟩:=a;cases a) (λac T an a=>a.of el (λ_ a=>by cases a;rfl))
 refine(jK aw nH Zo Zo Eo eb).mono ?_ (λac T an a=>by obtain⟨F,a,_⟩:=a;cases a)
 clear eb
 rintro I6 DQ yG ⟨aB9,aD1,EH,_,aeO,gG⟩
 cases EH
 have aDe:=gG.le
 have Ti:=el.trans gG
 have SP:Y X DQ (aG+1)=zu (gE 23 x.at_ [] false dH 0 FK) 9:=by rw[gG.ab _ Zo (by simp;omega)];exact Kg
 have eA:∀e,aG+2<=e->e<b4+1->Y X DQ e=Y X b9 e:=λe I J=>by
  rw[gG.ab e Zo (by simp;omega),gQ e J Zo]
 have ae4:gB X DQ FK 1 (([]++[.ptr wT 0])++[.ptr Dq 0]) GD:= .inl (tA.ab (λe z=>eA e (rj e z).1 (rj e z).2))
 have ad2:dk X DQ (wV (aG+2) yG GD) (([]++[J4])++[Sj]) (([]++[.ptr wT 0])++[.ptr Dq 0]):=
  dk.lift (λe z=>⟨z.1,zq z.2.1,z.2.2⟩) _ _ (dk.ab (λe z=>eA e z.1 z.2.1) _ _ EJ)
 have rj:∀e∈GD,aG+2<=e/\e<yG:=λe z=>zq (rj e z)
 clear EJ tA hz eu hQ nH el gG Eo Kg gQ dy eA
 refine cT (bO SP) gE.eq_1 ⟨?_⟩
 have ag5:=ay.go aeO (by omega:j<=yG+12)
 rcases gu V with ⟨F,bk,rfl⟩|⟨ao1,gJ,bk,V⟩
 ·exact((al n Zo).arrow DQ _ _ _ ag5 bk).mono (λac T an a=>by obtain⟨E,cD,a,_⟩:=a;cases a) (λac T an a=>a.of (ca.k3 Ti Zo) (λ_ a=>by cases a;rfl))
 refine((al n Zo).arrow DQ _ _ _ ag5 bk).mono ?_ (λac T an a=>by obtain⟨F,a,_⟩:=a;cases a)
 clear bk
 rintro v5 bW b4 ⟨NC,avv,tm,dJ,hm,dF⟩
 cases tm
 have ib:=dF.le
 have rb:=(ca.k3 Ti (by omega:yG<=yG+12)).trans dF
 obtain⟨L8,rfl,sj,_⟩:=dJ.ptr
 have sj:=sj.2
 have qs:Y X bW (aG+1)=zu (gE 23 x.at_ [] false dH 0 FK) 9:=by rw[dF.ab _ Zo (by simp;omega)];exact SP
 have pQ:∀e,aG+2<=e->e<yG->Y X bW e=Y X DQ e:=λe I J=>dF.ab e Zo (by simp;omega)
 have pI:=ae4.ab (T:=bW) (λe z=>pQ e (rj e z).1 (rj e z).2)
 have v7:=dk.ab (T:=bW) (λe z=>pQ e z.1 z.2.1) _ _ ad2
 clear pQ
 refine cT (bO qs) gE.eq_1 ⟨?_⟩
 refine g2 auG ?_
 have ks:lA X (bn X bW (yG+7) (zu [.ptr L8 0] 1)) 1 (.slice (yG+7) 0 1 1)=some (1,[.ptr L8 0]):=sD (bg Zo) (n8 _) rfl _
 obtain⟨V8,b9,RN,ix,tA,se,oQ⟩:=(pI.ab (T:=bn X bW (yG+7) (zu [.ptr L8 0] 1)) (λe z=>aI Zo (zq (rj e z).2))).append (j:=b4) Zd ks rfl Zd rfl Zs Zo (λe z=>zq (rj e z).2)
 refine kN ix ?_
 have dy:∀e,e<b4->e∉GD->e≠yG+7->Y X b9 e=Y X bW e:=λe I J am=>by
  rw[oQ e Zo J,aI Zo am]
 have nZ:Y X b9 (aG+1)=zu (gE 23 x.at_ [] false dH 0 FK) 9:=by
  rw[dy _ Zo (λa=>zq (rj _ a)) Zo];exact qs
 obtain⟨rn,CH,aDO⟩:=kS.one tA
 refine cK ⟨?_⟩
 refine fw (t2 nZ Zo Zo rn CH) ?_
 have adL:∀e∈RN,aG+2<=e/\e<b4+1:=by
  intro e z
  rcases se e z with rfl|z
  ·omega
  ·have:=rj e z;omega
 have EJ:dk X b9 (wV (aG+2) (b4+1) RN) (([]++[J4]++[Sj])++[ao1]) (([]++[.ptr wT 0]++[.ptr Dq 0])++[.ptr L8 0]):=by
  refine dk.snoc (cy.ab (λe z=> ?_) _ _ dJ) (dk.ab (λe z=> ?_) _ _ v7) (λe z=>⟨z.1,zq z.2.1,λgi=> ?_⟩) (λe z=>⟨⟨zq z.1,zq z.2,λgi=> ?_⟩,λpL=>by have:=z.1;have:=pL.2.1;omega⟩)
  ·have I:=z.1
   exact dy e z.2 (λgi=>zq (rj e gi)) Zo
  ·have J:=z.2.1
   exact dy e Zo z.2.2 Zo
  ·have J:=z.2.1
   rcases se e gi with rfl|gi
   ·omega
   ·exact z.2.2 gi
  ·have I:=z.1;have J:=z.2
   rcases se e gi with rfl|gi
   ·omega
   ·have:=rj e gi;omega
 have eu:ca X [aK] h j b9 (b4+1):=⟨Zo,λb aj bZ=>by
  rw[dy b Zo (λE=>zq (rj _ E)) Zo];exact rb.ab b aj bZ⟩
 have hz:=hm.ab (dy aK Zo (λE=>zq (rj _ E)) Zo) (dy bP Zo (λE=>zq (rj _ E)) Zo)
 clear v7 dJ hm dF rb qs pI ks ix oQ se rn CH ad2 SP ae4 aeO Ti
 simp only[ok,Zf]at V
 subst V
 have hs:∀e,e≠aG+1->Y X (bn X b9 (aG+1) (some (.cells ((K.ofList (gE 23 x.at_ [] false dH 0 FK) 0 .nil).set 8 (some V8)) 9 .own))) e=Y X b9 e:=λe a=>aI Zo a
 obtain⟨cp,cA⟩:=(gB.ab (T:=bn X b9 (aG+1) (some (.cells ((K.ofList (gE 23 x.at_ [] false dH 0 FK) 0 .nil).set 8 (some V8)) 9 .own))) (.inl tA) (λe z=>hs e (zq (adL e z)))).IK (P:=λe=>cQ (aG+2) (b4+1) e/\e∈RN) Zs (λe z=>⟨by have:=adL e z;exact⟨Zo,Zo⟩,z⟩)
 refine bK _ _ _ ⟨.ptr (aG+1) 0,bw,_,avv,rfl,cy.of (b:=aG+1) (m:=9) (st:= .own) (cp:=cp) (aW:=V8) (kind:=23) (at_:=x.at_) (name:=[]) (no:=false) (ty:=dH) (n:=0) (a8:=[.ptr wT 0, .ptr Dq 0, .ptr L8 0]) ?_ ⟨Zo,Zo⟩ (cA.lift (λe z=>⟨zq z.1.1,z.1.2⟩)) (λ_=> ?_) ?_, ?_, ?_⟩
 ·rw[bg Zo];rfl
 ·have:=(cA.aj Zs).1.1
  omega
 ·exact dk.lift (λe z=>⟨⟨zq z.1.1,zq z.1.2⟩,zq z.1.1,z.2⟩) _ _ (dk.off (dk.ab (λe z=>hs e (zq z.1)) _ _ EJ) cA)
 ·exact hz.ab (hs _ Zo) (hs _ Zo)
 ·exact⟨eu.le,λb aj bZ=>by rw[hs b Zo];exact eu.ab b aj bZ⟩
end
section
variable{X:cb}{h T aP aM:K ag}{j an aG a1 aK bP:Nat}{aT:List Tok}{i:Nat}
def ayG(aw:du X){n:Nat}(ts:n<=300000)(al:∀m,m<n->rR X aK bP aT m):∀h j i r,iJ X h j aK bP aT i->Go.aR.part n (aT.drop i)=some r->aY X 261 [.ptr aK 0] h j (j0 X aK bP aT h j r) (iY X aK h j r):=by
 intro h j i r ay V
 cases n with
 |zero=>simp[Go.aR.part]at V
 |succ n=>
 cases aH:aT.drop i with
 |nil=>rw[aH]at V;simp[Go.aR.part]at V
 |cons x k=>
 rw[aH]at V
 by_cases dU:x.kind=5
 ·exact ayD aw ay aH dU V
 by_cases bR:x.kind=1
 ·exact ayF aw al ay aH Zo bR V
 by_cases cP:x.kind=3
 ·exact ayI aw al ay aH cP V
 by_cases dy:x.kind=6
 ·by_cases a6:x.text=[40]
  ·exact ayH aw al ay aH dy a6 V
  ·exact VM aw ay aH dU bR cP (λ_=>a6) (λa=>Zo) V
 by_cases cq:x.kind=2
 ·by_cases I:x.text=[116,114,117,101]
  ·exact agU aw ay aH cq (.inl I) V
  by_cases J:x.text=[102,97,108,115,101]
  ·exact agU aw ay aH cq (.inr J) V
  by_cases am:x.text=[105,102]
  ·exact ayC aw al ay aH cq am V
  by_cases aB:x.text=[109,101,114,103,101]
  ·exact ayE aw al ay aH cq aB V
  ·exact VM aw ay aH dU bR cP (λa=>Zo) (λ_=>⟨I,J,am,aB⟩) V
 ·exact VM aw ay aH dU bR cP (λa=>Zo) (λa=>absurd a cq) V
def aa5(aw:du X)(eN:xC X):∀n,n<=300000->rR X aK bP aT n:=by
 intro n
 induction n using Nat.strongRecOn with
 |ind n al=>
  intro aE
  have al:∀m,m<n->rR X aK bP aT m:=λm bp=>al m bp Zo
  exact⟨awL aw eN al,aAe aw al,ayT aw al,ayG aw aE al,apV aw al,ant aw al,awV aw aE al⟩
end
def Lv(n:Int):D:= .Z n
def vp(X:cb)(h:K ag)(hT aN:Nat)(left:List bi)(c7:List Int):Prop:=hT<aN/\(o X).a2<=hT/\∃c aW lR GB xN,Y X h hT=some (.cells c 4 .own)/\c.get 0=some aW/\c.get 1=some lR/\gB X h aW 1 (left.map .str) GB/\gB X h lR 1 (c7.map Lv) xN
 /\(∀e∈GB,hT<e/\e<aN/\e∉xN)/\∀e∈xN,hT<e/\e<aN
def vp.ab{X:cb}{h T:K ag}{hT aN lu:Nat}{left:List bi}{c7:List Int}(a:vp X h hT aN left c7)(q:∀e,hT<=e->e<aN->Y X T e=Y X h e)(gH:aN<=lu):vp X T hT lu left c7:=by
 obtain⟨aS,Es,c,aW,lR,GB,xN,I,J,am,aB,bk,b6,c5⟩:=a
 exact⟨Zo,Es,c,aW,lR,GB,xN,by rw[q hT Zo aS];exact I,J,am,aB.ab (λe z=>q e (zq (b6 e z)) (b6 e z).2.1),bk.ab (λe z=>q e (zq (c5 e z)) (c5 e z).2),
  λe z=>by have:=b6 e z;exact⟨this.1,Zo,this.2.2⟩,λe z=>zq (c5 e z)⟩
def gB.one{C:aL}{h:K ag}{s:D}{bl:Nat}{k:List D}{cJ:List Nat}(a:gB C h s bl k cJ):s.cells=[s]/\qJ s=true/\D.same 30 s s=true:=by
 rcases a with a|⟨b,n,c,st,rfl,_⟩
 ·exact kS.one a
 ·exact⟨rfl,rfl,by simp[D.same]⟩
section
variable{X:cb}{h T aP aM:K ag}{j an aG a1 aK bP:Nat}{aT:List Tok}{i:Nat}
def VB(aw:du X)(ay:iJ X h j aK bP aT i){iV hT:Nat}(A0:iV<hT)(aDE:iV≠aK)(asx:aK<hT)(asz:bP<hT)(aub:aO X h (.ptr iV 0)=some (.ptr aK 0)){left:List bi}{c7:List Int}(bL:vp X h hT j left c7)(bp:left.length<=1000000)(EN:c7.length<=300000){x:Tok}{k:List Tok}(aH:aT.drop i=x::k):
 aY X 207 [.ptr iV 0, .ptr hT 0] h j (λac T an=>x.kind=1/\ac= .tuple []/\vp X T hT an (left++[x.text]) (c7++[x.at_])/\aR X T aK bP aT (i+1)/\j<=an/\ca X [aK] h hT T an)
  (λac T an=>x.kind≠1/\ac=pw 21 x.at_/\ca X [aK] h j T an):=by
 refine zx aw (ak4 X) ?_
 rw[ak5]
 unfold θ
 have gP:=ay.a2
 have iQ:=ay.ht
 have h9:=ay.bM
 have jT:=ay.g8
 refine ci @aub ⟨?_⟩
 refine(Df aw ay.a2 ay.par ay.bM ay.ht ay.g8 ay.many (fN aH).1 1).mono ?_ (λac T an a=>a)
 rintro ac aP aG ⟨aD,rfl,en,il⟩
 have jm:=il.le
 have hA:=bL.ab (T:=aP) (lu:=aG) (λe I J=>il.ab e J (by simp;omega)) jm
 have aDK:=bL.1
 clear bL
 obtain⟨aS,Es,c,aW,lR,GB,xN,b3,b7,cS,eh,fS,dT,eY⟩:=hA
 obtain⟨gS,nb,sz⟩:=gB.one eh
 obtain⟨Iy,Dc,tN⟩:=gB.one fS
 refine gx cd.eq_1 (bO b3) @b7 @cS ⟨?_⟩
 have ks:∀gA,Y X gA (aG+1+4)=zu [.str x.text] 1->lA X gA 1 (.slice (aG+1+4) 0 1 1)=some (1,[.str x.text]):=λgA a=>sD a (n8 _) rfl _
 have auM:∀gA,Y X gA (aG+1+10)=zu [.Z x.at_] 1->lA X gA 1 (.slice (aG+1+10) 0 1 1)=some (1,[.Z x.at_]):=λgA a=>sD a (n8 _) rfl _
 generalize e9:bn X _ (aG+1+10) _=aX
 have cP:∀e,e<aG->Y X aX e=Y X aP e:=λe z=>by rw[<-e9];exact zw
 have t3:Y X aX aG=zu (cd x) 7:=by rw[<-e9];simp(disch:=omega) only[aI,bg]<;>rfl
 have eU:Y X aX (aG+1+4)=zu [.str x.text] 1:=by rw[<-e9];simp(disch:=omega) only[aI,bg]<;>rfl
 have iZ:Y X aX (aG+1+10)=zu [.Z x.at_] 1:=by rw[<-e9];simp(disch:=omega) only[aI,bg]<;>rfl
 clear e9
 obtain⟨fk,bC,abp,ix,tz,vV,gh⟩:=(eh.ab (T:=aX) (λe z=>cP e (dT e z).2.1)).append (j:=aG+1+16) Zd (ks aX eU) rfl Zd rfl (by simp;omega) Zo (λe z=>zq (dT e z).2.1)
 refine kN ix ?_
 have fQ:Y X bC hT=some (.cells c 4 .own):=by rw[gh _ Zo (λa=>zq (dT _ a).1),cP _ aS];exact b3
 have t4:Y X bC aG=zu (cd x) 7:=by rw[gh _ Zo (λa=>zq (dT _ a).2.1)];exact t3
 have pv:Y X bC (aG+1+10)=zu [.Z x.at_] 1:=by rw[gh _ Zo (λa=>zq (dT _ a).2.1)];exact iZ
 refine cT (bO fQ) @cS ⟨?_⟩
 refine g2 tN ?_
 refine cT (bO t4) cd.eq_1 ⟨?_⟩
 refine g2 (qM _ _) ?_
 have aqx:gB X bC lR 1 (c7.map Lv) xN:=fS.ab (λe z=>by
  rw[gh e (zq (eY e z)) (λa=>(dT e a).2.2 z)]
  exact cP e (eY e z).2)
 obtain⟨V9,bW,RM,asl,pI,vW,md⟩:=aqx.append (j:=aG+1+16+1) Zd (auM bC pv) rfl Zd rfl (by simp;omega) Zo (λe z=>zq (eY e z).2)
 refine kN asl ?_
 obtain⟨fG,hD,yK⟩:=kS.one tz
 obtain⟨L3,ayp,aEq⟩:=kS.one pI
 have mH:Y X bW hT=some (.cells c 4 .own):=by rw[md _ Zo (λa=>zq (eY _ a).1)];exact fQ
 refine fw (t2 mH Zo Zo fG hD) ?_
 refine cK ⟨?_⟩
 refine fw (t2 (bg Zo) Zo Zo L3 ayp) ?_
 have afB:∀e∈abp,hT<e/\e<aG+1+16+1+1/\e∉RM:=by
  intro e z
  rcases vV e z with rfl|z
  ·refine⟨Zo,Zo,λa=> ?_⟩
   rcases vW _ a with a|a
   ·omega
   ·have:=eY _ a;omega
  ·obtain⟨ba,cj,a3⟩:=dT e z
   refine⟨Zo,Zo,λa=> ?_⟩
   rcases vW _ a with a|a
   ·omega
   ·exact a3 a
 have afC:∀e∈RM,hT<e/\e<aG+1+16+1+1:=by
  intro e z
  rcases vW e z with rfl|z
  ·omega
  ·have:=eY e z;omega
 have gQ:∀gA,gA=bn X (bn X bW hT (some (.cells (c.set 0 (some fk)) 4 .own))) hT (some (.cells ((c.set 0 (some fk)).set 1 (some V9)) 4 .own))->∀e,e≠hT->Y X gA e=Y X bW e:=by
  rintro gA rfl e z
  rw[aI Zo z,aI Zo z]
 refine⟨aD,rfl,⟨Zo,Es,(c.set 0 (some fk)).set 1 (some V9),fk,V9,abp,RM,bg Zo, ?_, ?_, ?_, ?_,afB,afC⟩, ?_,Zo,Zo,λb aj bZ=> ?_⟩
 ·rw[K.kI,Zg Zd,K.kI,Zu rfl]
 ·rw[K.kI,Zu rfl]
 ·rw[Yi]
  refine .inl (tz.ab λe z=> ?_)
  have:=afB e z
  rw[gQ _ rfl e Zo,md e (by rcases vV e z with rfl|a;omega;have:=dT e a;omega) (λa=> ?_)]
  rcases vV e z with rfl|cz
  ·have:=eY _ a;omega
  ·exact(dT e cz).2.2 a
 ·rw[Yi]
  exact .inl (pI.ab λe z=>gQ _ rfl e (zq (afC e z)))
 ·have hS:∀e,e<hT->Y X bW e=Y X aP e:=λe z=>by
   rw[md e Zo (λa=>zq (eY _ a)),gh e Zo (λa=>zq (dT _ a)),cP e Zo]
  exact en.ab (by rw[gQ _ rfl _ Zo,hS _ asx]) (by rw[gQ _ rfl _ Zo,hS _ asz])
 ·rw[gQ _ rfl _ Zo,md b Zo (λa=>zq (eY _ a)),gh b Zo (λa=>zq (dT _ a)),cP b Zo]
  exact il.ab b Zo bZ
end
def xA(X:cb)(h:K ag)(P:Nat->Prop)(ah:fc)(row:List D):Prop:=∃aW lR bQ cf k8,row=[aW,lR, .Z ah.at_,k8]/\dD X h P bQ aW 1 (ih ah.left)/\(dD X h P cf lR 1 (ah.c7.map λn=>[Lv n])/\cy X h (λe=>P e/\(ah.c7≠[]->e≠cf)) ah.right k8)/\cy X h P ah.right k8/\jH row=true
def xA.ab{X:cb}{h T:K ag}{P bm:Nat->Prop}{ah:fc}{row:List D}(a:xA X h P ah row)(q:∀e,P e->Y X T e=Y X h e)(az:∀e,P e->bm e):xA X T bm ah row:=by
 obtain⟨aW,lR,bQ,cf,k8,I,J,am,aB,bk⟩:=a
 exact⟨aW,lR,bQ,cf,k8,I,(J.ab q).lift az,⟨(am.1.ab q).lift az,cy.lift (λe z=>⟨az e z.1,z.2⟩) _ _ (cy.ab (λe z=>q e z.1) _ _ am.2)⟩,cy.lift az _ _ (cy.ab q _ _ aB),bk⟩
section
variable{X:cb}{h T aP aM:K ag}{j an aG a1 aK bP:Nat}{aT:List Tok}{i:Nat}
def apC(aw:du X)(eN:xC X){n:Nat}(ts:n<=200000)(ay:iJ X h j aK bP aT i){r:Except Int (fc×List Tok)}(V:vH n (aT.drop i)=some r):
 aY X 176 [.ptr aK 0] h j (λac T an=>∃ah cD row,r= .ok (ah,aT.drop cD)/\ac= .agg row/\xA X T (cQ j an) ah row/\aR X T aK bP aT cD/\ca X [aK] h j T an) (iY X aK h j r):=by
 refine zx aw (akm X) ?_
 rw[akn]
 unfold XR
 have gP:=ay.a2
 have iQ:=ay.ht
 have h9:=ay.bM
 have jT:=ay.g8
 unfold vH at V
 obtain⟨x,bV,aH,af⟩:=rJ V
 refine cK ⟨?_⟩
 refine fh (λaP=>aO X aP (.ptr j 0)=some (.ptr aK 0)/\Y X aP (j+1)=zu [.aV, .aV, .Z 0, .cx] 4/\vp X aP (j+2) (j+1+1+1) [] []/\aR X aP aK bP aT i/\bo X h j aP (j+1+1+1)) ⟨?_, ?_, ?_, ?_, ?_⟩ ?_
 ·exact bw
 ·simp(disch:=omega) only[aI,bg]<;>rfl
 ·exact⟨Zo,Zo,_, .aV, .aV,[],[],bg Zo,rfl,rfl, .inl (.inl ⟨rfl,rfl,rfl⟩), .inl (.inl ⟨rfl,rfl,rfl⟩),Zs,Zs⟩
 ·exact ay.par.ab (zw) (zw)
 ·exact dM
 rintro aP ⟨fu,q9,hA,en,bN⟩
 have nc:=ay.go en (by omega:j<=j+1+1+1)
 refine(oj aw nc aH _).Zm ?_
 rintro I5 aM a1 ⟨rfl,dB,dl⟩
 have f7:=dl.le
 have ya:=(ca.of (X:=[aK]) bN).trans dl
 refine r7 cd.eq_1 ⟨?_⟩
 refine kt (λH T aU=>∃(cl:List Tok) (cD:Nat),H.g 1=some (.ptr j 0)/\H.g 2=some (.ptr (j+1) 0)/\H.g 3=some (.ptr (j+2) 0)/\vp X T (j+2) aU (cl.map Tok.text) (cl.map Tok.at_)/\aR X T aK bP aT cD/\j+2<aU/\ca X [aK] h j T aU/\aO X T (.ptr j 0)=some (.ptr aK 0)/\Y X T (j+1)=zu [.aV, .aV, .Z 0, .cx] 4/\cl.length<=300000/\
  (andThen (eC [61] (aT.drop cD)) λE k=>andThen (arrow n k) λr k=>andThen (eC [59] k) λ_ k=>ok (⟨cl.map Tok.text,cl.map Tok.at_,E.at_,r⟩:fc) k)=some r) (λW bK=> ?_) ?_
 ·
  have G5:aO X aM (.ptr j 0)=some (.ptr aK 0):=by rw[dl.fZ _ _ Zo (by simp;omega)];exact fu
  have vO:Y X aM (j+1)=zu [.aV, .aV, .Z 0, .cx] 4:=by rw[dl.ab _ Zo (by simp;omega)];exact q9
  have ka:=hA.ab (T:=aM) (lu:=a1) (λe I J=>dl.ab e J (by simp;omega)) f7
  rcases af with ⟨aF,V⟩|⟨aF,V⟩
  ·rw[aF]at dB ⊢
   simp only[ZC]at dB ⊢
   rw[<-(fN aH).2]at V
   simp only[]at V
   refine ci cd.eq_1 ⟨?_⟩
   simp only[Z8,Yx]
   refine fh (λaX=>aO X aX (.ptr j 0)=some (.ptr aK 0)/\Y X aX (j+1)=zu [.aV, .aV, .Z 0, .cx] 4/\vp X aX (j+2) (a1+1) [] []/\aR X aX aK bP aT (i+1)/\ca X [aK] h j aX (a1+1)) ⟨?_, ?_, ?_, ?_, ?_⟩ ?_
   ·exact acL @G5
   ·simp(disch:=omega) only[aI];exact vO
   ·exact ka.ab (λe I J=>zw) Zo
   ·exact dB.ab (zw) (zw)
   ·exact⟨Zo,λb aj bZ=>by rw[<-ya.ab b aj bZ];exact zw⟩
   clear G5 vO ka dB ya dl bN en hA q9 fu nc
   rintro aX ⟨vP,uz,mz,gI,dY⟩
   have nG:=ay.go gI (by omega:j<=a1+1)
   cases uK:aT.drop (i+1)with
   |nil=>rw[uK]at V;simp[iU,andThen]at V
   |cons e fa=>
   rw[uK]at V
   simp only[iU]at V
   refine(VB aw nG Zo Zo Zo Zo vP mz Zs Zs uK).mono ?_ ?_
   ·rintro FX bC da ⟨gh,rfl,nA,hl,jC,ey⟩
    rw[Zu gh]at V
    simp only[andThen,ok]at V
    rw[<-(fN uK).2]at V
    have Er:aO X bC (.ptr j 0)=some (.ptr aK 0):=by rw[ey.fZ _ _ Zo (by simp;omega)];exact vP
    have AE:Y X bC (j+1)=zu [.aV, .aV, .Z 0, .cx] 4:=by rw[ey.ab _ Zo (by simp;omega)];exact uz
    have ads:ca X [aK] h j bC da:=⟨Zo,λb aj bZ=>by rw[ey.ab b Zo bZ];exact dY.ab b aj bZ⟩
    refine ci @Er ⟨?_⟩
    refine fh (λbW=>Y X bW da=zu [.str [44]] 1/\bo X bC da bW (da+1)) ⟨bg Zo,dM⟩ ?_
    rintro bW ⟨ac7,dJ⟩
    have o9:=ay.go (hl.ex dJ Zo Zo) (by omega:j<=da+1)
    have dF:=ads.trans (ca.of dJ)
    have afq:=V
    cases bt:eC [44] (aT.drop (i+1+1))with
    |none=>rw[bt]at V;cases V
    |some Bw=>
    rw[bt]at V
    refine(jK aw o9 Zo Zo ac7 bt).mono ?_ ?_
    ·rintro BF b9 eB ⟨vj,ie,rfl,_,hz,eu⟩
     have tq:=eu.le
     simp only[]at V
     have Ki:aO X b9 (.ptr j 0)=some (.ptr aK 0):=by rw[eu.fZ _ _ Zo (by simp;omega),dJ.fZ _ _ Zo];exact Er
     have Cp:Y X b9 (j+1)=zu [.aV, .aV, .Z 0, .cx] 4:=by rw[eu.ab _ Zo (by simp;omega),dJ.ab _ Zo];exact AE
     have K8:=nA.ab (T:=b9) (lu:=eB) (λe I J=>by rw[eu.ab e Zo (by simp;omega),dJ.ab e J]) Zo
     have vS:=dF.trans eu
     clear Er AE nA hl ey ads dF dJ ac7 o9 eu
     refine kt (λH T aU=>∃(cl:List Tok) (cD:Nat),H.g 1=some (.ptr j 0)/\H.g 2=some (.ptr (j+1) 0)/\H.g 3=some (.ptr (j+2) 0)/\vp X T (j+2) aU (cl.map Tok.text) (cl.map Tok.at_)/\aR X T aK bP aT cD/\j+2<aU/\ca X [aK] h j T aU/\aO X T (.ptr j 0)=some (.ptr aK 0)/\Y X T (j+1)=zu [.aV, .aV, .Z 0, .cx] 4/\cl.length<=300000/\
      (andThen (andThen (eC [41] (aT.drop cD)) λ_ k=>ok cl k) λcl k=>andThen (eC [61] k) λE k=>andThen (arrow n k) λr k=>andThen (eC [59] k) λ_ k=>ok (⟨cl.map Tok.text,cl.map Tok.at_,E.at_,r⟩:fc) k)=some r) (λBf atl=> ?_) ?_
     ·refine fK (λm H T aU=>∃(cl:List Tok) (cD:Nat) (b:Bool),H.g 1=some (.ptr j 0)/\H.g 2=some (.ptr (j+1) 0)/\H.g 3=some (.ptr (j+2) 0)/\H.g 4=some (.func (.func 207) [] [.ptr j 0, .ptr (j+2) 0])/\H.g 7=some (.bool b)/\vp X T (j+2) aU (cl.map Tok.text) (cl.map Tok.at_)/\aR X T aK bP aT cD/\j+2<aU/\ca X [aK] h j T aU/\aO X T (.ptr j 0)=some (.ptr aK 0)/\Y X T (j+1)=zu [.aV, .aV, .Z 0, .cx] 4/\cl.length+m<=n+5/\
       (b=true->(andThen (andThen (su m cl (aT.drop cD)) λcl k=>andThen (eC [41] k) λ_ k=>ok cl k) λcl k=>andThen (eC [61] k) λE k=>andThen (arrow n k) λr k=>andThen (eC [59] k) λ_ k=>ok (⟨cl.map Tok.text,cl.map Tok.at_,E.at_,r⟩:fc) k)=some r)/\
       (b=false->(andThen (andThen (eC [41] (aT.drop cD)) λ_ k=>ok cl k) λcl k=>andThen (eC [61] k) λE k=>andThen (arrow n k) λr k=>andThen (eC [59] k) λ_ k=>ok (⟨cl.map Tok.text,cl.map Tok.at_,E.at_,r⟩:fc) k)=some r))
       n ⟨[e],ie,true,bw,bw,bw,bw,bw,K8,hz,Zo,vS,Ki,Cp,by simp;omega,λ_=>V,λa=>(by cases a)⟩ ?_
      clear Ki Cp K8 hz vS V afq bt
      rintro m H cB ef ⟨cl,pM,b,t1,dQ,t3,t4,gd,EV,hQ,T6,el,x8,AF,bp,z,nz⟩
      refine r7 @gd ⟨?_⟩
      refine gZ ?_
      cases b with
      |false=>
       refine qi ?_
       exact atl _ _ _ ⟨cl,pM,a7 t1,a7 dQ,a7 t3,EV,hQ,T6,el,x8,AF,Zo,nz rfl⟩
      |true=>
       have V:=z rfl
       cases m with
       |zero=>simp[su,andThen]at V
       |succ m=>
       unfold su at V
       refine qj ?_
       have nH:=ay.go hQ (by omega:j<=ef)
       refine ci @t4 ⟨?_⟩
       simp only[Z8,Yx]
       cases tl:aT.drop pM with
       |nil=>rw[tl]at V;simp[iU,andThen]at V
       |cons bz mE=>
       rw[tl]at V
       simp only[iU]at V
       refine(VB aw nH Zo Zo Zo Zo x8 EV (by simp;omega) (by simp;omega) tl).mono ?_ ?_
       ·rintro u8 dX iD ⟨ym,rfl,aue,yt,CE,gG⟩
        rw[Zu ym]at V
        simp only[andThen,ok]at V
        rw[<-(fN tl).2]at V
        have ac8:aO X dX (.ptr j 0)=some (.ptr aK 0):=by rw[gG.fZ _ _ Zo (by simp;omega)];exact x8
        have N7:Y X dX (j+1)=zu [.aV, .aV, .Z 0, .cx] 4:=by rw[gG.ab _ Zo (by simp;omega)];exact AF
        have arQ:ca X [aK] h j dX iD:=⟨Zo,λb aj bZ=>by rw[gG.ab b Zo bZ];exact el.ab b aj bZ⟩
        have tR:=ay.go yt (by omega:j<=iD)
        refine cT @t1 @ac8 ⟨?_⟩
        cases sf:aT.drop (pM+1)with
        |nil=>rw[sf]at V;simp[ir,mm]at V
        |cons w o0=>
        refine(oj aw tR sf [44]).Zm ?_
        rintro WB ee jo ⟨rfl,m0,hf⟩
        have uP:=hf.le
        rw[sf]at V
        have AG:aO X ee (.ptr j 0)=some (.ptr aK 0):=by rw[hf.fZ _ _ Zo (by simp;omega)];exact ac8
        have x6:Y X ee (j+1)=zu [.aV, .aV, .Z 0, .cx] 4:=by rw[hf.ab _ Zo (by simp;omega)];exact N7
        have Up:=aue.ab (T:=ee) (lu:=jo) (λe I J=>hf.ab e J (by simp;omega)) uP
        have Ct:=arQ.trans hf
        refine cK ⟨?_⟩
        refine⟨m,Zo,cl++[bz],_,g9 w [44],a7 t1,a7 dQ,a7 t3,a7 t4,bw,by simpa using Up,m0,Zo,Ct,AG,x6,by simp;omega,λa=> ?_,λa=> ?_⟩
        ·simp only[ir,mm,a,ZC]at V ⊢
         rw[(fN sf).2]
         exact V
        ·simp only[ir,mm,a,Zw,ZA]at V ⊢
         rw[sf]
         exact V
       ·rintro u8 dX iD ⟨ym,rfl,gG⟩
        rw[Zg ym]at V
        simp only[andThen,bad,Zf]at V
        subst V
        exact⟨_,rfl,rfl,el.trans gG⟩
     ·clear Ki Cp K8 hz vS V afq bt
      rintro H cB ef ⟨cl,pM,t1,dQ,t3,EV,hQ,T6,el,x8,AF,bp,V⟩
      refine cT @t1 @x8 ⟨?_⟩
      refine fh (λdX=>Y X dX ef=zu [.str [41]] 1/\bo X cB ef dX (ef+1)) ⟨bg Zo,dM⟩ ?_
      rintro dX ⟨Ep,hX⟩
      have tR:=ay.go (hQ.ex hX Zo Zo) (by omega:j<=ef+1)
      have gG:=el.trans (ca.of hX)
      cases bt:eC [41] (aT.drop pM)with
      |none=>rw[bt]at V;cases V
      |some Bw=>
      rw[bt]at V
      refine(jK aw tR Zo Zo Ep bt).mono ?_ ?_
      ·rintro v9 ee jo ⟨vk,i9,rfl,_,m0,hf⟩
       have uP:=hf.le
       simp only[andThen,ok]at V
       have AG:aO X ee (.ptr j 0)=some (.ptr aK 0):=by rw[hf.fZ _ _ Zo (by simp;omega),hX.fZ _ _ Zo];exact x8
       have x6:Y X ee (j+1)=zu [.aV, .aV, .Z 0, .cx] 4:=by rw[hf.ab _ Zo (by simp;omega),hX.ab _ Zo];exact AF
       have Up:=EV.ab (T:=ee) (lu:=jo) (λe I J=>by rw[hf.ab e Zo (by simp;omega),hX.ab e J]) Zo
       exact bK _ _ _ ⟨cl,i9,t1,dQ,t3,Up,m0,Zo,gG.trans hf,AG,x6,bp,V⟩
      ·rintro v9 ee jo ⟨F,rfl,rfl,hf⟩
       simp only[andThen,Zf]at V
       subst V
       exact⟨F,rfl,rfl,gG.trans hf⟩
    ·rintro BF b9 eB ⟨F,rfl,rfl,eu⟩
     simp only[Zf]at V
     subst V
     exact⟨F,rfl,rfl,dF.trans eu⟩
   ·rintro FX bC da ⟨gh,rfl,ey⟩
    rw[Zg gh]at V
    simp only[andThen,bad,Zf]at V
    subst V
    exact⟨_,rfl,rfl,dY.trans ey⟩
  ·rw[aF]at dB ⊢
   simp only[Zw,ZA]at dB ⊢
   simp only[]at V
   refine cT cd.eq_1 hc.eq_1 ⟨?_⟩
   simp only[Z8,Yx]
   refine fh (λaX=>aO X aX (.ptr j 0)=some (.ptr aK 0)/\Y X aX (j+1)=zu [.aV, .aV, .Z 0, .cx] 4/\vp X aX (j+2) (a1+1) [] []/\aR X aX aK bP aT i/\ca X [aK] h j aX (a1+1)) ⟨?_, ?_, ?_, ?_, ?_⟩ ?_
   ·exact acL @G5
   ·simp(disch:=omega) only[aI];exact vO
   ·exact ka.ab (λe I J=>zw) Zo
   ·exact dB.ab (zw) (zw)
   ·exact⟨Zo,λb aj bZ=>by rw[<-ya.ab b aj bZ];exact zw⟩
   clear G5 vO ka dB ya dl bN en hA q9 fu nc
   rintro aX ⟨vP,uz,mz,gI,dY⟩
   have nG:=ay.go gI (by omega:j<=a1+1)
   rw[aH]at V
   simp only[iU]at V
   refine(VB aw nG Zo Zo Zo Zo vP mz Zs Zs aH).mono ?_ ?_
   ·rintro FX bC da ⟨gh,rfl,nA,hl,jC,ey⟩
    rw[Zu gh]at V
    simp only[andThen,ok]at V
    rw[<-(fN aH).2]at V
    have Er:aO X bC (.ptr j 0)=some (.ptr aK 0):=by rw[ey.fZ _ _ Zo (by simp;omega)];exact vP
    have AE:Y X bC (j+1)=zu [.aV, .aV, .Z 0, .cx] 4:=by rw[ey.ab _ Zo (by simp;omega)];exact uz
    exact bK _ _ _ ⟨[x],i+1,bw,bw,bw,nA,hl,Zo,⟨Zo,λb aj bZ=>by rw[ey.ab b Zo bZ];exact dY.ab b aj bZ⟩,Er,AE,Zs,V⟩
   ·rintro FX bC da ⟨gh,rfl,ey⟩
    rw[Zg gh]at V
    simp only[andThen,bad,Zf]at V
    subst V
    exact⟨_,rfl,rfl,dY.trans ey⟩
 ·clear af V dB ya dl bN en hA q9 fu nc aH
  rintro H aX bf ⟨cl,i3,t1,dQ,t3,mz,gI,aDp,dY,vP,uz,bp,V⟩
  refine cT @t1 @vP ⟨?_⟩
  refine fh (λbC=>Y X bC bf=zu [.str [61]] 1/\bo X aX bf bC (bf+1)) ⟨bg Zo,dM⟩ ?_
  rintro bC ⟨En,dv⟩
  have k6:=ay.go (gI.ex dv Zo Zo) (by omega:j<=bf+1)
  have ey:=dY.trans (ca.of dv)
  rcases gu V with ⟨F,bk,rfl⟩|⟨E,gJ,bk,V⟩
  ·exact(jK aw k6 Zo Zo En bk).mono (λac T an a=>by obtain⟨E,cD,a,_⟩:=a;cases a) (λac T an a=>a.of ey (λ_ a=>by cases a;rfl))
  refine(jK aw k6 Zo Zo En bk).mono ?_ (λac T an a=>by obtain⟨F,a,_⟩:=a;cases a)
  rintro v5 bW b4 ⟨iw,i5,tm,rfl,hm,dF⟩
  cases tm
  have ib:=dF.le
  have N9:aO X bW (.ptr j 0)=some (.ptr aK 0):=by rw[dF.fZ _ _ Zo (by simp;omega),dv.fZ _ _ Zo];exact vP
  have G3:Y X bW (j+1)=zu [.aV, .aV, .Z 0, .cx] 4:=by rw[dF.ab _ Zo (by simp;omega),dv.ab _ Zo];exact uz
  have sj:=mz.ab (T:=bW) (lu:=b4) (λe I J=>by rw[dF.ab e Zo (by simp;omega),dv.ab e J]) Zo
  have AJ:=ey.trans dF
  obtain⟨aS,Es,c,aW,lR,GB,xN,b3,b7,cS,eh,fS,dT,eY⟩:=sj
  clear mz gI dY vP uz dv En k6 ey dF
  refine cT @t3 cd.eq_1 ⟨?_⟩
  have afF:∀e,e≠j+2->Y X (bn X bW (j+2) (some (.cells (dN c 2 (D.Z E.at_).cells) 4 .own))) e=Y X bW e:=λe z=>aI Zo z
  refine cT @t1 @N9 ⟨?_⟩
  refine fh (λb9=>Y X b9 (j+2)=some (.cells (c.set 2 (some (.Z E.at_))) 4 .own)/\∀e,e≠j+2->Y X b9 e=Y X bW e) ⟨(bg Zo).trans (by simp only[D.cells,rM]),afF⟩ ?_
  clear afF
  rintro b9 ⟨Dp,dy⟩
  have hz:aR X b9 aK bP aT i5:=hm.ab (dy _ Zo) (dy _ Zo)
  have eu:ca X [aK] h j b9 b4:=⟨AJ.le,λb aj bZ=>by rw[dy b Zo];exact AJ.ab b aj bZ⟩
  rcases gu V with ⟨F,c5,rfl⟩|⟨Sh,mE,c5,V⟩
  ·exact((aa5 aw eN n Zo).arrow b9 _ _ _ (ay.go hz Zo) c5).mono (λac T an a=>by obtain⟨E,cD,a,_⟩:=a;cases a) (λac T an a=>a.of eu (λ_ a=>by cases a;rfl))
  refine((aa5 aw eN n Zo).arrow b9 _ _ _ (ay.go hz Zo) c5).mono ?_ (λac T an a=>by obtain⟨F,a,_⟩:=a;cases a)
  rintro Mw cB ef ⟨ab8,pM,AU,eW,hQ,el⟩
  cases AU
  have n5:=el.le
  obtain⟨qT,rfl,aDW,_⟩:=eW.ptr
  have IJ:Y X cB (j+2)=some (.cells (c.set 2 (some (.Z E.at_))) 4 .own):=by rw[el.ab _ Zo (by simp;omega)];exact Dp
  have x8:aO X cB (.ptr j 0)=some (.ptr aK 0):=by rw[el.fZ _ _ Zo (by simp;omega),co,dy _ Zo, <-co];exact N9
  have gQ:∀e,j<=e->e<b4->e≠j+2->Y X cB e=Y X bW e:=λe I J am=>by rw[el.ab e J (by simp;omega),dy e am]
  refine ci @t3 ⟨?_⟩
  refine cT @t1 @x8 ⟨?_⟩
  refine fh (λdX=>Y X dX ef=zu [.str [59]] 1/\Y X dX (j+2)=some (.cells ((c.set 2 (some (.Z E.at_))).set 3 (some (.ptr qT 0))) 4 .own)/\∀e,e<ef->e≠j+2->Y X dX e=Y X cB e) ⟨bg Zo, ?_, ?_⟩ ?_
  ·rw[aI Zo Zo,bg Zo];simp only[D.cells,rM]
  ·intro e I J
   rw[aI Zo Zo,aI Zo J]
  rintro dX ⟨Ep,ay3,hS⟩
  have yt:aR X dX aK bP aT pM:=hQ.ab (hS _ Zo Zo) (hS _ Zo Zo)
  have gG:ca X [aK] h j dX (ef+1):=⟨Zo,λb aj bZ=>by rw[hS b Zo Zo];exact(eu.trans el).ab b aj bZ⟩
  rcases gu V with ⟨F,g5,rfl⟩|⟨vk,tH,g5,V⟩
  ·exact(jK aw (ay.go yt Zo) Zo Zo Ep g5).mono (λac T an a=>by obtain⟨E,cD,a,_⟩:=a;cases a) (λac T an a=>a.of gG (λ_ a=>by cases a;rfl))
  refine(jK aw (ay.go yt Zo) Zo Zo Ep g5).mono ?_ (λac T an a=>by obtain⟨F,a,_⟩:=a;cases a)
  rintro v9 ee jo ⟨aES,i9,asO,_,m0,hf⟩
  cases asO
  have uP:=hf.le
  simp only[ok,Zf]at V
  subst V
  have ahe:Y X ee (j+2)=some (.cells ((c.set 2 (some (.Z E.at_))).set 3 (some (.ptr qT 0))) 4 .own):=by rw[hf.ab _ Zo (by simp;omega)];exact ay3
  have hs:∀e,j<=e->e<ef->e≠j+2->Y X ee e=Y X cB e:=λe I J am=>by rw[hf.ab e Zo (by simp;omega),hS e J am]
  have x6:Y X ee (j+1)=zu [.aV, .aV, .Z 0, .cx] 4:=by rw[hs _ Zo Zo Zo,gQ _ Zo Zo Zo];exact G3
  have d3:((c.set 2 (some (D.Z E.at_))).set 3 (some (.ptr qT 0))).get 0=some aW:=by rw[K.kI,Zg Zd,K.kI,Zg Zd];exact b7
  have db:((c.set 2 (some (D.Z E.at_))).set 3 (some (.ptr qT 0))).get 1=some lR:=by rw[K.kI,Zg Zd,K.kI,Zg Zd];exact cS
  have dx:((c.set 2 (some (D.Z E.at_))).set 3 (some (.ptr qT 0))).get 2=some (.Z E.at_):=by rw[K.kI,Zg Zd,K.kI,Zu rfl]
  have gf:((c.set 2 (some (D.Z E.at_))).set 3 (some (.ptr qT 0))).get 3=some (.ptr qT 0):=by rw[K.kI,Zu rfl]
  generalize ((c.set 2 (some (D.Z E.at_))).set 3 (some (.ptr qT 0)))=f5 at ahe d3 db dx gf
  obtain⟨gS,nb,sz⟩:=gB.one eh
  obtain⟨Iy,Dc,tN⟩:=gB.one fS
  have az:d8 X ee 4 (.ptr (j+2) 0)=some (.agg [aW,lR, .Z E.at_, .ptr qT 0]):=by
   rw[u1];simp[bO ahe,d3,db,dx,gf]
  refine et @t3 @az @dQ ⟨?_⟩
  refine fw (hF (q:=4) x6 Zo rfl Zd Zd (by simp[D.cells,jH,nb,Dc,show qJ (.Z E.at_)=true from rfl,show qJ (.ptr qT 0)=true from rfl])) ?_
  refine ci @dQ ⟨?_⟩
  have Fe:∀e,e≠j+1->∀cY,Y X (bn X ee (j+1) cY) e=Y X ee e:=λe z cY=>aI Zo z
  have oO:∀e,j+2<e->e<b4->∀cY,Y X (bn X ee (j+1) cY) e=Y X bW e:=λe I J cY=>by rw[Fe e Zo,hs e Zo Zo Zo,gQ e Zo J Zo]
  obtain⟨bQ,aeT⟩:=(eh.ab (T:=bn X ee (j+1) (some (.cells (dN (K.ofList [.aV, .aV, .Z 0, .cx] 0 .nil) 0 [aW,lR, .Z E.at_, .ptr qT 0]) 4 .own))) (λe z=>oO e (dT e z).1 (dT e z).2.1 _)).IK (P:=cQ j jo) (by simp;omega) (λe z=>by have:=dT e z;exact⟨Zo,Zo⟩)
  obtain⟨cf,wj⟩:=(fS.ab (T:=bn X ee (j+1) (some (.cells (dN (K.ofList [.aV, .aV, .Z 0, .cx] 0 .nil) 0 [aW,lR, .Z E.at_, .ptr qT 0]) 4 .own))) (λe z=>oO e (eY e z).1 (eY e z).2 _)).IK (P:=λe=>cQ j jo e/\e<b4) (by simp;omega) (λe z=>by have:=eY e z;exact⟨⟨Zo,Zo⟩,Zo⟩)
  have jS:=cy.ab (T:=bn X ee (j+1) (some (.cells (dN (K.ofList [.aV, .aV, .Z 0, .cx] 0 .nil) 0 [aW,lR, .Z E.at_, .ptr qT 0]) 4 .own))) (λe z=>by
   have I:=z.1
   rw[Fe e Zo,hs e Zo z.2 Zo]) _ _ eW
  refine⟨_,i9,[aW,lR, .Z E.at_, .ptr qT 0],rfl,rfl,⟨aW,lR,bQ,cf, .ptr qT 0,rfl, ?_, ?_, ?_,by simp[jH,nb,Dc,show qJ (.Z E.at_)=true from rfl,show qJ (.ptr qT 0)=true from rfl]⟩, ?_, ?_⟩
  ·rw[Yy]at aeT;exact aeT
  ·rw[Yy]at wj
   refine⟨wj.lift (λ_ a=>a.1),cy.lift (λe z=>⟨⟨zq z.1,zq z.2⟩,λc8 E=> ?_⟩) _ _ jS⟩
   have I:=(wj.aj (λa=>c8 (by simpa using a))).2
   have J:=z.1
   omega
  ·exact cy.lift (λe z=>⟨zq z.1,zq z.2⟩) _ _ jS
  ·exact m0.ab (Fe _ Zo _) (Fe _ Zo _)
  ·exact⟨Zo,λb aj bZ=>by rw[Fe b Zo];exact(gG.trans hf).ab b aj bZ⟩
end
end
end Go.Proofs.YtpfajohmofnkfaaGreatDoor

