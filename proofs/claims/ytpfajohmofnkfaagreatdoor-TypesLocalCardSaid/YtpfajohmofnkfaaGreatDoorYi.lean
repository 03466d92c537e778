/- A part of the last text's proof; no condition of its own -/
import Derived.Test.YtpfajohmofnkfaaGreatDoorYh
set_option maxHeartbeats 8000000
set_option linter.all false
namespace Go.Proofs.YtpfajohmofnkfaaGreatDoor
open Go.bi Go.aU
noncomputable section
section
variable{X:ck}{h T a2 aS:V an}{j au aO bg aH bM:Nat}{aX:List Tok}{i:Nat}
def vt(K b:Nat)(cK:List Nat):Nat->Prop:=λe=>K<=e/\e<b/\e∉cK
def dw.off{C:aZ}{bu:Nat->Prop}{K b cH:Nat}{cK:List Nat}{a6:F}{cb:List bE}{bo:List F}(a:dw C h (vt K b cK) cb bo)(Z:dO C h (λe=>bu e/\e∈cK) cH a6 1 (bo.map λv=>[v])):dw C h (λe=>da K b e/\e≠cH) cb bo:=by
 cases bo with
 |nil=>
  have:=a.len
  cases cb with
  |nil=>exact .nil
  |cons=>simp at this
 |cons v bo=>
  have aj:=(Z.aj Zs).2
  exact dw.lift (λe H=>⟨⟨H.1,H.2.1⟩,λJ=>H.2.2 (J▸aj)⟩) _ _ a
def jq(aA:dz X)(az:io X h j aH bM aX i){cH:Nat}{s:bk}(In:cH<j)(IU:cH≠aH)(aD:ab X h cH=zx [.str s] 1){r:Except Int (Tok×List Tok)}(Z:eH s (aX.drop i)=some r):
 aW X 172 [.ptr aH 0, .slice cH 0 1 1] h j (λae T au=>∃x cB,r= .ok (x,aX.drop cB)/\ae= .agg (b9 x)/\aU X T aH bM aX cB/\ca X [aH] h j T au) (iF X aH h j r):=by
 have Q:dO X h (λe=>e=cH) cH (.slice cH 0 1 1) 1 (ii [s]):=Gw (aR:=[[.str s]]) (st:= .own) aD rfl Zs Zs rfl
 refine(afl aA az.a8 az.par az.fB az.hm az.g2 az.many In IU Q (r:=r) ?_)
 simp only[rt]
 rw[Z]
 obtain⟨J|⟨x,l⟩,_⟩:∃am,am=r:=⟨r,rfl⟩
 all_goals(rename_i b1;subst b1;rfl)
def atC(aA:dz X){n:Nat}(r9:n<=300000)(ak:∀m,m<n->qJ X aH bM aX m):∀h j i r,io X h j aH bM aX i->Go.aU.list n (aX.drop i)=some r->aW X 262 [.ptr aH 0] h j (λae T au=>∃cb cB bo cH,r= .ok (cb,aX.drop cB)/\dO X T (da j au) cH ae 1 (bo.map λv=>[v])/\dw X T (λe=>da j au e/\e≠cH) cb bo/\aU X T aH bM aX cB/\ca X [aH] h j T au) (iF X aH h j r):=by
 intro h j i r az Z
 cases n with
 |zero=>simp[Go.aU.list]at Z
 |succ n=>
 refine zA aA (aiX X) ?_
 rw[aiY]
 unfold VC
 have gU:=az.a8
 have jY:=az.hm
 have hS:=az.fB
 have jw:=az.g2
 unfold Go.aU.list at Z
 obtain⟨x,b8,aM,ah⟩:=qD Z
 refine(nx aA az aM _).Zm ?_
 rintro tI a2 aO ⟨rfl,el,h2⟩
 have jy:=h2.le
 rcases ah with ⟨aD,Z⟩|⟨aD,Z⟩
 ·rw[aD]at el ⊢
  simp only[ZD]at el ⊢
  simp only[ok,Zf]at Z
  subst Z
  refine ci b9.eq_1 ⟨?_⟩
  refine⟨[],i+1,[],0,by rw[(fI aM).2],dO.nil _ _, .nil,el.ad (zz) (zz), ?_⟩
  exact⟨Zo,λb aj bQ=>by rw[<-h2.ad b aj bQ];exact zz⟩
 ·rw[aD]at el ⊢
  simp only[Zw,ZA]at el ⊢
  simp only[]at Z
  refine cV b9.eq_1 g5.eq_1 ⟨?_⟩
  refine fc (λbb=>bq X a2 aO bb (aO+1)) dU ?_
  intro aS bK
  have fK:=az.go (el.ex bK Zo Zo) (by omega:j<=aO+1)
  have du:=h2.trans (ca.of bK)
  rcases gq Z with ⟨K,U,rfl⟩|⟨J,c5,U,Z⟩
  ·exact((ak n Zo).arrow aS _ _ _ fK U).mono (λae T au a=>by obtain⟨J,cB,a,_⟩:=a;cases a) (λae T au a=>a.of du (λ_ a=>by cases a;rfl))
  refine((ak n Zo).arrow aS _ _ _ fK U).mono ?_ (λae T au a=>by obtain⟨K,a,_⟩:=a;cases a)
  rintro v3 bb bs ⟨fx,i3,apx,cq,gE,ea⟩
  cases apx
  have iL:=ea.le
  obtain⟨dF,rfl,mR,_⟩:=cq.ptr
  have mR:=mR.2
  refine cL ⟨?_⟩
  refine fU (λm M T aV=>∃cb bo s cK cB,bo.length+m<=n+1/\M.g 0=some (.ptr aH 0)/\M.g 5=some s/\gI X T s 1 bo cK/\(∀e∈cK,j<=e/\e<aV)/\dw X T (vt j aV cK) cb bo/\aU X T aH bM aX cB/\ca X [aH] h j T aV/\o0 m cb (aX.drop cB)=some r)
   n ⟨[J],[.ptr dF 0], .slice bs 0 1 1,[bs],i3,by simp;omega,bw,bw, .inr ⟨bs,1,_,_,rfl,rfl,rfl,bm Zo,mT _⟩, ?_, ?_,gE.ad (zz) (zz), ?_,Z⟩ ?_
  ·intro e H
   simp at H
   omega
  ·refine dw.one (cO.ad (λe H=> ?_) _ _ cq) (λe H=>⟨zt H.1,zt H.2,by have:=H.2;simp;omega⟩)
   have:=H.2
   simp(disch:=omega) only[aI]
  ·exact⟨Zo,λb aj bQ=>by rw[<-(du.trans ea).ad b aj bQ];exact zz⟩
  clear cq gE ea U Z mR
  rintro m M bF c7 ⟨cb,bo,s,cK,i4,bp,t0,t5,jm,fz,Fj,hf,eC,Z⟩
  cases m with
  |zero=>simp[o0]at Z
  |succ m=>
  unfold o0 at Z
  have jl:=eC.le
  have ky:=az.go hf jl
  refine gV ?_
  refine ci @t0 ⟨?_⟩
  obtain⟨e,b8,aM,ah⟩:=qD Z
  refine(nx aA ky aM _).Zm ?_
  rintro D6 bX b2 ⟨rfl,hg,dC⟩
  have h5:=dC.le
  have oT:∀e,j<=e->e<c7->ab X bX e=ab X bF e:=λe Q U=>dC.ad e Zo (by simp;omega)
  have oN:=jm.ad (T:=bX) (λe H=>oT e (fz e H).1 (fz e H).2)
  have uy:=dw.ad (T:=bX) (λe H=>oT e H.1 H.2.1) _ _ Fj
  rcases ah with ⟨aD,Z⟩|⟨aD,Z⟩
  ·rw[aD]at hg ⊢
   simp only[ZD]at hg ⊢
   rw[<-(fI aM).2]at Z
   simp only[]at Z
   refine er b9.eq_1 @t0 @t5 ⟨?_⟩
   refine fc (λbb=>bq X bX b2 bb (b2+1)) dU ?_
   intro cf eR
   have ey:=(eC.trans dC).trans (ca.of eR)
   have l3:=ky.go (hg.ex eR Zo Zo) (by omega:c7<=b2+1)
   rcases gq Z with ⟨K,dM,rfl⟩|⟨PA,lZ,dM,Z⟩
   ·exact((ak m Zo).arrow cf _ _ _ l3 dM).mono (λae T au a=>by obtain⟨J,cB,a,_⟩:=a;cases a) (λae T au a=>a.of ey (λ_ a=>by cases a;rfl))
   refine((ak m Zo).arrow cf _ _ _ l3 dM).mono ?_ (λae T au a=>by obtain⟨K,a,_⟩:=a;cases a)
   rintro Kc cx eu ⟨Xt,oP,yq,fa,hG,ek⟩
   cases yq
   have nn:=ek.le
   obtain⟨vq,rfl,C1,_⟩:=fa.ptr
   have C1:=C1.2
   refine cL ⟨?_⟩
   have asP:∀gy,gy=bn X cx eu (zx [.ptr vq 0] 1)->∀e,j<=e->e<b2->ab X gy e=ab X bX e:=by
    rintro gy rfl e Q U
    rw[aI Zo Zo,ek.ad e Zo (by simp;omega),eR.ad e Zo]
   have j1:kX X (bn X cx eu (zx [.ptr vq 0] 1)) 1 (.slice eu 0 1 1)=some (1,[.ptr vq 0]):=sE (bm Zo) (mT _) rfl _
   obtain⟨fo,dx,gR,iK,RR,Im,wQ⟩:=(oN.ad (T:=bn X cx eu (zx [.ptr vq 0] 1)) (λe H=>asP _ rfl e (fz e H).1 (zt (fz e H).2))).append (j:=eu+1) Zd j1 rfl Zd rfl (by simp;omega) Zo (λe H=>zt (fz e H).2)
   refine ki iK ?_
   have hw:∀e,e<eu->e∉cK->ab X dx e=ab X cx e:=λe Q U=>by
    rw[wQ e Zo U,aI Zo Zo]
   refine⟨m,Zo,cb++[PA],bo++[.ptr vq 0],fo,gR,oP,by simp;omega,bf t0,bw, .inl RR, ?_, ?_, ?_, ?_,Z⟩
   ·intro e H
    rcases Im e H with rfl|H
    ·omega
    ·have:=fz e H;omega
   ·refine dw.snoc (cO.ad (λe H=> ?_) _ _ fa) (dw.ad (λe H=> ?_) _ _ uy) (λe H=>⟨H.1,zt H.2.1,λgf=> ?_⟩) (λe H=>⟨⟨zt H.1,zt H.2,λgf=> ?_⟩,λoO=>by have:=H.1;have:=oO.2.1;omega⟩)
    ·have Q:=H.1
     exact hw e H.2 (λgf=>zt (fz e gf))
    ·have U:=H.2.1
     rw[hw e Zo H.2.2,ek.ad e Zo (by have:=H.1;simp;omega),eR.ad e Zo]
    ·have U:=H.2.1
     rcases Im e gf with rfl|gf
     ·omega
     ·exact H.2.2 gf
    ·have Q:=H.1;have U:=H.2
     rcases Im e gf with rfl|gf
     ·omega
     ·have:=fz e gf;omega
   ·exact hG.ad (hw _ Zo (λJ=>zt (fz _ J))) (hw _ Zo (λJ=>zt (fz _ J)))
   ·exact⟨Zo,λb aj bQ=>by rw[hw b Zo (λJ=>zt (fz _ J))];exact(ey.trans ek).ad b aj bQ⟩
  ·rw[aD]at hg ⊢
   simp only[Zw,ZA]at hg ⊢
   simp only[]at Z
   refine gt b9.eq_1 g5.eq_1 @t0 @t5 ⟨?_⟩
   refine fc (λbb=>bq X bX b2 bb (b2+1+1)/\ab X bb (b2+1)=zx [.str [41]] 1) ⟨dU,bm Zo⟩ ?_
   rintro cf ⟨eR,dY⟩
   have ey:=(eC.trans dC).trans (ca.of eR)
   have l3:=ky.go (hg.ex eR Zo Zo) (by omega:c7<=b2+1+1)
   rcases gq Z with ⟨K,dM,rfl⟩|⟨PA,lZ,dM,Z⟩
   ·exact(jq aA l3 Zo Zo dY dM).mono (λae T au a=>by obtain⟨J,cB,a,_⟩:=a;cases a) (λae T au a=>a.of ey (λ_ a=>by cases a;rfl))
   refine(jq aA l3 Zo Zo dY dM).mono ?_ (λae T au a=>by obtain⟨K,a,_⟩:=a;cases a)
   rintro Kc cx eu ⟨Xt,oP,yq,_,hG,ek⟩
   cases yq
   have nn:=ek.le
   simp only[ok,Zf]at Z
   subst Z
   refine ci @t5 ⟨?_⟩
   have gM:∀e,j<=e->e<b2->ab X cx e=ab X bX e:=λe Q U=>by
    rw[ek.ad e Zo (by simp;omega),eR.ad e Zo]
   obtain⟨cH,cC⟩:=(oN.ad (T:=cx) (λe H=>gM e (fz e H).1 (zt (fz e H).2))).JS (P:=λe=>da j eu e/\e∈cK) Zo (λe H=>⟨⟨(fz e H).1,zt (fz e H).2⟩,H⟩)
   refine⟨cb,oP,bo,cH,rfl,cC.lift (λe H=>H.1), ?_,hG,ey.trans ek⟩
   exact dw.lift (λe H=>⟨⟨H.1.1,zt H.1.2⟩,H.2⟩) _ _ (dw.off (dw.ad (λe H=>gM e H.1 (zt H.2.1)) _ _ uy) cC)
end
section
variable{X:ck}{h T a2 aS:V an}{j au aO bg aH bM:Nat}{aX:List Tok}{i:Nat}
def avl(aA:dz X){n:Nat}{r:Except Int (bE×List Tok)}(az:io X h j aH bM aX i){x:Tok}{l:List Tok}(aM:aX.drop i=x::l)(aN:x.kind=5)(Z:Go.aU.part (n+1) (x::l)=some r):
 aW X 261 [.ptr aH 0] h j (jD X aH bM aX h j r) (iF X aH h j r):=by
 refine zA aA (Ag X) ?_
 rw[Ah]
 unfold xH
 have gU:=az.a8
 have jY:=az.hm
 have hS:=az.fB
 have jw:=az.g2
 obtain⟨ah,jJ⟩:=fI aM
 unfold Go.aU.part at Z
 refine(ri aA az.a8 az.par az.hm az.g2 ah).Zm ?_
 rintro ae a2 aO ⟨rfl,bU⟩
 have jy:=bU.le
 have el:=az.par.ex bU Zo Zo
 obtain⟨c,av,bh,cl,a3,a4⟩:=el.at_
 have bV:=jN bh a3
 have jk:=(Zb.1 ah).1
 have uI:=az.many
 have dD:=el.ne
 have bD:=zy i
 refine he b9.eq_1 @bV (Za @bD @bh) ⟨?_⟩
 generalize dI:bn X _ aH _=aS
 have fy:ab X aS aO=zx (b9 x) 7:=by rw[<-dI];simp(disch:=omega) only[aI,bm]<;>rfl
 have h1:ab X aS (aO+1)=zx (g7 0 x.at_ [] false dN 0 .aP) 9:=by rw[<-dI];simp(disch:=omega) only[aI,bm]<;>rfl
 have dA:aU X aS aH bM aX (i+1):=by
  refine el.on (c:=dQ c 1 [.Z ((i+1:Nat):Int)]) ?_ (λd7 st a=>by rw[bh]at a;cases a;exact qI ..) ?_
  ·rw[<-dI];simp(disch:=omega) only[aI,bm];rfl
  ·rw[<-dI];simp(disch:=omega) only[aI]
 have du:ca X [aH] h j aS (aO+2):=by
  refine⟨Zo,λb aj bQ=> ?_⟩
  rw[<-bU.ad b aj, <-dI]
  simp only[Zt,ZL,YX,Yr,ZH,Yb]at bQ
  simp(disch:=omega) only[aI]
 clear dI bV bh cl a3 a4 el bU
 have s5:∃dG,ab X aS aH=some (.cells dG 2 .own)/\ao X aS (.ptr aH 1)=some (.Z ((i+1:Nat):Int)):=by
  obtain⟨c,av,c0,dL,ef,hQ⟩:=dA.at_
  exact⟨c,c0,jN c0 ef⟩
 have fK:=az.go dA (by omega:j<=aO+1+1)
 refine j3 (λM T aV=>∃v,M.g 4=some v/\jD X aH bM aX h j r v T aV) (λaa bG=> ?_) (by
  rintro M T aV ⟨v,t4,a⟩
  refine ci @t4 ⟨?_⟩
  exact a)
 rw[Zq aN]at Z
 simp only[ok,Zf]at Z
 subst Z
 have f5:decide (x.kind=5)=true:=by simp[aN]
 refine gt (bR fy) @h1 @f5 b9.eq_1 ⟨?_⟩
 refine gP (by simp[F.same,n9]) ?_
 refine er (bR fy) @h1 b9.eq_1 ⟨?_⟩
 refine gP (pR _ _) ?_
 refine er (bR fy) @h1 b9.eq_1 ⟨?_⟩
 refine gP (pR _ _) ?_
 refine er (bR fy) @h1 b9.eq_1 ⟨?_⟩
 refine bG _ _ _ ⟨.ptr (aO+1) 0,bw,_,i+1,by rw[<-jJ],cO.leaf (b:=aO+1) (m:=9) (st:= .own) ?_ ⟨Zo,Zo⟩,dA.ad (zz) (zz), ?_⟩
 ·simp(disch:=omega) only[aI,bm]<;>rfl
 ·exact⟨Zo,λb aj bQ=>by rw[<-du.ad b aj bQ];exact zz⟩
end
section
variable{X:ck}{h T a2 aS:V an}{j au aO bg aH bM:Nat}{aX:List Tok}{i:Nat}
def adW(aA:dz X){n:Nat}{r:Except Int (bE×List Tok)}(az:io X h j aH bM aX i){x:Tok}{l:List Tok}(aM:aX.drop i=x::l)(aN:x.kind=2)(bc:x.text=[116,114,117,101]\/x.text=[102,97,108,115,101])(Z:Go.aU.part (n+1) (x::l)=some r):
 aW X 261 [.ptr aH 0] h j (jD X aH bM aX h j r) (iF X aH h j r):=by
 refine zA aA (Ag X) ?_
 rw[Ah]
 unfold xH
 have gU:=az.a8
 have jY:=az.hm
 have hS:=az.fB
 have jw:=az.g2
 obtain⟨ah,jJ⟩:=fI aM
 unfold Go.aU.part at Z
 refine(ri aA az.a8 az.par az.hm az.g2 ah).Zm ?_
 rintro ae a2 aO ⟨rfl,bU⟩
 have jy:=bU.le
 have el:=az.par.ex bU Zo Zo
 obtain⟨c,av,bh,cl,a3,a4⟩:=el.at_
 have bV:=jN bh a3
 have jk:=(Zb.1 ah).1
 have uI:=az.many
 have dD:=el.ne
 have bD:=zy i
 refine he b9.eq_1 @bV (Za @bD @bh) ⟨?_⟩
 generalize dI:bn X _ aH _=aS
 have fy:ab X aS aO=zx (b9 x) 7:=by rw[<-dI];simp(disch:=omega) only[aI,bm]<;>rfl
 have h1:ab X aS (aO+1)=zx (g7 0 x.at_ [] false dN 0 .aP) 9:=by rw[<-dI];simp(disch:=omega) only[aI,bm]<;>rfl
 have dA:aU X aS aH bM aX (i+1):=by
  refine el.on (c:=dQ c 1 [.Z ((i+1:Nat):Int)]) ?_ (λd7 st a=>by rw[bh]at a;cases a;exact qI ..) ?_
  ·rw[<-dI];simp(disch:=omega) only[aI,bm];rfl
  ·rw[<-dI];simp(disch:=omega) only[aI]
 have du:ca X [aH] h j aS (aO+2):=by
  refine⟨Zo,λb aj bQ=> ?_⟩
  rw[<-bU.ad b aj, <-dI]
  simp only[Zt,ZL,YX,Yr,ZH,Yb]at bQ
  simp(disch:=omega) only[aI]
 clear dI bV bh cl a3 a4 el bU
 have s5:∃dG,ab X aS aH=some (.cells dG 2 .own)/\ao X aS (.ptr aH 1)=some (.Z ((i+1:Nat):Int)):=by
  obtain⟨c,av,c0,dL,ef,hQ⟩:=dA.at_
  exact⟨c,c0,jN c0 ef⟩
 have fK:=az.go dA (by omega:j<=aO+1+1)
 refine j3 (λM T aV=>∃v,M.g 4=some v/\jD X aH bM aX h j r v T aV) (λaa bG=> ?_) (by
  rintro M T aV ⟨v,t4,a⟩
  refine ci @t4 ⟨?_⟩
  exact a)
 rw[Zg (by rw[aN];decide),Zq (by rcases bc with a|a<;>simp[aN,a])]at Z
 simp only[ok,Zf]at Z
 subst Z
 have f5:decide (x.kind=5)=false:=by simp[aN]
 have cP:decide (x.kind=2)=true:=by simp[aN]
 rcases bc with bc|bc
 ·have Ck:decide (x.text=[116,114,117,101])=true:=by simp[bc]
  refine iZ (bR fy) @h1 @f5 @cP @Ck b9.eq_1 ⟨?_⟩
  refine bG _ _ _ ⟨.ptr (aO+1) 0,bw,_,i+1,by rw[<-jJ],cO.leaf (b:=aO+1) (m:=9) (st:= .own) (n:=if x.text=[116,114,117,101]then 1 else 0) ?_ ⟨Zo,Zo⟩,dA.ad (zz) (zz), ?_⟩
  ·rw[Zq bc];simp(disch:=omega) only[aI,bm]<;>rfl
  ·exact⟨Zo,λb aj bQ=>by rw[<-du.ad b aj bQ];exact zz⟩
 ·have Ck:decide (x.text=[116,114,117,101])=false:=by simp[bc]
  have bd:decide (x.text=[102,97,108,115,101])=true:=by simp[bc]
  refine e7 (bR fy) @h1 @f5 @cP @Ck @bd b9.eq_1 ⟨?_⟩
  refine bG _ _ _ ⟨.ptr (aO+1) 0,bw,_,i+1,by rw[<-jJ],cO.leaf (b:=aO+1) (m:=9) (st:= .own) (n:=if x.text=[116,114,117,101]then 1 else 0) ?_ ⟨Zo,Zo⟩,dA.ad (zz) (zz), ?_⟩
  ·rw[Zg (by rw[bc];decide)];simp(disch:=omega) only[aI,bm]<;>rfl
  ·exact⟨Zo,λb aj bQ=>by rw[<-du.ad b aj bQ];exact zz⟩
end
section
variable{X:ck}{h T a2 aS:V an}{j au aO bg aH bM:Nat}{aX:List Tok}{i:Nat}
def avn(aA:dz X){n:Nat}(ak:∀m,m<n+1->qJ X aH bM aX m){r:Except Int (bE×List Tok)}(az:io X h j aH bM aX i){x:Tok}{l:List Tok}(aM:aX.drop i=x::l)(r9:n<=1000000)(aN:x.kind=1)(Z:Go.aU.part (n+1) (x::l)=some r):
 aW X 261 [.ptr aH 0] h j (jD X aH bM aX h j r) (iF X aH h j r):=by
 refine zA aA (Ag X) ?_
 rw[Ah]
 unfold xH
 have gU:=az.a8
 have jY:=az.hm
 have hS:=az.fB
 have jw:=az.g2
 obtain⟨ah,jJ⟩:=fI aM
 unfold Go.aU.part at Z
 refine(ri aA az.a8 az.par az.hm az.g2 ah).Zm ?_
 rintro ae a2 aO ⟨rfl,bU⟩
 have jy:=bU.le
 have el:=az.par.ex bU Zo Zo
 obtain⟨c,av,bh,cl,a3,a4⟩:=el.at_
 have bV:=jN bh a3
 have jk:=(Zb.1 ah).1
 have uI:=az.many
 have dD:=el.ne
 have bD:=zy i
 refine he b9.eq_1 @bV (Za @bD @bh) ⟨?_⟩
 generalize dI:bn X _ aH _=aS
 have fy:ab X aS aO=zx (b9 x) 7:=by rw[<-dI];simp(disch:=omega) only[aI,bm]<;>rfl
 have h1:ab X aS (aO+1)=zx (g7 0 x.at_ [] false dN 0 .aP) 9:=by rw[<-dI];simp(disch:=omega) only[aI,bm]<;>rfl
 have dA:aU X aS aH bM aX (i+1):=by
  refine el.on (c:=dQ c 1 [.Z ((i+1:Nat):Int)]) ?_ (λd7 st a=>by rw[bh]at a;cases a;exact qI ..) ?_
  ·rw[<-dI];simp(disch:=omega) only[aI,bm];rfl
  ·rw[<-dI];simp(disch:=omega) only[aI]
 have du:ca X [aH] h j aS (aO+2):=by
  refine⟨Zo,λb aj bQ=> ?_⟩
  rw[<-bU.ad b aj, <-dI]
  simp only[Zt,ZL,YX,Yr,ZH,Yb]at bQ
  simp(disch:=omega) only[aI]
 clear dI bV bh cl a3 a4 el bU
 have s5:∃dG,ab X aS aH=some (.cells dG 2 .own)/\ao X aS (.ptr aH 1)=some (.Z ((i+1:Nat):Int)):=by
  obtain⟨c,av,c0,dL,ef,hQ⟩:=dA.at_
  exact⟨c,c0,jN c0 ef⟩
 have fK:=az.go dA (by omega:j<=aO+1+1)
 refine j3 (λM T aV=>∃v,M.g 4=some v/\jD X aH bM aX h j r v T aV) (λaa bG=> ?_) (by
  rintro M T aV ⟨v,t4,a⟩
  refine ci @t4 ⟨?_⟩
  exact a)
 rw[Zg (by rw[aN];decide),Zg (by simp[aN]),Zq aN]at Z
 have f5:decide (x.kind=5)=false:=by simp[aN]
 have cP:decide (x.kind=2)=false:=by simp[aN]
 have cX:decide (x.kind=1)=true:=by simp[aN]
 refine iZ (bR fy) @h1 @f5 @cP @cX b9.eq_1 ⟨?_⟩
 refine gP (by simp[F.same,Du]) ?_
 refine er (bR fy) @h1 b9.eq_1 ⟨?_⟩
 refine fc (λbb=>ab X bb (aO+1)=zx (g7 2 x.at_ x.text false dN 0 .aP) 9/\aU X bb aH bM aX (i+1)/\ca X [aH] h j bb (aO+1+1+10)) ⟨?_, ?_, ?_⟩ ?_
 ·simp(disch:=omega) only[aI,bm]<;>rfl
 ·exact dA.ad (zz) (zz)
 ·exact⟨Zo,λb aj bQ=>by rw[<-du.ad b aj bQ];exact zz⟩
 clear dA fK du fy h1 s5
 rintro bb ⟨h1,gE,ea⟩
 have mW:=az.go gE (by omega:j<=aO+1+1+10)
 rw[<-jJ]at Z
 obtain⟨e,g0,CI,ar0⟩:=qD Z
 refine(nx aA mW CI _).Zm ?_
 rintro D5 bF c7 ⟨rfl,hf,eC⟩
 have jl:=eC.le
 have HP:ab X bF (aO+1)=zx (g7 2 x.at_ x.text false dN 0 .aP) 9:=by rw[eC.ad _ Zo (by simp;omega)];exact h1
 have q0:=ea.trans eC
 rcases ar0 with ⟨aD,Z⟩|⟨aD,Z⟩
 ·rw[aD]at hf ⊢
  simp only[ZD]at hf ⊢
  rw[<-(fI CI).2]at Z
  simp only[]at Z
  refine ci b9.eq_1 ⟨?_⟩
  refine fc (λbX=>bq X bF c7 bX (c7+1)) dU ?_
  intro bX dH
  have oe:=mW.go (hf.ex dH Zo Zo) (by omega:aO+1+1+10<=c7+1)
  have dC:=q0.trans (ca.of dH)
  rcases gq Z with ⟨K,cu,rfl⟩|⟨cb,mv,cu,Z⟩
  ·exact((ak n Zo).list bX _ _ _ oe cu).mono (λae T au a=>by obtain⟨J,cB,bo,cH,a,_⟩:=a;cases a) (λae T au a=>a.of dC (λ_ a=>by cases a;rfl))
  refine((ak n Zo).list bX _ _ _ oe cu).mono ?_ (λae T au a=>by obtain⟨K,a,_⟩:=a;cases a)
  rintro y3 cf eK ⟨lR,hU,bo,cH,Q2,cC,Fj,hs,ey⟩
  cases Q2
  have r8:=ey.le
  simp only[ok,Zf]at Z
  subst Z
  have rV:ab X cf (aO+1)=zx (g7 2 x.at_ x.text false dN 0 .aP) 9:=by rw[ey.ad _ Zo (by simp;omega),dH.ad _ Zo];exact HP
  have nX:∃w,y3.cells=[w]/\w=y3/\oc y3=true:=by
   have:=cC.len
   cases y3<;>first|exact⟨_,rfl,rfl,rfl⟩|(simp[dX]at this;done)
  obtain⟨w,bJ,rfl,si⟩:=nX
  have di:∀cx Pb,ab X cx (aO+1)=some (.cells Pb 9 .own)->ce X cx 1 (.ptr (aO+1) 8) w=some (bn X cx (aO+1) (some (.cells (Pb.set 8 (some w)) 9 .own))):=λcx Pb a=>sF a Zo Zo bJ si
  refine ci @rV ⟨?_⟩
  refine fF (di _ _ (bm Zo)) ?_
  refine bG _ _ _ ⟨.ptr (aO+1) 0,bw,_,hU,rfl,cO.of (b:=aO+1) (m:=9) (st:= .own) (cH:=cH) (a6:=w) (kind:=25) (at_:=x.at_) (name:=x.text) (no:=false) (ty:=dN) (n:=0) (bo:=bo) ?_ ⟨Zo,Zo⟩ ?_ (λbB=> ?_) ?_,hs.ad (zz) (zz), ?_⟩
  ·simp(disch:=omega) only[aI,bm]<;>rfl
  ·refine(cC.ad (λe H=> ?_)).lift (λe H=>⟨zt H.1,H.2⟩)
   have:=H.1
   simp(disch:=omega) only[aI]
  ·have:=(cC.aj (by simpa using bB)).1
   omega
  ·refine dw.lift (λe H=>⟨⟨zt H.1.1,zt H.1.2⟩,zt H.1.1,H.2⟩) _ _ (dw.ad (λe H=> ?_) _ _ Fj)
   have Q:=H.1.1
   have U:=H.1.2
   simp(disch:=omega) only[aI]
  ·exact⟨Zo,λb aj bQ=>by rw[<-(dC.trans ey).ad b aj bQ];exact zz⟩
 ·rw[aD]at hf ⊢
  simp only[Zw,ZA]at hf ⊢
  simp only[ok,Zf]at Z
  subst Z
  refine cV b9.eq_1 g5.eq_1 ⟨?_⟩
  refine bG _ _ _ ⟨.ptr (aO+1) 0,bw,_,i+1,rfl,cO.leaf (b:=aO+1) (m:=9) (st:= .own) ?_ ⟨Zo,Zo⟩,hf.ad (zz) (zz), ?_⟩
  ·simp(disch:=omega) only[aI];exact HP
  ·exact⟨Zo,λb aj bQ=>by rw[<-q0.ad b aj bQ];exact zz⟩
end
section
variable{X:ck}{h T a2 aS:V an}{j au aO bg aH bM:Nat}{aX:List Tok}{i:Nat}
def avq(aA:dz X){n:Nat}(ak:∀m,m<n+1->qJ X aH bM aX m){r:Except Int (bE×List Tok)}(az:io X h j aH bM aX i){x:Tok}{l:List Tok}(aM:aX.drop i=x::l)(aN:x.kind=3)(Z:Go.aU.part (n+1) (x::l)=some r):
 aW X 261 [.ptr aH 0] h j (jD X aH bM aX h j r) (iF X aH h j r):=by
 refine zA aA (Ag X) ?_
 rw[Ah]
 unfold xH
 have gU:=az.a8
 have jY:=az.hm
 have hS:=az.fB
 have jw:=az.g2
 obtain⟨ah,jJ⟩:=fI aM
 unfold Go.aU.part at Z
 refine(ri aA az.a8 az.par az.hm az.g2 ah).Zm ?_
 rintro ae a2 aO ⟨rfl,bU⟩
 have jy:=bU.le
 have el:=az.par.ex bU Zo Zo
 obtain⟨c,av,bh,cl,a3,a4⟩:=el.at_
 have bV:=jN bh a3
 have jk:=(Zb.1 ah).1
 have uI:=az.many
 have dD:=el.ne
 have bD:=zy i
 refine he b9.eq_1 @bV (Za @bD @bh) ⟨?_⟩
 generalize dI:bn X _ aH _=aS
 have fy:ab X aS aO=zx (b9 x) 7:=by rw[<-dI];simp(disch:=omega) only[aI,bm]<;>rfl
 have h1:ab X aS (aO+1)=zx (g7 0 x.at_ [] false dN 0 .aP) 9:=by rw[<-dI];simp(disch:=omega) only[aI,bm]<;>rfl
 have dA:aU X aS aH bM aX (i+1):=by
  refine el.on (c:=dQ c 1 [.Z ((i+1:Nat):Int)]) ?_ (λd7 st a=>by rw[bh]at a;cases a;exact qI ..) ?_
  ·rw[<-dI];simp(disch:=omega) only[aI,bm];rfl
  ·rw[<-dI];simp(disch:=omega) only[aI]
 have du:ca X [aH] h j aS (aO+2):=by
  refine⟨Zo,λb aj bQ=> ?_⟩
  rw[<-bU.ad b aj, <-dI]
  simp only[Zt,ZL,YX,Yr,ZH,Yb]at bQ
  simp(disch:=omega) only[aI]
 clear dI bV bh cl a3 a4 el bU
 have s5:∃dG,ab X aS aH=some (.cells dG 2 .own)/\ao X aS (.ptr aH 1)=some (.Z ((i+1:Nat):Int)):=by
  obtain⟨c,av,c0,dL,ef,hQ⟩:=dA.at_
  exact⟨c,c0,jN c0 ef⟩
 have fK:=az.go dA (by omega:j<=aO+1+1)
 refine j3 (λM T aV=>∃v,M.g 4=some v/\jD X aH bM aX h j r v T aV) (λaa bG=> ?_) (by
  rintro M T aV ⟨v,t4,a⟩
  refine ci @t4 ⟨?_⟩
  exact a)
 rw[Zg (by rw[aN];decide),Zg (by simp[aN]),Zg (by rw[aN];decide),Zq aN]at Z
 have f5:decide (x.kind=5)=false:=by simp[aN]
 have cP:decide (x.kind=2)=false:=by simp[aN]
 have cX:decide (x.kind=1)=false:=by simp[aN]
 have eQ:decide (x.kind=3)=true:=by simp[aN]
 refine e7 (bR fy) @h1 @f5 @cP @cX @eQ b9.eq_1 ⟨?_⟩
 refine gP (by simp[F.same,n9]) ?_
 refine er (bR fy) @h1 b9.eq_1 ⟨?_⟩
 refine fc (λbb=>ab X bb (aO+1+1+10)=zx [.str [40]] 1/\ab X bb (aO+1)=zx (g7 26 x.at_ [] false x.ty 0 .aP) 9/\aU X bb aH bM aX (i+1)/\ca X [aH] h j bb (aO+1+1+10+1)) ⟨bm Zo, ?_, ?_, ?_⟩ ?_
 ·simp(disch:=omega) only[aI,bm]<;>rfl
 ·exact dA.ad (zz) (zz)
 ·exact⟨Zo,λb aj bQ=>by rw[<-du.ad b aj bQ];exact zz⟩
 clear dA fK du fy h1 s5
 rintro bb ⟨aq,h1,gE,ea⟩
 have mW:=az.go gE (by omega:j<=aO+1+1+10+1)
 rw[<-jJ]at Z
 rcases gq Z with ⟨K,aK,rfl⟩|⟨k2,g0,aK,Z⟩
 ·exact(jq aA mW Zo Zo aq aK).mono (λae T au a=>by obtain⟨J,cB,a,_⟩:=a;cases a) (λae T au a=>a.of ea (λ_ a=>by cases a;rfl))
 refine(jq aA mW Zo Zo aq aK).mono ?_ (λae T au a=>by obtain⟨K,a,_⟩:=a;cases a)
 rintro v4 bF c7 ⟨ayI,i4,th,_,hf,eC⟩
 cases th
 have jl:=eC.le
 have ky:=mW.go hf jl
 have yh:=ea.trans eC
 rcases gq Z with ⟨K,bH,rfl⟩|⟨pw,gF,bH,Z⟩
 ·exact((ak n Zo).arrow bF _ _ _ ky bH).mono (λae T au a=>by obtain⟨J,cB,a,_⟩:=a;cases a) (λae T au a=>a.of yh (λ_ a=>by cases a;rfl))
 refine((ak n Zo).arrow bF _ _ _ ky bH).mono ?_ (λae T au a=>by obtain⟨K,a,_⟩:=a;cases a)
 rintro v5 bX b2 ⟨K1,i5,r4,dH,hg,dC⟩
 cases r4
 have h5:=dC.le
 have oe:=ky.go hg h5
 have qd:=yh.trans dC
 obtain⟨l4,rfl,q7,_⟩:=dH.ptr
 have q7:=q7.2
 have qY:ab X bX (aO+1)=zx (g7 26 x.at_ [] false x.ty 0 .aP) 9:=by rw[dC.ad _ Zo (by simp;omega),eC.ad _ Zo (by simp;omega)];exact h1
 refine ci @qY ⟨?_⟩
 refine fc (λcf=>ab X cf (b2+1)=zx [.str [41]] 1/\ab X cf b2=zx [.ptr l4 0] 1/\ab X cf (aO+1)=zx (g7 26 x.at_ [] false x.ty 0 (.slice b2 0 1 1)) 9/\cO X cf (da c7 b2) pw (.ptr l4 0)/\aU X cf aH bM aX i5/\ca X [aH] h j cf (b2+1+1)) ⟨bm Zo, ?_, ?_, ?_, ?_, ?_⟩ ?_
 ·simp(disch:=omega) only[aI,bm]<;>rfl
 ·simp(disch:=omega) only[aI,bm]<;>rfl
 ·refine cO.ex dH (λe Q U=> ?_) Zo Zo
  simp(disch:=omega) only[aI]
 ·exact hg.ad (zz) (zz)
 ·exact⟨Zo,λb aj bQ=>by rw[<-qd.ad b aj bQ];exact zz⟩
 clear dH hg qY dC
 rintro cf ⟨HT,ano,rV,eR,hs,ey⟩
 have l3:=az.go hs (by omega:j<=b2+1+1)
 rcases gq Z with ⟨K,dM,rfl⟩|⟨vT,lZ,dM,Z⟩
 ·exact(jq aA l3 Zo Zo HT dM).mono (λae T au a=>by obtain⟨J,cB,a,_⟩:=a;cases a) (λae T au a=>a.of ey (λ_ a=>by cases a;rfl))
 refine(jq aA l3 Zo Zo HT dM).mono ?_ (λae T au a=>by obtain⟨K,a,_⟩:=a;cases a)
 rintro Kc cx eu ⟨ayJ,oP,yq,_,hG,ek⟩
 cases yq
 have nn:=ek.le
 simp only[ok,Zf]at Z
 subst Z
 refine bG _ _ _ ⟨.ptr (aO+1) 0,bw,_,oP,rfl,cO.lit (B:=1) (cap:=1) (b:=aO+1) (m:=9) (st:= .own) (iR:= .own) (cH:=b2) (bo:=[.ptr l4 0]) ?_ ⟨Zo,Zo⟩ ?_ ⟨Zo,Zo⟩ rfl Zo Zo (dw.one (cO.ad (λe H=> ?_) _ _ eR) (λe H=> ?_)),hG,ey.trans ek⟩
 ·rw[ek.ad _ Zo (by simp;omega)];exact rV
 ·rw[ek.ad _ Zo (by simp;omega)];exact ano
 ·have Q:=H.1;have U:=H.2
  exact ek.ad e Zo (by simp;omega)
 ·simp only[da]at H ⊢;omega
end
section
variable{X:ck}{h T a2 aS:V an}{j au aO bg aH bM:Nat}{aX:List Tok}{i:Nat}
def avp(aA:dz X){n:Nat}(ak:∀m,m<n+1->qJ X aH bM aX m){r:Except Int (bE×List Tok)}(az:io X h j aH bM aX i){x:Tok}{l:List Tok}(aM:aX.drop i=x::l)(aN:x.kind=6)(bc:x.text=[40])(Z:Go.aU.part (n+1) (x::l)=some r):
 aW X 261 [.ptr aH 0] h j (jD X aH bM aX h j r) (iF X aH h j r):=by
 refine zA aA (Ag X) ?_
 rw[Ah]
 unfold xH
 have gU:=az.a8
 have jY:=az.hm
 have hS:=az.fB
 have jw:=az.g2
 obtain⟨ah,jJ⟩:=fI aM
 unfold Go.aU.part at Z
 refine(ri aA az.a8 az.par az.hm az.g2 ah).Zm ?_
 rintro ae a2 aO ⟨rfl,bU⟩
 have jy:=bU.le
 have el:=az.par.ex bU Zo Zo
 obtain⟨c,av,bh,cl,a3,a4⟩:=el.at_
 have bV:=jN bh a3
 have jk:=(Zb.1 ah).1
 have uI:=az.many
 have dD:=el.ne
 have bD:=zy i
 refine he b9.eq_1 @bV (Za @bD @bh) ⟨?_⟩
 generalize dI:bn X _ aH _=aS
 have fy:ab X aS aO=zx (b9 x) 7:=by rw[<-dI];simp(disch:=omega) only[aI,bm]<;>rfl
 have h1:ab X aS (aO+1)=zx (g7 0 x.at_ [] false dN 0 .aP) 9:=by rw[<-dI];simp(disch:=omega) only[aI,bm]<;>rfl
 have dA:aU X aS aH bM aX (i+1):=by
  refine el.on (c:=dQ c 1 [.Z ((i+1:Nat):Int)]) ?_ (λd7 st a=>by rw[bh]at a;cases a;exact qI ..) ?_
  ·rw[<-dI];simp(disch:=omega) only[aI,bm];rfl
  ·rw[<-dI];simp(disch:=omega) only[aI]
 have du:ca X [aH] h j aS (aO+2):=by
  refine⟨Zo,λb aj bQ=> ?_⟩
  rw[<-bU.ad b aj, <-dI]
  simp only[Zt,ZL,YX,Yr,ZH,Yb]at bQ
  simp(disch:=omega) only[aI]
 clear dI bV bh cl a3 a4 el bU
 have s5:∃dG,ab X aS aH=some (.cells dG 2 .own)/\ao X aS (.ptr aH 1)=some (.Z ((i+1:Nat):Int)):=by
  obtain⟨c,av,c0,dL,ef,hQ⟩:=dA.at_
  exact⟨c,c0,jN c0 ef⟩
 have fK:=az.go dA (by omega:j<=aO+1+1)
 refine j3 (λM T aV=>∃v,M.g 4=some v/\jD X aH bM aX h j r v T aV) (λaa bG=> ?_) (by
  rintro M T aV ⟨v,t4,a⟩
  refine ci @t4 ⟨?_⟩
  exact a)
 rw[Zg (by rw[aN];decide),Zg (by simp[aN]),Zg (by rw[aN];decide),Zg (by rw[aN];decide),Zq (by simp[aN,bc])]at Z
 have f5:decide (x.kind=5)=false:=by simp[aN]
 have cP:decide (x.kind=2)=false:=by simp[aN]
 have cX:decide (x.kind=1)=false:=by simp[aN]
 have eQ:decide (x.kind=3)=false:=by simp[aN]
 have iV:decide (x.kind=6)=true:=by simp[aN]
 have Ck:decide (x.text=[40])=true:=by simp[bc]
 refine e7 (bR fy) @h1 @f5 @cP @cX @eQ (Za @iV (Za @Ck b9.eq_1)) ⟨?_⟩
 rw[<-jJ]at Z
 rcases gq Z with ⟨K,bH,rfl⟩|⟨pw,gF,bH,Z⟩
 ·exact((ak n Zo).arrow aS _ _ _ fK bH).mono (λae T au a=>by obtain⟨J,cB,a,_⟩:=a;cases a) (λae T au a=>a.of du (λ_ a=>by cases a;rfl))
 refine((ak n Zo).arrow aS _ _ _ fK bH).mono ?_ (λae T au a=>by obtain⟨K,a,_⟩:=a;cases a)
 rintro v5 bX b2 ⟨K1,i5,r4,dH,hg,dC⟩
 cases r4
 have h5:=dC.le
 have oe:=fK.go hg h5
 have qd:=du.trans dC
 refine cL ⟨?_⟩
 refine fc (λcf=>ab X cf b2=zx [.str [41]] 1/\bq X bX b2 cf (b2+1)) ⟨bm Zo,dU⟩ ?_
 rintro cf ⟨HT,eR⟩
 have l3:=oe.go (hg.ex eR Zo Zo) (by omega:b2<=b2+1)
 have ey:=qd.trans (ca.of eR)
 rcases gq Z with ⟨K,dM,rfl⟩|⟨vT,lZ,dM,Z⟩
 ·exact(jq aA l3 Zo Zo HT dM).mono (λae T au a=>by obtain⟨J,cB,a,_⟩:=a;cases a) (λae T au a=>a.of ey (λ_ a=>by cases a;rfl))
 refine(jq aA l3 Zo Zo HT dM).mono ?_ (λae T au a=>by obtain⟨K,a,_⟩:=a;cases a)
 rintro Kc cx eu ⟨ayJ,oP,yq,_,hG,ek⟩
 cases yq
 have nn:=ek.le
 simp only[ok,Zf]at Z
 subst Z
 refine bG _ _ _ ⟨v5,bw,_,oP,rfl,cO.ex dH (λe Q U=>by rw[ek.ad e Zo (by simp;omega),eR.ad e Zo]) Zo Zo,hG,ey.trans ek⟩
end
section
variable{X:ck}{h T a2 aS:V an}{j au aO bg aH bM:Nat}{aX:List Tok}{i:Nat}
def avm(aA:dz X){n:Nat}(ak:∀m,m<n+1->qJ X aH bM aX m){r:Except Int (bE×List Tok)}(az:io X h j aH bM aX i){x:Tok}{l:List Tok}(aM:aX.drop i=x::l)(aN:x.kind=2)(bc:x.text=[109,101,114,103,101])(Z:Go.aU.part (n+1) (x::l)=some r):
 aW X 261 [.ptr aH 0] h j (jD X aH bM aX h j r) (iF X aH h j r):=by
 refine zA aA (Ag X) ?_
 rw[Ah]
 unfold xH
 have gU:=az.a8
 have jY:=az.hm
 have hS:=az.fB
 have jw:=az.g2
 obtain⟨ah,jJ⟩:=fI aM
 unfold Go.aU.part at Z
 refine(ri aA az.a8 az.par az.hm az.g2 ah).Zm ?_
 rintro ae a2 aO ⟨rfl,bU⟩
 have jy:=bU.le
 have el:=az.par.ex bU Zo Zo
 obtain⟨c,av,bh,cl,a3,a4⟩:=el.at_
 have bV:=jN bh a3
 have jk:=(Zb.1 ah).1
 have uI:=az.many
 have dD:=el.ne
 have bD:=zy i
 refine he b9.eq_1 @bV (Za @bD @bh) ⟨?_⟩
 generalize dI:bn X _ aH _=aS
 have fy:ab X aS aO=zx (b9 x) 7:=by rw[<-dI];simp(disch:=omega) only[aI,bm]<;>rfl
 have h1:ab X aS (aO+1)=zx (g7 0 x.at_ [] false dN 0 .aP) 9:=by rw[<-dI];simp(disch:=omega) only[aI,bm]<;>rfl
 have dA:aU X aS aH bM aX (i+1):=by
  refine el.on (c:=dQ c 1 [.Z ((i+1:Nat):Int)]) ?_ (λd7 st a=>by rw[bh]at a;cases a;exact qI ..) ?_
  ·rw[<-dI];simp(disch:=omega) only[aI,bm];rfl
  ·rw[<-dI];simp(disch:=omega) only[aI]
 have du:ca X [aH] h j aS (aO+2):=by
  refine⟨Zo,λb aj bQ=> ?_⟩
  rw[<-bU.ad b aj, <-dI]
  simp only[Zt,ZL,YX,Yr,ZH,Yb]at bQ
  simp(disch:=omega) only[aI]
 clear dI bV bh cl a3 a4 el bU
 have s5:∃dG,ab X aS aH=some (.cells dG 2 .own)/\ao X aS (.ptr aH 1)=some (.Z ((i+1:Nat):Int)):=by
  obtain⟨c,av,c0,dL,ef,hQ⟩:=dA.at_
  exact⟨c,c0,jN c0 ef⟩
 have fK:=az.go dA (by omega:j<=aO+1+1)
 refine j3 (λM T aV=>∃v,M.g 4=some v/\jD X aH bM aX h j r v T aV) (λaa bG=> ?_) (by
  rintro M T aV ⟨v,t4,a⟩
  refine ci @t4 ⟨?_⟩
  exact a)
 rw[Zg (by rw[aN];decide),Zg (by simp[aN,bc]),Zg (by rw[aN];decide),Zg (by rw[aN];decide),Zg (by simp[aN]),Zg (by simp[aN,bc]),Zq (by simp[aN,bc])]at Z
 have f5:decide (x.kind=5)=false:=by simp[aN]
 have cP:decide (x.kind=2)=true:=by simp[aN]
 have cX:decide (x.kind=1)=false:=by simp[aN]
 have eQ:decide (x.kind=3)=false:=by simp[aN]
 have iV:decide (x.kind=6)=false:=by simp[aN]
 have cD:decide (x.text=[116,114,117,101])=false:=by simp[bc]
 have cp:decide (x.text=[102,97,108,115,101])=false:=by simp[bc]
 have dF:decide (x.text=[105,102])=false:=by simp[bc]
 have fL:decide (x.text=[109,101,114,103,101])=true:=by simp[bc]
 refine e7 (bR fy) @h1 @f5 @cP @cX @eQ (Za @iV (Za @cD (Za @cp (Za @dF (Za @fL b9.eq_1))))) ⟨?_⟩
 rw[<-jJ]at Z
 cases CI:aX.drop (i+1)with
 |nil=>rw[CI]at Z;simp[iy,andThen]at Z
 |cons c g0=>
 rw[CI]at Z
 simp only[iy]at Z
 refine(Bv aA fK.a8 fK.par fK.fB fK.hm fK.g2 fK.many (fI CI).1 1).mono ?_ ?_
 ·rintro D5 bF c7 ⟨gd,rfl,hf,eC⟩
  have jl:=eC.le
  rw[Zq gd]at Z
  simp only[andThen,ok]at Z
  rw[<-(fI CI).2]at Z
  have HP:ab X bF (aO+1)=zx (g7 0 x.at_ [] false dN 0 .aP) 9:=by rw[eC.ad _ Zo (by simp;omega)];exact h1
  have yh:=du.trans eC
  refine cV b9.eq_1 @HP ⟨?_⟩
  refine fc (λbb=>ab X bb (aO+1)=zx (g7 24 x.at_ c.text false dN 0 .aP) 9/\aU X bb aH bM aX (i+1+1)/\ca X [aH] h j bb c7) ⟨?_, ?_, ?_⟩ ?_
  ·simp(disch:=omega) only[aI,bm]<;>rfl
  ·exact hf.ad (zz) (zz)
  ·exact⟨Zo,λb aj bQ=>by rw[<-yh.ad b aj bQ];exact zz⟩
  clear HP hf eC yh h1 s5 dA fK du fy
  rintro bb ⟨h1,gE,ea⟩
  have mW:=az.go gE (by omega:j<=c7)
  cases CZ:Go.aU.part n (aX.drop (i+1+1))with
  |none=>rw[CZ]at Z;cases Z
  |some aei=>
  rw[CZ]at Z
  refine((ak n Zo).part bb _ _ _ mW CZ).mono ?_ ?_
  ·rintro v5 bX b2 ⟨pw,i5,rfl,dH,hg,dC⟩
   simp only[]at Z
   have h5:=dC.le
   have oe:=mW.go hg h5
   have qd:=ea.trans dC
   cases yx:Go.aU.part n (aX.drop i5)with
   |none=>rw[yx]at Z;cases Z
   |some JR=>
   rw[yx]at Z
   refine((ak n Zo).part bX _ _ _ oe yx).mono ?_ ?_
   ·rintro y3 cf eK ⟨HC,hU,rfl,eR,hs,ey⟩
    simp only[Zf]at Z
    subst Z
    have r8:=ey.le
    obtain⟨l4,rfl,q7,_⟩:=dH.ptr
    obtain⟨BF,rfl,IN,_⟩:=eR.ptr
    have rV:ab X cf (aO+1)=zx (g7 24 x.at_ c.text false dN 0 .aP) 9:=by rw[ey.ad _ Zo (by simp;omega),dC.ad _ Zo (by simp;omega)];exact h1
    refine ci @rV ⟨?_⟩
    refine bG _ _ _ ⟨.ptr (aO+1) 0,bw,_,hU,rfl,cO.lit (B:=2) (cap:=2) (b:=aO+1) (m:=9) (st:= .own) (iR:= .own) (cH:=eK) (bo:=[.ptr l4 0, .ptr BF 0]) ?_ ⟨Zo,Zo⟩ ?_ ⟨Zo,Zo⟩ rfl Zo Zo (dw.two (cO.ad (λe H=> ?_) _ _ dH) (cO.ad (λe H=> ?_) _ _ eR) (λe H=> ?_) (λe H=> ?_)),hs.ad (zz) (zz), ?_⟩
    ·simp(disch:=omega) only[aI,bm]<;>rfl
    ·simp(disch:=omega) only[aI,bm]<;>rfl
    ·have Q:=H.1;have U:=H.2
     simp(disch:=omega) only[aI]
     exact ey.ad e Zo (by simp;omega)
    ·have Q:=H.1;have U:=H.2
     simp(disch:=omega) only[aI]
    ·simp only[da]at H ⊢;omega
    ·simp only[da]at H ⊢;omega
    ·exact⟨Zo,λb aj bQ=>by rw[<-(qd.trans ey).ad b aj bQ];exact zz⟩
   ·rintro y3 cf eK ⟨K,rfl,rfl,ey⟩
    simp only[Zf]at Z
    subst Z
    exact⟨K,rfl,rfl,qd.trans ey⟩
  ·rintro v5 bX b2 ⟨K,rfl,rfl,dC⟩
   simp only[Zf]at Z
   subst Z
   exact⟨K,rfl,rfl,ea.trans dC⟩
 ·rintro D5 bF c7 ⟨gd,rfl,eC⟩
  rw[Zg gd]at Z
  simp only[andThen,bad,Zf]at Z
  subst Z
  exact⟨_,rfl,rfl,du.trans eC⟩
end
section
variable{X:ck}{h T a2 aS:V an}{j au aO bg aH bM:Nat}{aX:List Tok}{i:Nat}
def SV(aA:dz X){n:Nat}{r:Except Int (bE×List Tok)}(az:io X h j aH bM aX i){x:Tok}{l:List Tok}(aM:aX.drop i=x::l)(eU:x.kind≠5)(bV:x.kind≠1)(c4:x.kind≠3)(dK:x.kind=6->x.text≠[40])(cw:x.kind=2->x.text≠[116,114,117,101]/\x.text≠[102,97,108,115,101]/\x.text≠[105,102]/\x.text≠[109,101,114,103,101])(Z:Go.aU.part (n+1) (x::l)=some r):
 aW X 261 [.ptr aH 0] h j (jD X aH bM aX h j r) (iF X aH h j r):=by
 refine zA aA (Ag X) ?_
 rw[Ah]
 unfold xH
 have gU:=az.a8
 have jY:=az.hm
 have hS:=az.fB
 have jw:=az.g2
 obtain⟨ah,jJ⟩:=fI aM
 unfold Go.aU.part at Z
 refine(ri aA az.a8 az.par az.hm az.g2 ah).Zm ?_
 rintro ae a2 aO ⟨rfl,bU⟩
 have jy:=bU.le
 have el:=az.par.ex bU Zo Zo
 obtain⟨c,av,bh,cl,a3,a4⟩:=el.at_
 have bV:=jN bh a3
 have jk:=(Zb.1 ah).1
 have uI:=az.many
 have dD:=el.ne
 have bD:=zy i
 refine he b9.eq_1 @bV (Za @bD @bh) ⟨?_⟩
 generalize dI:bn X _ aH _=aS
 have fy:ab X aS aO=zx (b9 x) 7:=by rw[<-dI];simp(disch:=omega) only[aI,bm]<;>rfl
 have h1:ab X aS (aO+1)=zx (g7 0 x.at_ [] false dN 0 .aP) 9:=by rw[<-dI];simp(disch:=omega) only[aI,bm]<;>rfl
 have dA:aU X aS aH bM aX (i+1):=by
  refine el.on (c:=dQ c 1 [.Z ((i+1:Nat):Int)]) ?_ (λd7 st a=>by rw[bh]at a;cases a;exact qI ..) ?_
  ·rw[<-dI];simp(disch:=omega) only[aI,bm];rfl
  ·rw[<-dI];simp(disch:=omega) only[aI]
 have du:ca X [aH] h j aS (aO+2):=by
  refine⟨Zo,λb aj bQ=> ?_⟩
  rw[<-bU.ad b aj, <-dI]
  simp only[Zt,ZL,YX,Yr,ZH,Yb]at bQ
  simp(disch:=omega) only[aI]
 clear dI bV bh cl a3 a4 el bU
 have s5:∃dG,ab X aS aH=some (.cells dG 2 .own)/\ao X aS (.ptr aH 1)=some (.Z ((i+1:Nat):Int)):=by
  obtain⟨c,av,c0,dL,ef,hQ⟩:=dA.at_
  exact⟨c,c0,jN c0 ef⟩
 have fK:=az.go dA (by omega:j<=aO+1+1)
 refine j3 (λM T aV=>∃v,M.g 4=some v/\jD X aH bM aX h j r v T aV) (λaa bG=> ?_) (by
  rintro M T aV ⟨v,t4,a⟩
  refine ci @t4 ⟨?_⟩
  exact a)
 have IQ:r= .error x.at_:=by
  by_cases U:x.kind=2
  ·obtain⟨fA,hx,xj,JG⟩:=cw U
   have cu:¬x.kind=6:=Zo
   rw[Zg eU,Zg (by simp[fA,hx]),Zg bV,Zg c4,Zg (by simp[cu]),Zg (by simp[xj]),Zg (by simp[JG])]at Z
   simp only[bad,Zf]at Z
   exact Z.symm
  ·by_cases cu:x.kind=6
   ·rw[Zg eU,Zg (by simp[U]),Zg bV,Zg c4,Zg (by simp[dK cu]),Zg (by simp[U]),Zg (by simp[U])]at Z
    simp only[bad,Zf]at Z
    exact Z.symm
   ·rw[Zg eU,Zg (by simp[U]),Zg bV,Zg c4,Zg (by simp[cu]),Zg (by simp[U]),Zg (by simp[U])]at Z
    simp only[bad,Zf]at Z
    exact Z.symm
 subst IQ
 have f5:decide (x.kind=5)=false:=by simp[eU]
 have cX:decide (x.kind=1)=false:=by simp[bV]
 have eQ:decide (x.kind=3)=false:=by simp[c4]
 obtain⟨dG,Qd,Qe⟩:=s5
 have cF:aF .sub (.Z ((i+1:Nat):Int)) (.Z 1)=some (.Z (((i+1:Nat):Int) -1)):=by rw[w3 Zo Zo]
 have fin:∀(bb:V an) (ai:bI),(∀b,b<j->b∉[aH]->ab X bb b=ab X aS b)->aW X 206 [.agg (b9 x)] bb (aO+1+1) ai (iF X aH h j (Except.error x.at_:Except Int (bE×List Tok))):=by
  intro bb ai ar
  refine(HJ aA Zo x _ ?_).mono (λ_ _ _ a=>a.elim) (λ_ _ _ a=>a)
  intro T au bT
  have ID:=bT.le
  exact⟨_,rfl,rfl,Zo,λb aj bQ=>by rw[bT.ad b Zo,ar b aj bQ];exact du.ad b aj bQ⟩
 by_cases U:x.kind=2
 ·obtain⟨fA,hx,xj,JG⟩:=cw U
  have cP:decide (x.kind=2)=true:=by simp[U]
  have iV:decide (x.kind=6)=false:=by simp[U]
  have cD:decide (x.text=[116,114,117,101])=false:=by simp[fA]
  have cp:decide (x.text=[102,97,108,115,101])=false:=by simp[hx]
  have dF:decide (x.text=[105,102])=false:=by simp[xj]
  have fL:decide (x.text=[109,101,114,103,101])=false:=by simp[JG]
  refine e7 (bR fy) @h1 @f5 @cP @cX @eQ (Za @iV (Za @cD (Za @cp (Za @dF (Za @fL (Za b9.eq_1 (Za @Qd (Za @Qe @cF)))))))) ⟨?_⟩
  refine fin _ _ (λb aj bQ=> ?_)
  simp only[Zt,ZL,YX,Yr,ZH,Yb]at bQ
  simp(disch:=omega) only[aI]
 ·have cP:decide (x.kind=2)=false:=by simp[U]
  by_cases cu:x.kind=6
  ·have iV:decide (x.kind=6)=true:=by simp[cu]
   have cD:decide (x.text=[40])=false:=by simp[dK cu]
   refine e7 (bR fy) @h1 @f5 @cP @cX @eQ (Za @iV (Za @cD (Za b9.eq_1 (Za @Qd (Za @Qe @cF))))) ⟨?_⟩
   refine fin _ _ (λb aj bQ=> ?_)
   simp only[Zt,ZL,YX,Yr,ZH,Yb]at bQ
   simp(disch:=omega) only[aI]
  ·have iV:decide (x.kind=6)=false:=by simp[cu]
   refine e7 (bR fy) @h1 @f5 @cP @cX @eQ (Za @iV (Za b9.eq_1 (Za @Qd (Za @Qe @cF)))) ⟨?_⟩
   refine fin _ _ (λb aj bQ=> ?_)
   simp only[Zt,ZL,YX,Yr,ZH,Yb]at bQ
   simp(disch:=omega) only[aI]
end
section
variable{X:ck}{h T a2 aS:V an}{j au aO bg aH bM:Nat}{aX:List Tok}{i:Nat}
def ca.kv{X:ck}{aH:Nat}{h T:V an}{j au n:Nat}(a:ca X [aH] h j T au)(B:au<=n):ca X [aH] h j T n:=⟨Zz a.le B,a.ad⟩
def kk.one{C:aZ}{h:V an}{s:F}{a1:Nat}{l:List F}{cK:List Nat}(a:kk C h s a1 l cK):s.cells=[s]/\oc s=true/\F.same 30 s s=true:=by
 rcases a with ⟨rfl,_⟩|⟨b,fm,n,c,rfl,_⟩
 ·exact⟨rfl,rfl,rfl⟩
 ·exact⟨rfl,rfl,by simp[F.same]⟩
def avk(aA:dz X){n:Nat}(ak:∀m,m<n+1->qJ X aH bM aX m){r:Except Int (bE×List Tok)}(az:io X h j aH bM aX i){x:Tok}{l:List Tok}(aM:aX.drop i=x::l)(aN:x.kind=2)(bc:x.text=[105,102])(Z:Go.aU.part (n+1) (x::l)=some r):
 aW X 261 [.ptr aH 0] h j (jD X aH bM aX h j r) (iF X aH h j r):=by
 refine zA aA (Ag X) ?_
 rw[Ah]
 unfold xH
 have gU:=az.a8
 have jY:=az.hm
 have hS:=az.fB
 have jw:=az.g2
 obtain⟨ah,jJ⟩:=fI aM
 unfold Go.aU.part at Z
 refine(ri aA az.a8 az.par az.hm az.g2 ah).Zm ?_
 rintro ae a2 aO ⟨rfl,bU⟩
 have jy:=bU.le
 have el:=az.par.ex bU Zo Zo
 obtain⟨c,av,bh,cl,a3,a4⟩:=el.at_
 have bV:=jN bh a3
 have jk:=(Zb.1 ah).1
 have uI:=az.many
 have dD:=el.ne
 have bD:=zy i
 refine he b9.eq_1 @bV (Za @bD @bh) ⟨?_⟩
 generalize dI:bn X _ aH _=aS
 have fy:ab X aS aO=zx (b9 x) 7:=by rw[<-dI];simp(disch:=omega) only[aI,bm]<;>rfl
 have h1:ab X aS (aO+1)=zx (g7 0 x.at_ [] false dN 0 .aP) 9:=by rw[<-dI];simp(disch:=omega) only[aI,bm]<;>rfl
 have dA:aU X aS aH bM aX (i+1):=by
  refine el.on (c:=dQ c 1 [.Z ((i+1:Nat):Int)]) ?_ (λd7 st a=>by rw[bh]at a;cases a;exact qI ..) ?_
  ·rw[<-dI];simp(disch:=omega) only[aI,bm];rfl
  ·rw[<-dI];simp(disch:=omega) only[aI]
 have du:ca X [aH] h j aS (aO+2):=by
  refine⟨Zo,λb aj bQ=> ?_⟩
  rw[<-bU.ad b aj, <-dI]
  simp only[Zt,ZL,YX,Yr,ZH,Yb]at bQ
  simp(disch:=omega) only[aI]
 clear dI bV bh cl a3 a4 el bU
 have s5:∃dG,ab X aS aH=some (.cells dG 2 .own)/\ao X aS (.ptr aH 1)=some (.Z ((i+1:Nat):Int)):=by
  obtain⟨c,av,c0,dL,ef,hQ⟩:=dA.at_
  exact⟨c,c0,jN c0 ef⟩
 have fK:=az.go dA (by omega:j<=aO+1+1)
 refine j3 (λM T aV=>∃v,M.g 4=some v/\jD X aH bM aX h j r v T aV) (λaa bG=> ?_) (by
  rintro M T aV ⟨v,t4,a⟩
  refine ci @t4 ⟨?_⟩
  exact a)
 rw[Zg (by rw[aN];decide),Zg (by simp[aN,bc]),Zg (by rw[aN];decide),Zg (by rw[aN];decide),Zg (by simp[aN]),Zq (by simp[aN,bc])]at Z
 have f5:decide (x.kind=5)=false:=by simp[aN]
 have cP:decide (x.kind=2)=true:=by simp[aN]
 have cX:decide (x.kind=1)=false:=by simp[aN]
 have eQ:decide (x.kind=3)=false:=by simp[aN]
 have iV:decide (x.kind=6)=false:=by simp[aN]
 have cD:decide (x.text=[116,114,117,101])=false:=by simp[bc]
 have cp:decide (x.text=[102,97,108,115,101])=false:=by simp[bc]
 have dF:decide (x.text=[105,102])=true:=by simp[bc]
 refine e7 (bR fy) @h1 @f5 @cP @cX @eQ (Za @iV (Za @cD (Za @cp (Za @dF (Za b9.eq_1 g7.eq_1))))) ⟨?_⟩
 rw[<-jJ]at Z
 refine fc (λbb=>ab X bb (aO+1)=zx (g7 23 x.at_ [] false dN 0 .aP) 9/\aU X bb aH bM aX (i+1)/\ca X [aH] h j bb (aO+1+1)) ⟨?_, ?_, ?_⟩ ?_
 ·simp(disch:=omega) only[aI,bm]<;>rfl
 ·exact dA.ad (zz) (zz)
 ·exact⟨Zo,λb aj bQ=>by rw[<-du.ad b aj bQ];exact zz⟩
 clear dA fK du fy h1 s5
 rintro G7 ⟨X7,abM,Qx⟩
 have ab3:gI X G7 .aP 1 [] []:= .inl (.inl ⟨rfl,rfl,rfl⟩)
 have us:∀e∈([]:List Nat),aO+2<=e/\e<aO+1+1:=by simp
 have aaX:dw X G7 (vt (aO+2) (aO+1+1) []) [] []:= .nil
 have arn:F.same 30 .aP .aP=true:=rfl
 have ad4:=az.go abM (by omega:j<=(aO+1+1)+12)
 rcases gq Z with ⟨K,bH,rfl⟩|⟨HD,gF,bH,Z⟩
 ·exact((ak n Zo).arrow G7 _ _ _ ad4 bH).mono (λae T au a=>by obtain⟨J,cB,a,_⟩:=a;cases a) (λae T au a=>a.of (ca.kv Qx Zo) (λ_ a=>by cases a;rfl))
 refine((ak n Zo).arrow G7 _ _ _ ad4 bH).mono ?_ (λae T au a=>by obtain⟨K,a,_⟩:=a;cases a)
 clear bH
 rintro v5 bX b2 ⟨K1,aAX,r4,dH,hg,dC⟩
 cases r4
 have h5:=dC.le
 have qd:=(ca.kv Qx (by omega:(aO+1+1)<=(aO+1+1)+12)).trans dC
 obtain⟨vr,rfl,q7,_⟩:=dH.ptr
 have q7:=q7.2
 have qY:ab X bX (aO+1)=zx (g7 23 x.at_ [] false dN 0 F.aP) 9:=by rw[dC.ad _ Zo (by simp;omega)];exact X7
 have oT:∀e,aO+2<=e->e<(aO+1+1)->ab X bX e=ab X G7 e:=λe Q U=>dC.ad e Zo (by simp;omega)
 have oN:=ab3.ad (T:=bX) (λe H=>oT e (us e H).1 (us e H).2)
 have uy:=dw.ad (T:=bX) (λe H=>oT e H.1 H.2.1) _ _ aaX
 clear oT
 refine cV (bR qY) g7.eq_1 ⟨?_⟩
 refine gP arn ?_
 have j1:kX X (bn X bX ((aO+1+1)+7) (zx [.ptr vr 0] 1)) 1 (.slice ((aO+1+1)+7) 0 1 1)=some (1,[.ptr vr 0]):=sE (bm Zo) (mT _) rfl _
 obtain⟨JX,cf,Ez,iK,sf,q3,nS⟩:=(oN.ad (T:=bn X bX ((aO+1+1)+7) (zx [.ptr vr 0] 1)) (λe H=>aI Zo (zt (us e H).2))).append (j:=b2) Zd j1 rfl Zd rfl Zs Zo (λe H=>zt (us e H).2)
 refine ki iK ?_
 have dK:∀e,e<b2->e∉([]:List Nat)->e≠(aO+1+1)+7->ab X cf e=ab X bX e:=λe Q U ar=>by
  rw[nS e Zo U,aI Zo ar]
 have rV:ab X cf (aO+1)=zx (g7 23 x.at_ [] false dN 0 F.aP) 9:=by
  rw[dK _ Zo (λa=>zt (us _ a)) Zo];exact qY
 obtain⟨nX,AW,aro⟩:=kk.one sf
 refine cL ⟨?_⟩
 refine fF (sF rV Zo Zo nX AW) ?_
 have qh:∀e∈Ez,aO+2<=e/\e<b2+1:=by
  intro e H
  rcases q3 e H with rfl|H
  ·omega
  ·have:=us e H;omega
 have CM:dw X cf (vt (aO+2) (b2+1) Ez) ([]++[HD]) ([]++[.ptr vr 0]):=by
  refine dw.snoc (cO.ad (λe H=> ?_) _ _ dH) (dw.ad (λe H=> ?_) _ _ uy) (λe H=>⟨H.1,zt H.2.1,λgf=> ?_⟩) (λe H=>⟨⟨zt H.1,zt H.2,λgf=> ?_⟩,λoO=>by have:=H.1;have:=oO.2.1;omega⟩)
  ·have Q:=H.1
   exact dK e H.2 (λgf=>zt (us e gf)) Zo
  ·have U:=H.2.1
   exact dK e Zo H.2.2 Zo
  ·have U:=H.2.1
   rcases q3 e gf with rfl|gf
   ·omega
   ·exact H.2.2 gf
  ·have Q:=H.1;have U:=H.2
   rcases q3 e gf with rfl|gf
   ·omega
   ·have:=us e gf;omega
 have ey:ca X [aH] h j cf (b2+1):=⟨Zo,λb aj bQ=>by
  rw[dK b Zo (λJ=>zt (us _ J)) Zo];exact qd.ad b aj bQ⟩
 have hs:=hg.ad (dK aH Zo (λJ=>zt (us _ J)) Zo) (dK bM Zo (λJ=>zt (us _ J)) Zo)
 clear uy dH hg dC qd qY oN j1 iK nS q3 nX AW aaX X7 ab3 abM Qx
 refine cL ⟨?_⟩
 refine fc (λcx=>ab X cx (b2+1)=zx [.str [116,104,101,110]] 1/\ab X cx (aO+1)=zx (g7 23 x.at_ [] false dN 0 JX) 9/\(∀e,e<b2+1->e≠aO+1->ab X cx e=ab X cf e)) ⟨bm Zo, ?_, ?_⟩ ?_
 ·simp(disch:=omega) only[aI,bm]<;>rfl
 ·intro e Q U
  simp(disch:=omega) only[aI]
 clear rV
 rintro cx ⟨Ct,HQ,gM⟩
 have hG:=hs.ad (gM aH Zo Zo) (gM bM Zo Zo)
 have mX:=az.go hG (by omega:j<=b2+1+1)
 have ek:ca X [aH] h j cx (b2+1+1):=⟨Zo,λb aj bQ=>by rw[gM b Zo Zo];exact ey.ad b aj bQ⟩
 rcases gq Z with ⟨K,fs,rfl⟩|⟨y5,n3,fs,Z⟩
 ·exact(jq aA mX Zo Zo Ct fs).mono (λae T au a=>by obtain⟨J,cB,a,_⟩:=a;cases a) (λae T au a=>a.of ek (λ_ a=>by cases a;rfl))
 refine(jq aA mX Zo Zo Ct fs).mono ?_ (λae T au a=>by obtain⟨K,a,_⟩:=a;cases a)
 clear fs
 rintro GS tS xb ⟨ayK,aAV,CL,_,abN,gC⟩
 cases CL
 have az6:=gC.le
 have Qy:=ek.trans gC
 have P6:ab X tS (aO+1)=zx (g7 23 x.at_ [] false dN 0 JX) 9:=by rw[gC.ad _ Zo (by simp;omega)];exact HQ
 have eE:∀e,aO+2<=e->e<b2+1->ab X tS e=ab X cf e:=λe Q U=>by
  rw[gC.ad e Zo (by simp;omega),gM e U Zo]
 have ab4:gI X tS JX 1 ([]++[.ptr vr 0]) Ez:= .inl (sf.ad (λe H=>eE e (qh e H).1 (qh e H).2))
 have aaY:dw X tS (vt (aO+2) xb Ez) ([]++[HD]) ([]++[.ptr vr 0]):=
  dw.lift (λe H=>⟨H.1,zt H.2.1,H.2.2⟩) _ _ (dw.ad (λe H=>eE e H.1 H.2.1) _ _ CM)
 have qh:∀e∈Ez,aO+2<=e/\e<xb:=λe H=>zt (qh e H)
 clear CM sf hs ey hG mX ek gC Ct HQ gM dK eE
 refine cV (bR P6) g7.eq_1 ⟨?_⟩
 have ad5:=az.go abN (by omega:j<=xb+12)
 rcases gq Z with ⟨K,bH,rfl⟩|⟨PC,gF,bH,Z⟩
 ·exact((ak n Zo).arrow tS _ _ _ ad5 bH).mono (λae T au a=>by obtain⟨J,cB,a,_⟩:=a;cases a) (λae T au a=>a.of (ca.kv Qy Zo) (λ_ a=>by cases a;rfl))
 refine((ak n Zo).arrow tS _ _ _ ad5 bH).mono ?_ (λae T au a=>by obtain⟨K,a,_⟩:=a;cases a)
 clear bH
 rintro v5 bX b2 ⟨K1,aAY,r4,dH,hg,dC⟩
 cases r4
 have h5:=dC.le
 have qd:=(ca.kv Qy (by omega:xb<=xb+12)).trans dC
 obtain⟨BG,rfl,q7,_⟩:=dH.ptr
 have q7:=q7.2
 have qY:ab X bX (aO+1)=zx (g7 23 x.at_ [] false dN 0 JX) 9:=by rw[dC.ad _ Zo (by simp;omega)];exact P6
 have oT:∀e,aO+2<=e->e<xb->ab X bX e=ab X tS e:=λe Q U=>dC.ad e Zo (by simp;omega)
 have oN:=ab4.ad (T:=bX) (λe H=>oT e (qh e H).1 (qh e H).2)
 have uy:=dw.ad (T:=bX) (λe H=>oT e H.1 H.2.1) _ _ aaY
 clear oT
 refine cV (bR qY) g7.eq_1 ⟨?_⟩
 refine gP aro ?_
 have j1:kX X (bn X bX (xb+7) (zx [.ptr BG 0] 1)) 1 (.slice (xb+7) 0 1 1)=some (1,[.ptr BG 0]):=sE (bm Zo) (mT _) rfl _
 obtain⟨DR,cf,EA,iK,sf,q3,nS⟩:=(oN.ad (T:=bn X bX (xb+7) (zx [.ptr BG 0] 1)) (λe H=>aI Zo (zt (qh e H).2))).append (j:=b2) Zd j1 rfl Zd rfl Zs Zo (λe H=>zt (qh e H).2)
 refine ki iK ?_
 have dK:∀e,e<b2->e∉Ez->e≠xb+7->ab X cf e=ab X bX e:=λe Q U ar=>by
  rw[nS e Zo U,aI Zo ar]
 have rV:ab X cf (aO+1)=zx (g7 23 x.at_ [] false dN 0 JX) 9:=by
  rw[dK _ Zo (λa=>zt (qh _ a)) Zo];exact qY
 obtain⟨nX,AW,arp⟩:=kk.one sf
 refine cL ⟨?_⟩
 refine fF (sF rV Zo Zo nX AW) ?_
 have qi:∀e∈EA,aO+2<=e/\e<b2+1:=by
  intro e H
  rcases q3 e H with rfl|H
  ·omega
  ·have:=qh e H;omega
 have CM:dw X cf (vt (aO+2) (b2+1) EA) (([]++[HD])++[PC]) (([]++[.ptr vr 0])++[.ptr BG 0]):=by
  refine dw.snoc (cO.ad (λe H=> ?_) _ _ dH) (dw.ad (λe H=> ?_) _ _ uy) (λe H=>⟨H.1,zt H.2.1,λgf=> ?_⟩) (λe H=>⟨⟨zt H.1,zt H.2,λgf=> ?_⟩,λoO=>by have:=H.1;have:=oO.2.1;omega⟩)
  ·have Q:=H.1
   exact dK e H.2 (λgf=>zt (qh e gf)) Zo
  ·have U:=H.2.1
   exact dK e Zo H.2.2 Zo
  ·have U:=H.2.1
   rcases q3 e gf with rfl|gf
   ·omega
   ·exact H.2.2 gf
  ·have Q:=H.1;have U:=H.2
   rcases q3 e gf with rfl|gf
   ·omega
   ·have:=qh e gf;omega
 have ey:ca X [aH] h j cf (b2+1):=⟨Zo,λb aj bQ=>by
  rw[dK b Zo (λJ=>zt (qh _ J)) Zo];exact qd.ad b aj bQ⟩
 have hs:=hg.ad (dK aH Zo (λJ=>zt (qh _ J)) Zo) (dK bM Zo (λJ=>zt (qh _ J)) Zo)
 clear uy dH hg dC qd qY oN j1 iK nS q3 nX AW aaY P6 ab4 abN Qy
 refine cL ⟨?_⟩
 refine fc (λcx=>ab X cx (b2+1)=zx [.str [101,108,115,101]] 1/\ab X cx (aO+1)=zx (g7 23 x.at_ [] false dN 0 DR) 9/\(∀e,e<b2+1->e≠aO+1->ab X cx e=ab X cf e)) ⟨bm Zo, ?_, ?_⟩ ?_
 ·simp(disch:=omega) only[aI,bm]<;>rfl
 ·intro e Q U
  simp(disch:=omega) only[aI]
 clear rV
 rintro cx ⟨Ct,HQ,gM⟩
 have hG:=hs.ad (gM aH Zo Zo) (gM bM Zo Zo)
 have mX:=az.go hG (by omega:j<=b2+1+1)
 have ek:ca X [aH] h j cx (b2+1+1):=⟨Zo,λb aj bQ=>by rw[gM b Zo Zo];exact ey.ad b aj bQ⟩
 rcases gq Z with ⟨K,fs,rfl⟩|⟨y5,n3,fs,Z⟩
 ·exact(jq aA mX Zo Zo Ct fs).mono (λae T au a=>by obtain⟨J,cB,a,_⟩:=a;cases a) (λae T au a=>a.of ek (λ_ a=>by cases a;rfl))
 refine(jq aA mX Zo Zo Ct fs).mono ?_ (λae T au a=>by obtain⟨K,a,_⟩:=a;cases a)
 clear fs
 rintro GS BZ xc ⟨ayK,aAW,CL,_,abO,gC⟩
 cases CL
 have az7:=gC.le
 have Qz:=ek.trans gC
 have P7:ab X BZ (aO+1)=zx (g7 23 x.at_ [] false dN 0 DR) 9:=by rw[gC.ad _ Zo (by simp;omega)];exact HQ
 have eE:∀e,aO+2<=e->e<b2+1->ab X BZ e=ab X cf e:=λe Q U=>by
  rw[gC.ad e Zo (by simp;omega),gM e U Zo]
 have ab5:gI X BZ DR 1 (([]++[.ptr vr 0])++[.ptr BG 0]) EA:= .inl (sf.ad (λe H=>eE e (qi e H).1 (qi e H).2))
 have aaZ:dw X BZ (vt (aO+2) xc EA) (([]++[HD])++[PC]) (([]++[.ptr vr 0])++[.ptr BG 0]):=
  dw.lift (λe H=>⟨H.1,zt H.2.1,H.2.2⟩) _ _ (dw.ad (λe H=>eE e H.1 H.2.1) _ _ CM)
 have qi:∀e∈EA,aO+2<=e/\e<xc:=λe H=>zt (qi e H)
 clear CM sf hs ey hG mX ek gC Ct HQ gM dK eE
 refine cV (bR P7) g7.eq_1 ⟨?_⟩
 have ad6:=az.go abO (by omega:j<=xc+12)
 rcases gq Z with ⟨K,bH,rfl⟩|⟨alV,gF,bH,Z⟩
 ·exact((ak n Zo).arrow BZ _ _ _ ad6 bH).mono (λae T au a=>by obtain⟨J,cB,a,_⟩:=a;cases a) (λae T au a=>a.of (ca.kv Qz Zo) (λ_ a=>by cases a;rfl))
 refine((ak n Zo).arrow BZ _ _ _ ad6 bH).mono ?_ (λae T au a=>by obtain⟨K,a,_⟩:=a;cases a)
 clear bH
 rintro v5 bX b2 ⟨K1,ar9,r4,dH,hg,dC⟩
 cases r4
 have h5:=dC.le
 have qd:=(ca.kv Qz (by omega:xc<=xc+12)).trans dC
 obtain⟨JO,rfl,q7,_⟩:=dH.ptr
 have q7:=q7.2
 have qY:ab X bX (aO+1)=zx (g7 23 x.at_ [] false dN 0 DR) 9:=by rw[dC.ad _ Zo (by simp;omega)];exact P7
 have oT:∀e,aO+2<=e->e<xc->ab X bX e=ab X BZ e:=λe Q U=>dC.ad e Zo (by simp;omega)
 have oN:=ab5.ad (T:=bX) (λe H=>oT e (qi e H).1 (qi e H).2)
 have uy:=dw.ad (T:=bX) (λe H=>oT e H.1 H.2.1) _ _ aaZ
 clear oT
 refine cV (bR qY) g7.eq_1 ⟨?_⟩
 refine gP arp ?_
 have j1:kX X (bn X bX (xc+7) (zx [.ptr JO 0] 1)) 1 (.slice (xc+7) 0 1 1)=some (1,[.ptr JO 0]):=sE (bm Zo) (mT _) rfl _
 obtain⟨Tj,cf,O5,iK,sf,q3,nS⟩:=(oN.ad (T:=bn X bX (xc+7) (zx [.ptr JO 0] 1)) (λe H=>aI Zo (zt (qi e H).2))).append (j:=b2) Zd j1 rfl Zd rfl Zs Zo (λe H=>zt (qi e H).2)
 refine ki iK ?_
 have dK:∀e,e<b2->e∉EA->e≠xc+7->ab X cf e=ab X bX e:=λe Q U ar=>by
  rw[nS e Zo U,aI Zo ar]
 have rV:ab X cf (aO+1)=zx (g7 23 x.at_ [] false dN 0 DR) 9:=by
  rw[dK _ Zo (λa=>zt (qi _ a)) Zo];exact qY
 obtain⟨nX,AW,aAK⟩:=kk.one sf
 refine cL ⟨?_⟩
 refine fF (sF rV Zo Zo nX AW) ?_
 have aaI:∀e∈O5,aO+2<=e/\e<b2+1:=by
  intro e H
  rcases q3 e H with rfl|H
  ·omega
  ·have:=qi e H;omega
 have CM:dw X cf (vt (aO+2) (b2+1) O5) (([]++[HD]++[PC])++[alV]) (([]++[.ptr vr 0]++[.ptr BG 0])++[.ptr JO 0]):=by
  refine dw.snoc (cO.ad (λe H=> ?_) _ _ dH) (dw.ad (λe H=> ?_) _ _ uy) (λe H=>⟨H.1,zt H.2.1,λgf=> ?_⟩) (λe H=>⟨⟨zt H.1,zt H.2,λgf=> ?_⟩,λoO=>by have:=H.1;have:=oO.2.1;omega⟩)
  ·have Q:=H.1
   exact dK e H.2 (λgf=>zt (qi e gf)) Zo
  ·have U:=H.2.1
   exact dK e Zo H.2.2 Zo
  ·have U:=H.2.1
   rcases q3 e gf with rfl|gf
   ·omega
   ·exact H.2.2 gf
  ·have Q:=H.1;have U:=H.2
   rcases q3 e gf with rfl|gf
   ·omega
   ·have:=qi e gf;omega
 have ey:ca X [aH] h j cf (b2+1):=⟨Zo,λb aj bQ=>by
  rw[dK b Zo (λJ=>zt (qi _ J)) Zo];exact qd.ad b aj bQ⟩
 have hs:=hg.ad (dK aH Zo (λJ=>zt (qi _ J)) Zo) (dK bM Zo (λJ=>zt (qi _ J)) Zo)
 clear uy dH hg dC qd qY oN j1 iK nS q3 nX AW aaZ P7 ab5 abO Qz
 simp only[ok,Zf]at Z
 subst Z
 have hl:∀e,e≠aO+1->ab X (bn X cf (aO+1) (some (.cells ((V.ofList (g7 23 x.at_ [] false dN 0 DR) 0 .nil).set 8 (some Tj)) 9 .own))) e=ab X cf e:=λe a=>aI Zo a
 obtain⟨cH,cC⟩:=(gI.ad (T:=bn X cf (aO+1) (some (.cells ((V.ofList (g7 23 x.at_ [] false dN 0 DR) 0 .nil).set 8 (some Tj)) 9 .own))) (.inl sf) (λe H=>hl e (zt (aaI e H)))).JS (P:=λe=>da (aO+2) (b2+1) e/\e∈O5) Zs (λe H=>⟨by have:=aaI e H;exact⟨Zo,Zo⟩,H⟩)
 refine bG _ _ _ ⟨.ptr (aO+1) 0,bw,_,ar9,rfl,cO.of (b:=aO+1) (m:=9) (st:= .own) (cH:=cH) (a6:=Tj) (kind:=23) (at_:=x.at_) (name:=[]) (no:=false) (ty:=dN) (n:=0) (bo:=[.ptr vr 0, .ptr BG 0, .ptr JO 0]) ?_ ⟨Zo,Zo⟩ (cC.lift (λe H=>⟨zt H.1.1,H.1.2⟩)) (λ_=> ?_) ?_, ?_, ?_⟩
 ·rw[bm Zo];rfl
 ·have:=(cC.aj Zs).1.1
  omega
 ·exact dw.lift (λe H=>⟨⟨zt H.1.1,zt H.1.2⟩,zt H.1.1,H.2⟩) _ _ (dw.off (dw.ad (λe H=>hl e (zt H.1)) _ _ CM) cC)
 ·exact hs.ad (hl _ Zo) (hl _ Zo)
 ·exact⟨ey.le,λb aj bQ=>by rw[hl b Zo];exact ey.ad b aj bQ⟩
end
section
variable{X:ck}{h T a2 aS:V an}{j au aO bg aH bM:Nat}{aX:List Tok}{i:Nat}
def avo(aA:dz X){n:Nat}(r9:n<=300000)(ak:∀m,m<n->qJ X aH bM aX m):∀h j i r,io X h j aH bM aX i->Go.aU.part n (aX.drop i)=some r->aW X 261 [.ptr aH 0] h j (jD X aH bM aX h j r) (iF X aH h j r):=by
 intro h j i r az Z
 cases n with
 |zero=>simp[Go.aU.part]at Z
 |succ n=>
 cases aM:aX.drop i with
 |nil=>rw[aM]at Z;simp[Go.aU.part]at Z
 |cons x l=>
 rw[aM]at Z
 by_cases eU:x.kind=5
 ·exact avl aA az aM eU Z
 by_cases bV:x.kind=1
 ·exact avn aA ak az aM Zo bV Z
 by_cases c4:x.kind=3
 ·exact avq aA ak az aM c4 Z
 by_cases dK:x.kind=6
 ·by_cases bc:x.text=[40]
  ·exact avp aA ak az aM dK bc Z
  ·exact SV aA az aM eU bV c4 (λ_=>bc) (λa=>Zo) Z
 by_cases cw:x.kind=2
 ·by_cases Q:x.text=[116,114,117,101]
  ·exact adW aA az aM cw (.inl Q) Z
  by_cases U:x.text=[102,97,108,115,101]
  ·exact adW aA az aM cw (.inr U) Z
  by_cases ar:x.text=[105,102]
  ·exact avk aA ak az aM cw ar Z
  by_cases aK:x.text=[109,101,114,103,101]
  ·exact avm aA ak az aM cw aK Z
  ·exact SV aA az aM eU bV c4 (λa=>Zo) (λ_=>⟨Q,U,ar,aK⟩) Z
 ·exact SV aA az aM eU bV c4 (λa=>Zo) (λa=>absurd a cw) Z
def Wr(aA:dz X)(eS:vZ X):∀n,n<=300000->qJ X aH bM aX n:=by
 intro n
 induction n using Nat.strongRecOn with
 |ind n ak=>
  intro aL
  have ak:∀m,m<n->qJ X aH bM aX m:=λm bp=>ak m bp Zo
  exact⟨atr aA eS ak,awT aA ak,avB aA ak,avo aA aL ak,amC aA ak,akr aA ak,atC aA aL ak⟩
end
def I7(n:Int):F:= .Z n
def tR(X:ck)(h:V an)(ho aJ:Nat)(left:List bk)(dg:List Int):Prop:=ho<aJ/\(o X).a8<=ho/\∃c a6 l6 Ey wc,ab X h ho=some (.cells c 4 .own)/\c.get 0=some a6/\c.get 1=some l6/\gI X h a6 1 (left.map .str) Ey/\gI X h l6 1 (dg.map I7) wc
 /\(∀e∈Ey,ho<e/\e<aJ/\e∉wc)/\∀e∈wc,ho<e/\e<aJ
def tR.ad{X:ck}{h T:V an}{ho aJ kP:Nat}{left:List bk}{dg:List Int}(a:tR X h ho aJ left dg)(B:∀e,ho<=e->e<aJ->ab X T e=ab X h e)(gD:aJ<=kP):tR X T ho kP left dg:=by
 obtain⟨b6,Cw,c,a6,l6,Ey,wc,Q,U,ar,aK,bH,cu,dM⟩:=a
 exact⟨Zo,Cw,c,a6,l6,Ey,wc,by rw[B ho Zo b6];exact Q,U,ar,aK.ad (λe H=>B e (zt (cu e H)) (cu e H).2.1),bH.ad (λe H=>B e (zt (dM e H)) (dM e H).2),
  λe H=>by have:=cu e H;exact⟨this.1,Zo,this.2.2⟩,λe H=>zt (dM e H)⟩
def gI.one{C:aZ}{h:V an}{s:F}{a1:Nat}{l:List F}{cK:List Nat}(a:gI C h s a1 l cK):s.cells=[s]/\oc s=true/\F.same 30 s s=true:=by
 rcases a with a|⟨b,n,c,st,rfl,_⟩
 ·exact kk.one a
 ·exact⟨rfl,rfl,by simp[F.same]⟩
section
variable{X:ck}{h T a2 aS:V an}{j au aO bg aH bM:Nat}{aX:List Tok}{i:Nat}
def SK(aA:dz X)(az:io X h j aH bM aX i){iP ho:Nat}(yx:iP<ho)(abP:iP≠aH)(apc:aH<ho)(apd:bM<ho)(aqU:ao X h (.ptr iP 0)=some (.ptr aH 0)){left:List bk}{dg:List Int}(b1:tR X h ho j left dg)(bp:left.length<=1000000)(CR:dg.length<=300000){x:Tok}{l:List Tok}(aM:aX.drop i=x::l):
 aW X 207 [.ptr iP 0, .ptr ho 0] h j (λae T au=>x.kind=1/\ae= .tuple []/\tR X T ho au (left++[x.text]) (dg++[x.at_])/\aU X T aH bM aX (i+1)/\j<=au/\ca X [aH] h ho T au)
  (λae T au=>x.kind≠1/\ae=oB 21 x.at_/\ca X [aH] h j T au):=by
 refine zA aA (ah5 X) ?_
 rw[ah6]
 unfold Vc
 have gU:=az.a8
 have jY:=az.hm
 have hS:=az.fB
 have jw:=az.g2
 refine ci @aqU ⟨?_⟩
 refine(Bv aA az.a8 az.par az.fB az.hm az.g2 az.many (fI aM).1 1).mono ?_ (λae T au a=>a)
 rintro ae a2 aO ⟨aN,rfl,el,h2⟩
 have jy:=h2.le
 have hM:=b1.ad (T:=a2) (kP:=aO) (λe Q U=>h2.ad e U (by simp;omega)) jy
 have aAF:=b1.1
 clear b1
 obtain⟨b6,Cw,c,a6,l6,Ey,wc,b4,b7,cN,ej,fY,dY,e1⟩:=hM
 obtain⟨gN,my,rn⟩:=gI.one ej
 obtain⟨Gl,Bs,sq⟩:=gI.one fY
 refine gt b9.eq_1 (bR b4) @b7 @cN ⟨?_⟩
 have j1:∀gy,ab X gy (aO+1+4)=zx [.str x.text] 1->kX X gy 1 (.slice (aO+1+4) 0 1 1)=some (1,[.str x.text]):=λgy a=>sE a (mT _) rfl _
 have arw:∀gy,ab X gy (aO+1+10)=zx [.Z x.at_] 1->kX X gy 1 (.slice (aO+1+10) 0 1 1)=some (1,[.Z x.at_]):=λgy a=>sE a (mT _) rfl _
 generalize fC:bn X _ (aO+1+10) _=bb
 have c4:∀e,e<aO->ab X bb e=ab X a2 e:=λe H=>by rw[<-fC];exact zz
 have t3:ab X bb aO=zx (b9 x) 7:=by rw[<-fC];simp(disch:=omega) only[aI,bm]<;>rfl
 have fx:ab X bb (aO+1+4)=zx [.str x.text] 1:=by rw[<-fC];simp(disch:=omega) only[aI,bm]<;>rfl
 have ji:ab X bb (aO+1+10)=zx [.Z x.at_] 1:=by rw[<-fC];simp(disch:=omega) only[aI,bm]<;>rfl
 clear fC
 obtain⟨fo,bF,WI,iK,se,ur,gd⟩:=(ej.ad (T:=bb) (λe H=>c4 e (dY e H).2.1)).append (j:=aO+1+16) Zd (j1 bb fx) rfl Zd rfl (by simp;omega) Zo (λe H=>zt (dY e H).2.1)
 refine ki iK ?_
 have fL:ab X bF ho=some (.cells c 4 .own):=by rw[gd _ Zo (λa=>zt (dY _ a).1),c4 _ b6];exact b4
 have t4:ab X bF aO=zx (b9 x) 7:=by rw[gd _ Zo (λa=>zt (dY _ a).2.1)];exact t3
 have oA:ab X bF (aO+1+10)=zx [.Z x.at_] 1:=by rw[gd _ Zo (λa=>zt (dY _ a).2.1)];exact ji
 refine cV (bR fL) @cN ⟨?_⟩
 refine gP sq ?_
 refine cV (bR t4) b9.eq_1 ⟨?_⟩
 refine gP (pR _ _) ?_
 have ane:gI X bF l6 1 (dg.map I7) wc:=fY.ad (λe H=>by
  rw[gd e (zt (e1 e H)) (λa=>(dY e a).2.2 H)]
  exact c4 e (e1 e H).2)
 obtain⟨Tk,bX,O4,aoZ,oN,yn,mm⟩:=ane.append (j:=aO+1+16+1) Zd (arw bF oA) rfl Zd rfl (by simp;omega) Zo (λe H=>zt (e1 e H).2)
 refine ki aoZ ?_
 obtain⟨fA,hx,xj⟩:=kk.one se
 obtain⟨JG,au7,aBl⟩:=kk.one oN
 have l4:ab X bX ho=some (.cells c 4 .own):=by rw[mm _ Zo (λa=>zt (e1 _ a).1)];exact fL
 refine fF (sF l4 Zo Zo fA hx) ?_
 refine cL ⟨?_⟩
 refine fF (sF (bm Zo) Zo Zo JG au7) ?_
 have acF:∀e∈WI,ho<e/\e<aO+1+16+1+1/\e∉O4:=by
  intro e H
  rcases ur e H with rfl|H
  ·refine⟨Zo,Zo,λa=> ?_⟩
   rcases yn _ a with a|a
   ·omega
   ·have:=e1 _ a;omega
  ·obtain⟨bh,cl,a3⟩:=dY e H
   refine⟨Zo,Zo,λa=> ?_⟩
   rcases yn _ a with a|a
   ·omega
   ·exact a3 a
 have acG:∀e∈O4,ho<e/\e<aO+1+16+1+1:=by
  intro e H
  rcases yn e H with rfl|H
  ·omega
  ·have:=e1 e H;omega
 have gM:∀gy,gy=bn X (bn X bX ho (some (.cells (c.set 0 (some fo)) 4 .own))) ho (some (.cells ((c.set 0 (some fo)).set 1 (some Tk)) 4 .own))->∀e,e≠ho->ab X gy e=ab X bX e:=by
  rintro gy rfl e H
  rw[aI Zo H,aI Zo H]
 refine⟨aN,rfl,⟨Zo,Cw,(c.set 0 (some fo)).set 1 (some Tk),fo,Tk,WI,O4,bm Zo, ?_, ?_, ?_, ?_,acF,acG⟩, ?_,Zo,Zo,λb aj bQ=> ?_⟩
 ·rw[V.kc,Zg Zd,V.kc,Zq rfl]
 ·rw[V.kc,Zq rfl]
 ·rw[Yy]
  refine .inl (se.ad λe H=> ?_)
  have:=acF e H
  rw[gM _ rfl e Zo,mm e (by rcases ur e H with rfl|a;omega;have:=dY e a;omega) (λa=> ?_)]
  rcases ur e H with rfl|cy
  ·have:=e1 _ a;omega
  ·exact(dY e cy).2.2 a
 ·rw[Yy]
  exact .inl (oN.ad λe H=>gM _ rfl e (zt (acG e H)))
 ·have hw:∀e,e<ho->ab X bX e=ab X a2 e:=λe H=>by
   rw[mm e Zo (λa=>zt (e1 _ a)),gd e Zo (λa=>zt (dY _ a)),c4 e Zo]
  exact el.ad (by rw[gM _ rfl _ Zo,hw _ apc]) (by rw[gM _ rfl _ Zo,hw _ apd])
 ·rw[gM _ rfl _ Zo,mm b Zo (λa=>zt (e1 _ a)),gd b Zo (λa=>zt (dY _ a)),c4 b Zo]
  exact h2.ad b Zo bQ
end
def xC(X:ck)(h:V an)(P:Nat->Prop)(am:e9)(row:List F):Prop:=∃a6 l6 c0 dL lL,row=[a6,l6, .Z am.at_,lL]/\dO X h P c0 a6 1 (ii am.left)/\dO X h P dL l6 1 (am.dg.map λn=>[I7 n])/\cO X h P am.right lL/\iz row=true
def xC.ad{X:ck}{h T:V an}{P bu:Nat->Prop}{am:e9}{row:List F}(a:xC X h P am row)(B:∀e,P e->ab X T e=ab X h e)(aC:∀e,P e->bu e):xC X T bu am row:=by
 obtain⟨a6,l6,c0,dL,lL,Q,U,ar,aK,bH⟩:=a
 exact⟨a6,l6,c0,dL,lL,Q,(U.ad B).lift aC,(ar.ad B).lift aC,cO.lift aC _ _ (cO.ad B _ _ aK),bH⟩
section
variable{X:ck}{h T a2 aS:V an}{j au aO bg aH bM:Nat}{aX:List Tok}{i:Nat}
def amm(aA:dz X)(eS:vZ X){n:Nat}(r9:n<=200000)(az:io X h j aH bM aX i){r:Except Int (e9×List Tok)}(Z:ue n (aX.drop i)=some r):
 aW X 176 [.ptr aH 0] h j (λae T au=>∃am cB row,r= .ok (am,aX.drop cB)/\ae= .agg row/\xC X T (da j au) am row/\aU X T aH bM aX cB/\ca X [aH] h j T au) (iF X aH h j r):=by
 refine zA aA (ahl X) ?_
 rw[ahm]
 unfold UM
 have gU:=az.a8
 have jY:=az.hm
 have hS:=az.fB
 have jw:=az.g2
 unfold ue at Z
 obtain⟨x,b8,aM,ah⟩:=qD Z
 refine cL ⟨?_⟩
 refine fc (λa2=>ao X a2 (.ptr j 0)=some (.ptr aH 0)/\ab X a2 (j+1)=zx [.aP, .aP, .Z 0, .cz] 4/\tR X a2 (j+2) (j+1+1+1) [] []/\aU X a2 aH bM aX i/\bq X h j a2 (j+1+1+1)) ⟨?_, ?_, ?_, ?_, ?_⟩ ?_
 ·exact bw
 ·simp(disch:=omega) only[aI,bm]<;>rfl
 ·exact⟨Zo,Zo,_, .aP, .aP,[],[],bm Zo,rfl,rfl, .inl (.inl ⟨rfl,rfl,rfl⟩), .inl (.inl ⟨rfl,rfl,rfl⟩),Zs,Zs⟩
 ·exact az.par.ad (zz) (zz)
 ·exact dU
 rintro a2 ⟨fk,qc,hM,el,bU⟩
 have mz:=az.go el (by omega:j<=j+1+1+1)
 refine(nx aA mz aM _).Zm ?_
 rintro D4 aS bg ⟨rfl,dA,du⟩
 have ge:=du.le
 have wz:=(ca.of (X:=[aH]) bU).trans du
 refine rT b9.eq_1 ⟨?_⟩
 refine j3 (λM T aV=>∃(cn:List Tok) (cB:Nat),M.g 1=some (.ptr j 0)/\M.g 2=some (.ptr (j+1) 0)/\M.g 3=some (.ptr (j+2) 0)/\tR X T (j+2) aV (cn.map Tok.text) (cn.map Tok.at_)/\aU X T aH bM aX cB/\j+2<aV/\ca X [aH] h j T aV/\ao X T (.ptr j 0)=some (.ptr aH 0)/\ab X T (j+1)=zx [.aP, .aP, .Z 0, .cz] 4/\cn.length<=300000/\
  (andThen (eH [61] (aX.drop cB)) λJ l=>andThen (arrow n l) λr l=>andThen (eH [59] l) λ_ l=>ok (⟨cn.map Tok.text,cn.map Tok.at_,J.at_,r⟩:e9) l)=some r) (λaa bG=> ?_) ?_
 ·
  have EZ:ao X aS (.ptr j 0)=some (.ptr aH 0):=by rw[du.fT _ _ Zo (by simp;omega)];exact fk
  have ul:ab X aS (j+1)=zx [.aP, .aP, .Z 0, .cz] 4:=by rw[du.ad _ Zo (by simp;omega)];exact qc
  have mo:=hM.ad (T:=aS) (kP:=bg) (λe Q U=>du.ad e U (by simp;omega)) ge
  rcases ah with ⟨aD,Z⟩|⟨aD,Z⟩
  ·rw[aD]at dA ⊢
   simp only[ZD]at dA ⊢
   rw[<-(fI aM).2]at Z
   simp only[]at Z
   refine ci b9.eq_1 ⟨?_⟩
   simp only[YH,Yz]
   refine fc (λbb=>ao X bb (.ptr j 0)=some (.ptr aH 0)/\ab X bb (j+1)=zx [.aP, .aP, .Z 0, .cz] 4/\tR X bb (j+2) (bg+1) [] []/\aU X bb aH bM aX (i+1)/\ca X [aH] h j bb (bg+1)) ⟨?_, ?_, ?_, ?_, ?_⟩ ?_
   ·exact X1 @EZ
   ·simp(disch:=omega) only[aI];exact ul
   ·exact mo.ad (λe Q U=>zz) Zo
   ·exact dA.ad (zz) (zz)
   ·exact⟨Zo,λb aj bQ=>by rw[<-wz.ad b aj bQ];exact zz⟩
   clear EZ ul mo dA wz du bU el hM qc fk mz
   rintro bb ⟨um,s6,mR,gE,ea⟩
   have mW:=az.go gE (by omega:j<=bg+1)
   cases tg:aX.drop (i+1)with
   |nil=>rw[tg]at Z;simp[iy,andThen]at Z
   |cons e e6=>
   rw[tg]at Z
   simp only[iy]at Z
   refine(SK aA mW Zo Zo Zo Zo um mR Zs Zs tg).mono ?_ ?_
   ·rintro D5 bF c7 ⟨gd,rfl,oM,hf,jl,eC⟩
    rw[Zq gd]at Z
    simp only[andThen,ok]at Z
    rw[<-(fI tg).2]at Z
    have Cv:ao X bF (.ptr j 0)=some (.ptr aH 0):=by rw[eC.fT _ _ Zo (by simp;omega)];exact um
    have yb:ab X bF (j+1)=zx [.aP, .aP, .Z 0, .cz] 4:=by rw[eC.ad _ Zo (by simp;omega)];exact s6
    have aam:ca X [aH] h j bF c7:=⟨Zo,λb aj bQ=>by rw[eC.ad b Zo bQ];exact ea.ad b aj bQ⟩
    refine ci @Cv ⟨?_⟩
    refine fc (λbX=>ab X bX c7=zx [.str [44]] 1/\bq X bF c7 bX (c7+1)) ⟨bm Zo,dU⟩ ?_
    rintro bX ⟨ρ,dH⟩
    have oe:=az.go (hf.ex dH Zo Zo) (by omega:j<=c7+1)
    have dC:=aam.trans (ca.of dH)
    have acu:=Z
    cases bJ:eH [44] (aX.drop (i+1+1))with
    |none=>rw[bJ]at Z;cases Z
    |some yU=>
    rw[bJ]at Z
    refine(jq aA oe Zo Zo ρ bJ).mono ?_ ?_
    ·rintro y3 cf eK ⟨tM,hU,rfl,_,hs,ey⟩
     have r8:=ey.le
     simp only[]at Z
     have HU:ao X cf (.ptr j 0)=some (.ptr aH 0):=by rw[ey.fT _ _ Zo (by simp;omega),dH.fT _ _ Zo];exact Cv
     have AG:ab X cf (j+1)=zx [.aP, .aP, .Z 0, .cz] 4:=by rw[ey.ad _ Zo (by simp;omega),dH.ad _ Zo];exact yb
     have IN:=oM.ad (T:=cf) (kP:=eK) (λe Q U=>by rw[ey.ad e Zo (by simp;omega),dH.ad e U]) Zo
     have up:=dC.trans ey
     clear Cv yb oM hf eC aam dC dH ρ oe ey
     refine j3 (λM T aV=>∃(cn:List Tok) (cB:Nat),M.g 1=some (.ptr j 0)/\M.g 2=some (.ptr (j+1) 0)/\M.g 3=some (.ptr (j+2) 0)/\tR X T (j+2) aV (cn.map Tok.text) (cn.map Tok.at_)/\aU X T aH bM aX cB/\j+2<aV/\ca X [aH] h j T aV/\ao X T (.ptr j 0)=some (.ptr aH 0)/\ab X T (j+1)=zx [.aP, .aP, .Z 0, .cz] 4/\cn.length<=300000/\
      (andThen (andThen (eH [41] (aX.drop cB)) λ_ l=>ok cn l) λcn l=>andThen (eH [61] l) λJ l=>andThen (arrow n l) λr l=>andThen (eH [59] l) λ_ l=>ok (⟨cn.map Tok.text,cn.map Tok.at_,J.at_,r⟩:e9) l)=some r) (λyK ap4=> ?_) ?_
     ·refine fU (λm M T aV=>∃(cn:List Tok) (cB:Nat) (b:Bool),M.g 1=some (.ptr j 0)/\M.g 2=some (.ptr (j+1) 0)/\M.g 3=some (.ptr (j+2) 0)/\M.g 4=some (.func (.func 207) [] [.ptr j 0, .ptr (j+2) 0])/\M.g 7=some (.bool b)/\tR X T (j+2) aV (cn.map Tok.text) (cn.map Tok.at_)/\aU X T aH bM aX cB/\j+2<aV/\ca X [aH] h j T aV/\ao X T (.ptr j 0)=some (.ptr aH 0)/\ab X T (j+1)=zx [.aP, .aP, .Z 0, .cz] 4/\cn.length+m<=n+5/\
       (b=true->(andThen (andThen (rf m cn (aX.drop cB)) λcn l=>andThen (eH [41] l) λ_ l=>ok cn l) λcn l=>andThen (eH [61] l) λJ l=>andThen (arrow n l) λr l=>andThen (eH [59] l) λ_ l=>ok (⟨cn.map Tok.text,cn.map Tok.at_,J.at_,r⟩:e9) l)=some r)/\
       (b=false->(andThen (andThen (eH [41] (aX.drop cB)) λ_ l=>ok cn l) λcn l=>andThen (eH [61] l) λJ l=>andThen (arrow n l) λr l=>andThen (eH [59] l) λ_ l=>ok (⟨cn.map Tok.text,cn.map Tok.at_,J.at_,r⟩:e9) l)=some r))
       n ⟨[e],hU,true,bw,bw,bw,bw,bw,IN,hs,Zo,up,HU,AG,by simp;omega,λ_=>Z,λa=>(by cases a)⟩ ?_
      clear HU AG IN hs up Z acu bJ
      rintro m M cx eu ⟨cn,oP,b,t1,ez,t3,t4,g4,C1,hG,Rm,ek,wx,yc,bp,H,kp⟩
      refine rT @g4 ⟨?_⟩
      refine gV ?_
      cases b with
      |false=>
       refine pp ?_
       exact ap4 _ _ _ ⟨cn,oP,bf t1,bf ez,bf t3,C1,hG,Rm,ek,wx,yc,Zo,kp rfl⟩
      |true=>
       have Z:=H rfl
       cases m with
       |zero=>simp[rf,andThen]at Z
       |succ m=>
       unfold rf at Z
       refine pq ?_
       have mX:=az.go hG (by omega:j<=eu)
       refine ci @t4 ⟨?_⟩
       simp only[YH,Yz]
       cases r3:aX.drop oP with
       |nil=>rw[r3]at Z;simp[iy,andThen]at Z
       |cons bt lZ=>
       rw[r3]at Z
       simp only[iy]at Z
       refine(SK aA mX Zo Zo Zo Zo wx C1 (by simp;omega) (by simp;omega) r3).mono ?_ ?_
       ·rintro u8 dx hW ⟨wQ,rfl,Mw,wX,yt,gC⟩
        rw[Zq wQ]at Z
        simp only[andThen,ok]at Z
        rw[<-(fI r3).2]at Z
        have σ:ao X dx (.ptr j 0)=some (.ptr aH 0):=by rw[gC.fT _ _ Zo (by simp;omega)];exact wx
        have Lw:ab X dx (j+1)=zx [.aP, .aP, .Z 0, .cz] 4:=by rw[gC.ad _ Zo (by simp;omega)];exact yc
        have aoo:ca X [aH] h j dx hW:=⟨Zo,λb aj bQ=>by rw[gC.ad b Zo bQ];exact ek.ad b aj bQ⟩
        have sw:=az.go wX (by omega:j<=hW)
        refine cV @t1 @σ ⟨?_⟩
        cases q4:aX.drop (oP+1)with
        |nil=>rw[q4]at Z;simp[h7,lM]at Z
        |cons w n3=>
        refine(nx aA sw q4 [44]).Zm ?_
        rintro TN ei i7 ⟨rfl,mn,ha⟩
        have tj:=ha.le
        rw[q4]at Z
        have yd:ao X ei (.ptr j 0)=some (.ptr aH 0):=by rw[ha.fT _ _ Zo (by simp;omega)];exact σ
        have wv:ab X ei (j+1)=zx [.aP, .aP, .Z 0, .cz] 4:=by rw[ha.ad _ Zo (by simp;omega)];exact Lw
        have RE:=Mw.ad (T:=ei) (kP:=i7) (λe Q U=>ha.ad e U (by simp;omega)) tj
        have AK:=aoo.trans ha
        refine cL ⟨?_⟩
        refine⟨m,Zo,cn++[bt],_,g3 w [44],bf t1,bf ez,bf t3,bf t4,bw,by simpa using RE,mn,Zo,AK,yd,wv,by simp;omega,λa=> ?_,λa=> ?_⟩
        ·simp only[h7,lM,a,ZD]at Z ⊢
         rw[(fI q4).2]
         exact Z
        ·simp only[h7,lM,a,Zw,ZA]at Z ⊢
         rw[q4]
         exact Z
       ·rintro u8 dx hW ⟨wQ,rfl,gC⟩
        rw[Zg wQ]at Z
        simp only[andThen,bad,Zf]at Z
        subst Z
        exact⟨_,rfl,rfl,ek.trans gC⟩
     ·clear HU AG IN hs up Z acu bJ
      rintro M cx eu ⟨cn,oP,t1,ez,t3,C1,hG,Rm,ek,wx,yc,bp,Z⟩
      refine cV @t1 @wx ⟨?_⟩
      refine fc (λdx=>ab X dx eu=zx [.str [41]] 1/\bq X cx eu dx (eu+1)) ⟨bm Zo,dU⟩ ?_
      rintro dx ⟨Cu,g9⟩
      have sw:=az.go (hG.ex g9 Zo Zo) (by omega:j<=eu+1)
      have gC:=ek.trans (ca.of g9)
      cases bJ:eH [41] (aX.drop oP)with
      |none=>rw[bJ]at Z;cases Z
      |some yU=>
      rw[bJ]at Z
      refine(jq aA sw Zo Zo Cu bJ).mono ?_ ?_
      ·rintro v9 ei i7 ⟨tN,i9,rfl,_,mn,ha⟩
       have tj:=ha.le
       simp only[andThen,ok]at Z
       have yd:ao X ei (.ptr j 0)=some (.ptr aH 0):=by rw[ha.fT _ _ Zo (by simp;omega),g9.fT _ _ Zo];exact wx
       have wv:ab X ei (j+1)=zx [.aP, .aP, .Z 0, .cz] 4:=by rw[ha.ad _ Zo (by simp;omega),g9.ad _ Zo];exact yc
       have RE:=C1.ad (T:=ei) (kP:=i7) (λe Q U=>by rw[ha.ad e Zo (by simp;omega),g9.ad e U]) Zo
       exact bG _ _ _ ⟨cn,i9,t1,ez,t3,RE,mn,Zo,gC.trans ha,yd,wv,bp,Z⟩
      ·rintro v9 ei i7 ⟨K,rfl,rfl,ha⟩
       simp only[andThen,Zf]at Z
       subst Z
       exact⟨K,rfl,rfl,gC.trans ha⟩
    ·rintro y3 cf eK ⟨K,rfl,rfl,ey⟩
     simp only[Zf]at Z
     subst Z
     exact⟨K,rfl,rfl,dC.trans ey⟩
   ·rintro D5 bF c7 ⟨gd,rfl,eC⟩
    rw[Zg gd]at Z
    simp only[andThen,bad,Zf]at Z
    subst Z
    exact⟨_,rfl,rfl,ea.trans eC⟩
  ·rw[aD]at dA ⊢
   simp only[Zw,ZA]at dA ⊢
   simp only[]at Z
   refine cV b9.eq_1 g5.eq_1 ⟨?_⟩
   simp only[YH,Yz]
   refine fc (λbb=>ao X bb (.ptr j 0)=some (.ptr aH 0)/\ab X bb (j+1)=zx [.aP, .aP, .Z 0, .cz] 4/\tR X bb (j+2) (bg+1) [] []/\aU X bb aH bM aX i/\ca X [aH] h j bb (bg+1)) ⟨?_, ?_, ?_, ?_, ?_⟩ ?_
   ·exact X1 @EZ
   ·simp(disch:=omega) only[aI];exact ul
   ·exact mo.ad (λe Q U=>zz) Zo
   ·exact dA.ad (zz) (zz)
   ·exact⟨Zo,λb aj bQ=>by rw[<-wz.ad b aj bQ];exact zz⟩
   clear EZ ul mo dA wz du bU el hM qc fk mz
   rintro bb ⟨um,s6,mR,gE,ea⟩
   have mW:=az.go gE (by omega:j<=bg+1)
   rw[aM]at Z
   simp only[iy]at Z
   refine(SK aA mW Zo Zo Zo Zo um mR Zs Zs aM).mono ?_ ?_
   ·rintro D5 bF c7 ⟨gd,rfl,oM,hf,jl,eC⟩
    rw[Zq gd]at Z
    simp only[andThen,ok]at Z
    rw[<-(fI aM).2]at Z
    have Cv:ao X bF (.ptr j 0)=some (.ptr aH 0):=by rw[eC.fT _ _ Zo (by simp;omega)];exact um
    have yb:ab X bF (j+1)=zx [.aP, .aP, .Z 0, .cz] 4:=by rw[eC.ad _ Zo (by simp;omega)];exact s6
    exact bG _ _ _ ⟨[x],i+1,bw,bw,bw,oM,hf,Zo,⟨Zo,λb aj bQ=>by rw[eC.ad b Zo bQ];exact ea.ad b aj bQ⟩,Cv,yb,Zs,Z⟩
   ·rintro D5 bF c7 ⟨gd,rfl,eC⟩
    rw[Zg gd]at Z
    simp only[andThen,bad,Zf]at Z
    subst Z
    exact⟨_,rfl,rfl,ea.trans eC⟩
 ·clear ah Z dA wz du bU el hM qc fk mz aM
  rintro M bb bs ⟨cn,i3,t1,ez,t3,mR,gE,aAl,ea,um,s6,bp,Z⟩
  refine cV @t1 @um ⟨?_⟩
  refine fc (λbF=>ab X bF bs=zx [.str [61]] 1/\bq X bb bs bF (bs+1)) ⟨bm Zo,dU⟩ ?_
  rintro bF ⟨Cs,dv⟩
  have ky:=az.go (gE.ex dv Zo Zo) (by omega:j<=bs+1)
  have eC:=ea.trans (ca.of dv)
  rcases gq Z with ⟨K,bH,rfl⟩|⟨J,gF,bH,Z⟩
  ·exact(jq aA ky Zo Zo Cs bH).mono (λae T au a=>by obtain⟨J,cB,a,_⟩:=a;cases a) (λae T au a=>a.of eC (λ_ a=>by cases a;rfl))
  refine(jq aA ky Zo Zo Cs bH).mono ?_ (λae T au a=>by obtain⟨K,a,_⟩:=a;cases a)
  rintro v5 bX b2 ⟨ia,i5,r4,rfl,hg,dC⟩
  cases r4
  have h5:=dC.le
  have Ly:ao X bX (.ptr j 0)=some (.ptr aH 0):=by rw[dC.fT _ _ Zo (by simp;omega),dv.fT _ _ Zo];exact um
  have EX:ab X bX (j+1)=zx [.aP, .aP, .Z 0, .cz] 4:=by rw[dC.ad _ Zo (by simp;omega),dv.ad _ Zo];exact s6
  have q7:=mR.ad (T:=bX) (kP:=b2) (λe Q U=>by rw[dC.ad e Zo (by simp;omega),dv.ad e U]) Zo
  have yg:=eC.trans dC
  obtain⟨b6,Cw,c,a6,l6,Ey,wc,b4,b7,cN,ej,fY,dY,e1⟩:=q7
  clear mR gE ea um s6 dv Cs ky eC dC
  refine cV @t3 b9.eq_1 ⟨?_⟩
  have acJ:∀e,e≠j+2->ab X (bn X bX (j+2) (some (.cells (dQ c 2 (F.Z J.at_).cells) 4 .own))) e=ab X bX e:=λe H=>aI Zo H
  refine cV @t1 @Ly ⟨?_⟩
  refine fc (λcf=>ab X cf (j+2)=some (.cells (c.set 2 (some (.Z J.at_))) 4 .own)/\∀e,e≠j+2->ab X cf e=ab X bX e) ⟨(bm Zo).trans (by simp only[F.cells,qI]),acJ⟩ ?_
  clear acJ
  rintro cf ⟨BF,dK⟩
  have hs:aU X cf aH bM aX i5:=hg.ad (dK _ Zo) (dK _ Zo)
  have ey:ca X [aH] h j cf b2:=⟨yg.le,λb aj bQ=>by rw[dK b Zo];exact yg.ad b aj bQ⟩
  rcases gq Z with ⟨K,dM,rfl⟩|⟨PA,lZ,dM,Z⟩
  ·exact((Wr aA eS n Zo).arrow cf _ _ _ (az.go hs Zo) dM).mono (λae T au a=>by obtain⟨J,cB,a,_⟩:=a;cases a) (λae T au a=>a.of ey (λ_ a=>by cases a;rfl))
  refine((Wr aA eS n Zo).arrow cf _ _ _ (az.go hs Zo) dM).mono ?_ (λae T au a=>by obtain⟨K,a,_⟩:=a;cases a)
  rintro Kc cx eu ⟨Xt,oP,yq,fa,hG,ek⟩
  cases yq
  have nn:=ek.le
  obtain⟨qH,rfl,aAS,_⟩:=fa.ptr
  have vq:ab X cx (j+2)=some (.cells (c.set 2 (some (.Z J.at_))) 4 .own):=by rw[ek.ad _ Zo (by simp;omega)];exact BF
  have wx:ao X cx (.ptr j 0)=some (.ptr aH 0):=by rw[ek.fT _ _ Zo (by simp;omega),cJ,dK _ Zo, <-cJ];exact Ly
  have gM:∀e,j<=e->e<b2->e≠j+2->ab X cx e=ab X bX e:=λe Q U ar=>by rw[ek.ad e U (by simp;omega),dK e ar]
  refine ci @t3 ⟨?_⟩
  refine cV @t1 @wx ⟨?_⟩
  refine fc (λdx=>ab X dx eu=zx [.str [59]] 1/\ab X dx (j+2)=some (.cells ((c.set 2 (some (.Z J.at_))).set 3 (some (.ptr qH 0))) 4 .own)/\∀e,e<eu->e≠j+2->ab X dx e=ab X cx e) ⟨bm Zo, ?_, ?_⟩ ?_
  ·rw[aI Zo Zo,bm Zo];simp only[F.cells,qI]
  ·intro e Q U
   rw[aI Zo Zo,aI Zo U]
  rintro dx ⟨Cu,NI,hw⟩
  have wX:aU X dx aH bM aX oP:=hG.ad (hw _ Zo Zo) (hw _ Zo Zo)
  have gC:ca X [aH] h j dx (eu+1):=⟨Zo,λb aj bQ=>by rw[hw b Zo Zo];exact(ey.trans ek).ad b aj bQ⟩
  rcases gq Z with ⟨K,jW,rfl⟩|⟨tN,sm,jW,Z⟩
  ·exact(jq aA (az.go wX Zo) Zo Zo Cu jW).mono (λae T au a=>by obtain⟨J,cB,a,_⟩:=a;cases a) (λae T au a=>a.of gC (λ_ a=>by cases a;rfl))
  refine(jq aA (az.go wX Zo) Zo Zo Cu jW).mono ?_ (λae T au a=>by obtain⟨K,a,_⟩:=a;cases a)
  rintro v9 ei i7 ⟨aBO,i9,apy,_,mn,ha⟩
  cases apy
  have tj:=ha.le
  simp only[ok,Zf]at Z
  subst Z
  have JN:ab X ei (j+2)=some (.cells ((c.set 2 (some (.Z J.at_))).set 3 (some (.ptr qH 0))) 4 .own):=by rw[ha.ad _ Zo (by simp;omega)];exact NI
  have hl:∀e,j<=e->e<eu->e≠j+2->ab X ei e=ab X cx e:=λe Q U ar=>by rw[ha.ad e Zo (by simp;omega),hw e U ar]
  have wv:ab X ei (j+1)=zx [.aP, .aP, .Z 0, .cz] 4:=by rw[hl _ Zo Zo Zo,gM _ Zo Zo Zo];exact EX
  have d7:((c.set 2 (some (F.Z J.at_))).set 3 (some (.ptr qH 0))).get 0=some a6:=by rw[V.kc,Zg Zd,V.kc,Zg Zd];exact b7
  have dt:((c.set 2 (some (F.Z J.at_))).set 3 (some (.ptr qH 0))).get 1=some l6:=by rw[V.kc,Zg Zd,V.kc,Zg Zd];exact cN
  have dG:((c.set 2 (some (F.Z J.at_))).set 3 (some (.ptr qH 0))).get 2=some (.Z J.at_):=by rw[V.kc,Zg Zd,V.kc,Zq rfl]
  have hd:((c.set 2 (some (F.Z J.at_))).set 3 (some (.ptr qH 0))).get 3=some (.ptr qH 0):=by rw[V.kc,Zq rfl]
  generalize ((c.set 2 (some (F.Z J.at_))).set 3 (some (.ptr qH 0)))=f0 at JN d7 dt dG hd
  obtain⟨gN,my,rn⟩:=gI.one ej
  obtain⟨Gl,Bs,sq⟩:=gI.one fY
  have aC:cg X ei 4 (.ptr (j+2) 0)=some (.agg [a6,l6, .Z J.at_, .ptr qH 0]):=by
   rw[tu];simp[bR JN,d7,dt,dG,hd]
  refine er @t3 @aC @ez ⟨?_⟩
  refine fF (h6 (B:=4) wv Zo rfl Zd Zd (by simp[F.cells,iz,my,Bs,show oc (.Z J.at_)=true from rfl,show oc (.ptr qH 0)=true from rfl])) ?_
  refine ci @ez ⟨?_⟩
  have Dl:∀e,e≠j+1->∀cT,ab X (bn X ei (j+1) cT) e=ab X ei e:=λe H cT=>aI Zo H
  have nQ:∀e,j+2<e->e<b2->∀cT,ab X (bn X ei (j+1) cT) e=ab X bX e:=λe Q U cT=>by rw[Dl e Zo,hl e Zo Zo Zo,gM e Zo U Zo]
  obtain⟨c0,abV⟩:=(ej.ad (T:=bn X ei (j+1) (some (.cells (dQ (V.ofList [.aP, .aP, .Z 0, .cz] 0 .nil) 0 [a6,l6, .Z J.at_, .ptr qH 0]) 4 .own))) (λe H=>nQ e (dY e H).1 (dY e H).2.1 _)).JS (P:=da j i7) (by simp;omega) (λe H=>by have:=dY e H;exact⟨Zo,Zo⟩)
  obtain⟨dL,C3⟩:=(fY.ad (T:=bn X ei (j+1) (some (.cells (dQ (V.ofList [.aP, .aP, .Z 0, .cz] 0 .nil) 0 [a6,l6, .Z J.at_, .ptr qH 0]) 4 .own))) (λe H=>nQ e (e1 e H).1 (e1 e H).2 _)).JS (P:=da j i7) (by simp;omega) (λe H=>by have:=e1 e H;exact⟨Zo,Zo⟩)
  refine⟨_,i9,[a6,l6, .Z J.at_, .ptr qH 0],rfl,rfl,⟨a6,l6,c0,dL, .ptr qH 0,rfl, ?_, ?_, ?_,by simp[iz,my,Bs,show oc (.Z J.at_)=true from rfl,show oc (.ptr qH 0)=true from rfl]⟩, ?_, ?_⟩
  ·rw[YK]at abV;exact abV
  ·rw[YK]at C3;exact C3
  ·refine cO.lift (λe H=>⟨zt H.1,zt H.2⟩) _ _ (cO.ad (λe H=> ?_) _ _ fa)
   have Q:=H.1
   show ab X (bn X ei (j+1) _) e=_
   rw[Dl e Zo,hl e Zo H.2 Zo]
  ·exact mn.ad (Dl _ Zo _) (Dl _ Zo _)
  ·exact⟨Zo,λb aj bQ=>by rw[Dl b Zo];exact(gC.trans ha).ad b aj bQ⟩
end
end
end Go.Proofs.YtpfajohmofnkfaaGreatDoor

