/- Part of the proof of the last text; no conditions -/
import Derived.Test.YtpeabpmnlmaabaaGreatDoorYg
set_option maxHeartbeats 8000000
set_option linter.all false
namespace Go.Proofs.YtpeabpmnlmaabaaGreatDoor
open Go.ba Go.aQ
noncomputable section
section
variable{X:ch}{h S' aK aJ:R af}{j am aM aR aG bQ:Nat}{aU:List Tok}{i:Nat}
def axK(au:di X)(d7:wK X){n:Nat}(ai:∀m,m<n->rU X aG bQ aU m):∀h j i (y:Nat) r,y<=5->i6 X h j aG bQ aU i->Go.aQ.level n y (aU.drop i)=some r->aW X 133 [.ptr aG 0, .Z (y:Int)] h j (ka X aG bQ aU h j r) (jm X aG h j r):=by
 intro h j i y r aH aw Y
 cases n with
 |zero=>simp[Go.aQ.level]at Y
 |succ n=>
 refine zx au (akS X) ?_
 rw[akT]
 unfold γ
 have g6:=aw.a6
 have ky:=aw.hK
 have ir:=aw.b7
 have j2:=aw.hg
 unfold Go.aQ.level at Y
 by_cases nd:y=5
 ·subst nd
  rw[Zp rfl]at Y
  have c1:decide (((5:Nat):Int)=5)=true:=rfl
  refine ce @c1 ⟨?_⟩
  exact(ai n Zo).shift h j i r aw Y
 ·rw[Zh nd]at Y
  have c1:decide ((y:Int)=5)=false:=by simp;omega
  have bD:=zv y
  refine cL @c1 @bD ⟨?_⟩
  rcases gK Y with ⟨F,J,rfl⟩|⟨left,c7,J,Y⟩
  ·exact((ai n Zo).level h j i (y+1) _ Zo aw J).mono (λac S' am a=>by obtain⟨E,cA,a,_⟩:=a;cases a) (λac S' am a=>a)
  refine((ai n Zo).level h j i (y+1) _ Zo aw J).mono ?_ (λac S' am a=>by obtain⟨F,a,_⟩:=a;cases a)
  rintro wD aK aM ⟨E,hA,bz,bH,eo,iC⟩
  cases bz
  have jG:=iC.le
  refine gk ?_
  refine fp (λm H S' aP=>∃left v cA,m<=n/\H.g 0=some (.ptr aG 0)/\H.g 1=some (.Z (y:Int))/\H.g 5=some v/\cE X S' (dx j aP) left v/\aQ X S' aG bQ aU cA/\cg X [aG] h j S' aP/\nM m y left (aU.drop cA)=some r)
   n ⟨left,wD,hA,Zj _,be,be,be,bH,eo,iC,Y⟩ ?_
  clear bH eo iC J Y
  rintro m H aJ aR ⟨left,v,gB,bo,t0,t1,t5,bC,dD,du,Y⟩
  cases m with
  |zero=>simp[nM]at Y
  |succ m=>
  unfold nM at Y
  have fC:=du.le
  have f0:=aw.go dD fC
  refine gk ?_
  refine cL @t0 @t1 ⟨?_⟩
  cases ag:nE (aq y) (aU.drop gB)with
  |none=>rw[ag]at Y;cases Y
  |some Mq=>
  rw[ag]at Y
  refine(ao3 au d7 Zo f0 ag).Zm ?_
  rintro wE a1 bn ⟨i3,uM,gV,eg,bc⟩
  have jf:=eg.le
  obtain⟨ro,aFC⟩:=Mq
  simp only[]at uM
  subst uM
  cases ro with
  |none=>
   simp only[]at bc Y
   subst bc
   simp only[ok,Zf]at Y
   subst Y
   refine ce @t5 ⟨?_⟩
   exact⟨left,i3,rfl,cE.fr bC eg Zo Zo (Zj _) Zo,gV,du.trans eg⟩
  |some E=>
   simp only[]at bc Y
   obtain⟨b,eV,F,rfl,rfl,o4,lX,cM⟩:=bc
   refine fW @t0 @t1 @t5 @bD ⟨?_⟩
   rcases gK Y with ⟨fu,ay,rfl⟩|⟨right,f6,ay,Y⟩
   ·refine((ai m Zo).level a1 bn i3 (y+1) _ Zo (f0.go gV jf) ay).mono (λac S' am a=>by obtain⟨E,cA,a,_⟩:=a;cases a) (λac S' am a=>a.of (du.trans eg) (λ_ a=>a))
   refine((ai m Zo).level a1 bn i3 (y+1) _ Zo (f0.go gV jf) ay).mono ?_ (λac S' am a=>by obtain⟨F,a,_⟩:=a;cases a)
   rintro v4 bA cv ⟨ke,i4,uN,cW,hy,eG⟩
   cases uN
   have iG:=eG.le
   have dF:U X bA b=zu (ho eV F [] false dQ 0 .aT) 9:=by rw[eG.aa _ Zo Zx];exact cM
   obtain⟨cB,rfl,mK,_⟩:=bC.ptr
   obtain⟨fQ,rfl,rt,_⟩:=cW.ptr
   refine ed @t5 @dF @t1 ⟨?_⟩
   have fin:∀gP,gP=bi X (bi X bA cv (zu [.ptr cB 0, .ptr fQ 0] 2)) b (zu (ho eV F [] false dQ 0 (.slice cv 0 2 2)) 9)->cE X gP (dx j (cv+1)) (two (.mk eV F [] false dQ 0 []) left right) (.ptr b 0)/\aQ X gP aG bQ aU i4/\cg X [aG] h j gP (cv+1):=by
    rintro gP rfl
    refine⟨cE.lit (jx:= .own) (cO:=cv) (br:=[.ptr cB 0, .ptr fQ 0]) (bb Zo) ⟨Zo,Zo⟩ ?_ ⟨Zo,Zo⟩ rfl Zo Zo (dz.two (cE.aa (λe B=> ?_) _ _ bC) (cE.aa (λe B=> ?_) _ _ cW) (λe B=> ?_) (λe B=> ?_)), ?_, ?_⟩
    ·simp(disch:=omega) only[aC,bb]
    ·have J:=B.1;have Q:=B.2
     simp(disch:=omega) only[aC]
     rw[eG.aa e Zo Zx,eg.aa e Zo Zx]
    ·have J:=B.1;have Q:=B.2
     simp(disch:=omega) only[aC]
    ·simp only[dx]at B ⊢;omega
    ·simp only[dx]at B ⊢;omega
    ·exact hy.aa (zw) (zw)
    ·exact⟨Zo,λe B bU=>by
      rw[<-((du.trans eg).trans eG).aa e B bU]
      simp(disch:=omega) only[aC]⟩
   obtain⟨eQ,fd,kw⟩:=fin (bi X (bi X bA cv (zu [.ptr cB 0, .ptr fQ 0] 2)) b (some (.cells (dT (R.ofList (ho eV F [] false dQ 0 .aT) 0 .nil) 8 (D.slice cv 0 2 2).cells) 9 .own))) rfl
   refine Bu (λQ=> ?_) (λQ=> ?_)
   ·have iR:y=2:=Zo
    rw[Zp iR]at Y
    simp only[ok,Zf]at Y
    subst Y
    exact⟨_,i4,rfl,eQ,fd,kw⟩
   ·rw[Zh Zo]at Y
    exact⟨m,Zo,_, .ptr b 0,i4,Zo,aZ t0,aZ t1,be,eQ,fd,kw,Y⟩
end
section
variable{X:ch}{h S' aK aJ:R af}{j am aM aR aG bQ:Nat}{aU:List Tok}{i:Nat}
def aBo(au:di X){n:Nat}(ai:∀m,m<n->rU X aG bQ aU m):∀h j i r,i6 X h j aG bQ aU i->Go.aQ.shift n (aU.drop i)=some r->aW X 140 [.ptr aG 0] h j (ka X aG bQ aU h j r) (jm X aG h j r):=by
 intro h j i r aw Y
 cases n with
 |zero=>simp[Go.aQ.shift]at Y
 |succ n=>
 refine zx au (ak6 X) ?_
 rw[ak7]
 unfold κ
 have g6:=aw.a6
 have ky:=aw.hK
 have ir:=aw.b7
 have j2:=aw.hg
 unfold Go.aQ.shift at Y
 rcases gK Y with ⟨F,J,rfl⟩|⟨left,c7,J,Y⟩
 ·exact((ai n Zo).u2 h j i _ aw J).mono (λac S' am a=>by obtain⟨E,cA,a,_⟩:=a;cases a) (λac S' am a=>a)
 refine((ai n Zo).u2 h j i _ aw J).mono ?_ (λac S' am a=>by obtain⟨F,a,_⟩:=a;cases a)
 rintro wD aK aM ⟨E,hA,bz,bH,eo,iC⟩
 cases bz
 have jG:=iC.le
 refine gk ?_
 refine fp (λm H S' aP=>∃left v cA,H.g 0=some (.ptr aG 0)/\H.g 3=some v/\cE X S' (dx j aP) left v/\aQ X S' aG bQ aU cA/\cg X [aG] h j S' aP/\nZ m left (aU.drop cA)=some r)
  n ⟨left,wD,hA,be,be,bH,eo,iC,Y⟩ ?_
 clear bH eo iC J Y jG
 rintro m H aJ aR ⟨left,v,gB,t0,t3,bC,dD,du,Y⟩
 cases m with
 |zero=>simp[nZ]at Y
 |succ m=>
 unfold nZ at Y
 have fC:=du.le
 have f0:=aw.go dD fC
 refine gk ?_
 obtain⟨cB,rfl,mK,_⟩:=bC.ptr
 have mK:=mK.2
 refine ce @t0 ⟨?_⟩
 obtain⟨x,bM,aE,ae⟩:=rM Y
 refine(oF au f0 aE _).Zm ?_
 rintro wE a1 bn ⟨rfl,gV,eg⟩
 have jf:=eg.le
 have qy:=aE
 refine o1 cd.eq_1 ⟨?_⟩
 refine jW (λc3 S' aP=>∃LG eV x cA dX,c3.g 0=some (.ptr aG 0)/\c3.g 3=some (.ptr cB 0)/\c3.g 4=some (.Z eV)/\c3.g 5=some (.ptr dX 0)/\c3.g 6=some (.bool LG)/\U X S' dX=zu (cd x) 7/\aR<=dX/\dX<aP/\cE X S' (dx j aR) left (.ptr cB 0)/\aQ X S' aG bQ aU cA/\cg X [aG] h j S' aP/\aR<=aP/\
  (LG=true->n0 m eV x left (aU.drop cA)=some r)/\(LG=false->r= .ok (left,aU.drop cA))) (λT bJ=> ?_) ?_
 ·have cM:∀h,U X (bi X (bi X h bn (zu (cd hi) 7)) bn (some (.cells (dT (R.ofList (cd hi) 0 .nil) 0 (cd x)) 7 .own))) bn=zu (cd x) 7:=λh=>bb Zo
  rcases ae with ⟨aD,Y⟩|⟨aD,Y⟩
  ·rw[aD]at gV ⊢
   simp only[ZE]at gV ⊢
   refine cI ⟨?_⟩
   refine bJ _ _ _ ⟨true,19,x,gB+1,bn,aZ t0,aZ t3,be,be,be,bb Zo,Zo,Zo, ?_,gV.aa (zw) (zw), ?_,Zo,λ_=>by rw[(fU qy).2];exact Y,λa=>by cases a⟩
   ·refine cE.ex bC (λe J Q=> ?_) (Zj _) (Zj _)
    simp(disch:=omega) only[aC]
    exact eg.aa e Zo Zx
   ·exact⟨Zo,λe B bU=>by rw[<-(du.trans eg).aa e B bU];exact zw⟩
  ·rw[aD]at gV ⊢
   simp only[Zy,ZC]at gV ⊢
   simp only[]at Y
   refine ce @t0 ⟨?_⟩
   refine eL (λbA=>bf X a1 bn bA (bn+1)/\U X bA bn=zu (cd hi) 7) ⟨dA,bb Zo⟩ ?_
   rintro bA ⟨cW,dF⟩
   have lg:=f0.go (gV.ex cW Zo Zo) (by omega:aR<=bn+1)
   obtain⟨e,fZ,pN,awa⟩:=rM Y
   refine(oF au lg pN _).Zm ?_
   rintro va bN cf ⟨rfl,hz,dG⟩
   have iH:=dG.le
   have fj:U X bN bn=zu (cd hi) 7:=by rw[dG.aa _ Zo Zx];exact dF
   have ev:∀e,e<aR->e≠aG->U X bN e=U X aJ e:=λe J Q=>by
    rw[dG.aa e Zo (by simpa using Q),cW.aa e Zo,eg.aa e Zo (by simpa using Q)]
   have eC:=((du.trans eg).trans (cg.of cW)).trans dG
   unfold cd hi dQ at fj
   rcases awa with ⟨Ey,Y⟩|⟨Ey,Y⟩
   ·rw[Ey]at hz ⊢
    simp only[ZE]at hz ⊢
    refine cL cd.eq_1 @fj ⟨?_⟩
    refine bJ _ _ _ ⟨true,20,e,gB+1,bn,aZ t0,aZ t3,be,be,be,bb Zo,Zo,Zo, ?_,hz.aa (zw) (zw), ?_,Zo,λ_=>by rw[(fU pN).2];exact Y,λa=>by cases a⟩
    ·refine cE.ex bC (λe J Q=> ?_) (Zj _) (Zj _)
     simp(disch:=omega) only[aC]
     exact ev e Q Zo
    ·exact⟨Zo,λe B bU=>by rw[<-eC.aa e B bU];exact zw⟩
   ·rw[Ey]at hz ⊢
    simp only[Zy,ZC]at hz ⊢
    simp only[ok,Zf]at Y
    refine fW cd.eq_1 hi.eq_1 dQ.eq_1 @fj ⟨?_⟩
    refine bJ _ _ _ ⟨false,20,hi,gB,bn,aZ t0,aZ t3,be,be,be,bb Zo,Zo,Zo, ?_,hz.aa (zw) (zw), ?_,Zo,λa=>(by cases a),λ_=>Y.symm⟩
    ·refine cE.ex bC (λe J Q=> ?_) (Zj _) (Zj _)
     simp(disch:=omega) only[aC]
     exact ev e Q Zo
    ·exact⟨Zo,λe B bU=>by rw[<-eC.aa e B bU];exact zw⟩
 ·clear bC gV eg ae Y aE qy dD f0
  rintro aDs bY dv ⟨LG,eV,x,hU,dX,t0,t3,t4,t5,t6,d0,aEG,aEH,ej,hT,eC,o7,B,k7⟩
  cases LG with
  |false=>
   have Y:=k7 rfl
   subst Y
   refine cL @t6 @t3 ⟨?_⟩
   exact⟨left,hU,rfl,cE.lift (λe B=>⟨B.1,zq B.2⟩) _ _ ej,hT,eC⟩
  |true=>
   have Y:=B rfl
   cases m with
   |zero=>simp[n0]at Y
   |succ m=>
   unfold n0 at Y
   have mT:=aw.go hT (by omega:j<=dv)
   refine cL @t6 @t0 ⟨?_⟩
   cases aE:aU.drop hU with
   |nil=>rw[aE]at Y;simp[iI,andThen]at Y
   |cons e k=>
   rw[aE]at Y
   simp only[iI]at Y
   refine(CO au mT.a6 mT.par mT.b7 mT.hK mT.hg mT.many (fU aE).1 4).mono ?_ ?_
   ·rintro C6 cn d8 ⟨aH,rfl,h5,en⟩
    have ng:=en.le
    rw[Zp aH]at Y
    simp only[andThen,ok]at Y
    have ek:U X cn dX=zu (cd x) 7:=by rw[en.aa _ Zo Zx];exact d0
    have eA:=cE.ex (S':=cn) ej (λe J Q=>en.aa e Zo Zx) (Zj _) (Zj _)
    have se:=eC.trans en
    refine o1 cd.eq_1 ⟨?_⟩
    refine gk ?_
    refine Bu (λT4=> ?_) (λT4=> ?_)
    ·rw[Zp T4]at Y
     simp only[bad,Zf]at Y
     subst Y
     refine ce cd.eq_1 ⟨?_⟩
     refine(J7 au Zo e _ ?_).mono (λ_ _ _ a=>a.elim) (λ_ _ _ a=>a)
     intro S' am bT
     exact⟨_,rfl,rfl,se.trans (cg.of (bf.trans dA bT))⟩
    ·rw[Zh T4]at Y
     refine gb cd.eq_1 @t4 @t5 @t3 (bp ek) ⟨?_⟩
     refine⟨m,Zo,_, .ptr (d8+1+1) 0,hU+1,aZ t0,be,cE.lit (y:=1) (cap:=1) (n:=e.n) (kind:=eV) (at_:=x.at_) (name:=[]) (no:=false) (ty:=dQ) (b:=d8+1+1) (jx:= .own) (cO:=d8+1) (br:=[.ptr cB 0]) (bb (b:=d8+1+1) Zo) ⟨Zo,Zo⟩ ?_ ⟨Zo,Zo⟩ rfl Zo Zo (dz.one (cE.aa (λe B=> ?_) _ _ eA) (λe B=> ?_)), ?_, ?_,by rw[(fU aE).2];exact Y⟩
     ·simp(disch:=omega) only[aC,bb]<;>rfl
     ·have J:=B.1;have Q:=B.2
      simp(disch:=omega) only[aC]
     ·simp only[dx]at B ⊢;omega
     ·exact h5.aa (zw) (zw)
     ·exact⟨Zo,λe B bU=>by
       rw[<-se.aa e B bU]
       simp(disch:=omega) only[aC]⟩
   ·rintro C6 cn d8 ⟨aH,rfl,en⟩
    rw[Zh aH]at Y
    simp only[andThen,bad,Zf]at Y
    subst Y
    exact⟨_,rfl,rfl,eC.trans en⟩
end
section
variable{X:ch}{h S' aK aJ:R af}{j am aM aR aG bQ:Nat}{aU:List Tok}{i:Nat}
def awD{n bs T:Nat}{cs:List D}(y:IntKind)(a:T<n):uY true n bs (.agg cs) (.int y (T:Int))=some (.agg ((cs.drop (T*bs)).take bs)):=by
 simp[uY,sz,fF,a]
def Wz:List D:=[.str [110,111,116], .Z 3, .str [45], .Z 4, .str [112,114,101], .Z 5]
def azW{T:Nat}(a:T<3):∃s y,AM.drop T=(s,y)::AM.drop (T+1)/\(Wz.drop (T*2)).take 2=[.str s, .Z y]:=by
 match T,a with
 |0,_=>exact⟨_,_,rfl,rfl⟩
 |1,_=>exact⟨_,_,rfl,rfl⟩
 |2,_=>exact⟨_,_,rfl,rfl⟩
def az5(au:di X){n:Nat}(ai:∀m,m<n->rU X aG bQ aU m):∀h j i r,i6 X h j aG bQ aU i->Go.aQ.tV n (aU.drop i)=some r->aW X 147 [.ptr aG 0] h j (ka X aG bQ aU h j r) (jm X aG h j r):=by
 intro h j i r aw Y
 cases n with
 |zero=>simp[Go.aQ.tV]at Y
 |succ n=>
 refine zx au (ale X) ?_
 rw[alf]
 unfold ο
 have g6:=aw.a6
 have ky:=aw.hK
 have ir:=aw.b7
 have j2:=aw.hg
 unfold Go.aQ.tV at Y
 cases ag:nE AM (aU.drop i)with
 |none=>rw[ag]at Y;cases Y
 |some Mq=>
 rw[ag]at Y
 refine pI ⟨?_⟩
 refine jW (λH S' aP=>H.g 0=some (.ptr aG 0)/\aQ X S' aG bQ aU i/\cg X [aG] h j S' aP/\Mq=(none,aU.drop i)) (λT bJ=> ?_) ?_
 ·refine fp (λm H S' aP=>∃T,m=3-T/\T<=3/\H.g 0=some (.ptr aG 0)/\H.g 15=some (.agg Wz)/\H.g 16=some (.Z (T:Int))/\aQ X S' aG bQ aU i/\cg X [aG] h j S' aP/\nE (AM.drop T) (aU.drop i)=some Mq)
   3 ⟨0,rfl,Zo,be,fO,fO,aw.par,cg.refl _ _ _,ag⟩ ?_
  rintro m H aJ aR ⟨T,rfl,O9,t0,qS,qT,dD,du,ag⟩
  have fC:=du.le
  have f0:=aw.go dD fC
  refine o1 @qT ⟨?_⟩
  refine gk ?_
  refine Bu (λc2=> ?_) (λc2=> ?_)
  ·have c2:T<3:=Zo
   obtain⟨s,eV,je,fb⟩:=azW c2
   rw[je]at ag
   simp only[nE]at ag
   have aeX:=awD (n:=3) (bs:=2) (cs:=Wz) .i64 c2
   rw[fb]at aeX
   refine fW @qS @qT @aeX @t0 ⟨?_⟩
   refine eL (λa1=>bf X aJ aR a1 (aR+1)/\U X a1 aR=zu [.str s, .Z eV] 2) ⟨dA,bb Zo⟩ ?_
   rintro a1 ⟨ck,cM⟩
   cases aE:aU.drop i with
   |nil=>rw[aE]at ag;simp[lj]at ag
   |cons x k=>
   rw[aE]at ag
   refine(oF au (f0.go (dD.ex ck Zo Zo) Zo) aE s).Zm ?_
   rintro ac bA cv ⟨rfl,hy,eG⟩
   have iG:=eG.le
   have dF:U X bA aR=zu [.str s, .Z eV] 2:=by rw[eG.aa _ Zo Zx];exact cM
   have se:=du.trans ((cg.of ck).trans eG)
   cases aD:g3 x s with
   |true=>
    rw[aD]at hy
    simp only[lj,aD,ZE]at ag hy ⊢
    simp only[Zf]at ag
    subst ag
    simp only[]at Y
    refine ed cd.eq_1 (bp dF) @t0 ⟨?_⟩
    refine eL (λbN=>bf X bA cv bN (cv+1+10)/\U X bN cv=zu (cd x) 7) ⟨dA,bb Zo⟩ ?_
    rintro bN ⟨dR,fj⟩
    have pi:=f0.go (hy.ex dR Zo Zo) (by omega:aR<=cv+1+10)
    have dG:=se.trans (cg.of dR)
    rw[<-(fU aE).2]at Y
    rcases gK Y with ⟨F,b4,rfl⟩|⟨J0,l2,b4,Y⟩
    ·exact((ai n Zo).u2 bN _ _ _ pi b4).mono (λac S' am a=>by obtain⟨E,cA,a,_⟩:=a;cases a) (λac S' am a=>a.of dG (λ_ a=>a))
    refine((ai n Zo).u2 bN _ _ _ pi b4).mono ?_ (λac S' am a=>by obtain⟨F,a,_⟩:=a;cases a)
    rintro AX bY dv ⟨aDG,hU,Ui,ej,hT,eC⟩
    cases Ui
    have o7:=eC.le
    simp only[ok,Zf]at Y
    subst Y
    obtain⟨CW,rfl,Lh,_⟩:=ej.ptr
    have d0:U X bY cv=zu (cd x) 7:=by rw[eC.aa _ Zo Zx];exact fj
    have adr:U X bY aR=zu [.str s, .Z eV] 2:=by rw[eC.aa _ Zo Zx,dR.aa _ Zo];exact dF
    refine ed (bp d0) (bp adr) cd.eq_1 ⟨?_⟩
    refine gp (pk _ _) ?_
    refine ed (bp d0) (bp adr) cd.eq_1 ⟨?_⟩
    refine gp (pk _ _) ?_
    refine⟨_,hU,rfl,cE.lit (y:=1) (cap:=1) (n:=0) (kind:=eV) (at_:=x.at_) (name:=[]) (no:=false) (ty:=dQ) (b:=cv+1+8) (jx:= .own) (cO:=cv+1+6) (br:=[.ptr CW 0]) (bb (b:=cv+1+8) Zo) ⟨Zo,Zo⟩ ?_ ⟨Zo,Zo⟩ rfl Zo Zo (dz.one (cE.aa (λe B=> ?_) _ _ ej) (λe B=> ?_)), ?_, ?_⟩
    ·simp(disch:=omega) only[aC,bb]<;>rfl
    ·have J:=B.1;have Q:=B.2
     simp(disch:=omega) only[aC]
    ·simp only[dx]at B ⊢;omega
    ·exact hT.aa (zw) (zw)
    ·exact⟨Zo,λe B bU=>by
      rw[<-(dG.trans eC).aa e B bU]
      simp(disch:=omega) only[aC]⟩
   |false=>
    rw[aD]at hy
    simp only[lj,aD,Zy,ZC]at ag hy ⊢
    have bD:=zv T
    refine fW cd.eq_1 hi.eq_1 @qT @bD ⟨?_⟩
    refine⟨_, ?_,T+1,rfl,Zo,aZ t0,aZ qS,be,hy.aa (zw) (zw), ?_,ag⟩
    ·omega
    ·exact⟨Zo,λb ag bU=>by rw[<-se.aa b ag bU];exact zw⟩
  ·have bJ:T=3:=Zo
   subst bJ
   simp only[AM,Yq,Yb,nE,Zf]at ag
   refine cI ⟨?_⟩
   exact bJ _ _ _ ⟨aZ t0,dD,du,ag.symm⟩
 ·clear ag
  rintro oQ eF a6 ⟨t0,afx,Ox,rfl⟩
  simp only[]at Y
  have K4:=Ox.le
  have WB:=aw.go afx K4
  refine ce @t0 ⟨?_⟩
  rcases gK Y with ⟨F,J,rfl⟩|⟨left,c7,J,Y⟩
  ·exact((ai n Zo).part eF a6 i _ WB J).mono (λac S' am a=>by obtain⟨E,cA,a,_⟩:=a;cases a) (λac S' am a=>a.of Ox (λ_ a=>a))
  refine((ai n Zo).part eF a6 i _ WB J).mono ?_ (λac S' am a=>by obtain⟨F,a,_⟩:=a;cases a)
  rintro wD aK aM ⟨E,hA,bz,bH,eo,iC⟩
  cases bz
  have jG:=iC.le
  refine gk ?_
  refine fp (λm H S' aP=>∃left v cA,H.g 0=some (.ptr aG 0)/\H.g 7=some v/\cE X S' (dx j aP) left v/\aQ X S' aG bQ aU cA/\cg X [aG] h j S' aP/\mw m left (aU.drop cA)=some r)
   n ⟨left,wD,hA,aZ t0,be,cE.lift (λe B=>⟨zq B.1,B.2⟩) _ _ bH,eo,Ox.trans iC,Y⟩ ?_
  clear bH eo iC J Y jG t0 afx Ox K4 WB
  rintro m H aJ aR ⟨left,v,gB,t0,t7,bC,dD,du,Y⟩
  cases m with
  |zero=>simp[mw]at Y
  |succ m=>
  unfold mw at Y
  have fC:=du.le
  have f0:=aw.go dD fC
  refine gk ?_
  obtain⟨cB,rfl,mK,_⟩:=bC.ptr
  have mK:=mK.2
  refine ce @t0 ⟨?_⟩
  obtain⟨x,bM,aE,ae⟩:=rM Y
  refine(oF au f0 aE _).Zm ?_
  rintro wE a1 bn ⟨rfl,gV,eg⟩
  have jf:=eg.le
  have aef:=du.trans eg
  have ck:=cE.ex (S':=a1) bC (λe J Q=>eg.aa e Zo Zx) (Zj _) (Zj _)
  rcases ae with ⟨aD,Y⟩|⟨aD,Y⟩
  ·rw[aD]at gV ⊢
   simp only[ZE]at gV ⊢
   rw[<-(fU aE).2]at Y
   simp only[]at Y
   refine cL cd.eq_1 @t0 ⟨?_⟩
   refine eL (λbN=>bf X a1 bn bN (bn+1)/\U X bN bn=zu (cd x) 7) ⟨dA,bb Zo⟩ ?_
   rintro bN ⟨dR,fj⟩
   have pi:=f0.go (gV.ex dR Zo Zo) (by omega:aR<=bn+1)
   obtain⟨e,l2,KO,Ly⟩:=rM Y
   refine(oF au pi KO _).Zm ?_
   rintro MN bY dv ⟨rfl,hT,eC⟩
   have o7:=eC.le
   have d0:U X bY bn=zu (cd x) 7:=by rw[eC.aa _ Zo Zx];exact fj
   have vG:=(aef.trans (cg.of dR)).trans eC
   have ej:=cE.ex (S':=bY) ck (λe J Q=>by rw[eC.aa e Zo Zx,dR.aa e Zo]) (Zj _) (Zj _)
   have oq:andThen (iI 1 (aU.drop (if g3 e [110,111,116]then gB+1+1 else gB+1))) (λc k=>mw m (.mk 6 x.at_ c.text (g3 e [110,111,116]) dQ 0 [left]) k)=some r:=by
    rcases Ly with ⟨Ln,oq⟩|⟨Ln,oq⟩
    ·simp only[Ln,ZE];rw[(fU KO).2];exact oq
    ·simp only[Ln,Zy,ZC];exact oq
   clear Y Ly
   generalize (if g3 e [110,111,116]then gB+1+1 else gB+1)=hU at oq hT
   generalize (if g3 e [110,111,116]then e else hi)=Xw
   generalize g3 e [110,111,116]=no at oq
   refine fW cd.eq_1 (bp d0) @t0 @t7 ⟨?_⟩
   refine eL (λcn=>bf X bY dv cn (dv+1+11)/\U X cn (dv+1+7)=zu [.ptr cB 0] 1) ⟨dA,bb Zo⟩ ?_
   rintro cn ⟨eA,ek⟩
   have nT:=f0.go (hT.ex eA Zo Zo) (by omega:aR<=dv+1+11)
   cases ts:aU.drop hU with
   |nil=>rw[ts]at oq;simp[iI,andThen]at oq
   |cons c kR=>
   rw[ts]at oq
   simp only[iI]at oq
   refine(CO au nT.a6 nT.par nT.b7 nT.hK nT.hg nT.many (fU ts).1 1).mono ?_ ?_
   ·rintro u8 dC iw ⟨aH,rfl,xD,gS⟩
    have Ae:=gS.le
    rw[Zp aH]at oq
    simp only[andThen,ok]at oq
    have fN:U X dC bn=zu (cd x) 7:=by rw[gS.aa _ Zo Zx,eA.aa _ Zo];exact d0
    have arI:U X dC (dv+1+7)=zu [.ptr cB 0] 1:=by rw[gS.aa _ Zo Zx];exact ek
    refine cL cd.eq_1 (bp fN) ⟨?_⟩
    refine gp (pk _ _) ?_
    refine⟨m,Zo,_, .ptr (dv+1+9) 0,hU+1,aZ t0,be,cE.lit (y:=1) (cap:=1) (n:=0) (kind:=6) (at_:=x.at_) (name:=c.text) (no:=no) (ty:=dQ) (b:=dv+1+9) (jx:= .own) (cO:=dv+1+7) (br:=[.ptr cB 0]) (bb (b:=dv+1+9) Zo) ⟨Zo,Zo⟩ ?_ ⟨Zo,Zo⟩ rfl Zo Zo (dz.one (cE.aa (λe B=> ?_) _ _ ej) (λe B=> ?_)), ?_, ?_,by rw[(fU ts).2];exact oq⟩
    ·simp(disch:=omega) only[aC];exact arI
    ·have J:=B.1;have Q:=B.2
     simp(disch:=omega) only[aC]
     rw[gS.aa e Zo Zx,eA.aa e Zo]
    ·simp only[dx]at B ⊢;omega
    ·exact xD.aa (zw) (zw)
    ·exact⟨Zo,λe B bU=>by
      rw[<-((vG.trans (cg.of eA)).trans gS).aa e B bU]
      simp(disch:=omega) only[aC]⟩
   ·rintro u8 dC iw ⟨aH,rfl,gS⟩
    rw[Zh aH]at oq
    simp only[andThen,bad,Zf]at oq
    subst oq
    exact⟨_,rfl,rfl,(vG.trans (cg.of eA)).trans gS⟩
  ·rw[aD]at gV ⊢
   simp only[Zy,ZC]at gV ⊢
   simp only[ok,Zf]at Y
   subst Y
   refine ed cd.eq_1 hi.eq_1 @t7 ⟨?_⟩
   refine⟨left,gB,rfl,cE.ex ck (λe J Q=> ?_) (Zj _) Zo,gV.aa (zw) (zw), ?_⟩
   ·simp(disch:=omega) only[aC]
   ·exact⟨Zo,λb ag bU=>by rw[<-aef.aa b ag bU];exact zw⟩
end
section
variable{X:ch}{h S' aK aJ:R af}{j am aM aR aG bQ:Nat}{aU:List Tok}{i:Nat}
def wv(F b:Nat)(cw:List Nat):Nat->Prop:=λe=>F<=e/\e<b/\e∉cw
def dz.off{C:aL}{bg:Nat->Prop}{F b cO:Nat}{cw:List Nat}{aS:D}{ca:List bB}{br:List D}(a:dz C h (wv F b cw) ca br)(Y:dL C h (λe=>bg e/\e∈cw) cO aS 1 (br.map λv=>[v])):dz C h (λe=>dx F b e/\e≠cO) ca br:=by
 cases br with
 |nil=>
  have:=a.len
  cases ca with
  |nil=>exact .nil
  |cons=>simp at this
 |cons v br=>
  have ag:=(Y.ag Zs).2
  exact dz.lift (λe B=>⟨⟨B.1,B.2.1⟩,λE=>B.2.2 (E▸ag)⟩) _ _ a
def jZ(au:di X)(aw:i6 X h j aG bQ aU i){cO:Nat}{s:aX}(KK:cO<j)(Lo:cO≠aG)(aD:U X h cO=zu [.str s] 1){r:Except Int (Tok×List Tok)}(Y:ee s (aU.drop i)=some r):
 aW X 69 [.ptr aG 0, .slice cO 0 1 1] h j (λac S' am=>∃x cA,r= .ok (x,aU.drop cA)/\ac= .agg (cd x)/\aQ X S' aG bQ aU cA/\cg X [aG] h j S' am) (jm X aG h j r):=by
 have J:dL X h (λe=>e=cO) cO (.slice cO 0 1 1) 1 (fL [s]):=IE (bL:=[[.str s]]) (st:= .own) aD rfl Zs Zs rfl
 refine(ajk au aw.a6 aw.par aw.b7 aw.hK aw.hg aw.many KK Lo J (r:=r) ?_)
 simp only[sN]
 rw[Y]
 obtain⟨E|⟨x,k⟩,_⟩:∃aj,aj=r:=⟨r,rfl⟩
 all_goals(rename_i b3;subst b3;rfl)
def axV(au:di X){n:Nat}(tA:n<=300000)(ai:∀m,m<n->rU X aG bQ aU m):∀h j i r,i6 X h j aG bQ aU i->Go.aQ.list n (aU.drop i)=some r->aW X 156 [.ptr aG 0] h j (λac S' am=>∃ca cA br cO,r= .ok (ca,aU.drop cA)/\dL X S' (dx j am) cO ac 1 (br.map λv=>[v])/\dz X S' (λe=>dx j am e/\e≠cO) ca br/\aQ X S' aG bQ aU cA/\cg X [aG] h j S' am) (jm X aG h j r):=by
 intro h j i r aw Y
 cases n with
 |zero=>simp[Go.aQ.list]at Y
 |succ n=>
 refine zx au (alg X) ?_
 rw[alh]
 unfold ρ
 have g6:=aw.a6
 have ky:=aw.hK
 have ir:=aw.b7
 have j2:=aw.hg
 unfold Go.aQ.list at Y
 obtain⟨x,bM,aE,ae⟩:=rM Y
 refine(oF au aw aE _).Zm ?_
 rintro wD aK aM ⟨rfl,eo,iC⟩
 have jG:=iC.le
 rcases ae with ⟨aD,Y⟩|⟨aD,Y⟩
 ·rw[aD]at eo ⊢
  simp only[ZE]at eo ⊢
  simp only[ok,Zf]at Y
  subst Y
  refine ce cd.eq_1 ⟨?_⟩
  refine⟨[],i+1,[],0,by rw[(fU aE).2],dL.nil _ _, .nil,eo.aa (zw) (zw), ?_⟩
  exact⟨Zo,λb ag bU=>by rw[<-iC.aa b ag bU];exact zw⟩
 ·rw[aD]at eo ⊢
  simp only[Zy,ZC]at eo ⊢
  simp only[]at Y
  refine cL cd.eq_1 hi.eq_1 ⟨?_⟩
  refine eL (λa1=>bf X aK aM a1 (aM+1)) dA ?_
  intro aJ bC
  have f0:=aw.go (eo.ex bC Zo Zo) (by omega:j<=aM+1)
  have du:=iC.trans (cg.of bC)
  rcases gK Y with ⟨F,Q,rfl⟩|⟨E,cr,Q,Y⟩
  ·exact((ai n Zo).arrow aJ _ _ _ f0 Q).mono (λac S' am a=>by obtain⟨E,cA,a,_⟩:=a;cases a) (λac S' am a=>a.of du (λ_ a=>by cases a;rfl))
  refine((ai n Zo).arrow aJ _ _ _ f0 Q).mono ?_ (λac S' am a=>by obtain⟨F,a,_⟩:=a;cases a)
  rintro v3 a1 bn ⟨fV,i3,atS,ck,gV,eg⟩
  cases atS
  have jf:=eg.le
  obtain⟨ea,rfl,pa,_⟩:=ck.ptr
  have pa:=pa.2
  refine cI ⟨?_⟩
  refine fp (λm H S' aP=>∃ca br s cw cA,br.length+m<=n+1/\H.g 0=some (.ptr aG 0)/\H.g 5=some s/\gw X S' s 1 br cw/\(∀e∈cw,j<=e/\e<aP)/\dz X S' (wv j aP cw) ca br/\aQ X S' aG bQ aU cA/\cg X [aG] h j S' aP/\nN m ca (aU.drop cA)=some r)
   n ⟨[E],[.ptr ea 0], .slice bn 0 1 1,[bn],i3,Zx,be,be, .inr ⟨bn,1,_,_,rfl,rfl,rfl,bb Zo,nk _⟩, ?_, ?_,gV.aa (zw) (zw), ?_,Y⟩ ?_
  ·intro e B
   simp at B
   omega
  ·refine dz.one (cE.aa (λe B=> ?_) _ _ ck) (λe B=>⟨zq B.1,zq B.2,by have:=B.2;simp;omega⟩)
   have:=B.2
   simp(disch:=omega) only[aC]
  ·exact⟨Zo,λb ag bU=>by rw[<-(du.trans eg).aa b ag bU];exact zw⟩
  clear ck gV eg Q Y pa
  rintro m H bA cv ⟨ca,br,s,cw,i4,bo,t0,t5,hJ,eU,Hv,hy,eG,Y⟩
  cases m with
  |zero=>simp[nN]at Y
  |succ m=>
  unfold nN at Y
  have iG:=eG.le
  have lg:=aw.go hy iG
  refine gk ?_
  refine ce @t0 ⟨?_⟩
  obtain⟨e,bM,aE,ae⟩:=rM Y
  refine(oF au lg aE _).Zm ?_
  rintro va bN cf ⟨rfl,hz,dG⟩
  have iH:=dG.le
  have mq:∀e,j<=e->e<cv->U X bN e=U X bA e:=λe J Q=>dG.aa e Zo Zx
  have pT:=hJ.aa (S':=bN) (λe B=>mq e (eU e B).1 (eU e B).2)
  have vS:=dz.aa (S':=bN) (λe B=>mq e B.1 B.2.1) _ _ Hv
  rcases ae with ⟨aD,Y⟩|⟨aD,Y⟩
  ·rw[aD]at hz ⊢
   simp only[ZE]at hz ⊢
   rw[<-(fU aE).2]at Y
   simp only[]at Y
   refine ed cd.eq_1 @t0 @t5 ⟨?_⟩
   refine eL (λa1=>bf X bN cf a1 (cf+1)) dA ?_
   intro bY ej
   have eC:=(eG.trans dG).trans (cg.of ej)
   have mT:=lg.go (hz.ex ej Zo Zo) (by omega:cv<=cf+1)
   rcases gK Y with ⟨F,dh,rfl⟩|⟨GV,kR,dh,Y⟩
   ·exact((ai m Zo).arrow bY _ _ _ mT dh).mono (λac S' am a=>by obtain⟨E,cA,a,_⟩:=a;cases a) (λac S' am a=>a.of eC (λ_ a=>by cases a;rfl))
   refine((ai m Zo).arrow bY _ _ _ mT dh).mono ?_ (λac S' am a=>by obtain⟨F,a,_⟩:=a;cases a)
   rintro MP cn d8 ⟨acM,ni,Aa,eA,h5,en⟩
   cases Aa
   have ng:=en.le
   obtain⟨ID,rfl,Eu,_⟩:=eA.ptr
   have Eu:=Eu.2
   refine cI ⟨?_⟩
   have awZ:∀gP,gP=bi X cn d8 (zu [.ptr ID 0] 1)->∀e,j<=e->e<cf->U X gP e=U X bN e:=by
    rintro gP rfl e J Q
    rw[aC Zo Zo,en.aa e Zo Zx,ej.aa e Zo]
   have kA:lG X (bi X cn d8 (zu [.ptr ID 0] 1)) 1 (.slice d8 0 1 1)=some (1,[.ptr ID 0]):=sJ (bb Zo) (nk _) rfl _
   obtain⟨eX,dC,gL,iE,HT,B1,sk⟩:=(pT.aa (S':=bi X cn d8 (zu [.ptr ID 0] 1)) (λe B=>awZ _ rfl e (eU e B).1 (zq (eU e B).2))).append (j:=d8+1) Zd kA rfl Zd rfl Zx Zo (λe B=>zq (eU e B).2)
   refine j8 iE ?_
   have gM:∀e,e<d8->e∉cw->U X dC e=U X cn e:=λe J Q=>by
    rw[sk e Zo Q,aC Zo Zo]
   refine⟨m,Zo,ca++[GV],br++[.ptr ID 0],eX,gL,ni,Zx,aZ t0,be, .inl HT, ?_, ?_, ?_, ?_,Y⟩
   ·intro e B
    rcases B1 e B with rfl|B
    ·omega
    ·have:=eU e B;omega
   ·refine dz.snoc (cE.aa (λe B=> ?_) _ _ eA) (dz.aa (λe B=> ?_) _ _ vS) (λe B=>⟨B.1,zq B.2.1,λgA=> ?_⟩) (λe B=>⟨⟨zq B.1,zq B.2,λgA=> ?_⟩,λpU=>by have:=B.1;have:=pU.2.1;omega⟩)
    ·have J:=B.1
     exact gM e B.2 (λgA=>zq (eU e gA))
    ·have Q:=B.2.1
     rw[gM e Zo B.2.2,en.aa e Zo (by have:=B.1;simp;omega),ej.aa e Zo]
    ·have Q:=B.2.1
     rcases B1 e gA with rfl|gA
     ·omega
     ·exact B.2.2 gA
    ·have J:=B.1;have Q:=B.2
     rcases B1 e gA with rfl|gA
     ·omega
     ·have:=eU e gA;omega
   ·exact h5.aa (gM _ Zo (λE=>zq (eU _ E))) (gM _ Zo (λE=>zq (eU _ E)))
   ·exact⟨Zo,λb ag bU=>by rw[gM b Zo (λE=>zq (eU _ E))];exact(eC.trans en).aa b ag bU⟩
  ·rw[aD]at hz ⊢
   simp only[Zy,ZC]at hz ⊢
   simp only[]at Y
   refine fW cd.eq_1 hi.eq_1 @t0 @t5 ⟨?_⟩
   refine eL (λa1=>bf X bN cf a1 (cf+1+1)/\U X a1 (cf+1)=zu [.str [41]] 1) ⟨dA,bb Zo⟩ ?_
   rintro bY ⟨ej,d0⟩
   have eC:=(eG.trans dG).trans (cg.of ej)
   have mT:=lg.go (hz.ex ej Zo Zo) (by omega:cv<=cf+1+1)
   rcases gK Y with ⟨F,dh,rfl⟩|⟨GV,kR,dh,Y⟩
   ·exact(jZ au mT Zo Zo d0 dh).mono (λac S' am a=>by obtain⟨E,cA,a,_⟩:=a;cases a) (λac S' am a=>a.of eC (λ_ a=>by cases a;rfl))
   refine(jZ au mT Zo Zo d0 dh).mono ?_ (λac S' am a=>by obtain⟨F,a,_⟩:=a;cases a)
   rintro MP cn d8 ⟨acM,ni,Aa,_,h5,en⟩
   cases Aa
   have ng:=en.le
   simp only[ok,Zf]at Y
   subst Y
   refine ce @t5 ⟨?_⟩
   have fJ:∀e,j<=e->e<cf->U X cn e=U X bN e:=λe J Q=>by
    rw[en.aa e Zo Zx,ej.aa e Zo]
   obtain⟨cO,cC⟩:=(pT.aa (S':=cn) (λe B=>fJ e (eU e B).1 (zq (eU e B).2))).Mr (P:=λe=>dx j d8 e/\e∈cw) Zo (λe B=>⟨⟨(eU e B).1,zq (eU e B).2⟩,B⟩)
   refine⟨ca,ni,br,cO,rfl,cC.lift (λe B=>B.1), ?_,h5,eC.trans en⟩
   exact dz.lift (λe B=>⟨⟨B.1.1,zq B.1.2⟩,B.2⟩) _ _ (dz.off (dz.aa (λe B=>fJ e B.1 (zq B.2.1)) _ _ vS) cC)
end
section
variable{X:ch}{h S' aK aJ:R af}{j am aM aR aG bQ:Nat}{aU:List Tok}{i:Nat}
def azN(au:di X){n:Nat}{r:Except Int (bB×List Tok)}(aw:i6 X h j aG bQ aU i){x:Tok}{k:List Tok}(aE:aU.drop i=x::k)(aH:x.kind=5)(Y:Go.aQ.part (n+1) (x::k)=some r):
 aW X 153 [.ptr aG 0] h j (ka X aG bQ aU h j r) (jm X aG h j r):=by
 refine zx au (Bh X) ?_
 rw[Bi]
 unfold ys
 have g6:=aw.a6
 have ky:=aw.hK
 have ir:=aw.b7
 have j2:=aw.hg
 obtain⟨ae,kh⟩:=fU aE
 unfold Go.aQ.part at Y
 refine(sC au aw.a6 aw.par aw.hK aw.hg ae).Zm ?_
 rintro ac aK aM ⟨rfl,bH⟩
 have jG:=bH.le
 have eo:=aw.par.ex bH Zo Zo
 obtain⟨c,ao,a7,b6,a3,a4⟩:=eo.at_
 have bW:=kl a7 a3
 have k6:=(Zb.1 ae).1
 have v2:=aw.many
 have dS:=eo.ne
 have bD:=zv i
 refine gm cd.eq_1 @bW (Za @bD @a7) ⟨?_⟩
 generalize dO:bi X _ aG _=aJ
 have fG:U X aJ aM=zu (cd x) 7:=by rw[<-dO];simp(disch:=omega) only[aC,bb]<;>rfl
 have jc:U X aJ (aM+1)=zu (ho 0 x.at_ [] false dQ 0 .aT) 9:=by rw[<-dO];simp(disch:=omega) only[aC,bb]<;>rfl
 have dD:aQ X aJ aG bQ aU (i+1):=by
  refine eo.on (c:=dT c 1 [.Z ((i+1:Nat):Int)]) ?_ (λdH st a=>by rw[a7]at a;cases a;exact rQ ..) ?_
  ·rw[<-dO];simp(disch:=omega) only[aC,bb];rfl
  ·rw[<-dO];simp(disch:=omega) only[aC]
 have du:cg X [aG] h j aJ (aM+2):=by
  refine⟨Zo,λb ag bU=> ?_⟩
  rw[<-bH.aa b ag, <-dO]
  simp only[Zt,ZI,YU,Ym,ZH,Yf]at bU
  simp(disch:=omega) only[aC]
 clear dO bW a7 b6 a3 a4 eo bH
 have uE:∃dI,U X aJ aG=some (.cells dI 2 .own)/\aI X aJ (.ptr aG 1)=some (.Z ((i+1:Nat):Int)):=by
  obtain⟨c,ao,bZ,cu,c0,fE⟩:=dD.at_
  exact⟨c,bZ,kl bZ c0⟩
 have f0:=aw.go dD (by omega:j<=aM+1+1)
 refine jW (λH S' aP=>∃v,H.g 4=some v/\ka X aG bQ aU h j r v S' aP) (λT bJ=> ?_) (by
  rintro H S' aP ⟨v,t4,a⟩
  refine ce @t4 ⟨?_⟩
  exact a)
 rw[Zp aH]at Y
 simp only[ok,Zf]at Y
 subst Y
 have gs:decide (x.kind=5)=true:=by simp[aH]
 refine fW (bp fG) @jc @gs cd.eq_1 ⟨?_⟩
 refine gp (by simp[D.same,nO]) ?_
 refine ed (bp fG) @jc cd.eq_1 ⟨?_⟩
 refine gp (pk _ _) ?_
 refine ed (bp fG) @jc cd.eq_1 ⟨?_⟩
 refine gp (pk _ _) ?_
 refine ed (bp fG) @jc cd.eq_1 ⟨?_⟩
 refine bJ _ _ _ ⟨.ptr (aM+1) 0,be,_,i+1,by rw[<-kh],cE.leaf (b:=aM+1) (m:=9) (st:= .own) ?_ ⟨Zo,Zo⟩,dD.aa (zw) (zw), ?_⟩
 ·simp(disch:=omega) only[aC,bb]<;>rfl
 ·exact⟨Zo,λb ag bU=>by rw[<-du.aa b ag bU];exact zw⟩
end
section
variable{X:ch}{h S' aK aJ:R af}{j am aM aR aG bQ:Nat}{aU:List Tok}{i:Nat}
def ahS(au:di X){n:Nat}{r:Except Int (bB×List Tok)}(aw:i6 X h j aG bQ aU i){x:Tok}{k:List Tok}(aE:aU.drop i=x::k)(aH:x.kind=2)(a8:x.text=[116,114,117,101]\/x.text=[102,97,108,115,101])(Y:Go.aQ.part (n+1) (x::k)=some r):
 aW X 153 [.ptr aG 0] h j (ka X aG bQ aU h j r) (jm X aG h j r):=by
 refine zx au (Bh X) ?_
 rw[Bi]
 unfold ys
 have g6:=aw.a6
 have ky:=aw.hK
 have ir:=aw.b7
 have j2:=aw.hg
 obtain⟨ae,kh⟩:=fU aE
 unfold Go.aQ.part at Y
 refine(sC au aw.a6 aw.par aw.hK aw.hg ae).Zm ?_
 rintro ac aK aM ⟨rfl,bH⟩
 have jG:=bH.le
 have eo:=aw.par.ex bH Zo Zo
 obtain⟨c,ao,a7,b6,a3,a4⟩:=eo.at_
 have bW:=kl a7 a3
 have k6:=(Zb.1 ae).1
 have v2:=aw.many
 have dS:=eo.ne
 have bD:=zv i
 refine gm cd.eq_1 @bW (Za @bD @a7) ⟨?_⟩
 generalize dO:bi X _ aG _=aJ
 have fG:U X aJ aM=zu (cd x) 7:=by rw[<-dO];simp(disch:=omega) only[aC,bb]<;>rfl
 have jc:U X aJ (aM+1)=zu (ho 0 x.at_ [] false dQ 0 .aT) 9:=by rw[<-dO];simp(disch:=omega) only[aC,bb]<;>rfl
 have dD:aQ X aJ aG bQ aU (i+1):=by
  refine eo.on (c:=dT c 1 [.Z ((i+1:Nat):Int)]) ?_ (λdH st a=>by rw[a7]at a;cases a;exact rQ ..) ?_
  ·rw[<-dO];simp(disch:=omega) only[aC,bb];rfl
  ·rw[<-dO];simp(disch:=omega) only[aC]
 have du:cg X [aG] h j aJ (aM+2):=by
  refine⟨Zo,λb ag bU=> ?_⟩
  rw[<-bH.aa b ag, <-dO]
  simp only[Zt,ZI,YU,Ym,ZH,Yf]at bU
  simp(disch:=omega) only[aC]
 clear dO bW a7 b6 a3 a4 eo bH
 have uE:∃dI,U X aJ aG=some (.cells dI 2 .own)/\aI X aJ (.ptr aG 1)=some (.Z ((i+1:Nat):Int)):=by
  obtain⟨c,ao,bZ,cu,c0,fE⟩:=dD.at_
  exact⟨c,bZ,kl bZ c0⟩
 have f0:=aw.go dD (by omega:j<=aM+1+1)
 refine jW (λH S' aP=>∃v,H.g 4=some v/\ka X aG bQ aU h j r v S' aP) (λT bJ=> ?_) (by
  rintro H S' aP ⟨v,t4,a⟩
  refine ce @t4 ⟨?_⟩
  exact a)
 rw[Zh (by rw[aH];decide),Zp (by rcases a8 with a|a<;>simp[aH,a])]at Y
 simp only[ok,Zf]at Y
 subst Y
 have gs:decide (x.kind=5)=false:=by simp[aH]
 have cH:decide (x.kind=2)=true:=by simp[aH]
 rcases a8 with a8|a8
 ·have JY:decide (x.text=[116,114,117,101])=true:=by simp[a8]
  refine ih (bp fG) @jc @gs @cH @JY cd.eq_1 ⟨?_⟩
  refine bJ _ _ _ ⟨.ptr (aM+1) 0,be,_,i+1,by rw[<-kh],cE.leaf (b:=aM+1) (m:=9) (st:= .own) (n:=if x.text=[116,114,117,101]then 1 else 0) ?_ ⟨Zo,Zo⟩,dD.aa (zw) (zw), ?_⟩
  ·rw[Zp a8];simp(disch:=omega) only[aC,bb]<;>rfl
  ·exact⟨Zo,λb ag bU=>by rw[<-du.aa b ag bU];exact zw⟩
 ·have JY:decide (x.text=[116,114,117,101])=false:=by simp[a8]
  have bd:decide (x.text=[102,97,108,115,101])=true:=by simp[a8]
  refine et (bp fG) @jc @gs @cH @JY @bd cd.eq_1 ⟨?_⟩
  refine bJ _ _ _ ⟨.ptr (aM+1) 0,be,_,i+1,by rw[<-kh],cE.leaf (b:=aM+1) (m:=9) (st:= .own) (n:=if x.text=[116,114,117,101]then 1 else 0) ?_ ⟨Zo,Zo⟩,dD.aa (zw) (zw), ?_⟩
  ·rw[Zh (by rw[a8];decide)];simp(disch:=omega) only[aC,bb]<;>rfl
  ·exact⟨Zo,λb ag bU=>by rw[<-du.aa b ag bU];exact zw⟩
end
section
variable{X:ch}{h S' aK aJ:R af}{j am aM aR aG bQ:Nat}{aU:List Tok}{i:Nat}
def azP(au:di X){n:Nat}(ai:∀m,m<n+1->rU X aG bQ aU m){r:Except Int (bB×List Tok)}(aw:i6 X h j aG bQ aU i){x:Tok}{k:List Tok}(aE:aU.drop i=x::k)(tA:n<=1000000)(aH:x.kind=1)(Y:Go.aQ.part (n+1) (x::k)=some r):
 aW X 153 [.ptr aG 0] h j (ka X aG bQ aU h j r) (jm X aG h j r):=by
 refine zx au (Bh X) ?_
 rw[Bi]
 unfold ys
 have g6:=aw.a6
 have ky:=aw.hK
 have ir:=aw.b7
 have j2:=aw.hg
 obtain⟨ae,kh⟩:=fU aE
 unfold Go.aQ.part at Y
 refine(sC au aw.a6 aw.par aw.hK aw.hg ae).Zm ?_
 rintro ac aK aM ⟨rfl,bH⟩
 have jG:=bH.le
 have eo:=aw.par.ex bH Zo Zo
 obtain⟨c,ao,a7,b6,a3,a4⟩:=eo.at_
 have bW:=kl a7 a3
 have k6:=(Zb.1 ae).1
 have v2:=aw.many
 have dS:=eo.ne
 have bD:=zv i
 refine gm cd.eq_1 @bW (Za @bD @a7) ⟨?_⟩
 generalize dO:bi X _ aG _=aJ
 have fG:U X aJ aM=zu (cd x) 7:=by rw[<-dO];simp(disch:=omega) only[aC,bb]<;>rfl
 have jc:U X aJ (aM+1)=zu (ho 0 x.at_ [] false dQ 0 .aT) 9:=by rw[<-dO];simp(disch:=omega) only[aC,bb]<;>rfl
 have dD:aQ X aJ aG bQ aU (i+1):=by
  refine eo.on (c:=dT c 1 [.Z ((i+1:Nat):Int)]) ?_ (λdH st a=>by rw[a7]at a;cases a;exact rQ ..) ?_
  ·rw[<-dO];simp(disch:=omega) only[aC,bb];rfl
  ·rw[<-dO];simp(disch:=omega) only[aC]
 have du:cg X [aG] h j aJ (aM+2):=by
  refine⟨Zo,λb ag bU=> ?_⟩
  rw[<-bH.aa b ag, <-dO]
  simp only[Zt,ZI,YU,Ym,ZH,Yf]at bU
  simp(disch:=omega) only[aC]
 clear dO bW a7 b6 a3 a4 eo bH
 have uE:∃dI,U X aJ aG=some (.cells dI 2 .own)/\aI X aJ (.ptr aG 1)=some (.Z ((i+1:Nat):Int)):=by
  obtain⟨c,ao,bZ,cu,c0,fE⟩:=dD.at_
  exact⟨c,bZ,kl bZ c0⟩
 have f0:=aw.go dD (by omega:j<=aM+1+1)
 refine jW (λH S' aP=>∃v,H.g 4=some v/\ka X aG bQ aU h j r v S' aP) (λT bJ=> ?_) (by
  rintro H S' aP ⟨v,t4,a⟩
  refine ce @t4 ⟨?_⟩
  exact a)
 rw[Zh (by rw[aH];decide),Zh (by simp[aH]),Zp aH]at Y
 have gs:decide (x.kind=5)=false:=by simp[aH]
 have cH:decide (x.kind=2)=false:=by simp[aH]
 have c1:decide (x.kind=1)=true:=by simp[aH]
 refine ih (bp fG) @jc @gs @cH @c1 cd.eq_1 ⟨?_⟩
 refine gp (by simp[D.same,AH]) ?_
 refine ed (bp fG) @jc cd.eq_1 ⟨?_⟩
 refine eL (λa1=>U X a1 (aM+1)=zu (ho 2 x.at_ x.text false dQ 0 .aT) 9/\aQ X a1 aG bQ aU (i+1)/\cg X [aG] h j a1 (aM+1+1+10)) ⟨?_, ?_, ?_⟩ ?_
 ·simp(disch:=omega) only[aC,bb]<;>rfl
 ·exact dD.aa (zw) (zw)
 ·exact⟨Zo,λb ag bU=>by rw[<-du.aa b ag bU];exact zw⟩
 clear dD f0 du fG jc uE
 rintro a1 ⟨jc,gV,eg⟩
 have nS:=aw.go gV (by omega:j<=aM+1+1+10)
 rw[<-kh]at Y
 obtain⟨e,f6,Ef,av9⟩:=rM Y
 refine(oF au nS Ef _).Zm ?_
 rintro u9 bA cv ⟨rfl,hy,eG⟩
 have iG:=eG.le
 have Kg:U X bA (aM+1)=zu (ho 2 x.at_ x.text false dQ 0 .aT) 9:=by rw[eG.aa _ Zo Zx];exact jc
 have se:=eg.trans eG
 rcases av9 with ⟨aD,Y⟩|⟨aD,Y⟩
 ·rw[aD]at hy ⊢
  simp only[ZE]at hy ⊢
  rw[<-(fU Ef).2]at Y
  simp only[]at Y
  refine ce cd.eq_1 ⟨?_⟩
  refine eL (λbN=>bf X bA cv bN (cv+1)) dA ?_
  intro bN dR
  have pi:=nS.go (hy.ex dR Zo Zo) (by omega:aM+1+1+10<=cv+1)
  have dG:=se.trans (cg.of dR)
  rcases gK Y with ⟨F,b4,rfl⟩|⟨ca,l2,b4,Y⟩
  ·exact((ai n Zo).list bN _ _ _ pi b4).mono (λac S' am a=>by obtain⟨E,cA,br,cO,a,_⟩:=a;cases a) (λac S' am a=>a.of dG (λ_ a=>by cases a;rfl))
  refine((ai n Zo).list bN _ _ _ pi b4).mono ?_ (λac S' am a=>by obtain⟨F,a,_⟩:=a;cases a)
  rintro AX bY dv ⟨mC,hU,br,cO,Ui,cC,Hv,hT,eC⟩
  cases Ui
  have o7:=eC.le
  simp only[ok,Zf]at Y
  subst Y
  have tk:U X bY (aM+1)=zu (ho 2 x.at_ x.text false dQ 0 .aT) 9:=by rw[eC.aa _ Zo Zx,dR.aa _ Zo];exact Kg
  have rs:∃w,AX.cells=[w]/\w=AX/\qN AX=true:=by
   have:=cC.len
   cases AX<;>first|exact⟨_,rfl,rfl,rfl⟩|(simp[gC]at this;done)
  obtain⟨w,bw,rfl,pc⟩:=rs
  have dj:∀cn Ny,U X cn (aM+1)=some (.cells Ny 9 .own)->gg X cn 1 (.ptr (aM+1) 8) w=some (bi X cn (aM+1) (some (.cells (Ny.set 8 (some w)) 9 .own))):=λcn Ny a=>ud a Zo Zo bw pc
  refine ce @tk ⟨?_⟩
  refine f7 (dj _ _ (bb Zo)) ?_
  refine bJ _ _ _ ⟨.ptr (aM+1) 0,be,_,hU,rfl,cE.of (b:=aM+1) (m:=9) (st:= .own) (cO:=cO) (aS:=w) (kind:=25) (at_:=x.at_) (name:=x.text) (no:=false) (ty:=dQ) (n:=0) (br:=br) ?_ ⟨Zo,Zo⟩ ?_ (λbv=> ?_) ?_,hT.aa (zw) (zw), ?_⟩
  ·simp(disch:=omega) only[aC,bb]<;>rfl
  ·refine(cC.aa (λe B=> ?_)).lift (λe B=>⟨zq B.1,B.2⟩)
   have:=B.1
   simp(disch:=omega) only[aC]
  ·have:=(cC.ag (by simpa using bv)).1
   omega
  ·refine dz.lift (λe B=>⟨⟨zq B.1.1,zq B.1.2⟩,zq B.1.1,B.2⟩) _ _ (dz.aa (λe B=> ?_) _ _ Hv)
   have J:=B.1.1
   have Q:=B.1.2
   simp(disch:=omega) only[aC]
  ·exact⟨Zo,λb ag bU=>by rw[<-(dG.trans eC).aa b ag bU];exact zw⟩
 ·rw[aD]at hy ⊢
  simp only[Zy,ZC]at hy ⊢
  simp only[ok,Zf]at Y
  subst Y
  refine cL cd.eq_1 hi.eq_1 ⟨?_⟩
  refine bJ _ _ _ ⟨.ptr (aM+1) 0,be,_,i+1,rfl,cE.leaf (b:=aM+1) (m:=9) (st:= .own) ?_ ⟨Zo,Zo⟩,hy.aa (zw) (zw), ?_⟩
  ·simp(disch:=omega) only[aC];exact Kg
  ·exact⟨Zo,λb ag bU=>by rw[<-se.aa b ag bU];exact zw⟩
end
section
variable{X:ch}{h S' aK aJ:R af}{j am aM aR aG bQ:Nat}{aU:List Tok}{i:Nat}
def azS(au:di X){n:Nat}(ai:∀m,m<n+1->rU X aG bQ aU m){r:Except Int (bB×List Tok)}(aw:i6 X h j aG bQ aU i){x:Tok}{k:List Tok}(aE:aU.drop i=x::k)(aH:x.kind=3)(Y:Go.aQ.part (n+1) (x::k)=some r):
 aW X 153 [.ptr aG 0] h j (ka X aG bQ aU h j r) (jm X aG h j r):=by
 refine zx au (Bh X) ?_
 rw[Bi]
 unfold ys
 have g6:=aw.a6
 have ky:=aw.hK
 have ir:=aw.b7
 have j2:=aw.hg
 obtain⟨ae,kh⟩:=fU aE
 unfold Go.aQ.part at Y
 refine(sC au aw.a6 aw.par aw.hK aw.hg ae).Zm ?_
 rintro ac aK aM ⟨rfl,bH⟩
 have jG:=bH.le
 have eo:=aw.par.ex bH Zo Zo
 obtain⟨c,ao,a7,b6,a3,a4⟩:=eo.at_
 have bW:=kl a7 a3
 have k6:=(Zb.1 ae).1
 have v2:=aw.many
 have dS:=eo.ne
 have bD:=zv i
 refine gm cd.eq_1 @bW (Za @bD @a7) ⟨?_⟩
 generalize dO:bi X _ aG _=aJ
 have fG:U X aJ aM=zu (cd x) 7:=by rw[<-dO];simp(disch:=omega) only[aC,bb]<;>rfl
 have jc:U X aJ (aM+1)=zu (ho 0 x.at_ [] false dQ 0 .aT) 9:=by rw[<-dO];simp(disch:=omega) only[aC,bb]<;>rfl
 have dD:aQ X aJ aG bQ aU (i+1):=by
  refine eo.on (c:=dT c 1 [.Z ((i+1:Nat):Int)]) ?_ (λdH st a=>by rw[a7]at a;cases a;exact rQ ..) ?_
  ·rw[<-dO];simp(disch:=omega) only[aC,bb];rfl
  ·rw[<-dO];simp(disch:=omega) only[aC]
 have du:cg X [aG] h j aJ (aM+2):=by
  refine⟨Zo,λb ag bU=> ?_⟩
  rw[<-bH.aa b ag, <-dO]
  simp only[Zt,ZI,YU,Ym,ZH,Yf]at bU
  simp(disch:=omega) only[aC]
 clear dO bW a7 b6 a3 a4 eo bH
 have uE:∃dI,U X aJ aG=some (.cells dI 2 .own)/\aI X aJ (.ptr aG 1)=some (.Z ((i+1:Nat):Int)):=by
  obtain⟨c,ao,bZ,cu,c0,fE⟩:=dD.at_
  exact⟨c,bZ,kl bZ c0⟩
 have f0:=aw.go dD (by omega:j<=aM+1+1)
 refine jW (λH S' aP=>∃v,H.g 4=some v/\ka X aG bQ aU h j r v S' aP) (λT bJ=> ?_) (by
  rintro H S' aP ⟨v,t4,a⟩
  refine ce @t4 ⟨?_⟩
  exact a)
 rw[Zh (by rw[aH];decide),Zh (by simp[aH]),Zh (by rw[aH];decide),Zp aH]at Y
 have gs:decide (x.kind=5)=false:=by simp[aH]
 have cH:decide (x.kind=2)=false:=by simp[aH]
 have c1:decide (x.kind=1)=false:=by simp[aH]
 have eY:decide (x.kind=3)=true:=by simp[aH]
 refine et (bp fG) @jc @gs @cH @c1 @eY cd.eq_1 ⟨?_⟩
 refine gp (by simp[D.same,nO]) ?_
 refine ed (bp fG) @jc cd.eq_1 ⟨?_⟩
 refine eL (λa1=>U X a1 (aM+1+1+10)=zu [.str [40]] 1/\U X a1 (aM+1)=zu (ho 26 x.at_ [] false x.ty 0 .aT) 9/\aQ X a1 aG bQ aU (i+1)/\cg X [aG] h j a1 (aM+1+1+10+1)) ⟨bb Zo, ?_, ?_, ?_⟩ ?_
 ·simp(disch:=omega) only[aC,bb]<;>rfl
 ·exact dD.aa (zw) (zw)
 ·exact⟨Zo,λb ag bU=>by rw[<-du.aa b ag bU];exact zw⟩
 clear dD f0 du fG jc uE
 rintro a1 ⟨an,jc,gV,eg⟩
 have nS:=aw.go gV (by omega:j<=aM+1+1+10+1)
 rw[<-kh]at Y
 rcases gK Y with ⟨F,ay,rfl⟩|⟨lN,f6,ay,Y⟩
 ·exact(jZ au nS Zo Zo an ay).mono (λac S' am a=>by obtain⟨E,cA,a,_⟩:=a;cases a) (λac S' am a=>a.of eg (λ_ a=>by cases a;rfl))
 refine(jZ au nS Zo Zo an ay).mono ?_ (λac S' am a=>by obtain⟨F,a,_⟩:=a;cases a)
 rintro v4 bA cv ⟨aDg,i4,uN,_,hy,eG⟩
 cases uN
 have iG:=eG.le
 have lg:=nS.go hy iG
 have y0:=eg.trans eG
 rcases gK Y with ⟨F,bt,rfl⟩|⟨qp,fZ,bt,Y⟩
 ·exact((ai n Zo).arrow bA _ _ _ lg bt).mono (λac S' am a=>by obtain⟨E,cA,a,_⟩:=a;cases a) (λac S' am a=>a.of y0 (λ_ a=>by cases a;rfl))
 refine((ai n Zo).arrow bA _ _ _ lg bt).mono ?_ (λac S' am a=>by obtain⟨F,a,_⟩:=a;cases a)
 rintro v5 bN cf ⟨NU,i5,tt,dR,hz,dG⟩
 cases tt
 have iH:=dG.le
 have pi:=lg.go hz iH
 have rj:=y0.trans dG
 obtain⟨mU,rfl,sm,_⟩:=dR.ptr
 have sm:=sm.2
 have sb:U X bN (aM+1)=zu (ho 26 x.at_ [] false x.ty 0 .aT) 9:=by rw[dG.aa _ Zo Zx,eG.aa _ Zo Zx];exact jc
 refine ce @sb ⟨?_⟩
 refine eL (λbY=>U X bY (cf+1)=zu [.str [41]] 1/\U X bY cf=zu [.ptr mU 0] 1/\U X bY (aM+1)=zu (ho 26 x.at_ [] false x.ty 0 (.slice cf 0 1 1)) 9/\cE X bY (dx cv cf) qp (.ptr mU 0)/\aQ X bY aG bQ aU i5/\cg X [aG] h j bY (cf+1+1)) ⟨bb Zo, ?_, ?_, ?_, ?_, ?_⟩ ?_
 ·simp(disch:=omega) only[aC,bb]<;>rfl
 ·simp(disch:=omega) only[aC,bb]<;>rfl
 ·refine cE.ex dR (λe J Q=> ?_) Zo Zo
  simp(disch:=omega) only[aC]
 ·exact hz.aa (zw) (zw)
 ·exact⟨Zo,λb ag bU=>by rw[<-rj.aa b ag bU];exact zw⟩
 clear dR hz sb dG
 rintro bY ⟨Ki,arU,tk,ej,hT,eC⟩
 have mT:=aw.go hT (by omega:j<=cf+1+1)
 rcases gK Y with ⟨F,dh,rfl⟩|⟨wG,kR,dh,Y⟩
 ·exact(jZ au mT Zo Zo Ki dh).mono (λac S' am a=>by obtain⟨E,cA,a,_⟩:=a;cases a) (λac S' am a=>a.of eC (λ_ a=>by cases a;rfl))
 refine(jZ au mT Zo Zo Ki dh).mono ?_ (λac S' am a=>by obtain⟨F,a,_⟩:=a;cases a)
 rintro MP cn d8 ⟨aDh,ni,Aa,_,h5,en⟩
 cases Aa
 have ng:=en.le
 simp only[ok,Zf]at Y
 subst Y
 refine bJ _ _ _ ⟨.ptr (aM+1) 0,be,_,ni,rfl,cE.lit (y:=1) (cap:=1) (b:=aM+1) (m:=9) (st:= .own) (jx:= .own) (cO:=cf) (br:=[.ptr mU 0]) ?_ ⟨Zo,Zo⟩ ?_ ⟨Zo,Zo⟩ rfl Zo Zo (dz.one (cE.aa (λe B=> ?_) _ _ ej) (λe B=> ?_)),h5,eC.trans en⟩
 ·rw[en.aa _ Zo Zx];exact tk
 ·rw[en.aa _ Zo Zx];exact arU
 ·have J:=B.1;have Q:=B.2
  exact en.aa e Zo Zx
 ·simp only[dx]at B ⊢;omega
end
section
variable{X:ch}{h S' aK aJ:R af}{j am aM aR aG bQ:Nat}{aU:List Tok}{i:Nat}
def azR(au:di X){n:Nat}(ai:∀m,m<n+1->rU X aG bQ aU m){r:Except Int (bB×List Tok)}(aw:i6 X h j aG bQ aU i){x:Tok}{k:List Tok}(aE:aU.drop i=x::k)(aH:x.kind=6)(a8:x.text=[40])(Y:Go.aQ.part (n+1) (x::k)=some r):
 aW X 153 [.ptr aG 0] h j (ka X aG bQ aU h j r) (jm X aG h j r):=by
 refine zx au (Bh X) ?_
 rw[Bi]
 unfold ys
 have g6:=aw.a6
 have ky:=aw.hK
 have ir:=aw.b7
 have j2:=aw.hg
 obtain⟨ae,kh⟩:=fU aE
 unfold Go.aQ.part at Y
 refine(sC au aw.a6 aw.par aw.hK aw.hg ae).Zm ?_
 rintro ac aK aM ⟨rfl,bH⟩
 have jG:=bH.le
 have eo:=aw.par.ex bH Zo Zo
 obtain⟨c,ao,a7,b6,a3,a4⟩:=eo.at_
 have bW:=kl a7 a3
 have k6:=(Zb.1 ae).1
 have v2:=aw.many
 have dS:=eo.ne
 have bD:=zv i
 refine gm cd.eq_1 @bW (Za @bD @a7) ⟨?_⟩
 generalize dO:bi X _ aG _=aJ
 have fG:U X aJ aM=zu (cd x) 7:=by rw[<-dO];simp(disch:=omega) only[aC,bb]<;>rfl
 have jc:U X aJ (aM+1)=zu (ho 0 x.at_ [] false dQ 0 .aT) 9:=by rw[<-dO];simp(disch:=omega) only[aC,bb]<;>rfl
 have dD:aQ X aJ aG bQ aU (i+1):=by
  refine eo.on (c:=dT c 1 [.Z ((i+1:Nat):Int)]) ?_ (λdH st a=>by rw[a7]at a;cases a;exact rQ ..) ?_
  ·rw[<-dO];simp(disch:=omega) only[aC,bb];rfl
  ·rw[<-dO];simp(disch:=omega) only[aC]
 have du:cg X [aG] h j aJ (aM+2):=by
  refine⟨Zo,λb ag bU=> ?_⟩
  rw[<-bH.aa b ag, <-dO]
  simp only[Zt,ZI,YU,Ym,ZH,Yf]at bU
  simp(disch:=omega) only[aC]
 clear dO bW a7 b6 a3 a4 eo bH
 have uE:∃dI,U X aJ aG=some (.cells dI 2 .own)/\aI X aJ (.ptr aG 1)=some (.Z ((i+1:Nat):Int)):=by
  obtain⟨c,ao,bZ,cu,c0,fE⟩:=dD.at_
  exact⟨c,bZ,kl bZ c0⟩
 have f0:=aw.go dD (by omega:j<=aM+1+1)
 refine jW (λH S' aP=>∃v,H.g 4=some v/\ka X aG bQ aU h j r v S' aP) (λT bJ=> ?_) (by
  rintro H S' aP ⟨v,t4,a⟩
  refine ce @t4 ⟨?_⟩
  exact a)
 rw[Zh (by rw[aH];decide),Zh (by simp[aH]),Zh (by rw[aH];decide),Zh (by rw[aH];decide),Zp (by simp[aH,a8])]at Y
 have gs:decide (x.kind=5)=false:=by simp[aH]
 have cH:decide (x.kind=2)=false:=by simp[aH]
 have c1:decide (x.kind=1)=false:=by simp[aH]
 have eY:decide (x.kind=3)=false:=by simp[aH]
 have hF:decide (x.kind=6)=true:=by simp[aH]
 have JY:decide (x.text=[40])=true:=by simp[a8]
 refine et (bp fG) @jc @gs @cH @c1 @eY (Za @hF (Za @JY cd.eq_1)) ⟨?_⟩
 rw[<-kh]at Y
 rcases gK Y with ⟨F,bt,rfl⟩|⟨qp,fZ,bt,Y⟩
 ·exact((ai n Zo).arrow aJ _ _ _ f0 bt).mono (λac S' am a=>by obtain⟨E,cA,a,_⟩:=a;cases a) (λac S' am a=>a.of du (λ_ a=>by cases a;rfl))
 refine((ai n Zo).arrow aJ _ _ _ f0 bt).mono ?_ (λac S' am a=>by obtain⟨F,a,_⟩:=a;cases a)
 rintro v5 bN cf ⟨NU,i5,tt,dR,hz,dG⟩
 cases tt
 have iH:=dG.le
 have pi:=f0.go hz iH
 have rj:=du.trans dG
 refine cI ⟨?_⟩
 refine eL (λbY=>U X bY cf=zu [.str [41]] 1/\bf X bN cf bY (cf+1)) ⟨bb Zo,dA⟩ ?_
 rintro bY ⟨Ki,ej⟩
 have mT:=pi.go (hz.ex ej Zo Zo) (by omega:cf<=cf+1)
 have eC:=rj.trans (cg.of ej)
 rcases gK Y with ⟨F,dh,rfl⟩|⟨wG,kR,dh,Y⟩
 ·exact(jZ au mT Zo Zo Ki dh).mono (λac S' am a=>by obtain⟨E,cA,a,_⟩:=a;cases a) (λac S' am a=>a.of eC (λ_ a=>by cases a;rfl))
 refine(jZ au mT Zo Zo Ki dh).mono ?_ (λac S' am a=>by obtain⟨F,a,_⟩:=a;cases a)
 rintro MP cn d8 ⟨aDh,ni,Aa,_,h5,en⟩
 cases Aa
 have ng:=en.le
 simp only[ok,Zf]at Y
 subst Y
 refine bJ _ _ _ ⟨v5,be,_,ni,rfl,cE.ex dR (λe J Q=>by rw[en.aa e Zo Zx,ej.aa e Zo]) Zo Zo,h5,eC.trans en⟩
end
section
variable{X:ch}{h S' aK aJ:R af}{j am aM aR aG bQ:Nat}{aU:List Tok}{i:Nat}
def azO(au:di X){n:Nat}(ai:∀m,m<n+1->rU X aG bQ aU m){r:Except Int (bB×List Tok)}(aw:i6 X h j aG bQ aU i){x:Tok}{k:List Tok}(aE:aU.drop i=x::k)(aH:x.kind=2)(a8:x.text=[109,101,114,103,101])(Y:Go.aQ.part (n+1) (x::k)=some r):
 aW X 153 [.ptr aG 0] h j (ka X aG bQ aU h j r) (jm X aG h j r):=by
 refine zx au (Bh X) ?_
 rw[Bi]
 unfold ys
 have g6:=aw.a6
 have ky:=aw.hK
 have ir:=aw.b7
 have j2:=aw.hg
 obtain⟨ae,kh⟩:=fU aE
 unfold Go.aQ.part at Y
 refine(sC au aw.a6 aw.par aw.hK aw.hg ae).Zm ?_
 rintro ac aK aM ⟨rfl,bH⟩
 have jG:=bH.le
 have eo:=aw.par.ex bH Zo Zo
 obtain⟨c,ao,a7,b6,a3,a4⟩:=eo.at_
 have bW:=kl a7 a3
 have k6:=(Zb.1 ae).1
 have v2:=aw.many
 have dS:=eo.ne
 have bD:=zv i
 refine gm cd.eq_1 @bW (Za @bD @a7) ⟨?_⟩
 generalize dO:bi X _ aG _=aJ
 have fG:U X aJ aM=zu (cd x) 7:=by rw[<-dO];simp(disch:=omega) only[aC,bb]<;>rfl
 have jc:U X aJ (aM+1)=zu (ho 0 x.at_ [] false dQ 0 .aT) 9:=by rw[<-dO];simp(disch:=omega) only[aC,bb]<;>rfl
 have dD:aQ X aJ aG bQ aU (i+1):=by
  refine eo.on (c:=dT c 1 [.Z ((i+1:Nat):Int)]) ?_ (λdH st a=>by rw[a7]at a;cases a;exact rQ ..) ?_
  ·rw[<-dO];simp(disch:=omega) only[aC,bb];rfl
  ·rw[<-dO];simp(disch:=omega) only[aC]
 have du:cg X [aG] h j aJ (aM+2):=by
  refine⟨Zo,λb ag bU=> ?_⟩
  rw[<-bH.aa b ag, <-dO]
  simp only[Zt,ZI,YU,Ym,ZH,Yf]at bU
  simp(disch:=omega) only[aC]
 clear dO bW a7 b6 a3 a4 eo bH
 have uE:∃dI,U X aJ aG=some (.cells dI 2 .own)/\aI X aJ (.ptr aG 1)=some (.Z ((i+1:Nat):Int)):=by
  obtain⟨c,ao,bZ,cu,c0,fE⟩:=dD.at_
  exact⟨c,bZ,kl bZ c0⟩
 have f0:=aw.go dD (by omega:j<=aM+1+1)
 refine jW (λH S' aP=>∃v,H.g 4=some v/\ka X aG bQ aU h j r v S' aP) (λT bJ=> ?_) (by
  rintro H S' aP ⟨v,t4,a⟩
  refine ce @t4 ⟨?_⟩
  exact a)
 rw[Zh (by rw[aH];decide),Zh (by simp[aH,a8]),Zh (by rw[aH];decide),Zh (by rw[aH];decide),Zh (by simp[aH]),Zh (by simp[aH,a8]),Zp (by simp[aH,a8])]at Y
 have gs:decide (x.kind=5)=false:=by simp[aH]
 have cH:decide (x.kind=2)=true:=by simp[aH]
 have c1:decide (x.kind=1)=false:=by simp[aH]
 have eY:decide (x.kind=3)=false:=by simp[aH]
 have hF:decide (x.kind=6)=false:=by simp[aH]
 have cN:decide (x.text=[116,114,117,101])=false:=by simp[a8]
 have cB:decide (x.text=[102,97,108,115,101])=false:=by simp[a8]
 have ea:decide (x.text=[105,102])=false:=by simp[a8]
 have fQ:decide (x.text=[109,101,114,103,101])=true:=by simp[a8]
 refine et (bp fG) @jc @gs @cH @c1 @eY (Za @hF (Za @cN (Za @cB (Za @ea (Za @fQ cd.eq_1))))) ⟨?_⟩
 rw[<-kh]at Y
 cases Ef:aU.drop (i+1)with
 |nil=>rw[Ef]at Y;simp[iI,andThen]at Y
 |cons c f6=>
 rw[Ef]at Y
 simp only[iI]at Y
 refine(CO au f0.a6 f0.par f0.b7 f0.hK f0.hg f0.many (fU Ef).1 1).mono ?_ ?_
 ·rintro u9 bA cv ⟨fH,rfl,hy,eG⟩
  have iG:=eG.le
  rw[Zp fH]at Y
  simp only[andThen,ok]at Y
  rw[<-(fU Ef).2]at Y
  have Kg:U X bA (aM+1)=zu (ho 0 x.at_ [] false dQ 0 .aT) 9:=by rw[eG.aa _ Zo Zx];exact jc
  have y0:=du.trans eG
  refine cL cd.eq_1 @Kg ⟨?_⟩
  refine eL (λa1=>U X a1 (aM+1)=zu (ho 24 x.at_ c.text false dQ 0 .aT) 9/\aQ X a1 aG bQ aU (i+1+1)/\cg X [aG] h j a1 cv) ⟨?_, ?_, ?_⟩ ?_
  ·simp(disch:=omega) only[aC,bb]<;>rfl
  ·exact hy.aa (zw) (zw)
  ·exact⟨Zo,λb ag bU=>by rw[<-y0.aa b ag bU];exact zw⟩
  clear Kg hy eG y0 jc uE dD f0 du fG
  rintro a1 ⟨jc,gV,eg⟩
  have nS:=aw.go gV (by omega:j<=cv)
  cases HM:Go.aQ.part n (aU.drop (i+1+1))with
  |none=>rw[HM]at Y;cases Y
  |some WF=>
  rw[HM]at Y
  refine((ai n Zo).part a1 _ _ _ nS HM).mono ?_ ?_
  ·rintro v5 bN cf ⟨qp,i5,rfl,dR,hz,dG⟩
   simp only[]at Y
   have iH:=dG.le
   have pi:=nS.go hz iH
   have rj:=eg.trans dG
   cases Le:Go.aQ.part n (aU.drop i5)with
   |none=>rw[Le]at Y;cases Y
   |some Mq=>
   rw[Le]at Y
   refine((ai n Zo).part bN _ _ _ pi Le).mono ?_ ?_
   ·rintro AX bY dv ⟨J0,hU,rfl,ej,hT,eC⟩
    simp only[Zf]at Y
    subst Y
    have o7:=eC.le
    obtain⟨mU,rfl,sm,_⟩:=dR.ptr
    obtain⟨CW,rfl,Lh,_⟩:=ej.ptr
    have tk:U X bY (aM+1)=zu (ho 24 x.at_ c.text false dQ 0 .aT) 9:=by rw[eC.aa _ Zo Zx,dG.aa _ Zo Zx];exact jc
    refine ce @tk ⟨?_⟩
    refine bJ _ _ _ ⟨.ptr (aM+1) 0,be,_,hU,rfl,cE.lit (y:=2) (cap:=2) (b:=aM+1) (m:=9) (st:= .own) (jx:= .own) (cO:=dv) (br:=[.ptr mU 0, .ptr CW 0]) ?_ ⟨Zo,Zo⟩ ?_ ⟨Zo,Zo⟩ rfl Zo Zo (dz.two (cE.aa (λe B=> ?_) _ _ dR) (cE.aa (λe B=> ?_) _ _ ej) (λe B=> ?_) (λe B=> ?_)),hT.aa (zw) (zw), ?_⟩
    ·simp(disch:=omega) only[aC,bb]<;>rfl
    ·simp(disch:=omega) only[aC,bb]<;>rfl
    ·have J:=B.1;have Q:=B.2
     simp(disch:=omega) only[aC]
     exact eC.aa e Zo Zx
    ·have J:=B.1;have Q:=B.2
     simp(disch:=omega) only[aC]
    ·simp only[dx]at B ⊢;omega
    ·simp only[dx]at B ⊢;omega
    ·exact⟨Zo,λb ag bU=>by rw[<-(rj.trans eC).aa b ag bU];exact zw⟩
   ·rintro AX bY dv ⟨F,rfl,rfl,eC⟩
    simp only[Zf]at Y
    subst Y
    exact⟨F,rfl,rfl,rj.trans eC⟩
  ·rintro v5 bN cf ⟨F,rfl,rfl,dG⟩
   simp only[Zf]at Y
   subst Y
   exact⟨F,rfl,rfl,eg.trans dG⟩
 ·rintro u9 bA cv ⟨fH,rfl,eG⟩
  rw[Zh fH]at Y
  simp only[andThen,bad,Zf]at Y
  subst Y
  exact⟨_,rfl,rfl,du.trans eG⟩
end
section
variable{X:ch}{h S' aK aJ:R af}{j am aM aR aG bQ:Nat}{aU:List Tok}{i:Nat}
def Wx(au:di X){n:Nat}{r:Except Int (bB×List Tok)}(aw:i6 X h j aG bQ aU i){x:Tok}{k:List Tok}(aE:aU.drop i=x::k)(dY:x.kind≠5)(bW:x.kind≠1)(cS:x.kind≠3)(dk:x.kind=6->x.text≠[40])(cq:x.kind=2->x.text≠[116,114,117,101]/\x.text≠[102,97,108,115,101]/\x.text≠[105,102]/\x.text≠[109,101,114,103,101])(Y:Go.aQ.part (n+1) (x::k)=some r):
 aW X 153 [.ptr aG 0] h j (ka X aG bQ aU h j r) (jm X aG h j r):=by
 refine zx au (Bh X) ?_
 rw[Bi]
 unfold ys
 have g6:=aw.a6
 have ky:=aw.hK
 have ir:=aw.b7
 have j2:=aw.hg
 obtain⟨ae,kh⟩:=fU aE
 unfold Go.aQ.part at Y
 refine(sC au aw.a6 aw.par aw.hK aw.hg ae).Zm ?_
 rintro ac aK aM ⟨rfl,bH⟩
 have jG:=bH.le
 have eo:=aw.par.ex bH Zo Zo
 obtain⟨c,ao,a7,b6,a3,a4⟩:=eo.at_
 have bW:=kl a7 a3
 have k6:=(Zb.1 ae).1
 have v2:=aw.many
 have dS:=eo.ne
 have bD:=zv i
 refine gm cd.eq_1 @bW (Za @bD @a7) ⟨?_⟩
 generalize dO:bi X _ aG _=aJ
 have fG:U X aJ aM=zu (cd x) 7:=by rw[<-dO];simp(disch:=omega) only[aC,bb]<;>rfl
 have jc:U X aJ (aM+1)=zu (ho 0 x.at_ [] false dQ 0 .aT) 9:=by rw[<-dO];simp(disch:=omega) only[aC,bb]<;>rfl
 have dD:aQ X aJ aG bQ aU (i+1):=by
  refine eo.on (c:=dT c 1 [.Z ((i+1:Nat):Int)]) ?_ (λdH st a=>by rw[a7]at a;cases a;exact rQ ..) ?_
  ·rw[<-dO];simp(disch:=omega) only[aC,bb];rfl
  ·rw[<-dO];simp(disch:=omega) only[aC]
 have du:cg X [aG] h j aJ (aM+2):=by
  refine⟨Zo,λb ag bU=> ?_⟩
  rw[<-bH.aa b ag, <-dO]
  simp only[Zt,ZI,YU,Ym,ZH,Yf]at bU
  simp(disch:=omega) only[aC]
 clear dO bW a7 b6 a3 a4 eo bH
 have uE:∃dI,U X aJ aG=some (.cells dI 2 .own)/\aI X aJ (.ptr aG 1)=some (.Z ((i+1:Nat):Int)):=by
  obtain⟨c,ao,bZ,cu,c0,fE⟩:=dD.at_
  exact⟨c,bZ,kl bZ c0⟩
 have f0:=aw.go dD (by omega:j<=aM+1+1)
 refine jW (λH S' aP=>∃v,H.g 4=some v/\ka X aG bQ aU h j r v S' aP) (λT bJ=> ?_) (by
  rintro H S' aP ⟨v,t4,a⟩
  refine ce @t4 ⟨?_⟩
  exact a)
 have Lj:r= .error x.at_:=by
  by_cases Q:x.kind=2
  ·obtain⟨fK,hX,xU,Mh⟩:=cq Q
   have b4:¬x.kind=6:=Zo
   rw[Zh dY,Zh (by simp[fK,hX]),Zh bW,Zh cS,Zh (by simp[b4]),Zh (by simp[xU]),Zh (by simp[Mh])]at Y
   simp only[bad,Zf]at Y
   exact Y.symm
  ·by_cases b4:x.kind=6
   ·rw[Zh dY,Zh (by simp[Q]),Zh bW,Zh cS,Zh (by simp[dk b4]),Zh (by simp[Q]),Zh (by simp[Q])]at Y
    simp only[bad,Zf]at Y
    exact Y.symm
   ·rw[Zh dY,Zh (by simp[Q]),Zh bW,Zh cS,Zh (by simp[b4]),Zh (by simp[Q]),Zh (by simp[Q])]at Y
    simp only[bad,Zf]at Y
    exact Y.symm
 subst Lj
 have gs:decide (x.kind=5)=false:=by simp[dY]
 have c1:decide (x.kind=1)=false:=by simp[bW]
 have eY:decide (x.kind=3)=false:=by simp[cS]
 obtain⟨dI,Tu,Tv⟩:=uE
 have cG:bl .sub (.Z ((i+1:Nat):Int)) (.Z 1)=some (.Z (((i+1:Nat):Int) -1)):=by rw[uV Zo Zo]
 have fin:∀(a1:R af) (ah:bI),(∀b,b<j->b∉[aG]->U X a1 b=U X aJ b)->aW X 93 [.agg (cd x)] a1 (aM+1+1) ah (jm X aG h j (Except.error x.at_:Except Int (bB×List Tok))):=by
  intro a1 ah ak
  refine(J7 au Zo x _ ?_).mono (λ_ _ _ a=>a.elim) (λ_ _ _ a=>a)
  intro S' am bT
  have K3:=bT.le
  exact⟨_,rfl,rfl,Zo,λb ag bU=>by rw[bT.aa b Zo,ak b ag bU];exact du.aa b ag bU⟩
 by_cases Q:x.kind=2
 ·obtain⟨fK,hX,xU,Mh⟩:=cq Q
  have cH:decide (x.kind=2)=true:=by simp[Q]
  have hF:decide (x.kind=6)=false:=by simp[Q]
  have cN:decide (x.text=[116,114,117,101])=false:=by simp[fK]
  have cB:decide (x.text=[102,97,108,115,101])=false:=by simp[hX]
  have ea:decide (x.text=[105,102])=false:=by simp[xU]
  have fQ:decide (x.text=[109,101,114,103,101])=false:=by simp[Mh]
  refine et (bp fG) @jc @gs @cH @c1 @eY (Za @hF (Za @cN (Za @cB (Za @ea (Za @fQ (Za cd.eq_1 (Za @Tu (Za @Tv @cG)))))))) ⟨?_⟩
  refine fin _ _ (λb ag bU=> ?_)
  simp only[Zt,ZI,YU,Ym,ZH,Yf]at bU
  simp(disch:=omega) only[aC]
 ·have cH:decide (x.kind=2)=false:=by simp[Q]
  by_cases b4:x.kind=6
  ·have hF:decide (x.kind=6)=true:=by simp[b4]
   have cN:decide (x.text=[40])=false:=by simp[dk b4]
   refine et (bp fG) @jc @gs @cH @c1 @eY (Za @hF (Za @cN (Za cd.eq_1 (Za @Tu (Za @Tv @cG))))) ⟨?_⟩
   refine fin _ _ (λb ag bU=> ?_)
   simp only[Zt,ZI,YU,Ym,ZH,Yf]at bU
   simp(disch:=omega) only[aC]
  ·have hF:decide (x.kind=6)=false:=by simp[b4]
   refine et (bp fG) @jc @gs @cH @c1 @eY (Za @hF (Za cd.eq_1 (Za @Tu (Za @Tv @cG)))) ⟨?_⟩
   refine fin _ _ (λb ag bU=> ?_)
   simp only[Zt,ZI,YU,Ym,ZH,Yf]at bU
   simp(disch:=omega) only[aC]
end
section
variable{X:ch}{h S' aK aJ:R af}{j am aM aR aG bQ:Nat}{aU:List Tok}{i:Nat}
def cg.ko{X:ch}{aG:Nat}{h S':R af}{j am n:Nat}(a:cg X [aG] h j S' am)(y:am<=n):cg X [aG] h j S' n:=⟨ZA a.le y,a.aa⟩
def k1.one{C:aL}{h:R af}{s:D}{bs:Nat}{k:List D}{cw:List Nat}(a:k1 C h s bs k cw):s.cells=[s]/\qN s=true/\D.same 30 s s=true:=by
 rcases a with ⟨rfl,_⟩|⟨b,fz,n,c,rfl,_⟩
 ·exact⟨rfl,rfl,rfl⟩
 ·exact⟨rfl,rfl,by simp[D.same]⟩
def azM(au:di X){n:Nat}(ai:∀m,m<n+1->rU X aG bQ aU m){r:Except Int (bB×List Tok)}(aw:i6 X h j aG bQ aU i){x:Tok}{k:List Tok}(aE:aU.drop i=x::k)(aH:x.kind=2)(a8:x.text=[105,102])(Y:Go.aQ.part (n+1) (x::k)=some r):
 aW X 153 [.ptr aG 0] h j (ka X aG bQ aU h j r) (jm X aG h j r):=by
 refine zx au (Bh X) ?_
 rw[Bi]
 unfold ys
 have g6:=aw.a6
 have ky:=aw.hK
 have ir:=aw.b7
 have j2:=aw.hg
 obtain⟨ae,kh⟩:=fU aE
 unfold Go.aQ.part at Y
 refine(sC au aw.a6 aw.par aw.hK aw.hg ae).Zm ?_
 rintro ac aK aM ⟨rfl,bH⟩
 have jG:=bH.le
 have eo:=aw.par.ex bH Zo Zo
 obtain⟨c,ao,a7,b6,a3,a4⟩:=eo.at_
 have bW:=kl a7 a3
 have k6:=(Zb.1 ae).1
 have v2:=aw.many
 have dS:=eo.ne
 have bD:=zv i
 refine gm cd.eq_1 @bW (Za @bD @a7) ⟨?_⟩
 generalize dO:bi X _ aG _=aJ
 have fG:U X aJ aM=zu (cd x) 7:=by rw[<-dO];simp(disch:=omega) only[aC,bb]<;>rfl
 have jc:U X aJ (aM+1)=zu (ho 0 x.at_ [] false dQ 0 .aT) 9:=by rw[<-dO];simp(disch:=omega) only[aC,bb]<;>rfl
 have dD:aQ X aJ aG bQ aU (i+1):=by
  refine eo.on (c:=dT c 1 [.Z ((i+1:Nat):Int)]) ?_ (λdH st a=>by rw[a7]at a;cases a;exact rQ ..) ?_
  ·rw[<-dO];simp(disch:=omega) only[aC,bb];rfl
  ·rw[<-dO];simp(disch:=omega) only[aC]
 have du:cg X [aG] h j aJ (aM+2):=by
  refine⟨Zo,λb ag bU=> ?_⟩
  rw[<-bH.aa b ag, <-dO]
  simp only[Zt,ZI,YU,Ym,ZH,Yf]at bU
  simp(disch:=omega) only[aC]
 clear dO bW a7 b6 a3 a4 eo bH
 have uE:∃dI,U X aJ aG=some (.cells dI 2 .own)/\aI X aJ (.ptr aG 1)=some (.Z ((i+1:Nat):Int)):=by
  obtain⟨c,ao,bZ,cu,c0,fE⟩:=dD.at_
  exact⟨c,bZ,kl bZ c0⟩
 have f0:=aw.go dD (by omega:j<=aM+1+1)
 refine jW (λH S' aP=>∃v,H.g 4=some v/\ka X aG bQ aU h j r v S' aP) (λT bJ=> ?_) (by
  rintro H S' aP ⟨v,t4,a⟩
  refine ce @t4 ⟨?_⟩
  exact a)
 rw[Zh (by rw[aH];decide),Zh (by simp[aH,a8]),Zh (by rw[aH];decide),Zh (by rw[aH];decide),Zh (by simp[aH]),Zp (by simp[aH,a8])]at Y
 have gs:decide (x.kind=5)=false:=by simp[aH]
 have cH:decide (x.kind=2)=true:=by simp[aH]
 have c1:decide (x.kind=1)=false:=by simp[aH]
 have eY:decide (x.kind=3)=false:=by simp[aH]
 have hF:decide (x.kind=6)=false:=by simp[aH]
 have cN:decide (x.text=[116,114,117,101])=false:=by simp[a8]
 have cB:decide (x.text=[102,97,108,115,101])=false:=by simp[a8]
 have ea:decide (x.text=[105,102])=true:=by simp[a8]
 refine et (bp fG) @jc @gs @cH @c1 @eY (Za @hF (Za @cN (Za @cB (Za @ea (Za cd.eq_1 ho.eq_1))))) ⟨?_⟩
 rw[<-kh]at Y
 refine eL (λa1=>U X a1 (aM+1)=zu (ho 23 x.at_ [] false dQ 0 .aT) 9/\aQ X a1 aG bQ aU (i+1)/\cg X [aG] h j a1 (aM+1+1)) ⟨?_, ?_, ?_⟩ ?_
 ·simp(disch:=omega) only[aC,bb]<;>rfl
 ·exact dD.aa (zw) (zw)
 ·exact⟨Zo,λb ag bU=>by rw[<-du.aa b ag bU];exact zw⟩
 clear dD f0 du fG jc uE
 rintro Js ⟨ady,afB,TQ⟩
 have afS:gw X Js .aT 1 [] []:= .inl (.inl ⟨rfl,rfl,rfl⟩)
 have vL:∀e∈([]:List Nat),aM+2<=e/\e<aM+1+1:=by simp
 have aeI:dz X Js (wv (aM+2) (aM+1+1) []) [] []:= .nil
 have avz:D.same 30 .aT .aT=true:=rfl
 have ah1:=aw.go afB (by omega:j<=(aM+1+1)+12)
 rcases gK Y with ⟨F,bt,rfl⟩|⟨J1,fZ,bt,Y⟩
 ·exact((ai n Zo).arrow Js _ _ _ ah1 bt).mono (λac S' am a=>by obtain⟨E,cA,a,_⟩:=a;cases a) (λac S' am a=>a.of (cg.ko TQ Zo) (λ_ a=>by cases a;rfl))
 refine((ai n Zo).arrow Js _ _ _ ah1 bt).mono ?_ (λac S' am a=>by obtain⟨F,a,_⟩:=a;cases a)
 clear bt
 rintro v5 bN cf ⟨NU,aE8,tt,dR,hz,dG⟩
 cases tt
 have iH:=dG.le
 have rj:=(cg.ko TQ (by omega:(aM+1+1)<=(aM+1+1)+12)).trans dG
 obtain⟨wt,rfl,sm,_⟩:=dR.ptr
 have sm:=sm.2
 have sb:U X bN (aM+1)=zu (ho 23 x.at_ [] false dQ 0 D.aT) 9:=by rw[dG.aa _ Zo Zx];exact ady
 have mq:∀e,aM+2<=e->e<(aM+1+1)->U X bN e=U X Js e:=λe J Q=>dG.aa e Zo Zx
 have pT:=afS.aa (S':=bN) (λe B=>mq e (vL e B).1 (vL e B).2)
 have vS:=dz.aa (S':=bN) (λe B=>mq e B.1 B.2.1) _ _ aeI
 clear mq
 refine cL (bp sb) ho.eq_1 ⟨?_⟩
 refine gp avz ?_
 have kA:lG X (bi X bN ((aM+1+1)+7) (zu [.ptr wt 0] 1)) 1 (.slice ((aM+1+1)+7) 0 1 1)=some (1,[.ptr wt 0]):=sJ (bb Zo) (nk _) rfl _
 obtain⟨Mw,bY,GF,iE,tH,sh,nf⟩:=(pT.aa (S':=bi X bN ((aM+1+1)+7) (zu [.ptr wt 0] 1)) (λe B=>aC Zo (zq (vL e B).2))).append (j:=cf) Zd kA rfl Zd rfl Zs Zo (λe B=>zq (vL e B).2)
 refine j8 iE ?_
 have dk:∀e,e<cf->e∉([]:List Nat)->e≠(aM+1+1)+7->U X bY e=U X bN e:=λe J Q ak=>by
  rw[nf e Zo Q,aC Zo ak]
 have tk:U X bY (aM+1)=zu (ho 23 x.at_ [] false dQ 0 D.aT) 9:=by
  rw[dk _ Zo (λa=>zq (vL _ a)) Zo];exact sb
 obtain⟨rs,B8,avA⟩:=k1.one tH
 refine cI ⟨?_⟩
 refine f7 (ud tk Zo Zo rs B8) ?_
 have rl:∀e∈GF,aM+2<=e/\e<cf+1:=by
  intro e B
  rcases sh e B with rfl|B
  ·omega
  ·have:=vL e B;omega
 have Ej:dz X bY (wv (aM+2) (cf+1) GF) ([]++[J1]) ([]++[.ptr wt 0]):=by
  refine dz.snoc (cE.aa (λe B=> ?_) _ _ dR) (dz.aa (λe B=> ?_) _ _ vS) (λe B=>⟨B.1,zq B.2.1,λgA=> ?_⟩) (λe B=>⟨⟨zq B.1,zq B.2,λgA=> ?_⟩,λpU=>by have:=B.1;have:=pU.2.1;omega⟩)
  ·have J:=B.1
   exact dk e B.2 (λgA=>zq (vL e gA)) Zo
  ·have Q:=B.2.1
   exact dk e Zo B.2.2 Zo
  ·have Q:=B.2.1
   rcases sh e gA with rfl|gA
   ·omega
   ·exact B.2.2 gA
  ·have J:=B.1;have Q:=B.2
   rcases sh e gA with rfl|gA
   ·omega
   ·have:=vL e gA;omega
 have eC:cg X [aG] h j bY (cf+1):=⟨Zo,λb ag bU=>by
  rw[dk b Zo (λE=>zq (vL _ E)) Zo];exact rj.aa b ag bU⟩
 have hT:=hz.aa (dk aG Zo (λE=>zq (vL _ E)) Zo) (dk bQ Zo (λE=>zq (vL _ E)) Zo)
 clear vS dR hz dG rj sb pT kA iE nf sh rs B8 aeI ady afS afB TQ
 refine cI ⟨?_⟩
 refine eL (λcn=>U X cn (cf+1)=zu [.str [116,104,101,110]] 1/\U X cn (aM+1)=zu (ho 23 x.at_ [] false dQ 0 Mw) 9/\(∀e,e<cf+1->e≠aM+1->U X cn e=U X bY e)) ⟨bb Zo, ?_, ?_⟩ ?_
 ·simp(disch:=omega) only[aC,bb]<;>rfl
 ·intro e J Q
  simp(disch:=omega) only[aC]
 clear tk
 rintro cn ⟨D0,Kh,fJ⟩
 have h5:=hT.aa (fJ aG Zo Zo) (fJ bQ Zo Zo)
 have nT:=aw.go h5 (by omega:j<=cf+1+1)
 have en:cg X [aG] h j cn (cf+1+1):=⟨Zo,λb ag bU=>by rw[fJ b Zo Zo];exact eC.aa b ag bU⟩
 rcases gK Y with ⟨F,eI,rfl⟩|⟨A0,mM,eI,Y⟩
 ·exact(jZ au nT Zo Zo D0 eI).mono (λac S' am a=>by obtain⟨E,cA,a,_⟩:=a;cases a) (λac S' am a=>a.of en (λ_ a=>by cases a;rfl))
 refine(jZ au nT Zo Zo D0 eI).mono ?_ (λac S' am a=>by obtain⟨F,a,_⟩:=a;cases a)
 clear eI
 rintro IY vm xP ⟨aDi,aE6,Eh,_,afC,gS⟩
 cases Eh
 have aEg:=gS.le
 have TR:=en.trans gS
 have Tn:U X vm (aM+1)=zu (ho 23 x.at_ [] false dQ 0 Mw) 9:=by rw[gS.aa _ Zo Zx];exact Kh
 have ev:∀e,aM+2<=e->e<cf+1->U X vm e=U X bY e:=λe J Q=>by
  rw[gS.aa e Zo Zx,fJ e Q Zo]
 have afT:gw X vm Mw 1 ([]++[.ptr wt 0]) GF:= .inl (tH.aa (λe B=>ev e (rl e B).1 (rl e B).2))
 have aeJ:dz X vm (wv (aM+2) xP GF) ([]++[J1]) ([]++[.ptr wt 0]):=
  dz.lift (λe B=>⟨B.1,zq B.2.1,B.2.2⟩) _ _ (dz.aa (λe B=>ev e B.1 B.2.1) _ _ Ej)
 have rl:∀e∈GF,aM+2<=e/\e<xP:=λe B=>zq (rl e B)
 clear Ej tH hT eC h5 nT en gS D0 Kh fJ dk ev
 refine cL (bp Tn) ho.eq_1 ⟨?_⟩
 have ah2:=aw.go afC (by omega:j<=xP+12)
 rcases gK Y with ⟨F,bt,rfl⟩|⟨SP,fZ,bt,Y⟩
 ·exact((ai n Zo).arrow vm _ _ _ ah2 bt).mono (λac S' am a=>by obtain⟨E,cA,a,_⟩:=a;cases a) (λac S' am a=>a.of (cg.ko TR Zo) (λ_ a=>by cases a;rfl))
 refine((ai n Zo).arrow vm _ _ _ ah2 bt).mono ?_ (λac S' am a=>by obtain⟨F,a,_⟩:=a;cases a)
 clear bt
 rintro v5 bN cf ⟨NU,aE9,tt,dR,hz,dG⟩
 cases tt
 have iH:=dG.le
 have rj:=(cg.ko TR (by omega:xP<=xP+12)).trans dG
 obtain⟨CX,rfl,sm,_⟩:=dR.ptr
 have sm:=sm.2
 have sb:U X bN (aM+1)=zu (ho 23 x.at_ [] false dQ 0 Mw) 9:=by rw[dG.aa _ Zo Zx];exact Tn
 have mq:∀e,aM+2<=e->e<xP->U X bN e=U X vm e:=λe J Q=>dG.aa e Zo Zx
 have pT:=afT.aa (S':=bN) (λe B=>mq e (rl e B).1 (rl e B).2)
 have vS:=dz.aa (S':=bN) (λe B=>mq e B.1 B.2.1) _ _ aeJ
 clear mq
 refine cL (bp sb) ho.eq_1 ⟨?_⟩
 refine gp avA ?_
 have kA:lG X (bi X bN (xP+7) (zu [.ptr CX 0] 1)) 1 (.slice (xP+7) 0 1 1)=some (1,[.ptr CX 0]):=sJ (bb Zo) (nk _) rfl _
 obtain⟨FC,bY,GG,iE,tH,sh,nf⟩:=(pT.aa (S':=bi X bN (xP+7) (zu [.ptr CX 0] 1)) (λe B=>aC Zo (zq (rl e B).2))).append (j:=cf) Zd kA rfl Zd rfl Zs Zo (λe B=>zq (rl e B).2)
 refine j8 iE ?_
 have dk:∀e,e<cf->e∉GF->e≠xP+7->U X bY e=U X bN e:=λe J Q ak=>by
  rw[nf e Zo Q,aC Zo ak]
 have tk:U X bY (aM+1)=zu (ho 23 x.at_ [] false dQ 0 Mw) 9:=by
  rw[dk _ Zo (λa=>zq (rl _ a)) Zo];exact sb
 obtain⟨rs,B8,avB⟩:=k1.one tH
 refine cI ⟨?_⟩
 refine f7 (ud tk Zo Zo rs B8) ?_
 have rm:∀e∈GG,aM+2<=e/\e<cf+1:=by
  intro e B
  rcases sh e B with rfl|B
  ·omega
  ·have:=rl e B;omega
 have Ej:dz X bY (wv (aM+2) (cf+1) GG) (([]++[J1])++[SP]) (([]++[.ptr wt 0])++[.ptr CX 0]):=by
  refine dz.snoc (cE.aa (λe B=> ?_) _ _ dR) (dz.aa (λe B=> ?_) _ _ vS) (λe B=>⟨B.1,zq B.2.1,λgA=> ?_⟩) (λe B=>⟨⟨zq B.1,zq B.2,λgA=> ?_⟩,λpU=>by have:=B.1;have:=pU.2.1;omega⟩)
  ·have J:=B.1
   exact dk e B.2 (λgA=>zq (rl e gA)) Zo
  ·have Q:=B.2.1
   exact dk e Zo B.2.2 Zo
  ·have Q:=B.2.1
   rcases sh e gA with rfl|gA
   ·omega
   ·exact B.2.2 gA
  ·have J:=B.1;have Q:=B.2
   rcases sh e gA with rfl|gA
   ·omega
   ·have:=rl e gA;omega
 have eC:cg X [aG] h j bY (cf+1):=⟨Zo,λb ag bU=>by
  rw[dk b Zo (λE=>zq (rl _ E)) Zo];exact rj.aa b ag bU⟩
 have hT:=hz.aa (dk aG Zo (λE=>zq (rl _ E)) Zo) (dk bQ Zo (λE=>zq (rl _ E)) Zo)
 clear vS dR hz dG rj sb pT kA iE nf sh rs B8 aeJ Tn afT afC TR
 refine cI ⟨?_⟩
 refine eL (λcn=>U X cn (cf+1)=zu [.str [101,108,115,101]] 1/\U X cn (aM+1)=zu (ho 23 x.at_ [] false dQ 0 FC) 9/\(∀e,e<cf+1->e≠aM+1->U X cn e=U X bY e)) ⟨bb Zo, ?_, ?_⟩ ?_
 ·simp(disch:=omega) only[aC,bb]<;>rfl
 ·intro e J Q
  simp(disch:=omega) only[aC]
 clear tk
 rintro cn ⟨D0,Kh,fJ⟩
 have h5:=hT.aa (fJ aG Zo Zo) (fJ bQ Zo Zo)
 have nT:=aw.go h5 (by omega:j<=cf+1+1)
 have en:cg X [aG] h j cn (cf+1+1):=⟨Zo,λb ag bU=>by rw[fJ b Zo Zo];exact eC.aa b ag bU⟩
 rcases gK Y with ⟨F,eI,rfl⟩|⟨A0,mM,eI,Y⟩
 ·exact(jZ au nT Zo Zo D0 eI).mono (λac S' am a=>by obtain⟨E,cA,a,_⟩:=a;cases a) (λac S' am a=>a.of en (λ_ a=>by cases a;rfl))
 refine(jZ au nT Zo Zo D0 eI).mono ?_ (λac S' am a=>by obtain⟨F,a,_⟩:=a;cases a)
 clear eI
 rintro IY Ds xQ ⟨aDi,aE7,Eh,_,afD,gS⟩
 cases Eh
 have aEh:=gS.le
 have TS:=en.trans gS
 have To:U X Ds (aM+1)=zu (ho 23 x.at_ [] false dQ 0 FC) 9:=by rw[gS.aa _ Zo Zx];exact Kh
 have ev:∀e,aM+2<=e->e<cf+1->U X Ds e=U X bY e:=λe J Q=>by
  rw[gS.aa e Zo Zx,fJ e Q Zo]
 have afU:gw X Ds FC 1 (([]++[.ptr wt 0])++[.ptr CX 0]) GG:= .inl (tH.aa (λe B=>ev e (rm e B).1 (rm e B).2))
 have aeK:dz X Ds (wv (aM+2) xQ GG) (([]++[J1])++[SP]) (([]++[.ptr wt 0])++[.ptr CX 0]):=
  dz.lift (λe B=>⟨B.1,zq B.2.1,B.2.2⟩) _ _ (dz.aa (λe B=>ev e B.1 B.2.1) _ _ Ej)
 have rm:∀e∈GG,aM+2<=e/\e<xQ:=λe B=>zq (rm e B)
 clear Ej tH hT eC h5 nT en gS D0 Kh fJ dk ev
 refine cL (bp To) ho.eq_1 ⟨?_⟩
 have ah3:=aw.go afD (by omega:j<=xQ+12)
 rcases gK Y with ⟨F,bt,rfl⟩|⟨aqk,fZ,bt,Y⟩
 ·exact((ai n Zo).arrow Ds _ _ _ ah3 bt).mono (λac S' am a=>by obtain⟨E,cA,a,_⟩:=a;cases a) (λac S' am a=>a.of (cg.ko TS Zo) (λ_ a=>by cases a;rfl))
 refine((ai n Zo).arrow Ds _ _ _ ah3 bt).mono ?_ (λac S' am a=>by obtain⟨F,a,_⟩:=a;cases a)
 clear bt
 rintro v5 bN cf ⟨NU,awj,tt,dR,hz,dG⟩
 cases tt
 have iH:=dG.le
 have rj:=(cg.ko TS (by omega:xQ<=xQ+12)).trans dG
 obtain⟨Mn,rfl,sm,_⟩:=dR.ptr
 have sm:=sm.2
 have sb:U X bN (aM+1)=zu (ho 23 x.at_ [] false dQ 0 FC) 9:=by rw[dG.aa _ Zo Zx];exact To
 have mq:∀e,aM+2<=e->e<xQ->U X bN e=U X Ds e:=λe J Q=>dG.aa e Zo Zx
 have pT:=afU.aa (S':=bN) (λe B=>mq e (rm e B).1 (rm e B).2)
 have vS:=dz.aa (S':=bN) (λe B=>mq e B.1 B.2.1) _ _ aeK
 clear mq
 refine cL (bp sb) ho.eq_1 ⟨?_⟩
 refine gp avB ?_
 have kA:lG X (bi X bN (xQ+7) (zu [.ptr Mn 0] 1)) 1 (.slice (xQ+7) 0 1 1)=some (1,[.ptr Mn 0]):=sJ (bb Zo) (nk _) rfl _
 obtain⟨WU,bY,Sd,iE,tH,sh,nf⟩:=(pT.aa (S':=bi X bN (xQ+7) (zu [.ptr Mn 0] 1)) (λe B=>aC Zo (zq (rm e B).2))).append (j:=cf) Zd kA rfl Zd rfl Zs Zo (λe B=>zq (rm e B).2)
 refine j8 iE ?_
 have dk:∀e,e<cf->e∉GG->e≠xQ+7->U X bY e=U X bN e:=λe J Q ak=>by
  rw[nf e Zo Q,aC Zo ak]
 have tk:U X bY (aM+1)=zu (ho 23 x.at_ [] false dQ 0 FC) 9:=by
  rw[dk _ Zo (λa=>zq (rm _ a)) Zo];exact sb
 obtain⟨rs,B8,aEU⟩:=k1.one tH
 refine cI ⟨?_⟩
 refine f7 (ud tk Zo Zo rs B8) ?_
 have aev:∀e∈Sd,aM+2<=e/\e<cf+1:=by
  intro e B
  rcases sh e B with rfl|B
  ·omega
  ·have:=rm e B;omega
 have Ej:dz X bY (wv (aM+2) (cf+1) Sd) (([]++[J1]++[SP])++[aqk]) (([]++[.ptr wt 0]++[.ptr CX 0])++[.ptr Mn 0]):=by
  refine dz.snoc (cE.aa (λe B=> ?_) _ _ dR) (dz.aa (λe B=> ?_) _ _ vS) (λe B=>⟨B.1,zq B.2.1,λgA=> ?_⟩) (λe B=>⟨⟨zq B.1,zq B.2,λgA=> ?_⟩,λpU=>by have:=B.1;have:=pU.2.1;omega⟩)
  ·have J:=B.1
   exact dk e B.2 (λgA=>zq (rm e gA)) Zo
  ·have Q:=B.2.1
   exact dk e Zo B.2.2 Zo
  ·have Q:=B.2.1
   rcases sh e gA with rfl|gA
   ·omega
   ·exact B.2.2 gA
  ·have J:=B.1;have Q:=B.2
   rcases sh e gA with rfl|gA
   ·omega
   ·have:=rm e gA;omega
 have eC:cg X [aG] h j bY (cf+1):=⟨Zo,λb ag bU=>by
  rw[dk b Zo (λE=>zq (rm _ E)) Zo];exact rj.aa b ag bU⟩
 have hT:=hz.aa (dk aG Zo (λE=>zq (rm _ E)) Zo) (dk bQ Zo (λE=>zq (rm _ E)) Zo)
 clear vS dR hz dG rj sb pT kA iE nf sh rs B8 aeK To afU afD TS
 simp only[ok,Zf]at Y
 subst Y
 have he:∀e,e≠aM+1->U X (bi X bY (aM+1) (some (.cells ((R.ofList (ho 23 x.at_ [] false dQ 0 FC) 0 .nil).set 8 (some WU)) 9 .own))) e=U X bY e:=λe a=>aC Zo a
 obtain⟨cO,cC⟩:=(gw.aa (S':=bi X bY (aM+1) (some (.cells ((R.ofList (ho 23 x.at_ [] false dQ 0 FC) 0 .nil).set 8 (some WU)) 9 .own))) (.inl tH) (λe B=>he e (zq (aev e B)))).Mr (P:=λe=>dx (aM+2) (cf+1) e/\e∈Sd) Zs (λe B=>⟨by have:=aev e B;exact⟨Zo,Zo⟩,B⟩)
 refine bJ _ _ _ ⟨.ptr (aM+1) 0,be,_,awj,rfl,cE.of (b:=aM+1) (m:=9) (st:= .own) (cO:=cO) (aS:=WU) (kind:=23) (at_:=x.at_) (name:=[]) (no:=false) (ty:=dQ) (n:=0) (br:=[.ptr wt 0, .ptr CX 0, .ptr Mn 0]) ?_ ⟨Zo,Zo⟩ (cC.lift (λe B=>⟨zq B.1.1,B.1.2⟩)) (λ_=> ?_) ?_, ?_, ?_⟩
 ·rw[bb Zo];rfl
 ·have:=(cC.ag Zs).1.1
  omega
 ·exact dz.lift (λe B=>⟨⟨zq B.1.1,zq B.1.2⟩,zq B.1.1,B.2⟩) _ _ (dz.off (dz.aa (λe B=>he e (zq B.1)) _ _ Ej) cC)
 ·exact hT.aa (he _ Zo) (he _ Zo)
 ·exact⟨eC.le,λb ag bU=>by rw[he b Zo];exact eC.aa b ag bU⟩
end
section
variable{X:ch}{h S' aK aJ:R af}{j am aM aR aG bQ:Nat}{aU:List Tok}{i:Nat}
def azQ(au:di X){n:Nat}(tA:n<=300000)(ai:∀m,m<n->rU X aG bQ aU m):∀h j i r,i6 X h j aG bQ aU i->Go.aQ.part n (aU.drop i)=some r->aW X 153 [.ptr aG 0] h j (ka X aG bQ aU h j r) (jm X aG h j r):=by
 intro h j i r aw Y
 cases n with
 |zero=>simp[Go.aQ.part]at Y
 |succ n=>
 cases aE:aU.drop i with
 |nil=>rw[aE]at Y;simp[Go.aQ.part]at Y
 |cons x k=>
 rw[aE]at Y
 by_cases dY:x.kind=5
 ·exact azN au aw aE dY Y
 by_cases bW:x.kind=1
 ·exact azP au ai aw aE Zo bW Y
 by_cases cS:x.kind=3
 ·exact azS au ai aw aE cS Y
 by_cases dk:x.kind=6
 ·by_cases a8:x.text=[40]
  ·exact azR au ai aw aE dk a8 Y
  ·exact Wx au aw aE dY bW cS (λ_=>a8) (λa=>Zo) Y
 by_cases cq:x.kind=2
 ·by_cases J:x.text=[116,114,117,101]
  ·exact ahS au aw aE cq (.inl J) Y
  by_cases Q:x.text=[102,97,108,115,101]
  ·exact ahS au aw aE cq (.inr Q) Y
  by_cases ak:x.text=[105,102]
  ·exact azM au ai aw aE cq ak Y
  by_cases ay:x.text=[109,101,114,103,101]
  ·exact azO au ai aw aE cq ay Y
  ·exact Wx au aw aE dY bW cS (λa=>Zo) (λ_=>⟨J,Q,ak,ay⟩) Y
 ·exact Wx au aw aE dY bW cS (λa=>Zo) (λa=>absurd a cq) Y
def abO(au:di X)(d7:wK X):∀n,n<=300000->rU X aG bQ aU n:=by
 intro n
 induction n using Nat.strongRecOn with
 |ind n ai=>
  intro aF
  have ai:∀m,m<n->rU X aG bQ aU m:=λm bo=>ai m bo Zo
  exact⟨axK au d7 ai,aBo au ai,az5 au ai,azQ au aF ai,aq4 au ai,aoJ au ai,axV au aF ai⟩
end
def LF(n:Int):D:= .Z n
def vl(X:ch)(h:R af)(hM aN:Nat)(left:List aX)(dg:List Int):Prop:=hM<aN/\(o X).a6<=hM/\∃c aS kW GD wY,U X h hM=some (.cells c 4 .own)/\c.get 0=some aS/\c.get 1=some kW/\gw X h aS 1 (left.map .str) GD/\gw X h kW 1 (dg.map LF) wY
 /\(∀e∈GD,hM<e/\e<aN/\e∉wY)/\∀e∈wY,hM<e/\e<aN
def vl.aa{X:ch}{h S':R af}{hM aN lz:Nat}{left:List aX}{dg:List Int}(a:vl X h hM aN left dg)(y:∀e,hM<=e->e<aN->U X S' e=U X h e)(gU:aN<=lz):vl X S' hM lz left dg:=by
 obtain⟨aY,D3,c,aS,kW,GD,wY,J,Q,ak,ay,bt,b4,dh⟩:=a
 exact⟨Zo,D3,c,aS,kW,GD,wY,by rw[y hM Zo aY];exact J,Q,ak,ay.aa (λe B=>y e (zq (b4 e B)) (b4 e B).2.1),bt.aa (λe B=>y e (zq (dh e B)) (dh e B).2),
  λe B=>by have:=b4 e B;exact⟨this.1,Zo,this.2.2⟩,λe B=>zq (dh e B)⟩
def gw.one{C:aL}{h:R af}{s:D}{bs:Nat}{k:List D}{cw:List Nat}(a:gw C h s bs k cw):s.cells=[s]/\qN s=true/\D.same 30 s s=true:=by
 rcases a with a|⟨b,n,c,st,rfl,_⟩
 ·exact k1.one a
 ·exact⟨rfl,rfl,by simp[D.same]⟩
section
variable{X:ch}{h S' aK aJ:R af}{j am aM aR aG bQ:Nat}{aU:List Tok}{i:Nat}
def Wl(au:di X)(aw:i6 X h j aG bQ aU i){jv hM:Nat}(Le:jv<hM)(aEK:jv≠aG)(atz:aG<hM)(atA:bQ<hM)(avb:aI X h (.ptr jv 0)=some (.ptr aG 0)){left:List aX}{dg:List Int}(b3:vl X h hM j left dg)(bo:left.length<=1000000)(Eo:dg.length<=300000){x:Tok}{k:List Tok}(aE:aU.drop i=x::k):
 aW X 94 [.ptr jv 0, .ptr hM 0] h j (λac S' am=>x.kind=1/\ac= .tuple []/\vl X S' hM am (left++[x.text]) (dg++[x.at_])/\aQ X S' aG bQ aU (i+1)/\j<=am/\cg X [aG] h hM S' am)
  (λac S' am=>x.kind≠1/\ac=pG 21 x.at_/\cg X [aG] h j S' am):=by
 refine zx au (anF X) ?_
 rw[anG]
 unfold abn
 have g6:=aw.a6
 have ky:=aw.hK
 have ir:=aw.b7
 have j2:=aw.hg
 refine ce @avb ⟨?_⟩
 refine(CO au aw.a6 aw.par aw.b7 aw.hK aw.hg aw.many (fU aE).1 1).mono ?_ (λac S' am a=>a)
 rintro ac aK aM ⟨aH,rfl,eo,iC⟩
 have jG:=iC.le
 have it:=b3.aa (S':=aK) (lz:=aM) (λe J Q=>iC.aa e Q Zx) jG
 have aEQ:=b3.1
 clear b3
 obtain⟨aY,D3,c,aS,kW,GD,wY,bK,b1,cM,dF,fj,d0,ek⟩:=it
 obtain⟨g2,nr,sF⟩:=gw.one dF
 obtain⟨Ir,CL,tP⟩:=gw.one fj
 refine fW cd.eq_1 (bp bK) @b1 @cM ⟨?_⟩
 have kA:∀gP,U X gP (aM+1+4)=zu [.str x.text] 1->lG X gP 1 (.slice (aM+1+4) 0 1 1)=some (1,[.str x.text]):=λgP a=>sJ a (nk _) rfl _
 have avI:∀gP,U X gP (aM+1+10)=zu [.Z x.at_] 1->lG X gP 1 (.slice (aM+1+10) 0 1 1)=some (1,[.Z x.at_]):=λgP a=>sJ a (nk _) rfl _
 generalize e0:bi X _ (aM+1+10) _=a1
 have cS:∀e,e<aM->U X a1 e=U X aK e:=λe B=>by rw[<-e0];exact zw
 have t3:U X a1 aM=zu (cd x) 7:=by rw[<-e0];simp(disch:=omega) only[aC,bb]<;>rfl
 have fV:U X a1 (aM+1+4)=zu [.str x.text] 1:=by rw[<-e0];simp(disch:=omega) only[aC,bb]<;>rfl
 have kw:U X a1 (aM+1+10)=zu [.Z x.at_] 1:=by rw[<-e0];simp(disch:=omega) only[aC,bb]<;>rfl
 clear e0
 obtain⟨eX,bA,ab2,iE,qE,vK,fH⟩:=(dF.aa (S':=a1) (λe B=>cS e (d0 e B).2.1)).append (j:=aM+1+16) Zd (kA a1 fV) rfl Zd rfl Zx Zo (λe B=>zq (d0 e B).2.1)
 refine j8 iE ?_
 have fQ:U X bA hM=some (.cells c 4 .own):=by rw[fH _ Zo (λa=>zq (d0 _ a).1),cS _ aY];exact bK
 have t4:U X bA aM=zu (cd x) 7:=by rw[fH _ Zo (λa=>zq (d0 _ a).2.1)];exact t3
 have pF:U X bA (aM+1+10)=zu [.Z x.at_] 1:=by rw[fH _ Zo (λa=>zq (d0 _ a).2.1)];exact kw
 refine cL (bp fQ) @cM ⟨?_⟩
 refine gp tP ?_
 refine cL (bp t4) cd.eq_1 ⟨?_⟩
 refine gp (pk _ _) ?_
 have arH:gw X bA kW 1 (dg.map LF) wY:=fj.aa (λe B=>by
  rw[fH e (zq (ek e B)) (λa=>(d0 e a).2.2 B)]
  exact cS e (ek e B).2)
 obtain⟨WV,bN,Sc,atl,pT,y6,nd⟩:=arH.append (j:=aM+1+16+1) Zd (avI bA pF) rfl Zd rfl Zx Zo (λe B=>zq (ek e B).2)
 refine j8 atl ?_
 obtain⟨fK,hX,xU⟩:=k1.one qE
 obtain⟨Mh,azy,aFx⟩:=k1.one pT
 have mU:U X bN hM=some (.cells c 4 .own):=by rw[nd _ Zo (λa=>zq (ek _ a).1)];exact fQ
 refine f7 (ud mU Zo Zo fK hX) ?_
 refine cI ⟨?_⟩
 refine f7 (ud (bb Zo) Zo Zo Mh azy) ?_
 have agv:∀e∈ab2,hM<e/\e<aM+1+16+1+1/\e∉Sc:=by
  intro e B
  rcases vK e B with rfl|B
  ·refine⟨Zo,Zo,λa=> ?_⟩
   rcases y6 _ a with a|a
   ·omega
   ·have:=ek _ a;omega
  ·obtain⟨a7,b6,a3⟩:=d0 e B
   refine⟨Zo,Zo,λa=> ?_⟩
   rcases y6 _ a with a|a
   ·omega
   ·exact a3 a
 have agw:∀e∈Sc,hM<e/\e<aM+1+16+1+1:=by
  intro e B
  rcases y6 e B with rfl|B
  ·omega
  ·have:=ek e B;omega
 have fJ:∀gP,gP=bi X (bi X bN hM (some (.cells (c.set 0 (some eX)) 4 .own))) hM (some (.cells ((c.set 0 (some eX)).set 1 (some WV)) 4 .own))->∀e,e≠hM->U X gP e=U X bN e:=by
  rintro gP rfl e B
  rw[aC Zo B,aC Zo B]
 refine⟨aH,rfl,⟨Zo,D3,(c.set 0 (some eX)).set 1 (some WV),eX,WV,ab2,Sc,bb Zo, ?_, ?_, ?_, ?_,agv,agw⟩, ?_,Zo,Zo,λb ag bU=> ?_⟩
 ·rw[R.kN,Zh Zd,R.kN,Zp rfl]
 ·rw[R.kN,Zp rfl]
 ·rw[ZQ]
  refine .inl (qE.aa λe B=> ?_)
  have:=agv e B
  rw[fJ _ rfl e Zo,nd e (by rcases vK e B with rfl|a;omega;have:=d0 e a;omega) (λa=> ?_)]
  rcases vK e B with rfl|cy
  ·have:=ek _ a;omega
  ·exact(d0 e cy).2.2 a
 ·rw[ZQ]
  exact .inl (pT.aa λe B=>fJ _ rfl e (zq (agw e B)))
 ·have gM:∀e,e<hM->U X bN e=U X aK e:=λe B=>by
   rw[nd e Zo (λa=>zq (ek _ a)),fH e Zo (λa=>zq (d0 _ a)),cS e Zo]
  exact eo.aa (by rw[fJ _ rfl _ Zo,gM _ atz]) (by rw[fJ _ rfl _ Zo,gM _ atA])
 ·rw[fJ _ rfl _ Zo,nd b Zo (λa=>zq (ek _ a)),fH b Zo (λa=>zq (d0 _ a)),cS b Zo]
  exact iC.aa b Zo bU
end
def ym(X:ch)(h:R af)(P:Nat->Prop)(aj:f8)(row:List D):Prop:=∃aS kW bZ cu kF,row=[aS,kW, .Z aj.at_,kF]/\dL X h P bZ aS 1 (fL aj.left)/\(dL X h P cu kW 1 (aj.dg.map λn=>[LF n])/\cE X h (λe=>P e/\(aj.dg≠[]->e≠cu)) aj.right kF)/\cE X h P aj.right kF/\ju row=true
def ym.aa{X:ch}{h S':R af}{P bg:Nat->Prop}{aj:f8}{row:List D}(a:ym X h P aj row)(y:∀e,P e->U X S' e=U X h e)(az:∀e,P e->bg e):ym X S' bg aj row:=by
 obtain⟨aS,kW,bZ,cu,kF,J,Q,ak,ay,bt⟩:=a
 exact⟨aS,kW,bZ,cu,kF,J,(Q.aa y).lift az,⟨(ak.1.aa y).lift az,cE.lift (λe B=>⟨az e B.1,B.2⟩) _ _ (cE.aa (λe B=>y e B.1) _ _ ak.2)⟩,cE.lift az _ _ (cE.aa y _ _ ay),bt⟩
section
variable{X:ch}{h S' aK aJ:R af}{j am aM aR aG bQ:Nat}{aU:List Tok}{i:Nat}
def aqM(au:di X)(d7:wK X){n:Nat}(tA:n<=200000)(aw:i6 X h j aG bQ aU i){r:Except Int (f8×List Tok)}(Y:tf n (aU.drop i)=some r):
 aW X 73 [.ptr aG 0] h j (λac S' am=>∃aj cA row,r= .ok (aj,aU.drop cA)/\ac= .agg row/\ym X S' (dx j am) aj row/\aQ X S' aG bQ aU cA/\cg X [aG] h j S' am) (jm X aG h j r):=by
 refine zx au (amZ X) ?_
 rw[am0]
 unfold aaY
 have g6:=aw.a6
 have ky:=aw.hK
 have ir:=aw.b7
 have j2:=aw.hg
 unfold tf at Y
 obtain⟨x,bM,aE,ae⟩:=rM Y
 refine cI ⟨?_⟩
 refine eL (λaK=>aI X aK (.ptr j 0)=some (.ptr aG 0)/\U X aK (j+1)=zu [.aT, .aT, .Z 0, .cF] 4/\vl X aK (j+2) (j+1+1+1) [] []/\aQ X aK aG bQ aU i/\bf X h j aK (j+1+1+1)) ⟨?_, ?_, ?_, ?_, ?_⟩ ?_
 ·exact be
 ·simp(disch:=omega) only[aC,bb]<;>rfl
 ·exact⟨Zo,Zo,_, .aT, .aT,[],[],bb Zo,rfl,rfl, .inl (.inl ⟨rfl,rfl,rfl⟩), .inl (.inl ⟨rfl,rfl,rfl⟩),Zs,Zs⟩
 ·exact aw.par.aa (zw) (zw)
 ·exact dA
 rintro aK ⟨fx,ri,it,eo,bH⟩
 have nt:=aw.go eo (by omega:j<=j+1+1+1)
 refine(oF au nt aE _).Zm ?_
 rintro C5 aJ aR ⟨rfl,dD,du⟩
 have fC:=du.le
 have xl:=(cg.of (X:=[aG]) bH).trans du
 refine o1 cd.eq_1 ⟨?_⟩
 refine jW (λH S' aP=>∃(ci:List Tok) (cA:Nat),H.g 1=some (.ptr j 0)/\H.g 2=some (.ptr (j+1) 0)/\H.g 3=some (.ptr (j+2) 0)/\vl X S' (j+2) aP (ci.map Tok.text) (ci.map Tok.at_)/\aQ X S' aG bQ aU cA/\j+2<aP/\cg X [aG] h j S' aP/\aI X S' (.ptr j 0)=some (.ptr aG 0)/\U X S' (j+1)=zu [.aT, .aT, .Z 0, .cF] 4/\ci.length<=300000/\
  (andThen (ee [61] (aU.drop cA)) λE k=>andThen (arrow n k) λr k=>andThen (ee [59] k) λ_ k=>ok (⟨ci.map Tok.text,ci.map Tok.at_,E.at_,r⟩:f8) k)=some r) (λT bJ=> ?_) ?_
 ·
  have Hc:aI X aJ (.ptr j 0)=some (.ptr aG 0):=by rw[du.ep _ _ Zo Zx];exact fx
  have vC:U X aJ (j+1)=zu [.aT, .aT, .Z 0, .cF] 4:=by rw[du.aa _ Zo Zx];exact ri
  have mK:=it.aa (S':=aJ) (lz:=aR) (λe J Q=>du.aa e Q Zx) fC
  rcases ae with ⟨aD,Y⟩|⟨aD,Y⟩
  ·rw[aD]at dD ⊢
   simp only[ZE]at dD ⊢
   rw[<-(fU aE).2]at Y
   simp only[]at Y
   refine ce cd.eq_1 ⟨?_⟩
   simp only[Yn,Yv]
   refine eL (λa1=>aI X a1 (.ptr j 0)=some (.ptr aG 0)/\U X a1 (j+1)=zu [.aT, .aT, .Z 0, .cF] 4/\vl X a1 (j+2) (aR+1) [] []/\aQ X a1 aG bQ aU (i+1)/\cg X [aG] h j a1 (aR+1)) ⟨?_, ?_, ?_, ?_, ?_⟩ ?_
   ·exact Ti @Hc
   ·simp(disch:=omega) only[aC];exact vC
   ·exact mK.aa (λe J Q=>zw) Zo
   ·exact dD.aa (zw) (zw)
   ·exact⟨Zo,λb ag bU=>by rw[<-xl.aa b ag bU];exact zw⟩
   clear Hc vC mK dD xl du bH eo it ri fx nt
   rintro a1 ⟨vD,uF,pa,gV,eg⟩
   have nS:=aw.go gV (by omega:j<=aR+1)
   cases uM:aU.drop (i+1)with
   |nil=>rw[uM]at Y;simp[iI,andThen]at Y
   |cons e dZ=>
   rw[uM]at Y
   simp only[iI]at Y
   refine(Wl au nS Zo Zo Zo Zo vD pa Zs Zs uM).mono ?_ ?_
   ·rintro u9 bA cv ⟨fH,rfl,rt,hy,iG,eG⟩
    rw[Zp fH]at Y
    simp only[andThen,ok]at Y
    rw[<-(fU uM).2]at Y
    have D2:aI X bA (.ptr j 0)=some (.ptr aG 0):=by rw[eG.ep _ _ Zo Zx];exact vD
    have yV:U X bA (j+1)=zu [.aT, .aT, .Z 0, .cF] 4:=by rw[eG.aa _ Zo Zx];exact uF
    have aed:cg X [aG] h j bA cv:=⟨Zo,λb ag bU=>by rw[eG.aa b Zo bU];exact eg.aa b ag bU⟩
    refine ce @D2 ⟨?_⟩
    refine eL (λbN=>U X bN cv=zu [.str [44]] 1/\bf X bA cv bN (cv+1)) ⟨bb Zo,dA⟩ ?_
    rintro bN ⟨adP,dR⟩
    have pi:=aw.go (hy.ex dR Zo Zo) (by omega:j<=cv+1)
    have dG:=aed.trans (cg.of dR)
    have agi:=Y
    cases bw:ee [44] (aU.drop (i+1+1))with
    |none=>rw[bw]at Y;cases Y
    |some AR=>
    rw[bw]at Y
    refine(jZ au pi Zo Zo adP bw).mono ?_ ?_
    ·rintro AX bY dv ⟨vd,hU,rfl,_,hT,eC⟩
     have o7:=eC.le
     simp only[]at Y
     have Kj:aI X bY (.ptr j 0)=some (.ptr aG 0):=by rw[eC.ep _ _ Zo Zx,dR.ep _ _ Zo];exact D2
     have BO:U X bY (j+1)=zu [.aT, .aT, .Z 0, .cF] 4:=by rw[eC.aa _ Zo Zx,dR.aa _ Zo];exact yV
     have Lh:=rt.aa (S':=bY) (lz:=dv) (λe J Q=>by rw[eC.aa e Zo Zx,dR.aa e Q]) Zo
     have vG:=dG.trans eC
     clear D2 yV rt hy eG aed dG dR adP pi eC
     refine jW (λH S' aP=>∃(ci:List Tok) (cA:Nat),H.g 1=some (.ptr j 0)/\H.g 2=some (.ptr (j+1) 0)/\H.g 3=some (.ptr (j+2) 0)/\vl X S' (j+2) aP (ci.map Tok.text) (ci.map Tok.at_)/\aQ X S' aG bQ aU cA/\j+2<aP/\cg X [aG] h j S' aP/\aI X S' (.ptr j 0)=some (.ptr aG 0)/\U X S' (j+1)=zu [.aT, .aT, .Z 0, .cF] 4/\ci.length<=300000/\
      (andThen (andThen (ee [41] (aU.drop cA)) λ_ k=>ok ci k) λci k=>andThen (ee [61] k) λE k=>andThen (arrow n k) λr k=>andThen (ee [59] k) λ_ k=>ok (⟨ci.map Tok.text,ci.map Tok.at_,E.at_,r⟩:f8) k)=some r) (λAy aur=> ?_) ?_
     ·refine fp (λm H S' aP=>∃(ci:List Tok) (cA:Nat) (b:Bool),H.g 1=some (.ptr j 0)/\H.g 2=some (.ptr (j+1) 0)/\H.g 3=some (.ptr (j+2) 0)/\H.g 4=some (.func (.func 94) [] [.ptr j 0, .ptr (j+2) 0])/\H.g 7=some (.bool b)/\vl X S' (j+2) aP (ci.map Tok.text) (ci.map Tok.at_)/\aQ X S' aG bQ aU cA/\j+2<aP/\cg X [aG] h j S' aP/\aI X S' (.ptr j 0)=some (.ptr aG 0)/\U X S' (j+1)=zu [.aT, .aT, .Z 0, .cF] 4/\ci.length+m<=n+5/\
       (b=true->(andThen (andThen (fh m ci (aU.drop cA)) λci k=>andThen (ee [41] k) λ_ k=>ok ci k) λci k=>andThen (ee [61] k) λE k=>andThen (arrow n k) λr k=>andThen (ee [59] k) λ_ k=>ok (⟨ci.map Tok.text,ci.map Tok.at_,E.at_,r⟩:f8) k)=some r)/\
       (b=false->(andThen (andThen (ee [41] (aU.drop cA)) λ_ k=>ok ci k) λci k=>andThen (ee [61] k) λE k=>andThen (arrow n k) λr k=>andThen (ee [59] k) λ_ k=>ok (⟨ci.map Tok.text,ci.map Tok.at_,E.at_,r⟩:f8) k)=some r))
       n ⟨[e],hU,true,be,be,be,be,be,Lh,hT,Zo,vG,Kj,BO,Zx,λ_=>Y,λa=>(by cases a)⟩ ?_
      clear Kj BO Lh hT vG Y agi bw
      rintro m H cn d8 ⟨ci,ni,b,t1,ew,t3,t4,t7,Eu,h5,UF,en,xi,yW,bo,B,k7⟩
      refine o1 @t7 ⟨?_⟩
      refine gk ?_
      cases b with
      |false=>
       refine wZ ?_
       exact aur _ _ _ ⟨ci,ni,aZ t1,aZ ew,aZ t3,Eu,h5,UF,en,xi,yW,Zo,k7 rfl⟩
      |true=>
       have Y:=B rfl
       cases m with
       |zero=>simp[fh,andThen]at Y
       |succ m=>
       unfold fh at Y
       refine w0 ?_
       have nT:=aw.go h5 (by omega:j<=d8)
       refine ce @t4 ⟨?_⟩
       simp only[Yn,Yv]
       cases ts:aU.drop ni with
       |nil=>rw[ts]at Y;simp[iI,andThen]at Y
       |cons bu kR=>
       rw[ts]at Y
       simp only[iI]at Y
       refine(Wl au nT Zo Zo Zo Zo xi Eu Zx Zx ts).mono ?_ ?_
       ·rintro u8 dC iw ⟨sk,rfl,avd,xD,Ae,gS⟩
        rw[Zp sk]at Y
        simp only[andThen,ok]at Y
        rw[<-(fU ts).2]at Y
        have adQ:aI X dC (.ptr j 0)=some (.ptr aG 0):=by rw[gS.ep _ _ Zo Zx];exact xi
        have Ol:U X dC (j+1)=zu [.aT, .aT, .Z 0, .cF] 4:=by rw[gS.aa _ Zo Zx];exact yW
        have asW:cg X [aG] h j dC iw:=⟨Zo,λb ag bU=>by rw[gS.aa b Zo bU];exact en.aa b ag bU⟩
        have tU:=aw.go xD (by omega:j<=iw)
        refine cL @t1 @adQ ⟨?_⟩
        cases si:aU.drop (ni+1)with
        |nil=>rw[si]at Y;simp[h9,lj]at Y
        |cons w mM=>
        refine(oF au tU si [44]).Zm ?_
        rintro IX dW d4 ⟨rfl,nh,hq⟩
        have pQ:=hq.le
        rw[si]at Y
        have yX:aI X dW (.ptr j 0)=some (.ptr aG 0):=by rw[hq.ep _ _ Zo Zx];exact adQ
        have xg:U X dW (j+1)=zu [.aT, .aT, .Z 0, .cF] 4:=by rw[hq.aa _ Zo Zx];exact Ol
        have U1:=avd.aa (S':=dW) (lz:=d4) (λe J Q=>hq.aa e Q Zx) pQ
        have BT:=asW.trans hq
        refine cI ⟨?_⟩
        refine⟨m,Zo,ci++[bu],_,g3 w [44],aZ t1,aZ ew,aZ t3,aZ t4,be,by simpa using U1,nh,Zo,BT,yX,xg,Zx,λa=> ?_,λa=> ?_⟩
        ·simp only[h9,lj,a,ZE]at Y ⊢
         rw[(fU si).2]
         exact Y
        ·simp only[h9,lj,a,Zy,ZC]at Y ⊢
         rw[si]
         exact Y
       ·rintro u8 dC iw ⟨sk,rfl,gS⟩
        rw[Zh sk]at Y
        simp only[andThen,bad,Zf]at Y
        subst Y
        exact⟨_,rfl,rfl,en.trans gS⟩
     ·clear Kj BO Lh hT vG Y agi bw
      rintro H cn d8 ⟨ci,ni,t1,ew,t3,Eu,h5,UF,en,xi,yW,bo,Y⟩
      refine cL @t1 @xi ⟨?_⟩
      refine eL (λdC=>U X dC d8=zu [.str [41]] 1/\bf X cn d8 dC (d8+1)) ⟨bb Zo,dA⟩ ?_
      rintro dC ⟨D1,hx⟩
      have tU:=aw.go (h5.ex hx Zo Zo) (by omega:j<=d8+1)
      have gS:=en.trans (cg.of hx)
      cases bw:ee [41] (aU.drop ni)with
      |none=>rw[bw]at Y;cases Y
      |some AR=>
      rw[bw]at Y
      refine(jZ au tU Zo Zo D1 bw).mono ?_ ?_
      ·rintro v9 dW d4 ⟨ve,i9,rfl,_,nh,hq⟩
       have pQ:=hq.le
       simp only[andThen,ok]at Y
       have yX:aI X dW (.ptr j 0)=some (.ptr aG 0):=by rw[hq.ep _ _ Zo Zx,hx.ep _ _ Zo];exact xi
       have xg:U X dW (j+1)=zu [.aT, .aT, .Z 0, .cF] 4:=by rw[hq.aa _ Zo Zx,hx.aa _ Zo];exact yW
       have U1:=Eu.aa (S':=dW) (lz:=d4) (λe J Q=>by rw[hq.aa e Zo Zx,hx.aa e Q]) Zo
       exact bJ _ _ _ ⟨ci,i9,t1,ew,t3,U1,nh,Zo,gS.trans hq,yX,xg,bo,Y⟩
      ·rintro v9 dW d4 ⟨F,rfl,rfl,hq⟩
       simp only[andThen,Zf]at Y
       subst Y
       exact⟨F,rfl,rfl,gS.trans hq⟩
    ·rintro AX bY dv ⟨F,rfl,rfl,eC⟩
     simp only[Zf]at Y
     subst Y
     exact⟨F,rfl,rfl,dG.trans eC⟩
   ·rintro u9 bA cv ⟨fH,rfl,eG⟩
    rw[Zh fH]at Y
    simp only[andThen,bad,Zf]at Y
    subst Y
    exact⟨_,rfl,rfl,eg.trans eG⟩
  ·rw[aD]at dD ⊢
   simp only[Zy,ZC]at dD ⊢
   simp only[]at Y
   refine cL cd.eq_1 hi.eq_1 ⟨?_⟩
   simp only[Yn,Yv]
   refine eL (λa1=>aI X a1 (.ptr j 0)=some (.ptr aG 0)/\U X a1 (j+1)=zu [.aT, .aT, .Z 0, .cF] 4/\vl X a1 (j+2) (aR+1) [] []/\aQ X a1 aG bQ aU i/\cg X [aG] h j a1 (aR+1)) ⟨?_, ?_, ?_, ?_, ?_⟩ ?_
   ·exact Ti @Hc
   ·simp(disch:=omega) only[aC];exact vC
   ·exact mK.aa (λe J Q=>zw) Zo
   ·exact dD.aa (zw) (zw)
   ·exact⟨Zo,λb ag bU=>by rw[<-xl.aa b ag bU];exact zw⟩
   clear Hc vC mK dD xl du bH eo it ri fx nt
   rintro a1 ⟨vD,uF,pa,gV,eg⟩
   have nS:=aw.go gV (by omega:j<=aR+1)
   rw[aE]at Y
   simp only[iI]at Y
   refine(Wl au nS Zo Zo Zo Zo vD pa Zs Zs aE).mono ?_ ?_
   ·rintro u9 bA cv ⟨fH,rfl,rt,hy,iG,eG⟩
    rw[Zp fH]at Y
    simp only[andThen,ok]at Y
    rw[<-(fU aE).2]at Y
    have D2:aI X bA (.ptr j 0)=some (.ptr aG 0):=by rw[eG.ep _ _ Zo Zx];exact vD
    have yV:U X bA (j+1)=zu [.aT, .aT, .Z 0, .cF] 4:=by rw[eG.aa _ Zo Zx];exact uF
    exact bJ _ _ _ ⟨[x],i+1,be,be,be,rt,hy,Zo,⟨Zo,λb ag bU=>by rw[eG.aa b Zo bU];exact eg.aa b ag bU⟩,D2,yV,Zs,Y⟩
   ·rintro u9 bA cv ⟨fH,rfl,eG⟩
    rw[Zh fH]at Y
    simp only[andThen,bad,Zf]at Y
    subst Y
    exact⟨_,rfl,rfl,eg.trans eG⟩
 ·clear ae Y dD xl du bH eo it ri fx nt aE
  rintro H a1 bn ⟨ci,i3,t1,ew,t3,pa,gV,aEv,eg,vD,uF,bo,Y⟩
  refine cL @t1 @vD ⟨?_⟩
  refine eL (λbA=>U X bA bn=zu [.str [61]] 1/\bf X a1 bn bA (bn+1)) ⟨bb Zo,dA⟩ ?_
  rintro bA ⟨DZ,cW⟩
  have lg:=aw.go (gV.ex cW Zo Zo) (by omega:j<=bn+1)
  have eG:=eg.trans (cg.of cW)
  rcases gK Y with ⟨F,bt,rfl⟩|⟨E,fZ,bt,Y⟩
  ·exact(jZ au lg Zo Zo DZ bt).mono (λac S' am a=>by obtain⟨E,cA,a,_⟩:=a;cases a) (λac S' am a=>a.of eG (λ_ a=>by cases a;rfl))
  refine(jZ au lg Zo Zo DZ bt).mono ?_ (λac S' am a=>by obtain⟨F,a,_⟩:=a;cases a)
  rintro v5 bN cf ⟨iM,i5,tt,rfl,hz,dG⟩
  cases tt
  have iH:=dG.le
  have On:aI X bN (.ptr j 0)=some (.ptr aG 0):=by rw[dG.ep _ _ Zo Zx,cW.ep _ _ Zo];exact vD
  have G7:U X bN (j+1)=zu [.aT, .aT, .Z 0, .cF] 4:=by rw[dG.aa _ Zo Zx,cW.aa _ Zo];exact uF
  have sm:=pa.aa (S':=bN) (lz:=cf) (λe J Q=>by rw[dG.aa e Zo Zx,cW.aa e Q]) Zo
  have yZ:=eG.trans dG
  obtain⟨aY,D3,c,aS,kW,GD,wY,bK,b1,cM,dF,fj,d0,ek⟩:=sm
  clear pa gV eg vD uF cW DZ lg eG dG
  refine cL @t3 cd.eq_1 ⟨?_⟩
  have agz:∀e,e≠j+2->U X (bi X bN (j+2) (some (.cells (dT c 2 (D.Z E.at_).cells) 4 .own))) e=U X bN e:=λe B=>aC Zo B
  refine cL @t1 @On ⟨?_⟩
  refine eL (λbY=>U X bY (j+2)=some (.cells (c.set 2 (some (.Z E.at_))) 4 .own)/\∀e,e≠j+2->U X bY e=U X bN e) ⟨(bb Zo).trans (by simp only[D.cells,rQ]),agz⟩ ?_
  clear agz
  rintro bY ⟨CW,dk⟩
  have hT:aQ X bY aG bQ aU i5:=hz.aa (dk _ Zo) (dk _ Zo)
  have eC:cg X [aG] h j bY cf:=⟨yZ.le,λb ag bU=>by rw[dk b Zo];exact yZ.aa b ag bU⟩
  rcases gK Y with ⟨F,dh,rfl⟩|⟨GV,kR,dh,Y⟩
  ·exact((abO au d7 n Zo).arrow bY _ _ _ (aw.go hT Zo) dh).mono (λac S' am a=>by obtain⟨E,cA,a,_⟩:=a;cases a) (λac S' am a=>a.of eC (λ_ a=>by cases a;rfl))
  refine((abO au d7 n Zo).arrow bY _ _ _ (aw.go hT Zo) dh).mono ?_ (λac S' am a=>by obtain⟨F,a,_⟩:=a;cases a)
  rintro MP cn d8 ⟨acM,ni,Aa,eA,h5,en⟩
  cases Aa
  have ng:=en.le
  obtain⟨q0,rfl,aE3,_⟩:=eA.ptr
  have ID:U X cn (j+2)=some (.cells (c.set 2 (some (.Z E.at_))) 4 .own):=by rw[en.aa _ Zo Zx];exact CW
  have xi:aI X cn (.ptr j 0)=some (.ptr aG 0):=by rw[en.ep _ _ Zo Zx,cl,dk _ Zo, <-cl];exact On
  have fJ:∀e,j<=e->e<cf->e≠j+2->U X cn e=U X bN e:=λe J Q ak=>by rw[en.aa e Q Zx,dk e ak]
  refine ce @t3 ⟨?_⟩
  refine cL @t1 @xi ⟨?_⟩
  refine eL (λdC=>U X dC d8=zu [.str [59]] 1/\U X dC (j+2)=some (.cells ((c.set 2 (some (.Z E.at_))).set 3 (some (.ptr q0 0))) 4 .own)/\∀e,e<d8->e≠j+2->U X dC e=U X cn e) ⟨bb Zo, ?_, ?_⟩ ?_
  ·rw[aC Zo Zo,bb Zo];simp only[D.cells,rQ]
  ·intro e J Q
   rw[aC Zo Zo,aC Zo Q]
  rintro dC ⟨D1,aAh,gM⟩
  have xD:aQ X dC aG bQ aU ni:=h5.aa (gM _ Zo Zo) (gM _ Zo Zo)
  have gS:cg X [aG] h j dC (d8+1):=⟨Zo,λb ag bU=>by rw[gM b Zo Zo];exact(eC.trans en).aa b ag bU⟩
  rcases gK Y with ⟨F,hG,rfl⟩|⟨ve,sr,hG,Y⟩
  ·exact(jZ au (aw.go xD Zo) Zo Zo D1 hG).mono (λac S' am a=>by obtain⟨E,cA,a,_⟩:=a;cases a) (λac S' am a=>a.of gS (λ_ a=>by cases a;rfl))
  refine(jZ au (aw.go xD Zo) Zo Zo D1 hG).mono ?_ (λac S' am a=>by obtain⟨F,a,_⟩:=a;cases a)
  rintro v9 dW d4 ⟨aF3,i9,atT,_,nh,hq⟩
  cases atT
  have pQ:=hq.le
  simp only[ok,Zf]at Y
  subst Y
  have aic:U X dW (j+2)=some (.cells ((c.set 2 (some (.Z E.at_))).set 3 (some (.ptr q0 0))) 4 .own):=by rw[hq.aa _ Zo Zx];exact aAh
  have he:∀e,j<=e->e<d8->e≠j+2->U X dW e=U X cn e:=λe J Q ak=>by rw[hq.aa e Zo Zx,gM e Q ak]
  have xg:U X dW (j+1)=zu [.aT, .aT, .Z 0, .cF] 4:=by rw[he _ Zo Zo Zo,fJ _ Zo Zo Zo];exact G7
  have dH:((c.set 2 (some (D.Z E.at_))).set 3 (some (.ptr q0 0))).get 0=some aS:=by rw[R.kN,Zh Zd,R.kN,Zh Zd];exact b1
  have cX:((c.set 2 (some (D.Z E.at_))).set 3 (some (.ptr q0 0))).get 1=some kW:=by rw[R.kN,Zh Zd,R.kN,Zh Zd];exact cM
  have dI:((c.set 2 (some (D.Z E.at_))).set 3 (some (.ptr q0 0))).get 2=some (.Z E.at_):=by rw[R.kN,Zh Zd,R.kN,Zp rfl]
  have gZ:((c.set 2 (some (D.Z E.at_))).set 3 (some (.ptr q0 0))).get 3=some (.ptr q0 0):=by rw[R.kN,Zp rfl]
  generalize ((c.set 2 (some (D.Z E.at_))).set 3 (some (.ptr q0 0)))=f9 at aic dH cX dI gZ
  obtain⟨g2,nr,sF⟩:=gw.one dF
  obtain⟨Ir,CL,tP⟩:=gw.one fj
  have az:cZ X dW 4 (.ptr (j+2) 0)=some (.agg [aS,kW, .Z E.at_, .ptr q0 0]):=by
   rw[Cx];simp[bp aic,dH,cX,dI,gZ]
  refine ed @t3 @az @ew ⟨?_⟩
  refine f7 (iJ (y:=4) xg Zo rfl Zd Zd (by simp[D.cells,ju,nr,CL,show qN (.Z E.at_)=true from rfl,show qN (.ptr q0 0)=true from rfl])) ?_
  refine ce @ew ⟨?_⟩
  have ET:∀e,e≠j+1->∀cV,U X (bi X dW (j+1) cV) e=U X dW e:=λe B cV=>aC Zo B
  have o4:∀e,j+2<e->e<cf->∀cV,U X (bi X dW (j+1) cV) e=U X bN e:=λe J Q cV=>by rw[ET e Zo,he e Zo Zo Zo,fJ e Zo Q Zo]
  obtain⟨bZ,afI⟩:=(dF.aa (S':=bi X dW (j+1) (some (.cells (dT (R.ofList [.aT, .aT, .Z 0, .cF] 0 .nil) 0 [aS,kW, .Z E.at_, .ptr q0 0]) 4 .own))) (λe B=>o4 e (d0 e B).1 (d0 e B).2.1 _)).Mr (P:=dx j d4) Zx (λe B=>by have:=d0 e B;exact⟨Zo,Zo⟩)
  obtain⟨cu,HQ⟩:=(fj.aa (S':=bi X dW (j+1) (some (.cells (dT (R.ofList [.aT, .aT, .Z 0, .cF] 0 .nil) 0 [aS,kW, .Z E.at_, .ptr q0 0]) 4 .own))) (λe B=>o4 e (ek e B).1 (ek e B).2 _)).Mr (P:=λe=>dx j d4 e/\e<cf) Zx (λe B=>by have:=ek e B;exact⟨⟨Zo,Zo⟩,Zo⟩)
  have hc:=cE.aa (S':=bi X dW (j+1) (some (.cells (dT (R.ofList [.aT, .aT, .Z 0, .cF] 0 .nil) 0 [aS,kW, .Z E.at_, .ptr q0 0]) 4 .own))) (λe B=>by
   have J:=B.1
   rw[ET e Zo,he e Zo B.2 Zo]) _ _ eA
  refine⟨_,i9,[aS,kW, .Z E.at_, .ptr q0 0],rfl,rfl,⟨aS,kW,bZ,cu, .ptr q0 0,rfl, ?_, ?_, ?_,by simp[ju,nr,CL,show qN (.Z E.at_)=true from rfl,show qN (.ptr q0 0)=true from rfl]⟩, ?_, ?_⟩
  ·rw[YH]at afI;exact afI
  ·rw[YH]at HQ
   refine⟨HQ.lift (λ_ a=>a.1),cE.lift (λe B=>⟨⟨zq B.1,zq B.2⟩,λdS E=> ?_⟩) _ _ hc⟩
   have J:=(HQ.ag (λa=>dS (by simpa using a))).2
   have Q:=B.1
   omega
  ·exact cE.lift (λe B=>⟨zq B.1,zq B.2⟩) _ _ hc
  ·exact nh.aa (ET _ Zo _) (ET _ Zo _)
  ·exact⟨Zo,λb ag bU=>by rw[ET b Zo];exact(gS.trans hq).aa b ag bU⟩
end
end
end Go.Proofs.YtpeabpmnlmaabaaGreatDoor

