/- Part of the proof of the last text; no conditions -/
import Derived.Test.YtpeabpmnlmaabaaGreatDoorYg
set_option maxHeartbeats 8000000
set_option linter.all false
namespace Go.Proofs.YtpeabpmnlmaabaaGreatDoor
open Go.bd Go.aT
noncomputable section
section
variable{X:cl}{h S' aI aM:Q af}{j an aO aZ aH bP:Nat}{aW:List Tok}{i:Nat}
def ayQ(au:dj X)(d6:xh X){n:Nat}(ai:∀m,m<n->sa X aH bP aW m):∀h j i (z:Nat) r,z<=5->iZ X h j aH bP aW i->Go.aT.level n z (aW.drop i)=some r->aU X 133 [.ptr aH 0, .Z (z:Int)] h j (kf X aH bP aW h j r) (jk X aH h j r):=by
 intro h j i z r aJ aw Y
 cases n with
 |zero=>simp[Go.aT.level]at Y
 |succ n=>
 refine zz au (alS X) ?_
 rw[alT]
 unfold aao
 have he:=aw.a2
 have kD:=aw.hL
 have is:=aw.b3
 have j4:=aw.hn
 unfold Go.aT.level at Y
 by_cases mx:z=5
 ·subst mx
  rw[Zr rfl]at Y
  have cT:decide (((5:Nat):Int)=5)=true:=rfl
  refine cd @cT ⟨?_⟩
  exact(ai n Zo).shift h j i r aw Y
 ·rw[Zh mx]at Y
  have cT:decide ((z:Int)=5)=false:=by simp;omega
  have bz:=zx z
  refine cI @cT @bz ⟨?_⟩
  rcases gR Y with ⟨H,M,rfl⟩|⟨left,eo,M,Y⟩
  ·exact((ai n Zo).level h j i (z+1) _ Zo aw M).mono (λac S' an a=>by obtain⟨E,cD,a,_⟩:=a;cases a) (λac S' an a=>a)
  refine((ai n Zo).level h j i (z+1) _ Zo aw M).mono ?_ (λac S' an a=>by obtain⟨H,a,_⟩:=a;cases a)
  rintro w5 aI aO ⟨E,il,bC,bH,es,iC⟩
  cases bC
  have jJ:=iC.le
  refine gi ?_
  refine fh (λm I S' aN=>∃left v cD,m<=n/\I.g 0=some (.ptr aH 0)/\I.g 1=some (.Z (z:Int))/\I.g 5=some v/\cE X S' (dr j aN) left v/\aT X S' aH bP aW cD/\cg X [aH] h j S' aN/\p4 m z left (aW.drop cD)=some r)
   n ⟨left,w5,il,Zj _,a8,a8,a8,bH,es,iC,Y⟩ ?_
  clear bH es iC M Y
  rintro m I aM aZ ⟨left,v,gU,bp,t0,t1,t5,bx,dF,dx,Y⟩
  cases m with
  |zero=>simp[p4]at Y
  |succ m=>
  unfold p4 at Y
  have fJ:=dx.le
  have f2:=aw.go dF fJ
  refine gi ?_
  refine cI @t0 @t1 ⟨?_⟩
  cases ag:pF (ar z) (aW.drop gU)with
  |none=>rw[ag]at Y;cases Y
  |some MR=>
  rw[ag]at Y
  refine(ap5 au d6 Zo f2 ag).Zm ?_
  rintro w8 a1 bi ⟨i3,u1,g1,eh,bg⟩
  have iO:=eh.le
  obtain⟨ro,aGO⟩:=MR
  simp only[]at u1
  subst u1
  cases ro with
  |none=>
   simp only[]at bg Y
   subst bg
   simp only[ok,Zf]at Y
   subst Y
   refine cd @t5 ⟨?_⟩
   exact⟨left,i3,rfl,cE.fr bx eh Zo Zo (Zj _) Zo,g1,dx.trans eh⟩
  |some E=>
   simp only[]at bg Y
   obtain⟨b,fa,H,rfl,rfl,ng,l4,cH⟩:=bg
   refine fI @t0 @t1 @t5 @bz ⟨?_⟩
   rcases gR Y with ⟨fL,aA,rfl⟩|⟨right,hl,aA,Y⟩
   ·refine((ai m Zo).level a1 bi i3 (z+1) _ Zo (f2.go g1 iO) aA).mono (λac S' an a=>by obtain⟨E,cD,a,_⟩:=a;cases a) (λac S' an a=>a.of (dx.trans eh) (λ_ a=>a))
   refine((ai m Zo).level a1 bi i3 (z+1) _ Zo (f2.go g1 iO) aA).mono ?_ (λac S' an a=>by obtain⟨H,a,_⟩:=a;cases a)
   rintro v4 bA cK ⟨kj,i4,u2,c0,hF,eG⟩
   cases u2
   have iF:=eG.le
   have dg:U X bA b=zw (ht fa H [] false dU 0 .aV) 9:=by rw[eG.aa _ Zo Zx];exact cH
   obtain⟨cA,rfl,nQ,_⟩:=bx.ptr
   obtain⟨fW,rfl,rE,_⟩:=c0.ptr
   refine dI @t5 @dg @t1 ⟨?_⟩
   have fin:∀gX,gX=bj X (bj X bA cK (zw [.ptr cA 0, .ptr fW 0] 2)) b (zw (ht fa H [] false dU 0 (.slice cK 0 2 2)) 9)->cE X gX (dr j (cK+1)) (two (.mk fa H [] false dU 0 []) left right) (.ptr b 0)/\aT X gX aH bP aW i4/\cg X [aH] h j gX (cK+1):=by
    rintro gX rfl
    refine⟨cE.lit (jx:= .own) (cO:=cK) (br:=[.ptr cA 0, .ptr fW 0]) (a7 Zo) ⟨Zo,Zo⟩ ?_ ⟨Zo,Zo⟩ rfl Zo Zo (dD.two (cE.aa (λe B=> ?_) _ _ bx) (cE.aa (λe B=> ?_) _ _ c0) (λe B=> ?_) (λe B=> ?_)), ?_, ?_⟩
    ·simp(disch:=omega) only[aB,a7]
    ·have M:=B.1;have R:=B.2
     simp(disch:=omega) only[aB]
     rw[eG.aa e Zo Zx,eh.aa e Zo Zx]
    ·have M:=B.1;have R:=B.2
     simp(disch:=omega) only[aB]
    ·simp only[dr]at B ⊢;omega
    ·simp only[dr]at B ⊢;omega
    ·exact hF.aa (zy) (zy)
    ·exact⟨Zo,λe B bV=>by
      rw[<-((dx.trans eh).trans eG).aa e B bV]
      simp(disch:=omega) only[aB]⟩
   obtain⟨eR,fk,f3⟩:=fin (bj X (bj X bA cK (zw [.ptr cA 0, .ptr fW 0] 2)) b (some (.cells (dS (Q.ofList (ht fa H [] false dU 0 .aV) 0 .nil) 8 (D.slice cK 0 2 2).cells) 9 .own))) rfl
   refine BS (λR=> ?_) (λR=> ?_)
   ·have iu:z=2:=Zo
    rw[Zr iu]at Y
    simp only[ok,Zf]at Y
    subst Y
    exact⟨_,i4,rfl,eR,fk,f3⟩
   ·rw[Zh Zo]at Y
    exact⟨m,Zo,_, .ptr b 0,i4,Zo,aL t0,aL t1,a8,eR,fk,f3,Y⟩
end
section
variable{X:cl}{h S' aI aM:Q af}{j an aO aZ aH bP:Nat}{aW:List Tok}{i:Nat}
def aCo(au:dj X){n:Nat}(ai:∀m,m<n->sa X aH bP aW m):∀h j i r,iZ X h j aH bP aW i->Go.aT.shift n (aW.drop i)=some r->aU X 140 [.ptr aH 0] h j (kf X aH bP aW h j r) (jk X aH h j r):=by
 intro h j i r aw Y
 cases n with
 |zero=>simp[Go.aT.shift]at Y
 |succ n=>
 refine zz au (al8 X) ?_
 rw[al9]
 unfold aaw
 have he:=aw.a2
 have kD:=aw.hL
 have is:=aw.b3
 have j4:=aw.hn
 unfold Go.aT.shift at Y
 rcases gR Y with ⟨H,M,rfl⟩|⟨left,eo,M,Y⟩
 ·exact((ai n Zo).vh h j i _ aw M).mono (λac S' an a=>by obtain⟨E,cD,a,_⟩:=a;cases a) (λac S' an a=>a)
 refine((ai n Zo).vh h j i _ aw M).mono ?_ (λac S' an a=>by obtain⟨H,a,_⟩:=a;cases a)
 rintro w5 aI aO ⟨E,il,bC,bH,es,iC⟩
 cases bC
 have jJ:=iC.le
 refine gi ?_
 refine fh (λm I S' aN=>∃left v cD,I.g 0=some (.ptr aH 0)/\I.g 3=some v/\cE X S' (dr j aN) left v/\aT X S' aH bP aW cD/\cg X [aH] h j S' aN/\qd m left (aW.drop cD)=some r)
  n ⟨left,w5,il,a8,a8,bH,es,iC,Y⟩ ?_
 clear bH es iC M Y jJ
 rintro m I aM aZ ⟨left,v,gU,t0,t3,bx,dF,dx,Y⟩
 cases m with
 |zero=>simp[qd]at Y
 |succ m=>
 unfold qd at Y
 have fJ:=dx.le
 have f2:=aw.go dF fJ
 refine gi ?_
 obtain⟨cA,rfl,nQ,_⟩:=bx.ptr
 have nQ:=nQ.2
 refine cd @t0 ⟨?_⟩
 obtain⟨x,ce,aF,ae⟩:=rX Y
 refine(oJ au f2 aF _).Zm ?_
 rintro w8 a1 bi ⟨rfl,g1,eh⟩
 have iO:=eh.le
 have qH:=aF
 refine oj cf.eq_1 ⟨?_⟩
 refine iR (λc4 S' aN=>∃Ma fa x cD dW,c4.g 0=some (.ptr aH 0)/\c4.g 3=some (.ptr cA 0)/\c4.g 4=some (.Z fa)/\c4.g 5=some (.ptr dW 0)/\c4.g 6=some (.bool Ma)/\U X S' dW=zw (cf x) 7/\aZ<=dW/\dW<aN/\cE X S' (dr j aZ) left (.ptr cA 0)/\aT X S' aH bP aW cD/\cg X [aH] h j S' aN/\aZ<=aN/\
  (Ma=true->qe m fa x left (aW.drop cD)=some r)/\(Ma=false->r= .ok (left,aW.drop cD))) (λS bE=> ?_) ?_
 ·have cH:∀h,U X (bj X (bj X h bi (zw (cf hq) 7)) bi (some (.cells (dS (Q.ofList (cf hq) 0 .nil) 0 (cf x)) 7 .own))) bi=zw (cf x) 7:=λh=>a7 Zo
  rcases ae with ⟨aD,Y⟩|⟨aD,Y⟩
  ·rw[aD]at g1 ⊢
   simp only[ZE]at g1 ⊢
   refine cx ⟨?_⟩
   refine bE _ _ _ ⟨true,19,x,gU+1,bi,aL t0,aL t3,a8,a8,a8,a7 Zo,Zo,Zo, ?_,g1.aa (zy) (zy), ?_,Zo,λ_=>by rw[(fZ qH).2];exact Y,λa=>by cases a⟩
   ·refine cE.ex bx (λe M R=> ?_) (Zj _) (Zj _)
    simp(disch:=omega) only[aB]
    exact eh.aa e Zo Zx
   ·exact⟨Zo,λe B bV=>by rw[<-(dx.trans eh).aa e B bV];exact zy⟩
  ·rw[aD]at g1 ⊢
   simp only[Zy,ZD]at g1 ⊢
   simp only[]at Y
   refine cd @t0 ⟨?_⟩
   refine eN (λbA=>ba X a1 bi bA (bi+1)/\U X bA bi=zw (cf hq) 7) ⟨dz,a7 Zo⟩ ?_
   rintro bA ⟨c0,dg⟩
   have lq:=f2.go (g1.ex c0 Zo Zo) (by omega:aZ<=bi+1)
   obtain⟨e,g3,pQ,axg⟩:=rX Y
   refine(oJ au lq pQ _).Zm ?_
   rintro vs bM bX ⟨rfl,hG,dH⟩
   have ik:=dH.le
   have fT:U X bM bi=zw (cf hq) 7:=by rw[dH.aa _ Zo Zx];exact dg
   have ej:∀e,e<aZ->e≠aH->U X bM e=U X aM e:=λe M R=>by
    rw[dH.aa e Zo (by simpa using R),c0.aa e Zo,eh.aa e Zo (by simpa using R)]
   have eB:=((dx.trans eh).trans (cg.of c0)).trans dH
   unfold cf hq dU at fT
   rcases axg with ⟨Ff,Y⟩|⟨Ff,Y⟩
   ·rw[Ff]at hG ⊢
    simp only[ZE]at hG ⊢
    refine cI cf.eq_1 @fT ⟨?_⟩
    refine bE _ _ _ ⟨true,20,e,gU+1,bi,aL t0,aL t3,a8,a8,a8,a7 Zo,Zo,Zo, ?_,hG.aa (zy) (zy), ?_,Zo,λ_=>by rw[(fZ pQ).2];exact Y,λa=>by cases a⟩
    ·refine cE.ex bx (λe M R=> ?_) (Zj _) (Zj _)
     simp(disch:=omega) only[aB]
     exact ej e R Zo
    ·exact⟨Zo,λe B bV=>by rw[<-eB.aa e B bV];exact zy⟩
   ·rw[Ff]at hG ⊢
    simp only[Zy,ZD]at hG ⊢
    simp only[ok,Zf]at Y
    refine fI cf.eq_1 hq.eq_1 dU.eq_1 @fT ⟨?_⟩
    refine bE _ _ _ ⟨false,20,hq,gU,bi,aL t0,aL t3,a8,a8,a8,a7 Zo,Zo,Zo, ?_,hG.aa (zy) (zy), ?_,Zo,λa=>(by cases a),λ_=>Y.symm⟩
    ·refine cE.ex bx (λe M R=> ?_) (Zj _) (Zj _)
     simp(disch:=omega) only[aB]
     exact ej e R Zo
    ·exact⟨Zo,λe B bV=>by rw[<-eB.aa e B bV];exact zy⟩
 ·clear bx g1 eh ae Y aF qH dF f2
  rintro aEC bZ dy ⟨Ma,fa,x,iw,dW,t0,t3,t4,t5,eX,dZ,aFQ,aFR,el,hV,eB,pb,B,lk⟩
  cases Ma with
  |false=>
   have Y:=lk rfl
   subst Y
   refine cI @eX @t3 ⟨?_⟩
   exact⟨left,iw,rfl,cE.lift (λe B=>⟨B.1,zs B.2⟩) _ _ el,hV,eB⟩
  |true=>
   have Y:=B rfl
   cases m with
   |zero=>simp[qe]at Y
   |succ m=>
   unfold qe at Y
   have m1:=aw.go hV (by omega:j<=dy)
   refine cI @eX @t0 ⟨?_⟩
   cases aF:aW.drop iw with
   |nil=>rw[aF]at Y;simp[je,andThen]at Y
   |cons e l=>
   rw[aF]at Y
   simp only[je]at Y
   refine(Dg au m1.a2 m1.par m1.b3 m1.hL m1.hn m1.many (fZ aF).1 4).mono ?_ ?_
   ·rintro aj1 ci dV ⟨aJ,rfl,h8,er⟩
    have nj:=er.le
    rw[Zr aJ]at Y
    simp only[andThen,ok]at Y
    have d8:U X ci dW=zw (cf x) 7:=by rw[er.aa _ Zo Zx];exact dZ
    have ez:=cE.ex (S':=ci) el (λe M R=>er.aa e Zo Zx) (Zj _) (Zj _)
    have sw:=eB.trans er
    refine oj cf.eq_1 ⟨?_⟩
    refine gi ?_
    refine BS (λUA=> ?_) (λUA=> ?_)
    ·rw[Zr UA]at Y
     simp only[bad,Zf]at Y
     subst Y
     refine cd cf.eq_1 ⟨?_⟩
     refine(KJ au Zo e _ ?_).mono (λ_ _ _ a=>a.elim) (λ_ _ _ a=>a)
     intro S' an bU
     exact⟨_,rfl,rfl,sw.trans (cg.of (ba.trans dz bU))⟩
    ·rw[Zh UA]at Y
     refine fO cf.eq_1 @t4 @t5 @t3 (bc d8) ⟨?_⟩
     refine⟨m,Zo,_, .ptr (dV+1+1) 0,iw+1,aL t0,a8,cE.lit (z:=1) (cap:=1) (n:=e.n) (kind:=fa) (at_:=x.at_) (name:=[]) (no:=false) (ty:=dU) (b:=dV+1+1) (jx:= .own) (cO:=dV+1) (br:=[.ptr cA 0]) (a7 (b:=dV+1+1) Zo) ⟨Zo,Zo⟩ ?_ ⟨Zo,Zo⟩ rfl Zo Zo (dD.one (cE.aa (λe B=> ?_) _ _ ez) (λe B=> ?_)), ?_, ?_,by rw[(fZ aF).2];exact Y⟩
     ·simp(disch:=omega) only[aB,a7]<;>rfl
     ·have M:=B.1;have R:=B.2
      simp(disch:=omega) only[aB]
     ·simp only[dr]at B ⊢;omega
     ·exact h8.aa (zy) (zy)
     ·exact⟨Zo,λe B bV=>by
       rw[<-sw.aa e B bV]
       simp(disch:=omega) only[aB]⟩
   ·rintro aj1 ci dV ⟨aJ,rfl,er⟩
    rw[Zh aJ]at Y
    simp only[andThen,bad,Zf]at Y
    subst Y
    exact⟨_,rfl,rfl,eB.trans er⟩
end
section
variable{X:cl}{h S' aI aM:Q af}{j an aO aZ aH bP:Nat}{aW:List Tok}{i:Nat}
def axJ{n bt S:Nat}{cs:List D}(z:IntKind)(a:S<n):va true n bt (.agg cs) (.int z (S:Int))=some (.agg ((cs.drop (S*bt)).take bt)):=by
 simp[va,sT,fN,a]
def W6:List D:=[.str [110,111,116], .Z 3, .str [45], .Z 4, .str [112,114,101], .Z 5]
def aA2{S:Nat}(a:S<3):∃s z,A6.drop S=(s,z)::A6.drop (S+1)/\(W6.drop (S*2)).take 2=[.str s, .Z z]:=by
 match S,a with
 |0,_=>exact⟨_,_,rfl,rfl⟩
 |1,_=>exact⟨_,_,rfl,rfl⟩
 |2,_=>exact⟨_,_,rfl,rfl⟩
def aA9(au:dj X){n:Nat}(ai:∀m,m<n->sa X aH bP aW m):∀h j i r,iZ X h j aH bP aW i->Go.aT.yw n (aW.drop i)=some r->aU X 147 [.ptr aH 0] h j (kf X aH bP aW h j r) (jk X aH h j r):=by
 intro h j i r aw Y
 cases n with
 |zero=>simp[Go.aT.yw]at Y
 |succ n=>
 refine zz au (amg X) ?_
 rw[amh]
 unfold aaA
 have he:=aw.a2
 have kD:=aw.hL
 have is:=aw.b3
 have j4:=aw.hn
 unfold Go.aT.yw at Y
 cases ag:pF A6 (aW.drop i)with
 |none=>rw[ag]at Y;cases Y
 |some MR=>
 rw[ag]at Y
 refine pN ⟨?_⟩
 refine iR (λI S' aN=>I.g 0=some (.ptr aH 0)/\aT X S' aH bP aW i/\cg X [aH] h j S' aN/\MR=(none,aW.drop i)) (λS bE=> ?_) ?_
 ·refine fh (λm I S' aN=>∃S,m=3-S/\S<=3/\I.g 0=some (.ptr aH 0)/\I.g 15=some (.agg W6)/\I.g 16=some (.Z (S:Int))/\aT X S' aH bP aW i/\cg X [aH] h j S' aN/\pF (A6.drop S) (aW.drop i)=some MR)
   3 ⟨0,rfl,Zo,a8,fq,fq,aw.par,cg.refl _ _ _,ag⟩ ?_
  rintro m I aM aZ ⟨S,rfl,Pp,t0,wY,Bg,dF,dx,ag⟩
  have fJ:=dx.le
  have f2:=aw.go dF fJ
  refine oj @Bg ⟨?_⟩
  refine gi ?_
  refine BS (λcZ=> ?_) (λcZ=> ?_)
  ·have cZ:S<3:=Zo
   obtain⟨s,fa,iE,e9⟩:=aA2 cZ
   rw[iE]at ag
   simp only[pF]at ag
   have afJ:=axJ (n:=3) (bt:=2) (cs:=W6) .i64 cZ
   rw[e9]at afJ
   refine fI @wY @Bg @afJ @t0 ⟨?_⟩
   refine eN (λa1=>ba X aM aZ a1 (aZ+1)/\U X a1 aZ=zw [.str s, .Z fa] 2) ⟨dz,a7 Zo⟩ ?_
   rintro a1 ⟨ck,cH⟩
   cases aF:aW.drop i with
   |nil=>rw[aF]at ag;simp[mG]at ag
   |cons x l=>
   rw[aF]at ag
   refine(oJ au (f2.go (dF.ex ck Zo Zo) Zo) aF s).Zm ?_
   rintro ac bA cK ⟨rfl,hF,eG⟩
   have iF:=eG.le
   have dg:U X bA aZ=zw [.str s, .Z fa] 2:=by rw[eG.aa _ Zo Zx];exact cH
   have sw:=dx.trans ((cg.of ck).trans eG)
   cases aD:ho x s with
   |true=>
    rw[aD]at hF
    simp only[mG,aD,ZE]at ag hF ⊢
    simp only[Zf]at ag
    subst ag
    simp only[]at Y
    refine dI cf.eq_1 (bc dg) @t0 ⟨?_⟩
    refine eN (λbM=>ba X bA cK bM (cK+1+10)/\U X bM cK=zw (cf x) 7) ⟨dz,a7 Zo⟩ ?_
    rintro bM ⟨dC,fT⟩
    have pn:=f2.go (hF.ex dC Zo Zo) (by omega:aZ<=cK+1+10)
    have dH:=sw.trans (cg.of dC)
    rw[<-(fZ aF).2]at Y
    rcases gR Y with ⟨H,b9,rfl⟩|⟨KC,ma,b9,Y⟩
    ·exact((ai n Zo).vh bM _ _ _ pn b9).mono (λac S' an a=>by obtain⟨E,cD,a,_⟩:=a;cases a) (λac S' an a=>a.of dH (λ_ a=>a))
    refine((ai n Zo).vh bM _ _ _ pn b9).mono ?_ (λac S' an a=>by obtain⟨H,a,_⟩:=a;cases a)
    rintro Bm bZ dy ⟨aEP,iw,UP,el,hV,eB⟩
    cases UP
    have pb:=eB.le
    simp only[ok,Zf]at Y
    subst Y
    obtain⟨Dr,rfl,LM,_⟩:=el.ptr
    have dZ:U X bZ cK=zw (cf x) 7:=by rw[eB.aa _ Zo Zx];exact fT
    have aea:U X bZ aZ=zw [.str s, .Z fa] 2:=by rw[eB.aa _ Zo Zx,dC.aa _ Zo];exact dg
    refine dI (bc dZ) (bc aea) cf.eq_1 ⟨?_⟩
    refine f4 (oI _ _) ?_
    refine dI (bc dZ) (bc aea) cf.eq_1 ⟨?_⟩
    refine f4 (oI _ _) ?_
    refine⟨_,iw,rfl,cE.lit (z:=1) (cap:=1) (n:=0) (kind:=fa) (at_:=x.at_) (name:=[]) (no:=false) (ty:=dU) (b:=cK+1+8) (jx:= .own) (cO:=cK+1+6) (br:=[.ptr Dr 0]) (a7 (b:=cK+1+8) Zo) ⟨Zo,Zo⟩ ?_ ⟨Zo,Zo⟩ rfl Zo Zo (dD.one (cE.aa (λe B=> ?_) _ _ el) (λe B=> ?_)), ?_, ?_⟩
    ·simp(disch:=omega) only[aB,a7]<;>rfl
    ·have M:=B.1;have R:=B.2
     simp(disch:=omega) only[aB]
    ·simp only[dr]at B ⊢;omega
    ·exact hV.aa (zy) (zy)
    ·exact⟨Zo,λe B bV=>by
      rw[<-(dH.trans eB).aa e B bV]
      simp(disch:=omega) only[aB]⟩
   |false=>
    rw[aD]at hF
    simp only[mG,aD,Zy,ZD]at ag hF ⊢
    have bz:=zx S
    refine fI cf.eq_1 hq.eq_1 @Bg @bz ⟨?_⟩
    refine⟨_, ?_,S+1,rfl,Zo,aL t0,aL wY,a8,hF.aa (zy) (zy), ?_,ag⟩
    ·omega
    ·exact⟨Zo,λb ag bV=>by rw[<-sw.aa b ag bV];exact zy⟩
  ·have bE:S=3:=Zo
   subst bE
   simp only[A6,Yo,Yb,pF,Zf]at ag
   refine cx ⟨?_⟩
   exact bE _ _ _ ⟨aL t0,dF,dx,ag.symm⟩
 ·clear ag
  rintro oV fi a2 ⟨t0,agq,OQ,rfl⟩
  simp only[]at Y
  have Ly:=OQ.le
  have W9:=aw.go agq Ly
  refine cd @t0 ⟨?_⟩
  rcases gR Y with ⟨H,M,rfl⟩|⟨left,eo,M,Y⟩
  ·exact((ai n Zo).part fi a2 i _ W9 M).mono (λac S' an a=>by obtain⟨E,cD,a,_⟩:=a;cases a) (λac S' an a=>a.of OQ (λ_ a=>a))
  refine((ai n Zo).part fi a2 i _ W9 M).mono ?_ (λac S' an a=>by obtain⟨H,a,_⟩:=a;cases a)
  rintro w5 aI aO ⟨E,il,bC,bH,es,iC⟩
  cases bC
  have jJ:=iC.le
  refine gi ?_
  refine fh (λm I S' aN=>∃left v cD,I.g 0=some (.ptr aH 0)/\I.g 7=some v/\cE X S' (dr j aN) left v/\aT X S' aH bP aW cD/\cg X [aH] h j S' aN/\n7 m left (aW.drop cD)=some r)
   n ⟨left,w5,il,aL t0,a8,cE.lift (λe B=>⟨zs B.1,B.2⟩) _ _ bH,es,OQ.trans iC,Y⟩ ?_
  clear bH es iC M Y jJ t0 agq OQ Ly W9
  rintro m I aM aZ ⟨left,v,gU,t0,gc,bx,dF,dx,Y⟩
  cases m with
  |zero=>simp[n7]at Y
  |succ m=>
  unfold n7 at Y
  have fJ:=dx.le
  have f2:=aw.go dF fJ
  refine gi ?_
  obtain⟨cA,rfl,nQ,_⟩:=bx.ptr
  have nQ:=nQ.2
  refine cd @t0 ⟨?_⟩
  obtain⟨x,ce,aF,ae⟩:=rX Y
  refine(oJ au f2 aF _).Zm ?_
  rintro w8 a1 bi ⟨rfl,g1,eh⟩
  have iO:=eh.le
  have aeY:=dx.trans eh
  have ck:=cE.ex (S':=a1) bx (λe M R=>eh.aa e Zo Zx) (Zj _) (Zj _)
  rcases ae with ⟨aD,Y⟩|⟨aD,Y⟩
  ·rw[aD]at g1 ⊢
   simp only[ZE]at g1 ⊢
   rw[<-(fZ aF).2]at Y
   simp only[]at Y
   refine cI cf.eq_1 @t0 ⟨?_⟩
   refine eN (λbM=>ba X a1 bi bM (bi+1)/\U X bM bi=zw (cf x) 7) ⟨dz,a7 Zo⟩ ?_
   rintro bM ⟨dC,fT⟩
   have pn:=f2.go (g1.ex dC Zo Zo) (by omega:aZ<=bi+1)
   obtain⟨e,ma,Lj,L3⟩:=rX Y
   refine(oJ au pn Lj _).Zm ?_
   rintro aj0 bZ dy ⟨rfl,hV,eB⟩
   have pb:=eB.le
   have dZ:U X bZ bi=zw (cf x) 7:=by rw[eB.aa _ Zo Zx];exact fT
   have v7:=(aeY.trans (cg.of dC)).trans eB
   have el:=cE.ex (S':=bZ) ck (λe M R=>by rw[eB.aa e Zo Zx,dC.aa e Zo]) (Zj _) (Zj _)
   have ox:andThen (je 1 (aW.drop (if ho e [110,111,116]then gU+1+1 else gU+1))) (λc l=>n7 m (.mk 6 x.at_ c.text (ho e [110,111,116]) dU 0 [left]) l)=some r:=by
    rcases L3 with ⟨LS,ox⟩|⟨LS,ox⟩
    ·simp only[LS,ZE];rw[(fZ Lj).2];exact ox
    ·simp only[LS,Zy,ZD];exact ox
   clear Y L3
   generalize (if ho e [110,111,116]then gU+1+1 else gU+1)=iw at ox hV
   generalize (if ho e [110,111,116]then e else hq)=X2
   generalize ho e [110,111,116]=no at ox
   refine fI cf.eq_1 (bc dZ) @t0 @gc ⟨?_⟩
   refine eN (λci=>ba X bZ dy ci (dy+1+11)/\U X ci (dy+1+7)=zw [.ptr cA 0] 1) ⟨dz,a7 Zo⟩ ?_
   rintro ci ⟨ez,d8⟩
   have nY:=f2.go (hV.ex ez Zo Zo) (by omega:aZ<=dy+1+11)
   cases tL:aW.drop iw with
   |nil=>rw[tL]at ox;simp[je,andThen]at ox
   |cons c mV=>
   rw[tL]at ox
   simp only[je]at ox
   refine(Dg au nY.a2 nY.par nY.b3 nY.hL nY.hn nY.many (fZ tL).1 1).mono ?_ ?_
   ·rintro u8 dk hH ⟨aJ,rfl,yd,g0⟩
    have x8:=g0.le
    rw[Zr aJ]at ox
    simp only[andThen,ok]at ox
    have fH:U X dk bi=zw (cf x) 7:=by rw[g0.aa _ Zo Zx,ez.aa _ Zo];exact dZ
    have asP:U X dk (dy+1+7)=zw [.ptr cA 0] 1:=by rw[g0.aa _ Zo Zx];exact d8
    refine cI cf.eq_1 (bc fH) ⟨?_⟩
    refine f4 (oI _ _) ?_
    refine⟨m,Zo,_, .ptr (dy+1+9) 0,iw+1,aL t0,a8,cE.lit (z:=1) (cap:=1) (n:=0) (kind:=6) (at_:=x.at_) (name:=c.text) (no:=no) (ty:=dU) (b:=dy+1+9) (jx:= .own) (cO:=dy+1+7) (br:=[.ptr cA 0]) (a7 (b:=dy+1+9) Zo) ⟨Zo,Zo⟩ ?_ ⟨Zo,Zo⟩ rfl Zo Zo (dD.one (cE.aa (λe B=> ?_) _ _ el) (λe B=> ?_)), ?_, ?_,by rw[(fZ tL).2];exact ox⟩
    ·simp(disch:=omega) only[aB];exact asP
    ·have M:=B.1;have R:=B.2
     simp(disch:=omega) only[aB]
     rw[g0.aa e Zo Zx,ez.aa e Zo]
    ·simp only[dr]at B ⊢;omega
    ·exact yd.aa (zy) (zy)
    ·exact⟨Zo,λe B bV=>by
      rw[<-((v7.trans (cg.of ez)).trans g0).aa e B bV]
      simp(disch:=omega) only[aB]⟩
   ·rintro u8 dk hH ⟨aJ,rfl,g0⟩
    rw[Zh aJ]at ox
    simp only[andThen,bad,Zf]at ox
    subst ox
    exact⟨_,rfl,rfl,(v7.trans (cg.of ez)).trans g0⟩
  ·rw[aD]at g1 ⊢
   simp only[Zy,ZD]at g1 ⊢
   simp only[ok,Zf]at Y
   subst Y
   refine dI cf.eq_1 hq.eq_1 @gc ⟨?_⟩
   refine⟨left,gU,rfl,cE.ex ck (λe M R=> ?_) (Zj _) Zo,g1.aa (zy) (zy), ?_⟩
   ·simp(disch:=omega) only[aB]
   ·exact⟨Zo,λb ag bV=>by rw[<-aeY.aa b ag bV];exact zy⟩
end
section
variable{X:cl}{h S' aI aM:Q af}{j an aO aZ aH bP:Nat}{aW:List Tok}{i:Nat}
def wV(H b:Nat)(cq:List Nat):Nat->Prop:=λe=>H<=e/\e<b/\e∉cq
def dD.off{C:aK}{bu:Nat->Prop}{H b cO:Nat}{cq:List Nat}{aS:D}{cb:List bD}{br:List D}(a:dD C h (wV H b cq) cb br)(Y:dL C h (λe=>bu e/\e∈cq) cO aS 1 (br.map λv=>[v])):dD C h (λe=>dr H b e/\e≠cO) cb br:=by
 cases br with
 |nil=>
  have:=a.len
  cases cb with
  |nil=>exact .nil
  |cons=>simp at this
 |cons v br=>
  have ag:=(Y.ag Zs).2
  exact dD.lift (λe B=>⟨⟨B.1,B.2.1⟩,λE=>B.2.2 (E▸ag)⟩) _ _ a
def j1(au:dj X)(aw:iZ X h j aH bP aW i){cO:Nat}{s:aY}(Lg:cO<j)(LU:cO≠aH)(aD:U X h cO=zw [.str s] 1){r:Except Int (Tok×List Tok)}(Y:eL s (aW.drop i)=some r):
 aU X 69 [.ptr aH 0, .slice cO 0 1 1] h j (λac S' an=>∃x cD,r= .ok (x,aW.drop cD)/\ac= .agg (cf x)/\aT X S' aH bP aW cD/\cg X [aH] h j S' an) (jk X aH h j r):=by
 have M:dL X h (λe=>e=cO) cO (.slice cO 0 1 1) 1 (e3 [s]):=Jm (bK:=[[.str s]]) (st:= .own) aD rfl Zs Zs rfl
 refine(akf au aw.a2 aw.par aw.b3 aw.hL aw.hn aw.many Lg LU M (r:=r) ?_)
 simp only[s4]
 rw[Y]
 obtain⟨E|⟨x,l⟩,_⟩:∃aj,aj=r:=⟨r,rfl⟩
 all_goals(rename_i b0;subst b0;rfl)
def ay0(au:dj X){n:Nat}(tU:n<=300000)(ai:∀m,m<n->sa X aH bP aW m):∀h j i r,iZ X h j aH bP aW i->Go.aT.list n (aW.drop i)=some r->aU X 156 [.ptr aH 0] h j (λac S' an=>∃cb cD br cO,r= .ok (cb,aW.drop cD)/\dL X S' (dr j an) cO ac 1 (br.map λv=>[v])/\dD X S' (λe=>dr j an e/\e≠cO) cb br/\aT X S' aH bP aW cD/\cg X [aH] h j S' an) (jk X aH h j r):=by
 intro h j i r aw Y
 cases n with
 |zero=>simp[Go.aT.list]at Y
 |succ n=>
 refine zz au (amk X) ?_
 rw[aml]
 unfold aaC
 have he:=aw.a2
 have kD:=aw.hL
 have is:=aw.b3
 have j4:=aw.hn
 unfold Go.aT.list at Y
 obtain⟨x,ce,aF,ae⟩:=rX Y
 refine(oJ au aw aF _).Zm ?_
 rintro w5 aI aO ⟨rfl,es,iC⟩
 have jJ:=iC.le
 rcases ae with ⟨aD,Y⟩|⟨aD,Y⟩
 ·rw[aD]at es ⊢
  simp only[ZE]at es ⊢
  simp only[ok,Zf]at Y
  subst Y
  refine cd cf.eq_1 ⟨?_⟩
  refine⟨[],i+1,[],0,by rw[(fZ aF).2],dL.nil _ _, .nil,es.aa (zy) (zy), ?_⟩
  exact⟨Zo,λb ag bV=>by rw[<-iC.aa b ag bV];exact zy⟩
 ·rw[aD]at es ⊢
  simp only[Zy,ZD]at es ⊢
  simp only[]at Y
  refine cI cf.eq_1 hq.eq_1 ⟨?_⟩
  refine eN (λa1=>ba X aI aO a1 (aO+1)) dz ?_
  intro aM bx
  have f2:=aw.go (es.ex bx Zo Zo) (by omega:j<=aO+1)
  have dx:=iC.trans (cg.of bx)
  rcases gR Y with ⟨H,R,rfl⟩|⟨E,cR,R,Y⟩
  ·exact((ai n Zo).arrow aM _ _ _ f2 R).mono (λac S' an a=>by obtain⟨E,cD,a,_⟩:=a;cases a) (λac S' an a=>a.of dx (λ_ a=>by cases a;rfl))
  refine((ai n Zo).arrow aM _ _ _ f2 R).mono ?_ (λac S' an a=>by obtain⟨H,a,_⟩:=a;cases a)
  rintro v3 a1 bi ⟨f0,i3,auW,ck,g1,eh⟩
  cases auW
  have iO:=eh.le
  obtain⟨eb,rfl,pf,_⟩:=ck.ptr
  have pf:=pf.2
  refine cx ⟨?_⟩
  refine fh (λm I S' aN=>∃cb br s cq cD,br.length+m<=n+1/\I.g 0=some (.ptr aH 0)/\I.g 5=some s/\gk X S' s 1 br cq/\(∀e∈cq,j<=e/\e<aN)/\dD X S' (wV j aN cq) cb br/\aT X S' aH bP aW cD/\cg X [aH] h j S' aN/\p5 m cb (aW.drop cD)=some r)
   n ⟨[E],[.ptr eb 0], .slice bi 0 1 1,[bi],i3,Zx,a8,a8, .inr ⟨bi,1,_,_,rfl,rfl,rfl,a7 Zo,l8 _⟩, ?_, ?_,g1.aa (zy) (zy), ?_,Y⟩ ?_
  ·intro e B
   simp at B
   omega
  ·refine dD.one (cE.aa (λe B=> ?_) _ _ ck) (λe B=>⟨zs B.1,zs B.2,by have:=B.2;simp;omega⟩)
   have:=B.2
   simp(disch:=omega) only[aB]
  ·exact⟨Zo,λb ag bV=>by rw[<-(dx.trans eh).aa b ag bV];exact zy⟩
  clear ck g1 eh R Y pf
  rintro m I bA cK ⟨cb,br,s,cq,i4,bp,t0,t5,g2,eC,Ie,hF,eG,Y⟩
  cases m with
  |zero=>simp[p5]at Y
  |succ m=>
  unfold p5 at Y
  have iF:=eG.le
  have lq:=aw.go hF iF
  refine gi ?_
  refine cd @t0 ⟨?_⟩
  obtain⟨e,ce,aF,ae⟩:=rX Y
  refine(oJ au lq aF _).Zm ?_
  rintro vs bM bX ⟨rfl,hG,dH⟩
  have ik:=dH.le
  have lN:∀e,j<=e->e<cK->U X bM e=U X bA e:=λe M R=>dH.aa e Zo Zx
  have oz:=g2.aa (S':=bM) (λe B=>lN e (eC e B).1 (eC e B).2)
  have wl:=dD.aa (S':=bM) (λe B=>lN e B.1 B.2.1) _ _ Ie
  rcases ae with ⟨aD,Y⟩|⟨aD,Y⟩
  ·rw[aD]at hG ⊢
   simp only[ZE]at hG ⊢
   rw[<-(fZ aF).2]at Y
   simp only[]at Y
   refine dI cf.eq_1 @t0 @t5 ⟨?_⟩
   refine eN (λa1=>ba X bM bX a1 (bX+1)) dz ?_
   intro bZ el
   have eB:=(eG.trans dH).trans (cg.of el)
   have m1:=lq.go (hG.ex el Zo Zo) (by omega:cK<=bX+1)
   rcases gR Y with ⟨H,dl,rfl⟩|⟨HC,mV,dl,Y⟩
   ·exact((ai m Zo).arrow bZ _ _ _ m1 dl).mono (λac S' an a=>by obtain⟨E,cD,a,_⟩:=a;cases a) (λac S' an a=>a.of eB (λ_ a=>by cases a;rfl))
   refine((ai m Zo).arrow bZ _ _ _ m1 dl).mono ?_ (λac S' an a=>by obtain⟨H,a,_⟩:=a;cases a)
   rintro Ni ci dV ⟨adu,pX,AA,ez,h8,er⟩
   cases AA
   have nj:=er.le
   obtain⟨Jl,rfl,Fa,_⟩:=ez.ptr
   have Fa:=Fa.2
   refine cx ⟨?_⟩
   have ax5:∀gX,gX=bj X ci dV (zw [.ptr Jl 0] 1)->∀e,j<=e->e<bX->U X gX e=U X bM e:=by
    rintro gX rfl e M R
    rw[aB Zo Zo,er.aa e Zo Zx,el.aa e Zo]
   have kH:lu X (bj X ci dV (zw [.ptr Jl 0] 1)) 1 (.slice dV 0 1 1)=some (1,[.ptr Jl 0]):=rT (a7 Zo) (l8 _) rfl _
   obtain⟨eJ,dk,gf,ii,IB,Cn,sE⟩:=(oz.aa (S':=bj X ci dV (zw [.ptr Jl 0] 1)) (λe B=>ax5 _ rfl e (eC e B).1 (zs (eC e B).2))).append (j:=dV+1) Zd kH rfl Zd rfl Zx Zo (λe B=>zs (eC e B).2)
   refine kb ii ?_
   have gp:∀e,e<dV->e∉cq->U X dk e=U X ci e:=λe M R=>by
    rw[sE e Zo R,aB Zo Zo]
   refine⟨m,Zo,cb++[HC],br++[.ptr Jl 0],eJ,gf,pX,Zx,aL t0,a8, .inl IB, ?_, ?_, ?_, ?_,Y⟩
   ·intro e B
    rcases Cn e B with rfl|B
    ·omega
    ·have:=eC e B;omega
   ·refine dD.snoc (cE.aa (λe B=> ?_) _ _ ez) (dD.aa (λe B=> ?_) _ _ wl) (λe B=>⟨B.1,zs B.2.1,λgG=> ?_⟩) (λe B=>⟨⟨zs B.1,zs B.2,λgG=> ?_⟩,λpW=>by have:=B.1;have:=pW.2.1;omega⟩)
    ·have M:=B.1
     exact gp e B.2 (λgG=>zs (eC e gG))
    ·have R:=B.2.1
     rw[gp e Zo B.2.2,er.aa e Zo (by have:=B.1;simp;omega),el.aa e Zo]
    ·have R:=B.2.1
     rcases Cn e gG with rfl|gG
     ·omega
     ·exact B.2.2 gG
    ·have M:=B.1;have R:=B.2
     rcases Cn e gG with rfl|gG
     ·omega
     ·have:=eC e gG;omega
   ·exact h8.aa (gp _ Zo (λE=>zs (eC _ E))) (gp _ Zo (λE=>zs (eC _ E)))
   ·exact⟨Zo,λb ag bV=>by rw[gp b Zo (λE=>zs (eC _ E))];exact(eB.trans er).aa b ag bV⟩
  ·rw[aD]at hG ⊢
   simp only[Zy,ZD]at hG ⊢
   simp only[]at Y
   refine fI cf.eq_1 hq.eq_1 @t0 @t5 ⟨?_⟩
   refine eN (λa1=>ba X bM bX a1 (bX+1+1)/\U X a1 (bX+1)=zw [.str [41]] 1) ⟨dz,a7 Zo⟩ ?_
   rintro bZ ⟨el,dZ⟩
   have eB:=(eG.trans dH).trans (cg.of el)
   have m1:=lq.go (hG.ex el Zo Zo) (by omega:cK<=bX+1+1)
   rcases gR Y with ⟨H,dl,rfl⟩|⟨HC,mV,dl,Y⟩
   ·exact(j1 au m1 Zo Zo dZ dl).mono (λac S' an a=>by obtain⟨E,cD,a,_⟩:=a;cases a) (λac S' an a=>a.of eB (λ_ a=>by cases a;rfl))
   refine(j1 au m1 Zo Zo dZ dl).mono ?_ (λac S' an a=>by obtain⟨H,a,_⟩:=a;cases a)
   rintro Ni ci dV ⟨adu,pX,AA,_,h8,er⟩
   cases AA
   have nj:=er.le
   simp only[ok,Zf]at Y
   subst Y
   refine cd @t5 ⟨?_⟩
   have ft:∀e,j<=e->e<bX->U X ci e=U X bM e:=λe M R=>by
    rw[er.aa e Zo Zx,el.aa e Zo]
   obtain⟨cO,cB⟩:=(oz.aa (S':=ci) (λe B=>ft e (eC e B).1 (zs (eC e B).2))).MS (P:=λe=>dr j dV e/\e∈cq) Zo (λe B=>⟨⟨(eC e B).1,zs (eC e B).2⟩,B⟩)
   refine⟨cb,pX,br,cO,rfl,cB.lift (λe B=>B.1), ?_,h8,eB.trans er⟩
   exact dD.lift (λe B=>⟨⟨B.1.1,zs B.1.2⟩,B.2⟩) _ _ (dD.off (dD.aa (λe B=>ft e B.1 (zs B.2.1)) _ _ wl) cB)
end
section
variable{X:cl}{h S' aI aM:Q af}{j an aO aZ aH bP:Nat}{aW:List Tok}{i:Nat}
def aAT(au:dj X){n:Nat}{r:Except Int (bD×List Tok)}(aw:iZ X h j aH bP aW i){x:Tok}{l:List Tok}(aF:aW.drop i=x::l)(aJ:x.kind=5)(Y:Go.aT.part (n+1) (x::l)=some r):
 aU X 153 [.ptr aH 0] h j (kf X aH bP aW h j r) (jk X aH h j r):=by
 refine zz au (BH X) ?_
 rw[BI]
 unfold yW
 have he:=aw.a2
 have kD:=aw.hL
 have is:=aw.b3
 have j4:=aw.hn
 obtain⟨ae,kn⟩:=fZ aF
 unfold Go.aT.part at Y
 refine(sW au aw.a2 aw.par aw.hL aw.hn ae).Zm ?_
 rintro ac aI aO ⟨rfl,bH⟩
 have jJ:=bH.le
 have es:=aw.par.ex bH Zo Zo
 obtain⟨c,ao,bb,b5,a3,a4⟩:=es.at_
 have bQ:=ks bb a3
 have l5:=(Zc.1 ae).1
 have ww:=aw.many
 have dQ:=es.ne
 have bz:=zx i
 refine gh cf.eq_1 @bQ (Za @bz @bb) ⟨?_⟩
 generalize d3:bj X _ aH _=aM
 have ff:U X aM aO=zw (cf x) 7:=by rw[<-d3];simp(disch:=omega) only[aB,a7]<;>rfl
 have iA:U X aM (aO+1)=zw (ht 0 x.at_ [] false dU 0 .aV) 9:=by rw[<-d3];simp(disch:=omega) only[aB,a7]<;>rfl
 have dF:aT X aM aH bP aW (i+1):=by
  refine es.on (c:=dS c 1 [.Z ((i+1:Nat):Int)]) ?_ (λdB st a=>by rw[bb]at a;cases a;exact r1 ..) ?_
  ·rw[<-d3];simp(disch:=omega) only[aB,a7];rfl
  ·rw[<-d3];simp(disch:=omega) only[aB]
 have dx:cg X [aH] h j aM (aO+2):=by
  refine⟨Zo,λb ag bV=> ?_⟩
  rw[<-bH.aa b ag, <-d3]
  simp only[Zt,ZJ,YS,Ym,ZG,Yc]at bV
  simp(disch:=omega) only[aB]
 clear d3 bQ bb b5 a3 a4 es bH
 have uR:∃dN,U X aM aH=some (.cells dN 2 .own)/\aP X aM (.ptr aH 1)=some (.Z ((i+1:Nat):Int)):=by
  obtain⟨c,ao,bY,co,cY,fM⟩:=dF.at_
  exact⟨c,bY,ks bY cY⟩
 have f2:=aw.go dF (by omega:j<=aO+1+1)
 refine iR (λI S' aN=>∃v,I.g 4=some v/\kf X aH bP aW h j r v S' aN) (λS bE=> ?_) (by
  rintro I S' aN ⟨v,t4,a⟩
  refine cd @t4 ⟨?_⟩
  exact a)
 rw[Zr aJ]at Y
 simp only[ok,Zf]at Y
 subst Y
 have gu:decide (x.kind=5)=true:=by simp[aJ]
 refine fI (bc ff) @iA @gu cf.eq_1 ⟨?_⟩
 refine f4 (by simp[D.same,lO]) ?_
 refine dI (bc ff) @iA cf.eq_1 ⟨?_⟩
 refine f4 (oI _ _) ?_
 refine dI (bc ff) @iA cf.eq_1 ⟨?_⟩
 refine f4 (oI _ _) ?_
 refine dI (bc ff) @iA cf.eq_1 ⟨?_⟩
 refine bE _ _ _ ⟨.ptr (aO+1) 0,a8,_,i+1,by rw[<-kn],cE.leaf (b:=aO+1) (m:=9) (st:= .own) ?_ ⟨Zo,Zo⟩,dF.aa (zy) (zy), ?_⟩
 ·simp(disch:=omega) only[aB,a7]<;>rfl
 ·exact⟨Zo,λb ag bV=>by rw[<-dx.aa b ag bV];exact zy⟩
end
section
variable{X:cl}{h S' aI aM:Q af}{j an aO aZ aH bP:Nat}{aW:List Tok}{i:Nat}
def aiP(au:dj X){n:Nat}{r:Except Int (bD×List Tok)}(aw:iZ X h j aH bP aW i){x:Tok}{l:List Tok}(aF:aW.drop i=x::l)(aJ:x.kind=2)(be:x.text=[116,114,117,101]\/x.text=[102,97,108,115,101])(Y:Go.aT.part (n+1) (x::l)=some r):
 aU X 153 [.ptr aH 0] h j (kf X aH bP aW h j r) (jk X aH h j r):=by
 refine zz au (BH X) ?_
 rw[BI]
 unfold yW
 have he:=aw.a2
 have kD:=aw.hL
 have is:=aw.b3
 have j4:=aw.hn
 obtain⟨ae,kn⟩:=fZ aF
 unfold Go.aT.part at Y
 refine(sW au aw.a2 aw.par aw.hL aw.hn ae).Zm ?_
 rintro ac aI aO ⟨rfl,bH⟩
 have jJ:=bH.le
 have es:=aw.par.ex bH Zo Zo
 obtain⟨c,ao,bb,b5,a3,a4⟩:=es.at_
 have bQ:=ks bb a3
 have l5:=(Zc.1 ae).1
 have ww:=aw.many
 have dQ:=es.ne
 have bz:=zx i
 refine gh cf.eq_1 @bQ (Za @bz @bb) ⟨?_⟩
 generalize d3:bj X _ aH _=aM
 have ff:U X aM aO=zw (cf x) 7:=by rw[<-d3];simp(disch:=omega) only[aB,a7]<;>rfl
 have iA:U X aM (aO+1)=zw (ht 0 x.at_ [] false dU 0 .aV) 9:=by rw[<-d3];simp(disch:=omega) only[aB,a7]<;>rfl
 have dF:aT X aM aH bP aW (i+1):=by
  refine es.on (c:=dS c 1 [.Z ((i+1:Nat):Int)]) ?_ (λdB st a=>by rw[bb]at a;cases a;exact r1 ..) ?_
  ·rw[<-d3];simp(disch:=omega) only[aB,a7];rfl
  ·rw[<-d3];simp(disch:=omega) only[aB]
 have dx:cg X [aH] h j aM (aO+2):=by
  refine⟨Zo,λb ag bV=> ?_⟩
  rw[<-bH.aa b ag, <-d3]
  simp only[Zt,ZJ,YS,Ym,ZG,Yc]at bV
  simp(disch:=omega) only[aB]
 clear d3 bQ bb b5 a3 a4 es bH
 have uR:∃dN,U X aM aH=some (.cells dN 2 .own)/\aP X aM (.ptr aH 1)=some (.Z ((i+1:Nat):Int)):=by
  obtain⟨c,ao,bY,co,cY,fM⟩:=dF.at_
  exact⟨c,bY,ks bY cY⟩
 have f2:=aw.go dF (by omega:j<=aO+1+1)
 refine iR (λI S' aN=>∃v,I.g 4=some v/\kf X aH bP aW h j r v S' aN) (λS bE=> ?_) (by
  rintro I S' aN ⟨v,t4,a⟩
  refine cd @t4 ⟨?_⟩
  exact a)
 rw[Zh (by rw[aJ];decide),Zr (by rcases be with a|a<;>simp[aJ,a])]at Y
 simp only[ok,Zf]at Y
 subst Y
 have gu:decide (x.kind=5)=false:=by simp[aJ]
 have cy:decide (x.kind=2)=true:=by simp[aJ]
 rcases be with be|be
 ·have KA:decide (x.text=[116,114,117,101])=true:=by simp[be]
  refine hu (bc ff) @iA @gu @cy @KA cf.eq_1 ⟨?_⟩
  refine bE _ _ _ ⟨.ptr (aO+1) 0,a8,_,i+1,by rw[<-kn],cE.leaf (b:=aO+1) (m:=9) (st:= .own) (n:=if x.text=[116,114,117,101]then 1 else 0) ?_ ⟨Zo,Zo⟩,dF.aa (zy) (zy), ?_⟩
  ·rw[Zr be];simp(disch:=omega) only[aB,a7]<;>rfl
  ·exact⟨Zo,λb ag bV=>by rw[<-dx.aa b ag bV];exact zy⟩
 ·have KA:decide (x.text=[116,114,117,101])=false:=by simp[be]
  have bh:decide (x.text=[102,97,108,115,101])=true:=by simp[be]
  refine d9 (bc ff) @iA @gu @cy @KA @bh cf.eq_1 ⟨?_⟩
  refine bE _ _ _ ⟨.ptr (aO+1) 0,a8,_,i+1,by rw[<-kn],cE.leaf (b:=aO+1) (m:=9) (st:= .own) (n:=if x.text=[116,114,117,101]then 1 else 0) ?_ ⟨Zo,Zo⟩,dF.aa (zy) (zy), ?_⟩
  ·rw[Zh (by rw[be];decide)];simp(disch:=omega) only[aB,a7]<;>rfl
  ·exact⟨Zo,λb ag bV=>by rw[<-dx.aa b ag bV];exact zy⟩
end
section
variable{X:cl}{h S' aI aM:Q af}{j an aO aZ aH bP:Nat}{aW:List Tok}{i:Nat}
def aAV(au:dj X){n:Nat}(ai:∀m,m<n+1->sa X aH bP aW m){r:Except Int (bD×List Tok)}(aw:iZ X h j aH bP aW i){x:Tok}{l:List Tok}(aF:aW.drop i=x::l)(tU:n<=1000000)(aJ:x.kind=1)(Y:Go.aT.part (n+1) (x::l)=some r):
 aU X 153 [.ptr aH 0] h j (kf X aH bP aW h j r) (jk X aH h j r):=by
 refine zz au (BH X) ?_
 rw[BI]
 unfold yW
 have he:=aw.a2
 have kD:=aw.hL
 have is:=aw.b3
 have j4:=aw.hn
 obtain⟨ae,kn⟩:=fZ aF
 unfold Go.aT.part at Y
 refine(sW au aw.a2 aw.par aw.hL aw.hn ae).Zm ?_
 rintro ac aI aO ⟨rfl,bH⟩
 have jJ:=bH.le
 have es:=aw.par.ex bH Zo Zo
 obtain⟨c,ao,bb,b5,a3,a4⟩:=es.at_
 have bQ:=ks bb a3
 have l5:=(Zc.1 ae).1
 have ww:=aw.many
 have dQ:=es.ne
 have bz:=zx i
 refine gh cf.eq_1 @bQ (Za @bz @bb) ⟨?_⟩
 generalize d3:bj X _ aH _=aM
 have ff:U X aM aO=zw (cf x) 7:=by rw[<-d3];simp(disch:=omega) only[aB,a7]<;>rfl
 have iA:U X aM (aO+1)=zw (ht 0 x.at_ [] false dU 0 .aV) 9:=by rw[<-d3];simp(disch:=omega) only[aB,a7]<;>rfl
 have dF:aT X aM aH bP aW (i+1):=by
  refine es.on (c:=dS c 1 [.Z ((i+1:Nat):Int)]) ?_ (λdB st a=>by rw[bb]at a;cases a;exact r1 ..) ?_
  ·rw[<-d3];simp(disch:=omega) only[aB,a7];rfl
  ·rw[<-d3];simp(disch:=omega) only[aB]
 have dx:cg X [aH] h j aM (aO+2):=by
  refine⟨Zo,λb ag bV=> ?_⟩
  rw[<-bH.aa b ag, <-d3]
  simp only[Zt,ZJ,YS,Ym,ZG,Yc]at bV
  simp(disch:=omega) only[aB]
 clear d3 bQ bb b5 a3 a4 es bH
 have uR:∃dN,U X aM aH=some (.cells dN 2 .own)/\aP X aM (.ptr aH 1)=some (.Z ((i+1:Nat):Int)):=by
  obtain⟨c,ao,bY,co,cY,fM⟩:=dF.at_
  exact⟨c,bY,ks bY cY⟩
 have f2:=aw.go dF (by omega:j<=aO+1+1)
 refine iR (λI S' aN=>∃v,I.g 4=some v/\kf X aH bP aW h j r v S' aN) (λS bE=> ?_) (by
  rintro I S' aN ⟨v,t4,a⟩
  refine cd @t4 ⟨?_⟩
  exact a)
 rw[Zh (by rw[aJ];decide),Zh (by simp[aJ]),Zr aJ]at Y
 have gu:decide (x.kind=5)=false:=by simp[aJ]
 have cy:decide (x.kind=2)=false:=by simp[aJ]
 have cT:decide (x.kind=1)=true:=by simp[aJ]
 refine hu (bc ff) @iA @gu @cy @cT cf.eq_1 ⟨?_⟩
 refine f4 (by simp[D.same,qS]) ?_
 refine dI (bc ff) @iA cf.eq_1 ⟨?_⟩
 refine eN (λa1=>U X a1 (aO+1)=zw (ht 2 x.at_ x.text false dU 0 .aV) 9/\aT X a1 aH bP aW (i+1)/\cg X [aH] h j a1 (aO+1+1+10)) ⟨?_, ?_, ?_⟩ ?_
 ·simp(disch:=omega) only[aB,a7]<;>rfl
 ·exact dF.aa (zy) (zy)
 ·exact⟨Zo,λb ag bV=>by rw[<-dx.aa b ag bV];exact zy⟩
 clear dF f2 dx ff iA uR
 rintro a1 ⟨iA,g1,eh⟩
 have nX:=aw.go g1 (by omega:j<=aO+1+1+10)
 rw[<-kn]at Y
 obtain⟨e,hl,ES,axf⟩:=rX Y
 refine(oJ au nX ES _).Zm ?_
 rintro vr bA cK ⟨rfl,hF,eG⟩
 have iF:=eG.le
 have KQ:U X bA (aO+1)=zw (ht 2 x.at_ x.text false dU 0 .aV) 9:=by rw[eG.aa _ Zo Zx];exact iA
 have sw:=eh.trans eG
 rcases axf with ⟨aD,Y⟩|⟨aD,Y⟩
 ·rw[aD]at hF ⊢
  simp only[ZE]at hF ⊢
  rw[<-(fZ ES).2]at Y
  simp only[]at Y
  refine cd cf.eq_1 ⟨?_⟩
  refine eN (λbM=>ba X bA cK bM (cK+1)) dz ?_
  intro bM dC
  have pn:=nX.go (hF.ex dC Zo Zo) (by omega:aO+1+1+10<=cK+1)
  have dH:=sw.trans (cg.of dC)
  rcases gR Y with ⟨H,b9,rfl⟩|⟨cb,ma,b9,Y⟩
  ·exact((ai n Zo).list bM _ _ _ pn b9).mono (λac S' an a=>by obtain⟨E,cD,br,cO,a,_⟩:=a;cases a) (λac S' an a=>a.of dH (λ_ a=>by cases a;rfl))
  refine((ai n Zo).list bM _ _ _ pn b9).mono ?_ (λac S' an a=>by obtain⟨H,a,_⟩:=a;cases a)
  rintro Bm bZ dy ⟨mK,iw,br,cO,UP,cB,Ie,hV,eB⟩
  cases UP
  have pb:=eB.le
  simp only[ok,Zf]at Y
  subst Y
  have tD:U X bZ (aO+1)=zw (ht 2 x.at_ x.text false dU 0 .aV) 9:=by rw[eB.aa _ Zo Zx,dC.aa _ Zo];exact KQ
  have rD:∃w,Bm.cells=[w]/\w=Bm/\qV Bm=true:=by
   have:=cB.len
   cases Bm<;>first|exact⟨_,rfl,rfl,rfl⟩|(simp[gz]at this;done)
  obtain⟨w,bs,rfl,nR⟩:=rD
  have dd:∀ci SK,U X ci (aO+1)=some (.cells SK 9 .own)->gq X ci 1 (.ptr (aO+1) 8) w=some (bj X ci (aO+1) (some (.cells (SK.set 8 (some w)) 9 .own))):=λci SK a=>us a Zo Zo bs nR
  refine cd @tD ⟨?_⟩
  refine f8 (dd _ _ (a7 Zo)) ?_
  refine bE _ _ _ ⟨.ptr (aO+1) 0,a8,_,iw,rfl,cE.of (b:=aO+1) (m:=9) (st:= .own) (cO:=cO) (aS:=w) (kind:=25) (at_:=x.at_) (name:=x.text) (no:=false) (ty:=dU) (n:=0) (br:=br) ?_ ⟨Zo,Zo⟩ ?_ (λbB=> ?_) ?_,hV.aa (zy) (zy), ?_⟩
  ·simp(disch:=omega) only[aB,a7]<;>rfl
  ·refine(cB.aa (λe B=> ?_)).lift (λe B=>⟨zs B.1,B.2⟩)
   have:=B.1
   simp(disch:=omega) only[aB]
  ·have:=(cB.ag (by simpa using bB)).1
   omega
  ·refine dD.lift (λe B=>⟨⟨zs B.1.1,zs B.1.2⟩,zs B.1.1,B.2⟩) _ _ (dD.aa (λe B=> ?_) _ _ Ie)
   have M:=B.1.1
   have R:=B.1.2
   simp(disch:=omega) only[aB]
  ·exact⟨Zo,λb ag bV=>by rw[<-(dH.trans eB).aa b ag bV];exact zy⟩
 ·rw[aD]at hF ⊢
  simp only[Zy,ZD]at hF ⊢
  simp only[ok,Zf]at Y
  subst Y
  refine cI cf.eq_1 hq.eq_1 ⟨?_⟩
  refine bE _ _ _ ⟨.ptr (aO+1) 0,a8,_,i+1,rfl,cE.leaf (b:=aO+1) (m:=9) (st:= .own) ?_ ⟨Zo,Zo⟩,hF.aa (zy) (zy), ?_⟩
  ·simp(disch:=omega) only[aB];exact KQ
  ·exact⟨Zo,λb ag bV=>by rw[<-sw.aa b ag bV];exact zy⟩
end
section
variable{X:cl}{h S' aI aM:Q af}{j an aO aZ aH bP:Nat}{aW:List Tok}{i:Nat}
def aAY(au:dj X){n:Nat}(ai:∀m,m<n+1->sa X aH bP aW m){r:Except Int (bD×List Tok)}(aw:iZ X h j aH bP aW i){x:Tok}{l:List Tok}(aF:aW.drop i=x::l)(aJ:x.kind=3)(Y:Go.aT.part (n+1) (x::l)=some r):
 aU X 153 [.ptr aH 0] h j (kf X aH bP aW h j r) (jk X aH h j r):=by
 refine zz au (BH X) ?_
 rw[BI]
 unfold yW
 have he:=aw.a2
 have kD:=aw.hL
 have is:=aw.b3
 have j4:=aw.hn
 obtain⟨ae,kn⟩:=fZ aF
 unfold Go.aT.part at Y
 refine(sW au aw.a2 aw.par aw.hL aw.hn ae).Zm ?_
 rintro ac aI aO ⟨rfl,bH⟩
 have jJ:=bH.le
 have es:=aw.par.ex bH Zo Zo
 obtain⟨c,ao,bb,b5,a3,a4⟩:=es.at_
 have bQ:=ks bb a3
 have l5:=(Zc.1 ae).1
 have ww:=aw.many
 have dQ:=es.ne
 have bz:=zx i
 refine gh cf.eq_1 @bQ (Za @bz @bb) ⟨?_⟩
 generalize d3:bj X _ aH _=aM
 have ff:U X aM aO=zw (cf x) 7:=by rw[<-d3];simp(disch:=omega) only[aB,a7]<;>rfl
 have iA:U X aM (aO+1)=zw (ht 0 x.at_ [] false dU 0 .aV) 9:=by rw[<-d3];simp(disch:=omega) only[aB,a7]<;>rfl
 have dF:aT X aM aH bP aW (i+1):=by
  refine es.on (c:=dS c 1 [.Z ((i+1:Nat):Int)]) ?_ (λdB st a=>by rw[bb]at a;cases a;exact r1 ..) ?_
  ·rw[<-d3];simp(disch:=omega) only[aB,a7];rfl
  ·rw[<-d3];simp(disch:=omega) only[aB]
 have dx:cg X [aH] h j aM (aO+2):=by
  refine⟨Zo,λb ag bV=> ?_⟩
  rw[<-bH.aa b ag, <-d3]
  simp only[Zt,ZJ,YS,Ym,ZG,Yc]at bV
  simp(disch:=omega) only[aB]
 clear d3 bQ bb b5 a3 a4 es bH
 have uR:∃dN,U X aM aH=some (.cells dN 2 .own)/\aP X aM (.ptr aH 1)=some (.Z ((i+1:Nat):Int)):=by
  obtain⟨c,ao,bY,co,cY,fM⟩:=dF.at_
  exact⟨c,bY,ks bY cY⟩
 have f2:=aw.go dF (by omega:j<=aO+1+1)
 refine iR (λI S' aN=>∃v,I.g 4=some v/\kf X aH bP aW h j r v S' aN) (λS bE=> ?_) (by
  rintro I S' aN ⟨v,t4,a⟩
  refine cd @t4 ⟨?_⟩
  exact a)
 rw[Zh (by rw[aJ];decide),Zh (by simp[aJ]),Zh (by rw[aJ];decide),Zr aJ]at Y
 have gu:decide (x.kind=5)=false:=by simp[aJ]
 have cy:decide (x.kind=2)=false:=by simp[aJ]
 have cT:decide (x.kind=1)=false:=by simp[aJ]
 have e1:decide (x.kind=3)=true:=by simp[aJ]
 refine d9 (bc ff) @iA @gu @cy @cT @e1 cf.eq_1 ⟨?_⟩
 refine f4 (by simp[D.same,lO]) ?_
 refine dI (bc ff) @iA cf.eq_1 ⟨?_⟩
 refine eN (λa1=>U X a1 (aO+1+1+10)=zw [.str [40]] 1/\U X a1 (aO+1)=zw (ht 26 x.at_ [] false x.ty 0 .aV) 9/\aT X a1 aH bP aW (i+1)/\cg X [aH] h j a1 (aO+1+1+10+1)) ⟨a7 Zo, ?_, ?_, ?_⟩ ?_
 ·simp(disch:=omega) only[aB,a7]<;>rfl
 ·exact dF.aa (zy) (zy)
 ·exact⟨Zo,λb ag bV=>by rw[<-dx.aa b ag bV];exact zy⟩
 clear dF f2 dx ff iA uR
 rintro a1 ⟨am,iA,g1,eh⟩
 have nX:=aw.go g1 (by omega:j<=aO+1+1+10+1)
 rw[<-kn]at Y
 rcases gR Y with ⟨H,aA,rfl⟩|⟨lX,hl,aA,Y⟩
 ·exact(j1 au nX Zo Zo am aA).mono (λac S' an a=>by obtain⟨E,cD,a,_⟩:=a;cases a) (λac S' an a=>a.of eh (λ_ a=>by cases a;rfl))
 refine(j1 au nX Zo Zo am aA).mono ?_ (λac S' an a=>by obtain⟨H,a,_⟩:=a;cases a)
 rintro v4 bA cK ⟨aEl,i4,u2,_,hF,eG⟩
 cases u2
 have iF:=eG.le
 have lq:=nX.go hF iF
 have At:=eh.trans eG
 rcases gR Y with ⟨H,bv,rfl⟩|⟨qy,g3,bv,Y⟩
 ·exact((ai n Zo).arrow bA _ _ _ lq bv).mono (λac S' an a=>by obtain⟨E,cD,a,_⟩:=a;cases a) (λac S' an a=>a.of At (λ_ a=>by cases a;rfl))
 refine((ai n Zo).arrow bA _ _ _ lq bv).mono ?_ (λac S' an a=>by obtain⟨H,a,_⟩:=a;cases a)
 rintro v5 bM bX ⟨Oh,i5,tO,dC,hG,dH⟩
 cases tO
 have ik:=dH.le
 have pn:=lq.go hG ik
 have rr:=At.trans dH
 obtain⟨m2,rfl,sI,_⟩:=dC.ptr
 have sI:=sI.2
 have su:U X bM (aO+1)=zw (ht 26 x.at_ [] false x.ty 0 .aV) 9:=by rw[dH.aa _ Zo Zx,eG.aa _ Zo Zx];exact iA
 refine cd @su ⟨?_⟩
 refine eN (λbZ=>U X bZ (bX+1)=zw [.str [41]] 1/\U X bZ bX=zw [.ptr m2 0] 1/\U X bZ (aO+1)=zw (ht 26 x.at_ [] false x.ty 0 (.slice bX 0 1 1)) 9/\cE X bZ (dr cK bX) qy (.ptr m2 0)/\aT X bZ aH bP aW i5/\cg X [aH] h j bZ (bX+1+1)) ⟨a7 Zo, ?_, ?_, ?_, ?_, ?_⟩ ?_
 ·simp(disch:=omega) only[aB,a7]<;>rfl
 ·simp(disch:=omega) only[aB,a7]<;>rfl
 ·refine cE.ex dC (λe M R=> ?_) Zo Zo
  simp(disch:=omega) only[aB]
 ·exact hG.aa (zy) (zy)
 ·exact⟨Zo,λb ag bV=>by rw[<-rr.aa b ag bV];exact zy⟩
 clear dC hG su dH
 rintro bZ ⟨KT,as1,tD,el,hV,eB⟩
 have m1:=aw.go hV (by omega:j<=bX+1+1)
 rcases gR Y with ⟨H,dl,rfl⟩|⟨xa,mV,dl,Y⟩
 ·exact(j1 au m1 Zo Zo KT dl).mono (λac S' an a=>by obtain⟨E,cD,a,_⟩:=a;cases a) (λac S' an a=>a.of eB (λ_ a=>by cases a;rfl))
 refine(j1 au m1 Zo Zo KT dl).mono ?_ (λac S' an a=>by obtain⟨H,a,_⟩:=a;cases a)
 rintro Ni ci dV ⟨aEm,pX,AA,_,h8,er⟩
 cases AA
 have nj:=er.le
 simp only[ok,Zf]at Y
 subst Y
 refine bE _ _ _ ⟨.ptr (aO+1) 0,a8,_,pX,rfl,cE.lit (z:=1) (cap:=1) (b:=aO+1) (m:=9) (st:= .own) (jx:= .own) (cO:=bX) (br:=[.ptr m2 0]) ?_ ⟨Zo,Zo⟩ ?_ ⟨Zo,Zo⟩ rfl Zo Zo (dD.one (cE.aa (λe B=> ?_) _ _ el) (λe B=> ?_)),h8,eB.trans er⟩
 ·rw[er.aa _ Zo Zx];exact tD
 ·rw[er.aa _ Zo Zx];exact as1
 ·have M:=B.1;have R:=B.2
  exact er.aa e Zo Zx
 ·simp only[dr]at B ⊢;omega
end
section
variable{X:cl}{h S' aI aM:Q af}{j an aO aZ aH bP:Nat}{aW:List Tok}{i:Nat}
def aAX(au:dj X){n:Nat}(ai:∀m,m<n+1->sa X aH bP aW m){r:Except Int (bD×List Tok)}(aw:iZ X h j aH bP aW i){x:Tok}{l:List Tok}(aF:aW.drop i=x::l)(aJ:x.kind=6)(be:x.text=[40])(Y:Go.aT.part (n+1) (x::l)=some r):
 aU X 153 [.ptr aH 0] h j (kf X aH bP aW h j r) (jk X aH h j r):=by
 refine zz au (BH X) ?_
 rw[BI]
 unfold yW
 have he:=aw.a2
 have kD:=aw.hL
 have is:=aw.b3
 have j4:=aw.hn
 obtain⟨ae,kn⟩:=fZ aF
 unfold Go.aT.part at Y
 refine(sW au aw.a2 aw.par aw.hL aw.hn ae).Zm ?_
 rintro ac aI aO ⟨rfl,bH⟩
 have jJ:=bH.le
 have es:=aw.par.ex bH Zo Zo
 obtain⟨c,ao,bb,b5,a3,a4⟩:=es.at_
 have bQ:=ks bb a3
 have l5:=(Zc.1 ae).1
 have ww:=aw.many
 have dQ:=es.ne
 have bz:=zx i
 refine gh cf.eq_1 @bQ (Za @bz @bb) ⟨?_⟩
 generalize d3:bj X _ aH _=aM
 have ff:U X aM aO=zw (cf x) 7:=by rw[<-d3];simp(disch:=omega) only[aB,a7]<;>rfl
 have iA:U X aM (aO+1)=zw (ht 0 x.at_ [] false dU 0 .aV) 9:=by rw[<-d3];simp(disch:=omega) only[aB,a7]<;>rfl
 have dF:aT X aM aH bP aW (i+1):=by
  refine es.on (c:=dS c 1 [.Z ((i+1:Nat):Int)]) ?_ (λdB st a=>by rw[bb]at a;cases a;exact r1 ..) ?_
  ·rw[<-d3];simp(disch:=omega) only[aB,a7];rfl
  ·rw[<-d3];simp(disch:=omega) only[aB]
 have dx:cg X [aH] h j aM (aO+2):=by
  refine⟨Zo,λb ag bV=> ?_⟩
  rw[<-bH.aa b ag, <-d3]
  simp only[Zt,ZJ,YS,Ym,ZG,Yc]at bV
  simp(disch:=omega) only[aB]
 clear d3 bQ bb b5 a3 a4 es bH
 have uR:∃dN,U X aM aH=some (.cells dN 2 .own)/\aP X aM (.ptr aH 1)=some (.Z ((i+1:Nat):Int)):=by
  obtain⟨c,ao,bY,co,cY,fM⟩:=dF.at_
  exact⟨c,bY,ks bY cY⟩
 have f2:=aw.go dF (by omega:j<=aO+1+1)
 refine iR (λI S' aN=>∃v,I.g 4=some v/\kf X aH bP aW h j r v S' aN) (λS bE=> ?_) (by
  rintro I S' aN ⟨v,t4,a⟩
  refine cd @t4 ⟨?_⟩
  exact a)
 rw[Zh (by rw[aJ];decide),Zh (by simp[aJ]),Zh (by rw[aJ];decide),Zh (by rw[aJ];decide),Zr (by simp[aJ,be])]at Y
 have gu:decide (x.kind=5)=false:=by simp[aJ]
 have cy:decide (x.kind=2)=false:=by simp[aJ]
 have cT:decide (x.kind=1)=false:=by simp[aJ]
 have e1:decide (x.kind=3)=false:=by simp[aJ]
 have g8:decide (x.kind=6)=true:=by simp[aJ]
 have KA:decide (x.text=[40])=true:=by simp[be]
 refine d9 (bc ff) @iA @gu @cy @cT @e1 (Za @g8 (Za @KA cf.eq_1)) ⟨?_⟩
 rw[<-kn]at Y
 rcases gR Y with ⟨H,bv,rfl⟩|⟨qy,g3,bv,Y⟩
 ·exact((ai n Zo).arrow aM _ _ _ f2 bv).mono (λac S' an a=>by obtain⟨E,cD,a,_⟩:=a;cases a) (λac S' an a=>a.of dx (λ_ a=>by cases a;rfl))
 refine((ai n Zo).arrow aM _ _ _ f2 bv).mono ?_ (λac S' an a=>by obtain⟨H,a,_⟩:=a;cases a)
 rintro v5 bM bX ⟨Oh,i5,tO,dC,hG,dH⟩
 cases tO
 have ik:=dH.le
 have pn:=f2.go hG ik
 have rr:=dx.trans dH
 refine cx ⟨?_⟩
 refine eN (λbZ=>U X bZ bX=zw [.str [41]] 1/\ba X bM bX bZ (bX+1)) ⟨a7 Zo,dz⟩ ?_
 rintro bZ ⟨KT,el⟩
 have m1:=pn.go (hG.ex el Zo Zo) (by omega:bX<=bX+1)
 have eB:=rr.trans (cg.of el)
 rcases gR Y with ⟨H,dl,rfl⟩|⟨xa,mV,dl,Y⟩
 ·exact(j1 au m1 Zo Zo KT dl).mono (λac S' an a=>by obtain⟨E,cD,a,_⟩:=a;cases a) (λac S' an a=>a.of eB (λ_ a=>by cases a;rfl))
 refine(j1 au m1 Zo Zo KT dl).mono ?_ (λac S' an a=>by obtain⟨H,a,_⟩:=a;cases a)
 rintro Ni ci dV ⟨aEm,pX,AA,_,h8,er⟩
 cases AA
 have nj:=er.le
 simp only[ok,Zf]at Y
 subst Y
 refine bE _ _ _ ⟨v5,a8,_,pX,rfl,cE.ex dC (λe M R=>by rw[er.aa e Zo Zx,el.aa e Zo]) Zo Zo,h8,eB.trans er⟩
end
section
variable{X:cl}{h S' aI aM:Q af}{j an aO aZ aH bP:Nat}{aW:List Tok}{i:Nat}
def aAU(au:dj X){n:Nat}(ai:∀m,m<n+1->sa X aH bP aW m){r:Except Int (bD×List Tok)}(aw:iZ X h j aH bP aW i){x:Tok}{l:List Tok}(aF:aW.drop i=x::l)(aJ:x.kind=2)(be:x.text=[109,101,114,103,101])(Y:Go.aT.part (n+1) (x::l)=some r):
 aU X 153 [.ptr aH 0] h j (kf X aH bP aW h j r) (jk X aH h j r):=by
 refine zz au (BH X) ?_
 rw[BI]
 unfold yW
 have he:=aw.a2
 have kD:=aw.hL
 have is:=aw.b3
 have j4:=aw.hn
 obtain⟨ae,kn⟩:=fZ aF
 unfold Go.aT.part at Y
 refine(sW au aw.a2 aw.par aw.hL aw.hn ae).Zm ?_
 rintro ac aI aO ⟨rfl,bH⟩
 have jJ:=bH.le
 have es:=aw.par.ex bH Zo Zo
 obtain⟨c,ao,bb,b5,a3,a4⟩:=es.at_
 have bQ:=ks bb a3
 have l5:=(Zc.1 ae).1
 have ww:=aw.many
 have dQ:=es.ne
 have bz:=zx i
 refine gh cf.eq_1 @bQ (Za @bz @bb) ⟨?_⟩
 generalize d3:bj X _ aH _=aM
 have ff:U X aM aO=zw (cf x) 7:=by rw[<-d3];simp(disch:=omega) only[aB,a7]<;>rfl
 have iA:U X aM (aO+1)=zw (ht 0 x.at_ [] false dU 0 .aV) 9:=by rw[<-d3];simp(disch:=omega) only[aB,a7]<;>rfl
 have dF:aT X aM aH bP aW (i+1):=by
  refine es.on (c:=dS c 1 [.Z ((i+1:Nat):Int)]) ?_ (λdB st a=>by rw[bb]at a;cases a;exact r1 ..) ?_
  ·rw[<-d3];simp(disch:=omega) only[aB,a7];rfl
  ·rw[<-d3];simp(disch:=omega) only[aB]
 have dx:cg X [aH] h j aM (aO+2):=by
  refine⟨Zo,λb ag bV=> ?_⟩
  rw[<-bH.aa b ag, <-d3]
  simp only[Zt,ZJ,YS,Ym,ZG,Yc]at bV
  simp(disch:=omega) only[aB]
 clear d3 bQ bb b5 a3 a4 es bH
 have uR:∃dN,U X aM aH=some (.cells dN 2 .own)/\aP X aM (.ptr aH 1)=some (.Z ((i+1:Nat):Int)):=by
  obtain⟨c,ao,bY,co,cY,fM⟩:=dF.at_
  exact⟨c,bY,ks bY cY⟩
 have f2:=aw.go dF (by omega:j<=aO+1+1)
 refine iR (λI S' aN=>∃v,I.g 4=some v/\kf X aH bP aW h j r v S' aN) (λS bE=> ?_) (by
  rintro I S' aN ⟨v,t4,a⟩
  refine cd @t4 ⟨?_⟩
  exact a)
 rw[Zh (by rw[aJ];decide),Zh (by simp[aJ,be]),Zh (by rw[aJ];decide),Zh (by rw[aJ];decide),Zh (by simp[aJ]),Zh (by simp[aJ,be]),Zr (by simp[aJ,be])]at Y
 have gu:decide (x.kind=5)=false:=by simp[aJ]
 have cy:decide (x.kind=2)=true:=by simp[aJ]
 have cT:decide (x.kind=1)=false:=by simp[aJ]
 have e1:decide (x.kind=3)=false:=by simp[aJ]
 have g8:decide (x.kind=6)=false:=by simp[aJ]
 have cN:decide (x.text=[116,114,117,101])=false:=by simp[be]
 have cA:decide (x.text=[102,97,108,115,101])=false:=by simp[be]
 have eb:decide (x.text=[105,102])=false:=by simp[be]
 have fW:decide (x.text=[109,101,114,103,101])=true:=by simp[be]
 refine d9 (bc ff) @iA @gu @cy @cT @e1 (Za @g8 (Za @cN (Za @cA (Za @eb (Za @fW cf.eq_1))))) ⟨?_⟩
 rw[<-kn]at Y
 cases ES:aW.drop (i+1)with
 |nil=>rw[ES]at Y;simp[je,andThen]at Y
 |cons c hl=>
 rw[ES]at Y
 simp only[je]at Y
 refine(Dg au f2.a2 f2.par f2.b3 f2.hL f2.hn f2.many (fZ ES).1 1).mono ?_ ?_
 ·rintro vr bA cK ⟨gF,rfl,hF,eG⟩
  have iF:=eG.le
  rw[Zr gF]at Y
  simp only[andThen,ok]at Y
  rw[<-(fZ ES).2]at Y
  have KQ:U X bA (aO+1)=zw (ht 0 x.at_ [] false dU 0 .aV) 9:=by rw[eG.aa _ Zo Zx];exact iA
  have At:=dx.trans eG
  refine cI cf.eq_1 @KQ ⟨?_⟩
  refine eN (λa1=>U X a1 (aO+1)=zw (ht 24 x.at_ c.text false dU 0 .aV) 9/\aT X a1 aH bP aW (i+1+1)/\cg X [aH] h j a1 cK) ⟨?_, ?_, ?_⟩ ?_
  ·simp(disch:=omega) only[aB,a7]<;>rfl
  ·exact hF.aa (zy) (zy)
  ·exact⟨Zo,λb ag bV=>by rw[<-At.aa b ag bV];exact zy⟩
  clear KQ hF eG At iA uR dF f2 dx ff
  rintro a1 ⟨iA,g1,eh⟩
  have nX:=aw.go g1 (by omega:j<=cK)
  cases E8:Go.aT.part n (aW.drop (i+1+1))with
  |none=>rw[E8]at Y;cases Y
  |some Xd=>
  rw[E8]at Y
  refine((ai n Zo).part a1 _ _ _ nX E8).mono ?_ ?_
  ·rintro v5 bM bX ⟨qy,i5,rfl,dC,hG,dH⟩
   simp only[]at Y
   have ik:=dH.le
   have pn:=nX.go hG ik
   have rr:=eh.trans dH
   cases LJ:Go.aT.part n (aW.drop i5)with
   |none=>rw[LJ]at Y;cases Y
   |some MR=>
   rw[LJ]at Y
   refine((ai n Zo).part bM _ _ _ pn LJ).mono ?_ ?_
   ·rintro Bm bZ dy ⟨KC,iw,rfl,el,hV,eB⟩
    simp only[Zf]at Y
    subst Y
    have pb:=eB.le
    obtain⟨m2,rfl,sI,_⟩:=dC.ptr
    obtain⟨Dr,rfl,LM,_⟩:=el.ptr
    have tD:U X bZ (aO+1)=zw (ht 24 x.at_ c.text false dU 0 .aV) 9:=by rw[eB.aa _ Zo Zx,dH.aa _ Zo Zx];exact iA
    refine cd @tD ⟨?_⟩
    refine bE _ _ _ ⟨.ptr (aO+1) 0,a8,_,iw,rfl,cE.lit (z:=2) (cap:=2) (b:=aO+1) (m:=9) (st:= .own) (jx:= .own) (cO:=dy) (br:=[.ptr m2 0, .ptr Dr 0]) ?_ ⟨Zo,Zo⟩ ?_ ⟨Zo,Zo⟩ rfl Zo Zo (dD.two (cE.aa (λe B=> ?_) _ _ dC) (cE.aa (λe B=> ?_) _ _ el) (λe B=> ?_) (λe B=> ?_)),hV.aa (zy) (zy), ?_⟩
    ·simp(disch:=omega) only[aB,a7]<;>rfl
    ·simp(disch:=omega) only[aB,a7]<;>rfl
    ·have M:=B.1;have R:=B.2
     simp(disch:=omega) only[aB]
     exact eB.aa e Zo Zx
    ·have M:=B.1;have R:=B.2
     simp(disch:=omega) only[aB]
    ·simp only[dr]at B ⊢;omega
    ·simp only[dr]at B ⊢;omega
    ·exact⟨Zo,λb ag bV=>by rw[<-(rr.trans eB).aa b ag bV];exact zy⟩
   ·rintro Bm bZ dy ⟨H,rfl,rfl,eB⟩
    simp only[Zf]at Y
    subst Y
    exact⟨H,rfl,rfl,rr.trans eB⟩
  ·rintro v5 bM bX ⟨H,rfl,rfl,dH⟩
   simp only[Zf]at Y
   subst Y
   exact⟨H,rfl,rfl,eh.trans dH⟩
 ·rintro vr bA cK ⟨gF,rfl,eG⟩
  rw[Zh gF]at Y
  simp only[andThen,bad,Zf]at Y
  subst Y
  exact⟨_,rfl,rfl,dx.trans eG⟩
end
section
variable{X:cl}{h S' aI aM:Q af}{j an aO aZ aH bP:Nat}{aW:List Tok}{i:Nat}
def W4(au:dj X){n:Nat}{r:Except Int (bD×List Tok)}(aw:iZ X h j aH bP aW i){x:Tok}{l:List Tok}(aF:aW.drop i=x::l)(d7:x.kind≠5)(bQ:x.kind≠1)(c1:x.kind≠3)(c3:x.kind=6->x.text≠[40])(ct:x.kind=2->x.text≠[116,114,117,101]/\x.text≠[102,97,108,115,101]/\x.text≠[105,102]/\x.text≠[109,101,114,103,101])(Y:Go.aT.part (n+1) (x::l)=some r):
 aU X 153 [.ptr aH 0] h j (kf X aH bP aW h j r) (jk X aH h j r):=by
 refine zz au (BH X) ?_
 rw[BI]
 unfold yW
 have he:=aw.a2
 have kD:=aw.hL
 have is:=aw.b3
 have j4:=aw.hn
 obtain⟨ae,kn⟩:=fZ aF
 unfold Go.aT.part at Y
 refine(sW au aw.a2 aw.par aw.hL aw.hn ae).Zm ?_
 rintro ac aI aO ⟨rfl,bH⟩
 have jJ:=bH.le
 have es:=aw.par.ex bH Zo Zo
 obtain⟨c,ao,bb,b5,a3,a4⟩:=es.at_
 have bQ:=ks bb a3
 have l5:=(Zc.1 ae).1
 have ww:=aw.many
 have dQ:=es.ne
 have bz:=zx i
 refine gh cf.eq_1 @bQ (Za @bz @bb) ⟨?_⟩
 generalize d3:bj X _ aH _=aM
 have ff:U X aM aO=zw (cf x) 7:=by rw[<-d3];simp(disch:=omega) only[aB,a7]<;>rfl
 have iA:U X aM (aO+1)=zw (ht 0 x.at_ [] false dU 0 .aV) 9:=by rw[<-d3];simp(disch:=omega) only[aB,a7]<;>rfl
 have dF:aT X aM aH bP aW (i+1):=by
  refine es.on (c:=dS c 1 [.Z ((i+1:Nat):Int)]) ?_ (λdB st a=>by rw[bb]at a;cases a;exact r1 ..) ?_
  ·rw[<-d3];simp(disch:=omega) only[aB,a7];rfl
  ·rw[<-d3];simp(disch:=omega) only[aB]
 have dx:cg X [aH] h j aM (aO+2):=by
  refine⟨Zo,λb ag bV=> ?_⟩
  rw[<-bH.aa b ag, <-d3]
  simp only[Zt,ZJ,YS,Ym,ZG,Yc]at bV
  simp(disch:=omega) only[aB]
 clear d3 bQ bb b5 a3 a4 es bH
 have uR:∃dN,U X aM aH=some (.cells dN 2 .own)/\aP X aM (.ptr aH 1)=some (.Z ((i+1:Nat):Int)):=by
  obtain⟨c,ao,bY,co,cY,fM⟩:=dF.at_
  exact⟨c,bY,ks bY cY⟩
 have f2:=aw.go dF (by omega:j<=aO+1+1)
 refine iR (λI S' aN=>∃v,I.g 4=some v/\kf X aH bP aW h j r v S' aN) (λS bE=> ?_) (by
  rintro I S' aN ⟨v,t4,a⟩
  refine cd @t4 ⟨?_⟩
  exact a)
 have LO:r= .error x.at_:=by
  by_cases R:x.kind=2
  ·obtain⟨fQ,hY,yv,MH⟩:=ct R
   have b9:¬x.kind=6:=Zo
   rw[Zh d7,Zh (by simp[fQ,hY]),Zh bQ,Zh c1,Zh (by simp[b9]),Zh (by simp[yv]),Zh (by simp[MH])]at Y
   simp only[bad,Zf]at Y
   exact Y.symm
  ·by_cases b9:x.kind=6
   ·rw[Zh d7,Zh (by simp[R]),Zh bQ,Zh c1,Zh (by simp[c3 b9]),Zh (by simp[R]),Zh (by simp[R])]at Y
    simp only[bad,Zf]at Y
    exact Y.symm
   ·rw[Zh d7,Zh (by simp[R]),Zh bQ,Zh c1,Zh (by simp[b9]),Zh (by simp[R]),Zh (by simp[R])]at Y
    simp only[bad,Zf]at Y
    exact Y.symm
 subst LO
 have gu:decide (x.kind=5)=false:=by simp[d7]
 have cT:decide (x.kind=1)=false:=by simp[bQ]
 have e1:decide (x.kind=3)=false:=by simp[c1]
 obtain⟨dN,TV,TW⟩:=uR
 have cF:bn .sub (.Z ((i+1:Nat):Int)) (.Z 1)=some (.Z (((i+1:Nat):Int) -1)):=by rw[wD Zo Zo]
 have fin:∀(a1:Q af) (ah:bJ),(∀b,b<j->b∉[aH]->U X a1 b=U X aM b)->aU X 93 [.agg (cf x)] a1 (aO+1+1) ah (jk X aH h j (Except.error x.at_:Except Int (bD×List Tok))):=by
  intro a1 ah ak
  refine(KJ au Zo x _ ?_).mono (λ_ _ _ a=>a.elim) (λ_ _ _ a=>a)
  intro S' an bU
  have Lx:=bU.le
  exact⟨_,rfl,rfl,Zo,λb ag bV=>by rw[bU.aa b Zo,ak b ag bV];exact dx.aa b ag bV⟩
 by_cases R:x.kind=2
 ·obtain⟨fQ,hY,yv,MH⟩:=ct R
  have cy:decide (x.kind=2)=true:=by simp[R]
  have g8:decide (x.kind=6)=false:=by simp[R]
  have cN:decide (x.text=[116,114,117,101])=false:=by simp[fQ]
  have cA:decide (x.text=[102,97,108,115,101])=false:=by simp[hY]
  have eb:decide (x.text=[105,102])=false:=by simp[yv]
  have fW:decide (x.text=[109,101,114,103,101])=false:=by simp[MH]
  refine d9 (bc ff) @iA @gu @cy @cT @e1 (Za @g8 (Za @cN (Za @cA (Za @eb (Za @fW (Za cf.eq_1 (Za @TV (Za @TW @cF)))))))) ⟨?_⟩
  refine fin _ _ (λb ag bV=> ?_)
  simp only[Zt,ZJ,YS,Ym,ZG,Yc]at bV
  simp(disch:=omega) only[aB]
 ·have cy:decide (x.kind=2)=false:=by simp[R]
  by_cases b9:x.kind=6
  ·have g8:decide (x.kind=6)=true:=by simp[b9]
   have cN:decide (x.text=[40])=false:=by simp[c3 b9]
   refine d9 (bc ff) @iA @gu @cy @cT @e1 (Za @g8 (Za @cN (Za cf.eq_1 (Za @TV (Za @TW @cF))))) ⟨?_⟩
   refine fin _ _ (λb ag bV=> ?_)
   simp only[Zt,ZJ,YS,Ym,ZG,Yc]at bV
   simp(disch:=omega) only[aB]
  ·have g8:decide (x.kind=6)=false:=by simp[b9]
   refine d9 (bc ff) @iA @gu @cy @cT @e1 (Za @g8 (Za cf.eq_1 (Za @TV (Za @TW @cF)))) ⟨?_⟩
   refine fin _ _ (λb ag bV=> ?_)
   simp only[Zt,ZJ,YS,Ym,ZG,Yc]at bV
   simp(disch:=omega) only[aB]
end
section
variable{X:cl}{h S' aI aM:Q af}{j an aO aZ aH bP:Nat}{aW:List Tok}{i:Nat}
def cg.j9{X:cl}{aH:Nat}{h S':Q af}{j an n:Nat}(a:cg X [aH] h j S' an)(z:an<=n):cg X [aH] h j S' n:=⟨ZB a.le z,a.aa⟩
def jB.one{C:aK}{h:Q af}{s:D}{bt:Nat}{l:List D}{cq:List Nat}(a:jB C h s bt l cq):s.cells=[s]/\qV s=true/\D.same 30 s s=true:=by
 rcases a with ⟨rfl,_⟩|⟨b,fp,n,c,rfl,_⟩
 ·exact⟨rfl,rfl,rfl⟩
 ·exact⟨rfl,rfl,by simp[D.same]⟩
def aAS(au:dj X){n:Nat}(ai:∀m,m<n+1->sa X aH bP aW m){r:Except Int (bD×List Tok)}(aw:iZ X h j aH bP aW i){x:Tok}{l:List Tok}(aF:aW.drop i=x::l)(aJ:x.kind=2)(be:x.text=[105,102])(Y:Go.aT.part (n+1) (x::l)=some r):
 aU X 153 [.ptr aH 0] h j (kf X aH bP aW h j r) (jk X aH h j r):=by
 refine zz au (BH X) ?_
 rw[BI]
 unfold yW
 have he:=aw.a2
 have kD:=aw.hL
 have is:=aw.b3
 have j4:=aw.hn
 obtain⟨ae,kn⟩:=fZ aF
 unfold Go.aT.part at Y
 refine(sW au aw.a2 aw.par aw.hL aw.hn ae).Zm ?_
 rintro ac aI aO ⟨rfl,bH⟩
 have jJ:=bH.le
 have es:=aw.par.ex bH Zo Zo
 obtain⟨c,ao,bb,b5,a3,a4⟩:=es.at_
 have bQ:=ks bb a3
 have l5:=(Zc.1 ae).1
 have ww:=aw.many
 have dQ:=es.ne
 have bz:=zx i
 refine gh cf.eq_1 @bQ (Za @bz @bb) ⟨?_⟩
 generalize d3:bj X _ aH _=aM
 have ff:U X aM aO=zw (cf x) 7:=by rw[<-d3];simp(disch:=omega) only[aB,a7]<;>rfl
 have iA:U X aM (aO+1)=zw (ht 0 x.at_ [] false dU 0 .aV) 9:=by rw[<-d3];simp(disch:=omega) only[aB,a7]<;>rfl
 have dF:aT X aM aH bP aW (i+1):=by
  refine es.on (c:=dS c 1 [.Z ((i+1:Nat):Int)]) ?_ (λdB st a=>by rw[bb]at a;cases a;exact r1 ..) ?_
  ·rw[<-d3];simp(disch:=omega) only[aB,a7];rfl
  ·rw[<-d3];simp(disch:=omega) only[aB]
 have dx:cg X [aH] h j aM (aO+2):=by
  refine⟨Zo,λb ag bV=> ?_⟩
  rw[<-bH.aa b ag, <-d3]
  simp only[Zt,ZJ,YS,Ym,ZG,Yc]at bV
  simp(disch:=omega) only[aB]
 clear d3 bQ bb b5 a3 a4 es bH
 have uR:∃dN,U X aM aH=some (.cells dN 2 .own)/\aP X aM (.ptr aH 1)=some (.Z ((i+1:Nat):Int)):=by
  obtain⟨c,ao,bY,co,cY,fM⟩:=dF.at_
  exact⟨c,bY,ks bY cY⟩
 have f2:=aw.go dF (by omega:j<=aO+1+1)
 refine iR (λI S' aN=>∃v,I.g 4=some v/\kf X aH bP aW h j r v S' aN) (λS bE=> ?_) (by
  rintro I S' aN ⟨v,t4,a⟩
  refine cd @t4 ⟨?_⟩
  exact a)
 rw[Zh (by rw[aJ];decide),Zh (by simp[aJ,be]),Zh (by rw[aJ];decide),Zh (by rw[aJ];decide),Zh (by simp[aJ]),Zr (by simp[aJ,be])]at Y
 have gu:decide (x.kind=5)=false:=by simp[aJ]
 have cy:decide (x.kind=2)=true:=by simp[aJ]
 have cT:decide (x.kind=1)=false:=by simp[aJ]
 have e1:decide (x.kind=3)=false:=by simp[aJ]
 have g8:decide (x.kind=6)=false:=by simp[aJ]
 have cN:decide (x.text=[116,114,117,101])=false:=by simp[be]
 have cA:decide (x.text=[102,97,108,115,101])=false:=by simp[be]
 have eb:decide (x.text=[105,102])=true:=by simp[be]
 refine d9 (bc ff) @iA @gu @cy @cT @e1 (Za @g8 (Za @cN (Za @cA (Za @eb (Za cf.eq_1 ht.eq_1))))) ⟨?_⟩
 rw[<-kn]at Y
 refine eN (λa1=>U X a1 (aO+1)=zw (ht 23 x.at_ [] false dU 0 .aV) 9/\aT X a1 aH bP aW (i+1)/\cg X [aH] h j a1 (aO+1+1)) ⟨?_, ?_, ?_⟩ ?_
 ·simp(disch:=omega) only[aB,a7]<;>rfl
 ·exact dF.aa (zy) (zy)
 ·exact⟨Zo,λb ag bV=>by rw[<-dx.aa b ag bV];exact zy⟩
 clear dF f2 dx ff iA uR
 rintro J4 ⟨aei,agu,Um⟩
 have agM:gk X J4 .aV 1 [] []:= .inl (.inl ⟨rfl,rfl,rfl⟩)
 have wh:∀e∈([]:List Nat),aO+2<=e/\e<aO+1+1:=by simp
 have aft:dD X J4 (wV (aO+2) (aO+1+1) []) [] []:= .nil
 have awD:D.same 30 .aV .aV=true:=rfl
 have aiX:=aw.go agu (by omega:j<=(aO+1+1)+12)
 rcases gR Y with ⟨H,bv,rfl⟩|⟨KD,g3,bv,Y⟩
 ·exact((ai n Zo).arrow J4 _ _ _ aiX bv).mono (λac S' an a=>by obtain⟨E,cD,a,_⟩:=a;cases a) (λac S' an a=>a.of (cg.j9 Um Zo) (λ_ a=>by cases a;rfl))
 refine((ai n Zo).arrow J4 _ _ _ aiX bv).mono ?_ (λac S' an a=>by obtain⟨H,a,_⟩:=a;cases a)
 clear bv
 rintro v5 bM bX ⟨Oh,aGl,tO,dC,hG,dH⟩
 cases tO
 have ik:=dH.le
 have rr:=(cg.j9 Um (by omega:(aO+1+1)<=(aO+1+1)+12)).trans dH
 obtain⟨wT,rfl,sI,_⟩:=dC.ptr
 have sI:=sI.2
 have su:U X bM (aO+1)=zw (ht 23 x.at_ [] false dU 0 D.aV) 9:=by rw[dH.aa _ Zo Zx];exact aei
 have lN:∀e,aO+2<=e->e<(aO+1+1)->U X bM e=U X J4 e:=λe M R=>dH.aa e Zo Zx
 have oz:=agM.aa (S':=bM) (λe B=>lN e (wh e B).1 (wh e B).2)
 have wl:=dD.aa (S':=bM) (λe B=>lN e B.1 B.2.1) _ _ aft
 clear lN
 refine cI (bc su) ht.eq_1 ⟨?_⟩
 refine f4 awD ?_
 have kH:lu X (bj X bM ((aO+1+1)+7) (zw [.ptr wT 0] 1)) 1 (.slice ((aO+1+1)+7) 0 1 1)=some (1,[.ptr wT 0]):=rT (a7 Zo) (l8 _) rfl _
 obtain⟨MX,bZ,Hp,ii,tZ,sz,pa⟩:=(oz.aa (S':=bj X bM ((aO+1+1)+7) (zw [.ptr wT 0] 1)) (λe B=>aB Zo (zs (wh e B).2))).append (j:=bX) Zd kH rfl Zd rfl Zs Zo (λe B=>zs (wh e B).2)
 refine kb ii ?_
 have c3:∀e,e<bX->e∉([]:List Nat)->e≠(aO+1+1)+7->U X bZ e=U X bM e:=λe M R ak=>by
  rw[pa e Zo R,aB Zo ak]
 have tD:U X bZ (aO+1)=zw (ht 23 x.at_ [] false dU 0 D.aV) 9:=by
  rw[c3 _ Zo (λa=>zs (wh _ a)) Zo];exact su
 obtain⟨rD,Cv,awE⟩:=jB.one tZ
 refine cx ⟨?_⟩
 refine f8 (us tD Zo Zo rD Cv) ?_
 have rv:∀e∈Hp,aO+2<=e/\e<bX+1:=by
  intro e B
  rcases sz e B with rfl|B
  ·omega
  ·have:=wh e B;omega
 have EW:dD X bZ (wV (aO+2) (bX+1) Hp) ([]++[KD]) ([]++[.ptr wT 0]):=by
  refine dD.snoc (cE.aa (λe B=> ?_) _ _ dC) (dD.aa (λe B=> ?_) _ _ wl) (λe B=>⟨B.1,zs B.2.1,λgG=> ?_⟩) (λe B=>⟨⟨zs B.1,zs B.2,λgG=> ?_⟩,λpW=>by have:=B.1;have:=pW.2.1;omega⟩)
  ·have M:=B.1
   exact c3 e B.2 (λgG=>zs (wh e gG)) Zo
  ·have R:=B.2.1
   exact c3 e Zo B.2.2 Zo
  ·have R:=B.2.1
   rcases sz e gG with rfl|gG
   ·omega
   ·exact B.2.2 gG
  ·have M:=B.1;have R:=B.2
   rcases sz e gG with rfl|gG
   ·omega
   ·have:=wh e gG;omega
 have eB:cg X [aH] h j bZ (bX+1):=⟨Zo,λb ag bV=>by
  rw[c3 b Zo (λE=>zs (wh _ E)) Zo];exact rr.aa b ag bV⟩
 have hV:=hG.aa (c3 aH Zo (λE=>zs (wh _ E)) Zo) (c3 bP Zo (λE=>zs (wh _ E)) Zo)
 clear wl dC hG dH rr su oz kH ii pa sz rD Cv aft aei agM agu Um
 refine cx ⟨?_⟩
 refine eN (λci=>U X ci (bX+1)=zw [.str [116,104,101,110]] 1/\U X ci (aO+1)=zw (ht 23 x.at_ [] false dU 0 MX) 9/\(∀e,e<bX+1->e≠aO+1->U X ci e=U X bZ e)) ⟨a7 Zo, ?_, ?_⟩ ?_
 ·simp(disch:=omega) only[aB,a7]<;>rfl
 ·intro e M R
  simp(disch:=omega) only[aB]
 clear tD
 rintro ci ⟨EB,KR,ft⟩
 have h8:=hV.aa (ft aH Zo Zo) (ft bP Zo Zo)
 have nY:=aw.go h8 (by omega:j<=bX+1+1)
 have er:cg X [aH] h j ci (bX+1+1):=⟨Zo,λb ag bV=>by rw[ft b Zo Zo];exact eB.aa b ag bV⟩
 rcases gR Y with ⟨H,eI,rfl⟩|⟨Bo,pi,eI,Y⟩
 ·exact(j1 au nY Zo Zo EB eI).mono (λac S' an a=>by obtain⟨E,cD,a,_⟩:=a;cases a) (λac S' an a=>a.of er (λ_ a=>by cases a;rfl))
 refine(j1 au nY Zo Zo EB eI).mono ?_ (λac S' an a=>by obtain⟨H,a,_⟩:=a;cases a)
 clear eI
 rintro JH vF yo ⟨aEn,aGj,EU,_,agv,g0⟩
 cases EU
 have aFq:=g0.le
 have Un:=er.trans g0
 have TO:U X vF (aO+1)=zw (ht 23 x.at_ [] false dU 0 MX) 9:=by rw[g0.aa _ Zo Zx];exact KR
 have ej:∀e,aO+2<=e->e<bX+1->U X vF e=U X bZ e:=λe M R=>by
  rw[g0.aa e Zo Zx,ft e R Zo]
 have agN:gk X vF MX 1 ([]++[.ptr wT 0]) Hp:= .inl (tZ.aa (λe B=>ej e (rv e B).1 (rv e B).2))
 have afu:dD X vF (wV (aO+2) yo Hp) ([]++[KD]) ([]++[.ptr wT 0]):=
  dD.lift (λe B=>⟨B.1,zs B.2.1,B.2.2⟩) _ _ (dD.aa (λe B=>ej e B.1 B.2.1) _ _ EW)
 have rv:∀e∈Hp,aO+2<=e/\e<yo:=λe B=>zs (rv e B)
 clear EW tZ hV eB h8 nY er g0 EB KR ft c3 ej
 refine cI (bc TO) ht.eq_1 ⟨?_⟩
 have aiY:=aw.go agv (by omega:j<=yo+12)
 rcases gR Y with ⟨H,bv,rfl⟩|⟨Tj,g3,bv,Y⟩
 ·exact((ai n Zo).arrow vF _ _ _ aiY bv).mono (λac S' an a=>by obtain⟨E,cD,a,_⟩:=a;cases a) (λac S' an a=>a.of (cg.j9 Un Zo) (λ_ a=>by cases a;rfl))
 refine((ai n Zo).arrow vF _ _ _ aiY bv).mono ?_ (λac S' an a=>by obtain⟨H,a,_⟩:=a;cases a)
 clear bv
 rintro v5 bM bX ⟨Oh,aGm,tO,dC,hG,dH⟩
 cases tO
 have ik:=dH.le
 have rr:=(cg.j9 Un (by omega:yo<=yo+12)).trans dH
 obtain⟨Ds,rfl,sI,_⟩:=dC.ptr
 have sI:=sI.2
 have su:U X bM (aO+1)=zw (ht 23 x.at_ [] false dU 0 MX) 9:=by rw[dH.aa _ Zo Zx];exact TO
 have lN:∀e,aO+2<=e->e<yo->U X bM e=U X vF e:=λe M R=>dH.aa e Zo Zx
 have oz:=agN.aa (S':=bM) (λe B=>lN e (rv e B).1 (rv e B).2)
 have wl:=dD.aa (S':=bM) (λe B=>lN e B.1 B.2.1) _ _ afu
 clear lN
 refine cI (bc su) ht.eq_1 ⟨?_⟩
 refine f4 awE ?_
 have kH:lu X (bj X bM (yo+7) (zw [.ptr Ds 0] 1)) 1 (.slice (yo+7) 0 1 1)=some (1,[.ptr Ds 0]):=rT (a7 Zo) (l8 _) rfl _
 obtain⟨Gm,bZ,Hq,ii,tZ,sz,pa⟩:=(oz.aa (S':=bj X bM (yo+7) (zw [.ptr Ds 0] 1)) (λe B=>aB Zo (zs (rv e B).2))).append (j:=bX) Zd kH rfl Zd rfl Zs Zo (λe B=>zs (rv e B).2)
 refine kb ii ?_
 have c3:∀e,e<bX->e∉Hp->e≠yo+7->U X bZ e=U X bM e:=λe M R ak=>by
  rw[pa e Zo R,aB Zo ak]
 have tD:U X bZ (aO+1)=zw (ht 23 x.at_ [] false dU 0 MX) 9:=by
  rw[c3 _ Zo (λa=>zs (rv _ a)) Zo];exact su
 obtain⟨rD,Cv,awF⟩:=jB.one tZ
 refine cx ⟨?_⟩
 refine f8 (us tD Zo Zo rD Cv) ?_
 have rx:∀e∈Hq,aO+2<=e/\e<bX+1:=by
  intro e B
  rcases sz e B with rfl|B
  ·omega
  ·have:=rv e B;omega
 have EW:dD X bZ (wV (aO+2) (bX+1) Hq) (([]++[KD])++[Tj]) (([]++[.ptr wT 0])++[.ptr Ds 0]):=by
  refine dD.snoc (cE.aa (λe B=> ?_) _ _ dC) (dD.aa (λe B=> ?_) _ _ wl) (λe B=>⟨B.1,zs B.2.1,λgG=> ?_⟩) (λe B=>⟨⟨zs B.1,zs B.2,λgG=> ?_⟩,λpW=>by have:=B.1;have:=pW.2.1;omega⟩)
  ·have M:=B.1
   exact c3 e B.2 (λgG=>zs (rv e gG)) Zo
  ·have R:=B.2.1
   exact c3 e Zo B.2.2 Zo
  ·have R:=B.2.1
   rcases sz e gG with rfl|gG
   ·omega
   ·exact B.2.2 gG
  ·have M:=B.1;have R:=B.2
   rcases sz e gG with rfl|gG
   ·omega
   ·have:=rv e gG;omega
 have eB:cg X [aH] h j bZ (bX+1):=⟨Zo,λb ag bV=>by
  rw[c3 b Zo (λE=>zs (rv _ E)) Zo];exact rr.aa b ag bV⟩
 have hV:=hG.aa (c3 aH Zo (λE=>zs (rv _ E)) Zo) (c3 bP Zo (λE=>zs (rv _ E)) Zo)
 clear wl dC hG dH rr su oz kH ii pa sz rD Cv afu TO agN agv Un
 refine cx ⟨?_⟩
 refine eN (λci=>U X ci (bX+1)=zw [.str [101,108,115,101]] 1/\U X ci (aO+1)=zw (ht 23 x.at_ [] false dU 0 Gm) 9/\(∀e,e<bX+1->e≠aO+1->U X ci e=U X bZ e)) ⟨a7 Zo, ?_, ?_⟩ ?_
 ·simp(disch:=omega) only[aB,a7]<;>rfl
 ·intro e M R
  simp(disch:=omega) only[aB]
 clear tD
 rintro ci ⟨EB,KR,ft⟩
 have h8:=hV.aa (ft aH Zo Zo) (ft bP Zo Zo)
 have nY:=aw.go h8 (by omega:j<=bX+1+1)
 have er:cg X [aH] h j ci (bX+1+1):=⟨Zo,λb ag bV=>by rw[ft b Zo Zo];exact eB.aa b ag bV⟩
 rcases gR Y with ⟨H,eI,rfl⟩|⟨Bo,pi,eI,Y⟩
 ·exact(j1 au nY Zo Zo EB eI).mono (λac S' an a=>by obtain⟨E,cD,a,_⟩:=a;cases a) (λac S' an a=>a.of er (λ_ a=>by cases a;rfl))
 refine(j1 au nY Zo Zo EB eI).mono ?_ (λac S' an a=>by obtain⟨H,a,_⟩:=a;cases a)
 clear eI
 rintro JH DZ yp ⟨aEn,aGk,EU,_,agw,g0⟩
 cases EU
 have aFr:=g0.le
 have Uo:=er.trans g0
 have TP:U X DZ (aO+1)=zw (ht 23 x.at_ [] false dU 0 Gm) 9:=by rw[g0.aa _ Zo Zx];exact KR
 have ej:∀e,aO+2<=e->e<bX+1->U X DZ e=U X bZ e:=λe M R=>by
  rw[g0.aa e Zo Zx,ft e R Zo]
 have agO:gk X DZ Gm 1 (([]++[.ptr wT 0])++[.ptr Ds 0]) Hq:= .inl (tZ.aa (λe B=>ej e (rx e B).1 (rx e B).2))
 have afv:dD X DZ (wV (aO+2) yp Hq) (([]++[KD])++[Tj]) (([]++[.ptr wT 0])++[.ptr Ds 0]):=
  dD.lift (λe B=>⟨B.1,zs B.2.1,B.2.2⟩) _ _ (dD.aa (λe B=>ej e B.1 B.2.1) _ _ EW)
 have rx:∀e∈Hq,aO+2<=e/\e<yp:=λe B=>zs (rx e B)
 clear EW tZ hV eB h8 nY er g0 EB KR ft c3 ej
 refine cI (bc TP) ht.eq_1 ⟨?_⟩
 have aiZ:=aw.go agw (by omega:j<=yp+12)
 rcases gR Y with ⟨H,bv,rfl⟩|⟨arp,g3,bv,Y⟩
 ·exact((ai n Zo).arrow DZ _ _ _ aiZ bv).mono (λac S' an a=>by obtain⟨E,cD,a,_⟩:=a;cases a) (λac S' an a=>a.of (cg.j9 Uo Zo) (λ_ a=>by cases a;rfl))
 refine((ai n Zo).arrow DZ _ _ _ aiZ bv).mono ?_ (λac S' an a=>by obtain⟨H,a,_⟩:=a;cases a)
 clear bv
 rintro v5 bM bX ⟨Oh,axp,tO,dC,hG,dH⟩
 cases tO
 have ik:=dH.le
 have rr:=(cg.j9 Uo (by omega:yp<=yp+12)).trans dH
 obtain⟨MO,rfl,sI,_⟩:=dC.ptr
 have sI:=sI.2
 have su:U X bM (aO+1)=zw (ht 23 x.at_ [] false dU 0 Gm) 9:=by rw[dH.aa _ Zo Zx];exact TP
 have lN:∀e,aO+2<=e->e<yp->U X bM e=U X DZ e:=λe M R=>dH.aa e Zo Zx
 have oz:=agO.aa (S':=bM) (λe B=>lN e (rx e B).1 (rx e B).2)
 have wl:=dD.aa (S':=bM) (λe B=>lN e B.1 B.2.1) _ _ afv
 clear lN
 refine cI (bc su) ht.eq_1 ⟨?_⟩
 refine f4 awF ?_
 have kH:lu X (bj X bM (yp+7) (zw [.ptr MO 0] 1)) 1 (.slice (yp+7) 0 1 1)=some (1,[.ptr MO 0]):=rT (a7 Zo) (l8 _) rfl _
 obtain⟨Xs,bZ,SC,ii,tZ,sz,pa⟩:=(oz.aa (S':=bj X bM (yp+7) (zw [.ptr MO 0] 1)) (λe B=>aB Zo (zs (rx e B).2))).append (j:=bX) Zd kH rfl Zd rfl Zs Zo (λe B=>zs (rx e B).2)
 refine kb ii ?_
 have c3:∀e,e<bX->e∉Hq->e≠yp+7->U X bZ e=U X bM e:=λe M R ak=>by
  rw[pa e Zo R,aB Zo ak]
 have tD:U X bZ (aO+1)=zw (ht 23 x.at_ [] false dU 0 Gm) 9:=by
  rw[c3 _ Zo (λa=>zs (rx _ a)) Zo];exact su
 obtain⟨rD,Cv,aF6⟩:=jB.one tZ
 refine cx ⟨?_⟩
 refine f8 (us tD Zo Zo rD Cv) ?_
 have afe:∀e∈SC,aO+2<=e/\e<bX+1:=by
  intro e B
  rcases sz e B with rfl|B
  ·omega
  ·have:=rx e B;omega
 have EW:dD X bZ (wV (aO+2) (bX+1) SC) (([]++[KD]++[Tj])++[arp]) (([]++[.ptr wT 0]++[.ptr Ds 0])++[.ptr MO 0]):=by
  refine dD.snoc (cE.aa (λe B=> ?_) _ _ dC) (dD.aa (λe B=> ?_) _ _ wl) (λe B=>⟨B.1,zs B.2.1,λgG=> ?_⟩) (λe B=>⟨⟨zs B.1,zs B.2,λgG=> ?_⟩,λpW=>by have:=B.1;have:=pW.2.1;omega⟩)
  ·have M:=B.1
   exact c3 e B.2 (λgG=>zs (rx e gG)) Zo
  ·have R:=B.2.1
   exact c3 e Zo B.2.2 Zo
  ·have R:=B.2.1
   rcases sz e gG with rfl|gG
   ·omega
   ·exact B.2.2 gG
  ·have M:=B.1;have R:=B.2
   rcases sz e gG with rfl|gG
   ·omega
   ·have:=rx e gG;omega
 have eB:cg X [aH] h j bZ (bX+1):=⟨Zo,λb ag bV=>by
  rw[c3 b Zo (λE=>zs (rx _ E)) Zo];exact rr.aa b ag bV⟩
 have hV:=hG.aa (c3 aH Zo (λE=>zs (rx _ E)) Zo) (c3 bP Zo (λE=>zs (rx _ E)) Zo)
 clear wl dC hG dH rr su oz kH ii pa sz rD Cv afv TP agO agw Uo
 simp only[ok,Zf]at Y
 subst Y
 have hg:∀e,e≠aO+1->U X (bj X bZ (aO+1) (some (.cells ((Q.ofList (ht 23 x.at_ [] false dU 0 Gm) 0 .nil).set 8 (some Xs)) 9 .own))) e=U X bZ e:=λe a=>aB Zo a
 obtain⟨cO,cB⟩:=(gk.aa (S':=bj X bZ (aO+1) (some (.cells ((Q.ofList (ht 23 x.at_ [] false dU 0 Gm) 0 .nil).set 8 (some Xs)) 9 .own))) (.inl tZ) (λe B=>hg e (zs (afe e B)))).MS (P:=λe=>dr (aO+2) (bX+1) e/\e∈SC) Zs (λe B=>⟨by have:=afe e B;exact⟨Zo,Zo⟩,B⟩)
 refine bE _ _ _ ⟨.ptr (aO+1) 0,a8,_,axp,rfl,cE.of (b:=aO+1) (m:=9) (st:= .own) (cO:=cO) (aS:=Xs) (kind:=23) (at_:=x.at_) (name:=[]) (no:=false) (ty:=dU) (n:=0) (br:=[.ptr wT 0, .ptr Ds 0, .ptr MO 0]) ?_ ⟨Zo,Zo⟩ (cB.lift (λe B=>⟨zs B.1.1,B.1.2⟩)) (λ_=> ?_) ?_, ?_, ?_⟩
 ·rw[a7 Zo];rfl
 ·have:=(cB.ag Zs).1.1
  omega
 ·exact dD.lift (λe B=>⟨⟨zs B.1.1,zs B.1.2⟩,zs B.1.1,B.2⟩) _ _ (dD.off (dD.aa (λe B=>hg e (zs B.1)) _ _ EW) cB)
 ·exact hV.aa (hg _ Zo) (hg _ Zo)
 ·exact⟨eB.le,λb ag bV=>by rw[hg b Zo];exact eB.aa b ag bV⟩
end
section
variable{X:cl}{h S' aI aM:Q af}{j an aO aZ aH bP:Nat}{aW:List Tok}{i:Nat}
def aAW(au:dj X){n:Nat}(tU:n<=300000)(ai:∀m,m<n->sa X aH bP aW m):∀h j i r,iZ X h j aH bP aW i->Go.aT.part n (aW.drop i)=some r->aU X 153 [.ptr aH 0] h j (kf X aH bP aW h j r) (jk X aH h j r):=by
 intro h j i r aw Y
 cases n with
 |zero=>simp[Go.aT.part]at Y
 |succ n=>
 cases aF:aW.drop i with
 |nil=>rw[aF]at Y;simp[Go.aT.part]at Y
 |cons x l=>
 rw[aF]at Y
 by_cases d7:x.kind=5
 ·exact aAT au aw aF d7 Y
 by_cases bQ:x.kind=1
 ·exact aAV au ai aw aF Zo bQ Y
 by_cases c1:x.kind=3
 ·exact aAY au ai aw aF c1 Y
 by_cases c3:x.kind=6
 ·by_cases be:x.text=[40]
  ·exact aAX au ai aw aF c3 be Y
  ·exact W4 au aw aF d7 bQ c1 (λ_=>be) (λa=>Zo) Y
 by_cases ct:x.kind=2
 ·by_cases M:x.text=[116,114,117,101]
  ·exact aiP au aw aF ct (.inl M) Y
  by_cases R:x.text=[102,97,108,115,101]
  ·exact aiP au aw aF ct (.inr R) Y
  by_cases ak:x.text=[105,102]
  ·exact aAS au ai aw aF ct ak Y
  by_cases aA:x.text=[109,101,114,103,101]
  ·exact aAU au ai aw aF ct aA Y
  ·exact W4 au aw aF d7 bQ c1 (λa=>Zo) (λ_=>⟨M,R,ak,aA⟩) Y
 ·exact W4 au aw aF d7 bQ c1 (λa=>Zo) (λa=>absurd a ct) Y
def acp(au:dj X)(d6:xh X):∀n,n<=300000->sa X aH bP aW n:=by
 intro n
 induction n using Nat.strongRecOn with
 |ind n ai=>
  intro aE
  have ai:∀m,m<n->sa X aH bP aW m:=λm bp=>ai m bp Zo
  exact⟨ayQ au d6 ai,aCo au ai,aA9 au ai,aAW au aE ai,ar9 au ai,apL au ai,ay0 au aE ai⟩
end
def L9(n:Int):D:= .Z n
def vE(X:cl)(h:Q af)(hN aG:Nat)(left:List aY)(di:List Int):Prop:=hN<aG/\(o X).a2<=hN/\∃c aS k8 Ho xx,U X h hN=some (.cells c 4 .own)/\c.get 0=some aS/\c.get 1=some k8/\gk X h aS 1 (left.map .str) Ho/\gk X h k8 1 (di.map L9) xx
 /\(∀e∈Ho,hN<e/\e<aG/\e∉xx)/\∀e∈xx,hN<e/\e<aG
def vE.aa{X:cl}{h S':Q af}{hN aG lJ:Nat}{left:List aY}{di:List Int}(a:vE X h hN aG left di)(z:∀e,hN<=e->e<aG->U X S' e=U X h e)(gx:aG<=lJ):vE X S' hN lJ left di:=by
 obtain⟨aX,EE,c,aS,k8,Ho,xx,M,R,ak,aA,bv,b9,dl⟩:=a
 exact⟨Zo,EE,c,aS,k8,Ho,xx,by rw[z hN Zo aX];exact M,R,ak,aA.aa (λe B=>z e (zs (b9 e B)) (b9 e B).2.1),bv.aa (λe B=>z e (zs (dl e B)) (dl e B).2),
  λe B=>by have:=b9 e B;exact⟨this.1,Zo,this.2.2⟩,λe B=>zs (dl e B)⟩
def gk.one{C:aK}{h:Q af}{s:D}{bt:Nat}{l:List D}{cq:List Nat}(a:gk C h s bt l cq):s.cells=[s]/\qV s=true/\D.same 30 s s=true:=by
 rcases a with a|⟨b,n,c,st,rfl,_⟩
 ·exact jB.one a
 ·exact⟨rfl,rfl,by simp[D.same]⟩
section
variable{X:cl}{h S' aI aM:Q af}{j an aO aZ aH bP:Nat}{aW:List Tok}{i:Nat}
def WT(au:dj X)(aw:iZ X h j aH bP aW i){jv hN:Nat}(LJ:jv<hN)(aFV:jv≠aH)(auG:aH<hN)(auH:bP<hN)(awe:aP X h (.ptr jv 0)=some (.ptr aH 0)){left:List aY}{di:List Int}(b0:vE X h hN j left di)(bp:left.length<=1000000)(E3:di.length<=300000){x:Tok}{l:List Tok}(aF:aW.drop i=x::l):
 aU X 94 [.ptr jv 0, .ptr hN 0] h j (λac S' an=>x.kind=1/\ac= .tuple []/\vE X S' hN an (left++[x.text]) (di++[x.at_])/\aT X S' aH bP aW (i+1)/\j<=an/\cg X [aH] h hN S' an)
  (λac S' an=>x.kind≠1/\ac=pL 21 x.at_/\cg X [aH] h j S' an):=by
 refine zz au (aoG X) ?_
 rw[aoH]
 unfold abW
 have he:=aw.a2
 have kD:=aw.hL
 have is:=aw.b3
 have j4:=aw.hn
 refine cd @awe ⟨?_⟩
 refine(Dg au aw.a2 aw.par aw.b3 aw.hL aw.hn aw.many (fZ aF).1 1).mono ?_ (λac S' an a=>a)
 rintro ac aI aO ⟨aJ,rfl,es,iC⟩
 have jJ:=iC.le
 have iv:=b0.aa (S':=aI) (lJ:=aO) (λe M R=>iC.aa e R Zx) jJ
 have aF1:=b0.1
 clear b0
 obtain⟨aX,EE,c,aS,k8,Ho,xx,bI,bN,cH,dg,fT,dZ,d8⟩:=iv
 obtain⟨g9,nt,sZ⟩:=gk.one dg
 obtain⟨I9,Dd,uf⟩:=gk.one fT
 refine fI cf.eq_1 (bc bI) @bN @cH ⟨?_⟩
 have kH:∀gX,U X gX (aO+1+4)=zw [.str x.text] 1->lu X gX 1 (.slice (aO+1+4) 0 1 1)=some (1,[.str x.text]):=λgX a=>rT a (l8 _) rfl _
 have awM:∀gX,U X gX (aO+1+10)=zw [.Z x.at_] 1->lu X gX 1 (.slice (aO+1+10) 0 1 1)=some (1,[.Z x.at_]):=λgX a=>rT a (l8 _) rfl _
 generalize fl:bj X _ (aO+1+10) _=a1
 have c1:∀e,e<aO->U X a1 e=U X aI e:=λe B=>by rw[<-fl];exact zy
 have t3:U X a1 aO=zw (cf x) 7:=by rw[<-fl];simp(disch:=omega) only[aB,a7]<;>rfl
 have f0:U X a1 (aO+1+4)=zw [.str x.text] 1:=by rw[<-fl];simp(disch:=omega) only[aB,a7]<;>rfl
 have f3:U X a1 (aO+1+10)=zw [.Z x.at_] 1:=by rw[<-fl];simp(disch:=omega) only[aB,a7]<;>rfl
 clear fl
 obtain⟨eJ,bA,acI,ii,qL,we,gF⟩:=(dg.aa (S':=a1) (λe B=>c1 e (dZ e B).2.1)).append (j:=aO+1+16) Zd (kH a1 f0) rfl Zd rfl Zx Zo (λe B=>zs (dZ e B).2.1)
 refine kb ii ?_
 have fW:U X bA hN=some (.cells c 4 .own):=by rw[gF _ Zo (λa=>zs (dZ _ a).1),c1 _ aX];exact bI
 have t4:U X bA aO=zw (cf x) 7:=by rw[gF _ Zo (λa=>zs (dZ _ a).2.1)];exact t3
 have pK:U X bA (aO+1+10)=zw [.Z x.at_] 1:=by rw[gF _ Zo (λa=>zs (dZ _ a).2.1)];exact f3
 refine cI (bc fW) @cH ⟨?_⟩
 refine f4 uf ?_
 refine cI (bc t4) cf.eq_1 ⟨?_⟩
 refine f4 (oI _ _) ?_
 have asO:gk X bA k8 1 (di.map L9) xx:=fT.aa (λe B=>by
  rw[gF e (zs (d8 e B)) (λa=>(dZ e a).2.2 B)]
  exact c1 e (d8 e B).2)
 obtain⟨Xt,bM,SB,aut,oz,wg,mx⟩:=asO.append (j:=aO+1+16+1) Zd (awM bA pK) rfl Zd rfl Zx Zo (λe B=>zs (d8 e B).2)
 refine kb aut ?_
 obtain⟨fQ,hY,yv⟩:=jB.one qL
 obtain⟨MH,aAF,aGJ⟩:=jB.one oz
 have m2:U X bM hN=some (.cells c 4 .own):=by rw[mx _ Zo (λa=>zs (d8 _ a).1)];exact fW
 refine f8 (us m2 Zo Zo fQ hY) ?_
 refine cx ⟨?_⟩
 refine f8 (us (a7 Zo) Zo Zo MH aAF) ?_
 have ahp:∀e∈acI,hN<e/\e<aO+1+16+1+1/\e∉SB:=by
  intro e B
  rcases we e B with rfl|B
  ·refine⟨Zo,Zo,λa=> ?_⟩
   rcases wg _ a with a|a
   ·omega
   ·have:=d8 _ a;omega
  ·obtain⟨bb,b5,a3⟩:=dZ e B
   refine⟨Zo,Zo,λa=> ?_⟩
   rcases wg _ a with a|a
   ·omega
   ·exact a3 a
 have ahq:∀e∈SB,hN<e/\e<aO+1+16+1+1:=by
  intro e B
  rcases wg e B with rfl|B
  ·omega
  ·have:=d8 e B;omega
 have ft:∀gX,gX=bj X (bj X bM hN (some (.cells (c.set 0 (some eJ)) 4 .own))) hN (some (.cells ((c.set 0 (some eJ)).set 1 (some Xt)) 4 .own))->∀e,e≠hN->U X gX e=U X bM e:=by
  rintro gX rfl e B
  rw[aB Zo B,aB Zo B]
 refine⟨aJ,rfl,⟨Zo,EE,(c.set 0 (some eJ)).set 1 (some Xt),eJ,Xt,acI,SB,a7 Zo, ?_, ?_, ?_, ?_,ahp,ahq⟩, ?_,Zo,Zo,λb ag bV=> ?_⟩
 ·rw[Q.kW,Zh Zd,Q.kW,Zr rfl]
 ·rw[Q.kW,Zr rfl]
 ·rw[ZX]
  refine .inl (qL.aa λe B=> ?_)
  have:=ahp e B
  rw[ft _ rfl e Zo,mx e (by rcases we e B with rfl|a;omega;have:=dZ e a;omega) (λa=> ?_)]
  rcases we e B with rfl|cz
  ·have:=d8 _ a;omega
  ·exact(dZ e cz).2.2 a
 ·rw[ZX]
  exact .inl (oz.aa λe B=>ft _ rfl e (zs (ahq e B)))
 ·have gp:∀e,e<hN->U X bM e=U X aI e:=λe B=>by
   rw[mx e Zo (λa=>zs (d8 _ a)),gF e Zo (λa=>zs (dZ _ a)),c1 e Zo]
  exact es.aa (by rw[ft _ rfl _ Zo,gp _ auG]) (by rw[ft _ rfl _ Zo,gp _ auH])
 ·rw[ft _ rfl _ Zo,mx b Zo (λa=>zs (d8 _ a)),gF b Zo (λa=>zs (dZ _ a)),c1 b Zo]
  exact iC.aa b Zo bV
end
def yR(X:cl)(h:Q af)(P:Nat->Prop)(aj:gt)(row:List D):Prop:=∃aS k8 bY co kc,row=[aS,k8, .Z aj.at_,kc]/\dL X h P bY aS 1 (e3 aj.left)/\(dL X h P co k8 1 (aj.di.map λn=>[L9 n])/\cE X h (λe=>P e/\(aj.di≠[]->e≠co)) aj.right kc)/\cE X h P aj.right kc/\jf row=true
def yR.aa{X:cl}{h S':Q af}{P bu:Nat->Prop}{aj:gt}{row:List D}(a:yR X h P aj row)(z:∀e,P e->U X S' e=U X h e)(aC:∀e,P e->bu e):yR X S' bu aj row:=by
 obtain⟨aS,k8,bY,co,kc,M,R,ak,aA,bv⟩:=a
 exact⟨aS,k8,bY,co,kc,M,(R.aa z).lift aC,⟨(ak.1.aa z).lift aC,cE.lift (λe B=>⟨aC e B.1,B.2⟩) _ _ (cE.aa (λe B=>z e B.1) _ _ ak.2)⟩,cE.lift aC _ _ (cE.aa z _ _ aA),bv⟩
section
variable{X:cl}{h S' aI aM:Q af}{j an aO aZ aH bP:Nat}{aW:List Tok}{i:Nat}
def arT(au:dj X)(d6:xh X){n:Nat}(tU:n<=200000)(aw:iZ X h j aH bP aW i){r:Except Int (gt×List Tok)}(Y:vT n (aW.drop i)=some r):
 aU X 73 [.ptr aH 0] h j (λac S' an=>∃aj cD row,r= .ok (aj,aW.drop cD)/\ac= .agg row/\yR X S' (dr j an) aj row/\aT X S' aH bP aW cD/\cg X [aH] h j S' an) (jk X aH h j r):=by
 refine zz au (an2 X) ?_
 rw[an3]
 unfold abx
 have he:=aw.a2
 have kD:=aw.hL
 have is:=aw.b3
 have j4:=aw.hn
 unfold vT at Y
 obtain⟨x,ce,aF,ae⟩:=rX Y
 refine cx ⟨?_⟩
 refine eN (λaI=>aP X aI (.ptr j 0)=some (.ptr aH 0)/\U X aI (j+1)=zw [.aV, .aV, .Z 0, .cJ] 4/\vE X aI (j+2) (j+1+1+1) [] []/\aT X aI aH bP aW i/\ba X h j aI (j+1+1+1)) ⟨?_, ?_, ?_, ?_, ?_⟩ ?_
 ·exact a8
 ·simp(disch:=omega) only[aB,a7]<;>rfl
 ·exact⟨Zo,Zo,_, .aV, .aV,[],[],a7 Zo,rfl,rfl, .inl (.inl ⟨rfl,rfl,rfl⟩), .inl (.inl ⟨rfl,rfl,rfl⟩),Zs,Zs⟩
 ·exact aw.par.aa (zy) (zy)
 ·exact dz
 rintro aI ⟨fD,rp,iv,es,bH⟩
 have nv:=aw.go es (by omega:j<=j+1+1+1)
 refine(oJ au nv aF _).Zm ?_
 rintro Dz aM aZ ⟨rfl,dF,dx⟩
 have fJ:=dx.le
 have xU:=(cg.of (X:=[aH]) bH).trans dx
 refine oj cf.eq_1 ⟨?_⟩
 refine iR (λI S' aN=>∃(cn:List Tok) (cD:Nat),I.g 1=some (.ptr j 0)/\I.g 2=some (.ptr (j+1) 0)/\I.g 3=some (.ptr (j+2) 0)/\vE X S' (j+2) aN (cn.map Tok.text) (cn.map Tok.at_)/\aT X S' aH bP aW cD/\j+2<aN/\cg X [aH] h j S' aN/\aP X S' (.ptr j 0)=some (.ptr aH 0)/\U X S' (j+1)=zw [.aV, .aV, .Z 0, .cJ] 4/\cn.length<=300000/\
  (andThen (eL [61] (aW.drop cD)) λE l=>andThen (arrow n l) λr l=>andThen (eL [59] l) λ_ l=>ok (⟨cn.map Tok.text,cn.map Tok.at_,E.at_,r⟩:gt) l)=some r) (λS bE=> ?_) ?_
 ·
  have HS:aP X aM (.ptr j 0)=some (.ptr aH 0):=by rw[dx.eV _ _ Zo Zx];exact fD
  have vZ:U X aM (j+1)=zw [.aV, .aV, .Z 0, .cJ] 4:=by rw[dx.aa _ Zo Zx];exact rp
  have nQ:=iv.aa (S':=aM) (lJ:=aZ) (λe M R=>dx.aa e R Zx) fJ
  rcases ae with ⟨aD,Y⟩|⟨aD,Y⟩
  ·rw[aD]at dF ⊢
   simp only[ZE]at dF ⊢
   rw[<-(fZ aF).2]at Y
   simp only[]at Y
   refine cd cf.eq_1 ⟨?_⟩
   simp only[YD,Yt]
   refine eN (λa1=>aP X a1 (.ptr j 0)=some (.ptr aH 0)/\U X a1 (j+1)=zw [.aV, .aV, .Z 0, .cJ] 4/\vE X a1 (j+2) (aZ+1) [] []/\aT X a1 aH bP aW (i+1)/\cg X [aH] h j a1 (aZ+1)) ⟨?_, ?_, ?_, ?_, ?_⟩ ?_
   ·exact TK @HS
   ·simp(disch:=omega) only[aB];exact vZ
   ·exact nQ.aa (λe M R=>zy) Zo
   ·exact dF.aa (zy) (zy)
   ·exact⟨Zo,λb ag bV=>by rw[<-xU.aa b ag bV];exact zy⟩
   clear HS vZ nQ dF xU dx bH es iv rp fD nv
   rintro a1 ⟨v1,uS,pf,g1,eh⟩
   have nX:=aw.go g1 (by omega:j<=aZ+1)
   cases u1:aW.drop (i+1)with
   |nil=>rw[u1]at Y;simp[je,andThen]at Y
   |cons e eQ=>
   rw[u1]at Y
   simp only[je]at Y
   refine(WT au nX Zo Zo Zo Zo v1 pf Zs Zs u1).mono ?_ ?_
   ·rintro vr bA cK ⟨gF,rfl,rE,hF,iF,eG⟩
    rw[Zr gF]at Y
    simp only[andThen,ok]at Y
    rw[<-(fZ u1).2]at Y
    have ED:aP X bA (.ptr j 0)=some (.ptr aH 0):=by rw[eG.eV _ _ Zo Zx];exact v1
    have An:U X bA (j+1)=zw [.aV, .aV, .Z 0, .cJ] 4:=by rw[eG.aa _ Zo Zx];exact uS
    have aeW:cg X [aH] h j bA cK:=⟨Zo,λb ag bV=>by rw[eG.aa b Zo bV];exact eh.aa b ag bV⟩
    refine cd @ED ⟨?_⟩
    refine eN (λbM=>U X bM cK=zw [.str [44]] 1/\ba X bA cK bM (cK+1)) ⟨a7 Zo,dz⟩ ?_
    rintro bM ⟨aey,dC⟩
    have pn:=aw.go (hF.ex dC Zo Zo) (by omega:j<=cK+1)
    have dH:=aeW.trans (cg.of dC)
    have ahd:=Y
    cases bs:eL [44] (aW.drop (i+1+1))with
    |none=>rw[bs]at Y;cases Y
    |some Bc=>
    rw[bs]at Y
    refine(j1 au pn Zo Zo aey bs).mono ?_ ?_
    ·rintro Bm bZ dy ⟨vx,iw,rfl,_,hV,eB⟩
     have pb:=eB.le
     simp only[]at Y
     have KU:aP X bZ (.ptr j 0)=some (.ptr aH 0):=by rw[eB.eV _ _ Zo Zx,dC.eV _ _ Zo];exact ED
     have Cc:U X bZ (j+1)=zw [.aV, .aV, .Z 0, .cJ] 4:=by rw[eB.aa _ Zo Zx,dC.aa _ Zo];exact An
     have LM:=rE.aa (S':=bZ) (lJ:=dy) (λe M R=>by rw[eB.aa e Zo Zx,dC.aa e R]) Zo
     have v7:=dH.trans eB
     clear ED An rE hF eG aeW dH dC aey pn eB
     refine iR (λI S' aN=>∃(cn:List Tok) (cD:Nat),I.g 1=some (.ptr j 0)/\I.g 2=some (.ptr (j+1) 0)/\I.g 3=some (.ptr (j+2) 0)/\vE X S' (j+2) aN (cn.map Tok.text) (cn.map Tok.at_)/\aT X S' aH bP aW cD/\j+2<aN/\cg X [aH] h j S' aN/\aP X S' (.ptr j 0)=some (.ptr aH 0)/\U X S' (j+1)=zw [.aV, .aV, .Z 0, .cJ] 4/\cn.length<=300000/\
      (andThen (andThen (eL [41] (aW.drop cD)) λ_ l=>ok cn l) λcn l=>andThen (eL [61] l) λE l=>andThen (arrow n l) λr l=>andThen (eL [59] l) λ_ l=>ok (⟨cn.map Tok.text,cn.map Tok.at_,E.at_,r⟩:gt) l)=some r) (λAW U6=> ?_) ?_
     ·refine fh (λm I S' aN=>∃(cn:List Tok) (cD:Nat) (b:Bool),I.g 1=some (.ptr j 0)/\I.g 2=some (.ptr (j+1) 0)/\I.g 3=some (.ptr (j+2) 0)/\I.g 4=some (.func (.func 94) [] [.ptr j 0, .ptr (j+2) 0])/\I.g 7=some (.bool b)/\vE X S' (j+2) aN (cn.map Tok.text) (cn.map Tok.at_)/\aT X S' aH bP aW cD/\j+2<aN/\cg X [aH] h j S' aN/\aP X S' (.ptr j 0)=some (.ptr aH 0)/\U X S' (j+1)=zw [.aV, .aV, .Z 0, .cJ] 4/\cn.length+m<=n+5/\
       (b=true->(andThen (andThen (ea m cn (aW.drop cD)) λcn l=>andThen (eL [41] l) λ_ l=>ok cn l) λcn l=>andThen (eL [61] l) λE l=>andThen (arrow n l) λr l=>andThen (eL [59] l) λ_ l=>ok (⟨cn.map Tok.text,cn.map Tok.at_,E.at_,r⟩:gt) l)=some r)/\
       (b=false->(andThen (andThen (eL [41] (aW.drop cD)) λ_ l=>ok cn l) λcn l=>andThen (eL [61] l) λE l=>andThen (arrow n l) λr l=>andThen (eL [59] l) λ_ l=>ok (⟨cn.map Tok.text,cn.map Tok.at_,E.at_,r⟩:gt) l)=some r))
       n ⟨[e],iw,true,a8,a8,a8,a8,a8,LM,hV,Zo,v7,KU,Cc,Zx,λ_=>Y,λa=>(by cases a)⟩ ?_
      clear KU Cc LM hV v7 Y ahd bs
      rintro m I ci dV ⟨cn,pX,b,t1,eK,t3,t4,gc,Fa,h8,Vh,er,xS,Ao,bp,B,lk⟩
      refine oj @gc ⟨?_⟩
      refine gi ?_
      cases b with
      |false=>
       refine xy ?_
       exact U6 _ _ _ ⟨cn,pX,aL t1,aL eK,aL t3,Fa,h8,Vh,er,xS,Ao,Zo,lk rfl⟩
      |true=>
       have Y:=B rfl
       cases m with
       |zero=>simp[ea,andThen]at Y
       |succ m=>
       unfold ea at Y
       refine xz ?_
       have nY:=aw.go h8 (by omega:j<=dV)
       refine cd @t4 ⟨?_⟩
       simp only[YD,Yt]
       cases tL:aW.drop pX with
       |nil=>rw[tL]at Y;simp[je,andThen]at Y
       |cons bm mV=>
       rw[tL]at Y
       simp only[je]at Y
       refine(WT au nY Zo Zo Zo Zo xS Fa Zx Zx tL).mono ?_ ?_
       ·rintro u8 dk hH ⟨sE,rfl,awg,yd,x8,g0⟩
        rw[Zr sE]at Y
        simp only[andThen,ok]at Y
        rw[<-(fZ tL).2]at Y
        have aez:aP X dk (.ptr j 0)=some (.ptr aH 0):=by rw[g0.eV _ _ Zo Zx];exact xS
        have OJ:U X dk (j+1)=zw [.aV, .aV, .Z 0, .cJ] 4:=by rw[g0.aa _ Zo Zx];exact Ao
        have at6:cg X [aH] h j dk hH:=⟨Zo,λb ag bV=>by rw[g0.aa b Zo bV];exact er.aa b ag bV⟩
        have uk:=aw.go yd (by omega:j<=hH)
        refine cI @t1 @aez ⟨?_⟩
        cases sA:aW.drop (pX+1)with
        |nil=>rw[sA]at Y;simp[iI,mG]at Y
        |cons w pi=>
        refine(oJ au uk sA [44]).Zm ?_
        rintro Bl dt fc ⟨rfl,nk,hw⟩
        have pc:=hw.le
        rw[sA]at Y
        have Ap:aP X dt (.ptr j 0)=some (.ptr aH 0):=by rw[hw.eV _ _ Zo Zx];exact aez
        have xQ:U X dt (j+1)=zw [.aV, .aV, .Z 0, .cJ] 4:=by rw[hw.aa _ Zo Zx];exact OJ
        have VD:=awg.aa (S':=dt) (lJ:=fc) (λe M R=>hw.aa e R Zx) pc
        have Cg:=at6.trans hw
        refine cx ⟨?_⟩
        refine⟨m,Zo,cn++[bm],_,ho w [44],aL t1,aL eK,aL t3,aL t4,a8,by simpa using VD,nk,Zo,Cg,Ap,xQ,Zx,λa=> ?_,λa=> ?_⟩
        ·simp only[iI,mG,a,ZE]at Y ⊢
         rw[(fZ sA).2]
         exact Y
        ·simp only[iI,mG,a,Zy,ZD]at Y ⊢
         rw[sA]
         exact Y
       ·rintro u8 dk hH ⟨sE,rfl,g0⟩
        rw[Zh sE]at Y
        simp only[andThen,bad,Zf]at Y
        subst Y
        exact⟨_,rfl,rfl,er.trans g0⟩
     ·clear KU Cc LM hV v7 Y ahd bs
      rintro I ci dV ⟨cn,pX,t1,eK,t3,Fa,h8,Vh,er,xS,Ao,bp,Y⟩
      refine cI @t1 @xS ⟨?_⟩
      refine eN (λdk=>U X dk dV=zw [.str [41]] 1/\ba X ci dV dk (dV+1)) ⟨a7 Zo,dz⟩ ?_
      rintro dk ⟨EC,gK⟩
      have uk:=aw.go (h8.ex gK Zo Zo) (by omega:j<=dV+1)
      have g0:=er.trans (cg.of gK)
      cases bs:eL [41] (aW.drop pX)with
      |none=>rw[bs]at Y;cases Y
      |some Bc=>
      rw[bs]at Y
      refine(j1 au uk Zo Zo EC bs).mono ?_ ?_
      ·rintro v9 dt fc ⟨vy,i9,rfl,_,nk,hw⟩
       have pc:=hw.le
       simp only[andThen,ok]at Y
       have Ap:aP X dt (.ptr j 0)=some (.ptr aH 0):=by rw[hw.eV _ _ Zo Zx,gK.eV _ _ Zo];exact xS
       have xQ:U X dt (j+1)=zw [.aV, .aV, .Z 0, .cJ] 4:=by rw[hw.aa _ Zo Zx,gK.aa _ Zo];exact Ao
       have VD:=Fa.aa (S':=dt) (lJ:=fc) (λe M R=>by rw[hw.aa e Zo Zx,gK.aa e R]) Zo
       exact bE _ _ _ ⟨cn,i9,t1,eK,t3,VD,nk,Zo,g0.trans hw,Ap,xQ,bp,Y⟩
      ·rintro v9 dt fc ⟨H,rfl,rfl,hw⟩
       simp only[andThen,Zf]at Y
       subst Y
       exact⟨H,rfl,rfl,g0.trans hw⟩
    ·rintro Bm bZ dy ⟨H,rfl,rfl,eB⟩
     simp only[Zf]at Y
     subst Y
     exact⟨H,rfl,rfl,dH.trans eB⟩
   ·rintro vr bA cK ⟨gF,rfl,eG⟩
    rw[Zh gF]at Y
    simp only[andThen,bad,Zf]at Y
    subst Y
    exact⟨_,rfl,rfl,eh.trans eG⟩
  ·rw[aD]at dF ⊢
   simp only[Zy,ZD]at dF ⊢
   simp only[]at Y
   refine cI cf.eq_1 hq.eq_1 ⟨?_⟩
   simp only[YD,Yt]
   refine eN (λa1=>aP X a1 (.ptr j 0)=some (.ptr aH 0)/\U X a1 (j+1)=zw [.aV, .aV, .Z 0, .cJ] 4/\vE X a1 (j+2) (aZ+1) [] []/\aT X a1 aH bP aW i/\cg X [aH] h j a1 (aZ+1)) ⟨?_, ?_, ?_, ?_, ?_⟩ ?_
   ·exact TK @HS
   ·simp(disch:=omega) only[aB];exact vZ
   ·exact nQ.aa (λe M R=>zy) Zo
   ·exact dF.aa (zy) (zy)
   ·exact⟨Zo,λb ag bV=>by rw[<-xU.aa b ag bV];exact zy⟩
   clear HS vZ nQ dF xU dx bH es iv rp fD nv
   rintro a1 ⟨v1,uS,pf,g1,eh⟩
   have nX:=aw.go g1 (by omega:j<=aZ+1)
   rw[aF]at Y
   simp only[je]at Y
   refine(WT au nX Zo Zo Zo Zo v1 pf Zs Zs aF).mono ?_ ?_
   ·rintro vr bA cK ⟨gF,rfl,rE,hF,iF,eG⟩
    rw[Zr gF]at Y
    simp only[andThen,ok]at Y
    rw[<-(fZ aF).2]at Y
    have ED:aP X bA (.ptr j 0)=some (.ptr aH 0):=by rw[eG.eV _ _ Zo Zx];exact v1
    have An:U X bA (j+1)=zw [.aV, .aV, .Z 0, .cJ] 4:=by rw[eG.aa _ Zo Zx];exact uS
    exact bE _ _ _ ⟨[x],i+1,a8,a8,a8,rE,hF,Zo,⟨Zo,λb ag bV=>by rw[eG.aa b Zo bV];exact eh.aa b ag bV⟩,ED,An,Zs,Y⟩
   ·rintro vr bA cK ⟨gF,rfl,eG⟩
    rw[Zh gF]at Y
    simp only[andThen,bad,Zf]at Y
    subst Y
    exact⟨_,rfl,rfl,eh.trans eG⟩
 ·clear ae Y dF xU dx bH es iv rp fD nv aF
  rintro I a1 bi ⟨cn,i3,t1,eK,t3,pf,g1,aFE,eh,v1,uS,bp,Y⟩
  refine cI @t1 @v1 ⟨?_⟩
  refine eN (λbA=>U X bA bi=zw [.str [61]] 1/\ba X a1 bi bA (bi+1)) ⟨a7 Zo,dz⟩ ?_
  rintro bA ⟨EA,c0⟩
  have lq:=aw.go (g1.ex c0 Zo Zo) (by omega:j<=bi+1)
  have eG:=eh.trans (cg.of c0)
  rcases gR Y with ⟨H,bv,rfl⟩|⟨E,g3,bv,Y⟩
  ·exact(j1 au lq Zo Zo EA bv).mono (λac S' an a=>by obtain⟨E,cD,a,_⟩:=a;cases a) (λac S' an a=>a.of eG (λ_ a=>by cases a;rfl))
  refine(j1 au lq Zo Zo EA bv).mono ?_ (λac S' an a=>by obtain⟨H,a,_⟩:=a;cases a)
  rintro v5 bM bX ⟨iM,i5,tO,rfl,hG,dH⟩
  cases tO
  have ik:=dH.le
  have OL:aP X bM (.ptr j 0)=some (.ptr aH 0):=by rw[dH.eV _ _ Zo Zx,c0.eV _ _ Zo];exact v1
  have HN:U X bM (j+1)=zw [.aV, .aV, .Z 0, .cJ] 4:=by rw[dH.aa _ Zo Zx,c0.aa _ Zo];exact uS
  have sI:=pf.aa (S':=bM) (lJ:=bX) (λe M R=>by rw[dH.aa e Zo Zx,c0.aa e R]) Zo
  have As:=eG.trans dH
  obtain⟨aX,EE,c,aS,k8,Ho,xx,bI,bN,cH,dg,fT,dZ,d8⟩:=sI
  clear pf g1 eh v1 uS c0 EA lq eG dH
  refine cI @t3 cf.eq_1 ⟨?_⟩
  have ahu:∀e,e≠j+2->U X (bj X bM (j+2) (some (.cells (dS c 2 (D.Z E.at_).cells) 4 .own))) e=U X bM e:=λe B=>aB Zo B
  refine cI @t1 @OL ⟨?_⟩
  refine eN (λbZ=>U X bZ (j+2)=some (.cells (c.set 2 (some (.Z E.at_))) 4 .own)/\∀e,e≠j+2->U X bZ e=U X bM e) ⟨(a7 Zo).trans (by simp only[D.cells,r1]),ahu⟩ ?_
  clear ahu
  rintro bZ ⟨Dr,c3⟩
  have hV:aT X bZ aH bP aW i5:=hG.aa (c3 _ Zo) (c3 _ Zo)
  have eB:cg X [aH] h j bZ bX:=⟨As.le,λb ag bV=>by rw[c3 b Zo];exact As.aa b ag bV⟩
  rcases gR Y with ⟨H,dl,rfl⟩|⟨HC,mV,dl,Y⟩
  ·exact((acp au d6 n Zo).arrow bZ _ _ _ (aw.go hV Zo) dl).mono (λac S' an a=>by obtain⟨E,cD,a,_⟩:=a;cases a) (λac S' an a=>a.of eB (λ_ a=>by cases a;rfl))
  refine((acp au d6 n Zo).arrow bZ _ _ _ (aw.go hV Zo) dl).mono ?_ (λac S' an a=>by obtain⟨H,a,_⟩:=a;cases a)
  rintro Ni ci dV ⟨adu,pX,AA,ez,h8,er⟩
  cases AA
  have nj:=er.le
  obtain⟨q7,rfl,aGg,_⟩:=ez.ptr
  have Jl:U X ci (j+2)=some (.cells (c.set 2 (some (.Z E.at_))) 4 .own):=by rw[er.aa _ Zo Zx];exact Dr
  have xS:aP X ci (.ptr j 0)=some (.ptr aH 0):=by rw[er.eV _ _ Zo Zx,cv,c3 _ Zo, <-cv];exact OL
  have ft:∀e,j<=e->e<bX->e≠j+2->U X ci e=U X bM e:=λe M R ak=>by rw[er.aa e R Zx,c3 e ak]
  refine cd @t3 ⟨?_⟩
  refine cI @t1 @xS ⟨?_⟩
  refine eN (λdk=>U X dk dV=zw [.str [59]] 1/\U X dk (j+2)=some (.cells ((c.set 2 (some (.Z E.at_))).set 3 (some (.ptr q7 0))) 4 .own)/\∀e,e<dV->e≠j+2->U X dk e=U X ci e) ⟨a7 Zo, ?_, ?_⟩ ?_
  ·rw[aB Zo Zo,a7 Zo];simp only[D.cells,r1]
  ·intro e M R
   rw[aB Zo Zo,aB Zo R]
  rintro dk ⟨EC,aBj,gp⟩
  have yd:aT X dk aH bP aW pX:=h8.aa (gp _ Zo Zo) (gp _ Zo Zo)
  have g0:cg X [aH] h j dk (dV+1):=⟨Zo,λb ag bV=>by rw[gp b Zo Zo];exact(eB.trans er).aa b ag bV⟩
  rcases gR Y with ⟨H,hT,rfl⟩|⟨vy,p1,hT,Y⟩
  ·exact(j1 au (aw.go yd Zo) Zo Zo EC hT).mono (λac S' an a=>by obtain⟨E,cD,a,_⟩:=a;cases a) (λac S' an a=>a.of g0 (λ_ a=>by cases a;rfl))
  refine(j1 au (aw.go yd Zo) Zo Zo EC hT).mono ?_ (λac S' an a=>by obtain⟨H,a,_⟩:=a;cases a)
  rintro v9 dt fc ⟨aHd,i9,auX,_,nk,hw⟩
  cases auX
  have pc:=hw.le
  simp only[ok,Zf]at Y
  subst Y
  have ai7:U X dt (j+2)=some (.cells ((c.set 2 (some (.Z E.at_))).set 3 (some (.ptr q7 0))) 4 .own):=by rw[hw.aa _ Zo Zx];exact aBj
  have hg:∀e,j<=e->e<dV->e≠j+2->U X dt e=U X ci e:=λe M R ak=>by rw[hw.aa e Zo Zx,gp e R ak]
  have xQ:U X dt (j+1)=zw [.aV, .aV, .Z 0, .cJ] 4:=by rw[hg _ Zo Zo Zo,ft _ Zo Zo Zo];exact HN
  have dB:((c.set 2 (some (D.Z E.at_))).set 3 (some (.ptr q7 0))).get 0=some aS:=by rw[Q.kW,Zh Zd,Q.kW,Zh Zd];exact bN
  have cX:((c.set 2 (some (D.Z E.at_))).set 3 (some (.ptr q7 0))).get 1=some k8:=by rw[Q.kW,Zh Zd,Q.kW,Zh Zd];exact cH
  have dN:((c.set 2 (some (D.Z E.at_))).set 3 (some (.ptr q7 0))).get 2=some (.Z E.at_):=by rw[Q.kW,Zh Zd,Q.kW,Zr rfl]
  have g6:((c.set 2 (some (D.Z E.at_))).set 3 (some (.ptr q7 0))).get 3=some (.ptr q7 0):=by rw[Q.kW,Zr rfl]
  generalize ((c.set 2 (some (D.Z E.at_))).set 3 (some (.ptr q7 0)))=fS at ai7 dB cX dN g6
  obtain⟨g9,nt,sZ⟩:=gk.one dg
  obtain⟨I9,Dd,uf⟩:=gk.one fT
  have aC:cG X dt 4 (.ptr (j+2) 0)=some (.agg [aS,k8, .Z E.at_, .ptr q7 0]):=by
   rw[sN];simp[bc ai7,dB,cX,dN,g6]
  refine dI @t3 @aC @eK ⟨?_⟩
  refine f8 (iH (z:=4) xQ Zo rfl Zd Zd (by simp[D.cells,jf,nt,Dd,show qV (.Z E.at_)=true from rfl,show qV (.ptr q7 0)=true from rfl])) ?_
  refine cd @eK ⟨?_⟩
  have FC:∀e,e≠j+1->∀cU,U X (bj X dt (j+1) cU) e=U X dt e:=λe B cU=>aB Zo B
  have ng:∀e,j+2<e->e<bX->∀cU,U X (bj X dt (j+1) cU) e=U X bM e:=λe M R cU=>by rw[FC e Zo,hg e Zo Zo Zo,ft e Zo R Zo]
  obtain⟨bY,agC⟩:=(dg.aa (S':=bj X dt (j+1) (some (.cells (dS (Q.ofList [.aV, .aV, .Z 0, .cJ] 0 .nil) 0 [aS,k8, .Z E.at_, .ptr q7 0]) 4 .own))) (λe B=>ng e (dZ e B).1 (dZ e B).2.1 _)).MS (P:=dr j fc) Zx (λe B=>by have:=dZ e B;exact⟨Zo,Zo⟩)
  obtain⟨co,Iy⟩:=(fT.aa (S':=bj X dt (j+1) (some (.cells (dS (Q.ofList [.aV, .aV, .Z 0, .cJ] 0 .nil) 0 [aS,k8, .Z E.at_, .ptr q7 0]) 4 .own))) (λe B=>ng e (d8 e B).1 (d8 e B).2 _)).MS (P:=λe=>dr j fc e/\e<bX) Zx (λe B=>by have:=d8 e B;exact⟨⟨Zo,Zo⟩,Zo⟩)
  have gT:=cE.aa (S':=bj X dt (j+1) (some (.cells (dS (Q.ofList [.aV, .aV, .Z 0, .cJ] 0 .nil) 0 [aS,k8, .Z E.at_, .ptr q7 0]) 4 .own))) (λe B=>by
   have M:=B.1
   rw[FC e Zo,hg e Zo B.2 Zo]) _ _ ez
  refine⟨_,i9,[aS,k8, .Z E.at_, .ptr q7 0],rfl,rfl,⟨aS,k8,bY,co, .ptr q7 0,rfl, ?_, ?_, ?_,by simp[jf,nt,Dd,show qV (.Z E.at_)=true from rfl,show qV (.ptr q7 0)=true from rfl]⟩, ?_, ?_⟩
  ·rw[YI]at agC;exact agC
  ·rw[YI]at Iy
   refine⟨Iy.lift (λ_ a=>a.1),cE.lift (λe B=>⟨⟨zs B.1,zs B.2⟩,λdQ E=> ?_⟩) _ _ gT⟩
   have M:=(Iy.ag (λa=>dQ (by simpa using a))).2
   have R:=B.1
   omega
  ·exact cE.lift (λe B=>⟨zs B.1,zs B.2⟩) _ _ gT
  ·exact nk.aa (FC _ Zo _) (FC _ Zo _)
  ·exact⟨Zo,λb ag bV=>by rw[FC b Zo];exact(g0.trans hw).aa b ag bV⟩
end
end
end Go.Proofs.YtpeabpmnlmaabaaGreatDoor

