/- Part of the proof of the last text; no conditions -/
import Derived.Test.YtpeabpmnlmaabaaGreatDoorYh
set_option maxHeartbeats 8000000
set_option linter.all false
namespace Go.Proofs.YtpeabpmnlmaabaaGreatDoor
open Go.bd Go.aT
noncomputable section
def d2(d:eF):List D:=[.str d.name, .Z d.at_, .bool d.ty.b, .bool d.ty.s, .Z d.ty.w, .str d.on, .Z d.et, .bool d.no]
def ajT(l:List Tok):∀r∈l.map cf,r.length=7:=by
 intro r Y;obtain⟨t,_,rfl⟩:=ZI.1 Y;rfl
def Tg(l:List eF):∀r∈l.map d2,r.length=8:=by
 intro r Y;obtain⟨t,_,rfl⟩:=ZI.1 Y;rfl
def aEa{s:aY}{l:List Tok}{x:Tok}{ce:List Tok}(a:eL s l=some (.ok (x,ce))):ce.length+1=l.length:=by
 cases l with
 |nil=>cases a
 |cons e l=>
  simp only[eL]at a
  split at a
  ·simp only[ok,Zf,Except.ok.injEq,YN]at a
   rw[<-a.2];rfl
  ·cases a
structure NC(X:cl)(aH bP:Nat)(aW:List Tok)(j:Nat)(fi:Q af)(loc:Bool)(I:cV)(h:Q af)(n:Nat)(s:D)(ds:List eF)(cq:List Nat)(i:Nat):Prop where
 t0:I.g 0=some (.ptr aH 0)
 t1:I.g 1=some (.bool loc)
 t5:I.g 5=some s
 aS:gk X h s 8 (ds.map d2).flatten cq
 cq:∀e∈cq,j<=e/\e<n
 par:aT X h aH bP aW i
 fr:cg X [aH] fi j h n
section
variable{X:cl}{h S' aI aM:Q af}{j an aO aZ aH bP:Nat}{aW:List Tok}{i:Nat}
def Od(ds:List eF):(ds.map d2).flatten.length=ds.length*8:=by rw[tz (Tg ds),Zi]
def aDB(ds:List Tok):(ds.map cf).flatten.length=ds.length*7:=by rw[tz (ajT ds),Zi]
def Hz(au:dj X){n:Nat}(kJ:aW.length<=100000)(aw:iZ X h j aH bP aW i){loc:Bool}{r:Except Int (List eF×List Tok)}(Y:jD n loc [] (aW.drop i)=some r):
 aU X 72 [.ptr aH 0, .bool loc] h j (λac S' an=>∃ds cD b,r= .ok (ds,aW.drop cD)/\dL X S' (dr j an) b ac 8 (ds.map d2)/\aT X S' aH bP aW cD/\cg X [aH] h j S' an) (jk X aH h j r):=by
 refine zz au (an0 X) ?_
 rw[an1]
 unfold abw
 have he:=aw.a2
 have kD:=aw.hL
 have is:=aw.b3
 have j4:=aw.hn
 refine gi ?_
 refine fh (λm I S' aN=>∃s ds cq cD,NC X aH bP aW j h loc I S' aN s ds cq cD/\ds.length+(aW.drop cD).length<=aW.length/\jD m loc ds (aW.drop cD)=some r)
  n ⟨.aV,[],[],i,⟨a8,a8,a8, .inl (.inl ⟨rfl,rfl,rfl⟩),Zs,aw.par,cg.refl _ _ _⟩,Zs,Y⟩ ?_
 clear Y
 rintro m I aI aO ⟨s,ds,cq,il,m7,LA,Y⟩
 cases m with
 |zero=>simp[jD]at Y
 |succ m=>
 unfold jD at Y
 refine gi ?_
 have jJ:=m7.fr.le
 refine iR (λI S' aN=>∃(cn:List Tok) (q1:D) (uE:List Nat) (cD:Nat),NC X aH bP aW j h loc I S' aN s ds cq cD/\aO<=aN/\(∀e∈cq,e<aO)/\I.g 6=some q1/\gk X S' q1 7 (cn.map cf).flatten uE/\(∀e∈uE,aO<=e/\e<aN)/\ds.length+cn.length+(aW.drop cD).length<=aW.length/\
  El loc (jD m loc) ds cn (aW.drop cD)=some r) (λS bE=> ?_) ?_
 ·refine fh (λz I S' aN=>∃(cn:List Tok) (q1:D) (uE:List Nat) (cD:Nat) (b:Bool),NC X aH bP aW j h loc I S' aN s ds cq cD/\aO<=aN/\(∀e∈cq,e<aO)/\I.g 6=some q1/\I.g 7=some (.bool b)/\gk X S' q1 7 (cn.map cf).flatten uE/\(∀e∈uE,aO<=e/\e<aN)/\ds.length+cn.length+(aW.drop cD).length<=aW.length/\
   (b=true->andThen (ea z cn (aW.drop cD)) (λcn l=>El loc (jD m loc) ds cn l)=some r)/\(b=false->El loc (jD m loc) ds cn (aW.drop cD)=some r))
   m ⟨[], .aV,[],il,true,⟨aL m7.t0,aL m7.t1,aL m7.t5,m7.aS,m7.cq,m7.par,m7.fr⟩,Zo,λe B=>(m7.cq e B).2,a8,a8, .inl (.inl ⟨rfl,rfl,rfl⟩),Zs,by simpa using LA,λ_=>Y,λa=>(by cases a)⟩ ?_
  clear Y m7 LA
  rintro z I aM aZ ⟨cn,q1,uE,gU,b,ly,fJ,eC,eX,gc,LV,fP,E3,B,lk⟩
  have f2:=aw.go ly.par ly.fr.le
  have t0:=ly.t0
  have t1:=ly.t1
  have t5:=ly.t5
  refine oj @gc ⟨?_⟩
  refine gi ?_
  cases b with
  |false=>
   refine xy ?_
   exact bE _ _ _ ⟨cn,q1,uE,gU,⟨aL t0,aL t1,aL t5,ly.aS,ly.cq,ly.par,ly.fr⟩,fJ,eC,aL eX,LV,fP,E3,lk rfl⟩
  |true=>
   have Y:=B rfl
   cases z with
   |zero=>simp[ea,andThen]at Y
   |succ z=>
   unfold ea at Y
   refine xz ?_
   refine cI @eX @t0 ⟨?_⟩
   cases aF:aW.drop gU with
   |nil=>rw[aF]at Y;simp[je,andThen]at Y
   |cons x l=>
   rw[aF]at Y
   simp only[je]at Y
   refine(Dg au f2.a2 f2.par f2.b3 f2.hL f2.hn f2.many (fZ aF).1 1).mono ?_ ?_
   ·rintro w8 a1 bi ⟨aJ,rfl,g1,eh⟩
    have iO:=eh.le
    rw[Zr aJ]at Y
    simp only[andThen,ok]at Y
    rw[<-(fZ aF).2]at Y
    have fg:(aW.drop gU).length=(aW.drop (gU+1)).length+1:=by rw[aF,(fZ aF).2];rfl
    have lN:∀e,j<=e->e<aZ->U X a1 e=U X aM e:=λe M R=>eh.aa e R Zx
    have akK:=ly.aS.aa (S':=a1) (λe B=>lN e (ly.cq e B).1 (ly.cq e B).2)
    have awK:=LV.aa (S':=a1) (λe B=>lN e (zs (fP e B)) (fP e B).2)
    have HZ:=ly.fr.trans eh
    refine cd cf.eq_1 ⟨?_⟩
    have kH:lu X (bj X a1 bi (zw (cf x) 7)) 7 (.slice bi 0 1 1)=some (1,cf x):=rT (a7 Zo) (l8 _) rfl _
    obtain⟨aCF,bA,acK,ii,qL,auF,gF⟩:=(awK.aa (S':=bj X a1 bi (zw (cf x) 7)) (λe B=>aB Zo (zs (fP e B).2))).append (j:=bi+1) Zd kH rfl Zd rfl (by rw[aDB];simp only[cf,ZF,Z5];omega) Zo (λe B=>zs (fP e B).2)
    refine kb ii ?_
    have dJ:∀e,e<bi->e∉uE->U X bA e=U X a1 e:=λe M R=>by rw[gF e Zo R,aB Zo Zo]
    have dW:∀e,e<aO->e∉uE:=λe M R=>zs (fP e R)
    have hF:aT X bA aH bP aW (gU+1):=g1.aa (dJ _ Zo (dW _ Zo)) (dJ _ Zo (dW _ Zo))
    have eG:cg X [aH] h j bA (bi+1+1):=⟨Zo,λb ag bV=>by rw[dJ b Zo (dW _ Zo)];exact HZ.aa b ag bV⟩
    have akL:=akK.aa (S':=bA) (λe B=>dJ e (zs (eC e B)) (dW _ (eC e B)))
    have e9:(cn.map cf).flatten++cf x=((cn++[x]).map cf).flatten:=by simp
    rw[e9]at qL
    have O7:∀e∈acK,aO<=e/\e<bi+1+1:=λe B=>by
     rcases auF e B with rfl|a
     ·omega
     ·have:=fP e a;omega
    refine cd @t0 ⟨?_⟩
    have lq:=aw.go hF eG.le
    obtain⟨w,g3,pQ⟩:∃w g3,aW.drop (gU+1)=w::g3:=by
     cases a:aW.drop (gU+1)with
     |nil=>rw[a]at Y;simp[iI,mG]at Y
     |cons w g3=>exact⟨w,g3,rfl⟩
    refine(oJ au lq pQ [44]).Zm ?_
    rintro vs bM bX ⟨rfl,hG,dH⟩
    have ik:=dH.le
    have d7:∀e,j<=e->e<bi+1+1->U X bM e=U X bA e:=λe M R=>dH.aa e R Zx
    refine cx ⟨?_⟩
    refine⟨z,Zo,cn++[x],aCF,acK,_,ho w [44],⟨aL t0,aL t1,aL t5,akL.aa (λe B=>d7 e (ly.cq e B).1 (zs (eC e B))),λe B=>⟨(ly.cq e B).1,zs (eC e B)⟩,hG,eG.trans dH⟩,Zo,eC,a8,a8, .inl (qL.aa (λe B=>d7 e (zs (O7 e B)) (O7 e B).2)),λe B=>⟨(O7 e B).1,zs (O7 e B).2⟩, ?_,λa=> ?_,λa=> ?_⟩
    ·have bv:=congrArg List.length (fZ pQ).2
     have b9:(aW.drop (gU+1)).length=g3.length+1:=by rw[pQ];rfl
     split
     ·simp only[ZH,List.length_singleton];omega
     ·simp only[ZH,List.length_singleton];omega
    ·rw[pQ]at Y
     simp only[iI,mG,a,ZE]at Y ⊢
     rw[(fZ pQ).2]
     exact Y
    ·rw[pQ]at Y
     simp only[iI,mG,a,Zy,ZD]at Y ⊢
     rw[pQ]
     exact Y
   ·rintro w8 a1 bi ⟨aJ,rfl,eh⟩
    rw[Zh aJ]at Y
    simp only[andThen,bad,Zf]at Y
    subst Y
    exact⟨_,rfl,rfl,ly.fr.trans eh⟩
 ·clear Y m7 LA
  rintro I aM aZ ⟨cn,q1,uE,gU,ly,fJ,eC,eX,LV,fP,E3,Y⟩
  have t0:=ly.t0
  have t1:=ly.t1
  have t5:=ly.t5
  have dx:=ly.fr
  have qK:=ly.aS
  have Ay:=ly.cq
  have dF:=ly.par
  clear ly
  refine cd @t0 ⟨?_⟩
  refine eN (λa1=>U X a1 aZ=zw [.str [58]] 1/\ba X aM aZ a1 (aZ+1)) ⟨a7 Zo,dz⟩ ?_
  rintro a1 ⟨T0,ck⟩
  have nX:=aw.go (dF.ex ck Zo Zo) (by omega:j<=aZ+1)
  have eh:=dx.trans (cg.of ck)
  unfold El at Y
  rcases gR Y with ⟨H,aA,rfl⟩|⟨lX,hl,aA,Y⟩
  ·exact(j1 au nX Zo Zo T0 aA).mono (λac S' an a=>by obtain⟨E,cD,a,_⟩:=a;cases a) (λac S' an a=>a.of eh (λ_ a=>by cases a;rfl))
  refine(j1 au nX Zo Zo T0 aA).mono ?_ (λac S' an a=>by obtain⟨H,a,_⟩:=a;cases a)
  rintro v4 bA cK ⟨aEl,i4,u2,_,hF,eG⟩
  cases u2
  have afT:=aEa aA
  have iF:=eG.le
  have lq:=nX.go hF iF
  have At:=eh.trans eG
  have dJ:∀e,j<=e->e<aZ->U X bA e=U X aM e:=λe M R=>by rw[eG.aa e Zo Zx,ck.aa e R]
  have qL:=qK.aa (S':=bA) (λe B=>dJ e (Ay e B).1 (Ay e B).2)
  have agP:=LV.aa (S':=bA) (λe B=>dJ e (zs (fP e B)) (fP e B).2)
  clear qK LV dJ T0 ck nX eh eG aA dx dF
  refine cd @t0 ⟨?_⟩
  cases pQ:aW.drop i4 with
  |nil=>rw[pQ]at Y;simp[je,andThen]at Y
  |cons t g3=>
  rw[pQ]at Y
  simp only[je]at Y
  refine(Dg au lq.a2 lq.par lq.b3 lq.hL lq.hn lq.many (fZ pQ).1 3).mono ?_ (λvs bM bX a=>by
   obtain⟨aJ,rfl,dH⟩:=a
   rw[Zh aJ]at Y
   simp only[andThen,bad,Zf]at Y
   subst Y
   exact⟨_,rfl,rfl,At.trans dH⟩)
  rintro vs bM bX ⟨aJ,rfl,hG,dH⟩
  have ik:=dH.le
  rw[Zr aJ]at Y
  simp only[andThen,ok]at Y
  rw[<-(fZ pQ).2]at Y
  have afU:(aW.drop i4).length=(aW.drop (i4+1)).length+1:=by rw[pQ,(fZ pQ).2];rfl
  have As:=At.trans dH
  have d7:∀e,j<=e->e<cK->U X bM e=U X bA e:=λe M R=>dH.aa e R Zx
  have oz:=qL.aa (S':=bM) (λe B=>d7 e (Ay e B).1 (zs (Ay e B)))
  have agQ:=agP.aa (S':=bM) (λe B=>d7 e (zs (fP e B)) (zs (fP e B)))
  clear qL agP d7 dH At
  refine cI cf.eq_1 @t0 ⟨?_⟩
  refine eN (λbZ=>U X bZ bX=zw (d2 ⟨[],0,t.ty,[],0,false⟩) 8/\ba X bM bX bZ (bX+1)) ⟨a7 Zo,dz⟩ ?_
  rintro bZ ⟨tC,el⟩
  have m1:=aw.go (hG.ex el Zo Zo) (by omega:j<=bX+1)
  have eB:=As.trans (cg.of el)
  obtain⟨w,mV,tL,ag2⟩:=rX Y
  refine(oJ au m1 tL _).Zm ?_
  rintro aj1 ci dV ⟨rfl,h8,er⟩
  have nj:=er.le
  have Ul:=eB.trans er
  have uQ:U X ci bX=zw (d2 ⟨[],0,t.ty,[],0,false⟩) 8:=by rw[er.aa _ Zo Zx];exact tC
  have ft:∀e,j<=e->e<bX->U X ci e=U X bM e:=λe M R=>by rw[er.aa e Zo Zx,el.aa e R]
  have afV:(aW.drop (i4+1)).length=mV.length+1:=by rw[tL];rfl
  refine oj cf.eq_1 ⟨?_⟩
  refine iR (λI S' aN=>∃(on:aY) (et:Int) (no:Bool) (cD:Nat),I.g 0=some (.ptr aH 0)/\I.g 1=some (.bool loc)/\I.g 5=some s/\I.g 6=some q1/\I.g 8=some (.ptr bX 0)/\U X S' bX=zw (d2 ⟨[],0,t.ty,on,et,no⟩) 8/\(∀e,j<=e->e<bX->U X S' e=U X bM e)/\aT X S' aH bP aW cD/\cg X [aH] h j S' aN/\bX<aN/\(aW.drop cD).length<=(aW.drop (i4+1)).length/\
   mJ loc (jD m loc) (ds++cn.map (qx t.ty on et no)) (aW.drop cD)=some r) (λS bE=> ?_) ?_
  ·rcases ag2 with ⟨aD,Y⟩|⟨aD,Y⟩
   ·rw[aD]at h8 ⊢
    simp only[ZE]at h8 ⊢
    rw[<-(fZ tL).2]at Y
    simp only[BY]at Y
    refine cd @t0 ⟨?_⟩
    refine eN (λdk=>ba X ci dV dk (dV+1)) dz ?_
    intro dk gK
    have uk:=m1.go (h8.ex gK Zo Zo) (by omega:bX+1<=dV+1)
    have Am:U X dk bX=zw (d2 ⟨[],0,t.ty,[],0,false⟩) 8:=by rw[gK.aa _ Zo];exact uQ
    obtain⟨yN,p1,Ia⟩:∃yN p1,aW.drop (i4+1+1)=yN::p1:=by
     cases a:aW.drop (i4+1+1)with
     |nil=>rw[a]at Y;simp[iI,mG,andThen]at Y
     |cons w g3=>exact⟨w,g3,rfl⟩
    refine(oJ au uk Ia _).Zm ?_
    rintro Bl dt fc ⟨rfl,nk,hw⟩
    have pc:=hw.le
    have Cg:=(Ul.trans (cg.of gK)).trans hw
    have HL:U X dt bX=zw (d2 ⟨[],0,t.ty,[],0,false⟩) 8:=by rw[hw.aa _ Zo Zx];exact Am
    have rF:andThen (andThen (je 1 (aW.drop (if ho yN [110,111,116]then i4+1+1+1 else i4+1+1))) (λon l=>ok (on.text,on.at_,ho yN [110,111,116]) l)) (λr l=>mJ loc (jD m loc) (ds++cn.map (qx t.ty r.1 r.2.1 r.2.2)) l)=some r:=by
     rw[Ia]at Y
     cases agG:ho yN [110,111,116]with
     |true=>simp only[iI,mG,agG,ZE]at Y ⊢;rw[(fZ Ia).2];exact Y
     |false=>simp only[iI,mG,agG,Zy,ZD]at Y ⊢;rw[Ia];exact Y
    have afW:(aW.drop (if ho yN [110,111,116]then i4+1+1+1 else i4+1+1)).length<=(aW.drop (i4+1)).length:=by simp only[Yx];split<;>omega
    clear Y
    generalize (if ho yN [110,111,116]then i4+1+1+1 else i4+1+1)=i9 at rF nk afW
    generalize (if ho yN [110,111,116]then yN else hq)=z9
    generalize ho yN [110,111,116]=no at rF
    unfold d2 at HL
    refine dI cf.eq_1 @HL @t0 ⟨?_⟩
    refine eN (λsf=>U X sf bX=zw (d2 ⟨[],0,t.ty,[],0,no⟩) 8/\(∀e,e<fc->e≠bX->U X sf e=U X dt e)) ⟨by rw[a7 Zo];rfl,λe M R=>aB Zo R⟩ ?_
    rintro sf ⟨as6,wG⟩
    have Iu:=nk.aa (wG _ Zo Zo) (wG _ Zo Zo)
    have uW:cg X [aH] h j sf fc:=⟨Zo,λb ag bV=>by rw[wG b Zo Zo];exact Cg.aa b ag bV⟩
    have Jj:=aw.go Iu (by omega:j<=fc)
    cases Pd:aW.drop i9 with
    |nil=>rw[Pd]at rF;simp[je,andThen]at rF
    |cons c ahF=>
    rw[Pd]at rF
    simp only[je]at rF
    refine(Dg au Jj.a2 Jj.par Jj.b3 Jj.hL Jj.hn Jj.many (fZ Pd).1 1).mono ?_ ?_
    ·rintro Bj sg azB ⟨U9,rfl,LI,xT⟩
     have aFi:=xT.le
     rw[Zr U9]at rF
     simp only[andThen,ok]at rF
     rw[<-(fZ Pd).2]at rF
     have HK:U X sg bX=zw (d2 ⟨[],0,t.ty,[],0,no⟩) 8:=by rw[xT.aa _ Zo Zx];exact as6
     unfold d2 at HK
     refine cI cf.eq_1 @HK ⟨?_⟩
     refine f4 (oI _ _) ?_
     refine cI cf.eq_1 @HK ⟨?_⟩
     refine bE _ _ _ ⟨c.text,c.at_,no,i9+1,aL t0,aL t1,aL t5,aL eX,a8, ?_,λe M R=> ?_, ?_, ?_,Zo, ?_,rF⟩
     ·simp(disch:=omega) only[aB,a7]<;>rfl
     ·simp(disch:=omega) only[aB]
      rw[xT.aa e Zo Zx,wG e Zo Zo,hw.aa e Zo Zx,gK.aa e Zo,ft e M R]
     ·exact LI.aa (zy) (zy)
     ·exact⟨Zo,λb ag bV=>by rw[<-(uW.trans xT).aa b ag bV];exact zy⟩
     ·simp only[Yx]at afW ⊢;omega
    ·rintro Bj sg azB ⟨U9,rfl,xT⟩
     rw[Zh U9]at rF
     simp only[andThen,bad,Zf]at rF
     subst rF
     exact⟨_,rfl,rfl,uW.trans xT⟩
   ·rw[aD]at h8 ⊢
    simp only[Zy,ZD]at h8 ⊢
    simp only[BY,andThen,ok]at Y
    refine cI cf.eq_1 hq.eq_1 ⟨?_⟩
    refine bE _ _ _ ⟨[],0,false,i4+1,aL t0,aL t1,aL t5,aL eX,a8, ?_,λe M R=> ?_, ?_, ?_,Zo,Zj _,Y⟩
    ·simp(disch:=omega) only[aB];exact uQ
    ·simp(disch:=omega) only[aB];exact ft e M R
    ·exact h8.aa (zy) (zy)
    ·exact⟨Zo,λb ag bV=>by rw[<-Ul.aa b ag bV];exact zy⟩
  ·clear Y ag2 h8 Ul er uQ ft eB tC el m1 As t0 t1 t5 eX hG
   rintro I bZ dy ⟨on,et,no,iw,t0,t1,t5,eX,t8,tC,c3,hV,eB,aFF,Pu,Y⟩
   have tZ:=oz.aa (S':=bZ) (λe B=>c3 e (Ay e B).1 (zs (Ay e B)))
   have agR:=agQ.aa (S':=bZ) (λe B=>c3 e (zs (fP e B)) (zs (fP e B)))
   clear oz agQ
   obtain⟨NW,cB⟩:=agR.qZ Zd (ajT cn) (by simp only[Zi];omega) (P:=λe=>aO<=e/\e<aZ) fP
   have fg:=cB.len
   rw[Zi]at fg
   refine Ez @eX @fg ⟨?_⟩
   have CM:=fg
   refine iR (λI S' aN=>∃(eJ:D) (gf:List Nat),I.g 0=some (.ptr aH 0)/\I.g 1=some (.bool loc)/\I.g 5=some eJ/\gk X S' eJ 8 ((ds++cn.map (qx t.ty on et no)).map d2).flatten gf/\(∀e∈gf,j<=e/\e<aN)/\aT X S' aH bP aW iw/\cg X [aH] h j S' aN/\dy<=aN) (λS bE=> ?_) ?_
   ·refine fh (λaid I S' aN=>∃(z:Nat) (eJ:D) (gf:List Nat) (nm:aY) (Hl:Int),aid=cn.length-z/\z<=cn.length/\I.g 0=some (.ptr aH 0)/\I.g 1=some (.bool loc)/\I.g 5=some eJ/\I.g 8=some (.ptr bX 0)/\I.g 52=some q1/\I.g 53=some (.Z (cn.length:Int))/\I.g 54=some (.Z (z:Int))/\U X S' bX=zw (d2 ⟨nm,Hl,t.ty,on,et,no⟩) 8/\
     gk X S' eJ 8 ((ds++(cn.take z).map (qx t.ty on et no)).map d2).flatten gf/\(∀e∈gf,(e∈cq\/dy<=e)/\e<aN)/\(∀e,aO<=e->e<aZ->U X S' e=U X bZ e)/\aT X S' aH bP aW iw/\cg X [aH] h j S' aN/\dy<=aN)
     cn.length ⟨0,s,cq,[],0,Zo,Zo,aL t0,aL t1,aL t5,aL t8,a8,a8,fq,tC,by simpa using tZ,λe B=>⟨.inl B,zs (Ay e B)⟩,λ_ _ _=>rfl,hV,eB,Zj _⟩ ?_
    rintro aid I ci dV ⟨z,eJ,gf,nm,Hl,rfl,sD,t0,t1,t5,t8,yF,q2,kO,uQ,Fh,xZ,ahC,h8,er,nj⟩
    refine Ez @q2 @kO ⟨?_⟩
    refine gi ?_
    refine BS (λcZ=> ?_) (λcZ=> ?_)
    ·have cZ:z<cn.length:=Zo
     have afM:=cB.fx z (by simpa using cZ)
     have VM:=(cB.aa (S':=ci) (λe B=>ahC e B.1 B.2)).row Zd (i:=z) (r:=cf cn[z]) (by rw[Zu,Ze cZ];rfl)
     have PZ:cn.take (z+1)=cn.take z++[cn[z]]:=List.take_succ_eq_append_getElem cZ
     generalize cn[z]=bm at VM PZ
     have BR:∀e∈gf,j<=e/\e≠bX/\¬(aO<=e/\e<aZ)/\e<dV:=λe B=>by
      obtain⟨M,R⟩:=xZ e B
      rcases M with M|M
      ·have:=Ay e M;have:=eC e M;exact⟨Zo,Zo,Zo,Zo⟩
      ·exact⟨Zo,Zo,Zo,Zo⟩
     unfold d2 at uQ
     refine d9 @yF @kO @afM @VM cf.eq_1 @t8 @uQ ⟨?_⟩
     refine f4 (oI _ _) ?_
     refine d9 @yF @kO @afM @VM cf.eq_1 @t8 (Za @uQ @t5) ⟨?_⟩
     generalize Cl:bj X _ (dV+1+8) _=dt
     have lH:U X dt (dV+1+8)=zw (d2 (qx t.ty on et no bm)) 8:=by rw[<-Cl,a7 Zo];rfl
     have HL:U X dt bX=zw (d2 (qx t.ty on et no bm)) 8:=by rw[<-Cl];simp(disch:=omega) only[aB,a7]<;>rfl
     have hg:∀e,e<dV->e≠bX->U X dt e=U X ci e:=λe M R=>by rw[<-Cl];exact zy
     clear Cl
     have kH:lu X dt 8 (.slice (dV+1+8) 0 1 1)=some (1,d2 (qx t.ty on et no bm)):=rT lH (l8 _) rfl _
     have d0:(ds++(cn.take z).map (qx t.ty on et no)).length<=100000:=by
      simp only[ZH,Zi,YZ];omega
     obtain⟨j0,sf,xx,ii,agJ,auB,afQ⟩:=(Fh.aa (S':=dt) (λe B=>hg e (BR e B).2.2.2 (BR e B).2.1)).append (j:=dV+1+8+1) Zd kH rfl Zd rfl (by rw[Od];simp only[d2,ZF,Z5];omega) Zo (λe B=>zs (BR e B))
     refine kb ii ?_
     have wG:∀e,e<dV->e≠bX->e∉gf->U X sf e=U X ci e:=λe M R ak=>by rw[afQ e Zo ak,hg e M R]
     have bz:=zx z
     have e9:((ds++(cn.take z).map (qx t.ty on et no)).map d2).flatten++d2 (qx t.ty on et no bm)=((ds++(cn.take (z+1)).map (qx t.ty on et no)).map d2).flatten:=by rw[PZ];simp
     rw[e9]at agJ
     refine cI @kO @bz ⟨?_⟩
     refine⟨cn.length-(z+1),Zo,z+1,j0,xx,bm.text,bm.at_,rfl,Zo,aL t0,aL t1,a8,aL t8,aL yF,aL q2,a8, ?_, .inl agJ, ?_, ?_, ?_, ?_,Zo⟩
     ·rw[afQ _ Zo (λa=>(BR _ a).2.1 rfl)];exact HL
     ·intro e B
      rcases auB e B with rfl|a
      ·exact⟨.inr Zo,Zo⟩
      ·have:=xZ e a;exact⟨this.1,Zo⟩
     ·intro e M R
      rw[wG e Zo Zo (λa=>(BR e a).2.2.1 ⟨M,R⟩)]
      exact ahC e M R
     ·exact h8.aa (wG _ Zo Zo (λa=>zs (BR _ a))) (wG _ Zo Zo (λa=>zs (BR _ a)))
     ·exact⟨Zo,λb ag bV=>by rw[wG b Zo Zo (λa=>zs (BR _ a))];exact er.aa b ag bV⟩
    ·have x7:z=cn.length:=Zo
     subst x7
     rw[Y0]at Fh
     refine cx ⟨?_⟩
     exact bE _ _ _ ⟨eJ,gf,aL t0,aL t1,aL t5,Fh,λe B=>by
      obtain⟨M,R⟩:=xZ e B
      rcases M with M|M
      ·have:=Ay e M;omega
      ·omega,h8,er,nj⟩
   ·clear tZ agR tC c3 t0 t1 t5 eX t8 hV eB cB fg
    rintro I ci dV ⟨eJ,gf,t0,t1,t5,Fh,xZ,h8,er,nj⟩
    have afY:(ds++cn.map (qx t.ty on et no)).length+(aW.drop iw).length<=aW.length:=by simp only[ZH,Zi];omega
    generalize ds++cn.map (qx t.ty on et no)=Kx at Fh Y afY
    have fin:∀(S':Q af) (aN:Nat),(∀e,e<dV->e≠aH->U X S' e=U X ci e)->dV<=aN->r= .ok (Kx,aW.drop iw)->aT X S' aH bP aW iw->∃ds cD b,r= .ok (ds,aW.drop cD)/\dL X S' (dr j aN) b eJ 8 (ds.map d2)/\aT X S' aH bP aW cD/\cg X [aH] h j S' aN:=by
     intro S' aN M R ak aA
     obtain⟨b,cB⟩:=(Fh.aa (S':=S') (λe B=>M e (xZ e B).2 (zs (xZ e B)))).qZ Zd (Tg Kx) (by simp only[Zi];omega) (P:=dr j aN) (λe B=>⟨(xZ e B).1,zs (xZ e B)⟩)
     exact⟨Kx,iw,b,ak,cB,aA,Zo,λb ag bV=>by rw[M b Zo (by simpa using bV)];exact er.aa b ag bV⟩
    refine cd @t0 ⟨?_⟩
    obtain⟨GV,pi,sA⟩:∃GV pi,aW.drop iw=GV::pi:=by
     cases a:aW.drop iw with
     |nil=>rw[a]at Y;simp[mJ,Bi]at Y
     |cons w g3=>exact⟨w,g3,rfl⟩
    refine eN (λdk=>dk=ci) rfl ?_
    rintro dk rfl
    refine(sW au Zo h8 Zo Zo (fZ sA).1).Zm ?_
    rintro u8 dt fc ⟨rfl,gT⟩
    have pc:=gT.le
    have nk:=h8.aa (gT.aa _ Zo) (gT.aa _ Zo)
    rw[sA]at Y
    simp only[mJ,Bi]at Y
    by_cases PT:GV.text=[59]
    ·rw[Zr PT]at Y
     have cT:decide (GV.text≠[59])=false:=by simp[PT]
     have aeo:jD m loc Kx (aW.drop (iw+1))=some r->∀(I:cV) (gX:Q af),I.g 0=some (.ptr aH 0)->I.g 1=some (.bool loc)->I.g 5=some eJ->(∀e,e<fc->e≠aH->U X gX e=U X dt e)->aT X gX aH bP aW (iw+1)->
      ∃gN,gN<m+1/\∃s ds cq cD,NC X aH bP aW j h loc I gX fc s ds cq cD/\ds.length+(aW.drop cD).length<=aW.length/\jD gN loc ds (aW.drop cD)=some r:=by
      intro hz I gX t0 t1 t5 aJ awf
      refine⟨m,Zo,eJ,Kx,gf,iw+1,⟨t0,t1,t5,Fh.aa (λe B=> ?_),λe B=>zs (xZ e B),awf,Zo,λb ag bV=> ?_⟩, ?_,hz⟩
      ·have:=xZ e B
       rw[aJ e Zo Zo,gT.aa e Zo]
      ·rw[aJ b Zo (by simpa using bV),gT.aa b Zo];exact er.aa b ag bV
      ·simp only[Yx]at afY ⊢;omega
     obtain⟨c,ao,bb,b5,a3,a4⟩:=nk.at_
     have Wf:=ks bb a3
     have ahA:=ks bb b5
     have l5:=(Zc.1 (fZ sA).1).1
     have dQ:=nk.ne
     have bz:=zx iw
     have aiV:∀gX,gX=bj X dt aH (some (.cells (dS c 1 [.Z ((iw+1:Nat):Int)]) 2 .own))->aT X gX aH bP aW (iw+1):=by
      rintro gX rfl
      refine nk.on (c:=dS c 1 [.Z ((iw+1:Nat):Int)]) (a7 Zo) (λdB st a=>by rw[bb]at a;cases a;exact r1 ..) (aB Zo Zo)
     cases loc with
     |false=>
      simp only[Zy,ZD]at Y
      have iE:(GV::pi).drop 1=aW.drop (iw+1):=by rw[(fZ sA).2];rfl
      rw[iE]at Y
      refine d9 cf.eq_1 @cT @t1 @t0 @Wf @bz @bb ⟨?_⟩
      exact aeo Y _ _ (aL t0) (aL t1) (aL t5) (λe M R=>aB Zo R) (aiV _ rfl)
     |true=>
      simp only[ZE]at Y
      obtain⟨qk,p1,Ia⟩:∃qk p1,pi=qk::p1:=by
       cases pi with
       |nil=>simp[Bi]at Y
       |cons w g3=>exact⟨w,g3,rfl⟩
      subst Ia
      simp only[Bi]at Y
      have ch:aW[iw+1]? =some qk:=(fZ (fZ sA).2).1
      have II:=(Zc.1 ch).1
      have afO:=a4.fx (iw+1) (by rw[Zi];exact II)
      have afl:aP X dt (.ptr bP ((iw+1)*7+1))=some (.str qk.text):=a4.cell (iw+1) (cf qk) 1 _ (by rw[Zu,ch];rfl) rfl
      by_cases Pw:qk.text=[108,101,116]
      ·rw[Zr Pw]at Y
       simp only[ok,Zf]at Y
       have cy:decide (qk.text=[108,101,116])=true:=by simp[Pw]
       refine d9 cf.eq_1 @cT @t1 @t0 @ahA @Wf (Za @bz (Za @afO (Za @afl (Za @cy @t5)))) ⟨?_⟩
       exact fin _ _ (λe M R=>gT.aa e Zo) Zo (by rw[<-Y,sA]) nk
      ·rw[Zh Pw]at Y
       have cy:decide (qk.text=[108,101,116])=false:=by simp[Pw]
       have iE:(GV::qk::p1).drop 1=aW.drop (iw+1):=by rw[(fZ sA).2];rfl
       rw[iE]at Y
       refine d9 cf.eq_1 @cT @t1 @t0 @ahA @Wf (Za @bz (Za @afO (Za @afl (Za @cy @bb)))) ⟨?_⟩
       exact aeo Y _ _ (aL t0) (aL t1) (aL t5) (λe M R=>aB Zo R) (aiV _ rfl)
    ·rw[Zh PT]at Y
     simp only[ok,Zf]at Y
     have cT:decide (GV.text≠[59])=true:=by simp[PT]
     refine dI cf.eq_1 @cT @t5 ⟨?_⟩
     exact fin _ _ (λe M R=>gT.aa e Zo) Zo (by rw[<-Y,sA]) nk
end
def kt{v w:D}(a:gz v=some w):v.cells=[v]/\qV v=true/\D.same 30 v v=true:=by
 cases v with
 |slice b W n c=>exact⟨rfl,rfl,by simp[D.same]⟩
 |fj b W n c=>exact⟨rfl,rfl,by simp[D.same]⟩
 |aV=>exact⟨rfl,rfl,rfl⟩
 |_=>simp[gz]at a
def pv(X:cl)(h:Q af):(Nat->Prop)->List gt->List (List D)->Prop
 |_,[],bK=>bK=[]
 |P,aj::c9,bK=>∃row ib bu,bK=row::ib/\(∀e,bu e->P e)/\yR X h bu aj row/\pv X h (λe=>P e/\¬bu e) c9 ib
def pv.aa{X:cl}{h S':Q af}:∀{c9:List gt}{bK:List (List D)}{P bu:Nat->Prop}(z:∀e,P e->U X S' e=U X h e) (aC:∀e,P e->bu e),pv X h P c9 bK->pv X S' bu c9 bK:=by
 intro c9
 induction c9 with
 |nil=>intro bK P bu z aC a;exact a
 |cons aj c9 ai=>
  rintro bK P bu z aC ⟨row,ib,eM,M,b0,R,ak⟩
  exact⟨row,ib,eM,M,λe B=>aC e (b0 e B),R.aa (λe B=>z e (b0 e B)) (λe B=>B),ai (λe B=>z e B.1) (λe B=>⟨aC e B.1,B.2⟩) ak⟩
def pv.snoc{X:cl}{h:Q af}{bu:Nat->Prop}{aj:gt}{row:List D}(a:yR X h bu aj row):∀{c9:List gt}{bK:List (List D)}{pA P:Nat->Prop},pv X h pA c9 bK->(∀e,pA e->P e)->(∀e,bu e->P e/\¬pA e)->pv X h P (c9++[aj]) (bK++[row]):=by
 intro c9
 induction c9 with
 |nil=>rintro bK pA P rfl M R;exact⟨row,[],bu,rfl,λe B=>(R e B).1,a,rfl⟩
 |cons H c9 ai=>
  rintro bK pA P ⟨uo,ib,eM,rfl,b0,ak,aA⟩ M R
  exact⟨uo,ib++[row],eM,rfl,λe B=>M e (b0 e B),ak,ai aA (λe B=>⟨M e B.1,B.2⟩) (λe B=>⟨⟨(R e B).1,λjV=>(R e B).2 (b0 e jV)⟩,λpW=>(R e B).2 pW.1⟩)⟩
def yR.len{X:cl}{h:Q af}{P:Nat->Prop}{aj:gt}{row:List D}(a:yR X h P aj row):row.length=4:=by
 obtain⟨_,_,_,_,_,rfl,_⟩:=a;rfl
def pv.wide{X:cl}{h:Q af}:∀{c9:List gt}{bK:List (List D)}{P:Nat->Prop},pv X h P c9 bK->bK.length=c9.length/\∀r∈bK,r.length=4:=by
 intro c9
 induction c9 with
 |nil=>rintro bK P rfl;simp
 |cons H c9 ai=>
  rintro bK P ⟨uo,ib,eM,rfl,b0,R,ak⟩
  obtain⟨aA,bv⟩:=ai ak
  refine⟨by simp[aA],λr Y=> ?_⟩
  rcases Zt.1 Y with rfl|Y
  ·exact R.len
  ·exact bv r Y
def oR(X:cl)(h:Q af)(P:Nat->Prop)(g:Go.aT.Node)(row:List D):Prop:=∃c7 dv aS eH bY co cY fM bK,row=[.str g.name, .Z g.at_,c7,dv,aS,eH]/\dL X h P bY c7 8 (g.d4.map d2)/\dL X h P co dv 8 (g.out.map d2)/\dL X h P cY aS 8 (g.loc.map d2)/\dL X h P fM eH 4 bK/\pv X h P g.eqs bK
structure uB(X:cl)(h:Q af)(n gH:Nat)(nm:aY)(H:Int)(c7 dv aS:D)(d4 out loc:List eF):Prop where
 nM:U X h gH=zw [.str nm, .Z H,c7,dv,aS, .aV] 6
 lt:gH<n
 fd:∃b,dL X h (dr (gH+1) n) b c7 8 (d4.map d2)
 fX:∃b,dL X h (dr (gH+1) n) b dv 8 (out.map d2)
 hZ:∃b,dL X h (dr (gH+1) n) b aS 8 (loc.map d2)
def uB.aa{X:cl}{h S':Q af}{n aN gH:Nat}{nm:aY}{H:Int}{c7 dv aS:D}{d4 out loc:List eF}(a:uB X h n gH nm H c7 dv aS d4 out loc)(z:∀e,gH<=e->e<n->U X S' e=U X h e)(aE:n<=aN):uB X S' aN gH nm H c7 dv aS d4 out loc:=by
 have ej:∀e,dr (gH+1) n e->U X S' e=U X h e:=λe B=>z e (zs B.1) B.2
 have WD:∀e,dr (gH+1) n e->dr (gH+1) aN e:=λe B=>⟨B.1,zs B.2⟩
 obtain⟨bY,M⟩:=a.fd
 obtain⟨co,R⟩:=a.fX
 obtain⟨cY,ak⟩:=a.hZ
 exact⟨by rw[z gH (Zj _) a.lt];exact a.nM,zs a.lt,⟨bY,(M.aa ej).lift WD⟩,⟨co,(R.aa ej).lift WD⟩,⟨cY,(ak.aa ej).lift WD⟩⟩
section
variable{X:cl}{h S' aI aM:Q af}{j an aO aZ aH bP:Nat}{aW:List Tok}{i:Nat}
def uB.fr{n aN gH:Nat}{nm:aY}{H:Int}{c7 dv aS:D}{d4 out loc:List eF}(a:uB X h n gH nm H c7 dv aS d4 out loc)(gL:cg X [aH] h n S' aN)(ag:aH<gH):uB X S' aN gH nm H c7 dv aS d4 out loc:=
 a.aa (λe M R=>gL.aa e R Zx) gL.le
def aEb{jw j0:aY}{l:List Tok}:s4 [jw,j0] hq l=andThen (eL jw l) λ_ l=>eL j0 l:=by
 simp only[s4]
 cases a:eL jw l with
 |none=>rfl
 |some r=>
  cases r with
  |error H=>rfl
  |ok p=>
   obtain⟨x,ce⟩:=p
   simp only[andThen]
   cases eL j0 ce with
   |none=>rfl
   |some fX=>cases fX with
    |error H=>rfl
    |ok p=>obtain⟨e,cR⟩:=p;rfl
def azY(au:dj X)(d6:xh X){n:Nat}(tU:n<=200000)(kJ:aW.length<=100000)(aw:iZ X h j aH bP aW i){r:Except Int (Go.aT.Node×List Tok)}(Y:Go.aT.node n (aW.drop i)=some r):
 aU X 45 [.ptr aH 0] h j (λac S' an=>∃g cD row,r= .ok (g,aW.drop cD)/\ac= .agg row/\oR X S' (dr j an) g row/\aT X S' aH bP aW cD/\cg X [aH] h j S' an) (jk X aH h j r):=by
 refine zz au (am8 X) ?_
 rw[am9]
 unfold aa2
 have he:=aw.a2
 have kD:=aw.hL
 have is:=aw.b3
 have j4:=aw.hn
 unfold Go.aT.node at Y
 refine cx ⟨?_⟩
 refine eN (λaI=>U X aI (j+1)=zw [.str [110,111,100,101]] 1/\U X aI j=zw [.str [], .Z 0, .aV, .aV, .aV, .aV] 6/\ba X h j aI (j+1+1)) ⟨a7 Zo,by simp(disch:=omega) only[aB,a7]<;>rfl,dz⟩ ?_
 rintro aI ⟨am,rp,bH⟩
 have nv:=aw.go (aw.par.ex bH Zo Zo) (by omega:j<=j+1+1)
 have iC:cg X [aH] h j aI (j+1+1):=cg.of bH
 rcases gR Y with ⟨H,R,rfl⟩|⟨h2,cR,R,Y⟩
 ·exact(j1 au nv Zo Zo am R).mono (λac S' an a=>by obtain⟨E,cD,a,_⟩:=a;cases a) (λac S' an a=>a.of iC (λ_ a=>by cases a;rfl))
 refine(j1 au nv Zo Zo am R).mono ?_ (λac S' an a=>by obtain⟨H,a,_⟩:=a;cases a)
 clear R
 rintro kx aM aZ ⟨aHb,gU,Ll,_,dF,dx⟩
 cases Ll
 have fJ:=dx.le
 have xU:=iC.trans dx
 have vZ:U X aM j=zw [.str [], .Z 0, .aV, .aV, .aV, .aV] 6:=by rw[dx.aa _ Zo Zx];exact rp
 have f2:=aw.go dF xU.le
 clear am rp bH nv iC dx
 cases u1:aW.drop gU with
 |nil=>rw[u1]at Y;simp[je,andThen]at Y
 |cons x eQ=>
 rw[u1]at Y
 simp only[je]at Y
 refine(Dg au f2.a2 f2.par f2.b3 f2.hL f2.hn f2.many (fZ u1).1 1).mono ?_ (λvs bM bX a=>by
  obtain⟨aJ,rfl,dH⟩:=a
  rw[Zh aJ]at Y
  simp only[andThen,bad,Zf]at Y
  subst Y
  exact⟨_,rfl,rfl,xU.trans dH⟩)
 rintro w8 a1 bi ⟨aJ,rfl,g1,eh⟩
 have iO:=eh.le
 rw[Zr aJ]at Y
 simp only[andThen,ok]at Y
 rw[<-(fZ u1).2]at Y
 have uS:U X a1 j=zw [.str [], .Z 0, .aV, .aV, .aV, .aV] 6:=by rw[eh.aa _ Zo Zx];exact vZ
 have HZ:=xU.trans eh
 clear vZ eh xU dF f2
 refine cd cf.eq_1 ⟨?_⟩
 refine eN (λbA=>U X bA (bi+1+1)=zw [.str [40]] 1/\uB X bA (bi+1+1+1) (bi+1) x.text x.at_ .aV .aV .aV [] [] []/\ba X a1 bi bA (bi+1+1+1)) ⟨a7 Zo,⟨by simp(disch:=omega) only[aB,a7]<;>rfl,Zo,⟨0,dL.nil _ _⟩,⟨0,dL.nil _ _⟩,⟨0,dL.nil _ _⟩⟩,dz⟩ ?_
 rintro bA ⟨EA,aiq,c0⟩
 have An:U X bA j=zw [.str [], .Z 0, .aV, .aV, .aV, .aV] 6:=by rw[c0.aa _ Zo];exact uS
 have eG:=HZ.trans (cg.of c0)
 have lq:=aw.go (g1.ex c0 Zo Zo) (by omega:j<=bi+1+1+1)
 clear uS HZ g1 c0
 change andThen (eL [40] (aW.drop (gU+1))) _=some r at Y
 rcases gR Y with ⟨H,R,rfl⟩|⟨h2,cR,R,Y⟩
 ·exact(j1 au lq Zo Zo EA R).mono (λac S' an a=>by obtain⟨E,cD,a,_⟩:=a;cases a) (λac S' an a=>a.of eG (λ_ a=>by cases a;rfl))
 refine(j1 au lq Zo Zo EA R).mono ?_ (λac S' an a=>by obtain⟨H,a,_⟩:=a;cases a)
 clear R
 rintro v5 bM bX ⟨aHc,i5,tO,_,hG,dH⟩
 cases tO
 have ik:=dH.le
 have air:=aiq.fr dH Zo
 have HN:U X bM j=zw [.str [], .Z 0, .aV, .aV, .aV, .aV] 6:=by rw[dH.aa _ Zo Zx];exact An
 have As:=eG.trans dH
 have pn:=aw.go hG As.le
 clear aiq An eG dH EA lq
 obtain⟨e,ma,Lj,L3⟩:=rX Y
 refine(oJ au pn Lj _).Zm ?_
 rintro aj0 bZ dy ⟨rfl,hV,eB⟩
 have pb:=eB.le
 have Qz:=air.fr eB Zo
 have Cc:U X bZ j=zw [.str [], .Z 0, .aV, .aV, .aV, .aV] 6:=by rw[eB.aa _ Zo Zx];exact HN
 have v7:=As.trans eB
 clear air HN As eB hG pn
 refine oj cf.eq_1 ⟨?_⟩
 refine iR (λI S' aN=>∃(c7:D) (d4:List eF) (cD:Nat),I.g 0=some (.ptr aH 0)/\I.g 2=some (.ptr j 0)/\I.g 4=some (.ptr (bi+1) 0)/\uB X S' aN (bi+1) x.text x.at_ c7 .aV .aV d4 [] []/\U X S' j=zw [.str [], .Z 0, .aV, .aV, .aV, .aV] 6/\aT X S' aH bP aW cD/\cg X [aH] h j S' aN/\
  (andThen (eL [114,101,116,117,114,110,115] (aW.drop cD)) λ_ l=>andThen (eL [40] l) λ_ l=>andThen (jD n false [] l) λout l=>andThen (eL [41] l) λ_ l=>
   iI [118,97,114] l λe l=>andThen (match e with
    |some _=>andThen (jD n true [] l) λds l=>andThen (eL [59] l) λ_ l=>ok ds l
    |none=>ok [] l) λloc l=>
   andThen (eL [108,101,116] l) λ_ l=>andThen (mu n [] l) λc9 l=>ok (⟨x.text,x.at_,d4,out,loc,c9⟩:Go.aT.Node) l)=some r) (λS bE=> ?_) ?_
 ·rcases L3 with ⟨aD,Y⟩|⟨aD,Y⟩
  ·rw[aD]at hV ⊢
   simp only[ZE]at hV ⊢
   rw[<-(fZ Lj).2]at Y
   simp only[andThen,ok]at Y
   refine cd cf.eq_1 ⟨?_⟩
   refine bE _ _ _ ⟨.aV,[],i5+1,a8,a8,a8,Qz.aa (λe M R=>zy) Zo,by simp(disch:=omega) only[aB];exact Cc,hV.aa (zy) (zy), ?_,Y⟩
   exact⟨Zo,λb ag bV=>by rw[<-v7.aa b ag bV];exact zy⟩
  ·rw[aD]at hV ⊢
   simp only[Zy,ZD]at hV ⊢
   simp only[]at Y
   refine cI cf.eq_1 hq.eq_1 ⟨?_⟩
   refine eN (λci=>ba X bZ dy ci (dy+1)) dz ?_
   intro ci ez
   have FW:=Qz.fr (cg.of (X:=[aH]) ez) Zo
   have Ao:U X ci j=zw [.str [], .Z 0, .aV, .aV, .aV, .aV] 6:=by rw[ez.aa _ Zo];exact Cc
   have er:=v7.trans (cg.of ez)
   have nY:=aw.go (hV.ex ez Zo Zo) (by omega:j<=dy+1)
   clear Qz Cc v7 hV ez
   rcases gR Y with ⟨H,aG,rfl⟩|⟨d4,ayR,aG,Y⟩
   ·rcases gR aG with ⟨fL,R,ak⟩|⟨ds,pi,R,aG⟩
    ·cases ak
     exact(Hz au kJ nY R).mono (λac S' an a=>by obtain⟨E,cD,b,a,_⟩:=a;cases a) (λac S' an a=>a.of er (λ_ a=>by cases a;rfl))
    refine(Hz au kJ nY R).mono ?_ (λac S' an a=>by obtain⟨H,a,_⟩:=a;cases a)
    rintro JH dk hH ⟨ari,i8,sn,EU,Fb,yd,g0⟩
    cases EU
    have x8:=g0.le
    have I6:=FW.fr g0 Zo
    obtain⟨g9,nt,sZ⟩:=kt Fb.len
    refine cx ⟨?_⟩
    have Am:=I6.nM
    refine f8 (us (W:=2) Am Zo Zo g9 nt) ?_
    refine cx ⟨?_⟩
    refine eN (λdt=>U X dt hH=zw [.str [41]] 1/\∀e,e<hH->e≠(bi+1)->U X dt e=U X dk e) ⟨a7 Zo,λe M R=>zy⟩ ?_
    rintro dt ⟨T1,hg⟩
    have nk:=yd.aa (hg _ Zo Zo) (hg _ Zo Zo)
    have hw:cg X [aH] h j dt (hH+1):=⟨Zo,λb ag bV=>by rw[hg b Zo Zo];exact(er.trans g0).aa b ag bV⟩
    rcases gR aG with ⟨fL,aA,bv⟩|⟨vy,p1,aA,aG⟩
    ·cases bv
     exact(j1 au (aw.go nk Zo) Zo Zo T1 aA).mono (λac S' an a=>by obtain⟨E,cD,a,_⟩:=a;cases a) (λac S' an a=>a.of hw (λ_ a=>by cases a;rfl))
    ·cases aG
   ·rcases gR aG with ⟨fL,R,ak⟩|⟨ds,pi,R,aG⟩
    ·cases ak
    refine(Hz au kJ nY R).mono ?_ (λac S' an a=>by obtain⟨H,a,_⟩:=a;cases a)
    rintro JH dk hH ⟨ari,i8,sn,EU,Fb,yd,g0⟩
    cases EU
    have x8:=g0.le
    have I6:=FW.fr g0 Zo
    obtain⟨g9,nt,sZ⟩:=kt Fb.len
    refine cx ⟨?_⟩
    have Am:=I6.nM
    refine f8 (us (W:=2) Am Zo Zo g9 nt) ?_
    refine cx ⟨?_⟩
    refine eN (λdt=>U X dt hH=zw [.str [41]] 1/\U X dt (bi+1)=zw [.str x.text, .Z x.at_,JH, .aV, .aV, .aV] 6/\∀e,e<hH->e≠(bi+1)->U X dt e=U X dk e) ⟨a7 Zo,by rw[aB Zo Zo,a7 Zo];rfl,λe M R=>zy⟩ ?_
    rintro dt ⟨T1,HL,hg⟩
    have nk:=yd.aa (hg _ Zo Zo) (hg _ Zo Zo)
    have hw:cg X [aH] h j dt (hH+1):=⟨Zo,λb ag bV=>by rw[hg b Zo Zo];exact(er.trans g0).aa b ag bV⟩
    have aFS:=FW.lt
    have MD:uB X dt (hH+1) (bi+1) x.text x.at_ JH .aV .aV _ [] []:=⟨HL,Zo,⟨sn,(Fb.aa (λe B=>hg e B.2 (zs B.1))).lift (λe B=>⟨zs B.1,zs B.2⟩)⟩,⟨0,dL.nil _ _⟩,⟨0,dL.nil _ _⟩⟩
    have xQ:U X dt j=zw [.str [], .Z 0, .aV, .aV, .aV, .aV] 6:=by rw[hg _ Zo Zo,g0.aa _ Zo Zx];exact Ao
    rcases gR aG with ⟨fL,aA,bv⟩|⟨vy,p1,aA,aG⟩
    ·cases bv
    refine(j1 au (aw.go nk Zo) Zo Zo T1 aA).mono ?_ (λac S' an a=>by obtain⟨H,a,_⟩:=a;cases a)
    rintro vt sf I3 ⟨RB,ag7,UO,_,Iu,uW⟩
    cases UO
    cases aG
    exact bE _ _ _ ⟨JH,_,ag7,a8,a8,a8,MD.fr uW Zo,by rw[uW.aa _ Zo Zx];exact xQ,Iu,hw.trans uW,Y⟩
 ·clear L3 hV Qz Cc v7 Y
  rintro I ci dV ⟨c7,d4,pX,t0,eK,t4,FW,Ao,h8,er,Y⟩
  have Vh:=FW.lt
  refine cd @t0 ⟨?_⟩
  refine eN (λdk=>U X dk dV=zw [.str [114,101,116,117,114,110,115], .str [40]] 2/\ba X ci dV dk (dV+1)) ⟨a7 Zo,dz⟩ ?_
  rintro dk ⟨EC,gK⟩
  have I6:=FW.fr (cg.of (X:=[aH]) gK) Zo
  have OJ:U X dk j=zw [.str [], .Z 0, .aV, .aV, .aV, .aV] 6:=by rw[gK.aa _ Zo];exact Ao
  have g0:=er.trans (cg.of gK)
  have uk:=aw.go (h8.ex gK Zo Zo) (by omega:j<=dV+1)
  clear FW Ao er h8 gK
  have Fb:dL X dk (λe=>e=dV) dV (.slice dV 0 2 2) 1 (e3 [[114,101,116,117,114,110,115],[40]]):=Jm (bK:=[[.str [114,101,116,117,114,110,115]],[.str [40]]]) (st:= .own) EC rfl Zs Zd rfl
  have bs:∃Bc,s4 [[114,101,116,117,114,110,115],[40]] hq (aW.drop pX)=some Bc/\andThen (some Bc) (λ(_:Tok) l=>andThen (jD n false [] l) λout l=>andThen (eL [41] l) λ_ l=>
   iI [118,97,114] l λe l=>andThen (match e with
    |some _=>andThen (jD n true [] l) λds l=>andThen (eL [59] l) λ_ l=>ok ds l
    |none=>ok [] l) λloc l=>
   andThen (eL [108,101,116] l) λ_ l=>andThen (mu n [] l) λc9 l=>ok (⟨x.text,x.at_,d4,out,loc,c9⟩:Go.aT.Node) l)=some r:=by
   rw[aEb]
   rcases gR Y with ⟨H,M,rfl⟩|⟨bb,eo,M,Y⟩
   ·exact⟨.error H,by rw[M];rfl,rfl⟩
   ·rcases gR Y with ⟨H,R,rfl⟩|⟨b5,cR,R,Y⟩
    ·exact⟨.error H,by rw[M];exact R,rfl⟩
    ·exact⟨.ok (b5,cR),by rw[M];exact R,Y⟩
  clear Y
  obtain⟨Bc,bs,Y⟩:=bs
  refine(akf au uk.a2 uk.par uk.b3 uk.hL uk.hn uk.many Zo Zo Fb bs).mono ?_ (λac S' an a=>by
   obtain⟨H,rfl,rfl,a⟩:=a
   simp only[andThen,Zf]at Y
   subst Y
   exact⟨H,rfl,rfl,g0.trans a⟩)
  rintro v9 dt fc ⟨vy,i9,rfl,_,nk,hw⟩
  change andThen (jD n false [] (aW.drop i9)) _=some r at Y
  have pc:=hw.le
  have MD:=I6.fr hw Zo
  have xQ:U X dt j=zw [.str [], .Z 0, .aV, .aV, .aV, .aV] 6:=by rw[hw.aa _ Zo Zx];exact OJ
  have Cg:=g0.trans hw
  have Xb:=aw.go nk Cg.le
  clear I6 OJ g0 hw Fb EC uk bs nk
  refine cd @t0 ⟨?_⟩
  rcases gR Y with ⟨H,R,rfl⟩|⟨out,aGt,R,Y⟩
  ·exact(Hz au kJ Xb R).mono (λac S' an a=>by obtain⟨E,cD,b,a,_⟩:=a;cases a) (λac S' an a=>a.of Cg (λ_ a=>by cases a;rfl))
  refine(Hz au kJ Xb R).mono ?_ (λac S' an a=>by obtain⟨H,a,_⟩:=a;cases a)
  clear R
  rintro vt sf I3 ⟨out,ag7,Sy,UO,VI,Iu,uW⟩
  cases UO
  have avA:=uW.le
  have WV:=MD.fr uW Zo
  have aeq:U X sf j=zw [.str [], .Z 0, .aV, .aV, .aV, .aV] 6:=by rw[uW.aa _ Zo Zx];exact xQ
  have aeR:=Cg.trans uW
  obtain⟨g9,nt,sZ⟩:=kt VI.len
  have aFG:=MD.lt
  refine cd @t4 ⟨?_⟩
  refine f8 (us (W:=3) WV.nM Zo Zo g9 nt) ?_
  refine cd @t0 ⟨?_⟩
  refine eN (λsg=>U X sg I3=zw [.str [41]] 1/\U X sg (bi+1)=zw [.str x.text, .Z x.at_,c7,vt, .aV, .aV] 6/\∀e,e<I3->e≠bi+1->U X sg e=U X sf e) ⟨a7 Zo,by rw[aB Zo Zo,a7 Zo];rfl,λe M R=>zy⟩ ?_
  rintro sg ⟨TY,HK,Fy⟩
  have LI:=Iu.aa (Fy _ Zo Zo) (Fy _ Zo Zo)
  have xT:cg X [aH] h j sg (I3+1):=⟨Zo,λb ag bV=>by rw[Fy b Zo Zo];exact aeR.aa b ag bV⟩
  have aip:uB X sg (I3+1) (bi+1) x.text x.at_ c7 vt .aV d4 out []:=by
   obtain⟨Kj,AK⟩:=WV.fd
   exact⟨HK,Zo,⟨Kj,(AK.aa (λe B=>Fy e B.2 (zs B.1))).lift (λe B=>⟨B.1,zs B.2⟩)⟩,⟨Sy,(VI.aa (λe B=>Fy e B.2 (zs B.1))).lift (λe B=>⟨zs B.1,zs B.2⟩)⟩,⟨0,dL.nil _ _⟩⟩
  have aer:U X sg j=zw [.str [], .Z 0, .aV, .aV, .aV, .aV] 6:=by rw[Fy _ Zo Zo];exact aeq
  clear MD WV xQ aeq Cg uW aeR VI Iu Fy HK Xb
  rcases gR Y with ⟨H,aA,rfl⟩|⟨aG6,aGu,aA,Y⟩
  ·exact(j1 au (aw.go LI Zo) Zo Zo TY aA).mono (λac S' an a=>by obtain⟨E,cD,a,_⟩:=a;cases a) (λac S' an a=>a.of xT (λ_ a=>by cases a;rfl))
  refine(j1 au (aw.go LI Zo) Zo Zo TY aA).mono ?_ (λac S' an a=>by obtain⟨H,a,_⟩:=a;cases a)
  clear aA
  rintro aG2 aoU aGD ⟨aG7,ag8,auU,_,agr,K2⟩
  cases auU
  have aFj:=K2.le
  have WW:=aip.fr K2 Zo
  have aes:U X aoU j=zw [.str [], .Z 0, .aV, .aV, .aV, .aV] 6:=by rw[K2.aa _ Zo Zx];exact aer
  have Ui:=xT.trans K2
  have aiW:=aw.go agr Ui.le
  clear aip aer xT K2 LI TY agr
  refine cd @t0 ⟨?_⟩
  obtain⟨e,aGv,afm,ag1⟩:=rX Y
  refine(oJ au aiW afm _).Zm ?_
  rintro aGU ab4 WR ⟨rfl,Cw,K3⟩
  have aFk:=K3.le
  have Qy:=WW.fr K3 Zo
  have OF:U X ab4 j=zw [.str [], .Z 0, .aV, .aV, .aV, .aV] 6:=by rw[K3.aa _ Zo Zx];exact aes
  have OR:=Ui.trans K3
  have aFB:=WW.lt
  clear WW aes Ui K3 aiW Y
  refine oj cf.eq_1 ⟨?_⟩
  refine iR (λI S' aN=>∃(aS:D) (loc:List eF) (cD:Nat),I.g 0=some (.ptr aH 0)/\I.g 2=some (.ptr j 0)/\I.g 4=some (.ptr (bi+1) 0)/\uB X S' aN (bi+1) x.text x.at_ c7 vt aS d4 out loc/\U X S' j=zw [.str [], .Z 0, .aV, .aV, .aV, .aV] 6/\aT X S' aH bP aW cD/\cg X [aH] h j S' aN/\
   (andThen (eL [108,101,116] (aW.drop cD)) λ_ l=>andThen (mu n [] l) λc9 l=>ok (⟨x.text,x.at_,d4,out,loc,c9⟩:Go.aT.Node) l)=some r) (λS bE=> ?_) ?_
  ·rcases ag1 with ⟨aD,Y⟩|⟨aD,Y⟩
   ·rw[aD]at Cw ⊢
    simp only[ZE]at Cw ⊢
    rw[<-(fZ afm).2]at Y
    simp only[]at Y
    refine cI cf.eq_1 @t0 ⟨?_⟩
    refine eN (λJ1=>ba X ab4 WR J1 (WR+1)) dz ?_
    intro J1 KY
    have MC:=Qy.fr (cg.of (X:=[aH]) KY) Zo
    have OG:U X J1 j=zw [.str [], .Z 0, .aV, .aV, .aV, .aV] 6:=by rw[KY.aa _ Zo];exact OF
    have K4:=OR.trans (cg.of KY)
    have aA4:=aw.go (Cw.ex KY Zo Zo) (by omega:j<=WR+1)
    clear Qy OF OR Cw KY
    have Pe:∃rd,jD n true [] (aW.drop (ag8+1))=some rd/\(match rd with
     | .error H=>r= .error H
     | .ok (ds,l)=>∃Bc,eL [59] l=some Bc/\(match Bc with
       | .error H=>r= .error H
       | .ok (_,l)=>(andThen (eL [108,101,116] l) λ_ l=>andThen (mu n [] l) λc9 l=>ok (⟨x.text,x.at_,d4,out,ds,c9⟩:Go.aT.Node) l)=some r)):=by
     rcases gR Y with ⟨H,aG,rfl⟩|⟨loc,ayR,aG,Y⟩
     ·rcases gR aG with ⟨fL,R,ak⟩|⟨ds,pi,R,aG⟩
      ·cases ak;exact⟨_,R,rfl⟩
      ·rcases gR aG with ⟨fL,aA,bv⟩|⟨vy,p1,aA,aG⟩
       ·cases bv;exact⟨_,R,_,aA,rfl⟩
       ·cases aG
     ·rcases gR aG with ⟨fL,R,ak⟩|⟨ds,pi,R,aG⟩
      ·cases ak
      ·rcases gR aG with ⟨fL,aA,bv⟩|⟨vy,p1,aA,aG⟩
       ·cases bv
       ·cases aG;exact⟨_,R,_,aA,Y⟩
    obtain⟨rd,R,agE⟩:=Pe
    refine(Hz au kJ aA4 R).mono ?_ (λac S' an a=>by
     obtain⟨H,rfl,rfl,a⟩:=a
     subst agE
     exact⟨H,rfl,rfl,K4.trans a⟩)
    rintro XW NI Qx ⟨ds,aGi,apW,rfl,agD,av6,Ce⟩
    obtain⟨Bc,aA,Fe⟩:=agE
    have aFl:=Ce.le
    have I5:=MC.fr Ce Zo
    have OH:U X NI j=zw [.str [], .Z 0, .aV, .aV, .aV, .aV] 6:=by rw[Ce.aa _ Zo Zx];exact OG
    have at4:=K4.trans Ce
    obtain⟨fQ,hY,yv⟩:=kt agD.len
    refine cd @t4 ⟨?_⟩
    refine f8 (us (W:=4) I5.nM Zo Zo fQ hY) ?_
    refine cd @t0 ⟨?_⟩
    refine eN (λsg=>U X sg Qx=zw [.str [59]] 1/\U X sg (bi+1)=zw [.str x.text, .Z x.at_,c7,vt,XW, .aV] 6/\∀e,e<Qx->e≠bi+1->U X sg e=U X NI e) ⟨a7 Zo,by rw[aB Zo Zo,a7 Zo];rfl,λe M R=>zy⟩ ?_
    rintro DX ⟨atv,as7,Fz⟩
    have PG:=av6.aa (Fz _ Zo Zo) (Fz _ Zo Zo)
    have Cf:cg X [aH] h j DX (Qx+1):=⟨Zo,λb ag bV=>by rw[Fz b Zo Zo];exact at4.aa b ag bV⟩
    have FV:uB X DX (Qx+1) (bi+1) x.text x.at_ c7 vt XW d4 out ds:=by
     obtain⟨Kj,AK⟩:=I5.fd
     obtain⟨SF,jL⟩:=I5.fX
     exact⟨as7,Zo,⟨Kj,(AK.aa (λe B=>Fz e B.2 (zs B.1))).lift (λe B=>⟨B.1,zs B.2⟩)⟩,⟨SF,(jL.aa (λe B=>Fz e B.2 (zs B.1))).lift (λe B=>⟨B.1,zs B.2⟩)⟩,⟨apW,(agD.aa (λe B=>Fz e B.2 (zs B.1))).lift (λe B=>⟨zs B.1,zs B.2⟩)⟩⟩
    have OI:U X DX j=zw [.str [], .Z 0, .aV, .aV, .aV, .aV] 6:=by rw[Fz _ Zo Zo];exact OH
    refine(j1 au (aw.go PG Zo) Zo Zo atv aA).mono ?_ (λac S' an a=>by
     obtain⟨H,rfl,rfl,a⟩:=a
     subst Fe
     exact⟨H,rfl,rfl,Cf.trans a⟩)
    rintro aG4 J2 My ⟨aHa,CN,rfl,_,VA,HY⟩
    exact bE _ _ _ ⟨XW,ds,CN,aL t0,aL eK,aL t4,FV.fr HY Zo,by rw[HY.aa _ Zo Zx];exact OI,VA,Cf.trans HY,Fe⟩
   ·rw[aD]at Cw ⊢
    simp only[Zy,ZD]at Cw ⊢
    simp only[andThen,ok]at Y
    refine cI cf.eq_1 hq.eq_1 ⟨?_⟩
    refine bE _ _ _ ⟨.aV,[],ag8,aL t0,aL eK,aL t4,Qy.aa (λe M R=>zy) Zo,by simp(disch:=omega) only[aB];exact OF,Cw.aa (zy) (zy), ?_,Y⟩
    exact⟨Zo,λb ag bV=>by rw[<-OR.aa b ag bV];exact zy⟩
  ·clear ag1 Cw Qy OF OR t0 eK t4
   rintro I J1 Qw ⟨aS,loc,aGh,t0,eK,t4,MC,OG,ags,K4,Y⟩
   have aFC:=MC.lt
   refine cd @t0 ⟨?_⟩
   refine eN (λdk=>U X dk Qw=zw [.str [108,101,116]] 1/\ba X J1 Qw dk (Qw+1)) ⟨a7 Zo,dz⟩ ?_
   rintro NI ⟨TZ,EH⟩
   have I5:=MC.fr (cg.of (X:=[aH]) EH) Zo
   have OH:U X NI j=zw [.str [], .Z 0, .aV, .aV, .aV, .aV] 6:=by rw[EH.aa _ Zo];exact OG
   have Ce:=K4.trans (cg.of EH)
   have Xa:=aw.go (ags.ex EH Zo Zo) (by omega:j<=Qw+1)
   clear MC OG K4 ags EH
   rcases gR Y with ⟨H,aA,rfl⟩|⟨aG8,aGw,aA,Y⟩
   ·exact(j1 au Xa Zo Zo TZ aA).mono (λac S' an a=>by obtain⟨E,cD,a,_⟩:=a;cases a) (λac S' an a=>a.of Ce (λ_ a=>by cases a;rfl))
   refine(j1 au Xa Zo Zo TZ aA).mono ?_ (λac S' an a=>by obtain⟨H,a,_⟩:=a;cases a)
   clear aA
   rintro aG3 DX fV ⟨aG9,i16,auV,_,PG,Cf⟩
   cases auV
   have aFm:=Cf.le
   have FV:=I5.fr Cf Zo
   have OI:U X DX j=zw [.str [], .Z 0, .aV, .aV, .aV, .aV] 6:=by rw[Cf.aa _ Zo Zx];exact OH
   have aeS:=Ce.trans Cf
   have aFD:=FV.lt
   clear I5 OH Ce Cf Xa TZ
   obtain⟨Kj,AK⟩:=FV.fd
   obtain⟨SF,jL⟩:=FV.fX
   obtain⟨NW,PQ⟩:=FV.hZ
   obtain⟨w5,Dz,w8⟩:=kt AK.len
   obtain⟨n6,q6,aG5⟩:=kt jL.len
   obtain⟨f5,fK,z3⟩:=kt PQ.len
   refine gi ?_
   refine fh (λm I S' aN=>∃(eH:D) (c9:List gt) (bK:List (List D)) (cq:List Nat) (cD:Nat),I.g 0=some (.ptr aH 0)/\I.g 2=some (.ptr j 0)/\I.g 4=some (.ptr (bi+1) 0)/\U X S' (bi+1)=zw [.str x.text, .Z x.at_,c7,vt,aS,eH] 6/\
    (∀e,bi+2<=e->e<fV->U X S' e=U X DX e)/\gk X S' eH 4 bK.flatten cq/\(∀e∈cq,fV<=e/\e<aN)/\pv X S' (wV fV aN cq) c9 bK/\U X S' j=zw [.str [], .Z 0, .aV, .aV, .aV, .aV] 6/\aT X S' aH bP aW cD/\cg X [aH] h j S' aN/\fV<=aN/\c9.length+m<=n/\
    (andThen (mu m c9 (aW.drop cD)) λc9 l=>ok (⟨x.text,x.at_,d4,out,loc,c9⟩:Go.aT.Node) l)=some r)
    n ⟨.aV,[],[],[],i16,t0,eK,t4,FV.nM,λ_ _ _=>rfl, .inl (.inl ⟨rfl,rfl,rfl⟩),Zs,rfl,OI,PG,aeS,Zj _,Zs,Y⟩ ?_
   clear Y PG OI aeS t0 eK t4
   rintro m I J2 My ⟨eH,c9,bK,cq,CN,t0,eK,t4,TL,ahB,PU,xY,PJ,aet,VA,HY,aFn,aFI,Y⟩
   cases m with
   |zero=>simp[mu,andThen]at Y
   |succ m=>
   unfold mu at Y
   have aA5:=aw.go VA HY.le
   refine gi ?_
   refine cd @t0 ⟨?_⟩
   have LR:∃e l,aW.drop CN=e::l/\((ho e [116,101,108]=true/\ok (⟨x.text,x.at_,d4,out,loc,c9⟩:Go.aT.Node) l=some r)\/(ho e [116,101,108]=false/\(andThen (andThen (vT m (aW.drop CN)) λaj l=>mu m (c9++[aj]) l) λc9 l=>ok (⟨x.text,x.at_,d4,out,loc,c9⟩:Go.aT.Node) l)=some r)):=by
    rcases gR Y with ⟨H,M,rfl⟩|⟨ai8,ce,M,Y⟩
    ·obtain⟨e,l,R,ak⟩:=rX M
     rcases ak with ⟨ak,aA⟩|⟨ak,aA⟩
     ·cases aA
     ·exact⟨e,l,R, .inr ⟨ak,by rw[show(andThen (vT m (aW.drop CN)) λaj l=>mu m (c9++[aj]) l)=some (.error H) from aA];rfl⟩⟩
    ·obtain⟨e,l,R,ak⟩:=rX M
     rcases ak with ⟨ak,aA⟩|⟨ak,aA⟩
     ·cases aA
      exact⟨e,_,R, .inl ⟨ak,Y⟩⟩
     ·exact⟨e,l,R, .inr ⟨ak,by rw[show(andThen (vT m (aW.drop CN)) λaj l=>mu m (c9++[aj]) l)=some (.ok (ai8,ce)) from aA];exact Y⟩⟩
   clear Y
   obtain⟨e,aGx,afn,axe⟩:=LR
   refine(oJ au aA5 afn _).Zm ?_
   rintro aGV DY wO ⟨rfl,wB,Uj⟩
   have aFo:=Uj.le
   have Mf:∀e,j<=e->e<My->U X DY e=U X J2 e:=λe M R=>Uj.aa e R Zx
   have aeT:=HY.trans Uj
   rcases axe with ⟨aD,Y⟩|⟨aD,Y⟩
   ·rw[aD]at wB ⊢
    simp only[ZE]at wB ⊢
    simp only[ok,Zf]at Y
    subst Y
    obtain⟨bz,cF,f0⟩:=gk.one PU
    have TM:U X DY (bi+1)=zw [.str x.text, .Z x.at_,c7,vt,aS,eH] 6:=by rw[Mf _ Zo Zo];exact TL
    have atr:U X DY j=zw [.str [], .Z 0, .aV, .aV, .aV, .aV] 6:=by rw[Mf _ Zo Zo];exact aet
    refine fI cf.eq_1 @t4 (bc TM) @eK ⟨?_⟩
    refine f8 (iH (z:=6) (b:=j) (W:=0) (n:=6) (c:=Q.ofList [.str [], .Z 0, .aV, .aV, .aV, .aV] 0 .nil) (by simp(disch:=omega) only[aB];exact atr) Zo rfl Zd Zd (by simp[D.cells,jf,Dz,q6,fK,cF,show qV (.Z x.at_)=true from rfl,show qV (.str x.text)=true from rfl])) ?_
    refine cd @eK ⟨?_⟩
    have FC:∀gX,(∀e,j<e->e<wO->U X gX e=U X DY e)->∀e,j<e->e<My->U X gX e=U X J2 e:=λgX a e M R=>by rw[a e M Zo,Mf e Zo R]
    generalize ae4:bj X _ j _=gX
    have Qd:∀e,e≠j->e<wO->U X gX e=U X DY e:=λe M R=>by rw[<-ae4];exact zy
    clear ae4
    have We:=FC gX (λe M R=>Qd e Zo R)
    have sJ:=PJ.wide
    obtain⟨ap0,PP⟩:=(PU.aa (S':=gX) (λe B=>We e (zs (xY e B)) (xY e B).2)).qZ Zd sJ.2 (by rw[sJ.1];omega) (P:=dr j (wO+1)) (λe B=>by have:=xY e B;exact⟨Zo,Zo⟩)
    have c1:∀e,dr (bi+1+1) fV e->U X gX e=U X DX e:=λe B=>by
     have M:=B.1;have R:=B.2
     rw[We e Zo Zo];exact ahB e Zo R
    have eQ:∀e,dr (bi+1+1) fV e->dr j (wO+1) e:=λe B=>⟨zs B.1,zs B.2⟩
    refine⟨_,CN+1,_,by rw[(fZ afn).2],rfl,⟨c7,vt,aS,eH,Kj,SF,NW,ap0,bK,rfl,(AK.aa c1).lift eQ,(jL.aa c1).lift eQ,(PQ.aa c1).lift eQ,PP, ?_⟩, ?_, ?_⟩
    ·exact PJ.aa (λe B=>We e (zs B.1) B.2.1) (λe B=>⟨zs B.1,zs B.2.1⟩)
    ·exact wB.aa (Qd _ Zo Zo) (Qd _ Zo Zo)
    ·exact⟨Zo,λb ag bV=>by rw[Qd b Zo Zo];exact aeT.aa b ag bV⟩
   ·rw[aD]at wB ⊢
    simp only[Zy,ZD]at wB ⊢
    obtain⟨bz,cF,f0⟩:=gk.one PU
    have TM:U X DY (bi+1)=zw [.str x.text, .Z x.at_,c7,vt,aS,eH] 6:=by rw[Mf _ Zo Zo];exact TL
    refine fO cf.eq_1 hq.eq_1 @t4 (bc TM) @t0 ⟨?_⟩
    refine eN (λSd=>ba X DY wO Sd (wO+1+8)) dz ?_
    intro Sd T7
    have axV:∀e,j<=e->e<My->U X Sd e=U X J2 e:=λe M R=>by rw[T7.aa e Zo];exact Mf e M R
    have aeU:=aeT.trans (cg.of T7)
    have aA6:=aw.go (wB.ex T7 Zo Zo) (by omega:j<=wO+1+8)
    have awA:∃Gk,vT m (aW.drop CN)=some Gk/\(match Gk with
     | .error H=>r= .error H
     | .ok (aj,l)=>(andThen (mu m (c9++[aj]) l) λc9 l=>ok (⟨x.text,x.at_,d4,out,loc,c9⟩:Go.aT.Node) l)=some r):=by
     rcases gR Y with ⟨H,M,rfl⟩|⟨ai8,ce,M,Y⟩
     ·rcases gR M with ⟨fL,R,ak⟩|⟨aj,l,R,ak⟩
      ·cases ak;exact⟨_,R,rfl⟩
      ·exact⟨_,R,by show andThen _ _=_;rw[ak];rfl⟩
     ·rcases gR M with ⟨fL,R,ak⟩|⟨aj,l,R,ak⟩
      ·cases ak
      ·exact⟨_,R,by show andThen _ _=_;rw[ak];exact Y⟩
    obtain⟨Gk,M,hy⟩:=awA
    refine(arT au d6 Zo aA6 M).mono ?_ (λac S' an a=>by
     obtain⟨H,rfl,rfl,a⟩:=a
     subst hy
     exact⟨H,rfl,rfl,aeU.trans a⟩)
    rintro XX J3 aif ⟨aj,axo,row,rfl,rfl,VK,av7,Uk⟩
    have aFp:=Uk.le
    have at5:=aeU.trans Uk
    have Mg:∀e,j<=e->e<My->U X J3 e=U X J2 e:=λe M R=>by rw[Uk.aa e Zo Zx];exact axV e M R
    have aeh:U X J3 (bi+1)=zw [.str x.text, .Z x.at_,c7,vt,aS,eH] 6:=by rw[Mg _ Zo Zo];exact TL
    have awz:=VK.len
    obtain⟨jZ,fd,fX,hZ,rfl⟩:∃jZ fd fX hZ,row=[jZ,fd,fX,hZ]:=by
     match row,awz with
     |[H,b,c,d],_=>exact⟨H,b,c,d,rfl⟩
    have yc:jf [jZ,fd,fX,hZ]=true:=by obtain⟨_,_,_,_,_,M,_,_,_,bv⟩:=VK;exact bv
    refine cd (bc aeh) ⟨?_⟩
    refine f4 f0 ?_
    have kH:lu X (bj X J3 (wO+1+4) (zw [jZ,fd,fX,hZ] 4)) 4 (.slice (wO+1+4) 0 1 1)=some (1,[jZ,fd,fX,hZ]):=rT (a7 Zo) (l8 _) rfl _
    have sJ:=PJ.wide
    have lI:=tz sJ.2
    obtain⟨aCc,G8,gf,ii,agK,O6,avv⟩:=(PU.aa (S':=bj X J3 (wO+1+4) (zw [jZ,fd,fX,hZ] 4)) (λe B=>by have:=xY e B;rw[aB Zo Zo];exact Mg e Zo Zo)).append (j:=aif) Zd kH rfl Zd yc (by rw[lI,sJ.1];simp only[ZF,Z5];omega) Zo (λe B=>zs (xY e B))
    refine kb ii ?_
    obtain⟨eR,fk,f3⟩:=jB.one agK
    have CT:∀e,e<aif->e≠wO+1+4->e∉cq->U X G8 e=U X J3 e:=λe M R ak=>by rw[avv e Zo ak,aB Zo R]
    have dW:∀e,e<fV->e∉cq:=λe M R=>zs (xY e R)
    have as9:U X G8 (bi+1)=zw [.str x.text, .Z x.at_,c7,vt,aS,eH] 6:=by rw[CT _ Zo Zo (dW _ Zo)];exact aeh
    refine cd @t4 ⟨?_⟩
    refine f8 (us (W:=5) as9 Zo Zo eR fk) ?_
    have CU:∀e,e≠bi+1->∀cU,U X (bj X G8 (bi+1) cU) e=U X G8 e:=λe a cU=>aB Zo a
    refine⟨m,Zo,aCc,c9++[aj],bK++[[jZ,fd,fX,hZ]],gf,axo,aL t0,aL eK,aL t4,by rw[a7 Zo];rfl, ?_, .inl ?_, ?_, ?_, ?_, ?_, ?_,Zo,Zx,hy⟩
    ·intro e M R
     rw[CU e Zo,CT e Zo Zo (dW e R),Mg e Zo Zo]
     exact ahB e M R
    ·rw[YB,Yl,List.flatten_nil,Yt]
     exact agK.aa λe B=>CU e (by rcases O6 e B with rfl|a;omega;have:=xY e a;omega) _
    ·intro e B
     rcases O6 e B with rfl|a
     ·omega
     ·have:=xY e a;omega
    ·refine pv.snoc (VK.aa (λe B=> ?_) (λe B=>B)) (PJ.aa (λe B=> ?_) (λe B=>B)) (λe B=> ?_) (λe B=>⟨?_,λpW=>by have:=B.1;have:=pW.2.1;omega⟩)
     ·have M:=B.1;have R:=B.2
      rw[CU e Zo,CT e Zo Zo (λa=>zs (xY e a))]
     ·have M:=B.1;have R:=B.2.1
      rw[CU e Zo,CT e Zo Zo B.2.2,Mg e Zo Zo]
     ·have M:=B.1;have R:=B.2.1
      refine⟨M,Zo,λa=> ?_⟩
      rcases O6 e a with rfl|a
      ·omega
      ·exact B.2.2 a
     ·have M:=B.1;have R:=B.2
      refine⟨Zo,Zo,λa=> ?_⟩
      rcases O6 e a with rfl|a
      ·omega
      ·have:=xY e a;omega
    ·rw[CU _ Zo,CT _ Zo Zo (dW _ Zo),Mg _ Zo Zo];exact aet
    ·exact av7.aa (by rw[CU _ Zo,CT _ Zo Zo (dW _ Zo)]) (by rw[CU _ Zo,CT _ Zo Zo (dW _ Zo)])
    ·exact⟨Zo,λb ag bV=>by rw[CU b Zo,CT b Zo Zo (dW b Zo)];exact at5.aa b ag bV⟩
end
def pz(X:cl)(h:Q af):(Nat->Prop)->List Go.aT.Node->List (List D)->Prop
 |_,[],bK=>bK=[]
 |P,aj::c9,bK=>∃row ib bu,bK=row::ib/\(∀e,bu e->P e)/\oR X h bu aj row/\pz X h (λe=>P e/\¬bu e) c9 ib
def oR.aa{X:cl}{h S':Q af}{P bu:Nat->Prop}{g:Go.aT.Node}{row:List D}(a:oR X h P g row)(z:∀e,P e->U X S' e=U X h e)(aC:∀e,P e->bu e):oR X S' bu g row:=by
 obtain⟨c7,dv,aS,eH,bY,co,cY,fM,bK,E,M,R,ak,aA,bv⟩:=a
 exact⟨c7,dv,aS,eH,bY,co,cY,fM,bK,E,(M.aa z).lift aC,(R.aa z).lift aC,(ak.aa z).lift aC,(aA.aa z).lift aC,bv.aa z aC⟩
def oR.len{X:cl}{h:Q af}{P:Nat->Prop}{g:Go.aT.Node}{row:List D}(a:oR X h P g row):row.length=6:=by
 obtain⟨c7,dv,aS,eH,bY,co,cY,fM,bK,E,_⟩:=a
 subst E;rfl
def pz.aa{X:cl}{h S':Q af}:∀{c9:List Go.aT.Node}{bK:List (List D)}{P bu:Nat->Prop}(z:∀e,P e->U X S' e=U X h e) (aC:∀e,P e->bu e),pz X h P c9 bK->pz X S' bu c9 bK:=by
 intro c9
 induction c9 with
 |nil=>intro bK P bu z aC a;exact a
 |cons aj c9 ai=>
  rintro bK P bu z aC ⟨row,ib,eM,M,b0,R,ak⟩
  exact⟨row,ib,eM,M,λe B=>aC e (b0 e B),R.aa (λe B=>z e (b0 e B)) (λe B=>B),ai (λe B=>z e B.1) (λe B=>⟨aC e B.1,B.2⟩) ak⟩
def pz.snoc{X:cl}{h:Q af}{bu:Nat->Prop}{aj:Go.aT.Node}{row:List D}(a:oR X h bu aj row):∀{c9:List Go.aT.Node}{bK:List (List D)}{pA P:Nat->Prop},pz X h pA c9 bK->(∀e,pA e->P e)->(∀e,bu e->P e/\¬pA e)->pz X h P (c9++[aj]) (bK++[row]):=by
 intro c9
 induction c9 with
 |nil=>rintro bK pA P rfl M R;exact⟨row,[],bu,rfl,λe B=>(R e B).1,a,rfl⟩
 |cons H c9 ai=>
  rintro bK pA P ⟨uo,ib,eM,rfl,b0,ak,aA⟩ M R
  exact⟨uo,ib++[row],eM,rfl,λe B=>M e (b0 e B),ak,ai aA (λe B=>⟨M e B.1,B.2⟩) (λe B=>⟨⟨(R e B).1,λjV=>(R e B).2 (b0 e jV)⟩,λpW=>(R e B).2 pW.1⟩)⟩
def pz.wide{X:cl}{h:Q af}:∀{c9:List Go.aT.Node}{bK:List (List D)}{P:Nat->Prop},pz X h P c9 bK->bK.length=c9.length/\∀r∈bK,r.length=6:=by
 intro c9
 induction c9 with
 |nil=>rintro bK P rfl;simp
 |cons H c9 ai=>
  rintro bK P ⟨uo,ib,eM,rfl,b0,R,ak⟩
  obtain⟨aA,bv⟩:=ai ak
  refine⟨by simp[aA],λr Y=> ?_⟩
  rcases Zt.1 Y with rfl|Y
  ·exact R.len
  ·exact bv r Y
def pz.get{X:cl}{h:Q af}:∀{c9:List Go.aT.Node}{bK:List (List D)}{P:Nat->Prop},pz X h P c9 bK->∀(i:Nat) g,c9[i]? =some g->∃row,bK[i]? =some row/\oR X h P g row:=by
 intro c9
 induction c9 with
 |nil=>intro bK P _ i g a;simp at a
 |cons H c9 ai=>
  rintro bK P ⟨uo,ib,eM,rfl,b0,R,ak⟩ i g a
  cases i with
  |zero=>simp at a;subst a;exact⟨uo,rfl,R.aa (λ_ _=>rfl) b0⟩
  |succ i=>simp at a;obtain⟨row,aA,bv⟩:=ai ak i g a;exact⟨row,by simpa using aA,bv.aa (λ_ _=>rfl) (λe B=>B.1)⟩
def pv.get{X:cl}{h:Q af}:∀{c9:List gt}{bK:List (List D)}{P:Nat->Prop},pv X h P c9 bK->∀(i:Nat) g,c9[i]? =some g->∃row,bK[i]? =some row/\yR X h P g row:=by
 intro c9
 induction c9 with
 |nil=>intro bK P _ i g a;simp at a
 |cons H c9 ai=>
  rintro bK P ⟨uo,ib,eM,rfl,b0,R,ak⟩ i g a
  cases i with
  |zero=>simp at a;subst a;exact⟨uo,rfl,R.aa (λ_ _=>rfl) b0⟩
  |succ i=>simp at a;obtain⟨row,aA,bv⟩:=ai ak i g a;exact⟨row,by simpa using aA,bv.aa (λ_ _=>rfl) (λe B=>B.1)⟩
def oR.jf{X:cl}{h:Q af}{P:Nat->Prop}{g:Go.aT.Node}{row:List D}(a:oR X h P g row):Go.bd.jf row=true:=by
 obtain⟨c7,dv,aS,eH,bY,co,cY,fM,bK,rfl,M,R,ak,aA,_⟩:=a
 simp[Go.bd.jf,(kt M.len).2.1,(kt R.len).2.1,(kt ak.len).2.1,(kt aA.len).2.1,show qV (.Z g.at_)=true from rfl,show qV (.str g.name)=true from rfl]
def oS(X:cl)(h:Q af)(P:Nat->Prop)(am:List Go.aT.Node)(v:D):Prop:=∃b aS cO bK,v= .ptr b 0/\P b/\aP X h (.ptr b 0)=some aS/\dL X h P cO aS 6 bK/\pz X h P am bK
def oS.aa{X:cl}{h S':Q af}{P bu:Nat->Prop}{am:List Go.aT.Node}{v:D}(a:oS X h P am v)(z:∀e,P e->U X S' e=U X h e)(aC:∀e,P e->bu e):oS X S' bu am v:=by
 obtain⟨b,aS,cO,bK,rfl,M,R,ak,aA⟩:=a
 exact⟨b,aS,cO,bK,rfl,aC _ M,zD (z _ M) R,(ak.aa z).lift aC,aA.aa z aC⟩
section
variable{X:cl}{h S' aI aM:Q af}{j an aO aZ aH bP:Nat}{aW:List Tok}{i:Nat}
def aBa(au:dj X)(d6:xh X){n:Nat}(tU:n<=170000)(kJ:aW.length<=100000)(aw:iZ X h j aH bP aW i){r:Except Int (List Go.aT.Node×List Tok)}(Y:p8 n [] (aW.drop i)=some r):
 aU X 24 [.ptr aH 0] h j (λac S' an=>∃am cD,r= .ok (am,aW.drop cD)/\oS X S' (dr j an) am ac/\aT X S' aH bP aW cD/\cg X [aH] h j S' an) (jk X aH h j r):=by
 refine zz au (amw X) ?_
 rw[amx]
 unfold aaI
 have he:=aw.a2
 have kD:=aw.hL
 have is:=aw.b3
 have j4:=aw.hn
 refine cx ⟨?_⟩
 have aep:U X (bj X h j (zw [.aV] 1)) j=zw [.aV] 1:=a7 Zo
 have bH:ba X h j (bj X h j (zw [.aV] 1)) (j+1):=dz
 refine fh (λm I S' aN=>∃(aS:D) (am:List Go.aT.Node) (bK:List (List D)) (cq:List Nat) (cD:Nat) (c:Bool),I.g 0=some (.ptr aH 0)/\I.g 3=some (.ptr j 0)/\I.g 4=some (.bool c)/\U X S' j=zw [aS] 1/\gk X S' aS 6 bK.flatten cq/\(∀e∈cq,j+1<=e/\e<aN)/\pz X S' (wV (j+1) aN cq) am bK/\aT X S' aH bP aW cD/\cg X [aH] h j S' aN/\j+1<=aN/\am.length+m<=n/\
  (if c then p8 m am (aW.drop cD)=some r else r= .ok (am,aW.drop cD)))
  n ⟨.aV,[],[],[],i,true,a8,a8,a8,aep, .inl (.inl ⟨rfl,rfl,rfl⟩),Zs,rfl,aw.par.ex bH Zo Zo,cg.of bH,Zj _,Zs,Y⟩ ?_
 clear Y aep bH
 rintro m I aM aZ ⟨aS,am,bK,cq,gU,c,t0,t3,t4,vZ,qK,ot,Pk,dF,dx,fJ,E3,Y⟩
 cases c with
 |false=>
  simp only[Zy,ZD]at Y
  subst Y
  refine cI @t4 @t3 ⟨?_⟩
  have x6:=Pk.wide
  obtain⟨cO,cB⟩:=qK.qZ Zd x6.2 (by rw[x6.1];omega) (P:=dr j aZ) (λe B=>by have:=ot e B;exact⟨Zo,Zo⟩)
  exact⟨am,gU,rfl,⟨j,aS,cO,bK,rfl,⟨Zo,Zo⟩,by rw[bc vZ];rfl,cB,Pk.aa (λ_ _=>rfl) (λe B=>⟨zs B.1,B.2.1⟩)⟩,dF,dx⟩
 |true=>
  simp only[ZE]at Y
  cases m with
  |zero=>simp[p8]at Y
  |succ m=>
  unfold p8 at Y
  have f2:=aw.go dF dx.le
  obtain⟨bz,cF,f0⟩:=gk.one qK
  have kq:aP X aM (.ptr j 0)=some aS:=by rw[bc vZ];rfl
  refine fI @t4 @t3 @t0 @kq ⟨?_⟩
  have CC:∃Gk,Go.aT.node m (aW.drop gU)=some Gk/\(match Gk with
   | .error H=>r= .error H
   | .ok (aj,l)=>(match l with
     |[]=>none
     |x::_=>if x.kind=7 then ok (am++[aj]) l else p8 m (am++[aj]) l)=some r):=by
   rcases gR Y with ⟨H,M,rfl⟩|⟨aj,ce,M,Y⟩
   ·exact⟨_,M,rfl⟩
   ·exact⟨_,M,Y⟩
  obtain⟨Gk,M,hy⟩:=CC
  clear Y
  have nX:=f2.go (an:=aZ+12) dF Zo
  refine(azY au d6 Zo kJ nX M).mono ?_ (λac S' an a=>by
   obtain⟨H,rfl,rfl,a⟩:=a
   subst hy
   exact⟨H,rfl,rfl,dx.trans (a.down Zo (λb ag=> .inl ag))⟩)
  rintro v3 a1 bi ⟨g,i3,row,rfl,rfl,VL,g1,eh⟩
  have iO:=eh.le
  have HZ:cg X [aH] h j a1 bi:=dx.trans (eh.down Zo (λb ag=> .inl ag))
  have Pu:=VL.len
  have yc:=VL.jf
  obtain⟨jZ,fd,fX,hZ,po,nZ,rfl⟩:∃jZ fd fX hZ po nZ,row=[jZ,fd,fX,hZ,po,nZ]:=by
   match row,Pu with
   |[H,b,c,d,E,f],_=>exact⟨H,b,c,d,E,f,rfl⟩
  have uS:U X a1 j=zw [aS] 1:=by rw[eh.aa _ Zo Zx];exact vZ
  have c1:∀e,j<=e->e<aZ->U X a1 e=U X aM e:=λe M R=>eh.aa e Zo Zx
  have ax4:aP X a1 (.ptr j 0)=some aS:=by rw[bc uS];rfl
  refine cd @ax4 ⟨?_⟩
  refine f4 f0 ?_
  have kH:lu X (bj X a1 (aZ+7) (zw [jZ,fd,fX,hZ,po,nZ] 6)) 6 (.slice (aZ+7) 0 1 1)=some (1,[jZ,fd,fX,hZ,po,nZ]):=rT (a7 Zo) (l8 _) rfl _
  have x6:=Pk.wide
  have lI:=tz x6.2
  obtain⟨k9,bA,gf,ii,qL,we,gF⟩:=(qK.aa (S':=bj X a1 (aZ+7) (zw [jZ,fd,fX,hZ,po,nZ] 6)) (λe B=>by have:=ot e B;rw[aB Zo Zo];exact c1 e Zo Zo)).append (j:=bi) Zd kH rfl Zd yc (by rw[lI,x6.1];simp only[ZF,Z5];omega) Zo (λe B=>zs (ot e B))
  refine kb ii ?_
  obtain⟨eR,fk,f3⟩:=jB.one qL
  have dJ:∀e,e<bi->e≠aZ+7->e∉cq->U X bA e=U X a1 e:=λe M R ak=>by rw[gF e Zo ak,aB Zo R]
  have dW:∀e,e<j+1->e∉cq:=λe M R=>zs (ot e R)
  have An:U X bA j=zw [aS] 1:=by rw[dJ _ Zo Zo (dW _ Zo)];exact uS
  refine cx ⟨?_⟩
  refine f8 (us (W:=0) An Zo Zo eR fk) ?_
  refine cd @t0 ⟨?_⟩
  have d7:∀e,e≠j->∀cU,U X (bj X bA j cU) e=U X bA e:=λe a cU=>aB Zo a
  have hG:∀cU,aT X (bj X bA j cU) aH bP aW i3:=λcU=>g1.aa (by rw[d7 _ Zo,dJ _ Zo Zo (dW _ Zo)]) (by rw[d7 _ Zo,dJ _ Zo Zo (dW _ Zo)])
  obtain⟨x,l,aF,AI⟩:∃x l,aW.drop i3=x::l/\(if x.kind=7 then ok (am++[g]) (aW.drop i3)else p8 m (am++[g]) (aW.drop i3))=some r:=by
   cases aF:aW.drop i3 with
   |nil=>rw[aF]at hy;cases hy
   |cons x l=>rw[aF]at hy;exact⟨x,l,rfl,hy⟩
  refine eN (λbM=>U X bM j=zw [k9] 1/\(∀e,e≠j->U X bM e=U X bA e)) ⟨by rw[a7 Zo];rfl,λe a=>d7 e a _⟩ ?_
  rintro bM ⟨HN,d7⟩
  have agt:aT X bM aH bP aW i3:=g1.aa (by rw[d7 _ Zo,dJ _ Zo Zo (dW _ Zo)]) (by rw[d7 _ Zo,dJ _ Zo Zo (dW _ Zo)])
  refine(sW au Zo agt Zo Zo (fZ aF).1).Zm ?_
  rintro aj0 bZ dy ⟨rfl,el⟩
  have pb:=el.le
  have c3:∀e,e≠j->e<bi+1->U X bZ e=U X bA e:=λe M R=>by rw[el.aa e R,d7 e M]
  have fin:∀(c4:cV) (c:Bool),c4.g 0=some (.ptr aH 0)->c4.g 3=some (.ptr j 0)->c4.g 4=some (.bool c)->(if c then p8 m (am++[g]) (aW.drop i3)=some r else r= .ok (am++[g],aW.drop i3))->∃gN,gN<m+1/\∃(aS:D) (am:List Go.aT.Node) (bK:List (List D)) (cq:List Nat) (cD:Nat) (c:Bool),c4.g 0=some (.ptr aH 0)/\c4.g 3=some (.ptr j 0)/\c4.g 4=some (.bool c)/\U X bZ j=zw [aS] 1/\gk X bZ aS 6 bK.flatten cq/\(∀e∈cq,j+1<=e/\e<dy)/\pz X bZ (wV (j+1) dy cq) am bK/\aT X bZ aH bP aW cD/\cg X [aH] h j bZ dy/\j+1<=dy/\am.length+gN<=n/\
   (if c then p8 gN am (aW.drop cD)=some r else r= .ok (am,aW.drop cD)):=by
   intro c4 c Gf eb fW ax
   refine⟨m,Zo,k9,am++[g],bK++[[jZ,fd,fX,hZ,po,nZ]],gf,i3,c,Gf,eb,fW,by rw[el.aa _ Zo];exact HN, .inl ?_, ?_, ?_, ?_, ?_,Zo,Zx,ax⟩
   ·rw[YB,Yl,List.flatten_nil,Yt]
    exact qL.aa λe B=>c3 e (by rcases we e B with rfl|a;omega;have:=ot e a;omega) (by rcases we e B with rfl|a;omega;have:=ot e a;omega)
   ·intro e B
    rcases we e B with rfl|a
    ·omega
    ·have:=ot e a;omega
   ·refine pz.snoc (VL.aa (λe B=> ?_) (λe B=>B)) (Pk.aa (λe B=> ?_) (λe B=>B)) (λe B=> ?_) (λe B=>⟨?_,λpW=>by have:=B.1;have:=pW.2.1;omega⟩)
    ·have M:=B.1;have R:=B.2
     rw[c3 e Zo Zo,dJ e Zo Zo (λa=>zs (ot e a))]
    ·have M:=B.1;have R:=B.2.1
     rw[c3 e Zo Zo,dJ e Zo Zo B.2.2,c1 e Zo Zo]
    ·have M:=B.1;have R:=B.2.1
     refine⟨M,Zo,λa=> ?_⟩
     rcases we e a with rfl|a
     ·omega
     ·exact B.2.2 a
    ·have M:=B.1;have R:=B.2
     refine⟨Zo,Zo,λa=> ?_⟩
     rcases we e a with rfl|a
     ·omega
     ·have:=ot e a;omega
   ·exact agt.ex el Zo Zo
   ·exact⟨Zo,λb ag bV=>by rw[c3 b Zo Zo,dJ b Zo Zo (dW b Zo)];exact HZ.aa b ag bV⟩
  by_cases aJ:x.kind=7
  ·rw[Zr aJ]at AI
   simp only[ok,Zf]at AI
   have d:decide (x.kind=7)=true:=by simp[aJ]
   refine cI cf.eq_1 @aJ ⟨?_⟩
   exact fin _ false (aL t0) (aL t3) (fq) AI.symm
  ·rw[Zh aJ]at AI
   have d:decide (x.kind=7)=false:=by simp[aJ]
   refine cI cf.eq_1 @aJ ⟨?_⟩
   exact fin _ true (aL t0) (aL t3) (by refine xN ⟨?_⟩;simp[aJ]) AI
end
end
open Go.bd
noncomputable section
variable (X : cl) (h : Q af) (j : Nat) (ah av : bJ) (a0 bb b5 a3 a4 a5 hR io ip : D)
def aaD(a:aK)(b c:D)(d:Q af)(e:Nat)(f g:bJ):Prop:=
 ap (c5 a d .eql 54 true b .cJ) λh=>hf h c d e λd e i=>hf h b e i λe i j=>j7 h (λb=>jq a d [e] i j b g) i j λd e i=>eU h (gm .not d) e i λd e i=>cS (λd=>bk (λb c d=>kz b 0 8 a c λ_ _ e=>hO e (λ_ a b=>f (.tuple []) a b) λf h=>e2 (λb c d e=>gW c 19 18 λf=>bk (λc d e=>td (λa c d=>ge a 19 λe=>b (Z a 19 e) c d) c 17 19 a d λb f=>te c λh=>aU a 16 [f,h] d e (λ_ a d=>b (Z c 5 f) a d) g) λa=>aR f (a (Z c 20 f) d e) (h (Z c 20 f) d e)) (zB b 17 e 18 f 19 (.Z 0)) c d) λa=>aR d (f (.tuple []) e i) (a (Z (cP [b,c]) 13 d) e i)) λa=>aR h (a .zT) (a d)
def amp:c2 X 16 [a0,bb] h j ah av=aaD X a0 bb h j ah av:=Zk
def amo:cQ X 16 2=true:=Zk
def aaL(a:aK)(b:D)(c:Q af)(d:Nat)(e f:bJ):Prop:=
 By d a c λc d g=>aU a 52 [b] d g (λd g h=>ap (bn .neq d (.Z 0)) λd=>bk (λb c d=>r9 b a c λg=>hO g (λb c d=>DI λf=>jy b 2 a c 2 f λa b=>e b a d) λh i=>e2 (λb c d g=>gW c 15 14 λh=>bk (λc d g=>bk (λa c d=>ge a 15 λe=>b (Z a 15 e) c d) λb=>DG c 15 13 6 λh i=>DC a d i g λd g i=>e4 c λj=>r5 a i 6 d 10 g f λg i k=>gO a i k (.map k) (.map [] 0) λi k l=>ap (e6 [.cJ, .Z 0, .cJ, .mF, .Z 0, .Z 0] [(0,1,j),(1,1,h),(2,1,g),(3,1,i)]) λg=>ha a k l g λg i j=>aU a 53 [g] i j (λ_ f i=>lx g 4 λj=>xc j a f 0 λj=>bk b λb=>aR j (lx g 4 λb=>lg a f b λb=>jy c 2 a f 2 b λa b=>e b a i) (b (zC c 4 d 3 h 5 g 34 j) f i)) f) λa=>aR h (a (Z c 16 h) d g) (i (Z c 16 h) d g)) (zB b 13 g 14 h 15 (.Z 0)) c d) λf=>aR d (ap (e6 [.Z 0, .Z 0] [(0,1, .Z 1)]) λb=>r6 a g 2 c b λa b=>e b a h) (f (zA (cP [b]) 2 c 8 d) g h)) f
def amD:c2 X 29 [a0] h j ah av=aaL X a0 h j ah av:=Zk
def amC:cQ X 29 1=true:=Zk
def aba(a:aK)(b:D)(c:Q af)(d:Nat)(e f:bJ):Prop:=
 ap (c5 a c .eql 23 true b .cJ) λg=>hf g b c d λc d h=>xe g c d h 0 a λc d h=>eU g (gz c) d h λc d h=>eU g (bn .eql c (.Z 0)) d h λc d h=>cS (λc=>hf c b d h λd g h=>xe c d g h 0 a λd g h=>eU c (gz d) g h λd g h=>eU c (bn .gtr d (.Z 64)) g h λd g h=>cS (λc=>bk (λb c d=>r9 b a c λg=>hO g (λa b c=>qm a λa=>e a b c) λh i=>e2 (λb c d g=>gW c 30 29 λh=>bk (λc d g=>ta (λa c d=>ge a 30 λe=>b (Z a 30 e) c d) c 28 30 6 λb h=>DC a d h g λd g h=>r5 a h 6 d 78 g f λa f g=>bk b λb=>md a 1 b λb h=>aR b (e a f g) (md a 22 h λe h=>aR e (h (zA (zC c 5 d 6 a 36 a 37 b) 40 e 3 a) f g) (h (Z (zC c 5 d 6 a 36 a 37 b) 40 e) f g))) λa=>aR h (a (Z c 31 h) d g) (i (Z c 31 h) d g)) (zC b 3 (.Z 0) 28 g 29 h 30 (.Z 0)) c d) λa=>aR c (e (.Z 1) g h) (a (zA (cP [b]) 2 (.Z 0) 24 c) g h)) λa=>aR c (a .zT) (a d)) λa=>aR g (a .zT) (a c)
def anm:c2 X 52 [a0] h j ah av=aba X a0 h j ah av:=Zk
def anl:cQ X 52 1=true:=Zk
def ajj(a:aK)(b:bJ):fB:=λc d e=>n0 a [] b c c.bh d e
def F9(a:aK)(b c:bJ):tm:=λd e f g=>wR a [] b c d e d.bh f g
def abb(a:aK)(b:D)(c:Q af)(d:Nat)(e f:bJ):Prop:=
 ha a c d b λc d g=>fb (g+15) λh=>ap (aP a d c) λi=>g5 i 0 a d λ_ i=>g5 i 0 a d λ_ i=>ap (aP a d c) λj=>g5 j 1 a d λ_ j=>ap (gy 6 i j) λi=>ap (cG a d 6 i) λi=>ap (hD [.str [], .Z 0, .aV, .aV, .aV, .aV] (g+13)) λj=>mE a d (g+13) j.1 j.2 λd g=>ap (gq a g 6 d i) λg=>fb (h+12) λh=>ap (aP a g c) λi=>g5 i 0 a g λ_ i=>jj d a g λj=>aU a 79 [i,j] g h (λg h i=>hs g λg _=>ap (aP a h c) λj=>g5 j 1 a h λ_ j=>ap (bn .lss g j) λj=>bk (λb c d=>kR b 1 a c λg=>lY b 2 a c 6 λh=>aU a 81 [g,h] c d (λ_ c d=>ic b 2 5 a c λ_ g=>hO g (λb c d=>lY b 2 a c 6 λg=>aU a 32 [g] c d (λc d g=>bk (λb c d=>ajj a e b c d) λh=>Gg a 103 c [85,86] (un a (λ_ _ b _ _ c d e=>cw (c 85) λf=>Nr e a d c 86 λa d e=>b (zA c 10 f 11 a) e d) λ_ b c _ _ d e f=>bk c λc=>fb (f+12) λf=>cw (d 10) λg=>ap (bn .neq g (.Z 1)) λg=>P9 g (d 1) (λb=>aP a e b) e λe h=>iP g (s5 e) h λe h=>JN g 3 e h a λe h=>P9 g (d 11) (λa=>gr 0 a) h λh i=>iP g (aP a i h) i λh i=>iP g (nU a i 9 (.Z 0) e h false) i λe h=>iP g (bn .eql e (.Z 0)) h λe h=>cS (λe=>bk c λc=>aR e (kR d 1 a h λg=>ic d 11 1 a h λ_ i=>aU a 80 [g, .Z 37,i] h f (λ_ a b=>c (Z d 98 e) a b) (b (h5 [99,100,101,102] (Z d 98 e)))) (c (Z d 98 e) h f)) λa=>aR g (a e) (a .zF)) h (Eu 4 h λ_ _ _ _=>False) (ajj a e) (F9 a e f) (Z b 84 c) d g) (F9 a e f (h5 [83,84] b))) λh i=>e2 (λb c d g=>gW c 51 50 λh=>bk (λc d g=>ta (λa c d=>ge a 51 λe=>b (Z a 51 e) c d) c 49 51 4 λb h=>DD a d h g λd g h=>jj d a h λi=>hO i (λc d g=>kR c 1 a d λh=>ic c 6 3 a d λ_ i=>aU a 83 [h,i] d g (λ_ a d=>b c a d) (F9 a e f (h5 [78,79,80,81] c))) λb j=>e2 (λb c d g=>gW c 58 57 λh=>bk (λc d g=>bk (λa c d=>ge a 58 λe=>b (Z a 58 e) c d) λb=>DG c 58 56 1 λh i=>ap (aP a d i) λi=>ic c 6 1 a d λ_ j=>ap (gz j) λj=>ap (bn .lss h j) λj=>bk (λc d g=>kR c 1 a d λh=>fm c 8 9 λi j=>aU a 82 [h,i,j] d g (λ_ a d=>b c a d) (F9 a e f (h5 [73,74,75,76] c))) λb=>aR j (ic c 6 1 a d λ_ e=>ap (gy 1 e h) λe=>ap (aP a d e) λa=>b (Z (zC c 7 h 8 i 9 (.Z 0) 67 j) 9 a) d g) (b (zC c 7 h 8 i 9 (.Z 0) 67 j) d g)) λa=>aR h (a (Z c 59 h) d g) (j (Z c 59 h) d g)) (zC c 6 d 56 i 57 b 58 (.Z 0)) h g) λa=>aR h (a (Z c 52 h) d g) (i (Z c 52 h) d g)) (zB b 49 g 50 h 51 (.Z 0)) c d) (F9 a e f (h5 [45,46,47] b))) λk=>aR j (ap (aP a h c) λl=>e0 1 d a h λ_ m=>aU a 80 [l, .Z 24,m] h i (λ_ a e=>k (zC (cP [b]) 1 c 2 d 3 g 40 j) a e) (F9 a e f (h5 [41,42,43,44] (zC (cP [b]) 1 c 2 d 3 g 40 j)))) (k (zC (cP [b]) 1 c 2 d 3 g 40 j) h i)) (F9 a e f (h5 [26,27,28,29,30,31,32,25,33,34,3,4] (zA (cP [b]) 1 c 2 d)))
def ano:B7 X 53 [a0] h j ah av=abb X a0 h j ah av:=Zk
def ann:cQ X 53 1=true:=Zk
def aaP(a:aK)(b:D)(c:Q af)(d:Nat)(e _:bJ):Prop:=
 ha a c d b λa b c=>e (.func (.func 58) [] [a]) b c
def amH:c2 X 32 [a0] h j ah av=aaP X a0 h j ah av:=Zk
def amG:cQ X 32 1=true:=Zk
def abF(a:aK)(b c:D)(d:Q af)(e:Nat)(f g:bJ):Prop:=
 ha a d e c λd e h=>ap (c5 a e .eql 23 true b .cJ) λi=>bk (λb c d=>r9 b a c λe=>qm b λb=>aU a 101 [e, .func (.func 102) [] [b]] c d (λb c d=>ap (ts a c .max [3,3] [b, .Z 0]) λa=>DK b λb=>f (.tuple [a,b]) c d) g) λa=>aR i (f (.tuple [.Z 0, .zF]) e h) (a (zC (cP [b,c]) 3 d 4 (.Z 0) 5 .zF 8 i) e h)
def aob:c2 X 79 [a0,bb] h j ah av=abF X a0 bb h j ah av:=Zk
def aoa:cQ X 79 2=true:=Zk
def abE(a:aK)(b:D)(c:Q af)(d:Nat)(e f:bJ):Prop:=
 ha a c d b λc d g=>e0 2 c a d λ_ h=>ap (gz h) λh=>e0 3 c a d λ_ i=>JP i h λh=>e0 4 c a d λ_ i=>JP i h λh=>jj c a d λi=>aU a 97 [i] d g (λd g i=>ap (gm .not d) λd=>r3 d 3 c g i a λg i j=>eU d (gz g) i j λg i j=>eU d (bn .eql g (.Z 0)) i j λg i j=>cS (λd=>hf d h i j λg i j=>eU d (bn .gtr g (.Z 256)) i j λg i j=>cS (λd=>r3 d 5 c i j a λg i j=>eU d (gz g) i j λg i j=>eU d (bn .gtr g (.Z 4096)) i j λg i j=>cS (λd=>r3 d 2 c i j a λg i j=>r3 d 3 c i j a λi j k=>r3 d 4 c j k a λj k l=>j7 d (λb=>ap (hC 3 [.aV, .aV, .aV] [(0,1,g),(1,1,i),(2,1,j)] l) λc=>gO a k l c.1 c.2 λa c d=>b a c d) k l λg i j=>j7 d (λb=>aU a 76 [g] i j b f) i j λg i j=>j7 d (λb=>aU a 98 [g] i j b f) i j λg i j=>eU d (gm .not g) i j λg i j=>cS (λd=>bk (λb c d=>ic b 1 5 a c λ_ g=>hO g (λa b c=>oP a λa=>e a b c) λh i=>e2 (λb c d g=>gW c 55 54 λh=>bk (λc d g=>ta (λa c d=>ge a 55 λe=>b (Z a 55 e) c d) c 53 55 4 λb h=>DD a d h g λd g h=>e0 3 d a h λ_ i=>aU a 100 [i] h g (λg h i=>jj d a h λj=>ap (gz j) λj=>X7 j λj=>r3 j 0 d h i a λh i k=>hf j (.func (.func 99) [] []) i k λi k l=>j7 j (λb=>aU a 49 [h,i] k l b f) k l λa f h=>cS (λa=>hf a g f h λf h i=>eU a (bn .eql f (.Z 1)) h i λf h i=>cS (λa=>bk (λa c d=>cw (a 8) λe=>ap (bn .neq e (.Z 0)) λe=>bk b λb=>aR e (cw (a 8) λf=>b (zA a 77 e 4 f) c d) (b (Z a 77 e) c d)) λb=>aR a (e (.Z 1) h i) (b (zC c 6 d 7 (.func (.func 99) [] []) 8 g 75 a) h i)) λb=>aR a (b .zT) (b f)) λb=>aR j (b .zT) (b a)) f) λa=>aR h (a (Z c 56 h) d g) (i (Z c 56 h) d g)) (zC b 4 (.Z 0) 53 g 54 h 55 (.Z 0)) c d) λa=>aR d (e (.Z 1) i j) (a (zC (cP [b]) 1 c 2 (.Z 0) 3 h 51 d) i j)) λa=>aR d (a .zT) (a g)) λa=>aR d (a .zT) (a g)) λa=>aR d (a .zT) (a g)) λa=>aR d (a .zT) (a g)) f
def an9:c2 X 78 [a0] h j ah av=abE X a0 h j ah av:=Zk
def an8:cQ X 78 1=true:=Zk
def aa3(a:aK)(b:D)(c:Q af)(d:Nat)(e f:bJ):Prop:=
 aU a 74 [b,.Z 201] c d e f
def anb:c2 X 46 [a0] h j ah av=aa3 X a0 h j ah av:=Zk
def ana:cQ X 46 1=true:=Zk
def abH(a:aK)(b c d:D)(e:Q af)(f:Nat)(g _:bJ):Prop:=
 lx b 4 λh=>DJ h a e 0 λh=>bk (λ_ a b=>g (.tuple []) a b) λg=>aR h (ap (e6 [.Z 0, .Z 0] [(0,1,c),(1,1,d)]) λi=>lx b 4 λj=>ap (gq a e 2 j i) λa=>g (Z (cP [b,c,d]) 11 h) a f) (g (Z (cP [b,c,d]) 11 h) e f)
def aod:c2 X 80 [a0,bb,b5] h j ah av=abH X a0 bb b5 h j ah av:=Zk
def aoc:cQ X 80 3=true:=Zk
def Xm(a:aK)(b:bJ):fB:=λc d e=>n0 a [] b c c.bh d e
def QP(a:aK)(b c:bJ):tm:=λd e f g=>wR a [] b c d e d.bh f g
def abI(a:aK)(b c:D)(d:Q af)(e:Nat)(f g:bJ):Prop:=
 ha a d e b λd e h=>ha a e h c λe h i=>gO a h i (.map i) (.map [] 0) λh i j=>ap (hD [.mF] j) λk=>nB a i j k.1 k.2 1 h λh i j=>ap (cG a j 6 e) λk=>aU a 32 [k] j i (λi j k=>bk (λb c d=>lY b 3 a c 6 λe=>aU a 32 [e] c d (λc d e=>bk (λb c d=>Xm a f b c d) λh=>Gg a 54 c [31,32] (un a (λ_ _ b _ _ c d e=>Nr e a d c 32 λa d e=>b (Z c 8 a) e d) λ_ b c _ _ d e f=>bk c λc=>fb (f+13) λg=>Bz d 2 a e 2 λh=>ic d 8 5 a e λ_ i=>RH f 10 a e λe f=>aU a 12 [h,i] f g (λf g h=>hs f λf i=>ap (gq a g 11 e f) λe=>ap (gm .not i) λf=>Qb f (d 8) (λa=>gr 5 a) e h λe g h=>d5 f (aP a g e) g h λe g h=>d5 f (c5 a g .neq 9 true e (.str [])) g h λe g h=>cS (λe=>bk c λc=>aR e (kR d 2 a g λf=>ic d 8 6 a g λ_ j=>aU a 80 [f, .Z 23,j] g h (λ_ a b=>c (zA d 10 i 49 e) a b) (b (h5 [50,51,52,53] (zA d 10 i 49 e)))) (c (zA d 10 i 49 e) g h)) λa=>aR f (a e) (a .zF)) (b (h5 [34,35,36,37,38,39,40,33,41,42,9,10] d))) h (Eu 2 h λ_ _ _ _=>False) (Xm a f) (QP a f g) (Z b 30 c) d e) (QP a f g (h5 [29,30] b))) λl=>Gg a 54 i [14,15] (un a (λ_ _ b _ _ c d e=>cw (c 14) λf=>Nr e a d c 15 λa d e=>b (zA c 5 f 6 a) e d) λ_ b c _ _ d e f=>bk c λc=>kR d 4 a e λg=>ic d 6 0 a e λ_ h=>ap (nU a e 9 (.Z 0) g h false) λg=>X6 g λg=>bk (λb d e=>kR b 4 a d λf=>ic b 6 0 a d λ_ g=>n9 b λh=>h0 (uc a d e 9 f g h) d e λ_ a d=>c b a d) λc=>aR g (kR d 2 a e λh=>ic d 6 1 a e λ_ i=>aU a 80 [h, .Z 24,i] e f (λ_ a b=>c (Z d 20 g) a b) (b (h5 [21,22,23,24] (Z d 20 g)))) (c (Z d 20 g) e f)) l (Eu 0 l λ_ _ _ _=>False) (Xm a f) (QP a f g) (zC (cP [b,c]) 2 d 3 e 4 h 13 i) j k) (QP a f g (h5 [12,13] (zB (cP [b,c]) 2 d 3 e 4 h)))
def aof:B7 X 81 [a0,bb] h j ah av=abI X a0 bb h j ah av:=Zk
def aoe:cQ X 81 2=true:=Zk
def abJ(a:aK)(b c d:D)(e:Q af)(f:Nat)(g h:bJ):Prop:=
 g5 b 2 a e λ_ i=>Bv a i c e f h λe f i j=>g5 b 3 a j λ_ k=>ap (nU a j 9 (.Z 0) k c false) λl=>DF l λl=>h0 (uc a j i 9 k c l) j i λ_ i j=>bk (λ_ a b=>g (.tuple []) a b) λg=>Bx e g λg k=>aR g (aU a 80 [b, .Z 23,d] i j (λ_ a h=>k (zB (cP [b,c,d]) 6 f 7 e 24 g) a h) h) (DJ f a i 1 λl=>hf l b i j λi j m=>xe l i j m 3 a λi j m=>hf l c j m λj m n=>eU l (nU a m 9 (.Z 0) i j false) m n λi j m=>eU l (bn .gtr i (.Z 1)) j m λi j m=>cS (λi=>bk k λk=>aR i (aU a 80 [b, .Z 24,d] j m (λ_ a h=>k (zC (cP [b,c,d]) 6 f 7 e 24 g 30 i) a h) h) (k (zC (cP [b,c,d]) 6 f 7 e 24 g 30 i) j m)) λa=>aR l (a .zT) (a i))
def aoh:c2 X 82 [a0,bb,b5] h j ah av=abJ X a0 bb b5 h j ah av:=Zk
def aog:cQ X 82 3=true:=Zk
def abK(a:aK)(b c:D)(d:Q af)(e:Nat)(f g:bJ):Prop:=
 ha a d e b λb d e=>aU a 16 [c, .func (.func 103) [] [b]] d e (λ_ a b=>f (.tuple []) a b) g
def aoj:c2 X 83 [a0,bb] h j ah av=abK X a0 bb h j ah av:=Zk
def aoi:cQ X 83 2=true:=Zk
def abg(a:aK)(b c:D)(d:Q af)(e:Nat)(f g:bJ):Prop:=
 e0 2 c a d λ_ h=>e0 3 c a d λ_ i=>e0 4 c a d λ_ j=>ap (e6 [.aV, .aV, .aV] [(0,1,h),(1,1,i),(2,1,j)]) λh=>bk (λ_ a b=>f (.tuple []) a b) λi=>e2 (λb c d e=>JL c 14 3 λh=>bk (λc d e=>bk (λa c d=>ge a 14 λe=>b (Z a 14 e) c d) λb=>fm c 14 13 λh i=>cw (c 14) λj=>ap (va false 3 1 i j) λi=>DN i b λb j=>e2 (λb c d e=>gW c 20 19 λh=>bk (λc d e=>bk (λa c d=>ge a 20 λe=>b (Z a 20 e) c d) λb=>Br c 18 20 a d e λd e h=>fm c 0 3 λi j=>ap (bn .add (.Z 1) j) λj=>ap (cG a h 8 d) λk=>jq a i [j,k] h e (λa e g=>Bx a b λa b=>aR a (f (.tuple []) e g) (b (zA c 6 d 29 a) e g)) g) λa=>aR h (a (Z c 21 h) d e) (j (Z c 21 h) d e)) (Z (zC c 3 h 4 i 18 i 19 b) 20 (.Z 0)) d e) λa=>aR h (a (Z c 15 h) d e) (i (Z c 15 h) d e)) (zA (cP [b,c]) 13 h 14 (.Z 0)) d e
def anz:c2 X 58 [a0,bb] h j ah av=abg X a0 bb h j ah av:=Zk
def anx:cQ X 58 2=true:=Zk
def ι(a:aK)(b c:D)(d:Q af)(e:Nat)(f g:bJ):Prop:=
 hO b (λ_ a b=>f (.Z (-1)) a b) λh i=>e2 (λb c d e=>gW c 8 7 λh=>bk (λc d e=>bk (λa c d=>ge a 8 λe=>b (Z a 8 e) c d) λb=>GW c 6 λh i j=>ap (cG a d 6 j) λj=>jq a i [j] d e (λa d e=>bk b λb=>aR a (f h d e) (b (zA c 5 h 16 a) d e)) g) λa=>aR h (a (Z c 9 h) d e) (i (Z c 9 h) d e)) (zB (cP [b,c]) 4 (.Z 0) 7 h 8 (.Z 0)) d e
def akW:c2 X 101 [a0,bb] h j ah av=ι X a0 bb h j ah av:=Zk
def akV:cQ X 101 2=true:=Zk
def κ(a:aK)(b c:D)(d:Q af)(e:Nat)(f _:bJ):Prop:=
 ha a d e b λb d e=>jj b a d λb=>ap (aP a d c) λc=>ap (c5 a d .eql 9 false b c) λa=>f a d e
def akY:c2 X 102 [a0,bb] h j ah av=κ X a0 bb h j ah av:=Zk
def akX:cQ X 102 2=true:=Zk
def abZ(a:aK)(b:D)(c:Q af)(d:Nat)(e f:bJ):Prop:=
 GY a c b λg=>hf g b c d λc d h=>eU g (nq c) d h λc d h=>eU g (bn .gtr c (.Z 32)) d h λc d h=>cS (λc=>hf c b d h λd g h=>eU c (oB d (.Z 0)) g h λd g h=>eU c (bn .geq d (.int .u8 48)) g h λd g h=>hf c d g h λd g h=>js d b g h λg h i=>d5 d (oB g (.Z 0)) h i λg h i=>d5 d (bn .leq g (.int .u8 57)) h i λg h i=>j7 c (λa=>cS (λb=>a b h i) λa=>aR d (a g) (a .zF)) h i λd g h=>cS (λc=>hf c b g h λd g h=>hf c (.func (.func 119) [] []) g h λg h i=>j7 c (λb=>aU a 120 [d,g] h i b f) h i λd g h=>eU c (bn .geq d (.Z 0)) g h λd g h=>cS (λc=>bk (λb c d=>ap (aP a c (.ptr 3 0)) λg=>e4 b λh=>aU a 121 [g,h] c d (λc d g=>ap (gm .not c) λc=>mD c (b 0) d g λb d g=>iQ c (λc=>aU a 122 [b] d g c f) d g λa b d=>d5 c (gm .not a) b d λa b d=>cS (λa=>e a b d) λb=>aR c (b a) (b .zF)) f) λa=>aR c (e .zF g h) (a (zB (cP [b]) 2 .zF 3 (.func (.func 119) [] []) 26 c) g h)) λa=>aR c (a .zT) (a d)) λa=>aR c (a .zT) (a d)) λa=>aR g (a .zT) (a c)
def aoN:c2 X 97 [a0] h j ah av=abZ X a0 h j ah av:=Zk
def aoM:cQ X 97 1=true:=Zk
def ab0(a:aK)(b:D)(c:Q af)(d:Nat)(e f:bJ):Prop:=
 hO b (λ_ a b=>e .zT a b) λg h=>e2 (λb c d g=>gW c 7 6 λi=>bk (λc d g=>bk (λa c d=>ge a 7 λe=>b (Z a 7 e) c d) λb=>Br c 5 7 a d g λd g h=>jj d a h λi=>aU a 97 [i] h g (λg h i=>ap (gm .not g) λg=>eU g (gr 2 d) h i λh i j=>eU g (cG a i 3 h) i j λh i j=>j7 g (λb=>aU a 123 [h] i j b f) i j λh i j=>eU g (c5 a i .eql 9 true h (.str [])) i j λh i j=>cS (λg=>r3 g 5 d i j a λh i j=>eU g (c5 a i .neq 9 true h (.str [])) i j λh i j=>hf g h i j λh i j=>r4 h 5 d i j a λi j k=>iQ h (λb=>aU a 97 [i] j k b f) j k λf i j=>d5 h (gm .not f) i j λf i j=>j7 g (λa=>cS (λb=>a b i j) λa=>aR h (a f) (a .zF)) i j λf h i=>cS (λf=>r3 f 5 d h i a λg h i=>eU f (c5 a h .eql 9 true g (.str [])) h i λg h i=>hf f g h i λg h i=>r4 g 7 d h i a λa h i=>j7 f (λb=>cS (λa=>b a h i) λb=>aR g (b a) (b .zF)) h i λa g h=>cS (λa=>bk b λb=>aR a (e .zF g h) (b (zA c 4 d 40 a) g h)) λb=>aR f (b .zT) (b a)) λa=>aR g (a .zT) (a f)) λa=>aR g (a .zT) (a h)) f) λa=>aR i (a (Z c 8 i) d g) (h (Z c 8 i) d g)) (zC (cP [b]) 2 .zF 5 b 6 g 7 (.Z 0)) c d
def aoP:c2 X 98 [a0] h j ah av=ab0 X a0 h j ah av:=Zk
def aoO:cQ X 98 1=true:=Zk
def abB(a:aK)(b:D)(c:Q af)(d:Nat)(e f:bJ):Prop:=
 hO b (λb c d=>qm b λg=>aU a 96 [.aV,g] c d (λc d f=>e4 b λg=>hO g (λa b c=>cw (a 6) λa=>e a b c) λe h=>e2 (λb c d e=>gW c 27 26 λf=>bk (λc d e=>td (λa c d=>ge a 27 λe=>b (Z a 27 e) c d) c 25 27 a d λb f=>cw (c 6) λg=>h0 (jC a d e 8 g f) d e λa d e=>b (zA c 8 f 6 a) d e) λa=>aR f (a (Z c 28 f) d e) (h (Z c 28 f) d e)) (zC b 6 c 25 g 26 e 27 (.Z 0)) d f) f) λe g=>e2 (λb c d e=>gW c 11 10 λh=>bk (λc d e=>td (λa c d=>ge a 11 λe=>b (Z a 11 e) c d) c 9 11 a d λa b=>qm c λg=>JP b g λg=>JQ g λh=>bk a λa=>aR h (ap (some (D.iface 9 (.str [108,101,110,32,111,117,116,32,111,102,32,114,97,110,103,101]))) λa=>wS f a d e) (a (zB c 5 b 3 g 20 h) d e)) λa=>aR h (a (Z c 12 h) d e) (g (Z c 12 h) d e)) (Z (zC (cP [b]) 2 .aV 3 (.Z 0) 9 b 10 e) 11 (.Z 0)) c d
def an7:c2 X 76 [a0] h j ah av=abB X a0 h j ah av:=Zk
def an6:cQ X 76 1=true:=Zk
def ab1(a:aK)(b:D)(c:Q af)(d:Nat)(e f:bJ):Prop:=
 aU a 97 [b] c d (λa b c=>ap (gm .not a) λa=>e a b c) f
def aoR:c2 X 99 [a0] h j ah av=ab1 X a0 h j ah av:=Zk
def aoQ:cQ X 99 1=true:=Zk
def θ(a:aK)(b:D)(c:Q af)(d:Nat)(e f:bJ):Prop:=
 ap (hD [.Z 0] d) λg=>gO a c d g.1 g.2 λc d g=>r7 a d c 0 λd=>ap (hD [.Z 0] g) λh=>gO a d g h.1 h.2 λd g h=>r7 a g d 0 λg=>ap (hD [.nilFunc] h) λi=>gO a g h i.1 i.2 λg h i=>ap (gq a h 1 g (.func (.func 124) [] [d,c,g])) λd=>ap (aP a d g) λg=>jq a g [b] d i (λ_ b d=>ap (aP a b c) λa=>e a b d) f
def akU:c2 X 100 [a0] h j ah av=θ X a0 h j ah av:=Zk
def akT:cQ X 100 1=true:=Zk
def R9(a:aK)(b c:D)(d:Q af)(e:Nat)(f g:bJ):Prop:=
 aU a 77 [b,c] d e (λa b c=>DK a λa=>f a b c) g
def aa7:c2 X 49 [a0,bb] h j ah av=R9 X a0 bb h j ah av:=Zk
def aa6:cQ X 49 2=true:=Zk
def Sb(a:aK)(b c:D)(d:Q af)(e:Nat)(f g:bJ):Prop:=
 ap (c5 a d .eql 54 true b .cJ) λh=>hf h c d e λd e i=>eU h (bn .eql d (.Z 0)) e i λd e i=>cS (λd=>bk (λb c d=>te b λe=>Bs e λe=>kz b 0 8 a c λ_ _ h=>hO h (λa b c=>ge a 5 λa=>f a b c) λf i=>e2 (λb c d e=>gW c 21 20 λf=>bk (λc d e=>td (λa c d=>ge a 21 λe=>b (Z a 21 e) c d) c 19 21 a d λb f=>fm c 5 1 λh i=>aU a 74 [f,i] d e (λd e g=>ap (ts a e .max [3,3] [h,d]) λa=>b (zA c 7 f 5 a) e g) g) λa=>aR f (a (Z c 22 f) d e) (i (Z c 22 f) d e)) (Z (zC b 1 e 5 (.Z 0) 19 h 20 f) 21 (.Z 0)) c d) λa=>aR d (f (.Z 0) e i) (a (zA (cP [b,c]) 4 (.Z 0) 13 d) e i)) λa=>aR h (a .zT) (a d)
def abz:c2 X 74 [a0,bb] h j ah av=Sb X a0 bb h j ah av:=Zk
def aby:cQ X 74 2=true:=Zk
def μ(a:aK)(b c:D)(d:Q af)(e:Nat)(f g:bJ):Prop:=
 aU a 104 [b] d e (λd e h=>bk (λb c d=>r9 b a c λe=>ap (bn .eql e (.Z 25)) λe=>bk (λ_ a b=>f .zT a b) λf=>aR e (fb (d+14) λd=>Bz b 1 a c 0 λh=>kz b 0 2 a c λ_ _ i=>aU a 79 [h,i] c d (λc d h=>hs c λc i=>bk f λf=>Bx i f λf j=>aR f (fb (h+6) λh=>kR b 1 a d λk=>kz b 0 1 a d λ_ _ l=>aU a 80 [k, .Z 23,l] d h (λ_ a d=>j (zC b 34 e 6 c 7 i 47 f) a d) g) (Bz b 1 a d 1 λk=>ap (bn .geq c k) λk=>bk j λj=>aR k (fb (h+6) λh=>kR b 1 a d λl=>kz b 0 1 a d λ_ _ m=>aU a 80 [l, .Z 25,m] d h (λ_ a d=>j (Z (zC b 34 e 6 c 7 i 47 f) 56 k) a d) g) (j (Z (zC b 34 e 6 c 7 i 47 f) 56 k) d h))) g) (f (Z b 34 e) c d)) λf=>aR d (fb (h+15) λi=>ap (aP a e c) λj=>g5 j 2 a e λ_ j=>g5 b 2 a e λ_ k=>RH h 12 a e λe h=>aU a 12 [j,k] h i (λh i j=>hs h λh k=>ap (gq a i 11 e h) λe=>Bx k f λf h=>aR f (fb (j+6) λi=>ap (aP a e c) λj=>g5 b 1 a e λ_ l=>aU a 80 [j, .Z 23,l] e i (λ_ a e=>h (zC (cP [b,c]) 3 .zF 9 d 5 k 23 f) a e) g) (h (zC (cP [b,c]) 3 .zF 9 d 5 k 23 f) e j)) g) (f (zA (cP [b,c]) 3 .zF 9 d) e h)) g
def ak0:c2 X 103 [a0,bb] h j ah av=μ X a0 bb h j ah av:=Zk
def akZ:cQ X 103 2=true:=Zk
def ν(a:aK)(b:D)(c:Q af)(d:Nat)(e _:bJ):Prop:=
 g5 b 0 a c λ_ f=>ap (bn .eql f (.Z 2)) λf=>hf f b c d λc d g=>xe f c d g 0 a λc d g=>eU f (bn .eql c (.Z 6)) d g λc d g=>cS (λc=>hf c b d g λb d f=>xe c b d f 0 a λa b d=>eU c (bn .eql a (.Z 24)) b d λa b d=>cS (λa=>e a b d) λb=>aR c (b .zT) (b a)) λa=>aR f (a .zT) (a c)
def ak2:c2 X 104 [a0] h j ah av=ν X a0 h j ah av:=Zk
def ak1:cQ X 104 1=true:=Zk
def abS(a:aK)(b:D)(c:Q af)(d:Nat)(e _:bJ):Prop:=
 ha a c d b λc d f=>jj c a d λg=>bk (λb c d=>ic b 1 2 a c λ_ f=>ap (bn .geq f (.Z 1)) λf=>Qb f (b 1) (λa=>gr 2 a) c d λb c d=>d5 f (aP a c b) c d λa b c=>d5 f (bn .leq a (.Z 64)) b c λa b c=>cS (λa=>e a b c) λb=>aR f (b a) (b .zF)) λh=>aR g (e0 1 c a d λ_ b=>ap (gm .not b) λb=>r4 b 2 c d f a λa c d=>d5 b (bn .eql a (.Z 1)) c d λa c d=>cS (λa=>e a c d) λc=>aR b (c a) (c .zF)) (h (zB (cP [b]) 1 c 2 .zF 4 g) d f)
def aoz:c2 X 90 [a0] h j ah av=abS X a0 h j ah av:=Zk
def aoy:cQ X 90 1=true:=Zk
def aaa(_:aK)(a:D)(b:Q af)(c:Nat)(d _:bJ):Prop:=
 ap (bn .lss a (.int .i32 97)) λe=>hf e a b c λb c f=>eU e (bn .gtr b (.int .i32 122)) c f λb c f=>cS (λb=>js b a c f λc e f=>d5 b (bn .lss c (.int .i32 65)) e f λc e f=>js b c e f λc e f=>hf c a e f λe f g=>eU c (bn .gtr e (.int .i32 90)) f g λe f g=>iQ b (λa=>cS (λb=>a b f g) λa=>aR c (a .zT) (a e)) f g λc e f=>cS (λb=>js b a e f λc e f=>d5 b (bn .lss c (.int .i32 48)) e f λc e f=>js b c e f λc e f=>hf c a e f λe f g=>eU c (bn .gtr e (.int .i32 57)) f g λe f g=>iQ b (λa=>cS (λb=>a b f g) λa=>aR c (a .zT) (a e)) f g λc e f=>cS (λb=>js b a e f λa c e=>d5 b (bn .neq a (.int .i32 95)) c e λa c e=>cS (λa=>d a c e) λc=>aR b (c a) (c .zF)) λa=>aR b (a c) (a .zF)) λa=>aR b (a c) (a .zF)) λa=>aR e (a .zT) (a b)
def alr:c2 X 119 [a0] h j ah av=aaa X a0 h j ah av:=Zk
def alq:cQ X 119 1=true:=Zk
def aac(a:aK)(b c:D)(d:Q af)(e:Nat)(f g:bJ):Prop:=
 aU a 134 [b,c,.zT] d e f g
def alv:c2 X 120 [a0,bb] h j ah av=aac X a0 bb h j ah av:=Zk
def alu:cQ X 120 2=true:=Zk
def aad(a:aK)(b c:D)(d:Q af)(e:Nat)(f g:bJ):Prop:=
 aU a 135 [b,c] d e (λa b c=>DK a λa=>f a b c) g
def alx:c2 X 121 [a0,bb] h j ah av=aad X a0 bb h j ah av:=Zk
def alw:cQ X 121 2=true:=Zk
def aae(a:aK)(b:D)(c:Q af)(d:Nat)(e f:bJ):Prop:=
 ap (nq b) λg=>ap (bn .lss g (.Z 2)) λg=>bk (λb c d=>Bt b 1 λg=>aU a 89 [g] c d (λc d g=>hs c λc h=>e4 b λi=>ap (c5 a d .eql 9 true i (.str [98,111,111,108])) λi=>hf i h d g λd g h=>eU i (c5 a g .eql 139 true d .nilIface) g h λd g h=>hf i d g h λd g h=>mD d (b 0) g h λg h j=>mD d (b 0) h j λb h j=>d5 d (oB b (.Z 0)) h j λb h j=>d5 d (bn .eql b (.int .u8 105)) h j λb h j=>js d c h j λc h j=>d5 d (e6 [.zF, .zF, .Z 0] [(1,1,b),(2,1,c)]) h j λb c h=>iQ d (λd=>aU a 123 [b] c h d f) c h λb c f=>d5 d (c5 a c .eql 9 false g b) c f λa b c=>j7 i (λe=>cS (λa=>e a b c) λb=>aR d (b a) (b .zF)) b c λa b c=>cS (λa=>e a b c) λb=>aR i (b .zT) (b a)) f) λa=>aR g (e .zF c d) (a (zA (cP [b]) 2 .zF 7 g) c d)
def alz:c2 X 122 [a0] h j ah av=aae X a0 h j ah av:=Zk
def aly:cQ X 122 1=true:=Zk
def abY(a:aK)(b c:D)(d:Q af)(e:Nat)(f g:bJ):Prop:=
 JQ c λh=>bk (λb c d=>fm b 1 0 λe g=>ap (ts a c .cap [37] [g]) λg=>e4 b λh=>ap (gz h) λh=>ap (bn .sub g h) λg=>ap (bn .sub e g) λe=>X6 e λg=>bk (λa b c=>e4 a λa=>f a b c) λf=>aR g (fm b 0 0 λh i=>ap (ts a c .cap [37] [i]) λi=>ap (ur a c 8 h none (some i) none) λh=>h0 (H6 a c d .append [37,3] [h,e]) c d λc d h=>e4 b λi=>ap (gz i) λi=>ap (ur a d 8 c none (some i) none) λa=>f (zB b 1 e 16 g 0 a) d h) (f (zA b 1 e 16 g) c d)) λa=>aR h (ap (some (D.iface 9 (.str [99,97,110,110,111,116,32,98,101,32,110,101,103,97,116,105,118,101]))) λa=>wS g a d e) (a (zA (cP [b,c]) 4 .aV 6 h) d e)
def aoL:c2 X 96 [a0,bb] h j ah av=abY X a0 bb h j ah av:=Zk
def aoK:cQ X 96 2=true:=Zk
def aag(a:aK)(b c d e:D)(f:Q af)(g:Nat)(h i:bJ):Prop:=
 ap (aP a f c) λj=>DF j λj=>ql a f c j λf=>bk (λb c d=>kR b 1 a c λe=>Bs e λe=>te b λb=>ql a c b e λa=>h (.tuple []) a d) λh=>ap (c5 a f .eql 54 true b .cJ) λj=>hf j b f g λf g k=>j7 j (λb=>aU a 125 [f] g k b i) g k λf g k=>eU j (gm .not f) g k λf g k=>cS (λf=>bk h λh=>aR f (r7 a g d 1 λa=>h (Z (cP [b,c,d,e]) 22 f) a k) (ap (aP a g c) λj=>ap (bn .gtr j (.Z 200)) λj=>bk h λh=>aR j (ap (aP a g d) λi=>md i 0 h λh i=>aR h (r7 a g d 22 λa=>i (zB (cP [b,c,d,e]) 22 f 30 j 34 h) a k) (i (zB (cP [b,c,d,e]) 22 f 30 j 34 h) g k)) (g5 b 8 a g λ_ l=>DN l h λh m=>e2 (λb c d e=>gW c 14 13 λf=>bk (λc d e=>td (λa c d=>ge a 14 λe=>b (Z a 14 e) c d) c 12 14 a d λb f=>kR c 3 a d λg=>jq a g [f] d e (λ_ a d=>b (Z c 6 f) a d) i) λa=>aR f (a (Z c 15 f) d e) (m (Z c 15 f) d e)) (Z (zC (cP [b,c,d,e]) 22 f 30 j 12 l 13 h) 14 (.Z 0)) g k))) λa=>aR j (a .zT) (a f)
def alD:c2 X 124 [a0,bb,b5,a3] h j ah av=aag X a0 bb b5 a3 h j ah av:=Zk
def alC:cQ X 124 4=true:=Zk
def aah(a:aK)(b:D)(c:Q af)(d:Nat)(e f:bJ):Prop:=
 fb (d+12) λg=>ap (aP a c (.ptr 7 0)) λh=>g5 b 0 a c λ_ i=>ap (nU a c 3 (.agg [.Z 0, .zF, .zF, .zF]) h i true) λh=>hs h λh i=>ap (hD [.Z 0, .zF, .zF, .zF] (d+9)) λj=>mE a c (d+9) j.1 j.2 λc d=>ap (gq a d 4 c h) λd=>ap (gm .not i) λh=>bk (λb c d=>fb (d+34) λd=>r9 b a c λg=>ap (bn .lss g (.Z 1)) λg=>RR g b c 0 a λc h=>yj g (bn .gtr c (.Z 26)) h λc h=>cS (λc=>ahj c (b 3) (λa=>gr 0 a) h λg h=>yj c (aP a h g) h λg h=>yj c (bn .geq g (.Z 0)) h λg h=>P8 c g h λg h=>DE g b 0 h 8 a λh i=>iP g (gz h) i λh i=>P9 g (b 3) (λa=>gr 0 a) i λi j=>iP g (aP a j i) j λi j=>iP g (bn .neq h i) j λh i=>P7 c (λa=>cS (λb=>a b i) λa=>aR g (a h) (a .zF)) i λg h=>cS (λc=>RR c b h 8 a λg h=>j7 c (λb=>aU a 136 [g, .cJ] h d b f) h d λd g h=>cS (λc=>bk (λb c d=>fb (d+33) λd=>ic b 3 1 a c λ_ g=>kz b 0 2 a c λ_ _ h=>ap (c5 a c .neq 9 true h (.str [])) λh=>ap (c5 a c .neq 4 false g h) λg=>ahj g (b 3) (λa=>gr 1 a) c λc h=>yj g (aP a h c) h λc h=>P8 g c h λc h=>DE c b 0 h 2 a λh i=>iQ c (λb=>aU a 97 [h] i d b f) i d λd h i=>iP c (gm .not d) h λd h=>P7 g (λa=>cS (λb=>a b h) λa=>aR c (a d) (a .zF)) h λc d=>cS (λc=>RR c b d 3 a λd g=>P8 c d g λd g=>DE d b 0 g 0 a λg h=>iP d (bn .neq g (.Z 6)) h λg h=>P7 c (λa=>cS (λb=>a b h) λa=>aR d (a g) (a .zF)) h λd g=>cS (λc=>bk (λb c d=>ic b 3 2 a c λ_ g=>ap (gm .not g) λg=>RP g b c d a λc d h=>d5 g (e6 [.zF, .zF, .Z 0] []) d h λd h i=>d5 g (c5 a h .neq 44 false c d) h i λc d h=>cS (λc=>Qa c (b 3) (λa=>gr 2 a) d h λd g h=>eU c (aP a g d) g h λd g h=>hf c d g h λd g h=>RP d b g h a λg h i=>iQ d (λb=>aU a 90 [g] h i b f) h i λg h i=>d5 d (gm .not g) h i λg h i=>j7 c (λa=>cS (λb=>a b h i) λa=>aR d (a g) (a .zF)) h i λd g h=>cS (λc=>Qa c (b 3) (λa=>gr 3 a) g h λd g h=>eU c (aP a g d) g h λd g h=>eU c (gm .not d) g h λd g h=>hf c d g h λd g h=>mD d (b 0) g h λg h i=>Bw d g h i 7 a λg h i=>d5 d (bn .neq g (.int .u64 0)) h i λg h i=>j7 c (λa=>cS (λb=>a b h i) λa=>aR d (a g) (a .zF)) h i λd g h=>cS (λc=>bk (λb c d=>r9 b a c λg=>bk (λ_ a b=>e .zT a b) λh=>md g 1 h λh i=>aR h (e4 b λb=>aU a 137 [b] c d e f) (ap (bn .eql g (.Z 19)) λf=>bk (λb c d=>cw (b 128) λf=>bk i λg=>aR f (kz b 0 7 a c λ_ _ a=>ap (bn .leq a (.int .u64 63)) λa=>e a c d) (cw (b 123) λf=>md f 21 g λf g=>aR f (kz b 0 8 a c λ_ _ b=>xd 1 b λb=>ap (aP a c b) λb=>g5 b 0 a c λ_ f=>ap (bn .eql f (.Z 1)) λf=>hf f b c d λc d g=>xe f c d g 0 a λc d g=>eU f (bn .eql c (.Z 4)) d g λc d g=>hf f c d g λc d g=>js c b d g λd g h=>Bw c d g h 8 a λd g h=>d5 c (gz d) g h λd g h=>d5 c (bn .eql d (.Z 1)) g h λd g h=>j7 f (λa=>cS (λb=>a b g h) λa=>aR c (a d) (a .zF)) g h λc d g=>hf f c d g λc d g=>js c b d g λd g h=>Bw c d g h 8 a λd g h=>d5 c (gy 1 d (.Z 0)) g h λd g h=>d5 c (aP a g d) g h λd g h=>d5 c (c5 a g .neq 54 true d .cJ) g h λd g h=>j7 f (λa=>cS (λb=>a b g h) λa=>aR c (a d) (a .zF)) g h λc d g=>hf f c d g λc d g=>js c b d g λb d g=>Bw c b d g 8 a λb d g=>d5 c (gy 1 b (.Z 0)) d g λb d g=>d5 c (aP a d b) d g λb d g=>Bw c b d g 0 a λa b d=>d5 c (bn .eql a (.Z 1)) b d λa b d=>j7 f (λe=>cS (λa=>e a b d) λb=>aR c (b a) (b .zF)) b d λa b c=>cS (λa=>e a b c) λb=>aR f (b .zT) (b a)) (g (Z b 136 f) c d))) λa=>aR f (a (zB b 123 g 124 h 128 f) c d) (ap (bn .eql g (.Z 20)) λe=>a (zC b 123 g 124 h 128 f 128 e) c d))) λa=>aR c (e .zF g h) (a (Z b 119 c) g h)) λa=>aR c (a .zT) (a d)) λa=>aR c (a .zT) (a d)) λa=>aR g (a c) (a .zF)) λa=>aR c (e .zF g i) (a (Z b 84 c) g i)) λa=>aR c (a .zT) (a d)) λa=>aR g (a .zT) (a c)) λa=>aR c (e .zF g h) (a (Z b 51 c) g h)) λa=>aR c (a .zT) (a d)) λa=>aR c (a .zT) (a g)) λa=>aR g (a .zT) (a c)) λe=>aR h (ap (e6 [.Z 0, .zF, .zF, .zF] [(0,1, .Z 2)]) λf=>ap (gq a d 4 c f) λa=>e (zC (cP [b]) 2 .zF 3 c 4 i 16 h) a g) (e (zC (cP [b]) 2 .zF 3 c 4 i 16 h) d g)
def alF:c2 X 125 [a0] h j ah av=aah X a0 h j ah av:=Zk
def alE:cQ X 125 1=true:=Zk
def Sc(a:aK)(b c:D)(d:Q af)(e:Nat)(f g:bJ):Prop:=
 hO b (λ_ a b=>f (.Z (-1)) a b) λh i=>e2 (λb c d e=>gW c 8 7 λh=>bk (λc d e=>bk (λa c d=>ge a 8 λe=>b (Z a 8 e) c d) λb=>GW c 1 λh i j=>ap (aP a d j) λj=>jq a i [j] d e (λa d e=>bk b λb=>aR a (f h d e) (b (zA c 5 h 16 a) d e)) g) λa=>aR h (a (Z c 9 h) d e) (i (Z c 9 h) d e)) (zB (cP [b,c]) 4 (.Z 0) 7 h 8 (.Z 0)) d e
def abD:c2 X 77 [a0,bb] h j ah av=Sc X a0 bb h j ah av:=Zk
def abC:cQ X 77 2=true:=Zk
def aap(a:aK)(b c d:D)(e:Q af)(f:Nat)(g h:bJ):Prop:=
 h0 (Xn a e f b) e f λe f i=>bk (λ_ a b=>g (.Z (-1)) a b) λj=>e2 (λb c d e=>cw (c 10) λf=>HJ (xW a k4 true d e (k5 f)) d e λd e f=>ap (n8 0 d) λi=>bk (λc d e=>bk b λb=>cw (c 11) λf=>ap (n8 1 f) λf=>cw (c 11) λi=>ap (n8 2 i) λi=>te c λj=>jq a j [i] d e (λd e h=>cw (c 2) λj=>DM a e 4 d j b λa b=>aR a (g f e h) (b (zB c 7 f 8 i 19 a) e h)) h) λa=>aR i (a (zA c 11 d 12 i) e f) (j (zA c 11 d 12 i) e f)) (zA (cP [b,c,d]) 6 (.Z 0) 10 e) f i
def alV:c2 X 134 [a0,bb,b5] h j ah av=aap X a0 bb b5 h j ah av:=Zk
def alU:cQ X 134 3=true:=Zk
def aaq(a:aK)(b c:D)(d:Q af)(e:Nat)(f _:bJ):Prop:=
 hO b (λ_ a b=>f (.Z (-1)) a b) λg h=>e2 (λb c d e=>gW c 8 7 λg=>bk (λc d e=>bk (λa c d=>ge a 8 λe=>b (Z a 8 e) c d) λb=>GW c 1 λg h i=>ap (aP a d i) λi=>DM a d 9 h i b λa b=>aR a (f g d e) (b (zA c 5 g 16 a) d e)) λa=>aR g (a (Z c 9 g) d e) (h (Z c 9 g) d e)) (zB (cP [b,c]) 4 (.Z 0) 7 g 8 (.Z 0)) d e
def alX:c2 X 135 [a0,bb] h j ah av=aaq X a0 bb h j ah av:=Zk
def alW:cQ X 135 2=true:=Zk
def aar(a:aK)(b c:D)(d:Q af)(e:Nat)(f g:bJ):Prop:=
 aU a 142 [b,c] d e (λa b c=>DK a λa=>f a b c) g
def alZ:c2 X 136 [a0,bb] h j ah av=aar X a0 bb h j ah av:=Zk
def alY:cQ X 136 2=true:=Zk
def aas(a:aK)(b:D)(c:Q af)(d:Nat)(e f:bJ):Prop:=
 lx b 4 λg=>e0 2 g a c λ_ g=>lx b 4 λh=>e0 1 h a c λ_ h=>bk (λb c d=>r9 b a c λg=>ap (bn .eql g (.Z 1)) λg=>RP g b c d a λc d h=>iQ g (λb=>aU a 90 [c] d h b f) d h λc d f=>cS (λc=>mD c (b 3) d f λd f g=>d5 c (bn .eql d (.Z 64)) f g λd f g=>js c d f g λd f g=>sM d (b 0) f g λf g h=>xe d f g h 7 a λa f g=>sM d (b 3) f g λb f g=>eU d (bn .shr a b) f g λa b f=>eU d (bn .eql a (.int .u64 0)) b f λa b f=>iQ c (λc=>cS (λa=>c a b f) λb=>aR d (b .zT) (b a)) b f λa b d=>cS (λa=>e a b d) λb=>aR c (b a) (b .zF)) λa=>aR g (a c) (a .zF)) λa=>aR h (Bs g λe=>a (zC (cP [b]) 2 .zF 3 g 13 h 3 e) c d) (a (zB (cP [b]) 2 .zF 3 g 13 h) c d)
def al1:c2 X 137 [a0] h j ah av=aas X a0 h j ah av:=Zk
def al0:cQ X 137 1=true:=Zk
def aay(a:aK)(b c:D)(d:Q af)(e:Nat)(f _:bJ):Prop:=
 hO b (λ_ a b=>f (.Z (-1)) a b) λg h=>e2 (λb c d e=>gW c 8 7 λg=>bk (λc d e=>bk (λa c d=>ge a 8 λe=>b (Z a 8 e) c d) λb=>GW c 1 λg h i=>ap (aP a d i) λi=>DM a d 54 h i b λa b=>aR a (f g d e) (b (zA c 5 g 16 a) d e)) λa=>aR g (a (Z c 9 g) d e) (h (Z c 9 g) d e)) (zB (cP [b,c]) 4 (.Z 0) 7 g 8 (.Z 0)) d e
def amd:c2 X 142 [a0,bb] h j ah av=aay X a0 bb h j ah av:=Zk
def amc:cQ X 142 2=true:=Zk
def aji(a:aK)(b:bJ):fB:=λc d e=>n0 a [.tmp 2] b c c.bh d e
def aiM(a:aK)(b c:bJ):tm:=λd e f g=>wR a [.tmp 2] b c d e d.bh f g
def η(a:aK)(b:D)(c:Q af)(d:Nat)(e f:bJ):Prop:=
 ha a c d b λc d g=>gO a d g (.map g) (.map [] 0) λd g h=>ap (e6 [.mF, .aV] [(0,1,d)]) λd=>ha a g h d λd g h=>ap (hD [.cJ] h) λi=>nB a g h i.1 i.2 1 d λd g h=>ap (cG a h 6 c) λi=>aU a 32 [i] h g (λg h i=>bk (λb c d=>ic b 1 5 a c λ_ f=>hO f (λb c d=>kR b 3 a c λf=>aji a e (Z b 2 f) c d) λe g=>e2 (λb c d e=>gW c 56 55 λf=>bk (λc d e=>bk (λa c d=>ge a 56 λe=>b (Z a 56 e) c d) λb=>DG c 56 54 4 λf g=>DD a d g e λd e g=>jj d a g λh=>DN h b λb i=>e2 (λb c d e=>gW c 64 63 λf=>bk (λc d e=>bk (λa c d=>ge a 64 λe=>b (Z a 64 e) c d) λb=>DG c 64 62 1 λf g=>ap (aP a d g) λg=>Bz c 3 a d 0 λh=>RI a d h g λh=>RL h e a d λd e h i=>r4 d 9 e i h a λh i j=>d5 d (bn .lss h (.Z 0)) i j λh i j=>cS (λh=>bk b λb=>aR h (cw (c 8) λk=>tc 9 e a i k λi=>tc 10 e a i f λi=>fb (j+7) λj=>Bz c 3 a i 0 λk=>ap (cG a i 11 e) λl=>h0 (uc a i j 9 k g l) i j λ_ a i=>b (Z (zC c 10 f 11 g 12 e 13 d) 83 h) a i) (b (Z (zC c 10 f 11 g 12 e 13 d) 83 h) i j)) λa=>aR d (a h) (a .zF)) λa=>aR f (a (Z c 65 f) d e) (i (Z c 65 f) d e)) (Z (zC c 9 d 8 f 62 h 63 b) 64 (.Z 0)) g e) λa=>aR f (a (Z c 57 f) d e) (g (Z c 57 f) d e)) (zB b 54 f 55 e 56 (.Z 0)) c d) λj=>Gg a 97 g [19,20] (un a (λ_ _ b _ _ c d e=>cw (c 19) λf=>Nr e a d c 20 λa d e=>b (zA c 4 f 5 a) e d) λ_ _ b _ _ c d e=>bk b λb=>fb (e+13) λf=>Bz c 3 a d 0 λg=>ic c 5 0 a d λ_ h=>RI a d g h λg=>hs g λg h=>RH e 10 a d λd e=>ap (gq a e 11 d g) λd=>Bx h b λb e=>aR b (fb (f+10) λf=>Bz c 3 a d 0 λg=>ic c 5 0 a d λ_ i=>fm c 4 5 λj k=>ap (cG a d 8 k) λk=>ap (e6 [.Z 0, .str [], .Z 0, .zF, .zF, .Z 0, .str [], .Z 0, .zF, .Z 0, .Z 0] [(0,1,j),(1,8,k),(9,1, .Z (-1)),(10,1, .Z (-1))]) λj=>h0 (uc a d f 9 g i j) d f λ_ d f=>fb (f+12) λg=>kR c 3 a d λi=>Bz c 3 a d 1 λj=>ic c 5 0 a d λ_ k=>ap (hC 1 [.str []] [(0,1,k)] (f+7)) λk=>mE a d (f+7) k.1 k.2 λd f=>h0 (jC a f g 1 j d) f g λd f g=>lx i 1 λj=>kR c 3 a f λk=>gb k (some i) (ql a f j d λa=>e (zA c 7 h 32 b) a g)) (e (zA c 7 h 32 b) d f)) j (Eu 0 j λ_ _ _ _=>False) (aji a e) (aiM a e f) (zC (cP [b]) 1 c 2 .cJ 3 d 18 g) h i) (aiM a e f (h5 [17,18] (zB (cP [b]) 1 c 2 .cJ 3 d)))
def alc:B7 X 10 [a0] h j ah av=η X a0 h j ah av:=Zk
def alb:cQ X 10 1=true:=Zk
def aab(a:aK)(b c:D)(d:Q af)(e:Nat)(f _:bJ):Prop:=
 ap (hD [.Z 0, .str [], .Z 0, .zF, .zF, .Z 0, .str [], .Z 0, .zF, .Z 0, .Z 0] e) λg=>gO a d e g.1 g.2 λd e g=>ap (c5 a e .eql 41 true b .cJ) λh=>bk (λb c d=>r9 b a c λe=>te b λg=>RI a c e g λe=>RL e d a c λc d e g=>ap (cG a g 11 d) λd=>jy b 4 a g 11 d λa b=>f (.tuple [b,c]) a e) λi=>aR h (ap (e6 [.Z 0, .str [], .Z 0, .zF, .zF, .Z 0, .str [], .Z 0, .zF, .Z 0, .Z 0] []) λb=>r6 a e 11 d b λa b=>f (.tuple [b, .zF]) a g) (i (zB (cP [b,c]) 4 d 5 .zF 9 h) e g)
def alN:c2 X 12 [a0,bb] h j ah av=aab X a0 bb h j ah av:=Zk
def alM:cQ X 12 2=true:=Zk
def aaf(a:aK)(b:D)(c:Q af)(d:Nat)(e f:bJ):Prop:=
 ha a c d b λc d g=>bk (λb c d=>ic b 1 2 a c λ_ b=>aU a 116 [b] c d (λb c d=>ap (c5 a c .add 9 true (.str [117]) b) λa=>e a c d) f) λh=>r5 a d 3 c 90 g f λd g i=>Bx d h λd h=>aR d (e (.str []) g i) (jj c a g λj=>bk h λh=>aR j (e (.str [98,111,111,108]) g i) (e0 1 c a g λ_ k=>bk h λh=>aR k (e0 2 c a g λ_ b=>aU a 116 [b] g i (λb c d=>ap (c5 a c .add 9 true (.str [105]) b) λa=>e a c d) f) (h (Z (zC (cP [b]) 1 c 2 (.str []) 3 d 7 j) 10 k) g i)))
def alB:c2 X 123 [a0] h j ah av=aaf X a0 h j ah av:=Zk
def alA:cQ X 123 1=true:=Zk
end
noncomputable section
def hk:Nat->bD->Nat
 |0,_=>0
 |z+1,E=>E.args.foldl (λa H=>max a (hk z H)) 0+1
def avj:∀z E,hk z E<=z:=by
 intro z
 induction z with
 |zero=>intro E;simp[hk]
 |succ z ai=>
  intro E
  have:∀(l:List bD) a,a<=z->l.foldl (λa H=>max a (hk z H)) a<=z:=by
   intro l
   induction l with
   |nil=>intro a gx;exact gx
   |cons H l L5=>intro a gx;exact L5 _ (Nat.max_le.2 ⟨gx,ai H⟩)
  have:=this E.args 0 Zo
  show _+1<=z+1
  omega
def azo{C:aK}{h:Q af}(H b:Nat):ts C h .max [3,3] [.Z (H:Int), .Z (b:Int)]=some (.Z ((max H b:Nat):Int)):=by
 show pC true (.Z (H:Int)) [.Z (b:Int)]=_
 simp only[pC,fN,u9,ZE]
 congr 2
 split<;>simp_all<;>omega
def MJ{X:cl}{h:Q af}(b:Nat):c5 X h .eql 54 true (.ptr b 0) .cJ=some .zF:=Zk
section
variable{X:cl}{h S' aI aM:Q af}{j an aO aZ aH bP:Nat}{aW:List Tok}{i:Nat}
def au3(au:dj X):∀(z:Nat),z<=1000->∀h j P E v,(o X).a2<=j->cE X h P E v->(∀e,P e->e<j)->
 aU X 74 [v, .Z (z:Int)] h j (λac S' an=>ac= .Z (hk z E:Nat)/\ba X h j S' an) (λ_ _ _=>False):=by
 intro z
 induction z with
 |zero=>
  intro _ h j P E v aE bC bq
  refine zz au (aby X) ?_
  rw[abz]
  unfold Sb
  obtain⟨b,rfl,ag,_⟩:=bC.ptr
  have fP:=bq b ag
  refine cI @MJ @Int.natCast_zero ⟨?_⟩
  exact⟨rfl,dz⟩
 |succ z ai=>
  intro aJ h j P E v aE bC bq
  refine zz au (aby X) ?_
  rw[abz]
  unfold Sb
  obtain⟨b,aS,cO,br,rfl,ag,a0,bb,b5,a3,a4,a5,hR,io,ip,cB,has⟩:=bC.open
  have fP:=bq b ag
  have d0:=cB.len
  have rH:=has.len
  have lK:((z+1:Nat):Int)=(z:Int)+1:=Zo
  have d:decide (((z+1:Nat):Int)=0)=false:=by simp;omega
  have bz:bn .sub (.Z ((z+1:Nat):Int)) (.Z 1)=some (.Z (z:Int)):=by rw[wD Zo Zo];congr 2;omega
  have bp:=cB.many
  rw[Zi,rH]at bp
  rw[Zi,rH]at d0
  refine fO @MJ @d @bz @ip @d0 ⟨?_⟩
  refine fh (λm I S' aN=>∃(S:Nat) (a:Nat),I.g 1=some (.Z (z:Int))/\I.g 5=some (.Z (a:Int))/\I.g 19=some aS/\I.g 20=some (.Z (E.args.length:Int))/\I.g 21=some (.Z (S:Int))/\S+m=E.args.length/\a<=z/\ba X h j S' aN/\hk (z+1) E=(E.args.drop S).foldl (λa H=>max a (hk z H)) a+1)
   E.args.length ⟨0,0,a8,fq,a8,a8,fq,Zo,Zo,ba.refl _ _,by simp[hk]⟩ ?_
  rintro m I aM aZ ⟨S,a,t1,t5,rU,qf,rV,bE,gx,bx,b2⟩
  have fJ:=bx.le
  have cF:=zx S
  have f0:=zx a
  cases m with
  |zero=>
   have cy:=zt S E.args.length
   rw[ZC Zo]at b2
   simp only[List.foldl_nil]at b2
   refine fO @rV @qf @t5 @cy @f0 ⟨?_⟩
   exact⟨by first|rw[b2]|(simp only[b2];rfl),bx⟩
  |succ m=>
   have cy:=zu S E.args.length
   obtain⟨H,az⟩:=zv E.args S
   obtain⟨v,bB,auv⟩:=has.get S H az
   obtain⟨bI,bN,cH⟩:=(cB.aa λe B=>bx.aa e (bq e B)).one bB
   refine d9 @rV @qf @t5 @rU @t1 @cy (Za @bI @bN) ⟨?_⟩
   refine(ai Zo aM aZ P H v Zo (auv.aa λe B=>bx.aa e (bq e B)) (λe B=>zs (bq e B))).Zm ?_
   rintro w8 a1 bi ⟨rfl,ck⟩
   have iO:=ck.le
   have kj:ts X a1 .max [3,3] [.Z (a:Int), .Z ((hk z H:Nat):Int)]=some (.Z ((max a (hk z H):Nat):Int)):=azo _ _
   refine dI @kj @rV @cF ⟨?_⟩
   refine⟨m,Zo,S+1,max a (hk z H),aL t1,a8,aL rU,aL qf,a8,Zo,Nat.max_le.2 ⟨gx,avj z H⟩,bx.trans ck, ?_⟩
   have aF:E.args.drop S=H::E.args.drop (S+1):=by
    obtain⟨ae,B⟩:=Zc.1 az
    rw[Zq ae,B]
   rw[aF,ZS]at b2
   exact b2
end
end
end Go.Proofs.YtpeabpmnlmaabaaGreatDoor

