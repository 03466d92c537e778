/- Part of the proof of the last text; no conditions -/
import Derived.Test.YtpeabpmnlmaabaaGreatDoorYh
set_option maxHeartbeats 8000000
set_option linter.all false
namespace Go.Proofs.YtpeabpmnlmaabaaGreatDoor
open Go.ba Go.aQ
noncomputable section
def d6(d:ey):List D:=[.str d.name, .Z d.at_, .bool d.ty.b, .bool d.ty.s, .Z d.ty.w, .str d.on, .Z d.eP, .bool d.no]
def aiW(k:List Tok):∀r∈k.map cd,r.length=7:=by
 intro r Y;obtain⟨t,_,rfl⟩:=ZG.1 Y;rfl
def SM(k:List ey):∀r∈k.map d6,r.length=8:=by
 intro r Y;obtain⟨t,_,rfl⟩:=ZG.1 Y;rfl
def aC5{s:aX}{k:List Tok}{x:Tok}{bM:List Tok}(a:ee s k=some (.ok (x,bM))):bM.length+1=k.length:=by
 cases k with
 |nil=>cases a
 |cons e k=>
  simp only[ee]at a
  split at a
  ·simp only[ok,Zf,Except.ok.injEq,YT]at a
   rw[<-a.2];rfl
  ·cases a
structure M9(X:ch)(aG bQ:Nat)(aU:List Tok)(j:Nat)(eF:R af)(loc:Bool)(H:cU)(h:R af)(n:Nat)(s:D)(ds:List ey)(cw:List Nat)(i:Nat):Prop where
 t0:H.g 0=some (.ptr aG 0)
 t1:H.g 1=some (.bool loc)
 t5:H.g 5=some s
 aS:gw X h s 8 (ds.map d6).flatten cw
 cw:∀e∈cw,j<=e/\e<n
 par:aQ X h aG bQ aU i
 fr:cg X [aG] eF j h n
section
variable{X:ch}{h S' aK aJ:R af}{j am aM aR aG bQ:Nat}{aU:List Tok}{i:Nat}
def NQ(ds:List ey):(ds.map d6).flatten.length=ds.length*8:=by rw[uA (SM ds),Zi]
def aCy(ds:List Tok):(ds.map cd).flatten.length=ds.length*7:=by rw[uA (aiW ds),Zi]
def GR(au:di X){n:Nat}(kB:aU.length<=100000)(aw:i6 X h j aG bQ aU i){loc:Bool}{r:Except Int (List ey×List Tok)}(Y:ic n loc [] (aU.drop i)=some r):
 aW X 72 [.ptr aG 0, .bool loc] h j (λac S' am=>∃ds cA b,r= .ok (ds,aU.drop cA)/\dL X S' (dx j am) b ac 8 (ds.map d6)/\aQ X S' aG bQ aU cA/\cg X [aG] h j S' am) (jm X aG h j r):=by
 refine zx au (amX X) ?_
 rw[amY]
 unfold aaX
 have g6:=aw.a6
 have ky:=aw.hK
 have ir:=aw.b7
 have j2:=aw.hg
 refine gk ?_
 refine fp (λm H S' aP=>∃s ds cw cA,M9 X aG bQ aU j h loc H S' aP s ds cw cA/\ds.length+(aU.drop cA).length<=aU.length/\ic m loc ds (aU.drop cA)=some r)
  n ⟨.aT,[],[],i,⟨be,be,be, .inl (.inl ⟨rfl,rfl,rfl⟩),Zs,aw.par,cg.refl _ _ _⟩,Zs,Y⟩ ?_
 clear Y
 rintro m H aK aM ⟨s,ds,cw,hA,m3,K7,Y⟩
 cases m with
 |zero=>simp[ic]at Y
 |succ m=>
 unfold ic at Y
 refine gk ?_
 have jG:=m3.fr.le
 refine jW (λH S' aP=>∃(ci:List Tok) (rJ:D) (uq:List Nat) (cA:Nat),M9 X aG bQ aU j h loc H S' aP s ds cw cA/\aM<=aP/\(∀e∈cw,e<aM)/\H.g 6=some rJ/\gw X S' rJ 7 (ci.map cd).flatten uq/\(∀e∈uq,aM<=e/\e<aP)/\ds.length+ci.length+(aU.drop cA).length<=aU.length/\
  BA loc (ic m loc) ds ci (aU.drop cA)=some r) (λT bJ=> ?_) ?_
 ·refine fp (λy H S' aP=>∃(ci:List Tok) (rJ:D) (uq:List Nat) (cA:Nat) (b:Bool),M9 X aG bQ aU j h loc H S' aP s ds cw cA/\aM<=aP/\(∀e∈cw,e<aM)/\H.g 6=some rJ/\H.g 7=some (.bool b)/\gw X S' rJ 7 (ci.map cd).flatten uq/\(∀e∈uq,aM<=e/\e<aP)/\ds.length+ci.length+(aU.drop cA).length<=aU.length/\
   (b=true->andThen (fh y ci (aU.drop cA)) (λci k=>BA loc (ic m loc) ds ci k)=some r)/\(b=false->BA loc (ic m loc) ds ci (aU.drop cA)=some r))
   m ⟨[], .aT,[],hA,true,⟨aZ m3.t0,aZ m3.t1,aZ m3.t5,m3.aS,m3.cw,m3.par,m3.fr⟩,Zo,λe B=>(m3.cw e B).2,be,be, .inl (.inl ⟨rfl,rfl,rfl⟩),Zs,by simpa using K7,λ_=>Y,λa=>(by cases a)⟩ ?_
  clear Y m3 K7
  rintro y H aJ aR ⟨ci,rJ,uq,gB,b,ln,fC,eU,t6,t7,Lp,fY,Eo,B,k7⟩
  have f0:=aw.go ln.par ln.fr.le
  have t0:=ln.t0
  have t1:=ln.t1
  have t5:=ln.t5
  refine o1 @t7 ⟨?_⟩
  refine gk ?_
  cases b with
  |false=>
   refine wZ ?_
   exact bJ _ _ _ ⟨ci,rJ,uq,gB,⟨aZ t0,aZ t1,aZ t5,ln.aS,ln.cw,ln.par,ln.fr⟩,fC,eU,aZ t6,Lp,fY,Eo,k7 rfl⟩
  |true=>
   have Y:=B rfl
   cases y with
   |zero=>simp[fh,andThen]at Y
   |succ y=>
   unfold fh at Y
   refine w0 ?_
   refine cL @t6 @t0 ⟨?_⟩
   cases aE:aU.drop gB with
   |nil=>rw[aE]at Y;simp[iI,andThen]at Y
   |cons x k=>
   rw[aE]at Y
   simp only[iI]at Y
   refine(CO au f0.a6 f0.par f0.b7 f0.hK f0.hg f0.many (fU aE).1 1).mono ?_ ?_
   ·rintro wE a1 bn ⟨aH,rfl,gV,eg⟩
    have jf:=eg.le
    rw[Zp aH]at Y
    simp only[andThen,ok]at Y
    rw[<-(fU aE).2]at Y
    have eT:(aU.drop gB).length=(aU.drop (gB+1)).length+1:=by rw[aE,(fU aE).2];rfl
    have mq:∀e,j<=e->e<aR->U X a1 e=U X aJ e:=λe J Q=>eg.aa e Q Zx
    have ajL:=ln.aS.aa (S':=a1) (λe B=>mq e (ln.cw e B).1 (ln.cw e B).2)
    have avG:=Lp.aa (S':=a1) (λe B=>mq e (zq (fY e B)) (fY e B).2)
    have Hi:=ln.fr.trans eg
    refine ce cd.eq_1 ⟨?_⟩
    have kA:lG X (bi X a1 bn (zu (cd x) 7)) 7 (.slice bn 0 1 1)=some (1,cd x):=sJ (bb Zo) (nk _) rfl _
    obtain⟨aBE,bA,ab4,iE,qE,aty,fH⟩:=(avG.aa (S':=bi X a1 bn (zu (cd x) 7)) (λe B=>aC Zo (zq (fY e B).2))).append (j:=bn+1) Zd kA rfl Zd rfl (by rw[aCy];simp only[cd,ZF,Z3];omega) Zo (λe B=>zq (fY e B).2)
    refine j8 iE ?_
    have d1:∀e,e<bn->e∉uq->U X bA e=U X a1 e:=λe J Q=>by rw[fH e Zo Q,aC Zo Zo]
    have dX:∀e,e<aM->e∉uq:=λe J Q=>zq (fY e Q)
    have hy:aQ X bA aG bQ aU (gB+1):=gV.aa (d1 _ Zo (dX _ Zo)) (d1 _ Zo (dX _ Zo))
    have eG:cg X [aG] h j bA (bn+1+1):=⟨Zo,λb ag bU=>by rw[d1 b Zo (dX _ Zo)];exact Hi.aa b ag bU⟩
    have ajM:=ajL.aa (S':=bA) (λe B=>d1 e (zq (eU e B)) (dX _ (eU e B)))
    have fb:(ci.map cd).flatten++cd x=((ci++[x]).map cd).flatten:=by simp
    rw[fb]at qE
    have OP:∀e∈ab4,aM<=e/\e<bn+1+1:=λe B=>by
     rcases aty e B with rfl|a
     ·omega
     ·have:=fY e a;omega
    refine ce @t0 ⟨?_⟩
    have lg:=aw.go hy eG.le
    obtain⟨w,fZ,pN⟩:∃w fZ,aU.drop (gB+1)=w::fZ:=by
     cases a:aU.drop (gB+1)with
     |nil=>rw[a]at Y;simp[h9,lj]at Y
     |cons w fZ=>exact⟨w,fZ,rfl⟩
    refine(oF au lg pN [44]).Zm ?_
    rintro va bN cf ⟨rfl,hz,dG⟩
    have iH:=dG.le
    have dY:∀e,j<=e->e<bn+1+1->U X bN e=U X bA e:=λe J Q=>dG.aa e Q Zx
    refine cI ⟨?_⟩
    refine⟨y,Zo,ci++[x],aBE,ab4,_,g3 w [44],⟨aZ t0,aZ t1,aZ t5,ajM.aa (λe B=>dY e (ln.cw e B).1 (zq (eU e B))),λe B=>⟨(ln.cw e B).1,zq (eU e B)⟩,hz,eG.trans dG⟩,Zo,eU,be,be, .inl (qE.aa (λe B=>dY e (zq (OP e B)) (OP e B).2)),λe B=>⟨(OP e B).1,zq (OP e B).2⟩, ?_,λa=> ?_,λa=> ?_⟩
    ·have bt:=congrArg List.length (fU pN).2
     have b4:(aU.drop (gB+1)).length=fZ.length+1:=by rw[pN];rfl
     split
     ·simp only[ZK,List.length_singleton];omega
     ·simp only[ZK,List.length_singleton];omega
    ·rw[pN]at Y
     simp only[h9,lj,a,ZE]at Y ⊢
     rw[(fU pN).2]
     exact Y
    ·rw[pN]at Y
     simp only[h9,lj,a,Zy,ZC]at Y ⊢
     rw[pN]
     exact Y
   ·rintro wE a1 bn ⟨aH,rfl,eg⟩
    rw[Zh aH]at Y
    simp only[andThen,bad,Zf]at Y
    subst Y
    exact⟨_,rfl,rfl,ln.fr.trans eg⟩
 ·clear Y m3 K7
  rintro H aJ aR ⟨ci,rJ,uq,gB,ln,fC,eU,t6,Lp,fY,Eo,Y⟩
  have t0:=ln.t0
  have t1:=ln.t1
  have t5:=ln.t5
  have du:=ln.fr
  have tG:=ln.aS
  have y7:=ln.cw
  have dD:=ln.par
  clear ln
  refine ce @t0 ⟨?_⟩
  refine eL (λa1=>U X a1 aR=zu [.str [58]] 1/\bf X aJ aR a1 (aR+1)) ⟨bb Zo,dA⟩ ?_
  rintro a1 ⟨Tz,ck⟩
  have nS:=aw.go (dD.ex ck Zo Zo) (by omega:j<=aR+1)
  have eg:=du.trans (cg.of ck)
  unfold BA at Y
  rcases gK Y with ⟨F,ay,rfl⟩|⟨lN,f6,ay,Y⟩
  ·exact(jZ au nS Zo Zo Tz ay).mono (λac S' am a=>by obtain⟨E,cA,a,_⟩:=a;cases a) (λac S' am a=>a.of eg (λ_ a=>by cases a;rfl))
  refine(jZ au nS Zo Zo Tz ay).mono ?_ (λac S' am a=>by obtain⟨F,a,_⟩:=a;cases a)
  rintro v4 bA cv ⟨aDg,i4,uN,_,hy,eG⟩
  cases uN
  have ae7:=aC5 ay
  have iG:=eG.le
  have lg:=nS.go hy iG
  have y0:=eg.trans eG
  have d1:∀e,j<=e->e<aR->U X bA e=U X aJ e:=λe J Q=>by rw[eG.aa e Zo Zx,ck.aa e Q]
  have qE:=tG.aa (S':=bA) (λe B=>d1 e (y7 e B).1 (y7 e B).2)
  have afV:=Lp.aa (S':=bA) (λe B=>d1 e (zq (fY e B)) (fY e B).2)
  clear tG Lp d1 Tz ck nS eg eG ay du dD
  refine ce @t0 ⟨?_⟩
  cases pN:aU.drop i4 with
  |nil=>rw[pN]at Y;simp[iI,andThen]at Y
  |cons t fZ=>
  rw[pN]at Y
  simp only[iI]at Y
  refine(CO au lg.a6 lg.par lg.b7 lg.hK lg.hg lg.many (fU pN).1 3).mono ?_ (λva bN cf a=>by
   obtain⟨aH,rfl,dG⟩:=a
   rw[Zh aH]at Y
   simp only[andThen,bad,Zf]at Y
   subst Y
   exact⟨_,rfl,rfl,y0.trans dG⟩)
  rintro va bN cf ⟨aH,rfl,hz,dG⟩
  have iH:=dG.le
  rw[Zp aH]at Y
  simp only[andThen,ok]at Y
  rw[<-(fU pN).2]at Y
  have ae8:(aU.drop i4).length=(aU.drop (i4+1)).length+1:=by rw[pN,(fU pN).2];rfl
  have yZ:=y0.trans dG
  have dY:∀e,j<=e->e<cv->U X bN e=U X bA e:=λe J Q=>dG.aa e Q Zx
  have pT:=qE.aa (S':=bN) (λe B=>dY e (y7 e B).1 (zq (y7 e B)))
  have afW:=afV.aa (S':=bN) (λe B=>dY e (zq (fY e B)) (zq (fY e B)))
  clear qE afV dY dG y0
  refine cL cd.eq_1 @t0 ⟨?_⟩
  refine eL (λbY=>U X bY cf=zu (d6 ⟨[],0,t.ty,[],0,false⟩) 8/\bf X bN cf bY (cf+1)) ⟨bb Zo,dA⟩ ?_
  rintro bY ⟨tj,ej⟩
  have mT:=aw.go (hz.ex ej Zo Zo) (by omega:j<=cf+1)
  have eC:=yZ.trans (cg.of ej)
  obtain⟨w,kR,ts,af9⟩:=rM Y
  refine(oF au mT ts _).Zm ?_
  rintro C6 cn d8 ⟨rfl,h5,en⟩
  have ng:=en.le
  have TP:=eC.trans en
  have uD:U X cn cf=zu (d6 ⟨[],0,t.ty,[],0,false⟩) 8:=by rw[en.aa _ Zo Zx];exact tj
  have fJ:∀e,j<=e->e<cf->U X cn e=U X bN e:=λe J Q=>by rw[en.aa e Zo Zx,ej.aa e Q]
  have ae9:(aU.drop (i4+1)).length=kR.length+1:=by rw[ts];rfl
  refine o1 cd.eq_1 ⟨?_⟩
  refine jW (λH S' aP=>∃(on:aX) (eP:Int) (no:Bool) (cA:Nat),H.g 0=some (.ptr aG 0)/\H.g 1=some (.bool loc)/\H.g 5=some s/\H.g 6=some rJ/\H.g 8=some (.ptr cf 0)/\U X S' cf=zu (d6 ⟨[],0,t.ty,on,eP,no⟩) 8/\(∀e,j<=e->e<cf->U X S' e=U X bN e)/\aQ X S' aG bQ aU cA/\cg X [aG] h j S' aP/\cf<aP/\(aU.drop cA).length<=(aU.drop (i4+1)).length/\
   lv loc (ic m loc) (ds++ci.map (qo t.ty on eP no)) (aU.drop cA)=some r) (λT bJ=> ?_) ?_
  ·rcases af9 with ⟨aD,Y⟩|⟨aD,Y⟩
   ·rw[aD]at h5 ⊢
    simp only[ZE]at h5 ⊢
    rw[<-(fU ts).2]at Y
    simp only[w5]at Y
    refine ce @t0 ⟨?_⟩
    refine eL (λdC=>bf X cn d8 dC (d8+1)) dA ?_
    intro dC hx
    have tU:=mT.go (h5.ex hx Zo Zo) (by omega:cf+1<=d8+1)
    have yT:U X dC cf=zu (d6 ⟨[],0,t.ty,[],0,false⟩) 8:=by rw[hx.aa _ Zo];exact uD
    obtain⟨ye,sr,Hs⟩:∃ye sr,aU.drop (i4+1+1)=ye::sr:=by
     cases a:aU.drop (i4+1+1)with
     |nil=>rw[a]at Y;simp[h9,lj,andThen]at Y
     |cons w fZ=>exact⟨w,fZ,rfl⟩
    refine(oF au tU Hs _).Zm ?_
    rintro IX dW d4 ⟨rfl,nh,hq⟩
    have pQ:=hq.le
    have BT:=(TP.trans (cg.of hx)).trans hq
    have G4:U X dW cf=zu (d6 ⟨[],0,t.ty,[],0,false⟩) 8:=by rw[hq.aa _ Zo Zx];exact yT
    have ru:andThen (andThen (iI 1 (aU.drop (if g3 ye [110,111,116]then i4+1+1+1 else i4+1+1))) (λon k=>ok (on.text,on.at_,g3 ye [110,111,116]) k)) (λr k=>lv loc (ic m loc) (ds++ci.map (qo t.ty r.1 r.2.1 r.2.2)) k)=some r:=by
     rw[Hs]at Y
     cases afN:g3 ye [110,111,116]with
     |true=>simp only[h9,lj,afN,ZE]at Y ⊢;rw[(fU Hs).2];exact Y
     |false=>simp only[h9,lj,afN,Zy,ZC]at Y ⊢;rw[Hs];exact Y
    have afa:(aU.drop (if g3 ye [110,111,116]then i4+1+1+1 else i4+1+1)).length<=(aU.drop (i4+1)).length:=by simp only[Yp];split<;>omega
    clear Y
    generalize (if g3 ye [110,111,116]then i4+1+1+1 else i4+1+1)=i9 at ru nh afa
    generalize (if g3 ye [110,111,116]then ye else hi)=z9
    generalize g3 ye [110,111,116]=no at ru
    unfold d6 at G4
    refine ed cd.eq_1 @G4 @t0 ⟨?_⟩
    refine eL (λrY=>U X rY cf=zu (d6 ⟨[],0,t.ty,[],0,no⟩) 8/\(∀e,e<d4->e≠cf->U X rY e=U X dW e)) ⟨by rw[bb Zo];rfl,λe J Q=>aC Zo Q⟩ ?_
    rintro rY ⟨arY,we⟩
    have HL:=nh.aa (we _ Zo Zo) (we _ Zo Zo)
    have uI:cg X [aG] h j rY d4:=⟨Zo,λb ag bU=>by rw[we b Zo Zo];exact BT.aa b ag bU⟩
    have IB:=aw.go HL (by omega:j<=d4)
    cases OV:aU.drop i9 with
    |nil=>rw[OV]at ru;simp[iI,andThen]at ru
    |cons c aFg=>
    rw[OV]at ru
    simp only[iI]at ru
    refine(CO au IB.a6 IB.par IB.b7 IB.hK IB.hg IB.many (fU OV).1 1).mono ?_ ?_
    ·rintro aCF rZ ayt ⟨Uz,rfl,Ld,xk⟩
     have aD8:=xk.le
     rw[Zp Uz]at ru
     simp only[andThen,ok]at ru
     rw[<-(fU OV).2]at ru
     have G3:U X rZ cf=zu (d6 ⟨[],0,t.ty,[],0,no⟩) 8:=by rw[xk.aa _ Zo Zx];exact arY
     unfold d6 at G3
     refine cL cd.eq_1 @G3 ⟨?_⟩
     refine gp (pk _ _) ?_
     refine cL cd.eq_1 @G3 ⟨?_⟩
     refine bJ _ _ _ ⟨c.text,c.at_,no,i9+1,aZ t0,aZ t1,aZ t5,aZ t6,be, ?_,λe J Q=> ?_, ?_, ?_,Zo, ?_,ru⟩
     ·simp(disch:=omega) only[aC,bb]<;>rfl
     ·simp(disch:=omega) only[aC]
      rw[xk.aa e Zo Zx,we e Zo Zo,hq.aa e Zo Zx,hx.aa e Zo,fJ e J Q]
     ·exact Ld.aa (zw) (zw)
     ·exact⟨Zo,λb ag bU=>by rw[<-(uI.trans xk).aa b ag bU];exact zw⟩
     ·simp only[Yp]at afa ⊢;omega
    ·rintro aCF rZ ayt ⟨Uz,rfl,xk⟩
     rw[Zh Uz]at ru
     simp only[andThen,bad,Zf]at ru
     subst ru
     exact⟨_,rfl,rfl,uI.trans xk⟩
   ·rw[aD]at h5 ⊢
    simp only[Zy,ZC]at h5 ⊢
    simp only[w5,andThen,ok]at Y
    refine cL cd.eq_1 hi.eq_1 ⟨?_⟩
    refine bJ _ _ _ ⟨[],0,false,i4+1,aZ t0,aZ t1,aZ t5,aZ t6,be, ?_,λe J Q=> ?_, ?_, ?_,Zo,Zj _,Y⟩
    ·simp(disch:=omega) only[aC];exact uD
    ·simp(disch:=omega) only[aC];exact fJ e J Q
    ·exact h5.aa (zw) (zw)
    ·exact⟨Zo,λb ag bU=>by rw[<-TP.aa b ag bU];exact zw⟩
  ·clear Y af9 h5 TP en uD fJ eC tj ej mT yZ t0 t1 t5 t6 hz
   rintro H bY dv ⟨on,eP,no,hU,t0,t1,t5,t6,t8,tj,dk,hT,eC,aEw,Pc,Y⟩
   have tH:=pT.aa (S':=bY) (λe B=>dk e (y7 e B).1 (zq (y7 e B)))
   have afX:=afW.aa (S':=bY) (λe B=>dk e (zq (fY e B)) (zq (fY e B)))
   clear pT afW
   obtain⟨Nw,cC⟩:=afX.rH Zd (aiW ci) (by simp only[Zi];omega) (P:=λe=>aM<=e/\e<aR) fY
   have eT:=cC.len
   rw[Zi]at eT
   refine Ob @t6 @eT ⟨?_⟩
   have Cl:=eT
   refine jW (λH S' aP=>∃(eX:D) (gL:List Nat),H.g 0=some (.ptr aG 0)/\H.g 1=some (.bool loc)/\H.g 5=some eX/\gw X S' eX 8 ((ds++ci.map (qo t.ty on eP no)).map d6).flatten gL/\(∀e∈gL,j<=e/\e<aP)/\aQ X S' aG bQ aU hU/\cg X [aG] h j S' aP/\dv<=aP) (λT bJ=> ?_) ?_
   ·refine fp (λahg H S' aP=>∃(y:Nat) (eX:D) (gL:List Nat) (nm:aX) (GA:Int),ahg=ci.length-y/\y<=ci.length/\H.g 0=some (.ptr aG 0)/\H.g 1=some (.bool loc)/\H.g 5=some eX/\H.g 8=some (.ptr cf 0)/\H.g 52=some rJ/\H.g 53=some (.Z (ci.length:Int))/\H.g 54=some (.Z (y:Int))/\U X S' cf=zu (d6 ⟨nm,GA,t.ty,on,eP,no⟩) 8/\
     gw X S' eX 8 ((ds++(ci.take y).map (qo t.ty on eP no)).map d6).flatten gL/\(∀e∈gL,(e∈cw\/dv<=e)/\e<aP)/\(∀e,aM<=e->e<aR->U X S' e=U X bY e)/\aQ X S' aG bQ aU hU/\cg X [aG] h j S' aP/\dv<=aP)
     ci.length ⟨0,s,cw,[],0,Zo,Zo,aZ t0,aZ t1,aZ t5,aZ t8,be,be,fO,tj,by simpa using tH,λe B=>⟨.inl B,zq (y7 e B)⟩,λ_ _ _=>rfl,hT,eC,Zj _⟩ ?_
    rintro ahg H cn d8 ⟨y,eX,gL,nm,GA,rfl,sj,t0,t1,t5,t8,x7,qU,kG,uD,EA,xq,agG,h5,en,ng⟩
    refine Ob @qU @kG ⟨?_⟩
    refine gk ?_
    refine Bu (λc2=> ?_) (λc2=> ?_)
    ·have c2:y<ci.length:=Zo
     have ae0:=cC.fI y (by simpa using c2)
     have U9:=(cC.aa (S':=cn) (λe B=>agG e B.1 B.2)).row Zd (i:=y) (r:=cd ci[y]) (by rw[Zw,Ze c2];rfl)
     have PH:ci.take (y+1)=ci.take y++[ci[y]]:=List.take_succ_eq_append_getElem c2
     generalize ci[y]=bu at U9 PH
     have Bt:∀e∈gL,j<=e/\e≠cf/\¬(aM<=e/\e<aR)/\e<d8:=λe B=>by
      obtain⟨J,Q⟩:=xq e B
      rcases J with J|J
      ·have:=y7 e J;have:=eU e J;exact⟨Zo,Zo,Zo,Zo⟩
      ·exact⟨Zo,Zo,Zo,Zo⟩
     unfold d6 at uD
     refine et @x7 @kG @ae0 @U9 cd.eq_1 @t8 @uD ⟨?_⟩
     refine gp (pk _ _) ?_
     refine et @x7 @kG @ae0 @U9 cd.eq_1 @t8 (Za @uD @t5) ⟨?_⟩
     generalize uJ:bi X _ (d8+1+8) _=dW
     have na:U X dW (d8+1+8)=zu (d6 (qo t.ty on eP no bu)) 8:=by rw[<-uJ,bb Zo];rfl
     have G4:U X dW cf=zu (d6 (qo t.ty on eP no bu)) 8:=by rw[<-uJ];simp(disch:=omega) only[aC,bb]<;>rfl
     have he:∀e,e<d8->e≠cf->U X dW e=U X cn e:=λe J Q=>by rw[<-uJ];exact zw
     clear uJ
     have kA:lG X dW 8 (.slice (d8+1+8) 0 1 1)=some (1,d6 (qo t.ty on eP no bu)):=sJ na (nk _) rfl _
     have d2:(ds++(ci.take y).map (qo t.ty on eP no)).length<=100000:=by
      simp only[ZK,Zi,zf];omega
     obtain⟨jY,rY,wY,iE,afP,atu,ae4⟩:=(EA.aa (S':=dW) (λe B=>he e (Bt e B).2.2.2 (Bt e B).2.1)).append (j:=d8+1+8+1) Zd kA rfl Zd rfl (by rw[NQ];simp only[d6,ZF,Z3];omega) Zo (λe B=>zq (Bt e B))
     refine j8 iE ?_
     have we:∀e,e<d8->e≠cf->e∉gL->U X rY e=U X cn e:=λe J Q ak=>by rw[ae4 e Zo ak,he e J Q]
     have bD:=zv y
     have fb:((ds++(ci.take y).map (qo t.ty on eP no)).map d6).flatten++d6 (qo t.ty on eP no bu)=((ds++(ci.take (y+1)).map (qo t.ty on eP no)).map d6).flatten:=by rw[PH];simp
     rw[fb]at afP
     refine cL @kG @bD ⟨?_⟩
     refine⟨ci.length-(y+1),Zo,y+1,jY,wY,bu.text,bu.at_,rfl,Zo,aZ t0,aZ t1,be,aZ t8,aZ x7,aZ qU,be, ?_, .inl afP, ?_, ?_, ?_, ?_,Zo⟩
     ·rw[ae4 _ Zo (λa=>(Bt _ a).2.1 rfl)];exact G4
     ·intro e B
      rcases atu e B with rfl|a
      ·exact⟨.inr Zo,Zo⟩
      ·have:=xq e a;exact⟨this.1,Zo⟩
     ·intro e J Q
      rw[we e Zo Zo (λa=>(Bt e a).2.2.1 ⟨J,Q⟩)]
      exact agG e J Q
     ·exact h5.aa (we _ Zo Zo (λa=>zq (Bt _ a))) (we _ Zo Zo (λa=>zq (Bt _ a)))
     ·exact⟨Zo,λb ag bU=>by rw[we b Zo Zo (λa=>zq (Bt _ a))];exact en.aa b ag bU⟩
    ·have xx:y=ci.length:=Zo
     subst xx
     rw[YX]at EA
     refine cI ⟨?_⟩
     exact bJ _ _ _ ⟨eX,gL,aZ t0,aZ t1,aZ t5,EA,λe B=>by
      obtain⟨J,Q⟩:=xq e B
      rcases J with J|J
      ·have:=y7 e J;omega
      ·omega,h5,en,ng⟩
   ·clear tH afX tj dk t0 t1 t5 t6 t8 hT eC cC eT
    rintro H cn d8 ⟨eX,gL,t0,t1,t5,EA,xq,h5,en,ng⟩
    have afb:(ds++ci.map (qo t.ty on eP no)).length+(aU.drop hU).length<=aU.length:=by simp only[ZK,Zi];omega
    generalize ds++ci.map (qo t.ty on eP no)=JV at EA Y afb
    have fin:∀(S':R af) (aP:Nat),(∀e,e<d8->e≠aG->U X S' e=U X cn e)->d8<=aP->r= .ok (JV,aU.drop hU)->aQ X S' aG bQ aU hU->∃ds cA b,r= .ok (ds,aU.drop cA)/\dL X S' (dx j aP) b eX 8 (ds.map d6)/\aQ X S' aG bQ aU cA/\cg X [aG] h j S' aP:=by
     intro S' aP J Q ak ay
     obtain⟨b,cC⟩:=(EA.aa (S':=S') (λe B=>J e (xq e B).2 (zq (xq e B)))).rH Zd (SM JV) (by simp only[Zi];omega) (P:=dx j aP) (λe B=>⟨(xq e B).1,zq (xq e B)⟩)
     exact⟨JV,hU,b,ak,cC,ay,Zo,λb ag bU=>by rw[J b Zo (by simpa using bU)];exact en.aa b ag bU⟩
    refine ce @t0 ⟨?_⟩
    obtain⟨F6,mM,si⟩:∃F6 mM,aU.drop hU=F6::mM:=by
     cases a:aU.drop hU with
     |nil=>rw[a]at Y;simp[lv,AW]at Y
     |cons w fZ=>exact⟨w,fZ,rfl⟩
    refine eL (λdC=>dC=cn) rfl ?_
    rintro dC rfl
    refine(sC au Zo h5 Zo Zo (fU si).1).Zm ?_
    rintro u8 dW d4 ⟨rfl,hc⟩
    have pQ:=hc.le
    have nh:=h5.aa (hc.aa _ Zo) (hc.aa _ Zo)
    rw[si]at Y
    simp only[lv,AW]at Y
    by_cases PB:F6.text=[59]
    ·rw[Zp PB]at Y
     have c1:decide (F6.text≠[59])=false:=by simp[PB]
     have adF:ic m loc JV (aU.drop (hU+1))=some r->∀(H:cU) (gP:R af),H.g 0=some (.ptr aG 0)->H.g 1=some (.bool loc)->H.g 5=some eX->(∀e,e<d4->e≠aG->U X gP e=U X dW e)->aQ X gP aG bQ aU (hU+1)->
      ∃gH,gH<m+1/\∃s ds cw cA,M9 X aG bQ aU j h loc H gP d4 s ds cw cA/\ds.length+(aU.drop cA).length<=aU.length/\ic gH loc ds (aU.drop cA)=some r:=by
      intro hs H gP t0 t1 t5 aH avc
      refine⟨m,Zo,eX,JV,gL,hU+1,⟨t0,t1,t5,EA.aa (λe B=> ?_),λe B=>zq (xq e B),avc,Zo,λb ag bU=> ?_⟩, ?_,hs⟩
      ·have:=xq e B
       rw[aH e Zo Zo,hc.aa e Zo]
      ·rw[aH b Zo (by simpa using bU),hc.aa b Zo];exact en.aa b ag bU
      ·simp only[Yp]at afb ⊢;omega
     obtain⟨c,ao,a7,b6,a3,a4⟩:=nh.at_
     have VF:=kl a7 a3
     have agE:=kl a7 b6
     have k6:=(Zb.1 (fU si).1).1
     have dS:=nh.ne
     have bD:=zv hU
     have ahZ:∀gP,gP=bi X dW aG (some (.cells (dT c 1 [.Z ((hU+1:Nat):Int)]) 2 .own))->aQ X gP aG bQ aU (hU+1):=by
      rintro gP rfl
      refine nh.on (c:=dT c 1 [.Z ((hU+1:Nat):Int)]) (bb Zo) (λdH st a=>by rw[a7]at a;cases a;exact rQ ..) (aC Zo Zo)
     cases loc with
     |false=>
      simp only[Zy,ZC]at Y
      have je:(F6::mM).drop 1=aU.drop (hU+1):=by rw[(fU si).2];rfl
      rw[je]at Y
      refine et cd.eq_1 @c1 @t1 @t0 @VF @bD @a7 ⟨?_⟩
      exact adF Y _ _ (aZ t0) (aZ t1) (aZ t5) (λe J Q=>aC Zo Q) (ahZ _ rfl)
     |true=>
      simp only[ZE]at Y
      obtain⟨qc,sr,Hs⟩:∃qc sr,mM=qc::sr:=by
       cases mM with
       |nil=>simp[AW]at Y
       |cons w fZ=>exact⟨w,fZ,rfl⟩
      subst Hs
      simp only[AW]at Y
      have cm:aU[hU+1]? =some qc:=(fU (fU si).2).1
      have H0:=(Zb.1 cm).1
      have ae1:=a4.fI (hU+1) (by rw[Zi];exact H0)
      have OT:aI X dW (.ptr bQ ((hU+1)*7+1))=some (.str qc.text):=a4.cell (hU+1) (cd qc) 1 _ (by rw[Zw,cm];rfl) rfl
      by_cases Pe:qc.text=[108,101,116]
      ·rw[Zp Pe]at Y
       simp only[ok,Zf]at Y
       have cH:decide (qc.text=[108,101,116])=true:=by simp[Pe]
       refine et cd.eq_1 @c1 @t1 @t0 @agE @VF (Za @bD (Za @ae1 (Za @OT (Za @cH @t5)))) ⟨?_⟩
       exact fin _ _ (λe J Q=>hc.aa e Zo) Zo (by rw[<-Y,si]) nh
      ·rw[Zh Pe]at Y
       have cH:decide (qc.text=[108,101,116])=false:=by simp[Pe]
       have je:(F6::qc::sr).drop 1=aU.drop (hU+1):=by rw[(fU si).2];rfl
       rw[je]at Y
       refine et cd.eq_1 @c1 @t1 @t0 @agE @VF (Za @bD (Za @ae1 (Za @OT (Za @cH @a7)))) ⟨?_⟩
       exact adF Y _ _ (aZ t0) (aZ t1) (aZ t5) (λe J Q=>aC Zo Q) (ahZ _ rfl)
    ·rw[Zh PB]at Y
     simp only[ok,Zf]at Y
     have c1:decide (F6.text≠[59])=true:=by simp[PB]
     refine ed cd.eq_1 @c1 @t5 ⟨?_⟩
     exact fin _ _ (λe J Q=>hc.aa e Zo) Zo (by rw[<-Y,si]) nh
end
def km{v w:D}(a:gC v=some w):v.cells=[v]/\qN v=true/\D.same 30 v v=true:=by
 cases v with
 |slice b V n c=>exact⟨rfl,rfl,by simp[D.same]⟩
 |fc b V n c=>exact⟨rfl,rfl,by simp[D.same]⟩
 |aT=>exact⟨rfl,rfl,rfl⟩
 |_=>simp[gC]at a
def pu(X:ch)(h:R af):(Nat->Prop)->List f8->List (List D)->Prop
 |_,[],bL=>bL=[]
 |P,aj::cT,bL=>∃row h8 bg,bL=row::h8/\(∀e,bg e->P e)/\ym X h bg aj row/\pu X h (λe=>P e/\¬bg e) cT h8
def pu.aa{X:ch}{h S':R af}:∀{cT:List f8}{bL:List (List D)}{P bg:Nat->Prop}(y:∀e,P e->U X S' e=U X h e) (az:∀e,P e->bg e),pu X h P cT bL->pu X S' bg cT bL:=by
 intro cT
 induction cT with
 |nil=>intro bL P bg y az a;exact a
 |cons aj cT ai=>
  rintro bL P bg y az ⟨row,h8,eK,J,b3,Q,ak⟩
  exact⟨row,h8,eK,J,λe B=>az e (b3 e B),Q.aa (λe B=>y e (b3 e B)) (λe B=>B),ai (λe B=>y e B.1) (λe B=>⟨az e B.1,B.2⟩) ak⟩
def pu.snoc{X:ch}{h:R af}{bg:Nat->Prop}{aj:f8}{row:List D}(a:ym X h bg aj row):∀{cT:List f8}{bL:List (List D)}{py P:Nat->Prop},pu X h py cT bL->(∀e,py e->P e)->(∀e,bg e->P e/\¬py e)->pu X h P (cT++[aj]) (bL++[row]):=by
 intro cT
 induction cT with
 |nil=>rintro bL py P rfl J Q;exact⟨row,[],bg,rfl,λe B=>(Q e B).1,a,rfl⟩
 |cons F cT ai=>
  rintro bL py P ⟨t2,h8,eK,rfl,b3,ak,ay⟩ J Q
  exact⟨t2,h8++[row],eK,rfl,λe B=>J e (b3 e B),ak,ai ay (λe B=>⟨J e B.1,B.2⟩) (λe B=>⟨⟨(Q e B).1,λjT=>(Q e B).2 (b3 e jT)⟩,λpU=>(Q e B).2 pU.1⟩)⟩
def ym.len{X:ch}{h:R af}{P:Nat->Prop}{aj:f8}{row:List D}(a:ym X h P aj row):row.length=4:=by
 obtain⟨_,_,_,_,_,rfl,_⟩:=a;rfl
def pu.wide{X:ch}{h:R af}:∀{cT:List f8}{bL:List (List D)}{P:Nat->Prop},pu X h P cT bL->bL.length=cT.length/\∀r∈bL,r.length=4:=by
 intro cT
 induction cT with
 |nil=>rintro bL P rfl;simp
 |cons F cT ai=>
  rintro bL P ⟨t2,h8,eK,rfl,b3,Q,ak⟩
  obtain⟨ay,bt⟩:=ai ak
  refine⟨by simp[ay],λr Y=> ?_⟩
  rcases Zt.1 Y with rfl|Y
  ·exact Q.len
  ·exact bt r Y
def oM(X:ch)(h:R af)(P:Nat->Prop)(g:Go.aQ.Node)(row:List D):Prop:=∃c5 dt aS eM bZ cu c0 fE bL,row=[.str g.name, .Z g.at_,c5,dt,aS,eM]/\dL X h P bZ c5 8 (g.d3.map d6)/\dL X h P cu dt 8 (g.out.map d6)/\dL X h P c0 aS 8 (g.loc.map d6)/\dL X h P fE eM 4 bL/\pu X h P g.eqs bL
structure um(X:ch)(h:R af)(n jJ:Nat)(nm:aX)(F:Int)(c5 dt aS:D)(d3 out loc:List ey):Prop where
 mg:U X h jJ=zu [.str nm, .Z F,c5,dt,aS, .aT] 6
 lt:jJ<n
 e8:∃b,dL X h (dx (jJ+1) n) b c5 8 (d3.map d6)
 fR:∃b,dL X h (dx (jJ+1) n) b dt 8 (out.map d6)
 hY:∃b,dL X h (dx (jJ+1) n) b aS 8 (loc.map d6)
def um.aa{X:ch}{h S':R af}{n aP jJ:Nat}{nm:aX}{F:Int}{c5 dt aS:D}{d3 out loc:List ey}(a:um X h n jJ nm F c5 dt aS d3 out loc)(y:∀e,jJ<=e->e<n->U X S' e=U X h e)(aF:n<=aP):um X S' aP jJ nm F c5 dt aS d3 out loc:=by
 have ev:∀e,dx (jJ+1) n e->U X S' e=U X h e:=λe B=>y e (zq B.1) B.2
 have V4:∀e,dx (jJ+1) n e->dx (jJ+1) aP e:=λe B=>⟨B.1,zq B.2⟩
 obtain⟨bZ,J⟩:=a.e8
 obtain⟨cu,Q⟩:=a.fR
 obtain⟨c0,ak⟩:=a.hY
 exact⟨by rw[y jJ (Zj _) a.lt];exact a.mg,zq a.lt,⟨bZ,(J.aa ev).lift V4⟩,⟨cu,(Q.aa ev).lift V4⟩,⟨c0,(ak.aa ev).lift V4⟩⟩
section
variable{X:ch}{h S' aK aJ:R af}{j am aM aR aG bQ:Nat}{aU:List Tok}{i:Nat}
def um.fr{n aP jJ:Nat}{nm:aX}{F:Int}{c5 dt aS:D}{d3 out loc:List ey}(a:um X h n jJ nm F c5 dt aS d3 out loc)(gF:cg X [aG] h n S' aP)(ag:aG<jJ):um X S' aP jJ nm F c5 dt aS d3 out loc:=
 a.aa (λe J Q=>gF.aa e Q Zx) gF.le
def aC6{jw jY:aX}{k:List Tok}:sN [jw,jY] hi k=andThen (ee jw k) λ_ k=>ee jY k:=by
 simp only[sN]
 cases a:ee jw k with
 |none=>rfl
 |some r=>
  cases r with
  |error F=>rfl
  |ok p=>
   obtain⟨x,bM⟩:=p
   simp only[andThen]
   cases ee jY bM with
   |none=>rfl
   |some fR=>cases fR with
    |error F=>rfl
    |ok p=>obtain⟨e,cr⟩:=p;rfl
def ayP(au:di X)(d7:wK X){n:Nat}(tA:n<=200000)(kB:aU.length<=100000)(aw:i6 X h j aG bQ aU i){r:Except Int (Go.aQ.Node×List Tok)}(Y:Go.aQ.node n (aU.drop i)=some r):
 aW X 45 [.ptr aG 0] h j (λac S' am=>∃g cA row,r= .ok (g,aU.drop cA)/\ac= .agg row/\oM X S' (dx j am) g row/\aQ X S' aG bQ aU cA/\cg X [aG] h j S' am) (jm X aG h j r):=by
 refine zx au (al5 X) ?_
 rw[al6]
 unfold aas
 have g6:=aw.a6
 have ky:=aw.hK
 have ir:=aw.b7
 have j2:=aw.hg
 unfold Go.aQ.node at Y
 refine cI ⟨?_⟩
 refine eL (λaK=>U X aK (j+1)=zu [.str [110,111,100,101]] 1/\U X aK j=zu [.str [], .Z 0, .aT, .aT, .aT, .aT] 6/\bf X h j aK (j+1+1)) ⟨bb Zo,by simp(disch:=omega) only[aC,bb]<;>rfl,dA⟩ ?_
 rintro aK ⟨an,ri,bH⟩
 have nt:=aw.go (aw.par.ex bH Zo Zo) (by omega:j<=j+1+1)
 have iC:cg X [aG] h j aK (j+1+1):=cg.of bH
 rcases gK Y with ⟨F,Q,rfl⟩|⟨io,cr,Q,Y⟩
 ·exact(jZ au nt Zo Zo an Q).mono (λac S' am a=>by obtain⟨E,cA,a,_⟩:=a;cases a) (λac S' am a=>a.of iC (λ_ a=>by cases a;rfl))
 refine(jZ au nt Zo Zo an Q).mono ?_ (λac S' am a=>by obtain⟨F,a,_⟩:=a;cases a)
 clear Q
 rintro ai7 aJ aR ⟨aF1,gB,KQ,_,dD,du⟩
 cases KQ
 have fC:=du.le
 have xl:=iC.trans du
 have vC:U X aJ j=zu [.str [], .Z 0, .aT, .aT, .aT, .aT] 6:=by rw[du.aa _ Zo Zx];exact ri
 have f0:=aw.go dD xl.le
 clear an ri bH nt iC du
 cases uM:aU.drop gB with
 |nil=>rw[uM]at Y;simp[iI,andThen]at Y
 |cons x dZ=>
 rw[uM]at Y
 simp only[iI]at Y
 refine(CO au f0.a6 f0.par f0.b7 f0.hK f0.hg f0.many (fU uM).1 1).mono ?_ (λva bN cf a=>by
  obtain⟨aH,rfl,dG⟩:=a
  rw[Zh aH]at Y
  simp only[andThen,bad,Zf]at Y
  subst Y
  exact⟨_,rfl,rfl,xl.trans dG⟩)
 rintro wE a1 bn ⟨aH,rfl,gV,eg⟩
 have jf:=eg.le
 rw[Zp aH]at Y
 simp only[andThen,ok]at Y
 rw[<-(fU uM).2]at Y
 have uF:U X a1 j=zu [.str [], .Z 0, .aT, .aT, .aT, .aT] 6:=by rw[eg.aa _ Zo Zx];exact vC
 have Hi:=xl.trans eg
 clear vC eg xl dD f0
 refine ce cd.eq_1 ⟨?_⟩
 refine eL (λbA=>U X bA (bn+1+1)=zu [.str [40]] 1/\um X bA (bn+1+1+1) (bn+1) x.text x.at_ .aT .aT .aT [] [] []/\bf X a1 bn bA (bn+1+1+1)) ⟨bb Zo,⟨by simp(disch:=omega) only[aC,bb]<;>rfl,Zo,⟨0,dL.nil _ _⟩,⟨0,dL.nil _ _⟩,⟨0,dL.nil _ _⟩⟩,dA⟩ ?_
 rintro bA ⟨DZ,aht,cW⟩
 have yV:U X bA j=zu [.str [], .Z 0, .aT, .aT, .aT, .aT] 6:=by rw[cW.aa _ Zo];exact uF
 have eG:=Hi.trans (cg.of cW)
 have lg:=aw.go (gV.ex cW Zo Zo) (by omega:j<=bn+1+1+1)
 clear uF Hi gV cW
 change andThen (ee [40] (aU.drop (gB+1))) _=some r at Y
 rcases gK Y with ⟨F,Q,rfl⟩|⟨io,cr,Q,Y⟩
 ·exact(jZ au lg Zo Zo DZ Q).mono (λac S' am a=>by obtain⟨E,cA,a,_⟩:=a;cases a) (λac S' am a=>a.of eG (λ_ a=>by cases a;rfl))
 refine(jZ au lg Zo Zo DZ Q).mono ?_ (λac S' am a=>by obtain⟨F,a,_⟩:=a;cases a)
 clear Q
 rintro v5 bN cf ⟨aF2,i5,tt,_,hz,dG⟩
 cases tt
 have iH:=dG.le
 have ahu:=aht.fr dG Zo
 have G7:U X bN j=zu [.str [], .Z 0, .aT, .aT, .aT, .aT] 6:=by rw[dG.aa _ Zo Zx];exact yV
 have yZ:=eG.trans dG
 have pi:=aw.go hz yZ.le
 clear aht yV eG dG DZ lg
 obtain⟨e,l2,KO,Ly⟩:=rM Y
 refine(oF au pi KO _).Zm ?_
 rintro MN bY dv ⟨rfl,hT,eC⟩
 have o7:=eC.le
 have Qj:=ahu.fr eC Zo
 have BO:U X bY j=zu [.str [], .Z 0, .aT, .aT, .aT, .aT] 6:=by rw[eC.aa _ Zo Zx];exact G7
 have vG:=yZ.trans eC
 clear ahu G7 yZ eC hz pi
 refine o1 cd.eq_1 ⟨?_⟩
 refine jW (λH S' aP=>∃(c5:D) (d3:List ey) (cA:Nat),H.g 0=some (.ptr aG 0)/\H.g 2=some (.ptr j 0)/\H.g 4=some (.ptr (bn+1) 0)/\um X S' aP (bn+1) x.text x.at_ c5 .aT .aT d3 [] []/\U X S' j=zu [.str [], .Z 0, .aT, .aT, .aT, .aT] 6/\aQ X S' aG bQ aU cA/\cg X [aG] h j S' aP/\
  (andThen (ee [114,101,116,117,114,110,115] (aU.drop cA)) λ_ k=>andThen (ee [40] k) λ_ k=>andThen (ic n false [] k) λout k=>andThen (ee [41] k) λ_ k=>
   h9 [118,97,114] k λe k=>andThen (match e with
    |some _=>andThen (ic n true [] k) λds k=>andThen (ee [59] k) λ_ k=>ok ds k
    |none=>ok [] k) λloc k=>
   andThen (ee [108,101,116] k) λ_ k=>andThen (kv n [] k) λcT k=>ok (⟨x.text,x.at_,d3,out,loc,cT⟩:Go.aQ.Node) k)=some r) (λT bJ=> ?_) ?_
 ·rcases Ly with ⟨aD,Y⟩|⟨aD,Y⟩
  ·rw[aD]at hT ⊢
   simp only[ZE]at hT ⊢
   rw[<-(fU KO).2]at Y
   simp only[andThen,ok]at Y
   refine ce cd.eq_1 ⟨?_⟩
   refine bJ _ _ _ ⟨.aT,[],i5+1,be,be,be,Qj.aa (λe J Q=>zw) Zo,by simp(disch:=omega) only[aC];exact BO,hT.aa (zw) (zw), ?_,Y⟩
   exact⟨Zo,λb ag bU=>by rw[<-vG.aa b ag bU];exact zw⟩
  ·rw[aD]at hT ⊢
   simp only[Zy,ZC]at hT ⊢
   simp only[]at Y
   refine cL cd.eq_1 hi.eq_1 ⟨?_⟩
   refine eL (λcn=>bf X bY dv cn (dv+1)) dA ?_
   intro cn eA
   have Fc:=Qj.fr (cg.of (X:=[aG]) eA) Zo
   have yW:U X cn j=zu [.str [], .Z 0, .aT, .aT, .aT, .aT] 6:=by rw[eA.aa _ Zo];exact BO
   have en:=vG.trans (cg.of eA)
   have nT:=aw.go (hT.ex eA Zo Zo) (by omega:j<=dv+1)
   clear Qj BO vG hT eA
   rcases gK Y with ⟨F,aN,rfl⟩|⟨d3,axM,aN,Y⟩
   ·rcases gK aN with ⟨fu,Q,ak⟩|⟨ds,mM,Q,aN⟩
    ·cases ak
     exact(GR au kB nT Q).mono (λac S' am a=>by obtain⟨E,cA,b,a,_⟩:=a;cases a) (λac S' am a=>a.of en (λ_ a=>by cases a;rfl))
    refine(GR au kB nT Q).mono ?_ (λac S' am a=>by obtain⟨F,a,_⟩:=a;cases a)
    rintro IY dC iw ⟨aqd,i8,r5,Eh,Ev,xD,gS⟩
    cases Eh
    have Ae:=gS.le
    have Io:=Fc.fr gS Zo
    obtain⟨g2,nr,sF⟩:=km Ev.len
    refine cI ⟨?_⟩
    have yT:=Io.mg
    refine f7 (ud (V:=2) yT Zo Zo g2 nr) ?_
    refine cI ⟨?_⟩
    refine eL (λdW=>U X dW iw=zu [.str [41]] 1/\∀e,e<iw->e≠(bn+1)->U X dW e=U X dC e) ⟨bb Zo,λe J Q=>zw⟩ ?_
    rintro dW ⟨TA,he⟩
    have nh:=xD.aa (he _ Zo Zo) (he _ Zo Zo)
    have hq:cg X [aG] h j dW (iw+1):=⟨Zo,λb ag bU=>by rw[he b Zo Zo];exact(en.trans gS).aa b ag bU⟩
    rcases gK aN with ⟨fu,ay,bt⟩|⟨ve,sr,ay,aN⟩
    ·cases bt
     exact(jZ au (aw.go nh Zo) Zo Zo TA ay).mono (λac S' am a=>by obtain⟨E,cA,a,_⟩:=a;cases a) (λac S' am a=>a.of hq (λ_ a=>by cases a;rfl))
    ·cases aN
   ·rcases gK aN with ⟨fu,Q,ak⟩|⟨ds,mM,Q,aN⟩
    ·cases ak
    refine(GR au kB nT Q).mono ?_ (λac S' am a=>by obtain⟨F,a,_⟩:=a;cases a)
    rintro IY dC iw ⟨aqd,i8,r5,Eh,Ev,xD,gS⟩
    cases Eh
    have Ae:=gS.le
    have Io:=Fc.fr gS Zo
    obtain⟨g2,nr,sF⟩:=km Ev.len
    refine cI ⟨?_⟩
    have yT:=Io.mg
    refine f7 (ud (V:=2) yT Zo Zo g2 nr) ?_
    refine cI ⟨?_⟩
    refine eL (λdW=>U X dW iw=zu [.str [41]] 1/\U X dW (bn+1)=zu [.str x.text, .Z x.at_,IY, .aT, .aT, .aT] 6/\∀e,e<iw->e≠(bn+1)->U X dW e=U X dC e) ⟨bb Zo,by rw[aC Zo Zo,bb Zo];rfl,λe J Q=>zw⟩ ?_
    rintro dW ⟨TA,G4,he⟩
    have nh:=xD.aa (he _ Zo Zo) (he _ Zo Zo)
    have hq:cg X [aG] h j dW (iw+1):=⟨Zo,λb ag bU=>by rw[he b Zo Zo];exact(en.trans gS).aa b ag bU⟩
    have aEI:=Fc.lt
    have Me:um X dW (iw+1) (bn+1) x.text x.at_ IY .aT .aT _ [] []:=⟨G4,Zo,⟨r5,(Ev.aa (λe B=>he e B.2 (zq B.1))).lift (λe B=>⟨zq B.1,zq B.2⟩)⟩,⟨0,dL.nil _ _⟩,⟨0,dL.nil _ _⟩⟩
    have xg:U X dW j=zu [.str [], .Z 0, .aT, .aT, .aT, .aT] 6:=by rw[he _ Zo Zo,gS.aa _ Zo Zx];exact yW
    rcases gK aN with ⟨fu,ay,bt⟩|⟨ve,sr,ay,aN⟩
    ·cases bt
    refine(jZ au (aw.go nh Zo) Zo Zo TA ay).mono ?_ (λac S' am a=>by obtain⟨F,a,_⟩:=a;cases a)
    rintro vb rY Il ⟨Rd,Lz,Uh,_,HL,uI⟩
    cases Uh
    cases aN
    exact bJ _ _ _ ⟨IY,_,Lz,be,be,be,Me.fr uI Zo,by rw[uI.aa _ Zo Zx];exact xg,HL,hq.trans uI,Y⟩
 ·clear Ly hT Qj BO vG Y
  rintro H cn d8 ⟨c5,d3,ni,t0,ew,t4,Fc,yW,h5,en,Y⟩
  have UF:=Fc.lt
  refine ce @t0 ⟨?_⟩
  refine eL (λdC=>U X dC d8=zu [.str [114,101,116,117,114,110,115], .str [40]] 2/\bf X cn d8 dC (d8+1)) ⟨bb Zo,dA⟩ ?_
  rintro dC ⟨D1,hx⟩
  have Io:=Fc.fr (cg.of (X:=[aG]) hx) Zo
  have Ol:U X dC j=zu [.str [], .Z 0, .aT, .aT, .aT, .aT] 6:=by rw[hx.aa _ Zo];exact yW
  have gS:=en.trans (cg.of hx)
  have tU:=aw.go (h5.ex hx Zo Zo) (by omega:j<=d8+1)
  clear Fc yW en h5 hx
  have Ev:dL X dC (λe=>e=d8) d8 (.slice d8 0 2 2) 1 (fL [[114,101,116,117,114,110,115],[40]]):=IE (bL:=[[.str [114,101,116,117,114,110,115]],[.str [40]]]) (st:= .own) D1 rfl Zs Zd rfl
  have bw:∃AR,sN [[114,101,116,117,114,110,115],[40]] hi (aU.drop ni)=some AR/\andThen (some AR) (λ(_:Tok) k=>andThen (ic n false [] k) λout k=>andThen (ee [41] k) λ_ k=>
   h9 [118,97,114] k λe k=>andThen (match e with
    |some _=>andThen (ic n true [] k) λds k=>andThen (ee [59] k) λ_ k=>ok ds k
    |none=>ok [] k) λloc k=>
   andThen (ee [108,101,116] k) λ_ k=>andThen (kv n [] k) λcT k=>ok (⟨x.text,x.at_,d3,out,loc,cT⟩:Go.aQ.Node) k)=some r:=by
   rw[aC6]
   rcases gK Y with ⟨F,J,rfl⟩|⟨a7,c7,J,Y⟩
   ·exact⟨.error F,by rw[J];rfl,rfl⟩
   ·rcases gK Y with ⟨F,Q,rfl⟩|⟨b6,cr,Q,Y⟩
    ·exact⟨.error F,by rw[J];exact Q,rfl⟩
    ·exact⟨.ok (b6,cr),by rw[J];exact Q,Y⟩
  clear Y
  obtain⟨AR,bw,Y⟩:=bw
  refine(ajk au tU.a6 tU.par tU.b7 tU.hK tU.hg tU.many Zo Zo Ev bw).mono ?_ (λac S' am a=>by
   obtain⟨F,rfl,rfl,a⟩:=a
   simp only[andThen,Zf]at Y
   subst Y
   exact⟨F,rfl,rfl,gS.trans a⟩)
  rintro v9 dW d4 ⟨ve,i9,rfl,_,nh,hq⟩
  change andThen (ic n false [] (aU.drop i9)) _=some r at Y
  have pQ:=hq.le
  have Me:=Io.fr hq Zo
  have xg:U X dW j=zu [.str [], .Z 0, .aT, .aT, .aT, .aT] 6:=by rw[hq.aa _ Zo Zx];exact Ol
  have BT:=gS.trans hq
  have WD:=aw.go nh BT.le
  clear Io Ol gS hq Ev D1 tU bw nh
  refine ce @t0 ⟨?_⟩
  rcases gK Y with ⟨F,Q,rfl⟩|⟨out,axf,Q,Y⟩
  ·exact(GR au kB WD Q).mono (λac S' am a=>by obtain⟨E,cA,b,a,_⟩:=a;cases a) (λac S' am a=>a.of BT (λ_ a=>by cases a;rfl))
  refine(GR au kB WD Q).mono ?_ (λac S' am a=>by obtain⟨F,a,_⟩:=a;cases a)
  clear Q
  rintro vb rY Il ⟨out,Lz,R9,Uh,U5,HL,uI⟩
  cases Uh
  have auy:=uI.le
  have Wn:=Me.fr uI Zo
  have adH:U X rY j=zu [.str [], .Z 0, .aT, .aT, .aT, .aT] 6:=by rw[uI.aa _ Zo Zx];exact xg
  have ad8:=BT.trans uI
  obtain⟨g2,nr,sF⟩:=km U5.len
  have aEx:=Me.lt
  refine ce @t4 ⟨?_⟩
  refine f7 (ud (V:=3) Wn.mg Zo Zo g2 nr) ?_
  refine ce @t0 ⟨?_⟩
  refine eL (λrZ=>U X rZ Il=zu [.str [41]] 1/\U X rZ (bn+1)=zu [.str x.text, .Z x.at_,c5,vb, .aT, .aT] 6/\∀e,e<Il->e≠bn+1->U X rZ e=U X rY e) ⟨bb Zo,by rw[aC Zo Zo,bb Zo];rfl,λe J Q=>zw⟩ ?_
  rintro rZ ⟨Tx,G3,EP⟩
  have Ld:=HL.aa (EP _ Zo Zo) (EP _ Zo Zo)
  have xk:cg X [aG] h j rZ (Il+1):=⟨Zo,λb ag bU=>by rw[EP b Zo Zo];exact ad8.aa b ag bU⟩
  have ahs:um X rZ (Il+1) (bn+1) x.text x.at_ c5 vb .aT d3 out []:=by
   obtain⟨JG,An⟩:=Wn.e8
   exact⟨G3,Zo,⟨JG,(An.aa (λe B=>EP e B.2 (zq B.1))).lift (λe B=>⟨B.1,zq B.2⟩)⟩,⟨R9,(U5.aa (λe B=>EP e B.2 (zq B.1))).lift (λe B=>⟨zq B.1,zq B.2⟩)⟩,⟨0,dL.nil _ _⟩⟩
  have adI:U X rZ j=zu [.str [], .Z 0, .aT, .aT, .aT, .aT] 6:=by rw[EP _ Zo Zo];exact adH
  clear Me Wn xg adH BT uI ad8 U5 HL EP G3 WD
  rcases gK Y with ⟨F,ay,rfl⟩|⟨aFW,aFh,ay,Y⟩
  ·exact(jZ au (aw.go Ld Zo) Zo Zo Tx ay).mono (λac S' am a=>by obtain⟨E,cA,a,_⟩:=a;cases a) (λac S' am a=>a.of xk (λ_ a=>by cases a;rfl))
  refine(jZ au (aw.go Ld Zo) Zo Zo Tx ay).mono ?_ (λac S' am a=>by obtain⟨F,a,_⟩:=a;cases a)
  clear ay
  rintro aFR anT aFq ⟨aFX,wb,atQ,_,afy,Kt⟩
  cases atQ
  have aD9:=Kt.le
  have Wo:=ahs.fr Kt Zo
  have adJ:U X anT j=zu [.str [], .Z 0, .aT, .aT, .aT, .aT] 6:=by rw[Kt.aa _ Zo Zx];exact adI
  have TM:=xk.trans Kt
  have ah0:=aw.go afy TM.le
  clear ahs adI xk Kt Ld Tx afy
  refine ce @t0 ⟨?_⟩
  obtain⟨e,aFi,aeB,af8⟩:=rM Y
  refine(oF au ah0 aeB _).Zm ?_
  rintro aFJ abv Wj ⟨rfl,B9,Ku⟩
  have aEa:=Ku.le
  have Qi:=Wo.fr Ku Zo
  have Oh:U X abv j=zu [.str [], .Z 0, .aT, .aT, .aT, .aT] 6:=by rw[Ku.aa _ Zo Zx];exact adJ
  have Oy:=TM.trans Ku
  have aEs:=Wo.lt
  clear Wo adJ TM Ku ah0 Y
  refine o1 cd.eq_1 ⟨?_⟩
  refine jW (λH S' aP=>∃(aS:D) (loc:List ey) (cA:Nat),H.g 0=some (.ptr aG 0)/\H.g 2=some (.ptr j 0)/\H.g 4=some (.ptr (bn+1) 0)/\um X S' aP (bn+1) x.text x.at_ c5 vb aS d3 out loc/\U X S' j=zu [.str [], .Z 0, .aT, .aT, .aT, .aT] 6/\aQ X S' aG bQ aU cA/\cg X [aG] h j S' aP/\
   (andThen (ee [108,101,116] (aU.drop cA)) λ_ k=>andThen (kv n [] k) λcT k=>ok (⟨x.text,x.at_,d3,out,loc,cT⟩:Go.aQ.Node) k)=some r) (λT bJ=> ?_) ?_
  ·rcases af8 with ⟨aD,Y⟩|⟨aD,Y⟩
   ·rw[aD]at B9 ⊢
    simp only[ZE]at B9 ⊢
    rw[<-(fU aeB).2]at Y
    simp only[]at Y
    refine cL cd.eq_1 @t0 ⟨?_⟩
    refine eL (λJp=>bf X abv Wj Jp (Wj+1)) dA ?_
    intro Jp Kn
    have Md:=Qi.fr (cg.of (X:=[aG]) Kn) Zo
    have Oi:U X Jp j=zu [.str [], .Z 0, .aT, .aT, .aT, .aT] 6:=by rw[Kn.aa _ Zo];exact Oh
    have Kv:=Oy.trans (cg.of Kn)
    have azY:=aw.go (B9.ex Kn Zo Zo) (by omega:j<=Wj+1)
    clear Qi Oh Oy B9 Kn
    have OW:∃rd,ic n true [] (aU.drop (wb+1))=some rd/\(match rd with
     | .error F=>r= .error F
     | .ok (ds,k)=>∃AR,ee [59] k=some AR/\(match AR with
       | .error F=>r= .error F
       | .ok (_,k)=>(andThen (ee [108,101,116] k) λ_ k=>andThen (kv n [] k) λcT k=>ok (⟨x.text,x.at_,d3,out,ds,cT⟩:Go.aQ.Node) k)=some r)):=by
     rcases gK Y with ⟨F,aN,rfl⟩|⟨loc,axM,aN,Y⟩
     ·rcases gK aN with ⟨fu,Q,ak⟩|⟨ds,mM,Q,aN⟩
      ·cases ak;exact⟨_,Q,rfl⟩
      ·rcases gK aN with ⟨fu,ay,bt⟩|⟨ve,sr,ay,aN⟩
       ·cases bt;exact⟨_,Q,_,ay,rfl⟩
       ·cases aN
     ·rcases gK aN with ⟨fu,Q,ak⟩|⟨ds,mM,Q,aN⟩
      ·cases ak
      ·rcases gK aN with ⟨fu,ay,bt⟩|⟨ve,sr,ay,aN⟩
       ·cases bt
       ·cases aN;exact⟨_,Q,_,ay,Y⟩
    obtain⟨rd,Q,afL⟩:=OW
    refine(GR au kB azY Q).mono ?_ (λac S' am a=>by
     obtain⟨F,rfl,rfl,a⟩:=a
     subst afL
     exact⟨F,rfl,rfl,Kv.trans a⟩)
    rintro Xq Nh Qg ⟨ds,aE5,aoU,rfl,afJ,au3,BR⟩
    obtain⟨AR,ay,Ex⟩:=afL
    have aEb:=BR.le
    have In:=Md.fr BR Zo
    have Oj:U X Nh j=zu [.str [], .Z 0, .aT, .aT, .aT, .aT] 6:=by rw[BR.aa _ Zo Zx];exact Oi
    have asU:=Kv.trans BR
    obtain⟨fK,hX,xU⟩:=km afJ.len
    refine ce @t4 ⟨?_⟩
    refine f7 (ud (V:=4) In.mg Zo Zo fK hX) ?_
    refine ce @t0 ⟨?_⟩
    refine eL (λrZ=>U X rZ Qg=zu [.str [59]] 1/\U X rZ (bn+1)=zu [.str x.text, .Z x.at_,c5,vb,Xq, .aT] 6/\∀e,e<Qg->e≠bn+1->U X rZ e=U X Nh e) ⟨bb Zo,by rw[aC Zo Zo,bb Zo];rfl,λe J Q=>zw⟩ ?_
    rintro Dq ⟨aso,arZ,EQ⟩
    have Pn:=au3.aa (EQ _ Zo Zo) (EQ _ Zo Zo)
    have BS:cg X [aG] h j Dq (Qg+1):=⟨Zo,λb ag bU=>by rw[EQ b Zo Zo];exact asU.aa b ag bU⟩
    have Fb:um X Dq (Qg+1) (bn+1) x.text x.at_ c5 vb Xq d3 out ds:=by
     obtain⟨JG,An⟩:=In.e8
     obtain⟨Sg,jI⟩:=In.fR
     exact⟨arZ,Zo,⟨JG,(An.aa (λe B=>EQ e B.2 (zq B.1))).lift (λe B=>⟨B.1,zq B.2⟩)⟩,⟨Sg,(jI.aa (λe B=>EQ e B.2 (zq B.1))).lift (λe B=>⟨B.1,zq B.2⟩)⟩,⟨aoU,(afJ.aa (λe B=>EQ e B.2 (zq B.1))).lift (λe B=>⟨zq B.1,zq B.2⟩)⟩⟩
    have Ok:U X Dq j=zu [.str [], .Z 0, .aT, .aT, .aT, .aT] 6:=by rw[EQ _ Zo Zo];exact Oj
    refine(jZ au (aw.go Pn Zo) Zo Zo aso ay).mono ?_ (λac S' am a=>by
     obtain⟨F,rfl,rfl,a⟩:=a
     subst Ex
     exact⟨F,rfl,rfl,BS.trans a⟩)
    rintro aFT Jq L9 ⟨aF0,Cm,rfl,_,UY,Hh⟩
    exact bJ _ _ _ ⟨Xq,ds,Cm,aZ t0,aZ ew,aZ t4,Fb.fr Hh Zo,by rw[Hh.aa _ Zo Zx];exact Ok,UY,BS.trans Hh,Ex⟩
   ·rw[aD]at B9 ⊢
    simp only[Zy,ZC]at B9 ⊢
    simp only[andThen,ok]at Y
    refine cL cd.eq_1 hi.eq_1 ⟨?_⟩
    refine bJ _ _ _ ⟨.aT,[],wb,aZ t0,aZ ew,aZ t4,Qi.aa (λe J Q=>zw) Zo,by simp(disch:=omega) only[aC];exact Oh,B9.aa (zw) (zw), ?_,Y⟩
    exact⟨Zo,λb ag bU=>by rw[<-Oy.aa b ag bU];exact zw⟩
  ·clear af8 B9 Qi Oh Oy t0 ew t4
   rintro H Jp Qf ⟨aS,loc,aE4,t0,ew,t4,Md,Oi,afz,Kv,Y⟩
   have aEt:=Md.lt
   refine ce @t0 ⟨?_⟩
   refine eL (λdC=>U X dC Qf=zu [.str [108,101,116]] 1/\bf X Jp Qf dC (Qf+1)) ⟨bb Zo,dA⟩ ?_
   rintro Nh ⟨Ty,D6⟩
   have In:=Md.fr (cg.of (X:=[aG]) D6) Zo
   have Oj:U X Nh j=zu [.str [], .Z 0, .aT, .aT, .aT, .aT] 6:=by rw[D6.aa _ Zo];exact Oi
   have BR:=Kv.trans (cg.of D6)
   have WC:=aw.go (afz.ex D6 Zo Zo) (by omega:j<=Qf+1)
   clear Md Oi Kv afz D6
   rcases gK Y with ⟨F,ay,rfl⟩|⟨aFY,aFj,ay,Y⟩
   ·exact(jZ au WC Zo Zo Ty ay).mono (λac S' am a=>by obtain⟨E,cA,a,_⟩:=a;cases a) (λac S' am a=>a.of BR (λ_ a=>by cases a;rfl))
   refine(jZ au WC Zo Zo Ty ay).mono ?_ (λac S' am a=>by obtain⟨F,a,_⟩:=a;cases a)
   clear ay
   rintro aFS Dq fP ⟨aFZ,i16,atR,_,Pn,BS⟩
   cases atR
   have aEc:=BS.le
   have Fb:=In.fr BS Zo
   have Ok:U X Dq j=zu [.str [], .Z 0, .aT, .aT, .aT, .aT] 6:=by rw[BS.aa _ Zo Zx];exact Oj
   have ad9:=BR.trans BS
   have aEu:=Fb.lt
   clear In Oj BR BS WC Ty
   obtain⟨JG,An⟩:=Fb.e8
   obtain⟨Sg,jI⟩:=Fb.fR
   obtain⟨Nw,Pz⟩:=Fb.hY
   obtain⟨wD,C5,wE⟩:=km An.len
   obtain⟨n2,qZ,aFV⟩:=km jI.len
   obtain⟨f1,fD,z3⟩:=km Pz.len
   refine gk ?_
   refine fp (λm H S' aP=>∃(eM:D) (cT:List f8) (bL:List (List D)) (cw:List Nat) (cA:Nat),H.g 0=some (.ptr aG 0)/\H.g 2=some (.ptr j 0)/\H.g 4=some (.ptr (bn+1) 0)/\U X S' (bn+1)=zu [.str x.text, .Z x.at_,c5,vb,aS,eM] 6/\
    (∀e,bn+2<=e->e<fP->U X S' e=U X Dq e)/\gw X S' eM 4 bL.flatten cw/\(∀e∈cw,fP<=e/\e<aP)/\pu X S' (wv fP aP cw) cT bL/\U X S' j=zu [.str [], .Z 0, .aT, .aT, .aT, .aT] 6/\aQ X S' aG bQ aU cA/\cg X [aG] h j S' aP/\fP<=aP/\cT.length+m<=n/\
    (andThen (kv m cT (aU.drop cA)) λcT k=>ok (⟨x.text,x.at_,d3,out,loc,cT⟩:Go.aQ.Node) k)=some r)
    n ⟨.aT,[],[],[],i16,t0,ew,t4,Fb.mg,λ_ _ _=>rfl, .inl (.inl ⟨rfl,rfl,rfl⟩),Zs,rfl,Ok,Pn,ad9,Zj _,Zs,Y⟩ ?_
   clear Y Pn Ok ad9 t0 ew t4
   rintro m H Jq L9 ⟨eM,cT,bL,cw,Cm,t0,ew,t4,Tk,agF,PC,xp,Ps,adK,UY,Hh,aEd,aEz,Y⟩
   cases m with
   |zero=>simp[kv,andThen]at Y
   |succ m=>
   unfold kv at Y
   have azZ:=aw.go UY Hh.le
   refine gk ?_
   refine ce @t0 ⟨?_⟩
   have Lm:∃e k,aU.drop Cm=e::k/\((g3 e [116,101,108]=true/\ok (⟨x.text,x.at_,d3,out,loc,cT⟩:Go.aQ.Node) k=some r)\/(g3 e [116,101,108]=false/\(andThen (andThen (tf m (aU.drop Cm)) λaj k=>kv m (cT++[aj]) k) λcT k=>ok (⟨x.text,x.at_,d3,out,loc,cT⟩:Go.aQ.Node) k)=some r)):=by
    rcases gK Y with ⟨F,J,rfl⟩|⟨aid,bM,J,Y⟩
    ·obtain⟨e,k,Q,ak⟩:=rM J
     rcases ak with ⟨ak,ay⟩|⟨ak,ay⟩
     ·cases ay
     ·exact⟨e,k,Q, .inr ⟨ak,by rw[show(andThen (tf m (aU.drop Cm)) λaj k=>kv m (cT++[aj]) k)=some (.error F) from ay];rfl⟩⟩
    ·obtain⟨e,k,Q,ak⟩:=rM J
     rcases ak with ⟨ak,ay⟩|⟨ak,ay⟩
     ·cases ay
      exact⟨e,_,Q, .inl ⟨ak,Y⟩⟩
     ·exact⟨e,k,Q, .inr ⟨ak,by rw[show(andThen (tf m (aU.drop Cm)) λaj k=>kv m (cT++[aj]) k)=some (.ok (aid,bM)) from ay];exact Y⟩⟩
   clear Y
   obtain⟨e,aFk,aeC,av8⟩:=Lm
   refine(oF au azZ aeC _).Zm ?_
   rintro aFK Dr wo ⟨rfl,wa,TN⟩
   have aEe:=TN.le
   have LJ:∀e,j<=e->e<L9->U X Dr e=U X Jq e:=λe J Q=>TN.aa e Q Zx
   have aea:=Hh.trans TN
   rcases av8 with ⟨aD,Y⟩|⟨aD,Y⟩
   ·rw[aD]at wa ⊢
    simp only[ZE]at wa ⊢
    simp only[ok,Zf]at Y
    subst Y
    obtain⟨bD,cG,fV⟩:=gw.one PC
    have Tl:U X Dr (bn+1)=zu [.str x.text, .Z x.at_,c5,vb,aS,eM] 6:=by rw[LJ _ Zo Zo];exact Tk
    have asj:U X Dr j=zu [.str [], .Z 0, .aT, .aT, .aT, .aT] 6:=by rw[LJ _ Zo Zo];exact adK
    refine fW cd.eq_1 @t4 (bp Tl) @ew ⟨?_⟩
    refine f7 (iJ (y:=6) (b:=j) (V:=0) (n:=6) (c:=R.ofList [.str [], .Z 0, .aT, .aT, .aT, .aT] 0 .nil) (by simp(disch:=omega) only[aC];exact asj) Zo rfl Zd Zd (by simp[D.cells,ju,C5,qZ,fD,cG,show qN (.Z x.at_)=true from rfl,show qN (.str x.text)=true from rfl])) ?_
    refine ce @ew ⟨?_⟩
    have ET:∀gP,(∀e,j<e->e<wo->U X gP e=U X Dr e)->∀e,j<e->e<L9->U X gP e=U X Jq e:=λgP a e J Q=>by rw[a e J Zo,LJ e Zo Q]
    generalize aek:bi X _ j _=gP
    have PW:∀e,e≠j->e<wo->U X gP e=U X Dr e:=λe J Q=>by rw[<-aek];exact zw
    clear aek
    have VE:=ET gP (λe J Q=>PW e Zo Q)
    have sn:=Ps.wide
    obtain⟨aoZ,Py⟩:=(PC.aa (S':=gP) (λe B=>VE e (zq (xp e B)) (xp e B).2)).rH Zd sn.2 (by rw[sn.1];omega) (P:=dx j (wo+1)) (λe B=>by have:=xp e B;exact⟨Zo,Zo⟩)
    have cS:∀e,dx (bn+1+1) fP e->U X gP e=U X Dq e:=λe B=>by
     have J:=B.1;have Q:=B.2
     rw[VE e Zo Zo];exact agF e Zo Q
    have dZ:∀e,dx (bn+1+1) fP e->dx j (wo+1) e:=λe B=>⟨zq B.1,zq B.2⟩
    refine⟨_,Cm+1,_,by rw[(fU aeC).2],rfl,⟨c5,vb,aS,eM,JG,Sg,Nw,aoZ,bL,rfl,(An.aa cS).lift dZ,(jI.aa cS).lift dZ,(Pz.aa cS).lift dZ,Py, ?_⟩, ?_, ?_⟩
    ·exact Ps.aa (λe B=>VE e (zq B.1) B.2.1) (λe B=>⟨zq B.1,zq B.2.1⟩)
    ·exact wa.aa (PW _ Zo Zo) (PW _ Zo Zo)
    ·exact⟨Zo,λb ag bU=>by rw[PW b Zo Zo];exact aea.aa b ag bU⟩
   ·rw[aD]at wa ⊢
    simp only[Zy,ZC]at wa ⊢
    obtain⟨bD,cG,fV⟩:=gw.one PC
    have Tl:U X Dr (bn+1)=zu [.str x.text, .Z x.at_,c5,vb,aS,eM] 6:=by rw[LJ _ Zo Zo];exact Tk
    refine gb cd.eq_1 hi.eq_1 @t4 (bp Tl) @t0 ⟨?_⟩
    refine eL (λRP=>bf X Dr wo RP (wo+1+8)) dA ?_
    intro RP TH
    have awO:∀e,j<=e->e<L9->U X RP e=U X Jq e:=λe J Q=>by rw[TH.aa e Zo];exact LJ e J Q
    have aeb:=aea.trans (cg.of TH)
    have az0:=aw.go (wa.ex TH Zo Zo) (by omega:j<=wo+1+8)
    have avw:∃Fz,tf m (aU.drop Cm)=some Fz/\(match Fz with
     | .error F=>r= .error F
     | .ok (aj,k)=>(andThen (kv m (cT++[aj]) k) λcT k=>ok (⟨x.text,x.at_,d3,out,loc,cT⟩:Go.aQ.Node) k)=some r):=by
     rcases gK Y with ⟨F,J,rfl⟩|⟨aid,bM,J,Y⟩
     ·rcases gK J with ⟨fu,Q,ak⟩|⟨aj,k,Q,ak⟩
      ·cases ak;exact⟨_,Q,rfl⟩
      ·exact⟨_,Q,by show andThen _ _=_;rw[ak];rfl⟩
     ·rcases gK J with ⟨fu,Q,ak⟩|⟨aj,k,Q,ak⟩
      ·cases ak
      ·exact⟨_,Q,by show andThen _ _=_;rw[ak];exact Y⟩
    obtain⟨Fz,J,hr⟩:=avw
    refine(aqM au d7 Zo az0 J).mono ?_ (λac S' am a=>by
     obtain⟨F,rfl,rfl,a⟩:=a
     subst hr
     exact⟨F,rfl,rfl,aeb.trans a⟩)
    rintro Xr Jr ahi ⟨aj,awi,row,rfl,rfl,U7,au4,TO⟩
    have aEf:=TO.le
    have asV:=aeb.trans TO
    have LK:∀e,j<=e->e<L9->U X Jr e=U X Jq e:=λe J Q=>by rw[TO.aa e Zo Zx];exact awO e J Q
    have adx:U X Jr (bn+1)=zu [.str x.text, .Z x.at_,c5,vb,aS,eM] 6:=by rw[LK _ Zo Zo];exact Tk
    have avv:=U7.len
    obtain⟨jX,e8,fR,hY,rfl⟩:∃jX e8 fR hY,row=[jX,e8,fR,hY]:=by
     match row,avv with
     |[F,b,c,d],_=>exact⟨F,b,c,d,rfl⟩
    have xC:ju [jX,e8,fR,hY]=true:=by obtain⟨_,_,_,_,_,J,_,_,_,bt⟩:=U7;exact bt
    refine ce (bp adx) ⟨?_⟩
    refine gp fV ?_
    have kA:lG X (bi X Jr (wo+1+4) (zu [jX,e8,fR,hY] 4)) 4 (.slice (wo+1+4) 0 1 1)=some (1,[jX,e8,fR,hY]):=sJ (bb Zo) (nk _) rfl _
    have sn:=Ps.wide
    have mj:=uA sn.2
    obtain⟨aBc,Gn,gL,iE,afQ,OO,auu⟩:=(PC.aa (S':=bi X Jr (wo+1+4) (zu [jX,e8,fR,hY] 4)) (λe B=>by have:=xp e B;rw[aC Zo Zo];exact LK e Zo Zo)).append (j:=ahi) Zd kA rfl Zd xC (by rw[mj,sn.1];simp only[ZF,Z3];omega) Zo (λe B=>zq (xp e B))
    refine j8 iE ?_
    obtain⟨eQ,fd,kw⟩:=k1.one afQ
    have Cr:∀e,e<ahi->e≠wo+1+4->e∉cw->U X Gn e=U X Jr e:=λe J Q ak=>by rw[auu e Zo ak,aC Zo Q]
    have dX:∀e,e<fP->e∉cw:=λe J Q=>zq (xp e Q)
    have ar1:U X Gn (bn+1)=zu [.str x.text, .Z x.at_,c5,vb,aS,eM] 6:=by rw[Cr _ Zo Zo (dX _ Zo)];exact adx
    refine ce @t4 ⟨?_⟩
    refine f7 (ud (V:=5) ar1 Zo Zo eQ fd) ?_
    have Cs:∀e,e≠bn+1->∀cV,U X (bi X Gn (bn+1) cV) e=U X Gn e:=λe a cV=>aC Zo a
    refine⟨m,Zo,aBc,cT++[aj],bL++[[jX,e8,fR,hY]],gL,awi,aZ t0,aZ ew,aZ t4,by rw[bb Zo];rfl, ?_, .inl ?_, ?_, ?_, ?_, ?_, ?_,Zo,Zx,hr⟩
    ·intro e J Q
     rw[Cs e Zo,Cr e Zo Zo (dX e Q),LK e Zo Zo]
     exact agF e J Q
    ·rw[YK,Yk,List.flatten_nil,Yv]
     exact afQ.aa λe B=>Cs e (by rcases OO e B with rfl|a;omega;have:=xp e a;omega) _
    ·intro e B
     rcases OO e B with rfl|a
     ·omega
     ·have:=xp e a;omega
    ·refine pu.snoc (U7.aa (λe B=> ?_) (λe B=>B)) (Ps.aa (λe B=> ?_) (λe B=>B)) (λe B=> ?_) (λe B=>⟨?_,λpU=>by have:=B.1;have:=pU.2.1;omega⟩)
     ·have J:=B.1;have Q:=B.2
      rw[Cs e Zo,Cr e Zo Zo (λa=>zq (xp e a))]
     ·have J:=B.1;have Q:=B.2.1
      rw[Cs e Zo,Cr e Zo Zo B.2.2,LK e Zo Zo]
     ·have J:=B.1;have Q:=B.2.1
      refine⟨J,Zo,λa=> ?_⟩
      rcases OO e a with rfl|a
      ·omega
      ·exact B.2.2 a
     ·have J:=B.1;have Q:=B.2
      refine⟨Zo,Zo,λa=> ?_⟩
      rcases OO e a with rfl|a
      ·omega
      ·have:=xp e a;omega
    ·rw[Cs _ Zo,Cr _ Zo Zo (dX _ Zo),LK _ Zo Zo];exact adK
    ·exact au4.aa (by rw[Cs _ Zo,Cr _ Zo Zo (dX _ Zo)]) (by rw[Cs _ Zo,Cr _ Zo Zo (dX _ Zo)])
    ·exact⟨Zo,λb ag bU=>by rw[Cs b Zo,Cr b Zo Zo (dX b Zo)];exact asV.aa b ag bU⟩
end
def px(X:ch)(h:R af):(Nat->Prop)->List Go.aQ.Node->List (List D)->Prop
 |_,[],bL=>bL=[]
 |P,aj::cT,bL=>∃row h8 bg,bL=row::h8/\(∀e,bg e->P e)/\oM X h bg aj row/\px X h (λe=>P e/\¬bg e) cT h8
def oM.aa{X:ch}{h S':R af}{P bg:Nat->Prop}{g:Go.aQ.Node}{row:List D}(a:oM X h P g row)(y:∀e,P e->U X S' e=U X h e)(az:∀e,P e->bg e):oM X S' bg g row:=by
 obtain⟨c5,dt,aS,eM,bZ,cu,c0,fE,bL,E,J,Q,ak,ay,bt⟩:=a
 exact⟨c5,dt,aS,eM,bZ,cu,c0,fE,bL,E,(J.aa y).lift az,(Q.aa y).lift az,(ak.aa y).lift az,(ay.aa y).lift az,bt.aa y az⟩
def oM.len{X:ch}{h:R af}{P:Nat->Prop}{g:Go.aQ.Node}{row:List D}(a:oM X h P g row):row.length=6:=by
 obtain⟨c5,dt,aS,eM,bZ,cu,c0,fE,bL,E,_⟩:=a
 subst E;rfl
def px.aa{X:ch}{h S':R af}:∀{cT:List Go.aQ.Node}{bL:List (List D)}{P bg:Nat->Prop}(y:∀e,P e->U X S' e=U X h e) (az:∀e,P e->bg e),px X h P cT bL->px X S' bg cT bL:=by
 intro cT
 induction cT with
 |nil=>intro bL P bg y az a;exact a
 |cons aj cT ai=>
  rintro bL P bg y az ⟨row,h8,eK,J,b3,Q,ak⟩
  exact⟨row,h8,eK,J,λe B=>az e (b3 e B),Q.aa (λe B=>y e (b3 e B)) (λe B=>B),ai (λe B=>y e B.1) (λe B=>⟨az e B.1,B.2⟩) ak⟩
def px.snoc{X:ch}{h:R af}{bg:Nat->Prop}{aj:Go.aQ.Node}{row:List D}(a:oM X h bg aj row):∀{cT:List Go.aQ.Node}{bL:List (List D)}{py P:Nat->Prop},px X h py cT bL->(∀e,py e->P e)->(∀e,bg e->P e/\¬py e)->px X h P (cT++[aj]) (bL++[row]):=by
 intro cT
 induction cT with
 |nil=>rintro bL py P rfl J Q;exact⟨row,[],bg,rfl,λe B=>(Q e B).1,a,rfl⟩
 |cons F cT ai=>
  rintro bL py P ⟨t2,h8,eK,rfl,b3,ak,ay⟩ J Q
  exact⟨t2,h8++[row],eK,rfl,λe B=>J e (b3 e B),ak,ai ay (λe B=>⟨J e B.1,B.2⟩) (λe B=>⟨⟨(Q e B).1,λjT=>(Q e B).2 (b3 e jT)⟩,λpU=>(Q e B).2 pU.1⟩)⟩
def px.wide{X:ch}{h:R af}:∀{cT:List Go.aQ.Node}{bL:List (List D)}{P:Nat->Prop},px X h P cT bL->bL.length=cT.length/\∀r∈bL,r.length=6:=by
 intro cT
 induction cT with
 |nil=>rintro bL P rfl;simp
 |cons F cT ai=>
  rintro bL P ⟨t2,h8,eK,rfl,b3,Q,ak⟩
  obtain⟨ay,bt⟩:=ai ak
  refine⟨by simp[ay],λr Y=> ?_⟩
  rcases Zt.1 Y with rfl|Y
  ·exact Q.len
  ·exact bt r Y
def px.get{X:ch}{h:R af}:∀{cT:List Go.aQ.Node}{bL:List (List D)}{P:Nat->Prop},px X h P cT bL->∀(i:Nat) g,cT[i]? =some g->∃row,bL[i]? =some row/\oM X h P g row:=by
 intro cT
 induction cT with
 |nil=>intro bL P _ i g a;simp at a
 |cons F cT ai=>
  rintro bL P ⟨t2,h8,eK,rfl,b3,Q,ak⟩ i g a
  cases i with
  |zero=>simp at a;subst a;exact⟨t2,rfl,Q.aa (λ_ _=>rfl) b3⟩
  |succ i=>simp at a;obtain⟨row,ay,bt⟩:=ai ak i g a;exact⟨row,by simpa using ay,bt.aa (λ_ _=>rfl) (λe B=>B.1)⟩
def pu.get{X:ch}{h:R af}:∀{cT:List f8}{bL:List (List D)}{P:Nat->Prop},pu X h P cT bL->∀(i:Nat) g,cT[i]? =some g->∃row,bL[i]? =some row/\ym X h P g row:=by
 intro cT
 induction cT with
 |nil=>intro bL P _ i g a;simp at a
 |cons F cT ai=>
  rintro bL P ⟨t2,h8,eK,rfl,b3,Q,ak⟩ i g a
  cases i with
  |zero=>simp at a;subst a;exact⟨t2,rfl,Q.aa (λ_ _=>rfl) b3⟩
  |succ i=>simp at a;obtain⟨row,ay,bt⟩:=ai ak i g a;exact⟨row,by simpa using ay,bt.aa (λ_ _=>rfl) (λe B=>B.1)⟩
def oM.ju{X:ch}{h:R af}{P:Nat->Prop}{g:Go.aQ.Node}{row:List D}(a:oM X h P g row):Go.ba.ju row=true:=by
 obtain⟨c5,dt,aS,eM,bZ,cu,c0,fE,bL,rfl,J,Q,ak,ay,_⟩:=a
 simp[Go.ba.ju,(km J.len).2.1,(km Q.len).2.1,(km ak.len).2.1,(km ay.len).2.1,show qN (.Z g.at_)=true from rfl,show qN (.str g.name)=true from rfl]
def oO(X:ch)(h:R af)(P:Nat->Prop)(an:List Go.aQ.Node)(v:D):Prop:=∃b aS cO bL,v= .ptr b 0/\P b/\aI X h (.ptr b 0)=some aS/\dL X h P cO aS 6 bL/\px X h P an bL
def oO.aa{X:ch}{h S':R af}{P bg:Nat->Prop}{an:List Go.aQ.Node}{v:D}(a:oO X h P an v)(y:∀e,P e->U X S' e=U X h e)(az:∀e,P e->bg e):oO X S' bg an v:=by
 obtain⟨b,aS,cO,bL,rfl,J,Q,ak,ay⟩:=a
 exact⟨b,aS,cO,bL,rfl,az _ J,zB (y _ J) Q,(ak.aa y).lift az,ay.aa y az⟩
section
variable{X:ch}{h S' aK aJ:R af}{j am aM aR aG bQ:Nat}{aU:List Tok}{i:Nat}
def az6(au:di X)(d7:wK X){n:Nat}(tA:n<=170000)(kB:aU.length<=100000)(aw:i6 X h j aG bQ aU i){r:Except Int (List Go.aQ.Node×List Tok)}(Y:nR n [] (aU.drop i)=some r):
 aW X 24 [.ptr aG 0] h j (λac S' am=>∃an cA,r= .ok (an,aU.drop cA)/\oO X S' (dx j am) an ac/\aQ X S' aG bQ aU cA/\cg X [aG] h j S' am) (jm X aG h j r):=by
 refine zx au (alx X) ?_
 rw[aly]
 unfold aaa
 have g6:=aw.a6
 have ky:=aw.hK
 have ir:=aw.b7
 have j2:=aw.hg
 refine cI ⟨?_⟩
 have adG:U X (bi X h j (zu [.aT] 1)) j=zu [.aT] 1:=bb Zo
 have bH:bf X h j (bi X h j (zu [.aT] 1)) (j+1):=dA
 refine fp (λm H S' aP=>∃(aS:D) (an:List Go.aQ.Node) (bL:List (List D)) (cw:List Nat) (cA:Nat) (c:Bool),H.g 0=some (.ptr aG 0)/\H.g 3=some (.ptr j 0)/\H.g 4=some (.bool c)/\U X S' j=zu [aS] 1/\gw X S' aS 6 bL.flatten cw/\(∀e∈cw,j+1<=e/\e<aP)/\px X S' (wv (j+1) aP cw) an bL/\aQ X S' aG bQ aU cA/\cg X [aG] h j S' aP/\j+1<=aP/\an.length+m<=n/\
  (if c then nR m an (aU.drop cA)=some r else r= .ok (an,aU.drop cA)))
  n ⟨.aT,[],[],[],i,true,be,be,be,adG, .inl (.inl ⟨rfl,rfl,rfl⟩),Zs,rfl,aw.par.ex bH Zo Zo,cg.of bH,Zj _,Zs,Y⟩ ?_
 clear Y adG bH
 rintro m H aJ aR ⟨aS,an,bL,cw,gB,c,t0,t3,t4,vC,tG,oh,O3,dD,du,fC,Eo,Y⟩
 cases c with
 |false=>
  simp only[Zy,ZC]at Y
  subst Y
  refine cL @t4 @t3 ⟨?_⟩
  have xw:=O3.wide
  obtain⟨cO,cC⟩:=tG.rH Zd xw.2 (by rw[xw.1];omega) (P:=dx j aR) (λe B=>by have:=oh e B;exact⟨Zo,Zo⟩)
  exact⟨an,gB,rfl,⟨j,aS,cO,bL,rfl,⟨Zo,Zo⟩,by rw[bp vC];rfl,cC,O3.aa (λ_ _=>rfl) (λe B=>⟨zq B.1,B.2.1⟩)⟩,dD,du⟩
 |true=>
  simp only[ZE]at Y
  cases m with
  |zero=>simp[nR]at Y
  |succ m=>
  unfold nR at Y
  have f0:=aw.go dD du.le
  obtain⟨bD,cG,fV⟩:=gw.one tG
  have js:aI X aJ (.ptr j 0)=some aS:=by rw[bp vC];rfl
  refine fW @t4 @t3 @t0 @js ⟨?_⟩
  have Cd:∃Fz,Go.aQ.node m (aU.drop gB)=some Fz/\(match Fz with
   | .error F=>r= .error F
   | .ok (aj,k)=>(match k with
     |[]=>none
     |x::_=>if x.kind=7 then ok (an++[aj]) k else nR m (an++[aj]) k)=some r):=by
   rcases gK Y with ⟨F,J,rfl⟩|⟨aj,bM,J,Y⟩
   ·exact⟨_,J,rfl⟩
   ·exact⟨_,J,Y⟩
  obtain⟨Fz,J,hr⟩:=Cd
  clear Y
  have nS:=f0.go (am:=aR+12) dD Zo
  refine(ayP au d7 Zo kB nS J).mono ?_ (λac S' am a=>by
   obtain⟨F,rfl,rfl,a⟩:=a
   subst hr
   exact⟨F,rfl,rfl,du.trans (a.down Zo (λb ag=> .inl ag))⟩)
  rintro v3 a1 bn ⟨g,i3,row,rfl,rfl,U8,gV,eg⟩
  have jf:=eg.le
  have Hi:cg X [aG] h j a1 bn:=du.trans (eg.down Zo (λb ag=> .inl ag))
  have Pc:=U8.len
  have xC:=U8.ju
  obtain⟨jX,e8,fR,hY,pj,nU,rfl⟩:∃jX e8 fR hY pj nU,row=[jX,e8,fR,hY,pj,nU]:=by
   match row,Pc with
   |[F,b,c,d,E,f],_=>exact⟨F,b,c,d,E,f,rfl⟩
  have uF:U X a1 j=zu [aS] 1:=by rw[eg.aa _ Zo Zx];exact vC
  have cS:∀e,j<=e->e<aR->U X a1 e=U X aJ e:=λe J Q=>eg.aa e Zo Zx
  have awY:aI X a1 (.ptr j 0)=some aS:=by rw[bp uF];rfl
  refine ce @awY ⟨?_⟩
  refine gp fV ?_
  have kA:lG X (bi X a1 (aR+7) (zu [jX,e8,fR,hY,pj,nU] 6)) 6 (.slice (aR+7) 0 1 1)=some (1,[jX,e8,fR,hY,pj,nU]):=sJ (bb Zo) (nk _) rfl _
  have xw:=O3.wide
  have mj:=uA xw.2
  obtain⟨kX,bA,gL,iE,qE,vK,fH⟩:=(tG.aa (S':=bi X a1 (aR+7) (zu [jX,e8,fR,hY,pj,nU] 6)) (λe B=>by have:=oh e B;rw[aC Zo Zo];exact cS e Zo Zo)).append (j:=bn) Zd kA rfl Zd xC (by rw[mj,xw.1];simp only[ZF,Z3];omega) Zo (λe B=>zq (oh e B))
  refine j8 iE ?_
  obtain⟨eQ,fd,kw⟩:=k1.one qE
  have d1:∀e,e<bn->e≠aR+7->e∉cw->U X bA e=U X a1 e:=λe J Q ak=>by rw[fH e Zo ak,aC Zo Q]
  have dX:∀e,e<j+1->e∉cw:=λe J Q=>zq (oh e Q)
  have yV:U X bA j=zu [aS] 1:=by rw[d1 _ Zo Zo (dX _ Zo)];exact uF
  refine cI ⟨?_⟩
  refine f7 (ud (V:=0) yV Zo Zo eQ fd) ?_
  refine ce @t0 ⟨?_⟩
  have dY:∀e,e≠j->∀cV,U X (bi X bA j cV) e=U X bA e:=λe a cV=>aC Zo a
  have hz:∀cV,aQ X (bi X bA j cV) aG bQ aU i3:=λcV=>gV.aa (by rw[dY _ Zo,d1 _ Zo Zo (dX _ Zo)]) (by rw[dY _ Zo,d1 _ Zo Zo (dX _ Zo)])
  obtain⟨x,k,aE,Al⟩:∃x k,aU.drop i3=x::k/\(if x.kind=7 then ok (an++[g]) (aU.drop i3)else nR m (an++[g]) (aU.drop i3))=some r:=by
   cases aE:aU.drop i3 with
   |nil=>rw[aE]at hr;cases hr
   |cons x k=>rw[aE]at hr;exact⟨x,k,rfl,hr⟩
  refine eL (λbN=>U X bN j=zu [kX] 1/\(∀e,e≠j->U X bN e=U X bA e)) ⟨by rw[bb Zo];rfl,λe a=>dY e a _⟩ ?_
  rintro bN ⟨G7,dY⟩
  have afA:aQ X bN aG bQ aU i3:=gV.aa (by rw[dY _ Zo,d1 _ Zo Zo (dX _ Zo)]) (by rw[dY _ Zo,d1 _ Zo Zo (dX _ Zo)])
  refine(sC au Zo afA Zo Zo (fU aE).1).Zm ?_
  rintro MN bY dv ⟨rfl,ej⟩
  have o7:=ej.le
  have dk:∀e,e≠j->e<bn+1->U X bY e=U X bA e:=λe J Q=>by rw[ej.aa e Q,dY e J]
  have fin:∀(c3:cU) (c:Bool),c3.g 0=some (.ptr aG 0)->c3.g 3=some (.ptr j 0)->c3.g 4=some (.bool c)->(if c then nR m (an++[g]) (aU.drop i3)=some r else r= .ok (an++[g],aU.drop i3))->∃gH,gH<m+1/\∃(aS:D) (an:List Go.aQ.Node) (bL:List (List D)) (cw:List Nat) (cA:Nat) (c:Bool),c3.g 0=some (.ptr aG 0)/\c3.g 3=some (.ptr j 0)/\c3.g 4=some (.bool c)/\U X bY j=zu [aS] 1/\gw X bY aS 6 bL.flatten cw/\(∀e∈cw,j+1<=e/\e<dv)/\px X bY (wv (j+1) dv cw) an bL/\aQ X bY aG bQ aU cA/\cg X [aG] h j bY dv/\j+1<=dv/\an.length+gH<=n/\
   (if c then nR gH an (aU.drop cA)=some r else r= .ok (an,aU.drop cA)):=by
   intro c3 c tX ea fQ ax
   refine⟨m,Zo,kX,an++[g],bL++[[jX,e8,fR,hY,pj,nU]],gL,i3,c,tX,ea,fQ,by rw[ej.aa _ Zo];exact G7, .inl ?_, ?_, ?_, ?_, ?_,Zo,Zx,ax⟩
   ·rw[YK,Yk,List.flatten_nil,Yv]
    exact qE.aa λe B=>dk e (by rcases vK e B with rfl|a;omega;have:=oh e a;omega) (by rcases vK e B with rfl|a;omega;have:=oh e a;omega)
   ·intro e B
    rcases vK e B with rfl|a
    ·omega
    ·have:=oh e a;omega
   ·refine px.snoc (U8.aa (λe B=> ?_) (λe B=>B)) (O3.aa (λe B=> ?_) (λe B=>B)) (λe B=> ?_) (λe B=>⟨?_,λpU=>by have:=B.1;have:=pU.2.1;omega⟩)
    ·have J:=B.1;have Q:=B.2
     rw[dk e Zo Zo,d1 e Zo Zo (λa=>zq (oh e a))]
    ·have J:=B.1;have Q:=B.2.1
     rw[dk e Zo Zo,d1 e Zo Zo B.2.2,cS e Zo Zo]
    ·have J:=B.1;have Q:=B.2.1
     refine⟨J,Zo,λa=> ?_⟩
     rcases vK e a with rfl|a
     ·omega
     ·exact B.2.2 a
    ·have J:=B.1;have Q:=B.2
     refine⟨Zo,Zo,λa=> ?_⟩
     rcases vK e a with rfl|a
     ·omega
     ·have:=oh e a;omega
   ·exact afA.ex ej Zo Zo
   ·exact⟨Zo,λb ag bU=>by rw[dk b Zo Zo,d1 b Zo Zo (dX b Zo)];exact Hi.aa b ag bU⟩
  by_cases aH:x.kind=7
  ·rw[Zp aH]at Al
   simp only[ok,Zf]at Al
   have d:decide (x.kind=7)=true:=by simp[aH]
   refine cL cd.eq_1 @aH ⟨?_⟩
   exact fin _ false (aZ t0) (aZ t3) (fO) Al.symm
  ·rw[Zh aH]at Al
   have d:decide (x.kind=7)=false:=by simp[aH]
   refine cL cd.eq_1 @aH ⟨?_⟩
   exact fin _ true (aZ t0) (aZ t3) (by refine BK ⟨?_⟩;simp[aH]) Al
end
end
open Go.ba
noncomputable section
variable (X : ch) (h : R af) (j : Nat) (ah av : bI) (a0 a7 b6 a3 a4 a5 hE ib iz : D)
def σ(a:aL)(b c:D)(d:R af)(e:Nat)(f g:bI):Prop:=
 ar (dc a d .eql 54 true b .cF) λh=>hB h c d e λd e i=>hB h b e i λe i j=>kQ h (λb=>iS a d [e] i j b g) i j λd e i=>e7 h (gi .not d) e i λd e i=>c4 (λd=>bk (λb c d=>lO b 0 8 a c λ_ _ e=>ip e (λ_ a b=>f (.tuple []) a b) λf h=>fg (λb c d e=>hm c 19 18 λf=>bk (λc d e=>vg (λa c d=>gJ a 19 λe=>b (Z a 19 e) c d) c 17 19 a d λb f=>sW c λh=>aW a 16 [f,h] d e (λ_ a d=>b (Z c 5 f) a d) g) λa=>aV f (a (Z c 20 f) d e) (h (Z c 20 f) d e)) (zz b 17 e 18 f 19 (.Z 0)) c d) λa=>aV d (f (.tuple []) e i) (a (Z (cP [b,c]) 13 d) e i)) λa=>aV h (a .zT) (a d)
def alm:cY X 16 [a0,a7] h j ah av=σ X a0 a7 h j ah av:=Zk
def alk:cQ X 16 2=true:=Zk
def aad(a:aL)(b:D)(c:R af)(d:Nat)(e f:bI):Prop:=
 A8 d a c λc d g=>aW a 52 [b] d g (λd g h=>ar (bl .neq d (.Z 0)) λd=>bk (λb c d=>rT b a c λg=>ip g (λb c d=>De λf=>k0 b 2 a c 2 f λa b=>e b a d) λh i=>fg (λb c d g=>hm c 15 14 λh=>bk (λc d g=>bk (λa c d=>gJ a 15 λe=>b (Z a 15 e) c d) λb=>Dc c 15 13 6 λh i=>C9 a d i g λd g i=>e3 c λj=>rR a i 6 d 10 g f λg i k=>gu a i k (.map k) (.map [] 0) λi k l=>ar (fv [.cF, .Z 0, .cF, .mv, .Z 0, .Z 0] [(0,1,j),(1,1,h),(2,1,g),(3,1,i)]) λg=>hn a k l g λg i j=>aW a 53 [g] i j (λ_ f i=>lm g 4 λj=>yh j a f 0 λj=>bk b λb=>aV j (lm g 4 λb=>m2 a f b λb=>k0 c 2 a f 2 b λa b=>e b a i) (b (zA c 4 d 3 h 5 g 34 j) f i)) f) λa=>aV h (a (Z c 16 h) d g) (i (Z c 16 h) d g)) (zz b 13 g 14 h 15 (.Z 0)) c d) λf=>aV d (ar (fv [.Z 0, .Z 0] [(0,1, .Z 1)]) λb=>uk a g 2 c b λa b=>e b a h) (f (zy (cP [b]) 2 c 8 d) g h)) f
def alE:cY X 29 [a0] h j ah av=aad X a0 h j ah av:=Zk
def alD:cQ X 29 1=true:=Zk
def aaB(a:aL)(b:D)(c:R af)(d:Nat)(e f:bI):Prop:=
 ar (dc a c .eql 23 true b .cF) λg=>hB g b c d λc d h=>yj g c d h 0 a λc d h=>e7 g (gC c) d h λc d h=>e7 g (bl .eql c (.Z 0)) d h λc d h=>c4 (λc=>hB c b d h λd g h=>yj c d g h 0 a λd g h=>e7 c (gC d) g h λd g h=>e7 c (bl .gtr d (.Z 64)) g h λd g h=>c4 (λc=>bk (λb c d=>rT b a c λg=>ip g (λa b c=>qd a λa=>e a b c) λh i=>fg (λb c d g=>hm c 30 29 λh=>bk (λc d g=>sT (λa c d=>gJ a 30 λe=>b (Z a 30 e) c d) c 28 30 6 λb h=>C9 a d h g λd g h=>rR a h 6 d 78 g f λa f g=>bk b λb=>n4 a 1 b λb h=>aV b (e a f g) (n4 a 22 h λe h=>aV e (h (zy (zA c 5 d 6 a 36 a 37 b) 40 e 3 a) f g) (h (Z (zA c 5 d 6 a 36 a 37 b) 40 e) f g))) λa=>aV h (a (Z c 31 h) d g) (i (Z c 31 h) d g)) (zA b 3 (.Z 0) 28 g 29 h 30 (.Z 0)) c d) λa=>aV c (e (.Z 1) g h) (a (zy (cP [b]) 2 (.Z 0) 24 c) g h)) λa=>aV c (a .zT) (a d)) λa=>aV g (a .zT) (a c)
def ami:cY X 52 [a0] h j ah av=aaB X a0 h j ah av:=Zk
def amh:cQ X 52 1=true:=Zk
def aio(a:aL)(b:bI):ft:=λc d e=>nV a [] b c c.bd d e
def Fq(a:aL)(b c:bI):s4:=λd e f g=>wr a [] b c d e d.bd f g
def aaC(a:aL)(b:D)(c:R af)(d:Nat)(e f:bI):Prop:=
 hn a c d b λc d g=>eW (g+15) λh=>ar (aI a d c) λi=>g9 i 0 a d λ_ i=>g9 i 0 a d λ_ i=>ar (aI a d c) λj=>g9 j 1 a d λ_ j=>ar (gt 6 i j) λi=>ar (cZ a d 6 i) λi=>ar (hR [.str [], .Z 0, .aT, .aT, .aT, .aT] (g+13)) λj=>ms a d (g+13) j.1 j.2 λd g=>ar (gg a g 6 d i) λg=>eW (h+12) λh=>ar (aI a g c) λi=>g9 i 0 a g λ_ i=>jy d a g λj=>aW a 79 [i,j] g h (λg h i=>hl g λg _=>ar (aI a h c) λj=>g9 j 1 a h λ_ j=>ar (bl .lss g j) λj=>bk (λb c d=>iY b 1 a c λg=>m1 b 2 a c 6 λh=>aW a 81 [g,h] c d (λ_ c d=>iy b 2 5 a c λ_ g=>ip g (λb c d=>m1 b 2 a c 6 λg=>aW a 32 [g] c d (λc d g=>bk (λb c d=>aio a e b c d) λh=>Fv a 103 c [85,86] (tZ a (λ_ _ b _ _ c d e=>cz (c 85) λf=>MZ e a d c 86 λa d e=>b (zy c 10 f 11 a) e d) λ_ b c _ _ d e f=>bk c λc=>eW (f+12) λf=>cz (d 10) λg=>ar (bl .neq g (.Z 1)) λg=>PU g (d 1) (λb=>aI a e b) e λe h=>ji g (sO e) h λe h=>I7 g 3 e h a λe h=>PU g (d 11) (λa=>hk 0 a) h λh i=>ji g (aI a i h) i λh i=>ji g (mN a i 9 (.Z 0) e h false) i λe h=>ji g (bl .eql e (.Z 0)) h λe h=>c4 (λe=>bk c λc=>aV e (iY d 1 a h λg=>iy d 11 1 a h λ_ i=>aW a 80 [g, .Z 37,i] h f (λ_ a b=>c (Z d 98 e) a b) (b (h2 [99,100,101,102] (Z d 98 e)))) (c (Z d 98 e) h f)) λa=>aV g (a e) (a .zF)) h (DU 4 h λ_ _ _ _=>False) (aio a e) (Fq a e f) (Z b 84 c) d g) (Fq a e f (h2 [83,84] b))) λh i=>fg (λb c d g=>hm c 51 50 λh=>bk (λc d g=>sT (λa c d=>gJ a 51 λe=>b (Z a 51 e) c d) c 49 51 4 λb h=>Da a d h g λd g h=>jy d a h λi=>ip i (λc d g=>iY c 1 a d λh=>iy c 6 3 a d λ_ i=>aW a 83 [h,i] d g (λ_ a d=>b c a d) (Fq a e f (h2 [78,79,80,81] c))) λb j=>fg (λb c d g=>hm c 58 57 λh=>bk (λc d g=>bk (λa c d=>gJ a 58 λe=>b (Z a 58 e) c d) λb=>Dc c 58 56 1 λh i=>ar (aI a d i) λi=>iy c 6 1 a d λ_ j=>ar (gC j) λj=>ar (bl .lss h j) λj=>bk (λc d g=>iY c 1 a d λh=>fm c 8 9 λi j=>aW a 82 [h,i,j] d g (λ_ a d=>b c a d) (Fq a e f (h2 [73,74,75,76] c))) λb=>aV j (iy c 6 1 a d λ_ e=>ar (gt 1 e h) λe=>ar (aI a d e) λa=>b (Z (zA c 7 h 8 i 9 (.Z 0) 67 j) 9 a) d g) (b (zA c 7 h 8 i 9 (.Z 0) 67 j) d g)) λa=>aV h (a (Z c 59 h) d g) (j (Z c 59 h) d g)) (zA c 6 d 56 i 57 b 58 (.Z 0)) h g) λa=>aV h (a (Z c 52 h) d g) (i (Z c 52 h) d g)) (zz b 49 g 50 h 51 (.Z 0)) c d) (Fq a e f (h2 [45,46,47] b))) λk=>aV j (ar (aI a h c) λl=>e9 1 d a h λ_ m=>aW a 80 [l, .Z 24,m] h i (λ_ a e=>k (zA (cP [b]) 1 c 2 d 3 g 40 j) a e) (Fq a e f (h2 [41,42,43,44] (zA (cP [b]) 1 c 2 d 3 g 40 j)))) (k (zA (cP [b]) 1 c 2 d 3 g 40 j) h i)) (Fq a e f (h2 [26,27,28,29,30,31,32,25,33,34,3,4] (zy (cP [b]) 1 c 2 d)))
def amk:BI X 53 [a0] h j ah av=aaC X a0 h j ah av:=Zk
def amj:cQ X 53 1=true:=Zk
def aag(a:aL)(b:D)(c:R af)(d:Nat)(e _:bI):Prop:=
 hn a c d b λa b c=>e (.func (.func 58) [] [a]) b c
def alI:cY X 32 [a0] h j ah av=aag X a0 h j ah av:=Zk
def alH:cQ X 32 1=true:=Zk
def aa6(a:aL)(b c:D)(d:R af)(e:Nat)(f g:bI):Prop:=
 hn a d e c λd e h=>ar (dc a e .eql 23 true b .cF) λi=>bk (λb c d=>rT b a c λe=>qd b λb=>aW a 101 [e, .func (.func 102) [] [b]] c d (λb c d=>ar (tb a c .max [3,3] [b, .Z 0]) λa=>Dg b λb=>f (.tuple [a,b]) c d) g) λa=>aV i (f (.tuple [.Z 0, .zF]) e h) (a (zA (cP [b,c]) 3 d 4 (.Z 0) 5 .zF 8 i) e h)
def am8:cY X 79 [a0,a7] h j ah av=aa6 X a0 a7 h j ah av:=Zk
def am7:cQ X 79 2=true:=Zk
def aa5(a:aL)(b:D)(c:R af)(d:Nat)(e f:bI):Prop:=
 hn a c d b λc d g=>e9 2 c a d λ_ h=>ar (gC h) λh=>e9 3 c a d λ_ i=>Jb i h λh=>e9 4 c a d λ_ i=>Jb i h λh=>jy c a d λi=>aW a 97 [i] d g (λd g i=>ar (gi .not d) λd=>uj d 3 c g i a λg i j=>e7 d (gC g) i j λg i j=>e7 d (bl .eql g (.Z 0)) i j λg i j=>c4 (λd=>hB d h i j λg i j=>e7 d (bl .gtr g (.Z 256)) i j λg i j=>c4 (λd=>uj d 5 c i j a λg i j=>e7 d (gC g) i j λg i j=>e7 d (bl .gtr g (.Z 4096)) i j λg i j=>c4 (λd=>uj d 2 c i j a λg i j=>uj d 3 c i j a λi j k=>uj d 4 c j k a λj k l=>kQ d (λb=>ar (hC 3 [.aT, .aT, .aT] [(0,1,g),(1,1,i),(2,1,j)] l) λc=>gu a k l c.1 c.2 λa c d=>b a c d) k l λg i j=>kQ d (λb=>aW a 76 [g] i j b f) i j λg i j=>kQ d (λb=>aW a 98 [g] i j b f) i j λg i j=>e7 d (gi .not g) i j λg i j=>c4 (λd=>bk (λb c d=>iy b 1 5 a c λ_ g=>ip g (λa b c=>n5 a λa=>e a b c) λh i=>fg (λb c d g=>hm c 55 54 λh=>bk (λc d g=>sT (λa c d=>gJ a 55 λe=>b (Z a 55 e) c d) c 53 55 4 λb h=>Da a d h g λd g h=>e9 3 d a h λ_ i=>aW a 100 [i] h g (λg h i=>jy d a h λj=>ar (gC j) λj=>ajD j λj=>uj j 0 d h i a λh i k=>hB j (.func (.func 99) [] []) i k λi k l=>kQ j (λb=>aW a 49 [h,i] k l b f) k l λa f h=>c4 (λa=>hB a g f h λf h i=>e7 a (bl .eql f (.Z 1)) h i λf h i=>c4 (λa=>bk (λa c d=>cz (a 8) λe=>ar (bl .neq e (.Z 0)) λe=>bk b λb=>aV e (cz (a 8) λf=>b (zy a 77 e 4 f) c d) (b (Z a 77 e) c d)) λb=>aV a (e (.Z 1) h i) (b (zA c 6 d 7 (.func (.func 99) [] []) 8 g 75 a) h i)) λb=>aV a (b .zT) (b f)) λb=>aV j (b .zT) (b a)) f) λa=>aV h (a (Z c 56 h) d g) (i (Z c 56 h) d g)) (zA b 4 (.Z 0) 53 g 54 h 55 (.Z 0)) c d) λa=>aV d (e (.Z 1) i j) (a (zA (cP [b]) 1 c 2 (.Z 0) 3 h 51 d) i j)) λa=>aV d (a .zT) (a g)) λa=>aV d (a .zT) (a g)) λa=>aV d (a .zT) (a g)) λa=>aV d (a .zT) (a g)) f
def am6:cY X 78 [a0] h j ah av=aa5 X a0 h j ah av:=Zk
def am5:cQ X 78 1=true:=Zk
def aat(a:aL)(b:D)(c:R af)(d:Nat)(e f:bI):Prop:=
 aW a 74 [b,.Z 201] c d e f
def al8:cY X 46 [a0] h j ah av=aat X a0 h j ah av:=Zk
def al7:cQ X 46 1=true:=Zk
def aa8(a:aL)(b c d:D)(e:R af)(f:Nat)(g _:bI):Prop:=
 lm b 4 λh=>Df h a e 0 λh=>bk (λ_ a b=>g (.tuple []) a b) λg=>aV h (ar (fv [.Z 0, .Z 0] [(0,1,c),(1,1,d)]) λi=>lm b 4 λj=>ar (gg a e 2 j i) λa=>g (Z (cP [b,c,d]) 11 h) a f) (g (Z (cP [b,c,d]) 11 h) e f)
def ana:cY X 80 [a0,a7,b6] h j ah av=aa8 X a0 a7 b6 h j ah av:=Zk
def am9:cQ X 80 3=true:=Zk
def WO(a:aL)(b:bI):ft:=λc d e=>nV a [] b c c.bd d e
def Qw(a:aL)(b c:bI):s4:=λd e f g=>wr a [] b c d e d.bd f g
def aa9(a:aL)(b c:D)(d:R af)(e:Nat)(f g:bI):Prop:=
 hn a d e b λd e h=>hn a e h c λe h i=>gu a h i (.map i) (.map [] 0) λh i j=>ar (hR [.mv] j) λk=>pq a i j k.1 k.2 1 h λh i j=>ar (cZ a j 6 e) λk=>aW a 32 [k] j i (λi j k=>bk (λb c d=>m1 b 3 a c 6 λe=>aW a 32 [e] c d (λc d e=>bk (λb c d=>WO a f b c d) λh=>Fv a 54 c [31,32] (tZ a (λ_ _ b _ _ c d e=>MZ e a d c 32 λa d e=>b (Z c 8 a) e d) λ_ b c _ _ d e f=>bk c λc=>eW (f+13) λg=>A9 d 2 a e 2 λh=>iy d 8 5 a e λ_ i=>I2 f 10 a e λe f=>aW a 12 [h,i] f g (λf g h=>hl f λf i=>ar (gg a g 11 e f) λe=>ar (gi .not i) λf=>Vw f (d 8) (λa=>hk 5 a) e h λe g h=>eB f (aI a g e) g h λe g h=>eB f (dc a g .neq 9 true e (.str [])) g h λe g h=>c4 (λe=>bk c λc=>aV e (iY d 2 a g λf=>iy d 8 6 a g λ_ j=>aW a 80 [f, .Z 23,j] g h (λ_ a b=>c (zy d 10 i 49 e) a b) (b (h2 [50,51,52,53] (zy d 10 i 49 e)))) (c (zy d 10 i 49 e) g h)) λa=>aV f (a e) (a .zF)) (b (h2 [34,35,36,37,38,39,40,33,41,42,9,10] d))) h (DU 2 h λ_ _ _ _=>False) (WO a f) (Qw a f g) (Z b 30 c) d e) (Qw a f g (h2 [29,30] b))) λl=>Fv a 54 i [14,15] (tZ a (λ_ _ b _ _ c d e=>cz (c 14) λf=>MZ e a d c 15 λa d e=>b (zy c 5 f 6 a) e d) λ_ b c _ _ d e f=>bk c λc=>iY d 4 a e λg=>iy d 6 0 a e λ_ h=>ar (mN a e 9 (.Z 0) g h false) λg=>I9 g λg=>bk (λb d e=>iY b 4 a d λf=>iy b 6 0 a d λ_ g=>ps b λh=>hN (sy a d e 9 f g h) d e λ_ a d=>c b a d) λc=>aV g (iY d 2 a e λh=>iy d 6 1 a e λ_ i=>aW a 80 [h, .Z 24,i] e f (λ_ a b=>c (Z d 20 g) a b) (b (h2 [21,22,23,24] (Z d 20 g)))) (c (Z d 20 g) e f)) l (DU 0 l λ_ _ _ _=>False) (WO a f) (Qw a f g) (zA (cP [b,c]) 2 d 3 e 4 h 13 i) j k) (Qw a f g (h2 [12,13] (zz (cP [b,c]) 2 d 3 e 4 h)))
def anc:BI X 81 [a0,a7] h j ah av=aa9 X a0 a7 h j ah av:=Zk
def anb:cQ X 81 2=true:=Zk
def aba(a:aL)(b c d:D)(e:R af)(f:Nat)(g h:bI):Prop:=
 g9 b 2 a e λ_ i=>I4 a i c e f h λe f i j=>g9 b 3 a j λ_ k=>ar (mN a j 9 (.Z 0) k c false) λl=>A5 l λl=>hN (sy a j i 9 k c l) j i λ_ i j=>bk (λ_ a b=>g (.tuple []) a b) λg=>yk e g λg k=>aV g (aW a 80 [b, .Z 23,d] i j (λ_ a h=>k (zz (cP [b,c,d]) 6 f 7 e 24 g) a h) h) (Df f a i 1 λl=>hB l b i j λi j m=>yj l i j m 3 a λi j m=>hB l c j m λj m n=>e7 l (mN a m 9 (.Z 0) i j false) m n λi j m=>e7 l (bl .gtr i (.Z 1)) j m λi j m=>c4 (λi=>bk k λk=>aV i (aW a 80 [b, .Z 24,d] j m (λ_ a h=>k (zA (cP [b,c,d]) 6 f 7 e 24 g 30 i) a h) h) (k (zA (cP [b,c,d]) 6 f 7 e 24 g 30 i) j m)) λa=>aV l (a .zT) (a i))
def anf:cY X 82 [a0,a7,b6] h j ah av=aba X a0 a7 b6 h j ah av:=Zk
def ane:cQ X 82 3=true:=Zk
def abb(a:aL)(b c:D)(d:R af)(e:Nat)(f g:bI):Prop:=
 hn a d e b λb d e=>aW a 16 [c, .func (.func 103) [] [b]] d e (λ_ a b=>f (.tuple []) a b) g
def anh:cY X 83 [a0,a7] h j ah av=abb X a0 a7 h j ah av:=Zk
def ang:cQ X 83 2=true:=Zk
def aaH(a:aL)(b c:D)(d:R af)(e:Nat)(f g:bI):Prop:=
 e9 2 c a d λ_ h=>e9 3 c a d λ_ i=>e9 4 c a d λ_ j=>ar (fv [.aT, .aT, .aT] [(0,1,h),(1,1,i),(2,1,j)]) λh=>bk (λ_ a b=>f (.tuple []) a b) λi=>fg (λb c d e=>I5 c 14 3 λh=>bk (λc d e=>bk (λa c d=>gJ a 14 λe=>b (Z a 14 e) c d) λb=>fm c 14 13 λh i=>cz (c 14) λj=>ar (uY false 3 1 i j) λi=>Gc i b λb j=>fg (λb c d e=>hm c 20 19 λh=>bk (λc d e=>bk (λa c d=>gJ a 20 λe=>b (Z a 20 e) c d) λb=>F7 c 18 20 a d e λd e h=>fm c 0 3 λi j=>ar (bl .add (.Z 1) j) λj=>ar (cZ a h 8 d) λk=>iS a i [j,k] h e (λa e g=>yk a b λa b=>aV a (f (.tuple []) e g) (b (zy c 6 d 29 a) e g)) g) λa=>aV h (a (Z c 21 h) d e) (j (Z c 21 h) d e)) (Z (zA c 3 h 4 i 18 i 19 b) 20 (.Z 0)) d e) λa=>aV h (a (Z c 15 h) d e) (i (Z c 15 h) d e)) (zy (cP [b,c]) 13 h 14 (.Z 0)) d e
def amu:cY X 58 [a0,a7] h j ah av=aaH X a0 a7 h j ah av:=Zk
def amt:cQ X 58 2=true:=Zk
def XJ(a:aL)(b c:D)(d:R af)(e:Nat)(f g:bI):Prop:=
 ip b (λ_ a b=>f (.Z (-1)) a b) λh i=>fg (λb c d e=>hm c 8 7 λh=>bk (λc d e=>bk (λa c d=>gJ a 8 λe=>b (Z a 8 e) c d) λb=>F9 c 6 λh i j=>ar (cZ a d 6 j) λj=>iS a i [j] d e (λa d e=>bk b λb=>aV a (f h d e) (b (zy c 5 h 16 a) d e)) g) λa=>aV h (a (Z c 9 h) d e) (i (Z c 9 h) d e)) (zz (cP [b,c]) 4 (.Z 0) 7 h 8 (.Z 0)) d e
def ajX:cY X 101 [a0,a7] h j ah av=XJ X a0 a7 h j ah av:=Zk
def ajW:cQ X 101 2=true:=Zk
def XK(a:aL)(b c:D)(d:R af)(e:Nat)(f _:bI):Prop:=
 hn a d e b λb d e=>jy b a d λb=>ar (aI a d c) λc=>ar (dc a d .eql 9 false b c) λa=>f a d e
def ajZ:cY X 102 [a0,a7] h j ah av=XK X a0 a7 h j ah av:=Zk
def ajY:cQ X 102 2=true:=Zk
def abq(a:aL)(b:D)(c:R af)(d:Nat)(e f:bI):Prop:=
 Gb a c b λg=>hB g b c d λc d h=>e7 g (np c) d h λc d h=>e7 g (bl .gtr c (.Z 32)) d h λc d h=>c4 (λc=>hB c b d h λd g h=>e7 c (ov d (.Z 0)) g h λd g h=>e7 c (bl .geq d (.int .u8 48)) g h λd g h=>hB c d g h λd g h=>j5 d b g h λg h i=>eB d (ov g (.Z 0)) h i λg h i=>eB d (bl .leq g (.int .u8 57)) h i λg h i=>kQ c (λa=>c4 (λb=>a b h i) λa=>aV d (a g) (a .zF)) h i λd g h=>c4 (λc=>hB c b g h λd g h=>hB c (.func (.func 119) [] []) g h λg h i=>kQ c (λb=>aW a 120 [d,g] h i b f) h i λd g h=>e7 c (bl .geq d (.Z 0)) g h λd g h=>c4 (λc=>bk (λb c d=>ar (aI a c (.ptr 3 0)) λg=>e3 b λh=>aW a 121 [g,h] c d (λc d g=>ar (gi .not c) λc=>ow c (b 0) d g λb d g=>lC c (λc=>aW a 122 [b] d g c f) d g λa b d=>eB c (gi .not a) b d λa b d=>c4 (λa=>e a b d) λb=>aV c (b a) (b .zF)) f) λa=>aV c (e .zF g h) (a (zz (cP [b]) 2 .zF 3 (.func (.func 119) [] []) 26 c) g h)) λa=>aV c (a .zT) (a d)) λa=>aV c (a .zT) (a d)) λa=>aV g (a .zT) (a c)
def anM:cY X 97 [a0] h j ah av=abq X a0 h j ah av:=Zk
def anL:cQ X 97 1=true:=Zk
def abr(a:aL)(b:D)(c:R af)(d:Nat)(e f:bI):Prop:=
 ip b (λ_ a b=>e .zT a b) λg h=>fg (λb c d g=>hm c 7 6 λi=>bk (λc d g=>bk (λa c d=>gJ a 7 λe=>b (Z a 7 e) c d) λb=>F7 c 5 7 a d g λd g h=>jy d a h λi=>aW a 97 [i] h g (λg h i=>ar (gi .not g) λg=>e7 g (hk 2 d) h i λh i j=>e7 g (cZ a i 3 h) i j λh i j=>kQ g (λb=>aW a 123 [h] i j b f) i j λh i j=>e7 g (dc a i .eql 9 true h (.str [])) i j λh i j=>c4 (λg=>uj g 5 d i j a λh i j=>e7 g (dc a i .neq 9 true h (.str [])) i j λh i j=>hB g h i j λh i j=>vf h 5 d i j a λi j k=>lC h (λb=>aW a 97 [i] j k b f) j k λf i j=>eB h (gi .not f) i j λf i j=>kQ g (λa=>c4 (λb=>a b i j) λa=>aV h (a f) (a .zF)) i j λf h i=>c4 (λf=>uj f 5 d h i a λg h i=>e7 f (dc a h .eql 9 true g (.str [])) h i λg h i=>hB f g h i λg h i=>vf g 7 d h i a λa h i=>kQ f (λb=>c4 (λa=>b a h i) λb=>aV g (b a) (b .zF)) h i λa g h=>c4 (λa=>bk b λb=>aV a (e .zF g h) (b (zy c 4 d 40 a) g h)) λb=>aV f (b .zT) (b a)) λa=>aV g (a .zT) (a f)) λa=>aV g (a .zT) (a h)) f) λa=>aV i (a (Z c 8 i) d g) (h (Z c 8 i) d g)) (zA (cP [b]) 2 .zF 5 b 6 g 7 (.Z 0)) c d
def anO:cY X 98 [a0] h j ah av=abr X a0 h j ah av:=Zk
def anN:cQ X 98 1=true:=Zk
def aa2(a:aL)(b:D)(c:R af)(d:Nat)(e f:bI):Prop:=
 ip b (λb c d=>qd b λg=>aW a 96 [.aT,g] c d (λc d f=>e3 b λg=>ip g (λa b c=>cz (a 6) λa=>e a b c) λe h=>fg (λb c d e=>hm c 27 26 λf=>bk (λc d e=>vg (λa c d=>gJ a 27 λe=>b (Z a 27 e) c d) c 25 27 a d λb f=>cz (c 6) λg=>hN (jP a d e 8 g f) d e λa d e=>b (zy c 8 f 6 a) d e) λa=>aV f (a (Z c 28 f) d e) (h (Z c 28 f) d e)) (zA b 6 c 25 g 26 e 27 (.Z 0)) d f) f) λe g=>fg (λb c d e=>hm c 11 10 λh=>bk (λc d e=>vg (λa c d=>gJ a 11 λe=>b (Z a 11 e) c d) c 9 11 a d λa b=>qd c λg=>Jb b g λg=>Jc g λh=>bk a λa=>aV h (ar (some (D.iface 9 (.str [108,101,110,32,111,117,116,32,111,102,32,114,97,110,103,101]))) λa=>ws f a d e) (a (zz c 5 b 3 g 20 h) d e)) λa=>aV h (a (Z c 12 h) d e) (g (Z c 12 h) d e)) (Z (zA (cP [b]) 2 .aT 3 (.Z 0) 9 b 10 e) 11 (.Z 0)) c d
def am4:cY X 76 [a0] h j ah av=aa2 X a0 h j ah av:=Zk
def am3:cQ X 76 1=true:=Zk
def abs(a:aL)(b:D)(c:R af)(d:Nat)(e f:bI):Prop:=
 aW a 97 [b] c d (λa b c=>ar (gi .not a) λa=>e a b c) f
def anQ:cY X 99 [a0] h j ah av=abs X a0 h j ah av:=Zk
def anP:cQ X 99 1=true:=Zk
def XI(a:aL)(b:D)(c:R af)(d:Nat)(e f:bI):Prop:=
 ar (hR [.Z 0] d) λg=>gu a c d g.1 g.2 λc d g=>q1 a d c 0 λd=>ar (hR [.Z 0] g) λh=>gu a d g h.1 h.2 λd g h=>q1 a g d 0 λg=>ar (hR [.nilFunc] h) λi=>gu a g h i.1 i.2 λg h i=>ar (gg a h 1 g (.func (.func 124) [] [d,c,g])) λd=>ar (aI a d g) λg=>iS a g [b] d i (λ_ b d=>ar (aI a b c) λa=>e a b d) f
def ajV:cY X 100 [a0] h j ah av=XI X a0 h j ah av:=Zk
def ajU:cQ X 100 1=true:=Zk
def RL(a:aL)(b c:D)(d:R af)(e:Nat)(f g:bI):Prop:=
 aW a 77 [b,c] d e (λa b c=>Dg a λa=>f a b c) g
def aax:cY X 49 [a0,a7] h j ah av=RL X a0 a7 h j ah av:=Zk
def aaw:cQ X 49 2=true:=Zk
def RN(a:aL)(b c:D)(d:R af)(e:Nat)(f g:bI):Prop:=
 ar (dc a d .eql 54 true b .cF) λh=>hB h c d e λd e i=>e7 h (bl .eql d (.Z 0)) e i λd e i=>c4 (λd=>bk (λb c d=>sW b λe=>yi e λe=>lO b 0 8 a c λ_ _ h=>ip h (λa b c=>gJ a 5 λa=>f a b c) λf i=>fg (λb c d e=>hm c 21 20 λf=>bk (λc d e=>vg (λa c d=>gJ a 21 λe=>b (Z a 21 e) c d) c 19 21 a d λb f=>fm c 5 1 λh i=>aW a 74 [f,i] d e (λd e g=>ar (tb a e .max [3,3] [h,d]) λa=>b (zy c 7 f 5 a) e g) g) λa=>aV f (a (Z c 22 f) d e) (i (Z c 22 f) d e)) (Z (zA b 1 e 5 (.Z 0) 19 h 20 f) 21 (.Z 0)) c d) λa=>aV d (f (.Z 0) e i) (a (zy (cP [b,c]) 4 (.Z 0) 13 d) e i)) λa=>aV h (a .zT) (a d)
def aa0:cY X 74 [a0,a7] h j ah av=RN X a0 a7 h j ah av:=Zk
def aaZ:cQ X 74 2=true:=Zk
def XL(a:aL)(b c:D)(d:R af)(e:Nat)(f g:bI):Prop:=
 aW a 104 [b] d e (λd e h=>bk (λb c d=>rT b a c λe=>ar (bl .eql e (.Z 25)) λe=>bk (λ_ a b=>f .zT a b) λf=>aV e (eW (d+14) λd=>A9 b 1 a c 0 λh=>lO b 0 2 a c λ_ _ i=>aW a 79 [h,i] c d (λc d h=>hl c λc i=>bk f λf=>yk i f λf j=>aV f (eW (h+6) λh=>iY b 1 a d λk=>lO b 0 1 a d λ_ _ l=>aW a 80 [k, .Z 23,l] d h (λ_ a d=>j (zA b 34 e 6 c 7 i 47 f) a d) g) (A9 b 1 a d 1 λk=>ar (bl .geq c k) λk=>bk j λj=>aV k (eW (h+6) λh=>iY b 1 a d λl=>lO b 0 1 a d λ_ _ m=>aW a 80 [l, .Z 25,m] d h (λ_ a d=>j (Z (zA b 34 e 6 c 7 i 47 f) 56 k) a d) g) (j (Z (zA b 34 e 6 c 7 i 47 f) 56 k) d h))) g) (f (Z b 34 e) c d)) λf=>aV d (eW (h+15) λi=>ar (aI a e c) λj=>g9 j 2 a e λ_ j=>g9 b 2 a e λ_ k=>I2 h 12 a e λe h=>aW a 12 [j,k] h i (λh i j=>hl h λh k=>ar (gg a i 11 e h) λe=>yk k f λf h=>aV f (eW (j+6) λi=>ar (aI a e c) λj=>g9 b 1 a e λ_ l=>aW a 80 [j, .Z 23,l] e i (λ_ a e=>h (zA (cP [b,c]) 3 .zF 9 d 5 k 23 f) a e) g) (h (zA (cP [b,c]) 3 .zF 9 d 5 k 23 f) e j)) g) (f (zy (cP [b,c]) 3 .zF 9 d) e h)) g
def aj1:cY X 103 [a0,a7] h j ah av=XL X a0 a7 h j ah av:=Zk
def aj0:cQ X 103 2=true:=Zk
def XM(a:aL)(b:D)(c:R af)(d:Nat)(e _:bI):Prop:=
 g9 b 0 a c λ_ f=>ar (bl .eql f (.Z 2)) λf=>hB f b c d λc d g=>yj f c d g 0 a λc d g=>e7 f (bl .eql c (.Z 6)) d g λc d g=>c4 (λc=>hB c b d g λb d f=>yj c b d f 0 a λa b d=>e7 c (bl .eql a (.Z 24)) b d λa b d=>c4 (λa=>e a b d) λb=>aV c (b .zT) (b a)) λa=>aV f (a .zT) (a c)
def aj3:cY X 104 [a0] h j ah av=XM X a0 h j ah av:=Zk
def aj2:cQ X 104 1=true:=Zk
def abj(a:aL)(b:D)(c:R af)(d:Nat)(e _:bI):Prop:=
 hn a c d b λc d f=>jy c a d λg=>bk (λb c d=>iy b 1 2 a c λ_ f=>ar (bl .geq f (.Z 1)) λf=>Vw f (b 1) (λa=>hk 2 a) c d λb c d=>eB f (aI a c b) c d λa b c=>eB f (bl .leq a (.Z 64)) b c λa b c=>c4 (λa=>e a b c) λb=>aV f (b a) (b .zF)) λh=>aV g (e9 1 c a d λ_ b=>ar (gi .not b) λb=>vf b 2 c d f a λa c d=>eB b (bl .eql a (.Z 1)) c d λa c d=>c4 (λa=>e a c d) λc=>aV b (c a) (c .zF)) (h (zz (cP [b]) 1 c 2 .zF 4 g) d f)
def anx:cY X 90 [a0] h j ah av=abj X a0 h j ah av:=Zk
def anw:cQ X 90 1=true:=Zk
def XY(_:aL)(a:D)(b:R af)(c:Nat)(d _:bI):Prop:=
 ar (bl .lss a (.int .i32 97)) λe=>hB e a b c λb c f=>e7 e (bl .gtr b (.int .i32 122)) c f λb c f=>c4 (λb=>j5 b a c f λc e f=>eB b (bl .lss c (.int .i32 65)) e f λc e f=>j5 b c e f λc e f=>hB c a e f λe f g=>e7 c (bl .gtr e (.int .i32 90)) f g λe f g=>lC b (λa=>c4 (λb=>a b f g) λa=>aV c (a .zT) (a e)) f g λc e f=>c4 (λb=>j5 b a e f λc e f=>eB b (bl .lss c (.int .i32 48)) e f λc e f=>j5 b c e f λc e f=>hB c a e f λe f g=>e7 c (bl .gtr e (.int .i32 57)) f g λe f g=>lC b (λa=>c4 (λb=>a b f g) λa=>aV c (a .zT) (a e)) f g λc e f=>c4 (λb=>j5 b a e f λa c e=>eB b (bl .neq a (.int .i32 95)) c e λa c e=>c4 (λa=>d a c e) λc=>aV b (c a) (c .zF)) λa=>aV b (a c) (a .zF)) λa=>aV b (a c) (a .zF)) λa=>aV e (a .zT) (a b)
def akr:cY X 119 [a0] h j ah av=XY X a0 h j ah av:=Zk
def akq:cQ X 119 1=true:=Zk
def X0(a:aL)(b c:D)(d:R af)(e:Nat)(f g:bI):Prop:=
 aW a 134 [b,c,.zT] d e f g
def akv:cY X 120 [a0,a7] h j ah av=X0 X a0 a7 h j ah av:=Zk
def aku:cQ X 120 2=true:=Zk
def X1(a:aL)(b c:D)(d:R af)(e:Nat)(f g:bI):Prop:=
 aW a 135 [b,c] d e (λa b c=>Dg a λa=>f a b c) g
def akx:cY X 121 [a0,a7] h j ah av=X1 X a0 a7 h j ah av:=Zk
def akw:cQ X 121 2=true:=Zk
def X2(a:aL)(b:D)(c:R af)(d:Nat)(e f:bI):Prop:=
 ar (np b) λg=>ar (bl .lss g (.Z 2)) λg=>bk (λb c d=>A4 b 1 λg=>aW a 89 [g] c d (λc d g=>hl c λc h=>e3 b λi=>ar (dc a d .eql 9 true i (.str [98,111,111,108])) λi=>hB i h d g λd g h=>e7 i (dc a g .eql 139 true d .nilIface) g h λd g h=>hB i d g h λd g h=>ow d (b 0) g h λg h j=>ow d (b 0) h j λb h j=>eB d (ov b (.Z 0)) h j λb h j=>eB d (bl .eql b (.int .u8 105)) h j λb h j=>j5 d c h j λc h j=>eB d (fv [.zF, .zF, .Z 0] [(1,1,b),(2,1,c)]) h j λb c h=>lC d (λd=>aW a 123 [b] c h d f) c h λb c f=>eB d (dc a c .eql 9 false g b) c f λa b c=>kQ i (λe=>c4 (λa=>e a b c) λb=>aV d (b a) (b .zF)) b c λa b c=>c4 (λa=>e a b c) λb=>aV i (b .zT) (b a)) f) λa=>aV g (e .zF c d) (a (zy (cP [b]) 2 .zF 7 g) c d)
def akz:cY X 122 [a0] h j ah av=X2 X a0 h j ah av:=Zk
def aky:cQ X 122 1=true:=Zk
def abp(a:aL)(b c:D)(d:R af)(e:Nat)(f g:bI):Prop:=
 Jc c λh=>bk (λb c d=>fm b 1 0 λe g=>ar (tb a c .cap [37] [g]) λg=>e3 b λh=>ar (gC h) λh=>ar (bl .sub g h) λg=>ar (bl .sub e g) λe=>I9 e λg=>bk (λa b c=>e3 a λa=>f a b c) λf=>aV g (fm b 0 0 λh i=>ar (tb a c .cap [37] [i]) λi=>ar (uc a c 8 h none (some i) none) λh=>hN (Hp a c d .append [37,3] [h,e]) c d λc d h=>e3 b λi=>ar (gC i) λi=>ar (uc a d 8 c none (some i) none) λa=>f (zz b 1 e 16 g 0 a) d h) (f (zy b 1 e 16 g) c d)) λa=>aV h (ar (some (D.iface 9 (.str [99,97,110,110,111,116,32,98,101,32,110,101,103,97,116,105,118,101]))) λa=>ws g a d e) (a (zy (cP [b,c]) 4 .aT 6 h) d e)
def anK:cY X 96 [a0,a7] h j ah av=abp X a0 a7 h j ah av:=Zk
def anJ:cQ X 96 2=true:=Zk
def X4(a:aL)(b c d e:D)(f:R af)(g:Nat)(h i:bI):Prop:=
 ar (aI a f c) λj=>A5 j λj=>oK a f c j λf=>bk (λb c d=>iY b 1 a c λe=>yi e λe=>sW b λb=>oK a c b e λa=>h (.tuple []) a d) λh=>ar (dc a f .eql 54 true b .cF) λj=>hB j b f g λf g k=>kQ j (λb=>aW a 125 [f] g k b i) g k λf g k=>e7 j (gi .not f) g k λf g k=>c4 (λf=>bk h λh=>aV f (q1 a g d 1 λa=>h (Z (cP [b,c,d,e]) 22 f) a k) (ar (aI a g c) λj=>ar (bl .gtr j (.Z 200)) λj=>bk h λh=>aV j (ar (aI a g d) λi=>n4 i 0 h λh i=>aV h (q1 a g d 22 λa=>i (zz (cP [b,c,d,e]) 22 f 30 j 34 h) a k) (i (zz (cP [b,c,d,e]) 22 f 30 j 34 h) g k)) (g9 b 8 a g λ_ l=>Gc l h λh m=>fg (λb c d e=>hm c 14 13 λf=>bk (λc d e=>vg (λa c d=>gJ a 14 λe=>b (Z a 14 e) c d) c 12 14 a d λb f=>iY c 3 a d λg=>iS a g [f] d e (λ_ a d=>b (Z c 6 f) a d) i) λa=>aV f (a (Z c 15 f) d e) (m (Z c 15 f) d e)) (Z (zA (cP [b,c,d,e]) 22 f 30 j 12 l 13 h) 14 (.Z 0)) g k))) λa=>aV j (a .zT) (a f)
def akD:cY X 124 [a0,a7,b6,a3] h j ah av=X4 X a0 a7 b6 a3 h j ah av:=Zk
def akC:cQ X 124 4=true:=Zk
def X5(a:aL)(b:D)(c:R af)(d:Nat)(e f:bI):Prop:=
 eW (d+12) λg=>ar (aI a c (.ptr 7 0)) λh=>g9 b 0 a c λ_ i=>ar (mN a c 3 (.agg [.Z 0, .zF, .zF, .zF]) h i true) λh=>hl h λh i=>ar (hR [.Z 0, .zF, .zF, .zF] (d+9)) λj=>ms a c (d+9) j.1 j.2 λc d=>ar (gg a d 4 c h) λd=>ar (gi .not i) λh=>bk (λb c d=>eW (d+34) λd=>rT b a c λg=>ar (bl .lss g (.Z 1)) λg=>Rs g b c 0 a λc h=>tK g (bl .gtr c (.Z 26)) h λc h=>c4 (λc=>Vv c (b 3) (λa=>hk 0 a) h λg h=>tK c (aI a h g) h λg h=>tK c (bl .geq g (.Z 0)) h λg h=>PT c g h λg h=>F8 g b 0 h 8 a λh i=>ji g (gC h) i λh i=>PU g (b 3) (λa=>hk 0 a) i λi j=>ji g (aI a j i) j λi j=>ji g (bl .neq h i) j λh i=>PS c (λa=>c4 (λb=>a b i) λa=>aV g (a h) (a .zF)) i λg h=>c4 (λc=>Rs c b h 8 a λg h=>kQ c (λb=>aW a 136 [g, .cF] h d b f) h d λd g h=>c4 (λc=>bk (λb c d=>eW (d+33) λd=>iy b 3 1 a c λ_ g=>lO b 0 2 a c λ_ _ h=>ar (dc a c .neq 9 true h (.str [])) λh=>ar (dc a c .neq 4 false g h) λg=>Vv g (b 3) (λa=>hk 1 a) c λc h=>tK g (aI a h c) h λc h=>PT g c h λc h=>F8 c b 0 h 2 a λh i=>lC c (λb=>aW a 97 [h] i d b f) i d λd h i=>ji c (gi .not d) h λd h=>PS g (λa=>c4 (λb=>a b h) λa=>aV c (a d) (a .zF)) h λc d=>c4 (λc=>Rs c b d 3 a λd g=>PT c d g λd g=>F8 d b 0 g 0 a λg h=>ji d (bl .neq g (.Z 6)) h λg h=>PS c (λa=>c4 (λb=>a b h) λa=>aV d (a g) (a .zF)) h λd g=>c4 (λc=>bk (λb c d=>iy b 3 2 a c λ_ g=>ar (gi .not g) λg=>Rq g b c d a λc d h=>eB g (fv [.zF, .zF, .Z 0] []) d h λd h i=>eB g (dc a h .neq 44 false c d) h i λc d h=>c4 (λc=>agp c (b 3) (λa=>hk 2 a) d h λd g h=>e7 c (aI a g d) g h λd g h=>hB c d g h λd g h=>Rq d b g h a λg h i=>lC d (λb=>aW a 90 [g] h i b f) h i λg h i=>eB d (gi .not g) h i λg h i=>kQ c (λa=>c4 (λb=>a b h i) λa=>aV d (a g) (a .zF)) h i λd g h=>c4 (λc=>agp c (b 3) (λa=>hk 3 a) g h λd g h=>e7 c (aI a g d) g h λd g h=>e7 c (gi .not d) g h λd g h=>hB c d g h λd g h=>ow d (b 0) g h λg h i=>A7 d g h i 7 a λg h i=>eB d (bl .neq g (.int .u64 0)) h i λg h i=>kQ c (λa=>c4 (λb=>a b h i) λa=>aV d (a g) (a .zF)) h i λd g h=>c4 (λc=>bk (λb c d=>rT b a c λg=>bk (λ_ a b=>e .zT a b) λh=>n4 g 1 h λh i=>aV h (e3 b λb=>aW a 137 [b] c d e f) (ar (bl .eql g (.Z 19)) λf=>bk (λb c d=>cz (b 128) λf=>bk i λg=>aV f (lO b 0 7 a c λ_ _ a=>ar (bl .leq a (.int .u64 63)) λa=>e a c d) (cz (b 123) λf=>n4 f 21 g λf g=>aV f (lO b 0 8 a c λ_ _ b=>A3 1 b λb=>ar (aI a c b) λb=>g9 b 0 a c λ_ f=>ar (bl .eql f (.Z 1)) λf=>hB f b c d λc d g=>yj f c d g 0 a λc d g=>e7 f (bl .eql c (.Z 4)) d g λc d g=>hB f c d g λc d g=>j5 c b d g λd g h=>A7 c d g h 8 a λd g h=>eB c (gC d) g h λd g h=>eB c (bl .eql d (.Z 1)) g h λd g h=>kQ f (λa=>c4 (λb=>a b g h) λa=>aV c (a d) (a .zF)) g h λc d g=>hB f c d g λc d g=>j5 c b d g λd g h=>A7 c d g h 8 a λd g h=>eB c (gt 1 d (.Z 0)) g h λd g h=>eB c (aI a g d) g h λd g h=>eB c (dc a g .neq 54 true d .cF) g h λd g h=>kQ f (λa=>c4 (λb=>a b g h) λa=>aV c (a d) (a .zF)) g h λc d g=>hB f c d g λc d g=>j5 c b d g λb d g=>A7 c b d g 8 a λb d g=>eB c (gt 1 b (.Z 0)) d g λb d g=>eB c (aI a d b) d g λb d g=>A7 c b d g 0 a λa b d=>eB c (bl .eql a (.Z 1)) b d λa b d=>kQ f (λe=>c4 (λa=>e a b d) λb=>aV c (b a) (b .zF)) b d λa b c=>c4 (λa=>e a b c) λb=>aV f (b .zT) (b a)) (g (Z b 136 f) c d))) λa=>aV f (a (zz b 123 g 124 h 128 f) c d) (ar (bl .eql g (.Z 20)) λe=>a (zA b 123 g 124 h 128 f 128 e) c d))) λa=>aV c (e .zF g h) (a (Z b 119 c) g h)) λa=>aV c (a .zT) (a d)) λa=>aV c (a .zT) (a d)) λa=>aV g (a c) (a .zF)) λa=>aV c (e .zF g i) (a (Z b 84 c) g i)) λa=>aV c (a .zT) (a d)) λa=>aV g (a .zT) (a c)) λa=>aV c (e .zF g h) (a (Z b 51 c) g h)) λa=>aV c (a .zT) (a d)) λa=>aV c (a .zT) (a g)) λa=>aV g (a .zT) (a c)) λe=>aV h (ar (fv [.Z 0, .zF, .zF, .zF] [(0,1, .Z 2)]) λf=>ar (gg a d 4 c f) λa=>e (zA (cP [b]) 2 .zF 3 c 4 i 16 h) a g) (e (zA (cP [b]) 2 .zF 3 c 4 i 16 h) d g)
def akF:cY X 125 [a0] h j ah av=X5 X a0 h j ah av:=Zk
def akE:cQ X 125 1=true:=Zk
def RO(a:aL)(b c:D)(d:R af)(e:Nat)(f g:bI):Prop:=
 ip b (λ_ a b=>f (.Z (-1)) a b) λh i=>fg (λb c d e=>hm c 8 7 λh=>bk (λc d e=>bk (λa c d=>gJ a 8 λe=>b (Z a 8 e) c d) λb=>F9 c 1 λh i j=>ar (aI a d j) λj=>iS a i [j] d e (λa d e=>bk b λb=>aV a (f h d e) (b (zy c 5 h 16 a) d e)) g) λa=>aV h (a (Z c 9 h) d e) (i (Z c 9 h) d e)) (zz (cP [b,c]) 4 (.Z 0) 7 h 8 (.Z 0)) d e
def aa4:cY X 77 [a0,a7] h j ah av=RO X a0 a7 h j ah av:=Zk
def aa3:cQ X 77 2=true:=Zk
def δ(a:aL)(b c d:D)(e:R af)(f:Nat)(g h:bI):Prop:=
 hN (WP a e f b) e f λe f i=>bk (λ_ a b=>g (.Z (-1)) a b) λj=>fg (λb c d e=>cz (c 10) λf=>G2 (xn a kT true d e (kU f)) d e λd e f=>ar (n3 0 d) λi=>bk (λc d e=>bk b λb=>cz (c 11) λf=>ar (n3 1 f) λf=>cz (c 11) λi=>ar (n3 2 i) λi=>sW c λj=>iS a j [i] d e (λd e h=>cz (c 2) λj=>Dh a e 4 d j b λa b=>aV a (g f e h) (b (zz c 7 f 8 i 19 a) e h)) h) λa=>aV i (a (zy c 11 d 12 i) e f) (j (zy c 11 d 12 i) e f)) (zy (cP [b,c,d]) 6 (.Z 0) 10 e) f i
def akV:cY X 134 [a0,a7,b6] h j ah av=δ X a0 a7 b6 h j ah av:=Zk
def akU:cQ X 134 3=true:=Zk
def ε(a:aL)(b c:D)(d:R af)(e:Nat)(f _:bI):Prop:=
 ip b (λ_ a b=>f (.Z (-1)) a b) λg h=>fg (λb c d e=>hm c 8 7 λg=>bk (λc d e=>bk (λa c d=>gJ a 8 λe=>b (Z a 8 e) c d) λb=>F9 c 1 λg h i=>ar (aI a d i) λi=>Dh a d 9 h i b λa b=>aV a (f g d e) (b (zy c 5 g 16 a) d e)) λa=>aV g (a (Z c 9 g) d e) (h (Z c 9 g) d e)) (zz (cP [b,c]) 4 (.Z 0) 7 g 8 (.Z 0)) d e
def akX:cY X 135 [a0,a7] h j ah av=ε X a0 a7 h j ah av:=Zk
def akW:cQ X 135 2=true:=Zk
def ζ(a:aL)(b c:D)(d:R af)(e:Nat)(f g:bI):Prop:=
 aW a 142 [b,c] d e (λa b c=>Dg a λa=>f a b c) g
def akZ:cY X 136 [a0,a7] h j ah av=ζ X a0 a7 h j ah av:=Zk
def akY:cQ X 136 2=true:=Zk
def η(a:aL)(b:D)(c:R af)(d:Nat)(e f:bI):Prop:=
 lm b 4 λg=>e9 2 g a c λ_ g=>lm b 4 λh=>e9 1 h a c λ_ h=>bk (λb c d=>rT b a c λg=>ar (bl .eql g (.Z 1)) λg=>Rq g b c d a λc d h=>lC g (λb=>aW a 90 [c] d h b f) d h λc d f=>c4 (λc=>ow c (b 3) d f λd f g=>eB c (bl .eql d (.Z 64)) f g λd f g=>j5 c d f g λd f g=>xK d (b 0) f g λf g h=>yj d f g h 7 a λa f g=>xK d (b 3) f g λb f g=>e7 d (bl .shr a b) f g λa b f=>e7 d (bl .eql a (.int .u64 0)) b f λa b f=>lC c (λc=>c4 (λa=>c a b f) λb=>aV d (b .zT) (b a)) b f λa b d=>c4 (λa=>e a b d) λb=>aV c (b a) (b .zF)) λa=>aV g (a c) (a .zF)) λa=>aV h (yi g λe=>a (zA (cP [b]) 2 .zF 3 g 13 h 3 e) c d) (a (zz (cP [b]) 2 .zF 3 g 13 h) c d)
def ak1:cY X 137 [a0] h j ah av=η X a0 h j ah av:=Zk
def ak0:cQ X 137 1=true:=Zk
def ν(a:aL)(b c:D)(d:R af)(e:Nat)(f _:bI):Prop:=
 ip b (λ_ a b=>f (.Z (-1)) a b) λg h=>fg (λb c d e=>hm c 8 7 λg=>bk (λc d e=>bk (λa c d=>gJ a 8 λe=>b (Z a 8 e) c d) λb=>F9 c 1 λg h i=>ar (aI a d i) λi=>Dh a d 54 h i b λa b=>aV a (f g d e) (b (zy c 5 g 16 a) d e)) λa=>aV g (a (Z c 9 g) d e) (h (Z c 9 g) d e)) (zz (cP [b,c]) 4 (.Z 0) 7 g 8 (.Z 0)) d e
def alb:cY X 142 [a0,a7] h j ah av=ν X a0 a7 h j ah av:=Zk
def ala:cQ X 142 2=true:=Zk
def ain(a:aL)(b:bI):ft:=λc d e=>nV a [.tmp 2] b c c.bd d e
def ahP(a:aL)(b c:bI):s4:=λd e f g=>wr a [.tmp 2] b c d e d.bd f g
def XH(a:aL)(b:D)(c:R af)(d:Nat)(e f:bI):Prop:=
 hn a c d b λc d g=>gu a d g (.map g) (.map [] 0) λd g h=>ar (fv [.mv, .aT] [(0,1,d)]) λd=>hn a g h d λd g h=>ar (hR [.cF] h) λi=>pq a g h i.1 i.2 1 d λd g h=>ar (cZ a h 6 c) λi=>aW a 32 [i] h g (λg h i=>bk (λb c d=>iy b 1 5 a c λ_ f=>ip f (λb c d=>iY b 3 a c λf=>ain a e (Z b 2 f) c d) λe g=>fg (λb c d e=>hm c 56 55 λf=>bk (λc d e=>bk (λa c d=>gJ a 56 λe=>b (Z a 56 e) c d) λb=>Dc c 56 54 4 λf g=>Da a d g e λd e g=>jy d a g λh=>Gc h b λb i=>fg (λb c d e=>hm c 64 63 λf=>bk (λc d e=>bk (λa c d=>gJ a 64 λe=>b (Z a 64 e) c d) λb=>Dc c 64 62 1 λf g=>ar (aI a d g) λg=>A9 c 3 a d 0 λh=>Rj a d h g λh=>Rm h e a d λd e h i=>vf d 9 e i h a λh i j=>eB d (bl .lss h (.Z 0)) i j λh i j=>c4 (λh=>bk b λb=>aV h (cz (c 8) λk=>sV 9 e a i k λi=>sV 10 e a i f λi=>eW (j+7) λj=>A9 c 3 a i 0 λk=>ar (cZ a i 11 e) λl=>hN (sy a i j 9 k g l) i j λ_ a i=>b (Z (zA c 10 f 11 g 12 e 13 d) 83 h) a i) (b (Z (zA c 10 f 11 g 12 e 13 d) 83 h) i j)) λa=>aV d (a h) (a .zF)) λa=>aV f (a (Z c 65 f) d e) (i (Z c 65 f) d e)) (Z (zA c 9 d 8 f 62 h 63 b) 64 (.Z 0)) g e) λa=>aV f (a (Z c 57 f) d e) (g (Z c 57 f) d e)) (zz b 54 f 55 e 56 (.Z 0)) c d) λj=>Fv a 97 g [19,20] (tZ a (λ_ _ b _ _ c d e=>cz (c 19) λf=>MZ e a d c 20 λa d e=>b (zy c 4 f 5 a) e d) λ_ _ b _ _ c d e=>bk b λb=>eW (e+13) λf=>A9 c 3 a d 0 λg=>iy c 5 0 a d λ_ h=>Rj a d g h λg=>hl g λg h=>I2 e 10 a d λd e=>ar (gg a e 11 d g) λd=>yk h b λb e=>aV b (eW (f+10) λf=>A9 c 3 a d 0 λg=>iy c 5 0 a d λ_ i=>fm c 4 5 λj k=>ar (cZ a d 8 k) λk=>ar (fv [.Z 0, .str [], .Z 0, .zF, .zF, .Z 0, .str [], .Z 0, .zF, .Z 0, .Z 0] [(0,1,j),(1,8,k),(9,1, .Z (-1)),(10,1, .Z (-1))]) λj=>hN (sy a d f 9 g i j) d f λ_ d f=>eW (f+12) λg=>iY c 3 a d λi=>A9 c 3 a d 1 λj=>iy c 5 0 a d λ_ k=>ar (hC 1 [.str []] [(0,1,k)] (f+7)) λk=>ms a d (f+7) k.1 k.2 λd f=>hN (jP a f g 1 j d) f g λd f g=>lm i 1 λj=>iY c 3 a f λk=>gn k (some i) (oK a f j d λa=>e (zy c 7 h 32 b) a g)) (e (zy c 7 h 32 b) d f)) j (DU 0 j λ_ _ _ _=>False) (ain a e) (ahP a e f) (zA (cP [b]) 1 c 2 .cF 3 d 18 g) h i) (ahP a e f (h2 [17,18] (zz (cP [b]) 1 c 2 .cF 3 d)))
def akd:BI X 10 [a0] h j ah av=XH X a0 h j ah av:=Zk
def akc:cQ X 10 1=true:=Zk
def XZ(a:aL)(b c:D)(d:R af)(e:Nat)(f _:bI):Prop:=
 ar (hR [.Z 0, .str [], .Z 0, .zF, .zF, .Z 0, .str [], .Z 0, .zF, .Z 0, .Z 0] e) λg=>gu a d e g.1 g.2 λd e g=>ar (dc a e .eql 41 true b .cF) λh=>bk (λb c d=>rT b a c λe=>sW b λg=>Rj a c e g λe=>Rm e d a c λc d e g=>ar (cZ a g 11 d) λd=>k0 b 4 a g 11 d λa b=>f (.tuple [b,c]) a e) λi=>aV h (ar (fv [.Z 0, .str [], .Z 0, .zF, .zF, .Z 0, .str [], .Z 0, .zF, .Z 0, .Z 0] []) λb=>uk a e 11 d b λa b=>f (.tuple [b, .zF]) a g) (i (zz (cP [b,c]) 4 d 5 .zF 9 h) e g)
def akN:cY X 12 [a0,a7] h j ah av=XZ X a0 a7 h j ah av:=Zk
def akM:cQ X 12 2=true:=Zk
def X3(a:aL)(b:D)(c:R af)(d:Nat)(e f:bI):Prop:=
 hn a c d b λc d g=>bk (λb c d=>iy b 1 2 a c λ_ b=>aW a 116 [b] c d (λb c d=>ar (dc a c .add 9 true (.str [117]) b) λa=>e a c d) f) λh=>rR a d 3 c 90 g f λd g i=>yk d h λd h=>aV d (e (.str []) g i) (jy c a g λj=>bk h λh=>aV j (e (.str [98,111,111,108]) g i) (e9 1 c a g λ_ k=>bk h λh=>aV k (e9 2 c a g λ_ b=>aW a 116 [b] g i (λb c d=>ar (dc a c .add 9 true (.str [105]) b) λa=>e a c d) f) (h (Z (zA (cP [b]) 1 c 2 (.str []) 3 d 7 j) 10 k) g i)))
def akB:cY X 123 [a0] h j ah av=X3 X a0 h j ah av:=Zk
def akA:cQ X 123 1=true:=Zk
end
noncomputable section
def hd:Nat->bB->Nat
 |0,_=>0
 |y+1,E=>E.args.foldl (λa F=>max a (hd y F)) 0+1
def aug:∀y E,hd y E<=y:=by
 intro y
 induction y with
 |zero=>intro E;simp[hd]
 |succ y ai=>
  intro E
  have:∀(k:List bB) a,a<=y->k.foldl (λa F=>max a (hd y F)) a<=y:=by
   intro k
   induction k with
   |nil=>intro a gU;exact gU
   |cons F k LB=>intro a gU;exact LB _ (Nat.max_le.2 ⟨gU,ai F⟩)
  have:=this E.args 0 Zo
  show _+1<=y+1
  omega
def ayg{C:aL}{h:R af}(F b:Nat):tb C h .max [3,3] [.Z (F:Int), .Z (b:Int)]=some (.Z ((max F b:Nat):Int)):=by
 show pA true (.Z (F:Int)) [.Z (b:Int)]=_
 simp only[pA,fF,uX,ZE]
 congr 2
 split<;>simp_all<;>omega
def Mj{X:ch}{h:R af}(b:Nat):dc X h .eql 54 true (.ptr b 0) .cF=some .zF:=Zk
section
variable{X:ch}{h S' aK aJ:R af}{j am aM aR aG bQ:Nat}{aU:List Tok}{i:Nat}
def atZ(au:di X):∀(y:Nat),y<=1000->∀h j P E v,(o X).a6<=j->cE X h P E v->(∀e,P e->e<j)->
 aW X 74 [v, .Z (y:Int)] h j (λac S' am=>ac= .Z (hd y E:Nat)/\bf X h j S' am) (λ_ _ _=>False):=by
 intro y
 induction y with
 |zero=>
  intro _ h j P E v aF bz bq
  refine zx au (aaZ X) ?_
  rw[aa0]
  unfold RN
  obtain⟨b,rfl,ag,_⟩:=bz.ptr
  have fY:=bq b ag
  refine cL @Mj @Int.natCast_zero ⟨?_⟩
  exact⟨rfl,dA⟩
 |succ y ai=>
  intro aH h j P E v aF bz bq
  refine zx au (aaZ X) ?_
  rw[aa0]
  unfold RN
  obtain⟨b,aS,cO,br,rfl,ag,a0,a7,b6,a3,a4,a5,hE,ib,iz,cC,has⟩:=bz.open
  have fY:=bq b ag
  have d2:=cC.len
  have uR:=has.len
  have lA:((y+1:Nat):Int)=(y:Int)+1:=Zo
  have d:decide (((y+1:Nat):Int)=0)=false:=by simp;omega
  have bD:bl .sub (.Z ((y+1:Nat):Int)) (.Z 1)=some (.Z (y:Int)):=by rw[uV Zo Zo];congr 2;omega
  have bo:=cC.many
  rw[Zi,uR]at bo
  rw[Zi,uR]at d2
  refine gb @Mj @d @bD @iz @d2 ⟨?_⟩
  refine fp (λm H S' aP=>∃(T:Nat) (a:Nat),H.g 1=some (.Z (y:Int))/\H.g 5=some (.Z (a:Int))/\H.g 19=some aS/\H.g 20=some (.Z (E.args.length:Int))/\H.g 21=some (.Z (T:Int))/\T+m=E.args.length/\a<=y/\bf X h j S' aP/\hd (y+1) E=(E.args.drop T).foldl (λa F=>max a (hd y F)) a+1)
   E.args.length ⟨0,0,be,fO,be,be,fO,Zo,Zo,bf.refl _ _,by simp[hd]⟩ ?_
  rintro m H aJ aR ⟨T,a,t1,t5,x6,p5,rK,bJ,gU,bC,bP⟩
  have fC:=bC.le
  have cG:=zv T
  have fV:=zv a
  cases m with
  |zero=>
   have cH:=zr T E.args.length
   rw[ZD Zo]at bP
   simp only[List.foldl_nil]at bP
   refine gb @rK @p5 @t5 @cH @fV ⟨?_⟩
   exact⟨by first|rw[bP]|(simp only[bP];rfl),bC⟩
  |succ m=>
   have cH:=zs T E.args.length
   obtain⟨F,aA⟩:=zt E.args T
   obtain⟨v,bv,atn⟩:=has.get T F aA
   obtain⟨bK,b1,cM⟩:=(cC.aa λe B=>bC.aa e (bq e B)).one bv
   refine et @rK @p5 @t5 @x6 @t1 @cH (Za @bK @b1) ⟨?_⟩
   refine(ai Zo aJ aR P F v Zo (atn.aa λe B=>bC.aa e (bq e B)) (λe B=>zq (bq e B))).Zm ?_
   rintro wE a1 bn ⟨rfl,ck⟩
   have jf:=ck.le
   have ke:tb X a1 .max [3,3] [.Z (a:Int), .Z ((hd y F:Nat):Int)]=some (.Z ((max a (hd y F):Nat):Int)):=ayg _ _
   refine ed @ke @rK @cG ⟨?_⟩
   refine⟨m,Zo,T+1,max a (hd y F),aZ t1,be,aZ x6,aZ p5,be,Zo,Nat.max_le.2 ⟨gU,aug y F⟩,bC.trans ck, ?_⟩
   have aE:E.args.drop T=F::E.args.drop (T+1):=by
    obtain⟨ae,B⟩:=Zb.1 aA
    rw[Zr ae,B]
   rw[aE,Z0]at bP
   exact bP
end
end
end Go.Proofs.YtpeabpmnlmaabaaGreatDoor

