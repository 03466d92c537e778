/- A part of the proof of the claim's last text: what it is used for is said there; no condition of its own. -/
import Derived.Test.YtpfajohmofnkfaaGreatDoorYp
set_option maxHeartbeats 8000000
set_option linter.all false
namespace Go.Proofs.YtpfajohmofnkfaaGreatDoor
open Go.bg Go.a2
noncomputable section
def Cs{α:Type}{f:α->Option Int}{l:List α}{i:Nat}{x:α}(a:l[i]? =some x)(cj:(l.take i).findSome? f=none):(l.take (i+1)).findSome? f=f x:=by
 rw[ZY,a,List.findSome?_append,cj]
 simp
def EV{α:Type}{f:α->Option Int}{l:List α}{i:Nat}{x:α}{J:Int}(a:l[i]? =some x)(cj:(l.take i).findSome? f=none)(ag:f x=some J):l.findSome? f=some J:=by
 have F:l=l.take (i+1)++l.drop (i+1):=(List.take_append_drop _ _).symm
 rw[F,List.findSome?_append,Cs a cj,ag]
 rfl
section
variable{X:ck}{h T aX aJ:S ak}{j ao aL a6:Nat}{P eG bq:Nat->Prop}
def wh(X:ck)(h:S ak)(ap:List Go.a2.Node)(t:bx->Option fQ)(dS:Nat->Option H)(P eG:Nat->Prop):List hl->List (List H)->Prop
 |[],bC=>bC=[]
 |an::c3,bC=>∃row hw v,bC=row::hw/\row[3]? =some v/\wv ap t an=none/\nG X h ap t dS P eG an.right v/\wh X h ap t dS P eG c3 hw
def wh.ac{ap:List Go.a2.Node}{t:bx->Option fQ}{dS jm:Nat->Option H}{qI qP:Nat->Prop}(D:∀e,P e->aa X T e=aa X h e)(sm:∀e,eG e->aa X T e=aa X h e)(aB:∀e,P e->jm e=dS e)(ay:∀e,P e->qI e)(I:∀e,eG e->qP e):∀{c3:List hl}{bC:List (List H)},wh X h ap t dS P eG c3 bC->wh X T ap t jm qI qP c3 bC:=by
 intro c3
 induction c3 with
 |nil=>intro bC a;exact a
 |cons an c3 al=>
  rintro bC ⟨row,hw,v,R,U,ar,aO,bN⟩
  exact⟨row,hw,v,R,U,ar,nG.ac D sm aB ay I _ _ aO,al bN⟩
def wh.snoc{ap:List Go.a2.Node}{t:bx->Option fQ}{dS:Nat->Option H}{an:hl}{row:List H}{v:H}(U:row[3]? =some v)(ar:wv ap t an=none)(aO:nG X h ap t dS P eG an.right v):∀{c3:List hl}{bC:List (List H)},wh X h ap t dS P eG c3 bC->wh X h ap t dS P eG (c3++[an]) (bC++[row]):=by
 intro c3
 induction c3 with
 |nil=>rintro bC rfl;exact⟨row,[],v,rfl,U,ar,aO,rfl⟩
 |cons J c3 al=>
  rintro bC ⟨sC,hw,w,rfl,cw,c0,ep,dG⟩
  exact⟨sC,hw++[row],w,rfl,cw,c0,ep,al dG⟩
structure Ee(X:ck)(h:S ak)(fa:Nat)(P:Nat->Prop)(bY an r:Nat)(p:H)(ap:List Go.a2.Node):Prop where
 a7:(q X).a7<=fa
 lc:bY<fa
 F9:an<fa
 Dr:r<fa
 JD:(q X).a7<=r
 acD:(q X).a7<=bY
 EM:bY≠r
 qr:an≠r
 O5:an≠bY
 bu:∀e,P e->(q X).a7<=e/\e<fa/\e≠r/\e≠bY
 HQ:∃c,aa X h bY=some (.cells c 3 .own)/\c.get 0=some (.ptr an 0)/\c.get 1=some p
 D5:am X h (.ptr an 0)=some (.map r)
 prog:nD X h P ap p
def Eh(X:ck)(h:S ak)(ap:List Go.a2.Node)(dS:Nat->Option H)(P eG:Nat->Prop)(g:Go.a2.Node)(row:List H):Prop:=DD ap g=none/\∃dd dz a8 eV cZ dO ei h2 bC,row=[.str g.name, .Z g.at_,dd,dz,a8,eV]/\d5 X h P cZ dd 8 (g.eQ.map eW)/\d5 X h P dO dz 8 (g.out.map eW)/\d5 X h P ei a8 8 (g.loc.map eW)/\d5 X h P h2 eV 4 bC/\oi X h P g.eqs bC/\wh X h ap (i6 g) dS P eG g.eqs bC
structure aeK(X:ck)(fG:S ak)(j ba:Nat)(bq bs:Nat->Prop)(r:Nat)(ap:List Go.a2.Node)(t:bx->Option fQ)(dS:Nat->Option H)(eqs:List hl)(bC:List (List H))(Y:Nat)(T:S ak)(aS:Nat):Prop where
 none_:(eqs.take Y).findSome? (wv ap t)=none
 fr:b4 X [r] fG ba T aS
 at_:∃jm qK,nb X T bq r jm/\(∀e,¬bs e->jm e=dS e)/\(∀e,qK e->bs e)/\oi X T qK (eqs.drop Y) (bC.drop Y)/\wh X T ap t jm (λe=>bs e/\¬qK e) (dy j aS) (eqs.take Y) (bC.take Y)
set_option maxRecDepth 100000 in
def asz(ax:dv X)(ek:BW X){ap:List Go.a2.Node}{bY JO r fa:Nat}{p:H}(cj:ap≠[])(bp:∀g∈ap,g.eQ.length<=100000/\g.out.length<=100000)(wJ:∀e,bq e->P e){bs:Nat->Prop}(Ff:∀e,bs e->bq e)(aK:fa<=j)(bS:Ee X h fa P bY JO r p ap){dS:Nat->Option H}(q0:nb X h bq r dS)
 {g:Go.a2.Node}{row:List H}(b0:pk X h bs g row)(te:∀an∈g.eqs,eS lf an.right)(oJ:(iG g).length<=300000):
 aR X 77 [.ptr bY 0, .agg row] h j (λad T ao=>ad= .tuple []/\(∃c,aa X T bY=some (.cells c 3 .own)/\c.get 0=some (.ptr JO 0)/\c.get 1=some p)/\∃jm,nb X T bq r jm/\(∀e,¬bs e->jm e=dS e)/\Eh X T ap jm bs (dy j ao) g row/\b4 X [r,bY] h j T ao)
  (λad T ao=>∃J,DD ap g=some J/\ad=oz 26 J/\b4 X [r,bY] h j T ao):=by
 refine c4 (aii X) (ax.none _ _ rfl) ?_
 rw[aij]
 unfold Vl
 have gL:=bS.a7
 have bu:=bS.bu
 have aoM:=bS.Dr;have QN:=bS.lc;have axF:=bS.F9
 have pv:∀e,bs e->P e:=λe I=>wJ e (Ff e I)
 have aan:=b0
 obtain⟨dd,dz,a8,eV,cZ,dO,ei,h2,bC,rfl,nW,l5,py,iV,eX⟩:=b0
 have apN:=(ky nW.len).1
 have apQ:=(ky l5.len).1
 have j7:=(ky py.len).1
 have ax9:=(ky iV.len).1
 refine rR ?_
 generalize en:Go.bg.bm X h j _=aX
 have b3:aa X aX j=some (.cells (S.ofList [.str g.name, .Z g.at_,dd,dz,a8,eV] 0 .nil) 6 .own):=by rw[<-en,bh Zo];rfl
 have bU:bj X h j aX (j+1):=by rw[<-en];exact dM
 clear en
 refine ci (bJ b3) ⟨?_⟩
 have bZ:∀e,P e->aa X aX e=aa X h e:=λe I=>bU.ac e (by have:=bu e I;omega)
 refine(acS (j:=j+1) (h:=aX) ax Zo (λe I=>by have:=bu e (pv e I);omega) (aan.ac (bs:=bs) (λe I=>bZ e (pv e I)) (λ_ a=>a)) oJ).Zm ?_
 rintro ad aJ a6 ⟨cY,lS,adQ,Ez,rfl,MC,FI,wP,q7,_,_,bE⟩
 have f2:=bE.le
 have jy:=bU.trans bE
 obtain⟨c,Xo,Xp,Xq⟩:=bS.HQ
 have Lm:aa X aJ bY=some (.cells c 3 .own):=by rw[jy.ac bY Zo];exact Xo
 have Mk:=bS.acD
 refine x6 ⟨?_⟩
 generalize fd:Go.bg.bm X aJ bY _=aY
 have amg:∃fZ,aa X aY bY=some (.cells fZ 3 .own)/\fZ.get 0=some (.ptr JO 0)/\fZ.get 1=some p/\fZ.get 2=some (.ptr cY 0):=⟨dT c 2 [.ptr cY 0],by rw[<-fd,bh Mk];rfl,by rw[qD,S.j1];exact Xp,by rw[qD,S.j1];exact Xq,rz c 2 _⟩
 have c0:∀e,e≠bY->aa X aY e=aa X aJ e:=λe I=>by rw[<-fd,aE Mk I]
 clear fd Lm
 have Dj:∀e,e<j->e≠bY->aa X aY e=aa X h e:=λe R U=>by rw[c0 e U,jy.ac e R]
 have kx:∀e,P e->aa X aY e=aa X h e:=λe I=>by have:=bu e I;exact Dj e Zo Zo
 have dZ:b4 X [r,bY] h j aY a6:=⟨Zo,λe R U=>Dj e R (by simp at U;exact U.2)⟩
 have abn:rL X aY (λe=>P e\/dy (j+1) a6 e) (.ptr cY 0) (i6 g):=⟨cY,lS,rfl, .inr MC, .inr FI,by rw[cA,c0 cY (by have:=MC.1;omega), <-cA];exact wP,q7.ac (c0 lS (by have:=FI.1;omega))⟩
 have H3:v6 X aY a6 (λe=>P e\/dy (j+1) a6 e) bY JO r (.ptr cY 0) p ap (i6 g):=⟨Zo,Zo,Zo,Zo,bS.JD,bS.EM,bS.qr,λe I=>by
  rcases I with a|a
  ·have:=bu e a;exact⟨this.1,Zo,this.2.2.1⟩
  ·have R:=a.1;have U:=a.2;exact⟨Zo,U,Zo⟩,amg,by rw[cA,Dj JO Zo bS.O5, <-cA];exact bS.D5,abn,bS.prog.ac kx (λ_ a=> .inl a)⟩
 have wA:aa X aY j=some (.cells (S.ofList [.str g.name, .Z g.at_,dd,dz,a8,eV] 0 .nil) 6 .own):=by rw[c0 j Zo,bE.ac j Zo];exact b3
 have CG:nb X aY bq r dS:=q0.ac (Dj r Zo (λF=>bS.EM F.symm)) (λe I=>kx e (wJ e I))
 generalize ME:i6 g=t at*
 have Fs:DD ap g=(match KR t g with|some J=>some J|none=>g.eqs.findSome? (wv ap t)):=by unfold DD;rw[ME];rfl
 clear bU bE jy bZ q7 wP abn b3 Xo Xp Xq
 have anR:eA [.aT, .aT, .aT] [(0,1,dd),(1,1,dz),(2,1,a8)]=some (.agg [dd,dz,a8]):=by
  simp[eA,p1,p2,lW,apN,apQ,j7]
 refine qW (bJ wA) ⟨?_⟩
 refine fE anR ?_
 refine ka (λK T aS=>K.g 0=some (.ptr bY 0)/\K.g 3=some (.ptr j 0)/\KR t g=none/\bj X aY a6 T aS) (λY bH=> ?_) ?_
 ·have FF:∀D,D<3->∃s b,([dd,dz,a8]:List H)[D]? =some s/\d5 X h bs b s 8 ((mg g D).map eW):=λD aF=>by
   match D,aF with
   |0,_=>exact⟨dd,cZ,rfl,nW⟩
   |1,_=>exact⟨dz,dO,rfl,l5⟩
   |2,_=>exact⟨a8,ei,rfl,py⟩
  refine fD (λm K T aS=>∃(D:Nat),K.g 0=some (.ptr bY 0)/\K.g 3=some (.ptr j 0)/\K.g 25=some (.agg [dd,dz,a8])/\K.g 26=some (.Z (D:Int))/\D+m=3/\((iG g).take (pF g D)).findSome? (λx=>if x.2.on≠[]/\(o4 t x.2.on).b=false then some x.2.fJ else none)=none/\bj X aY a6 T aS)
   3 ⟨0,bn,bn,bn,fN,Zo,by simp[pF],bj.refl _ _⟩ ?_
  rintro m K bw c7 ⟨D,t0,t3,iN,jW,aF,jR,dm⟩
  have ji:=dm.le
  cases m with
  |zero=>
   have d:decide ((D:Int)<3)=false:=by simp only[Zb];omega
   have nX:D=3:=Zo
   subst nX
   rw[<-K4,YS]at jR
   refine cM @jW @d ⟨?_⟩
   exact bH _ _ _ ⟨a1 t0,a1 t3,jR,dm⟩
  |succ m=>
   have d:decide ((D:Int)<3)=true:=by simp only[Zg];omega
   obtain⟨fs,dR,yu,A3⟩:=FF D Zo
   have L7:tt false 3 1 (.agg [dd,dz,a8]) (.Z (D:Int))=some fs:=by
    have ar:Nat.blt D 3=true:=by simp[Nat.blt];omega
    simp only[tt,rk,ar,e2,jK,pE,Yj]
    exact yu
   have aaL:=A3.len
   have aoT:=A3.many
   rw[Zp]at aaL aoT
   refine f7 @jW @iN @d @L7 @aaL ⟨?_⟩
   refine fD (λm K T aS=>∃(i:Nat),K.g 0=some (.ptr bY 0)/\K.g 3=some (.ptr j 0)/\K.g 25=some (.agg [dd,dz,a8])/\K.g 26=some (.Z (D:Int))/\K.g 29=some fs/\K.g 30=some (.Z ((mg g D).length:Int))/\K.g 31=some (.Z (i:Int))/\i+m=(mg g D).length/\((iG g).take (pF g D+i)).findSome? (λx=>if x.2.on≠[]/\(o4 t x.2.on).b=false then some x.2.fJ else none)=none/\bj X aY a6 T aS)
    (mg g D).length ⟨0,a1 t0,a1 t3,a1 iN,a1 jW,bn,bn,fN,Zo,jR,dm⟩ ?_
   clear t0 t3 iN jW jR
   rintro ff K bL cb ⟨i,t0,t3,iN,jW,D1,vF,BN,aM,jR,dw⟩
   have hV:=dw.le
   cases ff with
   |zero=>
    have d:decide ((i:Int)<((mg g D).length:Int))=false:=by simp only[Zb];omega
    have bB:aA .add (.Z (D:Int)) (.Z 1)=some (.Z ((D+1:Nat):Int)):=by rw[eI Zo Zo];rfl
    refine f7 @BN @vF @jW @d @bB ⟨?_⟩
    refine⟨m,Zo,D+1,a1 t0,a1 t3,a1 iN,bn,Zo, ?_,dw⟩
    rw[acT g Zo]
    have:i=(mg g D).length:=Zo
    rw[<-this]
    exact jR
   |succ ff=>
    have d:decide ((i:Int)<((mg g D).length:Int))=true:=by simp only[Zg];omega
    have bB:aA .add (.Z (i:Int)) (.Z 1)=some (.Z ((i+1:Nat):Int)):=by rw[eI Zo Zo];rfl
    obtain⟨aD,aH⟩:∃aD,(mg g D)[i]? =some aD:=⟨_,Ze Zo⟩
    have oG:=A3.gi i (by rw[Zp];omega)
    have aqZ:∀e,bs e->aa X bL e=aa X h e:=λe I=>by have:=bu e (pv e I);rw[dw.ac e Zo,kx e (pv e I)]
    have FD:=(A3.ac aqZ).row (i:=i) (r:=eW aD) Zd (by rw[Zx,aH];rfl)
    have j4:eW aD=[.str aD.name, .Z aD.at_, .bool aD.ty.b, .bool aD.ty.s, .Z aD.ty.w, .str aD.on, .Z aD.fJ, .bool aD.no]:=rfl
    rw[j4]at FD
    have QD:=WP g (D:=D) Zo aH
    have axa:=H3.fr (b4.of (X:=[r]) dw) (Zi _)
    refine hQ @BN @vF @D1 @d @oG @FD ⟨?_⟩
    generalize f8:Go.bg.bm X _ cb _=cd
    have dU:aa X cd cb=some (.cells (S.ofList [.str aD.name, .Z aD.at_, .bool aD.ty.b, .bool aD.ty.s, .Z aD.ty.w, .str aD.on, .Z aD.fJ, .bool aD.no] 0 .nil) 8 .own):=by rw[<-f8,bh Zo];rfl
    have dQ:∀e,e<cb->aa X cd e=aa X bL e:=λe I=>by rw[<-f8];simp(disch:=omega) only[aE]
    clear f8
    have eO:bj X aY a6 cd (cb+1):=⟨Zo,λe I=>by rw[dQ e Zo];exact dw.ac e I⟩
    have XU:=H3.fr (b4.of (X:=[r]) eO) (Zi _)
    by_cases n1:aD.on=[]
    ·have cJ:∀i:Decidable (aD.on≠[]), @decide (aD.on≠[]) i=false:=λi=>by simp[n1]
     refine ci (bJ dU) ⟨?_⟩
     simp only[cJ]
     refine cM @BN @bB ⟨?_⟩
     refine⟨ff,Zo,i+1,a1 t0,a1 t3,a1 iN,a1 jW,a1 D1,a1 vF,bn,Zo, ?_,eO.more Zo⟩
     rw[<-ZN,Cs QD jR]
     simp[n1]
    ·have cJ:∀i:Decidable (aD.on≠[]), @decide (aD.on≠[]) i=true:=λi=>by simp[n1]
     refine ci (bJ dU) ⟨?_⟩
     simp only[cJ]
     refine cM @t0 (bJ dU) ⟨?_⟩
     refine(JE (j:=cb+1) (P:=λe=>P e\/dy (j+1) a6 e) ax Zo Zo XU.EJ.dB XU.vG (λe I=>by have:=(H3.bu e I).2.1;omega) aD.on).Zm ?_
     rintro ad cr d9 ⟨rfl,eF⟩
     have mX:=eF.le
     have LC:=eO.trans (eF.kB Zo)
     have eN:aa X cr cb=some (.cells (S.ofList [.str aD.name, .Z aD.at_, .bool aD.ty.b, .bool aD.ty.s, .Z aD.ty.w, .str aD.on, .Z aD.fJ, .bool aD.no] 0 .nil) 8 .own):=by rw[eF.ac cb Zo];exact dU
     cases ai:(o4 t aD.on).b with
     |true=>
      refine gp @Lf @ai @BN @bB ⟨?_⟩
      refine⟨ff,Zo,i+1,a1 t0,a1 t3,a1 iN,a1 jW,a1 D1,a1 vF,bn,Zo, ?_,LC⟩
      rw[<-ZN,Cs QD jR]
      simp[ai]
     |false=>
      refine eu @Lf @ai (bJ eN) ⟨?_⟩
      refine(HM ax Zo aD.fJ).mono (λ_ _ _ a=>a) ?_
      rintro ad dH gt ⟨rfl,hM⟩
      have an3:KR t g=some aD.fJ:=EV QD jR (by simp[n1,ai])
      exact⟨aD.fJ,by rw[Fs,an3],rfl,dZ.trans (b4.of (LC.trans hM))⟩
 ·rintro K bw c7 ⟨t0,t3,oF,dm⟩
  have ji:=dm.le
  have eB:b4 X [r,bY] h j bw c7:=dZ.trans (b4.of dm)
  have P3:=H3.fr (b4.of (X:=[r]) dm) (Zi _)
  have alZ:aa X bw j=some (.cells (S.ofList [.str g.name, .Z g.at_,dd,dz,a8,eV] 0 .nil) 6 .own):=by rw[dm.ac j Zo];exact wA
  have k3:∀e,P e->aa X bw e=aa X h e:=λe I=>by have:=bu e I;rw[dm.ac e Zo,kx e I]
  have Qe:nb X bw bq r dS:=CG.ac (dm.ac r Zo) (λe I=>by have:=bu e (wJ e I);exact dm.ac e Zo)
  have aoj:oi X bw bs g.eqs bC:=eX.ac (λe I=>k3 e (pv e I)) (λ_ a=>a)
  have kl:=eX.wide
  have ec:=iV.len
  have hp:=iV.many
  rw[kl.1]at ec hp
  rw[oF]at Fs
  simp only[]at Fs
  clear CG wA kx bS q0 aan
  show aj _ _
  refine eu @t3 (bJ alZ) @ec ⟨?_⟩
  refine fD (λm K T aS=>∃(Y:Nat),K.g 0=some (.ptr bY 0)/\K.g 52=some eV/\K.g 53=some (.Z (g.eqs.length:Int))/\K.g 54=some (.Z (Y:Int))/\Y+m=g.eqs.length/\aeK X bw j c7 bq bs r ap t dS g.eqs bC Y T aS)
   g.eqs.length ⟨0,a1 t0,bn,bn,fN,Zo,⟨rfl,b4.refl _ _ _,dS,bs,Qe,λ_ _=>rfl,λ_ a=>a,by simpa using aoj,by rw[Z1,Z1];rfl⟩⟩ ?_
  clear t0 t3
  rintro m K bL cb ⟨Y,t0,rx,pL,kf,bH,gS⟩
  have dx:=gS.fr
  have hV:=dx.le
  have ana:=P3.fr dx Zo
  obtain⟨R1,qK,H9,aaJ,yg,r6,A8⟩:=gS.at_
  have jR:=gS.none_
  clear gS
  cases m with
  |zero=>
   have d:decide ((Y:Int)<(g.eqs.length:Int))=false:=by simp only[Zb];omega
   rw[Zy Zo]at jR
   rw[Zy Zo,Zy Zo]at A8
   refine eu @pL @kf @d ⟨?_⟩
   have nT:b4 X [r,bY] h j bL cb:=eB.trans (dx.down (Zi _) (λb ai=> .inl (by simp at ai;simp[ai])))
   have Jg:∀e,bs e->aa X bL e=aa X h e:=λe I=>by have:=bu e (pv e I);exact nT.ac e Zo (by simp;exact⟨this.2.2.1,this.2.2.2⟩)
   obtain⟨jY,z0,fW,fw,_⟩:=ana.HQ
   exact⟨rfl,⟨jY,z0,fW,fw⟩,R1,H9,aaJ,⟨by rw[Fs];exact jR,dd,dz,a8,eV,cZ,dO,ei,h2,bC,rfl,nW.ac Jg,l5.ac Jg,py.ac Jg,iV.ac Jg,eX.ac Jg (λ_ a=>a),by rw[ME];exact A8.ac (λ_ _=>rfl) (λ_ _=>rfl) (λ_ _=>rfl) (λe I=>I.1) (λ_ a=>a)⟩,nT⟩
  |succ m=>
   have d:decide ((Y:Int)<(g.eqs.length:Int))=true:=by simp only[Zg];omega
   have bB:aA .add (.Z (Y:Int)) (.Z 1)=some (.Z ((Y+1:Nat):Int)):=by rw[eI Zo Zo];rfl
   obtain⟨an,cl⟩:∃an,g.eqs[Y]? =some an:=⟨_,Ze Zo⟩
   have aH:g.eqs.drop Y=an::g.eqs.drop (Y+1):=by
    obtain⟨ag,I⟩:=Zc.1 cl
    rw[Zr ag,I]
   rw[aH]at r6
   obtain⟨row,hw,y,cz,Fe,sb,Qz⟩:=r6
   have C6:bC[Y]? =some row:=by
    have:(bC.drop Y)[0]? =some row:=by rw[cz];rfl
    simpa using this
   have A3:hw=bC.drop (Y+1):=by
    obtain⟨ag,I⟩:=Zc.1 C6
    rw[Zr ag]at cz
    simp only[YD]at cz
    exact cz.2.symm
   subst A3
   obtain⟨lU,mI,dk,dB,ls,rfl,hE,l6,ll,nr⟩:=id sb
   obtain⟨fS,rfl,tk,oH⟩:=ll.ptr
   have p9:∀e,y e->bs e:=λe I=>yg e (Fe e I)
   have AM:∀e,P e->e<c7/\e≠r:=λe I=>by have:=bu e I;exact⟨Zo,this.2.2.1⟩
   have Dm:∀e,P e->aa X bL e=aa X h e:=λe I=>by have:=AM e I;rw[dx.ac e this.1 (by simp[this.2]),k3 e I]
   have d2:=iV.gi Y (by rw[kl.1];omega)
   have ig:=(iV.ac (λe I=>Dm e (pv e I))).row Zd C6
   have oN:g.eqs.take (Y+1)=g.eqs.take Y++[an]:=by rw[ZY,cl];rfl
   have w4:bC.take (Y+1)=bC.take Y++[[lU,mI, .Z an.at_, .ptr fS 0]]:=by rw[ZY,C6];rfl
   refine hQ @kf @pL @rx @d @d2 @ig ⟨?_⟩
   refine fE (hO (D:=4) (b:=cb) (W:=0) (n:=4) (bh Zo) Zo rfl Zd Zd nr) ?_
   generalize f8:Go.bg.bm X _ cb _=cd
   have dU:aa X cd cb=some (.cells (S.ofList [lU,mI, .Z an.at_, .ptr fS 0] 0 .nil) 4 .own):=by rw[<-f8,bh Zo];rfl
   have dQ:∀e,e<cb->aa X cd e=aa X bL e:=λe I=>by rw[<-f8];simp(disch:=omega) only[aE]
   clear f8
   have ey:b4 X [r] bw c7 cd (cb+1):=⟨Zo,λe R U=>by rw[dQ e Zo];exact dx.ac e R U⟩
   have anb:=P3.fr ey Zo
   have Qf:nb X cd bq r R1:=H9.ac (dQ r Zo) (λe I=>by have:=AM e (wJ e I);exact dQ e Zo)
   have aok:cI X cd y an.right (.ptr fS 0):=cI.ac (λe I=>by have:=AM e (pv e (p9 e I));exact dQ e Zo) _ _ ll
   refine cM @t0 (bJ dU) ⟨?_⟩
   refine(alt (bq:=bq) (P:=λe=>P e\/dy (j+1) a6 e) (fa:=a6) ax ek cj bp (λe I=> .inl (wJ e I)) (SizeOf.sizeOf an.right+1) an.right (Yg _) (te an (Zj cl)) y (.ptr fS 0) cd (cb+1) R1 (λe I=>Ff e (p9 e I)) Zo anb Qf aok).mono ?_ ?_
   ·rintro ad cr d9 ⟨eE,R2,iI,FL,I1,Fb,Mg,ap1,el⟩
    have mX:=el.le
    have X3:b4 X [r] bw c7 cr d9:=ey.trans (el.down Zo (λb ai=> .inl ai))
    have anc:=P3.fr X3 Zo
    have eN:aa X cr cb=some (.cells (S.ofList [lU,mI, .Z an.at_, .ptr fS 0] 0 .nil) 4 .own):=by rw[el.ac cb Zo (by simp;omega)];exact dU
    have aaM:=hE.len
    have aoU:=hE.many
    simp only[il,Zp]at aaM aoU
    have aq0:∀e,bs e->aa X cr e=aa X bL e:=λe I=>by have:=AM e (pv e I);rw[el.ac e Zo (by simp[this.2]),dQ e Zo]
    refine cM (bJ eN) @aaM ⟨?_⟩
    refine fD (λm K T aS=>∃(i:Nat) (s:H) (cK:List Nat),K.g 0=some (.ptr bY 0)/\K.g 9=some (.ptr cb 0)/\K.g 10=some ad/\K.g 11=some s/\K.g 52=some eV/\K.g 53=some (.Z (g.eqs.length:Int))/\K.g 54=some (.Z (Y:Int))/\K.g 63=some lU/\K.g 64=some (.Z (an.left.length:Int))/\K.g 65=some (.Z (i:Int))/\i+m=an.left.length/\gD X T s 3 (pc ((an.left.take i).map (o4 t))).flatten cK/\(∀e∈cK,d9<=e/\e<aS)/\bj X cr d9 T aS)
     an.left.length ⟨0, .aT,[],a1 t0,bn,bn,bn,a1 rx,a1 pL,a1 kf,bn,bn,fN,Zo, .inl (.inl ⟨rfl,rfl,rfl⟩),Zs,bj.refl _ _⟩ ?_
    clear t0 rx pL kf
    rintro ff K dH gt ⟨i,s,cK,t0,t9,jo,jp,rx,pL,kf,BO,tJ,J4,aM,aI,e9,hM⟩
    have yp:=hM.le
    have XW:=anc.fr (b4.of (X:=[r]) hM) Zo
    have hf:aa X dH cb=some (.cells (S.ofList [lU,mI, .Z an.at_, .ptr fS 0] 0 .nil) 4 .own):=by rw[hM.ac cb Zo];exact eN
    have RG:∀e,bs e->aa X dH e=aa X bL e:=λe I=>by have:=AM e (pv e I);rw[hM.ac e Zo,aq0 e I]
    cases ff with
    |zero=>
     have d:decide ((i:Int)<(an.left.length:Int))=false:=by simp only[Zb];omega
     rw[Zy Zo]at aI
     obtain⟨ajP,bP⟩:=aI.tG (P:=λe=>e<gt) Zd (Kb _) (by simp[pc];omega) (λe I=>(e9 e I).2)
     have abt:mQ X dH (λe=>e<gt) s (an.left.map (o4 t)):=⟨ajP,bP⟩
     have pz:=abt.rd.len
     rw[Zp]at pz
     have Db:mQ X dH (λe=>e<gt) ad eE:=I1.ac (λe I=>hM.ac e I.2) (λe I=>by have:=I.2;omega)
     have wU:am X dH (.ptr fS 0)=some (.Z an.right.kind):=by rw[cA,RG fS (p9 fS tk), <-cA];exact oH
     have gz:b4 X [r] bw c7 dH gt:=X3.trans (b4.of (hM.kB Zo))
     have Qx:wv ap t an=if (1<an.left.length/\an.right.kind≠25)\/eE≠an.left.map (o4 t)then some an.at_ else none:=by unfold wv;rw[iI]
     have fin:∀{dY:S ak}{iX:Nat},b4 X [r] bw c7 dY iX->wv ap t an=some an.at_->DD ap g=some an.at_/\b4 X [r,bY] h j dY iX:=λg3 bt=>⟨by rw[Fs];exact EV cl jR bt,eB.trans (g3.down (Zi _) (λb ai=> .inl (by simp at ai;simp[ai])))⟩
     by_cases mY:1<an.left.length/\an.right.kind≠25
     ·have xS:decide ((an.left.length:Int)>1)=true:=by simp only[Zg];omega
      have xR:decide (an.right.kind≠25)=true:=by simp[mY.2]
      refine ev @J4 @tJ @d @jp @pz @xS (Za @t9 (Za (bJ hf) (Za @wU @xR))) ⟨?_⟩
      refine(HM ax Zo an.at_).mono (λ_ _ _ a=>a) ?_
      rintro ad dY iX ⟨rfl,kk⟩
      obtain⟨eM,e3⟩:=fin (gz.trans (b4.of kk)) (by rw[Qx,Zq (.inl mY)])
      exact⟨_,eM,rfl,e3⟩
     ·apply EN
      ·intro d0
       by_cases qe:1<an.left.length
       ·have xS:decide ((an.left.length:Int)>1)=true:=by simp only[Zg];omega
        have xR:decide (an.right.kind≠25)=false:=by simp only[Zb];exact λa=>mY ⟨qe,a⟩
        refine ev @J4 @tJ @d @jp @pz @xS (Za @t9 (Za (bJ hf) (Za @wU @xR))) ⟨?_⟩
        exact d0.out
       ·have xS:decide ((an.left.length:Int)>1)=false:=by simp only[Zb];omega
        refine hQ @J4 @tJ @d @jp @pz @xS ⟨?_⟩
        exact d0.out
      ·refine cM @jo @jp ⟨?_⟩
       refine(WX (P:=λe=>e<gt) ax Zo Db abt (λe a=>a)).Zm ?_
       rintro S9 dY iX ⟨rfl,kk⟩
       have tm:=kk.le
       have g3:b4 X [r] bw c7 dY iX:=gz.trans (b4.of kk)
       by_cases LL:eE=an.left.map (o4 t)
       ·have Pc:decide (eE=an.left.map (o4 t))=true:=by simp[LL]
        have ω:wv ap t an=none:=by rw[Qx,Zh];exact λa=>a.elim mY (λa=>a LL)
        refine eu @Pc @kf @bB ⟨?_⟩
        have H1:=hM.trans kk
        have abP:∀e,bs e->aa X dY e=aa X bL e:=λe I=>by have:=AM e (pv e I);rw[kk.ac e Zo,RG e I]
        refine⟨m,Zo,Y+1,a1 t0,a1 rx,a1 pL,bn,Zo,⟨by rw[Cs cl jR];exact ω,g3,R2,λe=>qK e/\¬y e,Fb.ac (H1.ac r Zo) (λe I=>by have:=AM e (wJ e I);exact H1.ac e Zo),λe I=>(Mg e (λa=>I (p9 e a))).trans (aaJ e I),λe I=>yg e I.1,Qz.ac (λe I=>abP e (yg e I.1)) (λ_ a=>a), ?_⟩⟩
        rw[oN,w4]
        refine wh.snoc (v:= .ptr fS 0) rfl ω (nG.ac (λe I=>by have:=AM e (pv e (p9 e I));exact H1.ac e Zo) (λe I=>H1.ac e I.2) (λ_ _=>rfl) (λe I=>⟨p9 e I,λa=>a.2 I⟩) (λe I=>⟨by have:=I.1;omega,by have:=I.2;omega⟩) _ _ ap1) (A8.ac (λe I=>abP e I.1) (λe I=> ?_) (λe I=>Mg e (λa=>I.2 (Fe e a))) (λe I=>⟨I.1,λa=>I.2 a.1⟩) (λe I=>⟨I.1,by have:=I.2;omega⟩))
        have R:=I.1;have U:=I.2
        rw[H1.ac e Zo,el.ac e Zo (by simp;omega),dQ e U]
       ·have Pc:decide (eE=an.left.map (o4 t))=false:=by simp[LL]
        have kU:aa X dY cb=some (.cells (S.ofList [lU,mI, .Z an.at_, .ptr fS 0] 0 .nil) 4 .own):=by rw[kk.ac cb Zo];exact hf
        refine eu @Pc @t9 (bJ kU) ⟨?_⟩
        refine(HM ax Zo an.at_).mono (λ_ _ _ a=>a) ?_
        rintro ad fY dV ⟨rfl,CC⟩
        obtain⟨eM,e3⟩:=fin (g3.trans (b4.of CC)) (by rw[Qx,Zq (.inr LL)])
        exact⟨_,eM,rfl,e3⟩
    |succ ff=>
     have d:decide ((i:Int)<(an.left.length:Int))=true:=by simp only[Zg];omega
     have cF:aA .add (.Z (i:Int)) (.Z 1)=some (.Z ((i+1:Nat):Int)):=by rw[eI Zo Zo];rfl
     obtain⟨w,bP⟩:∃w,an.left[i]? =some w:=⟨_,Ze Zo⟩
     have Dd:=hE.gi i (by simp[il];omega)
     have De:=(hE.ac (λe I=>RG e (p9 e I))).cell i [.str w] 0 (.str w) (by simp[il,bP]) rfl
     rw[Yj]at Dd De
     rw[ZR]at De
     have FK:an.left.take (i+1)=an.left.take i++[w]:=by rw[ZY,bP];rfl
     refine ev @J4 @tJ @BO @d @Dd @De (Za @jp @t0) ⟨?_⟩
     refine(JE (j:=gt) (P:=λe=>P e\/dy (j+1) a6 e) ax Zo Zo XW.EJ.dB XW.vG (λe I=>by have:=(H3.bu e I).2.1;omega) w).Zm ?_
     rintro S9 dY iX ⟨rfl,kk⟩
     have tm:=kk.le
     refine ci eC.eq_1 ⟨?_⟩
     generalize q1:Go.bg.bm X dY iX _=fY
     have hg:aa X fY iX=some (.cells (S.ofList (eC (o4 t w)) 0 .nil) 3 .own):=by rw[<-q1,bh Zo];rfl
     have l7:∀e,e<iX->aa X fY e=aa X dY e:=λe I=>by rw[<-q1,aE Zo Zo]
     clear q1
     obtain⟨fs,B2,gw,ic,IX,anQ,uG⟩:=S8 (j:=iX+1) (aI.ac (T:=fY) (λe I=>by have:=e9 e I;rw[l7 e Zo,kk.ac e this.2])) hg (by rw[Zp,zc];omega) Zo (λe I=>by have:=e9 e I;omega) 1
     refine kG ic ?_
     refine cM @J4 @cF ⟨?_⟩
     refine⟨ff,Zo,i+1,fs,gw,a1 t0,a1 t9,a1 jo,bn,a1 rx,a1 pL,a1 kf,a1 BO,a1 tJ,bn,Zo, ?_,λe I=> ?_,⟨Zo,λe I=> ?_⟩⟩
     ·rw[FK,Yv];exact IX
     ·rcases anQ e I with rfl|a
      ·omega
      ·have:=e9 e a;omega
     ·rw[uG e Zo (λa=>by have:=e9 e a;omega),l7 e Zo,kk.ac e Zo];exact hM.ac e I
   ·rintro ad cr d9 ⟨J,aC,rfl,el⟩
    exact⟨J,by rw[Fs];exact EV cl jR (by unfold wv;rw[aC]),rfl,eB.trans ((ey.trans el).down (Zi _) (λb ai=> .inl (by simp at ai;simp[ai])))⟩
end
section
variable{X:ck}{h T aX aJ:S ak}{j ao aL a6:Nat}{P eG:Nat->Prop}
def R6(p:H):lz X h 65 p=am X h p:=Zk
def V8:∃fn c,(q X).P.funcs[76]? =some fn/\fn.body=some c:=Lg (Ou X)
def atV(ax:dv X){J b:H}{bs:Bool->S ak->Nat->Prop}(a:bs false h j):sZ X (.func 76) ([]++[J,b]) none h j bs:=by
 refine⟨ax.none _ _ rfl,V8,Lh (Ou X) ?_⟩
 show x2 X 76 [J,b] none h j bs
 rw[Vk]
 unfold Ot
 show aQ _ _
 refine ci @WW ⟨?_⟩
 exact a
def atW(ax:dv X){J b:Nat}{D at_:Int}{dk dB:S H}{bs:Bool->S ak->Nat->Prop}(aK:(q X).a7<=J)(kZ:(q X).a7<=b)(q2:J≠b)(CI:J<j)(r1:b<j)(hg:aa X h J=some (.cells dk 1 .own))(oB:aa X h b=some (.cells dB 2 .own))
 (a:∀T aS,j<=aS->am X T (.ptr J 0)=some .cq->b6 X T 2 (.ptr b 0)=some (.agg [.Z D, .Z at_])->(∀e,e<j->e≠J->e≠b->aa X T e=aa X h e)->bs true T aS):sZ X (.func 76) ([]++[.ptr J 0, .ptr b 0]) (some (oz D at_)) h j bs:=by
 refine⟨ax.none _ _ rfl,V8,Lh (Ou X) ?_⟩
 show x2 X 76 [.ptr J 0, .ptr b 0] (some (oz D at_)) h j bs
 rw[Vk]
 unfold Ot
 show aQ _ _
 have OK:Ex 26 (.agg [.Z 0, .Z 0]) true (oz D at_)=some (.tuple [.agg [.Z D, .Z at_], .bool true]):=rQ _ _ _
 have DP:∀(K:dL) (n:Nat),(NJ K).g n=K.g n:=λ_ _=>rfl
 refine eu @WV @OK @DP ⟨?_⟩
 generalize en:bm X _ j _=aX
 have b3:aa X aX j=some (.cells (S.ofList [.Z D, .Z at_] 0 .nil) 2 .own):=by rw[<-en,bh Zo];rfl
 have R:∀e,e<j->aa X aX e=aa X h e:=λe I=>by rw[<-en];simp(disch:=omega) only[aE]
 rw[<-R J CI]at hg
 rw[<-R b r1]at oB
 clear en
 refine cM (bJ b3) @DP ⟨?_⟩
 refine gQ (by simp[H.same,nw,o7]) ?_
 generalize dE:bm X aX J _=aJ
 have b2:aa X aJ J=some (.cells (dT dk 0 [.cq]) 1 .own):=by rw[<-dE,bh aK];rfl
 have U:∀e,e≠J->aa X aJ e=aa X aX e:=λe I=>by rw[<-dE,aE aK I]
 rw[<-U b Zo]at oB
 clear dE
 refine s3 @DP ⟨?_⟩
 refine fE (hO (D:=2) (b:=b) (W:=0) (n:=2) oB kZ rfl Zd Zd rfl) ?_
 show bs true _ _
 refine a _ _ Zo ?_ ?_ (λe I Ru gc=> ?_)
 ·rw[bJ (by rw[aE kZ q2];exact b2),kg];rfl
 ·rw[nv,bJ (bh kZ),bJ (bh kZ),kg,kg];rfl
 ·rw[aE kZ gc,U e Ru,R e I]
def aub{ah:bG}{K:dL}{p an v w:H}(l4:K.bb=[])(U:K.g 2=some p)(ar:K.g 3=some an)(eh:am X h p=some v)(c5:b6 X h 2 an=some w)(a:ah (.tuple [v,w]) h j):GF X ah K h j:=by
 unfold GF
 rw[l4]
 show aj (K.g 2) (λp=>B (lz X h 65 p) λv=>aj (K.g 3) λp=>B (lz X h 26 p) λw=>ah (.tuple [v,w]) h j)
 rw[U,ar]
 refine lq ?_
 rw[R6,eh]
 refine lr ?_
 refine lq ?_
 rw[F7,c5]
 exact lr a
def auc{ah:bG}{K:dL}{p an v w J b:H}(ax:dv X)(l4:K.bb=[⟨.fn (.func 76) [J,b],[]⟩])(U:K.g 2=some p)(ar:K.g 3=some an)(eh:am X h p=some v)(c5:b6 X h 2 an=some w)(a:ah (.tuple [v,w]) h j):GF X ah K h j:=by
 unfold GF
 rw[l4]
 show sZ X (.func 76) ([]++[J,b]) none h j λ_ h j=>m6 X [.cell 2 65, .cell 3 26] ah K [] h j
 refine atV ax ?_
 show aj (K.g 2) (λp=>B (lz X h 65 p) λv=>aj (K.g 3) λp=>B (lz X h 26 p) λw=>ah (.tuple [v,w]) h j)
 rw[U,ar]
 refine lq ?_
 rw[R6,eh]
 refine lr ?_
 refine lq ?_
 rw[F7,c5]
 exact lr a
def atc{ah aw:bG}{K:dL}{J b:Nat}{D at_:Int}{dk dB:S H}(ax:dv X)(l4:K.bb=[⟨.fn (.func 76) [.ptr J 0, .ptr b 0],[]⟩])(U:K.g 2=some (.ptr J 0))(ar:K.g 3=some (.ptr b 0))
 (aK:(q X).a7<=J)(kZ:(q X).a7<=b)(q2:J≠b)(CI:J<j)(r1:b<j)(hg:aa X h J=some (.cells dk 1 .own))(oB:aa X h b=some (.cells dB 2 .own))
 (a:∀T aS,j<=aS->(∀e,e<j->e≠J->e≠b->aa X T e=aa X h e)->ah (.tuple [.cq, .agg [.Z D, .Z at_]]) T aS):Nt X ah aw K (oz D at_) h j:=by
 unfold Nt
 rw[l4]
 show sZ X (.func 76) ([]++[.ptr J 0, .ptr b 0]) (some (oz D at_)) h j λb h j=>bR b (m6 X [.cell 2 65, .cell 3 26] ah K [] h j) _
 refine atW ax aK kZ q2 CI r1 hg oB (λT aS gr eh c5 aF=> ?_)
 show aj (K.g 2) (λp=>B (lz X T 65 p) λv=>aj (K.g 3) λp=>B (lz X T 26 p) λw=>ah (.tuple [v,w]) T aS)
 rw[U,ar]
 refine lq ?_
 rw[R6,eh]
 refine lr ?_
 refine lq ?_
 rw[F7,c5]
 exact lr (a T aS gr aF)
def Eh.ac{ap:List Go.a2.Node}{dS jm:Nat->Option H}{qI qP:Nat->Prop}{g:Go.a2.Node}{row:List H}(a:Eh X h ap dS P eG g row)(D:∀e,P e->aa X T e=aa X h e)(sm:∀e,eG e->aa X T e=aa X h e)(aB:∀e,P e->jm e=dS e)(ay:∀e,P e->qI e)(I:∀e,eG e->qP e):Eh X T ap jm qI qP g row:=by
 obtain⟨cj,dd,dz,a8,eV,cZ,dO,ei,h2,bC,R,U,ar,aO,bN,cv,dP⟩:=a
 exact⟨cj,dd,dz,a8,eV,cZ,dO,ei,h2,bC,R,(U.ac D).lift ay,(ar.ac D).lift ay,(aO.ac D).lift ay,(bN.ac D).lift ay,cv.ac D ay,dP.ac D sm aB ay I⟩
def wc(X:ck)(h:S ak)(ap:List Go.a2.Node)(dS:Nat->Option H)(P eG:Nat->Prop):List Go.a2.Node->List (List H)->Prop
 |[],bC=>bC=[]
 |g::l,bC=>∃row hw,bC=row::hw/\Eh X h ap dS P eG g row/\wc X h ap dS P eG l hw
def wc.ac{ap:List Go.a2.Node}{dS jm:Nat->Option H}{qI qP:Nat->Prop}(D:∀e,P e->aa X T e=aa X h e)(sm:∀e,eG e->aa X T e=aa X h e)(aB:∀e,P e->jm e=dS e)(ay:∀e,P e->qI e)(I:∀e,eG e->qP e):∀{l:List Go.a2.Node}{bC:List (List H)},wc X h ap dS P eG l bC->wc X T ap jm qI qP l bC:=by
 intro l
 induction l with
 |nil=>intro bC a;exact a
 |cons g l al=>
  rintro bC ⟨row,hw,R,U,ar⟩
  exact⟨row,hw,R,U.ac D sm aB ay I,al ar⟩
def wc.snoc{ap:List Go.a2.Node}{dS:Nat->Option H}{g:Go.a2.Node}{row:List H}(a:Eh X h ap dS P eG g row):∀{l:List Go.a2.Node}{bC:List (List H)},wc X h ap dS P eG l bC->wc X h ap dS P eG (l++[g]) (bC++[row]):=by
 intro l
 induction l with
 |nil=>rintro bC rfl;exact⟨row,[],rfl,a,rfl⟩
 |cons J l al=>
  rintro bC ⟨sC,hw,rfl,U,ar⟩
  exact⟨sC,hw++[row],rfl,U,al ar⟩
def aeQ(X:ck)(h:S ak)(ap:List Go.a2.Node)(dS:Nat->Option H)(P eG:Nat->Prop)(p:H):Prop:=∃b a8 cL bC,p= .ptr b 0/\P b/\am X h (.ptr b 0)=some a8/\d5 X h P cL a8 6 bC/\wc X h ap dS P eG ap bC
def lV(ap:List Go.a2.Node):Int×Int:=if (xO ap).1≠0 then xO ap else match NU ap with|some J=>(26,J)|none=>(0,0)
def aiD(X:ck)(h:S ak)(ap:List Go.a2.Node)(P eG:Nat->Prop)(p v:H):Prop:=∃an r dS,v= .ptr an 0/\eG an/\eG r/\am X h (.ptr an 0)=some (.map r)/\nb X h P r dS/\aeQ X h ap dS P eG p
def Ec(X:ck)(h:S ak)(ap:List Go.a2.Node)(P eG:Nat->Prop)(p ad:H):Prop:=if (lV ap).1=0 then ∃v,ad= .tuple [v, .agg [.Z 0, .Z 0]]/\aiD X h ap P eG p v else ad= .tuple [.cq, .agg [.Z (lV ap).1, .Z (lV ap).2]]
def Ee.ac{fa bY an r:Nat}{p:H}{ap:List Go.a2.Node}(a:Ee X h fa P bY an r p ap)(D:∀e,e<fa->e≠r->e≠bY->aa X T e=aa X h e)(b0:∃c,aa X T bY=some (.cells c 3 .own)/\c.get 0=some (.ptr an 0)/\c.get 1=some p):Ee X T fa P bY an r p ap:=
 ⟨a.a7,a.lc,a.F9,a.Dr,a.JD,a.acD,a.EM,a.qr,a.O5,a.bu,b0,by rw[cA,D an a.F9 a.qr a.O5, <-cA];exact a.D5,a.prog.ac (λe I=>by have:=a.bu e I;exact D e this.2.1 this.2.2.1 this.2.2.2) (λ_ a=>a)⟩
set_option maxRecDepth 100000 in
def Wj(ax:is X)(bS:lw X)(eK:qH X)(hS:wa X)(ek:BW X){ap:List Go.a2.Node}{p:H}(aK:(q X).a7<=j)(b0:nD X h P ap p)(bu:∀e,P e->(q X).a7<=e/\e<j)(bP:∀g∈ap,sO lf g)(cj:ap≠[])(aB:qp ap=none):
 aR X 31 [p] h j (λad T ao=>Ec X T ap P (dy j ao) p ad/\bj X h j T ao) (λ_ _ _=>False):=by
 refine Hs (ahU X) (ax.todv.none _ _ rfl) ?_
 rw[ahV]
 unfold U7
 obtain⟨qe,lL⟩:=RY aB
 refine cH ⟨?_⟩
 refine e8 (λaX=>aa X aX j=some (.cells (S.ofList [.cq] 0 .nil) 1 .own)/\aa X aX (j+1)=some (.cells (S.ofList [.Z 0, .Z 0] 0 .nil) 2 .own)/\bj X h j aX (j+1+1)) ⟨by simp(disch:=omega) only[aE,bh]<;>rfl,by rw[bh Zo];rfl,dM⟩ ?_
 rintro aX ⟨b3,b2,bU⟩
 refine(aj1 (j:=j+1+1) ax bS eK hS Zo (b0.ac (bs:=P) (λe I=>bU.ac e (bu e I).2) (λ_ a=>a)) (λe I=>by have:=(bu e I).2;omega) bP cj aB).Zm ?_
 rintro ad aJ a6 ⟨rfl,bE⟩
 have f2:=bE.le
 have cQ:aa X aJ j=some (.cells (S.ofList [.cq] 0 .nil) 1 .own):=by rw[bE.ac _ Zo];exact b3
 have d1:aa X aJ (j+1)=some (.cells (S.ofList [.Z 0, .Z 0] 0 .nil) 2 .own):=by rw[bE.ac _ Zo];exact b2
 have jy:=bU.trans bE
 clear b3 b2 bU bE
 have lM:(xO ap).1≠0->lV ap=xO ap:=λa=>by unfold lV;rw[Zq a]
 have IU:(xO ap).1=0->lV ap=match NU ap with|some J=>(26,J)|none=>(0,0):=λa=>by unfold lV;rw[Zh (by simp[a])]
 generalize xO ap=EJ at lM IU ⊢
 obtain⟨cc,pW⟩:=EJ
 simp only at lM IU
 by_cases az:cc=0
 ·have oK:=IU az
  subst az
  clear lM IU
  have d:decide ((0:Int)≠0)=false:=rfl
  refine ci @d ⟨?_⟩
  generalize fd:Go.bg.bm X _ a6 _=aY
  have c0:∀e,e<a6->aa X aY e=aa X aJ e:=λe I=>by rw[<-fd];simp(disch:=omega) only[aE]
  clear fd
  rw[<-c0 j Zo]at cQ
  rw[<-c0 (j+1) Zo]at d1
  have Dj:∀e,e<j->aa X aY e=aa X h e:=λe I=>by rw[c0 e Zo];exact jy.ac e I
  have QB:=b0.ac (T:=aY) (bs:=P) (λe I=>Dj e (bu e I).2) (λ_ a=>a)
  obtain⟨iC,yS,JJ,bC,rfl,nj,a0,cz,j6⟩:=QB
  have C0:=j6.wide
  have ec:=cz.len
  have hp:=cz.many
  rw[C0.1]at ec hp
  have IL:=bu iC nj
  refine Wy ?_
  generalize h5:yT _ _=tV
  have kr:tV.bb=[⟨.fn (.func 76) [.ptr j 0, .ptr (j+1) 0],[]⟩]:=by rw[<-h5];rfl
  have t0:tV.g 0=some (.ptr iC 0):=by rw[<-h5];rfl
  have d3:tV.g 2=some (.ptr j 0):=by rw[<-h5];rfl
  have t3:tV.g 3=some (.ptr (j+1) 0):=by rw[<-h5];rfl
  clear h5
  generalize wX:a6+1=ba at*
  refine f7 @t0 @d3 @cQ @a0 @ec ⟨?_⟩
  generalize fi:Go.bg.bm X _ (ba+1+1) _=bw
  have wB:aa X bw ba=some (.map [] 0):=by rw[<-fi];simp(disch:=omega) only[bh,aE]
  have Ct:aa X bw (ba+1)=some (.cells (S.ofList [.map ba] 0 .nil) 1 .own):=by rw[<-fi];simp(disch:=omega) only[bh,aE]<;>rfl
  have Xr:aa X bw (ba+1+1)=some (.cells (S.ofList [.ptr (ba+1) 0, .ptr iC 0, .cq] 0 .nil) 3 .own):=by rw[<-fi,bh Zo];rfl
  have amv:aa X bw j=some (.cells (dT (S.ofList [.cq] 0 .nil) 0 [.ptr (ba+1) 0]) 1 .own):=by rw[<-fi];simp(disch:=omega) only[bh,aE]<;>rfl
  have ep:∀e,e<ba->e≠j->aa X bw e=aa X aY e:=λe R U=>by rw[<-fi];simp(disch:=omega) only[aE]
  clear fi
  have amu:aa X bw (j+1)=some (.cells (S.ofList [.Z 0, .Z 0] 0 .nil) 2 .own):=by rw[ep _ Zo Zo];exact d1
  have k3:∀e,P e->aa X bw e=aa X aY e:=λe I=>by have:=bu e I;exact ep e Zo Zo
  have aaT:=j6.ac (T:=bw) (bs:=P) k3 (λ_ a=>a)
  have am8:Ee X bw (ba+1+1+1) P (ba+1+1) (ba+1) ba (.ptr iC 0) ap:=⟨Zo,Zo,Zo,Zo,Zo,Zo,Zo,Zo,Zo,λe I=>by have:=bu e I;exact⟨this.1,Zo,Zo,Zo⟩,⟨_,Xr,rfl,rfl⟩,by rw[bJ Ct];rfl,⟨iC,yS,JJ,bC,rfl,nj,by rw[cA,k3 iC nj, <-cA];exact a0,cz.ac k3,aaT⟩⟩
  have ann:nb X bw P ba (λ_=>none):=⟨[],0,wB,λ_=>rfl,Zs⟩
  refine fD (λm K T aS=>∃(Y:Nat) (dS:Nat->Option H) (G6:Nat->Prop),K.g 5=some (.ptr (ba+1+1) 0)/\K.g 25=some yS/\K.g 26=some (.Z (ap.length:Int))/\K.g 27=some (.Z (Y:Int))/\K.bb=[⟨.fn (.func 76) [.ptr j 0, .ptr (j+1) 0],[]⟩]/\K.g 2=some (.ptr j 0)/\K.g 3=some (.ptr (j+1) 0)/\Y+m=ap.length/\(ap.take Y).findSome? (DD ap)=none/\(∃c,aa X T (ba+1+1)=some (.cells c 3 .own)/\c.get 0=some (.ptr (ba+1) 0)/\c.get 1=some (.ptr iC 0))/\b4 X [ba,ba+1+1] bw (ba+1+1+1) T aS/\nb X T P ba dS/\(∀e,G6 e->P e)/\oo X T G6 (ap.drop Y) (bC.drop Y)/\wc X T ap dS (λe=>P e/\¬G6 e) (dy (ba+1+1+1) aS) (ap.take Y) (bC.take Y))
   ap.length ⟨0,λ_=>none,P,bn,bn,bn,fN,kr,a1 d3,a1 t3,Zo,rfl,⟨_,Xr,rfl,rfl⟩,b4.refl _ _ _,ann,λ_ a=>a,by simpa using aaT,by rw[Z1,Z1];rfl⟩ ?_
  clear kr t0 d3 t3 cQ d1
  rintro m K bL cb ⟨Y,dS,G6,t5,iN,jW,vE,J7,d3,t3,bH,jR,mv,dx,H9,Qh,mW,I0⟩
  have hV:=dx.le
  have Dm:∀e,P e->aa X bL e=aa X aY e:=λe I=>by have:=bu e I;rw[dx.ac e Zo (by simp;omega),k3 e I]
  have PP:aa X bL j=some (.cells (dT (S.ofList [.cq] 0 .nil) 0 [.ptr (ba+1) 0]) 1 .own):=by rw[dx.ac j Zo (by simp;omega)];exact amv
  have Xx:aa X bL (j+1)=some (.cells (S.ofList [.Z 0, .Z 0] 0 .nil) 2 .own):=by rw[dx.ac (j+1) Zo (by simp;omega)];exact amu
  have QP:∀e,e<j->aa X bL e=aa X h e:=λe I=>by rw[dx.ac e Zo (by simp;omega),ep e Zo Zo,Dj e I]
  cases m with
  |zero=>
   have d:decide ((Y:Int)<(ap.length:Int))=false:=by simp only[Zb];omega
   rw[Zy Zo]at jR
   rw[Zy Zo,Zy Zo]at I0
   have iW:NU ap=none:=jR
   rw[iW]at oK
   simp only[]at oK
   have gB:am X bL (.ptr j 0)=some (.ptr (ba+1) 0):=by rw[bJ PP,kg];rfl
   refine ev @vE @jW @d @d3 @gB @PP (Za @t3 @Xx) ⟨?_⟩
   generalize f8:Go.bg.bm X _ (j+1) _=cd
   have fW:aa X cd j=some (.cells (dT (dT (S.ofList [.cq] 0 .nil) 0 [.ptr (ba+1) 0]) 0 [.ptr (ba+1) 0]) 1 .own):=by rw[<-f8];simp(disch:=omega) only[bh,aE]<;>rfl
   have fw:aa X cd (j+1)=some (.cells (dT (S.ofList [.Z 0, .Z 0] 0 .nil) 0 [.Z 0, .Z 0]) 2 .own):=by rw[<-f8,bh Zo];rfl
   have z3:∀e,e≠j->e≠j+1->aa X cd e=aa X bL e:=λe R U=>by rw[<-f8];simp(disch:=omega) only[aE]
   clear f8
   have u1:∀e,P e->aa X cd e=aa X bL e:=λe I=>by have:=bu e I;exact z3 e Zo Zo
   have avJ:am X cd (.ptr (ba+1) 0)=some (.map ba):=by rw[cA,z3 _ Zo Zo,dx.ac (ba+1) Zo Zs, <-cA,bJ Ct];rfl
   refine auc (v:= .ptr (ba+1) 0) (w:= .agg [.Z 0, .Z 0]) ax.todv J7 (a1 d3) (a1 t3) (by rw[bJ fW,kg];rfl) (by rw[nv,bJ fw,bJ fw,kg,kg];rfl) ⟨?_,Zo,λe I=>by rw[z3 e Zo Zo];exact QP e I⟩
   unfold Ec
   rw[Zq (by rw[oK])]
   exact⟨_,rfl,ba+1,ba,dS,rfl,⟨Zo,Zo⟩,⟨Zo,Zo⟩,avJ,H9.ac (z3 _ Zo Zo) u1,⟨iC,yS,JJ,bC,rfl,nj,by rw[cA,u1 iC nj,Dm iC nj, <-cA];exact a0,cz.ac (λe I=>by rw[u1 e I,Dm e I]),I0.ac (λe I=>u1 e I.1) (λe I=>z3 e (by have:=I.1;omega) (by have:=I.1;omega)) (λ_ _=>rfl) (λe I=>I.1) (λe I=>⟨by have:=I.1;omega,I.2⟩)⟩⟩
  |succ m=>
   have d:decide ((Y:Int)<(ap.length:Int))=true:=by simp only[Zg];omega
   have bB:aA .add (.Z (Y:Int)) (.Z 1)=some (.Z ((Y+1:Nat):Int)):=by rw[eI Zo Zo];rfl
   obtain⟨g,kW⟩:∃g,ap[Y]? =some g:=⟨_,Ze Zo⟩
   have uC:=Zj kW
   have aH:ap.drop Y=g::ap.drop (Y+1):=by
    obtain⟨ag,I⟩:=Zc.1 kW
    rw[Zr ag,I]
   rw[aH]at mW
   obtain⟨row,hw,bs,C7,gq,jj,anH⟩:=mW
   have C6:bC[Y]? =some row:=by
    have:(bC.drop Y)[0]? =some row:=by rw[C7];rfl
    simpa using this
   have A3:hw=bC.drop (Y+1):=by
    obtain⟨ag,I⟩:=Zc.1 C6
    rw[Zr ag]at C7
    simp only[YD]at C7
    exact C7.2.symm
   subst A3
   have pv:∀e,bs e->P e:=λe I=>Qh e (gq e I)
   have d2:=cz.gi Y (by rw[C0.1];omega)
   have ig:=(cz.ac Dm).row Zd C6
   have jk:=jj.jD
   have CZ:=jj
   have oN:ap.take (Y+1)=ap.take Y++[g]:=by rw[ZY,kW];rfl
   have w4:bC.take (Y+1)=bC.take Y++[row]:=by rw[ZY,C6];rfl
   obtain⟨dd,dz,kq,eV,cZ,dO,ei,h2,hw,rfl,_⟩:=jj
   refine hQ @vE @jW @iN @d @d2 @ig ⟨?_⟩
   refine fE (hO (D:=6) (b:=cb) (W:=0) (n:=6) (c:=S.ofList [.str [], .Z 0, .aT, .aT, .aT, .aT] 0 .nil) (bh Zo) Zo rfl Zd Zd jk) ?_
   generalize f8:Go.bg.bm X _ cb _=cd
   have dU:aa X cd cb=some (.cells (S.ofList [.str g.name, .Z g.at_,dd,dz,kq,eV] 0 .nil) 6 .own):=by rw[<-f8,bh Zo];rfl
   have dQ:∀e,e<cb->aa X cd e=aa X bL e:=λe I=>by rw[<-f8];simp(disch:=omega) only[aE]
   clear f8
   have eO:Ee X cd (ba+1+1+1) P (ba+1+1) (ba+1) ba (.ptr iC 0) ap:=am8.ac (λe R U ar=>by rw[dQ e Zo];exact dx.ac e R (by simp;exact⟨U,ar⟩)) (by rw[dQ _ Zo];exact mv)
   have Qf:nb X cd P ba dS:=H9.ac (dQ _ Zo) (λe I=>by have:=bu e I;exact dQ e Zo)
   have ey:b4 X [ba,ba+1+1] bw (ba+1+1+1) cd (cb+1):=⟨Zo,λe R U=>by rw[dQ e Zo];exact dx.ac e R U⟩
   refine cM @t5 (bJ dU) ⟨?_⟩
   refine(asz (j:=cb+1) (bq:=P) (P:=P) (bs:=bs) ax.todv ek cj (λg b0=>by have:=(lL g b0).vars;omega) (λ_ a=>a) pv Zo eO Qf (CZ.ac (bs:=bs) (λe I=>by have:=bu e (pv e I);exact dQ e Zo) (λ_ a=>a)) (λan cl=>((bP g uC).eqs an cl).right) (by rw[K4];have:=(lL g uC).vars;simp only[pF];omega)).mono ?_ ?_
   ·rintro ad cr d9 ⟨rfl,an1,R2,Fb,Mg,X8,el⟩
    have mX:=el.le
    have abX:∀e,e<cb->e≠ba->e≠ba+1+1->aa X cr e=aa X bL e:=λe R U ar=>by rw[el.ac e Zo (by simp;exact⟨U,ar⟩),dQ e R]
    have qm:∀e,P e->aa X cr e=aa X bL e:=λe I=>by have:=bu e I;exact abX e Zo Zo Zo
    refine cM @vE @bB ⟨?_⟩
    refine⟨m,Zo,Y+1,R2,λe=>G6 e/\¬bs e,a1 t5,a1 iN,a1 jW,bn,J7,a1 d3,a1 t3,Zo,by rw[Cs kW jR];exact X8.1,an1,ey.trans (el.down Zo (λb ai=> .inl ai)),Fb,λe I=>Qh e I.1,anH.ac (λe I=>qm e (Qh e I.1)) (λ_ a=>a), ?_⟩
    rw[oN,w4]
    exact wc.snoc (X8.ac (λ_ _=>rfl) (λ_ _=>rfl) (λ_ _=>rfl) (λe I=>⟨pv e I,λa=>a.2 I⟩) (λe I=>⟨by have:=I.1;omega,I.2⟩)) (I0.ac (λe I=>qm e I.1) (λe I=>abX e I.2 (by have:=I.1;omega) (by have:=I.1;omega)) (λe I=>Mg e (λa=>I.2 (gq e a))) (λe I=>⟨I.1,λa=>I.2 a.1⟩) (λe I=>⟨I.1,by have:=I.2;omega⟩))
   ·rintro ad cr d9 ⟨J,aC,rfl,el⟩
    have mX:=el.le
    have iW:NU ap=some J:=EV kW jR aC
    rw[iW]at oK
    simp only[]at oK
    refine atc (dk:=dT (S.ofList [.cq] 0 .nil) 0 [.ptr (ba+1) 0]) (dB:=S.ofList [.Z 0, .Z 0] 0 .nil) ax.todv J7 (by have bp:n8 2 [31,32,33]=false:=rfl;simp[pY,sF,d3,bp]) (by have bp:n8 3 [31,32,33]=false:=rfl;simp[pY,sF,t3,bp]) aK Zo Zo Zo Zo ?_ ?_ (λT aS gr aF=>⟨?_,Zo,λe I=> ?_⟩)
    ·rw[el.ac j Zo (by simp;omega),dQ j Zo];exact PP
    ·rw[el.ac (j+1) Zo (by simp;omega),dQ (j+1) Zo];exact Xx
    ·unfold Ec
     rw[oK,Zh (show ¬(26:Int)=0 by decide)]
    ·rw[aF e Zo Zo Zo,el.ac e Zo (by simp;omega),dQ e Zo];exact QP e I
 ·have oK:=lM az
  clear lM IU
  have d:decide (cc≠0)=true:=by simp[az]
  refine cM @d @cQ ⟨?_⟩
  refine gQ (by simp[H.same,nw,o7]) ?_
  refine ci @d1 ⟨?_⟩
  generalize fd:Go.bg.bm X _ (j+1) _=aY
  have fW:aa X aY j=some (.cells (dT (S.ofList [.cq] 0 .nil) 0 [.cq]) 1 .own):=by rw[<-fd];simp(disch:=omega) only[bh,aE]<;>rfl
  have fw:aa X aY (j+1)=some (.cells (dT (S.ofList [.Z 0, .Z 0] 0 .nil) 0 [.Z cc, .Z pW]) 2 .own):=by rw[<-fd,bh Zo];rfl
  have z3:∀e,e<j->aa X aY e=aa X h e:=λe R=>by rw[<-fd];simp(disch:=omega) only[aE];exact jy.ac e R
  clear fd
  refine aub (v:= .cq) (w:= .agg [.Z cc, .Z pW]) rfl (fN) (fN) (by rw[bJ fW,kg];rfl) (by rw[nv,bJ fw,bJ fw,kg,kg];rfl) ⟨?_,Zo,z3⟩
  unfold Ec
  rw[oK,Zh az]
end
end
end Go.Proofs.YtpfajohmofnkfaaGreatDoor

namespace Go.a2
def xu(st:Option Int)(J:Int):Option Int:=match st with|none=>some J|some b=>some b
def qZ(l:List Int):Int:=l.foldl (λm d=>max m d) 0
def tC(l:List Int)(i:Nat):Int:=(l[i]?).getD 0
def s0(D J:Int)(l:List Int)(st:Option Int):Int×Option Int:=
 if D=5 then(1,if 0<tC l 0 then xu st J else st)
 else if D=21 then(0,if 0<tC l 1 then xu st J else st)
 else if D=22 then(tC l 0,st)
 else if D=6\/D=24\/D=25 then(0,if 0<qZ l then xu st J else st)
 else(qZ l,st)
mutual
def lD:bz->Option Int->Int×Option Int
 | .mk D J _ _ _ _ args,st=>s0 D J (mo args st).1 (mo args st).2
def mo:List bz->Option Int->List Int×Option Int
 |[],st=>([],st)
 |F::bF,st=>((lD F st).1::(mo bF (lD F st).2).1,(mo bF (lD F st).2).2)
end
def WC(F:bz)(st:Option Int):lD F st=s0 F.kind F.at_ (mo F.args st).1 (mo F.args st).2:=by cases F;rw[lD];rfl
mutual
def mB:bz->Bool
 | .mk D _ _ _ _ _ args=>if D=5 then false else if D=21 then true else if D=22 then RJ args else u4 args
def RJ:List bz->Bool
 |[]=>false
 |F::_=>mB F
def u4:List bz->Bool
 |[]=>true
 |F::bF=>mB F&&u4 bF
end
def ab1(F:bz):mB F=if F.kind=5 then false else if F.kind=21 then true else if F.kind=22 then RJ F.args else u4 F.args:=by cases F;rw[mB];rfl
def rP(D:Int)(i:Nat):Bool:=decide (D=5)||(decide (D=21)&&decide (i=1))||decide (D=6)||decide (D=24)||decide (D=25)
def mm(D:Int):Nat->List bz->Bool
 |_,[]=>true
 |i,F::bF=>(!rP D i||mB F)&&mm D (i+1) bF
mutual
def wl:bz->Bool
 | .mk D _ _ _ _ _ args=>mm D 0 args&&qR args
def qR:List bz->Bool
 |[]=>true
 |F::bF=>wl F&&qR bF
end
def ajl(F:bz):wl F=(mm F.kind 0 F.args&&qR F.args):=by cases F;rw[wl];rfl
def Th(st:Option Int)(J:Int):(xu st J).isSome=true:=by cases st<;>rfl
def GW{st:Option Int}(a:st.isSome=true)(J:Int):xu st J=st:=by cases st<;>simp_all [xu]
def amC:∀(l:List Int) (m:Int),0<=m->(∀d∈l,d=0\/d=1)->(l.foldl (λm d=>max m d) m=0↔m=0/\∀d∈l,d=0)/\m<=l.foldl (λm d=>max m d) m:=by
 intro l
 induction l with
 |nil=>intro m a _;simp
 |cons J l al=>
  intro m a aB
  have aC:=aB J (Zw ..)
  obtain⟨R,U⟩:=al (max m J) Zo (λd aH=>aB d (Zu _ aH))
  simp only[List.foldl_cons]
  refine⟨?_,Zo⟩
  rw[R]
  constructor
  ·rintro⟨ar,aO⟩
   refine⟨Zo,λd aH=> ?_⟩
   rcases Zt.1 aH with rfl|aH
   ·omega
   ·exact aO d aH
  ·rintro⟨ar,aO⟩
   have:=aO J (Zw ..)
   exact⟨Zo,λd aH=>aO d (Zu _ aH)⟩
def amE{l:List Int}(a:∀d∈l,d=0\/d=1):(qZ l=0↔∀d∈l,d=0)/\0<=qZ l/\(qZ l=0\/qZ l=1):=by
 obtain⟨R,U⟩:=amC l 0 Zo a
 refine⟨by unfold qZ;rw[R];simp,U, ?_⟩
 have:∀(l:List Int) (m:Int),(m=0\/m=1)->(∀d∈l,d=0\/d=1)->l.foldl (λm d=>max m d) m=0\/l.foldl (λm d=>max m d) m=1:=by
  intro l
  induction l with
  |nil=>intro m a _;exact a
  |cons J l al=>
   intro m bp aB
   have aC:=aB J (Zw ..)
   exact al (max m J) Zo (λd aH=>aB d (Zu _ aH))
 exact this l 0 (.inl rfl) a
def xA:List Int->List bz->Prop
 |[],bF=>bF=[]
 |d::l,bF=>∃F jN,bF=F::jN/\(d=0\/d=1)/\(d=0↔mB F=true)/\xA l jN
def xA.bit:∀{l:List Int}{bF:List bz},xA l bF->∀d∈l,d=0\/d=1:=by
 intro l
 induction l with
 |nil=>intro bF _ d a;cases a
 |cons J l al=>
  rintro bF ⟨F,jN,_,U,_,aO⟩ d aH
  rcases Zt.1 aH with rfl|aH
  ·exact U
  ·exact al aO d aH
def xA.all:∀{l:List Int}{bF:List bz},xA l bF->((∀d∈l,d=0)↔u4 bF=true):=by
 intro l
 induction l with
 |nil=>rintro bF rfl;simp[u4]
 |cons J l al=>
  rintro bF ⟨F,jN,rfl,U,ar,aO⟩
  rw[u4,Zn, <-al aO, <-ar]
  simp
def xA.inv{x:bz}{bF:List bz}:∀{l:List Int},xA l (x::bF)->∃d b5,l=d::b5/\(d=0\/d=1)/\(d=0↔mB x=true)/\xA b5 bF:=by
 intro l a
 cases l with
 |nil=>cases a
 |cons d l=>
  obtain⟨F,jN,bt,U,ar,aO⟩:=a
  cases bt
  exact⟨d,l,rfl,U,ar,aO⟩
def ajk{D:Int}(aF:D=6\/D=24\/D=25):∀(bF:List bz) (i:Nat),mm D i bF=u4 bF:=by
 intro bF
 induction bF with
 |nil=>intro i;rfl
 |cons F bF al=>
  intro i
  rw[mm,u4,al]
  have:rP D i=true:=by unfold rP;rcases aF with rfl|rfl|rfl<;>simp
  rw[this];simp
def VU{D:Int}(aF:¬(D=5\/D=21\/D=6\/D=24\/D=25)):∀(bF:List bz) (i:Nat),mm D i bF=true:=by
 intro bF
 induction bF with
 |nil=>intro i;rfl
 |cons F bF al=>
  intro i
  rw[mm,al]
  have:rP D i=false:=by
   unfold rP
   simp only[YI]at aF
   simp[aF.1,aF.2.1,aF.2.2.1,aF.2.2.2.1,aF.2.2.2.2]
  rw[this];simp
def Tq(F:bz):Prop:=∀st:Option Int,(st.isSome=true->(lD F st).2=st)/\(wl F=true->(lD F st).2=st/\((lD F st).1=0\/(lD F st).1=1)/\((lD F st).1=0↔mB F=true))/\(wl F=false->((lD F st).2).isSome=true)
def Tt(bF:List bz):Prop:=∀st:Option Int,(st.isSome=true->(mo bF st).2=st)/\(qR bF=true->(mo bF st).2=st/\xA (mo bF st).1 bF)/\(qR bF=false->((mo bF st).2).isSome=true)
def akJ{bD:hZ}{F:bz}(bP:Eg bD F)(a:Tt F.args):Tq F:=by
 intro st
 obtain⟨R,U,ar⟩:=a st
 rw[WC,ajl,ab1]
 generalize aB:mo F.args st=p at R U ar
 obtain⟨l,iZ⟩:=p
 simp only at R U ar ⊢
 have mr:=bP.tX
 by_cases f0:qR F.args=true
 ·obtain⟨rfl,Z⟩:=U f0
  have ai:=Z.bit
  have jP:=Z.all
  obtain⟨b3,b2,cQ⟩:=amE ai
  rw[f0,Yd]
  unfold s0
  by_cases dG:F.kind=5
  ·have:=mr 1 (by rw[dG];rfl)
   match aC:F.args,Z with
   |[x],Z=>
      obtain⟨d,b5,rfl,AQ,l3,k0⟩:=Z.inv
      simp only[dG,ZD]
      have cl:mm 5 0 [x]=mB x:=by simp[mm,rP]
      rw[cl]
      have aK:tC (d::b5) 0=d:=rfl
      rw[aK]
      refine⟨λaI=> ?_,λaF=> ?_,λaF=> ?_⟩
      ·split
       ·exact GW aI _
       ·rfl
      ·have:d=0:=l3.2 aF
       subst this
       simp
      ·have:d≠0:=λa=>by rw[l3.1 a]at aF;cases aF
       rw[Zq Zo]
       exact Th _ _
   |[],_=>rw[aC]at this;simp at this
   |_::_::_,_=>rw[aC]at this;simp at this
  ·by_cases k2:F.kind=21
   ·have:=mr 2 (by rw[k2];rfl)
    match aC:F.args,Z with
    |[x,e],Z=>
       obtain⟨d,eh,rfl,AQ,l3,sc⟩:=Z.inv
       obtain⟨cJ,b5,rfl,th,yk,k0⟩:=sc.inv
       have aK:tC (d::cJ::b5) 1=cJ:=rfl
       have cl:mm 21 0 [x,e]=mB e:=by simp[mm,rP]
       have bN:¬(21:Int)=5:=by decide
       simp only[k2,bN,ZD,ZB,aK,cl]
       refine⟨λaI=> ?_,λaF=> ?_,λaF=> ?_⟩
       ·split
        ·exact GW aI _
        ·rfl
       ·have:cJ=0:=yk.2 aF
        subst this
        simp
       ·have:cJ≠0:=λa=>by rw[yk.1 a]at aF;cases aF
        have ar:0<cJ:=Zo
        simp[ar,Th]
    |[],_=>rw[aC]at this;simp at this
    |[_],_=>rw[aC]at this;simp at this
    |_::_::_::_,_=>rw[aC]at this;simp at this
   ·by_cases lp:F.kind=22
    ·have:=mr 2 (by rw[lp];rfl)
     have cl:mm F.kind 0 F.args=true:=VU Zo _ _
     rw[cl]
     match aC:F.args,Z with
     |x::jN,Z=>
       obtain⟨d,b5,rfl,AQ,l3,k0⟩:=Z.inv
       have aK:tC (d::b5) 0=d:=rfl
       simp only[lp,ZD,aK,RJ]
       simp
       exact⟨AQ,l3⟩
     |[],_=>rw[aC]at this;simp at this
    ·by_cases c0:F.kind=6\/F.kind=24\/F.kind=25
     ·rw[ajk c0,Zh dG,Zh k2,Zh lp,Zq c0,Zh dG,Zh k2,Zh lp]
      simp only
      refine⟨λaI=> ?_,λaF=> ?_,λaF=> ?_⟩
      ·split
       ·exact GW aI _
       ·rfl
      ·have:qZ l=0:=b3.2 (jP.2 aF)
       rw[this]
       simp[aF]
      ·have:qZ l≠0:=λa=>by rw[jP.1 (b3.1 a)]at aF;cases aF
       rw[Zq Zo]
       exact Th _ _
     ·have cl:mm F.kind 0 F.args=true:=VU Zo _ _
      rw[cl,Zh dG,Zh k2,Zh lp,Zh c0,Zh dG,Zh k2,Zh lp]
      exact⟨λ_=>rfl,λ_=>⟨rfl,cQ,b3.trans jP⟩,λa=>by cases a⟩
 ·have f0:qR F.args=false:=by simpa using f0
  have aI:=ar f0
  have key:∀(D J:Int) (l:List Int),(s0 D J l iZ).2=iZ:=by
   intro D J l
   unfold s0
   split
   ·simp only;split
    ·exact GW aI _
    ·rfl
   ·split
    ·simp only;split
     ·exact GW aI _
     ·rfl
    ·split
     ·rfl
     ·split
      ·simp only;split
       ·exact GW aI _
       ·rfl
      ·rfl
  rw[key,f0,Bool.and_false]
  exact⟨λa=>R a,(λa=>by cases a),λ_=>aI⟩
mutual
def WO{bD:hZ}:∀(F:bz),eS bD F->Tq F
 | .mk D J nm no ty n args,a=>by
   rw[eS]at a
   exact akJ a.1 (ab6 args a.2)
def ab6{bD:hZ}:∀(bF:List bz),gE bD bF->Tt bF
 |[],_=>by
  intro st
  rw[mo,qR]
  exact⟨λ_=>rfl,λ_=>⟨rfl,rfl⟩,λa=>by cases a⟩
 |F::bF,a=>by
  rw[gE]at a
  have R:=WO F a.1
  have U:=ab6 bF a.2
  intro st
  rw[mo,qR]
  obtain⟨bd,cg,a3⟩:=R st
  obtain⟨cZ,dO,ei⟩:=U (lD F st).2
  simp only
  refine⟨λaI=> ?_,λaF=> ?_,λaF=> ?_⟩
  ·rw[bd aI]at cZ ⊢;exact cZ aI
  ·rw[Zn]at aF
   obtain⟨dk,dB,gF⟩:=cg aF.1
   obtain⟨cT,cJ⟩:=dO aF.2
   exact⟨cT.trans dk,F,bF,rfl,dB,gF,cJ⟩
  ·rw[YX]at aF
   rcases aF with aF|aF
   ·have:=a3 aF
    rw[cZ this];exact this
   ·exact ei aF
end
def Dg(an:hl):Option Int:=match lD an.right none with
 |(_,some J)=>some J
 |(d,none)=>if 0<d then some an.at_ else none
def Rz(g:Node):Option Int:=g.eqs.findSome? Dg
def yC(ap:List Node):Option Int:=ap.findSome? Rz
def tD(an:hl):Bool:=mB an.right&&wl an.right
def aqx{bD:hZ}{an:hl}(a:eS bD an.right):Dg an=none↔tD an=true:=by
 obtain⟨_,U,ar⟩:=WO an.right a none
 unfold Dg tD
 cases aC:wl an.right with
 |false=>
  have:=ar aC
  generalize lD an.right none=p at this
  obtain⟨d,s⟩:=p
  cases s with
  |none=>cases this
  |some J=>simp
 |true=>
  obtain⟨dk,dB,gF⟩:=U aC
  generalize lD an.right none=p at dk dB gF
  obtain⟨d,s⟩:=p
  simp only at dk dB gF
  subst dk
  simp only[Yd]
  rw[<-gF]
  split
  ·constructor
   ·intro a;cases a
   ·intro a;omega
  ·constructor
   ·intro _;omega
   ·intro _;rfl
def aqw{bD:hZ}{ap:List Node}(a:∀g∈ap,∀an∈g.eqs,eS bD an.right):yC ap=none↔(ap.all λg=>g.eqs.all tD)=true:=by
 unfold yC
 rw[List.findSome?_eq_none_iff,YQ]
 refine forall_congr' λg=>forall_congr' λb0=> ?_
 unfold Rz
 rw[List.findSome?_eq_none_iff,YQ]
 exact forall_congr' λan=>forall_congr' λcl=>aqx (a g b0 an cl)
end Go.a2

namespace Go.Proofs.YtpfajohmofnkfaaGreatDoor
open Go.bg
noncomputable section
variable (X : ck) (h : S ak) (j : Nat) (ah aw : bG) (a0 bd cg a3 a4 a5 hz h0 hA : H)
def Tx(a:aW)(b:H)(c:S ak)(d:Nat)(e f:bG):Prop:=
 B (d8 b) λg=>B (pV a c .min [3,3] [g,(.Z 2000)]) λg=>B (sG a c 1 b none (some g) none) λg=>aR a 15 [g] c d (λc d g=>B (cN 0 c) λh=>B (cN 1 c) λc=>B (dA [(.Z 0),(.Z 0)] g) λi=>cO a d g i.1 i.2 λd g i=>B (b7 a g 2 d c) λc=>B (aZ 0 d) λg=>B (am a c g) λg=>B (aA .neq g (.Z 0)) λg=>aQ (λb c d=>aj (b 3) λg=>B (dj a c .eql 23 true g .cq) λg=>aQ (λb c d=>aj (b 3) λg=>aR a 31 [g] c d (λc d g=>B (cN 0 c) λ_=>B (cN 1 c) λc=>aj (b 4) λh=>B (b7 a d 2 h c) λc=>aj (b 4) λd=>B (aZ 0 d) λd=>B (am a c d) λd=>B (aA .neq d (.Z 0)) λd=>aQ (λb c d=>B (dA [(.bool false)] d) λg=>cO a c d g.1 g.2 λc d g=>B (b7 a d 1 c (.bool true)) λd=>aj (b 3) λh=>B (cf h) λh=>B (aZ 0 h) λh=>B (am a d h) λh=>B (d8 h) λi=>aQ (λb c d=>aj (b 3) λg=>aR a 48 [g] c d (λc d g=>aj (b 4) λh=>B (b7 a d 2 h c) λc=>aj (b 4) λd=>B (aZ 0 d) λd=>B (am a c d) λd=>B (aA .eql d (.Z 0)) λd=>aj (b 5) λh=>B (am a c h) λh=>B (dj a c .eql 4 false d h) λd=>MR d (b 5) (λb=>am a c b) c g (λc g h=>iM d c g h (λc g h=>RC c (b 4) (λa=>aZ 0 a) g h (λb g h=>cU c (am a g b) g h (λb g h=>cU c (aA .eql b (.Z 28)) g h (λb g h=>j9 d (λa=>cW (λb=>a b g h) λa=>aV c (a (.bool true)) (a b)) g h (λb c g=>cW (λb=>j9 b (λb=>aR a 50 [] c g b f) c g (λa c d=>cW (λa=>e a c d) λc=>aV b (c a) (c (.bool false)))) λa=>aV d (a b) (a (.bool false))))))))) f) λe=>fj (λb c d g=>aj (c 45) λh=>aj (c 44) λi=>B (aA .lss h i) λh=>aQ (λc d e=>aQ (λa c d=>aj (a 45) λe=>B (aA .add e (.Z 1)) λe=>b (ab a 45 e) c d) λb=>aj (c 43) λg=>aj (c 45) λh=>B (dC 6 g h) λg=>B (b6 a d 6 g) λg=>B (dA [(.str []),(.Z 0), .aT, .aT, .aT, .aT] e) λh=>cO a d e h.1 h.2 λd e h=>B (b7 a e 6 d g) λe=>B (aZ 5 d) λg=>B (am a e g) λg=>B (d8 g) λi=>aQ b λb=>fj (λc d e g=>aj (d 52) λh=>aj (d 51) λi=>B (aA .lss h i) λh=>aQ (λb d e=>aQ (λa b d=>aj (a 52) λe=>B (aA .add e (.Z 1)) λe=>c (ab a 52 e) b d) λc=>aj (b 50) λg=>aj (b 52) λh=>B (dC 4 g h) λg=>B (b6 a d 4 g) λg=>B (dA [.aT, .aT,(.Z 0), .cq] e) λh=>cO a d e h.1 h.2 λd e h=>B (b7 a e 4 d g) λe=>aj (b 5) λg=>B (am a e g) λg=>cV g (aZ 3 d) e h (λe h i=>cV g (am a h e) h i (λe h i=>j9 g (λb=>aR a 51 [e] h i b f) h i (λe h i=>cW (λe=>aj (b 5) λg=>B (b7 a h 1 g e) λe=>B (aZ 3 d) λg=>B (am a e g) λg=>aj (b 5) λh=>aR a 18 [g,(.func (.func 52) [] [h])] e i (λ_ a e=>c (ab b 9 d) a e) f) λa=>aV g (a e) (a (.bool false)))))) λa=>aV h (a (ab d 53 h) e g) (b (ab d 53 h) e g)) (ab (ab (ab (ab c 7 d) 50 g) 51 i) 52 (.Z 0)) e h) λa=>aV h (a (ab c 46 h) d g) (e (ab c 46 h) d g)) (ab (ab (ab (ab b 5 c) 43 h) 44 i) 45 (.Z 0)) d g) λh=>aV d (eZ (g+8) λd=>aj (b 3) λg=>aj (b 4) λh=>B (b6 a c 2 h) λh=>aR a 48 [g] c d (λc d g=>B (dj a d .eql 26 false c h) λc=>aj (b 4) λb=>B (b6 a d 2 b) λb=>gI b (some h) (j9 c (λb=>aR a 50 [] d g b f) d g (λa b d=>cW (λa=>e a b d) λb=>aV c (b a) (b (.bool false))))) f) (h (ab b 32 d) c g)) f) λa=>aV g (e (.bool false) c d) (a (ab b 24 g) c d)) λj=>aV g (aR a 50 [] c i e f) (j (ab (ab (ab (ab (cP [b]) 2 (.bool false)) 4 d) 3 h) 21 g) c i)) f
def aeS:db X 10 [a0] h j ah aw=Tx X a0 h j ah aw:=Zk
def aeR:cS X 10 1=true:=Zk
def Vc(a:aW)(b:H)(c:S ak)(d:Nat)(e f:bG):Prop:=
 B (dA [(.Z 0),(.Z 0)] d) λg=>cO a c d g.1 g.2 λc d g=>aR a 31 [b] d g (λd g h=>B (cN 0 d) λ_=>B (cN 1 d) λd=>B (dA [(.Z 0),(.Z 0)] h) λi=>cO a g h i.1 i.2 λg h i=>B (b7 a h 2 g d) λd=>B (aZ 0 g) λh=>B (am a d h) λh=>B (aA .neq h (.Z 0)) λh=>aQ (λb c d=>aj (b 0) λg=>B (cf g) λg=>B (aZ 0 g) λg=>B (am a c g) λg=>B (d8 g) λh=>aQ (λb c d=>B (eA [(.Z 0),(.Z 0)] []) λf=>aj (b 2) λg=>B (b7 a c 2 g f) λc=>aj (b 2) λb=>B (b6 a c 2 b) λa=>e a c d) λi=>fj (λb c d g=>aj (c 25) λh=>aj (c 24) λj=>B (aA .lss h j) λh=>aQ (λc d g=>aQ (λa c d=>aj (a 25) λe=>B (aA .add e (.Z 1)) λe=>b (ab a 25 e) c d) λb=>aj (c 23) λh=>aj (c 25) λi=>B (dC 6 h i) λh=>B (b6 a d 6 h) λh=>B (dA [(.str []),(.Z 0), .aT, .aT, .aT, .aT] g) λi=>cO a d g i.1 i.2 λd g i=>B (b7 a g 6 d h) λg=>B (aZ 5 d) λh=>B (am a g h) λh=>B (d8 h) λj=>aQ b λb=>fj (λc d g h=>aj (d 32) λi=>aj (d 31) λj=>B (aA .lss i j) λi=>aQ (λb d g=>aQ (λa b d=>aj (a 32) λe=>B (aA .add e (.Z 1)) λe=>c (ab a 32 e) b d) λc=>aj (b 30) λh=>aj (b 32) λi=>B (dC 4 h i) λh=>B (b6 a d 4 h) λh=>B (dA [.aT, .aT,(.Z 0), .cq] g) λi=>cO a d g i.1 i.2 λd g i=>B (b7 a g 4 d h) λg=>B (dA [.cq] i) λh=>cO a g i h.1 h.2 λg h i=>B (aZ 3 d) λj=>B (am a h j) λj=>aR a 97 [j,(.func (.func 98) [] [g])] h i (λf h i=>aQ c λc=>B (am a h g) λj=>B (dj a h .neq 47 true j .cq) λj=>aQ c λc=>aV j (B (am a h g) λc=>B (cf c) λc=>B (aZ 1 c) λc=>B (am a h c) λc=>B (eA [(.Z 0),(.Z 0)] [(0,1,(.Z 28)),(1,1,c)]) λc=>aj (b 2) λd=>B (b7 a h 2 d c) λc=>aj (b 2) λb=>B (b6 a c 2 b) λa=>e a c i) (B (aA .gtr f (.Z 0)) λk=>aQ c λc=>aV k (B (aZ 2 d) λc=>B (am a h c) λc=>B (eA [(.Z 0),(.Z 0)] [(0,1,(.Z 28)),(1,1,c)]) λc=>aj (b 2) λd=>B (b7 a h 2 d c) λc=>aj (b 2) λb=>B (b6 a c 2 b) λa=>e a c i) (c (ab (ab (ab (ab (ab b 8 d) 9 g) 10 f) 40 j) 48 k) h i))) f) λa=>aV i (a (ab d 33 i) g h) (b (ab d 33 i) g h)) (ab (ab (ab (ab c 6 d) 30 h) 31 j) 32 (.Z 0)) g i) λa=>aV h (a (ab c 26 h) d g) (i (ab c 26 h) d g)) (ab (ab (ab b 23 g) 24 h) 25 (.Z 0)) c d) λf=>aV h (B (b6 a d 2 g) λb=>B (b7 a d 2 c b) λb=>B (b6 a b 2 c) λa=>e a b i) (f (ab (ab (ab (cP [b]) 2 c) 4 g) 18 h) d i)) f
def ah5:db X 48 [a0] h j ah aw=Vc X a0 h j ah aw:=Zk
def ah4:cS X 48 1=true:=Zk
def Vd(a:aW)(b:H)(c:S ak)(d:Nat)(e f:bG):Prop:=
 B (cf b) λg=>B (aZ 0 g) λg=>B (am a c g) λg=>aQ (λb c d=>aj (b 0) λg=>B (cf g) λg=>B (aZ 8 g) λg=>B (am a c g) λg=>B (d8 g) λh=>aQ (λ_ a b=>e (.bool true) a b) λi=>fj (λb c d g=>aj (c 27) λh=>aj (c 26) λj=>B (aA .lss h j) λh=>aQ (λc d g=>aQ (λa c d=>aj (a 27) λe=>B (aA .add e (.Z 1)) λe=>b (ab a 27 e) c d) λb=>aj (c 25) λh=>aj (c 27) λi=>B (dC 1 h i) λh=>B (am a d h) λh=>aR a 51 [h] d g (λa d f=>B (fz .not a) λa=>aQ b λb=>aV a (e (.bool false) d f) (b (ab (ab c 4 h) 33 a) d f)) f) λa=>aV h (a (ab c 28 h) d g) (i (ab c 28 h) d g)) (ab (ab (ab b 25 g) 26 h) 27 (.Z 0)) c d) λh=>B (aA .eql g (.Z 5)) λi=>aQ h λh=>aV i (e (.bool false) c d) (B (aA .eql g (.Z 21)) λj=>aQ h λh=>aV j (e (.bool true) c d) (B (aA .eql g (.Z 22)) λk=>aQ h λh=>aV k (B (cf b) λb=>B (aZ 8 b) λb=>B (am a c b) λb=>B (dC 1 b (.Z 0)) λb=>B (am a c b) λb=>aR a 51 [b] c d e f) (h (ab (ab (ab (ab (ab (cP [b]) 2 (.bool false)) 8 g) 9 i) 11 j) 13 k) c d)))
def ah7:db X 51 [a0] h j ah aw=Vd X a0 h j ah aw:=Zk
def ah6:cS X 51 1=true:=Zk
def Ve(a:aW)(b c:H)(d:S ak)(e:Nat)(f g:bG):Prop:=
 B (cf b) λh=>B (aZ 8 h) λh=>B (am a d h) λh=>B (d8 h) λi=>aQ (λ_ a b=>f (.bool true) a b) λf=>fj (λb c d e=>aj (c 12) λh=>aj (c 11) λi=>B (aA .lss h i) λh=>aQ (λc d e=>aQ (λa c d=>aj (a 12) λe=>B (aA .add e (.Z 1)) λe=>b (ab a 12 e) c d) λb=>aj (c 12) λf=>aj (c 10) λh=>aj (c 12) λi=>B (dC 1 h i) λh=>B (am a d h) λh=>aj (c 0) λi=>B (cf i) λi=>B (aZ 0 i) λi=>B (am a d i) λi=>B (aA .eql i (.Z 5)) λi=>sk i (c 0) d e (λd e j=>cU i (cf d) e j (λd e j=>cU i (aZ 0 d) e j (λd e j=>cU i (am a e d) e j (λd e j=>cU i (aA .eql d (.Z 21)) e j (λd e j=>g5 i d e j (λd e j=>iM d f e j (λe j k=>cV d (aA .eql e (.Z 1)) j k (λe j k=>km i (λa=>cW (λb=>a b j k) λa=>aV d (a e) (a (.bool false))) j k (λd e j=>cW (λd=>sk d (c 0) e j (λe i j=>cU d (cf e) i j (λe i j=>cU d (aZ 0 e) i j (λe i j=>cU d (am a i e) i j (λe i j=>cU d (aA .eql e (.Z 6)) i j (λe i j=>cW (λd=>sk d (c 0) i j (λe i j=>cU d (cf e) i j (λe i j=>cU d (aZ 0 e) i j (λe i j=>cU d (am a i e) i j (λe i j=>cU d (aA .eql e (.Z 24)) i j (λe i j=>cW (λd=>sk d (c 0) i j (λe i j=>cU d (cf e) i j (λe i j=>cU d (aZ 0 e) i j (λe i j=>cU d (am a i e) i j (λe i j=>cU d (aA .eql e (.Z 25)) i j (λe i j=>cW (λd=>aj (c 1) λe=>B (am a i e) λe=>iM e d i j (λi j k=>cV e (fz .not i) j k (λi j k=>iM e i j k (λi j k=>g5 i h j k (λj k l=>km i (λb=>aR a 51 [j] k l b g) k l (λg j k=>j9 e (λa=>cW (λb=>a b j k) λa=>aV i (a (.bool true)) (a g)) j k (λg i j=>cW (λe=>aj (c 1) λg=>B (b7 a i 1 g e) λa=>b (ab (ab (ab c 4 f) 5 h) 6 d) a j) λa=>aV e (a g) (a (.bool false))))))))) λa=>aV d (a (.bool true)) (a e))))))) λa=>aV d (a (.bool true)) (a e))))))) λa=>aV d (a (.bool true)) (a e))))))) λa=>aV i (a (.bool true)) (a d))))))))))) λa=>aV h (a (ab c 13 h) d e) (f (ab c 13 h) d e)) (ab (ab (ab (ab (cP [b,c]) 3 (.bool false)) 10 h) 11 i) 12 (.Z 0)) d e
def ah9:db X 52 [a0,bd] h j ah aw=Ve X a0 bd h j ah aw:=Zk
def ah8:cS X 52 2=true:=Zk
def Vq(a:aW)(b c:H)(d:S ak)(e:Nat)(f g:bG):Prop:=
 ia a d e b λd e h=>ia a e h c λe h i=>B (am a h d) λj=>B (cf j) λj=>B (aZ 8 j) λj=>B (am a h j) λj=>B (d8 j) λk=>aQ (λb c d=>aj (b 3) λe=>aj (b 2) λh=>aj (b 2) λi=>B (am a c i) λi=>B (cf i) λi=>B (aZ 0 i) λi=>B (am a c i) λi=>aQ (λb c d=>aj (b 5) λb=>aR a 157 [b] c d f g) λj=>B (aA .eql i (.Z 5)) λk=>aQ j λj=>aV k (aj (b 5) λb=>B (dC 1 b (.Z 0)) λb=>B (am a c b) λb=>ih a (.func (.func 156) [] [e,h]) [b,(.Z 1)] c d f g) (B (aA .eql i (.Z 21)) λl=>aQ j λj=>aV l (aj (b 5) λb=>B (dC 1 b (.Z 1)) λb=>B (am a c b) λb=>ih a (.func (.func 156) [] [e,h]) [b,(.Z 0)] c d f g) (B (aA .eql i (.Z 22)) λm=>aQ j λj=>aV m (aj (b 5) λb=>B (dC 1 b (.Z 0)) λb=>B (am a c b) λa=>f a c d) (B (aA .eql i (.Z 6)) λn=>aQ (λb c d=>aj (b 49) λe=>aQ j λh=>aV e (aj (b 8) λe=>aj (b 5) λb=>aR a 157 [b] c d (λb c d=>ih a e [b,(.Z 0)] c d f g) g) (h b c d)) λa=>aV n (a (ab (ab (ab (ab (ab (ab b 8 (.func (.func 156) [] [e,h])) 29 i) 30 k) 37 l) 44 m) 49 n) c d) (B (aA .eql i (.Z 24)) λf=>aQ a λa=>aV f (a (ab (ab (ab (ab (ab (ab (ab b 8 (.func (.func 156) [] [e,h])) 29 i) 30 k) 37 l) 44 m) 49 n) 49 f) c d) (B (aA .eql i (.Z 25)) λg=>a (ab (ab (ab (ab (ab (ab (ab (ab b 8 (.func (.func 156) [] [e,h])) 29 i) 30 k) 37 l) 44 m) 49 n) 49 f) 49 g) c d)))))) λf=>fj (λb c d e=>aj (c 14) λh=>aj (c 13) λi=>B (aA .lss h i) λh=>aQ (λc d e=>aQ (λa c d=>aj (a 14) λe=>B (aA .add e (.Z 1)) λe=>b (ab a 14 e) c d) λb=>aj (c 12) λf=>aj (c 14) λh=>B (dC 1 f h) λf=>B (am a d f) λf=>aj (c 5) λh=>aj (c 3) λi=>B (am a d i) λi=>aR a 97 [f,i] d e (λd e g=>B (ft 1 [(.Z 0)] [(0,1,d)] g) λd=>cO a e g d.1 d.2 λd e g=>gO (iQ a e g 1 h d) e g λa d e=>b (ab (ab c 7 f) 5 a) d e) g) λa=>aV h (a (ab c 15 h) d e) (f (ab c 15 h) d e)) (ab (ab (ab (ab (ab (ab (ab (cP [b,c]) 2 d) 3 e) 4 (.Z 0)) 5 .aT) 12 j) 13 k) 14 (.Z 0)) h i
def ait:db X 97 [a0,bd] h j ah aw=Vq X a0 bd h j ah aw:=Zk
def ais:cS X 97 2=true:=Zk
def Vr(a:aW)(b c:H)(d:S ak)(e:Nat)(f _:bG):Prop:=
 B (am a d c) λg=>B (dj a d .eql 47 true g .cq) λg=>aQ (λ_ a b=>f (.tuple []) a b) λf=>aV g (B (b7 a d 1 c b) λa=>f (ab (cP [b,c]) 4 g) a e) (f (ab (cP [b,c]) 4 g) d e)
def aiv:db X 98 [a0,bd] h j ah aw=Vr X a0 bd h j ah aw:=Zk
def aiu:cS X 98 2=true:=Zk
def T0(a:aW)(b c d e:H)(f:S ak)(g:Nat)(h i:bG):Prop:=
 B (aA .gtr b (.Z 0)) λj=>aQ (λa b c=>aj (a 1) λa=>h a b c) λh=>aV j (B (am a f d) λk=>B (am a f e) λl=>ih a k [l] f g (λ_ a f=>h (ab (ab (cP [b,c,d,e]) 6 (.Z 0)) 8 j) a f) i) (h (ab (ab (cP [b,c,d,e]) 6 (.Z 0)) 8 j) f g)
def afM:db X 156 [a0,bd,cg,a3] h j ah aw=T0 X a0 bd cg a3 h j ah aw:=Zk
def afL:cS X 156 4=true:=Zk
def T1(a:aW)(b:H)(c:S ak)(d:Nat)(e _:bG):Prop:=
 B (d8 b) λf=>aQ (λa b c=>aj (a 3) λa=>e a b c) λe=>fj (λb c d f=>aj (c 8) λg=>aj (c 7) λh=>B (aA .lss g h) λg=>aQ (λc d e=>aQ (λa c d=>aj (a 8) λe=>B (aA .add e (.Z 1)) λe=>b (ab a 8 e) c d) λb=>aj (c 6) λf=>aj (c 8) λg=>B (dC 1 f g) λf=>B (am a d f) λf=>aj (c 3) λg=>B (pV a d .max [3,3] [g,f]) λa=>b (ab (ab c 5 f) 3 a) d e) λa=>aV g (a (ab c 9 g) d f) (e (ab c 9 g) d f)) (ab (ab (ab (ab (ab (cP [b]) 2 (.Z 0)) 3 (.Z 0)) 6 b) 7 f) 8 (.Z 0)) c d
def afO:db X 157 [a0] h j ah aw=T1 X a0 h j ah aw:=Zk
def afN:cS X 157 1=true:=Zk
end
end Go.Proofs.YtpfajohmofnkfaaGreatDoor

namespace Go.Proofs.YtpfajohmofnkfaaGreatDoor
open Go.bg Go.a2
noncomputable section
def ar5{C:aW}{h:S ak}(x e:Int):pV C h .max [3,3] [.Z x, .Z e]=some (.Z (max x e)):=by
 show nf true (.Z x) [.Z e]=_
 simp only[nf,fo,sj]
 congr 2
 simp only[Zg]
 split<;>simp_all<;>omega
def w6(l:List Int):List H:=l.map λd=> .Z d
section
variable{X:ck}{h T aX aJ:S ak}{j ao aL a6:Nat}{P:Nat->Prop}
def akZ:dj X h .eql 47 true .cq .cq=some (.bool true):=Zk
def ak0(b W:Nat):dj X h .eql 47 true (.ptr b W) .cq=some (.bool false):=Zk
def acE:dj X h .neq 47 true .cq .cq=some (.bool false):=Zk
def asr(b W:Nat):dj X h .neq 47 true (.ptr b W) .cq=some (.bool true):=Zk
def amD(ax:dv X){l:List Int}{a8:H}{b:Nat}(cz:d5 X h P b a8 1 ((w6 l).map λv=>[v])):
 aR X 157 [a8] h j (λad T ao=>ad= .Z (qZ l)/\bj X h j T ao) (λ_ _ _=>False):=by
 refine c4 (afN X) (ax.none _ _ rfl) ?_
 rw[afO]
 unfold T1
 have ec:=cz.len
 have hp:=cz.many
 simp only[w6,Zp]at ec hp
 refine ci @ec ⟨?_⟩
 refine fD (λm K T aS=>∃(Y:Nat),K.g 3=some (.Z ((l.take Y).foldl (λm d=>max m d) 0))/\K.g 6=some a8/\K.g 7=some (.Z (l.length:Int))/\K.g 8=some (.Z (Y:Int))/\Y+m=l.length/\T=h/\aS=j)
  l.length ⟨0,fN,bn,bn,fN,Zo,rfl,rfl⟩ ?_
 rintro m K aJ a6 ⟨Y,t3,f3,gu,gZ,bH,rfl,rfl⟩
 cases m with
 |zero=>
  have d:decide ((Y:Int)<(l.length:Int))=false:=by simp only[Zb];omega
  rw[Zy Zo]at t3
  refine gp @gZ @gu @d @t3 ⟨?_⟩
  exact⟨rfl,bj.refl _ _⟩
 |succ m=>
  have d:decide ((Y:Int)<(l.length:Int))=true:=by simp only[Zg];omega
  have bB:aA .add (.Z (Y:Int)) (.Z 1)=some (.Z ((Y+1:Nat):Int)):=by rw[eI Zo Zo];rfl
  obtain⟨g,b0⟩:∃g,l[Y]? =some g:=⟨_,Ze Zo⟩
  obtain⟨eU,eP,_⟩:=cz.one (i:=Y) (v:= .Z g) (by simp[w6,b0])
  have gN:=ar5 (C:=q X) (h:=aJ) ((l.take Y).foldl (λm d=>max m d) 0) g
  refine ev @gZ @gu @f3 @d @eU @eP (Za @t3 (Za @gN @bB)) ⟨?_⟩
  exact⟨m,Zo,Y+1,by refine x5 ⟨?_⟩;rw[x3 _ _ b0],a1 f3,a1 gu,bn,Zo,rfl,rfl⟩
def ab2(ax:dv X):∀(N:Nat) (F:bz),SizeOf.sizeOf F<N->eS lf F->∀(v:H) (h:S ak) (j:Nat),(∀e,P e->e<j)->cI X h P F v->
 aR X 51 [v] h j (λad T ao=>ad= .bool (mB F)/\bj X h j T ao) (λ_ _ _=>False):=by
 intro N
 induction N with
 |zero=>intro F a;omega
 |succ N al=>
  intro F jf re v h j bu bt
  have uQ:=re
  rw[eS.eq]at uQ
  obtain⟨bP,pz⟩:=uQ
  refine c4 (ah6 X) (ax.none _ _ rfl) ?_
  rw[ah7]
  unfold Vd
  obtain⟨b,a8,cL,bk,rfl,ai,a0,_,_,_,_,_,_,_,hA,cz,has⟩:=bt.open
  have r1:=bu b ai
  have ec:=cz.len
  have hp:=cz.many
  have rb:=has.len
  rw[Zp,rb]at ec hp
  rw[ab1]
  by_cases dG:F.kind=5
  ·refine eu @a0 @jZ @jc ⟨?_⟩
   exact⟨by simp[dG],bj.refl _ _⟩
  ·by_cases k2:F.kind=21
   ·refine eu @a0 @jZ @jc ⟨?_⟩
    exact⟨by simp[k2],bj.refl _ _⟩
   ·by_cases lp:F.kind=22
    ·obtain⟨x,l,abw⟩:∃x l,F.args=x::l:=by
      have:=bP.tX 2 (by rw[lp];rfl)
      cases a:F.args with
      |nil=>rw[a]at this;simp at this
      |cons x l=>exact⟨x,l,rfl⟩
     have ag:F.args[0]? =some x:=by rw[abw];rfl
     obtain⟨w,my,Df⟩:=has.get 0 x ag
     obtain⟨eU,eP,_⟩:=cz.one my
     have eU:dC 1 a8 (.Z 0)=some (.ptr cL 0):=eU
     have eH:=JZ (Zj ag)
     refine hQ @a0 @hA @jZ @jc @eU @eP ⟨?_⟩
     refine(al x Zo (D9 pz (Zj ag)) w h j bu Df).Zm ?_
     rintro ad T aS ⟨rfl,bS⟩
     refine cH ⟨?_⟩
     exact⟨by rw[Zh dG,Zh k2,Zq lp,abw];rfl,bS⟩
    ·rw[Zh dG,Zh k2,Zh lp]
     refine gp @a0 @hA @jc @ec ⟨?_⟩
     refine fD (λm K T aS=>∃(Y:Nat),K.g 25=some a8/\K.g 26=some (.Z (F.args.length:Int))/\K.g 27=some (.Z (Y:Int))/\Y+m=F.args.length/\u4 F.args=u4 (F.args.drop Y)/\bj X h j T aS)
      F.args.length ⟨0,bn,bn,fN,Zo,rfl,bj.refl _ _⟩ ?_
     rintro m K aJ a6 ⟨Y,iN,jW,vE,bH,aF,bE⟩
     have f2:=bE.le
     cases m with
     |zero=>
      have d:decide ((Y:Int)<(F.args.length:Int))=false:=by simp only[Zb];omega
      rw[ZE Zo]at aF
      refine eu @vE @jW @d ⟨?_⟩
      exact⟨by rw[aF];rfl,bE⟩
     |succ m=>
      have d:decide ((Y:Int)<(F.args.length:Int))=true:=by simp only[Zg];omega
      have bB:aA .add (.Z (Y:Int)) (.Z 1)=some (.Z ((Y+1:Nat):Int)):=by rw[eI Zo Zo];rfl
      obtain⟨x,ag⟩:∃x,F.args[Y]? =some x:=⟨_,Ze Zo⟩
      have aH:F.args.drop Y=x::F.args.drop (Y+1):=by
       obtain⟨ag,I⟩:=Zc.1 ag
       rw[Zr ag,I]
      rw[aH,u4]at aF
      have d0:∀e,P e->aa X aJ e=aa X h e:=λe I=>bE.ac e (bu e I)
      obtain⟨w,my,Df⟩:=has.get Y x ag
      obtain⟨eU,eP,_⟩:=(cz.ac d0).one my
      have eH:=JZ (Zj ag)
      refine hQ @vE @jW @iN @d @eU @eP ⟨?_⟩
      refine(al x Zo (D9 pz (Zj ag)) w aJ a6 (λe I=>by have:=bu e I;omega) (cI.ac d0 _ _ Df)).Zm ?_
      rintro ad aY ba ⟨rfl,ca⟩
      have AI:=bE.trans ca
      cases aaD:mB x with
      |false=>
       rw[aaD,Bool.false_and]at aF
       refine cH ⟨?_⟩
       exact⟨by rw[aF],AI⟩
      |true=>
       rw[aaD,ze]at aF
       refine cM @vE @bB ⟨?_⟩
       exact⟨m,Zo,Y+1,a1 iN,a1 jW,bn,Zo,aF,AI⟩
structure tW(X:ck)(h:S ak)(P:Nat->Prop)(fl:Nat)(st:Option Int):Prop where
 at_:∃c v,aa X h fl=some (.cells c 1 .own)/\c.get 0=some v/\(st=none->v= .cq)/\∀J,st=some J->∃b,v= .ptr b 0/\P b/\am X h (.ptr b 1)=some (.Z J)
def tW.ac{fl:Nat}{st:Option Int}(a:tW X h P fl st)(D:aa X T fl=aa X h fl)(MX:∀e,P e->aa X T e=aa X h e):tW X T P fl st:=by
 obtain⟨c,v,R,U,ar,aO⟩:=a.at_
 refine⟨⟨c,v,by rw[D];exact R,U,ar,λJ aC=> ?_⟩⟩
 obtain⟨b,bB,cF,fp⟩:=aO J aC
 exact⟨b,bB,cF,by rw[cA,MX b cF, <-cA];exact fp⟩
def awv(ax:dv X){fl fS:Nat}{st:Option Int}{J:Int}(yA:(q X).a7<=fl)(FN:¬P fl)(te:tW X h P fl st)(tk:P fS)(bt:am X h (.ptr fS 1)=some (.Z J)):
 aR X 98 [.ptr fS 0, .ptr fl 0] h j (λad T ao=>ad= .tuple []/\tW X T P fl (xu st J)/\(∀e,e≠fl->aa X T e=aa X h e)/\ao=j) (λ_ _ _=>False):=by
 refine c4 (aiu X) (ax.none _ _ rfl) ?_
 rw[aiv]
 unfold Vr
 obtain⟨c,v,R,U,ar,aO⟩:=te.at_
 have aB:am X h (.ptr fl 0)=some v:=by rw[bJ R];exact U
 cases st with
 |none=>
  have bA:=ar rfl
  subst bA
  refine cM @aB @akZ ⟨?_⟩
  refine⟨rfl,⟨⟨_, .ptr fS 0,bh yA,by rw[show(H.ptr fS 0).cells=[.ptr fS 0] from rfl,kg];rfl,(λa=>by cases a),λfR aC=> ?_⟩⟩,λe I=>aE yA I,rfl⟩
  cases aC
  exact⟨fS,rfl,tk,by rw[cA,aE yA (λF=>FN (F▸tk)), <-cA];exact bt⟩
 |some a0=>
  obtain⟨b,rfl,cF,fp⟩:=aO a0 rfl
  have akU:=ak0 (X:=X) (h:=h) b 0
  refine cM @aB @akU ⟨?_⟩
  exact⟨rfl,te,λ_ _=>rfl,rfl⟩
def asF(ax:dv X){fl fS ld mL:Nat}{st:Option Int}{J W d:Int}(yA:(q X).a7<=fl)(FN:¬P fl)(te:tW X h P fl st)(tk:P fS)(bt:am X h (.ptr fS 1)=some (.Z J))
 (R:am X h (.ptr ld 0)=some (.func (.func 98) [] [.ptr fl 0]))(U:am X h (.ptr mL 0)=some (.ptr fS 0)):
 aR X 156 [.Z W, .Z d, .ptr ld 0, .ptr mL 0] h j (λad T ao=>ad= .Z d/\tW X T P fl (if 0<W then xu st J else st)/\(∀e,e≠fl->aa X T e=aa X h e)/\ao=j) (λ_ _ _=>False):=by
 refine c4 (afL X) (ax.none _ _ rfl) ?_
 rw[afM]
 unfold T0
 by_cases bf:0<W
 ·have aD:decide (0<W)=true:=by simp[bf]
  rw[Zq bf]
  refine eu @aD @R @U ⟨?_⟩
  show aR X 98 [.ptr fS 0, .ptr fl 0] _ _ _ _
  refine(awv ax yA FN te tk bt).Zm ?_
  rintro ad T aS ⟨rfl,b3,b2,rfl⟩
  refine cH ⟨?_⟩
  exact⟨rfl,b3,b2,rfl⟩
 ·have aD:decide (0<W)=false:=by simp only[Zb];exact bf
  rw[Zh bf]
  refine ci @aD ⟨?_⟩
  exact⟨rfl,te,λ_ _=>rfl,rfl⟩
def akq(bF:List bz)(st:Option Int){Y:Nat}{x:bz}(ag:bF[Y]? =some x):mo (bF.drop Y) st=((lD x st).1::(mo (bF.drop (Y+1)) (lD x st).2).1,(mo (bF.drop (Y+1)) (lD x st).2).2):=by
 have aH:bF.drop Y=x::bF.drop (Y+1):=by
  obtain⟨ag,I⟩:=Zc.1 ag
  rw[Zr ag,I]
 rw[aH,mo]
set_option maxRecDepth 100000 in
def ako(ax:dv X){fl fa:Nat}(yA:(q X).a7<=fl)(ayh:fl<fa)(FN:¬P fl)(bu:∀e,P e->e<fa):∀(N:Nat) (F:bz),SizeOf.sizeOf F<N->eS lf F->∀(v:H) (h:S ak) (j:Nat) (st:Option Int),(q X).a7<=j->fa<=j->cI X h P F v->tW X h P fl st->
 aR X 97 [v, .func (.func 98) [] [.ptr fl 0]] h j (λad T ao=>ad= .Z (lD F st).1/\tW X T P fl (lD F st).2/\b4 X [fl] h j T ao) (λ_ _ _=>False):=by
 intro N
 induction N with
 |zero=>intro F a;omega
 |succ N al=>
  intro F jf re v h j st aK bp bt te
  have uQ:=re
  rw[eS.eq]at uQ
  obtain⟨bP,pz⟩:=uQ
  refine c4 (ais X) (ax.none _ _ rfl) ?_
  rw[ait]
  unfold Vq
  obtain⟨b,a8,cL,bk,rfl,ai,a0,bd,_,_,_,_,_,_,hA,cz,has⟩:=bt.open
  have r1:=bu b ai
  have ec:=cz.len
  have hp:=cz.many
  have rb:=has.len
  rw[Zp,rb]at ec hp
  refine rR ?_
  refine rR ?_
  generalize en:Go.bg.bm X _ (j+1) _=aX
  have b3:am X aX (.ptr j 0)=some (.ptr b 0):=by rw[<-en,cA];simp(disch:=omega) only[bh,aE]<;>rfl
  have b2:am X aX (.ptr (j+1) 0)=some (.func (.func 98) [] [.ptr fl 0]):=by rw[<-en,cA,bh Zo];rfl
  have bU:bj X h j aX (j+1+1):=by rw[<-en];exact dM
  clear en
  have bZ:∀e,P e->aa X aX e=aa X h e:=λe I=>bU.ac e (by have:=bu e I;omega)
  have B5:am X aX (.ptr b 8)=some a8:=by rw[cA,bZ b ai, <-cA];exact hA
  refine eu @b3 @B5 @ec ⟨?_⟩
  refine fD (λm K T aS=>∃(Y:Nat) (s:H) (cK:List Nat) (jt:List Int) (hY:Option Int),K.g 2=some (.ptr j 0)/\K.g 3=some (.ptr (j+1) 0)/\K.g 5=some s/\K.g 12=some a8/\K.g 13=some (.Z (F.args.length:Int))/\K.g 14=some (.Z (Y:Int))/\Y+m=F.args.length/\jt.length=Y
   /\mo F.args st=(jt++(mo (F.args.drop Y) hY).1,(mo (F.args.drop Y) hY).2)/\gD X T s 1 (w6 jt) cK/\(∀e∈cK,j+1+1<=e/\e<aS)/\tW X T P fl hY/\b4 X [fl] aX (j+1+1) T aS)
   F.args.length ⟨0, .aT,[],[],st,bn,bn,bn,bn,bn,fN,Zo,rfl,by rw[ZU];simp, .inl (.inl ⟨rfl,rfl,rfl⟩),Zs,te.ac (bU.ac fl Zo) bZ,b4.refl _ _ _⟩ ?_
  rintro m K aJ a6 ⟨Y,s,cK,jt,vA,d3,t3,t5,ke,i2,kJ,bH,η,h6,aI,e9,LM,dc⟩
  have f2:=dc.le
  have anw:∀e,P e->e≠fl:=λe I F=>FN (F▸I)
  have cw:∀e,P e->aa X aJ e=aa X h e:=λe I=>by have:=bu e I;rw[dc.ac e Zo (by simp[anw e I]),bZ e I]
  have wz:am X aJ (.ptr j 0)=some (.ptr b 0):=by rw[cA,dc.ac j Zo (by simp;omega), <-cA];exact b3
  have Lk:am X aJ (.ptr (j+1) 0)=some (.func (.func 98) [] [.ptr fl 0]):=by rw[cA,dc.ac (j+1) Zo (by simp;omega), <-cA];exact b2
  cases m with
  |zero=>
   have d:decide ((Y:Int)<(F.args.length:Int))=false:=by simp only[Zb];omega
   rw[ZE Zo,mo]at h6
   simp only[Yq]at h6
   rw[WC,h6]
   simp only[]
   have rM:am X aJ (.ptr b 0)=some (.Z F.kind):=by rw[cA,cw b ai, <-cA];exact a0
   have Oy:am X aJ (.ptr b 1)=some (.Z F.at_):=by rw[cA,cw b ai, <-cA];exact bd
   have nT:b4 X [fl] h j aJ a6:=⟨Zo,λe R U=>by rw[dc.ac e Zo U];exact bU.ac e R⟩
   obtain⟨wo,Mx⟩:=aI.Gy (P:=λe=>e<a6) (by simp[w6];omega) (λe I=>(e9 e I).2)
   have n9:∀i,i<jt.length->∃W,dC 1 s (.Z (i:Int))=some (.ptr wo W)/\am X aJ (.ptr wo W)=some (.Z (tC jt i)):=λi aM=>by
    have b0:jt[i]? =some (tC jt i):=by unfold tC;rw[Ze aM];rfl
    obtain⟨eU,eP,_⟩:=Mx.one (i:=i) (v:= .Z (tC jt i)) (by simp[w6,b0])
    exact⟨i,eU,eP⟩
   have sl:=bP.bZ
   have fin:∀{aY:S ak}{ba:Nat},bj X aJ a6 aY ba->∀(W d:Int) (eE:Int×Option Int),eE=(d,if 0<W then xu vA F.at_ else vA)->aR X 156 [.Z W, .Z d, .ptr (j+1) 0, .ptr j 0] aY ba (λad T ao=>ad= .Z eE.1/\tW X T P fl eE.2/\b4 X [fl] h j T ao) (λ_ _ _=>False):=by
    rintro aY ba ca W d eE rfl
    have c0:∀e,P e->aa X aY e=aa X aJ e:=λe I=>ca.ac e (by have:=bu e I;omega)
    refine(asF ax yA FN (LM.ac (ca.ac fl Zo) c0) ai (by rw[cA,c0 b ai, <-cA];exact Oy) (by rw[cA,ca.ac _ Zo, <-cA];exact Lk) (by rw[cA,ca.ac _ Zo, <-cA];exact wz)).Zm ?_
    rintro ad bw c7 ⟨rfl,cB,cu,rfl⟩
    have ie:=ca.le
    exact⟨rfl,cB,Zo,λe R U=>by rw[cu e (by simpa using U),ca.ac e Zo];exact nT.ac e R U⟩
   by_cases dG:F.kind=5
   ·have:=bP.tX 1 (by rw[dG];rfl)
    obtain⟨W,eU,eP⟩:=n9 0 Zo
    have eU:dC 1 s (.Z 0)=some (.ptr wo W):=eU
    refine ev @kJ @i2 @d @d3 @t3 @t5 (Za @wz (Za @rM (Za @jZ (Za @jc (Za @eU @eP))))) ⟨?_⟩
    show aR X 156 [.Z (tC jt 0), .Z 1, .ptr (j+1) 0, .ptr j 0] aJ a6 _ _
    exact fin (bj.refl _ _) _ _ _ (by unfold s0;rw[Zq dG])
   by_cases k2:F.kind=21
   ·have:=bP.tX 2 (by rw[k2];rfl)
    obtain⟨W,eU,eP⟩:=n9 1 Zo
    have eU:dC 1 s (.Z 1)=some (.ptr wo W):=eU
    refine ev @kJ @i2 @d @d3 @t3 @t5 (Za @wz (Za @rM (Za @jZ (Za @jc (Za @eU @eP))))) ⟨?_⟩
    show aR X 156 [.Z (tC jt 1), .Z 0, .ptr (j+1) 0, .ptr j 0] aJ a6 _ _
    exact fin (bj.refl _ _) _ _ _ (by unfold s0;rw[Zh dG,Zq k2])
   by_cases lp:F.kind=22
   ·have:=bP.tX 2 (by rw[lp];rfl)
    obtain⟨W,eU,eP⟩:=n9 0 Zo
    have eU:dC 1 s (.Z 0)=some (.ptr wo W):=eU
    refine ev @kJ @i2 @d @d3 @t3 @t5 (Za @wz (Za @rM (Za @jZ (Za @jc (Za @eU @eP))))) ⟨?_⟩
    unfold s0
    rw[Zh dG,Zh k2,Zq lp]
    exact⟨rfl,LM,nT⟩
   have b0:∀{ah aw:bG},(∀aY ba,bj X aJ a6 aY ba->ah (.Z (qZ jt)) aY ba)->aR X 157 [s] aJ a6 ah aw:=λaF=>(amD ax Mx).mono (λad T aS a=>by rw[a.1];exact aF T aS a.2) (λ_ _ _ a=>a.elim)
   by_cases c0:F.kind=6\/F.kind=24\/F.kind=25
   ·have iI:s0 F.kind F.at_ jt vA=(0,if 0<qZ jt then xu vA F.at_ else vA):=by unfold s0;rw[Zh dG,Zh k2,Zh lp,Zq c0]
    rcases c0 with D|D|D
    all_goals
     refine ev @kJ @i2 @d @d3 @t3 @t5 (Za @wz (Za @rM (Za @jZ @jc))) ⟨?_⟩
     refine b0 λaY ba ca=> ?_
     refine cH ⟨?_⟩
     show aR X 156 [.Z (qZ jt), .Z 0, .ptr (j+1) 0, .ptr j 0] aY ba _ _
     exact fin ca _ _ _ iI
   ·have iI:s0 F.kind F.at_ jt vA=(qZ jt,vA):=by unfold s0;rw[Zh dG,Zh k2,Zh lp,Zh c0]
    rw[iI]
    simp only[YI]at c0
    obtain⟨dQ,ays,ayt⟩:=c0
    refine ev @kJ @i2 @d @d3 @t3 @t5 (Za @wz (Za @rM @jc)) ⟨?_⟩
    refine b0 λaY ba ca=> ?_
    exact⟨rfl,LM.ac (ca.ac fl Zo) (λe I=>ca.ac e (by have:=bu e I;omega)),nT.trans (b4.of ca)⟩
  |succ m=>
   have d:decide ((Y:Int)<(F.args.length:Int))=true:=by simp only[Zg];omega
   have bB:aA .add (.Z (Y:Int)) (.Z 1)=some (.Z ((Y+1:Nat):Int)):=by rw[eI Zo Zo];rfl
   obtain⟨x,ag⟩:∃x,F.args[Y]? =some x:=⟨_,Ze Zo⟩
   obtain⟨w,my,Df⟩:=has.get Y x ag
   obtain⟨eU,eP,_⟩:=(cz.ac cw).one my
   have eH:=JZ (Zj ag)
   rw[akq _ _ ag]at h6
   refine ev @kJ @i2 @ke @t5 @t3 @d (Za @eU (Za @eP @Lk)) ⟨?_⟩
   refine(al x Zo (D9 pz (Zj ag)) w aJ a6 vA Zo Zo (cI.ac cw _ _ Df) LM).Zm ?_
   rintro ad aY ba ⟨rfl,δ,dZ⟩
   have ie:=dZ.le
   generalize uy:lD x vA=dq at*
   obtain⟨xW,au8⟩:=dq
   simp only at h6 δ ⊢
   refine cH ⟨?_⟩
   generalize fi:Go.bg.bm X aY ba _=bw
   have d1:aa X bw ba=some (.cells (S.ofList [.Z xW] 0 .nil) 1 .own):=by rw[<-fi,bh Zo]
   have ep:∀e,e<ba->aa X bw e=aa X aY e:=λe I=>by rw[<-fi,aE Zo Zo]
   clear fi
   obtain⟨fs,bL,gw,ic,yv,uu,lK⟩:=(aI.ac (T:=bw) (λe I=>by have:=e9 e I;rw[ep e Zo,dZ.ac e Zo (by simp;omega)])).append (j:=ba+1) Zd (rs (D:=1) d1 (n4 _) rfl 1) rfl Zd rfl (by simp[w6];omega) Zo (λe I=>by have:=e9 e I;omega)
   refine kG ic ?_
   refine cM @kJ @bB ⟨?_⟩
   have Bi:∀e,e<j+1+1->e∉cK:=λe R U=>by have:=e9 e U;omega
   have dG:∀e,e<j+1+1->aa X bL e=aa X aY e:=λe I=>by rw[lK e Zo (Bi e I),ep e Zo]
   refine⟨m,Zo,Y+1,fs,gw,jt++[xW],au8,a1 d3,a1 t3,bn,a1 ke,a1 i2,bn,Zo,by simp[η],by rw[h6];simp, ?_,λe I=> ?_,δ.ac (dG fl Zo) (λe I=>dG e (by have:=bu e I;omega)),⟨Zo,λe R U=> ?_⟩⟩
   ·have:w6 (jt++[xW])=w6 jt++[.Z xW]:=by simp[w6]
    rw[this];exact .inl yv
   ·rcases uu e I with rfl|a
    ·omega
    ·have:=e9 e a;omega
   ·rw[dG e R,dZ.ac e Zo U];exact dc.ac e R U
end
def qw(ap:List Go.a2.Node):Int×Int:=if (lV ap).1≠0 then lV ap else match yC ap with|some J=>(28,J)|none=>(0,0)
section
variable{X:ck}{h T aX aJ:S ak}{j ao aL a6:Nat}{P:Nat->Prop}
def Wk{ap:List Go.a2.Node}{p ad:H}{eG:Nat->Prop}(a:Ec X h ap P eG p ad):∃v,ad= .tuple [v, .agg [.Z (lV ap).1, .Z (lV ap).2]]:=by
 unfold Ec at a
 by_cases az:(lV ap).1=0
 ·rw[Zq az]at a
  obtain⟨v,rfl,_⟩:=a
  have:lV ap=(0,0):=by
   unfold lV at az ⊢
   split at az
   ·rename_i a;exact absurd az a
   ·rename_i a
    rw[Zh a]
    split at az
    ·simp at az
    ·rfl
  exact⟨v,by rw[this]⟩
 ·rw[Zh az]at a
  exact⟨_,a⟩
set_option maxRecDepth 100000 in
def Wi(ax:is X)(bS:lw X)(eK:qH X)(hS:wa X)(ek:BW X){ap:List Go.a2.Node}{p:H}(aK:(q X).a7<=j)(b0:nD X h P ap p)(bu:∀e,P e->(q X).a7<=e/\e<j)(bP:∀g∈ap,sO lf g)(cj:ap≠[])(aB:qp ap=none):
 aR X 48 [p] h j (λad T ao=>ad= .agg [.Z (qw ap).1, .Z (qw ap).2]/\bj X h j T ao) (λ_ _ _=>False):=by
 refine c4 (ah4 X) (ax.todv.none _ _ rfl) ?_
 rw[ah5]
 unfold Vc
 refine pm ?_
 generalize en:Go.bg.bm X h j _=aX
 have b3:aa X aX j=some (.cells (S.ofList [.Z 0, .Z 0] 0 .nil) 2 .own):=by rw[<-en,bh aK];rfl
 have bU:bj X h j aX (j+1):=by rw[<-en];exact dM
 clear en
 refine(Wj (j:=j+1) ax bS eK hS ek Zo (b0.ac (bs:=P) (λe I=>bU.ac e (bu e I).2) (λ_ a=>a)) (λe I=>by have:=bu e I;exact⟨this.1,Zo⟩) bP cj aB).Zm ?_
 rintro ad aJ a6 ⟨mv,bE⟩
 obtain⟨v,rfl⟩:=Wk mv
 clear mv
 have f2:=bE.le
 have jy:=bU.trans bE
 have b2:aa X aJ j=some (.cells (S.ofList [.Z 0, .Z 0] 0 .nil) 2 .own):=by rw[bE.ac _ Zo];exact b3
 have A2:(lV ap).1≠0->qw ap=lV ap:=λa=>by unfold qw;rw[Zq a]
 have IR:(lV ap).1=0->qw ap=match yC ap with|some J=>(28,J)|none=>(0,0):=λa=>by unfold qw;rw[Zh (by simp[a])]
 generalize lV ap=yW at A2 IR ⊢
 obtain⟨cc,pW⟩:=yW
 simp only at A2 IR
 refine cH ⟨?_⟩
 generalize fd:Go.bg.bm X _ a6 _=aY
 have cQ:aa X aY a6=some (.cells (S.ofList [.Z cc, .Z pW] 0 .nil) 2 .own):=by rw[<-fd,bh Zo];rfl
 have c0:∀e,e<a6->aa X aY e=aa X aJ e:=λe I=>by rw[<-fd];simp(disch:=omega) only[aE]
 clear fd
 have ca:bj X h j aY (a6+1):=⟨Zo,λe I=>by rw[c0 e Zo];exact jy.ac e I⟩
 rw[<-c0 j Zo]at b2
 by_cases az:cc=0
 ·have oK:=IR az
  subst az
  clear A2 IR
  have d:decide ((0:Int)≠0)=false:=rfl
  have kx:∀e,P e->aa X aY e=aa X h e:=λe I=>ca.ac e (bu e I).2
  obtain⟨iC,yS,JJ,bC,rfl,nj,a0,cz,j6⟩:=b0.ac (bs:=P) kx (λ_ a=>a)
  have C0:=j6.wide
  have ec:=cz.len
  have hp:=cz.many
  rw[C0.1]at ec hp
  refine gp (bJ cQ) @d @a0 @ec ⟨?_⟩
  refine fD (λm K T aS=>∃(Y:Nat),K.g 2=some (.ptr j 0)/\K.g 23=some yS/\K.g 24=some (.Z (ap.length:Int))/\K.g 25=some (.Z (Y:Int))/\Y+m=ap.length/\(ap.take Y).findSome? Rz=none/\bj X aY (a6+1) T aS)
   ap.length ⟨0,bn,bn,bn,fN,Zo,rfl,bj.refl _ _⟩ ?_
  rintro m K bL cb ⟨Y,d3,GP,qy,iN,bH,jR,dw⟩
  have hV:=dw.le
  have fA:aa X bL j=some (.cells (S.ofList [.Z 0, .Z 0] 0 .nil) 2 .own):=by rw[dw.ac _ Zo];exact b2
  have Dm:∀e,P e->aa X bL e=aa X aY e:=λe I=>by have:=bu e I;exact dw.ac e Zo
  cases m with
  |zero=>
   have d:decide ((Y:Int)<(ap.length:Int))=false:=by simp only[Zb];omega
   rw[Zy Zo]at jR
   have iW:yC ap=none:=jR
   rw[iW]at oK
   simp only[]at oK
   rw[oK]
   refine ev @iN @qy @d @d3 @fA @BR @D8 ⟨?_⟩
   exact⟨rfl,⟨Zo,λe I=>by rw[aE aK Zo,dw.ac e Zo];exact ca.ac e I⟩⟩
  |succ m=>
   have d:decide ((Y:Int)<(ap.length:Int))=true:=by simp only[Zg];omega
   have bB:aA .add (.Z (Y:Int)) (.Z 1)=some (.Z ((Y+1:Nat):Int)):=by rw[eI Zo Zo];rfl
   obtain⟨g,kW⟩:∃g,ap[Y]? =some g:=⟨_,Ze Zo⟩
   have uC:=Zj kW
   obtain⟨row,fC,jj⟩:=j6.get Y g kW
   have d2:=cz.gi Y (by rw[C0.1];omega)
   have ig:=(cz.ac Dm).row Zd fC
   have jk:=jj.jD
   obtain⟨dd,dz,kq,eV,cZ,dO,ei,h2,hw,rfl,nW,l5,py,iV,eX⟩:=jj
   have kl:=eX.wide
   have ID:=iV.len
   have QU:=iV.many
   rw[kl.1]at ID QU
   refine hQ @iN @qy @GP @d @d2 @ig ⟨?_⟩
   refine fE (hO (D:=6) (b:=cb) (W:=0) (n:=6) (c:=S.ofList [.str [], .Z 0, .aT, .aT, .aT, .aT] 0 .nil) (bh Zo) Zo rfl Zd Zd jk) ?_
   generalize f8:Go.bg.bm X _ cb _=cd
   have dU:aa X cd cb=some (.cells (S.ofList [.str g.name, .Z g.at_,dd,dz,kq,eV] 0 .nil) 6 .own):=by rw[<-f8,bh Zo];rfl
   have dQ:∀e,e<cb->aa X cd e=aa X bL e:=λe I=>by rw[<-f8];simp(disch:=omega) only[aE]
   clear f8
   have eO:bj X aY (a6+1) cd (cb+1):=⟨Zo,λe I=>by rw[dQ e Zo];exact dw.ac e I⟩
   refine cM (bJ dU) @ID ⟨?_⟩
   refine fD (λm K T aS=>∃(an:Nat),K.g 2=some (.ptr j 0)/\K.g 23=some yS/\K.g 24=some (.Z (ap.length:Int))/\K.g 25=some (.Z (Y:Int))/\K.g 30=some eV/\K.g 31=some (.Z (g.eqs.length:Int))/\K.g 32=some (.Z (an:Int))/\an+m=g.eqs.length/\(g.eqs.take an).findSome? Dg=none/\bj X aY (a6+1) T aS)
    g.eqs.length ⟨0,a1 d3,a1 GP,a1 qy,a1 iN,bn,bn,fN,Zo,rfl,eO⟩ ?_
   clear d3 GP qy iN
   rintro ff K cr d9 ⟨an,d3,GP,qy,iN,vF,BN,S3,cl,Mq,eF⟩
   have mX:=eF.le
   have eN:aa X cr j=some (.cells (S.ofList [.Z 0, .Z 0] 0 .nil) 2 .own):=by rw[eF.ac _ Zo];exact b2
   have qm:∀e,P e->aa X cr e=aa X aY e:=λe I=>by have:=bu e I;exact eF.ac e Zo
   cases ff with
   |zero=>
    have d:decide ((an:Int)<(g.eqs.length:Int))=false:=by simp only[Zb];omega
    rw[Zy Zo]at Mq
    refine f7 @S3 @BN @d @iN @bB ⟨?_⟩
    exact⟨m,Zo,Y+1,a1 d3,a1 GP,a1 qy,bn,Zo,by rw[Cs kW jR];exact Mq,eF⟩
   |succ ff=>
    have d:decide ((an:Int)<(g.eqs.length:Int))=true:=by simp only[Zg];omega
    have cF:aA .add (.Z (an:Int)) (.Z 1)=some (.Z ((an+1:Nat):Int)):=by rw[eI Zo Zo];rfl
    obtain⟨eq,A0⟩:∃eq,g.eqs[an]? =some eq:=⟨_,Ze Zo⟩
    obtain⟨auq,FD,sb⟩:=eX.get an eq A0
    have oG:=iV.gi an (by rw[kl.1];omega)
    have IW:=(iV.ac qm).row Zd FD
    obtain⟨lU,mI,dk,dB,ls,rfl,hE,l6,ll,nr⟩:=sb
    have MH:=((bP g uC).eqs eq (Zj A0)).right
    obtain⟨fS,rfl,tk,_⟩:=ll.ptr
    refine hQ @S3 @BN @vF @d @oG @IW ⟨?_⟩
    refine fE (hO (D:=4) (b:=d9) (W:=0) (n:=4) (c:=S.ofList [.aT, .aT, .Z 0, .cq] 0 .nil) (bh Zo) Zo rfl Zd Zd nr) ?_
    generalize nk:Go.bg.bm X _ d9 _=dH
    have hf:aa X dH d9=some (.cells (S.ofList [lU,mI, .Z eq.at_, .ptr fS 0] 0 .nil) 4 .own):=by rw[<-nk,bh Zo];rfl
    have ht:∀e,e<d9->aa X dH e=aa X cr e:=λe I=>by rw[<-nk];simp(disch:=omega) only[aE]
    clear nk
    refine ci (bJ hf) ⟨?_⟩
    generalize pw:Go.bg.bm X dH (d9+1) _=dY
    have kU:aa X dY (d9+1)=some (.cells (S.ofList [.cq] 0 .nil) 1 .own):=by rw[<-pw,bh Zo];rfl
    have gV:∀e,e<d9+1->aa X dY e=aa X dH e:=λe I=>by rw[<-pw,aE Zo Zo]
    clear pw
    have Xm:aa X dY d9=some (.cells (S.ofList [lU,mI, .Z eq.at_, .ptr fS 0] 0 .nil) 4 .own):=by rw[gV _ Zo];exact hf
    have aqY:∀e,P e->aa X dY e=aa X aY e:=λe I=>by have:=bu e I;rw[gV e Zo,ht e Zo,qm e I]
    have kk:bj X aY (a6+1) dY (d9+1+1):=⟨Zo,λe I=>by rw[gV e Zo,ht e Zo];exact eF.ac e I⟩
    refine ci (bJ Xm) ⟨?_⟩
    refine(ako (P:=P) (fl:=d9+1) (fa:=d9+1+1) ax.todv Zo Zo (λa=>by have:=bu _ a;omega) (λe I=>by have:=bu e I;omega) (SizeOf.sizeOf eq.right+1) eq.right (Yg _) MH (.ptr fS 0) dY (d9+1+1) none Zo (Zi _) (cI.ac aqY _ _ ll) ⟨⟨_, .cq,kU,rfl,λ_=>rfl,λJ a=>by cases a⟩⟩).Zm ?_
    rintro ad fY dV ⟨rfl,anB,Qb⟩
    have axA:=Qb.le
    have CC:bj X aY (a6+1) fY dV:=⟨Zo,λe I=>by rw[Qb.ac e Zo (by simp;omega)];exact kk.ac e I⟩
    have hg:aa X fY j=some (.cells (S.ofList [.Z 0, .Z 0] 0 .nil) 2 .own):=by rw[CC.ac _ Zo];exact b2
    have Ct:aa X fY d9=some (.cells (S.ofList [lU,mI, .Z eq.at_, .ptr fS 0] 0 .nil) 4 .own):=by rw[Qb.ac _ Zo Zs];exact Xm
    obtain⟨c,v,ld,mL,Td,Kf⟩:=anB.at_
    have R9:am X fY (.ptr (d9+1) 0)=some v:=by rw[bJ ld];exact mL
    have AT:Dg eq=match lD eq.right none with|(_,some J)=>some J|(d,none)=>if 0<d then some eq.at_ else none:=rfl
    generalize lD eq.right none=dq at*
    obtain⟨xW,avA⟩:=dq
    simp only at Td Kf AT ⊢
    have bad:∀(J:Int) (B2:S ak) (dW:Nat),Dg eq=some J->(∀e,e<j->aa X B2 e=aa X fY e)->dV<=dW->(H.agg [.Z 28, .Z J]= .agg [.Z (qw ap).1, .Z (qw ap).2]/\bj X h j B2 dW):=λJ B2 dW aC aF CW=>by
     have iW:yC ap=some J:=EV kW jR (EV A0 Mq aC)
     rw[iW]at oK
     simp only[]at oK
     rw[oK]
     exact⟨rfl,Zo,λe I=>by rw[aF e I,CC.ac e Zo];exact ca.ac e I⟩
    cases avA with
    |some J=>
     obtain⟨uh,rfl,e3,jw⟩:=Kf J rfl
     have dI:=asr (X:=X) (h:=fY) uh 0
     refine ev @R9 @dI @jw @d3 @hg @BR @D8 ⟨?_⟩
     exact bad J _ _ AT (λe I=>aE aK Zo) (Zi _)
    |none=>
     have bA:=Td rfl
     subst bA
     have AT:Dg eq=if 0<xW then some eq.at_ else none:=AT
     by_cases aH:0<xW
     ·have aD:decide (0<xW)=true:=by simp[aH]
      rw[Zq aH]at AT
      refine ev @R9 @acE @aD (bJ Ct) @d3 @hg (Za @BR @D8) ⟨?_⟩
      exact bad eq.at_ _ _ AT (λe I=>aE aK Zo) (Zi _)
     ·have aD:decide (0<xW)=false:=by simp only[Zb];exact aH
      rw[Zh aH]at AT
      refine f7 @R9 @acE @aD @S3 @cF ⟨?_⟩
      exact⟨ff,Zo,an+1,a1 d3,a1 GP,a1 qy,a1 iN,a1 vF,a1 BN,bn,Zo,by rw[Cs A0 Mq];exact AT,CC⟩
 ·have oK:=A2 az
  clear A2 IR
  have d:decide (cc≠0)=true:=by simp[az]
  rw[oK]
  refine f7 (bJ cQ) @d @b2 @BR @D8 ⟨?_⟩
  exact⟨rfl,⟨Zo,λe I=>by rw[aE aK Zo];exact ca.ac e I⟩⟩
end
end
end Go.Proofs.YtpfajohmofnkfaaGreatDoor

