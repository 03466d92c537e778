/- A part of the proof of the claim's last text: what it is used for is said there; no condition of its own. -/
import Derived.Test.YtpfajohmofnkfaaGreatDoorYq
import Derived.Test.YtpfajohmofnkfaaGreatDoorRows
import Derived.ProofKit
set_option maxHeartbeats 8000000
set_option linter.all false
namespace Go.Proofs.YtpfajohmofnkfaaGreatDoor
open Go.bg Go.a2
noncomputable section
def B8(ap:List Go.a2.Node):Bool:=ap.all λg=>g.eqs.all tD
def M0(s:bx):Bool:=match yQ s with
 | .error _=>true
 | .ok ap=>if (lV ap).1≠0 then true else(decide ((qw ap).1=0)==B8 ap)&&(B8 ap||decide ((qw ap).1=28))
def arr(s:bx):M0 s=true:=by
 unfold M0
 cases a:yQ s with
 |error J=>rfl
 |ok ap=>
  simp only[]
  by_cases Z:(lV ap).1≠0
  ·rw[Zq Z]
  ·rw[Zh Z]
   obtain⟨re,_,_⟩:=ac8 a
   have R:=aqw (bD:=lf) (ap:=ap) (λg b0 an cl=>((re g b0).eqs an cl).right)
   have U:qw ap=match yC ap with|some J=>(28,J)|none=>(0,0):=by unfold qw;rw[Zh Z];rfl
   have ar:yC ap=none↔B8 ap=true:=R
   rw[U]
   cases aM:yC ap with
   |none=>rw[ar.1 aM];rfl
   |some J=>
    have:B8 ap=false:=by
     cases aC:B8 ap with
     |false=>rfl
     |true=>rw[ar.2 aC]at aM;cases aM
    rw[this];rfl
def MN(ok:Bool)(F:bz):Bool×Bool:=(ok&&mm F.kind 0 F.args,true)
mutual
def aen:∀(F:bz) (s:Bool),BS MN s F=(s&&wl F)
 | .mk D J nm no ty n args,s=>by
   rw[BS,wl]
   simp only[MN,ZD]
   rw[aeo args]
   show(s&&mm D 0 args&&qR args)=(s&&(mm D 0 args&&qR args))
   rw[zm]
def aeo:∀(l:List bz) (s:Bool),xt MN s l=(s&&qR l)
 |[],s=>by rw[xt,qR,Yd]
 |F::l,s=>by rw[xt,qR,aen F,aeo l,zm]
end
section
variable{X:ck}{h T aX aJ:S ak}{j ao aL a6:Nat}{P:Nat->Prop}
def ak3(J b c d:Int):jX X h 50 26 (.agg [.Z J, .Z b]) (.agg [.Z c, .Z d])=(match some (ts J c)with|some true=>(match some (ts b d)with|some true=>some true|some false=>some false|none=>none)|some false=>some false|none=>none):=Zk
def ak1(J b:Int):dj X h .eql 26 false (.agg [.Z J, .Z b]) (.agg [.Z J, .Z b])=some (.bool true):=by
 have a:dj X h .eql 26 false (.agg [.Z J, .Z b]) (.agg [.Z J, .Z b])=(match jX X h 50 26 (.agg [.Z J, .Z b]) (.agg [.Z J, .Z b])with|some b=>nL b|none=>none):=Zk
 rw[a,ak3,Bc,Bc]
 simp
structure pR(X:ck)(fG:S ak)(iP cX:Nat)(ok:Bool)(h:S ak)(n:Nat):Prop where
 le:cX<=n
 all:tO X h iP ok
 low:∀e,e<cX->e≠iP->aa X h e=aa X fG e
set_option maxRecDepth 100000 in
def ajm(ax:dv X){iP cX:Nat}{fG:S ak}(q2:(q X).a7<=iP)(l2:iP<cX)(bu:∀e,P e->e<cX/\e≠iP){ok:Bool}{F:bz}{v:H}(gS:pR X fG iP cX ok h j)(re:eS lf F)(bt:cI X h P F v):
 aR X 52 [v, .ptr iP 0] h j (λad T ao=>ad= .bool true/\pR X fG iP cX (ok&&mm F.kind 0 F.args) T ao) (λ_ _ _=>False):=by
 have uQ:=re
 rw[eS.eq]at uQ
 obtain⟨bP,pz⟩:=uQ
 refine c4 (ah8 X) (ax.none _ _ rfl) ?_
 rw[ah9]
 unfold Ve
 obtain⟨b,a8,cL,bk,rfl,ai,a0,_,_,_,_,_,_,_,hA,cz,has⟩:=bt.open
 have r1:=bu b ai
 have ec:=cz.len
 have hp:=cz.many
 have rb:=has.len
 rw[Zp,rb]at ec hp
 have gr:=gS.le
 have aqX:∀{yP:Bool}{aJ:S ak}{a6:Nat},pR X fG iP cX yP aJ a6->∀e,P e->aa X aJ e=aa X h e:=λa e I=>by rw[a.low e (bu e I).1 (bu e I).2,gS.low e (bu e I).1 (bu e I).2]
 refine cM @hA @ec ⟨?_⟩
 refine fD (λm K T aS=>∃(Y:Nat) (yP:Bool),K.g 0=some (.ptr b 0)/\K.g 1=some (.ptr iP 0)/\K.g 10=some a8/\K.g 11=some (.Z (F.args.length:Int))/\K.g 12=some (.Z (Y:Int))/\Y+m=F.args.length/\(ok&&mm F.kind 0 F.args)=(yP&&mm F.kind Y (F.args.drop Y))/\pR X fG iP cX yP T aS)
  F.args.length ⟨0,ok,bn,bn,bn,bn,fN,Zo,rfl,gS⟩ ?_
 rintro m K aJ a6 ⟨Y,yP,t0,t1,jo,jp,ke,bH,e4,nU⟩
 have f2:=nU.le
 cases m with
 |zero=>
  have d:decide ((Y:Int)<(F.args.length:Int))=false:=by simp only[Zb];omega
  rw[ZE Zo,mm,Yd]at e4
  refine eu @ke @jp @d ⟨?_⟩
  exact⟨rfl,by rw[e4];exact nU⟩
 |succ m=>
  have d:decide ((Y:Int)<(F.args.length:Int))=true:=by simp only[Zg];omega
  have bB:aA .add (.Z (Y:Int)) (.Z 1)=some (.Z ((Y+1:Nat):Int)):=by rw[eI Zo Zo];rfl
  obtain⟨x,ag⟩:∃x,F.args[Y]? =some x:=⟨_,Ze Zo⟩
  have aH:F.args.drop Y=x::F.args.drop (Y+1):=by
   obtain⟨ag,I⟩:=Zc.1 ag
   rw[Zr ag,I]
  rw[aH,mm]at e4
  have cw:=aqX nU
  obtain⟨w,my,Df⟩:=has.get Y x ag
  obtain⟨eU,eP,_⟩:=(cz.ac cw).one my
  have rM:am X aJ (.ptr b 0)=some (.Z F.kind):=by rw[cA,cw b ai, <-cA];exact a0
  have lL:=nU.all.rg
  have aqb:=D9 pz (Zj ag)
  have sl:=bP.bZ
  have MZ:∀(v:Bool) (aY:S ak) (ba:Nat),a6<=ba->(∀e,e<a6->aa X aY e=aa X aJ e)->v=(yP&&(!rP F.kind Y||mB x))->∀bw,tO X bw iP v->(∀e,e≠iP->aa X bw e=aa X aY e)->pR X fG iP cX (yP&&(!rP F.kind Y||mB x)) bw ba:=by
   rintro v aY ba wX aF rfl bw LO f1
   exact⟨Zo,LO,λe R U=>by rw[f1 e U,aF e Zo];exact nU.low e R U⟩
  rw[<-zm]at e4
  by_cases aC:rP F.kind Y=true
  ·apply EN
   ·intro d0
    have az:F.kind=5\/(F.kind=21/\Y=1)\/F.kind=6\/F.kind=24\/F.kind=25:=by
     unfold rP at aC
     simp only[YV,Zn,Zg]at aC
     omega
    rcases az with a|⟨a,R⟩|a|a|a
    ·refine ev @ke @jp @jo @t0 @d @eU (Za @eP (Za @rM (Za @jZ @jc))) ⟨?_⟩
     exact d0.out
    ·have Hz:decide ((Y:Int)=1)=true:=by simp[R]
     refine ev @ke @jp @jo @t0 @d @eU (Za @eP (Za @rM (Za @jZ (Za @jc @Hz)))) ⟨?_⟩
     exact d0.out
    ·refine ev @ke @jp @jo @t0 @d @eU (Za @eP (Za @rM (Za @jZ @jc))) ⟨?_⟩
     exact d0.out
    ·refine ev @ke @jp @jo @t0 @d @eU (Za @eP (Za @rM (Za @jZ @jc))) ⟨?_⟩
     exact d0.out
    ·refine ev @ke @jp @jo @t0 @d @eU (Za @eP (Za @rM (Za @jZ @jc))) ⟨?_⟩
     exact d0.out
   ·cases yP with
    |false=>
     refine cM @t1 @lL ⟨?_⟩
     refine nU.all.st q2 (v:=false) λbw cB cu=> ?_
     refine cM @ke @bB ⟨?_⟩
     exact⟨m,Zo,Y+1,_,a1 t0,a1 t1,a1 jo,a1 jp,bn,Zo,e4,MZ false aJ a6 (Zi _) (λ_ _=>rfl) rfl bw cB cu⟩
    |true=>
     refine cM @t1 @lL ⟨?_⟩
     refine(ab2 ax (P:=P) (SizeOf.sizeOf x+1) x (Yg _) aqb w aJ a6 (λe I=>by have:=(bu e I).1;omega) (cI.ac cw _ _ Df)).Zm ?_
     rintro ad aY ba ⟨rfl,ca⟩
     refine ci @t1 ⟨?_⟩
     refine(nU.all.ac (ca.ac iP Zo)).st q2 (v:=mB x) λbw cB cu=> ?_
     refine cM @ke @bB ⟨?_⟩
     exact⟨m,Zo,Y+1,_,a1 t0,a1 t1,a1 jo,a1 jp,bn,Zo,e4,MZ (mB x) aY ba ca.le ca.ac (by rw[aC];simp) bw cB cu⟩
  ·have aC:rP F.kind Y=false:=by simpa using aC
   apply EN
   ·intro d0
    have az:¬F.kind=5/\¬(F.kind=21/\Y=1)/\¬F.kind=6/\¬F.kind=24/\¬F.kind=25:=by
     unfold rP at aC
     simp only[Bool.or_eq_false_iff,YX,Zb]at aC
     omega
    obtain⟨jY,awT,sT,awU,awV⟩:=az
    by_cases LA:F.kind=21
    ·have Hz:decide ((Y:Int)=1)=false:=by simp only[Zb];omega
     refine ev @ke @jp @jo @t0 @d @eU (Za @eP (Za @rM (Za @jZ (Za @jc @Hz)))) ⟨?_⟩
     exact d0.out
    ·refine ev @ke @jp @jo @t0 @d @eU (Za @eP (Za @rM @jc)) ⟨?_⟩
     exact d0.out
   ·cases yP with
    |false=>
     refine cM @t1 @lL ⟨?_⟩
     refine nU.all.st q2 (v:=false) λbw cB cu=> ?_
     refine cM @ke @bB ⟨?_⟩
     exact⟨m,Zo,Y+1,_,a1 t0,a1 t1,a1 jo,a1 jp,bn,Zo,e4,MZ false aJ a6 (Zi _) (λ_ _=>rfl) rfl bw cB cu⟩
    |true=>
     refine cM @t1 @lL ⟨?_⟩
     refine nU.all.st q2 (v:=true) λbw cB cu=> ?_
     refine cM @ke @bB ⟨?_⟩
     exact⟨m,Zo,Y+1,_,a1 t0,a1 t1,a1 jo,a1 jp,bn,Zo,e4,MZ true aJ a6 (Zi _) (λ_ _=>rfl) (by rw[aC];simp) bw cB cu⟩
end
section
variable{X:ck}{h T aX aJ:S ak}{j ao aL a6:Nat}{P:Nat->Prop}
def ake{ol b8:S ak->Nat->Prop}{ph:Prop}(Jr:Tn (∀h n,ol h n->b8 h n)->ph)(SX:∀h n,ol h n->b8 h n):ph:=Jr ⟨SX⟩
def VO{α:Type}{f:α->Bool}{l:List α}{i:Nat}{x:α}(a:l[i]? =some x):(l.take (i+1)).all f=((l.take i).all f&&f x):=by
 rw[ZY,a,List.all_append];simp
set_option maxRecDepth 100000 in
def arq(ax:is X)(eK:G3 X)(f0:v8 X)(Qc:qH X)(Qd:wa X)(ek:BW X)(FK:(q X).g6 50 []=some (.bool true)){a0 bd:H}{o6 s:bx}(aK:(q X).a7<=j)(aB:d8 a0=some (.Z (o6.length:Int)))(aI:s.length<=5000)(ai:∀c∈s,c<256)
 (j7:sG X h 1 a0 none (some (.Z (min (o6.length:Int) 2000))) none=some bd)(qe:d8 bd=some (.Z (s.length:Int)))(CL:∀T aS,bj X h j T aS->As X T bd=some (.str s)):
 aR X 10 [a0] h j (λad T ao=>ad= .bool (M0 s)/\bj X h j T ao) (λ_ _ _=>False):=by
 refine c4 (aeR X) (ax.none _ _ rfl) ?_
 rw[aeS]
 unfold Tx
 refine eu @aB @asb @j7 ⟨?_⟩
 refine(atf ax eK f0 aI ai aK qe CL).Zm ?_
 rintro ad aX aL ⟨C3,bU⟩
 have jB:=bU.le
 unfold M0
 cases AZ:yQ s with
 |error l7=>
  rw[AZ]at C3
  obtain⟨D,J⟩:=l7
  have QK:=atj aI AZ
  have bc:ad= .tuple [.cq, .agg [.Z D, .Z J]]:=C3
  subst bc
  have br:decide (D≠0)=true:=by simp[QK]
  refine ci @br ⟨?_⟩
  refine Cd FK ?_
  refine cH ⟨?_⟩
  exact⟨rfl,Zo,λe I=>by simp(disch:=omega) only[aE];exact bU.ac e I⟩
 |ok ap=>
  rw[AZ]at C3
  obtain⟨v,rfl,AY⟩:=C3
  obtain⟨re,dI,oJ⟩:=ac8 AZ
  obtain⟨b,a8,cL,bC,rfl,κ,fM,cz,j6⟩:=id AY
  have r1:=κ.2
  have br:decide ((0:Int)≠0)=false:=rfl
  refine cM @br @Po ⟨?_⟩
  generalize dE:Go.bg.bm X _ aL _=aJ
  have b2:aa X aJ aL=some (.cells (S.ofList [.Z 0, .Z 0] 0 .nil) 2 .own):=by rw[<-dE,bh Zo];rfl
  have bE:bj X aX aL aJ (aL+1):=⟨Zo,λe I=>by rw[<-dE];simp(disch:=omega) only[aE]⟩
  clear dE
  have m0:∀e,dy j aL e->aa X aJ e=aa X aX e:=λe I=>bE.ac e I.2
  have ape:=AY.ac (bs:=dy j aL) m0 (λ_ a=>a)
  refine(Wj (j:=aL+1) (P:=dy j aL) ax eK.err Qc Qd ek Zo ape (λe I=>⟨by have:=I.1;omega,by have:=I.2;omega⟩) re dI oJ).Zm ?_
  rintro ad aY ba ⟨mv,ca⟩
  obtain⟨vI,rfl⟩:=Wk mv
  clear mv
  have ie:=ca.le
  have cQ:aa X aY aL=some (.cells (S.ofList [.Z 0, .Z 0] 0 .nil) 2 .own):=by rw[ca.ac _ Zo];exact b2
  have AI:bj X aX aL aY ba:=bE.trans ca
  have A2:(lV ap).1≠0->qw ap=lV ap:=λa=>by unfold qw;rw[Zq a]
  generalize FE:lV ap=yW at*
  obtain⟨cc,pW⟩:=yW
  simp only at A2 ⊢
  refine ci @cQ ⟨?_⟩
  generalize fi:Go.bg.bm X aY aL _=bw
  have d1:∃c,aa X bw aL=some (.cells c 2 .own)/\c.get 0=some (.Z cc)/\c.get 1=some (.Z pW):=⟨_,by rw[<-fi,bh Zo];rfl,BR _ _ _,D8 _ _ _⟩
  have ep:∀e,e≠aL->aa X bw e=aa X aY e:=λe I=>by rw[<-fi,aE Zo I]
  clear fi
  obtain⟨t6,d1,Xk,al4⟩:=d1
  have ab4:am X bw (.ptr aL 0)=some (.Z cc):=by rw[bJ d1];exact Xk
  have ab5:b6 X bw 2 (.ptr aL 0)=some (.agg [.Z cc, .Z pW]):=by rw[nv,bJ d1,bJ d1,Xk,ZM,al4];rfl
  have k3:∀e,dy j aL e->aa X bw e=aa X aX e:=λe I=>by have:=I.2;rw[ep e Zo,AI.ac e this]
  have dm:bj X h j bw ba:=⟨Zo,λe I=>by rw[ep e Zo,AI.ac e Zo];exact bU.ac e I⟩
  have apf:=AY.ac (T:=bw) (bs:=dy j aL) k3 (λ_ a=>a)
  by_cases az:cc=0
  ·subst az
   rw[Zh Zs]
   have ec:=cz.len
   have hp:=cz.many
   have kl:=j6.wide
   rw[kl.1]at ec hp
   have OM:am X bw (.ptr b 0)=some a8:=by rw[cA,k3 b κ, <-cA];exact fM
   refine cM @ab4 @br ⟨?_⟩
   generalize kV:Go.bg.bm X _ ba _=bL
   have fA:tO X bL ba true:=⟨_,by rw[<-kV,bh Zo];rfl,rfl⟩
   have dG:∀e,e<ba->aa X bL e=aa X bw e:=λe I=>by rw[<-kV];simp(disch:=omega) only[aE]
   clear kV
   have ajr:am X bL (.ptr b 0)=some a8:=by rw[cA,dG b Zo, <-cA];exact OM
   have LH:pR X bL ba (ba+1) true bL (ba+1):=⟨Zi _,fA,λ_ _ _=>rfl⟩
   have MS:∀{ok:Bool}{T:S ak}{aS:Nat},pR X bL ba (ba+1) ok T aS->∀e,dy j aL e->aa X T e=aa X aX e:=λa e I=>by have:=I.2;rw[a.low e Zo Zo,dG e Zo,k3 e I]
   refine cM @ajr @ec ⟨?_⟩
   refine fD (λm K T aS=>∃(Y:Nat),K.g 3=some (.ptr b 0)/\K.g 4=some (.ptr aL 0)/\K.g 5=some (.ptr ba 0)/\K.g 43=some a8/\K.g 44=some (.Z (ap.length:Int))/\K.g 45=some (.Z (Y:Int))/\Y+m=ap.length/\pR X bL ba (ba+1) ((ap.take Y).all λg=>g.eqs.all tD) T aS)
    ap.length ⟨0,bn,bn,bn,bn,bn,fN,Zo,LH⟩ ?_
   rintro m K cd er ⟨Y,t3,t4,t5,GQ,D2,D3,bH,gT⟩
   have q6:=gT.le
   cases m with
   |zero=>
    have d:decide ((Y:Int)<(ap.length:Int))=false:=by simp only[Zb];omega
    rw[Zy Zo]at gT
    have gT:pR X bL ba (ba+1) (B8 ap) cd er:=gT
    have dU:aa X cd aL=some (.cells t6 2 .own):=by rw[gT.low _ Zo Zo,dG _ Zo];exact d1
    refine gp @D3 @D2 @d @t3 ⟨?_⟩
    refine(Wi (j:=er) (P:=dy j aL) ax eK.err Qc Qd ek Zo (AY.ac (bs:=dy j aL) (MS gT) (λ_ a=>a)) (λe I=>⟨by have:=I.1;omega,by have:=I.2;omega⟩) re dI oJ).Zm ?_
    rintro ad cr d9 ⟨rfl,eF⟩
    have mX:=eF.le
    have eN:aa X cr aL=some (.cells t6 2 .own):=by rw[eF.ac _ Zo];exact dU
    have anK:=gT.all.ac (eF.ac ba Zo)
    generalize w3:qw ap=auf at*
    obtain⟨Rx,ayo⟩:=auf
    simp only
    generalize B8 ap=KG at*
    refine qW @t4 ⟨?_⟩
    generalize nk:Go.bg.bm X cr aL _=dH
    have hf:am X dH (.ptr aL 0)=some (.Z Rx):=by rw[<-nk,bJ (bh Zo)];exact BR _ _ _
    have ht:∀e,e≠aL->aa X dH e=aa X cr e:=λe I=>by rw[<-nk,aE Zo I]
    clear nk
    have ms:=(anK.ac (ht ba Zo)).rg
    have jg:bj X h j dH d9:=⟨Zo,λe I=>by rw[ht e Zo,eF.ac e Zo,gT.low e Zo Zo,dG e Zo];exact dm.ac e I⟩
    generalize υ:decide (Rx=0)=nN
    generalize ψ:decide (Rx=28)=akh
    refine hQ @t4 @hf @υ @t5 @ms @ajI ⟨?_⟩
    cases LV:(nN==KG)with
    |false=>
     refine cH ⟨?_⟩
     exact⟨rfl,jg⟩
    |true=>
     cases KG with
     |true=>
      refine cM @t5 @ms ⟨?_⟩
      refine Cd FK ?_
      refine cH ⟨?_⟩
      exact⟨rfl,jg⟩
     |false=>
      cases akh with
      |true=>
       refine f7 @t5 @ms @t4 @hf @ψ ⟨?_⟩
       refine Cd FK ?_
       refine cH ⟨?_⟩
       exact⟨rfl,jg⟩
      |false=>
       refine f7 @t5 @ms @t4 @hf @ψ ⟨?_⟩
       exact⟨rfl,jg⟩
   |succ m=>
    have d:decide ((Y:Int)<(ap.length:Int))=true:=by simp only[Zg];omega
    have bB:aA .add (.Z (Y:Int)) (.Z 1)=some (.Z ((Y+1:Nat):Int)):=by rw[eI Zo Zo];rfl
    obtain⟨g,kW⟩:∃g,ap[Y]? =some g:=⟨_,Ze Zo⟩
    have uC:=Zj kW
    obtain⟨row,fC,jj⟩:=j6.get Y g kW
    have d2:=cz.gi Y (by rw[kl.1];omega)
    have ig:=(cz.ac (MS gT)).row Zd fC
    have jk:=jj.jD
    obtain⟨dd,dz,kq,eV,cZ,dO,ei,h2,hw,rfl,nW,l5,py,iV,eX⟩:=jj
    have abs:=eX.wide
    have ID:=iV.len
    have QU:=iV.many
    rw[abs.1]at ID QU
    refine hQ @D3 @D2 @GQ @d @d2 @ig ⟨?_⟩
    refine fE (hO (D:=6) (b:=er) (W:=0) (n:=6) (c:=S.ofList [.str [], .Z 0, .aT, .aT, .aT, .aT] 0 .nil) (bh Zo) Zo rfl Zd Zd jk) ?_
    generalize lI:Go.bg.bm X _ er _=cr
    have eN:aa X cr er=some (.cells (S.ofList [.str g.name, .Z g.at_,dd,dz,kq,eV] 0 .nil) 6 .own):=by rw[<-lI,bh Zo];rfl
    have gm:∀e,e<er->aa X cr e=aa X cd e:=λe I=>by rw[<-lI];simp(disch:=omega) only[aE]
    clear lI
    have pu:pR X bL ba (ba+1) ((ap.take Y).all λg=>g.eqs.all tD) cr (er+1):=⟨Zo,gT.all.ac (gm _ Zo),λe R U=>by rw[gm e Zo];exact gT.low e R U⟩
    refine cM (bJ eN) @ID ⟨?_⟩
    refine fD (λm K T aS=>∃(an:Nat),K.g 3=some (.ptr b 0)/\K.g 4=some (.ptr aL 0)/\K.g 5=some (.ptr ba 0)/\K.g 43=some a8/\K.g 44=some (.Z (ap.length:Int))/\K.g 45=some (.Z (Y:Int))/\K.g 50=some eV/\K.g 51=some (.Z (g.eqs.length:Int))/\K.g 52=some (.Z (an:Int))/\an+m=g.eqs.length/\pR X bL ba (ba+1) (((ap.take Y).all λg=>g.eqs.all tD)&&(g.eqs.take an).all tD) T aS)
     g.eqs.length ⟨0,a1 t3,a1 t4,a1 t5,a1 GQ,a1 D2,a1 D3,bn,bn,fN,Zo,by rw[Z1,List.all_nil,Yd];exact pu⟩ ?_
    clear t3 t4 t5 GQ D2 D3
    rintro ff K dH gt ⟨an,t3,t4,t5,GQ,D2,D3,rv,qz,rx,cl,iH⟩
    have yp:=iH.le
    cases ff with
    |zero=>
     have d:decide ((an:Int)<(g.eqs.length:Int))=false:=by simp only[Zb];omega
     rw[show g.eqs.take an=g.eqs from Zy Zo, <-VO (f:=λg:Go.a2.Node=>g.eqs.all tD) kW]at iH
     refine f7 @rx @qz @d @D3 @bB ⟨?_⟩
     exact⟨m,Zo,Y+1,a1 t3,a1 t4,a1 t5,a1 GQ,a1 D2,bn,Zo,iH⟩
    |succ ff=>
     have d:decide ((an:Int)<(g.eqs.length:Int))=true:=by simp only[Zg];omega
     have cF:aA .add (.Z (an:Int)) (.Z 1)=some (.Z ((an+1:Nat):Int)):=by rw[eI Zo Zo];rfl
     obtain⟨eq,A0⟩:∃eq,g.eqs[an]? =some eq:=⟨_,Ze Zo⟩
     obtain⟨auq,FD,sb⟩:=eX.get an eq A0
     have oG:=iV.gi an (by rw[abs.1];omega)
     have IW:=(iV.ac (MS iH)).row Zd FD
     obtain⟨lU,mI,dk,dB,ls,rfl,hE,l6,ll,nr⟩:=sb
     have MH:=((re g uC).eqs eq (Zj A0)).right
     obtain⟨fS,rfl,tk,_⟩:=ll.ptr
     refine hQ @rx @qz @rv @d @oG @IW ⟨?_⟩
     refine fE (hO (D:=4) (b:=gt) (W:=0) (n:=4) (c:=S.ofList [.aT, .aT, .Z 0, .cq] 0 .nil) (bh Zo) Zo rfl Zd Zd nr) ?_
     generalize pw:Go.bg.bm X _ gt _=dY
     have kU:aa X dY gt=some (.cells (S.ofList [lU,mI, .Z eq.at_, .ptr fS 0] 0 .nil) 4 .own):=by rw[<-pw,bh Zo];rfl
     have gV:∀e,e<gt->aa X dY e=aa X dH e:=λe I=>by rw[<-pw];simp(disch:=omega) only[aE]
     clear pw
     generalize e4:(((ap.take Y).all λg=>g.eqs.all tD)&&(g.eqs.take an).all tD)=No at iH
     have CF:pR X bL ba (ba+1) No dY (gt+1):=⟨Zo,iH.all.ac (gV _ Zo),λe R U=>by rw[gV e Zo];exact iH.low e R U⟩
     have CS:=CF.all.rg
     have r6:∀{ok:Bool}{T:S ak}{aS:Nat},pR X bL ba (ba+1) ok T aS->cI X T (dy j aL) eq.right (.ptr fS 0):=λa=>cI.ac (MS a) _ _ ll
     apply ake (ol:=λT aS=>pR X bL ba (ba+1) (No&&mB eq.right) T aS/\aa X T gt=some (.cells (S.ofList [lU,mI, .Z eq.at_, .ptr fS 0] 0 .nil) 4 .own)/\gt<aS)
     ·intro abO
      rcases YO No with bf|bf
      ·rw[bf]at CS
       refine eu @t5 @CS (bJ kU) ⟨?_⟩
       refine(ab2 ax.todv (P:=dy j aL) (SizeOf.sizeOf eq.right+1) eq.right (Yg _) MH (.ptr fS 0) dY (gt+1) (λe I=>by have:=I.2;omega) (r6 CF)).Zm ?_
       rintro ad qM asm ⟨rfl,nS⟩
       have axD:=nS.le
       refine ci @t5 ⟨?_⟩
       refine(CF.all.ac (nS.ac ba Zo)).st Zo (v:=mB eq.right) λfY cB cu=> ?_
       exact abO.out fY asm ⟨⟨Zo,by rw[bf,ze];exact cB,λe R U=>by rw[cu e U,nS.ac e Zo];exact CF.low e R U⟩,by rw[cu gt Zo,nS.ac gt Zo];exact kU,Zo⟩
      ·rw[bf]at CS
       refine cM @t5 @CS ⟨?_⟩
       refine CF.all.st Zo (v:=false) λfY cB cu=> ?_
       exact abO.out fY (gt+1) ⟨⟨CF.le,by rw[bf,Bool.false_and];exact cB,λe R U=>by rw[cu e U];exact CF.low e R U⟩,by rw[cu gt Zo];exact kU,Zo⟩
     rintro fY dV ⟨ni,hg,aaQ⟩
     refine cM (bJ hg) @t5 ⟨?_⟩
     refine(aep ax.todv MN (dy j aL) (λok h n=>pR X bL ba (ba+1) ok h n) fY (λF _=>eS lf F) (λF b a8 cL bk bP _ _ _ i J w aM _=>by rw[eS.eq]at bP;exact D9 bP.2 (Zj aM)) 52 [] [.ptr ba 0]
      (λs F v h ao a bP bt _=>(ajm (P:=dy j aL) ax.todv Zo Zo (λe I=>⟨by have:=I.2;omega,by have:=I.2;omega⟩) a bP bt).mono (λad T aS gb=>⟨gb.1,gb.2,λe I=>by have:=I.2;rw[gb.2.low e Zo Zo,a.low e Zo Zo]⟩) (λ_ _ _ a=>a.elim))
      (SizeOf.sizeOf eq.right+1) eq.right (Yg _) (No&&mB eq.right) (.ptr fS 0) fY dV ni MH (r6 ni) (λ_ _=>rfl)).Zm ?_
     rintro ad B2 dW ⟨rfl,X6,_⟩
     rw[aen,zm,show(mB eq.right&&wl eq.right)=tD eq from rfl, <-e4,zm, <-VO A0]at X6
     refine cM @rx @cF ⟨?_⟩
     exact⟨ff,Zo,an+1,a1 t3,a1 t4,a1 t5,a1 GQ,a1 D2,a1 D3,a1 rv,a1 qz,bn,Zo,X6⟩
  ·have ct:decide (cc≠0)=true:=by simp[az]
   rw[Zq az]
   refine eu @ab4 @ct @ab5 ⟨?_⟩
   refine(Wi (j:=ba+8) (h:=bw) (P:=dy j aL) ax eK.err Qc Qd ek Zo apf (λe I=>⟨by have:=I.1;omega,by have:=I.2;omega⟩) re dI oJ).Zm ?_
   rintro ad bL cb ⟨rfl,dw⟩
   have hV:=dw.le
   rw[A2 az]
   have arf:b6 X bL 2 (.ptr aL 0)=some (.agg [.Z cc, .Z pW]):=by rw[so,dw.ac _ Zo, <-so];exact ab5
   have akO:=ak1 (X:=X) (h:=bL) cc pW
   refine cM @akO @arf ⟨?_⟩
   refine gQ (by simp[H.same,nw,o7]) ?_
   refine cH ⟨?_⟩
   refine Cd FK ?_
   refine cH ⟨?_⟩
   exact⟨rfl,dm.trans (dw.kB Zo)⟩
end
end
end Go.Proofs.YtpfajohmofnkfaaGreatDoor

namespace Go.bg
noncomputable section
open Go.RowKit (Below)
def Tw(l:List H):Prop:=∀v∈l,(∀Q ip,aN Q v=aN ip v)/\∀ae,ch ae v
def Eb(w:World)(v:Value)(bl:Nat)(l:List H):Prop:=
 (v= .slice none 0 0/\l=[])\/∃cE off len cap cn ty fr,v= .slice (some ⟨cE,off,none⟩) len cap/\len<=cap/\l.length=len*bl/\Tw l/\
  (0<l.length->w.heap[cE]? =some (.cells cn ty fr)/\off+l.length<=cn.size/\∀i x,l[i]? =some x->cn[off+i]? =some (aN (λ_=>default) x))
def aeE(C:aW)(J:H)(b bl:Nat)(l:List H):Prop:=
 (J= .aT/\l=[])\/∃len cap,J= .slice b 0 len cap/\len<=cap/\l.length=len*bl/\(0<l.length->aa C .nil b=some (.cells (S.ofList l 0 .nil) l.length .jV))
def xc(l:List H)(G:S ak)(b:Nat):S ak:=if 0<l.length then G.set b (some (.cells (S.ofList l 0 .nil) l.length .jV))else G
def Eb.pl{w:World}{v:Value}{bl:Nat}{l:List H}(a:Eb w v bl l)(b:Nat):∃(J:H) (pl:mj),(∀Q:c6,Q b=pl->aN Q J=v)/\(∀ae:Nat->Prop,ae b->ch ae J)/\
 ((J= .aT/\l=[])\/∃len cap,J= .slice b 0 len cap/\len<=cap/\l.length=len*bl)/\(0<l.length->∀C Q ae,jG C Q ae (.cells (S.ofList l 0 .nil) l.length .jV) pl w):=by
 rcases a with ⟨rfl,rfl⟩|⟨cE,off,len,cap,cn,ty,fr,rfl,R,U,ar,aO⟩
 ·exact⟨.aT,default,λ_ _=>rfl,λ_ _=>trivial, .inl ⟨rfl,rfl⟩,λa=>by simp at a⟩
 ·refine⟨.slice b 0 len cap,⟨cE,off,l.length⟩,λQ dF=>by simp[aN,dF],λae d=>d, .inr ⟨len,cap,rfl,R,U⟩,λa C Q ae=> ?_⟩
  obtain⟨bZ,cw,c0⟩:=aO a
  obtain⟨bT,aM⟩:=fr
  refine⟨cn,ty,bT,aM,bZ,⟨trivial,Zi _,cw⟩,cw,λi x ag=> ?_⟩
  rw[kC]at ag
  have bp:=ar x (Zj ag)
  exact⟨by rw[bp.1 Q (λ_=>default)];exact c0 i x ag,bp.2 ae⟩
section
variable{P:Program}{w:World}
def arp{nm:List (String×Nat)}(iy:Ag P nm){laid:List (String×DataW Unit)}{g6:Nat->List H->Option H}(a:laidMet P laid w){a7:Nat}{os:List (Nat×ak)}(aB:gX P nm laid P.globals.size=(a7,os)){v0:Value}{o6:Nat}{fO:List H}(cj:Eb w v0 o6 fO):
 ∃Q ae a0,de ⟨P,xc fO (m8 os .nil) a7,a7+1,g6,P.globals.size⟩ Q ae .nil (a7+1) w.heap.size w/\rG ⟨P,xc fO (m8 os .nil) a7,a7+1,g6,P.globals.size⟩ Q ae/\ew ae [a0]/\bX Q [a0]=[v0]/\
  aeE ⟨P,xc fO (m8 os .nil) a7,a7+1,g6,P.globals.size⟩ a0 a7 o6 fO:=by
 obtain⟨a0,Gu,d7,j0,t0,kn⟩:=cj.pl a7
 obtain⟨dl,f0,_,ln⟩:=a
 have ct:rF w dl:=λb off ai=>(ln b off ai).1
 obtain⟨bd,cg,f,a3⟩:=acc (C:=⟨P,xc fO (m8 os .nil) a7,a7+1,g6,P.globals.size⟩) iy laid P.globals.size dl rfl f0 ct (λb off ai=>(ln b off ai).2)
 rw[aB]at bd cg a3
 simp only at bd cg a3
 have eK:∀b W,aa ⟨P,xc fO (m8 os .nil) a7,a7+1,g6,P.globals.size⟩ .nil b=some W->((b,W)∈os/\b<a7)\/(b=a7/\0<fO.length/\W= .cells (S.ofList fO 0 .nil) fO.length .jV):=by
  intro b W bf
  unfold aa at bf
  rw[fo]at bf
  split at bf
  ·rename_i ai
   have ai:=lh ai
   unfold xc at bf
   split at bf
   ·rename_i ay
    rw[S.j1]at bf
    split at bf
    ·rename_i F;cases bf;exact .inr ⟨F.symm▸rfl,ay,rfl⟩
    ·rcases SM b W os .nil bf with an|an
     ·exact .inl ⟨an,by have cu:b<P.globals.size\/b<a7:=(cg (b,W) an).2.1;have:P.globals.size<=a7:=bd;omega⟩
     ·simp at an
   ·rcases SM b W os .nil bf with an|an
    ·exact .inl ⟨an,by have cu:b<P.globals.size\/b<a7:=(cg (b,W) an).2.1;have:P.globals.size<=a7:=bd;omega⟩
    ·simp at an
  ·simp at bf
 refine⟨λb=>if b<P.globals.size then⟨b,0,0⟩else if b=a7 then Gu else f b,λb=>b<a7+1,a0,⟨Zi _,λ_ a=>a,λb W bf=> ?_, ?_, ?_, ?_, ?_⟩, ?_, ?_, ?_, ?_⟩
 ·rcases eK b W bf with a|a
  ·omega
  ·omega
 ·intro b W bf _
  rcases eK b W bf with a|⟨rfl,ay,rfl⟩
  ·exact a3 (λb=>if b<P.globals.size then⟨b,0,0⟩else if b=a7 then Gu else f b) (λb=>b<a7+1) (λb R U=>⟨by rw[Zh Zo,Zh Zo],Zo⟩) (λg b0=>⟨by rw[Zq b0],by have:P.globals.size<=a7:=bd;omega⟩) (b,W) a.1
  ·show jG _ _ _ _ (if b<P.globals.size then(⟨b,0,0⟩:mj)else if b=b then Gu else f b) w
   rw[Zh (by have:P.globals.size<=b:=bd;omega),Zq rfl]
   exact kn ay _ _ _
 ·intro b dR W o' _ _ d _ _ ai
  exact absurd d (zn.2 ai)
 ·intro b W ai _ d
  exact absurd d (zn.2 ai)
 ·intro b W bf _
  rcases eK b W bf with a|⟨rfl,ay,rfl⟩
  ·exact(cg (b,W) a.1).2.2 _ _
  ·refine⟨λc n l aB=>(by cases aB),λc n st az i v bA=> ?_⟩
   cases az
   rw[kC]at bA
   exact(Zc.1 bA).1
 ·intro g b0
  have b0:g<P.globals.size:=b0
  exact⟨Zo,by simp[b0],by simp[b0]⟩
 ·exact⟨j0 _ Zo,trivial⟩
 ·simp only[bX]
  rw[d7 _ (by rw[Zh Zo,Zq rfl])]
 ·rcases t0 with a|⟨len,cap,cB,cu,ee⟩
  ·exact .inl a
  ·refine .inr ⟨len,cap,cB,cu,ee,λa=> ?_⟩
   unfold aa xc
   have:Nat.blt a7 (a7+1)=true:=by simp[Nat.blt]
   rw[this,e2,Zq a,S.j1,Zq rfl]
end
end
end Go.bg

namespace Go.Proofs.YtpfajohmofnkfaaGreatDoor
open Go.bg Go.a2
noncomputable section
def nm:List (String×Nat):=[((Tryz.prog.typeName? 3 304).getD "",304)]
def aq:Nat×List (Nat×ak):=gX Tryz.prog nm Rows.initialKnownRow.laid Tryz.prog.globals.size
def Ga:aq.1=22:=Zk
def fh:S ak:=m8 aq.2 .nil
def amL:fh.get 1=some (.cells (S.ofList [.str [45,62], .str [60,60], .str [62,62], .str [60,61], .str [62,61], .str [60,62], .str [40], .str [41], .str [44], .str [59], .str [58], .str [61], .str [60], .str [62], .str [43], .str [45], .str [42]] 0 .nil) 17 .own):=Zk
def E3:fh.get 2=some (.cells (S.ofList [.slice 14 0 18 18] 0 .nil) 1 .own):=Zk
def un:fh.get 3=some (.cells (S.ofList [.map 16] 0 .nil) 1 .own):=Zk
def Cx:fh.get 4=some (.cells (S.ofList [.bool true, .bool false, .int .i64 1] 0 .nil) 3 .own):=Zk
def Ly:fh.get 5=some (.cells (S.ofList [.map 15] 0 .nil) 1 .own):=Zk
def HV:fh.get 6=some (.cells (S.ofList [.iface 304 (.ptr 13 0)] 0 .nil) 1 .own):=Zk
def wG:fh.get 7=some (.cells (S.ofList [.iface 304 (.ptr 12 0)] 0 .nil) 1 .own):=Zk
def ya:fh.get 9=some (.cells (S.ofList [.slice 17 0 2 2, .slice 18 0 1 1, .slice 19 0 6 6, .slice 20 0 2 2, .slice 21 0 1 1] 0 .nil) 5 .own):=Zk
def amM:fh.get 14=some (.cells (S.ofList [.str [110,111,100,101], .str [114,101,116,117,114,110,115], .str [118,97,114], .str [108,101,116], .str [116,101,108], .str [119,104,101,110], .str [110,111,116], .str [111,114], .str [120,111,114], .str [97,110,100], .str [112,114,101], .str [102,98,121], .str [105,102], .str [116,104,101,110], .str [101,108,115,101], .str [109,101,114,103,101], .str [116,114,117,101], .str [102,97,108,115,101]] 0 .nil) 18 .own):=Zk
def amO:fh.get 16=some (.look [(.str [97,110,100], .bool true),(.str [101,108,115,101], .bool true),(.str [102,97,108,115,101], .bool true),(.str [102,98,121], .bool true),(.str [105,102], .bool true),(.str [108,101,116], .bool true),(.str [109,101,114,103,101], .bool true),(.str [110,111,100,101], .bool true),(.str [110,111,116], .bool true),(.str [111,114], .bool true),(.str [112,114,101], .bool true),(.str [114,101,116,117,114,110,115], .bool true),(.str [116,101,108], .bool true),(.str [116,104,101,110], .bool true),(.str [116,114,117,101], .bool true),(.str [118,97,114], .bool true),(.str [119,104,101,110], .bool true),(.str [120,111,114], .bool true)]):=Zk
structure qO(X:ck):Prop where
 a7:X.a7=23
 get:∀b,b<22->X.G.get b=fh.get b
section
variable{X:ck}{h:S ak}
def qO.aa(a:qO X){b:Nat}(ai:b<22):aa X h b=fh.get b:=by
 have F:Nat.blt b (q X).a7=true:=by
  show Nat.blt b X.a7=true
  rw[a.a7];simp[Nat.blt];omega
 unfold Go.bg.aa
 rw[F,e2]
 exact a.get b ai
def qO.rg(a:qO X){b n:Nat}(ai:b<22){c:S H}{st:nE}(b0:fh.get b=some (.cells c n st))(W:Nat):am X h (.ptr b W)=c.get W:=bJ (by rw[a.aa ai];exact b0) W
def al7(a:qO X):BW X:=λh=>by
 rw[so,a.aa Zd,Cx]
 rfl
def al8(a:qO X):lw X:=⟨⟨13,λh=>by rw[a.rg Zd HV];rfl⟩,⟨12,λh=>by rw[a.rg Zd wG];rfl⟩⟩
def amd(a:qO X):Oh X:=⟨λh=>by
 rw[so,a.aa Zd,amL]
 rfl⟩
def arU(w:bx):∀L:List (bx×H),(L.map Prod.fst).Nodup->oZ X h 9 (.str w) (L.map λF=>(H.str F.1,F.2))=some ((L.find? λF=>decide (F.1=w)).map Prod.snd):=by
 intro L
 induction L with
 |nil=>intro _;rfl
 |cons F L al=>
  intro aK
  rw[Yb,List.nodup_cons]at aK
  simp only[Yb,oZ,al aK.2,WT,Dx,zh]
  by_cases a:F.1=w
  ·have cD:w=F.1:=a.symm
   have jR:L.find? (λF=>decide (F.1=w))=none:=by
    rw[zi]
    intro x ag cl
    have:x.1=w:=by simpa using cl
    exact aK.1 (by rw[a, <-this];exact List.mem_map_of_mem ag)
   simp[a,jR]
  ·have cD:¬w=F.1:=λan=>a an.symm
   simp[a,cD]
noncomputable def sA:List bx:=[[97,110,100],[101,108,115,101],[102,97,108,115,101],[102,98,121],[105,102],[108,101,116],[109,101,114,103,101],[110,111,100,101],[110,111,116],[111,114],[112,114,101],[114,101,116,117,114,110,115],[116,101,108],[116,104,101,110],[116,114,117,101],[118,97,114],[119,104,101,110],[120,111,114]]
def adB(s:bx):s∈sA↔s∈vt:=by
 constructor
 ·intro a
  have:∀w∈sA,w∈vt:=by decide
  exact this s a
 ·intro a
  have:∀w∈vt,w∈sA:=by decide
  exact this s a
def at2:((sA.map λs=>(s,H.bool true)).map λF:bx×H=>(H.str F.1,F.2))=[(.str [97,110,100], .bool true),(.str [101,108,115,101], .bool true),(.str [102,97,108,115,101], .bool true),(.str [102,98,121], .bool true),(.str [105,102], .bool true),(.str [108,101,116], .bool true),(.str [109,101,114,103,101], .bool true),(.str [110,111,100,101], .bool true),(.str [110,111,116], .bool true),(.str [111,114], .bool true),(.str [112,114,101], .bool true),(.str [114,101,116,117,114,110,115], .bool true),(.str [116,101,108], .bool true),(.str [116,104,101,110], .bool true),(.str [116,114,117,101], .bool true),(.str [118,97,114], .bool true),(.str [119,104,101,110], .bool true),(.str [120,111,114], .bool true)]:=rfl
def amb(a:qO X):Kt X:=⟨.map 16,λh=>⟨by rw[a.rg Zd un];rfl,λs=>by
 have bB:aa X h 16=_:=(a.aa Zd).trans amO
 rw[<-at2]at bB
 have Ml:((sA.map λs=>(s,H.bool true)).map Prod.fst).Nodup:=by decide
 simp only[ma,bB,Nl,e2,arU s _ Ml]
 have ce:((sA.map λs=>(s,H.bool true)).find? λF=>decide (F.1=s)).map Prod.snd=if s∈sA then some (H.bool true)else none:=by
  by_cases aI:s∈sA
  ·rw[Zq aI]
   generalize sA=L at aI
   induction L with
   |nil=>cases aI
   |cons J L al=>
    rw[Yb,zh]
    by_cases aC:J=s
    ·simp[aC]
    ·simp only[aC,Z8]
     exact al ((Zt.1 aI).resolve_left (λF=>aC F.symm))
  ·rw[Zh aI]
   have:(sA.map λs=>(s,H.bool true)).find? (λF=>decide (F.1=s))=none:=by
    rw[zi]
    intro x ag cl
    obtain⟨e,I,rfl⟩:=ZW.1 ag
    have:e=s:=by simpa using cl
    exact aI (this▸I)
   rw[this];rfl
 rw[ce]
 have:decide (s∈vt)=decide (s∈sA):=by
  by_cases aI:s∈sA
  ·simp[aI,(adB s).1 aI]
  ·have:¬s∈vt:=λan=>aI ((adB s).2 an)
   simp[aI,this]
 rw[this]
 by_cases aI:s∈sA
 ·simp[aI,F8]
 ·simp[aI,F8]⟩⟩
def Gz{P:Nat->Prop}{b D bl n:Nat}{bC:List (List H)}{st:nE}(a:qO X)(ai:b<22)(b0:fh.get b=some (.cells (S.ofList bC.flatten 0 .nil) n st))(aK:n=D*bl)(aF:bC.length=D)(Z:∀r∈bC,r.length=bl)(bp:D<=300000)(bu:P b):d5 X h P b (.slice b 0 D D) bl bC:=
 JR (st:=st) (by rw[a.aa ai,b0,aK]) aF Z bp bu
def ama(a:qO X):qH X:=⟨by rw[a.a7];decide,λh=>⟨14, .slice 14 0 18 18,by rw[a.rg Zd E3];rfl,Gz a Zd amM rfl rfl Zd Zd (by rw[a.a7];decide)⟩⟩
def amQ:fh.get 17=some (.cells (S.ofList ((av 0).map λW=>[H.str W.1, .int .i64 W.2]).flatten 0 .nil) 4 .own):=Zk
def amR:fh.get 18=some (.cells (S.ofList ((av 1).map λW=>[H.str W.1, .int .i64 W.2]).flatten 0 .nil) 2 .own):=Zk
def amS:fh.get 19=some (.cells (S.ofList ((av 2).map λW=>[H.str W.1, .int .i64 W.2]).flatten 0 .nil) 12 .own):=Zk
def amT:fh.get 20=some (.cells (S.ofList ((av 3).map λW=>[H.str W.1, .int .i64 W.2]).flatten 0 .nil) 4 .own):=Zk
def amU:fh.get 21=some (.cells (S.ofList ((av 4).map λW=>[H.str W.1, .int .i64 W.2]).flatten 0 .nil) 2 .own):=Zk
def Kh(D:Nat):∀r∈(av D).map λW=>[H.str W.1, .int .i64 W.2],r.length=2:=by
 intro r Z
 obtain⟨W,_,rfl⟩:=ZW.1 Z
 rfl
set_option maxRecDepth 20000 in
def al9(a:qO X):v8 X:=⟨by rw[a.a7];decide,λh D aF=>by
 have bu:∀b,b<22->b<X.a7:=λb ai=>by rw[a.a7];omega
 match D,aF with
 |0,_=>exact⟨17, .slice 17 0 2 2,by rw[a.rg Zd ya];rfl,Gz (P:=λe=>e<X.a7) (b:=17) (bC:=(av 0).map λW=>[H.str W.1, .int .i64 W.2]) a Zd amQ rfl rfl (Kh 0) Zd (bu 17 Zd)⟩
 |1,_=>exact⟨18, .slice 18 0 1 1,by rw[a.rg Zd ya];rfl,Gz (P:=λe=>e<X.a7) (b:=18) (bC:=(av 1).map λW=>[H.str W.1, .int .i64 W.2]) a Zd amR rfl rfl (Kh 1) Zd (bu 18 Zd)⟩
 |2,_=>exact⟨19, .slice 19 0 6 6,by rw[a.rg Zd ya];rfl,Gz (P:=λe=>e<X.a7) (b:=19) (bC:=(av 2).map λW=>[H.str W.1, .int .i64 W.2]) a Zd amS rfl rfl (Kh 2) Zd (bu 19 Zd)⟩
 |3,_=>exact⟨20, .slice 20 0 2 2,by rw[a.rg Zd ya];rfl,Gz (P:=λe=>e<X.a7) (b:=20) (bC:=(av 3).map λW=>[H.str W.1, .int .i64 W.2]) a Zd amT rfl rfl (Kh 3) Zd (bu 20 Zd)⟩
 |4,_=>exact⟨21, .slice 21 0 1 1,by rw[a.rg Zd ya];rfl,Gz (P:=λe=>e<X.a7) (b:=21) (bC:=(av 4).map λW=>[H.str W.1, .int .i64 W.2]) a Zd amU rfl rfl (Kh 4) Zd (bu 21 Zd)⟩⟩
def ak9(J b:Int):jX X h 20 3 (.int .i64 J) (.int .i64 b)=some (ts J b):=Zk
def asN(J:Int):mR X 20 3 (.int .i64 J)=true:=Zk
def arT(w:Int):∀L:List (Int×H),(L.map Prod.fst).Nodup->oZ X h 3 (.int .i64 w) (L.map λF=>(H.int .i64 F.1,F.2))=some ((L.find? λF=>decide (F.1=w)).map Prod.snd):=by
 intro L
 induction L with
 |nil=>intro _;rfl
 |cons F L al=>
  intro aK
  rw[Yb,List.nodup_cons]at aK
  simp only[Yb,oZ,al aK.2,ak9,Bc,zh]
  by_cases a:F.1=w
  ·have jR:L.find? (λF=>decide (F.1=w))=none:=by
    rw[zi]
    intro x ag cl
    have:x.1=w:=by simpa using cl
    exact aK.1 (by rw[a, <-this];exact List.mem_map_of_mem ag)
   simp[a,jR]
  ·have cD:¬w=F.1:=λan=>a an.symm
   simp[a,cD]
noncomputable def GK:List (Int×(Int×Bool×Bool×Bool)):=[1,2,3,4,5,6,19,20,23,24,25,26].map λD:Int=>(D,(tI D).getD (0,false,false,false))
def amN:fh.get 15=some (.look ((GK.map λF=>(F.1,H.agg (pK F.2))).map λF=>(H.int .i64 F.1,F.2))):=Zk
def auR(D:Int):(GK.find? λF=>decide (F.1=D)).map Prod.snd=tI D:=by
 by_cases aF:D=1\/D=2\/D=3\/D=4\/D=5\/D=6\/D=19\/D=20\/D=23\/D=24\/D=25\/D=26
 ·rcases aF with rfl|rfl|rfl|rfl|rfl|rfl|rfl|rfl|rfl|rfl|rfl|rfl<;>decide
 ·have R:tI D=none:=by
   unfold tI
   rw[Zh Zo,Zh Zo,Zh Zo,Zh Zo,Zh Zo,Zh Zo,Zh Zo,Zh Zo,Zh Zo]
  rw[R]
  have:GK.find? (λF=>decide (F.1=D))=none:=by
   rw[zi]
   intro x ag cl
   have MI:x.1=D:=by simpa using cl
   obtain⟨e,I,rfl⟩:=ZW.1 ag
   simp only at MI
   subst MI
   simp only[Zt,ZH,Yr]at I
   exact aF I
  rw[this];rfl
def amc(a:qO X):wa X:=⟨λh=>⟨.map 15,by rw[a.rg Zd Ly];rfl,λD=>by
 have bB:aa X h 15=_:=(a.aa Zd).trans amN
 have Ml:((GK.map λF=>(F.1,H.agg (pK F.2))).map Prod.fst).Nodup:=by decide
 simp only[ma,bB,asN,e2,arT D _ Ml]
 have ce:((GK.map λF=>(F.1,H.agg (pK F.2))).find? λF=>decide (F.1=D)).map Prod.snd=(tI D).map λs=>H.agg (pK s):=by
  rw[<-auR D,List.find?_map]
  have:((λF:Int×H=>decide (F.1=D))∘λF:Int×(Int×Bool×Bool×Bool)=>(F.1,H.agg (pK F.2)))=λF=>decide (F.1=D):=rfl
  rw[this]
  cases GK.find? (λF=>decide (F.1=D))<;>rfl
 rw[ce]
 cases tI D with
 |none=>rfl
 |some s=>rfl⟩⟩
def ame(a:qO X):G3 X:=⟨al8 a,amb a,amd a⟩
end
end
end Go.Proofs.YtpfajohmofnkfaaGreatDoor

