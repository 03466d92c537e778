/- Part of the proof of the last text; no conditions -/
import Derived.Test.YtpeabpmnlmaabaaGreatDoorYm
set_option maxHeartbeats 8000000
set_option linter.all false
namespace Go.Proofs.YtpeabpmnlmaabaaGreatDoor
open Go.bd Go.aT
noncomputable section
def adL(am:List Go.aT.Node)(t:aY->Option c8)(E:bD):B4 am t E=(match xs am t E.args with
 | .error H=> .error H
 | .ok (ce,one)=>if one=false then .error E.at_ else if (lQ am t E ce).2=false then .error E.at_ else .ok (lQ am t E ce).1):=by
 cases E;rw[B4];rfl
section
variable{X:cl}{h S' aI aM:Q af}{j an aO aZ:Nat}{P eO:Nat->Prop}
def oW.mk'{am:List Go.aT.Node}{t:aY->Option c8}{dP:Nat->Option D}{E:bD}{b cO:Nat}{aS w:D}{br:List D}{row:List eu}(R:P b)(ak:aP X h (.ptr b 8)=some aS)(aA:dL X h P cO aS 1 (br.map λv=>[v]))(bv:B4 am t E= .ok row)(b9:dP b=some w)(dl:w.cells=[w])(eI:nG X h eO w row)(hT:lA X h am t dP P eO E.args br):oW X h am t dP P eO E (.ptr b 0):=by
 cases E
 rw[oW]
 exact⟨b,aS,cO,br,row,w,rfl,R,ak,aA,bv,b9,dl,eI,hT⟩
def lA.snoc{am:List Go.aT.Node}{t:aY->Option c8}{dP:Nat->Option D}{E:bD}{v:D}(z:oW X h am t dP P eO E v):∀{cb:List bD}{br:List D},lA X h am t dP P eO cb br->lA X h am t dP P eO (cb++[E]) (br++[v]):=by
 intro cb
 induction cb with
 |nil=>intro br a;rw[lA]at a;subst a;rw[YD,lA];exact⟨v,[],rfl,z,by rw[lA]⟩
 |cons H cb ai=>
  intro br a
  rw[lA]at a
  obtain⟨kQ,aD1,rfl,R,ak⟩:=a
  rw[YP,lA]
  exact⟨kQ,aD1++[v],rfl,R,ai ak⟩
def aAs:∀{E:bD}{v:D},cE X h P E v->∃b aS cO br,v= .ptr b 0/\P b/\qs X h b/\aP X h (.ptr b 1)=some (.Z E.at_)/\aP X h (.ptr b 8)=some aS/\dL X h P cO aS 1 (br.map λv=>[v])/\dD X h (λe=>P e/\e≠b) E.args br
 | .mk ..,_,a=>by
   unfold cE at a
   obtain⟨b,M,bq,bf,R,ak,aA,bv,b9,dl,eI,hT,aS,cO,br,kX,qB,wd,v6⟩:=a
   exact⟨b,aS,cO,br,M,bq,bf,ak,kX,qB,dD.lift (λe B=>⟨B.1,B.2.1⟩) _ _ v6⟩
structure xf(X:cl)(h:Q af)(fV:Nat)(P:Nat->Prop)(bO aj r:Nat)(b6 p:D)(am:List Go.aT.Node)(t:aY->Option c8):Prop where
 a2:(o X).a2<=fV
 lc:bO<fV
 IZ:aj<fV
 C5:r<fV
 I8:(o X).a2<=r
 Eh:bO≠r
 qr:aj≠r
 bq:∀e,P e->(o X).a2<=e/\e<fV/\e≠r
 KO:∃c,U X h bO=some (.cells c 3 .own)/\c.get 0=some (.ptr aj 0)/\c.get 1=some p/\c.get 2=some b6
 GA:aP X h (.ptr aj 0)=some (.map r)
 w3:i1 X h P b6 t
 prog:oS X h P am p
def xf.qv{fV bO aj r:Nat}{b6 p:D}{am:List Go.aT.Node}{t:aY->Option c8}(a:xf X h fV P bO aj r b6 p am t):G0 X h bO (.ptr aj 0) p b6:=by
 obtain⟨c,aX,M,R,ak⟩:=a.KO
 exact⟨by rw[bc aX];exact M,by rw[bc aX];exact R,by rw[bc aX];exact ak⟩
def xf.aa{fV bO aj r:Nat}{b6 p:D}{am:List Go.aT.Node}{t:aY->Option c8}(a:xf X h fV P bO aj r b6 p am t)(z:∀e,e<fV->e≠r->U X S' e=U X h e):xf X S' fV P bO aj r b6 p am t:=
 have ahE:∀e,P e->U X S' e=U X h e:=λe B=>z e (a.bq e B).2.1 (a.bq e B).2.2
 ⟨a.a2,a.lc,a.IZ,a.C5,a.I8,a.Eh,a.qr,a.bq,by rw[z bO a.lc a.Eh];exact a.KO,zD (z aj a.IZ a.qr) a.GA,a.w3.aa ahE (λ_ a=>a),a.prog.aa ahE (λ_ a=>a)⟩
def xf.fr{fV bO aj r:Nat}{b6 p:D}{am:List Go.aT.Node}{t:aY->Option c8}(a:xf X h fV P bO aj r b6 p am t)(gL:cg X [r] h j S' an)(aE:fV<=j):xf X S' fV P bO aj r b6 p am t:=
 a.aa λe M R=>gL.aa e Zo (by simp[R])
def akO(n:Nat)(X:cl)(h:Q af)(j:Nat)(bw:Nat->Prop)(r:Nat)(am:List Go.aT.Node)(t:aY->Option c8)(dP:Nat->Option D)(bu:Nat->Prop)(E:bD)(v:D):bJ:=λac S' an=>∃row ju,B4 am t E= .ok row/\ac.cells=[ac]/\nG X S' (dr j an) ac row/\nD X S' bw r ju/\(∀e,¬bu e->ju e=dP e)/\oW X S' am t ju bu (dr j an) E v/\cg X [r] h j S' an/\px X S' r (n+Ef E)
def akN(X:cl)(h:Q af)(j r:Nat)(am:List Go.aT.Node)(t:aY->Option c8)(E:bD):bJ:=λac S' an=>∃H,B4 am t E= .error H/\ac=pL 26 H/\cg X [r] h j S' an
set_option maxRecDepth 100000 in
def ar7(au:dj X)(ey:DS X){am:List Go.aT.Node}{t:aY->Option c8}{bO aj r fV:Nat}{p b6:D}(aX:am≠[])(bp:∀g∈am,g.d4.length<=100000/\g.out.length<=100000){bw:Nat->Prop}(xV:∀e,bw e->P e):
 ∀(N:Nat) (E:bD),SizeOf.sizeOf E<N->e5 jl E->∀(bu:Nat->Prop) (v:D) (h:Q af) (j:Nat) (dP:Nat->Option D) (n:Nat),(∀e,bu e->bw e)->fV<=j->xf X h fV P bO aj r b6 p am t->nD X h bw r dP->cE X h bu E v->px X h r n->(∀e,bu e->dP e=none)->
  aU X 56 [.ptr bO 0,v] h j (akO n X h j bw r am t dP bu E v) (akN X h j r am t E):=by
 intro N
 induction N with
 |zero=>intro E a;omega
 |succ N ai=>
  intro E jn wC bu v h j dP n H3 aE bU sy bC Ut qJ
  have gE:∀e,bu e->P e:=λe B=>xV e (H3 e B)
  have agZ:=wC
  rw[e5.eq]at agZ
  obtain⟨bs,t7⟩:=agZ
  refine zz au (ant X) ?_
  rw[anu]
  unfold abe
  obtain⟨b,aS,cO,br,rfl,ag,wA,bb,ip,cB,has⟩:=aAs bC
  have he:=bU.a2
  have bq:=bU.bq
  have om:=bq b (gE b ag)
  have d0:=cB.len
  have rH:=has.len
  rw[Zi,rH]at d0
  have nf:E.args.length<=300000:=by have:=cB.many;rw[Zi,rH]at this;exact this
  refine cI @ip @d0 ⟨?_⟩
  refine fh (λm I S' aN=>∃(S:Nat) (s:D) (cq:List Nat) (nb:List eu) (Jv:Bool) (ju:Nat->Option D) (qt:Nat->Prop),I.g 0=some (.ptr bO 0)/\I.g 1=some (.ptr b 0)/\I.g 5=some s/\I.g 6=some (.bool Jv)/\I.g 15=some aS/\I.g 16=some (.Z (E.args.length:Int))/\I.g 17=some (.Z (S:Int))/\S+m=E.args.length
   /\gk X S' s 3 (qh nb).flatten cq/\(∀e∈cq,j<=e/\e<aN)/\(Jv=true->nb.length=S)/\nb.length<=S
   /\xs am t E.args=(match xs am t (E.args.drop S)with| .error H=> .error H| .ok (ce,one)=> .ok (nb++ce,Jv&&one))
   /\nD X S' bw r ju/\(∀e,¬bu e->ju e=dP e)/\ju b=dP b/\cg X [r] h j S' aN
   /\(∀e,qt e->bu e/\e≠b)/\dD X S' qt (E.args.drop S) (br.drop S)/\lA X S' am t ju (λe=>(bu e/\e≠b)/\¬qt e) (λe=>dr j aN e/\e∉cq) (E.args.take S) (br.take S)/\px X S' r (n+uH (E.args.take S))/\∀e,qt e->ju e=none)
   E.args.length ⟨0, .aV,[],[],true,dP,λe=>bu e/\e≠b,a8,a8,a8,a8,a8,a8,fq,Zo, .inl (.inl ⟨rfl,rfl,rfl⟩),Zs,λ_=>rfl,Zj _,by
    rw[Yb];cases xs am t E.args with
    |error H=>rfl
    |ok x=>obtain⟨ce,one⟩:=x;simp,sy,λ_ _=>rfl,rfl,cg.refl _ _ _,λ_ a=>a,by simpa using has,by rw[Z8,Z8,lA],by rw[Z8,aqI];exact Ut,λe B=>qJ e B.1⟩ ?_
  rintro m I aM aZ ⟨S,s,cq,nb,Jv,Wz,qt,t0,t1,t5,eX,wY,Bg,vm,bE,aD,eC,u3,aE1,nN,ae2,Il,Ve,dx,Av,sB,CJ,ae3,AC⟩
  have fJ:=dx.le
  have bx:=bU.fr dx aE
  have nn:∀e,P e->U X aM e=U X h e:=λe B=>by have:=bq e B;exact dx.aa e Zo (by simp[this.2.2])
  have agp:=wA.aa (nn b (gE b ag))
  cases m with
  |zero=>
   have d:=zt S E.args.length
   have avt:S=E.args.length:=Zo
   rw[ZC Zo,xs]at nN
   simp only[Yt,YO]at nN
   have pe:=adL am t E
   rw[nN]at pe
   simp only[]at pe
   have ao7:aP X aM (.ptr b 1)=some (.Z E.at_):=zD (nn b (gE b ag)) bb
   cases Jv with
   |false=>
    rw[Zr rfl]at pe
    refine hu @vm @Bg @d @eX @t1 @ao7 ⟨?_⟩
    refine(KI au Zo E.at_).mono (λ_ _ _ a=>a) ?_
    rintro ac a1 bi ⟨rfl,ck⟩
    exact⟨_,pe,rfl,dx.trans (cg.of ck)⟩
   |true=>
    rw[Zh Zd]at pe
    have OZ:∀e,(P e\/(j<=e/\e<aZ))->e<aZ:=λe B=>by
     rcases B with a|a
     ·have:=bq e a;omega
     ·exact a.2
    refine d9 @vm @Bg @d @eX @t0 @t1 @t5 ⟨?_⟩
    refine(aBX (P:=λe=>P e\/(j<=e/\e<aZ)) au ey Zo (zs bU.lc) bx.qv (bx.w3.aa (λ_ _=>rfl) (λe a=> .inl a)) (bx.prog.aa (λ_ _=>rfl) (λe a=> .inl a)) aX OZ bp (cE.lift (λe B=> .inl (gE e B)) _ _ (cE.aa (λe B=>nn e (gE e B)) _ _ bC)) bs (u3 rfl▸avt) aD Zo (λe B=> .inr (eC e B))).Zm ?_
    rintro ac a1 bi ⟨w,rfl,nR,LZ,ck⟩
    have iO:=ck.le
    have eh:=dx.trans (cg.of (X:=[r]) ck)
    have aeJ:=bU.fr eh aE
    have jt:∀e,P e->U X a1 e=U X h e:=λe B=>by have:=bq e B;exact eh.aa e Zo (by simp[this.2.2])
    cases hy:(lQ am t E nb).2 with
    |false=>
     rw[Zr hy]at pe
     have NJ:aP X a1 (.ptr b 1)=some (.Z E.at_):=zD (jt b (gE b ag)) bb
     refine cI @t1 @NJ ⟨?_⟩
     refine(KI au Zo E.at_).mono (λ_ _ _ a=>a) ?_
     rintro ac bA cK ⟨rfl,c0⟩
     exact⟨_,pe,rfl,eh.trans (cg.of c0)⟩
    |true=>
     rw[Zh (by rw[hy];decide)]at pe
     have dB:=aeJ.qv.dB
     have GA:=aeJ.GA
     refine fI @t0 @t1 @dB @GA ⟨?_⟩
     have Ci:nD X a1 bw r Wz:=ae2.aa (ck.aa r (zs bU.C5)) (λe B=>ck.aa e (zs (bq e (xV e B))))
     obtain⟨bA,bj,Ur,dJ⟩:=azy (j:=bi) bU.I8 Ci (agp.aa (ck.aa b Zo)) (H3 b ag) om.1 w
     have OW:=azz bU.I8 Ci (ae3.aa (ck.aa r (zs bU.C5))) (agp.aa (ck.aa b Zo)) om.1 (by rw[Ve];exact qJ b ag) bj
     rw[ZA Zo]at OW
     refine kb bj ?_
     refine cx ⟨?_⟩
     have eG:cg X [r] h j bA bi:=⟨eh.le,λe M R=>by rw[dJ e (by simpa using R)];exact eh.aa e M R⟩
     have lm:∀e,P e->U X bA e=U X h e:=λe B=>by have:=bq e B;exact eG.aa e Zo (by simp[this.2.2])
     have aho:∀e,j<=e->e<bi->U X bA e=U X a1 e:=λe M R=>dJ e (zs bU.C5)
     rw[ZA Zo,ZA Zo]at CJ
     have agW:nG X bA (dr j bi) w (lQ am t E nb).1:=LZ.aa (λe B=>aho e (zs B.1) B.2) (λe B=>⟨zs B.1,B.2⟩)
     refine⟨_,_,pe,nR,agW,Ur,λe B=> ?_,oW.mk' ag (zD (lm b (gE b ag)) ip) (cB.aa λe B=>lm e (gE e B)) pe Zs nR agW (lA.aa (λe B=> ?_) (λe B=> ?_) (λe B=> ?_) (λe B=>B.1.1) (λe B=>⟨B.1.1,zs B.1.2⟩) _ _ CJ),eG,by rw[aqH];exact OW⟩
     ·have:e≠b:=λE=>B (E▸ag)
      simp only[this,ZD];exact Il e B
     ·rw[lm e (gE e B.1.1),nn e (gE e B.1.1)]
     ·rw[aho e B.1.1 (zs B.1.2),ck.aa e B.1.2]
     ·simp only[B.1.2,ZD]
  |succ m=>
   have d:=zu S E.args.length
   have bz:=zx S
   obtain⟨H,az⟩:=zv E.args S
   have aF:E.args.drop S=H::E.args.drop (S+1):=by
    obtain⟨ae,B⟩:=Zc.1 az
    rw[Zq ae,B]
   rw[aF]at sB nN
   unfold dD at sB
   obtain⟨w,nz,y,L1,Ck,tN,UT⟩:=sB
   have VX:br[S]? =some w:=by
    have:(br.drop S)[0]? =some w:=by rw[L1];rfl
    simpa using this
   have aw4:nz=br.drop (S+1):=by
    obtain⟨ae,B⟩:=Zc.1 VX
    rw[Zq ae]at L1
    simp only[YL]at L1
    exact L1.2.symm
   subst aw4
   obtain⟨bI,bN,cH⟩:=(cB.aa λe B=>nn e (gE e B)).one VX
   have kI:E.args.take (S+1)=E.args.take S++[H]:=by rw[ZQ,az];rfl
   have Fk:br.take (S+1)=br.take S++[w]:=by rw[ZQ,VX];rfl
   have eT:=Rb (Zl az)
   have rt:∀e,y e->bu e/\e≠b:=λe B=>Av e (Ck e B)
   rw[xs]at nN
   refine d9 @vm @Bg @wY @t0 @d @bI @bN ⟨?_⟩
   refine(ai H Zo (akk t7 (Zl az)) y w aM aZ Wz (n+uH (E.args.take S)) (λe B=>H3 e (rt e B).1) Zo bx ae2 tN ae3 (λe B=>AC e (Ck e B))).mono ?_ (λac S' aN a=>by
    obtain⟨fL,M,R,ak⟩:=a
    rw[M]at nN
    simp only[]at nN
    exact⟨fL,by rw[adL,nN],R,dx.trans ak⟩)
   rintro ac a1 bi ⟨row,WA,e9,ID,LY,Ci,E0,agV,eh,OV⟩
   have iO:=eh.le
   have aeV:=dx.trans eh
   rw[e9]at nN
   simp only[]at nN
   have E2:=bU.C5
   have Qe:∀e,j<=e->e<aZ->U X a1 e=U X aM e:=λe M R=>eh.aa e R Zx
   have jt:∀e,P e->U X a1 e=U X aM e:=λe B=>by have:=bq e B;exact eh.aa e Zo (by simp[this.2.2])
   have O3:WA b=Wz b:=E0 b (λa=>(rt b a).2 rfl)
   have yf:dD X a1 (λe=>qt e/\¬y e) (E.args.drop (S+1)) (br.drop (S+1)):=dD.aa (λe B=>jt e (gE e (Av e B.1).1)) _ _ UT
   by_cases fg:row.length=1
   ·obtain⟨x,rfl⟩:∃x,row=[x]:=by
     match row,fg with
     |[x],_=>exact⟨x,rfl⟩
    obtain⟨cY,sZ,il,gU,i3,i4⟩:=LY.rd.fx 0 x rfl
    have il:gy 3 ac (.Z 0)=some (.ptr cY sZ):=il
    have Vi:gz ac=some (.Z 1):=LY.rd.len
    have ay:decide ((1:Int)≠1)=false:=by decide
    simp only[]at nN
    refine hu @Vi @ay @t5 @il @i3 eD.eq_1 ⟨?_⟩
    generalize eS:Go.bd.bj X a1 bi _=bA
    have dg:U X bA bi=zw (eD x) 3:=by rw[<-eS,a7 Zo];rfl
    have dJ:∀e,e<bi->U X bA e=U X a1 e:=λe B=>by rw[<-eS,aB Zo Zo]
    clear eS
    obtain⟨eJ,bM,gf,ii,Ff,wg,mx⟩:=XS (j:=bi+1) (aD.aa (S':=bA) (λe B=>by have:=eC e B;rw[dJ e Zo,Qe e this.1 this.2])) dg Zo Zo (λe B=>zs (eC e B)) 1
    refine kb ii ?_
    refine cI @vm @bz ⟨?_⟩
    have d7:∀e,e<bi->e∉cq->U X bM e=U X a1 e:=λe M R=>by rw[mx e Zo R,dJ e M]
    have FA:∀e,e<j->e∉cq:=λe M R=>zs (eC e R)
    refine⟨m,Zo,S+1,eJ,gf,nb++[x],Jv,WA,λe=>qt e/\¬y e,aL t0,aL t1,a8,aL eX,aL wY,aL Bg,a8,Zo,Ff,λe B=> ?_,λa=>by have:=u3 a;simp;omega,Zx, ?_, ?_,λe B=> ?_,by rw[O3];exact Ve, ?_,λe B=>Av e B.1, ?_, ?_,by rw[kI,acZ, <-ZK];exact OV.aa (d7 r Zo (FA r Zo)),λe B=>(E0 e B.2).trans (AC e B.1)⟩
    ·rcases wg e B with rfl|a
     ·omega
     ·have:=eC e a;omega
    ·rw[nN]
     cases xs am t (E.args.drop (S+1))with
     |error H=>rfl
     |ok p=>obtain⟨ce,one⟩:=p;simp
    ·exact Ci.aa (d7 r Zo (FA r Zo)) (λe B=>by have:=bq e (xV e B);exact d7 e Zo (FA e Zo))
    ·exact(E0 e (λa=>B (rt e a).1)).trans (Il e B)
    ·exact⟨Zo,λe M R=>by rw[d7 e Zo (FA e M)];exact aeV.aa e M R⟩
    ·exact dD.aa (λe B=>by have:=bq e (gE e (Av e B.1).1);exact d7 e Zo (FA e Zo)) _ _ yf
    ·have auf:∀e,aZ<=e->e<bi->e∉gf:=λe M R a=>by
      rcases wg e a with rfl|a
      ·omega
      ·have:=eC e a;omega
     have aug:∀e,e<aZ->e∉cq->e∉gf:=λe M R a=>by
      rcases wg e a with rfl|a
      ·omega
      ·exact R a
     have axY:∀e,(bu e/\e≠b)/\¬qt e->U X bM e=U X aM e:=λe B=>by
      have:=bq e (gE e B.1.1)
      rw[d7 e Zo (FA e Zo),jt e (gE e B.1.1)]
     have axZ:∀e,dr j aZ e/\e∉cq->U X bM e=U X aM e:=λe B=>by
      have M:=B.1.1;have R:=B.1.2
      rw[d7 e Zo B.2,Qe e M R]
     have ax0:∀e,y e->U X bM e=U X a1 e:=λe B=>by
      have:=bq e (gE e (rt e B).1);exact d7 e Zo (FA e Zo)
     have ax1:∀e,dr aZ bi e->U X bM e=U X a1 e:=λe B=>d7 e B.2 (λa=>by have:=eC e a;have:=B.1;omega)
     rw[kI,Fk]
     exact lA.snoc (oW.aa ax0 ax1 (λ_ _=>rfl) (λe B=>⟨rt e B,λa=>a.2 B⟩) (λe B=>⟨⟨zs B.1,zs B.2⟩,auf e B.1 B.2⟩) H w agV) (lA.aa axY axZ (λe B=>E0 e (λa=>B.2 (Ck e a))) (λe B=>⟨B.1,λa=>B.2 a.1⟩) (λe B=>⟨⟨B.1.1,zs B.1.2⟩,aug e B.1.2 B.2⟩) _ _ CJ)
   ·have Vi:=LY.rd.len
    have ay:decide ((row.length:Int)≠1)=true:=by simp only[Zg];omega
    refine fI @Vi @ay @vm @bz ⟨?_⟩
    refine⟨m,Zo,S+1,s,cq,nb,false,WA,λe=>qt e/\¬y e,aL t0,aL t1,aL t5,a8,aL wY,aL Bg,a8,Zo,aD.aa (λe B=>by have:=eC e B;exact Qe e this.1 this.2),λe B=>zs (eC e B),(λa=>by cases a),Zo, ?_,Ci,λe B=>(E0 e (λa=>B (rt e a).1)).trans (Il e B),by rw[O3];exact Ve,aeV,λe B=>Av e B.1,yf, ?_,by rw[kI,acZ, <-ZK];exact OV,λe B=>(E0 e B.2).trans (AC e B.1)⟩
    ·rw[nN]
     cases xs am t (E.args.drop (S+1))with
     |error H=>rfl
     |ok p=>
      obtain⟨ce,one⟩:=p
      match row,fg with
      |[],_=>simp
      |[_],a=>exact absurd rfl a
      |_::_::_,_=>simp
    ·rw[kI,Fk]
     exact lA.snoc (oW.aa (λ_ _=>rfl) (λ_ _=>rfl) (λ_ _=>rfl) (λe B=>⟨rt e B,λa=>a.2 B⟩) (λe B=>⟨⟨zs B.1,B.2⟩,λa=>by have:=eC e a;have:=B.1;omega⟩) H w agV) (lA.aa (λe B=>jt e (gE e B.1.1)) (λe B=>Qe e B.1.1 B.1.2) (λe B=>E0 e (λa=>B.2 (Ck e a))) (λe B=>⟨B.1,λa=>B.2 a.1⟩) (λe B=>⟨⟨B.1.1,zs B.1.2⟩,B.2⟩) _ _ CJ)
end
def rf:List gt->Nat
 |[]=>0
 |aj::l=>Ef aj.right+rf l
def aqK:∀l ce:List gt,rf (l++ce)=rf l+rf ce:=by
 intro l
 induction l with
 |nil=>intro ce;simp[rf]
 |cons H l ai=>intro ce;rw[YP,rf,rf,ai];omega
def aqL(aj:gt)(l:List gt):rf (l++[aj])=rf l+Ef aj.right:=by rw[aqK];simp[rf]
def KM{α:Type}{f:α->Option Int}{l:List α}{i:Nat}{x:α}(a:l[i]? =some x)(aX:(l.take i).findSome? f=none):(l.take (i+1)).findSome? f=f x:=by
 rw[ZQ,a,List.findSome?_append,aX]
 simp
def Ou{α:Type}{f:α->Option Int}{l:List α}{i:Nat}{x:α}{H:Int}(a:l[i]? =some x)(aX:(l.take i).findSome? f=none)(ae:f x=some H):l.findSome? f=some H:=by
 have E:l=l.take (i+1)++l.drop (i+1):=(List.take_append_drop _ _).symm
 rw[E,List.findSome?_append,KM a aX,ae]
 rfl
section
variable{X:cl}{h S' aI aM:Q af}{j an aO aZ:Nat}{P eO bw:Nat->Prop}
def xp(X:cl)(h:Q af)(am:List Go.aT.Node)(t:aY->Option c8)(dP:Nat->Option D)(P eO:Nat->Prop):List gt->List (List D)->Prop
 |[],bK=>bK=[]
 |aj::c9,bK=>∃row ib v,bK=row::ib/\row[3]? =some v/\xJ am t aj=none/\oW X h am t dP P eO aj.right v/\xp X h am t dP P eO c9 ib
def xp.aa{am:List Go.aT.Node}{t:aY->Option c8}{dP ju:Nat->Option D}{sd sk:Nat->Prop}(z:∀e,P e->U X S' e=U X h e)(ua:∀e,eO e->U X S' e=U X h e)(aC:∀e,P e->ju e=dP e)(aw:∀e,P e->sd e)(B:∀e,eO e->sk e):∀{c9:List gt}{bK:List (List D)},xp X h am t dP P eO c9 bK->xp X S' am t ju sd sk c9 bK:=by
 intro c9
 induction c9 with
 |nil=>intro bK a;exact a
 |cons aj c9 ai=>
  rintro bK ⟨row,ib,v,M,R,ak,aA,bv⟩
  exact⟨row,ib,v,M,R,ak,oW.aa z ua aC aw B _ _ aA,ai bv⟩
def xp.snoc{am:List Go.aT.Node}{t:aY->Option c8}{dP:Nat->Option D}{aj:gt}{row:List D}{v:D}(R:row[3]? =some v)(ak:xJ am t aj=none)(aA:oW X h am t dP P eO aj.right v):∀{c9:List gt}{bK:List (List D)},xp X h am t dP P eO c9 bK->xp X h am t dP P eO (c9++[aj]) (bK++[row]):=by
 intro c9
 induction c9 with
 |nil=>rintro bK rfl;exact⟨row,[],v,rfl,R,ak,aA,rfl⟩
 |cons H c9 ai=>
  rintro bK ⟨uo,ib,w,rfl,ct,c1,dJ,d7⟩
  exact⟨uo,ib++[row],w,rfl,ct,c1,dJ,ai d7⟩
structure G1(X:cl)(h:Q af)(fV:Nat)(P:Nat->Prop)(bO aj r:Nat)(p:D)(am:List Go.aT.Node):Prop where
 a2:(o X).a2<=fV
 lc:bO<fV
 IZ:aj<fV
 C5:r<fV
 I8:(o X).a2<=r
 p7:(o X).a2<=bO
 Eh:bO≠r
 qr:aj≠r
 S1:aj≠bO
 bq:∀e,P e->(o X).a2<=e/\e<fV/\e≠r/\e≠bO
 KO:∃c,U X h bO=some (.cells c 3 .own)/\c.get 0=some (.ptr aj 0)/\c.get 1=some p
 GA:aP X h (.ptr aj 0)=some (.map r)
 prog:oS X h P am p
def G3(X:cl)(h:Q af)(am:List Go.aT.Node)(dP:Nat->Option D)(P eO:Nat->Prop)(g:Go.aT.Node)(row:List D):Prop:=FZ am g=none/\∃c7 dv aS eH bY co cY fM bK,row=[.str g.name, .Z g.at_,c7,dv,aS,eH]/\dL X h P bY c7 8 (g.d4.map d2)/\dL X h P co dv 8 (g.out.map d2)/\dL X h P cY aS 8 (g.loc.map d2)/\dL X h P fM eH 4 bK/\pv X h P g.eqs bK/\xp X h am (ec g) dP P eO g.eqs bK
structure akM(n:Nat)(X:cl)(fi:Q af)(j bi:Nat)(bw bu:Nat->Prop)(r:Nat)(am:List Go.aT.Node)(t:aY->Option c8)(dP:Nat->Option D)(eqs:List gt)(bK:List (List D))(S:Nat)(S':Q af)(aN:Nat):Prop where
 none_:(eqs.take S).findSome? (xJ am t)=none
 fr:cg X [r] fi bi S' aN
 at_:∃ju qt,nD X S' bw r ju/\(∀e,¬bu e->ju e=dP e)/\(∀e,qt e->bu e)/\pv X S' qt (eqs.drop S) (bK.drop S)/\xp X S' am t ju (λe=>bu e/\¬qt e) (dr j aN) (eqs.take S) (bK.take S)/\px X S' r (n+rf (eqs.take S))/\∀e,qt e->ju e=none
set_option maxRecDepth 100000 in
def azW(au:dj X)(ey:DS X){am:List Go.aT.Node}{bO MP r fV:Nat}{p:D}(aX:am≠[])(bp:∀g∈am,g.d4.length<=100000/\g.out.length<=100000)(xV:∀e,bw e->P e){bu:Nat->Prop}(H3:∀e,bu e->bw e)(aE:fV<=j)(bU:G1 X h fV P bO MP r p am){dP:Nat->Option D}(sy:nD X h bw r dP){n:Nat}(Ut:px X h r n)(qJ:∀e,bu e->dP e=none)
 {g:Go.aT.Node}{row:List D}(b2:oR X h bu g row)(ru:∀aj∈g.eqs,e5 jl aj.right)(pU:(gD g).length<=300000):
 aU X 31 [.ptr bO 0, .agg row] h j (λac S' an=>ac= .tuple []/\(∃c,U X S' bO=some (.cells c 3 .own)/\c.get 0=some (.ptr MP 0)/\c.get 1=some p)/\∃ju,nD X S' bw r ju/\(∀e,¬bu e->ju e=dP e)/\G3 X S' am ju bu (dr j an) g row/\cg X [r,bO] h j S' an/\px X S' r (n+rf g.eqs))
  (λac S' an=>∃H,FZ am g=some H/\ac=pL 26 H/\cg X [r,bO] h j S' an):=by
 refine zz au (amE X) ?_
 rw[amF]
 unfold aaO
 have he:=bU.a2
 have bq:=bU.bq
 have E2:=bU.C5;have Vb:=bU.lc;have Vg:=bU.IZ
 have qF:∀e,bu e->P e:=λe B=>xV e (H3 e B)
 have Ls:=b2
 obtain⟨c7,dv,aS,eH,bY,co,cY,fM,bK,rfl,k1,ko,ov,jo,e8⟩:=b2
 have awH:=(kt k1.len).1
 have awL:=(kt ko.len).1
 have g2:=(kt ov.len).1
 have aF7:=(kt jo.len).1
 refine pG ?_
 generalize c6:Go.bd.bj X h j _=aI
 have bI:U X aI j=zw [.str g.name, .Z g.at_,c7,dv,aS,eH] 6:=by rw[<-c6,a7 Zo];rfl
 have bH:ba X h j aI (j+1):=by rw[<-c6];exact dz
 clear c6
 refine cd (bc bI) ⟨?_⟩
 have bQ:∀e,P e->U X aI e=U X h e:=λe B=>bH.aa e (zs (bq e B))
 refine(QG (j:=j+1) (h:=aI) au Zo (λe B=>zs (bq e (qF e B))) (Ls.aa (bu:=bu) (λe B=>bQ e (qF e B)) (λ_ a=>a)) pU).Zm ?_
 rintro ac aM aZ ⟨b6,k3,Bf,Hm,rfl,Fj,CI,tH,sF,_,_,bx⟩
 have fJ:=bx.le
 have hv:=bH.trans bx
 obtain⟨c,aec,aed,aee⟩:=bU.KO
 have kl:U X aM bO=some (.cells c 3 .own):=by rw[hv.aa bO Zo];exact aec
 have PC:=bU.p7
 refine pN ⟨?_⟩
 generalize fl:Go.bd.bj X aM bO _=a1
 have as4:∃fS,U X a1 bO=some (.cells fS 3 .own)/\fS.get 0=some (.ptr MP 0)/\fS.get 1=some p/\fS.get 2=some (.ptr b6 0):=⟨dS c 2 [.ptr b6 0],by rw[<-fl,a7 PC];rfl,by rw[r1,Q.kW];exact aed,by rw[r1,Q.kW];exact aee,yL c 2 _⟩
 have c1:∀e,e≠bO->U X a1 e=U X aM e:=λe B=>by rw[<-fl,aB PC B]
 clear fl kl
 have CS:∀e,e<j->e≠bO->U X a1 e=U X h e:=λe M R=>by rw[c1 e R,hv.aa e M]
 have jt:∀e,P e->U X a1 e=U X h e:=λe B=>by have:=bq e B;exact CS e Zo Zo
 have eh:cg X [r,bO] h j a1 aZ:=⟨Zo,λe M R=>CS e M (by simp at R;exact R.2)⟩
 have agU:i1 X a1 (λe=>P e\/dr (j+1) aZ e) (.ptr b6 0) (ec g):=⟨b6,k3,rfl, .inr Fj, .inr CI,zD (c1 b6 (zs Fj.1)) tH,sF.aa (c1 k3 (zs CI.1))⟩
 have Ar:xf X a1 aZ (λe=>P e\/dr (j+1) aZ e) bO MP r (.ptr b6 0) p am (ec g):=⟨Zo,Zo,Zo,Zo,bU.I8,bU.Eh,bU.qr,λe B=>by
  rcases B with a|a
  ·have:=bq e a;exact⟨this.1,Zo,this.2.2.1⟩
  ·have M:=a.1;have R:=a.2;exact⟨Zo,R,Zo⟩,as4,zD (CS MP Zo bU.S1) bU.GA,agU,bU.prog.aa jt (λ_ a=> .inl a)⟩
 have xM:U X a1 j=zw [.str g.name, .Z g.at_,c7,dv,aS,eH] 6:=by rw[c1 j Zo,bx.aa j Zo];exact bI
 have Ci:nD X a1 bw r dP:=sy.aa (CS r Zo (λE=>bU.Eh E.symm)) (λe B=>jt e (xV e B))
 have OV:px X a1 r n:=Ut.aa (CS r Zo (λE=>bU.Eh E.symm))
 generalize P0:ec g=t at*
 have Ip:FZ am g=(match N4 t g with|some H=>some H|none=>g.eqs.findSome? (xJ am t)):=by unfold FZ;rw[P0];rfl
 clear bH bx hv bQ sF tH agU bI aec aed aee
 have auE:e6 [.aV, .aV, .aV] [(0,1,c7),(1,1,dv),(2,1,aS)]=some (.agg [c7,dv,aS]):=by
  simp[e6,uM,uN,n3,awH,awL,g2]
 refine oj (bc xM) ⟨?_⟩
 refine f8 auE ?_
 refine iR (λI S' aN=>I.g 0=some (.ptr bO 0)/\I.g 3=some (.ptr j 0)/\N4 t g=none/\ba X a1 aZ S' aN) (λS bE=> ?_) ?_
 ·have Iz:∀z,z<3->∃s b,([c7,dv,aS]:List D)[z]? =some s/\dL X h bu b s 8 ((m3 g z).map d2):=λz aJ=>by
   match z,aJ with
   |0,_=>exact⟨c7,bY,rfl,k1⟩
   |1,_=>exact⟨dv,co,rfl,ko⟩
   |2,_=>exact⟨aS,cY,rfl,ov⟩
  refine fh (λm I S' aN=>∃(z:Nat),I.g 0=some (.ptr bO 0)/\I.g 3=some (.ptr j 0)/\I.g 25=some (.agg [c7,dv,aS])/\I.g 26=some (.Z (z:Int))/\z+m=3/\((gD g).take (oE g z)).findSome? (λx=>if x.2.on≠[]/\(qa t x.2.on).b=false then some x.2.et else none)=none/\ba X a1 aZ S' aN)
   3 ⟨0,a8,a8,a8,fq,Zo,by simp[oE],ba.refl _ _⟩ ?_
  rintro m I bA cK ⟨z,t0,t3,m5,lT,aJ,l6,c0⟩
  have iF:=c0.le
  cases m with
  |zero=>
   have d:decide ((z:Int)<3)=false:=by simp only[Zb];omega
   have mP:z=3:=Zo
   subst mP
   rw[<-Ep,Y0]at l6
   refine cI @lT @d ⟨?_⟩
   exact bE _ _ _ ⟨aL t0,aL t3,l6,c0⟩
  |succ m=>
   have d:decide ((z:Int)<3)=true:=by simp only[Zg];omega
   obtain⟨eJ,dM,tY,CA⟩:=Iz z Zo
   have Pn:va false 3 1 (.agg [c7,dv,aS]) (.Z (z:Int))=some eJ:=by
    have ak:Nat.blt z 3=true:=by simp[Nat.blt];omega
    simp only[va,sT,ak,fo,lD,qT,Z1]
    exact tY
   have af5:=CA.len
   have avL:=CA.many
   rw[Zi]at af5 avL
   refine fO @lT @m5 @d @Pn @af5 ⟨?_⟩
   refine fh (λm I S' aN=>∃(i:Nat),I.g 0=some (.ptr bO 0)/\I.g 3=some (.ptr j 0)/\I.g 25=some (.agg [c7,dv,aS])/\I.g 26=some (.Z (z:Int))/\I.g 29=some eJ/\I.g 30=some (.Z ((m3 g z).length:Int))/\I.g 31=some (.Z (i:Int))/\i+m=(m3 g z).length/\((gD g).take (oE g z+i)).findSome? (λx=>if x.2.on≠[]/\(qa t x.2.on).b=false then some x.2.et else none)=none/\ba X a1 aZ S' aN)
    (m3 g z).length ⟨0,aL t0,aL t3,aL m5,aL lT,a8,a8,fq,Zo,l6,c0⟩ ?_
   clear t0 t3 m5 lT l6
   rintro gj I bM bX ⟨i,t0,t3,m5,lT,Gy,Dv,Rh,aG,l6,dC⟩
   have ik:=dC.le
   cases gj with
   |zero=>
    have d:=zt i (m3 g z).length
    have bz:=zx z
    refine fO @Rh @Dv @lT @d @bz ⟨?_⟩
    refine⟨m,Zo,z+1,aL t0,aL t3,aL m5,a8,Zo, ?_,dC⟩
    rw[aiA g Zo]
    have:i=(m3 g z).length:=Zo
    rw[<-this]
    exact l6
   |succ gj=>
    have d:=zu i (m3 g z).length
    have bz:=zx i
    obtain⟨ay,aF⟩:=zv (m3 g z) i
    have tT:=CA.fx i (by rw[Zi];omega)
    have ax2:∀e,bu e->U X bM e=U X h e:=λe B=>by have:=bq e (qF e B);rw[dC.aa e Zo,jt e (qF e B)]
    have agF:=(CA.aa ax2).row (i:=i) (r:=d2 ay) Zd (by rw[Zu,aF];rfl)
    have iE:d2 ay=[.str ay.name, .Z ay.at_, .bool ay.ty.b, .bool ay.ty.s, .Z ay.ty.w, .str ay.on, .Z ay.et, .bool ay.no]:=rfl
    rw[iE]at agF
    have UZ:=adv g (z:=z) Zo aF
    have aE0:=Ar.fr (cg.of (X:=[r]) dC) (Zj _)
    refine hu @Rh @Dv @Gy @d @tT @agF ⟨?_⟩
    generalize f9:Go.bd.bj X _ bX _=bZ
    have dZ:U X bZ bX=zw [.str ay.name, .Z ay.at_, .bool ay.ty.b, .bool ay.ty.s, .Z ay.ty.w, .str ay.on, .Z ay.et, .bool ay.no] 8:=by rw[<-f9,a7 Zo];rfl
    have c3:∀e,e<bX->U X bZ e=U X bM e:=λe B=>by rw[<-f9];exact zy
    clear f9
    have el:ba X a1 aZ bZ (bX+1):=⟨Zo,λe B=>by rw[c3 e Zo];exact dC.aa e B⟩
    have aeL:=Ar.fr (cg.of (X:=[r]) el) (Zj _)
    by_cases jX:ay.on=[]
    ·have cy:∀i:Decidable (ay.on≠[]), @decide (ay.on≠[]) i=false:=λi=>by simp[jX]
     refine cd (bc dZ) ⟨?_⟩
     simp only[cy]
     refine cI @Rh @bz ⟨?_⟩
     refine⟨gj,Zo,i+1,aL t0,aL t3,aL m5,aL lT,aL Gy,aL Dv,a8,Zo, ?_,el.more Zo⟩
     rw[<-ZK,KM UZ l6]
     simp[jX]
    ·have cy:∀i:Decidable (ay.on≠[]), @decide (ay.on≠[]) i=true:=λi=>by simp[jX]
     refine cd (bc dZ) ⟨?_⟩
     simp only[cy]
     refine cI @t0 (bc dZ) ⟨?_⟩
     refine(MF (j:=bX+1) (P:=λe=>P e\/dr (j+1) aZ e) au Zo Zo aeL.qv.dN aeL.w3 (λe B=>zs (Ar.bq e B).2.1) ay.on).Zm ?_
     rintro ac ci dV ⟨rfl,ez⟩
     have nj:=ez.le
     have OP:=el.trans (ez.j9 Zo)
     have d8:U X ci bX=zw [.str ay.name, .Z ay.at_, .bool ay.ty.b, .bool ay.ty.s, .Z ay.ty.w, .str ay.on, .Z ay.et, .bool ay.no] 8:=by rw[ez.aa bX Zo];exact dZ
     cases ag:(qa t ay.on).b with
     |true=>
      refine fI @Ow @ag @Rh @bz ⟨?_⟩
      refine⟨gj,Zo,i+1,aL t0,aL t3,aL m5,aL lT,aL Gy,aL Dv,a8,Zo, ?_,OP⟩
      rw[<-ZK,KM UZ l6]
      simp[ag]
     |false=>
      refine dI @Ow @ag (bc d8) ⟨?_⟩
      refine(KI au Zo ay.et).mono (λ_ _ _ a=>a) ?_
      rintro ac dk hH ⟨rfl,gK⟩
      have auP:N4 t g=some ay.et:=Ou UZ l6 (by simp[jX,ag])
      exact⟨ay.et,by rw[Ip,auP],rfl,eh.trans (cg.of (OP.trans gK))⟩
 ·rintro I bA cK ⟨t0,t3,pR,c0⟩
  have iF:=c0.le
  have eG:cg X [r,bO] h j bA cK:=eh.trans (cg.of c0)
  have Uh:=Ar.fr (cg.of (X:=[r]) c0) (Zj _)
  have asI:U X bA j=zw [.str g.name, .Z g.at_,c7,dv,aS,eH] 6:=by rw[c0.aa j Zo];exact xM
  have lm:∀e,P e->U X bA e=U X h e:=λe B=>by have:=bq e B;rw[c0.aa e Zo,jt e B]
  have Ur:nD X bA bw r dP:=Ci.aa (c0.aa r Zo) (λe B=>by have:=bq e (xV e B);exact c0.aa e Zo)
  have OW:px X bA r n:=OV.aa (c0.aa r Zo)
  have au6:pv X bA bu g.eqs bK:=e8.aa (λe B=>lm e (qF e B)) (λ_ a=>a)
  have j6:=e8.wide
  have d0:=jo.len
  have hU:=jo.many
  rw[j6.1]at d0 hU
  rw[pR]at Ip
  simp only[]at Ip
  clear Ci xM jt bU sy Ls
  show cw _ _
  refine dI @t3 (bc asI) @d0 ⟨?_⟩
  refine fh (λm I S' aN=>∃(S:Nat),I.g 0=some (.ptr bO 0)/\I.g 52=some eH/\I.g 53=some (.Z (g.eqs.length:Int))/\I.g 54=some (.Z (S:Int))/\S+m=g.eqs.length/\akM n X bA j cK bw bu r am t dP g.eqs bK S S' aN)
   g.eqs.length ⟨0,aL t0,a8,a8,fq,Zo,⟨rfl,cg.refl _ _ _,dP,bu,Ur,λ_ _=>rfl,λ_ a=>a,by simpa using au6,by rw[Z8,Z8];rfl,by rw[Z8];exact OW,qJ⟩⟩ ?_
  clear t0 t3
  rintro m I bM bX ⟨S,t0,yF,q2,kO,bE,gw⟩
  have dH:=gw.fr
  have ik:=dH.le
  have at0:=Uh.fr dH Zo
  obtain⟨WB,qt,K6,af4,Av,sB,CJ,EL,Lr⟩:=gw.at_
  have l6:=gw.none_
  clear gw
  cases m with
  |zero=>
   have d:=zt S g.eqs.length
   rw[ZA Zo]at l6 EL
   rw[ZA Zo,ZA Zo]at CJ
   refine dI @q2 @kO @d ⟨?_⟩
   have sw:cg X [r,bO] h j bM bX:=eG.trans (dH.down (Zj _) (λb ag=> .inl (by simp at ag;simp[ag])))
   have Mh:∀e,bu e->U X bM e=U X h e:=λe B=>by have:=bq e (qF e B);exact sw.aa e Zo (by simp;exact⟨this.2.2.1,this.2.2.2⟩)
   obtain⟨kB,z0,f5,fK,_⟩:=at0.KO
   exact⟨rfl,⟨kB,z0,f5,fK⟩,WB,K6,af4,⟨by rw[Ip];exact l6,c7,dv,aS,eH,bY,co,cY,fM,bK,rfl,k1.aa Mh,ko.aa Mh,ov.aa Mh,jo.aa Mh,e8.aa Mh (λ_ a=>a),by rw[P0];exact CJ.aa (λ_ _=>rfl) (λ_ _=>rfl) (λ_ _=>rfl) (λe B=>B.1) (λ_ a=>a)⟩,sw,EL⟩
  |succ m=>
   have d:=zu S g.eqs.length
   have bz:=zx S
   obtain⟨aj,b0⟩:=zv g.eqs S
   have aF:g.eqs.drop S=aj::g.eqs.drop (S+1):=by
    obtain⟨ae,B⟩:=Zc.1 b0
    rw[Zq ae,B]
   rw[aF]at sB
   obtain⟨row,ib,y,cB,Ck,tW,UT⟩:=sB
   have Fc:bK[S]? =some row:=by
    have:(bK.drop S)[0]? =some row:=by rw[cB];rfl
    simpa using this
   have CA:ib=bK.drop (S+1):=by
    obtain⟨ae,B⟩:=Zc.1 Fc
    rw[Zq ae]at cB
    simp only[YL]at cB
    exact cB.2.symm
   subst CA
   obtain⟨qY,s0,cX,dN,kc,rfl,iv,nQ,pf,rE⟩:=id tW
   obtain⟨jT,rfl,Ln,pS⟩:=pf.ptr
   have rt:∀e,y e->bu e:=λe B=>Av e (Ck e B)
   have Cj:∀e,P e->e<cK/\e≠r:=λe B=>by have:=bq e B;exact⟨Zo,this.2.2.1⟩
   have vb:∀e,P e->U X bM e=U X h e:=λe B=>by have:=Cj e B;rw[dH.aa e this.1 (by simp[this.2]),lm e B]
   have dp:=jo.fx S (by rw[j6.1];omega)
   have hz:=(jo.aa (λe B=>vb e (qF e B))).row Zd Fc
   have kI:g.eqs.take (S+1)=g.eqs.take S++[aj]:=by rw[ZQ,b0];rfl
   have yg:bK.take (S+1)=bK.take S++[[qY,s0, .Z aj.at_, .ptr jT 0]]:=by rw[ZQ,Fc];rfl
   refine hu @kO @q2 @yF @d @dp @hz ⟨?_⟩
   refine f8 (iH (z:=4) (b:=bX) (W:=0) (n:=4) (a7 Zo) Zo rfl Zd Zd rE) ?_
   generalize f9:Go.bd.bj X _ bX _=bZ
   have dZ:U X bZ bX=zw [qY,s0, .Z aj.at_, .ptr jT 0] 4:=by rw[<-f9,a7 Zo];rfl
   have c3:∀e,e<bX->U X bZ e=U X bM e:=λe B=>by rw[<-f9];exact zy
   clear f9
   have eB:cg X [r] bA cK bZ (bX+1):=⟨Zo,λe M R=>by rw[c3 e Zo];exact dH.aa e M R⟩
   have at1:=Uh.fr eB Zo
   have Us:nD X bZ bw r WB:=K6.aa (c3 r Zo) (λe B=>by have:=Cj e (xV e B);exact c3 e Zo)
   have au7:cE X bZ y aj.right (.ptr jT 0):=cE.aa (λe B=>by have:=Cj e (qF e (rt e B));exact c3 e Zo) _ _ pf
   refine cI @t0 (bc dZ) ⟨?_⟩
   refine(ar7 (bw:=bw) (P:=λe=>P e\/dr (j+1) aZ e) (fV:=aZ) au ey aX bp (λe B=> .inl (xV e B)) (SizeOf.sizeOf aj.right+1) aj.right (Yi _) (ru aj (Zl b0)) y (.ptr jT 0) bZ (bX+1) WB (n+rf (g.eqs.take S)) (λe B=>H3 e (rt e B)) Zo at1 Us au7 (EL.aa (c3 r Zo)) (λe B=>Lr e (Ck e B))).mono ?_ ?_
   ·rintro ac ci dV ⟨eM,WC,jV,ID,LY,H1,Im,awW,er,OX⟩
    have nj:=er.le
    have aeX:cg X [r] bA cK ci dV:=eB.trans (er.down Zo (λb ag=> .inl ag))
    have at2:=Uh.fr aeX Zo
    have d8:U X ci bX=zw [qY,s0, .Z aj.at_, .ptr jT 0] 4:=by rw[er.aa bX Zo Zx];exact dZ
    have af6:=iv.len
    have avM:=iv.many
    simp only[e3,Zi]at af6 avM
    have ax3:∀e,bu e->U X ci e=U X bM e:=λe B=>by have:=Cj e (qF e B);rw[er.aa e Zo (by simp[this.2]),c3 e Zo]
    refine cI (bc d8) @af6 ⟨?_⟩
    refine fh (λm I S' aN=>∃(i:Nat) (s:D) (cq:List Nat),I.g 0=some (.ptr bO 0)/\I.g 9=some (.ptr bX 0)/\I.g 10=some ac/\I.g 11=some s/\I.g 52=some eH/\I.g 53=some (.Z (g.eqs.length:Int))/\I.g 54=some (.Z (S:Int))/\I.g 63=some qY/\I.g 64=some (.Z (aj.left.length:Int))/\I.g 65=some (.Z (i:Int))/\i+m=aj.left.length/\gk X S' s 3 (qh ((aj.left.take i).map (qa t))).flatten cq/\(∀e∈cq,dV<=e/\e<aN)/\ba X ci dV S' aN)
     aj.left.length ⟨0, .aV,[],aL t0,a8,a8,a8,aL yF,aL q2,aL kO,a8,a8,fq,Zo, .inl (.inl ⟨rfl,rfl,rfl⟩),Zs,ba.refl _ _⟩ ?_
    clear t0 yF q2 kO
    rintro gj I dk hH ⟨i,s,cq,t0,t9,t10,t11,yF,q2,kO,Dw,vo,t65,aG,aD,eC,gK⟩
    have x8:=gK.le
    have aeP:=at2.fr (cg.of (X:=[r]) gK) Zo
    have fH:U X dk bX=zw [qY,s0, .Z aj.at_, .ptr jT 0] 4:=by rw[gK.aa bX Zo];exact d8
    have Wc:∀e,bu e->U X dk e=U X bM e:=λe B=>by have:=Cj e (qF e B);rw[gK.aa e Zo,ax3 e B]
    cases gj with
    |zero=>
     have d:=zt i aj.left.length
     rw[ZA Zo]at aD
     obtain⟨aqi,bs⟩:=aD.qZ (P:=λe=>e<hH) Zd (Nb _) (by simp[qh];omega) (λe B=>(eC e B).2)
     have rI:nG X dk (λe=>e<hH) s (aj.left.map (qa t)):=⟨aqi,bs⟩
     have t7:=rI.rd.len
     rw[Zi]at t7
     have Fl:nG X dk (λe=>e<hH) ac eM:=LY.aa (λe B=>gK.aa e B.2) (λe B=>zs B.2)
     have sE:aP X dk (.ptr jT 0)=some (.Z aj.right.kind):=zD (Wc jT (rt jT Ln)) pS
     have g0:cg X [r] bA cK dk hH:=aeX.trans (cg.of (gK.j9 Zo))
     have UQ:xJ am t aj=if (1<aj.left.length/\aj.right.kind≠25)\/eM≠aj.left.map (qa t)then some aj.at_ else none:=by unfold xJ;rw[jV]
     have fin:∀{dt:Q af}{fc:Nat},cg X [r] bA cK dt fc->xJ am t aj=some aj.at_->FZ am g=some aj.at_/\cg X [r,bO] h j dt fc:=λhw bC=>⟨by rw[Ip];exact Ou b0 l6 bC,eG.trans (hw.down (Zj _) (λb ag=> .inl (by simp at ag;simp[ag])))⟩
     by_cases lk:1<aj.left.length/\aj.right.kind≠25
     ·have Ab:decide ((aj.left.length:Int)>1)=true:=by simp only[Zg];omega
      have Aa:decide (aj.right.kind≠25)=true:=by simp[lk.2]
      refine d9 @t65 @vo @d @t11 @t7 @Ab (Za @t9 (Za (bc fH) (Za @sE @Aa))) ⟨?_⟩
      refine(KI au Zo aj.at_).mono (λ_ _ _ a=>a) ?_
      rintro ac dt fc ⟨rfl,gT⟩
      obtain⟨eR,fk⟩:=fin (g0.trans (cg.of gT)) (by rw[UQ,Zr (.inl lk)])
      exact⟨_,eR,rfl,fk⟩
     ·apply N3
      ·intro ej
       by_cases pT:1<aj.left.length
       ·have Ab:decide ((aj.left.length:Int)>1)=true:=by simp only[Zg];omega
        have Aa:decide (aj.right.kind≠25)=false:=by simp only[Zb];exact λa=>lk ⟨pT,a⟩
        refine d9 @t65 @vo @d @t11 @t7 @Ab (Za @t9 (Za (bc fH) (Za @sE @Aa))) ⟨?_⟩
        exact ej.out
       ·have Ab:decide ((aj.left.length:Int)>1)=false:=by simp only[Zb];omega
        refine hu @t65 @vo @d @t11 @t7 @Ab ⟨?_⟩
        exact ej.out
      ·refine cI @t10 @t11 ⟨?_⟩
       refine(adG (P:=λe=>e<hH) au Zo Fl rI (λe a=>a)).Zm ?_
       rintro Bl dt fc ⟨rfl,gT⟩
       have pc:=gT.le
       have hw:cg X [r] bA cK dt fc:=g0.trans (cg.of gT)
       by_cases O0:eM=aj.left.map (qa t)
       ·have Tb:decide (eM=aj.left.map (qa t))=true:=by simp[O0]
        have afo:xJ am t aj=none:=by rw[UQ,Zh];exact λa=>a.elim lk (λa=>a O0)
        refine dI @Tb @kO @bz ⟨?_⟩
        have HW:=gK.trans gT
        have ahn:∀e,bu e->U X dt e=U X bM e:=λe B=>by have:=Cj e (qF e B);rw[gT.aa e Zo,Wc e B]
        refine⟨m,Zo,S+1,aL t0,aL yF,aL q2,a8,Zo,⟨by rw[KM b0 l6];exact afo,hw,WC,λe=>qt e/\¬y e,H1.aa (HW.aa r Zo) (λe B=>by have:=Cj e (xV e B);exact HW.aa e Zo),λe B=>(Im e (λa=>B (rt e a))).trans (af4 e B),λe B=>Av e B.1,UT.aa (λe B=>ahn e (Av e B.1)) (λ_ a=>a), ?_,by rw[kI,aqL, <-ZK];exact OX.aa (HW.aa r Zo),λe B=>(Im e B.2).trans (Lr e B.1)⟩⟩
        rw[kI,yg]
        refine xp.snoc (v:= .ptr jT 0) rfl afo (oW.aa (λe B=>by have:=Cj e (qF e (rt e B));exact HW.aa e Zo) (λe B=>HW.aa e B.2) (λ_ _=>rfl) (λe B=>⟨rt e B,λa=>a.2 B⟩) (λe B=>⟨zs B.1,zs B.2⟩) _ _ awW) (CJ.aa (λe B=>ahn e B.1) (λe B=> ?_) (λe B=>Im e (λa=>B.2 (Ck e a))) (λe B=>⟨B.1,λa=>B.2 a.1⟩) (λe B=>⟨B.1,zs B.2⟩))
        have M:=B.1;have R:=B.2
        rw[HW.aa e Zo,er.aa e Zo Zx,c3 e R]
       ·have Tb:decide (eM=aj.left.map (qa t))=false:=by simp[O0]
        have lH:U X dt bX=zw [qY,s0, .Z aj.at_, .ptr jT 0] 4:=by rw[gT.aa bX Zo];exact fH
        refine dI @Tb @t9 (bc lH) ⟨?_⟩
        refine(KI au Zo aj.at_).mono (λ_ _ _ a=>a) ?_
        rintro ac fR dT ⟨rfl,kY⟩
        obtain⟨eR,fk⟩:=fin (hw.trans (cg.of kY)) (by rw[UQ,Zr (.inr O0)])
        exact⟨_,eR,rfl,fk⟩
    |succ gj=>
     have d:=zu i aj.left.length
     have cF:=zx i
     obtain⟨w,bs⟩:=zv aj.left i
     have CL:=iv.fx i (by simp[e3];omega)
     have Fm:=(iv.aa (λe B=>Wc e (rt e B))).cell i [.str w] 0 (.str w) (by simp[e3,bs]) rfl
     rw[Z1]at CL Fm
     rw[ZR]at Fm
     have AN:aj.left.take (i+1)=aj.left.take i++[w]:=by rw[ZQ,bs];rfl
     refine d9 @t65 @vo @Dw @d @CL @Fm (Za @t11 @t0) ⟨?_⟩
     refine(MF (j:=hH) (P:=λe=>P e\/dr (j+1) aZ e) au Zo Zo aeP.qv.dN aeP.w3 (λe B=>zs (Ar.bq e B).2.1) w).Zm ?_
     rintro Bl dt fc ⟨rfl,gT⟩
     have pc:=gT.le
     refine cd eD.eq_1 ⟨?_⟩
     generalize o8:Go.bd.bj X dt fc _=fR
     have f1:U X fR fc=zw (eD (qa t w)) 3:=by rw[<-o8,a7 Zo];rfl
     have kq:∀e,e<fc->U X fR e=U X dt e:=λe B=>by rw[<-o8,aB Zo Zo]
     clear o8
     obtain⟨eJ,mh,gf,ii,LU,auD,wq⟩:=XS (j:=fc+1) (aD.aa (S':=fR) (λe B=>by have:=eC e B;rw[kq e Zo,gT.aa e this.2])) f1 (by rw[Zi,YZ];omega) Zo (λe B=>zs (eC e B)) 1
     refine kb ii ?_
     refine cI @t65 @cF ⟨?_⟩
     refine⟨gj,Zo,i+1,eJ,gf,aL t0,aL t9,aL t10,a8,aL yF,aL q2,aL kO,aL Dw,aL vo,a8,Zo, ?_,λe B=> ?_,⟨Zo,λe B=> ?_⟩⟩
     ·rw[AN,ZX];exact LU
     ·rcases auD e B with rfl|a
      ·omega
      ·have:=eC e a;omega
     ·rw[wq e Zo (λa=>zs (eC e a)),kq e Zo,gT.aa e Zo];exact gK.aa e B
   ·rintro ac ci dV ⟨H,az,rfl,er⟩
    exact⟨H,by rw[Ip];exact Ou b0 l6 (by unfold xJ;rw[az]),rfl,eG.trans ((eB.trans er).down (Zj _) (λb ag=> .inl (by simp at ag;simp[ag])))⟩
end
section
variable{X:cl}{h S' aI aM:Q af}{j an aO aZ:Nat}{P eO:Nat->Prop}
def WG(p:D):mj X h 31 p=aP X h p:=Zk
def acM:∃fn c,(o X).P.funcs[30]? =some fn/\fn.body=some c:=Ox (R8 X)
def aBt(au:dj X){H b:D}{bu:Bool->Q af->Nat->Prop}(a:bu false h j):uK X (.func 30) ([]++[H,b]) none h j bu:=by
 refine⟨au.none _ _ rfl,acM,Oy (R8 X) ?_⟩
 show Ak X 30 [H,b] none h j bu
 rw[aaN]
 unfold R7
 show bk _ _
 refine cd @adE ⟨?_⟩
 exact a
def aBu(au:dj X){H b:Nat}{z at_:Int}{cX dN:Q D}{bu:Bool->Q af->Nat->Prop}(aE:(o X).a2<=H)(lL:(o X).a2<=b)(uX:H≠b)(EP:H<j)(x1:b<j)(f1:U X h H=some (.cells cX 1 .own))(kC:U X h b=some (.cells dN 2 .own))
 (a:∀S' aN,j<=aN->aP X S' (.ptr H 0)=some .cJ->cG X S' 2 (.ptr b 0)=some (.agg [.Z z, .Z at_])->(∀e,e<j->e≠H->e≠b->U X S' e=U X h e)->bu true S' aN):uK X (.func 30) ([]++[.ptr H 0, .ptr b 0]) (some (pL z at_)) h j bu:=by
 refine⟨au.none _ _ rfl,acM,Oy (R8 X) ?_⟩
 show Ak X 30 [.ptr H 0, .ptr b 0] (some (pL z at_)) h j bu
 rw[aaN]
 unfold R7
 show bk _ _
 have Sw:Hk 26 (.agg [.Z 0, .Z 0]) true (pL z at_)=some (.tuple [.agg [.Z z, .Z at_], .zT]):=y5 _ _ _
 have Gh:∀(I:cV) (n:Nat),(Ra I).g n=I.g n:=λ_ _=>rfl
 refine dI @adC @Sw @Gh ⟨?_⟩
 generalize c6:bj X _ j _=aI
 have bI:U X aI j=zw [.Z z, .Z at_] 2:=by rw[<-c6,a7 Zo];rfl
 have M:∀e,e<j->U X aI e=U X h e:=λe B=>by rw[<-c6];exact zy
 rw[<-M H EP]at f1
 rw[<-M b x1]at kC
 clear c6
 refine cI (bc bI) @Gh ⟨?_⟩
 refine f4 (by simp[D.same,lO,oI]) ?_
 generalize d3:bj X aI H _=aM
 have bN:U X aM H=some (.cells (dS cX 0 [.cJ]) 1 .own):=by rw[<-d3,a7 aE];rfl
 have R:∀e,e≠H->U X aM e=U X aI e:=λe B=>by rw[<-d3,aB aE B]
 rw[<-R b Zo]at kC
 clear d3
 refine tB @Gh ⟨?_⟩
 refine f8 (iH (z:=2) (b:=b) (W:=0) (n:=2) kC lL rfl Zd Zd rfl) ?_
 show bu true _ _
 refine a _ _ Zo ?_ ?_ (λe B V0 gG=> ?_)
 ·rw[bc (by rw[aB lL uX];exact bN),gQ];rfl
 ·rw[iG,bc (a7 lL),bc (a7 lL),gQ,gQ];rfl
 ·rw[aB lL gG,R e V0,M e B]
def aBI{ah:bJ}{I:cV}{p aj v w:D}(mO:I.bh=[])(R:I.g 2=some p)(ak:I.g 3=some aj)(eo:aP X h p=some v)(cR:cG X h 2 aj=some w)(a:ah (.tuple [v,w]) h j):Jq X ah I h j:=by
 unfold Jq
 rw[mO]
 show cw (I.g 2) (λp=>ap (mj X h 31 p) λv=>cw (I.g 3) λp=>ap (mj X h 26 p) λw=>ah (.tuple [v,w]) h j)
 rw[R,ak]
 refine m0 ?_
 rw[WG,eo]
 refine oF ?_
 refine m0 ?_
 rw[IX,cR]
 exact oF a
def aBJ{ah:bJ}{I:cV}{p aj v w H b:D}(au:dj X)(mO:I.bh=[⟨.fn (.func 30) [H,b],[]⟩])(R:I.g 2=some p)(ak:I.g 3=some aj)(eo:aP X h p=some v)(cR:cG X h 2 aj=some w)(a:ah (.tuple [v,w]) h j):Jq X ah I h j:=by
 unfold Jq
 rw[mO]
 show uK X (.func 30) ([]++[H,b]) none h j λ_ h j=>n0 X [.cell 2 31, .cell 3 26] ah I [] h j
 refine aBt au ?_
 show cw (I.g 2) (λp=>ap (mj X h 31 p) λv=>cw (I.g 3) λp=>ap (mj X h 26 p) λw=>ah (.tuple [v,w]) h j)
 rw[R,ak]
 refine m0 ?_
 rw[WG,eo]
 refine oF ?_
 refine m0 ?_
 rw[IX,cR]
 exact oF a
def aAI{ah av:bJ}{I:cV}{H b:Nat}{z at_:Int}{cX dN:Q D}(au:dj X)(mO:I.bh=[⟨.fn (.func 30) [.ptr H 0, .ptr b 0],[]⟩])(R:I.g 2=some (.ptr H 0))(ak:I.g 3=some (.ptr b 0))
 (aE:(o X).a2<=H)(lL:(o X).a2<=b)(uX:H≠b)(EP:H<j)(x1:b<j)(f1:U X h H=some (.cells cX 1 .own))(kC:U X h b=some (.cells dN 2 .own))
 (a:∀S' aN,j<=aN->(∀e,e<j->e≠H->e≠b->U X S' e=U X h e)->ah (.tuple [.cJ, .agg [.Z z, .Z at_]]) S' aN):QQ X ah av I (pL z at_) h j:=by
 unfold QQ
 rw[mO]
 show uK X (.func 30) ([]++[.ptr H 0, .ptr b 0]) (some (pL z at_)) h j λb h j=>bW b (n0 X [.cell 2 31, .cell 3 26] ah I [] h j) _
 refine aBu au aE lL uX EP x1 f1 kC (λS' aN gn eo cR aJ=> ?_)
 show cw (I.g 2) (λp=>ap (mj X S' 31 p) λv=>cw (I.g 3) λp=>ap (mj X S' 26 p) λw=>ah (.tuple [v,w]) S' aN)
 rw[R,ak]
 refine m0 ?_
 rw[WG,eo]
 refine oF ?_
 refine m0 ?_
 rw[IX,cR]
 exact oF (a S' aN gn aJ)
def G3.aa{am:List Go.aT.Node}{dP ju:Nat->Option D}{sd sk:Nat->Prop}{g:Go.aT.Node}{row:List D}(a:G3 X h am dP P eO g row)(z:∀e,P e->U X S' e=U X h e)(ua:∀e,eO e->U X S' e=U X h e)(aC:∀e,P e->ju e=dP e)(aw:∀e,P e->sd e)(B:∀e,eO e->sk e):G3 X S' am ju sd sk g row:=by
 obtain⟨aX,c7,dv,aS,eH,bY,co,cY,fM,bK,M,R,ak,aA,bv,b9,dl⟩:=a
 exact⟨aX,c7,dv,aS,eH,bY,co,cY,fM,bK,M,(R.aa z).lift aw,(ak.aa z).lift aw,(aA.aa z).lift aw,(bv.aa z).lift aw,b9.aa z aw,dl.aa z ua aC aw B⟩
def xk(X:cl)(h:Q af)(am:List Go.aT.Node)(dP:Nat->Option D)(P eO:Nat->Prop):List Go.aT.Node->List (List D)->Prop
 |[],bK=>bK=[]
 |g::l,bK=>∃row ib,bK=row::ib/\G3 X h am dP P eO g row/\xk X h am dP P eO l ib
def xk.aa{am:List Go.aT.Node}{dP ju:Nat->Option D}{sd sk:Nat->Prop}(z:∀e,P e->U X S' e=U X h e)(ua:∀e,eO e->U X S' e=U X h e)(aC:∀e,P e->ju e=dP e)(aw:∀e,P e->sd e)(B:∀e,eO e->sk e):∀{l:List Go.aT.Node}{bK:List (List D)},xk X h am dP P eO l bK->xk X S' am ju sd sk l bK:=by
 intro l
 induction l with
 |nil=>intro bK a;exact a
 |cons g l ai=>
  rintro bK ⟨row,ib,M,R,ak⟩
  exact⟨row,ib,M,R.aa z ua aC aw B,ai ak⟩
def xk.snoc{am:List Go.aT.Node}{dP:Nat->Option D}{g:Go.aT.Node}{row:List D}(a:G3 X h am dP P eO g row):∀{l:List Go.aT.Node}{bK:List (List D)},xk X h am dP P eO l bK->xk X h am dP P eO (l++[g]) (bK++[row]):=by
 intro l
 induction l with
 |nil=>rintro bK rfl;exact⟨row,[],rfl,a,rfl⟩
 |cons H l ai=>
  rintro bK ⟨uo,ib,rfl,R,ak⟩
  exact⟨uo,ib++[row],rfl,R,ai ak⟩
def akS(X:cl)(h:Q af)(am:List Go.aT.Node)(dP:Nat->Option D)(P eO:Nat->Prop)(p:D):Prop:=∃b aS cO bK,p= .ptr b 0/\P b/\aP X h (.ptr b 0)=some aS/\dL X h P cO aS 6 bK/\xk X h am dP P eO am bK
def k7(am:List Go.aT.Node):Int×Int:=if (re am).1≠0 then re am else match JE am with|some H=>(26,H)|none=>(0,0)
def BU:List Go.aT.Node->Nat
 |[]=>0
 |g::l=>rf g.eqs+BU l
def aqJ(g:Go.aT.Node):∀l:List Go.aT.Node,BU (l++[g])=BU l+rf g.eqs:=by
 intro l
 induction l with
 |nil=>simp[BU]
 |cons H l ai=>rw[YP,BU,BU,ai];omega
def ao3(X:cl)(h:Q af)(am:List Go.aT.Node)(P eO:Nat->Prop)(p v:D):Prop:=∃aj r dP,v= .ptr aj 0/\eO aj/\eO r/\aP X h (.ptr aj 0)=some (.map r)/\nD X h P r dP/\akS X h am dP P eO p/\px X h r (BU am)
def DP(X:cl)(h:Q af)(am:List Go.aT.Node)(P eO:Nat->Prop)(p ac:D):Prop:=if (k7 am).1=0 then ∃v,ac= .tuple [v, .agg [.Z 0, .Z 0]]/\ao3 X h am P eO p v else ac= .tuple [.cJ, .agg [.Z (k7 am).1, .Z (k7 am).2]]
def G1.aa{fV bO aj r:Nat}{p:D}{am:List Go.aT.Node}(a:G1 X h fV P bO aj r p am)(z:∀e,e<fV->e≠r->e≠bO->U X S' e=U X h e)(b2:∃c,U X S' bO=some (.cells c 3 .own)/\c.get 0=some (.ptr aj 0)/\c.get 1=some p):G1 X S' fV P bO aj r p am:=
 ⟨a.a2,a.lc,a.IZ,a.C5,a.I8,a.p7,a.Eh,a.qr,a.S1,a.bq,b2,zD (z aj a.IZ a.qr a.S1) a.GA,a.prog.aa (λe B=>by have:=a.bq e B;exact z e this.2.1 this.2.2.1 this.2.2.2) (λ_ a=>a)⟩
set_option maxRecDepth 100000 in
def acX(au:iY X)(bU:mf X)(d6:sc X)(iN:xi X)(ey:DS X){am:List Go.aT.Node}{p:D}(aE:(o X).a2<=j)(b2:oS X h P am p)(bq:∀e,P e->(o X).a2<=e/\e<j)(bs:∀g∈am,oa jl g)(aX:am≠[])(aC:qR am=none):
 aU X 9 [p] h j (λac S' an=>DP X S' am P (dr j an) p ac/\ba X h j S' an) (λ_ _ _=>False):=by
 refine Kn (aoS X) (au.todj.none _ _ rfl) ?_
 rw[aoT]
 unfold abR
 obtain⟨pT,mQ⟩:=Mr aC
 refine cx ⟨?_⟩
 refine eN (λaI=>U X aI j=zw [.cJ] 1/\U X aI (j+1)=zw [.Z 0, .Z 0] 2/\ba X h j aI (j+1+1)) ⟨by simp(disch:=omega) only[aB,a7]<;>rfl,by rw[a7 Zo];rfl,dz⟩ ?_
 rintro aI ⟨bI,bN,bH⟩
 refine(aqA (j:=j+1+1) au bU d6 iN Zo (b2.aa (bu:=P) (λe B=>bH.aa e (bq e B).2) (λ_ a=>a)) (λe B=>zs (bq e B).2) bs aX aC).Zm ?_
 rintro ac aM aZ ⟨rfl,bx⟩
 have fJ:=bx.le
 have cH:U X aM j=zw [.cJ] 1:=by rw[bx.aa _ Zo];exact bI
 have dg:U X aM (j+1)=zw [.Z 0, .Z 0] 2:=by rw[bx.aa _ Zo];exact bN
 have hv:=bH.trans bx
 clear bI bN bH bx
 have k2:(re am).1≠0->k7 am=re am:=λa=>by unfold k7;rw[Zr a]
 have LP:(re am).1=0->k7 am=match JE am with|some H=>(26,H)|none=>(0,0):=λa=>by unfold k7;rw[Zh (by simp[a])]
 generalize re am=qv at k2 LP ⊢
 obtain⟨cc,o1⟩:=qv
 simp only at k2 LP
 by_cases ax:cc=0
 ·have CD:=LP ax
  subst ax
  clear k2 LP
  have d:decide ((0:Int)≠0)=false:=rfl
  refine cd @d ⟨?_⟩
  generalize fl:Go.bd.bj X _ aZ _=a1
  have c1:∀e,e<aZ->U X a1 e=U X aM e:=λe B=>by rw[<-fl];exact zy
  clear fl
  rw[<-c1 j Zo]at cH
  rw[<-c1 (j+1) Zo]at dg
  have CS:∀e,e<j->U X a1 e=U X h e:=λe B=>by rw[c1 e Zo];exact hv.aa e B
  have UX:=b2.aa (S':=a1) (bu:=P) (λe B=>CS e (bq e B).2) (λ_ a=>a)
  obtain⟨jv,Jk,QR,bK,rfl,om,a0,cB,kG⟩:=UX
  have PF:=kG.wide
  have d0:=cB.len
  have hU:=cB.many
  rw[PF.1]at d0 hU
  have LJ:=bq jv om
  refine adh ?_
  generalize dA:A7 _ _=vG
  have la:vG.bh=[⟨.fn (.func 30) [.ptr j 0, .ptr (j+1) 0],[]⟩]:=by rw[<-dA];rfl
  have t0:vG.g 0=some (.ptr jv 0):=by rw[<-dA];rfl
  have eK:vG.g 2=some (.ptr j 0):=by rw[<-dA];rfl
  have t3:vG.g 3=some (.ptr (j+1) 0):=by rw[<-dA];rfl
  clear dA
  generalize wx:aZ+1=bi at*
  refine fO @t0 @eK @cH @a0 @d0 ⟨?_⟩
  generalize eS:Go.bd.bj X _ (bi+1+1) _=bA
  have vX:U X bA bi=some (.map [] 0):=by rw[<-eS];simp(disch:=omega) only[a7,aB]
  have KS:U X bA (bi+1)=zw [.map bi] 1:=by rw[<-eS];simp(disch:=omega) only[a7,aB]<;>rfl
  have aef:U X bA (bi+1+1)=zw [.ptr (bi+1) 0, .ptr jv 0, .cJ] 3:=by rw[<-eS,a7 Zo];rfl
  have atj:U X bA j=some (.cells (dS (Q.ofList [.cJ] 0 .nil) 0 [.ptr (bi+1) 0]) 1 .own):=by rw[<-eS];simp(disch:=omega) only[a7,aB]<;>rfl
  have dJ:∀e,e<bi->e≠j->U X bA e=U X a1 e:=λe M R=>by rw[<-eS];exact zy
  clear eS
  have ati:U X bA (j+1)=zw [.Z 0, .Z 0] 2:=by rw[dJ _ Zo Zo];exact dg
  have lm:∀e,P e->U X bA e=U X a1 e:=λe B=>by have:=bq e B;exact dJ e Zo Zo
  have agj:=kG.aa (S':=bA) (bu:=P) lm (λ_ a=>a)
  have atW:G1 X bA (bi+1+1+1) P (bi+1+1) (bi+1) bi (.ptr jv 0) am:=⟨Zo,Zo,Zo,Zo,Zo,Zo,Zo,Zo,Zo,λe B=>by have:=bq e B;exact⟨this.1,Zo,Zo,Zo⟩,⟨_,aef,rfl,rfl⟩,by rw[bc KS];rfl,⟨jv,Jk,QR,bK,rfl,om,zD (lm jv om) a0,cB.aa lm,agj⟩⟩
  have auc:nD X bA P bi (λ_=>none):=⟨[],0,vX,λ_=>rfl,Zs⟩
  have aue:px X bA bi 0:=⟨[],0,vX,rfl⟩
  refine fh (λm I S' aN=>∃(S:Nat) (dP:Nat->Option D) (G5:Nat->Prop),I.g 5=some (.ptr (bi+1+1) 0)/\I.g 25=some Jk/\I.g 26=some (.Z (am.length:Int))/\I.g 27=some (.Z (S:Int))/\I.bh=[⟨.fn (.func 30) [.ptr j 0, .ptr (j+1) 0],[]⟩]/\I.g 2=some (.ptr j 0)/\I.g 3=some (.ptr (j+1) 0)/\S+m=am.length/\(am.take S).findSome? (FZ am)=none/\(∃c,U X S' (bi+1+1)=some (.cells c 3 .own)/\c.get 0=some (.ptr (bi+1) 0)/\c.get 1=some (.ptr jv 0))/\cg X [bi,bi+1+1] bA (bi+1+1+1) S' aN/\nD X S' P bi dP/\(∀e,G5 e->P e)/\pz X S' G5 (am.drop S) (bK.drop S)/\xk X S' am dP (λe=>P e/\¬G5 e) (dr (bi+1+1+1) aN) (am.take S) (bK.take S)/\px X S' bi (BU (am.take S))/\∀e,G5 e->dP e=none)
   am.length ⟨0,λ_=>none,P,a8,a8,a8,fq,la,aL eK,aL t3,Zo,rfl,⟨_,aef,rfl,rfl⟩,cg.refl _ _ _,auc,λ_ a=>a,by simpa using agj,by rw[Z8,Z8];rfl,by rw[Z8];exact aue,λ_ _=>rfl⟩ ?_
  clear la t0 eK t3 cH dg
  rintro m I bM bX ⟨S,dP,G5,t5,m5,lT,Gx,M7,eK,t3,bE,l6,ij,dH,K6,Uv,nN,LX,EL,Lr⟩
  have ik:=dH.le
  have vb:∀e,P e->U X bM e=U X a1 e:=λe B=>by have:=bq e B;rw[dH.aa e Zo Zx,lm e B]
  have TS:U X bM j=some (.cells (dS (Q.ofList [.cJ] 0 .nil) 0 [.ptr (bi+1) 0]) 1 .own):=by rw[dH.aa j Zo Zx];exact atj
  have aem:U X bM (j+1)=zw [.Z 0, .Z 0] 2:=by rw[dH.aa (j+1) Zo Zx];exact ati
  have Lz:∀e,e<j->U X bM e=U X h e:=λe B=>by rw[dH.aa e Zo Zx,dJ e Zo Zo,CS e B]
  cases m with
  |zero=>
   have d:=zt S am.length
   rw[ZA Zo]at l6 EL
   rw[ZA Zo,ZA Zo]at LX
   have kJ:JE am=none:=l6
   rw[kJ]at CD
   simp only[]at CD
   have g3:aP X bM (.ptr j 0)=some (.ptr (bi+1) 0):=by rw[bc TS,gQ];rfl
   refine d9 @Gx @lT @d @eK @g3 @TS (Za @t3 @aem) ⟨?_⟩
   generalize f9:Go.bd.bj X _ (j+1) _=bZ
   have f5:U X bZ j=some (.cells (dS (dS (Q.ofList [.cJ] 0 .nil) 0 [.ptr (bi+1) 0]) 0 [.ptr (bi+1) 0]) 1 .own):=by rw[<-f9];simp(disch:=omega) only[a7,aB]<;>rfl
   have fK:U X bZ (j+1)=some (.cells (dS (Q.ofList [.Z 0, .Z 0] 0 .nil) 0 [.Z 0, .Z 0]) 2 .own):=by rw[<-f9,a7 Zo];rfl
   have z3:∀e,e≠j->e≠j+1->U X bZ e=U X bM e:=λe M R=>by rw[<-f9];exact zy
   clear f9
   have ph:∀e,P e->U X bZ e=U X bM e:=λe B=>by have:=bq e B;exact z3 e Zo Zo
   have aDt:aP X bZ (.ptr (bi+1) 0)=some (.map bi):=by rw[cv,z3 _ Zo Zo,dH.aa (bi+1) Zo Zs, <-cv,bc KS];rfl
   refine aBJ (v:= .ptr (bi+1) 0) (w:= .agg [.Z 0, .Z 0]) au.todj M7 (aL eK) (aL t3) (by rw[bc f5,gQ];rfl) (by rw[iG,bc fK,bc fK,gQ,gQ];rfl) ⟨?_,Zo,λe B=>by rw[z3 e Zo Zo];exact Lz e B⟩
   unfold DP
   rw[Zr (by rw[CD])]
   exact⟨_,rfl,bi+1,bi,dP,rfl,⟨Zo,Zo⟩,⟨Zo,Zo⟩,aDt,K6.aa (z3 _ Zo Zo) ph,⟨jv,Jk,QR,bK,rfl,om,by rw[cv,ph jv om,vb jv om, <-cv];exact a0,cB.aa (λe B=>by rw[ph e B,vb e B]),LX.aa (λe B=>ph e B.1) (λe B=>z3 e (zs B.1) (zs B.1)) (λ_ _=>rfl) (λe B=>B.1) (λe B=>⟨zs B.1,B.2⟩)⟩,EL.aa (z3 _ Zo Zo)⟩
  |succ m=>
   have d:=zu S am.length
   have bz:=zx S
   obtain⟨g,nP⟩:=zv am S
   have tQ:=Zl nP
   have aF:am.drop S=g::am.drop (S+1):=by
    obtain⟨ae,B⟩:=Zc.1 nP
    rw[Zq ae,B]
   rw[aF]at nN
   obtain⟨row,ib,bu,Fe,gE,jK,auu⟩:=nN
   have Fc:bK[S]? =some row:=by
    have:(bK.drop S)[0]? =some row:=by rw[Fe];rfl
    simpa using this
   have CA:ib=bK.drop (S+1):=by
    obtain⟨ae,B⟩:=Zc.1 Fc
    rw[Zq ae]at Fe
    simp only[YL]at Fe
    exact Fe.2.symm
   subst CA
   have qF:∀e,bu e->P e:=λe B=>Uv e (gE e B)
   have dp:=cB.fx S (by rw[PF.1];omega)
   have hz:=(cB.aa vb).row Zd Fc
   have jL:=jK.jf
   have sG:=jK
   have kI:am.take (S+1)=am.take S++[g]:=by rw[ZQ,nP];rfl
   have yg:bK.take (S+1)=bK.take S++[row]:=by rw[ZQ,Fc];rfl
   obtain⟨c7,dv,k9,eH,bY,co,cY,fM,ib,rfl,_⟩:=jK
   refine hu @Gx @lT @m5 @d @dp @hz ⟨?_⟩
   refine f8 (iH (z:=6) (b:=bX) (W:=0) (n:=6) (c:=Q.ofList [.str [], .Z 0, .aV, .aV, .aV, .aV] 0 .nil) (a7 Zo) Zo rfl Zd Zd jL) ?_
   generalize f9:Go.bd.bj X _ bX _=bZ
   have dZ:U X bZ bX=zw [.str g.name, .Z g.at_,c7,dv,k9,eH] 6:=by rw[<-f9,a7 Zo];rfl
   have c3:∀e,e<bX->U X bZ e=U X bM e:=λe B=>by rw[<-f9];exact zy
   clear f9
   have el:G1 X bZ (bi+1+1+1) P (bi+1+1) (bi+1) bi (.ptr jv 0) am:=atW.aa (λe M R ak=>by rw[c3 e Zo];exact dH.aa e M (by simp;exact⟨R,ak⟩)) (by rw[c3 _ Zo];exact ij)
   have Us:nD X bZ P bi dP:=K6.aa (c3 _ Zo) (λe B=>by have:=bq e B;exact c3 e Zo)
   have eB:cg X [bi,bi+1+1] bA (bi+1+1+1) bZ (bX+1):=⟨Zo,λe M R=>by rw[c3 e Zo];exact dH.aa e M R⟩
   refine cI @t5 (bc dZ) ⟨?_⟩
   refine(azW (j:=bX+1) (bw:=P) (P:=P) (bu:=bu) au.todj ey aX (λg b2=>zs (mQ g b2).vars) (λ_ a=>a) qF Zo el Us (EL.aa (c3 _ Zo)) (λe B=>Lr e (gE e B)) (sG.aa (bu:=bu) (λe B=>by have:=bq e (qF e B);exact c3 e Zo) (λ_ a=>a)) (λaj b0=>((bs g tQ).eqs aj b0).right) (by rw[Ep];have:=(mQ g tQ).vars;simp only[oE];omega)).mono ?_ ?_
   ·rintro ac ci dV ⟨rfl,auL,WC,H1,Im,OX,er,auh⟩
    have nj:=er.le
    have ahx:∀e,e<bX->e≠bi->e≠bi+1+1->U X ci e=U X bM e:=λe M R ak=>by rw[er.aa e Zo (by simp;exact⟨R,ak⟩),c3 e M]
    have qP:∀e,P e->U X ci e=U X bM e:=λe B=>by have:=bq e B;exact ahx e Zo Zo Zo
    refine cI @Gx @bz ⟨?_⟩
    refine⟨m,Zo,S+1,WC,λe=>G5 e/\¬bu e,aL t5,aL m5,aL lT,a8,M7,aL eK,aL t3,Zo,by rw[KM nP l6];exact OX.1,auL,eB.trans (er.down Zo (λb ag=> .inl ag)),H1,λe B=>Uv e B.1,auu.aa (λe B=>qP e (Uv e B.1)) (λ_ a=>a), ?_,by rw[kI,aqJ];exact auh,λe B=>(Im e B.2).trans (Lr e B.1)⟩
    rw[kI,yg]
    exact xk.snoc (OX.aa (λ_ _=>rfl) (λ_ _=>rfl) (λ_ _=>rfl) (λe B=>⟨qF e B,λa=>a.2 B⟩) (λe B=>⟨zs B.1,B.2⟩)) (LX.aa (λe B=>qP e B.1) (λe B=>ahx e B.2 (zs B.1) (zs B.1)) (λe B=>Im e (λa=>B.2 (gE e a))) (λe B=>⟨B.1,λa=>B.2 a.1⟩) (λe B=>⟨B.1,zs B.2⟩))
   ·rintro ac ci dV ⟨H,az,rfl,er⟩
    have nj:=er.le
    have kJ:JE am=some H:=Ou nP l6 az
    rw[kJ]at CD
    simp only[]at CD
    refine aAI (cX:=dS (Q.ofList [.cJ] 0 .nil) 0 [.ptr (bi+1) 0]) (dN:=Q.ofList [.Z 0, .Z 0] 0 .nil) au.todj M7 (by have bp:rN 2 [31,32,33]=false:=rfl;simp[vS,vk,eK,bp]) (by have bp:rN 3 [31,32,33]=false:=rfl;simp[vS,vk,t3,bp]) aE Zo Zo Zo Zo ?_ ?_ (λS' aN gn aJ=>⟨?_,Zo,λe B=> ?_⟩)
    ·rw[er.aa j Zo Zx,c3 j Zo];exact TS
    ·rw[er.aa (j+1) Zo Zx,c3 (j+1) Zo];exact aem
    ·unfold DP
     rw[CD,Zh (show ¬(26:Int)=0 by decide)]
    ·rw[aJ e Zo Zo Zo,er.aa e Zo Zx,c3 e Zo];exact Lz e B
 ·have CD:=k2 ax
  clear k2 LP
  have d:decide (cc≠0)=true:=by simp[ax]
  refine cI @d @cH ⟨?_⟩
  refine f4 (by simp[D.same,lO,oI]) ?_
  refine cd @dg ⟨?_⟩
  generalize fl:Go.bd.bj X _ (j+1) _=a1
  have f5:U X a1 j=some (.cells (dS (Q.ofList [.cJ] 0 .nil) 0 [.cJ]) 1 .own):=by rw[<-fl];simp(disch:=omega) only[a7,aB]<;>rfl
  have fK:U X a1 (j+1)=some (.cells (dS (Q.ofList [.Z 0, .Z 0] 0 .nil) 0 [.Z cc, .Z o1]) 2 .own):=by rw[<-fl,a7 Zo];rfl
  have z3:∀e,e<j->U X a1 e=U X h e:=λe M=>by rw[<-fl];simp(disch:=omega) only[aB];exact hv.aa e M
  clear fl
  refine aBI (v:= .cJ) (w:= .agg [.Z cc, .Z o1]) rfl (fq) (fq) (by rw[bc f5,gQ];rfl) (by rw[iG,bc fK,bc fK,gQ,gQ];rfl) ⟨?_,Zo,z3⟩
  unfold DP
  rw[CD,Zh ax]
end
abbrev fA:=aY×Bool
def jm(d:eF):fA:=(d.on,d.no)
def eA(t:aY->Option c8)(w:aY):fA:=jm ((t w).getD ld).d
def HH(t:aY->Option c8)(E:bD)(c:fA):Bool:=if E.kind=2\/E.kind=24 then decide (eA t E.name=c)else if E.kind=6 then decide ((E.name,E.no)=c)else true
def oe(t:aY->Option c8)(z:Int)(nm:aY)(c:fA)(i:Nat):fA:=if z=6 then eA t nm else if z=24 then(nm,decide (i=1))else c
def FR(f:Option Int)(b:Bool)(H:Int):Option Int:=match f with
 |some H=>some H
 |none=>if b then none else some H
mutual
def nA(t:aY->Option c8):bD->fA->Option Int->Option Int
 | .mk z H nm no ty n args,c,f=>vv t z nm c 0 args (FR f (HH t (.mk z H nm no ty n args) c) H)
def vv(t:aY->Option c8)(z:Int)(nm:aY)(c:fA):Nat->List bD->Option Int->Option Int
 |_,[],f=>f
 |i,E::cb,f=>vv t z nm c (i+1) cb (nA t E (oe t z nm c i) f)
end
structure Can where
 any:Bool
 one:Bool
 c:fA
def ir(x:Can)(c:fA):Bool:=x.any||(x.one&&decide (x.c=c))
def lh:fA:=([],false)
def BT(x e:Can):Can:=if x.any then e else if e.any||(x.one&&e.one&&decide (x.c=e.c))then x else⟨false,false,lh⟩
def KN(l:List Can):Can:=l.foldl BT ⟨true,false,lh⟩
def ut(t:aY->Option c8)(E:bD)(l:List Can):Can:=
 if E.kind=1 then⟨true,false,lh⟩
 else if E.kind=2 then⟨false,true,eA t E.name⟩
 else if E.kind=6 then⟨false,(l[0]?).elim false λx=>ir x (eA t E.name),(E.name,E.no)⟩
 else if E.kind=24 then⟨false,((l[0]?).elim false λx=>ir x (E.name,false))&&((l[1]?).elim false λx=>ir x (E.name,true)),eA t E.name⟩
 else KN l
mutual
def lZ(t:aY->Option c8):bD->Can
 | .mk z H nm no ty n args=>ut t (.mk z H nm no ty n args) (Kd t args)
def Kd(t:aY->Option c8):List bD->List Can
 |[]=>[]
 |E::cb=>lZ t E::Kd t cb
end
section
variable{t:aY->Option c8}
def aqg(x e:Can)(c:fA):ir (BT x e) c=(ir x c&&ir e c):=by
 unfold BT
 obtain⟨aEq,akr,aEr⟩:=x
 obtain⟨aEt,aks,aEu⟩:=e
 cases aEq with
 |true=>simp[ir]
 |false=>
  cases aEt with
  |true=>simp[ir]
  |false=>
   simp only[Zy,ZD,Bool.false_or]
   by_cases a:(akr&&aks&&decide (aEr=aEu))=true
   ·rw[Zr a]
    simp only[Zp,Zg]at a
    obtain⟨⟨rfl,rfl⟩,rfl⟩:=a
    simp[ir]
   ·rw[Zh a]
    cases akr<;>cases aks<;>simp[ir]at a ⊢
    intro M R
    exact a (M.trans R.symm)
def asq(c:fA):∀(l:List Can) (x:Can),ir (l.foldl BT x) c=(ir x c&&l.all λe=>ir e c):=by
 intro l
 induction l with
 |nil=>intro x;simp
 |cons H l ai=>intro x;rw[ZS,ai,aqg,List.all_cons,Yz]
mutual
def aD3:∀(E:bD) (c:fA) (H:Int),nA t E c (some H)=some H
 | .mk z H nm no ty n args,c,fL=>by rw[nA];exact Rt z nm c 0 args fL
def Rt(z:Int)(nm:aY)(c:fA):∀(i:Nat) (l:List bD) (H:Int),vv t z nm c i l (some H)=some H
 |_,[],H=>by rw[vv]
 |i,E::cb,H=>by rw[vv,aD3 E,Rt z nm c (i+1) cb]
end
def aD2(z:Int)(nm:aY)(c:fA):∀(l:List bD) (i:Nat),vv t z nm c i l none=none↔∀(S:Nat) x,l[S]? =some x->nA t x (oe t z nm c (i+S)) none=none:=by
 intro l
 induction l with
 |nil=>intro i;rw[vv];simp
 |cons E l ai=>
  intro i
  rw[vv]
  cases a:nA t E (oe t z nm c i) none with
  |some H=>
   rw[Rt]
   refine⟨λa=>(by cases a),λbE=> ?_⟩
   have:=bE 0 E rfl
   rw[ZR,a]at this
   cases this
  |none=>
   rw[ai]
   refine⟨λbE S x ae=> ?_,λbE S x ae=> ?_⟩
   ·cases S with
    |zero=>simp at ae;subst ae;exact a
    |succ S=>have:=bE S x (by simpa using ae);rw[show i+(S+1)=i+1+S by omega];exact this
   ·have:=bE (S+1) x (by simpa using ae)
    rw[show i+1+S=i+(S+1) by omega];exact this
def So:∀l:List bD,Kd t l=l.map (lZ t)
 |[]=>by rw[Kd];rfl
 |E::l=>by rw[Kd,So l];rfl
mutual
def acj{bG:iL}:∀(E:bD) (c:fA),e5 bG E->(ir (lZ t E) c=true↔nA t E c none=none)
 | .mk z H nm no ty n args,c,bs=>by
   rw[e5]at bs
   obtain⟨a,t7⟩:=bs
   have ai:=ack args t7
   rw[lZ,nA,So]
   have If:∀(b:Bool),vv t z nm c 0 args (FR none b H)=none↔b=true/\∀(S:Nat) x,args[S]? =some x->nA t x (oe t z nm c S) none=none:=λb=>by
    cases b with
    |false=>simp only[FR,Zy,ZD,false_and];rw[Rt];simp
    |true=>simp only[FR,ZE,zp];rw[aD2];simp
   rw[If]
   have L7:∀(S:Nat) x,args[S]? =some x->∀fS,ir (lZ t x) fS=true↔nA t x fS none=none:=λS x ae fS=>ai x (Zl ae) fS
   unfold ut HH
   change ir (if z=1 then⟨true,false,lh⟩else if z=2 then⟨false,true,eA t nm⟩else if z=6 then⟨false,((args.map (lZ t))[0]?).elim false λx=>ir x (eA t nm),(nm,no)⟩
    else if z=24 then⟨false,(((args.map (lZ t))[0]?).elim false λx=>ir x (nm,false))&&(((args.map (lZ t))[1]?).elim false λx=>ir x (nm,true)),eA t nm⟩else KN (args.map (lZ t))) c=true↔
    (if z=2\/z=24 then decide (eA t nm=c)else if z=6 then decide ((nm,no)=c)else true)=true/\∀(S:Nat) x,args[S]? =some x->nA t x (oe t z nm c S) none=none
   by_cases bQ:z=1
   ·subst bQ
    have:args=[]:=ZU (a.tq 0 rfl)
    subst this
    simp[ir]
   rw[Zh bQ]
   by_cases ct:z=2
   ·subst ct
    have:args=[]:=ZU (a.tq 0 rfl)
    subst this
    simp[ir]
   rw[Zh ct]
   by_cases c3:z=6
   ·subst c3
    have:=a.tq 1 rfl
    match b0:args,this with
    |[x],_=>
     subst b0
     have ae:=L7 0 x rfl (eA t nm)
     have bE:(∀(S:Nat) e,[x][S]? =some e->nA t e (oe t 6 nm c S) none=none)↔nA t x (eA t nm) none=none:=by
      refine⟨λa=>a 0 x rfl,λa S e B=> ?_⟩
      cases S with
      |zero=>simp at B;subst B;exact a
      |succ S=>simp at B
     rw[bE, <-ae]
     simp[ir,and_comm]
   rw[Zh c3]
   by_cases nS:z=24
   ·subst nS
    have:=a.tq 2 rfl
    match b0:args,this with
    |[x,bm],_=>
     subst b0
     have ae:=L7 0 x rfl (nm,false)
     have ch:=L7 1 bm rfl (nm,true)
     have bE:(∀(S:Nat) e,[x,bm][S]? =some e->nA t e (oe t 24 nm c S) none=none)↔nA t x (nm,false) none=none/\nA t bm (nm,true) none=none:=by
      refine⟨λa=>⟨a 0 x rfl,a 1 bm rfl⟩,λa S e B=> ?_⟩
      match S,B with
      |0,B=>simp at B;subst B;exact a.1
      |1,B=>simp at B;subst B;exact a.2
     rw[bE, <-ae, <-ch]
     simp[ir,and_comm]
   rw[Zh nS,Zh Zo,Zh c3]
   unfold KN
   rw[asq]
   simp only[ir,Bool.true_or,zi,List.all_map,Yw,zp]
   refine⟨λbE S x ae=> ?_,λbE x ae=> ?_⟩
   ·have:=bE x (Zl ae)
    simp only[oe,Zh c3,Zh nS]
    exact(L7 S x ae c).1 this
   ·obtain⟨S,avs,rfl⟩:=List.mem_iff_getElem.1 ae
    have M:args[S]? =some args[S]:=Ze avs
    have:=bE S _ M
    simp only[oe,Zh c3,Zh nS]at this
    exact(L7 S _ M c).2 this
def ack{bG:iL}:∀(l:List bD),gl bG l->∀x∈l,∀c,(ir (lZ t x) c=true↔nA t x c none=none)
 |[],_,x,ae,_=>by cases ae
 |E::l,bs,x,ae,c=>by
  rw[gl]at bs
  rcases Zt.1 ae with a|a
  ·rw[a];exact acj E c bs.1
  ·exact ack l bs.2 x a c
end
end
def W7{α:Type}[DecidableEq α]:∀(l m:List α),l.Nodup->(∀x∈l,x∈m)->l.length<=m.length:=by
 intro l
 induction l with
 |nil=>intro m _ _;exact YK _
 |cons H l ai=>
  intro m aE a
  rw[zk]at aE
  have az:=a H (Zv ..)
  have:=ai (m.erase H) aE.2 λx ae=>(List.mem_erase_of_ne (λE=>aE.1 (by rw[<-E];exact ae))).2 (a x (Zw _ ae))
  have bp:=List.length_pos_of_mem az
  rw[List.length_erase_of_mem az]at this
  simp only[ZF]
  omega
def pH(t:aY->Option c8):Nat->List fA->fA->List fA
 |0,l,_=>l
 |n+1,l,c=>if (l.map Prod.fst).contains c.1 then l else if c.1=[]\/t c.1=none then l++[c]else pH t n (l++[c]) (eA t c.1)
def mC(t:aY->Option c8):Nat->aY->aY
 |0,w=>w
 |n+1,w=>mC t n (eA t w).1
def Mc(t:aY->Option c8):∀(n:Nat) (w:aY),mC t (n+1) w=(eA t (mC t n w)).1:=by
 intro n
 induction n with
 |zero=>intro w;rfl
 |succ n ai=>intro w;rw[mC,ai];rfl
def aqx{t:aY->Option c8}{ea:List aY}(fU:∀w,t w≠none->w∈ea)(M:∀w,t w≠none->eA t w=lh\/(t (eA t w).1≠none/\(eA t w).1≠[])):
 ∀(n:Nat) (l:List fA) (c:fA),ea.length<n+l.length->(l.map Prod.fst).Nodup->(∀w∈l.map Prod.fst,t w≠none/\w≠[])->(∀w∈l.map Prod.fst,(eA t w).1∈l.map Prod.fst\/(eA t w).1=c.1)->(c=lh\/(t c.1≠none/\c.1≠[]))->
  ((pH t n l c).getLast?=some lh↔∃i,mC t i c.1=[]):=by
 intro n
 induction n with
 |zero=>
  intro l c aC aE bs _ _
  have:=W7 (l.map Prod.fst) ea aE λw a=>fU w (bs w a).1
  rw[Zi]at this
  omega
 |succ n ai=>
  intro l c aC aE bs ax H9
  rw[pH]
  by_cases sC:c.1∈l.map Prod.fst
  ·rw[Zr (by simpa using sC)]
   refine⟨λa=> ?_,λa=> ?_⟩
   ·have bp:=List.mem_of_getLast? a
    exact absurd rfl (bs [] (ZI.2 ⟨lh,bp,rfl⟩)).2
   ·obtain⟨i,aG⟩:=a
    have key:∀i,mC t i c.1∈l.map Prod.fst:=by
     intro i
     induction i with
     |zero=>exact sC
     |succ i axv=>
      rw[Mc]
      rcases ax _ axv with a|a
      ·exact a
      ·rw[a];exact sC
    exact absurd aG (bs _ (key i)).2
  ·rw[Zh (by simpa using sC)]
   by_cases aX:c.1=[]
   ·rw[Zr (.inl aX)]
    rcases H9 with rfl|a
    ·rw[List.getLast?_append]
     exact⟨λ_=>⟨0,rfl⟩,λ_=>rfl⟩
    ·exact absurd aX a.2
   ·have u0:t c.1≠none/\c.1≠[]:=H9.resolve_left λE=>aX (by rw[E];rfl)
    rw[Zh (λa=>a.elim aX u0.1)]
    rw[ai (l++[c]) (eA t c.1) Zx (by
     rw[ZX,List.nodup_append]
     refine⟨aE,Zs,λH az b ag E=> ?_⟩
     simp at ag
     rw[E,ag]at az
     exact sC az) (λw a=>by
     rw[ZX]at a
     rcases Zz.1 a with a|a
     ·exact bs w a
     ·simp at a;rw[a];exact u0) (λw a=>by
     rw[ZX]at a ⊢
     rcases Zz.1 a with a|a
     ·rcases ax w a with aj|aj
      ·exact .inl (List.mem_append_left _ aj)
      ·exact .inl (List.mem_append_right _ (by simp[aj]))
     ·simp at a;rw[a];exact .inr rfl) (M _ u0.1)]
    refine⟨λa=> ?_,λa=> ?_⟩
    ·obtain⟨i,aG⟩:=a;exact⟨i+1,aG⟩
    ·obtain⟨i,aG⟩:=a
     cases i with
     |zero=>exact absurd aG aX
     |succ i=>exact⟨i,aG⟩
def axH{t:aY->Option c8}{ea:List aY}(fU:∀w,t w≠none->w∈ea)(M:∀w,t w≠none->eA t w=lh\/(t (eA t w).1≠none/\(eA t w).1≠[])){w:aY}(bs:t w≠none/\w≠[]):(∃i,mC t i w=[])↔∃i,i<=ea.length/\mC t i w=[]:=by
 refine⟨λ⟨i,aG⟩=> ?_,λ⟨i,_,aG⟩=>⟨i,aG⟩⟩
 have b7:∃i,mC t i w=[]/\∀S,S<i->mC t S w≠[]:=by
  induction i with
  |zero=>exact⟨0,aG,λS bE=>Zo⟩
  |succ i ai=>
   by_cases a:∃S,S<=i/\mC t S w=[]
   ·obtain⟨S,bE,U6⟩:=a
    clear ai aG
    induction S using Nat.strongRecOn with
    |_ S axw=>
     by_cases a:∃z,z<S/\mC t z w=[]
     ·obtain⟨z,aJ,iu⟩:=a
      exact axw z aJ Zo iu
     ·exact⟨S,U6,λz aJ E=>a ⟨z,aJ,E⟩⟩
   ·exact⟨i+1,aG,λS bE E=>a ⟨S,Zo,E⟩⟩
 obtain⟨i,aG,cZ⟩:=b7
 refine⟨i, ?_,aG⟩
 have tM:∀S,S<i->t (mC t S w)≠none:=by
  intro S
  induction S with
  |zero=>intro _;exact bs.1
  |succ S ai=>
   intro bE
   rw[Mc]
   rcases M _ (ai Zo)with a|a
   ·have:=cZ (S+1) bE
    rw[Mc,a]at this
    exact absurd rfl this
   ·exact a.1
 have Cm:∀H b,mC t (H+b) w=mC t H (mC t b w):=by
  intro H
  induction H with
  |zero=>intro b;rw[ZV];rfl
  |succ H mA=>intro b;rw[show H+1+b=(H+b)+1 by omega,Mc,mA,Mc]
 have avo:∀H b,H<b->b<i->mC t H w≠mC t b w:=λH b uX ag E=>by
  have R:mC t (i-b+H) w=[]:=by rw[Cm,E, <-Cm,show i-b+b=i by omega];exact aG
  exact cZ _ Zo R
 have aE:((List.range i).map λS=>mC t S w).Nodup:=by
  rw[List.nodup_iff_pairwise_ne,List.pairwise_map]
  refine List.Pairwise.imp_of_mem ?_ List.pairwise_lt_range
  intro H b az ag uX
  exact avo H b uX (List.mem_range.1 ag)
 have:=W7 _ ea aE λx ae=>by
  obtain⟨S,bE,rfl⟩:=ZI.1 ae
  exact fU _ (tM S (List.mem_range.1 bE))
 simpa using this
end
open Go.bd
noncomputable section
variable (X : cl) (h : Q af) (j : Nat) (ah av : bJ) (a0 bb b5 a3 a4 a5 hR io ip : D)
def aaM(a:aK)(b:D)(c:Q af)(d:Nat)(e f:bJ):Prop:=
 akC b a c d f λ_ c d g h=>xc d a h 0 λi=>bk (λb c d=>qm b λg=>ap (c5 a c .eql 23 true g .cJ) λg=>bk (λb c d=>vz b 3 a 8 c d f λc d g=>DL g a d c λc d g=>vz b 3 a 9 g d f λd g h=>hs d λ_ d=>DL h a g d λd g h=>xc d a h 0 λi=>bk (λb c d=>kz b 3 0 a c λ_ _ g=>hO g (λb c d=>ic b 5 0 a c λ_ g=>X7 g λg=>cw (b 8) λh=>mD h (b 9) c d λc d i=>d5 h (gm .not c) d i λc d i=>cS (λc=>ap (c5 a d .eql 4 false g c) λc=>Qb c (b 5) (λa=>gr 0 a) d i λd g h=>d5 c (aP a g d) g h λd g h=>d5 c (bn .eql d (.Z 0)) g h λd g h=>js c d g h λd g h=>Qa d (b 5) (λa=>gr 0 a) g h λg h i=>eU d (aP a h g) h i λg h i=>eU d (bn .eql g (.Z 27)) h i λg h i=>iQ c (λa=>cS (λb=>a b h i) λa=>aR d (a .zT) (a g)) h i λd g h=>js c d g h λd g h=>Qa d (b 5) (λa=>gr 0 a) g h λg h i=>eU d (aP a h g) h i λg h i=>eU d (bn .eql g (.Z 25)) h i λg h i=>hf d g h i λg h i=>mD g (b 9) h i λb h i=>j7 d (λa=>cS (λb=>a b h i) λa=>aR g (a b) (a .zF)) h i λb g h=>iQ c (λa=>cS (λb=>a b g h) λa=>aR d (a .zT) (a b)) g h λb d g=>cS (λb=>iQ b (λb=>aU a 7 [] d g b f) d g λa c d=>cS (λa=>e a c d) λc=>aR b (c a) (c .zF)) λa=>aR c (a b) (a .zF)) λa=>aR h (a c) (a .zF)) λe h=>e2 (λb c d e=>gW c 67 66 λg=>bk (λc d e=>bk (λa c d=>ge a 67 λe=>b (Z a 67 e) c d) λb=>DG c 67 65 6 λg h=>DC a d h e λd e h=>r5 a h 6 d 10 e f λe h i=>e0 2 d a h λ_ j=>hO j (λc d e=>ic c 11 3 a d λ_ g=>hO g (λc d e=>vz c 12 a 11 d e f λd e g=>hO d (λc d e=>ic c 11 5 a d λ_ g=>DN g b λb h=>e2 (λb c d e=>gW c 159 158 λg=>bk (λc d e=>ta (λa c d=>ge a 159 λe=>b (Z a 159 e) c d) c 157 159 4 λb g=>DD a d g e λd e g=>cw (c 12) λh=>e0 3 d a g λ_ i=>aU a 13 [h,i] g e (λe g h=>ap (hD [.zF, .zF, .str [], .zF] h) λi=>nB a g h i.1 i.2 4 e λe g h=>jj d a h λi=>DN i b λb j=>e2 (λb c d e=>gW c 170 169 λg=>bk (λc d e=>td (λa c d=>ge a 170 λe=>b (Z a 170 e) c d) c 168 170 a d λb g=>cw (c 12) λh=>Bv a h g d e f λ_ d e h=>fm c 12 23 λi j=>jj j a h λj=>xd 1 j λj=>ap (aP a h j) λj=>Bv a i j h e f λ_ e h i=>fb (h+18) λh=>cw (c 8) λj=>P9 j (c 24) (λb=>cG a i 4 b) i λi k=>iP j (gr 1 d) k λk l=>iP j (cG a l 8 k) l λk l=>iQ j (λb=>aU a 15 [k] l h b f) l h λh k l=>Me (iQ j (λb=>aU a 14 [i,h] k l b f) k l λh i k=>cS (λh=>iP h (gr 1 d) i λi j=>iP h (cG a j 8 i) j λi j=>iP h (gr 1 e) j λj l=>iP h (cG a l 8 j) l λl m=>iQ h (λb=>aU a 15 [i] m k b f) m k λi k m=>Me (iQ h (λb=>aU a 15 [l] k m b f) k m λf j k=>iP h (c5 a j .eql 58 false i f) j λa f=>cS (λa=>b (zC c 26 g 27 d 29 e 8 a) f k) λb=>aR h (b a) (b .zF)) λb=>iB true h (ap (cG a k 8 j) λa=>gb a (some l) b) b) λa=>aR j (a h) (a .zF)) λb=>iB true j (lY c 24 a k 4 λa=>gb a (some i) b) b) λa=>aR g (a (Z c 171 g) d e) (j (Z c 171 g) d e)) (Z (zC c 23 d 24 e 168 i 169 b) 170 (.Z 0)) h g) f) λa=>aR g (a (Z c 160 g) d e) (h (Z c 160 g) d e)) (zB c 157 g 158 b 159 (.Z 0)) d e) λb h=>e2 (λb c d e=>gW c 115 114 λg=>bk (λc d e=>td (λa c d=>ge a 115 λe=>b (Z a 115 e) c d) c 113 115 a d λb g=>cw (c 12) λh=>Bv a h g d e f λ_ d e h=>bk (λc d e=>cw (c 9) λg=>sM g (c 19) d e λd e h=>sM g (c 12) e h λe h i=>j7 g (λb=>aU a 11 [e] h i b f) h i λa e f=>eU g (gz a) e f λa e f=>eU g (bn .gtr d a) e f λa d e=>cS (λa=>b (Z c 9 a) d e) λb=>aR g (b .zT) (b a)) λb=>e2 (λc d e g=>cw (d 20) λh=>ap (gr 1 h) λh=>e0 5 h a e λ_ h=>ap (c5 a e .neq 9 true h (.str [])) λh=>mD h (d 19) e g λe g i=>mD h (d 12) g i λg i j=>iQ h (λb=>aU a 11 [g] i j b f) i j λg i j=>d5 h (gz g) i j λg i j=>d5 h (bn .leq e g) i j λe g i=>cS (λe=>bk (λb d e=>bk (λb d e=>lY b 20 a d 11 λf=>ap (hD [.Z 0, .str [], .Z 0, .zF, .zF, .Z 0, .str [], .Z 0, .zF, .Z 0, .Z 0] e) λg=>nB a d e g.1 g.2 11 f λa d e=>ge b 19 λg=>c (zB b 146 f 20 a 19 g) e d) λc=>fm b 12 20 λg h=>ap (gr 1 h) λh=>e0 5 h a d λ_ h=>aU a 12 [g,h] d e (λd e f=>hs d λd _=>cw (b 20) λg=>ap (gq a e 11 g d) λa=>c b a f) f) λa=>aR e (a (Z d 135 e) g i) (b (Z d 135 e) g i)) λa=>aR h (a e) (a .zF)) (zB c 18 g 19 (.Z 0) 20 d) h e) λa=>aR g (a (Z c 116 g) d e) (h (Z c 116 g) d e)) (zB c 113 d 114 b 115 (.Z 0)) e g) λb f=>e2 (λb c d e=>gW c 91 90 λg=>bk (λc d e=>bk (λa c d=>ge a 91 λe=>b (Z a 91 e) c d) λb=>Br c 89 91 a d e λd e f=>cw (c 8) λg=>r4 g 5 d f e a λe f h=>d5 g (c5 a f .eql 9 true e (.str [])) f h λe f h=>js g e f h λe f h=>sM e (c 10) f h λf h i=>sM e (c 3) h i λh i j=>xe e h i j 0 a λa h i=>eU e (gz a) h i λa h i=>eU e (bn .sub a (.Z 1)) h i λa h i=>eU e (bn .eql f a) h i λa f h=>iQ g (λb=>cS (λa=>b a f h) λb=>aR e (b .zT) (b a)) f h λa e f=>cS (λa=>b (zA c 16 d 8 a) e f) λb=>aR g (b a) (b .zF)) λa=>aR g (a (Z c 92 g) d e) (f (Z c 92 g) d e)) (zB c 89 g 90 b 91 (.Z 0)) d e) λb f=>e2 (λb c d e=>gW c 77 76 λg=>bk (λc d e=>bk (λa c d=>ge a 77 λe=>b (Z a 77 e) c d) λb=>Br c 75 77 a d e λd e f=>cw (c 8) λg=>r4 g 5 d f e a λe f h=>d5 g (c5 a f .eql 9 true e (.str [])) f h λa e f=>cS (λa=>b (zA c 14 d 8 a) e f) λb=>aR g (b a) (b .zF)) λa=>aR g (a (Z c 78 g) d e) (f (Z c 78 g) d e)) (zA (zC c 11 d 10 g 12 e 75 j) 76 b 77 (.Z 0)) h i) λa=>aR g (a (Z c 68 g) d e) (h (Z c 68 g) d e)) (Z (zC b 8 .zT 9 .zF 65 g 66 e) 67 (.Z 0)) c d) λj=>aR i (lg a h c λb=>lg a h d λc=>ap (c5 a h .eql 26 false b c) λb=>iQ b (λb=>aU a 7 [] h g b f) h g λa c d=>cS (λa=>e a c d) λc=>aR b (c a) (c .zF)) (j (zB b 5 c 7 d 55 i) h g)) λa=>aR g (e .zF c d) (a (Z b 45 g) c d)) λj=>aR i (aU a 7 [] h g e f) (j (zC (cP [b]) 2 .zF 4 d 3 c 42 i) h g)
def amX:c2 X 3 [a0] h j ah av=aaM X a0 h j ah av:=Zk
def amW:cQ X 3 1=true:=Zk
def abG(a:aK)(b:D)(c:Q af)(d:Nat)(e f:bJ):Prop:=
 By d a c λc d g=>aU a 9 [b] d g (λd g h=>hs d λ_ d=>DL h a g d λd g h=>xc d a h 0 λi=>bk (λb c d=>r9 b a c λg=>hO g (λb c d=>DI λf=>jy b 2 a c 2 f λa b=>e b a d) λh i=>e2 (λb c d g=>gW c 22 21 λh=>bk (λc d g=>bk (λa c d=>ge a 22 λe=>b (Z a 22 e) c d) λb=>DG c 22 20 6 λh i=>DC a d i g λd g i=>fb (g+12) λj=>ap (cG a i 6 d) λk=>r9 c a i λl=>ap (gz l) λl=>Bs l λl=>ap (bn .eql h l) λl=>ap (hD [.Z 0, .Z 0] (g+10)) λm=>mE a i (g+10) m.1 m.2 λg i=>aU a 28 [k,l] i j (λf i j=>ap (gq a i 2 g f) λf=>xc g a f 0 λi=>bk b λb=>aR i (lg a f g λb=>jy c 2 a f 2 b λa b=>e b a j) (b (zC c 6 d 5 h 7 g 39 i) f j)) f) λa=>aR h (a (Z c 23 h) d g) (i (Z c 23 h) d g)) (zB b 20 g 21 h 22 (.Z 0)) c d) λf=>aR i (lg a h d λb=>r6 a h 2 c b λa b=>e b a g) (f (zB (cP [b]) 2 c 4 d 15 i) h g)) f
def aox:c2 X 8 [a0] h j ah av=abG X a0 h j ah av:=Zk
def aow:cQ X 8 1=true:=Zk
def σ(a:aK)(b:D)(c:Q af)(d:Nat)(e f:bJ):Prop:=
 ap (c5 a c .eql 41 true b .cJ) λg=>bk (λb c d=>kz b 0 1 a c λ_ _ b=>aU a 33 [b] c d e f) λa=>aR g (e .aV c d) (a (zA (cP [b]) 2 .aV 4 g) c d)
def alt:c2 X 11 [a0] h j ah av=σ X a0 h j ah av:=Zk
def als:cQ X 11 1=true:=Zk
def aal(a:aK)(b c:D)(d:Q af)(e:Nat)(f g:bJ):Prop:=
 ap (hD [.zF, .zF, .str [], .zF] e) λh=>gO a d e h.1 h.2 λd e h=>g5 c 8 a e λ_ i=>hO i (λb c d=>fm b 0 1 λe h=>g5 h 2 a c λ_ h=>Bv a e h c d g λ_ c d e=>ap (gr 1 c) λh=>r5 a e 8 h 15 d g λd e h=>ap (hD [.str [], .zF] h) λi=>nB a e h i.1 i.2 2 d λd e h=>kz b 1 0 a h λ_ _ i=>bk (λb c d=>ap (e6 [.zF, .zF, .str [], .zF] [(0,1, .zT)]) λe=>ap (hD [.zF, .zF, .str [], .zF] d) λh=>nB a c d h.1 h.2 4 e λc d e=>n9 b λh=>hO h (λb c d=>lY b 11 a c 4 λe=>jy b 4 a c 4 e λa b=>f b a d) λf i=>e2 (λb c d e=>gW c 97 96 λf=>bk (λc d e=>ta (λa c d=>ge a 97 λe=>b (Z a 97 e) c d) c 95 97 4 λb f=>ap (cG a d 4 f) λf=>ap (hD [.zF, .zF, .str [], .zF] e) λh=>nB a d e h.1 h.2 4 f λd e f=>lY c 11 a f 4 λh=>ap (cG a f 4 d) λi=>aU a 34 [h,i] f e (λe f g=>cw (c 11) λh=>ap (gq a f 4 h e) λa=>b (Z c 13 d) a g) g) λa=>aR f (a (Z c 98 f) d e) (i (Z c 98 f) d e)) (zC b 11 c 95 h 96 f 97 (.Z 0)) e d) λj=>md i 1 j λj k=>aR j (ap (e6 [.zF, .zF, .str [], .zF] [(0,1, .zT)]) λc=>jy b 4 a h 4 c λa b=>f b a e) (md i 2 k λk l=>aR k (lg a h d λc=>ap (e6 [.zF, .zF, .str [], .zF] [(1,1, .zT),(2,2,c)]) λc=>jy b 4 a h 4 c λa b=>f b a e) (md i 6 l λl m=>aR l (fb (e+16) λc=>n9 b λe=>xd 4 e λe=>ap (cG a h 4 e) λe=>lg a h d λd=>kz b 1 2 a h λ_ i j=>kz b 1 3 a h λ_ k l=>Nv j l λm=>aU a 14 [e,d] h c (λc d e=>ap (e6 [.zF, .zF, .str [], .zF] [(1,1,c),(2,2,m)]) λc=>ap (aP a d i) λg=>gb g (some j) (ap (aP a d k) λg=>gb g (some l) (jy b 4 a d 4 c λa b=>f b a e))) g) (md i 24 m λm n=>aR m (fb (e+23) λc=>n9 b λe=>xd 4 e λe=>ap (cG a h 4 e) λe=>kz b 1 2 a h λ_ _ i=>ap (e6 [.str [], .zF] [(0,1,i)]) λi=>lg a h d λj=>aU a 14 [e,i] h c (λc e h=>Fx c (b 5) e λe i=>iP c (gy 4 e (.Z 1)) i λe i=>iP c (cG a i 4 e) i λe i=>DE c b 1 i 2 a λi k=>iP c (e6 [.str [], .zF] [(0,1,i),(1,1, .zT)]) k λi k=>lg a k d λl=>gb l (some j) (iQ c (λb=>aU a 14 [e,i] k h b g) k h λe g h=>cS (λc=>ap (e6 [.zF, .zF, .str [], .zF] [(1,1,c),(2,2,j)]) λc=>lg a g d λd=>gb d (some j) (jy b 4 a g 4 c λa b=>f b a h)) λa=>aR c (a e) (a .zF))) g) (n (zB (zC b 8 c 10 d 45 i 46 j) 49 k 53 l 70 m) h e))))) λf j=>e2 (λb c d e=>gW c 19 18 λf=>bk (λc d e=>td (λa c d=>ge a 19 λe=>b (Z a 19 e) c d) c 17 19 a d λb f=>fm c 5 0 λh i=>aU a 13 [i,f] d e (λd e g=>ap (hC 1 [.zF, .zF, .str [], .zF] [(0,4,d)] g) λd=>Bu a e g d.1 d.2 4 h λa d e=>b (zA c 7 f 5 a) d e) g) λa=>aR f (a (Z c 20 f) d e) (j (Z c 20 f) d e)) (Z (zC (cP [b,c]) 4 d 5 .aV 17 i 18 f) 19 (.Z 0)) e h
def al7:c2 X 13 [a0,bb] h j ah av=aal X a0 bb h j ah av:=Zk
def al6:cQ X 13 2=true:=Zk
def aav(a:aK)(b c:D)(d:Q af)(e:Nat)(f _:bJ):Prop:=
 ha a d e b λb d e=>ha a d e c λc d e=>jj b a d λg=>r3 g 1 b d e a λd e h=>hf g d e h λd e h=>d5 d (gr 2 b) e h λb e h=>d5 d (cG a e 2 b) e h λb e h=>d5 d (cG a e 2 c) e h λc e h=>d5 d (c5 a e .eql 58 false b c) e h λa b c=>j7 g (λe=>cS (λa=>e a b c) λb=>aR d (b a) (b .zF)) b c λa b c=>cS (λa=>f a b c) λb=>aR g (b .zT) (b a)
def amj:c2 X 14 [a0,bb] h j ah av=aav X a0 bb h j ah av:=Zk
def ami:cQ X 14 2=true:=Zk
def aaB(a:aK)(b:D)(c:Q af)(d:Nat)(e _:bJ):Prop:=
 ha a c d b λb c d=>ap (hD [.str [], .zF] d) λf=>gO a c d f.1 f.2 λc d f=>e0 5 b a d λ_ g=>e0 7 b a d λ_ b=>Nv g b λb=>r6 a d 2 c b λa b=>e b a f
def amn:c2 X 15 [a0] h j ah av=aaB X a0 h j ah av:=Zk
def amm:cQ X 15 1=true:=Zk
def aaE(a:aK)(b c:D)(d:Q af)(e:Nat)(f g:bJ):Prop:=
 ha a d e c λd e h=>bk (λa b c=>oP a λa=>f a b c) λ_=>e2 (λb c d e=>bk b λb=>fm c 0 3 λh i=>jj i a d λi=>Bv a h i d e g λd _ e h=>fm c 5 6 λi j=>aU a 36 [i,j] h e (λe h i=>bk (λc d e=>fm c 5 3 λh i=>lg a d i λi=>ap (hC 1 [.str [], .zF] [(0,2,i)] e) λi=>Bu a d e i.1 i.2 2 h λd e h=>ic c 3 0 a e λ_ i=>GY a e i λi=>sM i (c 8) e h λe h j=>eU i (gm .not e) h j λe h j=>cS (λe=>bk (λc d e=>fm c 0 3 λf h=>jj h a d λh=>aU a 37 [f,h] d e (λd e f=>qm c λg=>ap (gq a e 2 g d) λa=>b c a f) g) λa=>aR e (f d h j) (a (zA c 5 d 31 e) h j)) λa=>aR i (a .zT) (a e)) λa=>aR e (n9 c λa=>f a h i) (a (zA c 8 d 19 e) h i)) g) (zC (cP [b,c]) 3 d 4 .aV 5 .aV 6 (.func (.func 35) [] [d])) e h
def amr:c2 X 19 [a0,bb] h j ah av=aaE X a0 bb h j ah av:=Zk
def amq:cQ X 19 2=true:=Zk
def aaF(a:aK)(b c d e:D)(f:Q af)(g:Nat)(h i:bJ):Prop:=
 ha a f g d λf g j=>ap (c5 a g .eql 54 true c .cJ) λk=>bk (λb c d=>fm b 3 1 λe f=>lY b 6 a c 2 λg=>jq a e [f,g] c d (λ_ c d=>kz b 1 8 a c λ_ _ e=>hO e (λ_ a b=>h (.tuple []) a b) λf g=>e2 (λb c d e=>gW c 22 21 λf=>bk (λc d e=>bk (λa c d=>ge a 22 λe=>b (Z a 22 e) c d) λb=>DG c 22 20 1 λf g=>ap (aP a d g) λg=>lY c 6 a d 2 λh=>ap (hD [.str [], .zF] e) λj=>nB a d e j.1 j.2 2 h λd e h=>kz c 1 0 a h λ_ _ j=>bk (λc d e=>fm c 0 9 λf g=>lY c 10 a d 2 λh=>qm c λj=>aU a 20 [f,g,h,j] d e (λ_ a d=>b c a d) i) λb=>md j 6 b λb k=>aR b (fm c 0 1 λl m=>g5 m 2 a h λ_ m=>aU a 37 [l,m] h e (λe h i=>ap (gq a h 2 d e) λa=>k (Z (zC c 8 f 9 g 10 d 31 j) 32 b) a i) i) (md j 24 k λi k=>aR i (kz c 1 2 a h λ_ _ l=>ap (bn .eql f (.Z 1)) λm=>Nv l m λl=>ap (gq a h 2 d l) λa=>k (zA (zC c 8 f 9 g 10 d 31 j) 32 b 40 i) a e) (k (zA (zC c 8 f 9 g 10 d 31 j) 32 b 40 i) h e))) λa=>aR f (a (Z c 23 f) d e) (g (Z c 23 f) d e)) (zB b 20 e 21 f 22 (.Z 0)) c d) i) λa=>aR k (h (.tuple []) g j) (a (zA (cP [b,c,d,e]) 6 f 12 k) g j)
def amt:c2 X 20 [a0,bb,b5,a3] h j ah av=aaF X a0 bb b5 a3 h j ah av:=Zk
def ams:cQ X 20 4=true:=Zk
def aaK(a:aK)(b c:D)(d:Q af)(e:Nat)(f g:bJ):Prop:=
 ha a d e b λd e h=>By h a e λe h i=>r5 a h 6 d 10 i g λh i j=>ap (hD [.cJ] j) λk=>nB a i j k.1 k.2 1 h λh i j=>ap (aP a j h) λk=>ap (cG a j 6 d) λl=>aU a 47 [k,l,c] j i (λi j k=>DL k a j i λi j k=>xc i a k 0 λl=>bk (λb c d=>ic b 2 5 a c λ_ e=>hO e (λb c d=>DI λe=>jy b 4 a c 2 e λa b=>f b a d) λh i=>e2 (λb c d e=>gW c 25 24 λh=>bk (λc d e=>ta (λa c d=>ge a 25 λe=>b (Z a 25 e) c d) c 23 25 4 λb h=>DD a d h e λd e h=>fb (e+8) λi=>kR c 5 a h λj=>jj d a h λk=>xd 1 k λk=>ap (aP a h k) λk=>ap (hD [.str [], .zF] (e+6)) λl=>mE a h (e+6) l.1 l.2 λe h=>aU a 37 [j,k] h i (λh i j=>ap (gq a i 2 e h) λh=>n9 c λi=>jj d a h λk=>aU a 49 [k, .func (.func 48) [] [i,e]] h j (λh j k=>bk (λc d e=>By e a d λd e h=>kR c 5 a e λi=>ic c 8 3 a e λ_ j=>lY c 9 a e 2 λk=>n9 c λl=>aU a 20 [i,j,k, .func (.func 50) [] [d,l]] e h (λ_ e g=>xc d a e 0 λh=>bk b λb=>aR h (lg a e d λb=>jy c 4 a e 2 b λa b=>f b a g) (b (zA c 11 d 51 h) e g)) g) λb=>aR h (e0 2 d a j λ_ b=>JK 27 b λb=>jy c 4 a j 2 b λa b=>f b a k) (b (zC c 8 d 9 e 10 (.func (.func 48) [] [i,e]) 39 h) j k)) g) g) λa=>aR h (a (Z c 26 h) d e) (i (Z c 26 h) d e)) (zB b 23 e 24 h 25 (.Z 0)) c d) λg=>aR l (lg a k i λb=>r6 a k 2 e b λa b=>f b a j) (g (Z (zC (cP [b,c]) 2 d 4 e 5 h 6 i) 20 l) k j)) g
def amB:c2 X 28 [a0,bb] h j ah av=aaK X a0 bb h j ah av:=Zk
def amA:cQ X 28 2=true:=Zk
def aaR(a:aK)(b c:D)(d:Q af)(e:Nat)(f _:bJ):Prop:=
 ha a d e b λd e g=>ha a e g c λe g h=>ap (hD [.zF, .zF, .str [], .zF] h) λi=>gO a g h i.1 i.2 λg h i=>bk (λb c d=>ap (e6 [.zF, .zF, .str [], .zF] []) λe=>jy b 4 a c 4 e λa b=>f b a d) λj=>jj d a h λk=>bk j λj=>aR k (ap (cG a h 4 e) λb=>r6 a h 4 g b λa b=>f b a i) (jj e a h λl=>r3 l 1 d h i a λh i m=>hf l h i m λh i m=>r4 h 1 e i m a λi m n=>j7 l (λa=>cS (λb=>a b m n) λa=>aR h (a i) (a .zF)) m n λh i m=>hf l h i m λh i m=>d5 h (gr 2 d) i m λi m n=>d5 h (cG a m 2 i) m n λi m n=>d5 h (gr 2 e) m n λm n o=>d5 h (cG a n 2 m) n o λm n o=>d5 h (c5 a n .eql 58 false i m) n o λi m n=>j7 l (λa=>cS (λb=>a b m n) λa=>aR h (a i) (a .zF)) m n λh i m=>cS (λh=>bk j λj=>aR h (ap (cG a i 4 d) λb=>r6 a i 4 g b λa b=>f b a m) (j (Z (zC (cP [b,c]) 2 d 3 e 4 g 5 k) 9 h) i m)) λa=>aR l (a .zT) (a h))
def amL:c2 X 34 [a0,bb] h j ah av=aaR X a0 bb h j ah av:=Zk
def amK:cQ X 34 2=true:=Zk
def aaS(a:aK)(b c:D)(d:Q af)(e:Nat)(f _:bJ):Prop:=
 ha a d e b λb d e=>jj b a d λb=>jj c a d λc=>ap (c5 a d .eql 9 false b c) λa=>f a d e
def amN:c2 X 35 [a0,bb] h j ah av=aaS X a0 bb h j ah av:=Zk
def amM:cQ X 35 2=true:=Zk
def aaT(a:aK)(b c:D)(d:Q af)(e:Nat)(f g:bJ):Prop:=
 aU a 59 [b,c] d e (λa b c=>DK a λa=>f a b c) g
def amP:c2 X 36 [a0,bb] h j ah av=aaT X a0 bb h j ah av:=Zk
def amO:cQ X 36 2=true:=Zk
def aaU(a:aK)(b c:D)(d:Q af)(e:Nat)(f g:bJ):Prop:=
 ap (hD [.str [], .zF] e) λh=>gO a d e h.1 h.2 λd e h=>Bv a b c e h g λ_ b c e=>ap (gr 1 b) λb=>r5 a e 8 b 15 c g λb c e=>r6 a c 2 d b λa b=>f b a e
def amR:c2 X 37 [a0,bb] h j ah av=aaU X a0 bb h j ah av:=Zk
def amQ:cQ X 37 2=true:=Zk
def aa4(a:aK)(b c d:D)(e:Q af)(f:Nat)(g h:bJ):Prop:=
 ha a e f c λe f i=>By i a f λf i j=>e0 2 e a i λ_ k=>aU a 75 [k] i j (λi j k=>ap (gm .not d) λl=>bk (λb c d=>cw (b 7) λe=>hO e (λb c d=>ic b 4 2 a c λ_ e=>ic b 4 3 a c λ_ f=>ic b 4 4 a c λ_ i=>ap (hC 3 [.aV, .aV, .aV] [(0,1,e),(1,1,f),(2,1,i)] d) λe=>gO a c d e.1 e.2 λc d e=>aU a 76 [c] d e (λc d e=>hO c (λb c d=>DI λe=>jy b 6 a c 2 e λa b=>g b a d) λf i=>e2 (λb c d e=>gW c 44 43 λf=>bk (λc d e=>bk (λa c d=>ge a 44 λe=>b (Z a 44 e) c d) λb=>Br c 42 44 a d e λd e f=>e4 c λi=>r5 a f 8 d 15 e h λe f j=>aU a 19 [i,e] f j (λe f h=>ap (gz e) λi=>Bs i λi=>ap (gy 2 e i) λi=>lg a f i λi=>ap (e6 [.str [], .zF] []) λj=>ap (c5 a f .neq 58 false i j) λi=>bk b λb=>aR i (e0 6 d a f λ_ b=>JK 25 b λb=>jy c 6 a f 2 b λa b=>g b a h) (b (zB c 11 d 12 e 59 i) f h)) h) λa=>aR f (a (Z c 45 f) d e) (i (Z c 45 f) d e)) (zB b 42 c 43 f 44 (.Z 0)) d e) h) λf h=>e2 (λb c d e=>gW c 24 23 λf=>bk (λc d e=>bk (λa c d=>ge a 24 λe=>b (Z a 24 e) c d) λb=>Br c 22 24 a d e λd e f=>e0 5 d a f λ_ h=>ap (c5 a f .neq 9 true h (.str [])) λh=>bk b λb=>aR h (e0 6 d a f λ_ b=>JK 27 b λb=>jy c 6 a f 2 b λa b=>g b a e) (b (zA c 9 d 30 h) f e)) λa=>aR f (a (Z c 25 f) d e) (h (Z c 25 f) d e)) (zB b 22 e 23 f 24 (.Z 0)) c d) λg=>aR l (e0 3 e a j λ_ h=>h0 (jC a j k 8 i h) j k λa h j=>g (Z (zC (cP [b,c,d]) 4 e 6 f 7 i 17 l) 7 a) h j) (g (zC (cP [b,c,d]) 4 e 6 f 7 i 17 l) j k)) h
def ane:c2 X 47 [a0,bb,b5] h j ah av=aa4 X a0 bb b5 h j ah av:=Zk
def anc:cQ X 47 3=true:=Zk
def aa5(a:aK)(b c d:D)(e:Q af)(f:Nat)(g h:bJ):Prop:=
 fb (f+6) λf=>ap (aP a e c) λc=>lg a e d λi=>aU a 37 [c,b] e f (λb c e=>ap (c5 a c .neq 58 false b i) λb=>lg a c d λa=>gb a (some i) (g b c e)) h
def ang:c2 X 48 [a0,bb,b5] h j ah av=aa5 X a0 bb b5 h j ah av:=Zk
def anf:cQ X 48 3=true:=Zk
def aa8(a:aK)(b c d e:D)(f:Q af)(g:Nat)(h i:bJ):Prop:=
 ha a f g c λf g j=>DJ d a g 0 λk=>d5 k (aP a g e) g j λg j l=>js k b j l λj l m=>d5 k (cG a l 2 f) l m λl m n=>iQ k (λb=>aU a 51 [g,j,l] m n b i) m n λg i j=>d5 k (gm .not g) i j λg i j=>cS (λg=>bk (λ_ a b=>h (.tuple []) a b) λh=>aR g (fb (j+9) λj=>g5 b 1 a i λk l=>ap (gq a i 2 d (.agg [.Z 0, .Z 0])) λi=>ap (gr 0 d) λm=>ap (aP a i k) λn=>gb n (some l) (r7 a i m 27 λi=>ap (gr 1 d) λm=>ap (aP a i k) λk=>gb k (some l) (ql a i m l λa=>h (zA (cP [b,c,d,e]) 5 f 15 g) a j))) (h (zA (cP [b,c,d,e]) 5 f 15 g) i j)) λa=>aR k (a g) (a .zF)
def ani:c2 X 50 [a0,bb,b5,a3] h j ah av=aa8 X a0 bb b5 a3 h j ah av:=Zk
def anh:cQ X 50 4=true:=Zk
def aa9(a:aK)(b c d:D)(e:Q af)(f:Nat)(g h:bJ):Prop:=
 ha a e f d λe f i=>g5 c 0 a f λ_ j=>bk (λ_ a b=>g .zT a b) λk=>ap (bn .eql j (.Z 2)) λl=>bk (λb c d=>cw (b 11) λe=>bk k λf=>aR e (fb (d+9) λd=>fm b 0 1 λe f=>g5 f 2 a c λ_ f=>lY b 5 a c 2 λi=>aU a 37 [e,f] c d (λc d e=>ap (c5 a d .eql 58 false c i) λc=>lY b 5 a d 2 λa=>gb a (some i) (g c d e)) h) (cw (b 10) λe=>md e 6 f λe f=>aR e (DH d 12 b 1 2 a c 3 λd e f=>Nv e f λe=>lY b 5 a c 2 λb=>ap (c5 a c .eql 58 false e b) λa=>g a c d) (f (Z b 22 e) c d))) λa=>aR l (a (zC (cP [b,c,d]) 5 e 6 .zF 10 j 11 l) f i) (ap (bn .eql j (.Z 24)) λg=>a (Z (zC (cP [b,c,d]) 5 e 6 .zF 10 j 11 l) 11 g) f i)
def ank:c2 X 51 [a0,bb,b5] h j ah av=aa9 X a0 bb b5 h j ah av:=Zk
def anj:cQ X 51 3=true:=Zk
def abh(a:aK)(b c:D)(d:Q af)(e:Nat)(f g:bJ):Prop:=
 hO b (λ_ a b=>f (.Z (-1)) a b) λh i=>e2 (λb c d e=>gW c 8 7 λh=>bk (λc d e=>bk (λa c d=>ge a 8 λe=>b (Z a 8 e) c d) λb=>GW c 2 λh i j=>lg a d j λj=>jq a i [j] d e (λa d e=>bk b λb=>aR a (f h d e) (b (zA c 5 h 16 a) d e)) g) λa=>aR h (a (Z c 9 h) d e) (i (Z c 9 h) d e)) (zB (cP [b,c]) 4 (.Z 0) 7 h 8 (.Z 0)) d e
def anB:c2 X 59 [a0,bb] h j ah av=abh X a0 bb h j ah av:=Zk
def anA:cQ X 59 2=true:=Zk
def abA(a:aK)(b:D)(c:Q af)(d:Nat)(e _:bJ):Prop:=
 ap (c5 a c .eql 37 true b .aV) λf=>bk (λb c d=>ap (hC 0 [] [] d) λf=>gO a c d f.1 f.2 λc d f=>e4 b λb=>h0 (jC a d f 8 c b) d f λa b c=>e a b c) λa=>aR f (e .aV c d) (a (zA (cP [b]) 2 .aV 4 f) c d)
def an5:c2 X 75 [a0] h j ah av=abA X a0 h j ah av:=Zk
def an4:cQ X 75 1=true:=Zk
end
noncomputable section
section
variable{X:cl}{h S' aI aM:Q af}{j an aO aZ:Nat}{P:Nat->Prop}
def hb(c:fA):D:= .agg [.str c.1, .bool c.2]
def ad8(X:cl):List Field:=match (o X).P.underlying 58 with|some (.struct jF)=>jF.toList|_=>[]
def arH(eq:Nat->D->D->Option Bool)(H b fL dM:D):yZ X eq (ad8 X) [H,b] [fL,dM]=(match eq 9 H fL with|some true=>(match eq 4 b dM with|some true=>some true|some false=>some false|none=>none)|some false=>some false|none=>none):=Zk
def arE(cn m6:List D):i2 X h 50 58 (.agg cn) (.agg m6)=yZ X (i2 X h 49) (ad8 X) cn m6:=Zk
def arZ(H b:aY):i2 X h 49 9 (.str H) (.str b)=some (mX H b):=Zk
def adA(H b:fA):i2 X h 50 58 (hb H) (hb b)=some (decide (H=b)):=by
 obtain⟨bb,b5⟩:=H
 obtain⟨bY,co⟩:=b
 simp only[hb]
 rw[arE,arH,arZ,Tn,SG,qS]
 by_cases M:bb=bY<;>by_cases R:b5=co<;>simp[M,R]
def KG(H b:fA):c5 X h .eql 58 false (hb H) (hb b)=some (.bool (decide (H=b))):=by
 have a:c5 X h .eql 58 false (.agg [.str H.1, .bool H.2]) (.agg [.str b.1, .bool b.2])=(match i2 X h 50 58 (.agg [.str H.1, .bool H.2]) (.agg [.str b.1, .bool b.2])with|some b=>nI b|none=>none):=Zk
 have E:=adA (X:=X) (h:=h) H b
 simp only[hb]at E ⊢
 rw[a,E]
 cases decide (H=b)<;>rfl
def ail(H b:fA):c5 X h .neq 58 false (hb H) (hb b)=some (.bool (!decide (H=b))):=by
 have a:c5 X h .neq 58 false (.agg [.str H.1, .bool H.2]) (.agg [.str b.1, .bool b.2])=(match i2 X h 50 58 (.agg [.str H.1, .bool H.2]) (.agg [.str b.1, .bool b.2])with|some b=>nI (!b)|none=>none):=Zk
 have E:=adA (X:=X) (h:=h) H b
 simp only[hb]at E ⊢
 rw[a,E]
 cases decide (H=b)<;>rfl
def Hv(au:dj X)(aE:(o X).a2<=j)(d:eF):
 aU X 15 [.agg (d2 d)] h j (λac S' an=>ac=hb (jm d)/\ba X h j S' an) (λ_ _ _=>False):=by
 refine zz au (amm X) ?_
 rw[amn]
 unfold aaB
 have iE:d2 d=[.str d.name, .Z d.at_, .bool d.ty.b, .bool d.ty.s, .Z d.ty.w, .str d.on, .Z d.et, .bool d.no]:=rfl
 rw[iE]
 refine cx ⟨?_⟩
 exact⟨rfl,dz⟩
def Ja(au:dj X){b6:D}{t:aY->Option c8}(aE:(o X).a2<=j)(be:i1 X h P b6 t)(bq:∀e,P e->e<j)(w:aY):
 aU X 37 [b6, .str w] h j (λac S' an=>ac=hb (eA t w)/\ba X h j S' an) (λ_ _ _=>False):=by
 refine zz au (amQ X) ?_
 rw[amR]
 unfold aaU
 refine pD ?_
 generalize c6:bj X h j _=aI
 have bI:U X aI j=zw [.str [], .zF] 2:=by rw[<-c6,a7 aE];rfl
 have bH:ba X h j aI (j+1):=by rw[<-c6];exact dz
 clear c6
 refine(vV (j:=j+1) au Zo (be.aa (λe B=>bH.aa e (bq e B)) (λ_ a=>a)) (λe B=>zs (bq e B)) w).Zm ?_
 rintro ac aM aZ ⟨rfl,bx⟩
 have fJ:=bx.le
 rw[<-bx.aa _ Zo]at bI
 have hv:=bH.trans bx
 have E6:eA t w=jm ((t w).getD ld).d:=rfl
 rw[E6]
 generalize (t w).getD ld=v at*
 have nl:ky v=[.Z v.kind, .str v.d.name, .Z v.d.at_, .bool v.d.ty.b, .bool v.d.ty.s, .Z v.d.ty.w, .str v.d.on, .Z v.d.et, .bool v.d.no, .Z v.eq, .Z v.left]:=rfl
 rw[nl]
 refine cx ⟨?_⟩
 refine eN (λa1=>U X a1 j=zw [.str [], .zF] 2/\ba X h j a1 (aZ+1)) ⟨by simp(disch:=omega) only[aB];exact bI,⟨Zo,λe B=>by simp(disch:=omega) only[aB];exact hv.aa e B⟩⟩ ?_
 rintro a1 ⟨cH,ck⟩
 refine(Hv (j:=aZ+1) au Zo v.d).Zm ?_
 rintro ac bA cK ⟨rfl,c0⟩
 have iF:=c0.le
 rw[<-c0.aa _ Zo]at cH
 generalize ax:jm v.d=c
 unfold hb
 refine dI @cH @oL @oM ⟨?_⟩
 exact⟨rfl,⟨Zo,λe B=>by rw[aB Zo Zo,c0.aa _ Zo];exact ck.aa e B⟩⟩
end
section
variable{X:cl}{h S' aI aM:Q af}{j an aO aZ:Nat}{P bu:Nat->Prop}
def SX(c:fA):D.same 30 (hb c) (hb c)=true:=by simp[hb,D.same,lO,qS]
def asm(au:dj X){b6:D}{t:aY->Option c8}{E:bD}{v:D}(aE:(o X).a2<=j)(be:i1 X h P b6 t)(bq:∀e,P e->e<j)(bC:cE X h bu E v)(gE:∀e,bu e->e<j)(c:fA):
 aU X 51 [b6,v,hb c] h j (λac S' an=>ac= .bool (HH t E c)/\ba X h j S' an) (λ_ _ _=>False):=by
 refine zz au (anj X) ?_
 rw[ank]
 unfold aa9
 obtain⟨b,aS,cO,br,rfl,ag,a0, -,b5,a3, -⟩:=bC.open
 have fP:=gE b ag
 refine pG ?_
 generalize c6:bj X h j _=aI
 have bI:U X aI j=zw [.str c.1, .bool c.2] 2:=by rw[<-c6,a7 aE];rfl
 have bH:ba X h j aI (j+1):=by rw[<-c6];exact dz
 clear c6
 rw[<-bH.eV _ _ fP]at a0 b5 a3
 have cR:cG X aI 2 (.ptr j 0)=some (hb c):=by rw[iG,bc bI,bc bI];rfl
 have Fj:=be.aa (S':=aI) (bu:=P) (λe B=>bH.aa e (bq e B)) (λ_ a=>a)
 unfold HH
 by_cases ct:E.kind=2
 ·have cy:decide (E.kind=2)=true:=by simp[ct]
  rw[Zr (.inl ct)]
  refine fI @a0 @cy @b5 @cR ⟨?_⟩
  refine(Ja (j:=j+1+9) au Zo Fj (λe B=>zs (bq e B)) E.name).Zm ?_
  rintro ac aM aZ ⟨rfl,bx⟩
  have fJ:=bx.le
  have eQ:cG X aM 2 (.ptr j 0)=some (hb c):=by rw[<-cR,iG,iG,bx.eV _ _ Zo,bx.eV _ _ Zo]
  refine cI @KG @eQ ⟨?_⟩
  refine f4 (SX c) ?_
  exact⟨rfl,bH.trans (bx.j9 Zo)⟩
 ·have cy:decide (E.kind=2)=false:=by simp[ct]
  by_cases nS:E.kind=24
  ·have uJ:decide (E.kind=24)=true:=by simp[nS]
   rw[Zr (.inr nS)]
   refine fO @a0 @cy @uJ @b5 @cR ⟨?_⟩
   refine(Ja (j:=j+1+9) au Zo Fj (λe B=>zs (bq e B)) E.name).Zm ?_
   rintro ac aM aZ ⟨rfl,bx⟩
   have fJ:=bx.le
   have eQ:cG X aM 2 (.ptr j 0)=some (hb c):=by rw[<-cR,iG,iG,bx.eV _ _ Zo,bx.eV _ _ Zo]
   refine cI @KG @eQ ⟨?_⟩
   refine f4 (SX c) ?_
   exact⟨rfl,bH.trans (bx.j9 Zo)⟩
  ·have uJ:decide (E.kind=24)=false:=by simp[nS]
   rw[Zh (λa=>a.elim ct nS)]
   by_cases c3:E.kind=6
   ·have g8:decide (E.kind=6)=true:=by simp[c3]
    have b0:c5 X aI .eql 58 false (.agg [.str E.name, .bool E.no]) (hb c)=some (.bool (decide ((E.name,E.no)=c))):=KG (E.name,E.no) c
    rw[Zr c3]
    refine d9 @a0 @cy @uJ @g8 @b5 @a3 (Za @cR @b0) ⟨?_⟩
    exact⟨rfl,bH.more Zo⟩
   ·have g8:decide (E.kind=6)=false:=by simp[c3]
    rw[Zh c3]
    refine fI @a0 @cy @uJ @g8 ⟨?_⟩
    exact⟨rfl,bH⟩
def aCd(au:dj X){bO:Nat}{w:aY}(aE:(o X).a2<=j)(iD:bO<j)(ax:aP X h (.ptr bO 0)=some (.str w))(x:fA):
 aU X 35 [hb x, .ptr bO 0] h j (λac S' an=>ac= .bool (decide (x.1=w))/\ba X h j S' an) (λ_ _ _=>False):=by
 refine zz au (amM X) ?_
 rw[amN]
 unfold aaS
 refine pG ?_
 generalize c6:bj X h j _=aI
 have bI:U X aI j=zw [.str x.1, .bool x.2] 2:=by rw[<-c6,a7 aE];rfl
 have bH:ba X h j aI (j+1):=by rw[<-c6];exact dz
 clear c6
 rw[<-bH.eV _ _ iD]at ax
 refine cI (bc bI) @ax ⟨?_⟩
 exact⟨rfl,bH⟩
def tv(c:fA):List D:=[.str c.1, .bool c.2]
def aqC(au:dj X){bO b:Nat}{w:aY}{aS:D}{l:List fA}(aE:(o X).a2<=j)(iD:bO<j)(ax:aP X h (.ptr bO 0)=some (.str w))(aC:dL X h P b aS 2 (l.map tv))(bq:∀e,P e->e<j):
 aU X 59 [aS, .func (.func 35) [] [.ptr bO 0]] h j (λac S' an=>(∃r:Int,ac= .Z r/\(0<=r↔(l.map Prod.fst).contains w=true))/\ba X h j S' an) (λ_ _ _=>False):=by
 refine zz au (anA X) ?_
 rw[anB]
 unfold abh
 have fg:=aC.len
 have hU:=aC.many
 rw[Zi]at fg hU
 refine cd @fg ⟨?_⟩
 refine fh (λm I S' aN=>∃(S:Nat),I.g 0=some aS/\I.g 1=some (.func (.func 35) [] [.ptr bO 0])/\I.g 7=some (.Z (l.length:Int))/\I.g 8=some (.Z (S:Int))/\S+m=l.length/\ba X h j S' aN/\∀x∈l.take S,x.1≠w)
  l.length ⟨0,a8,a8,a8,fq,Zo,ba.refl _ _,λx ae=>by simp at ae⟩ ?_
 rintro m I aM aZ ⟨S,t0,t1,gc,t8,bE,bx,lk⟩
 have fJ:=bx.le
 cases m with
 |zero=>
  have d:=zt S l.length
  rw[ZA Zo]at lk
  refine dI @t8 @gc @d ⟨?_⟩
  refine⟨⟨-1,rfl, ?_⟩,bx⟩
  simp only[List.contains_eq_mem,ZI,Zg]
  exact⟨λa=>absurd a Zd,λ⟨x,ae,E⟩=>absurd E (lk x ae)⟩
 |succ m=>
  have d:=zu S l.length
  have bz:=zx S
  obtain⟨x,ae⟩:=zv l S
  have axj:(l.map tv)[S]? =some (tv x):=by rw[Zu,ae];rfl
  have dp:=aC.fx S (by rw[Zi];omega)
  have hz:cG X aM 2 (.ptr b (S*2))=some (hb x):=((aC.aa (λe B=>bx.aa e (bq e B))).row Zd axj)
  refine d9 @t8 @gc @t1 @t0 @d @dp @hz ⟨?_⟩
  refine(aCd (j:=aZ) au Zo Zo (by rw[bx.eV _ _ iD];exact ax) x).Zm ?_
  rintro ac a1 bi ⟨rfl,ck⟩
  have kI:l.take (S+1)=l.take S++[x]:=by rw[ZQ,ae];rfl
  refine pN ⟨?_⟩
  refine gi ?_
  refine BS (λbs=> ?_) (λbs=> ?_)
  ·refine cx ⟨?_⟩
   refine⟨⟨S,rfl, ?_⟩,bx.trans ck⟩
   simp only[List.contains_eq_mem,ZI,Zg]
   exact⟨λ_=>⟨x,Zl ae,bs⟩,λ_=>Zo⟩
  ·refine cI @t8 @bz ⟨?_⟩
   exact⟨m,Zo,S+1,aL t0,aL t1,aL gc,a8,Zo,bx.trans ck,λe B=>by
    rw[kI]at B
    rcases Zz.1 B with a|a
    ·exact lk e a
    ·simp at a;rw[a];exact bs⟩
def aqQ(au:dj X){bO b:Nat}{w:aY}{aS:D}{l:List fA}(aE:(o X).a2<=j)(iD:bO<j)(ax:aP X h (.ptr bO 0)=some (.str w))(aC:dL X h P b aS 2 (l.map tv))(bq:∀e,P e->e<j):
 aU X 36 [aS, .func (.func 35) [] [.ptr bO 0]] h j (λac S' an=>ac= .bool ((l.map Prod.fst).contains w)/\ba X h j S' an) (λ_ _ _=>False):=by
 refine zz au (amO X) ?_
 rw[amP]
 unfold aaT
 refine(aqC au aE iD ax aC bq).Zm ?_
 rintro ac aI aO ⟨⟨r,rfl,Y⟩,bU⟩
 refine cx ⟨?_⟩
 refine⟨?_,bU⟩
 congr 1
 by_cases a:(l.map Prod.fst).contains w=true
 ·rw[a];simp[Y.2 a]
 ·have:¬0<=r:=λE=>a (Y.1 E)
  simp only[Bool.not_eq_true]at a
  rw[a];simp;omega
end
section
variable{X:cl}{h S' aI aM:Q af}{j an aO aZ:Nat}{P bu:Nat->Prop}
structure DO(X:cl)(fi:Q af)(j:Nat)(fE:List fA)(c:fA)(aS:D)(h:Q af)(n:Nat):Prop where
 lt:j<n
 box:∃cc,U X h j=some (.cells cc 2 .own)/\cc.get 0=some (.str c.1)/\cc.get 1=some (.bool c.2)
 aS:∃cq,gk X h aS 2 (fE.map tv).flatten cq/\∀e∈cq,j<e/\e<n
 low:∀e,e<j->U X h e=U X fi e
def DO.aa{fi:Q af}{fE:List fA}{c:fA}{aS:D}(a:DO X fi j fE c aS aI aO)(gn:aO<=aZ)(z:∀e,e<aO->U X aM e=U X aI e):DO X fi j fE c aS aM aZ:=by
 have aC:=a.lt
 obtain⟨cc,g,jG,bI⟩:=a.box
 obtain⟨cq,jw,j0⟩:=a.aS
 exact⟨Zo,⟨cc,by rw[z _ aC];exact g,jG,bI⟩,⟨cq,jw.aa λe B=>z e (j0 e B).2,λe B=>zs (j0 e B)⟩,λe B=>by rw[z e Zo];exact a.low e B⟩
def ac9:∀(l:List fA),∀r∈l.map tv,r.length=2:=by
 intro l r Y
 obtain⟨c,_,rfl⟩:=ZI.1 Y
 rfl
def DO.rd{fi:Q af}{fE:List fA}{c:fA}{aS:D}{n:Nat}(a:DO X fi j fE c aS h n)(bp:fE.length<=300000):∃b,dL X h (dr j n) b aS 2 (fE.map tv):=by
 obtain⟨cq,jw,j0⟩:=a.aS
 exact jw.qZ Zd (ac9 fE) (by rw[Zi];exact bp) (λe B=>by have:=j0 e B;exact⟨Zo,Zo⟩)
def aqw(au:dj X){b6:D}{t:aY->Option c8}{ea:List aY}(aE:(o X).a2<=j)(be:i1 X h P b6 t)(bq:∀e,P e->e<j)(fU:∀w,t w≠none->w∈ea)(bp:ea.length<=200000)(c:fA):
 aU X 19 [b6,hb c] h j (λac S' an=>(∃b,dL X S' (dr j an) b ac 2 ((pH t (ea.length+1) [] c).map tv))/\ba X h j S' an) (λ_ _ _=>False):=by
 refine zz au (amq X) ?_
 rw[amr]
 unfold aaE
 refine pG ?_
 generalize c6:bj X h j _=aI
 have bI:U X aI j=zw [.str c.1, .bool c.2] 2:=by rw[<-c6,a7 aE];rfl
 have bH:ba X h j aI (j+1):=by rw[<-c6];exact dz
 clear c6
 refine cx ⟨?_⟩
 refine fh (λm I S' aN=>∃fE gY aS,I.g 0=some b6/\I.g 3=some (.ptr j 0)/\I.g 5=some aS/\I.g 6=some (.func (.func 35) [] [.ptr j 0])/\DO X h j fE gY aS S' aN/\pH t m fE gY=pH t (ea.length+1) [] c/\(fE.map Prod.fst).Nodup/\(∀w∈fE.map Prod.fst,w∈ea)/\m+fE.length=ea.length+1)
  (ea.length+1) ⟨[],c, .aV,a8,a8,a8,a8,⟨Zo,⟨_,bI,rfl,rfl⟩,⟨[], .inl (.inl ⟨rfl,rfl,rfl⟩),λe B=>by simp at B⟩,bH.aa⟩,rfl,Zs,Zs,Zs⟩ ?_
 rintro m I a1 bi ⟨fE,gY,aS,t0,t3,t5,eX,gw,ij,AF,sC,aFJ⟩
 have cZ:=gw.lt
 have fg:fE.length<=ea.length:=by
  have:=W7 (fE.map Prod.fst) ea AF sC
  simpa using this
 obtain⟨m,rfl⟩:∃z,m=z+1:=⟨m-1,Zo⟩
 obtain⟨cc,kl,dB,cX⟩:=gw.box
 rw[pH]at ij
 have kI:∀{S'},(∀e,e<j->U X S' e=U X h e)->i1 X S' P b6 t:=λz=>be.aa (λe B=>z e (bq e B)) (λ_ a=>a)
 refine fI @t0 @t3 (bc kl) @dB ⟨?_⟩
 refine(vV (j:=bi) au Zo (kI gw.low) (λe B=>zs (bq e B)) gY.1).Zm ?_
 rintro ac bA cK ⟨rfl,c0⟩
 have iF:=c0.le
 have o7:=gw.aa iF c0.aa
 clear gw kl dB cX cc
 have E6:eA t gY.1=jm ((t gY.1).getD ld).d:=rfl
 generalize (t gY.1).getD ld=v at*
 have nl:ky v=[.Z v.kind, .str v.d.name, .Z v.d.at_, .bool v.d.ty.b, .bool v.d.ty.s, .Z v.d.ty.w, .str v.d.on, .Z v.d.et, .bool v.d.no, .Z v.eq, .Z v.left]:=rfl
 rw[nl]
 refine cI @t5 @eX ⟨?_⟩
 refine eN (λbM=>∀e,e<cK->U X bM e=U X bA e) (λe B=>zy) ?_
 intro bM d7
 have hJ:=o7.aa (aZ:=cK+1) Zo d7
 obtain⟨cc,kl,dB,cX⟩:=hJ.box
 obtain⟨b,cB⟩:=hJ.rd Zo
 refine(aqQ (j:=cK+1) (w:=gY.1) au Zo Zo (by rw[bc kl];exact dB) cB (λe B=>B.2)).Zm ?_
 rintro ac bZ dy ⟨rfl,el⟩
 have pb:=el.le
 have h6:=hJ.aa pb el.aa
 clear o7 hJ kl dB cX cc cB
 by_cases ax:(fE.map Prod.fst).contains gY.1=true
 ·rw[Zr ax]at ij
  rw[ax]
  refine cd @t5 ⟨?_⟩
  rw[<-ij]
  refine⟨h6.rd Zo,⟨Zo,h6.low⟩⟩
 ·rw[Zh ax]at ij
  simp only[Bool.not_eq_true]at ax
  rw[ax]
  have UD:gY.1∉fE.map Prod.fst:=by simpa using ax
  obtain⟨cc,kl,dB,cX⟩:=h6.box
  have cR:cG X bZ 2 (.ptr j 0)=some (.agg [.str gY.1, .bool gY.2]):=by rw[iG,bc kl,bc kl,dB,cX];rfl
  refine dI @t5 @t3 @cR ⟨?_⟩
  generalize jW:bj X bZ dy _=ci
  have HC:U X ci dy=zw (tv gY) 2:=by rw[<-jW,a7 Zo];rfl
  have ft:∀e,e<dy->U X ci e=U X bZ e:=λe B=>by rw[<-jW,aB Zo Zo]
  clear jW
  obtain⟨cq,ajv,Bf⟩:=h6.aS
  have lI:(fE.map tv).flatten.length=fE.length*2:=by rw[tz (ac9 fE),Zi]
  obtain⟨eJ,dk,gf,ii,IB,Cn,sE⟩:=(ajv.aa (S':=ci) (λe B=>ft e (Bf e B).2)).append (j:=dy+1) Zd (rT (z:=1) HC (l8 _) rfl 1) rfl Zd rfl (by rw[lI];simp[tv];omega) Zo (λe B=>zs (Bf e B))
  refine kb ii ?_
  have Cu:j∉cq:=λa=>zs (Bf _ a)
  have ja:DO X h j (fE++[gY]) gY eJ dk (dy+1+1):=by
   refine⟨Zo,⟨cc,by rw[sE _ Zo Cu,ft _ Zo];exact kl,dB,cX⟩,⟨gf, ?_, ?_⟩,λe B=>by rw[sE e Zo (λa=>zs (Bf _ a)),ft e Zo];exact h6.low e B⟩
   ·rw[ZX,YB]
    have:([gY].map tv).flatten=tv gY:=by simp
    rw[this]
    exact .inl IB
   ·intro e B
    rcases Cn e B with rfl|a
    ·omega
    ·have:=Bf _ a;omega
  clear ii IB Cn sE HC ft ajv Bf h6 kl dB cX cc cR
  obtain⟨cc,kl,dB,cX⟩:=ja.box
  by_cases aX:gY.1=[]
  ·rw[Zr (.inl aX)]at ij
   have iq:decide (gY.1=[])=true:=by simp[aX]
   refine fI @t3 (bc kl) @dB @iq ⟨?_⟩
   rw[<-ij]
   exact⟨ja.rd Zx,⟨Zo,ja.low⟩⟩
  ·have iq:decide (gY.1=[])=false:=by simp[aX]
   by_cases aD:t gY.1=none
   ·rw[Zr (.inr aD)]at ij
    have ds:(t gY.1).isSome=false:=by rw[aD];rfl
    refine fO @t3 (bc kl) @dB @iq @ds ⟨?_⟩
    rw[<-ij]
    exact⟨ja.rd Zx,⟨Zo,ja.low⟩⟩
   ·rw[Zh (λa=>a.elim aX aD)]at ij
    have ds:(t gY.1).isSome=true:=by cases a:t gY.1 with
     |none=>exact absurd a aD
     |some _=>rfl
    refine hu @t3 (bc kl) @dB @iq @ds @t0 ⟨?_⟩
    refine(Ja (j:=dy+1+1) au Zo (kI ja.low) (λe B=>zs (bq e B)) gY.1).Zm ?_
    rintro ac dt fc ⟨rfl,gT⟩
    have pc:=gT.le
    have Up:=ja.aa pc gT.aa
    clear ja kl dB cX cc
    obtain⟨cc,lH, -, -⟩:=Up.box
    obtain⟨ap8,aB6,ajm⟩:=Up.aS
    unfold hb
    refine cI @t3 @lH ⟨?_⟩
    refine⟨m,Zo,fE++[gY],eA t gY.1,eJ,aL t0,aL t3,a8,aL eX,⟨Zo,⟨_,a7 Zo,by exact oL _ _ _,by exact oM _ _ _⟩,⟨ap8,aB6.aa (λe B=>aB Zo (zs (ajm e B))),ajm⟩,λe B=>by rw[aB Zo Zo];exact Up.low e B⟩,ij, ?_, ?_,Zx⟩
    ·rw[ZX,List.nodup_append]
     refine⟨AF,Zs,λH az b ag E=> ?_⟩
     simp at ag
     rw[E,ag]at az
     exact UD az
    ·intro w bs
     rw[ZX]at bs
     rcases Zz.1 bs with a|a
     ·exact sC w a
     ·simp at a;rw[a];exact fU _ aD
end
end
end Go.Proofs.YtpeabpmnlmaabaaGreatDoor

