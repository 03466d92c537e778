/- Part of the proof of the last text; no conditions -/
import Derived.Test.YtpeabpmnlmaabaaGreatDoorYm
set_option maxHeartbeats 8000000
set_option linter.all false
namespace Go.Proofs.YtpeabpmnlmaabaaGreatDoor
open Go.ba Go.aQ
noncomputable section
def ac1(an:List Go.aQ.Node)(t:aX->Option c8)(E:bB):BG an t E=(match wV an t E.args with
 | .error F=> .error F
 | .ok (bM,one)=>if one=false then .error E.at_ else if (lE an t E bM).2=false then .error E.at_ else .ok (lE an t E bM).1):=by
 cases E;rw[BG];rfl
section
variable{X:ch}{h S' aK aJ:R af}{j am aM aR:Nat}{P eS:Nat->Prop}
def oR.mk'{an:List Go.aQ.Node}{t:aX->Option c8}{dN:Nat->Option D}{E:bB}{b cO:Nat}{aS w:D}{br:List D}{row:List er}(Q:P b)(ak:aI X h (.ptr b 8)=some aS)(ay:dL X h P cO aS 1 (br.map λv=>[v]))(bt:BG an t E= .ok row)(b4:dN b=some w)(dh:w.cells=[w])(eI:nC X h eS w row)(hG:lp X h an t dN P eS E.args br):oR X h an t dN P eS E (.ptr b 0):=by
 cases E
 rw[oR]
 exact⟨b,aS,cO,br,row,w,rfl,Q,ak,ay,bt,b4,dh,eI,hG⟩
def lp.snoc{an:List Go.aQ.Node}{t:aX->Option c8}{dN:Nat->Option D}{E:bB}{v:D}(y:oR X h an t dN P eS E v):∀{ca:List bB}{br:List D},lp X h an t dN P eS ca br->lp X h an t dN P eS (ca++[E]) (br++[v]):=by
 intro ca
 induction ca with
 |nil=>intro br a;rw[lp]at a;subst a;rw[Yn,lp];exact⟨v,[],rfl,y,by rw[lp]⟩
 |cons F ca ai=>
  intro br a
  rw[lp]at a
  obtain⟨im,aCY,rfl,Q,ak⟩:=a
  rw[YF,lp]
  exact⟨im,aCY++[v],rfl,Q,ai ak⟩
def azl:∀{E:bB}{v:D},cE X h P E v->∃b aS cO br,v= .ptr b 0/\P b/\qi X h b/\aI X h (.ptr b 1)=some (.Z E.at_)/\aI X h (.ptr b 8)=some aS/\dL X h P cO aS 1 (br.map λv=>[v])/\dz X h (λe=>P e/\e≠b) E.args br
 | .mk ..,_,a=>by
   unfold cE at a
   obtain⟨b,J,bq,bh,Q,ak,ay,bt,b4,dh,eI,hG,aS,cO,br,kx,qt,vJ,vF⟩:=a
   exact⟨b,aS,cO,br,J,bq,bh,ak,kx,qt,dz.lift (λe B=>⟨B.1,B.2.1⟩) _ _ vF⟩
structure wI(X:ch)(h:R af)(fP:Nat)(P:Nat->Prop)(bO aj r:Nat)(b8 p:D)(an:List Go.aQ.Node)(t:aX->Option c8):Prop where
 a6:(o X).a6<=fP
 lc:bO<fP
 Ig:aj<fP
 CD:r<fP
 Iq:(o X).a6<=r
 DJ:bO≠r
 qr:aj≠r
 bq:∀e,P e->(o X).a6<=e/\e<fP/\e≠r
 Ke:∃c,U X h bO=some (.cells c 3 .own)/\c.get 0=some (.ptr aj 0)/\c.get 1=some p/\c.get 2=some b8
 FP:aI X h (.ptr aj 0)=some (.map r)
 wB:ia X h P b8 t
 prog:oO X h P an p
def wI.oW{fP bO aj r:Nat}{b8 p:D}{an:List Go.aQ.Node}{t:aX->Option c8}(a:wI X h fP P bO aj r b8 p an t):Gf X h bO (.ptr aj 0) p b8:=by
 obtain⟨c,aY,J,Q,ak⟩:=a.Ke
 exact⟨by rw[bp aY];exact J,by rw[bp aY];exact Q,by rw[bp aY];exact ak⟩
def wI.aa{fP bO aj r:Nat}{b8 p:D}{an:List Go.aQ.Node}{t:aX->Option c8}(a:wI X h fP P bO aj r b8 p an t)(y:∀e,e<fP->e≠r->U X S' e=U X h e):wI X S' fP P bO aj r b8 p an t:=
 have agI:∀e,P e->U X S' e=U X h e:=λe B=>y e (a.bq e B).2.1 (a.bq e B).2.2
 ⟨a.a6,a.lc,a.Ig,a.CD,a.Iq,a.DJ,a.qr,a.bq,by rw[y bO a.lc a.DJ];exact a.Ke,zB (y aj a.Ig a.qr) a.FP,a.wB.aa agI (λ_ a=>a),a.prog.aa agI (λ_ a=>a)⟩
def wI.fr{fP bO aj r:Nat}{b8 p:D}{an:List Go.aQ.Node}{t:aX->Option c8}(a:wI X h fP P bO aj r b8 p an t)(gF:cg X [r] h j S' am)(aF:fP<=j):wI X S' fP P bO aj r b8 p an t:=
 a.aa λe J Q=>gF.aa e Zo (by simp[Q])
def ajP(n:Nat)(X:ch)(h:R af)(j:Nat)(bx:Nat->Prop)(r:Nat)(an:List Go.aQ.Node)(t:aX->Option c8)(dN:Nat->Option D)(bg:Nat->Prop)(E:bB)(v:D):bI:=λac S' am=>∃row jt,BG an t E= .ok row/\ac.cells=[ac]/\nC X S' (dx j am) ac row/\nz X S' bx r jt/\(∀e,¬bg e->jt e=dN e)/\oR X S' an t jt bg (dx j am) E v/\cg X [r] h j S' am/\pw X S' r (n+DH E)
def ajO(X:ch)(h:R af)(j r:Nat)(an:List Go.aQ.Node)(t:aX->Option c8)(E:bB):bI:=λac S' am=>∃F,BG an t E= .error F/\ac=pG 26 F/\cg X [r] h j S' am
set_option maxRecDepth 100000 in
def aq2(au:di X)(ez:Dl X){an:List Go.aQ.Node}{t:aX->Option c8}{bO aj r fP:Nat}{p b8:D}(aY:an≠[])(bo:∀g∈an,g.d3.length<=100000/\g.out.length<=100000){bx:Nat->Prop}(xm:∀e,bx e->P e):
 ∀(N:Nat) (E:bB),SizeOf.sizeOf E<N->fi kt E->∀(bg:Nat->Prop) (v:D) (h:R af) (j:Nat) (dN:Nat->Option D) (n:Nat),(∀e,bg e->bx e)->fP<=j->wI X h fP P bO aj r b8 p an t->nz X h bx r dN->cE X h bg E v->pw X h r n->(∀e,bg e->dN e=none)->
  aW X 56 [.ptr bO 0,v] h j (ajP n X h j bx r an t dN bg E v) (ajO X h j r an t E):=by
 intro N
 induction N with
 |zero=>intro E a;omega
 |succ N ai=>
  intro E jF HX bg v h j dN n Hn aF bT qv bz TW qA
  have gz:∀e,bg e->P e:=λe B=>xm e (Hn e B)
  have af6:=HX
  rw[fi.eq]at af6
  obtain⟨bw,At⟩:=af6
  refine zx au (amp X) ?_
  rw[amq]
  unfold aaF
  obtain⟨b,aS,cO,br,rfl,ag,Es,a7,iz,cC,has⟩:=azl bz
  have g6:=bT.a6
  have bq:=bT.bq
  have od:=bq b (gz b ag)
  have d2:=cC.len
  have uR:=has.len
  rw[Zi,uR]at d2
  have nb:E.args.length<=300000:=by have:=cC.many;rw[Zi,uR]at this;exact this
  refine cL @iz @d2 ⟨?_⟩
  refine fp (λm H S' aP=>∃(T:Nat) (s:D) (cw:List Nat) (yv:List er) (IN:Bool) (jt:Nat->Option D) (qj:Nat->Prop),H.g 0=some (.ptr bO 0)/\H.g 1=some (.ptr b 0)/\H.g 5=some s/\H.g 6=some (.bool IN)/\H.g 15=some aS/\H.g 16=some (.Z (E.args.length:Int))/\H.g 17=some (.Z (T:Int))/\T+m=E.args.length
   /\gw X S' s 3 (p8 yv).flatten cw/\(∀e∈cw,j<=e/\e<aP)/\(IN=true->yv.length=T)/\yv.length<=T
   /\wV an t E.args=(match wV an t (E.args.drop T)with| .error F=> .error F| .ok (bM,one)=> .ok (yv++bM,IN&&one))
   /\nz X S' bx r jt/\(∀e,¬bg e->jt e=dN e)/\jt b=dN b/\cg X [r] h j S' aP
   /\(∀e,qj e->bg e/\e≠b)/\dz X S' qj (E.args.drop T) (br.drop T)/\lp X S' an t jt (λe=>(bg e/\e≠b)/\¬qj e) (λe=>dx j aP e/\e∉cw) (E.args.take T) (br.take T)/\pw X S' r (n+ut (E.args.take T))/\∀e,qj e->jt e=none)
   E.args.length ⟨0, .aT,[],[],true,dN,λe=>bg e/\e≠b,be,be,be,be,be,be,fO,Zo, .inl (.inl ⟨rfl,rfl,rfl⟩),Zs,λ_=>rfl,Zj _,by
    rw[Yb];cases wV an t E.args with
    |error F=>rfl
    |ok x=>obtain⟨bM,one⟩:=x;simp,qv,λ_ _=>rfl,rfl,cg.refl _ _ _,λ_ a=>a,by simpa using has,by rw[Z6,Z6,lp],by rw[Z6,apD];exact TW,λe B=>qA e B.1⟩ ?_
  rintro m H aJ aR ⟨T,s,cw,yv,IN,V0,qj,t0,t1,t5,t6,qS,qT,C0,bJ,aD,eU,uP,aDS,nH,aeg,HA,UE,du,y2,rn,Ci,aei,KU⟩
  have fC:=du.le
  have bC:=bT.fr du aF
  have nl:∀e,P e->U X aJ e=U X h e:=λe B=>by have:=bq e B;exact du.aa e Zo (by simp[this.2.2])
  have afw:=Es.aa (nl b (gz b ag))
  cases m with
  |zero=>
   have d:=zr T E.args.length
   have aus:T=E.args.length:=Zo
   rw[ZD Zo,wV]at nH
   simp only[Yv,YV]at nH
   have o9:=ac1 an t E
   rw[nH]at o9
   simp only[]at o9
   have an5:aI X aJ (.ptr b 1)=some (.Z E.at_):=zB (nl b (gz b ag)) a7
   cases IN with
   |false=>
    rw[Zp rfl]at o9
    refine ih @C0 @qT @d @t6 @t1 @an5 ⟨?_⟩
    refine(J6 au Zo E.at_).mono (λ_ _ _ a=>a) ?_
    rintro ac a1 bn ⟨rfl,ck⟩
    exact⟨_,o9,rfl,du.trans (cg.of ck)⟩
   |true=>
    rw[Zh Zd]at o9
    have OH:∀e,(P e\/(j<=e/\e<aR))->e<aR:=λe B=>by
     rcases B with a|a
     ·have:=bq e a;omega
     ·exact a.2
    refine et @C0 @qT @d @t6 @t0 @t1 @t5 ⟨?_⟩
    refine(aAX (P:=λe=>P e\/(j<=e/\e<aR)) au ez Zo (zq bT.lc) bC.oW (bC.wB.aa (λ_ _=>rfl) (λe a=> .inl a)) (bC.prog.aa (λ_ _=>rfl) (λe a=> .inl a)) aY OH bo (cE.lift (λe B=> .inl (gz e B)) _ _ (cE.aa (λe B=>nl e (gz e B)) _ _ bz)) bw (uP rfl▸aus) aD Zo (λe B=> .inr (eU e B))).Zm ?_
    rintro ac a1 bn ⟨w,rfl,pc,Lv,ck⟩
    have jf:=ck.le
    have eg:=du.trans (cg.of (X:=[r]) ck)
    have ad0:=bT.fr eg aF
    have iT:∀e,P e->U X a1 e=U X h e:=λe B=>by have:=bq e B;exact eg.aa e Zo (by simp[this.2.2])
    cases hr:(lE an t E yv).2 with
    |false=>
     rw[Zp hr]at o9
     have Ni:aI X a1 (.ptr b 1)=some (.Z E.at_):=zB (iT b (gz b ag)) a7
     refine cL @t1 @Ni ⟨?_⟩
     refine(J6 au Zo E.at_).mono (λ_ _ _ a=>a) ?_
     rintro ac bA cv ⟨rfl,cW⟩
     exact⟨_,o9,rfl,eg.trans (cg.of cW)⟩
    |true=>
     rw[Zh (by rw[hr];decide)]at o9
     have dH:=ad0.oW.dH
     have FP:=ad0.FP
     refine fW @t0 @t1 @dH @FP ⟨?_⟩
     have BV:nz X a1 bx r V0:=aeg.aa (ck.aa r (zq bT.CD)) (λe B=>ck.aa e (zq (bq e (xm e B))))
     obtain⟨bA,bi,TV,d1⟩:=ayq (j:=bn) bT.Iq BV (afw.aa (ck.aa b Zo)) (Hn b ag) od.1 w
     have OE:=ayr bT.Iq BV (aei.aa (ck.aa r (zq bT.CD))) (afw.aa (ck.aa b Zo)) od.1 (by rw[UE];exact qA b ag) bi
     rw[ZB Zo]at OE
     refine j8 bi ?_
     refine cI ⟨?_⟩
     have eG:cg X [r] h j bA bn:=⟨eg.le,λe J Q=>by rw[d1 e (by simpa using Q)];exact eg.aa e J Q⟩
     have mo:∀e,P e->U X bA e=U X h e:=λe B=>by have:=bq e B;exact eG.aa e Zo (by simp[this.2.2])
     have agu:∀e,j<=e->e<bn->U X bA e=U X a1 e:=λe J Q=>d1 e (zq bT.CD)
     rw[ZB Zo,ZB Zo]at Ci
     have af3:nC X bA (dx j bn) w (lE an t E yv).1:=Lv.aa (λe B=>agu e (zq B.1) B.2) (λe B=>⟨zq B.1,B.2⟩)
     refine⟨_,_,o9,pc,af3,TV,λe B=> ?_,oR.mk' ag (zB (mo b (gz b ag)) iz) (cC.aa λe B=>mo e (gz e B)) o9 Zs pc af3 (lp.aa (λe B=> ?_) (λe B=> ?_) (λe B=> ?_) (λe B=>B.1.1) (λe B=>⟨B.1.1,zq B.1.2⟩) _ _ Ci),eG,by rw[apC];exact OE⟩
     ·have:e≠b:=λE=>B (E▸ag)
      simp only[this,ZC];exact HA e B
     ·rw[mo e (gz e B.1.1),nl e (gz e B.1.1)]
     ·rw[agu e B.1.1 (zq B.1.2),ck.aa e B.1.2]
     ·simp only[B.1.2,ZC]
  |succ m=>
   have d:=zs T E.args.length
   have bD:=zv T
   obtain⟨F,aA⟩:=zt E.args T
   have aE:E.args.drop T=F::E.args.drop (T+1):=by
    obtain⟨ae,B⟩:=Zb.1 aA
    rw[Zr ae,B]
   rw[aE]at rn nH
   unfold dz at rn
   obtain⟨w,nx,z,PK,BY,vQ,Ul⟩:=rn
   have Vj:br[T]? =some w:=by
    have:(br.drop T)[0]? =some w:=by rw[PK];rfl
    simpa using this
   have av1:nx=br.drop (T+1):=by
    obtain⟨ae,B⟩:=Zb.1 Vj
    rw[Zr ae]at PK
    simp only[YI]at PK
    exact PK.2.symm
   subst av1
   obtain⟨bK,b1,cM⟩:=(cC.aa λe B=>nl e (gz e B)).one Vj
   have kk:E.args.take (T+1)=E.args.take T++[F]:=by rw[ZU,aA];rfl
   have so:br.take (T+1)=br.take T++[w]:=by rw[ZU,Vj];rfl
   have eN:=W1 (Zn aA)
   have rk:∀e,z e->bg e/\e≠b:=λe B=>y2 e (BY e B)
   rw[wV]at nH
   refine et @C0 @qT @qS @t0 @d @bK @b1 ⟨?_⟩
   refine(ai F Zo (ajp At (Zn aA)) z w aJ aR V0 (n+ut (E.args.take T)) (λe B=>Hn e (rk e B).1) Zo bC aeg vQ aei (λe B=>KU e (BY e B))).mono ?_ (λac S' aP a=>by
    obtain⟨fu,J,Q,ak⟩:=a
    rw[J]at nH
    simp only[]at nH
    exact⟨fu,by rw[ac1,nH],Q,du.trans ak⟩)
   rintro ac a1 bn ⟨row,V1,fb,HV,Lu,BV,En,af2,eg,OD⟩
   have jf:=eg.le
   have aec:=du.trans eg
   rw[fb]at nH
   simp only[]at nH
   have auE:=bT.CD
   have PX:∀e,j<=e->e<aR->U X a1 e=U X aJ e:=λe J Q=>eg.aa e Q Zx
   have iT:∀e,P e->U X a1 e=U X aJ e:=λe B=>by have:=bq e B;exact eg.aa e Zo (by simp[this.2.2])
   have OM:V1 b=V0 b:=En b (λa=>(rk b a).2 rfl)
   have qD:dz X a1 (λe=>qj e/\¬z e) (E.args.drop (T+1)) (br.drop (T+1)):=dz.aa (λe B=>iT e (gz e (y2 e B.1).1)) _ _ Ul
   by_cases eT:row.length=1
   ·obtain⟨x,rfl⟩:∃x,row=[x]:=by
     match row,eT with
     |[x],_=>exact⟨x,rfl⟩
    obtain⟨c0,sF,hA,gB,i3,i4⟩:=Lu.rd.fI 0 x rfl
    have hA:gt 3 ac (.Z 0)=some (.ptr c0 sF):=hA
    have UG:gC ac=some (.Z 1):=Lu.rd.len
    have aB:decide ((1:Int)≠1)=false:=by decide
    simp only[]at nH
    refine ih @UG @aB @t5 @hA @i3 eD.eq_1 ⟨?_⟩
    generalize e1:Go.ba.bi X a1 bn _=bA
    have dF:U X bA bn=zu (eD x) 3:=by rw[<-e1,bb Zo];rfl
    have d1:∀e,e<bn->U X bA e=U X a1 e:=λe B=>by rw[<-e1,aC Zo Zo]
    clear e1
    obtain⟨eX,bN,gL,iE,Ey,y6,nd⟩:=Xj (j:=bn+1) (aD.aa (S':=bA) (λe B=>by have:=eU e B;rw[d1 e Zo,PX e this.1 this.2])) dF Zo Zo (λe B=>zq (eU e B)) 1
    refine j8 iE ?_
    refine cL @C0 @bD ⟨?_⟩
    have dY:∀e,e<bn->e∉cw->U X bN e=U X a1 e:=λe J Q=>by rw[nd e Zo Q,d1 e J]
    have ER:∀e,e<j->e∉cw:=λe J Q=>zq (eU e Q)
    refine⟨m,Zo,T+1,eX,gL,yv++[x],IN,V1,λe=>qj e/\¬z e,aZ t0,aZ t1,be,aZ t6,aZ qS,aZ qT,be,Zo,Ey,λe B=> ?_,λa=>by have:=uP a;simp;omega,Zx, ?_, ?_,λe B=> ?_,by rw[OM];exact UE, ?_,λe B=>y2 e B.1, ?_, ?_,by rw[kk,aci, <-ZJ];exact OD.aa (dY r Zo (ER r Zo)),λe B=>(En e B.2).trans (KU e B.1)⟩
    ·rcases y6 e B with rfl|a
     ·omega
     ·have:=eU e a;omega
    ·rw[nH]
     cases wV an t (E.args.drop (T+1))with
     |error F=>rfl
     |ok p=>obtain⟨bM,one⟩:=p;simp
    ·exact BV.aa (dY r Zo (ER r Zo)) (λe B=>by have:=bq e (xm e B);exact dY e Zo (ER e Zo))
    ·exact(En e (λa=>B (rk e a).1)).trans (HA e B)
    ·exact⟨Zo,λe J Q=>by rw[dY e Zo (ER e J)];exact aec.aa e J Q⟩
    ·exact dz.aa (λe B=>by have:=bq e (gz e (y2 e B.1).1);exact dY e Zo (ER e Zo)) _ _ qD
    ·have as7:∀e,aR<=e->e<bn->e∉gL:=λe J Q a=>by
      rcases y6 e a with rfl|a
      ·omega
      ·have:=eU e a;omega
     have as8:∀e,e<aR->e∉cw->e∉gL:=λe J Q a=>by
      rcases y6 e a with rfl|a
      ·omega
      ·exact Q a
     have awR:∀e,(bg e/\e≠b)/\¬qj e->U X bN e=U X aJ e:=λe B=>by
      have:=bq e (gz e B.1.1)
      rw[dY e Zo (ER e Zo),iT e (gz e B.1.1)]
     have awS:∀e,dx j aR e/\e∉cw->U X bN e=U X aJ e:=λe B=>by
      have J:=B.1.1;have Q:=B.1.2
      rw[dY e Zo B.2,PX e J Q]
     have awT:∀e,z e->U X bN e=U X a1 e:=λe B=>by
      have:=bq e (gz e (rk e B).1);exact dY e Zo (ER e Zo)
     have awU:∀e,dx aR bn e->U X bN e=U X a1 e:=λe B=>dY e B.2 (λa=>by have:=eU e a;have:=B.1;omega)
     rw[kk,so]
     exact lp.snoc (oR.aa awT awU (λ_ _=>rfl) (λe B=>⟨rk e B,λa=>a.2 B⟩) (λe B=>⟨⟨zq B.1,zq B.2⟩,as7 e B.1 B.2⟩) F w af2) (lp.aa awR awS (λe B=>En e (λa=>B.2 (BY e a))) (λe B=>⟨B.1,λa=>B.2 a.1⟩) (λe B=>⟨⟨B.1.1,zq B.1.2⟩,as8 e B.1.2 B.2⟩) _ _ Ci)
   ·have UG:=Lu.rd.len
    have aB:decide ((row.length:Int)≠1)=true:=by simp only[Zg];omega
    refine fW @UG @aB @C0 @bD ⟨?_⟩
    refine⟨m,Zo,T+1,s,cw,yv,false,V1,λe=>qj e/\¬z e,aZ t0,aZ t1,aZ t5,be,aZ qS,aZ qT,be,Zo,aD.aa (λe B=>by have:=eU e B;exact PX e this.1 this.2),λe B=>zq (eU e B),(λa=>by cases a),Zo, ?_,BV,λe B=>(En e (λa=>B (rk e a).1)).trans (HA e B),by rw[OM];exact UE,aec,λe B=>y2 e B.1,qD, ?_,by rw[kk,aci, <-ZJ];exact OD,λe B=>(En e B.2).trans (KU e B.1)⟩
    ·rw[nH]
     cases wV an t (E.args.drop (T+1))with
     |error F=>rfl
     |ok p=>
      obtain⟨bM,one⟩:=p
      match row,eT with
      |[],_=>simp
      |[_],a=>exact absurd rfl a
      |_::_::_,_=>simp
    ·rw[kk,so]
     exact lp.snoc (oR.aa (λ_ _=>rfl) (λ_ _=>rfl) (λ_ _=>rfl) (λe B=>⟨rk e B,λa=>a.2 B⟩) (λe B=>⟨⟨zq B.1,B.2⟩,λa=>by have:=eU e a;have:=B.1;omega⟩) F w af2) (lp.aa (λe B=>iT e (gz e B.1.1)) (λe B=>PX e B.1.1 B.1.2) (λe B=>En e (λa=>B.2 (BY e a))) (λe B=>⟨B.1,λa=>B.2 a.1⟩) (λe B=>⟨⟨B.1.1,zq B.1.2⟩,B.2⟩) _ _ Ci)
end
def q7:List f8->Nat
 |[]=>0
 |aj::k=>DH aj.right+q7 k
def apF:∀k bM:List f8,q7 (k++bM)=q7 k+q7 bM:=by
 intro k
 induction k with
 |nil=>intro bM;simp[q7]
 |cons F k ai=>intro bM;rw[YF,q7,q7,ai];omega
def apG(aj:f8)(k:List f8):q7 (k++[aj])=q7 k+DH aj.right:=by rw[apF];simp[q7]
def Kb{α:Type}{f:α->Option Int}{k:List α}{i:Nat}{x:α}(a:k[i]? =some x)(aY:(k.take i).findSome? f=none):(k.take (i+1)).findSome? f=f x:=by
 rw[ZU,a,List.findSome?_append,aY]
 simp
def N4{α:Type}{f:α->Option Int}{k:List α}{i:Nat}{x:α}{F:Int}(a:k[i]? =some x)(aY:(k.take i).findSome? f=none)(ae:f x=some F):k.findSome? f=some F:=by
 have E:k=k.take (i+1)++k.drop (i+1):=(List.take_append_drop _ _).symm
 rw[E,List.findSome?_append,Kb a aY,ae]
 rfl
section
variable{X:ch}{h S' aK aJ:R af}{j am aM aR:Nat}{P eS bx:Nat->Prop}
def wS(X:ch)(h:R af)(an:List Go.aQ.Node)(t:aX->Option c8)(dN:Nat->Option D)(P eS:Nat->Prop):List f8->List (List D)->Prop
 |[],bL=>bL=[]
 |aj::cT,bL=>∃row h8 v,bL=row::h8/\row[3]? =some v/\xa an t aj=none/\oR X h an t dN P eS aj.right v/\wS X h an t dN P eS cT h8
def wS.aa{an:List Go.aQ.Node}{t:aX->Option c8}{dN jt:Nat->Option D}{rX r2:Nat->Prop}(y:∀e,P e->U X S' e=U X h e)(tL:∀e,eS e->U X S' e=U X h e)(az:∀e,P e->jt e=dN e)(aw:∀e,P e->rX e)(B:∀e,eS e->r2 e):∀{cT:List f8}{bL:List (List D)},wS X h an t dN P eS cT bL->wS X S' an t jt rX r2 cT bL:=by
 intro cT
 induction cT with
 |nil=>intro bL a;exact a
 |cons aj cT ai=>
  rintro bL ⟨row,h8,v,J,Q,ak,ay,bt⟩
  exact⟨row,h8,v,J,Q,ak,oR.aa y tL az aw B _ _ ay,ai bt⟩
def wS.snoc{an:List Go.aQ.Node}{t:aX->Option c8}{dN:Nat->Option D}{aj:f8}{row:List D}{v:D}(Q:row[3]? =some v)(ak:xa an t aj=none)(ay:oR X h an t dN P eS aj.right v):∀{cT:List f8}{bL:List (List D)},wS X h an t dN P eS cT bL->wS X h an t dN P eS (cT++[aj]) (bL++[row]):=by
 intro cT
 induction cT with
 |nil=>rintro bL rfl;exact⟨row,[],v,rfl,Q,ak,ay,rfl⟩
 |cons F cT ai=>
  rintro bL ⟨t2,h8,w,rfl,cq,cS,d1,dY⟩
  exact⟨t2,h8++[row],w,rfl,cq,cS,d1,ai dY⟩
structure Gg(X:ch)(h:R af)(fP:Nat)(P:Nat->Prop)(bO aj r:Nat)(p:D)(an:List Go.aQ.Node):Prop where
 a6:(o X).a6<=fP
 lc:bO<fP
 Ig:aj<fP
 CD:r<fP
 Iq:(o X).a6<=r
 mu:(o X).a6<=bO
 DJ:bO≠r
 qr:aj≠r
 JP:aj≠bO
 bq:∀e,P e->(o X).a6<=e/\e<fP/\e≠r/\e≠bO
 Ke:∃c,U X h bO=some (.cells c 3 .own)/\c.get 0=some (.ptr aj 0)/\c.get 1=some p
 FP:aI X h (.ptr aj 0)=some (.map r)
 prog:oO X h P an p
def Gi(X:ch)(h:R af)(an:List Go.aQ.Node)(dN:Nat->Option D)(P eS:Nat->Prop)(g:Go.aQ.Node)(row:List D):Prop:=Fg an g=none/\∃c5 dt aS eM bZ cu c0 fE bL,row=[.str g.name, .Z g.at_,c5,dt,aS,eM]/\dL X h P bZ c5 8 (g.d3.map d6)/\dL X h P cu dt 8 (g.out.map d6)/\dL X h P c0 aS 8 (g.loc.map d6)/\dL X h P fE eM 4 bL/\pu X h P g.eqs bL/\wS X h an (dl g) dN P eS g.eqs bL
structure ajN(n:Nat)(X:ch)(eF:R af)(j bn:Nat)(bx bg:Nat->Prop)(r:Nat)(an:List Go.aQ.Node)(t:aX->Option c8)(dN:Nat->Option D)(eqs:List f8)(bL:List (List D))(T:Nat)(S':R af)(aP:Nat):Prop where
 none_:(eqs.take T).findSome? (xa an t)=none
 fr:cg X [r] eF bn S' aP
 at_:∃jt qj,nz X S' bx r jt/\(∀e,¬bg e->jt e=dN e)/\(∀e,qj e->bg e)/\pu X S' qj (eqs.drop T) (bL.drop T)/\wS X S' an t jt (λe=>bg e/\¬qj e) (dx j aP) (eqs.take T) (bL.take T)/\pw X S' r (n+q7 (eqs.take T))/\∀e,qj e->jt e=none
set_option maxRecDepth 100000 in
def ayN(au:di X)(ez:Dl X){an:List Go.aQ.Node}{bO Mo r fP:Nat}{p:D}(aY:an≠[])(bo:∀g∈an,g.d3.length<=100000/\g.out.length<=100000)(xm:∀e,bx e->P e){bg:Nat->Prop}(Hn:∀e,bg e->bx e)(aF:fP<=j)(bT:Gg X h fP P bO Mo r p an){dN:Nat->Option D}(qv:nz X h bx r dN){n:Nat}(TW:pw X h r n)(qA:∀e,bg e->dN e=none)
 {g:Go.aQ.Node}{row:List D}(bP:oM X h bg g row)(tn:∀aj∈g.eqs,fi kt aj.right)(qC:(gy g).length<=300000):
 aW X 31 [.ptr bO 0, .agg row] h j (λac S' am=>ac= .tuple []/\(∃c,U X S' bO=some (.cells c 3 .own)/\c.get 0=some (.ptr Mo 0)/\c.get 1=some p)/\∃jt,nz X S' bx r jt/\(∀e,¬bg e->jt e=dN e)/\Gi X S' an jt bg (dx j am) g row/\cg X [r,bO] h j S' am/\pw X S' r (n+q7 g.eqs))
  (λac S' am=>∃F,Fg an g=some F/\ac=pG 26 F/\cg X [r,bO] h j S' am):=by
 refine zx au (alF X) ?_
 rw[alG]
 unfold aaf
 have g6:=bT.a6
 have bq:=bT.bq
 have auE:=bT.CD;have UB:=bT.lc;have aEr:=bT.Ig
 have qw:∀e,bg e->P e:=λe B=>xm e (Hn e B)
 have KY:=bP
 obtain⟨c5,dt,aS,eM,bZ,cu,c0,fE,bL,rfl,mH,k5,oj,jp,e6⟩:=bP
 have avD:=(km mH.len).1
 have avH:=(km k5.len).1
 have hJ:=(km oj.len).1
 have aEV:=(km jp.len).1
 refine q6 ?_
 generalize de:Go.ba.bi X h j _=aK
 have bK:U X aK j=zu [.str g.name, .Z g.at_,c5,dt,aS,eM] 6:=by rw[<-de,bb Zo];rfl
 have bH:bf X h j aK (j+1):=by rw[<-de];exact dA
 clear de
 refine ce (bp bK) ⟨?_⟩
 have bW:∀e,P e->U X aK e=U X h e:=λe B=>bH.aa e (zq (bq e B))
 refine(Qo (j:=j+1) (h:=aK) au Zo (λe B=>zq (bq e (qw e B))) (KY.aa (bg:=bg) (λe B=>bW e (qw e B)) (λ_ a=>a)) qC).Zm ?_
 rintro ac aJ aR ⟨b8,kS,AU,GB,rfl,EC,xF,tp,pR,_,_,bC⟩
 have fC:=bC.le
 have hp:=bH.trans bC
 obtain⟨c,ads,adt,adu⟩:=bT.Ke
 have ii:U X aJ bO=some (.cells c 3 .own):=by rw[hp.aa bO Zo];exact ads
 have Pk:=bT.mu
 refine pI ⟨?_⟩
 generalize e0:Go.ba.bi X aJ bO _=a1
 have arW:∃f9,U X a1 bO=some (.cells f9 3 .own)/\f9.get 0=some (.ptr Mo 0)/\f9.get 1=some p/\f9.get 2=some (.ptr b8 0):=⟨dT c 2 [.ptr b8 0],by rw[<-e0,bb Pk];rfl,by rw[rQ,R.kN];exact adt,by rw[rQ,R.kN];exact adu,yd c 2 _⟩
 have cS:∀e,e≠bO->U X a1 e=U X aJ e:=λe B=>by rw[<-e0,aC Pk B]
 clear e0 ii
 have Cq:∀e,e<j->e≠bO->U X a1 e=U X h e:=λe J Q=>by rw[cS e Q,hp.aa e J]
 have iT:∀e,P e->U X a1 e=U X h e:=λe B=>by have:=bq e B;exact Cq e Zo Zo
 have eg:cg X [r,bO] h j a1 aR:=⟨Zo,λe J Q=>Cq e J (by simp at Q;exact Q.2)⟩
 have afZ:ia X a1 (λe=>P e\/dx (j+1) aR e) (.ptr b8 0) (dl g):=⟨b8,kS,rfl, .inr EC, .inr xF,zB (cS b8 (zq EC.1)) tp,pR.aa (cS kS (zq xF.1))⟩
 have xj:wI X a1 aR (λe=>P e\/dx (j+1) aR e) bO Mo r (.ptr b8 0) p an (dl g):=⟨Zo,Zo,Zo,Zo,bT.Iq,bT.DJ,bT.qr,λe B=>by
  rcases B with a|a
  ·have:=bq e a;exact⟨this.1,Zo,this.2.2.1⟩
  ·have J:=a.1;have Q:=a.2;exact⟨Zo,Q,Zo⟩,arW,zB (Cq Mo Zo bT.JP) bT.FP,afZ,bT.prog.aa iT (λ_ a=> .inl a)⟩
 have xd:U X a1 j=zu [.str g.name, .Z g.at_,c5,dt,aS,eM] 6:=by rw[cS j Zo,bC.aa j Zo];exact bK
 have BV:nz X a1 bx r dN:=qv.aa (Cq r Zo (λE=>bT.DJ E.symm)) (λe B=>iT e (xm e B))
 have OD:pw X a1 r n:=TW.aa (Cq r Zo (λE=>bT.DJ E.symm))
 generalize PJ:dl g=t at*
 have HE:Fg an g=(match NG t g with|some F=>some F|none=>g.eqs.findSome? (xa an t)):=by unfold Fg;rw[PJ];rfl
 clear bH bC hp bW pR tp afZ bK ads adt adu
 have atx:fv [.aT, .aT, .aT] [(0,1,c5),(1,1,dt),(2,1,aS)]=some (.agg [c5,dt,aS]):=by
  simp[fv,uy,uz,nY,avD,avH,hJ]
 refine o1 (bp xd) ⟨?_⟩
 refine f7 atx ?_
 refine jW (λH S' aP=>H.g 0=some (.ptr bO 0)/\H.g 3=some (.ptr j 0)/\NG t g=none/\bf X a1 aR S' aP) (λT bJ=> ?_) ?_
 ·have HR:∀y,y<3->∃s b,([c5,dt,aS]:List D)[y]? =some s/\dL X h bg b s 8 ((mW g y).map d6):=λy aH=>by
   match y,aH with
   |0,_=>exact⟨c5,bZ,rfl,mH⟩
   |1,_=>exact⟨dt,cu,rfl,k5⟩
   |2,_=>exact⟨aS,c0,rfl,oj⟩
  refine fp (λm H S' aP=>∃(y:Nat),H.g 0=some (.ptr bO 0)/\H.g 3=some (.ptr j 0)/\H.g 25=some (.agg [c5,dt,aS])/\H.g 26=some (.Z (y:Int))/\y+m=3/\((gy g).take (oA g y)).findSome? (λx=>if x.2.on≠[]/\(p2 t x.2.on).b=false then some x.2.eP else none)=none/\bf X a1 aR S' aP)
   3 ⟨0,be,be,be,fO,Zo,by simp[oA],bf.refl _ _⟩ ?_
  rintro m H bA cv ⟨y,t0,t3,mZ,lI,aH,lY,cW⟩
  have iG:=cW.le
  cases m with
  |zero=>
   have d:decide ((y:Int)<3)=false:=by simp only[Zc];omega
   have mI:y=3:=Zo
   subst mI
   rw[<-DQ,YX]at lY
   refine cL @lI @d ⟨?_⟩
   exact bJ _ _ _ ⟨aZ t0,aZ t3,lY,cW⟩
  |succ m=>
   have d:decide ((y:Int)<3)=true:=by simp only[Zg];omega
   obtain⟨eX,dK,tF,Cc⟩:=HR y Zo
   have O7:uY false 3 1 (.agg [c5,dt,aS]) (.Z (y:Int))=some eX:=by
    have ak:Nat.blt y 3=true:=by simp[Nat.blt];omega
    simp only[uY,sz,ak,ff,ls,qL,Z5]
    exact tF
   have aff:=Cc.len
   have auM:=Cc.many
   rw[Zi]at aff auM
   refine gb @lI @mZ @d @O7 @aff ⟨?_⟩
   refine fp (λm H S' aP=>∃(i:Nat),H.g 0=some (.ptr bO 0)/\H.g 3=some (.ptr j 0)/\H.g 25=some (.agg [c5,dt,aS])/\H.g 26=some (.Z (y:Int))/\H.g 29=some eX/\H.g 30=some (.Z ((mW g y).length:Int))/\H.g 31=some (.Z (i:Int))/\i+m=(mW g y).length/\((gy g).take (oA g y+i)).findSome? (λx=>if x.2.on≠[]/\(p2 t x.2.on).b=false then some x.2.eP else none)=none/\bf X a1 aR S' aP)
    (mW g y).length ⟨0,aZ t0,aZ t3,aZ mZ,aZ lI,be,be,fO,Zo,lY,cW⟩ ?_
   clear t0 t3 mZ lI lY
   rintro gl H bN cf ⟨i,t0,t3,mZ,lI,FN,C1,QW,aN,lY,dR⟩
   have iH:=dR.le
   cases gl with
   |zero=>
    have d:=zr i (mW g y).length
    have bD:=zv y
    refine gb @QW @C1 @lI @d @bD ⟨?_⟩
    refine⟨m,Zo,y+1,aZ t0,aZ t3,aZ mZ,be,Zo, ?_,dR⟩
    rw[ahD g Zo]
    have:i=(mW g y).length:=Zo
    rw[<-this]
    exact lY
   |succ gl=>
    have d:=zs i (mW g y).length
    have bD:=zv i
    obtain⟨aB,aE⟩:=zt (mW g y) i
    have tz:=Cc.fI i (by rw[Zi];omega)
    have awW:∀e,bg e->U X bN e=U X h e:=λe B=>by have:=bq e (qw e B);rw[dR.aa e Zo,iT e (qw e B)]
    have afM:=(Cc.aa awW).row (i:=i) (r:=d6 aB) Zd (by rw[Zw,aE];rfl)
    have je:d6 aB=[.str aB.name, .Z aB.at_, .bool aB.ty.b, .bool aB.ty.s, .Z aB.ty.w, .str aB.on, .Z aB.eP, .bool aB.no]:=rfl
    rw[je]at afM
    have Ur:=acN g (y:=y) Zo aE
    have aDR:=xj.fr (cg.of (X:=[r]) dR) (Zj _)
    refine ih @QW @C1 @FN @d @tz @afM ⟨?_⟩
    generalize gN:Go.ba.bi X _ cf _=bY
    have d0:U X bY cf=zu [.str aB.name, .Z aB.at_, .bool aB.ty.b, .bool aB.ty.s, .Z aB.ty.w, .str aB.on, .Z aB.eP, .bool aB.no] 8:=by rw[<-gN,bb Zo];rfl
    have dk:∀e,e<cf->U X bY e=U X bN e:=λe B=>by rw[<-gN];exact zw
    clear gN
    have ej:bf X a1 aR bY (cf+1):=⟨Zo,λe B=>by rw[dk e Zo];exact dR.aa e B⟩
    have ad2:=xj.fr (cg.of (X:=[r]) ej) (Zj _)
    by_cases ml:aB.on=[]
    ·have cH:∀i:Decidable (aB.on≠[]), @decide (aB.on≠[]) i=false:=λi=>by simp[ml]
     refine ce (bp d0) ⟨?_⟩
     simp only[cH]
     refine cL @QW @bD ⟨?_⟩
     refine⟨gl,Zo,i+1,aZ t0,aZ t3,aZ mZ,aZ lI,aZ FN,aZ C1,be,Zo, ?_,ej.more Zo⟩
     rw[<-ZJ,Kb Ur lY]
     simp[ml]
    ·have cH:∀i:Decidable (aB.on≠[]), @decide (aB.on≠[]) i=true:=λi=>by simp[ml]
     refine ce (bp d0) ⟨?_⟩
     simp only[cH]
     refine cL @t0 (bp d0) ⟨?_⟩
     refine(Mf (j:=cf+1) (P:=λe=>P e\/dx (j+1) aR e) au Zo Zo ad2.oW.dI ad2.wB (λe B=>zq (xj.bq e B).2.1) aB.on).Zm ?_
     rintro ac cn d8 ⟨rfl,eA⟩
     have ng:=eA.le
     have Ov:=ej.trans (eA.ko Zo)
     have ek:U X cn cf=zu [.str aB.name, .Z aB.at_, .bool aB.ty.b, .bool aB.ty.s, .Z aB.ty.w, .str aB.on, .Z aB.eP, .bool aB.no] 8:=by rw[eA.aa cf Zo];exact d0
     cases ag:(p2 t aB.on).b with
     |true=>
      refine fW @N6 @ag @QW @bD ⟨?_⟩
      refine⟨gl,Zo,i+1,aZ t0,aZ t3,aZ mZ,aZ lI,aZ FN,aZ C1,be,Zo, ?_,Ov⟩
      rw[<-ZJ,Kb Ur lY]
      simp[ag]
     |false=>
      refine ed @N6 @ag (bp ek) ⟨?_⟩
      refine(J6 au Zo aB.eP).mono (λ_ _ _ a=>a) ?_
      rintro ac dC iw ⟨rfl,hx⟩
      have atL:NG t g=some aB.eP:=N4 Ur lY (by simp[ml,ag])
      exact⟨aB.eP,by rw[HE,atL],rfl,eg.trans (cg.of (Ov.trans hx))⟩
 ·rintro H bA cv ⟨t0,t3,pO,cW⟩
  have iG:=cW.le
  have eG:cg X [r,bO] h j bA cv:=eg.trans (cg.of cW)
  have TL:=xj.fr (cg.of (X:=[r]) cW) (Zj _)
  have Kd:U X bA j=zu [.str g.name, .Z g.at_,c5,dt,aS,eM] 6:=by rw[cW.aa j Zo];exact xd
  have mo:∀e,P e->U X bA e=U X h e:=λe B=>by have:=bq e B;rw[cW.aa e Zo,iT e B]
  have TV:nz X bA bx r dN:=BV.aa (cW.aa r Zo) (λe B=>by have:=bq e (xm e B);exact cW.aa e Zo)
  have OE:pw X bA r n:=OD.aa (cW.aa r Zo)
  have at2:pu X bA bg g.eqs bL:=e6.aa (λe B=>mo e (qw e B)) (λ_ a=>a)
  have j4:=e6.wide
  have d2:=jp.len
  have ik:=jp.many
  rw[j4.1]at d2 ik
  rw[pO]at HE
  simp only[]at HE
  clear BV xd iT bT qv KY
  show cz _ _
  refine ed @t3 (bp Kd) @d2 ⟨?_⟩
  refine fp (λm H S' aP=>∃(T:Nat),H.g 0=some (.ptr bO 0)/\H.g 52=some eM/\H.g 53=some (.Z (g.eqs.length:Int))/\H.g 54=some (.Z (T:Int))/\T+m=g.eqs.length/\ajN n X bA j cv bx bg r an t dN g.eqs bL T S' aP)
   g.eqs.length ⟨0,aZ t0,be,be,fO,Zo,⟨rfl,cg.refl _ _ _,dN,bg,TV,λ_ _=>rfl,λ_ a=>a,by simpa using at2,by rw[Z6,Z6];rfl,by rw[Z6];exact OE,qA⟩⟩ ?_
  clear t0 t3
  rintro m H bN cf ⟨T,t0,x7,qU,kG,bJ,fe⟩
  have dG:=fe.fr
  have iH:=dG.le
  have asQ:=TL.fr dG Zo
  obtain⟨V2,qj,BW,afe,y2,rn,Ci,Ea,KW⟩:=fe.at_
  have lY:=fe.none_
  clear fe
  cases m with
  |zero=>
   have d:=zr T g.eqs.length
   rw[ZB Zo]at lY Ea
   rw[ZB Zo,ZB Zo]at Ci
   refine ed @qU @kG @d ⟨?_⟩
   have se:cg X [r,bO] h j bN cf:=eG.trans (dG.down (Zj _) (λb ag=> .inl (by simp at ag;simp[ag])))
   have LL:∀e,bg e->U X bN e=U X h e:=λe B=>by have:=bq e (qw e B);exact se.aa e Zo (by simp;exact⟨this.2.2.1,this.2.2.2⟩)
   obtain⟨ku,z0,f1,fD,_⟩:=asQ.Ke
   exact⟨rfl,⟨ku,z0,f1,fD⟩,V2,BW,afe,⟨by rw[HE];exact lY,c5,dt,aS,eM,bZ,cu,c0,fE,bL,rfl,mH.aa LL,k5.aa LL,oj.aa LL,jp.aa LL,e6.aa LL (λ_ a=>a),by rw[PJ];exact Ci.aa (λ_ _=>rfl) (λ_ _=>rfl) (λ_ _=>rfl) (λe B=>B.1) (λ_ a=>a)⟩,se,Ea⟩
  |succ m=>
   have d:=zs T g.eqs.length
   have bD:=zv T
   obtain⟨aj,b3⟩:=zt g.eqs T
   have aE:g.eqs.drop T=aj::g.eqs.drop (T+1):=by
    obtain⟨ae,B⟩:=Zb.1 b3
    rw[Zr ae,B]
   rw[aE]at rn
   obtain⟨row,h8,z,cC,BY,tD,Ul⟩:=rn
   have Ew:bL[T]? =some row:=by
    have:(bL.drop T)[0]? =some row:=by rw[cC];rfl
    simpa using this
   have Cc:h8=bL.drop (T+1):=by
    obtain⟨ae,B⟩:=Zb.1 Ew
    rw[Zr ae]at cC
    simp only[YI]at cC
    exact cC.2.symm
   subst Cc
   obtain⟨qQ,sH,cX,dI,kF,rfl,it,mK,pa,rt⟩:=id tD
   obtain⟨iN,rfl,KS,pP⟩:=pa.ptr
   have rk:∀e,z e->bg e:=λe B=>y2 e (BY e B)
   have BX:∀e,P e->e<cv/\e≠r:=λe B=>by have:=bq e B;exact⟨Zo,this.2.2.1⟩
   have AB:∀e,P e->U X bN e=U X h e:=λe B=>by have:=BX e B;rw[dG.aa e this.1 (by simp[this.2]),mo e B]
   have dw:=jp.fI T (by rw[j4.1];omega)
   have hs:=(jp.aa (λe B=>AB e (qw e B))).row Zd Ew
   have kk:g.eqs.take (T+1)=g.eqs.take T++[aj]:=by rw[ZU,b3];rfl
   have xG:bL.take (T+1)=bL.take T++[[qQ,sH, .Z aj.at_, .ptr iN 0]]:=by rw[ZU,Ew];rfl
   refine ih @kG @qU @x7 @d @dw @hs ⟨?_⟩
   refine f7 (iJ (y:=4) (b:=cf) (V:=0) (n:=4) (bb Zo) Zo rfl Zd Zd rt) ?_
   generalize gN:Go.ba.bi X _ cf _=bY
   have d0:U X bY cf=zu [qQ,sH, .Z aj.at_, .ptr iN 0] 4:=by rw[<-gN,bb Zo];rfl
   have dk:∀e,e<cf->U X bY e=U X bN e:=λe B=>by rw[<-gN];exact zw
   clear gN
   have eC:cg X [r] bA cv bY (cf+1):=⟨Zo,λe J Q=>by rw[dk e Zo];exact dG.aa e J Q⟩
   have asR:=TL.fr eC Zo
   have Hk:nz X bY bx r V2:=BW.aa (dk r Zo) (λe B=>by have:=BX e (xm e B);exact dk e Zo)
   have at3:cE X bY z aj.right (.ptr iN 0):=cE.aa (λe B=>by have:=BX e (qw e (rk e B));exact dk e Zo) _ _ pa
   refine cL @t0 (bp d0) ⟨?_⟩
   refine(aq2 (bx:=bx) (P:=λe=>P e\/dx (j+1) aR e) (fP:=aR) au ez aY bo (λe B=> .inl (xm e B)) (SizeOf.sizeOf aj.right+1) aj.right (Yh _) (tn aj (Zn b3)) z (.ptr iN 0) bY (cf+1) V2 (n+q7 (g.eqs.take T)) (λe B=>Hn e (rk e B)) Zo asR Hk at3 (Ea.aa (dk r Zo)) (λe B=>KW e (BY e B))).mono ?_ ?_
   ·rintro ac cn d8 ⟨eK,V3,jT,HV,Lu,Hl,HB,avT,en,OF⟩
    have ng:=en.le
    have aee:cg X [r] bA cv cn d8:=eC.trans (en.down Zo (λb ag=> .inl ag))
    have asS:=TL.fr aee Zo
    have ek:U X cn cf=zu [qQ,sH, .Z aj.at_, .ptr iN 0] 4:=by rw[en.aa cf Zo Zx];exact d0
    have afg:=it.len
    have auN:=it.many
    simp only[fL,Zi]at afg auN
    have awX:∀e,bg e->U X cn e=U X bN e:=λe B=>by have:=BX e (qw e B);rw[en.aa e Zo (by simp[this.2]),dk e Zo]
    refine cL (bp ek) @afg ⟨?_⟩
    refine fp (λm H S' aP=>∃(i:Nat) (s:D) (cw:List Nat),H.g 0=some (.ptr bO 0)/\H.g 9=some (.ptr cf 0)/\H.g 10=some ac/\H.g 11=some s/\H.g 52=some eM/\H.g 53=some (.Z (g.eqs.length:Int))/\H.g 54=some (.Z (T:Int))/\H.g 63=some qQ/\H.g 64=some (.Z (aj.left.length:Int))/\H.g 65=some (.Z (i:Int))/\i+m=aj.left.length/\gw X S' s 3 (p8 ((aj.left.take i).map (p2 t))).flatten cw/\(∀e∈cw,d8<=e/\e<aP)/\bf X cn d8 S' aP)
     aj.left.length ⟨0, .aT,[],aZ t0,be,be,be,aZ x7,aZ qU,aZ kG,be,be,fO,Zo, .inl (.inl ⟨rfl,rfl,rfl⟩),Zs,bf.refl _ _⟩ ?_
    clear t0 x7 qU kG
    rintro gl H dC iw ⟨i,s,cw,t0,t9,oE,pn,x7,qU,kG,C2,u7,ME,aN,aD,eU,hx⟩
    have Ae:=hx.le
    have ad6:=asS.fr (cg.of (X:=[r]) hx) Zo
    have fN:U X dC cf=zu [qQ,sH, .Z aj.at_, .ptr iN 0] 4:=by rw[hx.aa cf Zo];exact ek
    have VD:∀e,bg e->U X dC e=U X bN e:=λe B=>by have:=BX e (qw e B);rw[hx.aa e Zo,awX e B]
    cases gl with
    |zero=>
     have d:=zr i aj.left.length
     rw[ZB Zo]at aD
     obtain⟨apd,bw⟩:=aD.rH (P:=λe=>e<iw) Zd (MM _) (by simp[p8];omega) (λe B=>(eU e B).2)
     have uS:nC X dC (λe=>e<iw) s (aj.left.map (p2 t)):=⟨apd,bw⟩
     have At:=uS.rd.len
     rw[Zi]at At
     have ED:nC X dC (λe=>e<iw) ac eK:=Lu.aa (λe B=>hx.aa e B.2) (λe B=>zq B.2)
     have sk:aI X dC (.ptr iN 0)=some (.Z aj.right.kind):=zB (VD iN (rk iN KS)) pP
     have gS:cg X [r] bA cv dC iw:=aee.trans (cg.of (hx.ko Zo))
     have Uj:xa an t aj=if (1<aj.left.length/\aj.right.kind≠25)\/eK≠aj.left.map (p2 t)then some aj.at_ else none:=by unfold xa;rw[jT]
     have fin:∀{dW:R af}{d4:Nat},cg X [r] bA cv dW d4->xa an t aj=some aj.at_->Fg an g=some aj.at_/\cg X [r,bO] h j dW d4:=λhq bz=>⟨by rw[HE];exact N4 b3 lY bz,eG.trans (hq.down (Zj _) (λb ag=> .inl (by simp at ag;simp[ag])))⟩
     by_cases k7:1<aj.left.length/\aj.right.kind≠25
     ·have yH:decide ((aj.left.length:Int)>1)=true:=by simp only[Zg];omega
      have yG:decide (aj.right.kind≠25)=true:=by simp[k7.2]
      refine et @ME @u7 @d @pn @At @yH (Za @t9 (Za (bp fN) (Za @sk @yG))) ⟨?_⟩
      refine(J6 au Zo aj.at_).mono (λ_ _ _ a=>a) ?_
      rintro ac dW d4 ⟨rfl,hc⟩
      obtain⟨eQ,fd⟩:=fin (gS.trans (cg.of hc)) (by rw[Uj,Zp (.inl k7)])
      exact⟨_,eQ,rfl,fd⟩
     ·apply NF
      ·intro ev
       by_cases qB:1<aj.left.length
       ·have yH:decide ((aj.left.length:Int)>1)=true:=by simp only[Zg];omega
        have yG:decide (aj.right.kind≠25)=false:=by simp only[Zc];exact λa=>k7 ⟨qB,a⟩
        refine et @ME @u7 @d @pn @At @yH (Za @t9 (Za (bp fN) (Za @sk @yG))) ⟨?_⟩
        exact ev.out
       ·have yH:decide ((aj.left.length:Int)>1)=false:=by simp only[Zc];omega
        refine ih @ME @u7 @d @pn @At @yH ⟨?_⟩
        exact ev.out
      ·refine cL @oE @pn ⟨?_⟩
       refine(acW (P:=λe=>e<iw) au Zo ED uS (λe a=>a)).Zm ?_
       rintro IX dW d4 ⟨rfl,hc⟩
       have pQ:=hc.le
       have hq:cg X [r] bA cv dW d4:=gS.trans (cg.of hc)
       by_cases OI:eK=aj.left.map (p2 t)
       ·have SH:decide (eK=aj.left.map (p2 t))=true:=by simp[OI]
        have aeD:xa an t aj=none:=by rw[Uj,Zh];exact λa=>a.elim k7 (λa=>a OI)
        refine ed @SH @kG @bD ⟨?_⟩
        have Hg:=hx.trans hc
        have agt:∀e,bg e->U X dW e=U X bN e:=λe B=>by have:=BX e (qw e B);rw[hc.aa e Zo,VD e B]
        refine⟨m,Zo,T+1,aZ t0,aZ x7,aZ qU,be,Zo,⟨by rw[Kb b3 lY];exact aeD,hq,V3,λe=>qj e/\¬z e,Hl.aa (Hg.aa r Zo) (λe B=>by have:=BX e (xm e B);exact Hg.aa e Zo),λe B=>(HB e (λa=>B (rk e a))).trans (afe e B),λe B=>y2 e B.1,Ul.aa (λe B=>agt e (y2 e B.1)) (λ_ a=>a), ?_,by rw[kk,apG, <-ZJ];exact OF.aa (Hg.aa r Zo),λe B=>(HB e B.2).trans (KW e B.1)⟩⟩
        rw[kk,xG]
        refine wS.snoc (v:= .ptr iN 0) rfl aeD (oR.aa (λe B=>by have:=BX e (qw e (rk e B));exact Hg.aa e Zo) (λe B=>Hg.aa e B.2) (λ_ _=>rfl) (λe B=>⟨rk e B,λa=>a.2 B⟩) (λe B=>⟨zq B.1,zq B.2⟩) _ _ avT) (Ci.aa (λe B=>agt e B.1) (λe B=> ?_) (λe B=>HB e (λa=>B.2 (BY e a))) (λe B=>⟨B.1,λa=>B.2 a.1⟩) (λe B=>⟨B.1,zq B.2⟩))
        have J:=B.1;have Q:=B.2
        rw[Hg.aa e Zo,en.aa e Zo Zx,dk e Q]
       ·have SH:decide (eK=aj.left.map (p2 t))=false:=by simp[OI]
        have na:U X dW cf=zu [qQ,sH, .Z aj.at_, .ptr iN 0] 4:=by rw[hc.aa cf Zo];exact fN
        refine ed @SH @t9 (bp na) ⟨?_⟩
        refine(J6 au Zo aj.at_).mono (λ_ _ _ a=>a) ?_
        rintro ac f2 d9 ⟨rfl,BQ⟩
        obtain⟨eQ,fd⟩:=fin (hq.trans (cg.of BQ)) (by rw[Uj,Zp (.inr OI)])
        exact⟨_,eQ,rfl,fd⟩
    |succ gl=>
     have d:=zs i aj.left.length
     have cG:=zv i
     obtain⟨w,bw⟩:=zt aj.left i
     have Ck:=it.fI i (by simp[fL];omega)
     have EE:=(it.aa (λe B=>VD e (rk e B))).cell i [.str w] 0 (.str w) (by simp[fL,bw]) rfl
     rw[Z5]at Ck EE
     rw[ZX]at EE
     have Ls:aj.left.take (i+1)=aj.left.take i++[w]:=by rw[ZU,bw];rfl
     refine et @ME @u7 @C2 @d @Ck @EE (Za @pn @t0) ⟨?_⟩
     refine(Mf (j:=iw) (P:=λe=>P e\/dx (j+1) aR e) au Zo Zo ad6.oW.dI ad6.wB (λe B=>zq (xj.bq e B).2.1) w).Zm ?_
     rintro IX dW d4 ⟨rfl,hc⟩
     have pQ:=hc.le
     refine ce eD.eq_1 ⟨?_⟩
     generalize sg:Go.ba.bi X dW d4 _=f2
     have gc:U X f2 d4=zu (eD (p2 t w)) 3:=by rw[<-sg,bb Zo];rfl
     have js:∀e,e<d4->U X f2 e=U X dW e:=λe B=>by rw[<-sg,aC Zo Zo]
     clear sg
     obtain⟨eX,q2,gL,iE,Lo,atw,vV⟩:=Xj (j:=d4+1) (aD.aa (S':=f2) (λe B=>by have:=eU e B;rw[js e Zo,hc.aa e this.2])) gc (by rw[Zi,zf];omega) Zo (λe B=>zq (eU e B)) 1
     refine j8 iE ?_
     refine cL @ME @cG ⟨?_⟩
     refine⟨gl,Zo,i+1,eX,gL,aZ t0,aZ t9,aZ oE,be,aZ x7,aZ qU,aZ kG,aZ C2,aZ u7,be,Zo, ?_,λe B=> ?_,⟨Zo,λe B=> ?_⟩⟩
     ·rw[Ls,ZQ];exact Lo
     ·rcases atw e B with rfl|a
      ·omega
      ·have:=eU e a;omega
     ·rw[vV e Zo (λa=>zq (eU e a)),js e Zo,hc.aa e Zo];exact hx.aa e B
   ·rintro ac cn d8 ⟨F,aA,rfl,en⟩
    exact⟨F,by rw[HE];exact N4 b3 lY (by unfold xa;rw[aA]),rfl,eG.trans ((eC.trans en).down (Zj _) (λb ag=> .inl (by simp at ag;simp[ag])))⟩
end
section
variable{X:ch}{h S' aK aJ:R af}{j am aM aR:Nat}{P eS:Nat->Prop}
def V7(p:D):l8 X h 31 p=aI X h p:=Zk
def ab6:∃fn c,(o X).P.funcs[30]? =some fn/\fn.body=some c:=N7 (RK X)
def aAr(au:di X){F b:D}{bg:Bool->R af->Nat->Prop}(a:bg false h j):uw X (.func 30) ([]++[F,b]) none h j bg:=by
 refine⟨au.none _ _ rfl,ab6,N8 (RK X) ?_⟩
 show yQ X 30 [F,b] none h j bg
 rw[aae]
 unfold RJ
 show bk _ _
 refine ce @acU ⟨?_⟩
 exact a
def aAs(au:di X){F b:Nat}{y at_:Int}{cX dI:R D}{bg:Bool->R af->Nat->Prop}(aF:(o X).a6<=F)(lB:(o X).a6<=b)(y4:F≠b)(Eb:F<j)(vM:b<j)(gc:U X h F=some (.cells cX 1 .own))(lV:U X h b=some (.cells dI 2 .own))
 (a:∀S' aP,j<=aP->aI X S' (.ptr F 0)=some .cF->cZ X S' 2 (.ptr b 0)=some (.agg [.Z y, .Z at_])->(∀e,e<j->e≠F->e≠b->U X S' e=U X h e)->bg true S' aP):uw X (.func 30) ([]++[.ptr F 0, .ptr b 0]) (some (pG y at_)) h j bg:=by
 refine⟨au.none _ _ rfl,ab6,N8 (RK X) ?_⟩
 show yQ X 30 [.ptr F 0, .ptr b 0] (some (pG y at_)) h j bg
 rw[aae]
 unfold RJ
 show bk _ _
 have R7:Gz 26 (.agg [.Z 0, .Z 0]) true (pG y at_)=some (.tuple [.agg [.Z y, .Z at_], .zT]):=yB _ _ _
 have Fw:∀(H:cU) (n:Nat),(QQ H).g n=H.g n:=λ_ _=>rfl
 refine ed @acT @R7 @Fw ⟨?_⟩
 generalize de:bi X _ j _=aK
 have bK:U X aK j=zu [.Z y, .Z at_] 2:=by rw[<-de,bb Zo];rfl
 have J:∀e,e<j->U X aK e=U X h e:=λe B=>by rw[<-de];exact zw
 rw[<-J F Eb]at gc
 rw[<-J b vM]at lV
 clear de
 refine cL (bp bK) @Fw ⟨?_⟩
 refine gp (by simp[D.same,nO,pk]) ?_
 generalize dO:bi X aK F _=aJ
 have b1:U X aJ F=some (.cells (dT cX 0 [.cF]) 1 .own):=by rw[<-dO,bb aF];rfl
 have Q:∀e,e≠F->U X aJ e=U X aK e:=λe B=>by rw[<-dO,aC aF B]
 rw[<-Q b Zo]at lV
 clear dO
 refine ti @Fw ⟨?_⟩
 refine f7 (iJ (y:=2) (b:=b) (V:=0) (n:=2) lV lB rfl Zd Zd rfl) ?_
 show bg true _ _
 refine a _ _ Zo ?_ ?_ (λe B Vo gA=> ?_)
 ·rw[bp (by rw[aC lB y4];exact b1),ix];rfl
 ·rw[il,bp (bb lB),bp (bb lB),ix,ix];rfl
 ·rw[aC lB gA,Q e Vo,J e B]
def aAG{ah:bI}{H:cU}{p aj v w:D}(mG:H.bd=[])(Q:H.g 2=some p)(ak:H.g 3=some aj)(c7:aI X h p=some v)(cr:cZ X h 2 aj=some w)(a:ah (.tuple [v,w]) h j):II X ah H h j:=by
 unfold II
 rw[mG]
 show cz (H.g 2) (λp=>ar (l8 X h 31 p) λv=>cz (H.g 3) λp=>ar (l8 X h 26 p) λw=>ah (.tuple [v,w]) h j)
 rw[Q,ak]
 refine mS ?_
 rw[V7,c7]
 refine oB ?_
 refine mS ?_
 rw[Ie,cr]
 exact oB a
def aAH{ah:bI}{H:cU}{p aj v w F b:D}(au:di X)(mG:H.bd=[⟨.fn (.func 30) [F,b],[]⟩])(Q:H.g 2=some p)(ak:H.g 3=some aj)(c7:aI X h p=some v)(cr:cZ X h 2 aj=some w)(a:ah (.tuple [v,w]) h j):II X ah H h j:=by
 unfold II
 rw[mG]
 show uw X (.func 30) ([]++[F,b]) none h j λ_ h j=>nV X [.cell 2 31, .cell 3 26] ah H [] h j
 refine aAr au ?_
 show cz (H.g 2) (λp=>ar (l8 X h 31 p) λv=>cz (H.g 3) λp=>ar (l8 X h 26 p) λw=>ah (.tuple [v,w]) h j)
 rw[Q,ak]
 refine mS ?_
 rw[V7,c7]
 refine oB ?_
 refine mS ?_
 rw[Ie,cr]
 exact oB a
def azB{ah av:bI}{H:cU}{F b:Nat}{y at_:Int}{cX dI:R D}(au:di X)(mG:H.bd=[⟨.fn (.func 30) [.ptr F 0, .ptr b 0],[]⟩])(Q:H.g 2=some (.ptr F 0))(ak:H.g 3=some (.ptr b 0))
 (aF:(o X).a6<=F)(lB:(o X).a6<=b)(y4:F≠b)(Eb:F<j)(vM:b<j)(gc:U X h F=some (.cells cX 1 .own))(lV:U X h b=some (.cells dI 2 .own))
 (a:∀S' aP,j<=aP->(∀e,e<j->e≠F->e≠b->U X S' e=U X h e)->ah (.tuple [.cF, .agg [.Z y, .Z at_]]) S' aP):Qx X ah av H (pG y at_) h j:=by
 unfold Qx
 rw[mG]
 show uw X (.func 30) ([]++[.ptr F 0, .ptr b 0]) (some (pG y at_)) h j λb h j=>bV b (nV X [.cell 2 31, .cell 3 26] ah H [] h j) _
 refine aAs au aF lB y4 Eb vM gc lV (λS' aP f4 c7 cr aH=> ?_)
 show cz (H.g 2) (λp=>ar (l8 X S' 31 p) λv=>cz (H.g 3) λp=>ar (l8 X S' 26 p) λw=>ah (.tuple [v,w]) S' aP)
 rw[Q,ak]
 refine mS ?_
 rw[V7,c7]
 refine oB ?_
 refine mS ?_
 rw[Ie,cr]
 exact oB (a S' aP f4 aH)
def Gi.aa{an:List Go.aQ.Node}{dN jt:Nat->Option D}{rX r2:Nat->Prop}{g:Go.aQ.Node}{row:List D}(a:Gi X h an dN P eS g row)(y:∀e,P e->U X S' e=U X h e)(tL:∀e,eS e->U X S' e=U X h e)(az:∀e,P e->jt e=dN e)(aw:∀e,P e->rX e)(B:∀e,eS e->r2 e):Gi X S' an jt rX r2 g row:=by
 obtain⟨aY,c5,dt,aS,eM,bZ,cu,c0,fE,bL,J,Q,ak,ay,bt,b4,dh⟩:=a
 exact⟨aY,c5,dt,aS,eM,bZ,cu,c0,fE,bL,J,(Q.aa y).lift aw,(ak.aa y).lift aw,(ay.aa y).lift aw,(bt.aa y).lift aw,b4.aa y aw,dh.aa y tL az aw B⟩
def wN(X:ch)(h:R af)(an:List Go.aQ.Node)(dN:Nat->Option D)(P eS:Nat->Prop):List Go.aQ.Node->List (List D)->Prop
 |[],bL=>bL=[]
 |g::k,bL=>∃row h8,bL=row::h8/\Gi X h an dN P eS g row/\wN X h an dN P eS k h8
def wN.aa{an:List Go.aQ.Node}{dN jt:Nat->Option D}{rX r2:Nat->Prop}(y:∀e,P e->U X S' e=U X h e)(tL:∀e,eS e->U X S' e=U X h e)(az:∀e,P e->jt e=dN e)(aw:∀e,P e->rX e)(B:∀e,eS e->r2 e):∀{k:List Go.aQ.Node}{bL:List (List D)},wN X h an dN P eS k bL->wN X S' an jt rX r2 k bL:=by
 intro k
 induction k with
 |nil=>intro bL a;exact a
 |cons g k ai=>
  rintro bL ⟨row,h8,J,Q,ak⟩
  exact⟨row,h8,J,Q.aa y tL az aw B,ai ak⟩
def wN.snoc{an:List Go.aQ.Node}{dN:Nat->Option D}{g:Go.aQ.Node}{row:List D}(a:Gi X h an dN P eS g row):∀{k:List Go.aQ.Node}{bL:List (List D)},wN X h an dN P eS k bL->wN X h an dN P eS (k++[g]) (bL++[row]):=by
 intro k
 induction k with
 |nil=>rintro bL rfl;exact⟨row,[],rfl,a,rfl⟩
 |cons F k ai=>
  rintro bL ⟨t2,h8,rfl,Q,ak⟩
  exact⟨t2,h8++[row],rfl,Q,ai ak⟩
def ajT(X:ch)(h:R af)(an:List Go.aQ.Node)(dN:Nat->Option D)(P eS:Nat->Prop)(p:D):Prop:=∃b aS cO bL,p= .ptr b 0/\P b/\aI X h (.ptr b 0)=some aS/\dL X h P cO aS 6 bL/\wN X h an dN P eS an bL
def mV(an:List Go.aQ.Node):Int×Int:=if (qm an).1≠0 then qm an else match ML an with|some F=>(26,F)|none=>(0,0)
def Bv:List Go.aQ.Node->Nat
 |[]=>0
 |g::k=>q7 g.eqs+Bv k
def apE(g:Go.aQ.Node):∀k:List Go.aQ.Node,Bv (k++[g])=Bv k+q7 g.eqs:=by
 intro k
 induction k with
 |nil=>simp[Bv]
 |cons F k ai=>rw[YF,Bv,Bv,ai];omega
def an0(X:ch)(h:R af)(an:List Go.aQ.Node)(P eS:Nat->Prop)(p v:D):Prop:=∃aj r dN,v= .ptr aj 0/\eS aj/\eS r/\aI X h (.ptr aj 0)=some (.map r)/\nz X h P r dN/\ajT X h an dN P eS p/\pw X h r (Bv an)
def Jd(X:ch)(h:R af)(an:List Go.aQ.Node)(P eS:Nat->Prop)(p ac:D):Prop:=if (mV an).1=0 then ∃v,ac= .tuple [v, .agg [.Z 0, .Z 0]]/\an0 X h an P eS p v else ac= .tuple [.cF, .agg [.Z (mV an).1, .Z (mV an).2]]
def Gg.aa{fP bO aj r:Nat}{p:D}{an:List Go.aQ.Node}(a:Gg X h fP P bO aj r p an)(y:∀e,e<fP->e≠r->e≠bO->U X S' e=U X h e)(bP:∃c,U X S' bO=some (.cells c 3 .own)/\c.get 0=some (.ptr aj 0)/\c.get 1=some p):Gg X S' fP P bO aj r p an:=
 ⟨a.a6,a.lc,a.Ig,a.CD,a.Iq,a.mu,a.DJ,a.qr,a.JP,a.bq,bP,zB (y aj a.Ig a.qr a.JP) a.FP,a.prog.aa (λe B=>by have:=a.bq e B;exact y e this.2.1 this.2.2.1 this.2.2.2) (λ_ a=>a)⟩
set_option maxRecDepth 100000 in
def apt(au:i2 X)(bT:l6 X)(d7:rW X)(iP:wL X)(ez:Dl X){an:List Go.aQ.Node}{p:D}(aF:(o X).a6<=j)(bP:oO X h P an p)(bq:∀e,P e->(o X).a6<=e/\e<j)(bw:∀g∈an,oN kt g)(aY:an≠[])(az:qK an=none):
 aW X 9 [p] h j (λac S' am=>Jd X S' an P (dx j am) p ac/\bf X h j S' am) (λ_ _ _=>False):=by
 refine JJ (anR X) (au.todi.none _ _ rfl) ?_
 rw[anS]
 unfold abi
 obtain⟨qB,mJ⟩:=L0 az
 refine cI ⟨?_⟩
 refine eL (λaK=>U X aK j=zu [.cF] 1/\U X aK (j+1)=zu [.Z 0, .Z 0] 2/\bf X h j aK (j+1+1)) ⟨by simp(disch:=omega) only[aC,bb]<;>rfl,by rw[bb Zo];rfl,dA⟩ ?_
 rintro aK ⟨bK,b1,bH⟩
 refine(apu (j:=j+1+1) au bT d7 iP Zo (bP.aa (bg:=P) (λe B=>bH.aa e (bq e B).2) (λ_ a=>a)) (λe B=>zq (bq e B).2) bw aY az).Zm ?_
 rintro ac aJ aR ⟨rfl,bC⟩
 have fC:=bC.le
 have cM:U X aJ j=zu [.cF] 1:=by rw[bC.aa _ Zo];exact bK
 have dF:U X aJ (j+1)=zu [.Z 0, .Z 0] 2:=by rw[bC.aa _ Zo];exact b1
 have hp:=bH.trans bC
 clear bK b1 bH bC
 have kP:(qm an).1≠0->mV an=qm an:=λa=>by unfold mV;rw[Zp a]
 have Lk:(qm an).1=0->mV an=match ML an with|some F=>(26,F)|none=>(0,0):=λa=>by unfold mV;rw[Zh (by simp[a])]
 generalize qm an=oW at kP Lk ⊢
 obtain⟨cc,vs⟩:=oW
 simp only at kP Lk
 by_cases ax:cc=0
 ·have Ce:=Lk ax
  subst ax
  clear kP Lk
  have d:decide ((0:Int)≠0)=false:=rfl
  refine ce @d ⟨?_⟩
  generalize e0:Go.ba.bi X _ aR _=a1
  have cS:∀e,e<aR->U X a1 e=U X aJ e:=λe B=>by rw[<-e0];exact zw
  clear e0
  rw[<-cS j Zo]at cM
  rw[<-cS (j+1) Zo]at dF
  have Cq:∀e,e<j->U X a1 e=U X h e:=λe B=>by rw[cS e Zo];exact hp.aa e B
  have Up:=bP.aa (S':=a1) (bg:=P) (λe B=>Cq e (bq e B).2) (λ_ a=>a)
  obtain⟨jv,IC,Qy,bL,rfl,od,a0,cC,kz⟩:=Up
  have Pm:=kz.wide
  have d2:=cC.len
  have ik:=cC.many
  rw[Pm.1]at d2 ik
  have Le:=bq jv od
  refine acA ?_
  generalize gd:AN _ _=vn
  have kY:vn.bd=[⟨.fn (.func 30) [.ptr j 0, .ptr (j+1) 0],[]⟩]:=by rw[<-gd];rfl
  have t0:vn.g 0=some (.ptr jv 0):=by rw[<-gd];rfl
  have ew:vn.g 2=some (.ptr j 0):=by rw[<-gd];rfl
  have t3:vn.g 3=some (.ptr (j+1) 0):=by rw[<-gd];rfl
  clear gd
  generalize v6:aR+1=bn at*
  refine gb @t0 @ew @cM @a0 @d2 ⟨?_⟩
  generalize e1:Go.ba.bi X _ (bn+1+1) _=bA
  have vA:U X bA bn=some (.map [] 0):=by rw[<-e1];simp(disch:=omega) only[bb,aC]
  have sd:U X bA (bn+1)=zu [.map bn] 1:=by rw[<-e1];simp(disch:=omega) only[bb,aC]<;>rfl
  have adv:U X bA (bn+1+1)=zu [.ptr (bn+1) 0, .ptr jv 0, .cF] 3:=by rw[<-e1,bb Zo];rfl
  have asb:U X bA j=some (.cells (dT (R.ofList [.cF] 0 .nil) 0 [.ptr (bn+1) 0]) 1 .own):=by rw[<-e1];simp(disch:=omega) only[bb,aC]<;>rfl
  have d1:∀e,e<bn->e≠j->U X bA e=U X a1 e:=λe J Q=>by rw[<-e1];exact zw
  clear e1
  have asa:U X bA (j+1)=zu [.Z 0, .Z 0] 2:=by rw[d1 _ Zo Zo];exact dF
  have mo:∀e,P e->U X bA e=U X a1 e:=λe B=>by have:=bq e B;exact d1 e Zo Zo
  have afr:=kz.aa (S':=bA) (bg:=P) mo (λ_ a=>a)
  have asO:Gg X bA (bn+1+1+1) P (bn+1+1) (bn+1) bn (.ptr jv 0) an:=⟨Zo,Zo,Zo,Zo,Zo,Zo,Zo,Zo,Zo,λe B=>by have:=bq e B;exact⟨this.1,Zo,Zo,Zo⟩,⟨_,adv,rfl,rfl⟩,by rw[bp sd];rfl,⟨jv,IC,Qy,bL,rfl,od,zB (mo jv od) a0,cC.aa mo,afr⟩⟩
  have as4:nz X bA P bn (λ_=>none):=⟨[],0,vA,λ_=>rfl,Zs⟩
  have as6:pw X bA bn 0:=⟨[],0,vA,rfl⟩
  refine fp (λm H S' aP=>∃(T:Nat) (dN:Nat->Option D) (Gk:Nat->Prop),H.g 5=some (.ptr (bn+1+1) 0)/\H.g 25=some IC/\H.g 26=some (.Z (an.length:Int))/\H.g 27=some (.Z (T:Int))/\H.bd=[⟨.fn (.func 30) [.ptr j 0, .ptr (j+1) 0],[]⟩]/\H.g 2=some (.ptr j 0)/\H.g 3=some (.ptr (j+1) 0)/\T+m=an.length/\(an.take T).findSome? (Fg an)=none/\(∃c,U X S' (bn+1+1)=some (.cells c 3 .own)/\c.get 0=some (.ptr (bn+1) 0)/\c.get 1=some (.ptr jv 0))/\cg X [bn,bn+1+1] bA (bn+1+1+1) S' aP/\nz X S' P bn dN/\(∀e,Gk e->P e)/\px X S' Gk (an.drop T) (bL.drop T)/\wN X S' an dN (λe=>P e/\¬Gk e) (dx (bn+1+1+1) aP) (an.take T) (bL.take T)/\pw X S' bn (Bv (an.take T))/\∀e,Gk e->dN e=none)
   an.length ⟨0,λ_=>none,P,be,be,be,fO,kY,aZ ew,aZ t3,Zo,rfl,⟨_,adv,rfl,rfl⟩,cg.refl _ _ _,as4,λ_ a=>a,by simpa using afr,by rw[Z6,Z6];rfl,by rw[Z6];exact as6,λ_ _=>rfl⟩ ?_
  clear kY t0 ew t3 cM dF
  rintro m H bN cf ⟨T,dN,Gk,t5,mZ,lI,FM,MH,ew,t3,bJ,lY,iQ,dG,BW,TY,nH,Lt,Ea,KW⟩
  have iH:=dG.le
  have AB:∀e,P e->U X bN e=U X a1 e:=λe B=>by have:=bq e B;rw[dG.aa e Zo Zx,mo e B]
  have Tr:U X bN j=some (.cells (dT (R.ofList [.cF] 0 .nil) 0 [.ptr (bn+1) 0]) 1 .own):=by rw[dG.aa j Zo Zx];exact asb
  have adC:U X bN (j+1)=zu [.Z 0, .Z 0] 2:=by rw[dG.aa (j+1) Zo Zx];exact asa
  have K5:∀e,e<j->U X bN e=U X h e:=λe B=>by rw[dG.aa e Zo Zx,d1 e Zo Zo,Cq e B]
  cases m with
  |zero=>
   have d:=zr T an.length
   rw[ZB Zo]at lY Ea
   rw[ZB Zo,ZB Zo]at Lt
   have kB:ML an=none:=lY
   rw[kB]at Ce
   simp only[]at Ce
   have fZ:aI X bN (.ptr j 0)=some (.ptr (bn+1) 0):=by rw[bp Tr,ix];rfl
   refine et @FM @lI @d @ew @fZ @Tr (Za @t3 @adC) ⟨?_⟩
   generalize gN:Go.ba.bi X _ (j+1) _=bY
   have f1:U X bY j=some (.cells (dT (dT (R.ofList [.cF] 0 .nil) 0 [.ptr (bn+1) 0]) 0 [.ptr (bn+1) 0]) 1 .own):=by rw[<-gN];simp(disch:=omega) only[bb,aC]<;>rfl
   have fD:U X bY (j+1)=some (.cells (dT (R.ofList [.Z 0, .Z 0] 0 .nil) 0 [.Z 0, .Z 0]) 2 .own):=by rw[<-gN,bb Zo];rfl
   have z3:∀e,e≠j->e≠j+1->U X bY e=U X bN e:=λe J Q=>by rw[<-gN];exact zw
   clear gN
   have qI:∀e,P e->U X bY e=U X bN e:=λe B=>by have:=bq e B;exact z3 e Zo Zo
   have aCq:aI X bY (.ptr (bn+1) 0)=some (.map bn):=by rw[cl,z3 _ Zo Zo,dG.aa (bn+1) Zo Zs, <-cl,bp sd];rfl
   refine aAH (v:= .ptr (bn+1) 0) (w:= .agg [.Z 0, .Z 0]) au.todi MH (aZ ew) (aZ t3) (by rw[bp f1,ix];rfl) (by rw[il,bp fD,bp fD,ix,ix];rfl) ⟨?_,Zo,λe B=>by rw[z3 e Zo Zo];exact K5 e B⟩
   unfold Jd
   rw[Zp (by rw[Ce])]
   exact⟨_,rfl,bn+1,bn,dN,rfl,⟨Zo,Zo⟩,⟨Zo,Zo⟩,aCq,BW.aa (z3 _ Zo Zo) qI,⟨jv,IC,Qy,bL,rfl,od,by rw[cl,qI jv od,AB jv od, <-cl];exact a0,cC.aa (λe B=>by rw[qI e B,AB e B]),Lt.aa (λe B=>qI e B.1) (λe B=>z3 e (zq B.1) (zq B.1)) (λ_ _=>rfl) (λe B=>B.1) (λe B=>⟨zq B.1,B.2⟩)⟩,Ea.aa (z3 _ Zo Zo)⟩
  |succ m=>
   have d:=zs T an.length
   have bD:=zv T
   obtain⟨g,nI⟩:=zt an T
   have o6:=Zn nI
   have aE:an.drop T=g::an.drop (T+1):=by
    obtain⟨ae,B⟩:=Zb.1 nI
    rw[Zr ae,B]
   rw[aE]at nH
   obtain⟨row,h8,bg,Ex,gz,jH,atm⟩:=nH
   have Ew:bL[T]? =some row:=by
    have:(bL.drop T)[0]? =some row:=by rw[Ex];rfl
    simpa using this
   have Cc:h8=bL.drop (T+1):=by
    obtain⟨ae,B⟩:=Zb.1 Ew
    rw[Zr ae]at Ex
    simp only[YI]at Ex
    exact Ex.2.symm
   subst Cc
   have qw:∀e,bg e->P e:=λe B=>TY e (gz e B)
   have dw:=cC.fI T (by rw[Pm.1];omega)
   have hs:=(cC.aa AB).row Zd Ew
   have jI:=jH.ju
   have tB:=jH
   have kk:an.take (T+1)=an.take T++[g]:=by rw[ZU,nI];rfl
   have xG:bL.take (T+1)=bL.take T++[row]:=by rw[ZU,Ew];rfl
   obtain⟨c5,dt,kX,eM,bZ,cu,c0,fE,h8,rfl,_⟩:=jH
   refine ih @FM @lI @mZ @d @dw @hs ⟨?_⟩
   refine f7 (iJ (y:=6) (b:=cf) (V:=0) (n:=6) (c:=R.ofList [.str [], .Z 0, .aT, .aT, .aT, .aT] 0 .nil) (bb Zo) Zo rfl Zd Zd jI) ?_
   generalize gN:Go.ba.bi X _ cf _=bY
   have d0:U X bY cf=zu [.str g.name, .Z g.at_,c5,dt,kX,eM] 6:=by rw[<-gN,bb Zo];rfl
   have dk:∀e,e<cf->U X bY e=U X bN e:=λe B=>by rw[<-gN];exact zw
   clear gN
   have ej:Gg X bY (bn+1+1+1) P (bn+1+1) (bn+1) bn (.ptr jv 0) an:=asO.aa (λe J Q ak=>by rw[dk e Zo];exact dG.aa e J (by simp;exact⟨Q,ak⟩)) (by rw[dk _ Zo];exact iQ)
   have Hk:nz X bY P bn dN:=BW.aa (dk _ Zo) (λe B=>by have:=bq e B;exact dk e Zo)
   have eC:cg X [bn,bn+1+1] bA (bn+1+1+1) bY (cf+1):=⟨Zo,λe J Q=>by rw[dk e Zo];exact dG.aa e J Q⟩
   refine cL @t5 (bp d0) ⟨?_⟩
   refine(ayN (j:=cf+1) (bx:=P) (P:=P) (bg:=bg) au.todi ez aY (λg bP=>zq (mJ g bP).vars) (λ_ a=>a) qw Zo ej Hk (Ea.aa (dk _ Zo)) (λe B=>KW e (gz e B)) (tB.aa (bg:=bg) (λe B=>by have:=bq e (qw e B);exact dk e Zo) (λ_ a=>a)) (λaj b3=>((bw g o6).eqs aj b3).right) (by rw[DQ];have:=(mJ g o6).vars;simp only[oA];omega)).mono ?_ ?_
   ·rintro ac cn d8 ⟨rfl,atG,V3,Hl,HB,OF,en,as9⟩
    have ng:=en.le
    have agB:∀e,e<cf->e≠bn->e≠bn+1+1->U X cn e=U X bN e:=λe J Q ak=>by rw[en.aa e Zo (by simp;exact⟨Q,ak⟩),dk e J]
    have rz:∀e,P e->U X cn e=U X bN e:=λe B=>by have:=bq e B;exact agB e Zo Zo Zo
    refine cL @FM @bD ⟨?_⟩
    refine⟨m,Zo,T+1,V3,λe=>Gk e/\¬bg e,aZ t5,aZ mZ,aZ lI,be,MH,aZ ew,aZ t3,Zo,by rw[Kb nI lY];exact OF.1,atG,eC.trans (en.down Zo (λb ag=> .inl ag)),Hl,λe B=>TY e B.1,atm.aa (λe B=>rz e (TY e B.1)) (λ_ a=>a), ?_,by rw[kk,apE];exact as9,λe B=>(HB e B.2).trans (KW e B.1)⟩
    rw[kk,xG]
    exact wN.snoc (OF.aa (λ_ _=>rfl) (λ_ _=>rfl) (λ_ _=>rfl) (λe B=>⟨qw e B,λa=>a.2 B⟩) (λe B=>⟨zq B.1,B.2⟩)) (Lt.aa (λe B=>rz e B.1) (λe B=>agB e B.2 (zq B.1) (zq B.1)) (λe B=>HB e (λa=>B.2 (gz e a))) (λe B=>⟨B.1,λa=>B.2 a.1⟩) (λe B=>⟨B.1,zq B.2⟩))
   ·rintro ac cn d8 ⟨F,aA,rfl,en⟩
    have ng:=en.le
    have kB:ML an=some F:=N4 nI lY aA
    rw[kB]at Ce
    simp only[]at Ce
    refine azB (cX:=dT (R.ofList [.cF] 0 .nil) 0 [.ptr (bn+1) 0]) (dI:=R.ofList [.Z 0, .Z 0] 0 .nil) au.todi MH (by have bo:rB 2 [31,32,33]=false:=rfl;simp[vy,x2,ew,bo]) (by have bo:rB 3 [31,32,33]=false:=rfl;simp[vy,x2,t3,bo]) aF Zo Zo Zo Zo ?_ ?_ (λS' aP f4 aH=>⟨?_,Zo,λe B=> ?_⟩)
    ·rw[en.aa j Zo Zx,dk j Zo];exact Tr
    ·rw[en.aa (j+1) Zo Zx,dk (j+1) Zo];exact adC
    ·unfold Jd
     rw[Ce,Zh (show ¬(26:Int)=0 by decide)]
    ·rw[aH e Zo Zo Zo,en.aa e Zo Zx,dk e Zo];exact K5 e B
 ·have Ce:=kP ax
  clear kP Lk
  have d:decide (cc≠0)=true:=by simp[ax]
  refine cL @d @cM ⟨?_⟩
  refine gp (by simp[D.same,nO,pk]) ?_
  refine ce @dF ⟨?_⟩
  generalize e0:Go.ba.bi X _ (j+1) _=a1
  have f1:U X a1 j=some (.cells (dT (R.ofList [.cF] 0 .nil) 0 [.cF]) 1 .own):=by rw[<-e0];simp(disch:=omega) only[bb,aC]<;>rfl
  have fD:U X a1 (j+1)=some (.cells (dT (R.ofList [.Z 0, .Z 0] 0 .nil) 0 [.Z cc, .Z vs]) 2 .own):=by rw[<-e0,bb Zo];rfl
  have z3:∀e,e<j->U X a1 e=U X h e:=λe J=>by rw[<-e0];simp(disch:=omega) only[aC];exact hp.aa e J
  clear e0
  refine aAG (v:= .cF) (w:= .agg [.Z cc, .Z vs]) rfl (fO) (fO) (by rw[bp f1,ix];rfl) (by rw[il,bp fD,bp fD,ix,ix];rfl) ⟨?_,Zo,z3⟩
  unfold Jd
  rw[Ce,Zh ax]
end
abbrev e4:=aX×Bool
def mB(d:ey):e4:=(d.on,d.no)
def gW(t:aX->Option c8)(w:aX):e4:=mB ((t w).getD nw).d
def Kc(t:aX->Option c8)(E:bB)(c:e4):Bool:=if E.kind=2\/E.kind=24 then decide (gW t E.name=c)else if E.kind=6 then decide ((E.name,E.no)=c)else true
def s8(t:aX->Option c8)(y:Int)(nm:aX)(c:e4)(i:Nat):e4:=if y=6 then gW t nm else if y=24 then(nm,decide (i=1))else c
def Qe(f:Option Int)(b:Bool)(F:Int):Option Int:=match f with
 |some F=>some F
 |none=>if b then none else some F
mutual
def IZ(t:aX->Option c8):bB->e4->Option Int->Option Int
 | .mk y F nm no ty n args,c,f=>MR t y nm c 0 args (Qe f (Kc t (.mk y F nm no ty n args) c) F)
def MR(t:aX->Option c8)(y:Int)(nm:aX)(c:e4):Nat->List bB->Option Int->Option Int
 |_,[],f=>f
 |i,E::ca,f=>MR t y nm c (i+1) ca (IZ t E (s8 t y nm c i) f)
end
def mA:e4:=([],false)
section
variable{t:aX->Option c8}
end
def ahW{α:Type}[DecidableEq α]:∀(k m:List α),k.Nodup->(∀x∈k,x∈m)->k.length<=m.length:=by
 intro k
 induction k with
 |nil=>intro m _ _;exact YN _
 |cons F k ai=>
  intro m aF a
  rw[zi]at aF
  have aA:=a F (Zv ..)
  have:=ai (m.erase F) aF.2 λx ae=>(List.mem_erase_of_ne (λE=>aF.1 (by rw[<-E];exact ae))).2 (a x (Zu _ ae))
  have bo:=List.length_pos_of_mem aA
  rw[List.length_erase_of_mem aA]at this
  simp only[ZF]
  omega
def kL(t:aX->Option c8):Nat->List e4->e4->List e4
 |0,k,_=>k
 |n+1,k,c=>if (k.map Prod.fst).contains c.1 then k else if c.1=[]\/t c.1=none then k++[c]else kL t n (k++[c]) (gW t c.1)
def EO(t:aX->Option c8):Nat->aX->aX
 |0,w=>w
 |n+1,w=>EO t n (gW t w).1
def awB(t:aX->Option c8):∀(n:Nat) (w:aX),EO t (n+1) w=(gW t (EO t n w)).1:=by
 intro n
 induction n with
 |zero=>intro w;rfl
 |succ n ai=>intro w;rw[EO,ai];rfl
def ach{t:aX->Option c8}{fh:List aX}(fX:∀w,t w≠none->w∈fh)(J:∀w,t w≠none->gW t w=mA\/(t (gW t w).1≠none/\(gW t w).1≠[])):
 ∀(n:Nat) (k:List e4) (c:e4),fh.length<n+k.length->(k.map Prod.fst).Nodup->(∀w∈k.map Prod.fst,t w≠none/\w≠[])->(∀w∈k.map Prod.fst,(gW t w).1∈k.map Prod.fst\/(gW t w).1=c.1)->(c=mA\/(t c.1≠none/\c.1≠[]))->
  ((kL t n k c).getLast?=some mA↔∃i,EO t i c.1=[]):=by
 intro n
 induction n with
 |zero=>
  intro k c az aF bw _ _
  have:=ahW (k.map Prod.fst) fh aF λw a=>fX w (bw w a).1
  rw[Zi]at this
  omega
 |succ n ai=>
  intro k c az aF bw ax Hr
  rw[kL]
  by_cases ol:c.1∈k.map Prod.fst
  ·rw[Zp (by simpa using ol)]
   refine⟨λa=> ?_,λa=> ?_⟩
   ·have bo:=List.mem_of_getLast? a
    exact absurd rfl (bw [] (ZG.2 ⟨mA,bo,rfl⟩)).2
   ·obtain⟨i,aN⟩:=a
    have key:∀i,EO t i c.1∈k.map Prod.fst:=by
     intro i
     induction i with
     |zero=>exact ol
     |succ i awq=>
      rw[awB]
      rcases ax _ awq with a|a
      ·exact a
      ·rw[a];exact ol
    exact absurd aN (bw _ (key i)).2
  ·rw[Zh (by simpa using ol)]
   by_cases aY:c.1=[]
   ·rw[Zp (.inl aY)]
    rcases Hr with rfl|a
    ·rw[List.getLast?_append]
     exact⟨λ_=>⟨0,rfl⟩,λ_=>rfl⟩
    ·exact absurd aY a.2
   ·have uL:t c.1≠none/\c.1≠[]:=Hr.resolve_left λE=>aY (by rw[E];rfl)
    rw[Zh (λa=>a.elim aY uL.1)]
    rw[ai (k++[c]) (gW t c.1) Zx (by
     rw[ZQ,Y6]
     refine⟨aF,Zs,λF aA b ag E=> ?_⟩
     simp at ag
     rw[E,ag]at aA
     exact ol aA) (λw a=>by
     rw[ZQ]at a
     rcases Zz.1 a with a|a
     ·exact bw w a
     ·simp at a;rw[a];exact uL) (λw a=>by
     rw[ZQ]at a ⊢
     rcases Zz.1 a with a|a
     ·rcases ax w a with aj|aj
      ·exact .inl (List.mem_append_left _ aj)
      ·exact .inl (List.mem_append_right _ (by simp[aj]))
     ·simp at a;rw[a];exact .inr rfl) (J _ uL.1)]
    refine⟨λa=> ?_,λa=> ?_⟩
    ·obtain⟨i,aN⟩:=a;exact⟨i+1,aN⟩
    ·obtain⟨i,aN⟩:=a
     cases i with
     |zero=>exact absurd aN aY
     |succ i=>exact⟨i,aN⟩
end
open Go.ba
noncomputable section
variable (X : ch) (h : R af) (j : Nat) (ah av : bI) (a0 a7 b6 a3 a4 a5 hE ib iz : D)
def aa7(a:aL)(b:D)(c:R af)(d:Nat)(e f:bI):Prop:=
 A8 d a c λc d g=>aW a 9 [b] d g (λd g h=>hl d λ_ d=>I8 h a g d λd g h=>yh d a h 0 λi=>bk (λb c d=>rT b a c λg=>ip g (λb c d=>De λf=>k0 b 2 a c 2 f λa b=>e b a d) λh i=>fg (λb c d g=>hm c 22 21 λh=>bk (λc d g=>bk (λa c d=>gJ a 22 λe=>b (Z a 22 e) c d) λb=>Dc c 22 20 6 λh i=>C9 a d i g λd g i=>eW (g+12) λj=>ar (cZ a i 6 d) λk=>rT c a i λl=>ar (gC l) λl=>yi l λl=>ar (bl .eql h l) λl=>ar (hR [.Z 0, .Z 0] (g+10)) λm=>ms a i (g+10) m.1 m.2 λg i=>aW a 28 [k,l] i j (λf i j=>ar (gg a i 2 g f) λf=>yh g a f 0 λi=>bk b λb=>aV i (m2 a f g λb=>k0 c 2 a f 2 b λa b=>e b a j) (b (zA c 6 d 5 h 7 g 39 i) f j)) f) λa=>aV h (a (Z c 23 h) d g) (i (Z c 23 h) d g)) (zz b 20 g 21 h 22 (.Z 0)) c d) λf=>aV i (m2 a h d λb=>uk a h 2 c b λa b=>e b a g) (f (zz (cP [b]) 2 c 4 d 15 i) h g)) f
def anv:cY X 8 [a0] h j ah av=aa7 X a0 h j ah av:=Zk
def anu:cQ X 8 1=true:=Zk
def XR(a:aL)(b:D)(c:R af)(d:Nat)(e f:bI):Prop:=
 ar (dc a c .eql 41 true b .cF) λg=>bk (λb c d=>lO b 0 1 a c λ_ _ b=>aW a 33 [b] c d e f) λa=>aV g (e .aT c d) (a (zy (cP [b]) 2 .aT 4 g) c d)
def akt:cY X 11 [a0] h j ah av=XR X a0 h j ah av:=Zk
def aks:cQ X 11 1=true:=Zk
def π(a:aL)(b:D)(c:R af)(d:Nat)(e _:bI):Prop:=
 hn a c d b λb c d=>ar (hR [.str [], .zF] d) λf=>gu a c d f.1 f.2 λc d f=>e9 5 b a d λ_ g=>e9 7 b a d λ_ b=>Rt g b λb=>uk a d 2 c b λa b=>e b a f
def alj:cY X 15 [a0] h j ah av=π X a0 h j ah av:=Zk
def ali:cQ X 15 1=true:=Zk
def υ(a:aL)(b c:D)(d:R af)(e:Nat)(f g:bI):Prop:=
 hn a d e c λd e h=>bk (λa b c=>n5 a λa=>f a b c) λ_=>fg (λb c d e=>bk b λb=>fm c 0 3 λh i=>jy i a d λi=>I4 a h i d e g λd _ e h=>fm c 5 6 λi j=>aW a 36 [i,j] h e (λe h i=>bk (λc d e=>fm c 5 3 λh i=>m2 a d i λi=>ar (hC 1 [.str [], .zF] [(0,2,i)] e) λi=>Db a d e i.1 i.2 2 h λd e h=>iy c 3 0 a e λ_ i=>Gb a e i λi=>xK i (c 8) e h λe h j=>e7 i (gi .not e) h j λe h j=>c4 (λe=>bk (λc d e=>fm c 0 3 λf h=>jy h a d λh=>aW a 37 [f,h] d e (λd e f=>qd c λg=>ar (gg a e 2 g d) λa=>b c a f) g) λa=>aV e (f d h j) (a (zy c 5 d 31 e) h j)) λa=>aV i (a .zT) (a e)) λa=>aV e (ps c λa=>f a h i) (a (zy c 8 d 19 e) h i)) g) (zA (cP [b,c]) 3 d 4 .aT 5 .aT 6 (.func (.func 35) [] [d])) e h
def alq:cY X 19 [a0,a7] h j ah av=υ X a0 a7 h j ah av:=Zk
def alp:cQ X 19 2=true:=Zk
def φ(a:aL)(b c d e:D)(f:R af)(g:Nat)(h i:bI):Prop:=
 hn a f g d λf g j=>ar (dc a g .eql 54 true c .cF) λk=>bk (λb c d=>fm b 3 1 λe f=>m1 b 6 a c 2 λg=>iS a e [f,g] c d (λ_ c d=>lO b 1 8 a c λ_ _ e=>ip e (λ_ a b=>h (.tuple []) a b) λf g=>fg (λb c d e=>hm c 22 21 λf=>bk (λc d e=>bk (λa c d=>gJ a 22 λe=>b (Z a 22 e) c d) λb=>Dc c 22 20 1 λf g=>ar (aI a d g) λg=>m1 c 6 a d 2 λh=>ar (hR [.str [], .zF] e) λj=>pq a d e j.1 j.2 2 h λd e h=>lO c 1 0 a h λ_ _ j=>bk (λc d e=>fm c 0 9 λf g=>m1 c 10 a d 2 λh=>qd c λj=>aW a 20 [f,g,h,j] d e (λ_ a d=>b c a d) i) λb=>n4 j 6 b λb k=>aV b (fm c 0 1 λl m=>g9 m 2 a h λ_ m=>aW a 37 [l,m] h e (λe h i=>ar (gg a h 2 d e) λa=>k (Z (zA c 8 f 9 g 10 d 31 j) 32 b) a i) i) (n4 j 24 k λi k=>aV i (lO c 1 2 a h λ_ _ l=>ar (bl .eql f (.Z 1)) λm=>Rt l m λl=>ar (gg a h 2 d l) λa=>k (zy (zA c 8 f 9 g 10 d 31 j) 32 b 40 i) a e) (k (zy (zA c 8 f 9 g 10 d 31 j) 32 b 40 i) h e))) λa=>aV f (a (Z c 23 f) d e) (g (Z c 23 f) d e)) (zz b 20 e 21 f 22 (.Z 0)) c d) i) λa=>aV k (h (.tuple []) g j) (a (zy (cP [b,c,d,e]) 6 f 12 k) g j)
def als:cY X 20 [a0,a7,b6,a3] h j ah av=φ X a0 a7 b6 a3 h j ah av:=Zk
def alr:cQ X 20 4=true:=Zk
def aac(a:aL)(b c:D)(d:R af)(e:Nat)(f g:bI):Prop:=
 hn a d e b λd e h=>A8 h a e λe h i=>rR a h 6 d 10 i g λh i j=>ar (hR [.cF] j) λk=>pq a i j k.1 k.2 1 h λh i j=>ar (aI a j h) λk=>ar (cZ a j 6 d) λl=>aW a 47 [k,l,c] j i (λi j k=>I8 k a j i λi j k=>yh i a k 0 λl=>bk (λb c d=>iy b 2 5 a c λ_ e=>ip e (λb c d=>De λe=>k0 b 4 a c 2 e λa b=>f b a d) λh i=>fg (λb c d e=>hm c 25 24 λh=>bk (λc d e=>sT (λa c d=>gJ a 25 λe=>b (Z a 25 e) c d) c 23 25 4 λb h=>Da a d h e λd e h=>eW (e+8) λi=>iY c 5 a h λj=>jy d a h λk=>A3 1 k λk=>ar (aI a h k) λk=>ar (hR [.str [], .zF] (e+6)) λl=>ms a h (e+6) l.1 l.2 λe h=>aW a 37 [j,k] h i (λh i j=>ar (gg a i 2 e h) λh=>ps c λi=>jy d a h λk=>aW a 49 [k, .func (.func 48) [] [i,e]] h j (λh j k=>bk (λc d e=>A8 e a d λd e h=>iY c 5 a e λi=>iy c 8 3 a e λ_ j=>m1 c 9 a e 2 λk=>ps c λl=>aW a 20 [i,j,k, .func (.func 50) [] [d,l]] e h (λ_ e g=>yh d a e 0 λh=>bk b λb=>aV h (m2 a e d λb=>k0 c 4 a e 2 b λa b=>f b a g) (b (zy c 11 d 51 h) e g)) g) λb=>aV h (e9 2 d a j λ_ b=>I3 27 b λb=>k0 c 4 a j 2 b λa b=>f b a k) (b (zA c 8 d 9 e 10 (.func (.func 48) [] [i,e]) 39 h) j k)) g) g) λa=>aV h (a (Z c 26 h) d e) (i (Z c 26 h) d e)) (zz b 23 e 24 h 25 (.Z 0)) c d) λg=>aV l (m2 a k i λb=>uk a k 2 e b λa b=>f b a j) (g (Z (zA (cP [b,c]) 2 d 4 e 5 h 6 i) 20 l) k j)) g
def alC:cY X 28 [a0,a7] h j ah av=aac X a0 a7 h j ah av:=Zk
def alB:cQ X 28 2=true:=Zk
def aai(a:aL)(b c:D)(d:R af)(e:Nat)(f _:bI):Prop:=
 hn a d e b λb d e=>jy b a d λb=>jy c a d λc=>ar (dc a d .eql 9 false b c) λa=>f a d e
def alM:cY X 35 [a0,a7] h j ah av=aai X a0 a7 h j ah av:=Zk
def alL:cQ X 35 2=true:=Zk
def aaj(a:aL)(b c:D)(d:R af)(e:Nat)(f g:bI):Prop:=
 aW a 59 [b,c] d e (λa b c=>Dg a λa=>f a b c) g
def alO:cY X 36 [a0,a7] h j ah av=aaj X a0 a7 h j ah av:=Zk
def alN:cQ X 36 2=true:=Zk
def aak(a:aL)(b c:D)(d:R af)(e:Nat)(f g:bI):Prop:=
 ar (hR [.str [], .zF] e) λh=>gu a d e h.1 h.2 λd e h=>I4 a b c e h g λ_ b c e=>ar (hk 1 b) λb=>rR a e 8 b 15 c g λb c e=>uk a c 2 d b λa b=>f b a e
def alQ:cY X 37 [a0,a7] h j ah av=aak X a0 a7 h j ah av:=Zk
def alP:cQ X 37 2=true:=Zk
def aau(a:aL)(b c d:D)(e:R af)(f:Nat)(g h:bI):Prop:=
 hn a e f c λe f i=>A8 i a f λf i j=>e9 2 e a i λ_ k=>aW a 75 [k] i j (λi j k=>ar (gi .not d) λl=>bk (λb c d=>cz (b 7) λe=>ip e (λb c d=>iy b 4 2 a c λ_ e=>iy b 4 3 a c λ_ f=>iy b 4 4 a c λ_ i=>ar (hC 3 [.aT, .aT, .aT] [(0,1,e),(1,1,f),(2,1,i)] d) λe=>gu a c d e.1 e.2 λc d e=>aW a 76 [c] d e (λc d e=>ip c (λb c d=>De λe=>k0 b 6 a c 2 e λa b=>g b a d) λf i=>fg (λb c d e=>hm c 44 43 λf=>bk (λc d e=>bk (λa c d=>gJ a 44 λe=>b (Z a 44 e) c d) λb=>F7 c 42 44 a d e λd e f=>e3 c λi=>rR a f 8 d 15 e h λe f j=>aW a 19 [i,e] f j (λe f h=>ar (gC e) λi=>yi i λi=>ar (gt 2 e i) λi=>m2 a f i λi=>ar (fv [.str [], .zF] []) λj=>ar (dc a f .neq 58 false i j) λi=>bk b λb=>aV i (e9 6 d a f λ_ b=>I3 25 b λb=>k0 c 6 a f 2 b λa b=>g b a h) (b (zz c 11 d 12 e 59 i) f h)) h) λa=>aV f (a (Z c 45 f) d e) (i (Z c 45 f) d e)) (zz b 42 c 43 f 44 (.Z 0)) d e) h) λf h=>fg (λb c d e=>hm c 24 23 λf=>bk (λc d e=>bk (λa c d=>gJ a 24 λe=>b (Z a 24 e) c d) λb=>F7 c 22 24 a d e λd e f=>e9 5 d a f λ_ h=>ar (dc a f .neq 9 true h (.str [])) λh=>bk b λb=>aV h (e9 6 d a f λ_ b=>I3 27 b λb=>k0 c 6 a f 2 b λa b=>g b a e) (b (zy c 9 d 30 h) f e)) λa=>aV f (a (Z c 25 f) d e) (h (Z c 25 f) d e)) (zz b 22 e 23 f 24 (.Z 0)) c d) λg=>aV l (e9 3 e a j λ_ h=>hN (jP a j k 8 i h) j k λa h j=>g (Z (zA (cP [b,c,d]) 4 e 6 f 7 i 17 l) 7 a) h j) (g (zA (cP [b,c,d]) 4 e 6 f 7 i 17 l) j k)) h
def ama:cY X 47 [a0,a7,b6] h j ah av=aau X a0 a7 b6 h j ah av:=Zk
def al9:cQ X 47 3=true:=Zk
def aav(a:aL)(b c d:D)(e:R af)(f:Nat)(g h:bI):Prop:=
 eW (f+6) λf=>ar (aI a e c) λc=>m2 a e d λi=>aW a 37 [c,b] e f (λb c e=>ar (dc a c .neq 58 false b i) λb=>m2 a c d λa=>gn a (some i) (g b c e)) h
def amc:cY X 48 [a0,a7,b6] h j ah av=aav X a0 a7 b6 h j ah av:=Zk
def amb:cQ X 48 3=true:=Zk
def aaz(a:aL)(b c d e:D)(f:R af)(g:Nat)(h i:bI):Prop:=
 hn a f g c λf g j=>Df d a g 0 λk=>eB k (aI a g e) g j λg j l=>j5 k b j l λj l m=>eB k (cZ a l 2 f) l m λl m n=>lC k (λb=>aW a 51 [g,j,l] m n b i) m n λg i j=>eB k (gi .not g) i j λg i j=>c4 (λg=>bk (λ_ a b=>h (.tuple []) a b) λh=>aV g (eW (j+9) λj=>g9 b 1 a i λk l=>ar (gg a i 2 d (.agg [.Z 0, .Z 0])) λi=>ar (hk 0 d) λm=>ar (aI a i k) λn=>gn n (some l) (q1 a i m 27 λi=>ar (hk 1 d) λm=>ar (aI a i k) λk=>gn k (some l) (oK a i m l λa=>h (zy (cP [b,c,d,e]) 5 f 15 g) a j))) (h (zy (cP [b,c,d,e]) 5 f 15 g) i j)) λa=>aV k (a g) (a .zF)
def ame:cY X 50 [a0,a7,b6,a3] h j ah av=aaz X a0 a7 b6 a3 h j ah av:=Zk
def amd:cQ X 50 4=true:=Zk
def aaA(a:aL)(b c d:D)(e:R af)(f:Nat)(g h:bI):Prop:=
 hn a e f d λe f i=>g9 c 0 a f λ_ j=>bk (λ_ a b=>g .zT a b) λk=>ar (bl .eql j (.Z 2)) λl=>bk (λb c d=>cz (b 11) λe=>bk k λf=>aV e (eW (d+9) λd=>fm b 0 1 λe f=>g9 f 2 a c λ_ f=>m1 b 5 a c 2 λi=>aW a 37 [e,f] c d (λc d e=>ar (dc a d .eql 58 false c i) λc=>m1 b 5 a d 2 λa=>gn a (some i) (g c d e)) h) (cz (b 10) λe=>n4 e 6 f λe f=>aV e (Dd d 12 b 1 2 a c 3 λd e f=>Rt e f λe=>m1 b 5 a c 2 λb=>ar (dc a c .eql 58 false e b) λa=>g a c d) (f (Z b 22 e) c d))) λa=>aV l (a (zA (cP [b,c,d]) 5 e 6 .zF 10 j 11 l) f i) (ar (bl .eql j (.Z 24)) λg=>a (Z (zA (cP [b,c,d]) 5 e 6 .zF 10 j 11 l) 11 g) f i)
def amg:cY X 51 [a0,a7,b6] h j ah av=aaA X a0 a7 b6 h j ah av:=Zk
def amf:cQ X 51 3=true:=Zk
def aaI(a:aL)(b c:D)(d:R af)(e:Nat)(f g:bI):Prop:=
 ip b (λ_ a b=>f (.Z (-1)) a b) λh i=>fg (λb c d e=>hm c 8 7 λh=>bk (λc d e=>bk (λa c d=>gJ a 8 λe=>b (Z a 8 e) c d) λb=>F9 c 2 λh i j=>m2 a d j λj=>iS a i [j] d e (λa d e=>bk b λb=>aV a (f h d e) (b (zy c 5 h 16 a) d e)) g) λa=>aV h (a (Z c 9 h) d e) (i (Z c 9 h) d e)) (zz (cP [b,c]) 4 (.Z 0) 7 h 8 (.Z 0)) d e
def amw:cY X 59 [a0,a7] h j ah av=aaI X a0 a7 h j ah av:=Zk
def amv:cQ X 59 2=true:=Zk
def aa1(a:aL)(b:D)(c:R af)(d:Nat)(e _:bI):Prop:=
 ar (dc a c .eql 37 true b .aT) λf=>bk (λb c d=>ar (hC 0 [] [] d) λf=>gu a c d f.1 f.2 λc d f=>e3 b λb=>hN (jP a d f 8 c b) d f λa b c=>e a b c) λa=>aV f (e .aT c d) (a (zy (cP [b]) 2 .aT 4 f) c d)
def am2:cY X 75 [a0] h j ah av=aa1 X a0 h j ah av:=Zk
def am1:cQ X 75 1=true:=Zk
end
noncomputable section
section
variable{X:ch}{h S' aK aJ:R af}{j am aM aR:Nat}{P:Nat->Prop}
def ga(c:e4):D:= .agg [.str c.1, .bool c.2]
def adp(X:ch):List Field:=match (o X).P.underlying 58 with|some (.struct jE)=>jE.toList|_=>[]
def aqB(eq:Nat->D->D->Option Bool)(F b fu dK:D):yu X eq (adp X) [F,b] [fu,dK]=(match eq 9 F fu with|some true=>(match eq 4 b dK with|some true=>some true|some false=>some false|none=>none)|some false=>some false|none=>none):=Zk
def aqz(ci m0:List D):jC X h 50 58 (.agg ci) (.agg m0)=yu X (jC X h 49) (adp X) ci m0:=Zk
def aqU(F b:aX):jC X h 49 9 (.str F) (.str b)=some (mP F b):=Zk
def acR(F b:e4):jC X h 50 58 (ga F) (ga b)=some (decide (F=b)):=by
 obtain⟨a7,b6⟩:=F
 obtain⟨bZ,cu⟩:=b
 simp only[ga]
 rw[aqz,aqB,aqU,SV,Sh,AH]
 by_cases J:a7=bZ<;>by_cases Q:b6=cu<;>simp[J,Q]
def J4(F b:e4):dc X h .eql 58 false (ga F) (ga b)=some (.bool (decide (F=b))):=by
 have a:dc X h .eql 58 false (.agg [.str F.1, .bool F.2]) (.agg [.str b.1, .bool b.2])=(match jC X h 50 58 (.agg [.str F.1, .bool F.2]) (.agg [.str b.1, .bool b.2])with|some b=>n9 b|none=>none):=Zk
 have E:=acR (X:=X) (h:=h) F b
 simp only[ga]at E ⊢
 rw[a,E]
 cases decide (F=b)<;>rfl
def Wm(F b:e4):dc X h .neq 58 false (ga F) (ga b)=some (.bool (!decide (F=b))):=by
 have a:dc X h .neq 58 false (.agg [.str F.1, .bool F.2]) (.agg [.str b.1, .bool b.2])=(match jC X h 50 58 (.agg [.str F.1, .bool F.2]) (.agg [.str b.1, .bool b.2])with|some b=>n9 (!b)|none=>none):=Zk
 have E:=acR (X:=X) (h:=h) F b
 simp only[ga]at E ⊢
 rw[a,E]
 cases decide (F=b)<;>rfl
def JL(au:di X)(aF:(o X).a6<=j)(d:ey):
 aW X 15 [.agg (d6 d)] h j (λac S' am=>ac=ga (mB d)/\bf X h j S' am) (λ_ _ _=>False):=by
 refine zx au (ali X) ?_
 rw[alj]
 unfold π
 have je:d6 d=[.str d.name, .Z d.at_, .bool d.ty.b, .bool d.ty.s, .Z d.ty.w, .str d.on, .Z d.eP, .bool d.no]:=rfl
 rw[je]
 refine cI ⟨?_⟩
 exact⟨rfl,dA⟩
def Is(au:di X){b8:D}{t:aX->Option c8}(aF:(o X).a6<=j)(a8:ia X h P b8 t)(bq:∀e,P e->e<j)(w:aX):
 aW X 37 [b8, .str w] h j (λac S' am=>ac=ga (gW t w)/\bf X h j S' am) (λ_ _ _=>False):=by
 refine zx au (alP X) ?_
 rw[alQ]
 unfold aak
 refine qk ?_
 generalize de:bi X h j _=aK
 have bK:U X aK j=zu [.str [], .zF] 2:=by rw[<-de,bb aF];rfl
 have bH:bf X h j aK (j+1):=by rw[<-de];exact dA
 clear de
 refine(yU (j:=j+1) au Zo (a8.aa (λe B=>bH.aa e (bq e B)) (λ_ a=>a)) (λe B=>zq (bq e B)) w).Zm ?_
 rintro ac aJ aR ⟨rfl,bC⟩
 have fC:=bC.le
 rw[<-bC.aa _ Zo]at bK
 have hp:=bH.trans bC
 have aft:gW t w=mB ((t w).getD nw).d:=rfl
 rw[aft]
 generalize (t w).getD nw=v at*
 have ot:lM v=[.Z v.kind, .str v.d.name, .Z v.d.at_, .bool v.d.ty.b, .bool v.d.ty.s, .Z v.d.ty.w, .str v.d.on, .Z v.d.eP, .bool v.d.no, .Z v.eq, .Z v.left]:=rfl
 rw[ot]
 refine cI ⟨?_⟩
 refine eL (λa1=>U X a1 j=zu [.str [], .zF] 2/\bf X h j a1 (aR+1)) ⟨by simp(disch:=omega) only[aC];exact bK,⟨Zo,λe B=>by simp(disch:=omega) only[aC];exact hp.aa e B⟩⟩ ?_
 rintro a1 ⟨cM,ck⟩
 refine(JL (j:=aR+1) au Zo v.d).Zm ?_
 rintro ac bA cv ⟨rfl,cW⟩
 have iG:=cW.le
 rw[<-cW.aa _ Zo]at cM
 generalize ax:mB v.d=c
 unfold ga
 refine ed @cM @p9 @qa ⟨?_⟩
 exact⟨rfl,⟨Zo,λe B=>by rw[aC Zo Zo,cW.aa _ Zo];exact ck.aa e B⟩⟩
end
section
variable{X:ch}{h S' aK aJ:R af}{j am aM aR:Nat}{P bg:Nat->Prop}
def NE(c:e4):D.same 30 (ga c) (ga c)=true:=by simp[ga,D.same,nO,AH]
def arh(au:di X){b8:D}{t:aX->Option c8}{E:bB}{v:D}(aF:(o X).a6<=j)(a8:ia X h P b8 t)(bq:∀e,P e->e<j)(bz:cE X h bg E v)(gz:∀e,bg e->e<j)(c:e4):
 aW X 51 [b8,v,ga c] h j (λac S' am=>ac= .bool (Kc t E c)/\bf X h j S' am) (λ_ _ _=>False):=by
 refine zx au (amf X) ?_
 rw[amg]
 unfold aaA
 obtain⟨b,aS,cO,br,rfl,ag,a0, -,b6,a3, -⟩:=bz.open
 have fY:=gz b ag
 refine q6 ?_
 generalize de:bi X h j _=aK
 have bK:U X aK j=zu [.str c.1, .bool c.2] 2:=by rw[<-de,bb aF];rfl
 have bH:bf X h j aK (j+1):=by rw[<-de];exact dA
 clear de
 rw[<-bH.ep _ _ fY]at a0 b6 a3
 have cr:cZ X aK 2 (.ptr j 0)=some (ga c):=by rw[il,bp bK,bp bK];rfl
 have EC:=a8.aa (S':=aK) (bg:=P) (λe B=>bH.aa e (bq e B)) (λ_ a=>a)
 unfold Kc
 by_cases cq:E.kind=2
 ·have cH:decide (E.kind=2)=true:=by simp[cq]
  rw[Zp (.inl cq)]
  refine fW @a0 @cH @b6 @cr ⟨?_⟩
  refine(Is (j:=j+1+9) au Zo EC (λe B=>zq (bq e B)) E.name).Zm ?_
  rintro ac aJ aR ⟨rfl,bC⟩
  have fC:=bC.le
  have dZ:cZ X aJ 2 (.ptr j 0)=some (ga c):=by rw[<-cr,il,il,bC.ep _ _ Zo,bC.ep _ _ Zo]
  refine cL @J4 @dZ ⟨?_⟩
  refine gp (NE c) ?_
  exact⟨rfl,bH.trans (bC.ko Zo)⟩
 ·have cH:decide (E.kind=2)=false:=by simp[cq]
  by_cases AA:E.kind=24
  ·have Bz:decide (E.kind=24)=true:=by simp[AA]
   rw[Zp (.inr AA)]
   refine gb @a0 @cH @Bz @b6 @cr ⟨?_⟩
   refine(Is (j:=j+1+9) au Zo EC (λe B=>zq (bq e B)) E.name).Zm ?_
   rintro ac aJ aR ⟨rfl,bC⟩
   have fC:=bC.le
   have dZ:cZ X aJ 2 (.ptr j 0)=some (ga c):=by rw[<-cr,il,il,bC.ep _ _ Zo,bC.ep _ _ Zo]
   refine cL @J4 @dZ ⟨?_⟩
   refine gp (NE c) ?_
   exact⟨rfl,bH.trans (bC.ko Zo)⟩
  ·have Bz:decide (E.kind=24)=false:=by simp[AA]
   rw[Zh (λa=>a.elim cq AA)]
   by_cases dk:E.kind=6
   ·have hF:decide (E.kind=6)=true:=by simp[dk]
    have b3:dc X aK .eql 58 false (.agg [.str E.name, .bool E.no]) (ga c)=some (.bool (decide ((E.name,E.no)=c))):=J4 (E.name,E.no) c
    rw[Zp dk]
    refine et @a0 @cH @Bz @hF @b6 @a3 (Za @cr @b3) ⟨?_⟩
    exact⟨rfl,bH.more Zo⟩
   ·have hF:decide (E.kind=6)=false:=by simp[dk]
    rw[Zh dk]
    refine fW @a0 @cH @Bz @hF ⟨?_⟩
    exact⟨rfl,bH⟩
def aBd(au:di X){bO:Nat}{w:aX}(aF:(o X).a6<=j)(iF:bO<j)(ax:aI X h (.ptr bO 0)=some (.str w))(x:e4):
 aW X 35 [ga x, .ptr bO 0] h j (λac S' am=>ac= .bool (decide (x.1=w))/\bf X h j S' am) (λ_ _ _=>False):=by
 refine zx au (alL X) ?_
 rw[alM]
 unfold aai
 refine q6 ?_
 generalize de:bi X h j _=aK
 have bK:U X aK j=zu [.str x.1, .bool x.2] 2:=by rw[<-de,bb aF];rfl
 have bH:bf X h j aK (j+1):=by rw[<-de];exact dA
 clear de
 rw[<-bH.ep _ _ iF]at ax
 refine cL (bp bK) @ax ⟨?_⟩
 exact⟨rfl,bH⟩
def pC(c:e4):List D:=[.str c.1, .bool c.2]
def apx(au:di X){bO b:Nat}{w:aX}{aS:D}{k:List e4}(aF:(o X).a6<=j)(iF:bO<j)(ax:aI X h (.ptr bO 0)=some (.str w))(az:dL X h P b aS 2 (k.map pC))(bq:∀e,P e->e<j):
 aW X 59 [aS, .func (.func 35) [] [.ptr bO 0]] h j (λac S' am=>(∃r:Int,ac= .Z r/\(0<=r↔(k.map Prod.fst).contains w=true))/\bf X h j S' am) (λ_ _ _=>False):=by
 refine zx au (amv X) ?_
 rw[amw]
 unfold aaI
 have eT:=az.len
 have ik:=az.many
 rw[Zi]at eT ik
 refine ce @eT ⟨?_⟩
 refine fp (λm H S' aP=>∃(T:Nat),H.g 0=some aS/\H.g 1=some (.func (.func 35) [] [.ptr bO 0])/\H.g 7=some (.Z (k.length:Int))/\H.g 8=some (.Z (T:Int))/\T+m=k.length/\bf X h j S' aP/\∀x∈k.take T,x.1≠w)
  k.length ⟨0,be,be,be,fO,Zo,bf.refl _ _,λx ae=>by simp at ae⟩ ?_
 rintro m H aJ aR ⟨T,t0,t1,t7,t8,bJ,bC,k7⟩
 have fC:=bC.le
 cases m with
 |zero=>
  have d:=zr T k.length
  rw[ZB Zo]at k7
  refine ed @t8 @t7 @d ⟨?_⟩
  refine⟨⟨-1,rfl, ?_⟩,bC⟩
  simp only[List.contains_eq_mem,ZG,Zg]
  exact⟨λa=>absurd a Zd,λ⟨x,ae,E⟩=>absurd E (k7 x ae)⟩
 |succ m=>
  have d:=zs T k.length
  have bD:=zv T
  obtain⟨x,ae⟩:=zt k T
  have awd:(k.map pC)[T]? =some (pC x):=by rw[Zw,ae];rfl
  have dw:=az.fI T (by rw[Zi];omega)
  have hs:cZ X aJ 2 (.ptr b (T*2))=some (ga x):=((az.aa (λe B=>bC.aa e (bq e B))).row Zd awd)
  refine et @t8 @t7 @t1 @t0 @d @dw @hs ⟨?_⟩
  refine(aBd (j:=aR) au Zo Zo (by rw[bC.ep _ _ iF];exact ax) x).Zm ?_
  rintro ac a1 bn ⟨rfl,ck⟩
  have kk:k.take (T+1)=k.take T++[x]:=by rw[ZU,ae];rfl
  refine pI ⟨?_⟩
  refine gk ?_
  refine Bu (λbw=> ?_) (λbw=> ?_)
  ·refine cI ⟨?_⟩
   refine⟨⟨T,rfl, ?_⟩,bC.trans ck⟩
   simp only[List.contains_eq_mem,ZG,Zg]
   exact⟨λ_=>⟨x,Zn ae,bw⟩,λ_=>Zo⟩
  ·refine cL @t8 @bD ⟨?_⟩
   exact⟨m,Zo,T+1,aZ t0,aZ t1,aZ t7,be,Zo,bC.trans ck,λe B=>by
    rw[kk]at B
    rcases Zz.1 B with a|a
    ·exact k7 e a
    ·simp at a;rw[a];exact bw⟩
def apL(au:di X){bO b:Nat}{w:aX}{aS:D}{k:List e4}(aF:(o X).a6<=j)(iF:bO<j)(ax:aI X h (.ptr bO 0)=some (.str w))(az:dL X h P b aS 2 (k.map pC))(bq:∀e,P e->e<j):
 aW X 36 [aS, .func (.func 35) [] [.ptr bO 0]] h j (λac S' am=>ac= .bool ((k.map Prod.fst).contains w)/\bf X h j S' am) (λ_ _ _=>False):=by
 refine zx au (alN X) ?_
 rw[alO]
 unfold aaj
 refine(apx au aF iF ax az bq).Zm ?_
 rintro ac aK aM ⟨⟨r,rfl,Y⟩,bT⟩
 refine cI ⟨?_⟩
 refine⟨?_,bT⟩
 congr 1
 by_cases a:(k.map Prod.fst).contains w=true
 ·rw[a];simp[Y.2 a]
 ·have:¬0<=r:=λE=>a (Y.1 E)
  simp only[Bool.not_eq_true]at a
  rw[a];simp;omega
end
section
variable{X:ch}{h S' aK aJ:R af}{j am aM aR:Nat}{P bg:Nat->Prop}
structure Di(X:ch)(eF:R af)(j:Nat)(fy:List e4)(c:e4)(aS:D)(h:R af)(n:Nat):Prop where
 lt:j<n
 box:∃cc,U X h j=some (.cells cc 2 .own)/\cc.get 0=some (.str c.1)/\cc.get 1=some (.bool c.2)
 aS:∃cw,gw X h aS 2 (fy.map pC).flatten cw/\∀e∈cw,j<e/\e<n
 low:∀e,e<j->U X h e=U X eF e
def Di.aa{eF:R af}{fy:List e4}{c:e4}{aS:D}(a:Di X eF j fy c aS aK aM)(f4:aM<=aR)(y:∀e,e<aM->U X aJ e=U X aK e):Di X eF j fy c aS aJ aR:=by
 have az:=a.lt
 obtain⟨cc,g,jb,bK⟩:=a.box
 obtain⟨cw,jw,jY⟩:=a.aS
 exact⟨Zo,⟨cc,by rw[y _ az];exact g,jb,bK⟩,⟨cw,jw.aa λe B=>y e (jY e B).2,λe B=>zq (jY e B)⟩,λe B=>by rw[y e Zo];exact a.low e B⟩
def acs:∀(k:List e4),∀r∈k.map pC,r.length=2:=by
 intro k r Y
 obtain⟨c,_,rfl⟩:=ZG.1 Y
 rfl
def Di.rd{eF:R af}{fy:List e4}{c:e4}{aS:D}{n:Nat}(a:Di X eF j fy c aS h n)(bo:fy.length<=300000):∃b,dL X h (dx j n) b aS 2 (fy.map pC):=by
 obtain⟨cw,jw,jY⟩:=a.aS
 exact jw.rH Zd (acs fy) (by rw[Zi];exact bo) (λe B=>by have:=jY e B;exact⟨Zo,Zo⟩)
def acg(au:di X){b8:D}{t:aX->Option c8}{fh:List aX}(aF:(o X).a6<=j)(a8:ia X h P b8 t)(bq:∀e,P e->e<j)(fX:∀w,t w≠none->w∈fh)(bo:fh.length<=200000)(c:e4):
 aW X 19 [b8,ga c] h j (λac S' am=>(∃b,dL X S' (dx j am) b ac 2 ((kL t (fh.length+1) [] c).map pC))/\bf X h j S' am) (λ_ _ _=>False):=by
 refine zx au (alp X) ?_
 rw[alq]
 unfold υ
 refine q6 ?_
 generalize de:bi X h j _=aK
 have bK:U X aK j=zu [.str c.1, .bool c.2] 2:=by rw[<-de,bb aF];rfl
 have bH:bf X h j aK (j+1):=by rw[<-de];exact dA
 clear de
 refine cI ⟨?_⟩
 refine fp (λm H S' aP=>∃fy gQ aS,H.g 0=some b8/\H.g 3=some (.ptr j 0)/\H.g 5=some aS/\H.g 6=some (.func (.func 35) [] [.ptr j 0])/\Di X h j fy gQ aS S' aP/\kL t m fy gQ=kL t (fh.length+1) [] c/\(fy.map Prod.fst).Nodup/\(∀w∈fy.map Prod.fst,w∈fh)/\m+fy.length=fh.length+1)
  (fh.length+1) ⟨[],c, .aT,be,be,be,be,⟨Zo,⟨_,bK,rfl,rfl⟩,⟨[], .inl (.inl ⟨rfl,rfl,rfl⟩),λe B=>by simp at B⟩,bH.aa⟩,rfl,Zs,Zs,Zs⟩ ?_
 rintro m H a1 bn ⟨fy,gQ,aS,t0,t3,t5,t6,fe,iQ,Ag,ol,aEA⟩
 have c2:=fe.lt
 have eT:fy.length<=fh.length:=by
  have:=ahW (fy.map Prod.fst) fh Ag ol
  simpa using this
 obtain⟨m,rfl⟩:∃y,m=y+1:=⟨m-1,Zo⟩
 obtain⟨cc,ii,dH,cX⟩:=fe.box
 rw[kL]at iQ
 have kk:∀{S'},(∀e,e<j->U X S' e=U X h e)->ia X S' P b8 t:=λy=>a8.aa (λe B=>y e (bq e B)) (λ_ a=>a)
 refine fW @t0 @t3 (bp ii) @dH ⟨?_⟩
 refine(yU (j:=bn) au Zo (kk fe.low) (λe B=>zq (bq e B)) gQ.1).Zm ?_
 rintro ac bA cv ⟨rfl,cW⟩
 have iG:=cW.le
 have o3:=fe.aa iG cW.aa
 clear fe ii dH cX cc
 have aft:gW t gQ.1=mB ((t gQ.1).getD nw).d:=rfl
 generalize (t gQ.1).getD nw=v at*
 have ot:lM v=[.Z v.kind, .str v.d.name, .Z v.d.at_, .bool v.d.ty.b, .bool v.d.ty.s, .Z v.d.ty.w, .str v.d.on, .Z v.d.eP, .bool v.d.no, .Z v.eq, .Z v.left]:=rfl
 rw[ot]
 refine cL @t5 @t6 ⟨?_⟩
 refine eL (λbN=>∀e,e<cv->U X bN e=U X bA e) (λe B=>zw) ?_
 intro bN dY
 have hH:=o3.aa (aR:=cv+1) Zo dY
 obtain⟨cc,ii,dH,cX⟩:=hH.box
 obtain⟨b,cC⟩:=hH.rd Zo
 refine(apL (j:=cv+1) (w:=gQ.1) au Zo Zo (by rw[bp ii];exact dH) cC (λe B=>B.2)).Zm ?_
 rintro ac bY dv ⟨rfl,ej⟩
 have o7:=ej.le
 have h3:=hH.aa o7 ej.aa
 clear o3 hH ii dH cX cc cC
 by_cases ax:(fy.map Prod.fst).contains gQ.1=true
 ·rw[Zp ax]at iQ
  rw[ax]
  refine ce @t5 ⟨?_⟩
  rw[<-iQ]
  refine⟨h3.rd Zo,⟨Zo,h3.low⟩⟩
 ·rw[Zh ax]at iQ
  simp only[Bool.not_eq_true]at ax
  rw[ax]
  have T7:gQ.1∉fy.map Prod.fst:=by simpa using ax
  obtain⟨cc,ii,dH,cX⟩:=h3.box
  have cr:cZ X bY 2 (.ptr j 0)=some (.agg [.str gQ.1, .bool gQ.2]):=by rw[il,bp ii,bp ii,dH,cX];rfl
  refine ed @t5 @t3 @cr ⟨?_⟩
  generalize kO:bi X bY dv _=cn
  have GV:U X cn dv=zu (pC gQ) 2:=by rw[<-kO,bb Zo];rfl
  have fJ:∀e,e<dv->U X cn e=U X bY e:=λe B=>by rw[<-kO,aC Zo Zo]
  clear kO
  obtain⟨cw,aiA,AU⟩:=h3.aS
  have mj:(fy.map pC).flatten.length=fy.length*2:=by rw[uA (acs fy),Zi]
  obtain⟨eX,dC,gL,iE,HT,B1,sk⟩:=(aiA.aa (S':=cn) (λe B=>fJ e (AU e B).2)).append (j:=dv+1) Zd (sJ (y:=1) GV (nk _) rfl 1) rfl Zd rfl (by rw[mj];simp[pC];omega) Zo (λe B=>zq (AU e B))
  refine j8 iE ?_
  have B7:j∉cw:=λa=>zq (AU _ a)
  have jd:Di X h j (fy++[gQ]) gQ eX dC (dv+1+1):=by
   refine⟨Zo,⟨cc,by rw[sk _ Zo B7,fJ _ Zo];exact ii,dH,cX⟩,⟨gL, ?_, ?_⟩,λe B=>by rw[sk e Zo (λa=>zq (AU _ a)),fJ e Zo];exact h3.low e B⟩
   ·rw[ZQ,YK]
    have:([gQ].map pC).flatten=pC gQ:=by simp
    rw[this]
    exact .inl HT
   ·intro e B
    rcases B1 e B with rfl|a
    ·omega
    ·have:=AU _ a;omega
  clear iE HT B1 sk GV fJ aiA AU h3 ii dH cX cc cr
  obtain⟨cc,ii,dH,cX⟩:=jd.box
  by_cases aY:gQ.1=[]
  ·rw[Zp (.inl aY)]at iQ
   have jn:decide (gQ.1=[])=true:=by simp[aY]
   refine fW @t3 (bp ii) @dH @jn ⟨?_⟩
   rw[<-iQ]
   exact⟨jd.rd Zx,⟨Zo,jd.low⟩⟩
  ·have jn:decide (gQ.1=[])=false:=by simp[aY]
   by_cases aD:t gQ.1=none
   ·rw[Zp (.inr aD)]at iQ
    have ds:(t gQ.1).isSome=false:=by rw[aD];rfl
    refine gb @t3 (bp ii) @dH @jn @ds ⟨?_⟩
    rw[<-iQ]
    exact⟨jd.rd Zx,⟨Zo,jd.low⟩⟩
   ·rw[Zh (λa=>a.elim aY aD)]at iQ
    have ds:(t gQ.1).isSome=true:=by cases a:t gQ.1 with
     |none=>exact absurd a aD
     |some _=>rfl
    refine ih @t3 (bp ii) @dH @jn @ds @t0 ⟨?_⟩
    refine(Is (j:=dv+1+1) au Zo (kk jd.low) (λe B=>zq (bq e B)) gQ.1).Zm ?_
    rintro ac dW d4 ⟨rfl,hc⟩
    have pQ:=hc.le
    have TT:=jd.aa pQ hc.aa
    clear jd ii dH cX cc
    obtain⟨cc,na, -, -⟩:=TT.box
    obtain⟨ao6,aA6,air⟩:=TT.aS
    unfold ga
    refine cL @t3 @na ⟨?_⟩
    refine⟨m,Zo,fy++[gQ],gW t gQ.1,eX,aZ t0,aZ t3,be,aZ t6,⟨Zo,⟨_,bb Zo,by exact p9 _ _ _,by exact qa _ _ _⟩,⟨ao6,aA6.aa (λe B=>aC Zo (zq (air e B))),air⟩,λe B=>by rw[aC Zo Zo];exact TT.low e B⟩,iQ, ?_, ?_,Zx⟩
    ·rw[ZQ,Y6]
     refine⟨Ag,Zs,λF aA b ag E=> ?_⟩
     simp at ag
     rw[E,ag]at aA
     exact T7 aA
    ·intro w bw
     rw[ZQ]at bw
     rcases Zz.1 bw with a|a
     ·exact ol w a
     ·simp at a;rw[a];exact fX _ aD
end
def ta(g:Go.aQ.Node)(iv:Bool):List ey:=if iv then g.d3 else g.d3++g.out
def kZ(g:Go.aQ.Node):List ey:=g.d3++(g.out++g.loc)
def su(g:Go.aQ.Node):Nat:=(ld g).length+1
def vp(t:aX->Option c8)(n:Nat)(d:ey):Bool:=decide ((kL t n [] (mB d)).getLast?≠some mA)
def lv(t:aX->Option c8)(n:Nat)(g:Go.aQ.Node)(iv:Bool):Int×Int:=match (ta g iv).find? λd=>decide (d.on≠[])with
 |some d=>(27,d.eP)
 |none=>match (kZ g).find? (vp t n)with
  |some d=>(25,d.eP)
  |none=>(0,0)
def adf{α:Type}{p:α->Bool}{k:List α}{T:Nat}(a:k.find? p=(k.drop T).find? p)(bJ:k.length<=T):k.find? p=none:=by
 rw[a,ZD bJ];rfl
def ade{α:Type}{p:α->Bool}{k:List α}{T:Nat}{x:α}(a:k.find? p=(k.drop T).find? p)(ae:k[T]? =some x)(aw:p x=false):k.find? p=(k.drop (T+1)).find? p:=by
 obtain⟨J,Q⟩:=Zb.1 ae
 rw[a,Zr J,Q,List.find?_cons_of_neg (by simp[aw])]
def adg{α:Type}{p:α->Bool}{k:List α}{T:Nat}{x:α}(a:k.find? p=(k.drop T).find? p)(ae:k[T]? =some x)(aw:p x=true):k.find? p=some x:=by
 obtain⟨J,Q⟩:=Zb.1 ae
 rw[a,Zr J,Q,List.find?_cons_of_pos aw]
section
variable{X:ch}{h S' aK aJ:R af}{j am aM aR:Nat}{P bg:Nat->Prop}
def ayF:dc X h .eql 37 true .aT .aT=some .zT:=Zk
def aBt(b V k c:Nat):dc X h .eql 37 true (.slice b V k c) .aT=some .zF:=Zk
def aBz(b V k c:Nat):dc X h .eql 37 true (.fc b V k c) .aT=some .zF:=Zk
def ayG{aS:D}{n:Nat}(a:gC aS=some (.Z (n:Int))):(aS= .aT/\n=0)\/dc X h .eql 37 true aS .aT=some .zF:=by
 cases aS with
 |aT=>rw[xO]at a;injection a with a;injection a with _ a;exact .inl ⟨rfl,Zo⟩
 |slice b V k c=>exact .inr (aBt b V k c)
 |fc b V k c=>exact .inr (aBz b V k c)
 |_=>simp[gC]at a
def ahF(k:List ey):ju (k.map d6).flatten=true:=by
 induction k with
 |nil=>rfl
 |cons t k ai=>exact ai
def apA(au:di X){k:List ey}{b:Nat}{aS:D}(aF:(o X).a6<=j)(cC:dL X h P b aS 8 (k.map d6))(bo:k.length<=100000)(bq:∀e,P e->e<j):
 aW X 75 [aS] h j (λac S' am=>(∃cw,gw X S' ac 8 (k.map d6).flatten cw/\∀e∈cw,dx j am e)/\bf X h j S' am) (λ_ _ _=>False):=by
 refine zx au (am1 X) ?_
 rw[am2]
 unfold aa1
 have d2:=cC.len
 rw[Zi]at d2
 rcases ayG (X:=X) (h:=h) d2 with ⟨rfl,aY⟩|dS
 ·have:k=[]:=Z9 aY
  subst this
  refine ce @ayF ⟨?_⟩
  exact⟨⟨[], .inl (.inl ⟨rfl,rfl,rfl⟩),λe B=>by simp at B⟩,bf.refl _ _⟩
 ·refine ce @dS ⟨?_⟩
  generalize de:Go.ba.bi X h j _=aK
  have bK:U X aK j=zu [] (0*8):=by rw[<-de,bb aF]
  have bH:bf X h j aK (j+1):=by rw[<-de];exact dA
  clear de
  have aD:=QH (cC.aa (λe B=>bH.aa e (bq e B))) Zd
  rw[Zi]at aD
  by_cases aY:k=[]
  ·subst aY
   have E:jP X aK (j+1) 8 (.slice j 0 0 0) aS=some (.val (.slice j 0 0 0)):=by simp only[jP,aD];rfl
   refine WM E ?_
   exact⟨⟨[j], .inr ⟨j,0,_, .own,rfl,rfl,rfl,bK,nk []⟩,λe B=>by simp at B;subst B;exact⟨Zo,Zo⟩⟩,bH⟩
  ·have aH:0<k.length:=Yj.2 aY
   have mj:=NQ k
   obtain⟨eX,aJ,cw,aA,hJ,eU,iR⟩:=gw.append (j:=j+1) (k:=[]) (cw:=[j]) (m:=(k.map d6).flatten) (.inr ⟨j,0,_, .own,rfl,rfl,rfl,bK,nk []⟩) Zd aD mj aH (ahF k) (by rw[mj];simp;omega) Zo Zs
   refine j8 aA ?_
   exact⟨⟨cw, .inl hJ,λe B=>by rcases(show e=j+1\/e=j by simpa using eU e B)with rfl|rfl<;>exact⟨Zo,Zo⟩⟩,⟨Zo,λe B=>by rw[iR e Zo Zx];exact bH.aa e B⟩⟩
def axq{t:aX->Option c8}:∀(n:Nat) (k:List e4) (c:e4),k≠[]\/0<n->kL t n k c≠[]:=by
 intro n
 induction n with
 |zero=>intro k c a;exact a.resolve_right Zo
 |succ n ai=>
  intro k c a
  rw[kL]
  split
  ·rename_i ax
   intro E;subst E;simp at ax
  ·split
   ·simp
   ·exact ai _ _ (.inl Zs)
def acf{t:aX->Option c8}:∀(n:Nat) (k:List e4) (c:e4),(kL t n k c).length<=k.length+n:=by
 intro n
 induction n with
 |zero=>intro k c;rw[kL];exact Zj _
 |succ n ai=>
  intro k c
  rw[kL]
  split
  ·omega
  ·split
   ·rw[ZK,List.length_singleton];omega
   ·have:=ai (k++[c]) (gW t c.1)
    simp at this
    omega
set_option maxRecDepth 100000 in
def apV(au:di X){b8:D}{t:aX->Option c8}{fh:List aX}{g:Go.aQ.Node}{row:List D}(aF:(o X).a6<=j)(a8:ia X h P b8 t)(bP:oM X h P g row)(bq:∀e,P e->e<j)(fX:∀w,t w≠none->w∈fh)(bo:fh.length<=200000)(bh:g.out≠[])(bv:(kZ g).length<=100000)(iv:Bool):
 aW X 47 [b8, .agg row, .bool iv] h j (λac S' am=>ac= .agg [.Z (lv t (fh.length+1) g iv).1, .Z (lv t (fh.length+1) g iv).2]/\bf X h j S' am) (λ_ _ _=>False):=by
 refine zx au (al9 X) ?_
 rw[ama]
 unfold aau
 obtain⟨c5,dt,aS,eM,bZ,cu,c0,fE,bL,rfl,mH,k5,oj,jp,e6⟩:=bP
 have uR:g.d3.length+g.out.length+g.loc.length<=100000:=by simpa[kZ,ZJ]using bv
 have sl:=Yj.2 bh
 refine cI ⟨?_⟩
 refine eL (λaK=>U X aK j=zu [.str g.name, .Z g.at_,c5,dt,aS,eM] 6/\U X aK (j+1)=zu [.Z 0, .Z 0] 2/\bf X h j aK (j+1+1))
  ⟨by simp(disch:=omega) only[aC,bb]<;>rfl,by rw[bb Zo];rfl,dA⟩ ?_
 rintro aK ⟨bK,b1,bH⟩
 have l1:∀e,P e->U X aK e=U X h e:=λe B=>bH.aa e (bq e B)
 refine(apA (j:=j+1+1) au Zo (mH.aa l1) Zo (λe B=>zq (bq e B))).Zm ?_
 rintro v aJ aR ⟨⟨cw,hJ,eU⟩,bC⟩
 have fC:=bC.le
 rw[<-bC.aa _ Zo]at bK b1
 have hp:=bH.trans bC
 have fin:∀{S':R af}{aP:Nat}{H:cU}{P2:bI},(∀e,e<j->U X S' e=U X h e)->j+1<aP->True:=λ_ _=>trivial
 refine hw ⟨?_⟩
 refine jW (λH S' aP=>∃v cw,H.g 0=some b8/\H.g 4=some (.ptr j 0)/\H.g 6=some (.ptr (j+1) 0)/\H.g 7=some v/\gw X S' v 8 ((ta g iv).map d6).flatten cw/\(∀e∈cw,j+1<e/\e<aP)/\j+1<aP/\U X S' j=zu [.str g.name, .Z g.at_,c5,dt,aS,eM] 6/\U X S' (j+1)=zu [.Z 0, .Z 0] 2/\∀e,e<j->U X S' e=U X h e) (λT bJ=> ?_) ?_
 ·cases iv with
  |true=>
   refine cI ⟨?_⟩
   exact bJ _ _ _ ⟨v,cw,be,be,be,be,hJ,λe B=>by have:=eU e B;exact⟨zq this.1,this.2⟩,Zo,bK,b1,hp.aa⟩
  |false=>
   refine ce (bp bK) ⟨?_⟩
   have aD:=QH (k5.aa λe B=>hp.aa e (bq e B)) Zd
   rw[Zi]at aD
   have mj:=NQ g.out
   have at6:=NQ g.d3
   obtain⟨eX,a1,gL,aA,avF,atv,mI⟩:=hJ.append (j:=aR) Zd aD mj sl (ahF g.out) (by rw[mj,at6];omega) Zo (λe B=>(eU e B).2)
   refine j8 aA ?_
   have dX:∀e,e<j+1+1->e∉cw:=λe B a=>zq (eU e a).1
   exact bJ _ _ _ ⟨eX,gL,be,be,be,be,by show gw _ _ _ 8 ((g.d3++g.out).map d6).flatten _;rw[ZQ,YK];exact .inl avF,λe B=>by
    rcases atv e B with rfl|a
    ·omega
    ·have:=eU e a;exact⟨zq this.1,zq this.2⟩,Zo,by rw[mI _ Zo (dX _ Zo)];exact bK,by rw[mI _ Zo (dX _ Zo)];exact b1,λe B=>by rw[mI e Zo (dX e Zo)];exact hp.aa e B⟩
 ·clear fin hJ eU cw hp bC bK b1 bH l1 v
  rintro H a1 bn ⟨v,cw,t0,t4,t6,t7,hJ,eU,v6,bK,b1,K5⟩
  have fY:(ta g iv).length<=100000:=by unfold ta;cases iv<;>simp<;>omega
  obtain⟨aFU,cC⟩:=hJ.rH (P:=λe=>j+1<e/\e<bn) Zd (SM _) (by rw[Zi];omega) eU
  have d2:=cC.len
  rw[Zi]at d2
  refine cL @t7 @d2 ⟨?_⟩
  refine fp (λm H S' aP=>∃(T:Nat),H.g 0=some b8/\H.g 4=some (.ptr j 0)/\H.g 6=some (.ptr (j+1) 0)/\H.g 22=some v/\H.g 23=some (.Z ((ta g iv).length:Int))/\H.g 24=some (.Z (T:Int))/\T+m=(ta g iv).length/\bf X a1 bn S' aP/\((ta g iv).find? λd=>decide (d.on≠[]))=((ta g iv).drop T).find? λd=>decide (d.on≠[]))
   (ta g iv).length ⟨0,aZ t0,aZ t4,aZ t6,be,be,fO,Zo,bf.refl _ _,rfl⟩ ?_
  clear t0 t4 t6 t7
  rintro m H bA cv ⟨T,t0,t4,t6,rL,QV,u6,bJ,cW,tu⟩
  have iG:=cW.le
  rw[<-cW.aa _ Zo]at bK b1
  have HC:∀e,e<j->U X bA e=U X h e:=λe B=>by rw[cW.aa e Zo];exact K5 e B
  have bD:=zv T
  cases m with
  |zero=>
   have d:=zr T (ta g iv).length
   have k7:=adf tu Zo
   have kP:lv t (fh.length+1) g iv=match (kZ g).find? (vp t (fh.length+1))with|some d=>(25,d.eP)|none=>(0,0):=by unfold lv;rw[k7]
   rw[kP]
   refine gb @u6 @QV @d @t4 (bp bK) ⟨?_⟩
   have cX:=(km mH.len).1
   have dI:=(km k5.len).1
   have gZ:=(km oj.len).1
   refine f7 (show hC 3 [.aT, .aT, .aT] [(0,1,c5),(1,1,dt),(2,1,aS)] cv=some (.slice cv 0 3 3, .cells (R.ofList [c5,dt,aS] 0 .nil) 3 .own) by simp[hC,uy,uz,nY,cX,dI,gZ]) ?_
   refine cI ⟨?_⟩
   generalize iD:Go.ba.bi X _ cv _=bN
   have fj:U X bN cv=zu [c5,dt,aS] 3:=by rw[<-iD,bb Zo]
   have dY:∀e,e<cv->U X bN e=U X bA e:=λe B=>by rw[<-iD,aC Zo Zo]
   clear iD
   rw[<-dY _ Zo]at bK b1
   have AB:∀e,P e->U X bN e=U X h e:=λe B=>by have:=bq e B;rw[dY e Zo];exact HC e this
   refine(acq (j:=cv+1) (h:=bN) au Zo Zo fj (mH.aa AB) (k5.aa AB) (oj.aa AB) (λe B=>zq (bq e B)) Zo Zo).Zm ?_
   rintro ac bY dv ⟨bO,Pw,ej⟩
   change dL X bY _ bO ac 8 ((kZ g).map d6)at Pw
   have o7:=ej.le
   rw[<-ej.aa _ Zo]at bK b1
   have Af:∀e,e<j->U X bY e=U X h e:=λe B=>by rw[ej.aa e Zo,dY e Zo];exact HC e B
   have afh:=Pw.len
   rw[Zi]at afh
   refine ce @afh ⟨?_⟩
   refine fp (λm H S' aP=>∃(T:Nat),H.g 0=some b8/\H.g 6=some (.ptr (j+1) 0)/\H.g 42=some ac/\H.g 43=some (.Z ((kZ g).length:Int))/\H.g 44=some (.Z (T:Int))/\T+m=(kZ g).length/\bf X bY dv S' aP/\(kZ g).find? (vp t (fh.length+1))=((kZ g).drop T).find? (vp t (fh.length+1)))
    (kZ g).length ⟨0,aZ t0,aZ t6,be,be,fO,Zo,bf.refl _ _,rfl⟩ ?_
   clear t0 t4 t6 rL QV u6 bD d tu bJ
   rintro m H cn d8 ⟨T,t0,t6,aiO,t43,t44,bJ,eA,tu⟩
   have ng:=eA.le
   rw[<-eA.aa _ Zo]at b1
   have K6:∀e,e<j->U X cn e=U X h e:=λe B=>by rw[eA.aa e Zo];exact Af e B
   cases m with
   |zero=>
    have d:=zr T (kZ g).length
    rw[adf tu Zo]
    refine et @t44 @t43 @d @t6 @b1 @p9 @qa ⟨?_⟩
    exact⟨rfl,Zo,λe B=>by rw[aC Zo Zo];exact K6 e B⟩
   |succ m=>
    have d:=zs T (kZ g).length
    have bD:=zv T
    obtain⟨aB,vO⟩:∃d,(kZ g)[T]? =some d:=⟨_,Ze Zo⟩
    have dw:=Pw.fI T (by rw[Zi];omega)
    have fb:=(Pw.aa (λe B=>eA.aa e B.2)).row (i:=T) (r:=d6 aB) Zd (by rw[Zw,vO];rfl)
    have je:d6 aB=[.str aB.name, .Z aB.at_, .bool aB.ty.b, .bool aB.ty.s, .Z aB.ty.w, .str aB.on, .Z aB.eP, .bool aB.no]:=rfl
    rw[je]at fb
    refine ih @t44 @t43 @aiO @d @dw @fb ⟨?_⟩
    generalize mh:Go.ba.bi X _ d8 _=dC
    have fN:U X dC d8=zu [.str aB.name, .Z aB.at_, .bool aB.ty.b, .bool aB.ty.s, .Z aB.ty.w, .str aB.on, .Z aB.eP, .bool aB.no] 8:=by rw[<-mh,bb Zo];rfl
    have gM:∀e,e<d8->U X dC e=U X cn e:=λe B=>by rw[<-mh];exact zw
    clear mh
    rw[<-gM _ Zo]at b1
    have aux:cZ X dC 8 (.ptr d8 0)=some (.agg (d6 aB)):=by rw[tM,bp fN,bp fN,bp fN,bp fN,bp fN,bp fN,bp fN,bp fN];rfl
    refine cL @t0 @aux ⟨?_⟩
    refine(JL (j:=d8+1) au Zo aB).Zm ?_
    rintro IX dW d4 ⟨rfl,hc⟩
    have pQ:=hc.le
    rw[<-hc.aa _ Zo]at b1 fN
    have afi:∀e,e<j->U X dW e=U X h e:=λe B=>by rw[hc.aa e Zo,gM e Zo];exact K6 e B
    refine(acg (j:=d4) au Zo (a8.aa (bg:=P) (λe B=>afi e (bq e B)) (λ_ a=>a)) (λe B=>zq (bq e B)) fX bo (mB aB)).Zm ?_
    rintro ai2 rY Il ⟨⟨hM,Px⟩,Ou⟩
    have auy:=Ou.le
    rw[<-Ou.aa _ Zo]at b1 fN
    have auC:∀e,e<j->U X rY e=U X h e:=λe B=>by rw[Ou.aa e Zo];exact afi e B
    have KI:vp t (fh.length+1) aB=decide ((kL t (fh.length+1) [] (mB aB)).getLast?≠some mA):=rfl
    have aeA:kL t (fh.length+1) [] (mB aB)≠[]:=axq _ _ _ (.inr Zo)
    have Ub:=acf (t:=t) (fh.length+1) [] (mB aB)
    generalize kL t (fh.length+1) [] (mB aB)=fw at Px KI aeA Ub
    have g1:=Px.len
    rw[Zi]at g1
    have tp:=Yj.2 aeA
    obtain⟨bu,cm⟩:∃bu,fw[fw.length-1]? =some bu:=⟨_,Ze Zo⟩
    rw[List.getLast?_eq_getElem?,cm]at KI
    have cG:bl .sub (.Z (fw.length:Int)) (.Z 1)=some (.Z ((fw.length-1:Nat):Int)):=by
     have:((fw.length-1:Nat):Int)=(fw.length:Int) -1:=Zo
     rw[this];exact uV (by simp at Ub;omega) (by simp at Ub;omega)
    have aeY:=Px.fI (fw.length-1) (by rw[Zi];omega)
    have Am:cZ X rY 2 (.ptr hM ((fw.length-1)*2))=some (ga bu):=Px.row Zd (by rw[Zw,cm];rfl)
    have HG:dc X rY .neq 58 false (ga bu) (.agg [.str [], .zF])=some (.bool (!decide (bu=mA))):=Wm bu mA
    have lX:vp t (fh.length+1) aB= !decide (bu=mA):=by
     rw[KI];by_cases a:bu=mA<;>simp[a]
    by_cases Vq:bu=mA
    ·have b3:(!decide (bu=mA))=false:=by simp[Vq]
     rw[b3]at HG lX
     refine et @g1 @cG @aeY @Am @HG @t44 @bD ⟨?_⟩
     exact⟨m,Zo,T+1,aZ t0,aZ t6,aZ aiO,aZ t43,be,Zo,⟨Zo,λe B=>by rw[Ou.aa e Zo,hc.aa e Zo,gM e Zo];exact eA.aa e B⟩,ade tu vO lX⟩
    ·have b3:(!decide (bu=mA))=true:=by simp[Vq]
     rw[b3]at HG lX
     rw[adg tu vO lX]
     refine et @g1 @cG @aeY @Am @HG (bp fN) (Za @t6 (Za @b1 (Za @p9 @qa))) ⟨?_⟩
     exact⟨rfl,Zo,λe B=>by rw[aC Zo Zo];exact auC e B⟩
  |succ m=>
   have d:=zs T (ta g iv).length
   obtain⟨aB,vO⟩:∃d,(ta g iv)[T]? =some d:=⟨_,Ze Zo⟩
   have dw:=cC.fI T (by rw[Zi];omega)
   have fb:=(cC.aa (λe B=>cW.aa e B.2)).row (i:=T) (r:=d6 aB) Zd (by rw[Zw,vO];rfl)
   have je:d6 aB=[.str aB.name, .Z aB.at_, .bool aB.ty.b, .bool aB.ty.s, .Z aB.ty.w, .str aB.on, .Z aB.eP, .bool aB.no]:=rfl
   rw[je]at fb
   refine ih @u6 @QV @rL @d @dw @fb ⟨?_⟩
   generalize mh:Go.ba.bi X _ cv _=dC
   have fN:U X dC cv=zu [.str aB.name, .Z aB.at_, .bool aB.ty.b, .bool aB.ty.s, .Z aB.ty.w, .str aB.on, .Z aB.eP, .bool aB.no] 8:=by rw[<-mh,bb Zo];rfl
   have gM:∀e,e<cv->U X dC e=U X bA e:=λe B=>by rw[<-mh];exact zw
   clear mh
   rw[<-gM _ Zo]at b1
   by_cases ml:aB.on=[]
   ·have cH:decide (aB.on≠[])=false:=by simp[ml]
    refine fW (bp fN) @cH @u6 @bD ⟨?_⟩
    exact⟨m,Zo,T+1,aZ t0,aZ t4,aZ t6,aZ rL,aZ QV,be,Zo,⟨Zo,λe B=>by rw[gM e Zo];exact cW.aa e B⟩,ade tu vO cH⟩
   ·have cH:decide (aB.on≠[])=true:=by simp[ml]
    have kP:lv t (fh.length+1) g iv=(27,aB.eP):=by unfold lv;rw[adg tu vO cH]
    rw[kP]
    refine ih (bp fN) @cH @t6 @b1 @p9 @qa ⟨?_⟩
    exact⟨rfl,Zo,λe B=>by rw[aC Zo Zo,gM e Zo];exact HC e B⟩
end
end
end Go.Proofs.YtpeabpmnlmaabaaGreatDoor

