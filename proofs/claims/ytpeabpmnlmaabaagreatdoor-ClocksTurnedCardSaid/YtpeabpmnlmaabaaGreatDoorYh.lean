/- Part of the proof of the last text; no conditions -/
import Derived.Test.YtpeabpmnlmaabaaGreatDoorYg
set_option maxHeartbeats 8000000
set_option linter.all false
namespace Go.Proofs.YtpeabpmnlmaabaaGreatDoor
open Go.bg Go.aL
noncomputable section
def jS{v w:E}(a:gr v=some w):v.cells=[v]/\po v=true/\E.same 30 v v=true:=by
 cases v with
 |slice b T n c=>exact⟨rfl,rfl,by simp[E.same]⟩
 |fl b T n c=>exact⟨rfl,rfl,by simp[E.same]⟩
 |aY=>exact⟨rfl,rfl,rfl⟩
 |_=>simp[gr]at a
def tg(X:ca)(h:S ag):(Nat->Prop)->List eZ->List (List E)->Prop
 |_,[],be=>be=[]
 |P,ak::cq,be=>∃row fP a7,be=row::fP/\(∀e,a7 e->P e)/\BG X h a7 ak row/\tg X h (λe=>P e/\¬a7 e) cq fP
def tg.ab{X:ca}{h R:S ag}:∀{cq:List eZ}{be:List (List E)}{P a7:Nat->Prop}(u:∀e,P e->W X R e=W X h e) (az:∀e,P e->a7 e),tg X h P cq be->tg X R a7 cq be:=by
 intro cq
 induction cq with
 |nil=>intro be P a7 u az a;exact a
 |cons ak cq ah=>
  rintro be P a7 u az ⟨row,fP,dG,H,bM,M,al⟩
  exact⟨row,fP,dG,H,λe z=>az e (bM e z),M.ab (λe z=>u e (bM e z)) (λe z=>z),ah (λe z=>u e z.1) (λe z=>⟨az e z.1,z.2⟩) al⟩
def BG.len{X:ca}{h:S ag}{P:Nat->Prop}{ak:eZ}{row:List E}(a:BG X h P ak row):row.length=4:=by
 obtain⟨_,_,_,_,_,rfl,_⟩:=a;rfl
def tg.wide{X:ca}{h:S ag}:∀{cq:List eZ}{be:List (List E)}{P:Nat->Prop},tg X h P cq be->be.length=cq.length/\∀r∈be,r.length=4:=by
 intro cq
 induction cq with
 |nil=>rintro be P rfl;simp
 |cons F cq ah=>
  rintro be P ⟨r2,fP,dG,rfl,bM,M,al⟩
  obtain⟨aB,bw⟩:=ah al
  refine⟨by simp[aB],λr Y=> ?_⟩
  rcases Zu.1 Y with rfl|Y
  ·exact M.len
  ·exact bw r Y
def oU(X:ca)(h:S ag):(Nat->Prop)->List eZ->List (List E)->Prop
 |_,[],be=>be=[]
 |P,ak::cq,be=>∃row fP a7,be=row::fP/\(∀e,a7 e->P e)/\vF X h a7 ak row/\oU X h (λe=>P e/\¬a7 e) cq fP
def oU.ab{X:ca}{h R:S ag}:∀{cq:List eZ}{be:List (List E)}{P a7:Nat->Prop}(u:∀e,P e->W X R e=W X h e) (az:∀e,P e->a7 e),oU X h P cq be->oU X R a7 cq be:=by
 intro cq
 induction cq with
 |nil=>intro be P a7 u az a;exact a
 |cons ak cq ah=>
  rintro be P a7 u az ⟨row,fP,dG,H,bM,M,al⟩
  exact⟨row,fP,dG,H,λe z=>az e (bM e z),M.ab (λe z=>u e (bM e z)) (λe z=>z),ah (λe z=>u e z.1) (λe z=>⟨az e z.1,z.2⟩) al⟩
def oU.snoc{X:ca}{h:S ag}{a7:Nat->Prop}{ak:eZ}{row:List E}(a:vF X h a7 ak row):∀{cq:List eZ}{be:List (List E)}{pH P:Nat->Prop},oU X h pH cq be->(∀e,pH e->P e)->(∀e,a7 e->P e/\¬pH e)->oU X h P (cq++[ak]) (be++[row]):=by
 intro cq
 induction cq with
 |nil=>rintro be pH P rfl H M;exact⟨row,[],a7,rfl,λe z=>(M e z).1,a,rfl⟩
 |cons F cq ah=>
  rintro be pH P ⟨r2,fP,dG,rfl,bM,al,aB⟩ H M
  exact⟨r2,fP++[row],dG,rfl,λe z=>H e (bM e z),al,ah aB (λe z=>⟨H e z.1,z.2⟩) (λe z=>⟨⟨(M e z).1,λd9=>(M e z).2 (bM e d9)⟩,λp7=>(M e z).2 p7.1⟩)⟩
def oU.wide{X:ca}{h:S ag}:∀{cq:List eZ}{be:List (List E)}{P:Nat->Prop},oU X h P cq be->be.length=cq.length/\∀r∈be,r.length=4:=by
 intro cq
 induction cq with
 |nil=>rintro be P rfl;simp
 |cons F cq ah=>
  rintro be P ⟨r2,fP,dG,rfl,bM,M,al⟩
  obtain⟨aB,bw⟩:=ah al
  refine⟨by simp[aB],λr Y=> ?_⟩
  rcases Zu.1 Y with rfl|Y
  ·exact M.row.len
  ·exact bw r Y
def oU.eqs{X:ca}{h:S ag}:∀{cq:List eZ}{be:List (List E)}{P:Nat->Prop},oU X h P cq be->tg X h P cq be:=by
 intro cq
 induction cq with
 |nil=>intro be P a;exact a
 |cons ak cq ah=>rintro be P ⟨row,fP,dG,H,bM,M,al⟩;exact⟨row,fP,dG,H,bM,M.row,ah al⟩
def pG(X:ca)(h:S ag)(P:Nat->Prop)(g:Go.aL.Node)(row:List E):Prop:=∃cQ c4 aO eo bQ cl cU fe be,row=[.str g.name, .Z g.at_,cQ,c4,aO,eo]/\dV X h P bQ cQ 8 (g.d8.map dK)/\dV X h P cl c4 8 (g.out.map dK)/\dV X h P cU aO 8 (g.loc.map dK)/\dV X h P fe eo 4 be/\tg X h P g.eqs be
def vI(X:ca)(h:S ag)(P:Nat->Prop)(g:Go.aL.Node)(row:List E):Prop:=∃(ai:Nat->Nat) (cQ c4 aO eo:E) (bQ cl cU fe:Nat) (be:List (List E)),row=[.str g.name, .Z g.at_,cQ,c4,aO,eo]/\iI X h (λe=>P e/\ai e=1) bQ cQ 8 (g.d8.map dK)/\iI X h (λe=>P e/\ai e=2) cl c4 8 (g.out.map dK)/\iI X h (λe=>P e/\ai e=3) cU aO 8 (g.loc.map dK)/\iI X h (λe=>P e/\ai e=4) fe eo 4 be/\oU X h (λe=>P e/\ai e=0) g.eqs be
def vI.row{X:ca}{h:S ag}{P:Nat->Prop}{g:Go.aL.Node}{row:List E}(a:vI X h P g row):pG X h P g row:=by
 obtain⟨ai,cQ,c4,aO,eo,bQ,cl,cU,fe,be,D,H,M,al,aB,bw⟩:=a
 exact⟨cQ,c4,aO,eo,bQ,cl,cU,fe,be,D,H.rd.lift λ_ a=>a.1,M.rd.lift λ_ a=>a.1,al.rd.lift λ_ a=>a.1,aB.rd.lift λ_ a=>a.1,bw.eqs.ab (λ_ _=>rfl) λ_ a=>a.1⟩
def vI.ab{X:ca}{h R:S ag}{P a7:Nat->Prop}{g:Go.aL.Node}{row:List E}(a:vI X h P g row)(u:∀e,P e->W X R e=W X h e)(az:∀e,P e->a7 e):vI X R a7 g row:=by
 obtain⟨ai,cQ,c4,aO,eo,bQ,cl,cU,fe,be,D,H,M,al,aB,bw⟩:=a
 have ej:∀i e,P e/\ai e=i->W X R e=W X h e:=λi e z=>u e z.1
 have Mk:∀i e,P e/\ai e=i->a7 e/\ai e=i:=λi e z=>⟨az e z.1,z.2⟩
 exact⟨ai,cQ,c4,aO,eo,bQ,cl,cU,fe,be,D,(H.ab (ej 1)).lift (Mk 1),(M.ab (ej 2)).lift (Mk 2),(al.ab (ej 3)).lift (Mk 3),(aB.ab (ej 4)).lift (Mk 4),bw.ab (ej 0) (Mk 0)⟩
structure uF(X:ca)(h:S ag)(n sU:Nat)(nm:aR)(F:Int)(cQ c4 aO:E)(d8 out loc:List eb):Prop where
 nV:W X h sU=zD [.str nm, .Z F,cQ,c4,aO, .aY] 6
 lt:sU<n
 QP:∃es fk jT bQ cl cU,sU+1<=es/\es<=fk/\fk<=jT/\jT<=n/\iI X h (dU (sU+1) es) bQ cQ 8 (d8.map dK)/\iI X h (dU es fk) cl c4 8 (out.map dK)/\iI X h (dU fk jT) cU aO 8 (loc.map dK)
def uF.ab{X:ca}{h R:S ag}{n aS sU:Nat}{nm:aR}{F:Int}{cQ c4 aO:E}{d8 out loc:List eb}(a:uF X h n sU nm F cQ c4 aO d8 out loc)(u:∀e,sU<=e->e<n->W X R e=W X h e)(aF:n<=aS):uF X R aS sU nm F cQ c4 aO d8 out loc:=by
 obtain⟨es,fk,jT,bQ,cl,cU,cE,cA,dT,fG,H,M,al⟩:=a.QP
 exact⟨by rw[u sU (Zj _) a.lt];exact a.nV,zz a.lt,es,fk,jT,bQ,cl,cU,cE,cA,dT,Zo,H.ab λe z=>u e (zz z.1) (zz z.2),M.ab λe z=>u e (zz z.1) (zz z.2),al.ab λe z=>u e (zz z.1) (zz z.2)⟩
section
variable{X:ca}{h R aQ aP:S ag}{j an aV aX aM bU:Nat}{aZ:List Tok}{i:Nat}
def uF.fr{n aS sU:Nat}{nm:aR}{F:Int}{cQ c4 aO:E}{d8 out loc:List eb}(a:uF X h n sU nm F cQ c4 aO d8 out loc)(gE:ch X [aM] h n R aS)(aj:aM<sU):uF X R aS sU nm F cQ c4 aO d8 out loc:=
 a.ab (λe H M=>gE.ab e M Zx) gE.le
def aEY{i2 jF:aR}{k:List Tok}:s7 [i2,jF] hr k=andThen (eL i2 k) λ_ k=>eL jF k:=by
 simp only[s7]
 cases a:eL i2 k with
 |none=>rfl
 |some r=>
  cases r with
  |error F=>rfl
  |ok p=>
   obtain⟨x,bS⟩:=p
   simp only[andThen]
   cases eL jF bS with
   |none=>rfl
   |some gn=>cases gn with
    |error F=>rfl
    |ok p=>obtain⟨e,cZ⟩:=p;rfl
def aAp(aw:dk X)(dZ:xd X){n:Nat}(tX:n<=200000)(kW:aZ.length<=100000)(ay:je X h j aM bU aZ i){r:Except Int (Go.aL.Node×List Tok)}(Y:Go.aL.node n (aZ.drop i)=some r):
 a2 X 45 [.ptr aM 0] h j (λac R an=>∃g cJ row,r= .ok (g,aZ.drop cJ)/\ac= .agg row/\vI X R (dU j an) g row/\aL X R aM bU aZ cJ/\ch X [aM] h j R an) (ju X aM h j r):=by
 refine zG aw (am1 X) ?_
 rw[am2]
 unfold aaR
 have g0:=ay.a8
 have kQ:=ay.hR
 have iy:=ay.cb
 have ki:=ay.hp
 unfold Go.aL.node at Y
 refine cL ⟨?_⟩
 refine e0 (λaQ=>W X aQ (j+1)=zD [.str [110,111,100,101]] 1/\W X aQ j=zD [.str [], .Z 0, .aY, .aY, .aY, .aY] 6/\br X h j aQ (j+1+1)) ⟨bh Zo,by exact zQ,dH⟩ ?_
 rintro aQ ⟨am,rv,bL⟩
 have nC:=ay.go (ay.par.ex bL Zo Zo) (by omega:j<=j+1+1)
 have iM:ch X [aM] h j aQ (j+1+1):=ch.of bL
 rcases gJ Y with ⟨F,M,rfl⟩|⟨ks,cZ,M,Y⟩
 ·exact(ka aw nC Zo Zo am M).mono zN (λac R an a=>a.of iM (λ_ a=>by cases a;rfl))
 refine(ka aw nC Zo Zo am M).mono ?_ zM
 clear M
 rintro aj6 aP aX ⟨aHP,gq,wk,_,dI,dz⟩
 cases wk
 have fN:=dz.le
 have xI:=iM.trans dz
 have v6:W X aP j=zD [.str [], .Z 0, .aY, .aY, .aY, .aY] 6:=by rw[dz.ab _ Zo Zx];exact rv
 have f7:=ay.go dI xI.le
 clear am rv bL nC iM dz
 cases u5:aZ.drop gq with
 |nil=>rw[u5]at Y;simp[jq,andThen]at Y
 |cons x eW=>
 rw[u5]at Y
 simp only[jq]at Y
 refine(Dg aw f7.a8 f7.par f7.cb f7.hR f7.hp f7.many (f2 u5).1 1).mono ?_ (λvx bN ci a=>by
  obtain⟨aH,rfl,dM⟩:=a
  rw[Zg aH]at Y
  simp only[andThen,bad,Zf]at Y
  subst Y
  exact⟨_,rfl,rfl,xI.trans dM⟩)
 rintro w4 a6 bz ⟨aH,rfl,g2,ei⟩
 have jm:=ei.le
 rw[Zp aH]at Y
 simp only[andThen,ok]at Y
 rw[<-(f2 u5).2]at Y
 have uX:W X a6 j=zD [.str [], .Z 0, .aY, .aY, .aY, .aY] 6:=by rw[ei.ab _ Zo Zx];exact v6
 have HS:=xI.trans ei
 clear v6 ei xI dI f7
 refine cj cg.eq_1 ⟨?_⟩
 refine e0 (λbH=>W X bH (bz+1+1)=zD [.str [40]] 1/\uF X bH (bz+1+1+1) (bz+1) x.text x.at_ .aY .aY .aY [] [] []/\br X a6 bz bH (bz+1+1+1)) ⟨bh Zo,⟨by exact zQ,Zo,bz+1+1,bz+1+1,bz+1+1,0,0,0,Zj _,Zj _,Zj _,Zo,iI.nil _ _,iI.nil _ _,iI.nil _ _⟩,dH⟩ ?_
 rintro bH ⟨Er,aie,cW⟩
 have Am:W X bH j=zD [.str [], .Z 0, .aY, .aY, .aY, .aY] 6:=by rw[cW.ab _ Zo];exact uX
 have eH:=HS.trans (ch.of cW)
 have lD:=ay.go (g2.ex cW Zo Zo) (by omega:j<=bz+1+1+1)
 clear uX HS g2 cW
 change andThen (eL [40] (aZ.drop (gq+1))) _=some r at Y
 rcases gJ Y with ⟨F,M,rfl⟩|⟨ks,cZ,M,Y⟩
 ·exact(ka aw lD Zo Zo Er M).mono zN (λac R an a=>a.of eH (λ_ a=>by cases a;rfl))
 refine(ka aw lD Zo Zo Er M).mono ?_ zM
 clear M
 rintro v5 bN ci ⟨aHQ,i5,tR,_,hF,dM⟩
 cases tR
 have iP:=dM.le
 have aif:=aie.fr dM Zo
 have HH:W X bN j=zD [.str [], .Z 0, .aY, .aY, .aY, .aY] 6:=by rw[dM.ab _ Zo Zx];exact Am
 have Ar:=eH.trans dM
 have pq:=ay.go hF Ar.le
 clear aie Am eH dM Er lD
 obtain⟨e,ny,Lf,LW⟩:=r6 Y
 refine(oM aw pq Lf _).Zm ?_
 rintro aj2 b6 dr ⟨rfl,h2,eD⟩
 have oB:=eD.le
 have Qk:=aif.fr eD Zo
 have Cj:W X b6 j=zD [.str [], .Z 0, .aY, .aY, .aY, .aY] 6:=by rw[eD.ab _ Zo Zx];exact HH
 have wa:=Ar.trans eD
 clear aif HH Ar eD hF pq
 refine rt cg.eq_1 ⟨?_⟩
 refine ko (λI R aS=>∃(cQ:E) (d8:List eb) (cJ:Nat),I.g 0=some (.ptr aM 0)/\I.g 2=some (.ptr j 0)/\I.g 4=some (.ptr (bz+1) 0)/\uF X R aS (bz+1) x.text x.at_ cQ .aY .aY d8 [] []/\W X R j=zD [.str [], .Z 0, .aY, .aY, .aY, .aY] 6/\aL X R aM bU aZ cJ/\ch X [aM] h j R aS/\
  (andThen (eL [114,101,116,117,114,110,115] (aZ.drop cJ)) λ_ k=>andThen (eL [40] k) λ_ k=>andThen (jL n false [] k) λout k=>andThen (eL [41] k) λ_ k=>
   iR [118,97,114] k λe k=>andThen (match e with
    |some _=>andThen (jL n true [] k) λds k=>andThen (eL [59] k) λ_ k=>ok ds k
    |none=>ok [] k) λloc k=>
   andThen (eL [108,101,116] k) λ_ k=>andThen (mx n [] k) λcq k=>ok (⟨x.text,x.at_,d8,out,loc,cq⟩:Go.aL.Node) k)=some r) (λV bF=> ?_) ?_
 ·rcases LW with ⟨aC,Y⟩|⟨aC,Y⟩
  ·rw[aC]at h2 ⊢
   simp only[ZG]at h2 ⊢
   rw[<-(f2 Lf).2]at Y
   simp only[andThen,ok]at Y
   refine cj cg.eq_1 ⟨?_⟩
   refine bF _ _ _ ⟨.aY,[],i5+1,bo,bo,bo,Qk.ab (λe H M=>zF) Zo,by simp(disch:=omega) only[aI];exact Cj,h2.ab (zF) (zF), ?_,Y⟩
   exact⟨Zo,λb aj bZ=>by rw[<-wa.ab b aj bZ];exact zF⟩
  ·rw[aC]at h2 ⊢
   simp only[Zw,ZB]at h2 ⊢
   simp only[]at Y
   refine cS cg.eq_1 hr.eq_1 ⟨?_⟩
   refine e0 (λcy=>br X b6 dr cy (dr+1)) dH ?_
   intro cy eC
   have FK:=Qk.fr (ch.of (X:=[aM]) eC) Zo
   have An:W X cy j=zD [.str [], .Z 0, .aY, .aY, .aY, .aY] 6:=by rw[eC.ab _ Zo];exact Cj
   have et:=wa.trans (ch.of eC)
   have n7:=ay.go (h2.ex eC Zo Zo) (by omega:j<=dr+1)
   clear Qk Cj wa h2 eC
   rcases gJ Y with ⟨F,aG,rfl⟩|⟨d8,ay8,aG,Y⟩
   ·rcases gJ aG with ⟨fB,M,al⟩|⟨ds,pi,M,aG⟩
    ·cases al
     exact(Hr aw kW n7 M).mono (λac R an a=>by obtain⟨D,cJ,b,a,_⟩:=a;cases a) (λac R an a=>a.of et (λ_ a=>by cases a;rfl))
    refine(Hr aw kW n7 M).mono ?_ zM
    rintro JA dt iv ⟨ari,i8,sr,EK,u9,xY,gZ⟩
    cases EK
    have CA:=gZ.le
    have IZ:=FK.fr gZ Zo
    obtain⟨hc,nB,sZ⟩:=jS u9.rd.len
    refine cL ⟨?_⟩
    have Al:=IZ.nV
    refine gm (ux (T:=2) Al Zo Zo hc nB) ?_
    refine cL ⟨?_⟩
    refine e0 (λd6=>W X d6 iv=zD [.str [41]] 1/\∀e,e<iv->e≠(bz+1)->W X d6 e=W X dt e) ⟨bh Zo,λe H M=>zF⟩ ?_
    rintro d6 ⟨TJ,g4⟩
    have ns:=xY.ab (g4 _ Zo Zo) (g4 _ Zo Zo)
    have hw:ch X [aM] h j d6 (iv+1):=⟨Zo,λb aj bZ=>by rw[g4 b Zo Zo];exact(et.trans gZ).ab b aj bZ⟩
    rcases gJ aG with ⟨fB,aB,bw⟩|⟨DC,ue,aB,aG⟩
    ·cases bw
     exact(ka aw (ay.go ns Zo) Zo Zo TJ aB).mono zN (λac R an a=>a.of hw (λ_ a=>by cases a;rfl))
    ·cases aG
   ·rcases gJ aG with ⟨fB,M,al⟩|⟨ds,pi,M,aG⟩
    ·cases al
    refine(Hr aw kW n7 M).mono ?_ zM
    rintro JA dt iv ⟨ari,i8,sr,EK,u9,xY,gZ⟩
    cases EK
    have CA:=gZ.le
    have IZ:=FK.fr gZ Zo
    obtain⟨hc,nB,sZ⟩:=jS u9.rd.len
    refine cL ⟨?_⟩
    have Al:=IZ.nV
    refine gm (ux (T:=2) Al Zo Zo hc nB) ?_
    refine cL ⟨?_⟩
    refine e0 (λd6=>W X d6 iv=zD [.str [41]] 1/\W X d6 (bz+1)=zD [.str x.text, .Z x.at_,JA, .aY, .aY, .aY] 6/\∀e,e<iv->e≠(bz+1)->W X d6 e=W X dt e) ⟨bh Zo,by rw[aI Zo Zo,bh Zo];rfl,λe H M=>zF⟩ ?_
    rintro d6 ⟨TJ,HD,g4⟩
    have ns:=xY.ab (g4 _ Zo Zo) (g4 _ Zo Zo)
    have hw:ch X [aM] h j d6 (iv+1):=⟨Zo,λb aj bZ=>by rw[g4 b Zo Zo];exact(et.trans gZ).ab b aj bZ⟩
    have aGA:=FK.lt
    have I0:uF X d6 (iv+1) (bz+1) x.text x.at_ JA .aY .aY _ [] []:=⟨HD,Zo,iv,iv,iv,sr,0,0,Zo,Zj _,Zj _,Zo,(u9.ab (λe z=>g4 e z.2 (zz z.1))).lift (λe z=>⟨zz z.1,zz z.2⟩),iI.nil _ _,iI.nil _ _⟩
    have xE:W X d6 j=zD [.str [], .Z 0, .aY, .aY, .aY, .aY] 6:=by rw[g4 _ Zo Zo,gZ.ab _ Zo Zx];exact An
    rcases gJ aG with ⟨fB,aB,bw⟩|⟨DC,ue,aB,aG⟩
    ·cases bw
    refine(ka aw (ay.go ns Zo) Zo Zo TJ aB).mono ?_ zM
    rintro vy jZ vl ⟨akv,agW,Ur,_,CD,tM⟩
    cases Ur
    cases aG
    exact bF _ _ _ ⟨JA,_,agW,bo,bo,bo,I0.fr tM Zo,by rw[tM.ab _ Zo Zx];exact xE,CD,hw.trans tM,Y⟩
 ·clear LW h2 Qk Cj wa Y
  rintro I cy dX ⟨cQ,d8,p8,t0,eK,t4,FK,An,ii,et,Y⟩
  have UU:=FK.lt
  refine cj @t0 ⟨?_⟩
  refine e0 (λdt=>W X dt dX=zD [.str [114,101,116,117,114,110,115], .str [40]] 2/\br X cy dX dt (dX+1)) ⟨bh Zo,dH⟩ ?_
  rintro dt ⟨Et,is⟩
  have IZ:=FK.fr (ch.of (X:=[aM]) is) Zo
  have Oy:W X dt j=zD [.str [], .Z 0, .aY, .aY, .aY, .aY] 6:=by rw[is.ab _ Zo];exact An
  have gZ:=et.trans (ch.of is)
  have um:=ay.go (ii.ex is Zo Zo) (by omega:j<=dX+1)
  clear FK An et ii is
  have u9:dV X dt (λe=>e=dX) dX (.slice dX 0 2 2) 1 (f8 [[114,101,116,117,114,110,115],[40]]):=Ji (be:=[[.str [114,101,116,117,114,110,115]],[.str [40]]]) (st:= .own) Et rfl Zs Zd rfl
  have bb:∃Bm,s7 [[114,101,116,117,114,110,115],[40]] hr (aZ.drop p8)=some Bm/\andThen (some Bm) (λ(_:Tok) k=>andThen (jL n false [] k) λout k=>andThen (eL [41] k) λ_ k=>
   iR [118,97,114] k λe k=>andThen (match e with
    |some _=>andThen (jL n true [] k) λds k=>andThen (eL [59] k) λ_ k=>ok ds k
    |none=>ok [] k) λloc k=>
   andThen (eL [108,101,116] k) λ_ k=>andThen (mx n [] k) λcq k=>ok (⟨x.text,x.at_,d8,out,loc,cq⟩:Go.aL.Node) k)=some r:=by
   rw[aEY]
   rcases gJ Y with ⟨F,H,rfl⟩|⟨bf,en,H,Y⟩
   ·exact⟨.error F,by rw[H];rfl,rfl⟩
   ·rcases gJ Y with ⟨F,M,rfl⟩|⟨cf,cZ,M,Y⟩
    ·exact⟨.error F,by rw[H];exact M,rfl⟩
    ·exact⟨.ok (cf,cZ),by rw[H];exact M,Y⟩
  clear Y
  obtain⟨Bm,bb,Y⟩:=bb
  refine(aki aw um.a8 um.par um.cb um.hR um.hp um.many Zo Zo u9 bb).mono ?_ (λac R an a=>by
   obtain⟨F,rfl,rfl,a⟩:=a
   simp only[andThen,Zf]at Y
   subst Y
   exact⟨F,rfl,rfl,gZ.trans a⟩)
  rintro v9 d6 hG ⟨DC,i9,rfl,_,ns,hw⟩
  change andThen (jL n false [] (aZ.drop i9)) _=some r at Y
  have qT:=hw.le
  have I0:=IZ.fr hw Zo
  have xE:W X d6 j=zD [.str [], .Z 0, .aY, .aY, .aY, .aY] 6:=by rw[hw.ab _ Zo Zx];exact Oy
  have Cn:=gZ.trans hw
  have WS:=ay.go ns Cn.le
  clear IZ Oy gZ hw u9 Et um bb ns
  refine cj @t0 ⟨?_⟩
  rcases gJ Y with ⟨F,M,rfl⟩|⟨out,aHd,M,Y⟩
  ·exact(Hr aw kW WS M).mono (λac R an a=>by obtain⟨D,cJ,b,a,_⟩:=a;cases a) (λac R an a=>a.of Cn (λ_ a=>by cases a;rfl))
  refine(Hr aw kW WS M).mono ?_ zM
  clear M
  rintro vy jZ vl ⟨out,agW,Sd,Ur,Is,CD,tM⟩
  cases Ur
  have avJ:=tM.le
  have aic:=I0.fr tM Zo
  have ael:W X jZ j=zD [.str [], .Z 0, .aY, .aY, .aY, .aY] 6:=by rw[tM.ab _ Zo Zx];exact xE
  have aeJ:=Cn.trans tM
  obtain⟨hc,nB,sZ⟩:=jS Is.rd.len
  have aGp:=I0.lt
  refine cj @t4 ⟨?_⟩
  refine gm (ux (T:=3) aic.nV Zo Zo hc nB) ?_
  refine cj @t0 ⟨?_⟩
  refine e0 (λol=>W X ol vl=zD [.str [41]] 1/\W X ol (bz+1)=zD [.str x.text, .Z x.at_,cQ,vy, .aY, .aY] 6/\∀e,e<vl->e≠bz+1->W X ol e=W X jZ e) ⟨bh Zo,by rw[aI Zo Zo,bh Zo];rfl,λe H M=>zF⟩ ?_
  rintro ol ⟨TG,HC,Fq⟩
  have Ly:=CD.ab (Fq _ Zo Zo) (Fq _ Zo Zo)
  have xH:ch X [aM] h j ol (vl+1):=⟨Zo,λb aj bZ=>by rw[Fq b Zo Zo];exact aeJ.ab b aj bZ⟩
  have aid:uF X ol (vl+1) (bz+1) x.text x.at_ cQ vy .aY d8 out []:=by
   obtain⟨es,fk,jT,Ka,_,_,cE,cA,dT,fG,rM,_,_⟩:=I0.QP
   exact⟨HC,Zo,es,vl,vl,Ka,Sd,0,cE,Zo,Zj _,Zo,rM.ab (λe z=>by have:=z.1;have:=z.2;rw[Fq e Zo Zo,tM.ab e Zo Zx]),(Is.ab (λe z=>Fq e z.2 (zz z.1))).lift (λe z=>⟨zz z.1,zz z.2⟩),iI.nil _ _⟩
  have aem:W X ol j=zD [.str [], .Z 0, .aY, .aY, .aY, .aY] 6:=by rw[Fq _ Zo Zo];exact ael
  clear I0 aic xE ael Cn tM aeJ Is CD Fq HC WS
  rcases gJ Y with ⟨F,aB,rfl⟩|⟨aHK,aHf,aB,Y⟩
  ·exact(ka aw (ay.go Ly Zo) Zo Zo TG aB).mono zN (λac R an a=>a.of xH (λ_ a=>by cases a;rfl))
  refine(ka aw (ay.go Ly Zo) Zo Zo TG aB).mono ?_ zM
  clear aB
  rintro aHE RT azQ ⟨aHL,agX,auY,_,agh,KX⟩
  cases auY
  have avK:=KX.le
  have WA:=aid.fr KX Zo
  have aen:W X RT j=zD [.str [], .Z 0, .aY, .aY, .aY, .aY] 6:=by rw[KX.ab _ Zo Zx];exact aem
  have TV:=xH.trans KX
  have aiL:=ay.go agh TV.le
  clear aid aem xH KX Ly TG agh
  refine cj @t0 ⟨?_⟩
  obtain⟨e,aHg,afd,agR⟩:=r6 Y
  refine(oM aw aiL afd _).Zm ?_
  rintro aHC abT Qg ⟨rfl,CE,KY⟩
  have aF7:=KY.le
  have Qi:=WA.fr KY Zo
  have Ou:W X abT j=zD [.str [], .Z 0, .aY, .aY, .aY, .aY] 6:=by rw[KY.ab _ Zo Zx];exact aen
  have OG:=TV.trans KY
  have aGk:=WA.lt
  clear WA aen TV KY aiL Y
  refine rt cg.eq_1 ⟨?_⟩
  refine ko (λI R aS=>∃(aO:E) (loc:List eb) (cJ:Nat),I.g 0=some (.ptr aM 0)/\I.g 2=some (.ptr j 0)/\I.g 4=some (.ptr (bz+1) 0)/\uF X R aS (bz+1) x.text x.at_ cQ vy aO d8 out loc/\W X R j=zD [.str [], .Z 0, .aY, .aY, .aY, .aY] 6/\aL X R aM bU aZ cJ/\ch X [aM] h j R aS/\
   (andThen (eL [108,101,116] (aZ.drop cJ)) λ_ k=>andThen (mx n [] k) λcq k=>ok (⟨x.text,x.at_,d8,out,loc,cq⟩:Go.aL.Node) k)=some r) (λV bF=> ?_) ?_
  ·rcases agR with ⟨aC,Y⟩|⟨aC,Y⟩
   ·rw[aC]at CE ⊢
    simp only[ZG]at CE ⊢
    rw[<-(f2 afd).2]at Y
    simp only[]at Y
    refine cS cg.eq_1 @t0 ⟨?_⟩
    refine e0 (λG2=>br X abT Qg G2 (Qg+1)) dH ?_
    intro G2 KS
    have IY:=Qi.fr (ch.of (X:=[aM]) KS) Zo
    have Ov:W X G2 j=zD [.str [], .Z 0, .aY, .aY, .aY, .aY] 6:=by rw[KS.ab _ Zo];exact Ou
    have KZ:=OG.trans (ch.of KS)
    have aBA:=ay.go (CE.ex KS Zo Zo) (by omega:j<=Qg+1)
    clear Qi Ou OG CE KS
    have O1:∃rd,jL n true [] (aZ.drop (agX+1))=some rd/\(match rd with
     | .error F=>r= .error F
     | .ok (ds,k)=>∃Bm,eL [59] k=some Bm/\(match Bm with
       | .error F=>r= .error F
       | .ok (_,k)=>(andThen (eL [108,101,116] k) λ_ k=>andThen (mx n [] k) λcq k=>ok (⟨x.text,x.at_,d8,out,ds,cq⟩:Go.aL.Node) k)=some r)):=by
     rcases gJ Y with ⟨F,aG,rfl⟩|⟨loc,ay8,aG,Y⟩
     ·rcases gJ aG with ⟨fB,M,al⟩|⟨ds,pi,M,aG⟩
      ·cases al;exact⟨_,M,rfl⟩
      ·rcases gJ aG with ⟨fB,aB,bw⟩|⟨DC,ue,aB,aG⟩
       ·cases bw;exact⟨_,M,_,aB,rfl⟩
       ·cases aG
     ·rcases gJ aG with ⟨fB,M,al⟩|⟨ds,pi,M,aG⟩
      ·cases al
      ·rcases gJ aG with ⟨fB,aB,bw⟩|⟨DC,ue,aB,aG⟩
       ·cases bw
       ·cases aG;exact⟨_,M,_,aB,Y⟩
    obtain⟨rd,M,agv⟩:=O1
    refine(Hr aw kW aBA M).mono ?_ (λac R an a=>by
     obtain⟨F,rfl,rfl,a⟩:=a
     subst agv
     exact⟨F,rfl,rfl,KZ.trans a⟩)
    rintro XL Nw Ms ⟨ds,aG1,apR,rfl,ags,awo,Aq⟩
    obtain⟨Bm,aB,AU⟩:=agv
    have aF8:=Aq.le
    have Qj:=IY.fr Aq Zo
    have Ow:W X Nw j=zD [.str [], .Z 0, .aY, .aY, .aY, .aY] 6:=by rw[Aq.ab _ Zo Zx];exact Ov
    have at7:=KZ.trans Aq
    obtain⟨fF,h5,yn⟩:=jS ags.rd.len
    refine cj @t4 ⟨?_⟩
    refine gm (ux (T:=4) Qj.nV Zo Zo fF h5) ?_
    refine cj @t0 ⟨?_⟩
    refine e0 (λol=>W X ol Ms=zD [.str [59]] 1/\W X ol (bz+1)=zD [.str x.text, .Z x.at_,cQ,vy,XL, .aY] 6/\∀e,e<Ms->e≠bz+1->W X ol e=W X Nw e) ⟨bh Zo,by rw[aI Zo Zo,bh Zo];rfl,λe H M=>zF⟩ ?_
    rintro BP ⟨atz,atc,IJ⟩
    have Pt:=awo.ab (IJ _ Zo Zo) (IJ _ Zo Zo)
    have Cm:ch X [aM] h j BP (Ms+1):=⟨Zo,λb aj bZ=>by rw[IJ b Zo Zo];exact at7.ab b aj bZ⟩
    have My:uF X BP (Ms+1) (bz+1) x.text x.at_ cQ vy XL d8 out ds:=by
     obtain⟨es,fk,jT,Ka,Sk,_,cE,cA,dT,fG,rM,kl,_⟩:=IY.QP
     have ej:∀e,bz+1<e->e<Qg+1->W X BP e=W X G2 e:=λe H M=>by rw[IJ e Zo Zo,Aq.ab e Zo Zx]
     exact⟨atc,Zo,es,fk,Ms,Ka,Sk,apR,cE,cA,Zo,Zo,rM.ab (λe z=>ej e (zz z.1) (zz z.2)),kl.ab (λe z=>ej e (zz z.1) (zz z.2)),(ags.ab (λe z=>IJ e z.2 (zz z.1))).lift (λe z=>⟨zz z.1,zz z.2⟩)⟩
    have Ox:W X BP j=zD [.str [], .Z 0, .aY, .aY, .aY, .aY] 6:=by rw[IJ _ Zo Zo];exact Ow
    refine(ka aw (ay.go Pt Zo) Zo Zo atz aB).mono ?_ (λac R an a=>by
     obtain⟨F,rfl,rfl,a⟩:=a
     subst AU
     exact⟨F,rfl,rfl,Cm.trans a⟩)
    rintro aHG JW Mt ⟨aHO,CP,rfl,_,Vd,HR⟩
    exact bF _ _ _ ⟨XL,ds,CP,aW t0,aW eK,aW t4,My.fr HR Zo,by rw[HR.ab _ Zo Zx];exact Ox,Vd,Cm.trans HR,AU⟩
   ·rw[aC]at CE ⊢
    simp only[Zw,ZB]at CE ⊢
    simp only[andThen,ok]at Y
    refine cS cg.eq_1 hr.eq_1 ⟨?_⟩
    refine bF _ _ _ ⟨.aY,[],agX,aW t0,aW eK,aW t4,Qi.ab (λe H M=>zF) Zo,by simp(disch:=omega) only[aI];exact Ou,CE.ab (zF) (zF), ?_,Y⟩
    exact⟨Zo,λb aj bZ=>by rw[<-OG.ab b aj bZ];exact zF⟩
  ·clear agR CE Qi Ou OG t0 eK t4
   rintro I G2 Qh ⟨aO,loc,aG0,t0,eK,t4,IY,Ov,agi,KZ,Y⟩
   have aGl:=IY.lt
   refine cj @t0 ⟨?_⟩
   refine e0 (λdt=>W X dt Qh=zD [.str [108,101,116]] 1/\br X G2 Qh dt (Qh+1)) ⟨bh Zo,dH⟩ ?_
   rintro Nw ⟨TH,Ey⟩
   have Qj:=IY.fr (ch.of (X:=[aM]) Ey) Zo
   have Ow:W X Nw j=zD [.str [], .Z 0, .aY, .aY, .aY, .aY] 6:=by rw[Ey.ab _ Zo];exact Ov
   have Aq:=KZ.trans (ch.of Ey)
   have WR:=ay.go (agi.ex Ey Zo Zo) (by omega:j<=Qh+1)
   clear IY Ov KZ agi Ey
   rcases gJ Y with ⟨F,aB,rfl⟩|⟨aHM,aHh,aB,Y⟩
   ·exact(ka aw WR Zo Zo TH aB).mono zN (λac R an a=>a.of Aq (λ_ a=>by cases a;rfl))
   refine(ka aw WR Zo Zo TH aB).mono ?_ zM
   clear aB
   rintro aHF BP fV ⟨aHN,i16,auZ,_,Pt,Cm⟩
   cases auZ
   have aF9:=Cm.le
   have My:=Qj.fr Cm Zo
   have Ox:W X BP j=zD [.str [], .Z 0, .aY, .aY, .aY, .aY] 6:=by rw[Cm.ab _ Zo Zx];exact Ow
   have aeK:=Aq.trans Cm
   have aGm:=My.lt
   clear Qj Ow Aq Cm WR TH
   obtain⟨JC,JD,aFg,Ka,Sk,NJ,aGX,LX,aGY,aGZ,rM,kl,E2⟩:=My.QP
   obtain⟨w3,DA,w4⟩:=jS rM.rd.len
   obtain⟨jX,rb,aHJ⟩:=jS kl.rd.len
   obtain⟨g5,gx,z3⟩:=jS E2.rd.len
   refine g3 ?_
   refine fE (λm I R aS=>∃(eo:E) (cq:List eZ) (be:List (List E)) (cv:List Nat) (cJ:Nat),I.g 0=some (.ptr aM 0)/\I.g 2=some (.ptr j 0)/\I.g 4=some (.ptr (bz+1) 0)/\W X R (bz+1)=zD [.str x.text, .Z x.at_,cQ,vy,aO,eo] 6/\
    (∀e,bz+2<=e->e<fV->W X R e=W X BP e)/\ga X R eo 4 be.flatten cv/\(∀e∈cv,fV<=e/\e<aS)/\oU X R (wT fV aS cv) cq be/\W X R j=zD [.str [], .Z 0, .aY, .aY, .aY, .aY] 6/\aL X R aM bU aZ cJ/\ch X [aM] h j R aS/\fV<=aS/\cq.length+m<=n/\
    (andThen (mx m cq (aZ.drop cJ)) λcq k=>ok (⟨x.text,x.at_,d8,out,loc,cq⟩:Go.aL.Node) k)=some r)
    n ⟨.aY,[],[],[],i16,t0,eK,t4,My.nV,λ_ _ _=>rfl, .inl (.inl ⟨rfl,rfl,rfl⟩),Zs,rfl,Ox,Pt,aeK,Zj _,Zs,Y⟩ ?_
   clear Y Pt Ox aeK t0 eK t4
   rintro m I JW Mt ⟨eo,cq,be,cv,CP,t0,eK,t4,Tt,ahs,PI,we,Pz,aeo,Vd,HR,aGa,aGr,Y⟩
   cases m with
   |zero=>simp[mx,andThen]at Y
   |succ m=>
   unfold mx at Y
   have aBB:=ay.go Vd HR.le
   refine g3 ?_
   refine cj @t0 ⟨?_⟩
   have LM:∃e k,aZ.drop CP=e::k/\((hq e [116,101,108]=true/\ok (⟨x.text,x.at_,d8,out,loc,cq⟩:Go.aL.Node) k=some r)\/(hq e [116,101,108]=false/\(andThen (andThen (vY m (aZ.drop CP)) λak k=>mx m (cq++[ak]) k) λcq k=>ok (⟨x.text,x.at_,d8,out,loc,cq⟩:Go.aL.Node) k)=some r)):=by
    rcases gJ Y with ⟨F,H,rfl⟩|⟨aiZ,bS,H,Y⟩
    ·obtain⟨e,k,M,al⟩:=r6 H
     rcases al with ⟨al,aB⟩|⟨al,aB⟩
     ·cases aB
     ·exact⟨e,k,M, .inr ⟨al,by rw[show(andThen (vY m (aZ.drop CP)) λak k=>mx m (cq++[ak]) k)=some (.error F) from aB];rfl⟩⟩
    ·obtain⟨e,k,M,al⟩:=r6 H
     rcases al with ⟨al,aB⟩|⟨al,aB⟩
     ·cases aB
      exact⟨e,_,M, .inl ⟨al,Y⟩⟩
     ·exact⟨e,k,M, .inr ⟨al,by rw[show(andThen (vY m (aZ.drop CP)) λak k=>mx m (cq++[ak]) k)=some (.ok (aiZ,bS)) from aB];exact Y⟩⟩
   clear Y
   obtain⟨e,aHi,afe,axt⟩:=LM
   refine(oM aw aBB afe _).Zm ?_
   rintro aHD DU yg ⟨rfl,wz,TW⟩
   have aGb:=TW.le
   have L7:∀e,j<=e->e<Mt->W X DU e=W X JW e:=λe H M=>TW.ab e M Zx
   have aeL:=HR.trans TW
   rcases axt with ⟨aC,Y⟩|⟨aC,Y⟩
   ·rw[aC]at wz ⊢
    simp only[ZG]at wz ⊢
    simp only[ok,Zf]at Y
    subst Y
    obtain⟨bC,cu,fL⟩:=ga.one PI
    have Tu:W X DU (bz+1)=zD [.str x.text, .Z x.at_,cQ,vy,aO,eo] 6:=by rw[L7 _ Zo Zo];exact Tt
    have atv:W X DU j=zD [.str [], .Z 0, .aY, .aY, .aY, .aY] 6:=by rw[L7 _ Zo Zo];exact aeo
    refine gk cg.eq_1 @t4 (bG Tu) @eK ⟨?_⟩
    refine gm (jG (u:=6) (b:=j) (T:=0) (n:=6) (c:=S.ofList [.str [], .Z 0, .aY, .aY, .aY, .aY] 0 .nil) (by simp(disch:=omega) only[aI];exact atv) Zo rfl Zd Zd (by simp[E.cells,iF,DA,rb,gx,cu,show po (.Z x.at_)=true from rfl,show po (.str x.text)=true from rfl])) ?_
    refine cj @eK ⟨?_⟩
    have Ft:∀gV,(∀e,j<e->e<yg->W X gV e=W X DU e)->∀e,j<e->e<Mt->W X gV e=W X JW e:=λgV a e H M=>by rw[a e H Zo,L7 e Zo M]
    generalize aeW:bm X _ j _=gV
    have PZ:∀e,e≠j->e<yg->W X gV e=W X DU e:=λe H M=>by rw[<-aeW];exact zF
    clear aeW
    have VV:=Ft gV (λe H M=>PZ e Zo M)
    have wB:=Pz.wide
    obtain⟨apV,E0⟩:=(PI.ab (R:=gV) (λe z=>VV e (zz (we e z)) (we e z).2)).QK Zd wB.2 (by rw[wB.1];omega) (fm:=λe=>dU j (yg+1) e/\e∈cv) (λe z=>by have:=we e z;exact⟨⟨Zo,Zo⟩,z⟩)
    have cX:∀e,dU (bz+1+1) fV e->W X gV e=W X BP e:=λe z=>by
     have H:=z.1;have M:=z.2
     rw[VV e Zo Zo];exact ahs e Zo M
    have jQ:∀e,e<fV->e∉cv:=λe H M=>zz (we e M)
    refine⟨_,CP+1,_,by rw[(f2 afe).2],rfl,⟨λe=>if e∈cv then 4 else if fV<=e then 0 else if e<JC then 1 else if e<JD then 2 else 3,cQ,vy,aO,eo,Ka,Sk,NJ,apV,be,rfl, ?_, ?_, ?_,E0.lift λe z=>⟨z.1,Zp z.2⟩, ?_⟩, ?_, ?_⟩
    ·refine(rM.ab λe z=>cX e ⟨z.1,zz z.2⟩).lift λe z=>⟨⟨zz z.1,zz z.2⟩, ?_⟩
     have H:=z.1;have M:=z.2
     simp only[]
     rw[Zg (jQ e Zo),Zg Zo,Zp M]
    ·refine(kl.ab λe z=>cX e ⟨zz z.1,zz z.2⟩).lift λe z=>⟨⟨zz z.1,zz z.2⟩, ?_⟩
     have H:=z.1;have M:=z.2
     simp only[]
     rw[Zg (jQ e Zo),Zg Zo,Zg Zo,Zp M]
    ·refine(E2.ab λe z=>cX e ⟨zz z.1,zz z.2⟩).lift λe z=>⟨⟨zz z.1,zz z.2⟩, ?_⟩
     have H:=z.1;have M:=z.2
     simp only[]
     rw[Zg (jQ e Zo),Zg Zo,Zg Zo,Zg Zo]
    ·refine Pz.ab (λe z=>VV e (zz z.1) z.2.1) (λe z=>⟨⟨zz z.1,zz z.2.1⟩, ?_⟩)
     simp only[]
     rw[Zg z.2.2,Zp z.1]
    ·exact wz.ab (PZ _ Zo Zo) (PZ _ Zo Zo)
    ·exact⟨Zo,λb aj bZ=>by rw[PZ b Zo Zo];exact aeL.ab b aj bZ⟩
   ·rw[aC]at wz ⊢
    simp only[Zw,ZB]at wz ⊢
    obtain⟨bC,cu,fL⟩:=ga.one PI
    have Tu:W X DU (bz+1)=zD [.str x.text, .Z x.at_,cQ,vy,aO,eo] 6:=by rw[L7 _ Zo Zo];exact Tt
    refine f3 cg.eq_1 hr.eq_1 @t4 (bG Tu) @t0 ⟨?_⟩
    refine e0 (λRU=>br X DU yg RU (yg+1+8)) dH ?_
    intro RU TQ
    have aye:∀e,j<=e->e<Mt->W X RU e=W X JW e:=λe H M=>by rw[TQ.ab e Zo];exact L7 e H M
    have aeM:=aeL.trans (ch.of TQ)
    have aBC:=ay.go (wz.ex TQ Zo Zo) (by omega:j<=yg+1+8)
    have awR:∃F4,vY m (aZ.drop CP)=some F4/\(match F4 with
     | .error F=>r= .error F
     | .ok (ak,k)=>(andThen (mx m (cq++[ak]) k) λcq k=>ok (⟨x.text,x.at_,d8,out,loc,cq⟩:Go.aL.Node) k)=some r):=by
     rcases gJ Y with ⟨F,H,rfl⟩|⟨aiZ,bS,H,Y⟩
     ·rcases gJ H with ⟨fB,M,al⟩|⟨ak,k,M,al⟩
      ·cases al;exact⟨_,M,rfl⟩
      ·exact⟨_,M,by show andThen _ _=_;rw[al];rfl⟩
     ·rcases gJ H with ⟨fB,M,al⟩|⟨ak,k,M,al⟩
      ·cases al
      ·exact⟨_,M,by show andThen _ _=_;rw[al];exact Y⟩
    obtain⟨F4,H,hx⟩:=awR
    refine(arT aw dZ Zo aBC H).mono ?_ (λac R an a=>by
     obtain⟨F,rfl,rfl,a⟩:=a
     subst hx
     exact⟨F,rfl,rfl,aeM.trans a⟩)
    rintro XM JX ah3 ⟨ak,axF,row,rfl,rfl,Vn,awp,TX⟩
    have aGc:=TX.le
    have at8:=aeM.trans TX
    have L8:∀e,j<=e->e<Mt->W X JX e=W X JW e:=λe H M=>by rw[TX.ab e Zo Zx];exact aye e H M
    have aec:W X JX (bz+1)=zD [.str x.text, .Z x.at_,cQ,vy,aO,eo] 6:=by rw[L8 _ Zo Zo];exact Tt
    have awQ:=Vn.row.len
    obtain⟨j9,fz,gn,iG,rfl⟩:∃j9 fz gn iG,row=[j9,fz,gn,iG]:=by
     match row,awQ with
     |[F,b,c,d],_=>exact⟨F,b,c,d,rfl⟩
    have p2:iF [j9,fz,gn,iG]=true:=by obtain⟨_,_,_,_,_,_,H,_,_,_,bw⟩:=Vn;exact bw
    refine cj (bG aec) ⟨?_⟩
    refine gP fL ?_
    have kV:lZ X (bm X JX (yg+1+4) (zD [j9,fz,gn,iG] 4)) 4 (.slice (yg+1+4) 0 1 1)=some (1,[j9,fz,gn,iG]):=s2 (bh Zo) (nu _) rfl _
    have wB:=Pz.wide
    have mC:=tE wB.2
    obtain⟨aCO,G3,gK,iN,agB,OS,avD⟩:=(PI.ab (R:=bm X JX (yg+1+4) (zD [j9,fz,gn,iG] 4)) (λe z=>by have:=we e z;rw[aI Zo Zo];exact L8 e Zo Zo)).append (j:=ah3) Zd kV rfl Zd p2 (by rw[mC,wB.1];simp only[ZF,Z0];omega) Zo (λe z=>zz (we e z))
    refine kH iN ?_
    obtain⟨eO,fp,kO⟩:=lm.one agB
    have CU:∀e,e<ah3->e≠yg+1+4->e∉cv->W X G3 e=W X JX e:=λe H M al=>by rw[avD e Zo al,aI Zo M]
    have d5:∀e,e<fV->e∉cv:=λe H M=>zz (we e M)
    have ate:W X G3 (bz+1)=zD [.str x.text, .Z x.at_,cQ,vy,aO,eo] 6:=by rw[CU _ Zo Zo (d5 _ Zo)];exact aec
    refine cj @t4 ⟨?_⟩
    refine gm (ux (T:=5) ate Zo Zo eO fp) ?_
    have CV:∀e,e≠bz+1->∀cT,W X (bm X G3 (bz+1) cT) e=W X G3 e:=λe a cT=>aI Zo a
    refine⟨m,Zo,aCO,cq++[ak],be++[[j9,fz,gn,iG]],gK,axF,aW t0,aW eK,aW t4,by rw[bh Zo];rfl, ?_, .inl ?_, ?_, ?_, ?_, ?_, ?_,Zo,Zx,hx⟩
    ·intro e H M
     rw[CV e Zo,CU e Zo Zo (d5 e M),L8 e Zo Zo]
     exact ahs e H M
    ·rw[YN,Yp,List.flatten_nil,Yh]
     exact agB.ab λe z=>CV e (by rcases OS e z with rfl|a;omega;have:=we e a;omega) _
    ·intro e z
     rcases OS e z with rfl|a
     ·omega
     ·have:=we e a;omega
    ·refine oU.snoc (Vn.ab (λe z=> ?_) (λe z=>z)) (Pz.ab (λe z=> ?_) (λe z=>z)) (λe z=> ?_) (λe z=>⟨?_,λp7=>by have:=z.1;have:=p7.2.1;omega⟩)
     ·have H:=z.1;have M:=z.2
      rw[CV e Zo,CU e Zo Zo (λa=>zz (we e a))]
     ·have H:=z.1;have M:=z.2.1
      rw[CV e Zo,CU e Zo Zo z.2.2,L8 e Zo Zo]
     ·have H:=z.1;have M:=z.2.1
      refine⟨H,Zo,λa=> ?_⟩
      rcases OS e a with rfl|a
      ·omega
      ·exact z.2.2 a
     ·have H:=z.1;have M:=z.2
      refine⟨Zo,Zo,λa=> ?_⟩
      rcases OS e a with rfl|a
      ·omega
      ·have:=we e a;omega
    ·rw[CV _ Zo,CU _ Zo Zo (d5 _ Zo),L8 _ Zo Zo];exact aeo
    ·exact awp.ab (by rw[CV _ Zo,CU _ Zo Zo (d5 _ Zo)]) (by rw[CV _ Zo,CU _ Zo Zo (d5 _ Zo)])
    ·exact⟨Zo,λb aj bZ=>by rw[CV b Zo,CU b Zo Zo (d5 b Zo)];exact at8.ab b aj bZ⟩
end
def uG(X:ca)(h:S ag):(Nat->Prop)->List Go.aL.Node->List (List E)->Prop
 |_,[],be=>be=[]
 |P,ak::cq,be=>∃row fP a7,be=row::fP/\(∀e,a7 e->P e)/\pG X h a7 ak row/\uG X h (λe=>P e/\¬a7 e) cq fP
def pG.ab{X:ca}{h R:S ag}{P a7:Nat->Prop}{g:Go.aL.Node}{row:List E}(a:pG X h P g row)(u:∀e,P e->W X R e=W X h e)(az:∀e,P e->a7 e):pG X R a7 g row:=by
 obtain⟨cQ,c4,aO,eo,bQ,cl,cU,fe,be,D,H,M,al,aB,bw⟩:=a
 exact⟨cQ,c4,aO,eo,bQ,cl,cU,fe,be,D,(H.ab u).lift az,(M.ab u).lift az,(al.ab u).lift az,(aB.ab u).lift az,bw.ab u az⟩
def pG.len{X:ca}{h:S ag}{P:Nat->Prop}{g:Go.aL.Node}{row:List E}(a:pG X h P g row):row.length=6:=by
 obtain⟨cQ,c4,aO,eo,bQ,cl,cU,fe,be,D,_⟩:=a
 subst D;rfl
def uG.ab{X:ca}{h R:S ag}:∀{cq:List Go.aL.Node}{be:List (List E)}{P a7:Nat->Prop}(u:∀e,P e->W X R e=W X h e) (az:∀e,P e->a7 e),uG X h P cq be->uG X R a7 cq be:=by
 intro cq
 induction cq with
 |nil=>intro be P a7 u az a;exact a
 |cons ak cq ah=>
  rintro be P a7 u az ⟨row,fP,dG,H,bM,M,al⟩
  exact⟨row,fP,dG,H,λe z=>az e (bM e z),M.ab (λe z=>u e (bM e z)) (λe z=>z),ah (λe z=>u e z.1) (λe z=>⟨az e z.1,z.2⟩) al⟩
def uG.wide{X:ca}{h:S ag}:∀{cq:List Go.aL.Node}{be:List (List E)}{P:Nat->Prop},uG X h P cq be->be.length=cq.length/\∀r∈be,r.length=6:=by
 intro cq
 induction cq with
 |nil=>rintro be P rfl;simp
 |cons F cq ah=>
  rintro be P ⟨r2,fP,dG,rfl,bM,M,al⟩
  obtain⟨aB,bw⟩:=ah al
  refine⟨by simp[aB],λr Y=> ?_⟩
  rcases Zu.1 Y with rfl|Y
  ·exact M.len
  ·exact bw r Y
def uG.get{X:ca}{h:S ag}:∀{cq:List Go.aL.Node}{be:List (List E)}{P:Nat->Prop},uG X h P cq be->∀(i:Nat) g,cq[i]? =some g->∃row,be[i]? =some row/\pG X h P g row:=by
 intro cq
 induction cq with
 |nil=>intro be P _ i g a;simp at a
 |cons F cq ah=>
  rintro be P ⟨r2,fP,dG,rfl,bM,M,al⟩ i g a
  cases i with
  |zero=>simp at a;subst a;exact⟨r2,rfl,M.ab (λ_ _=>rfl) bM⟩
  |succ i=>simp at a;obtain⟨row,aB,bw⟩:=ah al i g a;exact⟨row,by simpa using aB,bw.ab (λ_ _=>rfl) (λe z=>z.1)⟩
def tg.get{X:ca}{h:S ag}:∀{cq:List eZ}{be:List (List E)}{P:Nat->Prop},tg X h P cq be->∀(i:Nat) g,cq[i]? =some g->∃row,be[i]? =some row/\BG X h P g row:=by
 intro cq
 induction cq with
 |nil=>intro be P _ i g a;simp at a
 |cons F cq ah=>
  rintro be P ⟨r2,fP,dG,rfl,bM,M,al⟩ i g a
  cases i with
  |zero=>simp at a;subst a;exact⟨r2,rfl,M.ab (λ_ _=>rfl) bM⟩
  |succ i=>simp at a;obtain⟨row,aB,bw⟩:=ah al i g a;exact⟨row,by simpa using aB,bw.ab (λ_ _=>rfl) (λe z=>z.1)⟩
def pG.iF{X:ca}{h:S ag}{P:Nat->Prop}{g:Go.aL.Node}{row:List E}(a:pG X h P g row):Go.bg.iF row=true:=by
 obtain⟨cQ,c4,aO,eo,bQ,cl,cU,fe,be,rfl,H,M,al,aB,_⟩:=a
 simp[Go.bg.iF,(jS H.len).2.1,(jS M.len).2.1,(jS al.len).2.1,(jS aB.len).2.1,show po (.Z g.at_)=true from rfl,show po (.str g.name)=true from rfl]
def oX(X:ca)(h:S ag)(P:Nat->Prop)(am:List Go.aL.Node)(v:E):Prop:=∃b aO ce be,v= .ptr b 0/\P b/\aU X h (.ptr b 0)=some aO/\dV X h P ce aO 6 be/\uG X h P am be
def oX.ab{X:ca}{h R:S ag}{P a7:Nat->Prop}{am:List Go.aL.Node}{v:E}(a:oX X h P am v)(u:∀e,P e->W X R e=W X h e)(az:∀e,P e->a7 e):oX X R a7 am v:=by
 obtain⟨b,aO,ce,be,rfl,H,M,al,aB⟩:=a
 exact⟨b,aO,ce,be,rfl,az _ H,zK (u _ H) M,(al.ab u).lift az,aB.ab u az⟩
def oW(X:ca)(h:S ag):(Nat->Prop)->List Go.aL.Node->List (List E)->Prop
 |_,[],be=>be=[]
 |P,ak::cq,be=>∃row fP a7,be=row::fP/\(∀e,a7 e->P e)/\vI X h a7 ak row/\oW X h (λe=>P e/\¬a7 e) cq fP
def oW.ab{X:ca}{h R:S ag}:∀{cq:List Go.aL.Node}{be:List (List E)}{P a7:Nat->Prop}(u:∀e,P e->W X R e=W X h e) (az:∀e,P e->a7 e),oW X h P cq be->oW X R a7 cq be:=by
 intro cq
 induction cq with
 |nil=>intro be P a7 u az a;exact a
 |cons ak cq ah=>
  rintro be P a7 u az ⟨row,fP,dG,H,bM,M,al⟩
  exact⟨row,fP,dG,H,λe z=>az e (bM e z),M.ab (λe z=>u e (bM e z)) (λe z=>z),ah (λe z=>u e z.1) (λe z=>⟨az e z.1,z.2⟩) al⟩
def oW.snoc{X:ca}{h:S ag}{a7:Nat->Prop}{ak:Go.aL.Node}{row:List E}(a:vI X h a7 ak row):∀{cq:List Go.aL.Node}{be:List (List E)}{pH P:Nat->Prop},oW X h pH cq be->(∀e,pH e->P e)->(∀e,a7 e->P e/\¬pH e)->oW X h P (cq++[ak]) (be++[row]):=by
 intro cq
 induction cq with
 |nil=>rintro be pH P rfl H M;exact⟨row,[],a7,rfl,λe z=>(M e z).1,a,rfl⟩
 |cons F cq ah=>
  rintro be pH P ⟨r2,fP,dG,rfl,bM,al,aB⟩ H M
  exact⟨r2,fP++[row],dG,rfl,λe z=>H e (bM e z),al,ah aB (λe z=>⟨H e z.1,z.2⟩) (λe z=>⟨⟨(M e z).1,λd9=>(M e z).2 (bM e d9)⟩,λp7=>(M e z).2 p7.1⟩)⟩
def oW.wide{X:ca}{h:S ag}:∀{cq:List Go.aL.Node}{be:List (List E)}{P:Nat->Prop},oW X h P cq be->be.length=cq.length/\∀r∈be,r.length=6:=by
 intro cq
 induction cq with
 |nil=>rintro be P rfl;simp
 |cons F cq ah=>
  rintro be P ⟨r2,fP,dG,rfl,bM,M,al⟩
  obtain⟨aB,bw⟩:=ah al
  refine⟨by simp[aB],λr Y=> ?_⟩
  rcases Zu.1 Y with rfl|Y
  ·exact M.row.len
  ·exact bw r Y
def oW.nodes{X:ca}{h:S ag}:∀{cq:List Go.aL.Node}{be:List (List E)}{P:Nat->Prop},oW X h P cq be->uG X h P cq be:=by
 intro cq
 induction cq with
 |nil=>intro be P a;exact a
 |cons ak cq ah=>rintro be P ⟨row,fP,dG,H,bM,M,al⟩;exact⟨row,fP,dG,H,bM,M.row,ah al⟩
def BL(X:ca)(h:S ag)(P:Nat->Prop)(am:List Go.aL.Node)(v:E):Prop:=∃(ai:Nat->Nat) (b:Nat) (aO:E) (ce:Nat) (be:List (List E)),v= .ptr b 0/\(P b/\ai b=1)/\aU X h (.ptr b 0)=some aO/\iI X h (λe=>P e/\ai e=2) ce aO 6 be/\oW X h (λe=>P e/\ai e=0) am be
def BL.prog{X:ca}{h:S ag}{P:Nat->Prop}{am:List Go.aL.Node}{v:E}(a:BL X h P am v):oX X h P am v:=by
 obtain⟨ai,b,aO,ce,be,rfl,H,M,al,aB⟩:=a
 exact⟨b,aO,ce,be,rfl,H.1,M,al.rd.lift λ_ a=>a.1,aB.nodes.ab (λ_ _=>rfl) λ_ a=>a.1⟩
def BL.ab{X:ca}{h R:S ag}{P a7:Nat->Prop}{am:List Go.aL.Node}{v:E}(a:BL X h P am v)(u:∀e,P e->W X R e=W X h e)(az:∀e,P e->a7 e):BL X R a7 am v:=by
 obtain⟨ai,b,aO,ce,be,rfl,H,M,al,aB⟩:=a
 exact⟨ai,b,aO,ce,be,rfl,⟨az _ H.1,H.2⟩,zK (u _ H.1) M,(al.ab λe z=>u e z.1).lift λe z=>⟨az e z.1,z.2⟩,aB.ab (λe z=>u e z.1) λe z=>⟨az e z.1,z.2⟩⟩
section
variable{X:ca}{h R aQ aP:S ag}{j an aV aX aM bU:Nat}{aZ:List Tok}{i:Nat}
def aBH(aw:dk X)(dZ:xd X){n:Nat}(tX:n<=170000)(kW:aZ.length<=100000)(ay:je X h j aM bU aZ i){r:Except Int (List Go.aL.Node×List Tok)}(Y:nodes n [] (aZ.drop i)=some r):
 a2 X 24 [.ptr aM 0] h j (λac R an=>∃am cJ,r= .ok (am,aZ.drop cJ)/\BL X R (dU j an) am ac/\aL X R aM bU aZ cJ/\ch X [aM] h j R an) (ju X aM h j r):=by
 refine zG aw (amt X) ?_
 rw[amu]
 unfold aay
 have g0:=ay.a8
 have kQ:=ay.hR
 have iy:=ay.cb
 have ki:=ay.hp
 refine cL ⟨?_⟩
 have aek:W X (bm X h j (zD [.aY] 1)) j=zD [.aY] 1:=bh Zo
 have bL:br X h j (bm X h j (zD [.aY] 1)) (j+1):=dH
 refine fE (λm I R aS=>∃(aO:E) (am:List Go.aL.Node) (be:List (List E)) (cv:List Nat) (cJ:Nat) (c:Bool),I.g 0=some (.ptr aM 0)/\I.g 3=some (.ptr j 0)/\I.g 4=some (.bool c)/\W X R j=zD [aO] 1/\ga X R aO 6 be.flatten cv/\(∀e∈cv,j+1<=e/\e<aS)/\oW X R (wT (j+1) aS cv) am be/\aL X R aM bU aZ cJ/\ch X [aM] h j R aS/\j+1<=aS/\am.length+m<=n/\
  (if c then nodes m am (aZ.drop cJ)=some r else r= .ok (am,aZ.drop cJ)))
  n ⟨.aY,[],[],[],i,true,bo,bo,bo,aek, .inl (.inl ⟨rfl,rfl,rfl⟩),Zs,rfl,ay.par.ex bL Zo Zo,ch.of bL,Zj _,Zs,Y⟩ ?_
 clear Y aek bL
 rintro m I aP aX ⟨aO,am,be,cv,gq,c,t0,t3,t4,v6,t7,nY,O6,dI,dz,fN,ES,Y⟩
 cases c with
 |false=>
  simp only[Zw,ZB]at Y
  subst Y
  refine cS @t4 @t3 ⟨?_⟩
  have xT:=O6.wide
  obtain⟨ce,cG⟩:=t7.QK Zd xT.2 (by rw[xT.1];omega) (fm:=λe=>dU j aX e/\e∈cv) (λe z=>by have:=nY e z;exact⟨⟨Zo,Zo⟩,z⟩)
  exact⟨am,gq,rfl,⟨λe=>if e=j then 1 else if e∈cv then 2 else 0,j,aO,ce,be,rfl,⟨⟨Zo,Zo⟩,Zp rfl⟩,by rw[bG v6];rfl,cG.lift λe z=>⟨z.1,(Zg (zz (nY e z.2))).trans (Zp z.2)⟩,O6.ab (λ_ _=>rfl) (λe z=>⟨⟨zz z.1,z.2.1⟩,(Zg (zz z.1)).trans (Zg z.2.2)⟩)⟩,dI,dz⟩
 |true=>
  simp only[ZG]at Y
  cases m with
  |zero=>simp[nodes]at Y
  |succ m=>
  unfold nodes at Y
  have f7:=ay.go dI dz.le
  obtain⟨bC,cu,fL⟩:=ga.one t7
  have lV:aU X aP (.ptr j 0)=some aO:=by rw[bG v6];rfl
  refine gk @t4 @t3 @t0 @lV ⟨?_⟩
  have CF:∃F4,Go.aL.node m (aZ.drop gq)=some F4/\(match F4 with
   | .error F=>r= .error F
   | .ok (ak,k)=>(match k with
     |[]=>none
     |x::_=>if x.kind=7 then ok (am++[ak]) k else nodes m (am++[ak]) k)=some r):=by
   rcases gJ Y with ⟨F,H,rfl⟩|⟨ak,bS,H,Y⟩
   ·exact⟨_,H,rfl⟩
   ·exact⟨_,H,Y⟩
  obtain⟨F4,H,hx⟩:=CF
  clear Y
  have n6:=f7.go (an:=aX+12) dI Zo
  refine(aAp aw dZ Zo kW n6 H).mono ?_ (λac R an a=>by
   obtain⟨F,rfl,rfl,a⟩:=a
   subst hx
   exact⟨F,rfl,rfl,dz.trans (a.down Zo (λb aj=> .inl aj))⟩)
  rintro v3 a6 bz ⟨g,i3,row,rfl,rfl,Vo,g2,ei⟩
  have jm:=ei.le
  have HS:ch X [aM] h j a6 bz:=dz.trans (ei.down Zo (λb aj=> .inl aj))
  have Pe:=Vo.row.len
  have p2:=Vo.row.iF
  obtain⟨j9,fz,gn,iG,ps,n8,rfl⟩:∃j9 fz gn iG ps n8,row=[j9,fz,gn,iG,ps,n8]:=by
   match row,Pe with
   |[F,b,c,d,D,f],_=>exact⟨F,b,c,d,D,f,rfl⟩
  have uX:W X a6 j=zD [aO] 1:=by rw[ei.ab _ Zo Zx];exact v6
  have cX:∀e,j<=e->e<aX->W X a6 e=W X aP e:=λe H M=>ei.ab e Zo Zx
  have ayo:aU X a6 (.ptr j 0)=some aO:=by rw[bG uX];rfl
  refine cj @ayo ⟨?_⟩
  refine gP fL ?_
  have kV:lZ X (bm X a6 (aX+7) (zD [j9,fz,gn,iG,ps,n8] 6)) 6 (.slice (aX+7) 0 1 1)=some (1,[j9,fz,gn,iG,ps,n8]):=s2 (bh Zo) (nu _) rfl _
  have xT:=O6.wide
  have mC:=tE xT.2
  obtain⟨lh,bH,gK,iN,t8,wg,gz⟩:=(t7.ab (R:=bm X a6 (aX+7) (zD [j9,fz,gn,iG,ps,n8] 6)) (λe z=>by have:=nY e z;rw[aI Zo Zo];exact cX e Zo Zo)).append (j:=bz) Zd kV rfl Zd p2 (by rw[mC,xT.1];simp only[ZF,Z0];omega) Zo (λe z=>zz (nY e z))
  refine kH iN ?_
  obtain⟨eO,fp,kO⟩:=lm.one t8
  have d4:∀e,e<bz->e≠aX+7->e∉cv->W X bH e=W X a6 e:=λe H M al=>by rw[gz e Zo al,aI Zo M]
  have d5:∀e,e<j+1->e∉cv:=λe H M=>zz (nY e M)
  have Am:W X bH j=zD [aO] 1:=by rw[d4 _ Zo Zo (d5 _ Zo)];exact uX
  refine cL ⟨?_⟩
  refine gm (ux (T:=0) Am Zo Zo eO fp) ?_
  refine cj @t0 ⟨?_⟩
  have dN:∀e,e≠j->∀cT,W X (bm X bH j cT) e=W X bH e:=λe a cT=>aI Zo a
  have hF:∀cT,aL X (bm X bH j cT) aM bU aZ i3:=λcT=>g2.ab (by rw[dN _ Zo,d4 _ Zo Zo (d5 _ Zo)]) (by rw[dN _ Zo,d4 _ Zo Zo (d5 _ Zo)])
  obtain⟨x,k,aJ,AS⟩:∃x k,aZ.drop i3=x::k/\(if x.kind=7 then ok (am++[g]) (aZ.drop i3)else nodes m (am++[g]) (aZ.drop i3))=some r:=by
   cases aJ:aZ.drop i3 with
   |nil=>rw[aJ]at hx;cases hx
   |cons x k=>rw[aJ]at hx;exact⟨x,k,rfl,hx⟩
  refine e0 (λbN=>W X bN j=zD [lh] 1/\(∀e,e≠j->W X bN e=W X bH e)) ⟨by rw[bh Zo];rfl,λe a=>dN e a _⟩ ?_
  rintro bN ⟨HH,dN⟩
  have agj:aL X bN aM bU aZ i3:=g2.ab (by rw[dN _ Zo,d4 _ Zo Zo (d5 _ Zo)]) (by rw[dN _ Zo,d4 _ Zo Zo (d5 _ Zo)])
  refine(sW aw Zo agj Zo Zo (f2 aJ).1).Zm ?_
  rintro aj2 b6 dr ⟨rfl,ec⟩
  have oB:=ec.le
  have dc:∀e,e≠j->e<bz+1->W X b6 e=W X bH e:=λe H M=>by rw[ec.ab e M,dN e H]
  have fin:∀(da:c1) (c:Bool),da.g 0=some (.ptr aM 0)->da.g 3=some (.ptr j 0)->da.g 4=some (.bool c)->(if c then nodes m (am++[g]) (aZ.drop i3)=some r else r= .ok (am++[g],aZ.drop i3))->∃gg,gg<m+1/\∃(aO:E) (am:List Go.aL.Node) (be:List (List E)) (cv:List Nat) (cJ:Nat) (c:Bool),da.g 0=some (.ptr aM 0)/\da.g 3=some (.ptr j 0)/\da.g 4=some (.bool c)/\W X b6 j=zD [aO] 1/\ga X b6 aO 6 be.flatten cv/\(∀e∈cv,j+1<=e/\e<dr)/\oW X b6 (wT (j+1) dr cv) am be/\aL X b6 aM bU aZ cJ/\ch X [aM] h j b6 dr/\j+1<=dr/\am.length+gg<=n/\
   (if c then nodes gg am (aZ.drop cJ)=some r else r= .ok (am,aZ.drop cJ)):=by
   intro da c pr dT fG aA
   refine⟨m,Zo,lh,am++[g],be++[[j9,fz,gn,iG,ps,n8]],gK,i3,c,pr,dT,fG,by rw[ec.ab _ Zo];exact HH, .inl ?_, ?_, ?_, ?_, ?_,Zo,Zx,aA⟩
   ·rw[YN,Yp,List.flatten_nil,Yh]
    exact t8.ab λe z=>dc e (by rcases wg e z with rfl|a;omega;have:=nY e a;omega) (by rcases wg e z with rfl|a;omega;have:=nY e a;omega)
   ·intro e z
    rcases wg e z with rfl|a
    ·omega
    ·have:=nY e a;omega
   ·refine oW.snoc (Vo.ab (λe z=> ?_) (λe z=>z)) (O6.ab (λe z=> ?_) (λe z=>z)) (λe z=> ?_) (λe z=>⟨?_,λp7=>by have:=z.1;have:=p7.2.1;omega⟩)
    ·have H:=z.1;have M:=z.2
     rw[dc e Zo Zo,d4 e Zo Zo (λa=>zz (nY e a))]
    ·have H:=z.1;have M:=z.2.1
     rw[dc e Zo Zo,d4 e Zo Zo z.2.2,cX e Zo Zo]
    ·have H:=z.1;have M:=z.2.1
     refine⟨H,Zo,λa=> ?_⟩
     rcases wg e a with rfl|a
     ·omega
     ·exact z.2.2 a
    ·have H:=z.1;have M:=z.2
     refine⟨Zo,Zo,λa=> ?_⟩
     rcases wg e a with rfl|a
     ·omega
     ·have:=nY e a;omega
   ·exact agj.ex ec Zo Zo
   ·exact⟨Zo,λb aj bZ=>by rw[dc b Zo Zo,d4 b Zo Zo (d5 b Zo)];exact HS.ab b aj bZ⟩
  by_cases aH:x.kind=7
  ·rw[Zp aH]at AS
   simp only[ok,Zf]at AS
   have d:decide (x.kind=7)=true:=by simp[aH]
   refine cS cg.eq_1 @aH ⟨?_⟩
   exact fin _ false (aW t0) (aW t3) (fY) AS.symm
  ·rw[Zg aH]at AS
   have d:decide (x.kind=7)=false:=by simp[aH]
   refine cS cg.eq_1 @aH ⟨?_⟩
   exact fin _ true (aW t0) (aW t3) (by refine Cf ⟨?_⟩;simp[aH]) AS
end
end
open Go.bg
noncomputable section
variable (X : ca) (h : S ag) (j : Nat) (ai ax : bK) (a0 bf cf a3 a4 a5 jK kx jf : E)
def RK:Za1:=λa b c d e f g=>ar (db a d .eql 54 true b .cN) λh=>hQ h c d e λd e i=>hQ h b e i λe i j=>lU h (λb=>jA a d [e] i j b g) i j λd e i=>fc h (gi .not d) e i λd e i=>c9 (λd=>bt (λb c d=>kc b 0 8 a c λ_ _ e=>iT e (λ_ a b=>f (.tuple []) a b) λf h=>fy (λb c d e=>hK c 19 18 λf=>bt (λc d e=>xa (λa c d=>gR a 19 λe=>b (aa a 19 e) c d) c 17 19 a d λb f=>te c λh=>a2 a 16 [f,h] d e (λ_ a d=>b (aa c 5 f) a d) g) λa=>a1 f (a (aa c 20 f) d e) (h (aa c 20 f) d e)) (zI b 17 e 18 f 19 (.Z 0)) c d) λa=>a1 d (f (.tuple []) e i) (a (aa (cR [b,c]) 13 d) e i)) λa=>a1 h (a .zT) (a d)
def aas:c7 X 16 [a0,bf]=RK X a0 bf:=Zk
def aar:cV X 16 2=true:=Zk
def aaB:Za0:=λa b c d e f=>BA d a c λc d g=>a2 a 52 [b] d g (λd g h=>ar (bv .neq d (.Z 0)) λd=>bt (λb c d=>sc b a c λg=>iT g (λb c d=>DI λf=>ll b 2 a c 2 f λa b=>e b a d) λh i=>fy (λb c d g=>hK c 15 14 λh=>bt (λc d g=>bt (λa c d=>gR a 15 λe=>b (aa a 15 e) c d) λb=>GI c 15 13 6 λh i=>GG a d i g λd g i=>fa c λj=>td a i 6 d 10 g f λg i k=>gT a i k (.map k) (.map [] 0) λi k l=>ar (fv [.cN, .Z 0, .cN, .mL, .Z 0, .Z 0] [(0,1,j),(1,1,h),(2,1,g),(3,1,i)]) λg=>hC a k l g λg i j=>a2 a 53 [g] i j (λ_ f i=>lK g 4 λj=>yL j a f 0 λj=>bt b λb=>a1 j (lK g 4 λb=>nc a f b λb=>ll c 2 a f 2 b λa b=>e b a i) (b (zJ c 4 d 3 h 5 g 34 j) f i)) f) λa=>a1 h (a (aa c 16 h) d g) (i (aa c 16 h) d g)) (zI b 13 g 14 h 15 (.Z 0)) c d) λf=>a1 d (ar (fv [.Z 0, .Z 0] [(0,1, .Z 1)]) λb=>uD a g 2 c b λa b=>e b a h) (f (zH (cR [b]) 2 c 8 d) g h)) f
def amA:c7 X 29 [a0]=aaB X a0:=Zk
def amz:cV X 29 1=true:=Zk
def aaZ:Za0:=λa b c d e f=>ar (db a c .eql 23 true b .cN) λg=>hQ g b c d λc d h=>w8 g c d h 0 a λc d h=>fc g (gr c) d h λc d h=>fc g (bv .eql c (.Z 0)) d h λc d h=>c9 (λc=>hQ c b d h λd g h=>w8 c d g h 0 a λd g h=>fc c (gr d) g h λd g h=>fc c (bv .gtr d (.Z 64)) g h λd g h=>c9 (λc=>bt (λb c d=>sc b a c λg=>iT g (λa b c=>qx a λa=>e a b c) λh i=>fy (λb c d g=>hK c 30 29 λh=>bt (λc d g=>vB (λa c d=>gR a 30 λe=>b (aa a 30 e) c d) c 28 30 6 λb h=>GG a d h g λd g h=>td a h 6 d 78 g f λa f g=>bt b λb=>oi a 1 b λb h=>a1 b (e a f g) (oi a 22 h λe h=>a1 e (h (zH (zJ c 5 d 6 a 36 a 37 b) 40 e 3 a) f g) (h (aa (zJ c 5 d 6 a 36 a 37 b) 40 e) f g))) λa=>a1 h (a (aa c 31 h) d g) (i (aa c 31 h) d g)) (zJ b 3 (.Z 0) 28 g 29 h 30 (.Z 0)) c d) λa=>a1 c (e (.Z 1) g h) (a (zH (cR [b]) 2 (.Z 0) 24 c) g h)) λa=>a1 c (a .zT) (a d)) λa=>a1 g (a .zT) (a c)
def anh:c7 X 52 [a0]=aaZ X a0:=Zk
def ang:cV X 52 1=true:=Zk
def ajc(a:aN)(b:bK):fJ:=λc d e=>n9 a [] b c c.bj d e
def FV(a:aN)(b c:bK):tm:=λd e f g=>wO a [] b c d e d.bj f g
def aa0:Za0:=λa b c d e f=>hC a c d b λc d g=>e7 (g+15) λh=>ar (aU a d c) λi=>gU i 0 a d λ_ i=>gU i 0 a d λ_ i=>ar (aU a d c) λj=>gU j 1 a d λ_ j=>ar (gd 6 i j) λi=>ar (dE a d 6 i) λi=>ar (iK [.str [], .Z 0, .aY, .aY, .aY, .aY] (g+13)) λj=>mK a d (g+13) j.1 j.2 λd g=>ar (fT a g 6 d i) λg=>e7 (h+12) λh=>ar (aU a g c) λi=>gU i 0 a g λ_ i=>kK d a g λj=>a2 a 79 [i,j] g h (λg h i=>hB g λg _=>ar (aU a h c) λj=>gU j 1 a h λ_ j=>ar (bv .lss g j) λj=>bt (λb c d=>kt b 1 a c λg=>nL b 2 a c 6 λh=>a2 a 81 [g,h] c d (λ_ c d=>iU b 2 5 a c λ_ g=>iT g (λb c d=>nL b 2 a c 6 λg=>a2 a 32 [g] c d (λc d g=>bt (λb c d=>ajc a e b c d) λh=>F0 a 103 c [85,86] (us a (λ_ _ b _ _ c d e=>cH (c 85) λf=>Nd e a d c 86 λa d e=>b (zH c 10 f 11 a) e d) λ_ b c _ _ d e f=>bt c λc=>e7 (f+12) λf=>cH (d 10) λg=>ar (bv .neq g (.Z 1)) λg=>VL g (d 1) (λb=>aU a e b) e λe h=>kX g (rf e) h λe h=>GL g 3 e h a λe h=>VL g (d 11) (λa=>hW 0 a) h λh i=>kX g (aU a i h) i λh i=>kX g (n3 a i 9 (.Z 0) e h false) i λe h=>kX g (bv .eql e (.Z 0)) h λe h=>c9 (λe=>bt c λc=>a1 e (kt d 1 a h λg=>iU d 11 1 a h λ_ i=>a2 a 80 [g, .Z 37,i] h f (λ_ a b=>c (aa d 98 e) a b) (b (ib [99,100,101,102] (aa d 98 e)))) (c (aa d 98 e) h f)) λa=>a1 g (a e) (a .zF)) h (El 4 h λ_ _ _ _=>False) (ajc a e) (FV a e f) (aa b 84 c) d g) (FV a e f (ib [83,84] b))) λh i=>fy (λb c d g=>hK c 51 50 λh=>bt (λc d g=>vB (λa c d=>gR a 51 λe=>b (aa a 51 e) c d) c 49 51 4 λb h=>GH a d h g λd g h=>kK d a h λi=>iT i (λc d g=>kt c 1 a d λh=>iU c 6 3 a d λ_ i=>a2 a 83 [h,i] d g (λ_ a d=>b c a d) (FV a e f (ib [78,79,80,81] c))) λb j=>fy (λb c d g=>hK c 58 57 λh=>bt (λc d g=>bt (λa c d=>gR a 58 λe=>b (aa a 58 e) c d) λb=>GI c 58 56 1 λh i=>ar (aU a d i) λi=>iU c 6 1 a d λ_ j=>ar (gr j) λj=>ar (bv .lss h j) λj=>bt (λc d g=>kt c 1 a d λh=>fs c 8 9 λi j=>a2 a 82 [h,i,j] d g (λ_ a d=>b c a d) (FV a e f (ib [73,74,75,76] c))) λb=>a1 j (iU c 6 1 a d λ_ e=>ar (gd 1 e h) λe=>ar (aU a d e) λa=>b (aa (zJ c 7 h 8 i 9 (.Z 0) 67 j) 9 a) d g) (b (zJ c 7 h 8 i 9 (.Z 0) 67 j) d g)) λa=>a1 h (a (aa c 59 h) d g) (j (aa c 59 h) d g)) (zJ c 6 d 56 i 57 b 58 (.Z 0)) h g) λa=>a1 h (a (aa c 52 h) d g) (i (aa c 52 h) d g)) (zI b 49 g 50 h 51 (.Z 0)) c d) (FV a e f (ib [45,46,47] b))) λk=>a1 j (ar (aU a h c) λl=>e4 1 d a h λ_ m=>a2 a 80 [l, .Z 24,m] h i (λ_ a e=>k (zJ (cR [b]) 1 c 2 d 3 g 40 j) a e) (FV a e f (ib [41,42,43,44] (zJ (cR [b]) 1 c 2 d 3 g 40 j)))) (k (zJ (cR [b]) 1 c 2 d 3 g 40 j) h i)) (FV a e f (ib [26,27,28,29,30,31,32,25,33,34,3,4] (zH (cR [b]) 1 c 2 d)))
def anj:Cd X 53 [a0] h j ai ax=aa0 X a0 h j ai ax:=Zk
def ani:cV X 53 1=true:=Zk
def aaE:Za0:=λa b c d e _=>hC a c d b λa b c=>e (.func (.func 58) [] [a]) b c
def amE:c7 X 32 [a0]=aaE X a0:=Zk
def amD:cV X 32 1=true:=Zk
def abu:Za1:=λa b c d e f g=>hC a d e c λd e h=>ar (db a e .eql 23 true b .cN) λi=>bt (λb c d=>sc b a c λe=>qx b λb=>a2 a 101 [e, .func (.func 102) [] [b]] c d (λb c d=>ar (ts a c .max [3,3] [b, .Z 0]) λa=>DK b λb=>f (.tuple [a,b]) c d) g) λa=>a1 i (f (.tuple [.Z 0, .zF]) e h) (a (zJ (cR [b,c]) 3 d 4 (.Z 0) 5 .zF 8 i) e h)
def an6:c7 X 79 [a0,bf]=abu X a0 bf:=Zk
def an5:cV X 79 2=true:=Zk
def abt:Za0:=λa b c d e f=>hC a c d b λc d g=>e4 2 c a d λ_ h=>ar (gr h) λh=>e4 3 c a d λ_ i=>JJ i h λh=>e4 4 c a d λ_ i=>JJ i h λh=>kK c a d λi=>a2 a 97 [i] d g (λd g i=>ar (gi .not d) λd=>tb d 3 c g i a λg i j=>fc d (gr g) i j λg i j=>fc d (bv .eql g (.Z 0)) i j λg i j=>c9 (λd=>hQ d h i j λg i j=>fc d (bv .gtr g (.Z 256)) i j λg i j=>c9 (λd=>tb d 5 c i j a λg i j=>fc d (gr g) i j λg i j=>fc d (bv .gtr g (.Z 4096)) i j λg i j=>c9 (λd=>tb d 2 c i j a λg i j=>tb d 3 c i j a λi j k=>tb d 4 c j k a λj k l=>lU d (λb=>ar (hI 3 [.aY, .aY, .aY] [(0,1,g),(1,1,i),(2,1,j)] l) λc=>gT a k l c.1 c.2 λa c d=>b a c d) k l λg i j=>lU d (λb=>a2 a 76 [g] i j b f) i j λg i j=>lU d (λb=>a2 a 98 [g] i j b f) i j λg i j=>fc d (gi .not g) i j λg i j=>c9 (λd=>bt (λb c d=>iU b 1 5 a c λ_ g=>iT g (λa b c=>oS a λa=>e a b c) λh i=>fy (λb c d g=>hK c 55 54 λh=>bt (λc d g=>vB (λa c d=>gR a 55 λe=>b (aa a 55 e) c d) c 53 55 4 λb h=>GH a d h g λd g h=>e4 3 d a h λ_ i=>a2 a 100 [i] h g (λg h i=>kK d a h λj=>ar (gr j) λj=>Nj j λj=>tb j 0 d h i a λh i k=>hQ j (.func (.func 99) [] []) i k λi k l=>lU j (λb=>a2 a 49 [h,i] k l b f) k l λa f h=>c9 (λa=>hQ a g f h λf h i=>fc a (bv .eql f (.Z 1)) h i λf h i=>c9 (λa=>bt (λa c d=>cH (a 8) λe=>ar (bv .neq e (.Z 0)) λe=>bt b λb=>a1 e (cH (a 8) λf=>b (zH a 77 e 4 f) c d) (b (aa a 77 e) c d)) λb=>a1 a (e (.Z 1) h i) (b (zJ c 6 d 7 (.func (.func 99) [] []) 8 g 75 a) h i)) λb=>a1 a (b .zT) (b f)) λb=>a1 j (b .zT) (b a)) f) λa=>a1 h (a (aa c 56 h) d g) (i (aa c 56 h) d g)) (zJ b 4 (.Z 0) 53 g 54 h 55 (.Z 0)) c d) λa=>a1 d (e (.Z 1) i j) (a (zJ (cR [b]) 1 c 2 (.Z 0) 3 h 51 d) i j)) λa=>a1 d (a .zT) (a g)) λa=>a1 d (a .zT) (a g)) λa=>a1 d (a .zT) (a g)) λa=>a1 d (a .zT) (a g)) f
def an4:c7 X 78 [a0]=abt X a0:=Zk
def an3:cV X 78 1=true:=Zk
def aaS:Za0:=λa b c d e f=>a2 a 74 [b,.Z 201] c d e f
def am4:c7 X 46 [a0]=aaS X a0:=Zk
def am3:cV X 46 1=true:=Zk
def abw:Za2:=λa b c d e f g _=>lK b 4 λh=>DJ h a e 0 λh=>bt (λ_ a b=>g (.tuple []) a b) λg=>a1 h (ar (fv [.Z 0, .Z 0] [(0,1,c),(1,1,d)]) λi=>lK b 4 λj=>ar (fT a e 2 j i) λa=>g (aa (cR [b,c,d]) 11 h) a f) (g (aa (cR [b,c,d]) 11 h) e f)
def an8:c7 X 80 [a0,bf,cf]=abw X a0 bf cf:=Zk
def an7:cV X 80 3=true:=Zk
def W3(a:aN)(b:bK):fJ:=λc d e=>n9 a [] b c c.bj d e
def Qy(a:aN)(b c:bK):tm:=λd e f g=>wO a [] b c d e d.bj f g
def abx:Za1:=λa b c d e f g=>hC a d e b λd e h=>hC a e h c λe h i=>gT a h i (.map i) (.map [] 0) λh i j=>ar (iK [.mL] j) λk=>qw a i j k.1 k.2 1 h λh i j=>ar (dE a j 6 e) λk=>a2 a 32 [k] j i (λi j k=>bt (λb c d=>nL b 3 a c 6 λe=>a2 a 32 [e] c d (λc d e=>bt (λb c d=>W3 a f b c d) λh=>F0 a 54 c [31,32] (us a (λ_ _ b _ _ c d e=>Nd e a d c 32 λa d e=>b (aa c 8 a) e d) λ_ b c _ _ d e f=>bt c λc=>e7 (f+13) λg=>BC d 2 a e 2 λh=>iU d 8 5 a e λ_ i=>Rl f 10 a e λe f=>a2 a 12 [h,i] f g (λf g h=>hB f λf i=>ar (fT a g 11 e f) λe=>ar (gi .not i) λf=>VM f (d 8) (λa=>hW 5 a) e h λe g h=>eJ f (aU a g e) g h λe g h=>eJ f (db a g .neq 9 true e (.str [])) g h λe g h=>c9 (λe=>bt c λc=>a1 e (kt d 2 a g λf=>iU d 8 6 a g λ_ j=>a2 a 80 [f, .Z 23,j] g h (λ_ a b=>c (zH d 10 i 49 e) a b) (b (ib [50,51,52,53] (zH d 10 i 49 e)))) (c (zH d 10 i 49 e) g h)) λa=>a1 f (a e) (a .zF)) (b (ib [34,35,36,37,38,39,40,33,41,42,9,10] d))) h (El 2 h λ_ _ _ _=>False) (W3 a f) (Qy a f g) (aa b 30 c) d e) (Qy a f g (ib [29,30] b))) λl=>F0 a 54 i [14,15] (us a (λ_ _ b _ _ c d e=>cH (c 14) λf=>Nd e a d c 15 λa d e=>b (zH c 5 f 6 a) e d) λ_ b c _ _ d e f=>bt c λc=>kt d 4 a e λg=>iU d 6 0 a e λ_ h=>ar (n3 a e 9 (.Z 0) g h false) λg=>XX g λg=>bt (λb d e=>kt b 4 a d λf=>iU b 6 0 a d λ_ g=>pB b λh=>h6 (uh a d e 9 f g h) d e λ_ a d=>c b a d) λc=>a1 g (kt d 2 a e λh=>iU d 6 1 a e λ_ i=>a2 a 80 [h, .Z 24,i] e f (λ_ a b=>c (aa d 20 g) a b) (b (ib [21,22,23,24] (aa d 20 g)))) (c (aa d 20 g) e f)) l (El 0 l λ_ _ _ _=>False) (W3 a f) (Qy a f g) (zJ (cR [b,c]) 2 d 3 e 4 h 13 i) j k) (Qy a f g (ib [12,13] (zI (cR [b,c]) 2 d 3 e 4 h)))
def aoa:Cd X 81 [a0,bf] h j ai ax=abx X a0 bf h j ai ax:=Zk
def an9:cV X 81 2=true:=Zk
def aby:Za2:=λa b c d e f g h=>gU b 2 a e λ_ i=>Nf a i c e f h λe f i j=>gU b 3 a j λ_ k=>ar (n3 a j 9 (.Z 0) k c false) λl=>DG l λl=>h6 (uh a j i 9 k c l) j i λ_ i j=>bt (λ_ a b=>g (.tuple []) a b) λg=>Bz e g λg k=>a1 g (a2 a 80 [b, .Z 23,d] i j (λ_ a h=>k (zI (cR [b,c,d]) 6 f 7 e 24 g) a h) h) (DJ f a i 1 λl=>hQ l b i j λi j m=>w8 l i j m 3 a λi j m=>hQ l c j m λj m n=>fc l (n3 a m 9 (.Z 0) i j false) m n λi j m=>fc l (bv .gtr i (.Z 1)) j m λi j m=>c9 (λi=>bt k λk=>a1 i (a2 a 80 [b, .Z 24,d] j m (λ_ a h=>k (zJ (cR [b,c,d]) 6 f 7 e 24 g 30 i) a h) h) (k (zJ (cR [b,c,d]) 6 f 7 e 24 g 30 i) j m)) λa=>a1 l (a .zT) (a i))
def aoc:c7 X 82 [a0,bf,cf]=aby X a0 bf cf:=Zk
def aob:cV X 82 3=true:=Zk
def abz:Za1:=λa b c d e f g=>hC a d e b λb d e=>a2 a 16 [c, .func (.func 103) [] [b]] d e (λ_ a b=>f (.tuple []) a b) g
def aoe:c7 X 83 [a0,bf]=abz X a0 bf:=Zk
def aod:cV X 83 2=true:=Zk
def aa5:Za1:=λa b c d e f g=>e4 2 c a d λ_ h=>e4 3 c a d λ_ i=>e4 4 c a d λ_ j=>ar (fv [.aY, .aY, .aY] [(0,1,h),(1,1,i),(2,1,j)]) λh=>bt (λ_ a b=>f (.tuple []) a b) λi=>fy (λb c d e=>GJ c 14 3 λh=>bt (λc d e=>bt (λa c d=>gR a 14 λe=>b (aa a 14 e) c d) λb=>fs c 14 13 λh i=>cH (c 14) λj=>ar (rQ false 3 1 i j) λi=>GP i b λb j=>fy (λb c d e=>hK c 20 19 λh=>bt (λc d e=>bt (λa c d=>gR a 20 λe=>b (aa a 20 e) c d) λb=>GF c 18 20 a d e λd e h=>fs c 0 3 λi j=>ar (bv .add (.Z 1) j) λj=>ar (dE a h 8 d) λk=>jA a i [j,k] h e (λa e g=>Bz a b λa b=>a1 a (f (.tuple []) e g) (b (zH c 6 d 29 a) e g)) g) λa=>a1 h (a (aa c 21 h) d e) (j (aa c 21 h) d e)) (aa (zJ c 3 h 4 i 18 i 19 b) 20 (.Z 0)) d e) λa=>a1 h (a (aa c 15 h) d e) (i (aa c 15 h) d e)) (zH (cR [b,c]) 13 h 14 (.Z 0)) d e
def ant:c7 X 58 [a0,bf]=aa5 X a0 bf:=Zk
def ans:cV X 58 2=true:=Zk
def X7:Za1:=λa b c d e f g=>iT b (λ_ a b=>f (.Z (-1)) a b) λh i=>fy (λb c d e=>hK c 8 7 λh=>bt (λc d e=>bt (λa c d=>gR a 8 λe=>b (aa a 8 e) c d) λb=>GK c 6 λh i j=>ar (dE a d 6 j) λj=>jA a i [j] d e (λa d e=>bt b λb=>a1 a (f h d e) (b (zH c 5 h 16 a) d e)) g) λa=>a1 h (a (aa c 9 h) d e) (i (aa c 9 h) d e)) (zI (cR [b,c]) 4 (.Z 0) 7 h 8 (.Z 0)) d e
def akX:c7 X 101 [a0,bf]=X7 X a0 bf:=Zk
def akW:cV X 101 2=true:=Zk
def X8:Za1:=λa b c d e f _=>hC a d e b λb d e=>kK b a d λb=>ar (aU a d c) λc=>ar (db a d .eql 9 false b c) λa=>f a d e
def akZ:c7 X 102 [a0,bf]=X8 X a0 bf:=Zk
def akY:cV X 102 2=true:=Zk
def abO:Za0:=λa b c d e f=>GO a c b λg=>hQ g b c d λc d h=>fc g (nz c) d h λc d h=>fc g (bv .gtr c (.Z 32)) d h λc d h=>c9 (λc=>hQ c b d h λd g h=>fc c (oF d (.Z 0)) g h λd g h=>fc c (bv .geq d (.int .u8 48)) g h λd g h=>hQ c d g h λd g h=>kn d b g h λg h i=>eJ d (oF g (.Z 0)) h i λg h i=>eJ d (bv .leq g (.int .u8 57)) h i λg h i=>lU c (λa=>c9 (λb=>a b h i) λa=>a1 d (a g) (a .zF)) h i λd g h=>c9 (λc=>hQ c b g h λd g h=>hQ c (.func (.func 119) [] []) g h λg h i=>lU c (λb=>a2 a 120 [d,g] h i b f) h i λd g h=>fc c (bv .geq d (.Z 0)) g h λd g h=>c9 (λc=>bt (λb c d=>ar (aU a c (.ptr 3 0)) λg=>fa b λh=>a2 a 121 [g,h] c d (λc d g=>ar (gi .not c) λc=>oG c (b 0) d g λb d g=>lx c (λc=>a2 a 122 [b] d g c f) d g λa b d=>eJ c (gi .not a) b d λa b d=>c9 (λa=>e a b d) λb=>a1 c (b a) (b .zF)) f) λa=>a1 c (e .zF g h) (a (zI (cR [b]) 2 .zF 3 (.func (.func 119) [] []) 26 c) g h)) λa=>a1 c (a .zT) (a d)) λa=>a1 c (a .zT) (a d)) λa=>a1 g (a .zT) (a c)
def aoI:c7 X 97 [a0]=abO X a0:=Zk
def aoH:cV X 97 1=true:=Zk
def abP:Za0:=λa b c d e f=>iT b (λ_ a b=>e .zT a b) λg h=>fy (λb c d g=>hK c 7 6 λi=>bt (λc d g=>bt (λa c d=>gR a 7 λe=>b (aa a 7 e) c d) λb=>GF c 5 7 a d g λd g h=>kK d a h λi=>a2 a 97 [i] h g (λg h i=>ar (gi .not g) λg=>fc g (hW 2 d) h i λh i j=>fc g (dE a i 3 h) i j λh i j=>lU g (λb=>a2 a 123 [h] i j b f) i j λh i j=>fc g (db a i .eql 9 true h (.str [])) i j λh i j=>c9 (λg=>tb g 5 d i j a λh i j=>fc g (db a i .neq 9 true h (.str [])) i j λh i j=>hQ g h i j λh i j=>vC h 5 d i j a λi j k=>lx h (λb=>a2 a 97 [i] j k b f) j k λf i j=>eJ h (gi .not f) i j λf i j=>lU g (λa=>c9 (λb=>a b i j) λa=>a1 h (a f) (a .zF)) i j λf h i=>c9 (λf=>tb f 5 d h i a λg h i=>fc f (db a h .eql 9 true g (.str [])) h i λg h i=>hQ f g h i λg h i=>vC g 7 d h i a λa h i=>lU f (λb=>c9 (λa=>b a h i) λb=>a1 g (b a) (b .zF)) h i λa g h=>c9 (λa=>bt b λb=>a1 a (e .zF g h) (b (zH c 4 d 40 a) g h)) λb=>a1 f (b .zT) (b a)) λa=>a1 g (a .zT) (a f)) λa=>a1 g (a .zT) (a h)) f) λa=>a1 i (a (aa c 8 i) d g) (h (aa c 8 i) d g)) (zJ (cR [b]) 2 .zF 5 b 6 g 7 (.Z 0)) c d
def aoK:c7 X 98 [a0]=abP X a0:=Zk
def aoJ:cV X 98 1=true:=Zk
def abq:Za0:=λa b c d e f=>iT b (λb c d=>qx b λg=>a2 a 96 [.aY,g] c d (λc d f=>fa b λg=>iT g (λa b c=>cH (a 6) λa=>e a b c) λe h=>fy (λb c d e=>hK c 27 26 λf=>bt (λc d e=>xa (λa c d=>gR a 27 λe=>b (aa a 27 e) c d) c 25 27 a d λb f=>cH (c 6) λg=>h6 (j1 a d e 8 g f) d e λa d e=>b (zH c 8 f 6 a) d e) λa=>a1 f (a (aa c 28 f) d e) (h (aa c 28 f) d e)) (zJ b 6 c 25 g 26 e 27 (.Z 0)) d f) f) λe g=>fy (λb c d e=>hK c 11 10 λh=>bt (λc d e=>xa (λa c d=>gR a 11 λe=>b (aa a 11 e) c d) c 9 11 a d λa b=>qx c λg=>JJ b g λg=>JK g λh=>bt a λa=>a1 h (ar (some (E.iface 9 (.str [108,101,110,32,111,117,116,32,111,102,32,114,97,110,103,101]))) λa=>wP f a d e) (a (zI c 5 b 3 g 20 h) d e)) λa=>a1 h (a (aa c 12 h) d e) (g (aa c 12 h) d e)) (aa (zJ (cR [b]) 2 .aY 3 (.Z 0) 9 b 10 e) 11 (.Z 0)) c d
def an2:c7 X 76 [a0]=abq X a0:=Zk
def an1:cV X 76 1=true:=Zk
def abQ:Za0:=λa b c d e f=>a2 a 97 [b] c d (λa b c=>ar (gi .not a) λa=>e a b c) f
def aoM:c7 X 99 [a0]=abQ X a0:=Zk
def aoL:cV X 99 1=true:=Zk
def X6:Za0:=λa b c d e f=>ar (iK [.Z 0] d) λg=>gT a c d g.1 g.2 λc d g=>sa a d c 0 λd=>ar (iK [.Z 0] g) λh=>gT a d g h.1 h.2 λd g h=>sa a g d 0 λg=>ar (iK [.nilFunc] h) λi=>gT a g h i.1 i.2 λg h i=>ar (fT a h 1 g (.func (.func 124) [] [d,c,g])) λd=>ar (aU a d g) λg=>jA a g [b] d i (λ_ b d=>ar (aU a b c) λa=>e a b d) f
def akV:c7 X 100 [a0]=X6 X a0:=Zk
def akU:cV X 100 1=true:=Zk
def RP:Za1:=λa b c d e f g=>a2 a 77 [b,c] d e (λa b c=>DK a λa=>f a b c) g
def aaW:c7 X 49 [a0,bf]=RP X a0 bf:=Zk
def aaV:cV X 49 2=true:=Zk
def RR:Za1:=λa b c d e f g=>ar (db a d .eql 54 true b .cN) λh=>hQ h c d e λd e i=>fc h (bv .eql d (.Z 0)) e i λd e i=>c9 (λd=>bt (λb c d=>te b λe=>Bw e λe=>kc b 0 8 a c λ_ _ h=>iT h (λa b c=>gR a 5 λa=>f a b c) λf i=>fy (λb c d e=>hK c 21 20 λf=>bt (λc d e=>xa (λa c d=>gR a 21 λe=>b (aa a 21 e) c d) c 19 21 a d λb f=>fs c 5 1 λh i=>a2 a 74 [f,i] d e (λd e g=>ar (ts a e .max [3,3] [h,d]) λa=>b (zH c 7 f 5 a) e g) g) λa=>a1 f (a (aa c 22 f) d e) (i (aa c 22 f) d e)) (aa (zJ b 1 e 5 (.Z 0) 19 h 20 f) 21 (.Z 0)) c d) λa=>a1 d (f (.Z 0) e i) (a (zH (cR [b,c]) 4 (.Z 0) 13 d) e i)) λa=>a1 h (a .zT) (a d)
def abo:c7 X 74 [a0,bf]=RR X a0 bf:=Zk
def abn:cV X 74 2=true:=Zk
def X9:Za1:=λa b c d e f g=>a2 a 104 [b] d e (λd e h=>bt (λb c d=>sc b a c λe=>ar (bv .eql e (.Z 25)) λe=>bt (λ_ a b=>f .zT a b) λf=>a1 e (e7 (d+14) λd=>BC b 1 a c 0 λh=>kc b 0 2 a c λ_ _ i=>a2 a 79 [h,i] c d (λc d h=>hB c λc i=>bt f λf=>Bz i f λf j=>a1 f (e7 (h+6) λh=>kt b 1 a d λk=>kc b 0 1 a d λ_ _ l=>a2 a 80 [k, .Z 23,l] d h (λ_ a d=>j (zJ b 34 e 6 c 7 i 47 f) a d) g) (BC b 1 a d 1 λk=>ar (bv .geq c k) λk=>bt j λj=>a1 k (e7 (h+6) λh=>kt b 1 a d λl=>kc b 0 1 a d λ_ _ m=>a2 a 80 [l, .Z 25,m] d h (λ_ a d=>j (aa (zJ b 34 e 6 c 7 i 47 f) 56 k) a d) g) (j (aa (zJ b 34 e 6 c 7 i 47 f) 56 k) d h))) g) (f (aa b 34 e) c d)) λf=>a1 d (e7 (h+15) λi=>ar (aU a e c) λj=>gU j 2 a e λ_ j=>gU b 2 a e λ_ k=>Rl h 12 a e λe h=>a2 a 12 [j,k] h i (λh i j=>hB h λh k=>ar (fT a i 11 e h) λe=>Bz k f λf h=>a1 f (e7 (j+6) λi=>ar (aU a e c) λj=>gU b 1 a e λ_ l=>a2 a 80 [j, .Z 23,l] e i (λ_ a e=>h (zJ (cR [b,c]) 3 .zF 9 d 5 k 23 f) a e) g) (h (zJ (cR [b,c]) 3 .zF 9 d 5 k 23 f) e j)) g) (f (zH (cR [b,c]) 3 .zF 9 d) e h)) g
def ak1:c7 X 103 [a0,bf]=X9 X a0 bf:=Zk
def ak0:cV X 103 2=true:=Zk
def β:Za0:=λa b c d e _=>gU b 0 a c λ_ f=>ar (bv .eql f (.Z 2)) λf=>hQ f b c d λc d g=>w8 f c d g 0 a λc d g=>fc f (bv .eql c (.Z 6)) d g λc d g=>c9 (λc=>hQ c b d g λb d f=>w8 c b d f 0 a λa b d=>fc c (bv .eql a (.Z 24)) b d λa b d=>c9 (λa=>e a b d) λb=>a1 c (b .zT) (b a)) λa=>a1 f (a .zT) (a c)
def ak3:c7 X 104 [a0]=β X a0:=Zk
def ak2:cV X 104 1=true:=Zk
def abH:Za0:=λa b c d e _=>hC a c d b λc d f=>kK c a d λg=>bt (λb c d=>iU b 1 2 a c λ_ f=>ar (bv .geq f (.Z 1)) λf=>VM f (b 1) (λa=>hW 2 a) c d λb c d=>eJ f (aU a c b) c d λa b c=>eJ f (bv .leq a (.Z 64)) b c λa b c=>c9 (λa=>e a b c) λb=>a1 f (b a) (b .zF)) λh=>a1 g (e4 1 c a d λ_ b=>ar (gi .not b) λb=>vC b 2 c d f a λa c d=>eJ b (bv .eql a (.Z 1)) c d λa c d=>c9 (λa=>e a c d) λc=>a1 b (c a) (c .zF)) (h (zI (cR [b]) 1 c 2 .zF 4 g) d f)
def aou:c7 X 90 [a0]=abH X a0:=Zk
def aot:cV X 90 1=true:=Zk
def ο:Za0:=λ_ a b c d _=>ar (bv .lss a (.int .i32 97)) λe=>hQ e a b c λb c f=>fc e (bv .gtr b (.int .i32 122)) c f λb c f=>c9 (λb=>kn b a c f λc e f=>eJ b (bv .lss c (.int .i32 65)) e f λc e f=>kn b c e f λc e f=>hQ c a e f λe f g=>fc c (bv .gtr e (.int .i32 90)) f g λe f g=>lx b (λa=>c9 (λb=>a b f g) λa=>a1 c (a .zT) (a e)) f g λc e f=>c9 (λb=>kn b a e f λc e f=>eJ b (bv .lss c (.int .i32 48)) e f λc e f=>kn b c e f λc e f=>hQ c a e f λe f g=>fc c (bv .gtr e (.int .i32 57)) f g λe f g=>lx b (λa=>c9 (λb=>a b f g) λa=>a1 c (a .zT) (a e)) f g λc e f=>c9 (λb=>kn b a e f λa c e=>eJ b (bv .neq a (.int .i32 95)) c e λa c e=>c9 (λa=>d a c e) λc=>a1 b (c a) (c .zF)) λa=>a1 b (a c) (a .zF)) λa=>a1 b (a c) (a .zF)) λa=>a1 e (a .zT) (a b)
def als:c7 X 119 [a0]=ο X a0:=Zk
def alr:cV X 119 1=true:=Zk
def ρ:Za1:=λa b c d e f g=>a2 a 134 [b,c,.zT] d e f g
def alw:c7 X 120 [a0,bf]=ρ X a0 bf:=Zk
def alv:cV X 120 2=true:=Zk
def σ:Za1:=λa b c d e f g=>a2 a 135 [b,c] d e (λa b c=>DK a λa=>f a b c) g
def aly:c7 X 121 [a0,bf]=σ X a0 bf:=Zk
def alx:cV X 121 2=true:=Zk
def τ:Za0:=λa b c d e f=>ar (nz b) λg=>ar (bv .lss g (.Z 2)) λg=>bt (λb c d=>Bx b 1 λg=>a2 a 89 [g] c d (λc d g=>hB c λc h=>fa b λi=>ar (db a d .eql 9 true i (.str [98,111,111,108])) λi=>hQ i h d g λd g h=>fc i (db a g .eql 139 true d .nilIface) g h λd g h=>hQ i d g h λd g h=>oG d (b 0) g h λg h j=>oG d (b 0) h j λb h j=>eJ d (oF b (.Z 0)) h j λb h j=>eJ d (bv .eql b (.int .u8 105)) h j λb h j=>kn d c h j λc h j=>eJ d (fv [.zF, .zF, .Z 0] [(1,1,b),(2,1,c)]) h j λb c h=>lx d (λd=>a2 a 123 [b] c h d f) c h λb c f=>eJ d (db a c .eql 9 false g b) c f λa b c=>lU i (λe=>c9 (λa=>e a b c) λb=>a1 d (b a) (b .zF)) b c λa b c=>c9 (λa=>e a b c) λb=>a1 i (b .zT) (b a)) f) λa=>a1 g (e .zF c d) (a (zH (cR [b]) 2 .zF 7 g) c d)
def alA:c7 X 122 [a0]=τ X a0:=Zk
def alz:cV X 122 1=true:=Zk
def abN:Za1:=λa b c d e f g=>JK c λh=>bt (λb c d=>fs b 1 0 λe g=>ar (ts a c .cap [37] [g]) λg=>fa b λh=>ar (gr h) λh=>ar (bv .sub g h) λg=>ar (bv .sub e g) λe=>XX e λg=>bt (λa b c=>fa a λa=>f a b c) λf=>a1 g (fs b 0 0 λh i=>ar (ts a c .cap [37] [i]) λi=>ar (uv a c 8 h none (some i) none) λh=>h6 (H1 a c d .append [37,3] [h,e]) c d λc d h=>fa b λi=>ar (gr i) λi=>ar (uv a d 8 c none (some i) none) λa=>f (zI b 1 e 16 g 0 a) d h) (f (zH b 1 e 16 g) c d)) λa=>a1 h (ar (some (E.iface 9 (.str [99,97,110,110,111,116,32,98,101,32,110,101,103,97,116,105,118,101]))) λa=>wP g a d e) (a (zH (cR [b,c]) 4 .aY 6 h) d e)
def aoG:c7 X 96 [a0,bf]=abN X a0 bf:=Zk
def aoF:cV X 96 2=true:=Zk
def φ:Za3:=λa b c d e f g h i=>ar (aU a f c) λj=>DG j λj=>oR a f c j λf=>bt (λb c d=>kt b 1 a c λe=>Bw e λe=>te b λb=>oR a c b e λa=>h (.tuple []) a d) λh=>ar (db a f .eql 54 true b .cN) λj=>hQ j b f g λf g k=>lU j (λb=>a2 a 125 [f] g k b i) g k λf g k=>fc j (gi .not f) g k λf g k=>c9 (λf=>bt h λh=>a1 f (sa a g d 1 λa=>h (aa (cR [b,c,d,e]) 22 f) a k) (ar (aU a g c) λj=>ar (bv .gtr j (.Z 200)) λj=>bt h λh=>a1 j (ar (aU a g d) λi=>oi i 0 h λh i=>a1 h (sa a g d 22 λa=>i (zI (cR [b,c,d,e]) 22 f 30 j 34 h) a k) (i (zI (cR [b,c,d,e]) 22 f 30 j 34 h) g k)) (gU b 8 a g λ_ l=>GP l h λh m=>fy (λb c d e=>hK c 14 13 λf=>bt (λc d e=>xa (λa c d=>gR a 14 λe=>b (aa a 14 e) c d) c 12 14 a d λb f=>kt c 3 a d λg=>jA a g [f] d e (λ_ a d=>b (aa c 6 f) a d) i) λa=>a1 f (a (aa c 15 f) d e) (m (aa c 15 f) d e)) (aa (zJ (cR [b,c,d,e]) 22 f 30 j 12 l 13 h) 14 (.Z 0)) g k))) λa=>a1 j (a .zT) (a f)
def alE:c7 X 124 [a0,bf,cf,a3]=φ X a0 bf cf a3:=Zk
def alD:cV X 124 4=true:=Zk
def χ:Za0:=λa b c d e f=>e7 (d+12) λg=>ar (aU a c (.ptr 7 0)) λh=>gU b 0 a c λ_ i=>ar (n3 a c 3 (.agg [.Z 0, .zF, .zF, .zF]) h i true) λh=>hB h λh i=>ar (iK [.Z 0, .zF, .zF, .zF] (d+9)) λj=>mK a c (d+9) j.1 j.2 λc d=>ar (fT a d 4 c h) λd=>ar (gi .not i) λh=>bt (λb c d=>e7 (d+34) λd=>sc b a c λg=>ar (bv .lss g (.Z 1)) λg=>Rv g b c 0 a λc h=>yb g (bv .gtr c (.Z 26)) h λc h=>c9 (λc=>ag9 c (b 3) (λa=>hW 0 a) h λg h=>yb c (aU a h g) h λg h=>yb c (bv .geq g (.Z 0)) h λg h=>PY c g h λg h=>DF g b 0 h 8 a λh i=>kX g (gr h) i λh i=>VL g (b 3) (λa=>hW 0 a) i λi j=>kX g (aU a j i) j λi j=>kX g (bv .neq h i) j λh i=>PX c (λa=>c9 (λb=>a b i) λa=>a1 g (a h) (a .zF)) i λg h=>c9 (λc=>Rv c b h 8 a λg h=>lU c (λb=>a2 a 136 [g, .cN] h d b f) h d λd g h=>c9 (λc=>bt (λb c d=>e7 (d+33) λd=>iU b 3 1 a c λ_ g=>kc b 0 2 a c λ_ _ h=>ar (db a c .neq 9 true h (.str [])) λh=>ar (db a c .neq 4 false g h) λg=>ag9 g (b 3) (λa=>hW 1 a) c λc h=>yb g (aU a h c) h λc h=>PY g c h λc h=>DF c b 0 h 2 a λh i=>lx c (λb=>a2 a 97 [h] i d b f) i d λd h i=>kX c (gi .not d) h λd h=>PX g (λa=>c9 (λb=>a b h) λa=>a1 c (a d) (a .zF)) h λc d=>c9 (λc=>Rv c b d 3 a λd g=>PY c d g λd g=>DF d b 0 g 0 a λg h=>kX d (bv .neq g (.Z 6)) h λg h=>PX c (λa=>c9 (λb=>a b h) λa=>a1 d (a g) (a .zF)) h λd g=>c9 (λc=>bt (λb c d=>iU b 3 2 a c λ_ g=>ar (gi .not g) λg=>Rt g b c d a λc d h=>eJ g (fv [.zF, .zF, .Z 0] []) d h λd h i=>eJ g (db a h .neq 44 false c d) h i λc d h=>c9 (λc=>aha c (b 3) (λa=>hW 2 a) d h λd g h=>fc c (aU a g d) g h λd g h=>hQ c d g h λd g h=>Rt d b g h a λg h i=>lx d (λb=>a2 a 90 [g] h i b f) h i λg h i=>eJ d (gi .not g) h i λg h i=>lU c (λa=>c9 (λb=>a b h i) λa=>a1 d (a g) (a .zF)) h i λd g h=>c9 (λc=>aha c (b 3) (λa=>hW 3 a) g h λd g h=>fc c (aU a g d) g h λd g h=>fc c (gi .not d) g h λd g h=>hQ c d g h λd g h=>oG d (b 0) g h λg h i=>By d g h i 7 a λg h i=>eJ d (bv .neq g (.int .u64 0)) h i λg h i=>lU c (λa=>c9 (λb=>a b h i) λa=>a1 d (a g) (a .zF)) h i λd g h=>c9 (λc=>bt (λb c d=>sc b a c λg=>bt (λ_ a b=>e .zT a b) λh=>oi g 1 h λh i=>a1 h (fa b λb=>a2 a 137 [b] c d e f) (ar (bv .eql g (.Z 19)) λf=>bt (λb c d=>cH (b 128) λf=>bt i λg=>a1 f (kc b 0 7 a c λ_ _ a=>ar (bv .leq a (.int .u64 63)) λa=>e a c d) (cH (b 123) λf=>oi f 21 g λf g=>a1 f (kc b 0 8 a c λ_ _ b=>yM 1 b λb=>ar (aU a c b) λb=>gU b 0 a c λ_ f=>ar (bv .eql f (.Z 1)) λf=>hQ f b c d λc d g=>w8 f c d g 0 a λc d g=>fc f (bv .eql c (.Z 4)) d g λc d g=>hQ f c d g λc d g=>kn c b d g λd g h=>By c d g h 8 a λd g h=>eJ c (gr d) g h λd g h=>eJ c (bv .eql d (.Z 1)) g h λd g h=>lU f (λa=>c9 (λb=>a b g h) λa=>a1 c (a d) (a .zF)) g h λc d g=>hQ f c d g λc d g=>kn c b d g λd g h=>By c d g h 8 a λd g h=>eJ c (gd 1 d (.Z 0)) g h λd g h=>eJ c (aU a g d) g h λd g h=>eJ c (db a g .neq 54 true d .cN) g h λd g h=>lU f (λa=>c9 (λb=>a b g h) λa=>a1 c (a d) (a .zF)) g h λc d g=>hQ f c d g λc d g=>kn c b d g λb d g=>By c b d g 8 a λb d g=>eJ c (gd 1 b (.Z 0)) d g λb d g=>eJ c (aU a d b) d g λb d g=>By c b d g 0 a λa b d=>eJ c (bv .eql a (.Z 1)) b d λa b d=>lU f (λe=>c9 (λa=>e a b d) λb=>a1 c (b a) (b .zF)) b d λa b c=>c9 (λa=>e a b c) λb=>a1 f (b .zT) (b a)) (g (aa b 136 f) c d))) λa=>a1 f (a (zI b 123 g 124 h 128 f) c d) (ar (bv .eql g (.Z 20)) λe=>a (zJ b 123 g 124 h 128 f 128 e) c d))) λa=>a1 c (e .zF g h) (a (aa b 119 c) g h)) λa=>a1 c (a .zT) (a d)) λa=>a1 c (a .zT) (a d)) λa=>a1 g (a c) (a .zF)) λa=>a1 c (e .zF g i) (a (aa b 84 c) g i)) λa=>a1 c (a .zT) (a d)) λa=>a1 g (a .zT) (a c)) λa=>a1 c (e .zF g h) (a (aa b 51 c) g h)) λa=>a1 c (a .zT) (a d)) λa=>a1 c (a .zT) (a g)) λa=>a1 g (a .zT) (a c)) λe=>a1 h (ar (fv [.Z 0, .zF, .zF, .zF] [(0,1, .Z 2)]) λf=>ar (fT a d 4 c f) λa=>e (zJ (cR [b]) 2 .zF 3 c 4 i 16 h) a g) (e (zJ (cR [b]) 2 .zF 3 c 4 i 16 h) d g)
def alG:c7 X 125 [a0]=χ X a0:=Zk
def alF:cV X 125 1=true:=Zk
def RS:Za1:=λa b c d e f g=>iT b (λ_ a b=>f (.Z (-1)) a b) λh i=>fy (λb c d e=>hK c 8 7 λh=>bt (λc d e=>bt (λa c d=>gR a 8 λe=>b (aa a 8 e) c d) λb=>GK c 1 λh i j=>ar (aU a d j) λj=>jA a i [j] d e (λa d e=>bt b λb=>a1 a (f h d e) (b (zH c 5 h 16 a) d e)) g) λa=>a1 h (a (aa c 9 h) d e) (i (aa c 9 h) d e)) (zI (cR [b,c]) 4 (.Z 0) 7 h 8 (.Z 0)) d e
def abs:c7 X 77 [a0,bf]=RS X a0 bf:=Zk
def abr:cV X 77 2=true:=Zk
def aae:Za2:=λa b c d e f g h=>h6 (W4 a e f b) e f λe f i=>bt (λ_ a b=>g (.Z (-1)) a b) λj=>fy (λb c d e=>cH (c 10) λf=>HB (xK a ld true d e (lf f)) d e λd e f=>ar (oh 0 d) λi=>bt (λc d e=>bt b λb=>cH (c 11) λf=>ar (oh 1 f) λf=>cH (c 11) λi=>ar (oh 2 i) λi=>te c λj=>jA a j [i] d e (λd e h=>cH (c 2) λj=>BB a e 4 d j b λa b=>a1 a (g f e h) (b (zI c 7 f 8 i 19 a) e h)) h) λa=>a1 i (a (zH c 11 d 12 i) e f) (j (zH c 11 d 12 i) e f)) (zH (cR [b,c,d]) 6 (.Z 0) 10 e) f i
def alW:c7 X 134 [a0,bf,cf]=aae X a0 bf cf:=Zk
def alV:cV X 134 3=true:=Zk
def aaf:Za1:=λa b c d e f _=>iT b (λ_ a b=>f (.Z (-1)) a b) λg h=>fy (λb c d e=>hK c 8 7 λg=>bt (λc d e=>bt (λa c d=>gR a 8 λe=>b (aa a 8 e) c d) λb=>GK c 1 λg h i=>ar (aU a d i) λi=>BB a d 9 h i b λa b=>a1 a (f g d e) (b (zH c 5 g 16 a) d e)) λa=>a1 g (a (aa c 9 g) d e) (h (aa c 9 g) d e)) (zI (cR [b,c]) 4 (.Z 0) 7 g 8 (.Z 0)) d e
def alY:c7 X 135 [a0,bf]=aaf X a0 bf:=Zk
def alX:cV X 135 2=true:=Zk
def aag:Za1:=λa b c d e f g=>a2 a 142 [b,c] d e (λa b c=>DK a λa=>f a b c) g
def al0:c7 X 136 [a0,bf]=aag X a0 bf:=Zk
def alZ:cV X 136 2=true:=Zk
def aah:Za0:=λa b c d e f=>lK b 4 λg=>e4 2 g a c λ_ g=>lK b 4 λh=>e4 1 h a c λ_ h=>bt (λb c d=>sc b a c λg=>ar (bv .eql g (.Z 1)) λg=>Rt g b c d a λc d h=>lx g (λb=>a2 a 90 [c] d h b f) d h λc d f=>c9 (λc=>oG c (b 3) d f λd f g=>eJ c (bv .eql d (.Z 64)) f g λd f g=>kn c d f g λd f g=>vg d (b 0) f g λf g h=>w8 d f g h 7 a λa f g=>vg d (b 3) f g λb f g=>fc d (bv .shr a b) f g λa b f=>fc d (bv .eql a (.int .u64 0)) b f λa b f=>lx c (λc=>c9 (λa=>c a b f) λb=>a1 d (b .zT) (b a)) b f λa b d=>c9 (λa=>e a b d) λb=>a1 c (b a) (b .zF)) λa=>a1 g (a c) (a .zF)) λa=>a1 h (Bw g λe=>a (zJ (cR [b]) 2 .zF 3 g 13 h 3 e) c d) (a (zI (cR [b]) 2 .zF 3 g 13 h) c d)
def al2:c7 X 137 [a0]=aah X a0:=Zk
def al1:cV X 137 1=true:=Zk
def aam:Za1:=λa b c d e f _=>iT b (λ_ a b=>f (.Z (-1)) a b) λg h=>fy (λb c d e=>hK c 8 7 λg=>bt (λc d e=>bt (λa c d=>gR a 8 λe=>b (aa a 8 e) c d) λb=>GK c 1 λg h i=>ar (aU a d i) λi=>BB a d 54 h i b λa b=>a1 a (f g d e) (b (zH c 5 g 16 a) d e)) λa=>a1 g (a (aa c 9 g) d e) (h (aa c 9 g) d e)) (zI (cR [b,c]) 4 (.Z 0) 7 g 8 (.Z 0)) d e
def amc:c7 X 142 [a0,bf]=aam X a0 bf:=Zk
def amb:cV X 142 2=true:=Zk
def ajb(a:aN)(b:bK):fJ:=λc d e=>n9 a [.tmp 2] b c c.bj d e
def aiB(a:aN)(b c:bK):tm:=λd e f g=>wO a [.tmp 2] b c d e d.bj f g
def X5:Za0:=λa b c d e f=>hC a c d b λc d g=>gT a d g (.map g) (.map [] 0) λd g h=>ar (fv [.mL, .aY] [(0,1,d)]) λd=>hC a g h d λd g h=>ar (iK [.cN] h) λi=>qw a g h i.1 i.2 1 d λd g h=>ar (dE a h 6 c) λi=>a2 a 32 [i] h g (λg h i=>bt (λb c d=>iU b 1 5 a c λ_ f=>iT f (λb c d=>kt b 3 a c λf=>ajb a e (aa b 2 f) c d) λe g=>fy (λb c d e=>hK c 56 55 λf=>bt (λc d e=>bt (λa c d=>gR a 56 λe=>b (aa a 56 e) c d) λb=>GI c 56 54 4 λf g=>GH a d g e λd e g=>kK d a g λh=>GP h b λb i=>fy (λb c d e=>hK c 64 63 λf=>bt (λc d e=>bt (λa c d=>gR a 64 λe=>b (aa a 64 e) c d) λb=>GI c 64 62 1 λf g=>ar (aU a d g) λg=>BC c 3 a d 0 λh=>Rm a d h g λh=>Rp h e a d λd e h i=>vC d 9 e i h a λh i j=>eJ d (bv .lss h (.Z 0)) i j λh i j=>c9 (λh=>bt b λb=>a1 h (cH (c 8) λk=>sb 9 e a i k λi=>sb 10 e a i f λi=>e7 (j+7) λj=>BC c 3 a i 0 λk=>ar (dE a i 11 e) λl=>h6 (uh a i j 9 k g l) i j λ_ a i=>b (aa (zJ c 10 f 11 g 12 e 13 d) 83 h) a i) (b (aa (zJ c 10 f 11 g 12 e 13 d) 83 h) i j)) λa=>a1 d (a h) (a .zF)) λa=>a1 f (a (aa c 65 f) d e) (i (aa c 65 f) d e)) (aa (zJ c 9 d 8 f 62 h 63 b) 64 (.Z 0)) g e) λa=>a1 f (a (aa c 57 f) d e) (g (aa c 57 f) d e)) (zI b 54 f 55 e 56 (.Z 0)) c d) λj=>F0 a 97 g [19,20] (us a (λ_ _ b _ _ c d e=>cH (c 19) λf=>Nd e a d c 20 λa d e=>b (zH c 4 f 5 a) e d) λ_ _ b _ _ c d e=>bt b λb=>e7 (e+13) λf=>BC c 3 a d 0 λg=>iU c 5 0 a d λ_ h=>Rm a d g h λg=>hB g λg h=>Rl e 10 a d λd e=>ar (fT a e 11 d g) λd=>Bz h b λb e=>a1 b (e7 (f+10) λf=>BC c 3 a d 0 λg=>iU c 5 0 a d λ_ i=>fs c 4 5 λj k=>ar (dE a d 8 k) λk=>ar (fv [.Z 0, .str [], .Z 0, .zF, .zF, .Z 0, .str [], .Z 0, .zF, .Z 0, .Z 0] [(0,1,j),(1,8,k),(9,1, .Z (-1)),(10,1, .Z (-1))]) λj=>h6 (uh a d f 9 g i j) d f λ_ d f=>e7 (f+12) λg=>kt c 3 a d λi=>BC c 3 a d 1 λj=>iU c 5 0 a d λ_ k=>ar (hI 1 [.str []] [(0,1,k)] (f+7)) λk=>mK a d (f+7) k.1 k.2 λd f=>h6 (j1 a f g 1 j d) f g λd f g=>lK i 1 λj=>kt c 3 a f λk=>gO k (some i) (oR a f j d λa=>e (zH c 7 h 32 b) a g)) (e (zH c 7 h 32 b) d f)) j (El 0 j λ_ _ _ _=>False) (ajb a e) (aiB a e f) (zJ (cR [b]) 1 c 2 .cN 3 d 18 g) h i) (aiB a e f (ib [17,18] (zI (cR [b]) 1 c 2 .cN 3 d)))
def ald:Cd X 10 [a0] h j ai ax=X5 X a0 h j ai ax:=Zk
def alc:cV X 10 1=true:=Zk
def π:Za1:=λa b c d e f _=>ar (iK [.Z 0, .str [], .Z 0, .zF, .zF, .Z 0, .str [], .Z 0, .zF, .Z 0, .Z 0] e) λg=>gT a d e g.1 g.2 λd e g=>ar (db a e .eql 41 true b .cN) λh=>bt (λb c d=>sc b a c λe=>te b λg=>Rm a c e g λe=>Rp e d a c λc d e g=>ar (dE a g 11 d) λd=>ll b 4 a g 11 d λa b=>f (.tuple [b,c]) a e) λi=>a1 h (ar (fv [.Z 0, .str [], .Z 0, .zF, .zF, .Z 0, .str [], .Z 0, .zF, .Z 0, .Z 0] []) λb=>uD a e 11 d b λa b=>f (.tuple [b, .zF]) a g) (i (zI (cR [b,c]) 4 d 5 .zF 9 h) e g)
def alO:c7 X 12 [a0,bf]=π X a0 bf:=Zk
def alN:cV X 12 2=true:=Zk
def υ:Za0:=λa b c d e f=>hC a c d b λc d g=>bt (λb c d=>iU b 1 2 a c λ_ b=>a2 a 116 [b] c d (λb c d=>ar (db a c .add 9 true (.str [117]) b) λa=>e a c d) f) λh=>td a d 3 c 90 g f λd g i=>Bz d h λd h=>a1 d (e (.str []) g i) (kK c a g λj=>bt h λh=>a1 j (e (.str [98,111,111,108]) g i) (e4 1 c a g λ_ k=>bt h λh=>a1 k (e4 2 c a g λ_ b=>a2 a 116 [b] g i (λb c d=>ar (db a c .add 9 true (.str [105]) b) λa=>e a c d) f) (h (aa (zJ (cR [b]) 1 c 2 (.str []) 3 d 7 j) 10 k) g i)))
def alC:c7 X 123 [a0]=υ X a0:=Zk
def alB:cV X 123 1=true:=Zk
end
noncomputable section
def gv:Nat->bp->Nat
 |0,_=>0
 |u+1,D=>D.args.foldl (λa F=>max a (gv u F)) 0+1
def avn:∀u D,gv u D<=u:=by
 intro u
 induction u with
 |zero=>intro D;simp[gv]
 |succ u ah=>
  intro D
  have:∀(k:List bp) a,a<=u->k.foldl (λa F=>max a (gv u F)) a<=u:=by
   intro k
   induction k with
   |nil=>intro a gL;exact gL
   |cons F k LZ=>intro a gL;exact LZ _ (Nat.max_le.2 ⟨gL,ah F⟩)
  have:=this D.args 0 Zo
  show _+1<=u+1
  omega
def azD{C:aN}{h:S ag}(F b:Nat):ts C h .max [3,3] [.Z (F:Int), .Z (b:Int)]=some (.Z ((max F b:Nat):Int)):=by
 show pJ true (.Z (F:Int)) [.Z (b:Int)]=_
 simp only[pJ,fw,vf,ZG]
 congr 2
 split<;>simp_all<;>omega
def Jd{X:ca}{h:S ag}(b:Nat):db X h .eql 54 true (.ptr b 0) .cN=some .zF:=Zk
section
variable{X:ca}{h R aQ aP:S ag}{j an aV aX aM bU:Nat}{aZ:List Tok}{i:Nat}
def au6(aw:dk X):∀(u:Nat),u<=1000->∀h j P D v,(o X).a8<=j->cn X h P D v->(∀e,P e->e<j)->
 a2 X 74 [v, .Z (u:Int)] h j (λac R an=>ac= .Z (gv u D:Nat)/\br X h j R an) zL:=by
 intro u
 induction u with
 |zero=>
  intro _ h j P D v aF bA bs
  refine zG aw (abn X) ?_
  rw[abo]
  unfold RR
  obtain⟨b,rfl,aj,_⟩:=bA.ptr
  have f5:=bs b aj
  refine cS @Jd @Int.natCast_zero ⟨?_⟩
  exact⟨rfl,dH⟩
 |succ u ah=>
  intro aH h j P D v aF bA bs
  refine zG aw (abn X) ?_
  rw[abo]
  unfold RR
  obtain⟨b,aO,ce,bk,rfl,aj,a0,bf,cf,a3,a4,a5,jK,kx,jf,cG,has⟩:=bA.open
  have f5:=bs b aj
  have d2:=cG.len
  have qW:=has.len
  have jx:((u+1:Nat):Int)=(u:Int)+1:=Zo
  have d:decide (((u+1:Nat):Int)=0)=false:=by simp;omega
  have bC:bv .sub (.Z ((u+1:Nat):Int)) (.Z 1)=some (.Z (u:Int)):=by rw[x7 Zo Zo];congr 2;omega
  have bn:=cG.many
  rw[Zi,qW]at bn
  rw[Zi,qW]at d2
  refine f3 @Jd @d @bC @jf @d2 ⟨?_⟩
  refine fE (λm I R aS=>∃(V:Nat) (a:Nat),I.g 1=some (.Z (u:Int))/\I.g 5=some (.Z (a:Int))/\I.g 19=some aO/\I.g 20=some (.Z (D.args.length:Int))/\I.g 21=some (.Z (V:Int))/\V+m=D.args.length/\a<=u/\br X h j R aS/\gv (u+1) D=(D.args.drop V).foldl (λa F=>max a (gv u F)) a+1)
   D.args.length ⟨0,0,bo,fY,bo,bo,fY,Zo,Zo,br.refl _ _,by simp[gv]⟩ ?_
  rintro m I aP aX ⟨V,a,t1,t5,s4,qp,r4,bF,gL,bI,bV⟩
  have fN:=bI.le
  have cu:=zE V
  have fL:=zE a
  cases m with
  |zero=>
   have cM:=zA V D.args.length
   rw[ZC Zo]at bV
   simp only[List.foldl_nil]at bV
   refine f3 @r4 @qp @t5 @cM @fL ⟨?_⟩
   exact⟨by first|rw[bV]|(simp only[bV];rfl),bI⟩
  |succ m=>
   have cM:=zB V D.args.length
   obtain⟨F,aE⟩:=zC D.args V
   obtain⟨v,bD,aux⟩:=has.get V F aE
   obtain⟨bP,b2,cI⟩:=(cG.ab λe z=>bI.ab e (bs e z)).one bD
   refine eh @r4 @qp @t5 @s4 @t1 @cM (Za @bP @b2) ⟨?_⟩
   refine(ah Zo aP aX P F v Zo (aux.ab λe z=>bI.ab e (bs e z)) (λe z=>zz (bs e z))).Zm ?_
   rintro w4 a6 bz ⟨rfl,cp⟩
   have jm:=cp.le
   have j5:ts X a6 .max [3,3] [.Z (a:Int), .Z ((gv u F:Nat):Int)]=some (.Z ((max a (gv u F):Nat):Int)):=azD _ _
   refine er @j5 @r4 @cu ⟨?_⟩
   refine⟨m,Zo,V+1,max a (gv u F),aW t1,bo,aW s4,aW qp,bo,Zo,Nat.max_le.2 ⟨gL,avn u F⟩,bI.trans cp, ?_⟩
   have aJ:D.args.drop V=F::D.args.drop (V+1):=by
    obtain⟨af,z⟩:=Zb.1 aE
    rw[Zr af,z]
   rw[aJ,ZH]at bV
   exact bV
end
def sQ:List eZ->Option Int
 |[]=>none
 |ak::k=>if 200<gv 201 ak.right then some ak.at_ else sQ k
def pm:List Go.aL.Node->Option (Int×Int)
 |[]=>none
 |g::k=>if 256<g.d8.length+g.out.length+g.loc.length\/4096<g.eqs.length then some (30,g.at_)else match sQ g.eqs with
  |some F=>some (22,F)
  |none=>pm k
def n2(am:List Go.aL.Node):Option (Int×Int):=match am[64]? with
 |some g=>some (30,g.at_)
 |none=>pm am
section
variable{X:ca}{h R aQ aP:S ag}{j an aV aX aM bU:Nat}{aZ:List Tok}{i:Nat}
def au5(aw:dk X){P:Nat->Prop}{D:bp}{v:E}(aF:(o X).a8<=j)(bA:cn X h P D v)(bs:∀e,P e->e<j):
 a2 X 46 [v] h j (λac R an=>ac= .Z (gv 201 D:Nat)/\br X h j R an) zL:=by
 refine zG aw (am3 X) ?_
 rw[am4]
 unfold aaS
 exact(au6 aw 201 Zo h j P D v aF bA bs)
def azh(aw:dk X){P:Nat->Prop}{am:List Go.aL.Node}{v:E}(aF:(o X).a8<=j)(bV:oX X h P am v)(bs:∀e,P e->e<j):
 a2 X 25 [v] h j (λac R an=>n2 am=none/\ac= .tuple []/\br X h j R an) (λac R an=>∃u F,n2 am=some (u,F)/\ac=pQ u F/\br X h j R an):=by
 refine zG aw (amv X) ?_
 rw[amw]
 unfold aaz
 obtain⟨b,aO,ce,be,rfl,mY,a0,cG,wn⟩:=bV
 have xT:=wn.wide
 have d2:=cG.len
 have h1:=cG.many
 rw[xT.1]at d2 h1
 by_cases HO:64<am.length
 ·obtain⟨g,aft⟩:∃g,am[64]? =some g:=⟨_,Ze HO⟩
  obtain⟨row,fD,jR⟩:=wn.get 64 g aft
  have dA:=cG.fx 64 Zo
  obtain⟨cQ,c4,Xk,eo,bQ,cl,cU,fe,MK,rfl,_⟩:=jR
  have aA:=cG.cell 64 _ 1 _ fD rfl
  have d:decide ((64:Int)<(am.length:Int))=true:=by simp;omega
  have avv:gd 6 aO (.Z 64)=some (.ptr ce (64*6)):=dA
  refine f3 @a0 @d2 @d @avv @aA ⟨?_⟩
  refine⟨⟨30,g.at_,by simp[n2,aft],rfl,br.refl _ _⟩⟩
 ·have az:n2 am=pm am:=by simp[n2,Z6 (by omega:am.length<=64)]
  have d:decide ((64:Int)<(am.length:Int))=false:=by simp;omega
  rw[az]
  refine er @a0 @d2 @d ⟨?_⟩
  refine fE (λm I R aS=>∃(V:Nat),I.g 24=some aO/\I.g 25=some (.Z (am.length:Int))/\I.g 26=some (.Z (V:Int))/\V+m=am.length/\br X h j R aS/\pm am=pm (am.drop V))
   am.length ⟨0,bo,bo,fY,Zo,br.refl _ _,rfl⟩ ?_
  rintro m I aP aX ⟨V,vu,na,l1,bF,bI,EQ⟩
  have fN:=bI.le
  have cu:=zE V
  cases m with
  |zero=>
   have cM:=zA V am.length
   rw[ZC Zo]at EQ
   refine er @l1 @na @cM ⟨?_⟩
   exact⟨EQ,rfl,bI⟩
  |succ m=>
   have cM:=zB V am.length
   obtain⟨g,nZ⟩:=zC am V
   have aJ:am.drop V=g::am.drop (V+1):=by
    obtain⟨af,z⟩:=Zb.1 nZ
    rw[Zr af,z]
   rw[aJ]at EQ
   obtain⟨row,fD,jR⟩:=wn.get V g nZ
   have dA:=cG.fx V Zo
   have iB:=(cG.ab λe z=>bI.ab e (bs e z)).row Zd fD
   have awb:=jR.ab (a7:=P) (λe z=>bI.ab e (bs e z)) (λ_ a=>a)
   have p2:=jR.iF
   obtain⟨cQ,c4,Xk,eo,bQ,cl,cU,fe,MK,rfl,cE,cA,dT,fG,m8⟩:=awb
   have en:=cE.len;have cZ:=cA.len;have eW:=dT.len;have hn:=fG.len
   have es:=cE.many;have fk:=cA.many;have jT:=dT.many;have Wq:=fG.many
   have akb:=m8.wide
   rw[Zi]at en cZ eW es fk jT
   rw[akb.1]at hn Wq
   have fL:bv .add (.Z (g.d8.length:Int)) (.Z (g.out.length:Int))=some (.Z ((g.d8.length+g.out.length:Nat):Int)):=by rw[eI Zo Zo];rfl
   have j5:bv .add (.Z ((g.d8.length+g.out.length:Nat):Int)) (.Z (g.loc.length:Int))=some (.Z ((g.d8.length+g.out.length+g.loc.length:Nat):Int)):=by rw[eI Zo Zo];rfl
   refine ic @l1 @na @vu @cM @dA @iB ⟨?_⟩
   refine gm (jG (u:=6) (b:=aX) (T:=0) (n:=6) (c:=S.ofList [.str [], .Z 0, .aY, .aY, .aY, .aY] 0 .nil) (bh Zo) Zo rfl Zd Zd p2) ?_
   generalize eQ:bm X _ aX _=a6
   have xC:W X a6 aX=some (.cells (d7 (S.ofList [.str [], .Z 0, .aY, .aY, .aY, .aY] 0 .nil) 0 [.str g.name, .Z g.at_,cQ,c4,Xk,eo]) 6 .own):=by rw[<-eQ];exact bh Zo
   have cp:br X h j a6 (aX+1):=bI.trans (by rw[<-eQ];exact dH)
   have cX:∀e,P e->W X a6 e=W X h e:=λe z=>cp.ab e (bs e z)
   clear eQ
   have c5:aU X a6 (.ptr aX 1)=some (.Z g.at_):=by rw[bG xC];rfl
   have dC:aU X a6 (.ptr aX 2)=some cQ:=by rw[bG xC];rfl
   have ge:aU X a6 (.ptr aX 3)=some c4:=by rw[bG xC];rfl
   have ou:aU X a6 (.ptr aX 4)=some Xk:=by rw[bG xC];rfl
   have ke:aU X a6 (.ptr aX 5)=some eo:=by rw[bG xC];rfl
   by_cases atQ:256<g.d8.length+g.out.length+g.loc.length
   ·have e2:decide ((256:Int)<((g.d8.length+g.out.length+g.loc.length:Nat):Int))=true:=by simp;omega
    refine eh @c5 @dC @ge @ou @ke @en (Za @cZ (Za @eW (Za @hn (Za @fL (Za @j5 @e2))))) ⟨?_⟩
    exact⟨⟨30,g.at_,by rw[EQ,pm,Zp (.inl atQ)],rfl,cp⟩⟩
   have e2:decide ((256:Int)<((g.d8.length+g.out.length+g.loc.length:Nat):Int))=false:=by simp;omega
   by_cases atR:4096<g.eqs.length
   ·have jh:decide ((4096:Int)<(g.eqs.length:Int))=true:=by simp;omega
    refine eh @c5 @dC @ge @ou @ke @en (Za @cZ (Za @eW (Za @hn (Za @fL (Za @j5 (Za @e2 @jh)))))) ⟨?_⟩
    exact⟨⟨30,g.at_,by rw[EQ,pm,Zp (.inr atR)],rfl,cp⟩⟩
   have jh:decide ((4096:Int)<(g.eqs.length:Int))=false:=by simp;omega
   refine eh @c5 @dC @ge @ou @ke @en (Za @cZ (Za @eW (Za @hn (Za @fL (Za @j5 (Za @e2 (Za @jh (Za @vu (Za @na @l1))))))))) ⟨?_⟩
   have aj:pm am=(match sQ g.eqs with|some F=>some (22,F)|none=>pm (am.drop (V+1))):=by rw[EQ,pm,Zg Zo]
   have PB:=fG.ab (R:=h) (λe z=>(bI.ab e (bs e z)).symm)
   have aBQ:=m8.ab (R:=h) (a7:=P) (λe z=>(bI.ab e (bs e z)).symm) (λ_ a=>a)
   refine fE (λjT I R aS=>∃(i:Nat),I.g 24=some aO/\I.g 25=some (.Z (am.length:Int))/\I.g 26=some (.Z (V:Int))/\I.g 53=some eo/\I.g 54=some (.Z (g.eqs.length:Int))/\I.g 55=some (.Z (i:Int))/\i+jT=g.eqs.length/\br X h j R aS/\sQ g.eqs=sQ (g.eqs.drop i))
    g.eqs.length ⟨0,aW vu,aW na,aW l1,bo,bo,fY,Zo,cp,rfl⟩ ?_
   clear vu na l1 c5 dC ge ou ke xC cX cp
   rintro jT I a6 bz ⟨i,vu,na,l1,q7,k2,q8,aG,cp,EP⟩
   have jm:=cp.le
   cases jT with
   |zero=>
    have gt:=zA i g.eqs.length
    rw[ZC Zo]at EP
    refine f3 @q8 @k2 @gt @l1 @cu ⟨?_⟩
    refine⟨m,Zo,V+1,aW vu,aW na,bo,Zo,cp, ?_⟩
    rw[aj,EP];rfl
   |succ jT=>
    have gt:=zB i g.eqs.length
    have qI:=zE i
    obtain⟨ak,x1⟩:=zC g.eqs i
    have auW:g.eqs.drop i=ak::g.eqs.drop (i+1):=by
     obtain⟨af,z⟩:=Zb.1 x1
     rw[Zr af,z]
    rw[auW,sQ]at EP
    obtain⟨row,fD,wA⟩:=aBQ.get i ak x1
    have avx:=fG.fx i (by rw[akb.1];omega)
    have LG:=(PB.ab λe z=>cp.ab e (bs e z)).row Zd fD
    obtain⟨apq,J4,l5,pK,il,rfl,_,_,Vq,ls⟩:=wA
    refine ic @q8 @k2 @q7 @gt @avx @LG ⟨?_⟩
    refine gm (jG (u:=4) (b:=bz) (T:=0) (n:=4) (c:=S.ofList [.aY, .aY, .Z 0, .cN] 0 .nil) (bh Zo) Zo rfl Zd Zd ls) ?_
    generalize e5:bm X _ bz _=bH
    have KM:W X bH bz=some (.cells (d7 (S.ofList [.aY, .aY, .Z 0, .cN] 0 .nil) 0 [apq,J4, .Z ak.at_,il]) 4 .own):=by rw[<-e5];exact bh Zo
    have cW:br X a6 bz bH (bz+1):=by rw[<-e5];exact dH
    have HP:=cp.trans cW
    clear e5
    have ge:aU X bH (.ptr bz 3)=some il:=by rw[bG KM];rfl
    refine cj @ge ⟨?_⟩
    refine(au5 aw Zo (Vq.ab λe z=>HP.ab e (bs e z)) (λe z=>zz (bs e z))).Zm ?_
    rintro vx bN ci ⟨rfl,dW⟩
    have iP:=dW.le
    have dC:aU X bN (.ptr bz 2)=some (.Z ak.at_):=by rw[bG (by rw[dW.ab _ Zo];exact KM)];rfl
    by_cases gL:200<gv 201 ak.right
    ·have ht:decide ((200:Int)<((gv 201 ak.right:Nat):Int))=true:=by simp;omega
     rw[Zp gL]at EP
     refine cS @ht @dC ⟨?_⟩
     exact⟨⟨22,ak.at_,by rw[aj,EP],rfl,HP.trans dW⟩⟩
    ·have ht:decide ((200:Int)<((gv 201 ak.right:Nat):Int))=false:=by simp;omega
     rw[Zg gL]at EP
     refine er @ht @q8 @qI ⟨?_⟩
     exact⟨jT,Zo,i+1,aW vu,aW na,aW l1,aW q7,aW k2,bo,Zo,HP.trans dW,EP⟩
end
end
noncomputable section
variable (X : ca) (h : S ag) (j : Nat) (ai ax : bK) (a0 bf cf a3 a4 a5 jK kx jf : E)
def aaw:Za0:=λa b c d e f=>BA d a c λc d g=>ar (gr b) λh=>ar (bv .gtr h (.Z 65536)) λh=>bt (λb c d=>fa b λg=>ar (B5 a c g) λg=>ar (fv [.str [], .Z 0] [(0,1,g)]) λg=>hC a c d g λc d g=>a2 a 38 [c] d g (λ_ d g=>bt (λb c d=>fs b 5 4 λf g=>gU g 1 a c λ_ g=>Rq 7 2 g λg=>Rr g d a c f λc d f=>DI λg=>ll b 3 a d 2 g λa b=>e (.tuple [c,b]) a f) λh=>fy (λb c d g=>yN g 10 c 4 1 a d 0 λg i j=>ar (nz j) λj=>ar (bv .lss i j) λi=>bt (λc d g=>bt (λc d e=>w9 c 4 a 38 d e f λ_ a d=>b c a d) λb=>oS c λh=>yN g 10 c 4 0 a d 1 λg i j=>ar (oF i j) λi=>bt (λc d g=>cH (c 6) λh=>jA a h [] d g (λd f g=>uE d g a f λd f g h=>ar (gi .not d) λi=>bt (λc d e=>kc c 4 1 a d λ_ _ f=>cH (c 8) λg=>sb 2 g a d f λd=>e7 (e+11) λe=>kc c 4 1 a d λf _ g=>iU c 8 1 a d λ_ h=>ar (nz h) λh=>ar (bv .add g h) λg=>rg f 1 a d g λd=>fs c 5 8 λf g=>ar (dE a d 7 g) λg=>Rr g e a d f λa d e=>b (aa c 5 a) d e) λb=>a1 i (e7 (g+7) λb=>kc c 4 1 a h λ_ _ d=>JG 20 d λd=>ll c 3 a h 2 d λa c=>e (.tuple [.aY,c]) a b) (b (zI c 8 f 9 d 59 i) h g)) f) λb=>a2 a 40 [i] d g (λd e g=>bt b λb=>a1 d (oS c λa=>b (zJ c 6 (.func (.func 39) [h] []) 7 i 43 d 6 (.func (.func 41) [a] [])) e g) (a2 a 42 [i] e g (λa e f=>bt b λb=>a1 a (oS c λg=>b (aa (zJ c 6 (.func (.func 39) [h] []) 7 i 43 d 48 a) 6 (.func (.func 43) [g] [])) e f) (b (zJ c 6 (.func (.func 39) [h] []) 7 i 43 d 48 a) e f)) f)) f) λa=>a1 i (a (aa c 29 i) d g) (h (aa c 29 i) d g)) (zH b 4 c 5 .aY) d g) f) λf=>a1 h (ar (fv [.Z 0, .Z 0] [(0,1, .Z 3)]) λb=>uD a d 2 c b λa b=>e (.tuple [.aY,b]) a g) (f (zI (cR [b]) 2 .aY 3 c 12 h) d g)
def ams:c7 X 22 [a0]=aaw X a0:=Zk
def amr:cV X 22 1=true:=Zk
def aaJ:Za0:=λa b c d e f=>bt (λ_ a b=>e (.tuple []) a b) λg=>fy (λb c d h=>yN h 10 c 0 1 a d 0 λh i j=>ar (nz j) λj=>ar (bv .lss i j) λi=>bt (λc d g=>bt b λb=>bt b λb=>yN g 12 c 0 0 a d 1 λg h i=>ar (oF h i) λh=>a2 a 60 [.str [32,9,10,13],h] d g (λd g h=>DK d λd=>bt b λb=>a1 d (Ni c a g λa=>b (aa c 12 d) a h) (yN h 11 c 0 0 a g 1 λh i j=>ar (nF i (some j) none) λi=>a2 a 61 [i, .str [45,45]] g h (λg h i=>bt b λb=>a1 g (e7 (i+15) λe=>kc c 0 1 a h λi j k=>fs c 0 0 λl m=>gU m 1 a h λ_ m=>a2 a 62 [l,m, .func (.func 63) [] []] h e (λe f h=>ar (nz e) λe=>ar (bv .add k e) λe=>lK i 1 λi=>ar (aU a f j) λj=>gO j (some k) (oR a f i e λa=>b (zH c 12 d 31 g) a h)) f) (e (.tuple []) h i)) f)) f) λa=>a1 i (a (aa c 11 i) d h) (g (aa c 11 i) d h)) (cR [b]) c d
def amO:c7 X 38 [a0]=aaJ X a0:=Zk
def amN:cV X 38 1=true:=Zk
def aaK:Za0:=λa b c d e f=>yK d a c λc d g=>ar (dE a d 17 (.ptr 0 0)) λh=>bt (λb c d=>Rs λf=>ll b 2 a c 7 f λa b=>e (.tuple [b, .zF]) a d) λi=>fy (λb c d g=>GJ c 7 17 λh=>bt (λc d g=>bt (λa c d=>gR a 7 λe=>b (aa a 7 e) c d) λb=>fs c 6 7 λh i=>ar (rQ false 17 1 h i) λh=>yN g 11 c 0 0 a d 1 λg i j=>ar (nF i (some j) none) λi=>a2 a 61 [i,h] d g (λd f g=>bt b λb=>a1 d (Rq 6 1 h λb=>ll c 2 a f 7 b λa b=>e (.tuple [b, .zT]) a g) (b (zH c 5 h 20 d) f g)) f) λa=>a1 h (a (aa c 8 h) d g) (i (aa c 8 h) d g)) (zJ (cR [b]) 2 c 3 .zF 6 h 7 (.Z 0)) d g
def amQ:c7 X 39 [a0]=aaK X a0:=Zk
def amP:cV X 39 1=true:=Zk
def aaM:Za0:=λ_ a b c d _=>ar (bv .geq a (.int .u8 48)) λe=>kn e a b c λa b c=>eJ e (bv .leq a (.int .u8 57)) b c λa b c=>c9 (λa=>d a b c) λb=>a1 e (b a) (b .zF)
def amS:c7 X 40 [a0]=aaM X a0:=Zk
def amR:cV X 40 1=true:=Zk
def aaN:Za0:=λa b c d e f=>yK d a c λc d g=>gU b 1 a d λ_ h=>a2 a 62 [b,h, .func (.func 40) [] []] d g (λd g h=>a2 a 64 [d, .Z 10, .Z 64] g h (λg h i=>hB g λg j=>ar (db a h .neq 139 true j .nilIface) λk=>hQ k d h i λh i l=>fc k (nz h) i l λh i l=>fc k (bv .gtr h (.Z 20)) i l λh i l=>c9 (λh=>bt (λb c d=>fs b 0 0 λg h=>gU h 1 a c λ_ h=>oS b λi=>ar (nz i) λi=>ar (bv .add h i) λh=>a2 a 62 [g,h, .func (.func 65) [] []] c d (λc d g=>GO a d c λh=>bt (λb c d=>w9 b 7 a 66 c d f λc d g=>hB c λc h=>JH g λi=>qw a d g i.1 i.2 3 c λc d g=>e7 (d+19) λd=>fs b 4 7 λi j=>ar (db a g .add 9 false i j) λk=>pB b λl=>k3 a g c λm=>ar (fv [.Z 0, .str [], .Z 0, .int .u64 0, .zF, .zF, .Z 0] [(0,1, .Z 5),(1,1,k),(3,1,l),(4,3,m)]) λl=>GL h 0 c g a λg n=>kX h (gi .not g) n λg n=>c9 (λg=>kX g (dE a n 3 c) n λh n=>IH g (b 5) n λn o=>lx g (λb=>a2 a 67 [h,n] o d b f) o d λd f h=>c9 (λd=>ar (db a f .add 9 false i j) λg=>gO g (some k) (k3 a f c λc=>gO c (some m) (ll b 2 a f 7 l λa b=>e (.tuple [b,d]) a h))) λa=>a1 g (a d) (a .zF)) λa=>a1 h (a g) (a .zF)) λf=>a1 h (fs b 4 5 λc f=>ar (fv [.Z 0, .str [], .Z 0, .int .u64 0, .zF, .zF, .Z 0] [(0,1, .Z 4),(1,1,c),(3,1,f)]) λc=>ll b 2 a d 7 c λa b=>e (.tuple [b, .zT]) a g) (f (zH b 7 c 39 h) d g)) f) λf=>a1 h (Rs λb=>uD a i 7 c b λa b=>e (.tuple [b, .zF]) a l) (f (zH (zJ (cR [b]) 2 c 3 .zF 4 d 5 g) 6 j 27 h) i l)) λa=>a1 k (a .zT) (a h)) f) f
def amU:c7 X 41 [a0]=aaN X a0:=Zk
def amT:cV X 41 1=true:=Zk
def aaO:Za0:=λ_ a b c d _=>ar (bv .geq a (.int .u8 97)) λe=>kn e a b c λb c f=>eJ e (bv .leq b (.int .u8 122)) c f λb c f=>c9 (λb=>hQ b a c f λc e f=>fc b (bv .geq c (.int .u8 65)) e f λc e f=>hQ b c e f λc e f=>kn c a e f λe f g=>eJ c (bv .leq e (.int .u8 90)) f g λe f g=>lU b (λa=>c9 (λb=>a b f g) λa=>a1 c (a e) (a .zF)) f g λc e f=>c9 (λb=>hQ b a e f λa c e=>fc b (bv .eql a (.int .u8 95)) c e λa c e=>c9 (λa=>d a c e) λc=>a1 b (c .zT) (c a)) λa=>a1 b (a .zT) (a c)) λa=>a1 e (a b) (a .zF)
def amW:c7 X 42 [a0]=aaO X a0:=Zk
def amV:cV X 42 1=true:=Zk
def aaP:Za0:=λa b c d e f=>yK d a c λc d g=>gU b 1 a d λ_ h=>a2 a 62 [b,h, .func (.func 65) [] []] d g (λd g h=>Rq 1 1 d λi=>w7 h a g i λg h i=>a2 a 66 [d] i h (λh i j=>hB h λh k=>JH j λl=>qw a i j l.1 l.2 3 h λh i j=>bt (λb c d=>nL b 5 a c 7 λf=>oS b λg=>ar (nz g) λg=>ar (bv .leq g (.Z 32)) λg=>ll b 2 a c 7 f λa b=>e (.tuple [b,g]) a d) λe=>a1 k (e7 (i+5) λf=>k3 a j h λi=>ar (hW 0 g) λl=>sa a j l 3 λj=>ar (hW 4 g) λl=>k3 a j h λm=>gO m (some i) (ar (fT a j 3 l i) λa=>e (zI (zJ (cR [b]) 2 c 3 .zF 4 d 5 g) 6 h 7 k 21 k) a f)) (a2 a 68 [d] j i (λf i j=>bt e λe=>a1 f (ar (hW 0 g) λl=>sa a i l 2 λa=>e (zJ (zJ (cR [b]) 2 c 3 .zF 4 d 5 g) 6 h 7 k 21 k 26 f) a j) (e (zJ (zJ (cR [b]) 2 c 3 .zF 4 d 5 g) 6 h 7 k 21 k 26 f) i j)) f)) f) f
def amY:c7 X 43 [a0]=aaP X a0:=Zk
def amX:cV X 43 1=true:=Zk
def aa8:Za1:=λa b c d e f g=>a2 a 85 [b,c] d e f g
def anx:c7 X 60 [a0,bf]=aa8 X a0 bf:=Zk
def anw:cV X 60 2=true:=Zk
def aa9:Za1:=λa b c d e f g=>a2 a 86 [b,c] d e f g
def anA:c7 X 61 [a0,bf]=aa9 X a0 bf:=Zk
def anz:cV X 61 2=true:=Zk
def aba:Za2:=λa b c d e f g h=>bt (λb c d=>sc b a c λa=>fs b 1 7 λb e=>ar (nF a (some b) (some e)) λa=>g a c d) λg=>fy (λb c d e=>fs c 7 0 λf i=>gU i 0 a d λ_ i=>ar (nz i) λi=>ar (bv .lss f i) λf=>oG f (c 2) d e λd e i=>oG f (c 0) e i λe i j=>By f e i j 0 a λe i j=>oG f (c 7) i j λi j k=>eJ f (oF e i) j k λe i j=>lx f (λb=>jA a d [e] i j b h) i j λa d e=>c9 (λa=>bt (λa c d=>bt b λb=>gR a 7 λe=>b (aa a 7 e) c d) λb=>a1 a (b (aa c 25 a) d e) (g (aa c 25 a) d e)) λb=>a1 f (b a) (b .zF)) (zH (cR [b,c,d]) 6 (.str []) 7 c) e f
def anC:c7 X 62 [a0,bf,cf]=aba X a0 bf cf:=Zk
def anB:cV X 62 3=true:=Zk
def abb:Za0:=λ_ a b c d _=>ar (bv .neq a (.int .u8 10)) λa=>d a b c
def anE:c7 X 63 [a0]=abb X a0:=Zk
def anD:cV X 63 1=true:=Zk
def abc:Za2:=λa b c d e f g h=>a2 a 87 [b,c,d] e f (λe f i=>hB e λe j=>ar (db a f .neq 139 true j .nilIface) λk=>bt (λa b c=>cH (a 8) λa=>g (.tuple [a, .nilIface]) b c) λl=>a1 k (a2 a 88 [.str [80,97,114,115,101,85,105,110,116],b,c,d,j] f i (λa b c=>g (.tuple [e,a]) b c) h) (l (aa (zJ (cR [b,c,d]) 6 (.int .u64 0) 7 .nilIface 8 e 9 j) 18 k) f i)) h
def anG:c7 X 64 [a0,bf,cf]=abc X a0 bf cf:=Zk
def anF:cV X 64 3=true:=Zk
def abd:Za0:=λa b c d e f=>a2 a 42 [b] c d (λc d g=>hQ c b d g λb d g=>lU c (λc=>a2 a 40 [b] d g c f) d g λa b d=>c9 (λa=>e a b d) λb=>a1 c (b .zT) (b a)) f
def anI:c7 X 65 [a0]=abd X a0:=Zk
def anH:cV X 65 1=true:=Zk
def abe:Za0:=λa b c d e f=>JH d λg=>gT a c d g.1 g.2 λc d g=>ar (db a d .eql 9 true b (.str [98,111,111,108])) λh=>bt (λb c d=>fa b λg=>GO a c g λg=>vg g (b 0) c d λc d h=>fc g (oF c (.Z 0)) d h λc d h=>fc g (bv .neq c (.int .u8 117)) d h λc d h=>hQ g c d h λc d h=>oG c (b 0) d h λd h i=>eJ c (oF d (.Z 0)) h i λd h i=>eJ c (bv .neq d (.int .u8 105)) h i λd h i=>lU g (λa=>c9 (λb=>a b h i) λa=>a1 c (a d) (a .zF)) h i λc d h=>c9 (λc=>bt (λb c d=>Bx b 1 λg=>a2 a 89 [g] c d (λc d g=>hB c λc h=>fa b λi=>Ng i 105 λi=>ar (fv [.zF, .zF, .Z 0] [(1,1,i),(2,1,c)]) λi=>JH g λj=>qw a d g j.1 j.2 3 i λd g i=>ar (db a i .neq 139 true h .nilIface) λj=>fc j (dE a i 3 d) i g λg i k=>lU j (λb=>a2 a 90 [g] i k b f) i k λg i k=>fc j (gi .not g) i k λg i k=>c9 (λg=>fc g (dE a i 3 d) i k λi j k=>lU g (λb=>a2 a 91 [i] j k b f) j k λf i j=>vg g (b 0) i j λi j k=>fc g (db a j .neq 9 false f i) j k λf i j=>c9 (λf=>bt (λb c d=>nL b 6 a c 3 λf=>ll b 2 a c 3 f λa b=>e (.tuple [b, .zT]) a d) λg=>a1 f (ar (fv [.zF, .zF, .Z 0] []) λc=>ll b 2 a i 3 c λa b=>e (.tuple [b, .zF]) a j) (g (zJ b 4 c 5 h 6 d 46 f) i j)) λa=>a1 g (a .zT) (a f)) λa=>a1 j (a .zT) (a g)) f) λf=>a1 c (ar (fv [.zF, .zF, .Z 0] []) λc=>ll b 2 a d 3 c λa b=>e (.tuple [b, .zF]) a h) (f (aa b 21 c) d h)) λa=>a1 g (a .zT) (a c)) λf=>a1 h (ar (fv [.zF, .zF, .Z 0] [(0,1, .zT),(2,1, .Z 1)]) λb=>uD a d 3 c b λa b=>e (.tuple [b, .zT]) a g) (f (zI (cR [b]) 2 c 3 .zF 8 h) d g)
def anK:c7 X 66 [a0]=abe X a0:=Zk
def anJ:cV X 66 1=true:=Zk
def abf:Za1:=λa b c d e f g=>hC a d e b λd e h=>e4 1 d a e λ_ i=>bt (λb c d=>nL b 2 a c 3 λe=>te b λb=>a2 a 92 [e,b] c d f g) λg=>a1 i (e4 2 d a e λ_ j=>Bw j λj=>ar (fv [.zF, .zF, .Z 0] [(2,1,j)]) λj=>ar (fT a e 3 d j) λe=>e4 2 d a e λ_ a=>oi a 0 g λa g=>a1 a (ar (bv .eql c (.int .u64 0)) λa=>f a e h) (g (zJ (cR [b,c]) 2 d 4 .zF 6 i 13 a) e h)) (g (zI (cR [b,c]) 2 d 4 .zF 6 i) e h)
def anM:c7 X 67 [a0,bf]=abf X a0 bf:=Zk
def anL:cV X 67 2=true:=Zk
def abg:Za0:=λa b c d e _=>ar (aU a c (.ptr 1 0)) λf=>ar (n3 a c 9 .zF f b false) λa=>e a c d
def anO:c7 X 68 [a0]=abg X a0:=Zk
def anN:cV X 68 1=true:=Zk
def abB:Za1:=λa b c d e f g=>a2 a 108 [b,c] d e f g
def aoi:c7 X 85 [a0,bf]=abB X a0 bf:=Zk
def aoh:cV X 85 2=true:=Zk
def abC:Za1:=λa b c d e f _=>ar (nz b) λg=>ar (nz c) λh=>ar (bv .geq g h) λg=>kn g b d e λb d e=>kn g c d e λd e h=>eJ g (nz d) e h λd e h=>eJ g (nF b none (some d)) e h λb d e=>kn g c d e λc d e=>eJ g (db a d .eql 9 false b c) d e λa b c=>c9 (λa=>f a b c) λb=>a1 g (b a) (b .zF)
def aok:c7 X 86 [a0,bf]=abC X a0 bf:=Zk
def aoj:cV X 86 2=true:=Zk
def abD:Za2:=λa b c d e f g h=>GO a e b λi=>bt (λb c d=>tc b 1 0 λe=>fa b λf=>bt (λb c d=>tc b 2 0 λe=>bt (λb c d=>te b λe=>bt (λb c d=>Ru b 2 λe=>ar (bv .shl (.int .u64 1) e) λe=>ar (bv .sub e (.int .u64 1)) λe=>fa b λf=>h6 (QT a c d f) c d λc d f=>iT c (λb c d=>cH (b 12) λe=>oG e (b 9) c d λc d f=>lx e (λb=>a2 a 110 [c] d f b h) d f λa c d=>eJ e (gi .not a) c d λa c d=>c9 (λa=>bt (λa b c=>cH (a 13) λa=>g (.tuple [a, .nilIface]) b c) λe=>a1 a (pA 2 λa=>g (.tuple [.int .u64 0,a]) c d) (e (aa b 169 a) c d)) λb=>a1 e (b a) (b .zF)) λi j=>fy (λb c d e=>hK c 101 100 λf=>bt (λc d e=>xa (λa c d=>gR a 101 λe=>b (aa a 101 e) c d) c 99 101 a d λb f=>bt (λa c d=>fs a 16 1 λe f=>ar (ms .u8 f) λf=>ar (bv .geq e f) λe=>bt (λa c d=>fs a 13 10 λe f=>ar (bv .geq e f) λe=>bt (λa c d=>fs a 13 1 λe f=>ar (ms .u64 f) λf=>ar (bv .mul e f) λe=>Ru a 16 λf=>ar (bv .add e f) λf=>ar (bv .lss f e) λh=>hQ h f c d λc d i=>vg h (a 11) d i λd i j=>fc h (bv .gtr c d) i j λc d i=>c9 (λc=>bt (λa c d=>cH (a 17) λe=>b (aa a 13 e) c d) λb=>a1 c (cH (a 11) λa=>pA 1 λb=>g (.tuple [a,b]) d i) (b (zI a 13 e 17 f 159 c) d i)) λa=>a1 h (a .zT) (a c)) λb=>a1 e (cH (a 11) λa=>pA 1 λb=>g (.tuple [a,b]) c d) (b (aa a 141 e) c d)) λb=>a1 e (pA 2 λa=>g (.tuple [.int .u64 0,a]) c d) (b (aa a 137 e) c d)) λi=>ar (bv .eql f (.int .u8 95)) λj=>oG j (c 8) d e λd e k=>c9 (λd=>bt i λi=>a1 d (b (zJ c 15 f 16 (.int .u8 0) 106 d 12 .zT) e k) (ar (bv .leq (.int .u8 48) f) λb=>kn b f e k λe j k=>eJ b (bv .leq e (.int .u8 57)) j k λe j k=>c9 (λb=>bt i λe=>a1 b (ar (bv .sub f (.int .u8 48)) λa=>e (aa (zJ c 15 f 16 (.int .u8 0) 106 d 112 b) 16 a) j k) (a2 a 109 [f] j k (λi j k=>ar (bv .leq (.int .u8 97) i) λi=>kn i f j k λj k l=>lx i (λb=>a2 a 109 [j] k l b h) k l λj k l=>eJ i (bv .leq j (.int .u8 122)) k l λj k l=>c9 (λi=>bt e λe=>a1 i (a2 a 109 [f] k l (λa g h=>ar (bv .sub a (.int .u8 97)) λa=>ar (bv .add a (.int .u8 10)) λa=>e (zH (zJ c 15 f 16 (.int .u8 0) 106 d 112 b) 121 i 16 a) g h) h) (pA 2 λa=>g (.tuple [.int .u64 0,a]) k l)) λa=>a1 i (a j) (a .zF)) h)) λa=>a1 b (a e) (a .zF))) λa=>a1 j (a d) (a .zF)) λa=>a1 f (a (aa c 102 f) d e) (j (aa c 102 f) d e)) (zH (zJ b 11 e 12 .zF 13 (.int .u64 0) 99 c) 100 i 101 (.Z 0)) d f) λa=>oi e 10 a λa f=>a1 a (f (zJ b 10 (.int .u64 0) 85 e 90 a 10 (.int .u64 1844674407370955162)) c d) (oi e 16 f λf g=>a1 f (g (aa (zJ b 10 (.int .u64 0) 85 e 90 a 92 f) 10 (.int .u64 1152921504606846976)) c d) (Ru b 1 λh=>ar (bv .quo (.int .u64 18446744073709551615) h) λh=>ar (bv .add h (.int .u64 1)) λh=>g (aa (zJ b 10 (.int .u64 0) 85 e 90 a 92 f) 10 h) c d))) λa=>a1 e (a (zH b 77 e 2 (.Z 64)) c d) (GJ b 2 0 λf=>vg f (b 2) c d λc d h=>fc f (bv .gtr c (.Z 64)) d h λc d h=>c9 (λc=>bt a λa=>a1 c (pA 4 λa=>g (.tuple [.int .u64 0,a]) d h) (a (zH b 77 e 83 c) d h)) λa=>a1 f (a .zT) (a c))) λi=>te b λj=>ar (bv .leq (.Z 2) j) λj=>oG j (b 1) c d λc d k=>eJ j (bv .leq c (.Z 36)) d k λc d k=>c9 (λc=>bt i λi=>a1 c (i (zI b 8 e 9 f 25 c) d k) (te b λj=>oi j 0 i λi j=>a1 i (fa b λg=>Ng g 48 λg=>bt j λj=>a1 g (bt j λj=>Ro b d k λd k l m=>lx d (λb=>a2 a 109 [k] l m b h) l m λk l m=>eJ d (bv .eql k (.int .u8 98)) l m λk l m=>c9 (λd=>bt j λj=>a1 d (Bx b 2 λa=>j (aa (zJ (zJ b 8 e 9 f 25 c 32 i) 1 (.Z 10) 37 g 40 d 1 (.Z 2)) 0 a) l m) (Ro b l m λk l m n=>lx k (λb=>a2 a 109 [l] m n b h) m n λl m n=>eJ k (bv .eql l (.int .u8 111)) m n λl m n=>c9 (λk=>bt j λj=>a1 k (Bx b 2 λa=>j (zH (zJ (zJ b 8 e 9 f 25 c 32 i) 1 (.Z 10) 37 g 40 d 52 k) 1 (.Z 8) 0 a) m n) (Ro b m n λl m n o=>lx l (λb=>a2 a 109 [m] n o b h) n o λa h m=>eJ l (bv .eql a (.int .u8 120)) h m λa h m=>c9 (λa=>bt j λj=>a1 a (Bx b 2 λl=>j (zI (zJ (zJ b 8 e 9 f 25 c 32 i) 1 (.Z 10) 37 g 40 d 52 k) 64 a 1 (.Z 16) 0 l) h m) (Bx b 1 λl=>j (zI (zJ (zJ b 8 e 9 f 25 c 32 i) 1 (.Z 10) 37 g 40 d 52 k) 64 a 1 (.Z 8) 0 l) h m)) λb=>a1 l (b a) (b .zF))) λa=>a1 k (a l) (a .zF))) λa=>a1 d (a k) (a .zF)) (j (zH (zJ b 8 e 9 f 25 c 32 i) 1 (.Z 10) 37 g) d k)) (pA 3 λa=>g (.tuple [.int .u64 0,a]) d k))) λa=>a1 j (a c) (a .zF)) λa=>a1 i (pA 2 λa=>g (.tuple [.int .u64 0,a]) e f) (a (zI (cR [b,c,d]) 6 (.int .u64 0) 7 .nilIface 19 i) e f)
def aom:c7 X 87 [a0,bf,cf]=abD X a0 bf cf:=Zk
def aol:cV X 87 3=true:=Zk
def abE:Za4:=λa b c d e f g h i j=>bt (λa b c=>oS a λa=>i a b c) λk=>pA 2 λl=>BB a g 139 f l k λk l=>a1 k (a2 a 111 [b,c] g h (λa b c=>ar (some (E.iface 181 a)) λa=>i a b c) j) (pA 1 λm=>BB a g 139 f m l λl m=>a1 l (a2 a 112 [b,c] g h (λa b c=>ar (some (E.iface 181 a)) λa=>i a b c) j) (pA 3 λn=>BB a g 139 f n m λm n=>a1 m (a2 a 113 [b,c,d] g h (λa b c=>ar (some (E.iface 181 a)) λa=>i a b c) j) (pA 4 λo=>BB a g 139 f o n λn o=>a1 n (a2 a 114 [b,c,e] g h (λa b c=>ar (some (E.iface 181 a)) λa=>i a b c) j) (o (zH (zJ (cR [b,c,d,e,f]) 10 .nilIface 11 f 12 k 19 l) 26 m 34 n) g h))))
def aoo:c7 X 88 [a0,bf,cf,a3,a4]=abE X a0 bf cf a3 a4:=Zk
def aon:cV X 88 5=true:=Zk
def abF:Za0:=λa b c d e f=>a2 a 115 [b] c d (λc d g=>hB c λc h=>ar (db a d .neq 139 true h .nilIface) λi=>bt (λa b c=>oS a λa=>e (.tuple [a, .nilIface]) b c) λj=>a1 i (a2 a 88 [.str [65,116,111,105],b, .Z 0, .Z 0,h] d g (λa b d=>e (.tuple [c,a]) b d) f) (j (aa (zJ (cR [b]) 2 (.Z 0) 3 .nilIface 4 c 5 h) 12 i) d g)) f
def aoq:c7 X 89 [a0]=abF X a0:=Zk
def aop:cV X 89 1=true:=Zk
def abI:Za0:=λa b c d e f=>hC a c d b λc d g=>bt (λb c d=>iU b 1 2 a c λ_ b=>a2 a 116 [b] c d (λb c d=>ar (db a c .add 9 true (.str [117]) b) λa=>e a c d) f) λh=>td a d 3 c 90 g f λd g i=>Bz d h λd h=>a1 d (e (.str []) g i) (kK c a g λj=>bt h λh=>a1 j (e (.str [98,111,111,108]) g i) (e4 1 c a g λ_ k=>bt h λh=>a1 k (e4 2 c a g λ_ b=>a2 a 116 [b] g i (λb c d=>ar (db a c .add 9 true (.str [105]) b) λa=>e a c d) f) (h (aa (zJ (cR [b]) 1 c 2 (.str []) 3 d 7 j) 10 k) g i)))
def aow:c7 X 91 [a0]=abI X a0:=Zk
def aov:cV X 91 1=true:=Zk
def abJ:Za1:=λa b c d e f g=>hC a d e b λb d e=>td a d 3 b 90 e g λd e h=>kn d c e h λc e h=>eJ d (dE a e 3 b) e h λb e h=>lx d (λc=>a2 a 117 [b] e h c g) e h λa b e=>eJ d (bv .andNot c a) b e λa b c=>eJ d (bv .eql a (.int .u64 0)) b c λa b c=>c9 (λa=>f a b c) λb=>a1 d (b a) (b .zF)
def aoy:c7 X 92 [a0,bf]=abJ X a0 bf:=Zk
def aox:cV X 92 2=true:=Zk
def θ:Za1:=λa b c d e f g=>e7 (e+7) λh=>ar (aU a d (.ptr 5 0)) λi=>a2 a 129 [c] d h (λc d g=>ar (fv [.str [], .str [], .nilIface] [(0,1,b),(1,1,c),(2,1,i)]) λb=>y4 a d (e+5) b λb c=>ar (aU a c (.ptr 5 0)) λa=>gO a (some i) (f b c g)) g
def alf:c7 X 111 [a0,bf]=θ X a0 bf:=Zk
def ale:cV X 111 2=true:=Zk
def ι:Za1:=λa b c d e f g=>e7 (e+7) λh=>ar (aU a d (.ptr 6 0)) λi=>a2 a 129 [c] d h (λc d g=>ar (fv [.str [], .str [], .nilIface] [(0,1,b),(1,1,c),(2,1,i)]) λb=>y4 a d (e+5) b λb c=>ar (aU a c (.ptr 6 0)) λa=>gO a (some i) (f b c g)) g
def alh:c7 X 112 [a0,bf]=ι X a0 bf:=Zk
def alg:cV X 112 2=true:=Zk
def κ:Za0:=λa b c d e f=>ar (nz b) λg=>qc (λc d h=>qc (λc d h=>qc (λc d h=>kn c g d h λd h i=>eJ c (bv .lss d (.Z 10)) h i λd h i=>qc (λc d h=>c9 (λc=>hQ c .zT d h λd h i=>kn d g h i λh i j=>eJ d (bv .lss (.Z 0) h) i j λh i j=>kn d h i j λh i j=>kn h g i j λi j k=>eJ h (bv .lss i (.Z 19)) j k λi j k=>lx d (λa=>c9 (λb=>a b j k) λa=>a1 h (a i) (a .zF)) j k λh i j=>lU c (λa=>c9 (λb=>a b i j) λa=>a1 d (a h) (a .zF)) i j λd h i=>c9 (λc=>bt (λb c d=>fa b λb=>a2 a 131 [b, .Z 10, .Z 0] c d (λa b c=>hB a λa d=>e (.tuple [a,d]) b c) f) λd=>a1 c (Ng b 45 λd=>hQ d b h i λf h i=>fc d (oF f (.Z 0)) h i λf h i=>fc d (bv .eql f (.int .u8 43)) h i λf h i=>c9 (λd=>bt (λb c d=>fa b λf=>h6 (QT a c d f) c d λc d f=>iT c (λa b c=>pB a λd=>Ng d 45 λd=>bt (λa b c=>cH (a 6) λa=>e (.tuple [a, .nilIface]) b c) λe=>a1 d (cH (a 6) λf=>ar (gi .neg f) λf=>e (zH a 66 d 6 f) b c) (e (aa a 66 d) b c)) λg h=>fy (λb c d f=>hK c 49 48 λg=>bt (λc d f=>xa (λa c d=>gR a 49 λe=>b (aa a 49 e) c d) c 47 49 a d λa b=>ar (bv .sub b (.int .u8 48)) λg=>ar (bv .gtr g (.int .u8 9)) λh=>bt (λb c d=>cH (b 6) λe=>ar (bv .mul e (.Z 10)) λe=>cH (b 8) λf=>ar (ms .i64 f) λf=>ar (bv .add e f) λe=>a (aa b 6 e) c d) λa=>a1 h (pA 2 λa=>e (.tuple [.Z 0,a]) d f) (a (zI c 8 b 8 g 56 h) d f)) λa=>a1 g (a (aa c 50 g) d f) (h (aa c 50 g) d f)) (zJ b 6 (.Z 0) 47 c 48 g 49 (.Z 0)) d f) λa=>a1 d (ar (nF b (some (.Z 1)) none) λf=>ar (nz f) λj=>ar (bv .lss j (.Z 1)) λj=>bt a λa=>a1 j (pA 2 λa=>e (.tuple [.Z 0,a]) h i) (a (zJ (zJ (cR [b]) 2 (.Z 0) 3 .nilIface 4 g 30 c) 5 b 39 d 0 f 44 j) h i)) (a (zH (zJ (cR [b]) 2 (.Z 0) 3 .nilIface 4 g 30 c) 5 b 39 d) h i)) λa=>a1 d (a .zT) (a f)) (d (zJ (cR [b]) 2 (.Z 0) 3 .nilIface 4 g 30 c) h i)) λa=>a1 c (a .zT) (a d)) λa=>a1 .zF (a c) (a .zF)) λa=>iW true .zF (c9 (λb=>a b h i) λa=>a1 c (a d) (a .zF)) (a bg.undef h i)) λa=>iW true .zF (a c d h) (a bg.undef d h)) λa=>iW true .zF (ar (bv .lss (.Z 0) c) λb=>a b d h) (a bg.undef d h)) λa=>iW true .zF (a g c d) (a bg.undef c d)
def alj:c7 X 115 [a0]=κ X a0:=Zk
def ali:cV X 115 1=true:=Zk
def ν:Za0:=λa b c d e _=>hC a c d b λb c d=>e4 2 b a c λ_ a=>ar (bv .sub (.Z 64) a) λa=>ar (bv .shr (.int .u64 18446744073709551615) a) λa=>e a c d
def alo:c7 X 117 [a0]=ν X a0:=Zk
def aln:cV X 117 1=true:=Zk
def aab:Za2:=λa b c d e f g h=>GO a e b λi=>bt (λb c d=>fa b λe=>ar (oF e (.Z 0)) λe=>bt (λb c d=>fs b 0 1 λe f=>cH (b 2) λi=>a2 a 87 [e,f,i] c d (λc d e=>hB c λc f=>ar (db a d .neq 139 true f .nilIface) λh=>kn h f d e λd e i=>eJ h (some (E.iface 178 (.Z 1))) e i λe i j=>eJ h (db a i .neq 139 false d e) i j λa d e=>c9 (λa=>bt (λa b c=>tc a 2 0 λd=>bt (λa b c=>cH (a 2) λd=>Bw d λd=>ar (ms .u64 d) λd=>ar (bv .shl (.int .u64 1) d) λd=>cH (a 8) λe=>ar (gi .not e) λe=>oG e (a 9) b c λb c f=>kn e d c f λc f h=>eJ e (bv .geq b c) f h λb c f=>c9 (λb=>bt (λa b c=>cH (a 8) λd=>oG d (a 9) b c λb c e=>oG d (a 10) c e λc e f=>eJ d (bv .gtr b c) e f λb c e=>c9 (λb=>bt (λa b c=>cH (a 9) λd=>ar (ms .i64 d) λd=>cH (a 8) λe=>bt (λa b c=>cH (a 11) λa=>g (.tuple [a, .nilIface]) b c) λf=>a1 e (ar (gi .neg d) λg=>f (zI a 11 d 69 e 11 g) b c) (f (zH a 11 d 69 e) b c)) λd=>a1 b (cH (a 10) λa=>ar (ms .i64 a) λa=>ar (gi .neg a) λa=>pA 1 λb=>g (.tuple [a,b]) c e) (d (aa a 62 b) c e)) λa=>a1 d (a b) (a .zF)) λe=>a1 b (ar (bv .sub d (.int .u64 1)) λa=>ar (ms .i64 a) λa=>pA 1 λb=>g (.tuple [a,b]) c f) (e (zH a 10 d 52 b) c f)) λa=>a1 e (a b) (a .zF)) λe=>a1 d (e (zH a 41 d 2 (.Z 64)) b c) (e (aa a 41 d) b c)) λh=>a1 a (g (.tuple [.Z 0,f]) d e) (h (zJ b 9 (.int .u64 0) 9 c 7 f 38 a) d e)) λb=>a1 h (b a) (b .zF)) h) λa=>ar (bv .eql e (.int .u8 43)) λf=>bt a λa=>a1 f (Bx b 1 λg=>a (zJ b 8 .zF 16 e 17 f 0 g) c d) (ar (bv .eql e (.int .u8 45)) λg=>bt a λa=>a1 g (Bx b 1 λh=>a (zH (zJ b 8 .zF 16 e 17 f 21 g) 0 h 8 .zT) c d) (a (zJ b 8 .zF 16 e 17 f 21 g) c d))) λa=>a1 i (pA 2 λa=>g (.tuple [.Z 0,a]) e f) (a (zI (cR [b,c,d]) 6 (.Z 0) 7 .nilIface 13 i) e f)
def alQ:c7 X 131 [a0,bf,cf]=aab X a0 bf cf:=Zk
def alP:cV X 131 3=true:=Zk
def μ:Za0:=λa b c d e f=>a2 a 132 [b] c d e f
def alm:c7 X 116 [a0]=μ X a0:=Zk
def alk:cV X 116 1=true:=Zk
def aac:Za0:=λa b c d e f=>a2 a 139 [b,.Z 10] c d e f
def alS:c7 X 132 [a0]=aac X a0:=Zk
def alR:cV X 132 1=true:=Zk
def aaj:Za1:=λa b c d e f g=>ar (bv .eql c (.Z 10)) λh=>bt (λb c d=>fa b λe=>ar (ms .u64 e) λe=>fs b 1 0 λb h=>JK h λh=>a2 a 146 [.aY,e,b,h, .zF] c d (λa b c=>hB a λ_ a=>f a b c) g) λi=>a1 h (ar (bv .leq (.Z 0) b) λi=>kn i b d e λd e j=>eJ i (bv .lss d (.Z 100)) e j λd e j=>c9 (λd=>bt (λb c d=>ar (iK [.int .u8 0, .int .u8 0, .int .u8 0, .int .u8 0, .int .u8 0, .int .u8 0, .int .u8 0, .int .u8 0, .int .u8 0, .int .u8 0, .int .u8 0, .int .u8 0, .int .u8 0, .int .u8 0, .int .u8 0, .int .u8 0, .int .u8 0, .int .u8 0, .int .u8 0, .int .u8 0, .int .u8 0, .int .u8 0, .int .u8 0, .int .u8 0] d) λe=>gT a c d e.1 e.2 λc d e=>fa b λh=>ar (ms .u64 h) λh=>fa b λi=>JK i λi=>bt (λb c d=>w9 b 6 a 144 c d g λc d e=>ar (bv .add (.Z 1) c) λh=>pB b λi=>ar (Xh 24 1 i (some (.Z 1)) (some h) none) λh=>cH (b 6) λi=>a2 a 145 [h,i] d e (λ_ d e=>fa b λg=>JK g λg=>bt (λb c d=>cH (b 7) λe=>ar (bv .add (.Z 1) e) λe=>pB b λb=>ar (Xh 24 1 b (some (.Z 1)) (some e) none) λb=>ar (B5 a c b) λa=>f a c d) λh=>a1 g (pB b λg=>ar (ya 24 1 g (.Z 0)) λg=>ar (fT a d 1 g (.int .u8 45)) λd=>ar (bv .add (.Z 1) c) λc=>pB b λb=>ar (Xh 24 1 b none (some c) none) λb=>ar (B5 a d b) λa=>f a d e) (h (zH b 7 c 34 g) d e)) g) λa=>a1 i (ar (gi .neg h) λf=>a (zJ b 5 c 6 h 23 i 6 f) d e) (a (zI b 5 c 6 h 23 i) d e)) λi=>a1 d (a2 a 143 [b] e j f g) (i (zI (cR [b,c]) 4 (.str []) 11 h 17 d) e j)) λa=>a1 i (a d) (a .zF)) (i (zH (cR [b,c]) 4 (.str []) 11 h) d e)
def al6:c7 X 139 [a0,bf]=aaj X a0 bf:=Zk
def al5:cV X 139 2=true:=Zk
end
noncomputable section
variable (X : ca) (h : S ag) (j : Nat) (ai ax : bK) (a0 bf cf a3 a4 a5 jK kx jf : E)
def ζ:Za0:=λ_ a b c d _=>ar (bv .or a (.int .u8 32)) λa=>d a b c
def alb:c7 X 109 [a0]=ζ X a0:=Zk
def ala:cV X 109 1=true:=Zk
def aan:Za0:=λ_ a b c d _=>ar (bv .lss a (.Z 10)) λe=>bt (λa b c=>fa a λe=>ar (bv .mul e (.Z 2)) λe=>fa a λa=>ar (bv .mul a (.Z 2)) λa=>ar (bv .add a (.Z 2)) λa=>ar (nF (.str [48,48,48,49,48,50,48,51,48,52,48,53,48,54,48,55,48,56,48,57,49,48,49,49,49,50,49,51,49,52,49,53,49,54,49,55,49,56,49,57,50,48,50,49,50,50,50,51,50,52,50,53,50,54,50,55,50,56,50,57,51,48,51,49,51,50,51,51,51,52,51,53,51,54,51,55,51,56,51,57,52,48,52,49,52,50,52,51,52,52,52,53,52,54,52,55,52,56,52,57,53,48,53,49,53,50,53,51,53,52,53,53,53,54,53,55,53,56,53,57,54,48,54,49,54,50,54,51,54,52,54,53,54,54,54,55,54,56,54,57,55,48,55,49,55,50,55,51,55,52,55,53,55,54,55,55,55,56,55,57,56,48,56,49,56,50,56,51,56,52,56,53,56,54,56,55,56,56,56,57,57,48,57,49,57,50,57,51,57,52,57,53,57,54,57,55,57,56,57,57]) (some e) (some a)) λa=>d a b c) λf=>a1 e (DG a λe=>ar (nF (.str [48,49,50,51,52,53,54,55,56,57,97,98,99,100,101,102,103,104,105,106,107,108,109,110,111,112,113,114,115,116,117,118,119,120,121,122]) (some a) (some e)) λa=>d a b c) (f (zH (cR [a]) 2 (.str []) 4 e) b c)
def ame:c7 X 143 [a0]=aan X a0:=Zk
def amd:cV X 143 1=true:=Zk
end
noncomputable section
def jn(c:Nat):Bool:=decide (48<=c)&&decide (c<=57)
def rO(c:Nat):Bool:=decide (97<=c)&&decide (c<=122)||decide (65<=c)&&decide (c<=90)||decide (c=95)
def jB(c:Nat):Bool:=rO c||jn c
def CS{s:aR}{i c:Nat}(u:IntKind)(a:s[i]? =some c):oF (.str s) (.int u (i:Int))=some (.int .u8 (c:Int)):=by
 simp[oF,rT,a]
def Xi{s:aR}{k a:Nat}(u fh:IntKind)(H:k<=a)(M:a<=s.length):nF (.str s) (some (.int u (k:Int))) (some (.int fh (a:Int)))=some (.str ((s.drop k).take (a-k))):=by
 simp[nF,mR,qd,rT,fw,H,M]
def QW{s:aR}{k:Nat}(u:IntKind)(H:k<=s.length):nF (.str s) (some (.int u (k:Int))) none=some (.str (s.drop k)):=by
 simp[nF,mR,qd,rT,fw,H,ZA]
def aC9{s:aR}{a:Nat}(u:IntKind)(H:a<=s.length):nF (.str s) none (some (.int u (a:Int)))=some (.str (s.take a)):=by
 simp[nF,mR,qd,rT,fw,H]
section
variable{X:ca}{h R aQ aP:S ag}{j an aV aX:Nat}
def SP(aw:dk X)(c:Nat):a2 X 40 [.int .u8 (c:Int)] h j (λac R an=>ac= .bool (jn c)/\R=h/\an=j) zL:=by
 refine zG aw (amR X) ?_
 rw[amS]
 unfold aaM
 by_cases a:48<=c
 ·have d:decide ((48:Int)<=(c:Int))=true:=by simp;omega
  have cM:decide ((c:Int)<=57)=decide (c<=57):=by simp;omega
  refine cS @d @cM ⟨?_⟩
  exact⟨by simp[jn,a],rfl,rfl⟩
 ·have d:decide ((48:Int)<=(c:Int))=false:=by simp;omega
  refine cj @d ⟨?_⟩
  exact⟨by simp[jn,a],rfl,rfl⟩
def acy(aw:dk X)(c:Nat):a2 X 42 [.int .u8 (c:Int)] h j (λac R an=>ac= .bool (rO c)/\R=h/\an=j) zL:=by
 refine zG aw (amV X) ?_
 rw[amW]
 unfold aaO
 have c2:decide ((97:Int)<=(c:Int))=decide (97<=c):=by simp;omega
 have cM:decide ((c:Int)<=122)=decide (c<=122):=by simp;omega
 have e2:decide ((65:Int)<=(c:Int))=decide (65<=c):=by simp;omega
 have jh:decide ((c:Int)<=90)=decide (c<=90):=by simp;omega
 have gt:decide ((c:Int)=95)=decide (c=95):=by simp;omega
 by_cases H:97<=c<;>by_cases M:c<=122<;>by_cases al:65<=c<;>by_cases aB:c<=90<;>try omega
 all_goals
  simp only[H,M,al,aB,YG,Yl]at c2 cM e2 jh
  refine f3 @c2 @cM @e2 @jh @gt ⟨?_⟩
  exact⟨by simp[rO,H,M,al,aB],rfl,rfl⟩
def azM(aw:dk X)(c:Nat):a2 X 65 [.int .u8 (c:Int)] h j (λac R an=>ac= .bool (jB c)/\R=h/\an=j) zL:=by
 refine zG aw (anH X) ?_
 rw[anI]
 unfold abd
 refine(acy aw c).Zm ?_
 rintro ac R an ⟨rfl,rfl,rfl⟩
 cases aj:rO c with
 |true=>
  refine cL ⟨?_⟩
  exact⟨by simp[jB,aj],rfl,rfl⟩
 |false=>
  refine cL ⟨?_⟩
  refine(SP aw c).Zm ?_
  rintro ac R an ⟨rfl,rfl,rfl⟩
  refine cL ⟨?_⟩
  exact⟨by simp[jB,aj],rfl,rfl⟩
def aAf(aw:dk X)(c:Nat):a2 X 63 [.int .u8 (c:Int)] h j (λac R an=>ac= .bool (decide (c≠10))/\R=h/\an=j) zL:=by
 refine zG aw (anD X) ?_
 rw[anE]
 unfold abb
 refine cL ⟨?_⟩
 exact⟨by congr 1;simp;omega,rfl,rfl⟩
def rR(c:Nat):Nat:=(BitVec.ofInt 8 (c:Int)|||BitVec.ofInt 8 32).toNat%256
def Wn(aw:dk X)(c:Nat):a2 X 109 [.int .u8 (c:Int)] h j (λac R an=>ac= .int .u8 (rR c:Int)/\R=h/\an=j) zL:=by
 refine zG aw (ala X) ?_
 rw[alb]
 unfold ζ
 have D:bv .or (.int .u8 (c:Int)) (.int .u8 32)=some (.int .u8 (qu .u8 ((BitVec.ofInt 8 (c:Int)|||BitVec.ofInt 8 32).toNat))):=by
  simp[bv,mc,mJ,l4,lT];rfl
 refine cj @D ⟨?_⟩
 exact⟨rfl,rfl,rfl⟩
def aiR(aw:dk X)(s p:aR):a2 X 61 [.str s, .str p] h j (λac R an=>ac= .bool (decide (p.length<=s.length/\s.take p.length=p))/\R=h/\an=j) zL:=by
 refine zG aw (anz X) ?_
 rw[anA]
 unfold aa9
 refine zG aw (aoj X) ?_
 rw[aok]
 unfold abC
 by_cases a:p.length<=s.length
 ·have d:decide ((p.length:Int)<=(s.length:Int))=true:=by simp;omega
  have D:=aC9 (s:=s) .i64 a
  refine cS @d @D ⟨?_⟩
  exact⟨by congr 1;simp[a],rfl,rfl⟩
 ·have d:decide ((p.length:Int)<=(s.length:Int))=false:=by simp;omega
  refine cj @d ⟨?_⟩
  exact⟨by congr 1;simp;omega,rfl,rfl⟩
end
def Nv(X:ca)(f:E)(p:Nat->Bool):Prop:=∃u,f= .func (.func u) [] []/\∀(h:S ag) (j c:Nat),a2 X u [.int .u8 (c:Int)] h j (λac R an=>ac= .bool (p c)/\R=h/\an=j) zL
def aCq{X:ca}(aw:dk X):Nv X (.func (.func 40) [] []) jn:=⟨_,rfl,λh j c=>SP aw c⟩
def ajd{X:ca}(aw:dk X):Nv X (.func (.func 65) [] []) jB:=⟨_,rfl,λh j c=>azM aw c⟩
def aCr{X:ca}(aw:dk X):Nv X (.func (.func 63) [] []) (λc=>decide (c≠10)):=⟨_,rfl,λh j c=>aAf aw c⟩
structure nO(X:ca)(h:S ag)(gw:Nat)(s:aR)(i:Nat):Prop where
 g:W X h gw=zD [.str s, .Z (i:Int)] 2
 le:i<=s.length
 many:s.length<=65536
 cb:(o X).a8<=gw
def nO.dx{X:ca}{h:S ag}{gw:Nat}{s:aR}{i:Nat}(a:nO X h gw s i):aU X h (.ptr gw 0)=some (.str s):=by rw[bG a.g];rfl
def nO.c5{X:ca}{h:S ag}{gw:Nat}{s:aR}{i:Nat}(a:nO X h gw s i):aU X h (.ptr gw 1)=some (.Z (i:Int)):=by rw[bG a.g];rfl
def nO.ab{X:ca}{h R:S ag}{gw:Nat}{s:aR}{i:Nat}(a:nO X h gw s i)(u:W X R gw=W X h gw):nO X R gw s i:=⟨by rw[u];exact a.g,a.le,a.many,a.cb⟩
section
variable{X:ca}{h R aQ aP:S ag}{j an aV aX gw:Nat}{s:aR}{i:Nat}
def QQ(aw:dk X){f:E}{p:Nat->Bool}(b4:Nv X f p)(Y:nO X h gw s i){F:Nat}(aE:F<=s.length):
 a2 X 62 [.ptr gw 0, .Z (F:Int),f] h j (λac R an=>ac= .str ((s.drop F).takeWhile p)/\R=h/\an=j) zL:=by
 refine zG aw (anB X) ?_
 rw[anC]
 unfold aba
 obtain⟨u,rfl,b4⟩:=b4
 have bn:=Y.many
 have dx:=Y.dx
 refine cL ⟨?_⟩
 refine fE (λm I R aS=>∃(D:Nat),I.g 0=some (.ptr gw 0)/\I.g 1=some (.Z (F:Int))/\I.g 2=some (.func (.func u) [] [])/\I.g 7=some (.Z (D:Int))/\F<=D/\D+m=s.length/\R=h/\aS=j/\(s.drop F).takeWhile p=(s.drop F).take (D-F)++(s.drop D).takeWhile p)
  (s.length-F) ⟨F,bo,bo,bo,bo,Zj _,Zo,rfl,rfl,Zs⟩ ?_
 rintro m I aP aX ⟨D,t0,t1,eK,e9,auu,aFY,rfl,rfl,bb⟩
 have bC:=zE D
 have aO:nF (.str s) (some (.Z (F:Int))) (some (.Z (D:Int)))=some (.str ((s.drop F).take (D-F))):=Xi .i64 .i64 auu Zo
 cases m with
 |zero=>
  have d:=zA D s.length
  rw[ZC (by omega:s.length<=D),List.takeWhile_nil,Yh]at bb
  refine eh @e9 @t0 @t1 @eK @dx @d @aO ⟨?_⟩
  exact⟨by rw[bb],rfl,rfl⟩
 |succ m=>
  have d:=zB D s.length
  obtain⟨c,aA⟩:=zC s D
  have aJ:s.drop D=c::s.drop (D+1):=by
   obtain⟨af,z⟩:=Zb.1 aA
   rw[Zr af,z]
  have dA:=CS .i64 aA
  refine eh @e9 @t0 @t1 @eK @dx @d @dA ⟨?_⟩
  refine(b4 aP aX c).Zm ?_
  rintro ac a6 bz ⟨rfl,rfl,rfl⟩
  rw[aJ,YD]at bb
  cases ay:p c with
  |false=>
   rw[ay]at bb
   simp only[Zw,ZB,Yh]at bb
   refine f3 @e9 @t0 @t1 @dx @aO ⟨?_⟩
   exact⟨by rw[bb],rfl,rfl⟩
  |true=>
   rw[ay]at bb
   simp only[ZG]at bb
   refine cS @e9 @bC ⟨?_⟩
   refine⟨m,Zo,D+1,aW t0,aW t1,aW eK,bo,Zo,Zo,rfl,rfl, ?_⟩
   rw[bb,show D+1-F=(D-F)+1 by omega,ZY]
   have:(s.drop F)[D-F]? =some c:=by rw[Yi,show F+(D-F)=D by omega];exact aA
   rw[this]
   simp
end
end
end Go.Proofs.YtpeabpmnlmaabaaGreatDoor

