/- A part of the proof of the claim's last text: what it is used for is said there; no condition of its own. -/
import Derived.Test.YtpfajohmofnkfaaGreatDoorYp
set_option maxHeartbeats 8000000
set_option linter.unusedVariables false
set_option linter.unusedSimpArgs false
namespace Go.Proofs.YtpfajohmofnkfaaGreatDoor
open Go.al Go.bh
noncomputable section
theorem lo{v w:H}(a:eF v=some w):v.cells=[v]/\o8 v=true/\H.same 30 v v=true:=by
 cases v with
 |slice b W n c=>exact⟨rfl,rfl,by simp[H.same]⟩
 |e5 b W n c=>exact⟨rfl,rfl,by simp[H.same]⟩
 |aU=>exact⟨rfl,rfl,rfl⟩
 |_=>simp[eF]at a
def qd(X:cD)(h:U an):(Nat->Prop)->List fg->List (List H)->Prop
 |_,[],b6=>b6=[]
 |P,ar::de,b6=>∃row mF bR,b6=row::mF/\(∀j,bR j->P j)/\wE X h bR ar row/\qd X h (λj=>P j/\¬bR j) de mF
theorem qd.af{X:cD}{h V:U an}:∀{de:List fg}{b6:List (List H)}{P bR:Nat->Prop}(B:∀j,P j->ab X V j=ab X h j) (aE:∀j,P j->bR j),qd X h P de b6->qd X V bR de b6:=by
 intro de
 induction de with
 |nil=>intro b6 P bR B aE a;exact a
 |cons ar de ah=>
  rintro b6 P bR B aE ⟨row,mF,eS,M,cf,R,au⟩
  exact⟨row,mF,eS,M,λj T=>aE j (cf j T),R.af (λj T=>B j (cf j T)) (λj T=>T),ah (λj T=>B j T.1) (λj T=>⟨aE j T.1,T.2⟩) au⟩
theorem qd.snoc{X:cD}{h:U an}{bR:Nat->Prop}{ar:fg}{row:List H}(a:wE X h bR ar row):∀{de:List fg}{b6:List (List H)}{nN P:Nat->Prop},qd X h nN de b6->(∀j,nN j->P j)->(∀j,bR j->P j/\¬nN j)->qd X h P (de++[ar]) (b6++[row]):=by
 intro de
 induction de with
 |nil=>rintro b6 nN P rfl M R;exact⟨row,[],bR,rfl,λj T=>(R j T).1,a,rfl⟩
 |cons I de ah=>
  rintro b6 nN P ⟨x0,mF,eS,rfl,cf,au,aM⟩ M R
  exact⟨x0,mF++[row],eS,rfl,λj T=>M j (cf j T),au,ah aM (λj T=>⟨M j T.1,T.2⟩) (λj T=>⟨⟨(R j T).1,λjz=>(R j T).2 (cf j jz)⟩,λn7=>(R j T).2 n7.1⟩)⟩
theorem wE.len{X:cD}{h:U an}{P:Nat->Prop}{ar:fg}{row:List H}(a:wE X h P ar row):row.length=4:=by
 obtain⟨_,_,_,_,_,rfl,_⟩:=a;rfl
theorem qd.wide{X:cD}{h:U an}:∀{de:List fg}{b6:List (List H)}{P:Nat->Prop},qd X h P de b6->b6.length=de.length/\∀r∈b6,r.length=4:=by
 intro de
 induction de with
 |nil=>rintro b6 P rfl;simp
 |cons I de ah=>
  rintro b6 P ⟨x0,mF,eS,rfl,cf,R,au⟩
  obtain⟨aM,bA⟩:=ah au
  refine⟨by simp[aM],λr S=> ?_⟩
  rcases Zl.1 S with rfl|S
  ·exact R.len
  ·exact bA r S
def pj(X:cD)(h:U an)(P:Nat->Prop)(g:Go.bh.Node)(row:List H):Prop:=∃dk dK bx fG dr eu eI jZ b6,row=[.str g.name, .int .i64 g.at_,dk,dK,bx,fG]/\ej X h P dr dk 8 (g.eM.map eO)/\ej X h P eu dK 8 (g.out.map eO)/\ej X h P eI bx 8 (g.loc.map eO)/\ej X h P jZ fG 4 b6/\qd X h P g.eqs b6
structure sb(X:cD)(h:U an)(n og:Nat)(nm:a1)(I:Int)(dk dK bx:H)(eM out loc:List el):Prop where
 iK:ab X h og=some (.cells (U.ofList [.str nm, .int .i64 I,dk,dK,bx, .aU] 0 .nil) 6 .own)
 lt:og<n
 eH:∃b,ej X h (ef (og+1) n) b dk 8 (eM.map eO)
 fk:∃b,ej X h (ef (og+1) n) b dK 8 (out.map eO)
 hh:∃b,ej X h (ef (og+1) n) b bx 8 (loc.map eO)
theorem sb.af{X:cD}{h V:U an}{n aY og:Nat}{nm:a1}{I:Int}{dk dK bx:H}{eM out loc:List el}(a:sb X h n og nm I dk dK bx eM out loc)(B:∀j,og<=j->j<n->ab X V j=ab X h j)(aS:n<=aY):sb X V aY og nm I dk dK bx eM out loc:=by
 have dx:∀j,ef (og+1) n j->ab X V j=ab X h j:=λj T=>B j (by have:=T.1;omega) T.2
 have QG:∀j,ef (og+1) n j->ef (og+1) aY j:=λj T=>⟨T.1,by have:=T.2;omega⟩
 obtain⟨dr,M⟩:=a.eH
 obtain⟨eu,R⟩:=a.fk
 obtain⟨eI,au⟩:=a.hh
 exact⟨by rw[B og (Zj _) a.lt];exact a.iK,by have:=a.lt;omega,⟨dr,(M.af dx).lift QG⟩,⟨eu,(R.af dx).lift QG⟩,⟨eI,(au.af dx).lift QG⟩⟩
section
variable{X:cD}{h V bb aV:U an}{k av aQ bp aF bE:Nat}{aR:List Tok}{i:Nat}
theorem sb.fr{n aY og:Nat}{nm:a1}{I:Int}{dk dK bx:H}{eM out loc:List el}(a:sb X h n og nm I dk dK bx eM out loc)(fV:cu X [aF] h n V aY)(ai:aF<og):sb X V aY og nm I dk dK bx eM out loc:=
 a.af (λj M R=>fV.af j R (by simp;omega)) fV.le
theorem atD{iN kZ:a1}{l:List Tok}:qU [iN,kZ] gG l=andThen (ei iN l) λ_ l=>ei kZ l:=by
 simp only[qU]
 cases a:ei iN l with
 |none=>rfl
 |some r=>
  cases r with
  |error I=>rfl
  |ok p=>
   obtain⟨x,cd⟩:=p
   simp only[andThen]
   cases ei kZ cd with
   |none=>rfl
   |some fk=>cases fk with
    |error I=>rfl
    |ok p=>obtain⟨j,c5⟩:=p;rfl
theorem apP(aA:d7 X)(eJ:vg X){n:Nat}(pJ:n<=200000)(kU:aR.length<=100000)(ax:ib X h k aF bE aR i){r:Except Int (Go.bh.Node×List Tok)}(S:Go.bh.node n (aR.drop i)=some r):
 a6 X 117 [.ptr aF 0] h k (λad V av=>∃g cy row,r= .ok (g,aR.drop cy)/\ad= .agg row/\pj X V (ef k av) g row/\bh X V aF bE aR cy/\cu X [aF] h k V av) (it X aF h k r):=by
 refine dj (adh X) (aA.none _ _ rfl) ?_
 rw[adi]
 unfold Sz
 have gr:=ax.bj
 have jN:=ax.g0
 have hL:=ax.fK
 have jd:=ax.gF
 unfold Go.bh.node at S
 refine c0 ⟨?_⟩
 refine eZ (λbb=>ab X bb (k+1)=some (.cells (U.ofList [.str [110,111,100,101]] 0 .nil) 1 .own)/\ab X bb k=some (.cells (U.ofList [.str [], .int .i64 0, .aU, .aU, .aU, .aU] 0 .nil) 6 .own)/\bB X h k bb (k+1+1)) ⟨bq Zo,by simp(disch:=omega) only[aK,bq]<;>rfl,dR⟩ ?_
 rintro bb ⟨aC,py,b8⟩
 have me:=ax.go (ax.par.ex b8 Zo Zo) (by omega:k<=k+1+1)
 have hl:cu X [aF] h k bb (k+1+1):=cu.of b8
 rcases f4 S with ⟨I,R,rfl⟩|⟨hC,c5,R,S⟩
 ·exact(i2 aA me Zo Zo aC R).mono (λad V av a=>by obtain⟨E,cy,a,_⟩:=a;cases a) (λad V av a=>a.of hl (λ_ a=>by cases a;rfl))
 refine(i2 aA me Zo Zo aC R).mono ?_ (λad V av a=>by obtain⟨I,a,_⟩:=a;cases a)
 clear R
 rintro act aV bp ⟨awj,jh,Hc,_,dh,dl⟩
 cases Hc
 have gZ:=dl.le
 have vF:=hl.trans dl
 have tI:ab X aV k=some (.cells (U.ofList [.str [], .int .i64 0, .aU, .aU, .aU, .aU] 0 .nil) 6 .own):=by rw[dl.af _ Zo (by simp;omega)];exact py
 have fq:=ax.go dh vF.le
 clear aC py b8 me hl dl
 cases sJ:aR.drop jh with
 |nil=>rw[sJ]at S;simp[io,andThen]at S
 |cons x eN=>
 rw[sJ]at S
 simp only[io]at S
 refine(AD aA fq.bj fq.par fq.fK fq.g0 fq.gF fq.many (fm sJ).1 1).mono ?_ (λFz b4 cA a=>by
  obtain⟨aP,rfl,dO⟩:=a
  rw[Zg aP]at S
  simp only[andThen,bad,Ze]at S
  subst S
  exact⟨_,rfl,rfl,vF.trans dO⟩)
 rintro C5 bo bw ⟨aP,rfl,gg,en⟩
 have jf:=en.le
 rw[Zr aP]at S
 simp only[andThen,ok]at S
 rw[<-(fm sJ).2]at S
 have sz:ab X bo k=some (.cells (U.ofList [.str [], .int .i64 0, .aU, .aU, .aU, .aU] 0 .nil) 6 .own):=by rw[en.af _ Zo (by simp;omega)];exact tI
 have DR:=vF.trans en
 clear tI en vF dh fq
 refine cx bZ.eq_1 ⟨?_⟩
 refine eZ (λbX=>ab X bX (bw+1+1)=some (.cells (U.ofList [.str [40]] 0 .nil) 1 .own)/\sb X bX (bw+1+1+1) (bw+1) x.text x.at_ .aU .aU .aU [] [] []/\bB X bo bw bX (bw+1+1+1)) ⟨bq Zo,⟨by simp(disch:=omega) only[aK,bq]<;>rfl,Zo,⟨0,ej.nil _ _⟩,⟨0,ej.nil _ _⟩,⟨0,ej.nil _ _⟩⟩,dR⟩ ?_
 rintro bX ⟨Bz,aa0,dN⟩
 have w8:ab X bX k=some (.cells (U.ofList [.str [], .int .i64 0, .aU, .aU, .aU, .aU] 0 .nil) 6 .own):=by rw[dN.af _ Zo];exact sz
 have eD:=DR.trans (cu.of dN)
 have kn:=ax.go (gg.ex dN Zo Zo) (by omega:k<=bw+1+1+1)
 clear sz DR gg dN
 change andThen (ei [40] (aR.drop (jh+1))) _=some r at S
 rcases f4 S with ⟨I,R,rfl⟩|⟨hC,c5,R,S⟩
 ·exact(i2 aA kn Zo Zo Bz R).mono (λad V av a=>by obtain⟨E,cy,a,_⟩:=a;cases a) (λad V av a=>a.of eD (λ_ a=>by cases a;rfl))
 refine(i2 aA kn Zo Zo Bz R).mono ?_ (λad V av a=>by obtain⟨I,a,_⟩:=a;cases a)
 clear R
 rintro v5 b4 cA ⟨awk,i5,rr,_,gU,dO⟩
 cases rr
 have iW:=dO.le
 have aa1:=aa0.fr dO Zo
 have DL:ab X b4 k=some (.cells (U.ofList [.str [], .int .i64 0, .aU, .aU, .aU, .aU] 0 .nil) 6 .own):=by rw[dO.af _ Zo (by simp;omega)];exact w8
 have xd:=eD.trans dO
 have nG:=ax.go gU xd.le
 clear aa0 w8 eD dO Bz kn
 obtain⟨j,kX,G9,HM⟩:=p7 S
 refine(m7 aA nG G9 _).Zm ?_
 rintro acp ck eo ⟨rfl,g9,ev⟩
 have rB:=ev.le
 have LR:=aa1.fr ev Zo
 have yR:ab X ck k=some (.cells (U.ofList [.str [], .int .i64 0, .aU, .aU, .aU, .aU] 0 .nil) 6 .own):=by rw[ev.af _ Zo (by simp;omega)];exact DL
 have tM:=xd.trans ev
 clear aa1 DL xd ev gU nG
 refine rg bZ.eq_1 ⟨?_⟩
 refine j6 (λJ V aY=>∃(dk:H) (eM:List el) (cy:Nat),J.g 0=some (.ptr aF 0)/\J.g 2=some (.ptr k 0)/\J.g 4=some (.ptr (bw+1) 0)/\sb X V aY (bw+1) x.text x.at_ dk .aU .aU eM [] []/\ab X V k=some (.cells (U.ofList [.str [], .int .i64 0, .aU, .aU, .aU, .aU] 0 .nil) 6 .own)/\bh X V aF bE aR cy/\cu X [aF] h k V aY/\
  (andThen (ei [114,101,116,117,114,110,115] (aR.drop cy)) λ_ l=>andThen (ei [40] l) λ_ l=>andThen (iG n false [] l) λout l=>andThen (ei [41] l) λ_ l=>
   hZ [118,97,114] l λj l=>andThen (match j with
    |some _=>andThen (iG n true [] l) λds l=>andThen (ei [59] l) λ_ l=>ok ds l
    |none=>ok [] l) λloc l=>
   andThen (ei [108,101,116] l) λ_ l=>andThen (lf n [] l) λde l=>ok (⟨x.text,x.at_,eM,out,loc,de⟩:Go.bh.Node) l)=some r) (λaa bK=> ?_) ?_
 ·rcases HM with ⟨aH,S⟩|⟨aH,S⟩
  ·rw[aH]at g9 ⊢
   simp only[ZB]at g9 ⊢
   rw[<-(fm G9).2]at S
   simp only[andThen,ok]at S
   refine cx bZ.eq_1 ⟨?_⟩
   refine bK _ _ _ ⟨.aU,[],i5+1,bv,bv,bv,LR.af (λj M R=>by simp(disch:=omega) only[aK]) Zo,by simp(disch:=omega) only[aK];exact yR,g9.af (by simp(disch:=omega) only[aK]) (by simp(disch:=omega) only[aK]), ?_,S⟩
   exact⟨Zo,λb ai bO=>by rw[<-tM.af b ai bO];simp(disch:=omega) only[aK]⟩
  ·rw[aH]at g9 ⊢
   simp only[Zt,Zx]at g9 ⊢
   simp only[]at S
   refine dc bZ.eq_1 gG.eq_1 ⟨?_⟩
   refine eZ (λcC=>bB X ck eo cC (eo+1)) dR ?_
   intro cC e9
   have Cx:=LR.fr (cu.of (X:=[aF]) e9) Zo
   have w9:ab X cC k=some (.cells (U.ofList [.str [], .int .i64 0, .aU, .aU, .aU, .aU] 0 .nil) 6 .own):=by rw[e9.af _ Zo];exact yR
   have eV:=tM.trans (cu.of e9)
   have mD:=ax.go (g9.ex e9 Zo Zo) (by omega:k<=eo+1)
   clear LR yR tM g9 e9
   rcases f4 S with ⟨I,aN,rfl⟩|⟨eM,aoT,aN,S⟩
   ·rcases f4 aN with ⟨f2,R,au⟩|⟨ds,nA,R,aN⟩
    ·cases au
     exact(Dz aA kU mD R).mono (λad V av a=>by obtain⟨E,cy,b,a,_⟩:=a;cases a) (λad V av a=>a.of eV (λ_ a=>by cases a;rfl))
    refine(Dz aA kU mD R).mono ?_ (λad V av a=>by obtain⟨I,a,_⟩:=a;cases a)
    rintro FA dQ fa ⟨aid,i8,UD,BT,B7,v2,gy⟩
    cases BT
    have vV:=gy.le
    have E1:=Cx.fr gy Zo
    obtain⟨he,md,s3⟩:=lo B7.len
    refine c0 ⟨?_⟩
    have w7:=E1.iK
    refine fH (qO (W:=2) w7 Zo Zo he md) ?_
    refine c0 ⟨?_⟩
    refine eZ (λdL=>ab X dL fa=some (.cells (U.ofList [.str [41]] 0 .nil) 1 .own)/\∀j,j<fa->j≠(bw+1)->ab X dL j=ab X dQ j) ⟨bq Zo,λj M R=>by simp(disch:=omega) only[aK]⟩ ?_
    rintro dL ⟨OE,gm⟩
    have l2:=v2.af (gm _ Zo Zo) (gm _ Zo Zo)
    have hv:cu X [aF] h k dL (fa+1):=⟨Zo,λb ai bO=>by rw[gm b Zo Zo];exact(eV.trans gy).af b ai bO⟩
    rcases f4 aN with ⟨f2,aM,bA⟩|⟨tg,rJ,aM,aN⟩
    ·cases bA
     exact(i2 aA (ax.go l2 Zo) Zo Zo OE aM).mono (λad V av a=>by obtain⟨E,cy,a,_⟩:=a;cases a) (λad V av a=>a.of hv (λ_ a=>by cases a;rfl))
    ·cases aN
   ·rcases f4 aN with ⟨f2,R,au⟩|⟨ds,nA,R,aN⟩
    ·cases au
    refine(Dz aA kU mD R).mono ?_ (λad V av a=>by obtain⟨I,a,_⟩:=a;cases a)
    rintro FA dQ fa ⟨aid,i8,UD,BT,B7,v2,gy⟩
    cases BT
    have vV:=gy.le
    have E1:=Cx.fr gy Zo
    obtain⟨he,md,s3⟩:=lo B7.len
    refine c0 ⟨?_⟩
    have w7:=E1.iK
    refine fH (qO (W:=2) w7 Zo Zo he md) ?_
    refine c0 ⟨?_⟩
    refine eZ (λdL=>ab X dL fa=some (.cells (U.ofList [.str [41]] 0 .nil) 1 .own)/\ab X dL (bw+1)=some (.cells (U.ofList [.str x.text, .int .i64 x.at_,FA, .aU, .aU, .aU] 0 .nil) 6 .own)/\∀j,j<fa->j≠(bw+1)->ab X dL j=ab X dQ j) ⟨bq Zo,by rw[aK Zo Zo,bq Zo];rfl,λj M R=>by simp(disch:=omega) only[aK]⟩ ?_
    rintro dL ⟨OE,DJ,gm⟩
    have l2:=v2.af (gm _ Zo Zo) (gm _ Zo Zo)
    have hv:cu X [aF] h k dL (fa+1):=⟨Zo,λb ai bO=>by rw[gm b Zo Zo];exact(eV.trans gy).af b ai bO⟩
    have avc:=Cx.lt
    have Io:sb X dL (fa+1) (bw+1) x.text x.at_ FA .aU .aU _ [] []:=⟨DJ,Zo,⟨UD,(B7.af (λj T=>gm j T.2 (by have:=T.1;omega))).lift (λj T=>⟨by have:=T.1;omega,by have:=T.2;omega⟩)⟩,⟨0,ej.nil _ _⟩,⟨0,ej.nil _ _⟩⟩
    have vB:ab X dL k=some (.cells (U.ofList [.str [], .int .i64 0, .aU, .aU, .aU, .aU] 0 .nil) 6 .own):=by rw[gm _ Zo Zo,gy.af _ Zo (by simp;omega)];exact w9
    rcases f4 aN with ⟨f2,aM,bA⟩|⟨tg,rJ,aM,aN⟩
    ·cases bA
    refine(i2 aA (ax.go l2 Zo) Zo Zo OE aM).mono ?_ (λad V av a=>by obtain⟨I,a,_⟩:=a;cases a)
    rintro tc vj Ig ⟨ML,κ,Pc,_,Eg,sG⟩
    cases Pc
    cases aN
    exact bK _ _ _ ⟨FA,_,κ,bv,bv,bv,Io.fr sG Zo,by rw[sG.af _ Zo (by simp;omega)];exact vB,Eg,hv.trans sG,S⟩
 ·clear HM g9 LR yR tM S
  rintro J cC ew ⟨dk,eM,n8,t0,eX,t4,Cx,w9,hn,eV,S⟩
  have Pv:=Cx.lt
  refine cx @t0 ⟨?_⟩
  refine eZ (λdQ=>ab X dQ ew=some (.cells (U.ofList [.str [114,101,116,117,114,110,115], .str [40]] 0 .nil) 2 .own)/\bB X cC ew dQ (ew+1)) ⟨bq Zo,dR⟩ ?_
  rintro dQ ⟨BB,j1⟩
  have E1:=Cx.fr (cu.of (X:=[aF]) j1) Zo
  have Kl:ab X dQ k=some (.cells (U.ofList [.str [], .int .i64 0, .aU, .aU, .aU, .aU] 0 .nil) 6 .own):=by rw[j1.af _ Zo];exact w9
  have gy:=eV.trans (cu.of j1)
  have rV:=ax.go (hn.ex j1 Zo Zo) (by omega:k<=ew+1)
  clear Cx w9 eV hn j1
  have B7:ej X dQ (λj=>j=ew) ew (.slice ew 0 2 2) 1 (hX [[114,101,116,117,114,110,115],[40]]):=Me (b6:=[[.str [114,101,116,117,114,110,115]],[.str [40]]]) (st:= .own) BB rfl Zs Zd rfl
  have bL:∃x2,qU [[114,101,116,117,114,110,115],[40]] gG (aR.drop n8)=some x2/\andThen (some x2) (λ(_:Tok) l=>andThen (iG n false [] l) λout l=>andThen (ei [41] l) λ_ l=>
   hZ [118,97,114] l λj l=>andThen (match j with
    |some _=>andThen (iG n true [] l) λds l=>andThen (ei [59] l) λ_ l=>ok ds l
    |none=>ok [] l) λloc l=>
   andThen (ei [108,101,116] l) λ_ l=>andThen (lf n [] l) λde l=>ok (⟨x.text,x.at_,eM,out,loc,de⟩:Go.bh.Node) l)=some r:=by
   rw[atD]
   rcases f4 S with ⟨I,M,rfl⟩|⟨be,eh,M,S⟩
   ·exact⟨.error I,by rw[M];rfl,rfl⟩
   ·rcases f4 S with ⟨I,R,rfl⟩|⟨b2,c5,R,S⟩
    ·exact⟨.error I,by rw[M];exact R,rfl⟩
    ·exact⟨.ok (b2,c5),by rw[M];exact R,S⟩
  clear S
  obtain⟨x2,bL,S⟩:=bL
  refine(acG aA rV.bj rV.par rV.fK rV.g0 rV.gF rV.many Zo Zo B7 bL).mono ?_ (λad V av a=>by
   obtain⟨I,rfl,rfl,a⟩:=a
   simp only[andThen,Ze]at S
   subst S
   exact⟨I,rfl,rfl,gy.trans a⟩)
  rintro v9 dL ma ⟨tg,i9,rfl,_,l2,hv⟩
  change andThen (iG n false [] (aR.drop i9)) _=some r at S
  have vW:=hv.le
  have Io:=E1.fr hv Zo
  have vB:ab X dL k=some (.cells (U.ofList [.str [], .int .i64 0, .aU, .aU, .aU, .aU] 0 .nil) 6 .own):=by rw[hv.af _ Zo (by simp;omega)];exact Kl
  have yV:=gy.trans hv
  have Re:=ax.go l2 yV.le
  clear E1 Kl gy hv B7 BB rV bL l2
  refine cx @t0 ⟨?_⟩
  rcases f4 S with ⟨I,R,rfl⟩|⟨out,avH,R,S⟩
  ·exact(Dz aA kU Re R).mono (λad V av a=>by obtain⟨E,cy,b,a,_⟩:=a;cases a) (λad V av a=>a.of yV (λ_ a=>by cases a;rfl))
  refine(Dz aA kU Re R).mono ?_ (λad V av a=>by obtain⟨I,a,_⟩:=a;cases a)
  clear R
  rintro tc vj Ig ⟨out,κ,ag2,Pc,PQ,Eg,sG⟩
  cases Pc
  have auG:=sG.le
  have QU:=Io.fr sG Zo
  have V5:ab X vj k=some (.cells (U.ofList [.str [], .int .i64 0, .aU, .aU, .aU, .aU] 0 .nil) 6 .own):=by rw[sG.af _ Zo (by simp;omega)];exact vB
  have Wo:=yV.trans sG
  obtain⟨he,md,s3⟩:=lo PQ.len
  have au2:=Io.lt
  refine cx @t4 ⟨?_⟩
  refine fH (qO (W:=3) QU.iK Zo Zo he md) ?_
  refine cx @t0 ⟨?_⟩
  refine eZ (λqf=>ab X qf Ig=some (.cells (U.ofList [.str [41]] 0 .nil) 1 .own)/\ab X qf (bw+1)=some (.cells (U.ofList [.str x.text, .int .i64 x.at_,dk,tc, .aU, .aU] 0 .nil) 6 .own)/\∀j,j<Ig->j≠bw+1->ab X qf j=ab X vj j) ⟨bq Zo,by rw[aK Zo Zo,bq Zo];rfl,λj M R=>by simp(disch:=omega) only[aK]⟩ ?_
  rintro qf ⟨OB,DI,Ci⟩
  have Hu:=Eg.af (Ci _ Zo Zo) (Ci _ Zo Zo)
  have vE:cu X [aF] h k qf (Ig+1):=⟨Zo,λb ai bO=>by rw[Ci b Zo Zo];exact Wo.af b ai bO⟩
  have aaZ:sb X qf (Ig+1) (bw+1) x.text x.at_ dk tc .aU eM out []:=by
   obtain⟨F7,El⟩:=QU.eH
   exact⟨DI,Zo,⟨F7,(El.af (λj T=>Ci j T.2 (by have:=T.1;omega))).lift (λj T=>⟨T.1,by have:=T.2;omega⟩)⟩,⟨ag2,(PQ.af (λj T=>Ci j T.2 (by have:=T.1;omega))).lift (λj T=>⟨by have:=T.1;omega,by have:=T.2;omega⟩)⟩,⟨0,ej.nil _ _⟩⟩
  have V6:ab X qf k=some (.cells (U.ofList [.str [], .int .i64 0, .aU, .aU, .aU, .aU] 0 .nil) 6 .own):=by rw[Ci _ Zo Zo];exact V5
  clear Io QU vB V5 yV sG Wo PQ Eg Ci DI Re
  rcases f4 S with ⟨I,aM,rfl⟩|⟨awe,avJ,aM,S⟩
  ·exact(i2 aA (ax.go Hu Zo) Zo Zo OB aM).mono (λad V av a=>by obtain⟨E,cy,a,_⟩:=a;cases a) (λad V av a=>a.of vE (λ_ a=>by cases a;rfl))
  refine(i2 aA (ax.go Hu Zo) Zo Zo OB aM).mono ?_ (λad V av a=>by obtain⟨I,a,_⟩:=a;cases a)
  clear aM
  rintro av9 af5 avQ ⟨awf,μ,alv,_,XI,GP⟩
  cases alv
  have auI:=GP.le
  have QV:=aaZ.fr GP Zo
  have V7:ab X af5 k=some (.cells (U.ofList [.str [], .int .i64 0, .aU, .aU, .aU, .aU] 0 .nil) 6 .own):=by rw[GP.af _ Zo (by simp;omega)];exact V6
  have ON:=vE.trans GP
  have abv:=ax.go XI ON.le
  clear aaZ V6 vE GP Hu OB XI
  refine cx @t0 ⟨?_⟩
  obtain⟨j,avK,WS,ζ⟩:=p7 S
  refine(m7 aA abv WS _).Zm ?_
  rintro av7 T5 QR ⟨rfl,y7,GQ⟩
  have auJ:=GQ.le
  have LQ:=QV.fr GQ Zo
  have Kh:ab X T5 k=some (.cells (U.ofList [.str [], .int .i64 0, .aU, .aU, .aU, .aU] 0 .nil) 6 .own):=by rw[GQ.af _ Zo (by simp;omega)];exact V7
  have Kr:=ON.trans GQ
  have auX:=QV.lt
  clear QV V7 ON GQ abv S
  refine rg bZ.eq_1 ⟨?_⟩
  refine j6 (λJ V aY=>∃(bx:H) (loc:List el) (cy:Nat),J.g 0=some (.ptr aF 0)/\J.g 2=some (.ptr k 0)/\J.g 4=some (.ptr (bw+1) 0)/\sb X V aY (bw+1) x.text x.at_ dk tc bx eM out loc/\ab X V k=some (.cells (U.ofList [.str [], .int .i64 0, .aU, .aU, .aU, .aU] 0 .nil) 6 .own)/\bh X V aF bE aR cy/\cu X [aF] h k V aY/\
   (andThen (ei [108,101,116] (aR.drop cy)) λ_ l=>andThen (lf n [] l) λde l=>ok (⟨x.text,x.at_,eM,out,loc,de⟩:Go.bh.Node) l)=some r) (λaa bK=> ?_) ?_
  ·rcases ζ with ⟨aH,S⟩|⟨aH,S⟩
   ·rw[aH]at y7 ⊢
    simp only[ZB]at y7 ⊢
    rw[<-(fm WS).2]at S
    simp only[]at S
    refine dc bZ.eq_1 @t0 ⟨?_⟩
    refine eZ (λFO=>bB X T5 QR FO (QR+1)) dR ?_
    intro FO GM
    have In:=LQ.fr (cu.of (X:=[aF]) GM) Zo
    have Ki:ab X FO k=some (.cells (U.ofList [.str [], .int .i64 0, .aU, .aU, .aU, .aU] 0 .nil) 6 .own):=by rw[GM.af _ Zo];exact Kh
    have GR:=Kr.trans (cu.of GM)
    have aqN:=ax.go (y7.ex GM Zo Zo) (by omega:k<=QR+1)
    clear LQ Kh Kr y7 GM
    have KG:∃rd,iG n true [] (aR.drop (μ+1))=some rd/\(match rd with
     | .error I=>r= .error I
     | .ok (ds,l)=>∃x2,ei [59] l=some x2/\(match x2 with
       | .error I=>r= .error I
       | .ok (_,l)=>(andThen (ei [108,101,116] l) λ_ l=>andThen (lf n [] l) λde l=>ok (⟨x.text,x.at_,eM,out,ds,de⟩:Go.bh.Node) l)=some r)):=by
     rcases f4 S with ⟨I,aN,rfl⟩|⟨loc,aoT,aN,S⟩
     ·rcases f4 aN with ⟨f2,R,au⟩|⟨ds,nA,R,aN⟩
      ·cases au;exact⟨_,R,rfl⟩
      ·rcases f4 aN with ⟨f2,aM,bA⟩|⟨tg,rJ,aM,aN⟩
       ·cases bA;exact⟨_,R,_,aM,rfl⟩
       ·cases aN
     ·rcases f4 aN with ⟨f2,R,au⟩|⟨ds,nA,R,aN⟩
      ·cases au
      ·rcases f4 aN with ⟨f2,aM,bA⟩|⟨tg,rJ,aM,aN⟩
       ·cases bA
       ·cases aN;exact⟨_,R,_,aM,S⟩
    obtain⟨rd,R,XU⟩:=KG
    refine(Dz aA kU aqN R).mono ?_ (λad V av a=>by
     obtain⟨I,rfl,rfl,a⟩:=a
     subst XU
     exact⟨I,rfl,rfl,GR.trans a⟩)
    rintro R7 Jb LN ⟨ds,avx,ag3,rfl,XT,amz,yT⟩
    obtain⟨x2,aM,XV⟩:=XU
    have auK:=yT.le
    have E0:=In.fr yT Zo
    have Kj:ab X Jb k=some (.cells (U.ofList [.str [], .int .i64 0, .aU, .aU, .aU, .aU] 0 .nil) 6 .own):=by rw[yT.af _ Zo (by simp;omega)];exact Ki
    have akL:=GR.trans yT
    obtain⟨fe,hg,wl⟩:=lo XT.len
    refine cx @t4 ⟨?_⟩
    refine fH (qO (W:=4) E0.iK Zo Zo fe hg) ?_
    refine cx @t0 ⟨?_⟩
    refine eZ (λqf=>ab X qf LN=some (.cells (U.ofList [.str [59]] 0 .nil) 1 .own)/\ab X qf (bw+1)=some (.cells (U.ofList [.str x.text, .int .i64 x.at_,dk,tc,R7, .aU] 0 .nil) 6 .own)/\∀j,j<LN->j≠bw+1->ab X qf j=ab X Jb j) ⟨bq Zo,by rw[aK Zo Zo,bq Zo];rfl,λj M R=>by simp(disch:=omega) only[aK]⟩ ?_
    rintro A8 ⟨akd,ajT,Cj⟩
    have K5:=amz.af (Cj _ Zo Zo) (Cj _ Zo Zo)
    have yU:cu X [aF] h k A8 (LN+1):=⟨Zo,λb ai bO=>by rw[Cj b Zo Zo];exact akL.af b ai bO⟩
    have Cw:sb X A8 (LN+1) (bw+1) x.text x.at_ dk tc R7 eM out ds:=by
     obtain⟨F7,El⟩:=E0.eH
     obtain⟨Nw,kC⟩:=E0.fk
     exact⟨ajT,Zo,⟨F7,(El.af (λj T=>Cj j T.2 (by have:=T.1;omega))).lift (λj T=>⟨T.1,by have:=T.2;omega⟩)⟩,⟨Nw,(kC.af (λj T=>Cj j T.2 (by have:=T.1;omega))).lift (λj T=>⟨T.1,by have:=T.2;omega⟩)⟩,⟨ag3,(XT.af (λj T=>Cj j T.2 (by have:=T.1;omega))).lift (λj T=>⟨by have:=T.1;omega,by have:=T.2;omega⟩)⟩⟩
    have Kk:ab X A8 k=some (.cells (U.ofList [.str [], .int .i64 0, .aU, .aU, .aU, .aU] 0 .nil) 6 .own):=by rw[Cj _ Zo Zo];exact Kj
    refine(i2 aA (ax.go K5 Zo) Zo Zo akd aM).mono ?_ (λad V av a=>by
     obtain⟨I,rfl,rfl,a⟩:=a
     subst XV
     exact⟨I,rfl,rfl,yU.trans a⟩)
    rintro awb FP Ih ⟨awi,Ah,rfl,_,PJ,DQ⟩
    exact bK _ _ _ ⟨R7,ds,Ah,bn t0,bn eX,bn t4,Cw.fr DQ Zo,by rw[DQ.af _ Zo (by simp;omega)];exact Kk,PJ,yU.trans DQ,XV⟩
   ·rw[aH]at y7 ⊢
    simp only[Zt,Zx]at y7 ⊢
    simp only[andThen,ok]at S
    refine dc bZ.eq_1 gG.eq_1 ⟨?_⟩
    refine bK _ _ _ ⟨.aU,[],μ,bn t0,bn eX,bn t4,LQ.af (λj M R=>by simp(disch:=omega) only[aK]) Zo,by simp(disch:=omega) only[aK];exact Kh,y7.af (by simp(disch:=omega) only[aK]) (by simp(disch:=omega) only[aK]), ?_,S⟩
    exact⟨Zo,λb ai bO=>by rw[<-Kr.af b ai bO];simp(disch:=omega) only[aK]⟩
  ·clear ζ y7 LQ Kh Kr t0 eX t4
   rintro J FO LM ⟨bx,loc,avw,t0,eX,t4,In,Ki,XJ,GR,S⟩
   have auY:=In.lt
   refine cx @t0 ⟨?_⟩
   refine eZ (λdQ=>ab X dQ LM=some (.cells (U.ofList [.str [108,101,116]] 0 .nil) 1 .own)/\bB X FO LM dQ (LM+1)) ⟨bq Zo,dR⟩ ?_
   rintro Jb ⟨OC,BH⟩
   have E0:=In.fr (cu.of (X:=[aF]) BH) Zo
   have Kj:ab X Jb k=some (.cells (U.ofList [.str [], .int .i64 0, .aU, .aU, .aU, .aU] 0 .nil) 6 .own):=by rw[BH.af _ Zo];exact Ki
   have yT:=GR.trans (cu.of BH)
   have Rd:=ax.go (XJ.ex BH Zo Zo) (by omega:k<=LM+1)
   clear In Ki GR XJ BH
   rcases f4 S with ⟨I,aM,rfl⟩|⟨awg,avL,aM,S⟩
   ·exact(i2 aA Rd Zo Zo OC aM).mono (λad V av a=>by obtain⟨E,cy,a,_⟩:=a;cases a) (λad V av a=>a.of yT (λ_ a=>by cases a;rfl))
   refine(i2 aA Rd Zo Zo OC aM).mono ?_ (λad V av a=>by obtain⟨I,a,_⟩:=a;cases a)
   clear aM
   rintro awa A8 kF ⟨awh,i16,alw,_,K5,yU⟩
   cases alw
   have auL:=yU.le
   have Cw:=E0.fr yU Zo
   have Kk:ab X A8 k=some (.cells (U.ofList [.str [], .int .i64 0, .aU, .aU, .aU, .aU] 0 .nil) 6 .own):=by rw[yU.af _ Zo (by simp;omega)];exact Kj
   have Wp:=yT.trans yU
   have auZ:=Cw.lt
   clear E0 Kj yT yU Rd OC
   obtain⟨F7,El⟩:=Cw.eH
   obtain⟨Nw,kC⟩:=Cw.fk
   obtain⟨UN,Ld⟩:=Cw.hh
   obtain⟨uU,Fx,C5⟩:=lo El.len
   obtain⟨kr,r4,awd⟩:=lo kC.len
   obtain⟨fI,fs,z3⟩:=lo Ld.len
   refine gh ?_
   refine f8 (λm J V aY=>∃(fG:H) (de:List fg) (b6:List (List H)) (db:List Nat) (cy:Nat),J.g 0=some (.ptr aF 0)/\J.g 2=some (.ptr k 0)/\J.g 4=some (.ptr (bw+1) 0)/\ab X V (bw+1)=some (.cells (U.ofList [.str x.text, .int .i64 x.at_,dk,tc,bx,fG] 0 .nil) 6 .own)/\
    (∀j,bw+2<=j->j<kF->ab X V j=ab X A8 j)/\hE X V fG 4 b6.flatten db/\(∀j∈db,kF<=j/\j<aY)/\qd X V (uL kF aY db) de b6/\ab X V k=some (.cells (U.ofList [.str [], .int .i64 0, .aU, .aU, .aU, .aU] 0 .nil) 6 .own)/\bh X V aF bE aR cy/\cu X [aF] h k V aY/\kF<=aY/\de.length+m<=n/\
    (andThen (lf m de (aR.drop cy)) λde l=>ok (⟨x.text,x.at_,eM,out,loc,de⟩:Go.bh.Node) l)=some r)
    n ⟨.aU,[],[],[],i16,t0,eX,t4,Cw.iK,λ_ _ _=>rfl, .inl (.inl ⟨rfl,rfl,rfl⟩),Zs,rfl,Kk,K5,Wp,Zj _,Zs,S⟩ ?_
   clear S K5 Kk Wp t0 eX t4
   rintro m J FP Ih ⟨fG,de,b6,db,Ah,t0,eX,t4,Om,aaj,Lg,vK,K9,V8,PJ,DQ,auM,au4,S⟩
   cases m with
   |zero=>simp[lf,andThen]at S
   |succ m=>
   unfold lf at S
   have aqO:=ax.go PJ DQ.le
   refine gh ?_
   refine cx @t0 ⟨?_⟩
   have HD:∃j l,aR.drop Ah=j::l/\((hA j [116,101,108]=true/\ok (⟨x.text,x.at_,eM,out,loc,de⟩:Go.bh.Node) l=some r)\/(hA j [116,101,108]=false/\(andThen (andThen (tz m (aR.drop Ah)) λar l=>lf m (de++[ar]) l) λde l=>ok (⟨x.text,x.at_,eM,out,loc,de⟩:Go.bh.Node) l)=some r)):=by
    rcases f4 S with ⟨I,M,rfl⟩|⟨abF,cd,M,S⟩
    ·obtain⟨j,l,R,au⟩:=p7 M
     rcases au with ⟨au,aM⟩|⟨au,aM⟩
     ·cases aM
     ·exact⟨j,l,R, .inr ⟨au,by rw[show(andThen (tz m (aR.drop Ah)) λar l=>lf m (de++[ar]) l)=some (.error I) from aM];rfl⟩⟩
    ·obtain⟨j,l,R,au⟩:=p7 M
     rcases au with ⟨au,aM⟩|⟨au,aM⟩
     ·cases aM
      exact⟨j,_,R, .inl ⟨au,S⟩⟩
     ·exact⟨j,l,R, .inr ⟨au,by rw[show(andThen (tz m (aR.drop Ah)) λar l=>lf m (de++[ar]) l)=some (.ok (abF,cd)) from aM];exact S⟩⟩
   clear S
   obtain⟨j,avM,WT,anx⟩:=HD
   refine(m7 aA aqO WT _).Zm ?_
   rintro av8 A9 uE ⟨rfl,ud,OO⟩
   have auN:=OO.le
   have HW:∀j,k<=j->j<Ih->ab X A9 j=ab X FP j:=λj M R=>OO.af j R (by simp;omega)
   have Wq:=DQ.trans OO
   rcases anx with ⟨aH,S⟩|⟨aH,S⟩
   ·rw[aH]at ud ⊢
    simp only[ZB]at ud ⊢
    simp only[ok,Ze]at S
    subst S
    obtain⟨bF,cB,fh⟩:=hE.one Lg
    have On:ab X A9 (bw+1)=some (.cells (U.ofList [.str x.text, .int .i64 x.at_,dk,tc,bx,fG] 0 .nil) 6 .own):=by rw[HW _ Zo Zo];exact Om
    have aj9:ab X A9 k=some (.cells (U.ofList [.str [], .int .i64 0, .aU, .aU, .aU, .aU] 0 .nil) 6 .own):=by rw[HW _ Zo Zo];exact V8
    refine hk bZ.eq_1 @t4 (bW On) @eX ⟨?_⟩
    refine fH (iO (B:=6) (b:=k) (W:=0) (n:=6) (c:=U.ofList [.str [], .int .i64 0, .aU, .aU, .aU, .aU] 0 .nil) (by simp(disch:=omega) only[aK];exact aj9) Zo rfl Zd Zd (by simp[H.cells,kl,Fx,r4,fs,cB,show o8 (.int .i64 x.at_)=true from rfl,show o8 (.str x.text)=true from rfl])) ?_
    refine cx @eX ⟨?_⟩
    have Ck:∀gb,(∀j,k<j->j<uE->ab X gb j=ab X A9 j)->∀j,k<j->j<Ih->ab X gb j=ab X FP j:=λgb a j M R=>by rw[a j M Zo,HW j Zo R]
    generalize Wy:bm X _ k _=gb
    have Lu:∀j,j≠k->j<uE->ab X gb j=ab X A9 j:=λj M R=>by rw[<-Wy];simp(disch:=omega) only[aK]
    clear Wy
    have Qo:=Ck gb (λj M R=>Lu j Zo R)
    have xx:=K9.wide
    obtain⟨ag8,Lc⟩:=(Lg.af (V:=gb) (λj T=>Qo j (by have:=vK j T;omega) (vK j T).2)).AQ Zd xx.2 (by rw[xx.1];omega) (P:=ef k (uE+1)) (λj T=>by have:=vK j T;exact⟨Zo,Zo⟩)
    have cH:∀j,ef (bw+1+1) kF j->ab X gb j=ab X A8 j:=λj T=>by
     have M:=T.1;have R:=T.2
     rw[Qo j Zo Zo];exact aaj j Zo R
    have eN:∀j,ef (bw+1+1) kF j->ef k (uE+1) j:=λj T=>⟨by have:=T.1;omega,by have:=T.2;omega⟩
    refine⟨_,Ah+1,_,by rw[(fm WT).2],rfl,⟨dk,tc,bx,fG,F7,Nw,UN,ag8,b6,rfl,(El.af cH).lift eN,(kC.af cH).lift eN,(Ld.af cH).lift eN,Lc, ?_⟩, ?_, ?_⟩
    ·exact K9.af (λj T=>Qo j (by have:=T.1;omega) T.2.1) (λj T=>⟨by have:=T.1;omega,by have:=T.2.1;omega⟩)
    ·exact ud.af (Lu _ Zo Zo) (Lu _ Zo Zo)
    ·exact⟨Zo,λb ai bO=>by rw[Lu b Zo Zo];exact Wq.af b ai bO⟩
   ·rw[aH]at ud ⊢
    simp only[Zt,Zx]at ud ⊢
    obtain⟨bF,cB,fh⟩:=hE.one Lg
    have On:ab X A9 (bw+1)=some (.cells (U.ofList [.str x.text, .int .i64 x.at_,dk,tc,bx,fG] 0 .nil) 6 .own):=by rw[HW _ Zo Zo];exact Om
    refine gd bZ.eq_1 gG.eq_1 @t4 (bW On) @t0 ⟨?_⟩
    refine eZ (λM7=>bB X A9 uE M7 (uE+1+8)) dR ?_
    intro M7 OK
    have aod:∀j,k<=j->j<Ih->ab X M7 j=ab X FP j:=λj M R=>by rw[OK.af j Zo];exact HW j M R
    have Wr:=Wq.trans (cu.of OK)
    have aqP:=ax.go (ud.ex OK Zo Zo) (by omega:k<=uE+1+8)
    have am3:∃CR,tz m (aR.drop Ah)=some CR/\(match CR with
     | .error I=>r= .error I
     | .ok (ar,l)=>(andThen (lf m (de++[ar]) l) λde l=>ok (⟨x.text,x.at_,eM,out,loc,de⟩:Go.bh.Node) l)=some r):=by
     rcases f4 S with ⟨I,M,rfl⟩|⟨abF,cd,M,S⟩
     ·rcases f4 M with ⟨f2,R,au⟩|⟨ar,l,R,au⟩
      ·cases au;exact⟨_,R,rfl⟩
      ·exact⟨_,R,by show andThen _ _=_;rw[au];rfl⟩
     ·rcases f4 M with ⟨f2,R,au⟩|⟨ar,l,R,au⟩
      ·cases au
      ·exact⟨_,R,by show andThen _ _=_;rw[au];exact S⟩
    obtain⟨CR,M,ha⟩:=am3
    refine(aiJ aA eJ Zo aqP M).mono ?_ (λad V av a=>by
     obtain⟨I,rfl,rfl,a⟩:=a
     subst ha
     exact⟨I,rfl,rfl,Wr.trans a⟩)
    rintro awc FQ aaS ⟨ar,anJ,row,rfl,rfl,PS,amA,OP⟩
    have auO:=OP.le
    have akM:=Wr.trans OP
    have HX:∀j,k<=j->j<Ih->ab X FQ j=ab X FP j:=λj M R=>by rw[OP.af j Zo (by simp;omega)];exact aod j M R
    have VW:ab X FQ (bw+1)=some (.cells (U.ofList [.str x.text, .int .i64 x.at_,dk,tc,bx,fG] 0 .nil) 6 .own):=by rw[HX _ Zo Zo];exact Om
    have am2:=PS.len
    obtain⟨i1,eH,fk,hh,rfl⟩:∃i1 eH fk hh,row=[i1,eH,fk,hh]:=by
     match row,am2 with
     |[I,b,c,d],_=>exact⟨I,b,c,d,rfl⟩
    have y6:kl [i1,eH,fk,hh]=true:=by obtain⟨_,_,_,_,_,M,_,_,_,bA⟩:=PS;exact bA
    refine cx (bW VW) ⟨?_⟩
    refine jH fh ?_
    have iX:jR X (bm X FQ (uE+1+4) (some (.cells (U.ofList [i1,eH,fk,hh] 0 .nil) 4 .own))) 4 (.slice (uE+1+4) 0 1 1)=some (1,[i1,eH,fk,hh]):=s9 (bq Zo) (o1 _) rfl _
    have xx:=K9.wide
    have sM:=w4 xx.2
    obtain⟨arV,Jc,iE,j3,XZ,Kz,al3⟩:=(Lg.af (V:=bm X FQ (uE+1+4) (some (.cells (U.ofList [i1,eH,fk,hh] 0 .nil) 4 .own))) (λj T=>by have:=vK j T;rw[aK Zo Zo];exact HX j Zo Zo)).append (k:=aaS) Zd iX rfl Zd y6 (by rw[sM,xx.1];simp only[ZC,ZR];omega) Zo (λj T=>by have:=vK j T;omega)
    refine kI j3 ?_
    obtain⟨ez,eT,f3⟩:=kb.one XZ
    have Am:∀j,j<aaS->j≠uE+1+4->j∉db->ab X Jc j=ab X FQ j:=λj M R au=>by rw[al3 j Zo au,aK Zo R]
    have dS:∀j,j<kF->j∉db:=λj M R=>by have:=vK j R;omega
    have ajV:ab X Jc (bw+1)=some (.cells (U.ofList [.str x.text, .int .i64 x.at_,dk,tc,bx,fG] 0 .nil) 6 .own):=by rw[Am _ Zo Zo (dS _ Zo)];exact VW
    refine cx @t4 ⟨?_⟩
    refine fH (qO (W:=5) ajV Zo Zo ez eT) ?_
    have An:∀j,j≠bw+1->∀cJ,ab X (bm X Jc (bw+1) cJ) j=ab X Jc j:=λj a cJ=>aK Zo a
    refine⟨m,Zo,arV,de++[ar],b6++[[i1,eH,fk,hh]],iE,anJ,bn t0,bn eX,bn t4,by rw[bq Zo];rfl, ?_, .inl ?_, ?_, ?_, ?_, ?_, ?_,Zo,by simp;omega,ha⟩
    ·intro j M R
     rw[An j Zo,Am j Zo Zo (dS j R),HX j Zo Zo]
     exact aaj j M R
    ·rw[zm,Yp,List.flatten_nil,YC]
     exact XZ.af λj T=>An j (by rcases Kz j T with rfl|a;omega;have:=vK j a;omega) _
    ·intro j T
     rcases Kz j T with rfl|a
     ·omega
     ·have:=vK j a;omega
    ·refine qd.snoc (PS.af (λj T=> ?_) (λj T=>T)) (K9.af (λj T=> ?_) (λj T=>T)) (λj T=> ?_) (λj T=>⟨?_,λn7=>by have:=T.1;have:=n7.2.1;omega⟩)
     ·have M:=T.1;have R:=T.2
      rw[An j Zo,Am j Zo Zo (λa=>by have:=vK j a;omega)]
     ·have M:=T.1;have R:=T.2.1
      rw[An j Zo,Am j Zo Zo T.2.2,HX j Zo Zo]
     ·have M:=T.1;have R:=T.2.1
      refine⟨M,Zo,λa=> ?_⟩
      rcases Kz j a with rfl|a
      ·omega
      ·exact T.2.2 a
     ·have M:=T.1;have R:=T.2
      refine⟨Zo,Zo,λa=> ?_⟩
      rcases Kz j a with rfl|a
      ·omega
      ·have:=vK j a;omega
    ·rw[An _ Zo,Am _ Zo Zo (dS _ Zo),HX _ Zo Zo];exact V8
    ·exact amA.af (by rw[An _ Zo,Am _ Zo Zo (dS _ Zo)]) (by rw[An _ Zo,Am _ Zo Zo (dS _ Zo)])
    ·exact⟨Zo,λb ai bO=>by rw[An b Zo,Am b Zo Zo (dS b Zo)];exact akM.af b ai bO⟩
end
end
end Go.Proofs.YtpfajohmofnkfaaGreatDoor

namespace Go.Proofs.YtpfajohmofnkfaaGreatDoor
open Go.al Go.bh
noncomputable section
def oF(X:cD)(h:U an):(Nat->Prop)->List Go.bh.Node->List (List H)->Prop
 |_,[],b6=>b6=[]
 |P,ar::de,b6=>∃row mF bR,b6=row::mF/\(∀j,bR j->P j)/\pj X h bR ar row/\oF X h (λj=>P j/\¬bR j) de mF
theorem pj.af{X:cD}{h V:U an}{P bR:Nat->Prop}{g:Go.bh.Node}{row:List H}(a:pj X h P g row)(B:∀j,P j->ab X V j=ab X h j)(aE:∀j,P j->bR j):pj X V bR g row:=by
 obtain⟨dk,dK,bx,fG,dr,eu,eI,jZ,b6,E,M,R,au,aM,bA⟩:=a
 exact⟨dk,dK,bx,fG,dr,eu,eI,jZ,b6,E,(M.af B).lift aE,(R.af B).lift aE,(au.af B).lift aE,(aM.af B).lift aE,bA.af B aE⟩
theorem pj.len{X:cD}{h:U an}{P:Nat->Prop}{g:Go.bh.Node}{row:List H}(a:pj X h P g row):row.length=6:=by
 obtain⟨dk,dK,bx,fG,dr,eu,eI,jZ,b6,E,_⟩:=a
 subst E;rfl
theorem oF.af{X:cD}{h V:U an}:∀{de:List Go.bh.Node}{b6:List (List H)}{P bR:Nat->Prop}(B:∀j,P j->ab X V j=ab X h j) (aE:∀j,P j->bR j),oF X h P de b6->oF X V bR de b6:=by
 intro de
 induction de with
 |nil=>intro b6 P bR B aE a;exact a
 |cons ar de ah=>
  rintro b6 P bR B aE ⟨row,mF,eS,M,cf,R,au⟩
  exact⟨row,mF,eS,M,λj T=>aE j (cf j T),R.af (λj T=>B j (cf j T)) (λj T=>T),ah (λj T=>B j T.1) (λj T=>⟨aE j T.1,T.2⟩) au⟩
theorem oF.snoc{X:cD}{h:U an}{bR:Nat->Prop}{ar:Go.bh.Node}{row:List H}(a:pj X h bR ar row):∀{de:List Go.bh.Node}{b6:List (List H)}{nN P:Nat->Prop},oF X h nN de b6->(∀j,nN j->P j)->(∀j,bR j->P j/\¬nN j)->oF X h P (de++[ar]) (b6++[row]):=by
 intro de
 induction de with
 |nil=>rintro b6 nN P rfl M R;exact⟨row,[],bR,rfl,λj T=>(R j T).1,a,rfl⟩
 |cons I de ah=>
  rintro b6 nN P ⟨x0,mF,eS,rfl,cf,au,aM⟩ M R
  exact⟨x0,mF++[row],eS,rfl,λj T=>M j (cf j T),au,ah aM (λj T=>⟨M j T.1,T.2⟩) (λj T=>⟨⟨(R j T).1,λjz=>(R j T).2 (cf j jz)⟩,λn7=>(R j T).2 n7.1⟩)⟩
theorem oF.wide{X:cD}{h:U an}:∀{de:List Go.bh.Node}{b6:List (List H)}{P:Nat->Prop},oF X h P de b6->b6.length=de.length/\∀r∈b6,r.length=6:=by
 intro de
 induction de with
 |nil=>rintro b6 P rfl;simp
 |cons I de ah=>
  rintro b6 P ⟨x0,mF,eS,rfl,cf,R,au⟩
  obtain⟨aM,bA⟩:=ah au
  refine⟨by simp[aM],λr S=> ?_⟩
  rcases Zl.1 S with rfl|S
  ·exact R.len
  ·exact bA r S
theorem oF.get{X:cD}{h:U an}:∀{de:List Go.bh.Node}{b6:List (List H)}{P:Nat->Prop},oF X h P de b6->∀(i:Nat) g,de[i]? =some g->∃row,b6[i]? =some row/\pj X h P g row:=by
 intro de
 induction de with
 |nil=>intro b6 P _ i g a;simp at a
 |cons I de ah=>
  rintro b6 P ⟨x0,mF,eS,rfl,cf,R,au⟩ i g a
  cases i with
  |zero=>simp at a;subst a;exact⟨x0,rfl,R.af (λ_ _=>rfl) cf⟩
  |succ i=>simp at a;obtain⟨row,aM,bA⟩:=ah au i g a;exact⟨row,by simpa using aM,bA.af (λ_ _=>rfl) (λj T=>T.1)⟩
theorem qd.get{X:cD}{h:U an}:∀{de:List fg}{b6:List (List H)}{P:Nat->Prop},qd X h P de b6->∀(i:Nat) g,de[i]? =some g->∃row,b6[i]? =some row/\wE X h P g row:=by
 intro de
 induction de with
 |nil=>intro b6 P _ i g a;simp at a
 |cons I de ah=>
  rintro b6 P ⟨x0,mF,eS,rfl,cf,R,au⟩ i g a
  cases i with
  |zero=>simp at a;subst a;exact⟨x0,rfl,R.af (λ_ _=>rfl) cf⟩
  |succ i=>simp at a;obtain⟨row,aM,bA⟩:=ah au i g a;exact⟨row,by simpa using aM,bA.af (λ_ _=>rfl) (λj T=>T.1)⟩
theorem pj.kl{X:cD}{h:U an}{P:Nat->Prop}{g:Go.bh.Node}{row:List H}(a:pj X h P g row):Go.al.kl row=true:=by
 obtain⟨dk,dK,bx,fG,dr,eu,eI,jZ,b6,rfl,M,R,au,aM,_⟩:=a
 simp[Go.al.kl,(lo M.len).2.1,(lo R.len).2.1,(lo au.len).2.1,(lo aM.len).2.1,show o8 (.int .i64 g.at_)=true from rfl,show o8 (.str g.name)=true from rfl]
def sc(X:cD)(h:U an)(P:Nat->Prop)(aC:List Go.bh.Node)(v:H):Prop:=∃b bx cN b6,v= .ptr b 0/\P b/\ao X h (.ptr b 0)=some bx/\ej X h P cN bx 6 b6/\oF X h P aC b6
theorem sc.af{X:cD}{h V:U an}{P bR:Nat->Prop}{aC:List Go.bh.Node}{v:H}(a:sc X h P aC v)(B:∀j,P j->ab X V j=ab X h j)(aE:∀j,P j->bR j):sc X V bR aC v:=by
 obtain⟨b,bx,cN,b6,rfl,M,R,au,aM⟩:=a
 exact⟨b,bx,cN,b6,rfl,aE _ M,by rw[c4,B _ M, <-c4];exact R,(au.af B).lift aE,aM.af B aE⟩
section
variable{X:cD}{h V bb aV:U an}{k av aQ bp aF bE:Nat}{aR:List Tok}{i:Nat}
theorem aqT(aA:d7 X)(eJ:vg X){n:Nat}(pJ:n<=170000)(kU:aR.length<=100000)(ax:ib X h k aF bE aR i){r:Except Int (List Go.bh.Node×List Tok)}(S:nodes n [] (aR.drop i)=some r):
 a6 X 68 [.ptr aF 0] h k (λad V av=>∃aC cy,r= .ok (aC,aR.drop cy)/\sc X V (ef k av) aC ad/\bh X V aF bE aR cy/\cu X [aF] h k V av) (it X aF h k r):=by
 refine dj (afT X) (aA.none _ _ rfl) ?_
 rw[afU]
 unfold TY
 have gr:=ax.bj
 have jN:=ax.g0
 have hL:=ax.fK
 have jd:=ax.gF
 refine c0 ⟨?_⟩
 have V4:ab X (bm X h k (some (.cells (U.ofList [.aU] 0 .nil) 1 .own))) k=some (.cells (U.ofList [.aU] 0 .nil) 1 .own):=bq Zo
 have b8:bB X h k (bm X h k (some (.cells (U.ofList [.aU] 0 .nil) 1 .own))) (k+1):=dR
 refine f8 (λm J V aY=>∃(bx:H) (aC:List Go.bh.Node) (b6:List (List H)) (db:List Nat) (cy:Nat) (c:Bool),J.g 0=some (.ptr aF 0)/\J.g 3=some (.ptr k 0)/\J.g 4=some (.bool c)/\ab X V k=some (.cells (U.ofList [bx] 0 .nil) 1 .own)/\hE X V bx 6 b6.flatten db/\(∀j∈db,k+1<=j/\j<aY)/\oF X V (uL (k+1) aY db) aC b6/\bh X V aF bE aR cy/\cu X [aF] h k V aY/\k+1<=aY/\aC.length+m<=n/\
  (if c then nodes m aC (aR.drop cy)=some r else r= .ok (aC,aR.drop cy)))
  n ⟨.aU,[],[],[],i,true,bv,bv,bv,V4, .inl (.inl ⟨rfl,rfl,rfl⟩),Zs,rfl,ax.par.ex b8 Zo Zo,cu.of b8,Zj _,Zs,S⟩ ?_
 clear S V4 b8
 rintro m J aV bp ⟨bx,aC,b6,db,jh,c,t0,t3,t4,tI,uf,mV,KP,dh,dl,gZ,D9,S⟩
 cases c with
 |false=>
  simp only[Zt,Zx]at S
  subst S
  refine dc @t4 @t3 ⟨?_⟩
  have vT:=KP.wide
  obtain⟨cN,dp⟩:=uf.AQ Zd vT.2 (by rw[vT.1];omega) (P:=ef k bp) (λj T=>by have:=mV j T;exact⟨Zo,Zo⟩)
  exact⟨aC,jh,rfl,⟨k,bx,cN,b6,rfl,⟨Zo,Zo⟩,by rw[bW tI];rfl,dp,KP.af (λ_ _=>rfl) (λj T=>⟨by have:=T.1;omega,T.2.1⟩)⟩,dh,dl⟩
 |true=>
  simp only[ZB]at S
  cases m with
  |zero=>simp[nodes]at S
  |succ m=>
  unfold nodes at S
  have fq:=ax.go dh dl.le
  obtain⟨bF,cB,fh⟩:=hE.one uf
  have ji:ao X aV (.ptr k 0)=some bx:=by rw[bW tI];rfl
  refine hk @t4 @t3 @t0 @ji ⟨?_⟩
  have Ab:∃CR,Go.bh.node m (aR.drop jh)=some CR/\(match CR with
   | .error I=>r= .error I
   | .ok (ar,l)=>(match l with
     |[]=>none
     |x::_=>if x.kind=7 then ok (aC++[ar]) l else nodes m (aC++[ar]) l)=some r):=by
   rcases f4 S with ⟨I,M,rfl⟩|⟨ar,cd,M,S⟩
   ·exact⟨_,M,rfl⟩
   ·exact⟨_,M,S⟩
  obtain⟨CR,M,ha⟩:=Ab
  clear S
  have mC:=fq.go (av:=bp+12) dh Zo
  refine(apP aA eJ Zo kU mC M).mono ?_ (λad V av a=>by
   obtain⟨I,rfl,rfl,a⟩:=a
   subst ha
   exact⟨I,rfl,rfl,dl.trans (a.down Zo (λb ai=> .inl ai))⟩)
  rintro v3 bo bw ⟨g,i3,row,rfl,rfl,PT,gg,en⟩
  have jf:=en.le
  have DR:cu X [aF] h k bo bw:=dl.trans (en.down Zo (λb ai=> .inl ai))
  have KX:=PT.len
  have y6:=PT.kl
  obtain⟨i1,eH,fk,hh,nH,mE,rfl⟩:∃i1 eH fk hh nH mE,row=[i1,eH,fk,hh,nH,mE]:=by
   match row,KX with
   |[I,b,c,d,E,f],_=>exact⟨I,b,c,d,E,f,rfl⟩
  have sz:ab X bo k=some (.cells (U.ofList [bx] 0 .nil) 1 .own):=by rw[en.af _ Zo (by simp;omega)];exact tI
  have cH:∀j,k<=j->j<bp->ab X bo j=ab X aV j:=λj M R=>en.af j Zo (by simp;omega)
  have aoh:ao X bo (.ptr k 0)=some bx:=by rw[bW sz];rfl
  refine cx @aoh ⟨?_⟩
  refine jH fh ?_
  have iX:jR X (bm X bo (bp+7) (some (.cells (U.ofList [i1,eH,fk,hh,nH,mE] 0 .nil) 6 .own))) 6 (.slice (bp+7) 0 1 1)=some (1,[i1,eH,fk,hh,nH,mE]):=s9 (bq Zo) (o1 _) rfl _
  have vT:=KP.wide
  have sM:=w4 vT.2
  obtain⟨jj,bX,iE,j3,rF,tR,f6⟩:=(uf.af (V:=bm X bo (bp+7) (some (.cells (U.ofList [i1,eH,fk,hh,nH,mE] 0 .nil) 6 .own))) (λj T=>by have:=mV j T;rw[aK Zo Zo];exact cH j Zo Zo)).append (k:=bw) Zd iX rfl Zd y6 (by rw[sM,vT.1];simp only[ZC,ZR];omega) Zo (λj T=>by have:=mV j T;omega)
  refine kI j3 ?_
  obtain⟨ez,eT,f3⟩:=kb.one rF
  have eK:∀j,j<bw->j≠bp+7->j∉db->ab X bX j=ab X bo j:=λj M R au=>by rw[f6 j Zo au,aK Zo R]
  have dS:∀j,j<k+1->j∉db:=λj M R=>by have:=mV j R;omega
  have w8:ab X bX k=some (.cells (U.ofList [bx] 0 .nil) 1 .own):=by rw[eK _ Zo Zo (dS _ Zo)];exact sz
  refine c0 ⟨?_⟩
  refine fH (qO (W:=0) w8 Zo Zo ez eT) ?_
  refine cx @t0 ⟨?_⟩
  have eR:∀j,j≠k->∀cJ,ab X (bm X bX k cJ) j=ab X bX j:=λj a cJ=>aK Zo a
  have gU:∀cJ,bh X (bm X bX k cJ) aF bE aR i3:=λcJ=>gg.af (by rw[eR _ Zo,eK _ Zo Zo (dS _ Zo)]) (by rw[eR _ Zo,eK _ Zo Zo (dS _ Zo)])
  obtain⟨x,l,aI,xy⟩:∃x l,aR.drop i3=x::l/\(if x.kind=7 then ok (aC++[g]) (aR.drop i3)else nodes m (aC++[g]) (aR.drop i3))=some r:=by
   cases aI:aR.drop i3 with
   |nil=>rw[aI]at ha;cases ha
   |cons x l=>rw[aI]at ha;exact⟨x,l,rfl,ha⟩
  refine eZ (λb4=>ab X b4 k=some (.cells (U.ofList [jj] 0 .nil) 1 .own)/\(∀j,j≠k->ab X b4 j=ab X bX j)) ⟨by rw[bq Zo];rfl,λj a=>eR j a _⟩ ?_
  rintro b4 ⟨DL,eR⟩
  have XK:bh X b4 aF bE aR i3:=gg.af (by rw[eR _ Zo,eK _ Zo Zo (dS _ Zo)]) (by rw[eR _ Zo,eK _ Zo Zo (dS _ Zo)])
  refine(qI aA Zo XK Zo Zo (fm aI).1).Zm ?_
  rintro acp ck eo ⟨rfl,eU⟩
  have rB:=eU.le
  have ed:∀j,j≠k->j<bw+1->ab X ck j=ab X bX j:=λj M R=>by rw[eU.af j R,eR j M]
  have fin:∀(cT:dw) (c:Bool),cT.g 0=some (.ptr aF 0)->cT.g 3=some (.ptr k 0)->cT.g 4=some (.bool c)->(if c then nodes m (aC++[g]) (aR.drop i3)=some r else r= .ok (aC++[g],aR.drop i3))->∃fY,fY<m+1/\∃(bx:H) (aC:List Go.bh.Node) (b6:List (List H)) (db:List Nat) (cy:Nat) (c:Bool),cT.g 0=some (.ptr aF 0)/\cT.g 3=some (.ptr k 0)/\cT.g 4=some (.bool c)/\ab X ck k=some (.cells (U.ofList [bx] 0 .nil) 1 .own)/\hE X ck bx 6 b6.flatten db/\(∀j∈db,k+1<=j/\j<eo)/\oF X ck (uL (k+1) eo db) aC b6/\bh X ck aF bE aR cy/\cu X [aF] h k ck eo/\k+1<=eo/\aC.length+fY<=n/\
   (if c then nodes fY aC (aR.drop cy)=some r else r= .ok (aC,aR.drop cy)):=by
   intro cT c Iw dT fc ay
   refine⟨m,Zo,jj,aC++[g],b6++[[i1,eH,fk,hh,nH,mE]],iE,i3,c,Iw,dT,fc,by rw[eU.af _ Zo];exact DL, .inl ?_, ?_, ?_, ?_, ?_,Zo,by simp;omega,ay⟩
   ·rw[zm,Yp,List.flatten_nil,YC]
    exact rF.af λj T=>ed j (by rcases tR j T with rfl|a;omega;have:=mV j a;omega) (by rcases tR j T with rfl|a;omega;have:=mV j a;omega)
   ·intro j T
    rcases tR j T with rfl|a
    ·omega
    ·have:=mV j a;omega
   ·refine oF.snoc (PT.af (λj T=> ?_) (λj T=>T)) (KP.af (λj T=> ?_) (λj T=>T)) (λj T=> ?_) (λj T=>⟨?_,λn7=>by have:=T.1;have:=n7.2.1;omega⟩)
    ·have M:=T.1;have R:=T.2
     rw[ed j Zo Zo,eK j Zo Zo (λa=>by have:=mV j a;omega)]
    ·have M:=T.1;have R:=T.2.1
     rw[ed j Zo Zo,eK j Zo Zo T.2.2,cH j Zo Zo]
    ·have M:=T.1;have R:=T.2.1
     refine⟨M,Zo,λa=> ?_⟩
     rcases tR j a with rfl|a
     ·omega
     ·exact T.2.2 a
    ·have M:=T.1;have R:=T.2
     refine⟨Zo,Zo,λa=> ?_⟩
     rcases tR j a with rfl|a
     ·omega
     ·have:=mV j a;omega
   ·exact XK.ex eU Zo Zo
   ·exact⟨Zo,λb ai bO=>by rw[ed b Zo Zo,eK b Zo Zo (dS b Zo)];exact DR.af b ai bO⟩
  by_cases aP:x.kind=7
  ·rw[Zr aP]at xy
   simp only[ok,Ze]at xy
   have d:decide (x.kind=7)=true:=by simp[aP]
   refine dc bZ.eq_1 @aP ⟨?_⟩
   exact fin _ false (bn t0) (bn t3) (gL) xy.symm
  ·rw[Zg aP]at xy
   have d:decide (x.kind=7)=false:=by simp[aP]
   refine dc bZ.eq_1 @aP ⟨?_⟩
   exact fin _ true (bn t0) (bn t3) (by refine yN ⟨?_⟩;simp[aP]) xy
end
end
end Go.Proofs.YtpfajohmofnkfaaGreatDoor

