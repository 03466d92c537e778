/- A part of the proof of the claim's last text: what it is used for is said there; no condition of its own. -/
import Derived.Test.YtpfajohmofnkfaaGreatDoorYi
set_option maxHeartbeats 8000000
set_option linter.all false
namespace Go.Proofs.YtpfajohmofnkfaaGreatDoor
open Go.bg Go.a2
noncomputable section
def xy(X:ck)(h:S ak)(P:Nat->Prop)(an:hl)(row:List H):Prop:=∃a8 mf cZ dO ls,row=[a8,mf, .Z an.at_,ls]/\d5 X h P cZ a8 1 (il an.left)/\d5 X h P dO mf 1 (an.dg.map λn=>[I9 n])/\cI X h P an.right ls/\jD row=true
def xy.ac{X:ck}{h T:S ak}{P bs:Nat->Prop}{an:hl}{row:List H}(a:xy X h P an row)(D:∀e,P e->aa X T e=aa X h e)(aB:∀e,P e->bs e):xy X T bs an row:=by
 obtain⟨a8,mf,cZ,dO,ls,R,U,ar,aO,bN⟩:=a
 exact⟨a8,mf,cZ,dO,ls,R,(U.ac D).lift aB,(ar.ac D).lift aB,cI.lift aB _ _ (cI.ac D _ _ aO),bN⟩
section
variable{X:ck}{h T aX aJ:S ak}{j ao aL a6 aG bK:Nat}{aU:List Tok}{i:Nat}
def ale(ax:dv X)(eK:v8 X){n:Nat}(r9:n<=200000)(ay:it X h j aG bK aU i){r:Except Int (hl×List Tok)}(Z:ug n (aU.drop i)=some r):
 aR X 176 [.ptr aG 0] h j (λad T ao=>∃an cy row,r= .ok (an,aU.drop cy)/\ad= .agg row/\xy X T (dy j ao) an row/\a2 X T aG bK aU cy/\b4 X [aG] h j T ao) (iF X aG h j r):=by
 refine c4 (agf X) (ax.none _ _ rfl) ?_
 rw[agh]
 unfold Ug
 have gL:=ay.a7
 have j3:=ay.hi
 have hT:=ay.fM
 have jz:=ay.gY
 unfold ug at Z
 obtain⟨x,b5,aH,ag⟩:=qA Z
 refine cH ⟨?_⟩
 refine e8 (λaX=>am X aX (.ptr j 0)=some (.ptr aG 0)/\aa X aX (j+1)=some (.cells (S.ofList [.aT, .aT, .Z 0, .cq] 0 .nil) 4 .own)/\tT X aX (j+2) (j+1+1+1) [] []/\a2 X aX aG bK aU i/\bj X h j aX (j+1+1+1)) ⟨?_, ?_, ?_, ?_, ?_⟩ ?_
 ·exact bn
 ·simp(disch:=omega) only[aE,bh]<;>rfl
 ·exact⟨Zo,Zo,_, .aT, .aT,[],[],bh Zo,rfl,rfl, .inl (.inl ⟨rfl,rfl,rfl⟩), .inl (.inl ⟨rfl,rfl,rfl⟩),Zs,Zs⟩
 ·exact ay.par.ac (by simp(disch:=omega) only[aE]) (by simp(disch:=omega) only[aE])
 ·exact dM
 rintro aX ⟨fh,p6,hE,eo,bU⟩
 have mH:=ay.go eo (by omega:j<=j+1+1+1)
 refine(ny ax mH aH _).Zm ?_
 rintro GU aJ a6 ⟨rfl,dt,dc⟩
 have f2:=dc.le
 have wI:=(b4.of (X:=[aG]) bU).trans dc
 refine qW b9.eq_1 ⟨?_⟩
 refine ka (λK T aS=>∃(cm:List Tok) (cy:Nat),K.g 1=some (.ptr j 0)/\K.g 2=some (.ptr (j+1) 0)/\K.g 3=some (.ptr (j+2) 0)/\tT X T (j+2) aS (cm.map Tok.text) (cm.map Tok.at_)/\a2 X T aG bK aU cy/\j+2<aS/\b4 X [aG] h j T aS/\am X T (.ptr j 0)=some (.ptr aG 0)/\aa X T (j+1)=some (.cells (S.ofList [.aT, .aT, .Z 0, .cq] 0 .nil) 4 .own)/\cm.length<=300000/\
  (andThen (eD [61] (aU.drop cy)) λF l=>andThen (arrow n l) λr l=>andThen (eD [59] l) λ_ l=>ok (⟨cm.map Tok.text,cm.map Tok.at_,F.at_,r⟩:hl) l)=some r) (λY bH=> ?_) ?_
 ·
  have E3:am X aJ (.ptr j 0)=some (.ptr aG 0):=by rw[dc.fU _ _ Zo (by simp;omega)];exact fh
  have um:aa X aJ (j+1)=some (.cells (S.ofList [.aT, .aT, .Z 0, .cq] 0 .nil) 4 .own):=by rw[dc.ac _ Zo (by simp;omega)];exact p6
  have l6:=hE.ac (T:=aJ) (kX:=a6) (λe R U=>dc.ac e U (by simp;omega)) f2
  rcases ag with ⟨aI,Z⟩|⟨aI,Z⟩
  ·rw[aI]at dt ⊢
   simp only[ZD]at dt ⊢
   rw[<-(fI aH).2]at Z
   simp only[]at Z
   refine ci b9.eq_1 ⟨?_⟩
   simp only[YF,Yq]
   refine e8 (λaY=>am X aY (.ptr j 0)=some (.ptr aG 0)/\aa X aY (j+1)=some (.cells (S.ofList [.aT, .aT, .Z 0, .cq] 0 .nil) 4 .own)/\tT X aY (j+2) (a6+1) [] []/\a2 X aY aG bK aU (i+1)/\b4 X [aG] h j aY (a6+1)) ⟨?_, ?_, ?_, ?_, ?_⟩ ?_
   ·exact Xn @E3
   ·simp(disch:=omega) only[aE];exact um
   ·exact l6.ac (λe R U=>by simp(disch:=omega) only[aE]) Zo
   ·exact dt.ac (by simp(disch:=omega) only[aE]) (by simp(disch:=omega) only[aE])
   ·exact⟨Zo,λb ai bQ=>by rw[<-wI.ac b ai bQ];simp(disch:=omega) only[aE]⟩
   clear E3 um l6 dt wI dc bU eo hE p6 fh mH
   rintro aY ⟨un,s6,ll,gA,dZ⟩
   have m3:=ay.go gA (by omega:j<=a6+1)
   cases ti:aU.drop (i+1)with
   |nil=>rw[ti]at Z;simp[iB,andThen]at Z
   |cons e e5=>
   rw[ti]at Z
   simp only[iB]at Z
   refine(Sf ax m3 Zo Zo Zo Zo un ll Zs Zs ti).mono ?_ ?_
   ·rintro D6 bw c7 ⟨f1,rfl,nr,g9,ji,eB⟩
    rw[Zq f1]at Z
    simp only[andThen,ok]at Z
    rw[<-(fI ti).2]at Z
    have Cx:am X bw (.ptr j 0)=some (.ptr aG 0):=by rw[eB.fU _ _ Zo (by simp;omega)];exact un
    have x8:aa X bw (j+1)=some (.cells (S.ofList [.aT, .aT, .Z 0, .cq] 0 .nil) 4 .own):=by rw[eB.ac _ Zo (by simp;omega)];exact s6
    have X2:b4 X [aG] h j bw c7:=⟨Zo,λb ai bQ=>by rw[eB.ac b Zo bQ];exact dZ.ac b ai bQ⟩
    refine ci @Cx ⟨?_⟩
    refine e8 (λbL=>aa X bL c7=some (.cells (S.ofList [.str [44]] 0 .nil) 1 .own)/\bj X bw c7 bL (c7+1)) ⟨bh Zo,dM⟩ ?_
    rintro bL ⟨XJ,dw⟩
    have ob:=ay.go (g9.ex dw Zo Zo) (by omega:j<=c7+1)
    have dx:=X2.trans (b4.of dw)
    have abF:=Z
    cases bP:eD [44] (aU.drop (i+1+1))with
    |none=>rw[bP]at Z;cases Z
    |some yX=>
    rw[bP]at Z
    refine(jq ax ob Zo Zo XJ bP).mono ?_ ?_
    ·rintro y5 cd er ⟨qE,hW,rfl,_,hq,ey⟩
     have q6:=ey.le
     simp only[]at Z
     have HV:am X cd (.ptr j 0)=some (.ptr aG 0):=by rw[ey.fU _ _ Zo (by simp;omega),dw.fU _ _ Zo];exact Cx
     have AG:aa X cd (j+1)=some (.cells (S.ofList [.aT, .aT, .Z 0, .cq] 0 .nil) 4 .own):=by rw[ey.ac _ Zo (by simp;omega),dw.ac _ Zo];exact x8
     have IP:=nr.ac (T:=cd) (kX:=er) (λe R U=>by rw[ey.ac e Zo (by simp;omega),dw.ac e U]) Zo
     have uq:=dx.trans ey
     clear Cx x8 nr g9 eB X2 dx dw XJ ob ey
     refine ka (λK T aS=>∃(cm:List Tok) (cy:Nat),K.g 1=some (.ptr j 0)/\K.g 2=some (.ptr (j+1) 0)/\K.g 3=some (.ptr (j+2) 0)/\tT X T (j+2) aS (cm.map Tok.text) (cm.map Tok.at_)/\a2 X T aG bK aU cy/\j+2<aS/\b4 X [aG] h j T aS/\am X T (.ptr j 0)=some (.ptr aG 0)/\aa X T (j+1)=some (.cells (S.ofList [.aT, .aT, .Z 0, .cq] 0 .nil) 4 .own)/\cm.length<=300000/\
      (andThen (andThen (eD [41] (aU.drop cy)) λ_ l=>ok cm l) λcm l=>andThen (eD [61] l) λF l=>andThen (arrow n l) λr l=>andThen (eD [59] l) λ_ l=>ok (⟨cm.map Tok.text,cm.map Tok.at_,F.at_,r⟩:hl) l)=some r) (λyG aoD=> ?_) ?_
     ·refine fD (λm K T aS=>∃(cm:List Tok) (cy:Nat) (b:Bool),K.g 1=some (.ptr j 0)/\K.g 2=some (.ptr (j+1) 0)/\K.g 3=some (.ptr (j+2) 0)/\K.g 4=some (.func (.func 207) [] [.ptr j 0, .ptr (j+2) 0])/\K.g 7=some (.bool b)/\tT X T (j+2) aS (cm.map Tok.text) (cm.map Tok.at_)/\a2 X T aG bK aU cy/\j+2<aS/\b4 X [aG] h j T aS/\am X T (.ptr j 0)=some (.ptr aG 0)/\aa X T (j+1)=some (.cells (S.ofList [.aT, .aT, .Z 0, .cq] 0 .nil) 4 .own)/\cm.length+m<=n+5/\
       (b=true->(andThen (andThen (rj m cm (aU.drop cy)) λcm l=>andThen (eD [41] l) λ_ l=>ok cm l) λcm l=>andThen (eD [61] l) λF l=>andThen (arrow n l) λr l=>andThen (eD [59] l) λ_ l=>ok (⟨cm.map Tok.text,cm.map Tok.at_,F.at_,r⟩:hl) l)=some r)/\
       (b=false->(andThen (andThen (eD [41] (aU.drop cy)) λ_ l=>ok cm l) λcm l=>andThen (eD [61] l) λF l=>andThen (arrow n l) λr l=>andThen (eD [59] l) λ_ l=>ok (⟨cm.map Tok.text,cm.map Tok.at_,F.at_,r⟩:hl) l)=some r))
       n ⟨[e],hW,true,bn,bn,bn,bn,bn,IP,hq,Zo,uq,HV,AG,by simp;omega,λ_=>Z,λa=>(by cases a)⟩ ?_
      clear HV AG IP hq uq Z abF bP
      rintro m K cr d9 ⟨cm,oP,b,t1,d3,t3,t4,gu,C4,hD,QQ,el,wG,x9,bp,I,mY⟩
      refine qW @gu ⟨?_⟩
      refine gM ?_
      cases b with
      |false=>
       refine pn ?_
       exact aoD _ _ _ ⟨cm,oP,a1 t1,a1 d3,a1 t3,C4,hD,QQ,el,wG,x9,Zo,mY rfl⟩
      |true=>
       have Z:=I rfl
       cases m with
       |zero=>simp[rj,andThen]at Z
       |succ m=>
       unfold rj at Z
       refine po ?_
       have m4:=ay.go hD (by omega:j<=d9)
       refine ci @t4 ⟨?_⟩
       simp only[YF,Yq]
       cases r4:aU.drop oP with
       |nil=>rw[r4]at Z;simp[iB,andThen]at Z
       |cons br l9=>
       rw[r4]at Z
       simp only[iB]at Z
       refine(Sf ax m4 Zo Zo Zo Zo wG C4 (by simp;omega) (by simp;omega) r4).mono ?_ ?_
       ·rintro u8 dH gt ⟨wU,rfl,apo,w0,yp,gz⟩
        rw[Zq wU]at Z
        simp only[andThen,ok]at Z
        rw[<-(fI r4).2]at Z
        have XK:am X dH (.ptr j 0)=some (.ptr aG 0):=by rw[gz.fU _ _ Zo (by simp;omega)];exact wG
        have Lw:aa X dH (j+1)=some (.cells (S.ofList [.aT, .aT, .Z 0, .cq] 0 .nil) 4 .own):=by rw[gz.ac _ Zo (by simp;omega)];exact x9
        have anh:b4 X [aG] h j dH gt:=⟨Zo,λb ai bQ=>by rw[gz.ac b Zo bQ];exact el.ac b ai bQ⟩
        have sy:=ay.go w0 (by omega:j<=gt)
        refine cM @t1 @XK ⟨?_⟩
        cases q4:aU.drop (oP+1)with
        |nil=>rw[q4]at Z;simp[h7,lX]at Z
        |cons w n5=>
        refine(ny ax sy q4 [44]).Zm ?_
        rintro S9 dY iX ⟨rfl,mw,g3⟩
        have tm:=g3.le
        rw[q4]at Z
        have ya:am X dY (.ptr j 0)=some (.ptr aG 0):=by rw[g3.fU _ _ Zo (by simp;omega)];exact XK
        have wE:aa X dY (j+1)=some (.cells (S.ofList [.aT, .aT, .Z 0, .cq] 0 .nil) 4 .own):=by rw[g3.ac _ Zo (by simp;omega)];exact Lw
        have Ra:=apo.ac (T:=dY) (kX:=iX) (λe R U=>g3.ac e U (by simp;omega)) tm
        have AL:=anh.trans g3
        refine cH ⟨?_⟩
        refine⟨m,Zo,cm++[br],_,hN w [44],a1 t1,a1 d3,a1 t3,a1 t4,bn,by simpa using Ra,mw,Zo,AL,ya,wE,by simp;omega,λa=> ?_,λa=> ?_⟩
        ·simp only[h7,lX,a,ZD]at Z ⊢
         rw[(fI q4).2]
         exact Z
        ·simp only[h7,lX,a,Zv,ZB]at Z ⊢
         rw[q4]
         exact Z
       ·rintro u8 dH gt ⟨wU,rfl,gz⟩
        rw[Zh wU]at Z
        simp only[andThen,bad,Zf]at Z
        subst Z
        exact⟨_,rfl,rfl,el.trans gz⟩
     ·clear HV AG IP hq uq Z abF bP
      rintro K cr d9 ⟨cm,oP,t1,d3,t3,C4,hD,QQ,el,wG,x9,bp,Z⟩
      refine cM @t1 @wG ⟨?_⟩
      refine e8 (λdH=>aa X dH d9=some (.cells (S.ofList [.str [41]] 0 .nil) 1 .own)/\bj X cr d9 dH (d9+1)) ⟨bh Zo,dM⟩ ?_
      rintro dH ⟨Cw,hM⟩
      have sy:=ay.go (hD.ex hM Zo Zo) (by omega:j<=d9+1)
      have gz:=el.trans (b4.of hM)
      cases bP:eD [41] (aU.drop oP)with
      |none=>rw[bP]at Z;cases Z
      |some yX=>
      rw[bP]at Z
      refine(jq ax sy Zo Zo Cw bP).mono ?_ ?_
      ·rintro v9 dY iX ⟨tN,i9,rfl,_,mw,g3⟩
       have tm:=g3.le
       simp only[andThen,ok]at Z
       have ya:am X dY (.ptr j 0)=some (.ptr aG 0):=by rw[g3.fU _ _ Zo (by simp;omega),hM.fU _ _ Zo];exact wG
       have wE:aa X dY (j+1)=some (.cells (S.ofList [.aT, .aT, .Z 0, .cq] 0 .nil) 4 .own):=by rw[g3.ac _ Zo (by simp;omega),hM.ac _ Zo];exact x9
       have Ra:=C4.ac (T:=dY) (kX:=iX) (λe R U=>by rw[g3.ac e Zo (by simp;omega),hM.ac e U]) Zo
       exact bH _ _ _ ⟨cm,i9,t1,d3,t3,Ra,mw,Zo,gz.trans g3,ya,wE,bp,Z⟩
      ·rintro v9 dY iX ⟨J,rfl,rfl,g3⟩
       simp only[andThen,Zf]at Z
       subst Z
       exact⟨J,rfl,rfl,gz.trans g3⟩
    ·rintro y5 cd er ⟨J,rfl,rfl,ey⟩
     simp only[Zf]at Z
     subst Z
     exact⟨J,rfl,rfl,dx.trans ey⟩
   ·rintro D6 bw c7 ⟨f1,rfl,eB⟩
    rw[Zh f1]at Z
    simp only[andThen,bad,Zf]at Z
    subst Z
    exact⟨_,rfl,rfl,dZ.trans eB⟩
  ·rw[aI]at dt ⊢
   simp only[Zv,ZB]at dt ⊢
   simp only[]at Z
   refine cM b9.eq_1 g0.eq_1 ⟨?_⟩
   simp only[YF,Yq]
   refine e8 (λaY=>am X aY (.ptr j 0)=some (.ptr aG 0)/\aa X aY (j+1)=some (.cells (S.ofList [.aT, .aT, .Z 0, .cq] 0 .nil) 4 .own)/\tT X aY (j+2) (a6+1) [] []/\a2 X aY aG bK aU i/\b4 X [aG] h j aY (a6+1)) ⟨?_, ?_, ?_, ?_, ?_⟩ ?_
   ·exact Xn @E3
   ·simp(disch:=omega) only[aE];exact um
   ·exact l6.ac (λe R U=>by simp(disch:=omega) only[aE]) Zo
   ·exact dt.ac (by simp(disch:=omega) only[aE]) (by simp(disch:=omega) only[aE])
   ·exact⟨Zo,λb ai bQ=>by rw[<-wI.ac b ai bQ];simp(disch:=omega) only[aE]⟩
   clear E3 um l6 dt wI dc bU eo hE p6 fh mH
   rintro aY ⟨un,s6,ll,gA,dZ⟩
   have m3:=ay.go gA (by omega:j<=a6+1)
   rw[aH]at Z
   simp only[iB]at Z
   refine(Sf ax m3 Zo Zo Zo Zo un ll Zs Zs aH).mono ?_ ?_
   ·rintro D6 bw c7 ⟨f1,rfl,nr,g9,ji,eB⟩
    rw[Zq f1]at Z
    simp only[andThen,ok]at Z
    rw[<-(fI aH).2]at Z
    have Cx:am X bw (.ptr j 0)=some (.ptr aG 0):=by rw[eB.fU _ _ Zo (by simp;omega)];exact un
    have x8:aa X bw (j+1)=some (.cells (S.ofList [.aT, .aT, .Z 0, .cq] 0 .nil) 4 .own):=by rw[eB.ac _ Zo (by simp;omega)];exact s6
    exact bH _ _ _ ⟨[x],i+1,bn,bn,bn,nr,g9,Zo,⟨Zo,λb ai bQ=>by rw[eB.ac b Zo bQ];exact dZ.ac b ai bQ⟩,Cx,x8,Zs,Z⟩
   ·rintro D6 bw c7 ⟨f1,rfl,eB⟩
    rw[Zh f1]at Z
    simp only[andThen,bad,Zf]at Z
    subst Z
    exact⟨_,rfl,rfl,dZ.trans eB⟩
 ·clear ag Z dt wI dc bU eo hE p6 fh mH aH
  rintro K aY ba ⟨cm,i3,t1,d3,t3,ll,gA,axJ,dZ,un,s6,bp,Z⟩
  refine cM @t1 @un ⟨?_⟩
  refine e8 (λbw=>aa X bw ba=some (.cells (S.ofList [.str [61]] 0 .nil) 1 .own)/\bj X aY ba bw (ba+1)) ⟨bh Zo,dM⟩ ?_
  rintro bw ⟨Cu,dm⟩
  have kE:=ay.go (gA.ex dm Zo Zo) (by omega:j<=ba+1)
  have eB:=dZ.trans (b4.of dm)
  rcases gl Z with ⟨J,bN,rfl⟩|⟨F,gB,bN,Z⟩
  ·exact(jq ax kE Zo Zo Cu bN).mono (λad T ao a=>by obtain⟨F,cy,a,_⟩:=a;cases a) (λad T ao a=>a.of eB (λ_ a=>by cases a;rfl))
  refine(jq ax kE Zo Zo Cu bN).mono ?_ (λad T ao a=>by obtain⟨J,a,_⟩:=a;cases a)
  rintro v5 bL cb ⟨ib,i5,r5,rfl,ha,dx⟩
  cases r5
  have hV:=dx.le
  have Ly:am X bL (.ptr j 0)=some (.ptr aG 0):=by rw[dx.fU _ _ Zo (by simp;omega),dm.fU _ _ Zo];exact un
  have E1:aa X bL (j+1)=some (.cells (S.ofList [.aT, .aT, .Z 0, .cq] 0 .nil) 4 .own):=by rw[dx.ac _ Zo (by simp;omega),dm.ac _ Zo];exact s6
  have q9:=ll.ac (T:=bL) (kX:=cb) (λe R U=>by rw[dx.ac e Zo (by simp;omega),dm.ac e U]) Zo
  have yd:=eB.trans dx
  obtain⟨cj,Cy,c,a8,mf,EB,wm,b3,b2,cQ,d1,fA,dU,eN⟩:=q9
  clear ll gA dZ un s6 dm Cu kE eB dx
  refine cM @t3 b9.eq_1 ⟨?_⟩
  have abV:∀e,e≠j+2->aa X (bm X bL (j+2) (some (.cells (dT c 2 (H.Z F.at_).cells) 4 .own))) e=aa X bL e:=λe I=>aE Zo I
  refine cM @t1 @Ly ⟨?_⟩
  refine e8 (λcd=>aa X cd (j+2)=some (.cells (c.set 2 (some (.Z F.at_))) 4 .own)/\∀e,e≠j+2->aa X cd e=aa X bL e) ⟨(bh Zo).trans (by simp only[H.cells,qD]),abV⟩ ?_
  clear abV
  rintro cd ⟨BH,dQ⟩
  have hq:a2 X cd aG bK aU i5:=ha.ac (dQ _ Zo) (dQ _ Zo)
  have ey:b4 X [aG] h j cd cb:=⟨yd.le,λb ai bQ=>by rw[dQ b Zo];exact yd.ac b ai bQ⟩
  rcases gl Z with ⟨J,dP,rfl⟩|⟨Pj,l9,dP,Z⟩
  ·exact((VN ax eK n Zo).arrow cd _ _ _ (ay.go hq Zo) dP).mono (λad T ao a=>by obtain⟨F,cy,a,_⟩:=a;cases a) (λad T ao a=>a.of ey (λ_ a=>by cases a;rfl))
  refine((VN ax eK n Zo).arrow cd _ _ _ (ay.go hq Zo) dP).mono ?_ (λad T ao a=>by obtain⟨J,a,_⟩:=a;cases a)
  rintro Ke cr d9 ⟨WN,oP,ym,eF,hD,el⟩
  cases ym
  have mX:=el.le
  obtain⟨qC,rfl,ayg,_⟩:=eF.ptr
  have Gx:aa X cr (j+2)=some (.cells (c.set 2 (some (.Z F.at_))) 4 .own):=by rw[el.ac _ Zo (by simp;omega)];exact BH
  have wG:am X cr (.ptr j 0)=some (.ptr aG 0):=by rw[el.fU _ _ Zo (by simp;omega),cA,dQ _ Zo, <-cA];exact Ly
  have gm:∀e,j<=e->e<cb->e≠j+2->aa X cr e=aa X bL e:=λe R U ar=>by rw[el.ac e U (by simp;omega),dQ e ar]
  refine ci @t3 ⟨?_⟩
  refine cM @t1 @wG ⟨?_⟩
  refine e8 (λdH=>aa X dH d9=some (.cells (S.ofList [.str [59]] 0 .nil) 1 .own)/\aa X dH (j+2)=some (.cells ((c.set 2 (some (.Z F.at_))).set 3 (some (.ptr qC 0))) 4 .own)/\∀e,e<d9->e≠j+2->aa X dH e=aa X cr e) ⟨bh Zo, ?_, ?_⟩ ?_
  ·rw[aE Zo Zo,bh Zo];simp only[H.cells,qD]
  ·intro e R U
   rw[aE Zo Zo,aE Zo U]
  rintro dH ⟨Cw,atL,ht⟩
  have w0:a2 X dH aG bK aU oP:=hD.ac (ht _ Zo Zo) (ht _ Zo Zo)
  have gz:b4 X [aG] h j dH (d9+1):=⟨Zo,λb ai bQ=>by rw[ht b Zo Zo];exact(ey.trans el).ac b ai bQ⟩
  rcases gl Z with ⟨J,j2,rfl⟩|⟨tN,sn,j2,Z⟩
  ·exact(jq ax (ay.go w0 Zo) Zo Zo Cw j2).mono (λad T ao a=>by obtain⟨F,cy,a,_⟩:=a;cases a) (λad T ao a=>a.of gz (λ_ a=>by cases a;rfl))
  refine(jq ax (ay.go w0 Zo) Zo Zo Cw j2).mono ?_ (λad T ao a=>by obtain⟨J,a,_⟩:=a;cases a)
  rintro v9 dY iX ⟨ay7,i9,aob,_,mw,g3⟩
  cases aob
  have tm:=g3.le
  simp only[ok,Zf]at Z
  subst Z
  have adr:aa X dY (j+2)=some (.cells ((c.set 2 (some (.Z F.at_))).set 3 (some (.ptr qC 0))) 4 .own):=by rw[g3.ac _ Zo (by simp;omega)];exact atL
  have gV:∀e,j<=e->e<d9->e≠j+2->aa X dY e=aa X cr e:=λe R U ar=>by rw[g3.ac e Zo (by simp;omega),ht e U ar]
  have wE:aa X dY (j+1)=some (.cells (S.ofList [.aT, .aT, .Z 0, .cq] 0 .nil) 4 .own):=by rw[gV _ Zo Zo Zo,gm _ Zo Zo Zo];exact E1
  have d7:((c.set 2 (some (H.Z F.at_))).set 3 (some (.ptr qC 0))).get 0=some a8:=by rw[S.j1,Zh Zd,S.j1,Zh Zd];exact b2
  have dk:((c.set 2 (some (H.Z F.at_))).set 3 (some (.ptr qC 0))).get 1=some mf:=by rw[S.j1,Zh Zd,S.j1,Zh Zd];exact cQ
  have dB:((c.set 2 (some (H.Z F.at_))).set 3 (some (.ptr qC 0))).get 2=some (.Z F.at_):=by rw[S.j1,Zh Zd,S.j1,Zq rfl]
  have gF:((c.set 2 (some (H.Z F.at_))).set 3 (some (.ptr qC 0))).get 3=some (.ptr qC 0):=by rw[S.j1,Zq rfl]
  generalize ((c.set 2 (some (H.Z F.at_))).set 3 (some (.ptr qC 0)))=fZ at adr d7 dk dB gF
  obtain⟨gH,mG,rp⟩:=gD.one d1
  obtain⟨Gn,Bv,ss⟩:=gD.one fA
  have aB:b6 X dY 4 (.ptr (j+2) 0)=some (.agg [a8,mf, .Z F.at_, .ptr qC 0]):=by
   rw[tv];simp[bJ adr,d7,dk,dB,gF]
  refine eu @t3 @aB @d3 ⟨?_⟩
  refine fE (hO (D:=4) wE Zo rfl Zd Zd (by simp[H.cells,jD,mG,Bv,show pH (.Z F.at_)=true from rfl,show pH (.ptr qC 0)=true from rfl])) ?_
  refine ci @d3 ⟨?_⟩
  have Dn:∀e,e≠j+1->∀cR,aa X (bm X dY (j+1) cR) e=aa X dY e:=λe I cR=>aE Zo I
  have nV:∀e,j+2<e->e<cb->∀cR,aa X (bm X dY (j+1) cR) e=aa X bL e:=λe R U cR=>by rw[Dn e Zo,gV e Zo Zo Zo,gm e Zo U Zo]
  obtain⟨cZ,aa7⟩:=(d1.ac (T:=bm X dY (j+1) (some (.cells (dT (S.ofList [.aT, .aT, .Z 0, .cq] 0 .nil) 0 [a8,mf, .Z F.at_, .ptr qC 0]) 4 .own))) (λe I=>nV e (dU e I).1 (dU e I).2.1 _)).Gy (P:=dy j iX) (by simp;omega) (λe I=>by have:=dU e I;exact⟨Zo,Zo⟩)
  obtain⟨dO,IT⟩:=(fA.ac (T:=bm X dY (j+1) (some (.cells (dT (S.ofList [.aT, .aT, .Z 0, .cq] 0 .nil) 0 [a8,mf, .Z F.at_, .ptr qC 0]) 4 .own))) (λe I=>nV e (eN e I).1 (eN e I).2 _)).Gy (P:=dy j iX) (by simp;omega) (λe I=>by have:=eN e I;exact⟨Zo,Zo⟩)
  refine⟨_,i9,[a8,mf, .Z F.at_, .ptr qC 0],rfl,rfl,⟨a8,mf,cZ,dO, .ptr qC 0,rfl, ?_, ?_, ?_,by simp[jD,mG,Bv,show pH (.Z F.at_)=true from rfl,show pH (.ptr qC 0)=true from rfl]⟩, ?_, ?_⟩
  ·rw[YG]at aa7;exact aa7
  ·rw[YG]at IT;exact IT
  ·refine cI.lift (λe I=>⟨by have:=I.1;omega,by have:=I.2;omega⟩) _ _ (cI.ac (λe I=> ?_) _ _ eF)
   have R:=I.1
   show aa X (bm X dY (j+1) _) e=_
   rw[Dn e Zo,gV e Zo I.2 Zo]
  ·exact mw.ac (Dn _ Zo _) (Dn _ Zo _)
  ·exact⟨Zo,λb ai bQ=>by rw[Dn b Zo];exact(gz.trans g3).ac b ai bQ⟩
end
def eW(d:fP):List H:=[.str d.name, .Z d.at_, .bool d.ty.b, .bool d.ty.s, .Z d.ty.w, .str d.on, .Z d.fJ, .bool d.no]
def ad9(l:List Tok):∀r∈l.map b9,r.length=7:=by
 intro r Z;obtain⟨t,_,rfl⟩:=ZW.1 Z;rfl
def WI(l:List fP):∀r∈l.map eW,r.length=8:=by
 intro r Z;obtain⟨t,_,rfl⟩:=ZW.1 Z;rfl
def awm{s:bx}{l:List Tok}{x:Tok}{b5:List Tok}(a:eD s l=some (.ok (x,b5))):b5.length+1=l.length:=by
 cases l with
 |nil=>cases a
 |cons e l=>
  simp only[eD]at a
  split at a
  ·simp only[ok,Zf,Except.ok.injEq,YN]at a
   rw[<-a.2];rfl
  ·cases a
structure Ks(X:ck)(aG bK:Nat)(aU:List Tok)(j:Nat)(fG:S ak)(loc:Bool)(K:dL)(h:S ak)(n:Nat)(s:H)(ds:List fP)(cK:List Nat)(i:Nat):Prop where
 t0:K.g 0=some (.ptr aG 0)
 t1:K.g 1=some (.bool loc)
 t5:K.g 5=some s
 a8:gD X h s 8 (ds.map eW).flatten cK
 cK:∀e∈cK,j<=e/\e<n
 par:a2 X h aG bK aU i
 fr:b4 X [aG] fG j h n
section
variable{X:ck}{h T aX aJ:S ak}{j ao aL a6 aG bK:Nat}{aU:List Tok}{i:Nat}
def akB(ds:List fP):(ds.map eW).flatten.length=ds.length*8:=by rw[wy (WI ds),Zp]
def avU(ds:List Tok):(ds.map b9).flatten.length=ds.length*7:=by rw[wy (ad9 ds),Zp]
def EO(ax:dv X){n:Nat}(iW:aU.length<=100000)(ay:it X h j aG bK aU i){loc:Bool}{r:Except Int (List fP×List Tok)}(Z:iS n loc [] (aU.drop i)=some r):
 aR X 175 [.ptr aG 0, .bool loc] h j (λad T ao=>∃ds cy b,r= .ok (ds,aU.drop cy)/\d5 X T (dy j ao) b ad 8 (ds.map eW)/\a2 X T aG bK aU cy/\b4 X [aG] h j T ao) (iF X aG h j r):=by
 refine c4 (agd X) (ax.none _ _ rfl) ?_
 rw[age]
 unfold Uf
 have gL:=ay.a7
 have j3:=ay.hi
 have hT:=ay.fM
 have jz:=ay.gY
 refine gM ?_
 refine fD (λm K T aS=>∃s ds cK cy,Ks X aG bK aU j h loc K T aS s ds cK cy/\ds.length+(aU.drop cy).length<=aU.length/\iS m loc ds (aU.drop cy)=some r)
  n ⟨.aT,[],[],i,⟨bn,bn,bn, .inl (.inl ⟨rfl,rfl,rfl⟩),Zs,ay.par,b4.refl _ _ _⟩,Zs,Z⟩ ?_
 clear Z
 rintro m K aX aL ⟨s,ds,cK,eU,mi,IE,Z⟩
 cases m with
 |zero=>simp[iS]at Z
 |succ m=>
 unfold iS at Z
 refine gM ?_
 have jB:=mi.fr.le
 refine ka (λK T aS=>∃(cm:List Tok) (vz:H) (sS:List Nat) (cy:Nat),Ks X aG bK aU j h loc K T aS s ds cK cy/\aL<=aS/\(∀e∈cK,e<aL)/\K.g 6=some vz/\gD X T vz 7 (cm.map b9).flatten sS/\(∀e∈sS,aL<=e/\e<aS)/\ds.length+cm.length+(aU.drop cy).length<=aU.length/\
  Ci loc (iS m loc) ds cm (aU.drop cy)=some r) (λY bH=> ?_) ?_
 ·refine fD (λD K T aS=>∃(cm:List Tok) (vz:H) (sS:List Nat) (cy:Nat) (b:Bool),Ks X aG bK aU j h loc K T aS s ds cK cy/\aL<=aS/\(∀e∈cK,e<aL)/\K.g 6=some vz/\K.g 7=some (.bool b)/\gD X T vz 7 (cm.map b9).flatten sS/\(∀e∈sS,aL<=e/\e<aS)/\ds.length+cm.length+(aU.drop cy).length<=aU.length/\
   (b=true->andThen (rj D cm (aU.drop cy)) (λcm l=>Ci loc (iS m loc) ds cm l)=some r)/\(b=false->Ci loc (iS m loc) ds cm (aU.drop cy)=some r))
   m ⟨[], .aT,[],eU,true,⟨a1 mi.t0,a1 mi.t1,a1 mi.t5,mi.a8,mi.cK,mi.par,mi.fr⟩,Zo,λe I=>(mi.cK e I).2,bn,bn, .inl (.inl ⟨rfl,rfl,rfl⟩),Zs,by simpa using IE,λ_=>Z,λa=>(by cases a)⟩ ?_
  clear Z mi IE
  rintro D K aJ a6 ⟨cm,vz,sS,eP,b,kO,f2,e9,f3,gu,IY,gg,CV,I,mY⟩
  have fK:=ay.go kO.par kO.fr.le
  have t0:=kO.t0
  have t1:=kO.t1
  have t5:=kO.t5
  refine qW @gu ⟨?_⟩
  refine gM ?_
  cases b with
  |false=>
   refine pn ?_
   exact bH _ _ _ ⟨cm,vz,sS,eP,⟨a1 t0,a1 t1,a1 t5,kO.a8,kO.cK,kO.par,kO.fr⟩,f2,e9,a1 f3,IY,gg,CV,mY rfl⟩
  |true=>
   have Z:=I rfl
   cases D with
   |zero=>simp[rj,andThen]at Z
   |succ D=>
   unfold rj at Z
   refine po ?_
   refine cM @f3 @t0 ⟨?_⟩
   cases aH:aU.drop eP with
   |nil=>rw[aH]at Z;simp[iB,andThen]at Z
   |cons x l=>
   rw[aH]at Z
   simp only[iB]at Z
   refine(By ax fK.a7 fK.par fK.fM fK.hi fK.gY fK.many (fI aH).1 1).mono ?_ ?_
   ·rintro y4 aY ba ⟨aF,rfl,gA,dZ⟩
    have ie:=dZ.le
    rw[Zq aF]at Z
    simp only[andThen,ok]at Z
    rw[<-(fI aH).2]at Z
    have fB:(aU.drop eP).length=(aU.drop (eP+1)).length+1:=by rw[aH,(fI aH).2];rfl
    have oT:∀e,j<=e->e<a6->aa X aY e=aa X aJ e:=λe R U=>dZ.ac e U (by simp;omega)
    have aeI:=kO.a8.ac (T:=aY) (λe I=>oT e (kO.cK e I).1 (kO.cK e I).2)
    have apP:=IY.ac (T:=aY) (λe I=>oT e (by have:=gg e I;omega) (gg e I).2)
    have E9:=kO.fr.trans dZ
    refine ci b9.eq_1 ⟨?_⟩
    have j8:k8 X (bm X aY ba (some (.cells (S.ofList (b9 x) 0 .nil) 7 .own))) 7 (.slice ba 0 1 1)=some (1,b9 x):=rs (bh Zo) (n4 _) rfl _
    obtain⟨au2,bw,V6,ic,se,anS,f1⟩:=(apP.ac (T:=bm X aY ba (some (.cells (S.ofList (b9 x) 0 .nil) 7 .own))) (λe I=>aE Zo (by have:=(gg e I).2;omega))).append (j:=ba+1) Zd j8 rfl Zd rfl (by rw[avU];simp only[b9,ZC,ZO];omega) Zo (λe I=>by have:=(gg e I).2;omega)
    refine kG ic ?_
    have ep:∀e,e<ba->e∉sS->aa X bw e=aa X aY e:=λe R U=>by rw[f1 e Zo U,aE Zo Zo]
    have dW:∀e,e<aL->e∉sS:=λe R U=>by have:=gg e U;omega
    have g9:a2 X bw aG bK aU (eP+1):=gA.ac (ep _ Zo (dW _ Zo)) (ep _ Zo (dW _ Zo))
    have eB:b4 X [aG] h j bw (ba+1+1):=⟨Zo,λb ai bQ=>by rw[ep b Zo (dW _ Zo)];exact E9.ac b ai bQ⟩
    have aeJ:=aeI.ac (T:=bw) (λe I=>ep e (by have:=e9 e I;omega) (dW _ (e9 e I)))
    have fC:(cm.map b9).flatten++b9 x=((cm++[x]).map b9).flatten:=by simp
    rw[fC]at se
    have LR:∀e∈V6,aL<=e/\e<ba+1+1:=λe I=>by
     rcases anS e I with rfl|a
     ·omega
     ·have:=gg e a;omega
    refine ci @t0 ⟨?_⟩
    have kE:=ay.go g9 eB.le
    obtain⟨w,gB,oE⟩:∃w gB,aU.drop (eP+1)=w::gB:=by
     cases a:aU.drop (eP+1)with
     |nil=>rw[a]at Z;simp[h7,lX]at Z
     |cons w gB=>exact⟨w,gB,rfl⟩
    refine(ny ax kE oE [44]).Zm ?_
    rintro D7 bL cb ⟨rfl,ha,dx⟩
    have hV:=dx.le
    have dG:∀e,j<=e->e<ba+1+1->aa X bL e=aa X bw e:=λe R U=>dx.ac e U (by simp;omega)
    refine cH ⟨?_⟩
    refine⟨D,Zo,cm++[x],au2,V6,_,hN w [44],⟨a1 t0,a1 t1,a1 t5,aeJ.ac (λe I=>dG e (kO.cK e I).1 (by have:=e9 e I;omega)),λe I=>⟨(kO.cK e I).1,by have:=e9 e I;omega⟩,ha,eB.trans dx⟩,Zo,e9,bn,bn, .inl (se.ac (λe I=>dG e (by have:=LR e I;omega) (LR e I).2)),λe I=>⟨(LR e I).1,by have:=(LR e I).2;omega⟩, ?_,λa=> ?_,λa=> ?_⟩
    ·have bN:=congrArg List.length (fI oE).2
     have cv:(aU.drop (eP+1)).length=gB.length+1:=by rw[oE];rfl
     split
     ·simp only[ZP,List.length_singleton];omega
     ·simp only[ZP,List.length_singleton];omega
    ·rw[oE]at Z
     simp only[h7,lX,a,ZD]at Z ⊢
     rw[(fI oE).2]
     exact Z
    ·rw[oE]at Z
     simp only[h7,lX,a,Zv,ZB]at Z ⊢
     rw[oE]
     exact Z
   ·rintro y4 aY ba ⟨aF,rfl,dZ⟩
    rw[Zh aF]at Z
    simp only[andThen,bad,Zf]at Z
    subst Z
    exact⟨_,rfl,rfl,kO.fr.trans dZ⟩
 ·clear Z mi IE
  rintro K aJ a6 ⟨cm,vz,sS,eP,kO,f2,e9,f3,IY,gg,CV,Z⟩
  have t0:=kO.t0
  have t1:=kO.t1
  have t5:=kO.t5
  have dc:=kO.fr
  have uP:=kO.a8
  have yj:=kO.cK
  have dt:=kO.par
  clear kO
  refine ci @t0 ⟨?_⟩
  refine e8 (λaY=>aa X aY a6=some (.cells (S.ofList [.str [58]] 0 .nil) 1 .own)/\bj X aJ a6 aY (a6+1)) ⟨bh Zo,dM⟩ ?_
  rintro aY ⟨PX,ca⟩
  have m3:=ay.go (dt.ex ca Zo Zo) (by omega:j<=a6+1)
  have dZ:=dc.trans (b4.of ca)
  unfold Ci at Z
  rcases gl Z with ⟨J,aO,rfl⟩|⟨kh,gW,aO,Z⟩
  ·exact(jq ax m3 Zo Zo PX aO).mono (λad T ao a=>by obtain⟨F,cy,a,_⟩:=a;cases a) (λad T ao a=>a.of dZ (λ_ a=>by cases a;rfl))
  refine(jq ax m3 Zo Zo PX aO).mono ?_ (λad T ao a=>by obtain⟨J,a,_⟩:=a;cases a)
  rintro v4 bw c7 ⟨awx,i4,tj,_,g9,eB⟩
  cases tj
  have aaE:=awm aO
  have ji:=eB.le
  have kE:=m3.go g9 ji
  have ye:=dZ.trans eB
  have ep:∀e,j<=e->e<a6->aa X bw e=aa X aJ e:=λe R U=>by rw[eB.ac e Zo (by simp;omega),ca.ac e U]
  have se:=uP.ac (T:=bw) (λe I=>ep e (yj e I).1 (yj e I).2)
  have abi:=IY.ac (T:=bw) (λe I=>ep e (by have:=gg e I;omega) (gg e I).2)
  clear uP IY ep PX ca m3 dZ eB aO dc dt
  refine ci @t0 ⟨?_⟩
  cases oE:aU.drop i4 with
  |nil=>rw[oE]at Z;simp[iB,andThen]at Z
  |cons t gB=>
  rw[oE]at Z
  simp only[iB]at Z
  refine(By ax kE.a7 kE.par kE.fM kE.hi kE.gY kE.many (fI oE).1 3).mono ?_ (λD7 bL cb a=>by
   obtain⟨aF,rfl,dx⟩:=a
   rw[Zh aF]at Z
   simp only[andThen,bad,Zf]at Z
   subst Z
   exact⟨_,rfl,rfl,ye.trans dx⟩)
  rintro D7 bL cb ⟨aF,rfl,ha,dx⟩
  have hV:=dx.le
  rw[Zq aF]at Z
  simp only[andThen,ok]at Z
  rw[<-(fI oE).2]at Z
  have axo:(aU.drop i4).length=(aU.drop (i4+1)).length+1:=by rw[oE,(fI oE).2];rfl
  have yd:=ye.trans dx
  have dG:∀e,j<=e->e<c7->aa X bL e=aa X bw e:=λe R U=>dx.ac e U (by simp;omega)
  have oM:=se.ac (T:=bL) (λe I=>dG e (yj e I).1 (by have:=yj e I;omega))
  have abj:=abi.ac (T:=bL) (λe I=>dG e (by have:=gg e I;omega) (by have:=gg e I;omega))
  clear se abi dG dx ye
  refine cM b9.eq_1 @t0 ⟨?_⟩
  refine e8 (λcd=>aa X cd cb=some (.cells (S.ofList (eW ⟨[],0,t.ty,[],0,false⟩) 0 .nil) 8 .own)/\bj X bL cb cd (cb+1)) ⟨bh Zo,dM⟩ ?_
  rintro cd ⟨rX,eO⟩
  have md:=ay.go (ha.ex eO Zo Zo) (by omega:j<=cb+1)
  have ey:=yd.trans (b4.of eO)
  obtain⟨w,l9,r4,abv⟩:=qA Z
  refine(ny ax md r4 _).Zm ?_
  rintro aeg cr d9 ⟨rfl,hD,el⟩
  have mX:=el.le
  have P7:=ey.trans el
  have s4:aa X cr cb=some (.cells (S.ofList (eW ⟨[],0,t.ty,[],0,false⟩) 0 .nil) 8 .own):=by rw[el.ac _ Zo (by simp;omega)];exact rX
  have gm:∀e,j<=e->e<cb->aa X cr e=aa X bL e:=λe R U=>by rw[el.ac e Zo (by simp;omega),eO.ac e U]
  have aaF:(aU.drop (i4+1)).length=l9.length+1:=by rw[r4];rfl
  refine qW b9.eq_1 ⟨?_⟩
  refine ka (λK T aS=>∃(on:bx) (fJ:Int) (no:Bool) (cy:Nat),K.g 0=some (.ptr aG 0)/\K.g 1=some (.bool loc)/\K.g 5=some s/\K.g 6=some vz/\K.g 8=some (.ptr cb 0)/\aa X T cb=some (.cells (S.ofList (eW ⟨[],0,t.ty,on,fJ,no⟩) 0 .nil) 8 .own)/\(∀e,j<=e->e<cb->aa X T e=aa X bL e)/\a2 X T aG bK aU cy/\b4 X [aG] h j T aS/\cb<aS/\(aU.drop cy).length<=(aU.drop (i4+1)).length/\
   xQ loc (iS m loc) (ds++cm.map (pr t.ty on fJ no)) (aU.drop cy)=some r) (λY bH=> ?_) ?_
  ·rcases abv with ⟨aI,Z⟩|⟨aI,Z⟩
   ·rw[aI]at hD ⊢
    simp only[ZD]at hD ⊢
    rw[<-(fI r4).2]at Z
    simp only[Au]at Z
    refine ci @t0 ⟨?_⟩
    refine e8 (λdH=>bj X cr d9 dH (d9+1)) dM ?_
    intro dH hM
    have sy:=md.go (hD.ex hM Zo Zo) (by omega:cb+1<=d9+1)
    have x7:aa X dH cb=some (.cells (S.ofList (eW ⟨[],0,t.ty,[],0,false⟩) 0 .nil) 8 .own):=by rw[hM.ac _ Zo];exact s4
    obtain⟨xv,sn,Fi⟩:∃xv sn,aU.drop (i4+1+1)=xv::sn:=by
     cases a:aU.drop (i4+1+1)with
     |nil=>rw[a]at Z;simp[h7,lX,andThen]at Z
     |cons w gB=>exact⟨w,gB,rfl⟩
    refine(ny ax sy Fi _).Zm ?_
    rintro S9 dY iX ⟨rfl,mw,g3⟩
    have tm:=g3.le
    have AL:=(P7.trans (b4.of hM)).trans g3
    have EZ:aa X dY cb=some (.cells (S.ofList (eW ⟨[],0,t.ty,[],0,false⟩) 0 .nil) 8 .own):=by rw[g3.ac _ Zo (by simp;omega)];exact x7
    have qh:andThen (andThen (iB 1 (aU.drop (if hN xv [110,111,116]then i4+1+1+1 else i4+1+1))) (λon l=>ok (on.text,on.at_,hN xv [110,111,116]) l)) (λr l=>xQ loc (iS m loc) (ds++cm.map (pr t.ty r.1 r.2.1 r.2.2)) l)=some r:=by
     rw[Fi]at Z
     cases aba:hN xv [110,111,116]with
     |true=>simp only[h7,lX,aba,ZD]at Z ⊢;rw[(fI Fi).2];exact Z
     |false=>simp only[h7,lX,aba,Zv,ZB]at Z ⊢;rw[Fi];exact Z
    have CS:(aU.drop (if hN xv [110,111,116]then i4+1+1+1 else i4+1+1)).length<=(aU.drop (i4+1)).length:=by simp only[Yw];split<;>omega
    clear Z
    generalize (if hN xv [110,111,116]then i4+1+1+1 else i4+1+1)=i9 at qh mw CS
    generalize (if hN xv [110,111,116]then xv else g0)=z9
    generalize hN xv [110,111,116]=no at qh
    unfold eW at EZ
    refine eu b9.eq_1 @EZ @t0 ⟨?_⟩
    refine e8 (λwd=>aa X wd cb=some (.cells (S.ofList (eW ⟨[],0,t.ty,[],0,no⟩) 0 .nil) 8 .own)/\(∀e,e<iX->e≠cb->aa X wd e=aa X dY e)) ⟨by rw[bh Zo];rfl,λe R U=>aE Zo U⟩ ?_
    rintro wd ⟨ami,uZ⟩
    have Fx:=mw.ac (uZ _ Zo Zo) (uZ _ Zo Zo)
    have td:b4 X [aG] h j wd iX:=⟨Zo,λb ai bQ=>by rw[uZ b Zo Zo];exact AL.ac b ai bQ⟩
    have Gw:=ay.go Fx (by omega:j<=iX)
    cases LX:aU.drop i9 with
    |nil=>rw[LX]at qh;simp[iB,andThen]at qh
    |cons c ayw=>
    rw[LX]at qh
    simp only[iB]at qh
    refine(By ax Gw.a7 Gw.par Gw.fM Gw.hi Gw.gY Gw.many (fI LX).1 1).mono ?_ ?_
    ·rintro av0 qL ash ⟨QL,rfl,IK,wH⟩
     have axq:=wH.le
     rw[Zq QL]at qh
     simp only[andThen,ok]at qh
     rw[<-(fI LX).2]at qh
     have EY:aa X qL cb=some (.cells (S.ofList (eW ⟨[],0,t.ty,[],0,no⟩) 0 .nil) 8 .own):=by rw[wH.ac _ Zo (by simp;omega)];exact ami
     unfold eW at EY
     refine cM b9.eq_1 @EY ⟨?_⟩
     refine gQ (o7 _ _) ?_
     refine cM b9.eq_1 @EY ⟨?_⟩
     refine bH _ _ _ ⟨c.text,c.at_,no,i9+1,a1 t0,a1 t1,a1 t5,a1 f3,bn, ?_,λe R U=> ?_, ?_, ?_,Zo, ?_,qh⟩
     ·simp(disch:=omega) only[aE,bh]<;>rfl
     ·simp(disch:=omega) only[aE]
      rw[wH.ac e Zo (by simp;omega),uZ e Zo Zo,g3.ac e Zo (by simp;omega),hM.ac e Zo,gm e R U]
     ·exact IK.ac (by simp(disch:=omega) only[aE]) (by simp(disch:=omega) only[aE])
     ·exact⟨Zo,λb ai bQ=>by rw[<-(td.trans wH).ac b ai bQ];simp(disch:=omega) only[aE]⟩
     ·simp only[Yw]at CS ⊢;omega
    ·rintro av0 qL ash ⟨QL,rfl,wH⟩
     rw[Zh QL]at qh
     simp only[andThen,bad,Zf]at qh
     subst qh
     exact⟨_,rfl,rfl,td.trans wH⟩
   ·rw[aI]at hD ⊢
    simp only[Zv,ZB]at hD ⊢
    simp only[Au,andThen,ok]at Z
    refine cM b9.eq_1 g0.eq_1 ⟨?_⟩
    refine bH _ _ _ ⟨[],0,false,i4+1,a1 t0,a1 t1,a1 t5,a1 f3,bn, ?_,λe R U=> ?_, ?_, ?_,Zo,Zi _,Z⟩
    ·simp(disch:=omega) only[aE];exact s4
    ·simp(disch:=omega) only[aE];exact gm e R U
    ·exact hD.ac (by simp(disch:=omega) only[aE]) (by simp(disch:=omega) only[aE])
    ·exact⟨Zo,λb ai bQ=>by rw[<-P7.ac b ai bQ];simp(disch:=omega) only[aE]⟩
  ·clear Z abv hD P7 el s4 gm ey rX eO md yd t0 t1 t5 f3 ha
   rintro K cd er ⟨on,fJ,no,hW,t0,t1,t5,f3,gZ,rX,dQ,hq,ey,axK,Mc,Z⟩
   have sf:=oM.ac (T:=cd) (λe I=>dQ e (yj e I).1 (by have:=yj e I;omega))
   have abk:=abj.ac (T:=cd) (λe I=>dQ e (by have:=gg e I;omega) (by have:=gg e I;omega))
   clear oM abj
   obtain⟨wo,cz⟩:=abk.tG Zd (ad9 cm) (by simp only[Zp];omega) (P:=λe=>aL<=e/\e<a6) gg
   have fB:=cz.len
   rw[Zp]at fB
   refine Ll @f3 @fB ⟨?_⟩
   have A9:=fB
   refine ka (λK T aS=>∃(fs:H) (gw:List Nat),K.g 0=some (.ptr aG 0)/\K.g 1=some (.bool loc)/\K.g 5=some fs/\gD X T fs 8 ((ds++cm.map (pr t.ty on fJ no)).map eW).flatten gw/\(∀e∈gw,j<=e/\e<aS)/\a2 X T aG bK aU hW/\b4 X [aG] h j T aS/\er<=aS) (λY bH=> ?_) ?_
   ·refine fD (λacy K T aS=>∃(D:Nat) (fs:H) (gw:List Nat) (nm:bx) (Ey:Int),acy=cm.length-D/\D<=cm.length/\K.g 0=some (.ptr aG 0)/\K.g 1=some (.bool loc)/\K.g 5=some fs/\K.g 8=some (.ptr cb 0)/\K.g 52=some vz/\K.g 53=some (.Z (cm.length:Int))/\K.g 54=some (.Z (D:Int))/\aa X T cb=some (.cells (S.ofList (eW ⟨nm,Ey,t.ty,on,fJ,no⟩) 0 .nil) 8 .own)/\
     gD X T fs 8 ((ds++(cm.take D).map (pr t.ty on fJ no)).map eW).flatten gw/\(∀e∈gw,(e∈cK\/er<=e)/\e<aS)/\(∀e,aL<=e->e<a6->aa X T e=aa X cd e)/\a2 X T aG bK aU hW/\b4 X [aG] h j T aS/\er<=aS)
     cm.length ⟨0,s,cK,[],0,Zo,Zo,a1 t0,a1 t1,a1 t5,a1 gZ,bn,bn,fN,rX,by simpa using sf,λe I=>⟨.inl I,by have:=yj e I;omega⟩,λ_ _ _=>rfl,hq,ey,Zi _⟩ ?_
    rintro acy K cr d9 ⟨D,fs,gw,nm,Ey,rfl,q5,t0,t1,t5,gZ,rx,pL,kf,s4,C9,wN,ab0,hD,el,mX⟩
    refine Ll @pL @kf ⟨?_⟩
    refine gM ?_
    refine EF (λc2=> ?_) (λc2=> ?_)
    ·have c2:D<cm.length:=Zo
     have aax:=cz.gi D (by simpa using c2)
     have Rh:=(cz.ac (T:=cr) (λe I=>ab0 e I.1 I.2)).row Zd (i:=D) (r:=b9 cm[D]) (by rw[Zx,Ze c2];rfl)
     have MD:cm.take (D+1)=cm.take D++[cm[D]]:=List.take_succ_eq_append_getElem c2
     generalize cm[D]=br at Rh MD
     have Ap:∀e∈gw,j<=e/\e≠cb/\¬(aL<=e/\e<a6)/\e<d9:=λe I=>by
      obtain⟨R,U⟩:=wN e I
      rcases R with R|R
      ·have:=yj e R;have:=e9 e R;exact⟨Zo,Zo,Zo,Zo⟩
      ·exact⟨Zo,Zo,Zo,Zo⟩
     unfold eW at s4
     refine ev @rx @kf @aax @Rh b9.eq_1 @gZ @s4 ⟨?_⟩
     refine gQ (o7 _ _) ?_
     refine ev @rx @kf @aax @Rh b9.eq_1 @gZ (Za @s4 @t5) ⟨?_⟩
     generalize pw:bm X _ (d9+1+8) _=dY
     have kU:aa X dY (d9+1+8)=some (.cells (S.ofList (eW (pr t.ty on fJ no br)) 0 .nil) 8 .own):=by rw[<-pw,bh Zo];rfl
     have EZ:aa X dY cb=some (.cells (S.ofList (eW (pr t.ty on fJ no br)) 0 .nil) 8 .own):=by rw[<-pw];simp(disch:=omega) only[aE,bh]<;>rfl
     have gV:∀e,e<d9->e≠cb->aa X dY e=aa X cr e:=λe R U=>by rw[<-pw];simp(disch:=omega) only[aE]
     clear pw
     have j8:k8 X dY 8 (.slice (d9+1+8) 0 1 1)=some (1,eW (pr t.ty on fJ no br)):=rs kU (n4 _) rfl _
     have ec:(ds++(cm.take D).map (pr t.ty on fJ no)).length<=100000:=by
      simp only[ZP,Zp,zc];omega
     obtain⟨kH,wd,wm,ic,abc,anP,aaA⟩:=(C9.ac (T:=dY) (λe I=>gV e (Ap e I).2.2.2 (Ap e I).2.1)).append (j:=d9+1+8+1) Zd j8 rfl Zd rfl (by rw[akB];simp only[eW,ZC,ZO];omega) Zo (λe I=>by have:=Ap e I;omega)
     refine kG ic ?_
     have uZ:∀e,e<d9->e≠cb->e∉gw->aa X wd e=aa X cr e:=λe R U ar=>by rw[aaA e Zo ar,gV e R U]
     have bB:aA .add (.Z (D:Int)) (.Z 1)=some (.Z ((D+1:Nat):Int)):=by rw[eI Zo Zo];rfl
     have fC:((ds++(cm.take D).map (pr t.ty on fJ no)).map eW).flatten++eW (pr t.ty on fJ no br)=((ds++(cm.take (D+1)).map (pr t.ty on fJ no)).map eW).flatten:=by rw[MD];simp
     rw[fC]at abc
     refine cM @kf @bB ⟨?_⟩
     refine⟨cm.length-(D+1),Zo,D+1,kH,wm,br.text,br.at_,rfl,Zo,a1 t0,a1 t1,bn,a1 gZ,a1 rx,a1 pL,bn, ?_, .inl abc, ?_, ?_, ?_, ?_,Zo⟩
     ·rw[aaA _ Zo (λa=>(Ap _ a).2.1 rfl)];exact EZ
     ·intro e I
      rcases anP e I with rfl|a
      ·exact⟨.inr Zo,Zo⟩
      ·have:=wN e a;exact⟨this.1,Zo⟩
     ·intro e R U
      rw[uZ e Zo Zo (λa=>(Ap e a).2.2.1 ⟨R,U⟩)]
      exact ab0 e R U
     ·exact hD.ac (uZ _ Zo Zo (λa=>by have:=Ap _ a;omega)) (uZ _ Zo Zo (λa=>by have:=Ap _ a;omega))
     ·exact⟨Zo,λb ai bQ=>by rw[uZ b Zo Zo (λa=>by have:=Ap _ a;omega)];exact el.ac b ai bQ⟩
    ·have wV:D=cm.length:=Zo
     subst wV
     rw[YS]at C9
     refine cH ⟨?_⟩
     exact bH _ _ _ ⟨fs,gw,a1 t0,a1 t1,a1 t5,C9,λe I=>by
      obtain⟨R,U⟩:=wN e I
      rcases R with R|R
      ·have:=yj e R;omega
      ·omega,hD,el,mX⟩
   ·clear sf abk rX dQ t0 t1 t5 f3 gZ hq ey cz fB
    rintro K cr d9 ⟨fs,gw,t0,t1,t5,C9,wN,hD,el,mX⟩
    have aaH:(ds++cm.map (pr t.ty on fJ no)).length+(aU.drop hW).length<=aU.length:=by simp only[ZP,Zp];omega
    generalize ds++cm.map (pr t.ty on fJ no)=HC at C9 Z aaH
    have fin:∀(T:S ak) (aS:Nat),(∀e,e<d9->e≠aG->aa X T e=aa X cr e)->d9<=aS->r= .ok (HC,aU.drop hW)->a2 X T aG bK aU hW->∃ds cy b,r= .ok (ds,aU.drop cy)/\d5 X T (dy j aS) b fs 8 (ds.map eW)/\a2 X T aG bK aU cy/\b4 X [aG] h j T aS:=by
     intro T aS R U ar aO
     obtain⟨b,cz⟩:=(C9.ac (T:=T) (λe I=>R e (wN e I).2 (by have:=wN e I;omega))).tG Zd (WI HC) (by simp only[Zp];omega) (P:=dy j aS) (λe I=>⟨(wN e I).1,by have:=wN e I;omega⟩)
     exact⟨HC,hW,b,ar,cz,aO,Zo,λb ai bQ=>by rw[R b Zo (by simpa using bQ)];exact el.ac b ai bQ⟩
    refine ci @t0 ⟨?_⟩
    obtain⟨Ea,n5,q4⟩:∃Ea n5,aU.drop hW=Ea::n5:=by
     cases a:aU.drop hW with
     |nil=>rw[a]at Z;simp[xQ,y3]at Z
     |cons w gB=>exact⟨w,gB,rfl⟩
    refine e8 (λdH=>dH=cr) rfl ?_
    rintro dH rfl
    refine(rm ax Zo hD Zo Zo (fI q4).1).Zm ?_
    rintro u8 dY iX ⟨rfl,kk⟩
    have tm:=kk.le
    have mw:=hD.ac (kk.ac _ Zo) (kk.ac _ Zo)
    rw[q4]at Z
    simp only[xQ,y3]at Z
    by_cases Mz:Ea.text=[59]
    ·rw[Zq Mz]at Z
     have cT:decide (Ea.text≠[59])=false:=by simp[Mz]
     have Xz:iS m loc HC (aU.drop (hW+1))=some r->∀(K:dL) (gv:S ak),K.g 0=some (.ptr aG 0)->K.g 1=some (.bool loc)->K.g 5=some fs->(∀e,e<iX->e≠aG->aa X gv e=aa X dY e)->a2 X gv aG bK aU (hW+1)->
      ∃gj,gj<m+1/\∃s ds cK cy,Ks X aG bK aU j h loc K gv iX s ds cK cy/\ds.length+(aU.drop cy).length<=aU.length/\iS gj loc ds (aU.drop cy)=some r:=by
      intro ig K gv t0 t1 t5 aF apn
      refine⟨m,Zo,fs,HC,gw,hW+1,⟨t0,t1,t5,C9.ac (λe I=> ?_),λe I=>by have:=wN e I;omega,apn,Zo,λb ai bQ=> ?_⟩, ?_,ig⟩
      ·have:=wN e I
       rw[aF e Zo Zo,kk.ac e Zo]
      ·rw[aF b Zo (by simpa using bQ),kk.ac b Zo];exact el.ac b ai bQ
      ·simp only[Yw]at aaH ⊢;omega
     obtain⟨c,aq,bd,cg,a3,a4⟩:=mw.at_
     have RI:=jS bd a3
     have abY:=jS bd cg
     have lk:=(Zc.1 (fI q4).1).1
     have dI:=mw.ne
     have bB:aA .add (.Z (hW:Int)) (.Z 1)=some (.Z ((hW+1:Nat):Int)):=by rw[eI Zo Zo];rfl
     have adg:∀gv,gv=bm X dY aG (some (.cells (dT c 1 [.Z ((hW+1:Nat):Int)]) 2 .own))->a2 X gv aG bK aU (hW+1):=by
      rintro gv rfl
      refine mw.on (c:=dT c 1 [.Z ((hW+1:Nat):Int)]) (bh Zo) (λd7 st a=>by rw[bd]at a;cases a;exact qD ..) (aE Zo Zo)
     cases loc with
     |false=>
      simp only[Zv,ZB]at Z
      have j4:(Ea::n5).drop 1=aU.drop (hW+1):=by rw[(fI q4).2];rfl
      rw[j4]at Z
      refine ev b9.eq_1 @cT @t1 @t0 @RI @bB @bd ⟨?_⟩
      exact Xz Z _ _ (a1 t0) (a1 t1) (a1 t5) (λe R U=>aE Zo U) (adg _ rfl)
     |true=>
      simp only[ZD]at Z
      obtain⟨pf,sn,Fi⟩:∃pf sn,n5=pf::sn:=by
       cases n5 with
       |nil=>simp[y3]at Z
       |cons w gB=>exact⟨w,gB,rfl⟩
      subst Fi
      simp only[y3]at Z
      have ct:aU[hW+1]? =some pf:=(fI (fI q4).2).1
      have FQ:=(Zc.1 ct).1
      have aay:=a4.gi (hW+1) (by rw[Zp];exact FQ)
      have τ:am X dY (.ptr bK ((hW+1)*7+1))=some (.str pf.text):=a4.cell (hW+1) (b9 pf) 1 _ (by rw[Zx,ct];rfl) rfl
      by_cases Me:pf.text=[108,101,116]
      ·rw[Zq Me]at Z
       simp only[ok,Zf]at Z
       have cJ:decide (pf.text=[108,101,116])=true:=by simp[Me]
       refine ev b9.eq_1 @cT @t1 @t0 @abY @RI (Za @bB (Za @aay (Za @τ (Za @cJ @t5)))) ⟨?_⟩
       exact fin _ _ (λe R U=>kk.ac e Zo) Zo (by rw[<-Z,q4]) mw
      ·rw[Zh Me]at Z
       have cJ:decide (pf.text=[108,101,116])=false:=by simp[Me]
       have j4:(Ea::pf::sn).drop 1=aU.drop (hW+1):=by rw[(fI q4).2];rfl
       rw[j4]at Z
       refine ev b9.eq_1 @cT @t1 @t0 @abY @RI (Za @bB (Za @aay (Za @τ (Za @cJ @bd)))) ⟨?_⟩
       exact Xz Z _ _ (a1 t0) (a1 t1) (a1 t5) (λe R U=>aE Zo U) (adg _ rfl)
    ·rw[Zh Mz]at Z
     simp only[ok,Zf]at Z
     have cT:decide (Ea.text≠[59])=true:=by simp[Mz]
     refine eu b9.eq_1 @cT @t5 ⟨?_⟩
     exact fin _ _ (λe R U=>kk.ac e Zo) Zo (by rw[<-Z,q4]) mw
end
def ky{v w:H}(a:d8 v=some w):v.cells=[v]/\pH v=true/\H.same 30 v v=true:=by
 cases v with
 |slice b W n c=>exact⟨rfl,rfl,by simp[H.same]⟩
 |fu b W n c=>exact⟨rfl,rfl,by simp[H.same]⟩
 |aT=>exact⟨rfl,rfl,rfl⟩
 |_=>simp[d8]at a
def oi(X:ck)(h:S ak):(Nat->Prop)->List hl->List (List H)->Prop
 |_,[],bC=>bC=[]
 |P,an::c3,bC=>∃row hw bs,bC=row::hw/\(∀e,bs e->P e)/\xy X h bs an row/\oi X h (λe=>P e/\¬bs e) c3 hw
def oi.ac{X:ck}{h T:S ak}:∀{c3:List hl}{bC:List (List H)}{P bs:Nat->Prop}(D:∀e,P e->aa X T e=aa X h e) (aB:∀e,P e->bs e),oi X h P c3 bC->oi X T bs c3 bC:=by
 intro c3
 induction c3 with
 |nil=>intro bC P bs D aB a;exact a
 |cons an c3 al=>
  rintro bC P bs D aB ⟨row,hw,eE,R,cl,U,ar⟩
  exact⟨row,hw,eE,R,λe I=>aB e (cl e I),U.ac (λe I=>D e (cl e I)) (λe I=>I),al (λe I=>D e I.1) (λe I=>⟨aB e I.1,I.2⟩) ar⟩
def oi.snoc{X:ck}{h:S ak}{bs:Nat->Prop}{an:hl}{row:List H}(a:xy X h bs an row):∀{c3:List hl}{bC:List (List H)}{oq P:Nat->Prop},oi X h oq c3 bC->(∀e,oq e->P e)->(∀e,bs e->P e/\¬oq e)->oi X h P (c3++[an]) (bC++[row]):=by
 intro c3
 induction c3 with
 |nil=>rintro bC oq P rfl R U;exact⟨row,[],bs,rfl,λe I=>(U e I).1,a,rfl⟩
 |cons J c3 al=>
  rintro bC oq P ⟨sC,hw,eE,rfl,cl,ar,aO⟩ R U
  exact⟨sC,hw++[row],eE,rfl,λe I=>R e (cl e I),ar,al aO (λe I=>⟨R e I.1,I.2⟩) (λe I=>⟨⟨(U e I).1,λiI=>(U e I).2 (cl e iI)⟩,λoO=>(U e I).2 oO.1⟩)⟩
def xy.len{X:ck}{h:S ak}{P:Nat->Prop}{an:hl}{row:List H}(a:xy X h P an row):row.length=4:=by
 obtain⟨_,_,_,_,_,rfl,_⟩:=a;rfl
def oi.wide{X:ck}{h:S ak}:∀{c3:List hl}{bC:List (List H)}{P:Nat->Prop},oi X h P c3 bC->bC.length=c3.length/\∀r∈bC,r.length=4:=by
 intro c3
 induction c3 with
 |nil=>rintro bC P rfl;simp
 |cons J c3 al=>
  rintro bC P ⟨sC,hw,eE,rfl,cl,U,ar⟩
  obtain⟨aO,bN⟩:=al ar
  refine⟨by simp[aO],λr Z=> ?_⟩
  rcases Zt.1 Z with rfl|Z
  ·exact U.len
  ·exact bN r Z
def pk(X:ck)(h:S ak)(P:Nat->Prop)(g:Go.a2.Node)(row:List H):Prop:=∃dd dz a8 eV cZ dO ei h2 bC,row=[.str g.name, .Z g.at_,dd,dz,a8,eV]/\d5 X h P cZ dd 8 (g.eQ.map eW)/\d5 X h P dO dz 8 (g.out.map eW)/\d5 X h P ei a8 8 (g.loc.map eW)/\d5 X h P h2 eV 4 bC/\oi X h P g.eqs bC
structure sN(X:ck)(h:S ak)(n o0:Nat)(nm:bx)(J:Int)(dd dz a8:H)(eQ out loc:List fP):Prop where
 mV:aa X h o0=some (.cells (S.ofList [.str nm, .Z J,dd,dz,a8, .aT] 0 .nil) 6 .own)
 lt:o0<n
 e0:∃b,d5 X h (dy (o0+1) n) b dd 8 (eQ.map eW)
 fF:∃b,d5 X h (dy (o0+1) n) b dz 8 (out.map eW)
 hv:∃b,d5 X h (dy (o0+1) n) b a8 8 (loc.map eW)
def sN.ac{X:ck}{h T:S ak}{n aS o0:Nat}{nm:bx}{J:Int}{dd dz a8:H}{eQ out loc:List fP}(a:sN X h n o0 nm J dd dz a8 eQ out loc)(D:∀e,o0<=e->e<n->aa X T e=aa X h e)(aK:n<=aS):sN X T aS o0 nm J dd dz a8 eQ out loc:=by
 have d0:∀e,dy (o0+1) n e->aa X T e=aa X h e:=λe I=>D e (by have:=I.1;omega) I.2
 have R3:∀e,dy (o0+1) n e->dy (o0+1) aS e:=λe I=>⟨I.1,by have:=I.2;omega⟩
 obtain⟨cZ,R⟩:=a.e0
 obtain⟨dO,U⟩:=a.fF
 obtain⟨ei,ar⟩:=a.hv
 exact⟨by rw[D o0 (Zi _) a.lt];exact a.mV,by have:=a.lt;omega,⟨cZ,(R.ac d0).lift R3⟩,⟨dO,(U.ac d0).lift R3⟩,⟨ei,(ar.ac d0).lift R3⟩⟩
section
variable{X:ck}{h T aX aJ:S ak}{j ao aL a6 aG bK:Nat}{aU:List Tok}{i:Nat}
def sN.fr{n aS o0:Nat}{nm:bx}{J:Int}{dd dz a8:H}{eQ out loc:List fP}(a:sN X h n o0 nm J dd dz a8 eQ out loc)(gf:b4 X [aG] h n T aS)(ai:aG<o0):sN X T aS o0 nm J dd dz a8 eQ out loc:=
 a.ac (λe R U=>gf.ac e U (by simp;omega)) gf.le
def awn{iZ kH:bx}{l:List Tok}:ry [iZ,kH] g0 l=andThen (eD iZ l) λ_ l=>eD kH l:=by
 simp only[ry]
 cases a:eD iZ l with
 |none=>rfl
 |some r=>
  cases r with
  |error J=>rfl
  |ok p=>
   obtain⟨x,b5⟩:=p
   simp only[andThen]
   cases eD kH b5 with
   |none=>rfl
   |some fF=>cases fF with
    |error J=>rfl
    |ok p=>obtain⟨e,c5⟩:=p;rfl
def asA(ax:dv X)(eK:v8 X){n:Nat}(r9:n<=200000)(iW:aU.length<=100000)(ay:it X h j aG bK aU i){r:Except Int (Go.a2.Node×List Tok)}(Z:Go.a2.node n (aU.drop i)=some r):
 aR X 117 [.ptr aG 0] h j (λad T ao=>∃g cy row,r= .ok (g,aU.drop cy)/\ad= .agg row/\pk X T (dy j ao) g row/\a2 X T aG bK aU cy/\b4 X [aG] h j T ao) (iF X aG h j r):=by
 refine c4 (ae7 X) (ax.none _ _ rfl) ?_
 rw[ae8]
 unfold TF
 have gL:=ay.a7
 have j3:=ay.hi
 have hT:=ay.fM
 have jz:=ay.gY
 unfold Go.a2.node at Z
 refine cH ⟨?_⟩
 refine e8 (λaX=>aa X aX (j+1)=some (.cells (S.ofList [.str [110,111,100,101]] 0 .nil) 1 .own)/\aa X aX j=some (.cells (S.ofList [.str [], .Z 0, .aT, .aT, .aT, .aT] 0 .nil) 6 .own)/\bj X h j aX (j+1+1)) ⟨bh Zo,by simp(disch:=omega) only[aE,bh]<;>rfl,dM⟩ ?_
 rintro aX ⟨ap,p6,bU⟩
 have mH:=ay.go (ay.par.ex bU Zo Zo) (by omega:j<=j+1+1)
 have h3:b4 X [aG] h j aX (j+1+1):=b4.of bU
 rcases gl Z with ⟨J,U,rfl⟩|⟨hk,c5,U,Z⟩
 ·exact(jq ax mH Zo Zo ap U).mono (λad T ao a=>by obtain⟨F,cy,a,_⟩:=a;cases a) (λad T ao a=>a.of h3 (λ_ a=>by cases a;rfl))
 refine(jq ax mH Zo Zo ap U).mono ?_ (λad T ao a=>by obtain⟨J,a,_⟩:=a;cases a)
 clear U
 rintro aei aJ a6 ⟨ay5,eP,Is,_,dt,dc⟩
 cases Is
 have f2:=dc.le
 have wI:=h3.trans dc
 have um:aa X aJ j=some (.cells (S.ofList [.str [], .Z 0, .aT, .aT, .aT, .aT] 0 .nil) 6 .own):=by rw[dc.ac _ Zo (by simp;omega)];exact p6
 have fK:=ay.go dt wI.le
 clear ap p6 bU mH h3 dc
 cases ti:aU.drop eP with
 |nil=>rw[ti]at Z;simp[iB,andThen]at Z
 |cons x e5=>
 rw[ti]at Z
 simp only[iB]at Z
 refine(By ax fK.a7 fK.par fK.fM fK.hi fK.gY fK.many (fI ti).1 1).mono ?_ (λD7 bL cb a=>by
  obtain⟨aF,rfl,dx⟩:=a
  rw[Zh aF]at Z
  simp only[andThen,bad,Zf]at Z
  subst Z
  exact⟨_,rfl,rfl,wI.trans dx⟩)
 rintro y4 aY ba ⟨aF,rfl,gA,dZ⟩
 have ie:=dZ.le
 rw[Zq aF]at Z
 simp only[andThen,ok]at Z
 rw[<-(fI ti).2]at Z
 have s6:aa X aY j=some (.cells (S.ofList [.str [], .Z 0, .aT, .aT, .aT, .aT] 0 .nil) 6 .own):=by rw[dZ.ac _ Zo (by simp;omega)];exact um
 have E9:=wI.trans dZ
 clear um dZ wI dt fK
 refine ci b9.eq_1 ⟨?_⟩
 refine e8 (λbw=>aa X bw (ba+1+1)=some (.cells (S.ofList [.str [40]] 0 .nil) 1 .own)/\sN X bw (ba+1+1+1) (ba+1) x.text x.at_ .aT .aT .aT [] [] []/\bj X aY ba bw (ba+1+1+1)) ⟨bh Zo,⟨by simp(disch:=omega) only[aE,bh]<;>rfl,Zo,⟨0,d5.nil _ _⟩,⟨0,d5.nil _ _⟩,⟨0,d5.nil _ _⟩⟩,dM⟩ ?_
 rintro bw ⟨Cu,acK,dm⟩
 have x8:aa X bw j=some (.cells (S.ofList [.str [], .Z 0, .aT, .aT, .aT, .aT] 0 .nil) 6 .own):=by rw[dm.ac _ Zo];exact s6
 have eB:=E9.trans (b4.of dm)
 have kE:=ay.go (gA.ex dm Zo Zo) (by omega:j<=ba+1+1+1)
 clear s6 E9 gA dm
 change andThen (eD [40] (aU.drop (eP+1))) _=some r at Z
 rcases gl Z with ⟨J,U,rfl⟩|⟨hk,c5,U,Z⟩
 ·exact(jq ax kE Zo Zo Cu U).mono (λad T ao a=>by obtain⟨F,cy,a,_⟩:=a;cases a) (λad T ao a=>a.of eB (λ_ a=>by cases a;rfl))
 refine(jq ax kE Zo Zo Cu U).mono ?_ (λad T ao a=>by obtain⟨J,a,_⟩:=a;cases a)
 clear U
 rintro v5 bL cb ⟨ay6,i5,r5,_,ha,dx⟩
 cases r5
 have hV:=dx.le
 have acL:=acK.fr dx Zo
 have E1:aa X bL j=some (.cells (S.ofList [.str [], .Z 0, .aT, .aT, .aT, .aT] 0 .nil) 6 .own):=by rw[dx.ac _ Zo (by simp;omega)];exact x8
 have yd:=eB.trans dx
 have ob:=ay.go ha yd.le
 clear acK x8 eB dx Cu kE
 obtain⟨e,mC,Ip,I5⟩:=qA Z
 refine(ny ax ob Ip _).Zm ?_
 rintro aef cd er ⟨rfl,hq,ey⟩
 have q6:=ey.le
 have Nf:=acL.fr ey Zo
 have AG:aa X cd j=some (.cells (S.ofList [.str [], .Z 0, .aT, .aT, .aT, .aT] 0 .nil) 6 .own):=by rw[ey.ac _ Zo (by simp;omega)];exact E1
 have uq:=yd.trans ey
 clear acL E1 yd ey ha ob
 refine qW b9.eq_1 ⟨?_⟩
 refine ka (λK T aS=>∃(dd:H) (eQ:List fP) (cy:Nat),K.g 0=some (.ptr aG 0)/\K.g 2=some (.ptr j 0)/\K.g 4=some (.ptr (ba+1) 0)/\sN X T aS (ba+1) x.text x.at_ dd .aT .aT eQ [] []/\aa X T j=some (.cells (S.ofList [.str [], .Z 0, .aT, .aT, .aT, .aT] 0 .nil) 6 .own)/\a2 X T aG bK aU cy/\b4 X [aG] h j T aS/\
  (andThen (eD [114,101,116,117,114,110,115] (aU.drop cy)) λ_ l=>andThen (eD [40] l) λ_ l=>andThen (iS n false [] l) λout l=>andThen (eD [41] l) λ_ l=>
   h7 [118,97,114] l λe l=>andThen (match e with
    |some _=>andThen (iS n true [] l) λds l=>andThen (eD [59] l) λ_ l=>ok ds l
    |none=>ok [] l) λloc l=>
   andThen (eD [108,101,116] l) λ_ l=>andThen (lG n [] l) λc3 l=>ok (⟨x.text,x.at_,eQ,out,loc,c3⟩:Go.a2.Node) l)=some r) (λY bH=> ?_) ?_
 ·rcases I5 with ⟨aI,Z⟩|⟨aI,Z⟩
  ·rw[aI]at hq ⊢
   simp only[ZD]at hq ⊢
   rw[<-(fI Ip).2]at Z
   simp only[andThen,ok]at Z
   refine ci b9.eq_1 ⟨?_⟩
   refine bH _ _ _ ⟨.aT,[],i5+1,bn,bn,bn,Nf.ac (λe R U=>by simp(disch:=omega) only[aE]) Zo,by simp(disch:=omega) only[aE];exact AG,hq.ac (by simp(disch:=omega) only[aE]) (by simp(disch:=omega) only[aE]), ?_,Z⟩
   exact⟨Zo,λb ai bQ=>by rw[<-uq.ac b ai bQ];simp(disch:=omega) only[aE]⟩
  ·rw[aI]at hq ⊢
   simp only[Zv,ZB]at hq ⊢
   simp only[]at Z
   refine cM b9.eq_1 g0.eq_1 ⟨?_⟩
   refine e8 (λcr=>bj X cd er cr (er+1)) dM ?_
   intro cr eF
   have DA:=Nf.fr (b4.of (X:=[aG]) eF) Zo
   have x9:aa X cr j=some (.cells (S.ofList [.str [], .Z 0, .aT, .aT, .aT, .aT] 0 .nil) 6 .own):=by rw[eF.ac _ Zo];exact AG
   have el:=uq.trans (b4.of eF)
   have m4:=ay.go (hq.ex eF Zo Zo) (by omega:j<=er+1)
   clear Nf AG uq hq eF
   rcases gl Z with ⟨J,aM,rfl⟩|⟨eQ,arG,aM,Z⟩
   ·rcases gl aM with ⟨fR,U,ar⟩|⟨ds,n5,U,aM⟩
    ·cases ar
     exact(EO ax iW m4 U).mono (λad T ao a=>by obtain⟨F,cy,b,a,_⟩:=a;cases a) (λad T ao a=>a.of el (λ_ a=>by cases a;rfl))
    refine(EO ax iW m4 U).mono ?_ (λad T ao a=>by obtain⟨J,a,_⟩:=a;cases a)
    rintro GV dH gt ⟨akC,i8,V0,CP,C5,w0,gz⟩
    cases CP
    have yp:=gz.le
    have Gl:=DA.fr gz Zo
    obtain⟨gH,mG,rp⟩:=ky C5.len
    refine cH ⟨?_⟩
    have x7:=Gl.mV
    refine fE (rt (W:=2) x7 Zo Zo gH mG) ?_
    refine cH ⟨?_⟩
    refine e8 (λdY=>aa X dY gt=some (.cells (S.ofList [.str [41]] 0 .nil) 1 .own)/\∀e,e<gt->e≠(ba+1)->aa X dY e=aa X dH e) ⟨bh Zo,λe R U=>by simp(disch:=omega) only[aE]⟩ ?_
    rintro dY ⟨PY,gV⟩
    have mw:=w0.ac (gV _ Zo Zo) (gV _ Zo Zo)
    have g3:b4 X [aG] h j dY (gt+1):=⟨Zo,λb ai bQ=>by rw[gV b Zo Zo];exact(el.trans gz).ac b ai bQ⟩
    rcases gl aM with ⟨fR,aO,bN⟩|⟨tN,sn,aO,aM⟩
    ·cases bN
     exact(jq ax (ay.go mw Zo) Zo Zo PY aO).mono (λad T ao a=>by obtain⟨F,cy,a,_⟩:=a;cases a) (λad T ao a=>a.of g3 (λ_ a=>by cases a;rfl))
    ·cases aM
   ·rcases gl aM with ⟨fR,U,ar⟩|⟨ds,n5,U,aM⟩
    ·cases ar
    refine(EO ax iW m4 U).mono ?_ (λad T ao a=>by obtain⟨J,a,_⟩:=a;cases a)
    rintro GV dH gt ⟨akC,i8,V0,CP,C5,w0,gz⟩
    cases CP
    have yp:=gz.le
    have Gl:=DA.fr gz Zo
    obtain⟨gH,mG,rp⟩:=ky C5.len
    refine cH ⟨?_⟩
    have x7:=Gl.mV
    refine fE (rt (W:=2) x7 Zo Zo gH mG) ?_
    refine cH ⟨?_⟩
    refine e8 (λdY=>aa X dY gt=some (.cells (S.ofList [.str [41]] 0 .nil) 1 .own)/\aa X dY (ba+1)=some (.cells (S.ofList [.str x.text, .Z x.at_,GV, .aT, .aT, .aT] 0 .nil) 6 .own)/\∀e,e<gt->e≠(ba+1)->aa X dY e=aa X dH e) ⟨bh Zo,by rw[aE Zo Zo,bh Zo];rfl,λe R U=>by simp(disch:=omega) only[aE]⟩ ?_
    rintro dY ⟨PY,EZ,gV⟩
    have mw:=w0.ac (gV _ Zo Zo) (gV _ Zo Zo)
    have g3:b4 X [aG] h j dY (gt+1):=⟨Zo,λb ai bQ=>by rw[gV b Zo Zo];exact(el.trans gz).ac b ai bQ⟩
    have axV:=DA.lt
    have JC:sN X dY (gt+1) (ba+1) x.text x.at_ GV .aT .aT _ [] []:=⟨EZ,Zo,⟨V0,(C5.ac (λe I=>gV e I.2 (by have:=I.1;omega))).lift (λe I=>⟨by have:=I.1;omega,by have:=I.2;omega⟩)⟩,⟨0,d5.nil _ _⟩,⟨0,d5.nil _ _⟩⟩
    have wE:aa X dY j=some (.cells (S.ofList [.str [], .Z 0, .aT, .aT, .aT, .aT] 0 .nil) 6 .own):=by rw[gV _ Zo Zo,gz.ac _ Zo (by simp;omega)];exact x9
    rcases gl aM with ⟨fR,aO,bN⟩|⟨tN,sn,aO,aM⟩
    ·cases bN
    refine(jq ax (ay.go mw Zo) Zo Zo PY aO).mono ?_ (λad T ao a=>by obtain⟨J,a,_⟩:=a;cases a)
    rintro tK wd Jw ⟨N4,abz,Qv,_,Fx,td⟩
    cases Qv
    cases aM
    exact bH _ _ _ ⟨GV,_,abz,bn,bn,bn,JC.fr td Zo,by rw[td.ac _ Zo (by simp;omega)];exact wE,Fx,g3.trans td,Z⟩
 ·clear I5 hq Nf AG uq Z
  rintro K cr d9 ⟨dd,eQ,oP,t0,d3,t4,DA,x9,hD,el,Z⟩
  have QQ:=DA.lt
  refine ci @t0 ⟨?_⟩
  refine e8 (λdH=>aa X dH d9=some (.cells (S.ofList [.str [114,101,116,117,114,110,115], .str [40]] 0 .nil) 2 .own)/\bj X cr d9 dH (d9+1)) ⟨bh Zo,dM⟩ ?_
  rintro dH ⟨Cw,hM⟩
  have Gl:=DA.fr (b4.of (X:=[aG]) hM) Zo
  have Lw:aa X dH j=some (.cells (S.ofList [.str [], .Z 0, .aT, .aT, .aT, .aT] 0 .nil) 6 .own):=by rw[hM.ac _ Zo];exact x9
  have gz:=el.trans (b4.of hM)
  have sy:=ay.go (hD.ex hM Zo Zo) (by omega:j<=d9+1)
  clear DA x9 el hD hM
  have C5:d5 X dH (λe=>e=d9) d9 (.slice d9 0 2 2) 1 (il [[114,101,116,117,114,110,115],[40]]):=JR (bC:=[[.str [114,101,116,117,114,110,115]],[.str [40]]]) (st:= .own) Cw rfl Zs Zd rfl
  have bP:∃yX,ry [[114,101,116,117,114,110,115],[40]] g0 (aU.drop oP)=some yX/\andThen (some yX) (λ(_:Tok) l=>andThen (iS n false [] l) λout l=>andThen (eD [41] l) λ_ l=>
   h7 [118,97,114] l λe l=>andThen (match e with
    |some _=>andThen (iS n true [] l) λds l=>andThen (eD [59] l) λ_ l=>ok ds l
    |none=>ok [] l) λloc l=>
   andThen (eD [108,101,116] l) λ_ l=>andThen (lG n [] l) λc3 l=>ok (⟨x.text,x.at_,eQ,out,loc,c3⟩:Go.a2.Node) l)=some r:=by
   rw[awn]
   rcases gl Z with ⟨J,R,rfl⟩|⟨bd,eh,R,Z⟩
   ·exact⟨.error J,by rw[R];rfl,rfl⟩
   ·rcases gl Z with ⟨J,U,rfl⟩|⟨cg,c5,U,Z⟩
    ·exact⟨.error J,by rw[R];exact U,rfl⟩
    ·exact⟨.ok (cg,c5),by rw[R];exact U,Z⟩
  clear Z
  obtain⟨yX,bP,Z⟩:=bP
  refine(aes ax sy.a7 sy.par sy.fM sy.hi sy.gY sy.many Zo Zo C5 bP).mono ?_ (λad T ao a=>by
   obtain⟨J,rfl,rfl,a⟩:=a
   simp only[andThen,Zf]at Z
   subst Z
   exact⟨J,rfl,rfl,gz.trans a⟩)
  rintro v9 dY iX ⟨tN,i9,rfl,_,mw,g3⟩
  change andThen (iS n false [] (aU.drop i9)) _=some r at Z
  have tm:=g3.le
  have JC:=Gl.fr g3 Zo
  have wE:aa X dY j=some (.cells (S.ofList [.str [], .Z 0, .aT, .aT, .aT, .aT] 0 .nil) 6 .own):=by rw[g3.ac _ Zo (by simp;omega)];exact Lw
  have AL:=gz.trans g3
  have Sv:=ay.go mw AL.le
  clear Gl Lw gz g3 C5 Cw sy bP mw
  refine ci @t0 ⟨?_⟩
  rcases gl Z with ⟨J,U,rfl⟩|⟨out,ayv,U,Z⟩
  ·exact(EO ax iW Sv U).mono (λad T ao a=>by obtain⟨F,cy,b,a,_⟩:=a;cases a) (λad T ao a=>a.of AL (λ_ a=>by cases a;rfl))
  refine(EO ax iW Sv U).mono ?_ (λad T ao a=>by obtain⟨J,a,_⟩:=a;cases a)
  clear U
  rintro tK wd Jw ⟨out,abz,aju,Qv,Rd,Fx,td⟩
  cases Qv
  have axp:=td.le
  have Sg:=JC.fr td Zo
  have XB:aa X wd j=some (.cells (S.ofList [.str [], .Z 0, .aT, .aT, .aT, .aT] 0 .nil) 6 .own):=by rw[td.ac _ Zo (by simp;omega)];exact wE
  have XX:=AL.trans td
  obtain⟨gH,mG,rp⟩:=ky Rd.len
  have axL:=JC.lt
  refine ci @t4 ⟨?_⟩
  refine fE (rt (W:=3) Sg.mV Zo Zo gH mG) ?_
  refine ci @t0 ⟨?_⟩
  refine e8 (λqL=>aa X qL Jw=some (.cells (S.ofList [.str [41]] 0 .nil) 1 .own)/\aa X qL (ba+1)=some (.cells (S.ofList [.str x.text, .Z x.at_,dd,tK, .aT, .aT] 0 .nil) 6 .own)/\∀e,e<Jw->e≠ba+1->aa X qL e=aa X wd e) ⟨bh Zo,by rw[aE Zo Zo,bh Zo];rfl,λe R U=>by simp(disch:=omega) only[aE]⟩ ?_
  rintro qL ⟨PV,EY,Dk⟩
  have IK:=Fx.ac (Dk _ Zo Zo) (Dk _ Zo Zo)
  have wH:b4 X [aG] h j qL (Jw+1):=⟨Zo,λb ai bQ=>by rw[Dk b Zo Zo];exact XX.ac b ai bQ⟩
  have acJ:sN X qL (Jw+1) (ba+1) x.text x.at_ dd tK .aT eQ out []:=by
   obtain⟨Ho,w3⟩:=Sg.e0
   exact⟨EY,Zo,⟨Ho,(w3.ac (λe I=>Dk e I.2 (by have:=I.1;omega))).lift (λe I=>⟨I.1,by have:=I.2;omega⟩)⟩,⟨aju,(Rd.ac (λe I=>Dk e I.2 (by have:=I.1;omega))).lift (λe I=>⟨by have:=I.1;omega,by have:=I.2;omega⟩)⟩,⟨0,d5.nil _ _⟩⟩
  have XC:aa X qL j=some (.cells (S.ofList [.str [], .Z 0, .aT, .aT, .aT, .aT] 0 .nil) 6 .own):=by rw[Dk _ Zo Zo];exact XB
  clear JC Sg wE XB AL td XX Rd Fx Dk EY Sv
  rcases gl Z with ⟨J,aO,rfl⟩|⟨ay0,ayx,aO,Z⟩
  ·exact(jq ax (ay.go IK Zo) Zo Zo PV aO).mono (λad T ao a=>by obtain⟨F,cy,a,_⟩:=a;cases a) (λad T ao a=>a.of wH (λ_ a=>by cases a;rfl))
  refine(jq ax (ay.go IK Zo) Zo Zo PV aO).mono ?_ (λad T ao a=>by obtain⟨J,a,_⟩:=a;cases a)
  clear aO
  rintro ayX aiw ayF ⟨ay1,abA,an8,_,aaX,H5⟩
  cases an8
  have axr:=H5.le
  have Sh:=acJ.fr H5 Zo
  have XD:aa X aiw j=some (.cells (S.ofList [.str [], .Z 0, .aT, .aT, .aT, .aT] 0 .nil) 6 .own):=by rw[H5.ac _ Zo (by simp;omega)];exact XC
  have P4:=wH.trans H5
  have adh:=ay.go aaX P4.le
  clear acJ XC wH H5 IK PV aaX
  refine ci @t0 ⟨?_⟩
  obtain⟨e,ayy,φ,abu⟩:=qA Z
  refine(ny ax adh φ _).Zm ?_
  rintro ayV Vu Se ⟨rfl,AX,H6⟩
  have axs:=H6.le
  have Nd:=Sh.fr H6 Zo
  have Ls:aa X Vu j=some (.cells (S.ofList [.str [], .Z 0, .aT, .aT, .aT, .aT] 0 .nil) 6 .own):=by rw[H6.ac _ Zo (by simp;omega)];exact XD
  have LF:=P4.trans H6
  have axG:=Sh.lt
  clear Sh XD P4 H6 adh Z
  refine qW b9.eq_1 ⟨?_⟩
  refine ka (λK T aS=>∃(a8:H) (loc:List fP) (cy:Nat),K.g 0=some (.ptr aG 0)/\K.g 2=some (.ptr j 0)/\K.g 4=some (.ptr (ba+1) 0)/\sN X T aS (ba+1) x.text x.at_ dd tK a8 eQ out loc/\aa X T j=some (.cells (S.ofList [.str [], .Z 0, .aT, .aT, .aT, .aT] 0 .nil) 6 .own)/\a2 X T aG bK aU cy/\b4 X [aG] h j T aS/\
   (andThen (eD [108,101,116] (aU.drop cy)) λ_ l=>andThen (lG n [] l) λc3 l=>ok (⟨x.text,x.at_,eQ,out,loc,c3⟩:Go.a2.Node) l)=some r) (λY bH=> ?_) ?_
  ·rcases abu with ⟨aI,Z⟩|⟨aI,Z⟩
   ·rw[aI]at AX ⊢
    simp only[ZD]at AX ⊢
    rw[<-(fI φ).2]at Z
    simp only[]at Z
    refine cM b9.eq_1 @t0 ⟨?_⟩
    refine e8 (λG9=>bj X Vu Se G9 (Se+1)) dM ?_
    intro G9 HZ
    have JB:=Nd.fr (b4.of (X:=[aG]) HZ) Zo
    have Lt:aa X G9 j=some (.cells (S.ofList [.str [], .Z 0, .aT, .aT, .aT, .aT] 0 .nil) 6 .own):=by rw[HZ.ac _ Zo];exact Ls
    have H7:=LF.trans (b4.of HZ)
    have atw:=ay.go (AX.ex HZ Zo Zo) (by omega:j<=Se+1)
    clear Nd Ls LF AX HZ
    have LY:∃rd,iS n true [] (aU.drop (abA+1))=some rd/\(match rd with
     | .error J=>r= .error J
     | .ok (ds,l)=>∃yX,eD [59] l=some yX/\(match yX with
       | .error J=>r= .error J
       | .ok (_,l)=>(andThen (eD [108,101,116] l) λ_ l=>andThen (lG n [] l) λc3 l=>ok (⟨x.text,x.at_,eQ,out,ds,c3⟩:Go.a2.Node) l)=some r)):=by
     rcases gl Z with ⟨J,aM,rfl⟩|⟨loc,arG,aM,Z⟩
     ·rcases gl aM with ⟨fR,U,ar⟩|⟨ds,n5,U,aM⟩
      ·cases ar;exact⟨_,U,rfl⟩
      ·rcases gl aM with ⟨fR,aO,bN⟩|⟨tN,sn,aO,aM⟩
       ·cases bN;exact⟨_,U,_,aO,rfl⟩
       ·cases aM
     ·rcases gl aM with ⟨fR,U,ar⟩|⟨ds,n5,U,aM⟩
      ·cases ar
      ·rcases gl aM with ⟨fR,aO,bN⟩|⟨tN,sn,aO,aM⟩
       ·cases bN
       ·cases aM;exact⟨_,U,_,aO,Z⟩
    obtain⟨rd,U,aa9⟩:=LY
    refine(EO ax iW atw U).mono ?_ (λad T ao a=>by
     obtain⟨J,rfl,rfl,a⟩:=a
     subst aa9
     exact⟨J,rfl,rfl,H7.trans a⟩)
    rintro Tb Kx Nb ⟨ds,ayj,ajv,rfl,aa8,apc,AJ⟩
    obtain⟨yX,aO,C7⟩:=aa9
    have axt:=AJ.le
    have Gk:=JB.fr AJ Zo
    have Lu:aa X Kx j=some (.cells (S.ofList [.str [], .Z 0, .aT, .aT, .aT, .aT] 0 .nil) 6 .own):=by rw[AJ.ac _ Zo (by simp;omega)];exact Lt
    have anf:=H7.trans AJ
    obtain⟨fy,hu,xh⟩:=ky aa8.len
    refine ci @t4 ⟨?_⟩
    refine fE (rt (W:=4) Gk.mV Zo Zo fy hu) ?_
    refine ci @t0 ⟨?_⟩
    refine e8 (λqL=>aa X qL Nb=some (.cells (S.ofList [.str [59]] 0 .nil) 1 .own)/\aa X qL (ba+1)=some (.cells (S.ofList [.str x.text, .Z x.at_,dd,tK,Tb, .aT] 0 .nil) 6 .own)/\∀e,e<Nb->e≠ba+1->aa X qL e=aa X Kx e) ⟨bh Zo,by rw[aE Zo Zo,bh Zo];rfl,λe R U=>by simp(disch:=omega) only[aE]⟩ ?_
    rintro BZ ⟨amI,amj,Dl⟩
    have Mn:=apc.ac (Dl _ Zo Zo) (Dl _ Zo Zo)
    have AK:b4 X [aG] h j BZ (Nb+1):=⟨Zo,λb ai bQ=>by rw[Dl b Zo Zo];exact anf.ac b ai bQ⟩
    have Dz:sN X BZ (Nb+1) (ba+1) x.text x.at_ dd tK Tb eQ out ds:=by
     obtain⟨Ho,w3⟩:=Gk.e0
     obtain⟨OS,jk⟩:=Gk.fF
     exact⟨amj,Zo,⟨Ho,(w3.ac (λe I=>Dl e I.2 (by have:=I.1;omega))).lift (λe I=>⟨I.1,by have:=I.2;omega⟩)⟩,⟨OS,(jk.ac (λe I=>Dl e I.2 (by have:=I.1;omega))).lift (λe I=>⟨I.1,by have:=I.2;omega⟩)⟩,⟨ajv,(aa8.ac (λe I=>Dl e I.2 (by have:=I.1;omega))).lift (λe I=>⟨by have:=I.1;omega,by have:=I.2;omega⟩)⟩⟩
    have Lv:aa X BZ j=some (.cells (S.ofList [.str [], .Z 0, .aT, .aT, .aT, .aT] 0 .nil) 6 .own):=by rw[Dl _ Zo Zo];exact Lu
    refine(jq ax (ay.go Mn Zo) Zo Zo amI aO).mono ?_ (λad T ao a=>by
     obtain⟨J,rfl,rfl,a⟩:=a
     subst C7
     exact⟨J,rfl,rfl,AK.trans a⟩)
    rintro ayZ Ha Jx ⟨ay4,Ba,rfl,_,Q7,E8⟩
    exact bH _ _ _ ⟨Tb,ds,Ba,a1 t0,a1 d3,a1 t4,Dz.fr E8 Zo,by rw[E8.ac _ Zo (by simp;omega)];exact Lv,Q7,AK.trans E8,C7⟩
   ·rw[aI]at AX ⊢
    simp only[Zv,ZB]at AX ⊢
    simp only[andThen,ok]at Z
    refine cM b9.eq_1 g0.eq_1 ⟨?_⟩
    refine bH _ _ _ ⟨.aT,[],abA,a1 t0,a1 d3,a1 t4,Nd.ac (λe R U=>by simp(disch:=omega) only[aE]) Zo,by simp(disch:=omega) only[aE];exact Ls,AX.ac (by simp(disch:=omega) only[aE]) (by simp(disch:=omega) only[aE]), ?_,Z⟩
    exact⟨Zo,λb ai bQ=>by rw[<-LF.ac b ai bQ];simp(disch:=omega) only[aE]⟩
  ·clear abu AX Nd Ls LF t0 d3 t4
   rintro K G9 Na ⟨a8,loc,ayi,t0,d3,t4,JB,Lt,aaY,H7,Z⟩
   have axH:=JB.lt
   refine ci @t0 ⟨?_⟩
   refine e8 (λdH=>aa X dH Na=some (.cells (S.ofList [.str [108,101,116]] 0 .nil) 1 .own)/\bj X G9 Na dH (Na+1)) ⟨bh Zo,dM⟩ ?_
   rintro Kx ⟨PW,CB⟩
   have Gk:=JB.fr (b4.of (X:=[aG]) CB) Zo
   have Lu:aa X Kx j=some (.cells (S.ofList [.str [], .Z 0, .aT, .aT, .aT, .aT] 0 .nil) 6 .own):=by rw[CB.ac _ Zo];exact Lt
   have AJ:=H7.trans (b4.of CB)
   have Su:=ay.go (aaY.ex CB Zo Zo) (by omega:j<=Na+1)
   clear JB Lt H7 aaY CB
   rcases gl Z with ⟨J,aO,rfl⟩|⟨ay2,ayz,aO,Z⟩
   ·exact(jq ax Su Zo Zo PW aO).mono (λad T ao a=>by obtain⟨F,cy,a,_⟩:=a;cases a) (λad T ao a=>a.of AJ (λ_ a=>by cases a;rfl))
   refine(jq ax Su Zo Zo PW aO).mono ?_ (λad T ao a=>by obtain⟨J,a,_⟩:=a;cases a)
   clear aO
   rintro ayY BZ fa ⟨ay3,i16,an9,_,Mn,AK⟩
   cases an9
   have axu:=AK.le
   have Dz:=Gk.fr AK Zo
   have Lv:aa X BZ j=some (.cells (S.ofList [.str [], .Z 0, .aT, .aT, .aT, .aT] 0 .nil) 6 .own):=by rw[AK.ac _ Zo (by simp;omega)];exact Lu
   have XY:=AJ.trans AK
   have axI:=Dz.lt
   clear Gk Lu AJ AK Su PW
   obtain⟨Ho,w3⟩:=Dz.e0
   obtain⟨OS,jk⟩:=Dz.fF
   obtain⟨wo,Mw⟩:=Dz.hv
   obtain⟨vJ,GU,y4⟩:=ky w3.len
   obtain⟨ld,mL,Td⟩:=ky jk.len
   obtain⟨fW,fw,z3⟩:=ky Mw.len
   refine gM ?_
   refine fD (λm K T aS=>∃(eV:H) (c3:List hl) (bC:List (List H)) (cK:List Nat) (cy:Nat),K.g 0=some (.ptr aG 0)/\K.g 2=some (.ptr j 0)/\K.g 4=some (.ptr (ba+1) 0)/\aa X T (ba+1)=some (.cells (S.ofList [.str x.text, .Z x.at_,dd,tK,a8,eV] 0 .nil) 6 .own)/\
    (∀e,ba+2<=e->e<fa->aa X T e=aa X BZ e)/\gD X T eV 4 bC.flatten cK/\(∀e∈cK,fa<=e/\e<aS)/\oi X T (vu fa aS cK) c3 bC/\aa X T j=some (.cells (S.ofList [.str [], .Z 0, .aT, .aT, .aT, .aT] 0 .nil) 6 .own)/\a2 X T aG bK aU cy/\b4 X [aG] h j T aS/\fa<=aS/\c3.length+m<=n/\
    (andThen (lG m c3 (aU.drop cy)) λc3 l=>ok (⟨x.text,x.at_,eQ,out,loc,c3⟩:Go.a2.Node) l)=some r)
    n ⟨.aT,[],[],[],i16,t0,d3,t4,Dz.mV,λ_ _ _=>rfl, .inl (.inl ⟨rfl,rfl,rfl⟩),Zs,rfl,Lv,Mn,XY,Zi _,Zs,Z⟩ ?_
   clear Z Mn Lv XY t0 d3 t4
   rintro m K Ha Jx ⟨eV,c3,bC,cK,Ba,t0,d3,t4,PI,abZ,MA,wM,Mr,XE,Q7,E8,axv,axN,Z⟩
   cases m with
   |zero=>simp[lG,andThen]at Z
   |succ m=>
   unfold lG at Z
   have atx:=ay.go Q7 E8.le
   refine gM ?_
   refine ci @t0 ⟨?_⟩
   have FE:∃e l,aU.drop Ba=e::l/\((hN e [116,101,108]=true/\ok (⟨x.text,x.at_,eQ,out,loc,c3⟩:Go.a2.Node) l=some r)\/(hN e [116,101,108]=false/\(andThen (andThen (ug m (aU.drop Ba)) λan l=>lG m (c3++[an]) l) λc3 l=>ok (⟨x.text,x.at_,eQ,out,loc,c3⟩:Go.a2.Node) l)=some r)):=by
    rcases gl Z with ⟨J,R,rfl⟩|⟨ads,b5,R,Z⟩
    ·obtain⟨e,l,U,ar⟩:=qA R
     rcases ar with ⟨ar,aO⟩|⟨ar,aO⟩
     ·cases aO
     ·exact⟨e,l,U, .inr ⟨ar,by rw[show(andThen (ug m (aU.drop Ba)) λan l=>lG m (c3++[an]) l)=some (.error J) from aO];rfl⟩⟩
    ·obtain⟨e,l,U,ar⟩:=qA R
     rcases ar with ⟨ar,aO⟩|⟨ar,aO⟩
     ·cases aO
      exact⟨e,_,U, .inl ⟨ar,Z⟩⟩
     ·exact⟨e,l,U, .inr ⟨ar,by rw[show(andThen (ug m (aU.drop Ba)) λan l=>lG m (c3++[an]) l)=some (.ok (ads,b5)) from aO];exact Z⟩⟩
   clear Z
   obtain⟨e,ayA,χ,aqc⟩:=FE
   refine(ny ax atx χ _).Zm ?_
   rintro ayW B0 vk ⟨rfl,uO,P5⟩
   have axw:=P5.le
   have Je:∀e,j<=e->e<Jx->aa X B0 e=aa X Ha e:=λe R U=>P5.ac e U (by simp;omega)
   have XZ:=E8.trans P5
   rcases aqc with ⟨aI,Z⟩|⟨aI,Z⟩
   ·rw[aI]at uO ⊢
    simp only[ZD]at uO ⊢
    simp only[ok,Zf]at Z
    subst Z
    obtain⟨bB,cF,fp⟩:=gD.one MA
    have PJ:aa X B0 (ba+1)=some (.cells (S.ofList [.str x.text, .Z x.at_,dd,tK,a8,eV] 0 .nil) 6 .own):=by rw[Je _ Zo Zo];exact PI
    have amB:aa X B0 j=some (.cells (S.ofList [.str [], .Z 0, .aT, .aT, .aT, .aT] 0 .nil) 6 .own):=by rw[Je _ Zo Zo];exact XE
    refine gp b9.eq_1 @t4 (bJ PJ) @d3 ⟨?_⟩
    refine fE (hO (D:=6) (b:=j) (W:=0) (n:=6) (c:=S.ofList [.str [], .Z 0, .aT, .aT, .aT, .aT] 0 .nil) (by simp(disch:=omega) only[aE];exact amB) Zo rfl Zd Zd (by simp[H.cells,jD,GU,mL,fw,cF,show pH (.Z x.at_)=true from rfl,show pH (.str x.text)=true from rfl])) ?_
    refine ci @d3 ⟨?_⟩
    have Dn:∀gv,(∀e,j<e->e<vk->aa X gv e=aa X B0 e)->∀e,j<e->e<Jx->aa X gv e=aa X Ha e:=λgv a e R U=>by rw[a e R Zo,Je e Zo U]
    generalize X9:bm X _ j _=gv
    have MT:∀e,e≠j->e<vk->aa X gv e=aa X B0 e:=λe R U=>by rw[<-X9];simp(disch:=omega) only[aE]
    clear X9
    have RH:=Dn gv (λe R U=>MT e Zo U)
    have ys:=Mr.wide
    obtain⟨ajz,Mv⟩:=(MA.ac (T:=gv) (λe I=>RH e (by have:=wM e I;omega) (wM e I).2)).tG Zd ys.2 (by rw[ys.1];omega) (P:=dy j (vk+1)) (λe I=>by have:=wM e I;exact⟨Zo,Zo⟩)
    have c0:∀e,dy (ba+1+1) fa e->aa X gv e=aa X BZ e:=λe I=>by
     have R:=I.1;have U:=I.2
     rw[RH e Zo Zo];exact abZ e Zo U
    have e5:∀e,dy (ba+1+1) fa e->dy j (vk+1) e:=λe I=>⟨by have:=I.1;omega,by have:=I.2;omega⟩
    refine⟨_,Ba+1,_,by rw[(fI χ).2],rfl,⟨dd,tK,a8,eV,Ho,OS,wo,ajz,bC,rfl,(w3.ac c0).lift e5,(jk.ac c0).lift e5,(Mw.ac c0).lift e5,Mv, ?_⟩, ?_, ?_⟩
    ·exact Mr.ac (λe I=>RH e (by have:=I.1;omega) I.2.1) (λe I=>⟨by have:=I.1;omega,by have:=I.2.1;omega⟩)
    ·exact uO.ac (MT _ Zo Zo) (MT _ Zo Zo)
    ·exact⟨Zo,λb ai bQ=>by rw[MT b Zo Zo];exact XZ.ac b ai bQ⟩
   ·rw[aI]at uO ⊢
    simp only[Zv,ZB]at uO ⊢
    obtain⟨bB,cF,fp⟩:=gD.one MA
    have PJ:aa X B0 (ba+1)=some (.cells (S.ofList [.str x.text, .Z x.at_,dd,tK,a8,eV] 0 .nil) 6 .own):=by rw[Je _ Zo Zo];exact PI
    refine f7 b9.eq_1 g0.eq_1 @t4 (bJ PJ) @t0 ⟨?_⟩
    refine e8 (λOv=>bj X B0 vk Ov (vk+1+8)) dM ?_
    intro Ov P1
    have aqQ:∀e,j<=e->e<Jx->aa X Ov e=aa X Ha e:=λe R U=>by rw[P1.ac e Zo];exact Je e R U
    have X0:=XZ.trans (b4.of P1)
    have aty:=ay.go (uO.ex P1 Zo Zo) (by omega:j<=vk+1+8)
    have Mx:∃DS,ug m (aU.drop Ba)=some DS/\(match DS with
     | .error J=>r= .error J
     | .ok (an,l)=>(andThen (lG m (c3++[an]) l) λc3 l=>ok (⟨x.text,x.at_,eQ,out,loc,c3⟩:Go.a2.Node) l)=some r):=by
     rcases gl Z with ⟨J,R,rfl⟩|⟨ads,b5,R,Z⟩
     ·rcases gl R with ⟨fR,U,ar⟩|⟨an,l,U,ar⟩
      ·cases ar;exact⟨_,U,rfl⟩
      ·exact⟨_,U,by show andThen _ _=_;rw[ar];rfl⟩
     ·rcases gl R with ⟨fR,U,ar⟩|⟨an,l,U,ar⟩
      ·cases ar
      ·exact⟨_,U,by show andThen _ _=_;rw[ar];exact Z⟩
    obtain⟨DS,R,g4⟩:=Mx
    refine(ale ax eK Zo aty R).mono ?_ (λad T ao a=>by
     obtain⟨J,rfl,rfl,a⟩:=a
     subst g4
     exact⟨J,rfl,rfl,X0.trans a⟩)
    rintro Tc Hb acA ⟨an,aql,row,rfl,rfl,Rf,apd,P6⟩
    have axx:=P6.le
    have ang:=X0.trans P6
    have Jf:∀e,j<=e->e<Jx->aa X Hb e=aa X Ha e:=λe R U=>by rw[P6.ac e Zo (by simp;omega)];exact aqQ e R U
    have Xs:aa X Hb (ba+1)=some (.cells (S.ofList [.str x.text, .Z x.at_,dd,tK,a8,eV] 0 .nil) 6 .own):=by rw[Jf _ Zo Zo];exact PI
    have apH:=Rf.len
    obtain⟨jn,e0,fF,hv,rfl⟩:∃jn e0 fF hv,row=[jn,e0,fF,hv]:=by
     match row,apH with
     |[J,b,c,d],_=>exact⟨J,b,c,d,rfl⟩
    have wZ:jD [jn,e0,fF,hv]=true:=by obtain⟨_,_,_,_,_,R,_,_,_,bN⟩:=Rf;exact bN
    refine ci (bJ Xs) ⟨?_⟩
    refine gQ fp ?_
    have j8:k8 X (bm X Hb (vk+1+4) (some (.cells (S.ofList [jn,e0,fF,hv] 0 .nil) 4 .own))) 4 (.slice (vk+1+4) 0 1 1)=some (1,[jn,e0,fF,hv]):=rs (bh Zo) (n4 _) rfl _
    have ys:=Mr.wide
    have tl:=wy ys.2
    obtain⟨auF,El,gw,ic,abd,LQ,aoG⟩:=(MA.ac (T:=bm X Hb (vk+1+4) (some (.cells (S.ofList [jn,e0,fF,hv] 0 .nil) 4 .own))) (λe I=>by have:=wM e I;rw[aE Zo Zo];exact Jf e Zo Zo)).append (j:=acA) Zd j8 rfl Zd wZ (by rw[tl,ys.1];simp only[ZC,ZO];omega) Zo (λe I=>by have:=wM e I;omega)
    refine kG ic ?_
    obtain⟨eM,e3,jw⟩:=ks.one abd
    have k2:∀e,e<acA->e≠vk+1+4->e∉cK->aa X El e=aa X Hb e:=λe R U ar=>by rw[aoG e Zo ar,aE Zo U]
    have dW:∀e,e<fa->e∉cK:=λe R U=>by have:=wM e U;omega
    have aml:aa X El (ba+1)=some (.cells (S.ofList [.str x.text, .Z x.at_,dd,tK,a8,eV] 0 .nil) 6 .own):=by rw[k2 _ Zo Zo (dW _ Zo)];exact Xs
    refine ci @t4 ⟨?_⟩
    refine fE (rt (W:=5) aml Zo Zo eM e3) ?_
    have lp:∀e,e≠ba+1->∀cR,aa X (bm X El (ba+1) cR) e=aa X El e:=λe a cR=>aE Zo a
    refine⟨m,Zo,auF,c3++[an],bC++[[jn,e0,fF,hv]],gw,aql,a1 t0,a1 d3,a1 t4,by rw[bh Zo];rfl, ?_, .inl ?_, ?_, ?_, ?_, ?_, ?_,Zo,by simp;omega,g4⟩
    ·intro e R U
     rw[lp e Zo,k2 e Zo Zo (dW e U),Jf e Zo Zo]
     exact abZ e R U
    ·rw[zd,Yp,List.flatten_nil,Yq]
     exact abd.ac λe I=>lp e (by rcases LQ e I with rfl|a;omega;have:=wM e a;omega) _
    ·intro e I
     rcases LQ e I with rfl|a
     ·omega
     ·have:=wM e a;omega
    ·refine oi.snoc (Rf.ac (λe I=> ?_) (λe I=>I)) (Mr.ac (λe I=> ?_) (λe I=>I)) (λe I=> ?_) (λe I=>⟨?_,λoO=>by have:=I.1;have:=oO.2.1;omega⟩)
     ·have R:=I.1;have U:=I.2
      rw[lp e Zo,k2 e Zo Zo (λa=>by have:=wM e a;omega)]
     ·have R:=I.1;have U:=I.2.1
      rw[lp e Zo,k2 e Zo Zo I.2.2,Jf e Zo Zo]
     ·have R:=I.1;have U:=I.2.1
      refine⟨R,Zo,λa=> ?_⟩
      rcases LQ e a with rfl|a
      ·omega
      ·exact I.2.2 a
     ·have R:=I.1;have U:=I.2
      refine⟨Zo,Zo,λa=> ?_⟩
      rcases LQ e a with rfl|a
      ·omega
      ·have:=wM e a;omega
    ·rw[lp _ Zo,k2 _ Zo Zo (dW _ Zo),Jf _ Zo Zo];exact XE
    ·exact apd.ac (by rw[lp _ Zo,k2 _ Zo Zo (dW _ Zo)]) (by rw[lp _ Zo,k2 _ Zo Zo (dW _ Zo)])
    ·exact⟨Zo,λb ai bQ=>by rw[lp b Zo,k2 b Zo Zo (dW b Zo)];exact ang.ac b ai bQ⟩
end
def oo(X:ck)(h:S ak):(Nat->Prop)->List Go.a2.Node->List (List H)->Prop
 |_,[],bC=>bC=[]
 |P,an::c3,bC=>∃row hw bs,bC=row::hw/\(∀e,bs e->P e)/\pk X h bs an row/\oo X h (λe=>P e/\¬bs e) c3 hw
def pk.ac{X:ck}{h T:S ak}{P bs:Nat->Prop}{g:Go.a2.Node}{row:List H}(a:pk X h P g row)(D:∀e,P e->aa X T e=aa X h e)(aB:∀e,P e->bs e):pk X T bs g row:=by
 obtain⟨dd,dz,a8,eV,cZ,dO,ei,h2,bC,F,R,U,ar,aO,bN⟩:=a
 exact⟨dd,dz,a8,eV,cZ,dO,ei,h2,bC,F,(R.ac D).lift aB,(U.ac D).lift aB,(ar.ac D).lift aB,(aO.ac D).lift aB,bN.ac D aB⟩
def pk.len{X:ck}{h:S ak}{P:Nat->Prop}{g:Go.a2.Node}{row:List H}(a:pk X h P g row):row.length=6:=by
 obtain⟨dd,dz,a8,eV,cZ,dO,ei,h2,bC,F,_⟩:=a
 subst F;rfl
def oo.ac{X:ck}{h T:S ak}:∀{c3:List Go.a2.Node}{bC:List (List H)}{P bs:Nat->Prop}(D:∀e,P e->aa X T e=aa X h e) (aB:∀e,P e->bs e),oo X h P c3 bC->oo X T bs c3 bC:=by
 intro c3
 induction c3 with
 |nil=>intro bC P bs D aB a;exact a
 |cons an c3 al=>
  rintro bC P bs D aB ⟨row,hw,eE,R,cl,U,ar⟩
  exact⟨row,hw,eE,R,λe I=>aB e (cl e I),U.ac (λe I=>D e (cl e I)) (λe I=>I),al (λe I=>D e I.1) (λe I=>⟨aB e I.1,I.2⟩) ar⟩
def oo.snoc{X:ck}{h:S ak}{bs:Nat->Prop}{an:Go.a2.Node}{row:List H}(a:pk X h bs an row):∀{c3:List Go.a2.Node}{bC:List (List H)}{oq P:Nat->Prop},oo X h oq c3 bC->(∀e,oq e->P e)->(∀e,bs e->P e/\¬oq e)->oo X h P (c3++[an]) (bC++[row]):=by
 intro c3
 induction c3 with
 |nil=>rintro bC oq P rfl R U;exact⟨row,[],bs,rfl,λe I=>(U e I).1,a,rfl⟩
 |cons J c3 al=>
  rintro bC oq P ⟨sC,hw,eE,rfl,cl,ar,aO⟩ R U
  exact⟨sC,hw++[row],eE,rfl,λe I=>R e (cl e I),ar,al aO (λe I=>⟨R e I.1,I.2⟩) (λe I=>⟨⟨(U e I).1,λiI=>(U e I).2 (cl e iI)⟩,λoO=>(U e I).2 oO.1⟩)⟩
def oo.wide{X:ck}{h:S ak}:∀{c3:List Go.a2.Node}{bC:List (List H)}{P:Nat->Prop},oo X h P c3 bC->bC.length=c3.length/\∀r∈bC,r.length=6:=by
 intro c3
 induction c3 with
 |nil=>rintro bC P rfl;simp
 |cons J c3 al=>
  rintro bC P ⟨sC,hw,eE,rfl,cl,U,ar⟩
  obtain⟨aO,bN⟩:=al ar
  refine⟨by simp[aO],λr Z=> ?_⟩
  rcases Zt.1 Z with rfl|Z
  ·exact U.len
  ·exact bN r Z
def oo.get{X:ck}{h:S ak}:∀{c3:List Go.a2.Node}{bC:List (List H)}{P:Nat->Prop},oo X h P c3 bC->∀(i:Nat) g,c3[i]? =some g->∃row,bC[i]? =some row/\pk X h P g row:=by
 intro c3
 induction c3 with
 |nil=>intro bC P _ i g a;simp at a
 |cons J c3 al=>
  rintro bC P ⟨sC,hw,eE,rfl,cl,U,ar⟩ i g a
  cases i with
  |zero=>simp at a;subst a;exact⟨sC,rfl,U.ac (λ_ _=>rfl) cl⟩
  |succ i=>simp at a;obtain⟨row,aO,bN⟩:=al ar i g a;exact⟨row,by simpa using aO,bN.ac (λ_ _=>rfl) (λe I=>I.1)⟩
def oi.get{X:ck}{h:S ak}:∀{c3:List hl}{bC:List (List H)}{P:Nat->Prop},oi X h P c3 bC->∀(i:Nat) g,c3[i]? =some g->∃row,bC[i]? =some row/\xy X h P g row:=by
 intro c3
 induction c3 with
 |nil=>intro bC P _ i g a;simp at a
 |cons J c3 al=>
  rintro bC P ⟨sC,hw,eE,rfl,cl,U,ar⟩ i g a
  cases i with
  |zero=>simp at a;subst a;exact⟨sC,rfl,U.ac (λ_ _=>rfl) cl⟩
  |succ i=>simp at a;obtain⟨row,aO,bN⟩:=al ar i g a;exact⟨row,by simpa using aO,bN.ac (λ_ _=>rfl) (λe I=>I.1)⟩
def pk.jD{X:ck}{h:S ak}{P:Nat->Prop}{g:Go.a2.Node}{row:List H}(a:pk X h P g row):Go.bg.jD row=true:=by
 obtain⟨dd,dz,a8,eV,cZ,dO,ei,h2,bC,rfl,R,U,ar,aO,_⟩:=a
 simp[Go.bg.jD,(ky R.len).2.1,(ky U.len).2.1,(ky ar.len).2.1,(ky aO.len).2.1,show pH (.Z g.at_)=true from rfl,show pH (.str g.name)=true from rfl]
def nD(X:ck)(h:S ak)(P:Nat->Prop)(ap:List Go.a2.Node)(v:H):Prop:=∃b a8 cL bC,v= .ptr b 0/\P b/\am X h (.ptr b 0)=some a8/\d5 X h P cL a8 6 bC/\oo X h P ap bC
def nD.ac{X:ck}{h T:S ak}{P bs:Nat->Prop}{ap:List Go.a2.Node}{v:H}(a:nD X h P ap v)(D:∀e,P e->aa X T e=aa X h e)(aB:∀e,P e->bs e):nD X T bs ap v:=by
 obtain⟨b,a8,cL,bC,rfl,R,U,ar,aO⟩:=a
 exact⟨b,a8,cL,bC,rfl,aB _ R,by rw[cA,D _ R, <-cA];exact U,(ar.ac D).lift aB,aO.ac D aB⟩
section
variable{X:ck}{h T aX aJ:S ak}{j ao aL a6 aG bK:Nat}{aU:List Tok}{i:Nat}
def atC(ax:dv X)(eK:v8 X){n:Nat}(r9:n<=170000)(iW:aU.length<=100000)(ay:it X h j aG bK aU i){r:Except Int (List Go.a2.Node×List Tok)}(Z:o2 n [] (aU.drop i)=some r):
 aR X 68 [.ptr aG 0] h j (λad T ao=>∃ap cy,r= .ok (ap,aU.drop cy)/\nD X T (dy j ao) ap ad/\a2 X T aG bK aU cy/\b4 X [aG] h j T ao) (iF X aG h j r):=by
 refine c4 (aic X) (ax.none _ _ rfl) ?_
 rw[aid]
 unfold Vh
 have gL:=ay.a7
 have j3:=ay.hi
 have hT:=ay.fM
 have jz:=ay.gY
 refine cH ⟨?_⟩
 have XA:aa X (bm X h j (some (.cells (S.ofList [.aT] 0 .nil) 1 .own))) j=some (.cells (S.ofList [.aT] 0 .nil) 1 .own):=bh Zo
 have bU:bj X h j (bm X h j (some (.cells (S.ofList [.aT] 0 .nil) 1 .own))) (j+1):=dM
 refine fD (λm K T aS=>∃(a8:H) (ap:List Go.a2.Node) (bC:List (List H)) (cK:List Nat) (cy:Nat) (c:Bool),K.g 0=some (.ptr aG 0)/\K.g 3=some (.ptr j 0)/\K.g 4=some (.bool c)/\aa X T j=some (.cells (S.ofList [a8] 0 .nil) 1 .own)/\gD X T a8 6 bC.flatten cK/\(∀e∈cK,j+1<=e/\e<aS)/\oo X T (vu (j+1) aS cK) ap bC/\a2 X T aG bK aU cy/\b4 X [aG] h j T aS/\j+1<=aS/\ap.length+m<=n/\
  (if c then o2 m ap (aU.drop cy)=some r else r= .ok (ap,aU.drop cy)))
  n ⟨.aT,[],[],[],i,true,bn,bn,bn,XA, .inl (.inl ⟨rfl,rfl,rfl⟩),Zs,rfl,ay.par.ex bU Zo Zo,b4.of bU,Zi _,Zs,Z⟩ ?_
 clear Z XA bU
 rintro m K aJ a6 ⟨a8,ap,bC,cK,eP,c,t0,t3,t4,um,uP,np,L4,dt,dc,f2,CV,Z⟩
 cases c with
 |false=>
  simp only[Zv,ZB]at Z
  subst Z
  refine cM @t4 @t3 ⟨?_⟩
  have wT:=L4.wide
  obtain⟨cL,cz⟩:=uP.tG Zd wT.2 (by rw[wT.1];omega) (P:=dy j a6) (λe I=>by have:=np e I;exact⟨Zo,Zo⟩)
  exact⟨ap,eP,rfl,⟨j,a8,cL,bC,rfl,⟨Zo,Zo⟩,by rw[bJ um];rfl,cz,L4.ac (λ_ _=>rfl) (λe I=>⟨by have:=I.1;omega,I.2.1⟩)⟩,dt,dc⟩
 |true=>
  simp only[ZD]at Z
  cases m with
  |zero=>simp[o2]at Z
  |succ m=>
  unfold o2 at Z
  have fK:=ay.go dt dc.le
  obtain⟨bB,cF,fp⟩:=gD.one uP
  have l7:am X aJ (.ptr j 0)=some a8:=by rw[bJ um];rfl
  refine gp @t4 @t3 @t0 @l7 ⟨?_⟩
  have A4:∃DS,Go.a2.node m (aU.drop eP)=some DS/\(match DS with
   | .error J=>r= .error J
   | .ok (an,l)=>(match l with
     |[]=>none
     |x::_=>if x.kind=7 then ok (ap++[an]) l else o2 m (ap++[an]) l)=some r):=by
   rcases gl Z with ⟨J,R,rfl⟩|⟨an,b5,R,Z⟩
   ·exact⟨_,R,rfl⟩
   ·exact⟨_,R,Z⟩
  obtain⟨DS,R,g4⟩:=A4
  clear Z
  have m3:=fK.go (ao:=a6+12) dt Zo
  refine(asA ax eK Zo iW m3 R).mono ?_ (λad T ao a=>by
   obtain⟨J,rfl,rfl,a⟩:=a
   subst g4
   exact⟨J,rfl,rfl,dc.trans (a.down Zo (λb ai=> .inl ai))⟩)
  rintro v3 aY ba ⟨g,i3,row,rfl,rfl,Rg,gA,dZ⟩
  have ie:=dZ.le
  have E9:b4 X [aG] h j aY ba:=dc.trans (dZ.down Zo (λb ai=> .inl ai))
  have Mc:=Rg.len
  have wZ:=Rg.jD
  obtain⟨jn,e0,fF,hv,oc,m5,rfl⟩:∃jn e0 fF hv oc m5,row=[jn,e0,fF,hv,oc,m5]:=by
   match row,Mc with
   |[J,b,c,d,F,f],_=>exact⟨J,b,c,d,F,f,rfl⟩
  have s6:aa X aY j=some (.cells (S.ofList [a8] 0 .nil) 1 .own):=by rw[dZ.ac _ Zo (by simp;omega)];exact um
  have c0:∀e,j<=e->e<a6->aa X aY e=aa X aJ e:=λe R U=>dZ.ac e Zo (by simp;omega)
  have aq1:am X aY (.ptr j 0)=some a8:=by rw[bJ s6];rfl
  refine ci @aq1 ⟨?_⟩
  refine gQ fp ?_
  have j8:k8 X (bm X aY (a6+7) (some (.cells (S.ofList [jn,e0,fF,hv,oc,m5] 0 .nil) 6 .own))) 6 (.slice (a6+7) 0 1 1)=some (1,[jn,e0,fF,hv,oc,m5]):=rs (bh Zo) (n4 _) rfl _
  have wT:=L4.wide
  have tl:=wy wT.2
  obtain⟨kq,bw,gw,ic,se,ut,f1⟩:=(uP.ac (T:=bm X aY (a6+7) (some (.cells (S.ofList [jn,e0,fF,hv,oc,m5] 0 .nil) 6 .own))) (λe I=>by have:=np e I;rw[aE Zo Zo];exact c0 e Zo Zo)).append (j:=ba) Zd j8 rfl Zd wZ (by rw[tl,wT.1];simp only[ZC,ZO];omega) Zo (λe I=>by have:=np e I;omega)
  refine kG ic ?_
  obtain⟨eM,e3,jw⟩:=ks.one se
  have ep:∀e,e<ba->e≠a6+7->e∉cK->aa X bw e=aa X aY e:=λe R U ar=>by rw[f1 e Zo ar,aE Zo U]
  have dW:∀e,e<j+1->e∉cK:=λe R U=>by have:=np e U;omega
  have x8:aa X bw j=some (.cells (S.ofList [a8] 0 .nil) 1 .own):=by rw[ep _ Zo Zo (dW _ Zo)];exact s6
  refine cH ⟨?_⟩
  refine fE (rt (W:=0) x8 Zo Zo eM e3) ?_
  refine ci @t0 ⟨?_⟩
  have dG:∀e,e≠j->∀cR,aa X (bm X bw j cR) e=aa X bw e:=λe a cR=>aE Zo a
  have ha:∀cR,a2 X (bm X bw j cR) aG bK aU i3:=λcR=>gA.ac (by rw[dG _ Zo,ep _ Zo Zo (dW _ Zo)]) (by rw[dG _ Zo,ep _ Zo Zo (dW _ Zo)])
  obtain⟨x,l,aH,yt⟩:∃x l,aU.drop i3=x::l/\(if x.kind=7 then ok (ap++[g]) (aU.drop i3)else o2 m (ap++[g]) (aU.drop i3))=some r:=by
   cases aH:aU.drop i3 with
   |nil=>rw[aH]at g4;cases g4
   |cons x l=>rw[aH]at g4;exact⟨x,l,rfl,g4⟩
  refine e8 (λbL=>aa X bL j=some (.cells (S.ofList [kq] 0 .nil) 1 .own)/\(∀e,e≠j->aa X bL e=aa X bw e)) ⟨by rw[bh Zo];rfl,λe a=>dG e a _⟩ ?_
  rintro bL ⟨E1,dG⟩
  have aaZ:a2 X bL aG bK aU i3:=gA.ac (by rw[dG _ Zo,ep _ Zo Zo (dW _ Zo)]) (by rw[dG _ Zo,ep _ Zo Zo (dW _ Zo)])
  refine(rm ax Zo aaZ Zo Zo (fI aH).1).Zm ?_
  rintro aef cd er ⟨rfl,eO⟩
  have q6:=eO.le
  have dQ:∀e,e≠j->e<ba+1->aa X cd e=aa X bw e:=λe R U=>by rw[eO.ac e U,dG e R]
  have fin:∀(c1:dL) (c:Bool),c1.g 0=some (.ptr aG 0)->c1.g 3=some (.ptr j 0)->c1.g 4=some (.bool c)->(if c then o2 m (ap++[g]) (aU.drop i3)=some r else r= .ok (ap++[g],aU.drop i3))->∃gj,gj<m+1/\∃(a8:H) (ap:List Go.a2.Node) (bC:List (List H)) (cK:List Nat) (cy:Nat) (c:Bool),c1.g 0=some (.ptr aG 0)/\c1.g 3=some (.ptr j 0)/\c1.g 4=some (.bool c)/\aa X cd j=some (.cells (S.ofList [a8] 0 .nil) 1 .own)/\gD X cd a8 6 bC.flatten cK/\(∀e∈cK,j+1<=e/\e<er)/\oo X cd (vu (j+1) er cK) ap bC/\a2 X cd aG bK aU cy/\b4 X [aG] h j cd er/\j+1<=er/\ap.length+gj<=n/\
   (if c then o2 gj ap (aU.drop cy)=some r else r= .ok (ap,aU.drop cy)):=by
   intro c1 c JM ee fV az
   refine⟨m,Zo,kq,ap++[g],bC++[[jn,e0,fF,hv,oc,m5]],gw,i3,c,JM,ee,fV,by rw[eO.ac _ Zo];exact E1, .inl ?_, ?_, ?_, ?_, ?_,Zo,by simp;omega,az⟩
   ·rw[zd,Yp,List.flatten_nil,Yq]
    exact se.ac λe I=>dQ e (by rcases ut e I with rfl|a;omega;have:=np e a;omega) (by rcases ut e I with rfl|a;omega;have:=np e a;omega)
   ·intro e I
    rcases ut e I with rfl|a
    ·omega
    ·have:=np e a;omega
   ·refine oo.snoc (Rg.ac (λe I=> ?_) (λe I=>I)) (L4.ac (λe I=> ?_) (λe I=>I)) (λe I=> ?_) (λe I=>⟨?_,λoO=>by have:=I.1;have:=oO.2.1;omega⟩)
    ·have R:=I.1;have U:=I.2
     rw[dQ e Zo Zo,ep e Zo Zo (λa=>by have:=np e a;omega)]
    ·have R:=I.1;have U:=I.2.1
     rw[dQ e Zo Zo,ep e Zo Zo I.2.2,c0 e Zo Zo]
    ·have R:=I.1;have U:=I.2.1
     refine⟨R,Zo,λa=> ?_⟩
     rcases ut e a with rfl|a
     ·omega
     ·exact I.2.2 a
    ·have R:=I.1;have U:=I.2
     refine⟨Zo,Zo,λa=> ?_⟩
     rcases ut e a with rfl|a
     ·omega
     ·have:=np e a;omega
   ·exact aaZ.ex eO Zo Zo
   ·exact⟨Zo,λb ai bQ=>by rw[dQ b Zo Zo,ep b Zo Zo (dW b Zo)];exact E9.ac b ai bQ⟩
  by_cases aF:x.kind=7
  ·rw[Zq aF]at yt
   simp only[ok,Zf]at yt
   have d:decide (x.kind=7)=true:=by simp[aF]
   refine cM b9.eq_1 @aF ⟨?_⟩
   exact fin _ false (a1 t0) (a1 t3) (fN) yt.symm
  ·rw[Zh aF]at yt
   have d:decide (x.kind=7)=false:=by simp[aF]
   refine cM b9.eq_1 @aF ⟨?_⟩
   exact fin _ true (a1 t0) (a1 t3) (by refine x5 ⟨?_⟩;simp[aF]) yt
end
end
end Go.Proofs.YtpfajohmofnkfaaGreatDoor

