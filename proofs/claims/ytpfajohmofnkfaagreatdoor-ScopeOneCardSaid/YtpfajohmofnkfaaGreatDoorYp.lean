/- A part of the proof of the claim's last text: what it is used for is said there; no condition of its own. -/
import Derived.Test.YtpfajohmofnkfaaGreatDoorYo
set_option maxHeartbeats 8000000
set_option linter.unusedVariables false
set_option linter.unusedSimpArgs false
namespace Go.Proofs.YtpfajohmofnkfaaGreatDoor
open Go.al Go.bh
noncomputable section
def HS(n:Int):H:= .int .i64 n
def tl(X:cD)(h:U an)(hp aN:Nat)(left:List a1)(cM:List Int):Prop:=hp<aN/\(y X).bj<=hp/\∃c bx nI Dp vo,ab X h hp=some (.cells c 4 .own)/\c.get 0=some bx/\c.get 1=some nI/\hE X h bx 1 (left.map .str) Dp/\hE X h nI 1 (cM.map HS) vo
 /\(∀j∈Dp,hp<j/\j<aN/\j∉vo)/\∀j∈vo,hp<j/\j<aN
theorem tl.af{X:cD}{h V:U an}{hp aN kB:Nat}{left:List a1}{cM:List Int}(a:tl X h hp aN left cM)(B:∀j,hp<=j->j<aN->ab X V j=ab X h j)(gB:aN<=kB):tl X V hp kB left cM:=by
 obtain⟨ci,BC,c,bx,nI,Dp,vo,M,R,au,aM,bA,cr,dM⟩:=a
 exact⟨Zo,BC,c,bx,nI,Dp,vo,by rw[B hp Zo ci];exact M,R,au,aM.af (λj T=>B j (by have:=cr j T;omega) (cr j T).2.1),bA.af (λj T=>B j (by have:=dM j T;omega) (dM j T).2),
  λj T=>by have:=cr j T;exact⟨this.1,Zo,this.2.2⟩,λj T=>by have:=dM j T;omega⟩
theorem hE.one{C:aX}{h:U an}{s:H}{bd:Nat}{l:List H}{db:List Nat}(a:hE C h s bd l db):s.cells=[s]/\o8 s=true/\H.same 30 s s=true:=by
 rcases a with a|⟨b,n,c,st,rfl,_⟩
 ·exact kb.one a
 ·exact⟨rfl,rfl,by simp[H.same]⟩
section
variable{X:cD}{h V bb aV:U an}{k av aQ bp aF bE:Nat}{aR:List Tok}{i:Nat}
theorem QS(aA:d7 X)(ax:ib X h k aF bE aR i){oj hp:Nat}(K6:oj<hp)(avf:oj≠aF)(alj:aF<hp)(alk:bE<hp)(amH:ao X h (.ptr oj 0)=some (.ptr aF 0)){left:List a1}{cM:List Int}(cf:tl X h hp k left cM)(bi:left.length<=1000000)(D9:cM.length<=300000){x:Tok}{l:List Tok}(aI:aR.drop i=x::l):
 a6 X 207 [.ptr oj 0, .ptr hp 0] h k (λad V av=>x.kind=1/\ad= .tuple []/\tl X V hp av (left++[x.text]) (cM++[x.at_])/\bh X V aF bE aR (i+1)/\k<=av/\cu X [aF] h hp V av)
  (λad V av=>x.kind≠1/\ad=w1 21 x.at_/\cu X [aF] h k V av):=by
 refine dj (aeZ X) (aA.none _ _ rfl) ?_
 rw[ae0]
 unfold Tw
 have gr:=ax.bj
 have jN:=ax.g0
 have hL:=ax.fK
 have jd:=ax.gF
 refine cx @amH ⟨?_⟩
 refine(AD aA ax.bj ax.par ax.fK ax.g0 ax.gF ax.many (fm aI).1 1).mono ?_ (λad V av a=>a)
 rintro ad bb aQ ⟨aP,rfl,d3,hl⟩
 have jB:=hl.le
 have hN:=cf.af (V:=bb) (kB:=aQ) (λj M R=>hl.af j R (by simp;omega)) jB
 have avl:=cf.1
 clear cf
 obtain⟨ci,BC,c,bx,nI,Dp,vo,b9,b3,g3,ec,g5,g6,g7⟩:=hN
 obtain⟨he,md,s3⟩:=hE.one ec
 obtain⟨E2,AA,rQ⟩:=hE.one g5
 refine hk bZ.eq_1 (bW b9) @b3 @g3 ⟨?_⟩
 have iX:∀gb,ab X gb (aQ+1+4)=some (.cells (U.ofList [.str x.text] 0 .nil) 1 .own)->jR X gb 1 (.slice (aQ+1+4) 0 1 1)=some (1,[.str x.text]):=λgb a=>s9 a (o1 _) rfl _
 have ane:∀gb,ab X gb (aQ+1+10)=some (.cells (U.ofList [.int .i64 x.at_] 0 .nil) 1 .own)->jR X gb 1 (.slice (aQ+1+10) 0 1 1)=some (1,[.int .i64 x.at_]):=λgb a=>s9 a (o1 _) rfl _
 generalize hI:bm X _ (aQ+1+10) _=bo
 have cH:∀j,j<aQ->ab X bo j=ab X bb j:=λj T=>by rw[<-hI];simp(disch:=omega) only[aK]
 have t3:ab X bo aQ=some (.cells (U.ofList (bZ x) 0 .nil) 7 .own):=by rw[<-hI];simp(disch:=omega) only[aK,bq]<;>rfl
 have fh:ab X bo (aQ+1+4)=some (.cells (U.ofList [.str x.text] 0 .nil) 1 .own):=by rw[<-hI];simp(disch:=omega) only[aK,bq]<;>rfl
 have f3:ab X bo (aQ+1+10)=some (.cells (U.ofList [.int .i64 x.at_] 0 .nil) 1 .own):=by rw[<-hI];simp(disch:=omega) only[aK,bq]<;>rfl
 clear hI
 obtain⟨fZ,bX,UH,j3,rF,tR,f6⟩:=(ec.af (V:=bo) (λj T=>cH j (g6 j T).2.1)).append (k:=aQ+1+16) Zd (iX bo fh) rfl Zd rfl (by simp;omega) Zo (λj T=>by have:=(g6 j T).2.1;omega)
 refine kI j3 ?_
 have fc:ab X bX hp=some (.cells c 4 .own):=by rw[f6 _ Zo (λa=>by have:=(g6 _ a).1;omega),cH _ ci];exact b9
 have t4:ab X bX aQ=some (.cells (U.ofList (bZ x) 0 .nil) 7 .own):=by rw[f6 _ Zo (λa=>by have:=(g6 _ a).2.1;omega)];exact t3
 have lR:ab X bX (aQ+1+10)=some (.cells (U.ofList [.int .i64 x.at_] 0 .nil) 1 .own):=by rw[f6 _ Zo (λa=>by have:=(g6 _ a).2.1;omega)];exact f3
 refine dc (bW fc) @g3 ⟨?_⟩
 refine jH rQ ?_
 refine dc (bW t4) bZ.eq_1 ⟨?_⟩
 refine jH (qL _ _) ?_
 have ajH:hE X bX nI 1 (cM.map HS) vo:=g5.af (λj T=>by
  rw[f6 j (by have:=g7 j T;omega) (λa=>(g6 j a).2.2 T)]
  exact cH j (g7 j T).2)
 obtain⟨Rt,b4,Ns,ak9,n6,O2,n2⟩:=ajH.append (k:=aQ+1+16+1) Zd (ane bX lR) rfl Zd rfl (by simp;omega) Zo (λj T=>by have:=(g7 j T).2;omega)
 refine kI ak9 ?_
 obtain⟨fe,hg,wl⟩:=kb.one rF
 obtain⟨Ir,aqq,avX⟩:=kb.one n6
 have lH:ab X b4 hp=some (.cells c 4 .own):=by rw[n2 _ Zo (λa=>by have:=(g7 _ a).1;omega)];exact fc
 refine fH (qO lH Zo Zo fe hg) ?_
 refine c0 ⟨?_⟩
 refine fH (qO (bq Zo) Zo Zo Ir aqq) ?_
 have aab:∀j∈UH,hp<j/\j<aQ+1+16+1+1/\j∉Ns:=by
  intro j T
  rcases tR j T with rfl|T
  ·refine⟨Zo,Zo,λa=> ?_⟩
   rcases O2 _ a with a|a
   ·omega
   ·have:=g7 _ a;omega
  ·obtain⟨be,b2,a3⟩:=g6 j T
   refine⟨Zo,Zo,λa=> ?_⟩
   rcases O2 _ a with a|a
   ·omega
   ·exact a3 a
 have aac:∀j∈Ns,hp<j/\j<aQ+1+16+1+1:=by
  intro j T
  rcases O2 j T with rfl|T
  ·omega
  ·have:=g7 j T;omega
 have gl:∀gb,gb=bm X (bm X b4 hp (some (.cells (c.set 0 (some fZ)) 4 .own))) hp (some (.cells ((c.set 0 (some fZ)).set 1 (some Rt)) 4 .own))->∀j,j≠hp->ab X gb j=ab X b4 j:=by
  rintro gb rfl j T
  rw[aK Zo T,aK Zo T]
 refine⟨aP,rfl,⟨Zo,BC,(c.set 0 (some fZ)).set 1 (some Rt),fZ,Rt,UH,Ns,bq Zo, ?_, ?_, ?_, ?_,aab,aac⟩, ?_,Zo,Zo,λb ai bO=> ?_⟩
 ·rw[U.kf,Zg Zd,U.kf,Zr rfl]
 ·rw[U.kf,Zr rfl]
 ·rw[Yv]
  refine .inl (rF.af λj T=> ?_)
  have:=aab j T
  rw[gl _ rfl j Zo,n2 j (by rcases tR j T with rfl|a;omega;have:=g6 j a;omega) (λa=> ?_)]
  rcases tR j T with rfl|cv
  ·have:=g7 _ a;omega
  ·exact(g6 j cv).2.2 a
 ·rw[Yv]
  exact .inl (n6.af λj T=>gl _ rfl j (by have:=aac j T;omega))
 ·have im:∀j,j<hp->ab X b4 j=ab X bb j:=λj T=>by
   rw[n2 j Zo (λa=>by have:=g7 _ a;omega),f6 j Zo (λa=>by have:=g6 _ a;omega),cH j Zo]
  exact d3.af (by rw[gl _ rfl _ Zo,im _ alj]) (by rw[gl _ rfl _ Zo,im _ alk])
 ·rw[gl _ rfl _ Zo,n2 b Zo (λa=>by have:=g7 _ a;omega),f6 b Zo (λa=>by have:=g6 _ a;omega),cH b Zo]
  exact hl.af b Zo bO
end
end
end Go.Proofs.YtpfajohmofnkfaaGreatDoor

namespace Go.Proofs.YtpfajohmofnkfaaGreatDoor
open Go.al Go.bh
noncomputable section
def wE(X:cD)(h:U an)(P:Nat->Prop)(ar:fg)(row:List H):Prop:=∃bx nI dr eu ko,row=[bx,nI, .int .i64 ar.at_,ko]/\ej X h P dr bx 1 (hX ar.left)/\ej X h P eu nI 1 (ar.cM.map λn=>[HS n])/\cP X h P ar.right ko/\kl row=true
theorem wE.af{X:cD}{h V:U an}{P bR:Nat->Prop}{ar:fg}{row:List H}(a:wE X h P ar row)(B:∀j,P j->ab X V j=ab X h j)(aE:∀j,P j->bR j):wE X V bR ar row:=by
 obtain⟨bx,nI,dr,eu,ko,M,R,au,aM,bA⟩:=a
 exact⟨bx,nI,dr,eu,ko,M,(R.af B).lift aE,(au.af B).lift aE,cP.lift aE _ _ (cP.af B _ _ aM),bA⟩
section
variable{X:cD}{h V bb aV:U an}{k av aQ bp aF bE:Nat}{aR:List Tok}{i:Nat}
theorem aiJ(aA:d7 X)(eJ:vg X){n:Nat}(pJ:n<=200000)(ax:ib X h k aF bE aR i){r:Except Int (fg×List Tok)}(S:tz n (aR.drop i)=some r):
 a6 X 176 [.ptr aF 0] h k (λad V av=>∃ar cy row,r= .ok (ar,aR.drop cy)/\ad= .agg row/\wE X V (ef k av) ar row/\bh X V aF bE aR cy/\cu X [aF] h k V av) (it X aF h k r):=by
 refine dj (aed X) (aA.none _ _ rfl) ?_
 rw[aee]
 unfold S6
 have gr:=ax.bj
 have jN:=ax.g0
 have hL:=ax.fK
 have jd:=ax.gF
 unfold tz at S
 obtain⟨x,cd,aI,ag⟩:=p7 S
 refine c0 ⟨?_⟩
 refine eZ (λbb=>ao X bb (.ptr k 0)=some (.ptr aF 0)/\ab X bb (k+1)=some (.cells (U.ofList [.aU, .aU, .int .i64 0, .cI] 0 .nil) 4 .own)/\tl X bb (k+2) (k+1+1+1) [] []/\bh X bb aF bE aR i/\bB X h k bb (k+1+1+1)) ⟨?_, ?_, ?_, ?_, ?_⟩ ?_
 ·exact bv
 ·simp(disch:=omega) only[aK,bq]<;>rfl
 ·exact⟨Zo,Zo,_, .aU, .aU,[],[],bq Zo,rfl,rfl, .inl (.inl ⟨rfl,rfl,rfl⟩), .inl (.inl ⟨rfl,rfl,rfl⟩),Zs,Zs⟩
 ·exact ax.par.af (by simp(disch:=omega) only[aK]) (by simp(disch:=omega) only[aK])
 ·exact dR
 rintro bb ⟨fi,py,hN,d3,b8⟩
 have me:=ax.go d3 (by omega:k<=k+1+1+1)
 refine(m7 aA me aI _).Zm ?_
 rintro Fx aV bp ⟨rfl,dh,dl⟩
 have gZ:=dl.le
 have vF:=(cu.of (X:=[aF]) b8).trans dl
 refine rg bZ.eq_1 ⟨?_⟩
 refine j6 (λJ V aY=>∃(ch:List Tok) (cy:Nat),J.g 1=some (.ptr k 0)/\J.g 2=some (.ptr (k+1) 0)/\J.g 3=some (.ptr (k+2) 0)/\tl X V (k+2) aY (ch.map Tok.text) (ch.map Tok.at_)/\bh X V aF bE aR cy/\k+2<aY/\cu X [aF] h k V aY/\ao X V (.ptr k 0)=some (.ptr aF 0)/\ab X V (k+1)=some (.cells (U.ofList [.aU, .aU, .int .i64 0, .cI] 0 .nil) 4 .own)/\ch.length<=300000/\
  (andThen (ei [61] (aR.drop cy)) λE l=>andThen (arrow n l) λr l=>andThen (ei [59] l) λ_ l=>ok (⟨ch.map Tok.text,ch.map Tok.at_,E.at_,r⟩:fg) l)=some r) (λaa bK=> ?_) ?_
 ·
  have DN:ao X aV (.ptr k 0)=some (.ptr aF 0):=by rw[dl.fy _ _ Zo (by simp;omega)];exact fi
  have tI:ab X aV (k+1)=some (.cells (U.ofList [.aU, .aU, .int .i64 0, .cI] 0 .nil) 4 .own):=by rw[dl.af _ Zo (by simp;omega)];exact py
  have mw:=hN.af (V:=aV) (kB:=bp) (λj M R=>dl.af j R (by simp;omega)) gZ
  rcases ag with ⟨aH,S⟩|⟨aH,S⟩
  ·rw[aH]at dh ⊢
   simp only[ZB]at dh ⊢
   rw[<-(fm aI).2]at S
   simp only[]at S
   refine cx bZ.eq_1 ⟨?_⟩
   simp only[YU,YC]
   refine eZ (λbo=>ao X bo (.ptr k 0)=some (.ptr aF 0)/\ab X bo (k+1)=some (.cells (U.ofList [.aU, .aU, .int .i64 0, .cI] 0 .nil) 4 .own)/\tl X bo (k+2) (bp+1) [] []/\bh X bo aF bE aR (i+1)/\cu X [aF] h k bo (bp+1)) ⟨?_, ?_, ?_, ?_, ?_⟩ ?_
   ·exact VU @DN
   ·simp(disch:=omega) only[aK];exact tI
   ·exact mw.af (λj M R=>by simp(disch:=omega) only[aK]) Zo
   ·exact dh.af (by simp(disch:=omega) only[aK]) (by simp(disch:=omega) only[aK])
   ·exact⟨Zo,λb ai bO=>by rw[<-vF.af b ai bO];simp(disch:=omega) only[aK]⟩
   clear DN tI mw dh vF dl b8 d3 hN py fi me
   rintro bo ⟨tJ,sz,n4,gg,en⟩
   have mC:=ax.go gg (by omega:k<=bp+1)
   cases sJ:aR.drop (i+1)with
   |nil=>rw[sJ]at S;simp[io,andThen]at S
   |cons j eN=>
   rw[sJ]at S
   simp only[io]at S
   refine(QS aA mC Zo Zo Zo Zo tJ n4 Zs Zs sJ).mono ?_ ?_
   ·rintro Fy bX dd ⟨f6,rfl,pM,gT,jC,eD⟩
    rw[Zr f6]at S
    simp only[andThen,ok]at S
    rw[<-(fm sJ).2]at S
    have GH:ao X bX (.ptr k 0)=some (.ptr aF 0):=by rw[eD.fy _ _ Zo (by simp;omega)];exact tJ
    have w8:ab X bX (k+1)=some (.cells (U.ofList [.aU, .aU, .int .i64 0, .cI] 0 .nil) 4 .own):=by rw[eD.af _ Zo (by simp;omega)];exact sz
    have Ws:cu X [aF] h k bX dd:=⟨Zo,λb ai bO=>by rw[eD.af b Zo bO];exact en.af b ai bO⟩
    refine cx @GH ⟨?_⟩
    refine eZ (λb4=>ab X b4 dd=some (.cells (U.ofList [.str [44]] 0 .nil) 1 .own)/\bB X bX dd b4 (dd+1)) ⟨bq Zo,dR⟩ ?_
    rintro b4 ⟨Wd,dX⟩
    have nG:=ax.go (gT.ex dX Zo Zo) (by omega:k<=dd+1)
    have dO:=Ws.trans (cu.of dX)
    have ρ:=S
    cases bL:ei [44] (aR.drop (i+1+1))with
    |none=>rw[bL]at S;cases S
    |some x2=>
    rw[bL]at S
    refine(i2 aA nG Zo Zo Wd bL).mono ?_ ?_
    ·rintro td ck eo ⟨tf,hP,rfl,_,g9,ev⟩
     have rB:=ev.le
     simp only[]at S
     have GI:ao X ck (.ptr k 0)=some (.ptr aF 0):=by rw[ev.fy _ _ Zo (by simp;omega),dX.fy _ _ Zo];exact GH
     have yR:ab X ck (k+1)=some (.cells (U.ofList [.aU, .aU, .int .i64 0, .cI] 0 .nil) 4 .own):=by rw[ev.af _ Zo (by simp;omega),dX.af _ Zo];exact w8
     have Hx:=pM.af (V:=ck) (kB:=eo) (λj M R=>by rw[ev.af j Zo (by simp;omega),dX.af j R]) Zo
     have tM:=dO.trans ev
     clear GH w8 pM gT eD Ws dO dX Wd nG ev
     refine j6 (λJ V aY=>∃(ch:List Tok) (cy:Nat),J.g 1=some (.ptr k 0)/\J.g 2=some (.ptr (k+1) 0)/\J.g 3=some (.ptr (k+2) 0)/\tl X V (k+2) aY (ch.map Tok.text) (ch.map Tok.at_)/\bh X V aF bE aR cy/\k+2<aY/\cu X [aF] h k V aY/\ao X V (.ptr k 0)=some (.ptr aF 0)/\ab X V (k+1)=some (.cells (U.ofList [.aU, .aU, .int .i64 0, .cI] 0 .nil) 4 .own)/\ch.length<=300000/\
      (andThen (andThen (ei [41] (aR.drop cy)) λ_ l=>ok ch l) λch l=>andThen (ei [61] l) λE l=>andThen (arrow n l) λr l=>andThen (ei [59] l) λ_ l=>ok (⟨ch.map Tok.text,ch.map Tok.at_,E.at_,r⟩:fg) l)=some r) (λavE al1=> ?_) ?_
     ·refine f8 (λm J V aY=>∃(ch:List Tok) (cy:Nat) (b:Bool),J.g 1=some (.ptr k 0)/\J.g 2=some (.ptr (k+1) 0)/\J.g 3=some (.ptr (k+2) 0)/\J.g 4=some (.func (.func 207) [] [.ptr k 0, .ptr (k+2) 0])/\J.g 7=some (.bool b)/\tl X V (k+2) aY (ch.map Tok.text) (ch.map Tok.at_)/\bh X V aF bE aR cy/\k+2<aY/\cu X [aF] h k V aY/\ao X V (.ptr k 0)=some (.ptr aF 0)/\ab X V (k+1)=some (.cells (U.ofList [.aU, .aU, .int .i64 0, .cI] 0 .nil) 4 .own)/\ch.length+m<=n+5/\
       (b=true->(andThen (andThen (qG m ch (aR.drop cy)) λch l=>andThen (ei [41] l) λ_ l=>ok ch l) λch l=>andThen (ei [61] l) λE l=>andThen (arrow n l) λr l=>andThen (ei [59] l) λ_ l=>ok (⟨ch.map Tok.text,ch.map Tok.at_,E.at_,r⟩:fg) l)=some r)/\
       (b=false->(andThen (andThen (ei [41] (aR.drop cy)) λ_ l=>ok ch l) λch l=>andThen (ei [61] l) λE l=>andThen (arrow n l) λr l=>andThen (ei [59] l) λ_ l=>ok (⟨ch.map Tok.text,ch.map Tok.at_,E.at_,r⟩:fg) l)=some r))
       n ⟨[j],hP,true,bv,bv,bv,bv,bv,Hx,g9,Zo,tM,GI,yR,by simp;omega,λ_=>S,λa=>(by cases a)⟩ ?_
      clear GI yR Hx g9 tM S ρ bL
      rintro m J cC ew ⟨ch,n8,b,t1,eX,t3,t4,hY,B6,hn,Pv,eV,vD,w9,bi,T,pL⟩
      refine rg @hY ⟨?_⟩
      refine gh ?_
      cases b with
      |false=>
       refine oI ?_
       exact al1 _ _ _ ⟨ch,n8,bn t1,bn eX,bn t3,B6,hn,Pv,eV,vD,w9,Zo,pL rfl⟩
      |true=>
       have S:=T rfl
       cases m with
       |zero=>simp[qG,andThen]at S
       |succ m=>
       unfold qG at S
       refine oJ ?_
       have mD:=ax.go hn (by omega:k<=ew)
       refine cx @t4 ⟨?_⟩
       simp only[YU,YC]
       cases rq:aR.drop n8 with
       |nil=>rw[rq]at S;simp[io,andThen]at S
       |cons bl lF=>
       rw[rq]at S
       simp only[io]at S
       refine(QS aA mD Zo Zo Zo Zo vD B6 (by simp;omega) (by simp;omega) rq).mono ?_ ?_
       ·rintro u8 dQ fa ⟨BX,rfl,amK,v2,vV,gy⟩
        rw[Zr BX]at S
        simp only[andThen,ok]at S
        rw[<-(fm rq).2]at S
        have We:ao X dQ (.ptr k 0)=some (.ptr aF 0):=by rw[gy.fy _ _ Zo (by simp;omega)];exact vD
        have Kl:ab X dQ (k+1)=some (.cells (U.ofList [.aU, .aU, .int .i64 0, .cI] 0 .nil) 4 .own):=by rw[gy.af _ Zo (by simp;omega)];exact w9
        have akN:cu X [aF] h k dQ fa:=⟨Zo,λb ai bO=>by rw[gy.af b Zo bO];exact eV.af b ai bO⟩
        have rV:=ax.go v2 (by omega:k<=fa)
        refine dc @t1 @We ⟨?_⟩
        cases qs:aR.drop (n8+1)with
        |nil=>rw[qs]at S;simp[hZ,lw]at S
        |cons w nA=>
        refine(m7 aA rV qs [44]).Zm ?_
        rintro atb dL ma ⟨rfl,l2,hv⟩
        have vW:=hv.le
        rw[qs]at S
        have xa:ao X dL (.ptr k 0)=some (.ptr aF 0):=by rw[hv.fy _ _ Zo (by simp;omega)];exact We
        have vB:ab X dL (k+1)=some (.cells (U.ofList [.aU, .aU, .int .i64 0, .cI] 0 .nil) 4 .own):=by rw[hv.af _ Zo (by simp;omega)];exact Kl
        have PM:=amK.af (V:=dL) (kB:=ma) (λj M R=>hv.af j R (by simp;omega)) vW
        have yV:=akN.trans hv
        refine c0 ⟨?_⟩
        refine⟨m,Zo,ch++[bl],_,hA w [44],bn t1,bn eX,bn t3,bn t4,bv,by simpa using PM,l2,Zo,yV,xa,vB,by simp;omega,λa=> ?_,λa=> ?_⟩
        ·simp only[hZ,lw,a,ZB]at S ⊢
         rw[(fm qs).2]
         exact S
        ·simp only[hZ,lw,a,Zt,Zx]at S ⊢
         rw[qs]
         exact S
       ·rintro u8 dQ fa ⟨BX,rfl,gy⟩
        rw[Zg BX]at S
        simp only[andThen,bad,Ze]at S
        subst S
        exact⟨_,rfl,rfl,eV.trans gy⟩
     ·clear GI yR Hx g9 tM S ρ bL
      rintro J cC ew ⟨ch,n8,t1,eX,t3,B6,hn,Pv,eV,vD,w9,bi,S⟩
      refine dc @t1 @vD ⟨?_⟩
      refine eZ (λdQ=>ab X dQ ew=some (.cells (U.ofList [.str [41]] 0 .nil) 1 .own)/\bB X cC ew dQ (ew+1)) ⟨bq Zo,dR⟩ ?_
      rintro dQ ⟨BB,j1⟩
      have rV:=ax.go (hn.ex j1 Zo Zo) (by omega:k<=ew+1)
      have gy:=eV.trans (cu.of j1)
      cases bL:ei [41] (aR.drop n8)with
      |none=>rw[bL]at S;cases S
      |some x2=>
      rw[bL]at S
      refine(i2 aA rV Zo Zo BB bL).mono ?_ ?_
      ·rintro v9 dL ma ⟨tg,i9,rfl,_,l2,hv⟩
       have vW:=hv.le
       simp only[andThen,ok]at S
       have xa:ao X dL (.ptr k 0)=some (.ptr aF 0):=by rw[hv.fy _ _ Zo (by simp;omega),j1.fy _ _ Zo];exact vD
       have vB:ab X dL (k+1)=some (.cells (U.ofList [.aU, .aU, .int .i64 0, .cI] 0 .nil) 4 .own):=by rw[hv.af _ Zo (by simp;omega),j1.af _ Zo];exact w9
       have PM:=B6.af (V:=dL) (kB:=ma) (λj M R=>by rw[hv.af j Zo (by simp;omega),j1.af j R]) Zo
       exact bK _ _ _ ⟨ch,i9,t1,eX,t3,PM,l2,Zo,gy.trans hv,xa,vB,bi,S⟩
      ·rintro v9 dL ma ⟨I,rfl,rfl,hv⟩
       simp only[andThen,Ze]at S
       subst S
       exact⟨I,rfl,rfl,gy.trans hv⟩
    ·rintro td ck eo ⟨I,rfl,rfl,ev⟩
     simp only[Ze]at S
     subst S
     exact⟨I,rfl,rfl,dO.trans ev⟩
   ·rintro Fy bX dd ⟨f6,rfl,eD⟩
    rw[Zg f6]at S
    simp only[andThen,bad,Ze]at S
    subst S
    exact⟨_,rfl,rfl,en.trans eD⟩
  ·rw[aH]at dh ⊢
   simp only[Zt,Zx]at dh ⊢
   simp only[]at S
   refine dc bZ.eq_1 gG.eq_1 ⟨?_⟩
   simp only[YU,YC]
   refine eZ (λbo=>ao X bo (.ptr k 0)=some (.ptr aF 0)/\ab X bo (k+1)=some (.cells (U.ofList [.aU, .aU, .int .i64 0, .cI] 0 .nil) 4 .own)/\tl X bo (k+2) (bp+1) [] []/\bh X bo aF bE aR i/\cu X [aF] h k bo (bp+1)) ⟨?_, ?_, ?_, ?_, ?_⟩ ?_
   ·exact VU @DN
   ·simp(disch:=omega) only[aK];exact tI
   ·exact mw.af (λj M R=>by simp(disch:=omega) only[aK]) Zo
   ·exact dh.af (by simp(disch:=omega) only[aK]) (by simp(disch:=omega) only[aK])
   ·exact⟨Zo,λb ai bO=>by rw[<-vF.af b ai bO];simp(disch:=omega) only[aK]⟩
   clear DN tI mw dh vF dl b8 d3 hN py fi me
   rintro bo ⟨tJ,sz,n4,gg,en⟩
   have mC:=ax.go gg (by omega:k<=bp+1)
   rw[aI]at S
   simp only[io]at S
   refine(QS aA mC Zo Zo Zo Zo tJ n4 Zs Zs aI).mono ?_ ?_
   ·rintro Fy bX dd ⟨f6,rfl,pM,gT,jC,eD⟩
    rw[Zr f6]at S
    simp only[andThen,ok]at S
    rw[<-(fm aI).2]at S
    have GH:ao X bX (.ptr k 0)=some (.ptr aF 0):=by rw[eD.fy _ _ Zo (by simp;omega)];exact tJ
    have w8:ab X bX (k+1)=some (.cells (U.ofList [.aU, .aU, .int .i64 0, .cI] 0 .nil) 4 .own):=by rw[eD.af _ Zo (by simp;omega)];exact sz
    exact bK _ _ _ ⟨[x],i+1,bv,bv,bv,pM,gT,Zo,⟨Zo,λb ai bO=>by rw[eD.af b Zo bO];exact en.af b ai bO⟩,GH,w8,Zs,S⟩
   ·rintro Fy bX dd ⟨f6,rfl,eD⟩
    rw[Zg f6]at S
    simp only[andThen,bad,Ze]at S
    subst S
    exact⟨_,rfl,rfl,en.trans eD⟩
 ·clear ag S dh vF dl b8 d3 hN py fi me aI
  rintro J bo bw ⟨ch,i3,t1,eX,t3,n4,gg,au0,en,tJ,sz,bi,S⟩
  refine dc @t1 @tJ ⟨?_⟩
  refine eZ (λbX=>ab X bX bw=some (.cells (U.ofList [.str [61]] 0 .nil) 1 .own)/\bB X bo bw bX (bw+1)) ⟨bq Zo,dR⟩ ?_
  rintro bX ⟨Bz,dN⟩
  have kn:=ax.go (gg.ex dN Zo Zo) (by omega:k<=bw+1)
  have eD:=en.trans (cu.of dN)
  rcases f4 S with ⟨I,bA,rfl⟩|⟨E,gs,bA,S⟩
  ·exact(i2 aA kn Zo Zo Bz bA).mono (λad V av a=>by obtain⟨E,cy,a,_⟩:=a;cases a) (λad V av a=>a.of eD (λ_ a=>by cases a;rfl))
  refine(i2 aA kn Zo Zo Bz bA).mono ?_ (λad V av a=>by obtain⟨I,a,_⟩:=a;cases a)
  rintro v5 b4 cA ⟨gk,i5,rr,rfl,gU,dO⟩
  cases rr
  have iW:=dO.le
  have Kn:ao X b4 (.ptr k 0)=some (.ptr aF 0):=by rw[dO.fy _ _ Zo (by simp;omega),dN.fy _ _ Zo];exact tJ
  have DL:ab X b4 (k+1)=some (.cells (U.ofList [.aU, .aU, .int .i64 0, .cI] 0 .nil) 4 .own):=by rw[dO.af _ Zo (by simp;omega),dN.af _ Zo];exact sz
  have qx:=n4.af (V:=b4) (kB:=cA) (λj M R=>by rw[dO.af j Zo (by simp;omega),dN.af j R]) Zo
  have xd:=eD.trans dO
  obtain⟨ci,BC,c,bx,nI,Dp,vo,b9,b3,g3,ec,g5,g6,g7⟩:=qx
  clear n4 gg en tJ sz dN Bz kn eD dO
  refine dc @t3 bZ.eq_1 ⟨?_⟩
  have aag:∀j,j≠k+2->ab X (bm X b4 (k+2) (some (.cells (d0 c 2 (H.int .i64 E.at_).cells) 4 .own))) j=ab X b4 j:=λj T=>aK Zo T
  refine dc @t1 @Kn ⟨?_⟩
  refine eZ (λck=>ab X ck (k+2)=some (.cells (c.set 2 (some (.int .i64 E.at_))) 4 .own)/\∀j,j≠k+2->ab X ck j=ab X b4 j) ⟨(bq Zo).trans (by simp only[H.cells,r7]),aag⟩ ?_
  clear aag
  rintro ck ⟨AO,ed⟩
  have g9:bh X ck aF bE aR i5:=gU.af (ed _ Zo) (ed _ Zo)
  have ev:cu X [aF] h k ck cA:=⟨xd.le,λb ai bO=>by rw[ed b Zo];exact xd.af b ai bO⟩
  rcases f4 S with ⟨I,dM,rfl⟩|⟨NY,lF,dM,S⟩
  ·exact((Ur aA eJ n Zo).arrow ck _ _ _ (ax.go g9 Zo) dM).mono (λad V av a=>by obtain⟨E,cy,a,_⟩:=a;cases a) (λad V av a=>a.of ev (λ_ a=>by cases a;rfl))
  refine((Ur aA eJ n Zo).arrow ck _ _ _ (ax.go g9 Zo) dM).mono ?_ (λad V av a=>by obtain⟨I,a,_⟩:=a;cases a)
  rintro IS cC ew ⟨Vm,n8,xo,e9,hn,eV⟩
  cases xo
  have oX:=eV.le
  obtain⟨p9,rfl,avv,_⟩:=e9.ptr
  have Fc:ab X cC (k+2)=some (.cells (c.set 2 (some (.int .i64 E.at_))) 4 .own):=by rw[eV.af _ Zo (by simp;omega)];exact AO
  have vD:ao X cC (.ptr k 0)=some (.ptr aF 0):=by rw[eV.fy _ _ Zo (by simp;omega),c4,ed _ Zo, <-c4];exact Kn
  have gl:∀j,k<=j->j<cA->j≠k+2->ab X cC j=ab X b4 j:=λj M R au=>by rw[eV.af j R (by simp;omega),ed j au]
  refine cx @t3 ⟨?_⟩
  refine dc @t1 @vD ⟨?_⟩
  refine eZ (λdQ=>ab X dQ ew=some (.cells (U.ofList [.str [59]] 0 .nil) 1 .own)/\ab X dQ (k+2)=some (.cells ((c.set 2 (some (.int .i64 E.at_))).set 3 (some (.ptr p9 0))) 4 .own)/\∀j,j<ew->j≠k+2->ab X dQ j=ab X cC j) ⟨bq Zo, ?_, ?_⟩ ?_
  ·rw[aK Zo Zo,bq Zo];simp only[H.cells,r7]
  ·intro j M R
   rw[aK Zo Zo,aK Zo R]
  rintro dQ ⟨BB,aq3,im⟩
  have v2:bh X dQ aF bE aR n8:=hn.af (im _ Zo Zo) (im _ Zo Zo)
  have gy:cu X [aF] h k dQ (ew+1):=⟨Zo,λb ai bO=>by rw[im b Zo Zo];exact(ev.trans eV).af b ai bO⟩
  rcases f4 S with ⟨I,lj,rfl⟩|⟨tg,rJ,lj,S⟩
  ·exact(i2 aA (ax.go v2 Zo) Zo Zo BB lj).mono (λad V av a=>by obtain⟨E,cy,a,_⟩:=a;cases a) (λad V av a=>a.of gy (λ_ a=>by cases a;rfl))
  refine(i2 aA (ax.go v2 Zo) Zo Zo BB lj).mono ?_ (λad V av a=>by obtain⟨I,a,_⟩:=a;cases a)
  rintro v9 dL ma ⟨awl,i9,aly,_,l2,hv⟩
  cases aly
  have vW:=hv.le
  simp only[ok,Ze]at S
  subst S
  have abE:ab X dL (k+2)=some (.cells ((c.set 2 (some (.int .i64 E.at_))).set 3 (some (.ptr p9 0))) 4 .own):=by rw[hv.af _ Zo (by simp;omega)];exact aq3
  have gm:∀j,k<=j->j<ew->j≠k+2->ab X dL j=ab X cC j:=λj M R au=>by rw[hv.af j Zo (by simp;omega),im j R au]
  have vB:ab X dL (k+1)=some (.cells (U.ofList [.aU, .aU, .int .i64 0, .cI] 0 .nil) 4 .own):=by rw[gm _ Zo Zo Zo,gl _ Zo Zo Zo];exact DL
  have d1:((c.set 2 (some (H.int .i64 E.at_))).set 3 (some (.ptr p9 0))).get 0=some bx:=by rw[U.kf,Zg Zd,U.kf,Zg Zd];exact b3
  have dD:((c.set 2 (some (H.int .i64 E.at_))).set 3 (some (.ptr p9 0))).get 1=some nI:=by rw[U.kf,Zg Zd,U.kf,Zg Zd];exact g3
  have d2:((c.set 2 (some (H.int .i64 E.at_))).set 3 (some (.ptr p9 0))).get 2=some (.int .i64 E.at_):=by rw[U.kf,Zg Zd,U.kf,Zr rfl]
  have gQ:((c.set 2 (some (H.int .i64 E.at_))).set 3 (some (.ptr p9 0))).get 3=some (.ptr p9 0):=by rw[U.kf,Zr rfl]
  generalize ((c.set 2 (some (H.int .i64 E.at_))).set 3 (some (.ptr p9 0)))=gx at abE d1 dD d2 gQ
  obtain⟨he,md,s3⟩:=hE.one ec
  obtain⟨E2,AA,rQ⟩:=hE.one g5
  have aE:cL X dL 4 (.ptr (k+2) 0)=some (.agg [bx,nI, .int .i64 E.at_, .ptr p9 0]):=by
   rw[sW];simp[bW abE,d1,dD,d2,gQ]
  refine e8 @t3 @aE @eX ⟨?_⟩
  refine fH (iO (B:=4) vB Zo rfl Zd Zd (by simp[H.cells,kl,md,AA,show o8 (.int .i64 E.at_)=true from rfl,show o8 (.ptr p9 0)=true from rfl])) ?_
  refine cx @eX ⟨?_⟩
  have Ck:∀j,j≠k+1->∀cJ,ab X (bm X dL (k+1) cJ) j=ab X dL j:=λj T cJ=>aK Zo T
  have np:∀j,k+2<j->j<cA->∀cJ,ab X (bm X dL (k+1) cJ) j=ab X b4 j:=λj M R cJ=>by rw[Ck j Zo,gm j Zo Zo Zo,gl j Zo R Zo]
  obtain⟨dr,XS⟩:=(ec.af (V:=bm X dL (k+1) (some (.cells (d0 (U.ofList [.aU, .aU, .int .i64 0, .cI] 0 .nil) 0 [bx,nI, .int .i64 E.at_, .ptr p9 0]) 4 .own))) (λj T=>np j (g6 j T).1 (g6 j T).2.1 _)).Iz (P:=ef k ma) (by simp;omega) (λj T=>by have:=g6 j T;exact⟨Zo,Zo⟩)
  obtain⟨eu,HA⟩:=(g5.af (V:=bm X dL (k+1) (some (.cells (d0 (U.ofList [.aU, .aU, .int .i64 0, .cI] 0 .nil) 0 [bx,nI, .int .i64 E.at_, .ptr p9 0]) 4 .own))) (λj T=>np j (g7 j T).1 (g7 j T).2 _)).Iz (P:=ef k ma) (by simp;omega) (λj T=>by have:=g7 j T;exact⟨Zo,Zo⟩)
  refine⟨_,i9,[bx,nI, .int .i64 E.at_, .ptr p9 0],rfl,rfl,⟨bx,nI,dr,eu, .ptr p9 0,rfl, ?_, ?_, ?_,by simp[kl,md,AA,show o8 (.int .i64 E.at_)=true from rfl,show o8 (.ptr p9 0)=true from rfl]⟩, ?_, ?_⟩
  ·rw[YG]at XS;exact XS
  ·rw[YG]at HA;exact HA
  ·refine cP.lift (λj T=>⟨by have:=T.1;omega,by have:=T.2;omega⟩) _ _ (cP.af (λj T=> ?_) _ _ e9)
   have M:=T.1
   show ab X (bm X dL (k+1) _) j=_
   rw[Ck j Zo,gm j Zo T.2 Zo]
  ·exact l2.af (Ck _ Zo _) (Ck _ Zo _)
  ·exact⟨Zo,λb ai bO=>by rw[Ck b Zo];exact(gy.trans hv).af b ai bO⟩
end
end
end Go.Proofs.YtpfajohmofnkfaaGreatDoor

namespace Go.Proofs.YtpfajohmofnkfaaGreatDoor
open Go.al Go.bh
noncomputable section
def eO(d:el):List H:=[.str d.name, .int .i64 d.at_, .bool d.ty.b, .bool d.ty.s, .int .i64 d.ty.w, .str d.on, .int .i64 d.fP, .bool d.no]
theorem acl(l:List Tok):∀r∈l.map bZ,r.length=7:=by
 intro r S;obtain⟨t,_,rfl⟩:=ZD.1 S;rfl
theorem Vh(l:List el):∀r∈l.map eO,r.length=8:=by
 intro r S;obtain⟨t,_,rfl⟩:=ZD.1 S;rfl
theorem atC{s:a1}{l:List Tok}{x:Tok}{cd:List Tok}(a:ei s l=some (.ok (x,cd))):cd.length+1=l.length:=by
 cases l with
 |nil=>cases a
 |cons j l=>
  simp only[ei]at a
  split at a
  ·simp only[ok,Ze,Except.ok.injEq,YJ]at a
   rw[<-a.2];rfl
  ·cases a
structure I6(X:cD)(aF bE:Nat)(aR:List Tok)(k:Nat)(ft:U an)(loc:Bool)(J:dw)(h:U an)(n:Nat)(s:H)(ds:List el)(db:List Nat)(i:Nat):Prop where
 t0:J.g 0=some (.ptr aF 0)
 t1:J.g 1=some (.bool loc)
 t5:J.g 5=some s
 bx:hE X h s 8 (ds.map eO).flatten db
 db:∀j∈db,k<=j/\j<n
 par:bh X h aF bE aR i
 fr:cu X [aF] ft k h n
section
variable{X:cD}{h V bb aV:U an}{k av aQ bp aF bE:Nat}{aR:List Tok}{i:Nat}
theorem aic(ds:List el):(ds.map eO).flatten.length=ds.length*8:=by rw[w4 (Vh ds),Zu]
theorem as4(ds:List Tok):(ds.map bZ).flatten.length=ds.length*7:=by rw[w4 (acl ds),Zu]
theorem Dz(aA:d7 X){n:Nat}(kU:aR.length<=100000)(ax:ib X h k aF bE aR i){loc:Bool}{r:Except Int (List el×List Tok)}(S:iG n loc [] (aR.drop i)=some r):
 a6 X 175 [.ptr aF 0, .bool loc] h k (λad V av=>∃ds cy b,r= .ok (ds,aR.drop cy)/\ej X V (ef k av) b ad 8 (ds.map eO)/\bh X V aF bE aR cy/\cu X [aF] h k V av) (it X aF h k r):=by
 refine dj (aeb X) (aA.none _ _ rfl) ?_
 rw[aec]
 unfold S5
 have gr:=ax.bj
 have jN:=ax.g0
 have hL:=ax.fK
 have jd:=ax.gF
 refine gh ?_
 refine f8 (λm J V aY=>∃s ds db cy,I6 X aF bE aR k h loc J V aY s ds db cy/\ds.length+(aR.drop cy).length<=aR.length/\iG m loc ds (aR.drop cy)=some r)
  n ⟨.aU,[],[],i,⟨bv,bv,bv, .inl (.inl ⟨rfl,rfl,rfl⟩),Zs,ax.par,cu.refl _ _ _⟩,Zs,S⟩ ?_
 clear S
 rintro m J bb aQ ⟨s,ds,db,rI,mh,vX,S⟩
 cases m with
 |zero=>simp[iG]at S
 |succ m=>
 unfold iG at S
 refine gh ?_
 have jB:=mh.fr.le
 refine j6 (λJ V aY=>∃(ch:List Tok) (uO:H) (sk:List Nat) (cy:Nat),I6 X aF bE aR k h loc J V aY s ds db cy/\aQ<=aY/\(∀j∈db,j<aQ)/\J.g 6=some uO/\hE X V uO 7 (ch.map bZ).flatten sk/\(∀j∈sk,aQ<=j/\j<aY)/\ds.length+ch.length+(aR.drop cy).length<=aR.length/\
  Bp loc (iG m loc) ds ch (aR.drop cy)=some r) (λaa bK=> ?_) ?_
 ·refine f8 (λB J V aY=>∃(ch:List Tok) (uO:H) (sk:List Nat) (cy:Nat) (b:Bool),I6 X aF bE aR k h loc J V aY s ds db cy/\aQ<=aY/\(∀j∈db,j<aQ)/\J.g 6=some uO/\J.g 7=some (.bool b)/\hE X V uO 7 (ch.map bZ).flatten sk/\(∀j∈sk,aQ<=j/\j<aY)/\ds.length+ch.length+(aR.drop cy).length<=aR.length/\
   (b=true->andThen (qG B ch (aR.drop cy)) (λch l=>Bp loc (iG m loc) ds ch l)=some r)/\(b=false->Bp loc (iG m loc) ds ch (aR.drop cy)=some r))
   m ⟨[], .aU,[],rI,true,⟨bn mh.t0,bn mh.t1,bn mh.t5,mh.bx,mh.db,mh.par,mh.fr⟩,Zo,λj T=>(mh.db j T).2,bv,bv, .inl (.inl ⟨rfl,rfl,rfl⟩),Zs,by simpa using vX,λ_=>S,λa=>(by cases a)⟩ ?_
  clear S mh vX
  rintro B J aV bp ⟨ch,uO,sk,jh,b,kt,gZ,ih,gN,hY,Cc,fv,D9,T,pL⟩
  have fq:=ax.go kt.par kt.fr.le
  have t0:=kt.t0
  have t1:=kt.t1
  have t5:=kt.t5
  refine rg @hY ⟨?_⟩
  refine gh ?_
  cases b with
  |false=>
   refine oI ?_
   exact bK _ _ _ ⟨ch,uO,sk,jh,⟨bn t0,bn t1,bn t5,kt.bx,kt.db,kt.par,kt.fr⟩,gZ,ih,bn gN,Cc,fv,D9,pL rfl⟩
  |true=>
   have S:=T rfl
   cases B with
   |zero=>simp[qG,andThen]at S
   |succ B=>
   unfold qG at S
   refine oJ ?_
   refine dc @gN @t0 ⟨?_⟩
   cases aI:aR.drop jh with
   |nil=>rw[aI]at S;simp[io,andThen]at S
   |cons x l=>
   rw[aI]at S
   simp only[io]at S
   refine(AD aA fq.bj fq.par fq.fK fq.g0 fq.gF fq.many (fm aI).1 1).mono ?_ ?_
   ·rintro C5 bo bw ⟨aP,rfl,gg,en⟩
    have jf:=en.le
    rw[Zr aP]at S
    simp only[andThen,ok]at S
    rw[<-(fm aI).2]at S
    have fj:(aR.drop jh).length=(aR.drop (jh+1)).length+1:=by rw[aI,(fm aI).2];rfl
    have oa:∀j,k<=j->j<bp->ab X bo j=ab X aV j:=λj M R=>en.af j R (by simp;omega)
    have acX:=kt.bx.af (V:=bo) (λj T=>oa j (kt.db j T).1 (kt.db j T).2)
    have anc:=Cc.af (V:=bo) (λj T=>oa j (by have:=fv j T;omega) (fv j T).2)
    have DR:=kt.fr.trans en
    refine cx bZ.eq_1 ⟨?_⟩
    have iX:jR X (bm X bo bw (some (.cells (U.ofList (bZ x) 0 .nil) 7 .own))) 7 (.slice bw 0 1 1)=some (1,bZ x):=s9 (bq Zo) (o1 _) rfl _
    obtain⟨asm,bX,UJ,j3,rF,alh,f6⟩:=(anc.af (V:=bm X bo bw (some (.cells (U.ofList (bZ x) 0 .nil) 7 .own))) (λj T=>aK Zo (by have:=(fv j T).2;omega))).append (k:=bw+1) Zd iX rfl Zd rfl (by rw[as4];simp only[bZ,ZC,ZR];omega) Zo (λj T=>by have:=(fv j T).2;omega)
    refine kI j3 ?_
    have eK:∀j,j<bw->j∉sk->ab X bX j=ab X bo j:=λj M R=>by rw[f6 j Zo R,aK Zo Zo]
    have dS:∀j,j<aQ->j∉sk:=λj M R=>by have:=fv j R;omega
    have gT:bh X bX aF bE aR (jh+1):=gg.af (eK _ Zo (dS _ Zo)) (eK _ Zo (dS _ Zo))
    have eD:cu X [aF] h k bX (bw+1+1):=⟨Zo,λb ai bO=>by rw[eK b Zo (dS _ Zo)];exact DR.af b ai bO⟩
    have acY:=acX.af (V:=bX) (λj T=>eK j (by have:=ih j T;omega) (dS _ (ih j T)))
    have fN:(ch.map bZ).flatten++bZ x=((ch++[x]).map bZ).flatten:=by simp
    rw[fN]at rF
    have KA:∀j∈UJ,aQ<=j/\j<bw+1+1:=λj T=>by
     rcases alh j T with rfl|a
     ·omega
     ·have:=fv j a;omega
    refine cx @t0 ⟨?_⟩
    have kn:=ax.go gT eD.le
    obtain⟨w,gs,nZ⟩:∃w gs,aR.drop (jh+1)=w::gs:=by
     cases a:aR.drop (jh+1)with
     |nil=>rw[a]at S;simp[hZ,lw]at S
     |cons w gs=>exact⟨w,gs,rfl⟩
    refine(m7 aA kn nZ [44]).Zm ?_
    rintro Fz b4 cA ⟨rfl,gU,dO⟩
    have iW:=dO.le
    have eR:∀j,k<=j->j<bw+1+1->ab X b4 j=ab X bX j:=λj M R=>dO.af j R (by simp;omega)
    refine c0 ⟨?_⟩
    refine⟨B,Zo,ch++[x],asm,UJ,_,hA w [44],⟨bn t0,bn t1,bn t5,acY.af (λj T=>eR j (kt.db j T).1 (by have:=ih j T;omega)),λj T=>⟨(kt.db j T).1,by have:=ih j T;omega⟩,gU,eD.trans dO⟩,Zo,ih,bv,bv, .inl (rF.af (λj T=>eR j (by have:=KA j T;omega) (KA j T).2)),λj T=>⟨(KA j T).1,by have:=(KA j T).2;omega⟩, ?_,λa=> ?_,λa=> ?_⟩
    ·have bA:=congrArg List.length (fm nZ).2
     have cr:(aR.drop (jh+1)).length=gs.length+1:=by rw[nZ];rfl
     split
     ·simp only[ZQ,List.length_singleton];omega
     ·simp only[ZQ,List.length_singleton];omega
    ·rw[nZ]at S
     simp only[hZ,lw,a,ZB]at S ⊢
     rw[(fm nZ).2]
     exact S
    ·rw[nZ]at S
     simp only[hZ,lw,a,Zt,Zx]at S ⊢
     rw[nZ]
     exact S
   ·rintro C5 bo bw ⟨aP,rfl,en⟩
    rw[Zg aP]at S
    simp only[andThen,bad,Ze]at S
    subst S
    exact⟨_,rfl,rfl,kt.fr.trans en⟩
 ·clear S mh vX
  rintro J aV bp ⟨ch,uO,sk,jh,kt,gZ,ih,gN,Cc,fv,D9,S⟩
  have t0:=kt.t0
  have t1:=kt.t1
  have t5:=kt.t5
  have dl:=kt.fr
  have uf:=kt.bx
  have xk:=kt.db
  have dh:=kt.par
  clear kt
  refine cx @t0 ⟨?_⟩
  refine eZ (λbo=>ab X bo bp=some (.cells (U.ofList [.str [58]] 0 .nil) 1 .own)/\bB X aV bp bo (bp+1)) ⟨bq Zo,dR⟩ ?_
  rintro bo ⟨OD,cE⟩
  have mC:=ax.go (dh.ex cE Zo Zo) (by omega:k<=bp+1)
  have en:=dl.trans (cu.of cE)
  unfold Bp at S
  rcases f4 S with ⟨I,aM,rfl⟩|⟨kQ,gE,aM,S⟩
  ·exact(i2 aA mC Zo Zo OD aM).mono (λad V av a=>by obtain⟨E,cy,a,_⟩:=a;cases a) (λad V av a=>a.of en (λ_ a=>by cases a;rfl))
  refine(i2 aA mC Zo Zo OD aM).mono ?_ (λad V av a=>by obtain⟨I,a,_⟩:=a;cases a)
  rintro v4 bX dd ⟨atO,i4,sK,_,gT,eD⟩
  cases sK
  have auE:=atC aM
  have jC:=eD.le
  have kn:=mC.go gT jC
  have xe:=en.trans eD
  have eK:∀j,k<=j->j<bp->ab X bX j=ab X aV j:=λj M R=>by rw[eD.af j Zo (by simp;omega),cE.af j R]
  have rF:=uf.af (V:=bX) (λj T=>eK j (xk j T).1 (xk j T).2)
  have X4:=Cc.af (V:=bX) (λj T=>eK j (by have:=fv j T;omega) (fv j T).2)
  clear uf Cc eK OD cE mC en eD aM dl dh
  refine cx @t0 ⟨?_⟩
  cases nZ:aR.drop i4 with
  |nil=>rw[nZ]at S;simp[io,andThen]at S
  |cons t gs=>
  rw[nZ]at S
  simp only[io]at S
  refine(AD aA kn.bj kn.par kn.fK kn.g0 kn.gF kn.many (fm nZ).1 3).mono ?_ (λFz b4 cA a=>by
   obtain⟨aP,rfl,dO⟩:=a
   rw[Zg aP]at S
   simp only[andThen,bad,Ze]at S
   subst S
   exact⟨_,rfl,rfl,xe.trans dO⟩)
  rintro Fz b4 cA ⟨aP,rfl,gU,dO⟩
  have iW:=dO.le
  rw[Zr aP]at S
  simp only[andThen,ok]at S
  rw[<-(fm nZ).2]at S
  have auF:(aR.drop i4).length=(aR.drop (i4+1)).length+1:=by rw[nZ,(fm nZ).2];rfl
  have xd:=xe.trans dO
  have eR:∀j,k<=j->j<dd->ab X b4 j=ab X bX j:=λj M R=>dO.af j R (by simp;omega)
  have n6:=rF.af (V:=b4) (λj T=>eR j (xk j T).1 (by have:=xk j T;omega))
  have X5:=X4.af (V:=b4) (λj T=>eR j (by have:=fv j T;omega) (by have:=fv j T;omega))
  clear rF X4 eR dO xe
  refine dc bZ.eq_1 @t0 ⟨?_⟩
  refine eZ (λck=>ab X ck cA=some (.cells (U.ofList (eO ⟨[],0,t.ty,[],0,false⟩) 0 .nil) 8 .own)/\bB X b4 cA ck (cA+1)) ⟨bq Zo,dR⟩ ?_
  rintro ck ⟨rh,eU⟩
  have lG:=ax.go (gU.ex eU Zo Zo) (by omega:k<=cA+1)
  have ev:=xd.trans (cu.of eU)
  obtain⟨w,lF,rq,η⟩:=p7 S
  refine(m7 aA lG rq _).Zm ?_
  rintro acq cC ew ⟨rfl,hn,eV⟩
  have oX:=eV.le
  have OQ:=ev.trans eV
  have sw:ab X cC cA=some (.cells (U.ofList (eO ⟨[],0,t.ty,[],0,false⟩) 0 .nil) 8 .own):=by rw[eV.af _ Zo (by simp;omega)];exact rh
  have gl:∀j,k<=j->j<cA->ab X cC j=ab X b4 j:=λj M R=>by rw[eV.af j Zo (by simp;omega),eU.af j R]
  have Xm:(aR.drop (i4+1)).length=lF.length+1:=by rw[rq];rfl
  refine rg bZ.eq_1 ⟨?_⟩
  refine j6 (λJ V aY=>∃(on:a1) (fP:Int) (no:Bool) (cy:Nat),J.g 0=some (.ptr aF 0)/\J.g 1=some (.bool loc)/\J.g 5=some s/\J.g 6=some uO/\J.g 8=some (.ptr cA 0)/\ab X V cA=some (.cells (U.ofList (eO ⟨[],0,t.ty,on,fP,no⟩) 0 .nil) 8 .own)/\(∀j,k<=j->j<cA->ab X V j=ab X b4 j)/\bh X V aF bE aR cy/\cu X [aF] h k V aY/\cA<aY/\(aR.drop cy).length<=(aR.drop (i4+1)).length/\
   wV loc (iG m loc) (ds++ch.map (oO t.ty on fP no)) (aR.drop cy)=some r) (λaa bK=> ?_) ?_
  ·rcases η with ⟨aH,S⟩|⟨aH,S⟩
   ·rw[aH]at hn ⊢
    simp only[ZB]at hn ⊢
    rw[<-(fm rq).2]at S
    simp only[yC]at S
    refine cx @t0 ⟨?_⟩
    refine eZ (λdQ=>bB X cC ew dQ (ew+1)) dR ?_
    intro dQ j1
    have rV:=lG.go (hn.ex j1 Zo Zo) (by omega:cA+1<=ew+1)
    have w7:ab X dQ cA=some (.cells (U.ofList (eO ⟨[],0,t.ty,[],0,false⟩) 0 .nil) 8 .own):=by rw[j1.af _ Zo];exact sw
    obtain⟨wC,rJ,DZ⟩:∃wC rJ,aR.drop (i4+1+1)=wC::rJ:=by
     cases a:aR.drop (i4+1+1)with
     |nil=>rw[a]at S;simp[hZ,lw,andThen]at S
     |cons w gs=>exact⟨w,gs,rfl⟩
    refine(m7 aA rV DZ _).Zm ?_
    rintro atb dL ma ⟨rfl,l2,hv⟩
    have vW:=hv.le
    have yV:=(OQ.trans (cu.of j1)).trans hv
    have DJ:ab X dL cA=some (.cells (U.ofList (eO ⟨[],0,t.ty,[],0,false⟩) 0 .nil) 8 .own):=by rw[hv.af _ Zo (by simp;omega)];exact w7
    have pN:andThen (andThen (io 1 (aR.drop (if hA wC [110,111,116]then i4+1+1+1 else i4+1+1))) (λon l=>ok (on.text,on.at_,hA wC [110,111,116]) l)) (λr l=>wV loc (iG m loc) (ds++ch.map (oO t.ty r.1 r.2.1 r.2.2)) l)=some r:=by
     rw[DZ]at S
     cases XW:hA wC [110,111,116]with
     |true=>simp only[hZ,lw,XW,ZB]at S ⊢;rw[(fm DZ).2];exact S
     |false=>simp only[hZ,lw,XW,Zt,Zx]at S ⊢;rw[DZ];exact S
    have Xn:(aR.drop (if hA wC [110,111,116]then i4+1+1+1 else i4+1+1)).length<=(aR.drop (i4+1)).length:=by simp only[Yx];split<;>omega
    clear S
    generalize (if hA wC [110,111,116]then i4+1+1+1 else i4+1+1)=i9 at pN l2 Xn
    generalize (if hA wC [110,111,116]then wC else gG)=z9
    generalize hA wC [110,111,116]=no at pN
    unfold eO at DJ
    refine e8 bZ.eq_1 @DJ @t0 ⟨?_⟩
    refine eZ (λvj=>ab X vj cA=some (.cells (U.ofList (eO ⟨[],0,t.ty,[],0,no⟩) 0 .nil) 8 .own)/\(∀j,j<ma->j≠cA->ab X vj j=ab X dL j)) ⟨by rw[bq Zo];rfl,λj M R=>aK Zo R⟩ ?_
    rintro vj ⟨ajS,uo⟩
    have Eg:=l2.af (uo _ Zo Zo) (uo _ Zo Zo)
    have sG:cu X [aF] h k vj ma:=⟨Zo,λb ai bO=>by rw[uo b Zo Zo];exact yV.af b ai bO⟩
    have Fa:=ax.go Eg (by omega:k<=ma)
    cases KF:aR.drop i9 with
    |nil=>rw[KF]at pN;simp[io,andThen]at pN
    |cons c avI=>
    rw[KF]at pN
    simp only[io]at pN
    refine(AD aA Fa.bj Fa.par Fa.fK Fa.g0 Fa.gF Fa.many (fm KF).1 1).mono ?_ ?_
    ·rintro ata qf apz ⟨Ps,rfl,Hu,vE⟩
     have auH:=vE.le
     rw[Zr Ps]at pN
     simp only[andThen,ok]at pN
     rw[<-(fm KF).2]at pN
     have DI:ab X qf cA=some (.cells (U.ofList (eO ⟨[],0,t.ty,[],0,no⟩) 0 .nil) 8 .own):=by rw[vE.af _ Zo (by simp;omega)];exact ajS
     unfold eO at DI
     refine dc bZ.eq_1 @DI ⟨?_⟩
     refine jH (qL _ _) ?_
     refine dc bZ.eq_1 @DI ⟨?_⟩
     refine bK _ _ _ ⟨c.text,c.at_,no,i9+1,bn t0,bn t1,bn t5,bn gN,bv, ?_,λj M R=> ?_, ?_, ?_,Zo, ?_,pN⟩
     ·simp(disch:=omega) only[aK,bq]<;>rfl
     ·simp(disch:=omega) only[aK]
      rw[vE.af j Zo (by simp;omega),uo j Zo Zo,hv.af j Zo (by simp;omega),j1.af j Zo,gl j M R]
     ·exact Hu.af (by simp(disch:=omega) only[aK]) (by simp(disch:=omega) only[aK])
     ·exact⟨Zo,λb ai bO=>by rw[<-(sG.trans vE).af b ai bO];simp(disch:=omega) only[aK]⟩
     ·simp only[Yx]at Xn ⊢;omega
    ·rintro ata qf apz ⟨Ps,rfl,vE⟩
     rw[Zg Ps]at pN
     simp only[andThen,bad,Ze]at pN
     subst pN
     exact⟨_,rfl,rfl,sG.trans vE⟩
   ·rw[aH]at hn ⊢
    simp only[Zt,Zx]at hn ⊢
    simp only[yC,andThen,ok]at S
    refine dc bZ.eq_1 gG.eq_1 ⟨?_⟩
    refine bK _ _ _ ⟨[],0,false,i4+1,bn t0,bn t1,bn t5,bn gN,bv, ?_,λj M R=> ?_, ?_, ?_,Zo,Zj _,S⟩
    ·simp(disch:=omega) only[aK];exact sw
    ·simp(disch:=omega) only[aK];exact gl j M R
    ·exact hn.af (by simp(disch:=omega) only[aK]) (by simp(disch:=omega) only[aK])
    ·exact⟨Zo,λb ai bO=>by rw[<-OQ.af b ai bO];simp(disch:=omega) only[aK]⟩
  ·clear S η hn OQ eV sw gl ev rh eU lG xd t0 t1 t5 gN gU
   rintro J ck eo ⟨on,fP,no,hP,t0,t1,t5,gN,iA,rh,ed,g9,ev,au1,KX,S⟩
   have rG:=n6.af (V:=ck) (λj T=>ed j (xk j T).1 (by have:=xk j T;omega))
   have X6:=X5.af (V:=ck) (λj T=>ed j (by have:=fv j T;omega) (by have:=fv j T;omega))
   clear n6 X5
   obtain⟨UN,dp⟩:=X6.AQ Zd (acl ch) (by simp only[Zu];omega) (P:=λj=>aQ<=j/\j<bp) fv
   have fj:=dp.len
   rw[Zu]at fj
   refine Ka @gN @fj ⟨?_⟩
   have Ag:=fj
   refine j6 (λJ V aY=>∃(fZ:H) (iE:List Nat),J.g 0=some (.ptr aF 0)/\J.g 1=some (.bool loc)/\J.g 5=some fZ/\hE X V fZ 8 ((ds++ch.map (oO t.ty on fP no)).map eO).flatten iE/\(∀j∈iE,k<=j/\j<aY)/\bh X V aF bE aR hP/\cu X [aF] h k V aY/\eo<=aY) (λaa bK=> ?_) ?_
   ·refine f8 (λaaQ J V aY=>∃(B:Nat) (fZ:H) (iE:List Nat) (nm:a1) (wP:Int),aaQ=ch.length-B/\B<=ch.length/\J.g 0=some (.ptr aF 0)/\J.g 1=some (.bool loc)/\J.g 5=some fZ/\J.g 8=some (.ptr cA 0)/\J.g 52=some uO/\J.g 53=some (.int .i64 (ch.length:Int))/\J.g 54=some (.int .i64 (B:Int))/\ab X V cA=some (.cells (U.ofList (eO ⟨nm,wP,t.ty,on,fP,no⟩) 0 .nil) 8 .own)/\
     hE X V fZ 8 ((ds++(ch.take B).map (oO t.ty on fP no)).map eO).flatten iE/\(∀j∈iE,(j∈db\/eo<=j)/\j<aY)/\(∀j,aQ<=j->j<bp->ab X V j=ab X ck j)/\bh X V aF bE aR hP/\cu X [aF] h k V aY/\eo<=aY)
     ch.length ⟨0,s,db,[],0,Zo,Zo,bn t0,bn t1,bn t5,bn iA,bv,bv,gL,rh,by simpa using rG,λj T=>⟨.inl T,by have:=xk j T;omega⟩,λ_ _ _=>rfl,g9,ev,Zj _⟩ ?_
    rintro aaQ J cC ew ⟨B,fZ,iE,nm,wP,rfl,qu,t0,t1,t5,iA,RW,AY,mJ,sw,Cb,vL,aak,hn,eV,oX⟩
    refine Ka @AY @mJ ⟨?_⟩
    refine gh ?_
    refine Ds (λcR=> ?_) (λcR=> ?_)
    ·have cR:B<ch.length:=Zo
     have Xg:=dp.ik B (by simpa using cR)
     have PU:=(dp.af (V:=cC) (λj T=>aak j T.1 T.2)).row Zd (i:=B) (r:=bZ ch[B]) (by rw[Zv,Zf cR];rfl)
     have Li:ch.take (B+1)=ch.take B++[ch[B]]:=List.take_succ_eq_append_getElem cR
     generalize ch[B]=bl at PU Li
     have yw:∀j∈iE,k<=j/\j≠cA/\¬(aQ<=j/\j<bp)/\j<ew:=λj T=>by
      obtain⟨M,R⟩:=vL j T
      rcases M with M|M
      ·have:=xk j M;have:=ih j M;exact⟨Zo,Zo,Zo,Zo⟩
      ·exact⟨Zo,Zo,Zo,Zo⟩
     unfold eO at sw
     refine e0 @RW @mJ @Xg @PU bZ.eq_1 @iA @sw ⟨?_⟩
     refine jH (qL _ _) ?_
     refine e0 @RW @mJ @Xg @PU bZ.eq_1 @iA (Za @sw @t5) ⟨?_⟩
     generalize kT:bm X _ (ew+1+8) _=dL
     have jv:ab X dL (ew+1+8)=some (.cells (U.ofList (eO (oO t.ty on fP no bl)) 0 .nil) 8 .own):=by rw[<-kT,bq Zo];rfl
     have DJ:ab X dL cA=some (.cells (U.ofList (eO (oO t.ty on fP no bl)) 0 .nil) 8 .own):=by rw[<-kT];simp(disch:=omega) only[aK,bq]<;>rfl
     have gm:∀j,j<ew->j≠cA->ab X dL j=ab X cC j:=λj M R=>by rw[<-kT];simp(disch:=omega) only[aK]
     clear kT
     have iX:jR X dL 8 (.slice (ew+1+8) 0 1 1)=some (1,eO (oO t.ty on fP no bl)):=s9 jv (o1 _) rfl _
     have fw:(ds++(ch.take B).map (oO t.ty on fP no)).length<=100000:=by
      simp only[ZQ,Zu,List.length_take];omega
     obtain⟨kZ,vj,vo,j3,XY,alg,Xk⟩:=(Cb.af (V:=dL) (λj T=>gm j (yw j T).2.2.2 (yw j T).2.1)).append (k:=ew+1+8+1) Zd iX rfl Zd rfl (by rw[aic];simp only[eO,ZC,ZR];omega) Zo (λj T=>by have:=yw j T;omega)
     refine kI j3 ?_
     have uo:∀j,j<ew->j≠cA->j∉iE->ab X vj j=ab X cC j:=λj M R au=>by rw[Xk j Zo au,gm j M R]
     have bF:aL .add (.int .i64 (B:Int)) (.int .i64 1)=some (.int .i64 ((B+1:Nat):Int)):=by rw[eQ Zo Zo];rfl
     have fN:((ds++(ch.take B).map (oO t.ty on fP no)).map eO).flatten++eO (oO t.ty on fP no bl)=((ds++(ch.take (B+1)).map (oO t.ty on fP no)).map eO).flatten:=by rw[Li];simp
     rw[fN]at XY
     refine dc @mJ @bF ⟨?_⟩
     refine⟨ch.length-(B+1),Zo,B+1,kZ,vo,bl.text,bl.at_,rfl,Zo,bn t0,bn t1,bv,bn iA,bn RW,bn AY,bv, ?_, .inl XY, ?_, ?_, ?_, ?_,Zo⟩
     ·rw[Xk _ Zo (λa=>(yw _ a).2.1 rfl)];exact DJ
     ·intro j T
      rcases alg j T with rfl|a
      ·exact⟨.inr Zo,Zo⟩
      ·have:=vL j a;exact⟨this.1,Zo⟩
     ·intro j M R
      rw[uo j Zo Zo (λa=>(yw j a).2.2.1 ⟨M,R⟩)]
      exact aak j M R
     ·exact hn.af (uo _ Zo Zo (λa=>by have:=yw _ a;omega)) (uo _ Zo Zo (λa=>by have:=yw _ a;omega))
     ·exact⟨Zo,λb ai bO=>by rw[uo b Zo Zo (λa=>by have:=yw _ a;omega)];exact eV.af b ai bO⟩
    ·have pH:B=ch.length:=Zo
     subst pH
     rw[YQ]at Cb
     refine c0 ⟨?_⟩
     exact bK _ _ _ ⟨fZ,iE,bn t0,bn t1,bn t5,Cb,λj T=>by
      obtain⟨M,R⟩:=vL j T
      rcases M with M|M
      ·have:=xk j M;omega
      ·omega,hn,eV,oX⟩
   ·clear rG X6 rh ed t0 t1 t5 gN iA g9 ev dp fj
    rintro J cC ew ⟨fZ,iE,t0,t1,t5,Cb,vL,hn,eV,oX⟩
    have Xp:(ds++ch.map (oO t.ty on fP no)).length+(aR.drop hP).length<=aR.length:=by simp only[ZQ,Zu];omega
    generalize ds++ch.map (oO t.ty on fP no)=Gl at Cb S Xp
    have fin:∀(V:U an) (aY:Nat),(∀j,j<ew->j≠aF->ab X V j=ab X cC j)->ew<=aY->r= .ok (Gl,aR.drop hP)->bh X V aF bE aR hP->∃ds cy b,r= .ok (ds,aR.drop cy)/\ej X V (ef k aY) b fZ 8 (ds.map eO)/\bh X V aF bE aR cy/\cu X [aF] h k V aY:=by
     intro V aY M R au aM
     obtain⟨b,dp⟩:=(Cb.af (V:=V) (λj T=>M j (vL j T).2 (by have:=vL j T;omega))).AQ Zd (Vh Gl) (by simp only[Zu];omega) (P:=ef k aY) (λj T=>⟨(vL j T).1,by have:=vL j T;omega⟩)
     exact⟨Gl,hP,b,au,dp,aM,Zo,λb ai bO=>by rw[M b Zo (by simpa using bO)];exact eV.af b ai bO⟩
    refine cx @t0 ⟨?_⟩
    obtain⟨C6,nA,qs⟩:∃C6 nA,aR.drop hP=C6::nA:=by
     cases a:aR.drop hP with
     |nil=>rw[a]at S;simp[wV,ya]at S
     |cons w gs=>exact⟨w,gs,rfl⟩
    refine eZ (λdQ=>dQ=cC) rfl ?_
    rintro dQ rfl
    refine(qI aA Zo hn Zo Zo (fm qs).1).Zm ?_
    rintro u8 dL ma ⟨rfl,rk⟩
    have vW:=rk.le
    have l2:=hn.af (rk.af _ Zo) (rk.af _ Zo)
    rw[qs]at S
    simp only[wV,ya]at S
    by_cases Lf:C6.text=[59]
    ·rw[Zr Lf]at S
     have cQ:decide (C6.text≠[59])=false:=by simp[Lf]
     have V2:iG m loc Gl (aR.drop (hP+1))=some r->∀(J:dw) (gb:U an),J.g 0=some (.ptr aF 0)->J.g 1=some (.bool loc)->J.g 5=some fZ->(∀j,j<ma->j≠aF->ab X gb j=ab X dL j)->bh X gb aF bE aR (hP+1)->
      ∃fY,fY<m+1/\∃s ds db cy,I6 X aF bE aR k h loc J gb ma s ds db cy/\ds.length+(aR.drop cy).length<=aR.length/\iG fY loc ds (aR.drop cy)=some r:=by
      intro mx J gb t0 t1 t5 aP amI
      refine⟨m,Zo,fZ,Gl,iE,hP+1,⟨t0,t1,t5,Cb.af (λj T=> ?_),λj T=>by have:=vL j T;omega,amI,Zo,λb ai bO=> ?_⟩, ?_,mx⟩
      ·have:=vL j T
       rw[aP j Zo Zo,rk.af j Zo]
      ·rw[aP b Zo (by simpa using bO),rk.af b Zo];exact eV.af b ai bO
      ·simp only[Yx]at Xp ⊢;omega
     obtain⟨c,ap,be,b2,a3,a4⟩:=l2.at_
     have Qp:=jD be a3
     have aai:=jD be b2
     have ll:=(Zc.1 (fm qs).1).1
     have dv:=l2.ne
     have bF:aL .add (.int .i64 (hP:Int)) (.int .i64 1)=some (.int .i64 ((hP+1:Nat):Int)):=by rw[eQ Zo Zo];rfl
     have abu:∀gb,gb=bm X dL aF (some (.cells (d0 c 1 [.int .i64 ((hP+1:Nat):Int)]) 2 .own))->bh X gb aF bE aR (hP+1):=by
      rintro gb rfl
      refine l2.on (c:=d0 c 1 [.int .i64 ((hP+1:Nat):Int)]) (bq Zo) (λd1 st a=>by rw[be]at a;cases a;exact r7 ..) (aK Zo Zo)
     cases loc with
     |false=>
      simp only[Zt,Zx]at S
      have je:(C6::nA).drop 1=aR.drop (hP+1):=by rw[(fm qs).2];rfl
      rw[je]at S
      refine e0 bZ.eq_1 @cQ @t1 @t0 @Qp @bF @be ⟨?_⟩
      exact V2 S _ _ (bn t0) (bn t1) (bn t5) (λj M R=>aK Zo R) (abu _ rfl)
     |true=>
      simp only[ZB]at S
      obtain⟨oA,rJ,DZ⟩:∃oA rJ,nA=oA::rJ:=by
       cases nA with
       |nil=>simp[ya]at S
       |cons w gs=>exact⟨w,gs,rfl⟩
      subst DZ
      simp only[ya]at S
      have cj:aR[hP+1]? =some oA:=(fm (fm qs).2).1
      have Eu:=(Zc.1 cj).1
      have Xh:=a4.ik (hP+1) (by rw[Zu];exact Eu)
      have WQ:ao X dL (.ptr bE ((hP+1)*7+1))=some (.str oA.text):=a4.cell (hP+1) (bZ oA) 1 _ (by rw[Zv,cj];rfl) rfl
      by_cases KZ:oA.text=[108,101,116]
      ·rw[Zr KZ]at S
       simp only[ok,Ze]at S
       have cG:decide (oA.text=[108,101,116])=true:=by simp[KZ]
       refine e0 bZ.eq_1 @cQ @t1 @t0 @aai @Qp (Za @bF (Za @Xh (Za @WQ (Za @cG @t5)))) ⟨?_⟩
       exact fin _ _ (λj M R=>rk.af j Zo) Zo (by rw[<-S,qs]) l2
      ·rw[Zg KZ]at S
       have cG:decide (oA.text=[108,101,116])=false:=by simp[KZ]
       have je:(C6::oA::rJ).drop 1=aR.drop (hP+1):=by rw[(fm qs).2];rfl
       rw[je]at S
       refine e0 bZ.eq_1 @cQ @t1 @t0 @aai @Qp (Za @bF (Za @Xh (Za @WQ (Za @cG @be)))) ⟨?_⟩
       exact V2 S _ _ (bn t0) (bn t1) (bn t5) (λj M R=>aK Zo R) (abu _ rfl)
    ·rw[Zg Lf]at S
     simp only[ok,Ze]at S
     have cQ:decide (C6.text≠[59])=true:=by simp[Lf]
     refine e8 bZ.eq_1 @cQ @t5 ⟨?_⟩
     exact fin _ _ (λj M R=>rk.af j Zo) Zo (by rw[<-S,qs]) l2
end
end
end Go.Proofs.YtpfajohmofnkfaaGreatDoor

