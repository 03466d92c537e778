/- A part of the proof of the claim's last text: what it is used for is said there; no condition of its own. -/
import Derived.Test.YtpfajohmofnkfaaGreatDoorYw
set_option maxHeartbeats 8000000
set_option linter.unusedVariables false
set_option linter.unusedSimpArgs false
namespace Go.Proofs.YtpfajohmofnkfaaGreatDoor
open Go.al Go.bh
noncomputable section
section
variable{X:cD}{h V ft bb aV:U an}{k av aQ bp:Nat}
structure wG(X:cD)(et:U an)(cX cO c3:Nat)(p:H)(B:Int)(dC:H)(f:Int×Int)(Z:a1->Option Int)(h:U an)(n:Nat):Prop where
 le:cX<=n
 jq:fJ X h cO p B dC (.map c3) f
 h2:jV X h c3 (gR Z)
 low:∀j,j<cX->j≠cO->j≠c3->ab X h j=ab X et j
theorem wG.af{et:U an}{cX cO c3:Nat}{p dC:H}{B:Int}{f:Int×Int}{Z:a1->Option Int}(a:wG X et cX cO c3 p B dC f Z bb aQ)(mr:cO<cX)(Hn:c3<cX)(aS:aQ<=bp)(aP:∀j,j<aQ->ab X aV j=ab X bb j):wG X et cX cO c3 p B dC f Z aV bp:=by
 have fX:=a.le
 refine⟨Zo, ?_,a.h2.af (aP _ Zo),λj M R au=>by rw[aP j Zo];exact a.low j M R au⟩
 have:=a.jq
 unfold fJ at*
 rw[aP _ Zo];exact this
def Bg(ar:fg)(i:Nat):Int:=(ar.cM[i]?).getD 0
theorem aoQ{ar:fg}{i:Nat}{w:a1}(a:ar.left[i]? =some w):(qB ar)[i]? =some (w,Bg ar i):=by
 unfold qB
 rw[Zv,I0 a];rfl
theorem aoR(ar:fg):(qB ar).length=ar.left.length:=by simp[qB]
theorem ahA(aA:d7 X){P:Nat->Prop}{cO c3:Nat}{p dC:H}{B:Nat}{aC:List Go.bh.Node}{g:Go.bh.Node}(aS:(y X).bj<=k)(mr:(y X).bj<=cO)(vR:(y X).bj<=c3)(xm:cO<k)(vS:c3<k)(yZ:cO≠c3)
 (co:∀j,P j->j<k/\j≠cO/\j≠c3)(bV:sc X h P aC p)(aP:aC[B]? =some g)(aT:wK X h P dC (hB g))(ay:fJ X h cO p B dC (.map c3) (0,0))(f5:jV X h c3 (gR λ_=>none)):
 a6 X 71 [.ptr cO 0] h k (λad V av=>ad= .tuple []/\fJ X V cO p B dC (.map c3) (o5 aC B g)/\k<=av/\∀j,j<k->j≠cO->j≠c3->ab X V j=ab X h j) (λ_ _ _=>False):=by
 refine Jz (afX X) (aA.none _ _ rfl) ?_
 rw[afY]
 unfold T0
 obtain⟨oj,av1,avZ,av0,rfl,Kw,abj,XQ,XP⟩:=id bV
 have Hw:=XP.wide
 have auD:=(Zc.1 aP).1
 obtain⟨row,fN,lC⟩:=XP.get B g aP
 have Eb:=lC
 have kC:=lC.kl
 obtain⟨dk,dK,bx,fG,dr,eu,eI,jZ,b6,rfl,ru,rv,rx,ms,e2⟩:=lC
 have amC:=co oj Kw
 have d1:ao X h (.ptr cO 0)=some (.ptr oj 0):=by unfold fJ at ay;rw[bW ay];rfl
 have dD:ao X h (.ptr cO 1)=some (.int .i64 (B:Int)):=by unfold fJ at ay;rw[bW ay];rfl
 have eG:=XQ.ik B (by rw[Hw.1];omega)
 refine w6 ⟨?_⟩
 generalize f9:bm X h k _=bb
 have jK:ab X bb k=some (.cells (U.ofList [.ptr cO 0] 0 .nil) 1 .own):=by rw[<-f9,bq aS];rfl
 have b8:bB X h k bb (k+1):=by rw[<-f9];exact dR
 clear f9
 have up:∀j,P j->ab X bb j=ab X h j:=λj T=>b8.af j (co j T).1
 rw[<-b8.fy _ _ xm]at d1 dD
 rw[<-b8.fy _ _ amC.1]at abj
 have mx:=(XQ.af up).row Zd fN
 refine gS (bW jK) @d1 (Za @dD (Za @abj (Za @eG @mx))) ⟨?_⟩
 refine fH (iO (B:=6) (b:=k+1+13) (W:=0) (n:=6) (c:=U.ofList [.str [], .int .i64 0, .aU, .aU, .aU, .aU] 0 .nil) (bq Zo) Zo rfl Zd Zd kC) ?_
 generalize dI:bm X _ (k+1+13) _=aV
 have b3:ab X aV (k+1+13)=some (.cells (U.ofList [.str g.name, .int .i64 g.at_,dk,dK,bx,fG] 0 .nil) 6 .own):=by rw[<-dI,bq Zo];rfl
 have ct:bB X bb (k+1) aV (k+1+14):=by rw[<-dI];exact dR
 clear dI
 rw[<-ct.af _ Zo]at jK
 have lX:bB X h k aV (k+1+14):=⟨Zo,λj T=>by rw[ct.af j Zo,b8.af j T]⟩
 have qz:∀j,P j->ab X aV j=ab X h j:=λj T=>lX.af j (co j T).1
 rw[<-ct.fy _ _ Zo]at d1 dD
 refine gS (bW jK) @d1 (bW b3) ⟨?_⟩
 refine(VH (k:=k+1+15+12) (h:=aV) aA Zo (bV.af (bR:=P) qz (λ_ a=>a)) (λj T=>by have:=(co j T).1;omega) g.name).Zm ?_
 rintro ad bo bw ⟨rfl,cE⟩
 have jf:=cE.le
 rw[<-cE.af _ Zo]at jK b3
 rw[<-cE.fy _ _ Zo]at d1 dD
 have rj:bB X h k bo bw:=⟨Zo,λj T=>by rw[cE.af j Zo,lX.af j T]⟩
 have n9:∀j,P j->ab X bo j=ab X h j:=λj T=>rj.af j (co j T).1
 have lB:wG X bo bw cO c3 (.ptr oj 0) B dC (0,0) (λ_=>none) bo bw:=⟨Zj _,by unfold fJ at*;rw[rj.af _ xm];exact ay,f5.af (rj.af _ vS),λ_ _ _ _=>rfl⟩
 generalize anl:(pt aC g.name).getD 0=Mx
 have gr:rP aC B g=if Mx<B then lS (0,0) 24 g.at_ else(0,0):=by unfold rP;rw[anl]
 refine gS (bW jK) @d1 @dD ⟨?_⟩
 refine j6 (λcT V aY=>cT.g 1=some (.ptr k 0)/\cT.g 2=some (.ptr (k+1+13) 0)/\cT.a8=[]/\wG X bo bw cO c3 (.ptr oj 0) B dC (rP aC B g) (λ_=>none) V aY) (λaa bK=> ?_) ?_
 ·by_cases cR:Mx<B
  ·have aB:decide ((Mx:Int)<(B:Int))=true:=by simp only[Zh];omega
   rw[Zr cR]at gr
   refine e8 @aB (bW jK) (bW b3) ⟨?_⟩
   refine(vq (h:=bo) aA mr lB.jq 24 g.at_).Zm ?_
   rintro ad bX dd ⟨rfl,tT,jC,f6⟩
   refine c0 ⟨?_⟩
   exact bK _ _ _ ⟨bv,bv,rfl,Zo,by rw[gr];exact tT,lB.h2.af (f6 _ (λE=>yZ E.symm)),λj M R au=>f6 j R⟩
  ·have aB:decide ((Mx:Int)<(B:Int))=false:=by simp only[Zb];omega
   rw[Zg cR]at gr
   refine cx @aB ⟨?_⟩
   exact bK _ _ _ ⟨bv,bv,rfl,by rw[gr];exact lB⟩
 rintro J bX dd ⟨t1,eX,k0,pA⟩
 have jC:=pA.le
 have ajz:ab X bX k=some (.cells (U.ofList [.ptr cO 0] 0 .nil) 1 .own):=by rw[pA.low _ Zo Zo Zo];exact jK
 have ajD:ab X bX (k+1+13)=some (.cells (U.ofList [.str g.name, .int .i64 g.at_,dk,dK,bx,fG] 0 .nil) 6 .own):=by rw[pA.low _ Zo Zo Zo];exact b3
 have xK:∀j,P j->ab X bX j=ab X h j:=λj T=>by have:=co j T;rw[pA.low j Zo this.2.1 this.2.2,n9 j T]
 show am _ _
 refine gS @t1 @eX (Za (bW ajz) (bW ajD)) ⟨?_⟩
 refine(ahU (k:=dd) (h:=bX) aA Zo mr Zo (λj T=>⟨by have:=(co j T).1;omega,(co j T).2.1⟩) (aT.af (bR:=P) xK (λ_ a=>a)) pA.jq (Eb.af (bR:=P) xK (λ_ a=>a)) trivial).Zm ?_
 rintro ad b4 cA ⟨rfl,BN,iW,n2⟩
 have hV:wG X bo bw cO c3 (.ptr oj 0) B dC (sq (hB g) g (rP aC B g)) (λ_=>none) b4 cA:=⟨Zo,BN,pA.h2.af (n2 _ Zo (λE=>yZ E.symm)),λj M R au=>by rw[n2 j Zo R];exact pA.low j M R au⟩
 have ajE:ab X b4 (k+1+13)=some (.cells (U.ofList [.str g.name, .int .i64 g.at_,dk,dK,bx,fG] 0 .nil) 6 .own):=by rw[hV.low _ Zo Zo Zo];exact b3
 have l4:=e2.wide
 have fw:=ms.len
 have lm:=ms.many
 rw[l4.1]at fw lm
 have Py:o5 aC B g=(eC g).foldl (qS (g.eqs.foldl (ls (hB g) aC B) (λ_=>none,sq (hB g) g (rP aC B g))).1) (g.eqs.foldl (ls (hB g) aC B) (λ_=>none,sq (hB g) g (rP aC B g))).2:=rfl
 generalize Le:((λ_=>none,sq (hB g) g (rP aC B g)):(a1->Option Int)×(Int×Int))=om at Py
 have akR:wG X bo bw cO c3 (.ptr oj 0) B dC om.2 om.1 b4 cA:=by rw[<-Le];exact hV
 have hL:∀w,0<=(om.1 w).getD 0/\(om.1 w).getD 0<=((0:Nat):Int)*1048576:=by intro w;rw[<-Le];simp
 refine gS @eX (bW ajE) @fw ⟨?_⟩
 refine gh ?_
 refine f8 (λm J V aY=>∃(aa:Nat),J.g 1=some (.ptr k 0)/\J.g 2=some (.ptr (k+1+13) 0)/\J.a8=[]/\J.g 49=some fG/\J.g 50=some (.int .i64 (g.eqs.length:Int))/\J.g 51=some (.int .i64 (aa:Int))/\aa+m=g.eqs.length
  /\wG X bo bw cO c3 (.ptr oj 0) B dC ((g.eqs.take aa).foldl (ls (hB g) aC B) om).2 ((g.eqs.take aa).foldl (ls (hB g) aC B) om).1 V aY/\(∀w,0<=(((g.eqs.take aa).foldl (ls (hB g) aC B) om).1 w).getD 0/\(((g.eqs.take aa).foldl (ls (hB g) aC B) om).1 w).getD 0<=(aa:Int)*1048576))
  g.eqs.length ⟨0,bn t1,bn eX,k0,bv,bv,gL,Zo,akR,hL⟩ ?_
 clear t1 eX k0
 rintro m J ck eo ⟨aa,t1,eX,k0,qR,uR,uS,bK,h3,WH⟩
 have rB:=h3.le
 have ajA:ab X ck k=some (.cells (U.ofList [.ptr cO 0] 0 .nil) 1 .own):=by rw[h3.low _ Zo Zo Zo];exact jK
 have ajF:ab X ck (k+1+13)=some (.cells (U.ofList [.str g.name, .int .i64 g.at_,dk,dK,bx,fG] 0 .nil) 6 .own):=by rw[h3.low _ Zo Zo Zo];exact b3
 have xL:∀j,P j->ab X ck j=ab X h j:=λj T=>by have:=co j T;rw[h3.low j Zo this.2.1 this.2.2,n9 j T]
 cases m with
 |zero=>
  have aB:decide ((aa:Int)<(g.eqs.length:Int))=false:=by simp only[Zb];omega
  rw[ZN Zo]at h3
  generalize g.eqs.foldl (ls (hB g) aC B) om=G at h3 Py
  refine gd @uS @uR @eX @aB (bW ajF) ⟨?_⟩
  refine(JU aA Zo).Zm ?_
  rintro ad cC ew ⟨rfl,rfl,e9,b1,dT,fc⟩
  generalize xs:eo+1=dS at*
  have xM:∀j,P j->ab X cC j=ab X h j:=λj T=>by rw[e9.af j (by have:=(co j T).1;omega),xL j T]
  have yY:fJ X cC cO (.ptr oj 0) B dC (.map c3) G.2:=by have:=h3.jq;unfold fJ at*;rw[e9.af cO Zo];exact this
  have ag0:ab X cC k=some (.cells (U.ofList [.ptr cO 0] 0 .nil) 1 .own):=by rw[e9.af _ Zo];exact ajA
  refine gh ?_
  refine JV (P:=P) (g:=g) (dr:=dr) (eu:=eu) (eI:=eI) (dk:=dk) (dK:=dK) (bx:=bx) aA (λi V aY=>qY X cC dS cO c3 (.ptr oj 0) B dC (.map c3) (((eC g).take i).foldl (qS G.1) G.2) G.1 V aY) Zo Zo Zo Zo
   (ru.af xM) (rv.af xM) (rx.af xM) b1 dT fc (λi V aY a=>⟨a.le,λj T=>a.low j (by have:=(co j T).1;omega) (co j T).2.1 (co j T).2.2⟩)
   (λi bb aQ aV bp a fX aP=>a.af Zo Zo fX aP) (λV b7=>⟨Zj _,by unfold fJ at*;rw[b7.af _ Zo];exact yY,(h3.h2.af (e9.af _ Zo)).af (b7.af _ Zo),λj T _ _=>b7.af j T⟩) ?_ ?_
  ·intro mk i eE d dQ fa aN gf w7 aj4
   rw[qn (qS G.1) _ aN]
   generalize ((eC g).take i).foldl (qS G.1) G.2=bS at gf ⊢
   have vV:=gf.le
   have je:eO d=[.str d.name, .int .i64 d.at_, .bool d.ty.b, .bool d.ty.s, .int .i64 d.ty.w, .str d.on, .int .i64 d.fP, .bool d.no]:=rfl
   rw[je]
   unfold rY
   refine c0 ⟨?_⟩
   generalize kT:bm X _ fa _=dL
   have jv:ab X dL fa=some (.cells (U.ofList [.str d.name, .int .i64 d.at_, .bool d.ty.b, .bool d.ty.s, .int .i64 d.ty.w, .str d.on, .int .i64 d.fP, .bool d.no] 0 .nil) 8 .own):=by rw[<-kT,bq Zo];rfl
   have gm:∀j,j<fa->ab X dL j=ab X dQ j:=λj T=>by rw[<-kT];simp(disch:=omega) only[aK]
   clear kT
   refine⟨by rw[gm _ Zo];exact aj4, ?_⟩
   generalize vG:bm X dL (dS+1) _=et
   have jb:ab X et (dS+1)=some (mk .busy none):=by rw[<-vG,bq Zo]
   have ji:∀j,j≠dS+1->ab X et j=ab X dL j:=λj T=>by rw[<-vG,aK Zo T]
   clear vG
   have jM:=gf.af (aV:=et) (bp:=fa+1) Zo Zo Zo (λj M R=>by rw[ji j R,gm j M])
   rw[<-ji _ Zo]at jv
   have Oo:ab X et dS=some (.deferred (some [])):=by rw[ji _ Zo,gm _ Zo];exact w7
   have fK:ao X et (.ptr k 0)=some (.ptr cO 0):=by rw[bW (show ab X et k=_ by rw[jM.low _ Zo Zo Zo];exact ag0)];rfl
   have eN:ao X et (.ptr cO 3)=some (.map c3):=by have:=jM.jq;unfold fJ at this;rw[bW this];rfl
   have hx:iZ X et 9 (.int .i64 0) (.map c3) (.str d.name) false=some (.int .i64 ((G.1 d.name).getD 0)):=by
    rw[xO jM.seen];unfold gR;cases G.1 d.name<;>rfl
   have h4:∀V aY,qY X cC dS cO c3 (.ptr oj 0) B dC (.map c3) (qS G.1 bS (eE,d)) G.1 V aY->ab X V dS=some (.deferred (some []))->(H.bool true=H.bool true/\qY X cC dS cO c3 (.ptr oj 0) B dC (.map c3) (qS G.1 bS (eE,d)) G.1 (bm X V (dS+1) (some (mk .ready none))) aY/\ab X (bm X V (dS+1) (some (mk .ready none))) dS=some (.deferred (some []))/\ab X (bm X V (dS+1) (some (mk .ready none))) (dS+1)=some (mk .ready none)):=λV aY a R=>
    ⟨rfl,a.af Zo Zo (Zj _) (λj M R=>aK Zo R),by rw[aK Zo Zo];exact R,bq Zo⟩
   refine w6 ⟨?_⟩
   refine gh ?_
   by_cases mu:eE=1
   ·have aB:decide (eE≠1)=false:=by simp[mu]
    have qr:qS G.1 bS (eE,d)=bS:=by unfold qS;rw[Zg (by simp[mu])]
    refine cx @aB ⟨?_⟩
    rw[qr]at h4 ⊢
    exact⟨⟨.busy,none,jb⟩,h4 _ _ (jM.af Zo Zo Zo (λ_ _ _=>rfl)) Oo⟩
   ·have aB:decide (eE≠1)=true:=by simp[mu]
    by_cases cj:(G.1 d.name).getD 0=0
    ·have ni:decide ((G.1 d.name).getD 0=0)=true:=by simp[cj]
     have qr:qS G.1 bS (eE,d)=lS bS 37 d.at_:=by unfold qS;rw[Zr ⟨mu,cj⟩]
     refine e0 @aB @t1 @fK @eN (bW jv) @hx @ni ⟨?_⟩
     refine(vq (h:=et) aA mr jM.jq 37 d.at_).Zm ?_
     rintro ad T8 apH ⟨rfl,O7,al7,t2⟩
     refine c0 ⟨?_⟩
     rw[qr]at h4 ⊢
     have al6:=jM.le
     exact⟨⟨.busy,none,by rw[t2 _ Zo];exact jb⟩,h4 _ _ ⟨Zo,O7,jM.seen.af (t2 _ Zo),λj M R au=>by rw[t2 j R];exact jM.low j M R au⟩ (by rw[t2 _ Zo];exact Oo)⟩
    ·have ni:decide ((G.1 d.name).getD 0=0)=false:=by simp[cj]
     have qr:qS G.1 bS (eE,d)=bS:=by unfold qS;rw[Zg (λa=>cj a.2)]
     refine e0 @aB @t1 @fK @eN (bW jv) @hx @ni ⟨?_⟩
     rw[qr]at h4 ⊢
     exact⟨⟨.busy,none,jb⟩,h4 _ _ (jM.af Zo Zo Zo (λ_ _ _=>rfl)) Oo⟩
  ·intro dQ fa gf w7
   rw[YQ]at gf
   have vV:=gf.le
   rw[<-Py]at gf
   show ol X [] _ _ _ _ _
   simp only[rN,qN,k0]
   refine⟨by show(y X).bj<=dS;omega,w7, ?_⟩
   show p6 _ _ _ _ _
   refine⟨rfl, ?_,Zo,λj M R au=> ?_⟩
   ·have:=gf.jq
    unfold fJ at*
    rw[aK Zo Zo];exact this
   ·rw[aK Zo Zo,gf.low j Zo R au,e9.af j Zo,h3.low j Zo R au,rj.af j M]
 |succ m=>
  have aB:decide ((aa:Int)<(g.eqs.length:Int))=true:=by simp only[Zh];omega
  have bF:aL .add (.int .i64 (aa:Int)) (.int .i64 1)=some (.int .i64 ((aa+1:Nat):Int)):=by rw[eQ Zo Zo];rfl
  obtain⟨ar,cf⟩:∃ar,g.eqs[aa]? =some ar:=⟨_,Zf Zo⟩
  obtain⟨aq4,PP,xw⟩:=e2.get aa ar cf
  have eG:=ms.ik aa (by rw[l4.1];omega)
  have mx:=(ms.af xL).row Zd PP
  obtain⟨qK,s6,at9,aua,ko,rfl,hN,mw,n4,pM⟩:=xw
  have ue:=hN.len
  have Aa:=hN.many
  have K7:=mw.len
  have amM:=mw.many
  rw[show(hX ar.left).length=ar.left.length from by simp[hX]]at ue Aa
  rw[Zu]at K7 amM
  have cV:=qn (ls (hB g) aC B) om cf
  generalize WA:(g.eqs.take aa).foldl (ls (hB g) aC B) om=Fp at h3 cV WH
  refine iJ @uS @uR @qR @aB @eG @mx ⟨?_⟩
  refine fH (iO (B:=4) (b:=eo) (W:=0) (n:=4) (c:=U.ofList [.aU, .aU, .int .i64 0, .cI] 0 .nil) (bq Zo) Zo rfl Zd Zd pM) ?_
  generalize mT:bm X _ eo _=cC
  have g7:ab X cC eo=some (.cells (U.ofList [qK,s6, .int .i64 ar.at_,ko] 0 .nil) 4 .own):=by rw[<-mT,bq Zo];rfl
  have gl:∀j,j<eo->ab X cC j=ab X ck j:=λj T=>by rw[<-mT];simp(disch:=omega) only[aK]
  clear mT
  have jx:=h3.af (aV:=cC) (bp:=eo+1) Zo Zo Zo (λj M=>gl j M)
  refine Ka (bW g7) @ue ⟨?_⟩
  refine gh ?_
  refine f8 (λfY J V aY=>∃(i:Nat),J.g 1=some (.ptr k 0)/\J.g 2=some (.ptr (k+1+13) 0)/\J.a8=[]/\J.g 49=some fG/\J.g 50=some (.int .i64 (g.eqs.length:Int))/\J.g 51=some (.int .i64 (aa:Int))/\J.g 6=some (.ptr eo 0)/\J.g 56=some qK/\J.g 57=some (.int .i64 (ar.left.length:Int))/\J.g 58=some (.int .i64 (i:Int))/\i+fY=ar.left.length
   /\wG X bo bw cO c3 (.ptr oj 0) B dC (((qB ar).take i).foldl (m2 (hB g)) Fp).2 (((qB ar).take i).foldl (m2 (hB g)) Fp).1 V aY/\(∀w,0<=((((qB ar).take i).foldl (m2 (hB g)) Fp).1 w).getD 0/\((((qB ar).take i).foldl (m2 (hB g)) Fp).1 w).getD 0<=(aa:Int)*1048576+i)
   /\eo+1<=aY/\ab X V eo=some (.cells (U.ofList [qK,s6, .int .i64 ar.at_,ko] 0 .nil) 4 .own))
   ar.left.length ⟨0,bn t1,bn eX,k0,bn qR,bn uR,bn uS,bv,bv,bv,gL,Zo,jx,λw=>by simpa using WH w,Zo,g7⟩ ?_
  clear t1 eX k0 qR uR uS
  rintro fY cT dQ fa ⟨i,t1,eX,k0,qR,uR,uS,gN,ou,x8,x9,aN,gf,mq,au9,g8⟩
  have vV:=gf.le
  have VS:ab X dQ k=some (.cells (U.ofList [.ptr cO 0] 0 .nil) 1 .own):=by rw[gf.low _ Zo Zo Zo];exact jK
  have Ao:∀j,P j->ab X dQ j=ab X h j:=λj T=>by have:=co j T;rw[gf.low j Zo this.2.1 this.2.2,n9 j T]
  cases fY with
  |zero=>
   have eL:decide ((i:Int)<(ar.left.length:Int))=false:=by simp only[Zb];omega
   rw[ZN (by rw[aoR];omega)]at gf mq
   refine e0 @x9 @x8 @t1 @gN @eL (bW VS) (bW g8) ⟨?_⟩
   refine(arz (k:=fa) (h:=dQ) aA Zo mr Zo (λj T=>⟨by have:=(co j T).1;omega,(co j T).2.1⟩) (aT.af (bR:=P) Ao (λ_ a=>a)) (bV.af (bR:=P) Ao (λ_ a=>a)) gf.jq (cP.af Ao _ _ n4)).Zm ?_
   rintro ad dL ma ⟨rfl,O6,vW,pF⟩
   refine dc @uS @bF ⟨?_⟩
   refine⟨m,Zo,aa+1,bn t1,bn eX,k0,bn qR,bn uR,bv,Zo, ?_, ?_⟩
   ·rw[cV]
    exact⟨Zo,O6,gf.h2.af (pF _ Zo (λE=>yZ E.symm)),λj M R au=>by rw[pF j Zo R];exact gf.low j M R au⟩
   ·rw[cV]
    intro w
    have:=mq w
    simp only[ls]
    constructor
    ·exact this.1
    ·have R:=this.2
     have au:i<=1048576:=Zo
     push_cast
     omega
  |succ fY=>
   have eL:decide ((i:Int)<(ar.left.length:Int))=true:=by simp only[Zh];omega
   have cB:aL .add (.int .i64 (i:Int)) (.int .i64 1)=some (.int .i64 ((i+1:Nat):Int)):=by rw[eQ Zo Zo];rfl
   obtain⟨w,bL⟩:∃w,ar.left[i]? =some w:=⟨_,Zf Zo⟩
   have rz:=hN.ik i (by simp[hX];omega)
   have j4:=(hN.af Ao).cell i [.str w] 0 (.str w) (by unfold hX;rw[Zv,bL];rfl) rfl
   rw[Yd]at rz
   rw[Yd,ZS]at j4
   have Ae:=qn (m2 (hB g)) Fp (aoQ bL)
   generalize Wz:((qB ar).take i).foldl (m2 (hB g)) Fp=jk at gf Ae mq
   have WL:=mq w
   refine gS @x9 @x8 (Za @ou (Za @gN (Za @eL (Za @rz (Za @j4 (Za (bW g8) @K7)))))) ⟨?_⟩
   refine gh ?_
   refine gS @x9 @x8 (Za @ou (Za @gN (Za @eL (Za @rz (Za @j4 (Za (bW g8) @K7)))))) ⟨?_⟩
   refine gh ?_
   refine gS @x9 @x8 (Za @ou (Za @gN (Za @eL (Za @rz (Za @j4 (Za (bW g8) @K7)))))) ⟨?_⟩
   refine j6 (λq3 V aY=>q3.g 1=some (.ptr k 0)/\q3.g 2=some (.ptr (k+1+13) 0)/\q3.a8=[]/\q3.g 49=some fG/\q3.g 50=some (.int .i64 (g.eqs.length:Int))/\q3.g 51=some (.int .i64 (aa:Int))/\q3.g 6=some (.ptr eo 0)/\q3.g 56=some qK/\q3.g 57=some (.int .i64 (ar.left.length:Int))/\q3.g 58=some (.int .i64 (i:Int))/\q3.g 8=some (.str w)/\q3.g 9=some (.int .i64 (Bg ar i))/\V=dQ/\aY=fa) (λω D7=> ?_) ?_
   ·by_cases Hg:i<ar.cM.length
    ·have ic:decide ((i:Int)<(ar.cM.length:Int))=true:=by simp only[Zh];omega
     obtain⟨I,aG⟩:∃I,ar.cM[i]? =some I:=⟨_,Zf Hg⟩
     have D6:=mw.ik i (by rw[Zu];exact Hg)
     have WN:=(mw.af Ao).cell i [HS I] 0 (HS I) (by rw[Zv,aG];rfl) rfl
     rw[Yd]at D6
     rw[Yd,ZS]at WN
     have OY:Bg ar i=I:=by unfold Bg;rw[aG];rfl
     refine gd @ic @gN (bW g8) @D6 @WN ⟨?_⟩
     exact D7 _ _ _ ⟨bn t1,bn eX,k0,bn qR,bn uR,bn uS,bn gN,bn ou,bn x8,bn x9,bv,by refine yN ⟨?_⟩;rw[OY];rfl,rfl,rfl⟩
    ·have ic:decide ((i:Int)<(ar.cM.length:Int))=false:=by simp only[Zb];omega
     have OY:Bg ar i=0:=by unfold Bg;rw[Z3 Zo];rfl
     refine cx @ic ⟨?_⟩
     exact D7 _ _ _ ⟨bn t1,bn eX,k0,bn qR,bn uR,bn uS,bn gN,bn ou,bn x8,bn x9,bv,by refine yN ⟨?_⟩;rw[OY],rfl,rfl⟩
   ·clear t1 eX k0 qR uR uS gN ou x8 x9
    rintro q3 V aY ⟨t1,eX,k0,qR,uR,uS,gN,ou,x8,x9,iA,t9,rfl,rfl⟩
    show am _ _
    refine hk @t1 @iA @t9 (bW VS) ⟨?_⟩
    refine(aoO aA Zo mr vR Zo Zo yZ gf.jq (aT.af (bR:=P) Ao (λ_ a=>a)) (λj T=>⟨by have:=(co j T).1;omega,(co j T).2.1,(co j T).2.2⟩) gf.h2 w (Bg ar i) ⟨WL.1,Zo⟩).Zm ?_
    rintro ad dL ma ⟨rfl,O6,akF,vW,pF⟩
    refine dc @x9 @cB ⟨?_⟩
    refine⟨fY,Zo,i+1,bn t1,bn eX,k0,bn qR,bn uR,bn uS,bn gN,bn ou,bn x8,bv,Zo, ?_, ?_,Zo,by rw[pF _ Zo Zo Zo];exact g8⟩
    ·rw[Ae]
     exact⟨Zo,O6,akF,λj M R au=>by rw[pF j Zo R au];exact gf.low j M R au⟩
    ·rw[Ae]
     intro x
     have ag:=mq x
     simp only[m2]
     split
     ·simp only[Yw];push_cast;omega
     ·push_cast;omega
end
end
end Go.Proofs.YtpfajohmofnkfaaGreatDoor

namespace Go.Proofs.YtpfajohmofnkfaaGreatDoor
open Go.al Go.bh
noncomputable section
theorem apK{C:aX}{h:U an}{k r pos c:Nat}{s:a1}(S:C.bj<=r)(a:ab C h r=some (.nJ s pos))(ay:s[pos]? =some c)(M:c<128):
 oR C j7 true h k (ip (.ptr r 0))=some (.eW (.tuple [.bool true, .int .i64 (pos:Int), .int .i32 (c:Int)]) (bm C h r (some (.nJ s (pos+1)))) k):=by
 have cR:=(Zc.1 ay).1
 have bF:Nat.blt pos s.length=true:=by simp[Nat.blt];omega
 have cB:Nat.blt c 128=true:=by simp[Nat.blt];omega
 have fh:ke C r=true:=ml S
 simp only[oR,ip,fh,eB,a,bF,m5,ay,cB,al.setObj,gK]
 rfl
theorem apI{C:aX}{h:U an}{k r pos:Nat}{s:a1}(S:C.bj<=r)(a:ab C h r=some (.nJ s pos))(ay:s.length<=pos):
 oR C j7 true h k (ip (.ptr r 0))=some (.val (.tuple [.bool false])):=by
 have bF:Nat.blt pos s.length=false:=by
  cases cf:Nat.blt pos s.length with
  |false=>rfl
  |true=>simp[Nat.blt]at cf;omega
 have fh:ke C r=true:=ml S
 simp only[oR,ip,fh,eB,a,bF,iF]
theorem VR{W:Option dz}{h V:U an}{k av:Nat}{aj:bY}{v:H}(a:W=some (.eW v V av))(B:aj v V av):yL W h k aj:=by subst a;exact⟨B⟩
theorem VQ{W:Option dz}{h:U an}{k:Nat}{aj:bY}{v:H}(a:W=some (.val v))(B:aj v h k):yL W h k aj:=by subst a;exact⟨B⟩
section
variable{X:cD}{h V ft bb aV:U an}{k av aQ bp:Nat}
theorem Qj{c:Nat}(a:iy c=true):(97<=c/\c<=122)\/(65<=c/\c<=90)\/(48<=c/\c<=57)\/c=95:=by
 simp[iy,pT,ij]at a
 omega
theorem apX(aA:d7 X){c:Nat}(ay:iy c=true):a6 X 185 [.int .i32 (c:Int)] h k (λad V av=>ad= .bool false/\V=h/\k<=av) (λ_ _ _=>False):=by
 refine dj (aep X) (aA.none _ _ rfl) ?_
 rw[aeq]
 unfold Te
 rcases Qj ay with a|a|a|a
 ·have cQ:decide ((c:Int)<97)=false:=by simp only[Zb];omega
  have cG:decide ((122:Int)<(c:Int))=false:=by simp only[Zb];omega
  refine dc @cQ @cG ⟨?_⟩
  exact⟨rfl,rfl,Zo⟩
 ·have cQ:decide ((c:Int)<97)=true:=by simp only[Zh];omega
  have cG:decide ((c:Int)<65)=false:=by simp only[Zb];omega
  have eL:decide ((90:Int)<(c:Int))=false:=by simp only[Zb];omega
  refine e8 @cQ @cG @eL ⟨?_⟩
  exact⟨rfl,rfl,Zo⟩
 ·have cQ:decide ((c:Int)<97)=true:=by simp only[Zh];omega
  have cG:decide ((c:Int)<65)=true:=by simp only[Zh];omega
  have eL:decide ((c:Int)<48)=false:=by simp only[Zb];omega
  have ic:decide ((57:Int)<(c:Int))=false:=by simp only[Zb];omega
  refine hk @cQ @cG @eL @ic ⟨?_⟩
  exact⟨rfl,rfl,Zo⟩
 ·have cQ:decide ((c:Int)<97)=true:=by simp only[Zh];omega
  have cG:decide ((c:Int)<65)=false:=by simp only[Zb];omega
  have eL:decide ((90:Int)<(c:Int))=true:=by simp only[Zh];omega
  have ic:decide ((c:Int)<48)=false:=by simp only[Zb];omega
  have fM:decide ((57:Int)<(c:Int))=true:=by simp only[Zh];omega
  have hF:decide ((c:Int)≠95)=false:=by simp only[Zb,ne_eq,Decidable.not_not];omega
  refine iJ @cQ @cG @eL @ic @fM @hF ⟨?_⟩
  exact⟨rfl,rfl,Zo⟩
theorem arD{C:aX}{s:a1}{aj:bY}(B:aj (.ptr k 0) (bm C h k (some (.nJ s 0))) (k+1)):gn (Rn C h k (.str s)) h k aj:=kI (by simp only[Rn,lq,li,gK]) B
theorem ahi:dn X h .eql 4 false (.bool false) (.bool false)=some (.bool true):=by kernel_rfl
theorem UM:dn X h .eql 4 false (.bool false) (.bool true)=some (.bool false):=by kernel_rfl
theorem ahj:dn X h .eql 4 false (.bool true) (.bool false)=some (.bool false):=by kernel_rfl
theorem ahk:dn X h .eql 4 false (.bool true) (.bool true)=some (.bool true):=by kernel_rfl
theorem ahh(I b:Bool):dn X h .eql 4 false (.bool I) (.bool b)=some (.bool (I==b)):=by
 cases I<;>cases b
 ·exact ahi
 ·exact UM
 ·exact ahj
 ·exact ahk
theorem anR(aA:d7 X){s:a1}(aH:∀c∈s,iy c=true)(aS:(y X).bj<=k):
 a6 X 186 [.str s, .func (.func 185) [] []] h k (λad V av=>ad= .int .i64 (-1)/\bB X h k V av) (λ_ _ _=>False):=by
 refine dj (aer X) (aA.none _ _ rfl) ?_
 rw[aes]
 unfold Tf
 refine dj (ae7 X) (aA.none _ _ rfl) ?_
 rw[ae8]
 unfold Tz
 refine arD ?_
 generalize f9:bm X h k _=bb
 have b9:ab X bb k=some (.nJ s 0):=by rw[<-f9,bq aS]
 have b8:bB X h k bb (k+1):=by rw[<-f9];exact dR
 clear f9
 refine c0 ⟨?_⟩
 refine f8 (λm J V aY=>∃(aa:Nat),J.g 1=some (.func (.func 185) [] [])/\J.g 2=some (.bool true)/\J.g 10=some (.ptr k 0)/\aa+m=s.length/\ab X V k=some (.nJ s aa)/\bB X h k V aY/\k+1<=aY)
  s.length ⟨0,bv,bv,bv,Zo,b9,b8,Zo⟩ ?_
 rintro m J aV bp ⟨aa,t1,eX,pc,bK,b3,ct,ns⟩
 cases m with
 |zero=>
  refine cx @pc ⟨?_⟩
  refine VQ (apI aS b3 Zo) ?_
  refine c0 ⟨?_⟩
  exact⟨rfl,ct⟩
 |succ m=>
  obtain⟨c,ay⟩:∃c,s[aa]? =some c:=⟨_,Zf Zo⟩
  have bi:=aH c (Zp ay)
  have akt:c<128:=by have:=Qj bi;omega
  refine cx @pc ⟨?_⟩
  refine VR (apK aS b3 ay akt) ?_
  refine cx @t1 ⟨?_⟩
  generalize hI:bm X aV k _=bo
  have g3:ab X bo k=some (.nJ s (aa+1)):=by rw[<-hI,bq aS]
  have cE:bB X h k bo bp:=⟨ct.le,λj T=>by rw[<-hI,aK aS Zo];exact ct.af j T⟩
  clear hI
  refine(apX aA bi).Zm ?_
  rintro ad bX dd ⟨rfl,rfl,jC⟩
  refine dc @eX @UM ⟨?_⟩
  refine⟨m,Zo,aa+1,bn t1,bn eX,bn pc,Zo,g3,⟨by have:=cE.le;omega,cE.af⟩,Zo⟩
end
end
end Go.Proofs.YtpfajohmofnkfaaGreatDoor

namespace Go.Proofs.YtpfajohmofnkfaaGreatDoor
open Go.al Go.bh
noncomputable section
def abQ:List a1:=[[110,111,100,101],[114,101,116,117,114,110,115],[118,97,114],[108,101,116],[116,101,108],[119,104,101,110],[110,111,116],[111,114],[120,111,114],[97,110,100],[112,114,101],[102,98,121],[105,102],[116,104,101,110],[101,108,115,101],[109,101,114,103,101],[116,114,117,101],[102,97,108,115,101]]
theorem arq:∀w∈abQ,w∈uK:=by decide
structure r9(X:cD):Prop where
 bj:2<X.bj
 at_:∀h,∃b bx,ao X h (.ptr 2 0)=some bx/\ej X h (λj=>j<X.bj) b bx 1 (hX abQ)
section
variable{X:cD}{h V ft bb aV:U an}{k av aQ bp:Nat}{s:a1}
theorem aiH:dn X h .eql 238 true .nilIface .nilIface=some (.bool true):=by kernel_rfl
theorem aiI(b:Nat):dn X h .eql 238 true (.iface 283 (.ptr b 0)) .nilIface=some (.bool false):=by kernel_rfl
theorem ahJ(aA:d7 X){b:Nat}{bx:H}{P:Nat->Prop}{mg:List a1}(S:ej X h P b bx 1 (hX mg))(aH:s∉mg):
 a6 X 187 [bx, .str s] h k (λad V av=>ad= .bool false/\bB X h k V av) (λ_ _ _=>False):=by
 refine dj (aet X) (aA.none _ _ rfl) ?_
 rw[aeu]
 unfold Tg
 refine a6.mono (aj:=λad V av=>ad= .int .i64 (-1)/\bB X h k V av) (aw:=λ_ _ _=>False) ?_ ?_ (λ_ _ _ a=>a.elim)
 ·refine dj (ae9 X) (aA.none _ _ rfl) ?_
  rw[afa]
  unfold TA
  have fw:=S.len
  have lm:=S.many
  rw[show(hX mg).length=mg.length from by simp[hX]]at fw lm
  refine cx @fw ⟨?_⟩
  refine f8 (λm J V aY=>∃(aa:Nat),J.g 0=some bx/\J.g 1=some (.str s)/\J.g 7=some (.int .i64 (mg.length:Int))/\J.g 8=some (.int .i64 (aa:Int))/\aa+m=mg.length/\V=h/\aY=k)
   mg.length ⟨0,bv,bv,bv,gL,Zo,rfl,rfl⟩ ?_
  rintro m J aV bp ⟨aa,t0,t1,hY,iA,bK,rfl,rfl⟩
  cases m with
  |zero=>
   have d:decide ((aa:Int)<(mg.length:Int))=false:=by simp only[Zb];omega
   refine e8 @iA @hY @d ⟨?_⟩
   exact⟨rfl,bB.refl _ _⟩
  |succ m=>
   have d:decide ((aa:Int)<(mg.length:Int))=true:=by simp only[Zh];omega
   have bF:aL .add (.int .i64 (aa:Int)) (.int .i64 1)=some (.int .i64 ((aa+1:Nat):Int)):=by rw[eQ Zo Zo];rfl
   obtain⟨w,bL⟩:∃w,mg[aa]? =some w:=⟨_,Zf Zo⟩
   have eG:=S.ik aa (by simp[hX];omega)
   have j4:=S.cell aa [.str w] 0 (.str w) (by unfold hX;rw[Zv,bL];rfl) rfl
   rw[Yd]at eG
   rw[Yd,ZS]at j4
   have dv:s≠w:=λE=>aH (by rw[E];exact Zp bL)
   have cG:decide (s=w)=false:=by simp[dv]
   refine e0 @iA @hY @t1 @t0 @d @eG (Za @j4 (Za @cG @bF)) ⟨?_⟩
   exact⟨m,Zo,aa+1,bn t0,bn t1,bn hY,bv,Zo,rfl,rfl⟩
 ·rintro ad bb aQ ⟨rfl,b7⟩
  refine c0 ⟨?_⟩
  exact⟨rfl,b7⟩
theorem aco(aA:d7 X)(t:iu)(aS:(y X).bj<=k):a6 X 128 [.agg (lx t)] h k (λad V av=>ad= .str (mH t)/\bB X h k V av) (λ_ _ _=>False):=by
 refine dj (adt X) (aA.none _ _ rfl) ?_
 rw[adu]
 unfold SF
 have aT:lx t=[.bool t.b, .bool t.s, .int .i64 t.w]:=rfl
 rw[aT]
 refine c0 ⟨?_⟩
 refine eZ (λbb=>ab X bb k=some (.cells (U.ofList [.bool t.b, .bool t.s, .int .i64 t.w] 0 .nil) 3 .own)/\bB X h k bb (k+1)) ⟨bq aS,dR⟩ ?_
 rintro bb ⟨b9,b8⟩
 refine(Cq aA t Zo).Zm ?_
 rintro ad aV bp ⟨rfl,ct⟩
 have gZ:=ct.le
 have b7:=b8.trans ct
 have b3:ab X aV k=some (.cells (U.ofList [.bool t.b, .bool t.s, .int .i64 t.w] 0 .nil) 3 .own):=by rw[ct.af _ Zo];exact b9
 have d1:ao X aV (.ptr k 0)=some (.bool t.b):=by rw[bW b3];rfl
 have dD:ao X aV (.ptr k 1)=some (.bool t.s):=by rw[bW b3];rfl
 have d2:ao X aV (.ptr k 2)=some (.int .i64 t.w):=by rw[bW b3];rfl
 cases bi:kj t with
 |false=>
  refine c0 ⟨?_⟩
  exact⟨by simp[mH,bi],b7⟩
 |true=>
  cases l3:t.b with
  |true=>
   rw[l3]at d1
   refine cx @d1 ⟨?_⟩
   exact⟨by simp[mH,bi,l3],b7⟩
  |false=>
   rw[l3]at d1
   have bL:1<=t.w/\t.w<=64:=by simpa[kj,l3]using bi
   obtain⟨w,xF⟩:=Yk (by omega:0<=t.w)
   rw[xF]at d2
   have aN:iY t.w.toNat=iY w:=by rw[xF];rfl
   have fj:(iY w).length<=2:=by unfold iY;split<;>simp
   have sm:∀h c,dn X h .add 9 true (.str [c]) (.str (iY w))=some (.str (c::iY w)):=λh c=>by
    have:Nat.ble ([c].length+(iY w).length) 1000000000=true:=ml (by simp;omega)
    simp only[dn,ys,this,eB];rfl
   cases kU:t.s with
   |true=>
    rw[kU]at dD
    refine e8 @d1 @dD @d2 ⟨?_⟩
    refine(Lq aA Zo).Zm ?_
    rintro ad bo bw ⟨rfl,rfl,rfl⟩
    refine cx @sm ⟨?_⟩
    exact⟨by simp[mH,bi,l3,kU,aN],b7⟩
   |false=>
    rw[kU]at dD
    refine e8 @d1 @dD @d2 ⟨?_⟩
    refine(Lq aA Zo).Zm ?_
    rintro ad bo bw ⟨rfl,rfl,rfl⟩
    refine cx @sm ⟨?_⟩
    exact⟨by simp[mH,bi,l3,kU,aN],b7⟩
theorem anW{c:Nat}(a:iy c=true):c<256:=by have:=Qj a;omega
theorem as9(aA:iD X)(b7:lL X)(aH:C9 s)(aS:(y X).bj<=k):
 a6 X 188 [.str s] h k (λad V av=>ad= .bool false/\bB X h k V av) (λ_ _ _=>False):=by
 refine dj (aev X) (aA.none _ _ rfl) ?_
 rw[aew]
 unfold Th
 cases s with
 |nil=>exact absurd rfl aH.ne
 |cons c l=>
  cases l with
  |nil=>
   have oN:decide (((1:Nat):Int)<2)=true:=rfl
   refine cx @oN ⟨?_⟩
   exact⟨rfl,dR⟩
  |cons d2 l=>
   have cQ:decide ((((d2::l).length+1:Nat):Int)<2)=false:=by simp only[Zb,ZC];omega
   have nv:jQ (.str (c::d2::l)) (some (.int .i64 1)) none=some (.str (d2::l)):=Mq (l:=1) .i64 Zs
   have eG:kW (.str (c::d2::l)) (.int .i64 0)=some (.int .u8 (c:Int)):=Al (i:=0) .i64 rfl
   have fw:lp (.str (c::d2::l))=some (.int .i64 ((c::d2::l).length:Int)):=rL _
   have hm:=aH.all
   have fj:=aH.len
   have vM:c::d2::l≠[98,111,111,108]:=λE=>by have:=aH.ty;rw[E]at this;cases this
   have cG:decide (c::d2::l=[98,111,111,108])=false:=by simp only[Zb];exact vM
   have HG:=aH.ty
   generalize pI:d2::l=m at*
   have fM:decide ((c:Int)=105)=decide (c=105):=by simp;omega
   refine fH fw ?_
   refine dc @cQ @nv ⟨?_⟩
   refine(UA aA b7 (by simp at fj;omega) (λx ag=>anW (hm x (Zn _ ag))) (aa8 (λx ag=>hm x (Zn _ ag))) Zo).Zm ?_
   rintro ad aV bp ⟨⟨bl,E,rfl,aW,ag⟩,ct⟩
   have gZ:=ct.le
   rcases aW with rfl|⟨b,rfl⟩
   ·refine hk @cG @aiH @eG @fM ⟨?_⟩
    refine(aco (k:=bp) (h:=aV) aA.tod7 ⟨false,decide (c=105),bl⟩ Zo).Zm ?_
    rintro ad bo bw ⟨rfl,cE⟩
    have aB:decide (c::m=mH ⟨false,decide (c=105),bl⟩)=false:=by
     simp only[Zb]
     intro a
     cases bi:kj ⟨false,decide (c=105),bl⟩with
     |false=>simp[mH,bi]at a
     |true=>
      have cj:1<=bl/\bl<=64:=by simpa[kj]using bi
      obtain⟨n,rfl⟩:=Yk (by omega:0<=bl)
      simp only[mH,bi,ZB,Zt,Zx]at a
      have M:=(List.cons.inj a).1
      have R:=(List.cons.inj a).2
      have DY:c=105\/c=117:=by
       by_cases ay:c=105
       ·exact .inl ay
       ·simp[ay]at M;exact .inr M
      exact acn HG DY (n:=n) Zo Zo (by simpa using R.symm)
    refine cx @aB ⟨?_⟩
    exact⟨rfl,ct.trans cE⟩
   ·refine dc @cG @aiI ⟨?_⟩
    exact⟨rfl,ct⟩
theorem Ic(aA:iD X)(b7:lL X)(eJ:r9 X)(aH:C9 s)(aS:(y X).bj<=k):
 a6 X 140 [.str s] h k (λad V av=>ad= .bool true/\bB X h k V av) (λ_ _ _=>False):=by
 refine dj (adB X) (aA.none _ _ rfl) ?_
 rw[adC]
 unfold SJ
 have dv:=aH.ne
 have cQ:decide (s=[])=false:=by simp[dv]
 have fj:=aH.len
 have cG:decide ((32:Int)<(s.length:Int))=false:=by simp only[Zb];omega
 obtain⟨c,ay⟩:∃c,s.head?=some c:=by cases s with|nil=>exact absurd rfl dv|cons c l=>exact⟨c,rfl⟩
 have xj:=aH.ag9 c ay
 have eG:kW (.str s) (.int .i64 0)=some (.int .u8 (c:Int)):=Al (i:=0) .i64 (by rw[<-List.head?_eq_getElem?];exact ay)
 have DX:65<=c:=by simp[pT]at xj;omega
 have eL:decide ((48:Int)<=(c:Int))=true:=by simp only[Zh];omega
 have ic:decide ((c:Int)<=57)=false:=by simp only[Zb];omega
 refine gd @cQ @cG @eG @eL @ic ⟨?_⟩
 refine(anR aA.tod7 aH.all aS).Zm ?_
 rintro ad bb aQ ⟨rfl,b8⟩
 have jB:=b8.le
 obtain⟨b,bx,nv,dp⟩:=eJ.at_ bb
 have yE:decide ((0:Int)<= -1)=false:=rfl
 refine dc @nv @yE ⟨?_⟩
 refine(ahJ (k:=aQ) aA.tod7 dp (λa=>aH.res (arq _ a))).Zm ?_
 rintro ad aV bp ⟨rfl,ct⟩
 have gZ:=ct.le
 refine c0 ⟨?_⟩
 refine(as9 (k:=bp) (h:=aV) aA b7 aH Zo).Zm ?_
 rintro ad bo bw ⟨rfl,cE⟩
 refine c0 ⟨?_⟩
 exact⟨rfl,(b8.trans ct).trans cE⟩
end
end
end Go.Proofs.YtpfajohmofnkfaaGreatDoor

namespace Go.Proofs.YtpfajohmofnkfaaGreatDoor
open Go.al Go.bh
noncomputable section
section
variable{X:cD}{h V ft bb aV:U an}{k av aQ bp:Nat}{s:a1}
def Sh:List H:=[.str [], .int .i64 0, .bool false, .bool false, .int .i64 0, .str [], .int .i64 0, .bool false]
theorem akb(n:Nat):DW X h k .append [34,3] [.aU, .int .i64 (n:Int)]=bC (Nat.ble n 1048576) (bC (Nat.beq n 0) (some (.val .aU)) (sA X h k n 8 (jG n Sh))) none:=by kernel_rfl
theorem CQ(n:Nat)(l:List H):(jG n l).length=n*l.length:=by
 induction n with
 |zero=>simp[jG]
 |succ n ah=>simp[jG,ah,Yb];omega
theorem ahv:q9 X h .cap [34] [.aU]=some (.int .i64 0):=by kernel_rfl
theorem ase:x7 X h 8 .aU none (some (.int .i64 0)) none=some .aU:=by rfl
theorem asg{dS n m:Nat}{c:U H}(a:ab X h dS=some (.cells c m (.grow []))):x7 X h 8 (.e5 dS 0 n 8) none (some (.int .i64 0)) none=some (.e5 dS 0 0 8):=by
 have bF:pZ (some (.int .i64 0)) (m/8) n=some 0:=by simp[pZ,apG]
 have cB:∀I b:Nat,pZ none I b=some b:=λI b=>rfl
 have fh:x6 X h dS=some m:=by simp[x6,a]
 have js:Nat.blt 0 8=true:=rfl
 simp only[x7,fh,nd,YH,cB,bF]
 simp[js]
theorem ard{C:aX}{P:Nat->Prop}{b bd:Nat}{bx:H}{b6:List (List H)}(a:ej C h P b bx bd b6)(cj:0<bd):jR C h bd bx=some (b6.length,b6.flatten):=by
 have Hf:=w4 a.wide
 have key:∀ea W n:Nat,n=b6.length->(∀i,i<b6.length->some (H.ptr ea (W+i*bd))=some (.ptr b (i*bd)))->k9 C h ea W (n*bd)=some b6.flatten:=by
  intro ea W n aS aN
  subst aS
  by_cases ci:b6.length=0
  ·have:b6=[]:=Ys ci
   subst this
   simp only[k9]
   cases ay:cellsOf C h ea with
   |none=>simp
   |some c=>simp[V0]
  ·have M:=aN 0 Zo
   simp at M
   obtain⟨rfl,rfl⟩:=M
   obtain⟨r,S⟩:∃r,b6[0]? =some r:=⟨_,Zf Zo⟩
   have Ld:=a.wide r (Zp S)
   obtain⟨v,bu⟩:∃v,r[0]? =some v:=⟨_,Zf Zo⟩
   have rm:=a.cell 0 r 0 v S bu
   simp only[zj,ZS]at rm
   have BO:∃c,cellsOf C h ea=some c:=by
    simp only[ao]at rm
    cases ay:cellsOf C h ea with
    |none=>rw[ay]at rm;cases rm
    |some c=>exact⟨c,rfl⟩
   obtain⟨c,ay⟩:=BO
   simp only[k9,ay]
   rw[<-Hf]
   refine VY _ _ λaa v bK=> ?_
   have rA:=(Zc.1 bK).1
   rw[Hf]at rA
   have cf:aa/bd<b6.length:=Nat.div_lt_of_lt_mul (by rw[zv];exact rA)
   obtain⟨hq,lD⟩:∃r,b6[aa/bd]? =some r:=⟨_,Zf cf⟩
   have avn:=a.wide hq (Zp lD)
   have bi:aa%bd<bd:=zx _ cj
   obtain⟨gO,xD⟩:∃v,hq[aa%bd]? =some v:=⟨_,Zf Zo⟩
   have R:=a.cell (aa/bd) hq (aa%bd) gO lD xD
   have au:=Oc b6 a.wide (aa/bd) hq (aa%bd) gO lD xD
   have aM:aa/bd*bd+aa%bd=aa:=by rw[zv];exact Nat.div_add_mod aa bd
   rw[aM]at R au
   rw[bK]at au
   cases au
   simp only[ao,ay]at R
   rw[ZH]
   exact R
 have aE:=a.len
 cases bx with
 |slice ea W n cap=>
  have aS:n=b6.length:=by rw[o3]at aE;simp at aE;omega
  have aN:∀i,i<b6.length->some (H.ptr ea (W+i*bd))=some (.ptr b (i*bd)):=λi aN=>by
   have:=a.ik i aN
   rw[<-this]
   have E:Nat.blt i n=true:=by simp[Nat.blt];omega
   simp only[fp,p2,A1,E,eB]
  have aP:=key ea W n aS aN
  subst aS
  simp only[jR,aP]
 |e5 ea W n wu=>
  have aS:n=b6.length:=by rw[qC]at aE;simp at aE;omega
  have aN:∀i,i<b6.length->some (H.ptr ea (W+i*bd))=some (.ptr b (i*bd)):=λi aN=>by
   have:=a.ik i aN
   rw[<-this]
   have E:Nat.blt i n=true:=by simp[Nat.blt];omega
   simp only[fp,p2,A1,E,eB]
  have aP:=key ea W n aS aN
  subst aS
  simp only[jR,aP]
 |aU=>
  have aS:(0:Int)=b6.length:=by rw[sX]at aE;simpa using aE
  have:b6=[]:=Ys Zo
  subst this
  rfl
 |_=>simp[eF]at aE
theorem arE{dS n r m:Nat}{c:U H}{x:H}{l:List H}{aj:bY}(ai:ab X h dS=some (.cells c (m*8) (.grow [])))(aI:(y X).bj<=dS)(ag:jR X h 8 x=some (r,l))(aE:l.length=r*8)(S:n+r<=m)(M:Go.al.kl l=true)
 (B:∀V gx,ab X V dS=some (.cells gx (m*8) (.grow []))->(∀i,gx.get i=if n*8<=i/\i<n*8+l.length then l[i-n*8]? else c.get i)->(∀j,j≠dS->ab X V j=ab X h j)->aj (.e5 dS 0 (n+r) 8) V k):
 gn (jY X h k 8 (.e5 dS 0 n 8) x) h k aj:=by
 by_cases ci:r=0
 ·subst ci
  have:l=[]:=Ys Zo
  subst this
  have bF:jY X h k 8 (.e5 dS 0 n 8) x=some (.val (.e5 dS 0 n 8)):=by
   simp only[jY,ag]
   simp[Dn,x6,ai]
   omega
  refine aro bF ?_
  exact B h c ai (λi=>by rw[Zg Zs]) (λ_ _=>rfl)
 ·have cB:Nat.ble ((n+r)*8) (m*8)=true:=ml Zo
  have fh:Nat.ble (n*8+l.length) (m*8)=true:=ml Zo
  have sr:Nat.beq 8 8=true:=rfl
  have js:ke X dS=true:=ml aI
  have oP:jY X h k 8 (.e5 dS 0 n 8) x=some (.eW (.e5 dS 0 (n+r) 8) (Go.al.bm X h dS (some (.cells (d0 c (n*8) l) (m*8) (.grow [])))) k):=by
   simp only[jY,ag]
   rw[gX,Zg ci]
   simp only[wN,F2,ai,js,sr,eB,cB,q7,fh,M,Z7,gK,o2,ZH]
  refine kI oP ?_
  refine B _ _ (bq aI) (λi=> ?_) (λj T=>aK aI T)
  rw[oy]
theorem ar5(aA:d7 X){n:Nat}(ci:0<n)(M:n<=300000)(aS:(y X).bj<=k):
 a6 X 189 [.aU, .int .i64 (n:Int)] h k (λad V av=>ad= .e5 k 0 0 8/\(∃c,ab X V k=some (.cells c (n*8) (.grow [])))/\bB X h k V av/\k<av) (λ_ _ _=>False):=by
 refine dj (aex X) (aA.none _ _ rfl) ?_
 rw[aey]
 unfold Ti
 have cQ:decide ((n:Int)<0)=false:=by simp only[Zb];omega
 have cG:decide ((0:Int)<(n:Int))=true:=by simp only[Zh];omega
 have bF:aL .sub (.int .i64 0) (.int .i64 0)=some (.int .i64 0):=Ai Zo Zo
 have cB:aL .sub (.int .i64 (n:Int)) (.int .i64 0)=some (.int .i64 (n:Int)):=by rw[Ai Zo Zo];simp
 have fh:DW X h k .append [34,3] [.aU, .int .i64 (n:Int)]=some (.eW (.e5 k 0 n 8) (bm X h k (some (.cells (U.ofList (jG n Sh) 0 .nil) (n*8) (.grow [])))) (k+1)):=by
  rw[akb,ml Zo,eB,gX,Zg Zo]
  simp only[sA,ml (show n<=1048576 by omega),eB,lq,li,gK,CQ]
  rfl
 refine iJ @cQ @ahv @bF @cB @cG @ase ⟨?_⟩
 refine kI fh ?_
 generalize f9:bm X h k _=bb
 have b9:ab X bb k=some (.cells (U.ofList (jG n Sh) 0 .nil) (n*8) (.grow [])):=by rw[<-f9,bq aS]
 have b8:bB X h k bb (k+1):=by rw[<-f9];exact dR
 clear f9
 have js:=asg (n:=n) b9
 refine cx @js ⟨?_⟩
 exact⟨rfl,⟨_,b9⟩,b8,Zo⟩
def yz(l:List (List el)):Nat:=(l.map List.length).sum
theorem ahH(aA:d7 X){P:Nat->Prop}{pn dr eu eI:Nat}{dk dK bx:H}{d6 bg Z:List el}(aS:(y X).bj<=k)(G1:pn<k)(aG:ab X h pn=some (.cells (U.ofList [dk,dK,bx] 0 .nil) 3 .own))
 (M:ej X h P dr dk 8 (d6.map eO))(R:ej X h P eu dK 8 (bg.map eO))(au:ej X h P eI bx 8 (Z.map eO))(co:∀j,P j->j<k)(ci:0<d6.length+bg.length+Z.length)(bi:d6.length+bg.length+Z.length<=300000):
 a6 X 142 [.slice pn 0 3 3] h k (λad V av=>∃b,ej X V (ef k av) b ad 8 ((d6++(bg++Z)).map eO)/\bB X h k V av) (λ_ _ _=>False):=by
 refine dj (adF X) (aA.none _ _ rfl) ?_
 rw[adG]
 unfold SL
 have Ca:∀aa,aa<3->∃s b L,[dk,dK,bx][aa]? =some s/\ej X h P b s 8 (L.map eO)/\([d6,bg,Z]:List (List el))[aa]? =some L/\L.length<=300000:=by
  intro aa bK
  match aa,bK with
  |0,_=>exact⟨dk,dr,d6,rfl,M,rfl,Zo⟩
  |1,_=>exact⟨dK,eu,bg,rfl,R,rfl,Zo⟩
  |2,_=>exact⟨bx,eI,Z,rfl,au,rfl,Zo⟩
 have rm:∀V aa s,ab X V pn=some (.cells (U.ofList [dk,dK,bx] 0 .nil) 3 .own)->[dk,dK,bx][aa]? =some s->ao X V (.ptr pn aa)=some s:=λV aa s a aH=>by rw[bW a,kk];exact aH
 obtain⟨kR,vQ⟩:∃kR:Nat->Nat,∀aa,kR aa=yz (([d6,bg,Z]:List (List el)).take aa):=⟨_,λ_=>rfl⟩
 obtain⟨w3,sM⟩:∃w3:Nat->List el,∀aa,w3 aa=(([d6,bg,Z]:List (List el)).take aa).flatten:=⟨_,λ_=>rfl⟩
 have W4:∀aa L,([d6,bg,Z]:List (List el))[aa]? =some L->w3 (aa+1)=w3 aa++L:=by
  intro aa L a
  rw[sM,sM,zb,a];simp
 have G8:∀aa,kR aa=(w3 aa).length:=λaa=>by rw[vQ,sM];unfold yz;rw[List.length_flatten]
 have cV:∀aa L,([d6,bg,Z]:List (List el))[aa]? =some L->kR (aa+1)=kR aa+L.length:=by
  intro aa L a
  rw[G8,G8,W4 aa L a,ZQ]
 have fX:∀aa,kR aa<=d6.length+bg.length+Z.length:=by
  intro aa
  rw[vQ]
  match aa with
  |0=>simp[yz]
  |1=>simp[yz];omega
  |2=>simp[yz]
  |n+3=>simp[yz];omega
 have Wf:kR 3=d6.length+bg.length+Z.length:=by rw[vQ];simp[yz];omega
 have BC:kR 0=0:=by rw[vQ];simp[yz]
 have aiZ:w3 0=[]:=by rw[sM];rfl
 refine c0 ⟨?_⟩
 refine f8 (λm J V aY=>∃(aa:Nat),J.g 0=some (.slice pn 0 3 3)/\J.g 9=some (.slice pn 0 3 3)/\J.g 10=some (.int .i64 3)/\J.g 11=some (.int .i64 (aa:Int))/\J.g 3=some (.int .i64 (kR aa:Nat))/\aa+m=3/\V=h/\aY=k)
  3 ⟨0,bv,bv,gL,gL,by refine yN ⟨?_⟩;rw[BC];rfl,Zo,rfl,rfl⟩ ?_
 rintro m J bb aQ ⟨aa,t0,t9,pc,ta,t3,bK,rfl,rfl⟩
 cases m with
 |succ m=>
  have d:decide ((aa:Int)<3)=true:=by simp only[Zh];omega
  have bF:aL .add (.int .i64 (aa:Int)) (.int .i64 1)=some (.int .i64 ((aa+1:Nat):Int)):=by rw[eQ Zo Zo];rfl
  obtain⟨s,b,L,aH,dp,gz,akW⟩:=Ca aa Zo
  have B0:=fX aa
  have eG:fp 1 (.slice pn 0 3 3) (.int .i64 (aa:Int))=some (.ptr pn aa):=by rw[Lr _ Zo];simp
  have ay:=rm _ aa s aG aH
  have fw:=dp.len
  rw[Zu]at fw
  have cB:aL .add (.int .i64 ((kR aa:Nat):Int)) (.int .i64 (L.length:Int))=some (.int .i64 ((kR (aa+1):Nat):Int)):=by
   rw[cV aa L gz,eQ Zo Zo];simp
  have cG:decide (((kR (aa+1):Nat):Int)<0)=false:=by simp only[Zb];omega
  refine e0 @ta @pc @t9 @t3 @d @eG (Za @ay (Za @fw (Za @cB (Za @cG @bF)))) ⟨?_⟩
  exact⟨m,Zo,aa+1,bn t0,bn t9,bn pc,bv,bv,Zo,rfl,rfl⟩
 |zero=>
  have d:decide ((aa:Int)<3)=false:=by simp only[Zb];omega
  have KT:aa=3:=Zo
  subst KT
  rw[Wf]at t3
  refine hk @ta @pc @t3 @d ⟨?_⟩
  refine(ar5 aA ci bi aS).Zm ?_
  rintro ad aV bp ⟨rfl,⟨d2,b3⟩,ct,ns⟩
  generalize nn:d6.length+bg.length+Z.length=ca at*
  refine cx @t0 ⟨?_⟩
  refine f8 (λm J V aY=>∃(aa:Nat) (c:U H),J.g 25=some (.slice pn 0 3 3)/\J.g 26=some (.int .i64 3)/\J.g 27=some (.int .i64 (aa:Int))/\J.g 6=some (.e5 aQ 0 (kR aa) 8)/\aa+m=3/\aQ<aY/\bB X bb aQ V aY
   /\ab X V aQ=some (.cells c (ca*8) (.grow []))/\∀(i:Nat) v,((w3 aa).map eO).flatten[i]? =some v->c.get i=some v)
   3 ⟨0,d2,bv,gL,gL,by refine yN ⟨?_⟩;rw[BC],Zo,ns,ct,b3,λi v a=>by rw[aiZ]at a;simp at a⟩ ?_
  clear t0 t9 pc ta t3
  rintro m J bo bw ⟨aa,gQ,qQ,tb,RS,gN,bK,y4,cE,g3,vP⟩
  have Hf:∀L:List el,((L.map eO).flatten).length=L.length*8:=λL=>by
   have:=w4 (b6:=L.map eO) (bd:=8) (by intro r S;obtain⟨d,_,rfl⟩:=ZD.1 S;rfl)
   rw[this,Zu]
  cases m with
  |zero=>
   have d:decide ((aa:Int)<3)=false:=by simp only[Zb];omega
   have KT:aa=3:=Zo
   subst KT
   rw[Wf]at gN
   refine hk @RS @tb @gN @d ⟨?_⟩
   have hm:w3 3=d6++(bg++Z):=by rw[sM];simp
   rw[hm]at vP
   have fj:(d6++(bg++Z)).length=ca:=by simp;omega
   refine⟨aQ,⟨λ_=>⟨Zo,Zo⟩,by rw[Zu,fj];omega,by intro r S;obtain⟨d,_,rfl⟩:=ZD.1 S;rfl,by rw[qC,Zu,fj],λi aN=>by rw[Ls _ (by rw[Zu,fj]at aN;omega),ZH],λi r ω v aN D7=> ?_⟩,cE⟩
   rw[bW g3]
   exact vP _ _ (Oc _ (by intro r S;obtain⟨d,_,rfl⟩:=ZD.1 S;rfl) i r ω v aN D7)
  |succ m=>
   have d:decide ((aa:Int)<3)=true:=by simp only[Zh];omega
   have bF:aL .add (.int .i64 (aa:Int)) (.int .i64 1)=some (.int .i64 ((aa+1:Nat):Int)):=by rw[eQ Zo Zo];rfl
   obtain⟨s,b,L,aH,dp,gz,akW⟩:=Ca aa Zo
   have eG:fp 1 (.slice pn 0 3 3) (.int .i64 (aa:Int))=some (.ptr pn aa):=by rw[Lr _ Zo];simp
   have ak7:ab X bo pn=some (.cells (U.ofList [dk,dK,bx] 0 .nil) 3 .own):=by rw[cE.af _ G1];exact aG
   have ay:=rm _ aa s ak7 aH
   have iX:=ard (dp.af (V:=bo) (λj T=>cE.af j (co j T))) Zd
   rw[Zu]at iX
   have M:=cV aa L gz
   have R:=fX (aa+1)
   refine e0 @RS @tb @qQ @gN @d @eG @ay ⟨?_⟩
   refine arE g3 Zo iX (Hf L) Zo ?_ ?_
   ·clear iX
    have:∀ca:List el,Go.al.kl (ca.map eO).flatten=true:=by
     intro ca
     induction ca with
     |nil=>rfl
     |cons d ca ah=>simpa[eO,Go.al.kl,o8]using ah
    exact this L
   ·intro bX yx ec tT f6
    refine dc @RS @bF ⟨?_⟩
    refine⟨m,Zo,aa+1,yx,bn qQ,bn tb,bv,by refine yN ⟨?_⟩;rw[M],Zo,y4,⟨cE.le,λj T=>by rw[f6 j Zo];exact cE.af j T⟩,ec,λi v aN=> ?_⟩
    rw[W4 aa L gz]at aN
    simp only[zm,Yv]at aN
    have rC:(((w3 aa).map eO).flatten).length=kR aa*8:=by
     rw[Hf,G8]
    rw[tT]
    by_cases cR:i<kR aa*8
    ·rw[Zg Zo]
     rw[Z5 Zo]at aN
     exact vP i v aN
    ·rw[ZU Zo,rC]at aN
     have:=(Zc.1 aN).1
     rw[Zr ⟨Zo,Zo⟩]
     exact aN
end
end
end Go.Proofs.YtpfajohmofnkfaaGreatDoor

namespace Go.Proofs.YtpfajohmofnkfaaGreatDoor
open Go.al Go.bh
noncomputable section
section
variable{X:cD}{h V ft bb aV:U an}{k av aQ bp:Nat}{s:a1}
theorem arQ{t:iu}(a:kj t=true):mH t≠[]:=by
 unfold mH
 rw[Zr a]
 split<;>simp
theorem ahR(aA:iD X)(b7:lL X)(eJ:r9 X){P:Nat->Prop}{b:Nat}{bx:H}{ds:List el}(aS:(y X).bj<=k)(dp:ej X h P b bx 8 (ds.map eO))(co:∀j,P j->j<k)(bL:∀d∈ds,qZ q4 d):
 a6 X 141 [bx] h k (λad V av=>ad= .bool true/\bB X h k V av) (λ_ _ _=>False):=by
 refine dj (adD X) (aA.none _ _ rfl) ?_
 rw[adE]
 unfold SK
 have fw:=dp.len
 have lm:=dp.many
 rw[Zu]at fw lm
 refine cx @fw ⟨?_⟩
 refine f8 (λm J V aY=>∃(aa:Nat),J.g 5=some bx/\J.g 6=some (.int .i64 (ds.length:Int))/\J.g 7=some (.int .i64 (aa:Int))/\aa+m=ds.length/\bB X h k V aY)
  ds.length ⟨0,bv,bv,gL,Zo,bB.refl _ _⟩ ?_
 rintro m J bb aQ ⟨aa,t5,gN,hY,bK,b8⟩
 have jB:=b8.le
 cases m with
 |zero=>
  have d:decide ((aa:Int)<(ds.length:Int))=false:=by simp only[Zb];omega
  refine e8 @hY @gN @d ⟨?_⟩
  exact⟨rfl,b8⟩
 |succ m=>
  have ah0:decide ((aa:Int)<(ds.length:Int))=true:=by simp only[Zh];omega
  have bF:aL .add (.int .i64 (aa:Int)) (.int .i64 1)=some (.int .i64 ((aa+1:Nat):Int)):=by rw[eQ Zo Zo];rfl
  obtain⟨d,aI⟩:∃d,ds[aa]? =some d:=⟨_,Zf Zo⟩
  have BR:=bL d (Zp aI)
  have eG:=dp.ik aa (by rw[Zu];omega)
  have fN:=(dp.af (λj T=>b8.af j (co j T))).row (i:=aa) (r:=eO d) Zd (by rw[Zv,aI];rfl)
  have je:eO d=[.str d.name, .int .i64 d.at_, .bool d.ty.b, .bool d.ty.s, .int .i64 d.ty.w, .str d.on, .int .i64 d.fP, .bool d.no]:=rfl
  rw[je]at fN
  refine iJ @hY @gN @t5 @ah0 @eG @fN ⟨?_⟩
  generalize dI:bm X _ aQ _=aV
  have b3:ab X aV aQ=some (.cells (U.ofList [.str d.name, .int .i64 d.at_, .bool d.ty.b, .bool d.ty.s, .int .i64 d.ty.w, .str d.on, .int .i64 d.fP, .bool d.no] 0 .nil) 8 .own):=by rw[<-dI,bq Zo];rfl
  have ct:bB X h k aV (aQ+1):=⟨Zo,λj T=>by rw[<-dI];simp(disch:=omega) only[aK];exact b8.af j T⟩
  clear dI
  refine cx (bW b3) ⟨?_⟩
  refine(Ic (k:=aQ+1) (h:=aV) aA b7 eJ BR.name Zo).Zm ?_
  rintro ad bo bw ⟨rfl,cE⟩
  have jf:=cE.le
  rw[<-cE.af _ Zo]at b3
  have Eo:lx d.ty=[.bool d.ty.b, .bool d.ty.s, .int .i64 d.ty.w]:=rfl
  have xr:cL X bo 3 (.ptr aQ 2)=some (.agg (lx d.ty)):=by
   rw[qA,bW b3,bW b3,bW b3];rfl
  refine cx @xr ⟨?_⟩
  refine(aco (k:=bw) (h:=bo) aA.tod7 d.ty Zo).Zm ?_
  rintro ad bX dd ⟨rfl,dN⟩
  have jC:=dN.le
  rw[<-dN.af _ Zo]at b3
  have cQ:decide (mH d.ty=[])=false:=by simp[arQ BR.type]
  have Wl:bB X h k bX dd:=(ct.trans cE).trans dN
  by_cases oY:d.on=[]
  ·have cG:decide (d.on≠[])=false:=by simp[oY]
   have eL:decide (d.on=[])=true:=by simp[oY]
   have pL:ao X bX (.ptr aQ 7)=some (.bool false):=by rw[bW b3, <-BR.no oY];rfl
   have PG:ao X bX (.ptr aQ 5)=some (.str d.on):=by rw[bW b3];rfl
   refine e0 @cQ @PG @cG @eL @pL @hY @bF ⟨?_⟩
   exact⟨m,Zo,aa+1,bn t5,bn gN,bv,Zo,Wl⟩
  ·have cG:decide (d.on≠[])=true:=by simp[oY]
   have eL:decide (d.on=[])=false:=by simp[oY]
   have PG:ao X bX (.ptr aQ 5)=some (.str d.on):=by rw[bW b3];rfl
   refine e8 @cQ @PG @cG ⟨?_⟩
   refine(Ic (k:=dd) (h:=bX) aA b7 eJ (BR.on oY) Zo).Zm ?_
   rintro ad b4 cA ⟨rfl,dX⟩
   have iW:=dX.le
   rw[<-dX.af _ Zo]at b3
   have amx:ao X b4 (.ptr aQ 5)=some (.str d.on):=by rw[bW b3];rfl
   refine hk @amx @eL @hY @bF ⟨?_⟩
   exact⟨m,Zo,aa+1,bn t5,bn gN,bv,Zo,Wl.trans dX⟩
theorem apW(aA:iD X)(b7:lL X)(eJ:r9 X){w:a1}(bL:C9 w)(aS:(y X).bj<=k):
 a6 X 143 [.str w] h k (λad V av=>ad= .bool false/\bB X h k V av) (λ_ _ _=>False):=by
 refine dj (adH X) (aA.none _ _ rfl) ?_
 rw[adI]
 unfold SM
 refine(Ic (k:=k) (h:=h) aA b7 eJ bL aS).Zm ?_
 rintro ad aV bp ⟨rfl,ct⟩
 refine c0 ⟨?_⟩
 exact⟨rfl,ct⟩
theorem aoP(aA:iD X)(b7:lL X)(eJ:r9 X){P:Nat->Prop}{b:Nat}{bx:H}{mg:List a1}(aS:(y X).bj<=k)(S:ej X h P b bx 1 (hX mg))(co:∀j,P j->j<k)(bL:∀w∈mg,C9 w):
 a6 X 145 [bx, .func (.func 143) [] []] h k (λad V av=>ad= .bool false/\bB X h k V av) (λ_ _ _=>False):=by
 refine dj (adL X) (aA.none _ _ rfl) ?_
 rw[adM]
 unfold SO
 refine a6.mono (aj:=λad V av=>ad= .int .i64 (-1)/\bB X h k V av) (aw:=λ_ _ _=>False) ?_ ?_ (λ_ _ _ a=>a.elim)
 ·refine dj (aeF X) (aA.none _ _ rfl) ?_
  rw[aeG]
  unfold Tm
  have fw:=S.len
  have lm:=S.many
  rw[show(hX mg).length=mg.length from by simp[hX]]at fw lm
  refine cx @fw ⟨?_⟩
  refine f8 (λm J V aY=>∃(aa:Nat),J.g 0=some bx/\J.g 1=some (.func (.func 143) [] [])/\J.g 7=some (.int .i64 (mg.length:Int))/\J.g 8=some (.int .i64 (aa:Int))/\aa+m=mg.length/\bB X h k V aY)
   mg.length ⟨0,bv,bv,bv,gL,Zo,bB.refl _ _⟩ ?_
  rintro m J bb aQ ⟨aa,t0,t1,hY,iA,bK,b8⟩
  have jB:=b8.le
  cases m with
  |zero=>
   have d:decide ((aa:Int)<(mg.length:Int))=false:=by simp only[Zb];omega
   refine e8 @iA @hY @d ⟨?_⟩
   exact⟨rfl,b8⟩
  |succ m=>
   have d:decide ((aa:Int)<(mg.length:Int))=true:=by simp only[Zh];omega
   have bF:aL .add (.int .i64 (aa:Int)) (.int .i64 1)=some (.int .i64 ((aa+1:Nat):Int)):=by rw[eQ Zo Zo];rfl
   obtain⟨w,nw⟩:∃w,mg[aa]? =some w:=⟨_,Zf Zo⟩
   have eG:=S.ik aa (by simp[hX];omega)
   have j4:=(S.af (λj T=>b8.af j (co j T))).cell aa [.str w] 0 (.str w) (by unfold hX;rw[Zv,nw];rfl) rfl
   rw[Yd]at eG
   rw[Yd,ZS]at j4
   refine e0 @iA @hY @t1 @t0 @d @eG @j4 ⟨?_⟩
   refine(apW (k:=aQ) (h:=bb) aA b7 eJ (bL w (Zp nw)) Zo).Zm ?_
   rintro ad aV bp ⟨rfl,ct⟩
   refine dc @iA @bF ⟨?_⟩
   exact⟨m,Zo,aa+1,bn t0,bn t1,bn hY,bv,Zo,b8.trans ct⟩
 ·rintro ad bb aQ ⟨rfl,b7⟩
  refine c0 ⟨?_⟩
  exact⟨rfl,b7⟩
end
end
end Go.Proofs.YtpfajohmofnkfaaGreatDoor

namespace Go.Proofs.YtpfajohmofnkfaaGreatDoor
open Go.al Go.bh
noncomputable section
theorem aqc:∀w<65,AG ((w:Nat):Int)=((2^w-1:Nat):Int):=by decide+kernel
theorem agI{n w:Nat}(bL:w<=64)(aS:n<18446744073709551616)(a:F1 (n:Int) (AG (w:Int))=0):n<2^w:=by
 rw[aqc w Zo]at a
 unfold F1 at a
 have cR:=(BitVec.ofInt 64 (n:Int)&&& ~~~ BitVec.ofInt 64 ((2^w-1:Nat):Int)).isLt
 rw[acK Zo Zo]at a
 have ci:BitVec.ofInt 64 (n:Int)&&& ~~~ BitVec.ofInt 64 ((2^w-1:Nat):Int)=0#64:=BitVec.eq_of_toNat_eq (by rw[BitVec.toNat_ofNat];omega)
 rw[BitVec.ofInt_natCast,BitVec.ofInt_natCast]at ci
 apply Nat.lt_pow_two_of_testBit
 intro i aN
 by_cases BE:i<64
 ·have ai:=congrArg (λv=>v.getLsbD i) ci
  simp only[BitVec.getLsbD_and,BitVec.getLsbD_not,BitVec.getLsbD_ofNat,BE,Yn,zn,Nat.testBit_two_pow_sub_one,BitVec.getLsbD_zero]at ai
  have:decide (i<w)=false:=by simp;omega
  rw[this]at ai
  simpa using ai
 ·exact Nat.testBit_lt_two_pow (ZI aS (by
   have:(18446744073709551616:Nat)=2^64:=by decide
   rw[this]
   exact Nat.pow_le_pow_right Zd Zo))
theorem ao3{t:iu}{n:Int}(a:M0 t n):n<2^(if t.s then t.w-1 else t.w).toNat:=by
 obtain⟨M,R,au,aM⟩:=a
 obtain⟨m,rfl⟩:=Yk au
 have bL:=LK M
 have key:∀w:Nat,w<=64->F1 (m:Int) (AG (w:Int))=0->(m:Int)<2^w:=λw bL a=>by
  have:=agI bL Zo a
  have R:((2^w:Nat):Int)=(2:Int)^w:=by simp
  rw[<-R];omega
 unfold uc at R
 cases aH:t.s with
 |true=>
  rw[Zr aH]at R
  rw[Zr rfl]
  by_cases ci:t.w-1=0
  ·rw[Zr ci]at R
   have:(m:Int)=0:=by simpa using R
   rw[ci,this];decide
  ·rw[Zg ci]at R
   obtain⟨w,xF⟩:=Yk (by omega:0<=t.w-1)
   rw[xF]at R ⊢
   simp only[Cg,Zk,Zh]at R
   exact key w Zo R.2
 |false=>
  rw[Zg (by simp[aH])]at R
  rw[Zg Zs]
  obtain⟨w,xF⟩:=Yk (by omega:0<=t.w)
  simp only[Cg,Zk,Zh]at R
  rw[xF]at R ⊢
  exact key w Zo R.2
section
variable{X:cD}{h V ft bb aV:U an}{k av aQ bp:Nat}{s:a1}
theorem abZ{n b:Int}(ci:0<=n)(ai:0<=b)(oT:b<=64)(a:n<2^b.toNat):aL .shr (.int .u64 n) (.int .i64 b)=some (.int .u64 0):=by
 have bF:xH b 0=false:=by rw[sU];simp;omega
 have cB:min b.toNat IntKind.u64.bits=b.toNat:=by
  have:IntKind.u64.bits=64:=rfl
  rw[this];omega
 have fh:n.fdiv (2^b.toNat)=0:=by
  rw[Int.fdiv_eq_ediv_of_nonneg _ (by exact Int.le_of_lt (Int.lt_of_le_of_lt ci a))]
  exact Int.ediv_eq_zero_of_lt ci a
 simp only[aL,ln,eB,FZ,bF,iF,cB,fh]
 rfl
theorem ao4(aA:iD X){P:Nat->Prop}{E:bM}{v:H}(aS:(y X).bj<=k)(aW:cP X h P E v)(co:∀j,P j->j<k)(aP:E.kind=1)(aE:M0 E.ty E.n):
 a6 X 216 [v] h k (λad V av=>ad= .bool true/\bB X h k V av) (λ_ _ _=>False):=by
 refine dj (afd X) (aA.none _ _ rfl) ?_
 rw[afe]
 unfold TC
 obtain⟨b,bx,cN,br,rfl,ai,a0,be,b2,a3,a4,a5,hT,iv,kc,dp,has⟩:=id aW.open
 have fv:=co b ai
 have Ky:=ao3 aE
 have bL:=LK aE.1
 have mn:decide (E.kind=1)=true:=by simp[aP]
 have Eo:lx E.ty=[.bool E.ty.b, .bool E.ty.s, .int .i64 E.ty.w]:=rfl
 have xr:cL X h 3 (.ptr b 4)=some (.agg (lx E.ty)):=by rw[qA,a4,a5,hT];rfl
 cases aH:E.ty.s with
 |true=>
  rw[aH]at a5
  rw[Zr aH]at Ky
  have bF:aL .sub (.int .i64 E.ty.w) (.int .i64 1)=some (.int .i64 (E.ty.w-1)):=Ai Zo Zo
  have Gh:decide (E.ty.w-1=64)=false:=by simp only[Zb];omega
  have hO:=abZ aE.2.2.1 Zo Zo Ky
  refine iJ @a5 @hT @bF @a0 @mn @xr ⟨?_⟩
  refine(Cq (k:=k) (h:=h) aA.tod7 E.ty aS).Zm ?_
  rintro ad bb aQ ⟨rfl,b8⟩
  have Nd:ao X bb (.ptr b 7)=some (.int .u64 E.n):=by rw[b8.fy _ _ fv];exact iv
  have bi:kj E.ty=true:=aE.1
  rw[bi]
  refine e8 @Gh @Nd @hO ⟨?_⟩
  exact⟨rfl,b8⟩
 |false=>
  rw[aH]at a5
  rw[Zg (by simp[aH])]at Ky
  refine gd @a5 @hT @a0 @mn @xr ⟨?_⟩
  refine(Cq (k:=k) (h:=h) aA.tod7 E.ty aS).Zm ?_
  rintro ad bb aQ ⟨rfl,b8⟩
  have Nd:ao X bb (.ptr b 7)=some (.int .u64 E.n):=by rw[b8.fy _ _ fv];exact iv
  have bi:kj E.ty=true:=aE.1
  rw[bi]
  by_cases BE:E.ty.w=64
  ·have Gh:decide (E.ty.w=64)=true:=by simp[BE]
   refine cx @Gh ⟨?_⟩
   exact⟨rfl,b8⟩
  ·have Gh:decide (E.ty.w=64)=false:=by simp[BE]
   have hO:=abZ aE.2.2.1 Zo Zo Ky
   refine e8 @Gh @Nd @hO ⟨?_⟩
   exact⟨rfl,b8⟩
theorem apM(b:Nat):dn X h .eql 47 false .cI (.ptr b 0)=some (.bool false):=by kernel_rfl
theorem agR(aA:iD X){P:Nat->Prop}{b:Nat}{bx:H}{a2:List bM}{br:List H}(S:ej X h P b bx 1 (br.map λv=>[v]))(D3:dq X h P a2 br):
 a6 X 215 [bx, .cI] h k (λad V av=>ad= .bool false/\V=h/\k<=av) (λ_ _ _=>False):=by
 refine dj (afb X) (aA.none _ _ rfl) ?_
 rw[afc]
 unfold TB
 refine a6.mono (aj:=λad V av=>ad= .int .i64 (-1)/\V=h/\k<=av) (aw:=λ_ _ _=>False) ?_ ?_ (λ_ _ _ a=>a.elim)
 ·refine dj (aft X) (aA.none _ _ rfl) ?_
  rw[afu]
  unfold TK
  have fw:=S.len
  have lm:=S.many
  rw[Zu]at fw lm
  refine cx @fw ⟨?_⟩
  refine f8 (λm J V aY=>∃(aa:Nat),J.g 0=some bx/\J.g 1=some .cI/\J.g 7=some (.int .i64 (br.length:Int))/\J.g 8=some (.int .i64 (aa:Int))/\aa+m=br.length/\V=h/\k<=aY)
   br.length ⟨0,bv,bv,bv,gL,Zo,rfl,Zo⟩ ?_
  rintro m J aV bp ⟨aa,t0,t1,hY,iA,bK,rfl,ns⟩
  cases m with
  |zero=>
   have d:decide ((aa:Int)<(br.length:Int))=false:=by simp only[Zb];omega
   refine e8 @iA @hY @d ⟨?_⟩
   exact⟨rfl,rfl,ns⟩
  |succ m=>
   have d:decide ((aa:Int)<(br.length:Int))=true:=by simp only[Zh];omega
   have bF:aL .add (.int .i64 (aa:Int)) (.int .i64 1)=some (.int .i64 ((aa+1:Nat):Int)):=by rw[eQ Zo Zo];rfl
   obtain⟨v,bu⟩:∃v,br[aa]? =some v:=⟨_,Zf Zo⟩
   have He:=D3.len
   obtain⟨E,aW⟩:∃E,a2[aa]? =some E:=⟨_,Zf Zo⟩
   obtain⟨gO,xD,sL⟩:=D3.get aa E aW
   rw[bu]at xD
   cases xD
   obtain⟨ag7,rfl,_,_⟩:=sL.ptr
   obtain⟨b9,b3,g3⟩:=S.one bu
   refine e0 @iA @hY @t1 @t0 @d @b9 (Za @b3 (Za @apM @bF)) ⟨?_⟩
   exact⟨m,Zo,aa+1,bn t0,bn t1,bn hY,bv,Zo,rfl,ns⟩
 ·rintro ad bb aQ ⟨rfl,rfl,b7⟩
  refine c0 ⟨?_⟩
  exact⟨rfl,rfl,b7⟩
end
end
end Go.Proofs.YtpfajohmofnkfaaGreatDoor

