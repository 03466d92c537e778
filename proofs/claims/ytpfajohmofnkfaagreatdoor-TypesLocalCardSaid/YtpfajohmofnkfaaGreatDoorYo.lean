/- A part of the last text's proof; no condition of its own -/
import Derived.Test.YtpfajohmofnkfaaGreatDoorYn
set_option maxHeartbeats 8000000
set_option linter.all false
namespace Go.Proofs.YtpfajohmofnkfaaGreatDoor
open Go.bi Go.aU
noncomputable section
section
variable{X:ck}{h T gb a2 aS:V an}{j au aO bg:Nat}
structure xE(X:ck)(hj:V an)(d2 b0 dc:Nat)(p:F)(B:Int)(cW:F)(f:Int×Int)(af:bk->Option Int)(h:V an)(n:Nat):Prop where
 le:d2<=n
 jE:f3 X h b0 p B cW (.map dc) f
 js:ot X h dc (nL af)
 low:∀e,e<d2->e≠b0->e≠dc->ab X h e=ab X hj e
def xE.ad{hj:V an}{d2 b0 dc:Nat}{p cW:F}{B:Int}{f:Int×Int}{af:bk->Option Int}(a:xE X hj d2 b0 dc p B cW f af a2 aO)(ko:b0<d2)(IG:dc<d2)(aL:aO<=bg)(aN:∀e,e<aO->ab X aS e=ab X a2 e):xE X hj d2 b0 dc p B cW f af aS bg:=by
 have gl:=a.le
 refine⟨Zo, ?_,a.js.ad (aN _ Zo),λe Q U ar=>by rw[aN e Zo];exact a.low e Q U ar⟩
 have:=a.jE
 unfold f3 at*
 rw[aN _ Zo];exact this
def B9(am:e9)(i:Nat):Int:=(am.dg[i]?).getD 0
def atp{am:e9}{i:Nat}{w:bk}(a:am.left[i]? =some w):(rb am)[i]? =some (w,B9 am i):=by
 unfold rb
 rw[Zx,TY a];rfl
def atq(am:e9):(rb am).length=am.left.length:=by simp[rb]
def ak8(aA:dz X){P:Nat->Prop}{b0 dc:Nat}{p cW:F}{B:Nat}{aq:List Go.aU.Node}{g:Go.aU.Node}(aL:(o X).a8<=j)(ko:(o X).a8<=b0)(wJ:(o X).a8<=dc)(yp:b0<j)(wK:dc<j)(AS:b0≠dc)
 (bC:∀e,P e->e<j/\e≠b0/\e≠dc)(b5:nE X h P aq p)(aN:aq[B]? =some g)(bc:rJ X h P cW (gX g))(aB:f3 X h b0 p B cW (.map dc) (0,0))(gB:ot X h dc (nL λ_=>none)):
 aW X 71 [.ptr b0 0] h j (λae T au=>ae= .tuple []/\f3 X T b0 p B cW (.map dc) (rk aq B g)/\j<=au/\∀e,e<j->e≠b0->e≠dc->ab X T e=ab X h e) (λ_ _ _=>False):=by
 refine Hn (ajn X) (aA.none _ _ rfl) ?_
 rw[ajo]
 unfold VS
 obtain⟨iP,Gv,NA,aBn,rfl,nd,adR,abS,abR⟩:=id b5
 have IM:=abR.wide
 have azV:=(Zb.1 aN).1
 obtain⟨row,ft,jK⟩:=abR.get B g aN
 have CW:=jK
 have jL:=jK.iz
 obtain⟨cY,dj,a6,ev,c0,dL,ef,hQ,aR,rfl,nl,lC,oK,iu,e3⟩:=jK
 have aqO:=bC iP nd
 have d7:ao X h (.ptr b0 0)=some (.ptr iP 0):=by unfold f3 at aB;rw[bR aB];rfl
 have dt:ao X h (.ptr b0 1)=some (.Z (B:Int)):=by unfold f3 at aB;rw[bR aB];rfl
 have dZ:=abS.f2 B (by rw[IM.1];omega)
 refine x9 ⟨?_⟩
 generalize et:bn X h j _=a2
 have iY:ab X a2 j=zx [.ptr b0 0] 1:=by rw[<-et,bm aL];rfl
 have bU:bq X h j a2 (j+1):=by rw[<-et];exact dU
 clear et
 have u0:∀e,P e->ab X a2 e=ab X h e:=λe H=>bU.ad e (bC e H).1
 rw[<-bU.fT _ _ yp]at d7 dt
 rw[<-bU.fT _ _ aqO.1]at adR
 have ic:=(abS.ad u0).row Zd ft
 refine he (bR iY) @d7 (Za @dt (Za @adR (Za @dZ @ic))) ⟨?_⟩
 refine fF (h6 (B:=6) (b:=j+1+13) (Y:=0) (n:=6) (c:=V.ofList [.str [], .Z 0, .aP, .aP, .aP, .aP] 0 .nil) (bm Zo) Zo rfl Zd Zd jL) ?_
 generalize dI:bn X _ (j+1+13) _=aS
 have b7:ab X aS (j+1+13)=zx [.str g.name, .Z g.at_,cY,dj,a6,ev] 6:=by rw[<-dI,bm Zo];rfl
 have bK:bq X a2 (j+1) aS (j+1+14):=by rw[<-dI];exact dU
 clear dI
 rw[<-bK.ad _ Zo]at iY
 have jX:bq X h j aS (j+1+14):=⟨Zo,λe H=>by rw[bK.ad e Zo,bU.ad e H]⟩
 have n1:∀e,P e->ab X aS e=ab X h e:=λe H=>jX.ad e (bC e H).1
 rw[<-bK.fT _ _ Zo]at d7 dt
 refine he (bR iY) @d7 (bR b7) ⟨?_⟩
 refine(PQ (j:=j+1+15+12) (h:=aS) aA Zo (b5.ad (bu:=P) n1 (λ_ a=>a)) (λe H=>zt (bC e H).1) g.name).Zm ?_
 rintro ae bb bs ⟨rfl,cq⟩
 have iL:=cq.le
 rw[<-cq.ad _ Zo]at iY b7
 rw[<-cq.fT _ _ Zo]at d7 dt
 have rY:bq X h j bb bs:=⟨Zo,λe H=>by rw[cq.ad e Zo,jX.ad e H]⟩
 have lb:∀e,P e->ab X bb e=ab X h e:=λe H=>rY.ad e (bC e H).1
 have yi:xE X bb bs b0 dc (.ptr iP 0) B cW (0,0) (λ_=>none) bb bs:=⟨Zi _,by unfold f3 at*;rw[rY.ad _ yp];exact aB,gB.ad (rY.ad _ wK),λ_ _ _ _=>rfl⟩
 generalize IY:(nb aq g.name).getD 0=N3
 have gU:rj aq B g=if N3<B then mg (0,0) 24 g.at_ else(0,0):=by unfold rj;rw[IY]
 refine he (bR iY) @d7 @dt ⟨?_⟩
 refine j3 (λcZ T aV=>cZ.g 1=some (.ptr j 0)/\cZ.g 2=some (.ptr (j+1+13) 0)/\cZ.bd=[]/\xE X bb bs b0 dc (.ptr iP 0) B cW (rj aq B g) (λ_=>none) T aV) (λaa bG=> ?_) ?_
 ·by_cases c1:N3<B
  ·have aG:=zv N3 B
   rw[Zq c1]at gU
   refine er @aG (bR iY) (bR b7) ⟨?_⟩
   refine(wh (h:=bb) aA ko yi.jE 24 g.at_).Zm ?_
   rintro ae bF c7 ⟨rfl,uv,jl,gd⟩
   refine cL ⟨?_⟩
   exact bG _ _ _ ⟨bw,bw,rfl,Zo,by rw[gU];exact uv,yi.js.ad (gd _ (λJ=>AS J.symm)),λe Q U ar=>gd e U⟩
  ·have aG:=zu N3 B
   rw[Zg c1]at gU
   refine ci @aG ⟨?_⟩
   exact bG _ _ _ ⟨bw,bw,rfl,by rw[gU];exact yi⟩
 rintro M bF c7 ⟨t1,ez,kj,qe⟩
 have jl:=qe.le
 have am4:ab X bF j=zx [.ptr b0 0] 1:=by rw[qe.low _ Zo Zo Zo];exact iY
 have ana:ab X bF (j+1+13)=zx [.str g.name, .Z g.at_,cY,dj,a6,ev] 6:=by rw[qe.low _ Zo Zo Zo];exact b7
 have ld:∀e,P e->ab X bF e=ab X h e:=λe H=>by have:=bC e H;rw[qe.low e Zo this.2.1 this.2.2,lb e H]
 show al _ _
 refine he @t1 @ez (Za (bR am4) (bR ana)) ⟨?_⟩
 refine(alz (j:=c7) (h:=bF) aA Zo ko Zo (λe H=>⟨zt (bC e H).1,(bC e H).2.1⟩) (bc.ad (bu:=P) ld (λ_ a=>a)) qe.jE (CW.ad (bu:=P) ld (λ_ a=>a)) trivial).Zm ?_
 rintro ae bX b2 ⟨rfl,CF,h5,mm⟩
 have h3:xE X bb bs b0 dc (.ptr iP 0) B cW (sZ (gX g) g (rj aq B g)) (λ_=>none) bX b2:=⟨Zo,CF,qe.js.ad (mm _ Zo (λJ=>AS J.symm)),λe Q U ar=>by rw[mm e Zo U];exact qe.low e Q U ar⟩
 have anb:ab X bX (j+1+13)=zx [.str g.name, .Z g.at_,cY,dj,a6,ev] 6:=by rw[h3.low _ Zo Zo Zo];exact b7
 have lW:=e3.wide
 have eD:=iu.len
 have i6:=iu.many
 rw[lW.1]at eD i6
 have Rq:rk aq B g=(g6 g).foldl (rs (g.eqs.foldl (mA (gX g) aq B) (λ_=>none,sZ (gX g) g (rj aq B g))).1) (g.eqs.foldl (mA (gX g) aq B) (λ_=>none,sZ (gX g) g (rj aq B g))).2:=rfl
 generalize ME:((λ_=>none,sZ (gX g) g (rj aq B g)):(bk->Option Int)×(Int×Int))=o7 at Rq
 have aoq:xE X bb bs b0 dc (.ptr iP 0) B cW o7.2 o7.1 bX b2:=by rw[<-ME];exact h3
 have hS:∀w,0<=(o7.1 w).getD 0/\(o7.1 w).getD 0<=((0:Nat):Int)*1048576:=by intro w;rw[<-ME];simp
 refine he @ez (bR anb) @eD ⟨?_⟩
 refine gV ?_
 refine fU (λm M T aV=>∃(aa:Nat),M.g 1=some (.ptr j 0)/\M.g 2=some (.ptr (j+1+13) 0)/\M.bd=[]/\M.g 49=some ev/\M.g 50=some (.Z (g.eqs.length:Int))/\M.g 51=some (.Z (aa:Int))/\aa+m=g.eqs.length
  /\xE X bb bs b0 dc (.ptr iP 0) B cW ((g.eqs.take aa).foldl (mA (gX g) aq B) o7).2 ((g.eqs.take aa).foldl (mA (gX g) aq B) o7).1 T aV/\(∀w,0<=(((g.eqs.take aa).foldl (mA (gX g) aq B) o7).1 w).getD 0/\(((g.eqs.take aa).foldl (mA (gX g) aq B) o7).1 w).getD 0<=(aa:Int)*1048576))
  g.eqs.length ⟨0,bf t1,bf ez,kj,bw,bw,gc,Zo,aoq,hS⟩ ?_
 clear t1 ez kj
 rintro m M cf eK ⟨aa,t1,ez,kj,m3,pa,vB,bG,i2,aaG⟩
 have r8:=i2.le
 have am5:ab X cf j=zx [.ptr b0 0] 1:=by rw[i2.low _ Zo Zo Zo];exact iY
 have anc:ab X cf (j+1+13)=zx [.str g.name, .Z g.at_,cY,dj,a6,ev] 6:=by rw[i2.low _ Zo Zo Zo];exact b7
 have sk:∀e,P e->ab X cf e=ab X h e:=λe H=>by have:=bC e H;rw[i2.low e Zo this.2.1 this.2.2,lb e H]
 cases m with
 |zero=>
  have aG:=zu aa g.eqs.length
  rw[ZC Zo]at i2
  generalize g.eqs.foldl (mA (gX g) aq B) o7=G at i2 Rq
  refine gA @vB @pa @ez @aG (bR anc) ⟨?_⟩
  refine(K3 aA Zo).Zm ?_
  rintro ae cx eu ⟨rfl,rfl,fa,cp,dF,fL⟩
  generalize yv:eK+1=c9 at*
  have n2:∀e,P e->ab X cx e=ab X h e:=λe H=>by rw[fa.ad e (zt (bC e H).1),sk e H]
  have AR:f3 X cx b0 (.ptr iP 0) B cW (.map dc) G.2:=by have:=i2.jE;unfold f3 at*;rw[fa.ad b0 Zo];exact this
  have akx:ab X cx j=zx [.ptr b0 0] 1:=by rw[fa.ad _ Zo];exact am5
  refine gV ?_
  refine K4 (P:=P) (g:=g) (c0:=c0) (dL:=dL) (ef:=ef) (cY:=cY) (dj:=dj) (a6:=a6) aA (λi T aV=>rz X cx c9 b0 dc (.ptr iP 0) B cW (.map dc) (((g6 g).take i).foldl (rs G.1) G.2) G.1 T aV) Zo Zo Zo Zo
   (nl.ad n2) (lC.ad n2) (oK.ad n2) cp dF fL (λi T aV a=>⟨a.le,λe H=>a.low e (zt (bC e H).1) (bC e H).2.1 (bC e H).2.2⟩)
   (λi a2 aO aS bg a gl aN=>a.ad Zo Zo gl aN) (λT bT=>⟨Zi _,by unfold f3 at*;rw[bT.ad _ Zo];exact AR,(i2.js.ad (fa.ad _ Zo)).ad (bT.ad _ Zo),λe H _ _=>bT.ad e H⟩) ?_ ?_
  ·intro mk i fb d dx hW aJ kN ya anE
   rw[AC (rs G.1) _ aJ]
   generalize ((g6 g).take i).foldl (rs G.1) G.2=cd at kN ⊢
   have yt:=kN.le
   have jZ:eY d=[.str d.name, .Z d.at_, .bool d.ty.b, .bool d.ty.s, .Z d.ty.w, .str d.on, .Z d.fu, .bool d.no]:=rfl
   rw[jZ]
   unfold sz
   refine cL ⟨?_⟩
   generalize AP:bn X _ hW _=ei
   have nc:ab X ei hW=zx [.str d.name, .Z d.at_, .bool d.ty.b, .bool d.ty.s, .Z d.ty.w, .str d.on, .Z d.fu, .bool d.no] 8:=by rw[<-AP,bm Zo];rfl
   have hl:∀e,e<hW->ab X ei e=ab X dx e:=λe H=>by rw[<-AP];exact zz
   clear AP
   refine⟨by rw[hl _ Zo];exact anE, ?_⟩
   generalize q2:bn X ei (c9+1) _=hj
   have h0:ab X hj (c9+1)=some (mk .busy none):=by rw[<-q2,bm Zo]
   have lX:∀e,e≠c9+1->ab X hj e=ab X ei e:=λe H=>by rw[<-q2,aI Zo H]
   clear q2
   have pA:=kN.ad (aS:=hj) (bg:=hW+1) Zo Zo Zo (λe Q U=>by rw[lX e U,hl e Q])
   rw[<-lX _ Zo]at nc
   have P5:ab X hj c9=some (.deferred (some [])):=by rw[lX _ Zo,hl _ Zo];exact ya
   have fB:ao X hj (.ptr j 0)=some (.ptr b0 0):=by rw[bR (show ab X hj j=_ by rw[pA.low _ Zo Zo Zo];exact akx)];rfl
   have e6:ao X hj (.ptr b0 3)=some (.map dc):=by have:=pA.jE;unfold f3 at this;rw[bR this];rfl
   have jz:kr X hj 9 (.Z 0) (.map dc) (.str d.name) false=some (.Z ((G.1 d.name).getD 0)):=by
    rw[Do pA.seen];unfold nL;cases G.1 d.name<;>rfl
   have j0:∀T aV,rz X cx c9 b0 dc (.ptr iP 0) B cW (.map dc) (rs G.1 cd (fb,d)) G.1 T aV->ab X T c9=some (.deferred (some []))->(F.bool true=F.bool true/\rz X cx c9 b0 dc (.ptr iP 0) B cW (.map dc) (rs G.1 cd (fb,d)) G.1 (bn X T (c9+1) (some (mk .ready none))) aV/\ab X (bn X T (c9+1) (some (mk .ready none))) c9=some (.deferred (some []))/\ab X (bn X T (c9+1) (some (mk .ready none))) (c9+1)=some (mk .ready none)):=λT aV a U=>
    ⟨rfl,a.ad Zo Zo (Zi _) (λe Q U=>aI Zo U),by rw[aI Zo Zo];exact U,bm Zo⟩
   refine x9 ⟨?_⟩
   refine gV ?_
   by_cases kQ:fb=1
   ·have aG:decide (fb≠1)=false:=by simp[kQ]
    have pE:rs G.1 cd (fb,d)=cd:=by unfold rs;rw[Zg (by simp[kQ])]
    refine ci @aG ⟨?_⟩
    rw[pE]at j0 ⊢
    exact⟨⟨.busy,none,h0⟩,j0 _ _ (pA.ad Zo Zo Zo (λ_ _ _=>rfl)) P5⟩
   ·have aG:decide (fb≠1)=true:=by simp[kQ]
    by_cases cv:(G.1 d.name).getD 0=0
    ·have x0:decide ((G.1 d.name).getD 0=0)=true:=by simp[cv]
     have pE:rs G.1 cd (fb,d)=mg cd 37 d.at_:=by unfold rs;rw[Zq ⟨kQ,cv⟩]
     refine e7 @aG @t1 @fB @e6 (bR nc) @jz @x0 ⟨?_⟩
     refine(wh (h:=hj) aA ko pA.jE 37 d.at_).Zm ?_
     rintro ae V6 auh ⟨rfl,QT,aqc,uC⟩
     refine cL ⟨?_⟩
     rw[pE]at j0 ⊢
     have IC:=pA.le
     exact⟨⟨.busy,none,by rw[uC _ Zo];exact h0⟩,j0 _ _ ⟨Zo,QT,pA.seen.ad (uC _ Zo),λe Q U ar=>by rw[uC e U];exact pA.low e Q U ar⟩ (by rw[uC _ Zo];exact P5)⟩
    ·have x0:decide ((G.1 d.name).getD 0=0)=false:=by simp[cv]
     have pE:rs G.1 cd (fb,d)=cd:=by unfold rs;rw[Zg (λa=>cv a.2)]
     refine e7 @aG @t1 @fB @e6 (bR nc) @jz @x0 ⟨?_⟩
     rw[pE]at j0 ⊢
     exact⟨⟨.busy,none,h0⟩,j0 _ _ (pA.ad Zo Zo Zo (λ_ _ _=>rfl)) P5⟩
  ·intro dx hW kN ya
   rw[YY]at kN
   have yt:=kN.le
   rw[<-Rq]at kN
   show mZ X [] _ _ _ _ _
   simp only[so,rr,kj]
   refine⟨by show(o X).a8<=c9;omega,ya, ?_⟩
   show qC _ _ _ _ _
   refine⟨rfl, ?_,Zo,λe Q U ar=> ?_⟩
   ·have:=kN.jE
    unfold f3 at*
    rw[aI Zo Zo];exact this
   ·rw[aI Zo Zo,kN.low e Zo U ar,fa.ad e Zo,i2.low e Zo U ar,rY.ad e Q]
 |succ m=>
  have aG:=zv aa g.eqs.length
  have bD:=zy aa
  obtain⟨am,b1⟩:=zw g.eqs aa
  obtain⟨aBo,aq7,sb⟩:=e3.get aa am b1
  have dZ:=iu.f2 aa (by rw[lW.1];omega)
  have ic:=(iu.ad sk).row Zd aq7
  obtain⟨nu,o5,aze,azf,lL,rfl,hM,mo,mR,oM⟩:=sb
  have wZ:=hM.len
  have C2:=hM.many
  have Mx:=mo.len
  have aq0:=mo.many
  rw[show(ii am.left).length=am.left.length from by simp[ii]]at wZ C2
  rw[Zn]at Mx aq0
  have di:=AC (mA (gX g) aq B) o7 b1
  generalize aoS:(g.eqs.take aa).foldl (mA (gX g) aq B) o7=GK at i2 di aaG
  refine iZ @vB @pa @m3 @aG @dZ @ic ⟨?_⟩
  refine fF (h6 (B:=4) (b:=eK) (Y:=0) (n:=4) (c:=V.ofList [.aP, .aP, .Z 0, .cz] 0 .nil) (bm Zo) Zo rfl Zd Zd oM) ?_
  generalize nf:bn X _ eK _=cx
  have e1:ab X cx eK=zx [nu,o5, .Z am.at_,lL] 4:=by rw[<-nf,bm Zo];rfl
  have gM:∀e,e<eK->ab X cx e=ab X cf e:=λe H=>by rw[<-nf];exact zz
  clear nf
  have q1:=i2.ad (aS:=cx) (bg:=eK+1) Zo Zo Zo (λe Q=>gM e Q)
  refine Ll (bR e1) @wZ ⟨?_⟩
  refine gV ?_
  refine fU (λgm M T aV=>∃(i:Nat),M.g 1=some (.ptr j 0)/\M.g 2=some (.ptr (j+1+13) 0)/\M.bd=[]/\M.g 49=some ev/\M.g 50=some (.Z (g.eqs.length:Int))/\M.g 51=some (.Z (aa:Int))/\M.g 6=some (.ptr eK 0)/\M.g 56=some nu/\M.g 57=some (.Z (am.left.length:Int))/\M.g 58=some (.Z (i:Int))/\i+gm=am.left.length
   /\xE X bb bs b0 dc (.ptr iP 0) B cW (((rb am).take i).foldl (nt (gX g)) GK).2 (((rb am).take i).foldl (nt (gX g)) GK).1 T aV/\(∀w,0<=((((rb am).take i).foldl (nt (gX g)) GK).1 w).getD 0/\((((rb am).take i).foldl (nt (gX g)) GK).1 w).getD 0<=(aa:Int)*1048576+i)
   /\eK+1<=aV/\ab X T eK=zx [nu,o5, .Z am.at_,lL] 4)
   am.left.length ⟨0,bf t1,bf ez,kj,bf m3,bf pa,bf vB,bw,bw,bw,gc,Zo,q1,λw=>by simpa using aaG w,Zo,e1⟩ ?_
  clear t1 ez kj m3 pa vB
  rintro gm cZ dx hW ⟨i,t1,ez,kj,m3,pa,vB,fM,pb,yY,yZ,aJ,kN,pD,aAu,ir⟩
  have yt:=kN.le
  have XZ:ab X dx j=zx [.ptr b0 0] 1:=by rw[kN.low _ Zo Zo Zo];exact iY
  have qu:∀e,P e->ab X dx e=ab X h e:=λe H=>by have:=bC e H;rw[kN.low e Zo this.2.1 this.2.2,lb e H]
  cases gm with
  |zero=>
   have eQ:=zu i am.left.length
   rw[ZC (by rw[atq];omega)]at kN pD
   refine e7 @yZ @yY @t1 @fM @eQ (bR XZ) (bR ir) ⟨?_⟩
   refine(awk (j:=hW) (h:=dx) aA Zo ko Zo (λe H=>⟨zt (bC e H).1,(bC e H).2.1⟩) (bc.ad (bu:=P) qu (λ_ a=>a)) (b5.ad (bu:=P) qu (λ_ a=>a)) kN.jE (cO.ad qu _ _ mR)).Zm ?_
   rintro ae ei i7 ⟨rfl,QS,tj,ql⟩
   refine cV @vB @bD ⟨?_⟩
   refine⟨m,Zo,aa+1,bf t1,bf ez,kj,bf m3,bf pa,bw,Zo, ?_, ?_⟩
   ·rw[di]
    exact⟨Zo,QS,kN.js.ad (ql _ Zo (λJ=>AS J.symm)),λe Q U ar=>by rw[ql e Zo U];exact kN.low e Q U ar⟩
   ·rw[di]
    intro w
    have:=pD w
    simp only[mA]
    constructor
    ·exact this.1
    ·have U:=this.2
     have ar:i<=1048576:=Zo
     push_cast
     omega
  |succ gm=>
   have eQ:=zv i am.left.length
   have cF:=zy i
   obtain⟨w,bJ⟩:=zw am.left i
   have qk:=hM.f2 i (by simp[ii];omega)
   have ib:=(hM.ad qu).cell i [.str w] 0 (.str w) (by unfold ii;rw[Zx,bJ];rfl) rfl
   rw[Yj]at qk
   rw[Yj,ZY]at ib
   have A3:=AC (nt (gX g)) GK (atp bJ)
   generalize aoR:((rb am).take i).foldl (nt (gX g)) GK=ol at kN A3 pD
   have ape:=pD w
   refine he @yZ @yY (Za @pb (Za @fM (Za @eQ (Za @qk (Za @ib (Za (bR ir) @Mx)))))) ⟨?_⟩
   refine gV ?_
   refine he @yZ @yY (Za @pb (Za @fM (Za @eQ (Za @qk (Za @ib (Za (bR ir) @Mx)))))) ⟨?_⟩
   refine gV ?_
   refine he @yZ @yY (Za @pb (Za @fM (Za @eQ (Za @qk (Za @ib (Za (bR ir) @Mx)))))) ⟨?_⟩
   refine j3 (λrI T aV=>rI.g 1=some (.ptr j 0)/\rI.g 2=some (.ptr (j+1+13) 0)/\rI.bd=[]/\rI.g 49=some ev/\rI.g 50=some (.Z (g.eqs.length:Int))/\rI.g 51=some (.Z (aa:Int))/\rI.g 6=some (.ptr eK 0)/\rI.g 56=some nu/\rI.g 57=some (.Z (am.left.length:Int))/\rI.g 58=some (.Z (i:Int))/\rI.g 8=some (.str w)/\rI.g 9=some (.Z (B9 am i))/\T=dx/\aV=hW) (λacC Fm=> ?_) ?_
   ·by_cases Iy:i<am.dg.length
    ·have iq:=zv i am.dg.length
     obtain⟨K,aE⟩:∃K,am.dg[i]? =some K:=⟨_,Ze Iy⟩
     have Mf:=mo.f2 i (by rw[Zn];exact Iy)
     have aaM:=(mo.ad qu).cell i [I7 K] 0 (I7 K) (by rw[Zx,aE];rfl) rfl
     rw[Yj]at Mf
     rw[Yj,ZY]at aaM
     have mP:B9 am i=K:=by unfold B9;rw[aE];rfl
     refine gA @iq @fM (bR ir) @Mf @aaM ⟨?_⟩
     exact Fm _ _ _ ⟨bf t1,bf ez,kj,bf m3,bf pa,bf vB,bf fM,bf pb,bf yY,bf yZ,bw,by refine x8 ⟨?_⟩;rw[mP];rfl,rfl,rfl⟩
    ·have iq:=zu i am.dg.length
     have mP:B9 am i=0:=by unfold B9;rw[ZG Zo];rfl
     refine ci @iq ⟨?_⟩
     exact Fm _ _ _ ⟨bf t1,bf ez,kj,bf m3,bf pa,bf vB,bf fM,bf pb,bf yY,bf yZ,bw,by refine x8 ⟨?_⟩;rw[mP],rfl,rfl⟩
   ·clear t1 ez kj m3 pa vB fM pb yY yZ
    rintro rI T aV ⟨t1,ez,kj,m3,pa,vB,fM,pb,yY,yZ,gx,t9,rfl,rfl⟩
    show al _ _
    refine gt @t1 @gx @t9 (bR XZ) ⟨?_⟩
    refine(atn aA Zo ko wJ Zo Zo AS kN.jE (bc.ad (bu:=P) qu (λ_ a=>a)) (λe H=>⟨zt (bC e H).1,(bC e H).2.1,(bC e H).2.2⟩) kN.js w (B9 am i) ⟨ape.1,Zo⟩).Zm ?_
    rintro ae ei i7 ⟨rfl,QS,aof,tj,ql⟩
    refine cV @yZ @cF ⟨?_⟩
    refine⟨gm,Zo,i+1,bf t1,bf ez,kj,bf m3,bf pa,bf vB,bf fM,bf pb,bf yY,bw,Zo, ?_, ?_,Zo,by rw[ql _ Zo Zo Zo];exact ir⟩
    ·rw[A3]
     exact⟨Zo,QS,aof,λe Q U ar=>by rw[ql e Zo U ar];exact kN.low e Q U ar⟩
    ·rw[A3]
     intro x
     have ah:=pD x
     simp only[nt]
     split
     ·simp only[YP];push_cast;omega
     ·push_cast;omega
end
def auk{C:aZ}{h:V an}{j r pos c:Nat}{s:bk}(Z:C.a8<=r)(a:ab C h r=some (.oh s pos))(aB:s[pos]? =some c)(Q:c<128):
 wB C kf true h j (kg (.ptr r 0))=some (.fh (.tuple [.bool true, .Z (pos:Int), .int .i32 (c:Int)]) (bn C h r (some (.oh s (pos+1)))) j):=by
 have c1:=(Zb.1 aB).1
 have bD:Nat.blt pos s.length=true:=by simp[Nat.blt];omega
 have cF:Nat.blt c 128=true:=by simp[Nat.blt];omega
 have fx:jV C r=true:=kJ Z
 simp only[wB,kg,fx,eP,a,bD,pL,aB,cF,bi.setObj,g8]
 rfl
def aui{C:aZ}{h:V an}{j r pos:Nat}{s:bk}(Z:C.a8<=r)(a:ab C h r=some (.oh s pos))(aB:s.length<=pos):
 wB C kf true h j (kg (.ptr r 0))=some (.val (.tuple [.bool false])):=by
 have bD:Nat.blt pos s.length=false:=by
  cases b1:Nat.blt pos s.length with
  |false=>rfl
  |true=>simp[Nat.blt]at b1;omega
 have fx:jV C r=true:=kJ Z
 simp only[wB,kg,fx,eP,a,bD,jF]
def amW{Y:Option d4}{h T:V an}{j au:Nat}{ai:bI}{v:F}(a:Y=some (.fh v T au))(B:ai v T au):ET Y h j ai:=by subst a;exact⟨B⟩
def amV{Y:Option d4}{h:V an}{j:Nat}{ai:bI}{v:F}(a:Y=some (.val v))(B:ai v h j):ET Y h j ai:=by subst a;exact⟨B⟩
section
variable{X:ck}{h T gb a2 aS:V an}{j au aO bg:Nat}
def R2{c:Nat}(a:iN c=true):(97<=c/\c<=122)\/(65<=c/\c<=90)\/(48<=c/\c<=57)\/c=95:=by
 simp[iN,qs,iw]at a
 omega
def auG(aA:dz X){c:Nat}(aB:iN c=true):aW X 185 [.int .i32 (c:Int)] h j (λae T au=>ae= .bool false/\T=h/\j<=au) (λ_ _ _=>False):=by
 refine zA aA (ahx X) ?_
 rw[ahy]
 unfold UV
 rcases R2 aB with a|a|a|a
 ·have cX:decide ((c:Int)<97)=false:=by simp only[Zc];omega
  have cP:decide ((122:Int)<(c:Int))=false:=by simp only[Zc];omega
  refine cV @cX @cP ⟨?_⟩
  exact⟨rfl,rfl,Zo⟩
 ·have cX:decide ((c:Int)<97)=true:=by simp only[Zh];omega
  have cP:decide ((c:Int)<65)=false:=by simp only[Zc];omega
  have eQ:decide ((90:Int)<(c:Int))=false:=by simp only[Zc];omega
  refine er @cX @cP @eQ ⟨?_⟩
  exact⟨rfl,rfl,Zo⟩
 ·have cX:decide ((c:Int)<97)=true:=by simp only[Zh];omega
  have cP:decide ((c:Int)<65)=true:=by simp only[Zh];omega
  have eQ:decide ((c:Int)<48)=false:=by simp only[Zc];omega
  have iq:decide ((57:Int)<(c:Int))=false:=by simp only[Zc];omega
  refine gt @cX @cP @eQ @iq ⟨?_⟩
  exact⟨rfl,rfl,Zo⟩
 ·have cX:decide ((c:Int)<97)=true:=by simp only[Zh];omega
  have cP:decide ((c:Int)<65)=false:=by simp only[Zc];omega
  have eQ:decide ((90:Int)<(c:Int))=true:=by simp only[Zh];omega
  have iq:decide ((c:Int)<48)=false:=by simp only[Zc];omega
  have f5:decide ((57:Int)<(c:Int))=true:=by simp only[Zh];omega
  have iV:decide ((c:Int)≠95)=false:=by simp only[Zc,ne_eq,Decidable.not_not];omega
  refine iZ @cX @cP @eQ @iq @f5 @iV ⟨?_⟩
  exact⟨rfl,rfl,Zo⟩
def awn{C:aZ}{s:bk}{ai:bI}(B:ai (.ptr j 0) (bn C h j (some (.oh s 0))) (j+1)):gw (Td C h j (.str s)) h j ai:=ki (by simp only[Td,mV,lS,g8]) B
def akO:dn X h .eql 4 false (.bool false) (.bool true)=some (.bool false):=Zk
def ash(aA:dz X){s:bk}(aD:∀c∈s,iN c=true)(aL:(o X).a8<=j):
 aW X 186 [.str s, .func (.func 185) [] []] h j (λae T au=>ae= .Z (-1)/\bq X h j T au) (λ_ _ _=>False):=by
 refine zA aA (ahz X) ?_
 rw[ahA]
 unfold UW
 refine zA aA (aij X) ?_
 rw[aik]
 unfold Vi
 refine awn ?_
 generalize et:bn X h j _=a2
 have b4:ab X a2 j=some (.oh s 0):=by rw[<-et,bm aL]
 have bU:bq X h j a2 (j+1):=by rw[<-et];exact dU
 clear et
 refine cL ⟨?_⟩
 refine fU (λm M T aV=>∃(aa:Nat),M.g 1=some (.func (.func 185) [] [])/\M.g 2=some (.bool true)/\M.g 10=some (.ptr j 0)/\aa+m=s.length/\ab X T j=some (.oh s aa)/\bq X h j T aV/\j+1<=aV)
  s.length ⟨0,bw,bw,bw,Zo,b4,bU,Zo⟩ ?_
 rintro m M aS bg ⟨aa,t1,ez,nw,bG,b7,bK,kR⟩
 cases m with
 |zero=>
  refine ci @nw ⟨?_⟩
  refine amV (aui aL b7 Zo) ?_
  refine cL ⟨?_⟩
  exact⟨rfl,bK⟩
 |succ m=>
  obtain⟨c,aB⟩:=zw s aa
  have bp:=aD c (Zl aB)
  have an3:c<128:=zt (R2 bp)
  refine ci @nw ⟨?_⟩
  refine amW (auk aL b7 aB an3) ?_
  refine ci @t1 ⟨?_⟩
  generalize fC:bn X aS j _=bb
  have cN:ab X bb j=some (.oh s (aa+1)):=by rw[<-fC,bm aL]
  have cq:bq X h j bb bg:=⟨bK.le,λe H=>by rw[<-fC,aI aL Zo];exact bK.ad e H⟩
  clear fC
  refine(auG aA bp).Zm ?_
  rintro ae bF c7 ⟨rfl,rfl,jl⟩
  refine cV @ez @akO ⟨?_⟩
  refine⟨m,Zo,aa+1,bf t1,bf ez,bf nw,Zo,cN,⟨zt cq.le,cq.ad⟩,Zo⟩
end
def aeo:List bk:=[[110,111,100,101],[114,101,116,117,114,110,115],[118,97,114],[108,101,116],[116,101,108],[119,104,101,110],[110,111,116],[111,114],[120,111,114],[97,110,100],[112,114,101],[102,98,121],[105,102],[116,104,101,110],[101,108,115,101],[109,101,114,103,101],[116,114,117,101],[102,97,108,115,101]]
def av7:∀w∈aeo,w∈vs:=by decide
structure rC(X:ck):Prop where
 a8:2<X.a8
 at_:∀h,∃b a6,ao X h (.ptr 2 0)=some a6/\dO X h (λe=>e<X.a8) b a6 1 (ii aeo)
section
variable{X:ck}{h T gb a2 aS:V an}{j au aO bg:Nat}{s:bk}
def amh:dn X h .eql 238 true .nilIface .nilIface=some (.bool true):=Zk
def ami(b:Nat):dn X h .eql 238 true (.iface 283 (.ptr b 0)) .nilIface=some (.bool false):=Zk
def alq(aA:dz X){b:Nat}{a6:F}{P:Nat->Prop}{mF:List bk}(Z:dO X h P b a6 1 (ii mF))(aD:s∉mF):
 aW X 187 [a6, .str s] h j (λae T au=>ae= .bool false/\bq X h j T au) (λ_ _ _=>False):=by
 refine zA aA (ahB X) ?_
 rw[ahC]
 unfold UX
 refine aW.mono (ai:=λae T au=>ae= .Z (-1)/\bq X h j T au) (ay:=λ_ _ _=>False) ?_ ?_ (λ_ _ _ a=>a.elim)
 ·refine zA aA (ail X) ?_
  rw[aim]
  unfold Vj
  have eD:=Z.len
  have i6:=Z.many
  rw[show(ii mF).length=mF.length from by simp[ii]]at eD i6
  refine ci @eD ⟨?_⟩
  refine fU (λm M T aV=>∃(aa:Nat),M.g 0=some a6/\M.g 1=some (.str s)/\M.g 7=some (.Z (mF.length:Int))/\M.g 8=some (.Z (aa:Int))/\aa+m=mF.length/\T=h/\aV=j)
   mF.length ⟨0,bw,bw,bw,gc,Zo,rfl,rfl⟩ ?_
  rintro m M aS bg ⟨aa,t0,t1,g4,gx,bG,rfl,rfl⟩
  cases m with
  |zero=>
   have d:=zu aa mF.length
   refine er @gx @g4 @d ⟨?_⟩
   exact⟨rfl,bq.refl _ _⟩
  |succ m=>
   have d:=zv aa mF.length
   have bD:=zy aa
   obtain⟨w,bJ⟩:=zw mF aa
   have dZ:=Z.f2 aa (by simp[ii];omega)
   have ib:=Z.cell aa [.str w] 0 (.str w) (by unfold ii;rw[Zx,bJ];rfl) rfl
   rw[Yj]at dZ
   rw[Yj,ZY]at ib
   have dD:s≠w:=λJ=>aD (by rw[J];exact Zl bJ)
   have cP:decide (s=w)=false:=by simp[dD]
   refine e7 @gx @g4 @t1 @t0 @d @dZ (Za @ib (Za @cP @bD)) ⟨?_⟩
   exact⟨m,Zo,aa+1,bf t0,bf t1,bf g4,bw,Zo,rfl,rfl⟩
 ·rintro ae a2 aO ⟨rfl,bT⟩
  refine cL ⟨?_⟩
  exact⟨rfl,bT⟩
def ae4(aA:dz X)(t:d9)(aL:(o X).a8<=j):aW X 128 [.agg (eF t)] h j (λae T au=>ae= .str (m0 t)/\bq X h j T au) (λ_ _ _=>False):=by
 refine zA aA (agt X) ?_
 rw[agu]
 unfold Uj
 have bc:eF t=[.bool t.b, .bool t.s, .Z t.w]:=rfl
 rw[bc]
 refine cL ⟨?_⟩
 refine fc (λa2=>ab X a2 j=zx [.bool t.b, .bool t.s, .Z t.w] 3/\bq X h j a2 (j+1)) ⟨bm aL,dU⟩ ?_
 rintro a2 ⟨b4,bU⟩
 refine(Dr aA t Zo).Zm ?_
 rintro ae aS bg ⟨rfl,bK⟩
 have ge:=bK.le
 have bT:=bU.trans bK
 have b7:ab X aS j=zx [.bool t.b, .bool t.s, .Z t.w] 3:=by rw[bK.ad _ Zo];exact b4
 have d7:ao X aS (.ptr j 0)=some (.bool t.b):=by rw[bR b7];rfl
 have dt:ao X aS (.ptr j 1)=some (.bool t.s):=by rw[bR b7];rfl
 have dG:ao X aS (.ptr j 2)=some (.Z t.w):=by rw[bR b7];rfl
 cases bp:ku t with
 |false=>
  refine cL ⟨?_⟩
  exact⟨by simp[m0,bp],bT⟩
 |true=>
  cases mq:t.b with
  |true=>
   rw[mq]at d7
   refine ci @d7 ⟨?_⟩
   exact⟨by simp[m0,bp,mq],bT⟩
  |false=>
   rw[mq]at d7
   have bJ:1<=t.w/\t.w<=64:=by simpa[ku,mq]using bp
   obtain⟨w,yG⟩:=Yl (by omega:0<=t.w)
   rw[yG]at dG
   have aJ:jo t.w.toNat=jo w:=by rw[yG];rfl
   have fD:(jo w).length<=2:=by unfold jo;split<;>simp
   have sV:∀h c,dn X h .add 9 true (.str [c]) (.str (jo w))=some (.str (c::jo w)):=λh c=>by
    have:Nat.ble ([c].length+(jo w).length) 1000000000=true:=kJ (by simp;omega)
    simp only[dn,Am,this,eP];rfl
   cases j2:t.s with
   |true=>
    rw[j2]at dt
    refine er @d7 @dt @dG ⟨?_⟩
    refine(MT aA Zo).Zm ?_
    rintro ae bb bs ⟨rfl,rfl,rfl⟩
    refine ci @sV ⟨?_⟩
    exact⟨by simp[m0,bp,mq,j2,aJ],bT⟩
   |false=>
    rw[j2]at dt
    refine er @d7 @dt @dG ⟨?_⟩
    refine(MT aA Zo).Zm ?_
    rintro ae bb bs ⟨rfl,rfl,rfl⟩
    refine ci @sV ⟨?_⟩
    exact⟨by simp[m0,bp,mq,j2,aJ],bT⟩
def asn{c:Nat}(a:iN c=true):c<256:=zt (R2 a)
def ax7(aA:iE X)(bT:lP X)(aD:Ed s)(aL:(o X).a8<=j):
 aW X 188 [.str s] h j (λae T au=>ae= .bool false/\bq X h j T au) (λ_ _ _=>False):=by
 refine zA aA.todz (ahD X) ?_
 rw[ahE]
 unfold UY
 cases s with
 |nil=>exact absurd rfl aD.ne
 |cons c l=>
  cases l with
  |nil=>
   have pu:decide (((1:Nat):Int)<2)=true:=rfl
   refine ci @pu ⟨?_⟩
   exact⟨rfl,dU⟩
  |cons dG l=>
   have cX:decide ((((dG::l).length+1:Nat):Int)<2)=false:=by simp only[Zc,ZB];omega
   have jm:j7 (.str (c::dG::l)) (some (.Z 1)) none=some (.str (dG::l)):=NV (l:=1) .i64 Zs
   have dZ:la (.str (c::dG::l)) (.Z 0)=some (.int .u8 (c:Int)):=Bd (i:=0) .i64 rfl
   have eD:lJ (.str (c::dG::l))=some (.Z ((c::dG::l).length:Int)):=sn _
   have kO:=aD.all
   have fD:=aD.len
   have wF:c::dG::l≠[98,111,111,108]:=λJ=>by have:=aD.ty;rw[J]at this;cases this
   have cP:decide (c::dG::l=[98,111,111,108])=false:=by simp only[Zc];exact wF
   have yC:=aD.ty
   generalize nT:dG::l=m at*
   have f5:decide ((c:Int)=105)=decide (c=105):=by simp;omega
   refine fF eD ?_
   refine cV @cX @jm ⟨?_⟩
   refine(WB aA bT (by simp at fD;omega) (λx ah=>asn (kO x (Zr _ ah))) (adD (λx ah=>kO x (Zr _ ah))) Zo).Zm ?_
   rintro ae aS bg ⟨⟨bt,J,rfl,bx,ah⟩,bK⟩
   have ge:=bK.le
   rcases bx with rfl|⟨b,rfl⟩
   ·refine gt @cP @amh @dZ @f5 ⟨?_⟩
    refine(ae4 (j:=bg) (h:=aS) aA.todz ⟨false,decide (c=105),bt⟩ Zo).Zm ?_
    rintro ae bb bs ⟨rfl,cq⟩
    have aG:decide (c::m=m0 ⟨false,decide (c=105),bt⟩)=false:=by
     simp only[Zc]
     intro a
     cases bp:ku ⟨false,decide (c=105),bt⟩with
     |false=>simp[m0,bp]at a
     |true=>
      have cv:1<=bt/\bt<=64:=by simpa[ku]using bp
      obtain⟨n,rfl⟩:=Yl (by omega:0<=bt)
      simp only[m0,bp,ZD,Zw,ZA]at a
      have Q:=(List.cons.inj a).1
      have U:=(List.cons.inj a).2
      have QU:c=105\/c=117:=by
       by_cases aB:c=105
       ·exact .inl aB
       ·simp[aB]at Q;exact .inr Q
      exact ae3 yC QU (n:=n) Zo Zo (by simpa using U.symm)
    refine ci @aG ⟨?_⟩
    exact⟨rfl,bK.trans cq⟩
   ·refine cV @cP @ami ⟨?_⟩
    exact⟨rfl,bK⟩
def Jt(aA:iE X)(bT:lP X)(eS:rC X)(aD:Ed s)(aL:(o X).a8<=j):
 aW X 140 [.str s] h j (λae T au=>ae= .bool true/\bq X h j T au) (λ_ _ _=>False):=by
 refine zA aA.todz (agJ X) ?_
 rw[agK]
 unfold Ur
 have dD:=aD.ne
 have cX:decide (s=[])=false:=by simp[dD]
 have fD:=aD.len
 have cP:decide ((32:Int)<(s.length:Int))=false:=by simp only[Zc];omega
 obtain⟨c,aB⟩:∃c,s.head?=some c:=by cases s with|nil=>exact absurd rfl dD|cons c l=>exact⟨c,rfl⟩
 have ym:=aD.akG c aB
 have dZ:la (.str s) (.Z 0)=some (.int .u8 (c:Int)):=Bd (i:=0) .i64 (by rw[<-List.head?_eq_getElem?];exact aB)
 have Fe:65<=c:=by simp[qs]at ym;omega
 have eQ:decide ((48:Int)<=(c:Int))=true:=by simp only[Zh];omega
 have iq:decide ((c:Int)<=57)=false:=by simp only[Zc];omega
 refine gA @cX @cP @dZ @eQ @iq ⟨?_⟩
 refine(ash aA.todz aD.all aL).Zm ?_
 rintro ae a2 aO ⟨rfl,bU⟩
 have jy:=bU.le
 obtain⟨b,a6,jm,cC⟩:=eS.at_ a2
 have wj:decide ((0:Int)<= -1)=false:=rfl
 refine cV @jm @wj ⟨?_⟩
 refine(alq (j:=aO) aA.todz cC (λa=>aD.res (av7 _ a))).Zm ?_
 rintro ae aS bg ⟨rfl,bK⟩
 have ge:=bK.le
 refine cL ⟨?_⟩
 refine(ax7 (j:=bg) (h:=aS) aA bT aD Zo).Zm ?_
 rintro ae bb bs ⟨rfl,cq⟩
 refine cL ⟨?_⟩
 exact⟨rfl,(bU.trans bK).trans cq⟩
end
section
variable{X:ck}{h T gb a2 aS:V an}{j au aO bg:Nat}{s:bk}
def TX:List F:=[.str [], .Z 0, .bool false, .bool false, .Z 0, .str [], .Z 0, .bool false]
def anO(n:Nat):Fc X h j .append [34,3] [.aP, .Z (n:Int)]=bP (Nat.ble n 1048576) (bP (Nat.beq n 0) (some (.val .aP)) (s7 X h j n 8 (kz n TX))) none:=Zk
def DO(n:Nat)(l:List F):(kz n l).length=n*l.length:=by
 induction n with
 |zero=>simp[kz]
 |succ n ak=>simp[kz,ak,Ye];omega
def ak1:rN X h .cap [34] [.aP]=some (.Z 0):=Zk
def aw1:sD X h 8 .aP none (some (.Z 0)) none=some .aP:=by rfl
def aw3{c9 n m:Nat}{c:V F}(a:ab X h c9=some (.cells c m (.grow []))):sD X h 8 (.en c9 0 n 8) none (some (.Z 0)) none=some (.en c9 0 0 8):=by
 have bD:oW (some (.Z 0)) (m/8) n=some 0:=by simp[oW,aug]
 have cF:∀K b:Nat,oW none K b=some b:=λK b=>rfl
 have fx:xq X h c9=some m:=by simp[xq,a]
 have jh:Nat.blt 0 8=true:=rfl
 simp only[sD,fx,lQ,Y2,cF,bD]
 simp[jh]
def S5{C:aZ}{P:Nat->Prop}{b a1:Nat}{a6:F}{aR:List (List F)}(a:dO C h P b a6 a1 aR)(cv:0<a1):kX C h a1 a6=some (aR.length,aR.flatten):=by
 have Iw:=uf a.wide
 have key:∀dP Y n:Nat,n=aR.length->(∀i,i<aR.length->some (F.ptr dP (Y+i*a1))=some (.ptr b (i*a1)))->mN C h dP Y (n*a1)=some aR.flatten:=by
  intro dP Y n aL aJ
  subst aL
  by_cases b6:aR.length=0
  ·have:aR=[]:=ZW b6
   subst this
   simp only[mN]
   cases aB:cellsOf C h dP with
   |none=>simp
   |some c=>simp[β]
  ·have Q:=aJ 0 Zo
   simp at Q
   obtain⟨rfl,rfl⟩:=Q
   obtain⟨r,Z⟩:=zw aR 0
   have uO:=a.wide r (Zl Z)
   obtain⟨v,bB⟩:=zw r 0
   have r1:=a.cell 0 r 0 v Z bB
   simp only[zd,ZY]at r1
   have CG:∃c,cellsOf C h dP=some c:=by
    simp only[ao]at r1
    cases aB:cellsOf C h dP with
    |none=>rw[aB]at r1;cases r1
    |some c=>exact⟨c,rfl⟩
   obtain⟨c,aB⟩:=CG
   simp only[mN,aB]
   rw[<-Iw]
   refine X8 _ _ λaa v bG=> ?_
   have uB:=(Zb.1 bG).1
   rw[Iw]at uB
   have b1:aa/a1<aR.length:=Nat.div_lt_of_lt_mul (by rw[zs];exact uB)
   obtain⟨gO,kq⟩:∃r,aR[aa/a1]? =some r:=⟨_,Ze b1⟩
   have aAH:=a.wide gO (Zl kq)
   have bp:aa%a1<a1:=Nat.mod_lt _ cv
   obtain⟨f9,tn⟩:∃v,gO[aa%a1]? =some v:=⟨_,Ze Zo⟩
   have U:=a.cell (aa/a1) gO (aa%a1) f9 kq tn
   have ar:=Lf aR a.wide (aa/a1) gO (aa%a1) f9 kq tn
   have aK:aa/a1*a1+aa%a1=aa:=by rw[zs];exact Nat.div_add_mod aa a1
   rw[aK]at U ar
   rw[bG]at ar
   cases ar
   simp only[ao,aB]at U
   rw[ZI]
   exact U
 have aC:=a.len
 cases a6 with
 |slice dP Y n cap=>
  have aL:n=aR.length:=by rw[oX]at aC;simp at aC;omega
  have aJ:∀i,i<aR.length->some (F.ptr dP (Y+i*a1))=some (.ptr b (i*a1)):=λi aJ=>by
   have:=a.f2 i aJ
   rw[<-this]
   have J:Nat.blt i n=true:=by simp[Nat.blt];omega
   simp only[dW,rg,BP,J,eP]
  have aN:=key dP Y n aL aJ
  subst aL
  simp only[kX,aN]
 |en dP Y n xs=>
  have aL:n=aR.length:=by rw[n7]at aC;simp at aC;omega
  have aJ:∀i,i<aR.length->some (F.ptr dP (Y+i*a1))=some (.ptr b (i*a1)):=λi aJ=>by
   have:=a.f2 i aJ
   rw[<-this]
   have J:Nat.blt i n=true:=by simp[Nat.blt];omega
   simp only[dW,rg,BP,J,eP]
  have aN:=key dP Y n aL aJ
  subst aL
  simp only[kX,aN]
 |aP=>
  have aL:(0:Int)=aR.length:=by rw[qw]at aC;simpa using aC
  have:aR=[]:=ZW Zo
  subst this
  rfl
 |_=>simp[dX]at aC
def awo{c9 n r m:Nat}{c:V F}{x:F}{l:List F}{ai:bI}(aj:ab X h c9=some (.cells c (m*8) (.grow [])))(aM:(o X).a8<=c9)(ah:kX X h 8 x=some (r,l))(aC:l.length=r*8)(Z:n+r<=m)(Q:Go.bi.iz l=true)
 (B:∀T f0,ab X T c9=some (.cells f0 (m*8) (.grow []))->(∀i,f0.get i=if n*8<=i/\i<n*8+l.length then l[i-n*8]? else c.get i)->(∀e,e≠c9->ab X T e=ab X h e)->ai (.en c9 0 (n+r) 8) T j):
 gw (hC X h j 8 (.en c9 0 n 8) x) h j ai:=by
 by_cases b6:r=0
 ·subst b6
  have:l=[]:=ZW Zo
  subst this
  have bD:hC X h j 8 (.en c9 0 n 8) x=some (.val (.en c9 0 n 8)):=by
   simp only[hC,ah]
   simp[Es,xq,aj]
   omega
  refine Ta bD ?_
  exact B h c aj (λi=>by rw[Zg Zs]) (λ_ _=>rfl)
 ·have cF:Nat.ble ((n+r)*8) (m*8)=true:=kJ Zo
  have fx:Nat.ble (n*8+l.length) (m*8)=true:=kJ Zo
  have HC:Nat.beq 8 8=true:=rfl
  have jh:jV X c9=true:=kJ aM
  have pw:hC X h j 8 (.en c9 0 n 8) x=some (.fh (.en c9 0 (n+r) 8) (Go.bi.bn X h c9 (some (.cells (dQ c (n*8) l) (m*8) (.grow [])))) j):=by
   simp only[hC,ah]
   rw[hD,Zg b6]
   simp only[xM,Hf,aj,jh,HC,eP,cF,tU,fx,Q,Ya,g8,oU,ZI]
  refine ki pw ?_
  refine B _ _ (bm aM) (λi=> ?_) (λe H=>aI aM H)
  rw[jS]
def awR(aA:dz X){n:Nat}(b6:0<n)(Q:n<=300000)(aL:(o X).a8<=j):
 aW X 189 [.aP, .Z (n:Int)] h j (λae T au=>ae= .en j 0 0 8/\(∃c,ab X T j=some (.cells c (n*8) (.grow [])))/\bq X h j T au/\j<au) (λ_ _ _=>False):=by
 refine zA aA (ahF X) ?_
 rw[ahG]
 unfold UZ
 have cX:decide ((n:Int)<0)=false:=by simp only[Zc];omega
 have cP:decide ((0:Int)<(n:Int))=true:=by simp only[Zh];omega
 have bD:aF .sub (.Z 0) (.Z 0)=some (.Z 0):=w3 Zo Zo
 have cF:aF .sub (.Z (n:Int)) (.Z 0)=some (.Z (n:Int)):=by rw[w3 Zo Zo];simp
 have fx:Fc X h j .append [34,3] [.aP, .Z (n:Int)]=some (.fh (.en j 0 n 8) (bn X h j (some (.cells (V.ofList (kz n TX) 0 .nil) (n*8) (.grow [])))) (j+1)):=by
  rw[anO,kJ Zo,eP,hD,Zg Zo]
  simp only[s7,kJ (show n<=1048576 by omega),eP,mV,lS,g8,DO]
  rfl
 refine iZ @cX @ak1 @bD @cF @cP @aw1 ⟨?_⟩
 refine ki fx ?_
 generalize et:bn X h j _=a2
 have b4:ab X a2 j=some (.cells (V.ofList (kz n TX) 0 .nil) (n*8) (.grow [])):=by rw[<-et,bm aL]
 have bU:bq X h j a2 (j+1):=by rw[<-et];exact dU
 clear et
 have jh:=aw3 (n:=n) b4
 refine ci @jh ⟨?_⟩
 exact⟨rfl,⟨_,b4⟩,bU,Zo⟩
def As(l:List (List fe)):Nat:=(l.map List.length).sum
def aln(aA:dz X){P:Nat->Prop}{p2 c0 dL ef:Nat}{cY dj a6:F}{A bj af:List fe}(aL:(o X).a8<=j)(yl:p2<j)(aE:ab X h p2=zx [cY,dj,a6] 3)
 (Q:dO X h P c0 cY 8 (A.map eY))(U:dO X h P dL dj 8 (bj.map eY))(ar:dO X h P ef a6 8 (af.map eY))(bC:∀e,P e->e<j)(b6:0<A.length+bj.length+af.length)(bp:A.length+bj.length+af.length<=300000):
 aW X 142 [.slice p2 0 3 3] h j (λae T au=>∃b,dO X T (da j au) b ae 8 ((A++(bj++af)).map eY)/\bq X h j T au) (λ_ _ _=>False):=by
 refine zA aA (agN X) ?_
 rw[agO]
 unfold Ut
 have FD:∀aa,aa<3->∃s b L,[cY,dj,a6][aa]? =some s/\dO X h P b s 8 (L.map eY)/\([A,bj,af]:List (List fe))[aa]? =some L/\L.length<=300000:=by
  intro aa bG
  match aa,bG with
  |0,_=>exact⟨cY,c0,A,rfl,Q,rfl,Zo⟩
  |1,_=>exact⟨dj,dL,bj,rfl,U,rfl,Zo⟩
  |2,_=>exact⟨a6,ef,af,rfl,ar,rfl,Zo⟩
 have r1:∀T aa s,ab X T p2=zx [cY,dj,a6] 3->[cY,dj,a6][aa]? =some s->ao X T (.ptr p2 aa)=some s:=λT aa s a aD=>by rw[bR a,kw];exact aD
 obtain⟨k5,wI⟩:∃k5:Nat->Nat,∀aa,k5 aa=As (([A,bj,af]:List (List fe)).take aa):=⟨_,λ_=>rfl⟩
 obtain⟨x5,oJ⟩:∃x5:Nat->List fe,∀aa,x5 aa=(([A,bj,af]:List (List fe)).take aa).flatten:=⟨_,λ_=>rfl⟩
 have aa5:∀aa L,([A,bj,af]:List (List fe))[aa]? =some L->x5 (aa+1)=x5 aa++L:=by
  intro aa L a
  rw[oJ,oJ,Z5,a];simp
 have Ip:∀aa,k5 aa=(x5 aa).length:=λaa=>by rw[wI,oJ];unfold As;rw[List.length_flatten]
 have di:∀aa L,([A,bj,af]:List (List fe))[aa]? =some L->k5 (aa+1)=k5 aa+L.length:=by
  intro aa L a
  rw[Ip,Ip,aa5 aa L a,ZM]
 have gl:∀aa,k5 aa<=A.length+bj.length+af.length:=by
  intro aa
  rw[wI]
  match aa with
  |0=>simp[As]
  |1=>simp[As];omega
  |2=>simp[As]
  |n+3=>simp[As];omega
 have τ:k5 3=A.length+bj.length+af.length:=by rw[wI];simp[As];omega
 have Cw:k5 0=0:=by rw[wI];simp[As]
 have amB:x5 0=[]:=by rw[oJ];rfl
 refine cL ⟨?_⟩
 refine fU (λm M T aV=>∃(aa:Nat),M.g 0=some (.slice p2 0 3 3)/\M.g 9=some (.slice p2 0 3 3)/\M.g 10=some (.Z 3)/\M.g 11=some (.Z (aa:Int))/\M.g 3=some (.Z (k5 aa:Nat))/\aa+m=3/\T=h/\aV=j)
  3 ⟨0,bw,bw,gc,gc,by refine x8 ⟨?_⟩;rw[Cw];rfl,Zo,rfl,rfl⟩ ?_
 rintro m M a2 aO ⟨aa,t0,t9,nw,oi,t3,bG,rfl,rfl⟩
 cases m with
 |succ m=>
  have d:decide ((aa:Int)<3)=true:=by simp only[Zh];omega
  have bD:=zy aa
  obtain⟨s,b,L,aD,cC,gr,aot⟩:=FD aa Zo
  have CP:=gl aa
  have dZ:dW 1 (.slice p2 0 3 3) (.Z (aa:Int))=some (.ptr p2 aa):=by rw[FR _ Zo];simp
  have aB:=r1 _ aa s aE aD
  have eD:=cC.len
  rw[Zn]at eD
  have cF:aF .add (.Z ((k5 aa:Nat):Int)) (.Z (L.length:Int))=some (.Z ((k5 (aa+1):Nat):Int)):=by
   rw[di aa L gr,eT Zo Zo];simp
  have cP:decide (((k5 (aa+1):Nat):Int)<0)=false:=by simp only[Zc];omega
  refine e7 @oi @nw @t9 @t3 @d @dZ (Za @aB (Za @eD (Za @cF (Za @cP @bD)))) ⟨?_⟩
  exact⟨m,Zo,aa+1,bf t0,bf t9,bf nw,bw,bw,Zo,rfl,rfl⟩
 |zero=>
  have d:decide ((aa:Int)<3)=false:=by simp only[Zc];omega
  have Mg:aa=3:=Zo
  subst Mg
  rw[τ]at t3
  refine gt @oi @nw @t3 @d ⟨?_⟩
  refine(awR aA b6 bp aL).Zm ?_
  rintro ae aS bg ⟨rfl,⟨dG,b7⟩,bK,kR⟩
  generalize pB:A.length+bj.length+af.length=dm at*
  refine ci @t0 ⟨?_⟩
  refine fU (λm M T aV=>∃(aa:Nat) (c:V F),M.g 25=some (.slice p2 0 3 3)/\M.g 26=some (.Z 3)/\M.g 27=some (.Z (aa:Int))/\M.g 6=some (.en aO 0 (k5 aa) 8)/\aa+m=3/\aO<aV/\bq X a2 aO T aV
   /\ab X T aO=some (.cells c (dm*8) (.grow []))/\∀(i:Nat) v,((x5 aa).map eY).flatten[i]? =some v->c.get i=some v)
   3 ⟨0,dG,bw,gc,gc,by refine x8 ⟨?_⟩;rw[Cw],Zo,kR,bK,b7,λi v a=>by rw[amB]at a;simp at a⟩ ?_
  clear t0 t9 nw oi t3
  rintro m M bb bs ⟨aa,hd,l9,kZ,DZ,fM,bG,yu,cq,cN,wH⟩
  have Iw:∀L:List fe,((L.map eY).flatten).length=L.length*8:=λL=>by
   have:=uf (aR:=L.map eY) (a1:=8) (by intro r Z;obtain⟨d,_,rfl⟩:=ZT.1 Z;rfl)
   rw[this,Zn]
  cases m with
  |zero=>
   have d:decide ((aa:Int)<3)=false:=by simp only[Zc];omega
   have Mg:aa=3:=Zo
   subst Mg
   rw[τ]at fM
   refine gt @DZ @kZ @fM @d ⟨?_⟩
   have kO:x5 3=A++(bj++af):=by rw[oJ];simp
   rw[kO]at wH
   have fD:(A++(bj++af)).length=dm:=by simp;omega
   refine⟨aO,⟨λ_=>⟨Zo,Zo⟩,by rw[Zn,fD];omega,by intro r Z;obtain⟨d,_,rfl⟩:=ZT.1 Z;rfl,by rw[n7,Zn,fD],λi aJ=>by rw[Dg _ (by rw[Zn,fD]at aJ;omega),ZI],λi r acC v aJ Fm=> ?_⟩,cq⟩
   rw[bR cN]
   exact wH _ _ (Lf _ (by intro r Z;obtain⟨d,_,rfl⟩:=ZT.1 Z;rfl) i r acC v aJ Fm)
  |succ m=>
   have d:decide ((aa:Int)<3)=true:=by simp only[Zh];omega
   have bD:=zy aa
   obtain⟨s,b,L,aD,cC,gr,aot⟩:=FD aa Zo
   have dZ:dW 1 (.slice p2 0 3 3) (.Z (aa:Int))=some (.ptr p2 aa):=by rw[FR _ Zo];simp
   have aoX:ab X bb p2=zx [cY,dj,a6] 3:=by rw[cq.ad _ yl];exact aE
   have aB:=r1 _ aa s aoX aD
   have j1:=S5 (cC.ad (T:=bb) (λe H=>cq.ad e (bC e H))) Zd
   rw[Zn]at j1
   have Q:=di aa L gr
   have U:=gl (aa+1)
   refine e7 @DZ @kZ @l9 @fM @d @dZ @aB ⟨?_⟩
   refine awo cN Zo j1 (Iw L) Zo ?_ ?_
   ·clear j1
    have:∀dm:List fe,Go.bi.iz (dm.map eY).flatten=true:=by
     intro dm
     induction dm with
     |nil=>rfl
     |cons d dm ak=>simpa[eY,Go.bi.iz,oc]using ak
    exact this L
   ·intro bF wg ej uv gd
    refine cV @DZ @bD ⟨?_⟩
    refine⟨m,Zo,aa+1,wg,bf l9,bf kZ,bw,by refine x8 ⟨?_⟩;rw[Q],Zo,yu,⟨cq.le,λe H=>by rw[gd e Zo];exact cq.ad e H⟩,ej,λi v aJ=> ?_⟩
    rw[aa5 aa L gr]at aJ
    simp only[zf,Yy]at aJ
    have sa:(((x5 aa).map eY).flatten).length=k5 aa*8:=by
     rw[Iw,Ip]
    rw[uv]
    by_cases c1:i<k5 aa*8
    ·rw[Zg Zo]
     rw[ZO Zo]at aJ
     exact wH i v aJ
    ·rw[ZE Zo,sa]at aJ
     have:=(Zb.1 aJ).1
     rw[Zq ⟨Zo,Zo⟩]
     exact aJ
end
section
variable{X:ck}{h T gb a2 aS:V an}{j au aO bg:Nat}{s:bk}
def awF{t:d9}(a:ku t=true):m0 t≠[]:=by
 unfold m0
 rw[Zq a]
 split<;>simp
def alx(aA:iE X)(bT:lP X)(eS:rC X){P:Nat->Prop}{b:Nat}{a6:F}{ds:List fe}(aL:(o X).a8<=j)(cC:dO X h P b a6 8 (ds.map eY))(bC:∀e,P e->e<j)(bJ:∀d∈ds,pX ln d):
 aW X 141 [a6] h j (λae T au=>ae= .bool true/\bq X h j T au) (λ_ _ _=>False):=by
 refine zA aA.todz (agL X) ?_
 rw[agM]
 unfold Us
 have eD:=cC.len
 have i6:=cC.many
 rw[Zn]at eD i6
 refine ci @eD ⟨?_⟩
 refine fU (λm M T aV=>∃(aa:Nat),M.g 5=some a6/\M.g 6=some (.Z (ds.length:Int))/\M.g 7=some (.Z (aa:Int))/\aa+m=ds.length/\bq X h j T aV)
  ds.length ⟨0,bw,bw,gc,Zo,bq.refl _ _⟩ ?_
 rintro m M a2 aO ⟨aa,t5,fM,g4,bG,bU⟩
 have jy:=bU.le
 cases m with
 |zero=>
  have d:=zu aa ds.length
  refine er @g4 @fM @d ⟨?_⟩
  exact⟨rfl,bU⟩
 |succ m=>
  have alD:=zv aa ds.length
  have bD:=zy aa
  obtain⟨d,aM⟩:=zw ds aa
  have CJ:=bJ d (Zl aM)
  have dZ:=cC.f2 aa (by rw[Zn];omega)
  have ft:=(cC.ad (λe H=>bU.ad e (bC e H))).row (i:=aa) (r:=eY d) Zd (by rw[Zx,aM];rfl)
  have jZ:eY d=[.str d.name, .Z d.at_, .bool d.ty.b, .bool d.ty.s, .Z d.ty.w, .str d.on, .Z d.fu, .bool d.no]:=rfl
  rw[jZ]at ft
  refine iZ @g4 @fM @t5 @alD @dZ @ft ⟨?_⟩
  generalize dI:bn X _ aO _=aS
  have b7:ab X aS aO=zx [.str d.name, .Z d.at_, .bool d.ty.b, .bool d.ty.s, .Z d.ty.w, .str d.on, .Z d.fu, .bool d.no] 8:=by rw[<-dI,bm Zo];rfl
  have bK:bq X h j aS (aO+1):=⟨Zo,λe H=>by rw[<-dI];simp(disch:=omega) only[aI];exact bU.ad e H⟩
  clear dI
  refine ci (bR b7) ⟨?_⟩
  refine(Jt (j:=aO+1) (h:=aS) aA bT eS CJ.name Zo).Zm ?_
  rintro ae bb bs ⟨rfl,cq⟩
  have iL:=cq.le
  rw[<-cq.ad _ Zo]at b7
  have FH:eF d.ty=[.bool d.ty.b, .bool d.ty.s, .Z d.ty.w]:=rfl
  have ys:cg X bb 3 (.ptr aO 2)=some (.agg (eF d.ty)):=by
   rw[qv,bR b7,bR b7,bR b7];rfl
  refine ci @ys ⟨?_⟩
  refine(ae4 (j:=bs) (h:=bb) aA.todz d.ty Zo).Zm ?_
  rintro ae bF c7 ⟨rfl,dv⟩
  have jl:=dv.le
  rw[<-dv.ad _ Zo]at b7
  have cX:decide (m0 d.ty=[])=false:=by simp[awF CJ.type]
  have aaa:bq X h j bF c7:=(bK.trans cq).trans dv
  by_cases nW:d.on=[]
  ·have cP:decide (d.on≠[])=false:=by simp[nW]
   have eQ:decide (d.on=[])=true:=by simp[nW]
   have kp:ao X bF (.ptr aO 7)=some (.bool false):=by rw[bR b7, <-CJ.no nW];rfl
   have Ry:ao X bF (.ptr aO 5)=some (.str d.on):=by rw[bR b7];rfl
   refine e7 @cX @Ry @cP @eQ @kp @g4 @bD ⟨?_⟩
   exact⟨m,Zo,aa+1,bf t5,bf fM,bw,Zo,aaa⟩
  ·have cP:decide (d.on≠[])=true:=by simp[nW]
   have eQ:decide (d.on=[])=false:=by simp[nW]
   have Ry:ao X bF (.ptr aO 5)=some (.str d.on):=by rw[bR b7];rfl
   refine er @cX @Ry @cP ⟨?_⟩
   refine(Jt (j:=c7) (h:=bF) aA bT eS (CJ.on nW) Zo).Zm ?_
   rintro ae bX b2 ⟨rfl,dH⟩
   have h5:=dH.le
   rw[<-dH.ad _ Zo]at b7
   have aqH:ao X bX (.ptr aO 5)=some (.str d.on):=by rw[bR b7];rfl
   refine gt @aqH @eQ @g4 @bD ⟨?_⟩
   exact⟨m,Zo,aa+1,bf t5,bf fM,bw,Zo,aaa.trans dH⟩
def auF(aA:iE X)(bT:lP X)(eS:rC X){w:bk}(bJ:Ed w)(aL:(o X).a8<=j):
 aW X 143 [.str w] h j (λae T au=>ae= .bool false/\bq X h j T au) (λ_ _ _=>False):=by
 refine zA aA.todz (agP X) ?_
 rw[agQ]
 unfold Uu
 refine(Jt (j:=j) (h:=h) aA bT eS bJ aL).Zm ?_
 rintro ae aS bg ⟨rfl,bK⟩
 refine cL ⟨?_⟩
 exact⟨rfl,bK⟩
def ato(aA:iE X)(bT:lP X)(eS:rC X){P:Nat->Prop}{b:Nat}{a6:F}{mF:List bk}(aL:(o X).a8<=j)(Z:dO X h P b a6 1 (ii mF))(bC:∀e,P e->e<j)(bJ:∀w∈mF,Ed w):
 aW X 145 [a6, .func (.func 143) [] []] h j (λae T au=>ae= .bool false/\bq X h j T au) (λ_ _ _=>False):=by
 refine zA aA.todz (agT X) ?_
 rw[agU]
 unfold Uw
 refine aW.mono (ai:=λae T au=>ae= .Z (-1)/\bq X h j T au) (ay:=λ_ _ _=>False) ?_ ?_ (λ_ _ _ a=>a.elim)
 ·refine zA aA.todz (ahN X) ?_
  rw[ahO]
  unfold U2
  have eD:=Z.len
  have i6:=Z.many
  rw[show(ii mF).length=mF.length from by simp[ii]]at eD i6
  refine ci @eD ⟨?_⟩
  refine fU (λm M T aV=>∃(aa:Nat),M.g 0=some a6/\M.g 1=some (.func (.func 143) [] [])/\M.g 7=some (.Z (mF.length:Int))/\M.g 8=some (.Z (aa:Int))/\aa+m=mF.length/\bq X h j T aV)
   mF.length ⟨0,bw,bw,bw,gc,Zo,bq.refl _ _⟩ ?_
  rintro m M a2 aO ⟨aa,t0,t1,g4,gx,bG,bU⟩
  have jy:=bU.le
  cases m with
  |zero=>
   have d:=zu aa mF.length
   refine er @gx @g4 @d ⟨?_⟩
   exact⟨rfl,bU⟩
  |succ m=>
   have d:=zv aa mF.length
   have bD:=zy aa
   obtain⟨w,si⟩:=zw mF aa
   have dZ:=Z.f2 aa (by simp[ii];omega)
   have ib:=(Z.ad (λe H=>bU.ad e (bC e H))).cell aa [.str w] 0 (.str w) (by unfold ii;rw[Zx,si];rfl) rfl
   rw[Yj]at dZ
   rw[Yj,ZY]at ib
   refine e7 @gx @g4 @t1 @t0 @d @dZ @ib ⟨?_⟩
   refine(auF (j:=aO) (h:=a2) aA bT eS (bJ w (Zl si)) Zo).Zm ?_
   rintro ae aS bg ⟨rfl,bK⟩
   refine cV @gx @bD ⟨?_⟩
   exact⟨m,Zo,aa+1,bf t0,bf t1,bf g4,bw,Zo,bU.trans bK⟩
 ·rintro ae a2 aO ⟨rfl,bT⟩
  refine cL ⟨?_⟩
  exact⟨rfl,bT⟩
end
def auU:∀w<65,By ((w:Nat):Int)=((2^w-1:Nat):Int):=by decide+kernel
def akh{n w:Nat}(bJ:w<=64)(aL:n<18446744073709551616)(a:He (n:Int) (By (w:Int))=0):n<2^w:=by
 rw[auU w Zo]at a
 unfold He at a
 have c1:=(BitVec.ofInt 64 (n:Int)&&& ~~~ BitVec.ofInt 64 ((2^w-1:Nat):Int)).isLt
 rw[aft Zo Zo]at a
 have b6:BitVec.ofInt 64 (n:Int)&&& ~~~ BitVec.ofInt 64 ((2^w-1:Nat):Int)=0#64:=BitVec.eq_of_toNat_eq (by rw[BitVec.toNat_ofNat];omega)
 rw[BitVec.ofInt_natCast,BitVec.ofInt_natCast]at b6
 apply Nat.lt_pow_two_of_testBit
 intro i aJ
 by_cases E1:i<64
 ·have aj:=congrArg (λv=>v.getLsbD i) b6
  simp only[BitVec.getLsbD_and,BitVec.getLsbD_not,BitVec.getLsbD_ofNat,E1,Yp,Bool.true_and,Nat.testBit_two_pow_sub_one,BitVec.getLsbD_zero]at aj
  have:decide (i<w)=false:=by simp;omega
  rw[this]at aj
  simpa using aj
 ·exact Nat.testBit_lt_two_pow (ZR aL (by
   have:(18446744073709551616:Nat)=2^64:=by decide
   rw[this]
   exact Nat.pow_le_pow_right Zd Zo))
def atD{t:d9}{n:Int}(a:Oy t n):n<2^(if t.s then t.w-1 else t.w).toNat:=by
 obtain⟨Q,U,ar,aK⟩:=a
 obtain⟨m,rfl⟩:=Yl ar
 have bJ:=Nb Q
 have key:∀w:Nat,w<=64->He (m:Int) (By (w:Int))=0->(m:Int)<2^w:=λw bJ a=>by
  have:=akh bJ Zo a
  have U:((2^w:Nat):Int)=(2:Int)^w:=by simp
  rw[<-U];omega
 unfold uJ at U
 cases aD:t.s with
 |true=>
  rw[Zq aD]at U
  rw[Zq rfl]
  by_cases b6:t.w-1=0
  ·rw[Zq b6]at U
   have:(m:Int)=0:=by simpa using U
   rw[b6,this];decide
  ·rw[Zg b6]at U
   obtain⟨w,yG⟩:=Yl (by omega:0<=t.w-1)
   rw[yG]at U ⊢
   simp only[Df,Zp,Zh]at U
   exact key w Zo U.2
 |false=>
  rw[Zg (by simp[aD])]at U
  rw[Zg Zs]
  obtain⟨w,yG⟩:=Yl (by omega:0<=t.w)
  simp only[Df,Zp,Zh]at U
  rw[yG]at U ⊢
  exact key w Zo U.2
section
variable{X:ck}{h T gb a2 aS:V an}{j au aO bg:Nat}{s:bk}
def aeC{n b:Int}(b6:0<=n)(aj:0<=b)(nh:b<=64)(a:n<2^b.toNat):aF .shr (.int .u64 n) (.Z b)=some (.int .u64 0):=by
 have bD:yH b 0=false:=by rw[tr];simp;omega
 have cF:min b.toNat IntKind.u64.bits=b.toNat:=by
  have:IntKind.u64.bits=64:=rfl
  rw[this];omega
 have fx:n.fdiv (2^b.toNat)=0:=by
  rw[Int.fdiv_eq_ediv_of_nonneg _ (by exact Int.le_of_lt (Int.lt_of_le_of_lt b6 a))]
  exact Int.ediv_eq_zero_of_lt b6 a
 simp only[aF,lG,eP,Hd,bD,jF,cF,fx]
 rfl
def atE(aA:iE X){P:Nat->Prop}{J:bE}{v:F}(aL:(o X).a8<=j)(bx:cO X h P J v)(bC:∀e,P e->e<j)(aN:J.kind=1)(aC:Oy J.ty J.n):
 aW X 216 [v] h j (λae T au=>ae= .bool true/\bq X h j T au) (λ_ _ _=>False):=by
 refine zA aA.todz (aip X) ?_
 rw[aiq]
 unfold Vl
 obtain⟨b,a6,cH,bo,rfl,aj,a0,bh,cl,a3,a4,a5,hB,hY,iU,cC,has⟩:=id bx.open
 have f1:=bC b aj
 have LW:=atD aC
 have bJ:=Nb aC.1
 have xV:decide (J.kind=1)=true:=by simp[aN]
 have FH:eF J.ty=[.bool J.ty.b, .bool J.ty.s, .Z J.ty.w]:=rfl
 have ys:cg X h 3 (.ptr b 4)=some (.agg (eF J.ty)):=by rw[qv,a4,a5,hB];rfl
 cases aD:J.ty.s with
 |true=>
  rw[aD]at a5
  rw[Zq aD]at LW
  have bD:aF .sub (.Z J.ty.w) (.Z 1)=some (.Z (J.ty.w-1)):=w3 Zo Zo
  have Hs:decide (J.ty.w-1=64)=false:=by simp only[Zc];omega
  have lE:=aeC aC.2.2.1 Zo Zo LW
  refine iZ @a5 @hB @bD @a0 @xV @ys ⟨?_⟩
  refine(Dr (j:=j) (h:=h) aA.todz J.ty aL).Zm ?_
  rintro ae a2 aO ⟨rfl,bU⟩
  have OQ:ao X a2 (.ptr b 7)=some (.int .u64 J.n):=by rw[bU.fT _ _ f1];exact hY
  have bp:ku J.ty=true:=aC.1
  rw[bp]
  refine er @Hs @OQ @lE ⟨?_⟩
  exact⟨rfl,bU⟩
 |false=>
  rw[aD]at a5
  rw[Zg (by simp[aD])]at LW
  refine gA @a5 @hB @a0 @xV @ys ⟨?_⟩
  refine(Dr (j:=j) (h:=h) aA.todz J.ty aL).Zm ?_
  rintro ae a2 aO ⟨rfl,bU⟩
  have OQ:ao X a2 (.ptr b 7)=some (.int .u64 J.n):=by rw[bU.fT _ _ f1];exact hY
  have bp:ku J.ty=true:=aC.1
  rw[bp]
  by_cases E1:J.ty.w=64
  ·have Hs:decide (J.ty.w=64)=true:=by simp[E1]
   refine ci @Hs ⟨?_⟩
   exact⟨rfl,bU⟩
  ·have Hs:decide (J.ty.w=64)=false:=by simp[E1]
   have lE:=aeC aC.2.2.1 Zo Zo LW
   refine er @Hs @OQ @lE ⟨?_⟩
   exact⟨rfl,bU⟩
def auq(b:Nat):dn X h .eql 47 false .cz (.ptr b 0)=some (.bool false):=Zk
def akp(aA:iE X){P:Nat->Prop}{b:Nat}{a6:F}{cb:List bE}{bo:List F}(Z:dO X h P b a6 1 (bo.map λv=>[v]))(Fj:dw X h P cb bo):
 aW X 215 [a6, .cz] h j (λae T au=>ae= .bool false/\T=h/\j<=au) (λ_ _ _=>False):=by
 refine zA aA.todz (ain X) ?_
 rw[aio]
 unfold Vk
 refine aW.mono (ai:=λae T au=>ae= .Z (-1)/\T=h/\j<=au) (ay:=λ_ _ _=>False) ?_ ?_ (λ_ _ _ a=>a.elim)
 ·refine zA aA.todz (aiJ X) ?_
  rw[aiK]
  unfold Vv
  have eD:=Z.len
  have i6:=Z.many
  rw[Zn]at eD i6
  refine ci @eD ⟨?_⟩
  refine fU (λm M T aV=>∃(aa:Nat),M.g 0=some a6/\M.g 1=some .cz/\M.g 7=some (.Z (bo.length:Int))/\M.g 8=some (.Z (aa:Int))/\aa+m=bo.length/\T=h/\j<=aV)
   bo.length ⟨0,bw,bw,bw,gc,Zo,rfl,Zo⟩ ?_
  rintro m M aS bg ⟨aa,t0,t1,g4,gx,bG,rfl,kR⟩
  cases m with
  |zero=>
   have d:=zu aa bo.length
   refine er @gx @g4 @d ⟨?_⟩
   exact⟨rfl,rfl,kR⟩
  |succ m=>
   have d:=zv aa bo.length
   have bD:=zy aa
   obtain⟨v,bB⟩:=zw bo aa
   have AT:=Fj.len
   obtain⟨J,bx⟩:=zw cb aa
   obtain⟨f9,tn,yr⟩:=Fj.get aa J bx
   rw[bB]at tn
   cases tn
   obtain⟨Ew,rfl,_,_⟩:=yr.ptr
   obtain⟨b4,b7,cN⟩:=Z.one bB
   refine e7 @gx @g4 @t1 @t0 @d @b4 (Za @b7 (Za @auq @bD)) ⟨?_⟩
   exact⟨m,Zo,aa+1,bf t0,bf t1,bf g4,bw,Zo,rfl,kR⟩
 ·rintro ae a2 aO ⟨rfl,rfl,bT⟩
  refine cL ⟨?_⟩
  exact⟨rfl,rfl,bT⟩
end
def tF(B:Int):Option (Int×Bool×Bool×Bool):=
 if B=1 then some (0,false,true,true)else if B=2 then some (0,true,false,false)else if B=3\/B=4\/B=5 then some (1,false,false,false)else if B=6 then some (1,true,false,false)
 else if B=19\/B=20 then some (1,false,false,true)else if B=23 then some (3,false,false,false)else if B=24 then some (2,true,false,false)else if B=25 then some (-1,true,false,false)
 else if B=26 then some (1,false,true,false)else none
def pS(s:Int×Bool×Bool×Bool):List F:=[.Z s.1, .bool s.2.1, .bool s.2.2.1, .bool s.2.2.2]
structure xD(X:ck):Prop where
 at_:∀h,∃v,ao X h (.ptr 5 0)=some v/\∀B:Int,kr X h 3 (.agg [.Z 0, .bool false, .bool false, .bool false]) v (.Z B) true=some (.tuple [.agg (pS ((tF B).getD (0,false,false,false))), .bool (tF B).isSome])
structure ajH(J:bE)(s:Int×Bool×Bool×Bool):Prop where
 B7:0<=s.1->(J.args.length:Int)=s.1
 adz:s.2.1=true->Ed J.name
 Nl:s.2.1=false->J.name=[]
 ax5:s.2.2.1=true->ku J.ty=true
 dN:s.2.2.1=false->J.ty=dN
 a8:s.2.2.2=false->J.n=0
def awS{J:bE}(a:BU ln J):ajH J ((tF J.kind).getD (2,false,false,false)):=by
 have Q:=a.bV
 have U:=a.cw
 have oG:=a.B7
 have iv:=a.nm
 have CV:=a.Nl
 have yC:=a.ty
 have yD:=a.dN
 have gU:=a.a8
 unfold rL at oG
 unfold te at iv CV
 unfold tf at yC yD
 generalize J.kind=B at*
 unfold tF
 have aN:B=1\/B=2\/(B=3\/B=4\/B=5)\/B=6\/(B=19\/B=20)\/B=23\/B=24\/B=25\/B=26\/(7<=B/\B<=18\/B=21\/B=22):=Zo
 rcases aN with aN|aN|aN|aN|aN|aN|aN|aN|aN|aN
 ·subst aN
  exact⟨λ_=>by have:=oG 0 Zs;simp[this],λa=>by simp at a,λ_=>CV Zo,λ_=>yC Zo,λa=>by simp at a,λa=>by simp at a⟩
 ·subst aN
  exact⟨λ_=>by have:=oG 0 Zs;simp[this],λ_=>iv Zo,λa=>by simp at a,λa=>by simp at a,λ_=>yD Zo,λ_=>gU Zo Zo Zo⟩
 ·rw[Zg Zo,Zg Zo,Zq aN]
  rw[Zg Zo,Zg Zo,Zq Zo]at oG
  exact⟨λ_=>by have:=oG 1 rfl;simp[this],λa=>by simp at a,λ_=>CV Zo,λa=>by simp at a,λ_=>yD Zo,λ_=>gU Zo Zo Zo⟩
 ·subst aN
  exact⟨λ_=>by have:=oG 1 Zs;simp[this],λ_=>iv Zo,λa=>by simp at a,λa=>by simp at a,λ_=>yD Zo,λ_=>gU Zo Zo Zo⟩
 ·rw[Zg Zo,Zg Zo,Zg Zo,Zg Zo,Zq aN]
  rw[Zg Zo,Zg Zo,Zq Zo]at oG
  exact⟨λ_=>by have:=oG 1 rfl;simp[this],λa=>by simp at a,λ_=>CV Zo,λa=>by simp at a,λ_=>yD Zo,λa=>by simp at a⟩
 ·subst aN
  exact⟨λ_=>by have:=oG 3 Zs;simp[this],λa=>by simp at a,λ_=>CV Zo,λa=>by simp at a,λ_=>yD Zo,λ_=>gU Zo Zo Zo⟩
 ·subst aN
  exact⟨λ_=>by have:=oG 2 Zs;simp[this],λ_=>iv Zo,λa=>by simp at a,λa=>by simp at a,λ_=>yD Zo,λ_=>gU Zo Zo Zo⟩
 ·subst aN
  exact⟨λa=>by simp at a,λ_=>iv Zo,λa=>by simp at a,λa=>by simp at a,λ_=>yD Zo,λ_=>gU Zo Zo Zo⟩
 ·subst aN
  exact⟨λ_=>by have:=oG 1 Zs;simp[this],λa=>by simp at a,λ_=>CV Zo,λ_=>yC Zo,λa=>by simp at a,λ_=>gU Zo Zo Zo⟩
 ·rw[Zg Zo,Zg Zo,Zg Zo,Zg Zo,Zg Zo,Zg Zo,Zg Zo,Zg Zo,Zg Zo]
  rw[Zg Zo,Zg Zo,Zg Zo,Zg Zo]at oG
  exact⟨λ_=>by have:=oG 2 rfl;simp[this],λa=>by simp at a,λ_=>CV Zo,λa=>by simp at a,λ_=>yD Zo,λ_=>gU Zo Zo Zo⟩
section
variable{X:ck}{h T gb a2 aS:V an}{j au aO bg:Nat}{s:bk}
structure afS(G:Prop):Prop where
 out:G
def KP{G rD:Prop}(SF:afS G->rD)(axE:G):rD:=SF ⟨axE⟩
def akP:dn X h .neq 4 false (.bool false) (.bool false)=some (.bool false):=Zk
def akQ:dn X h .neq 4 false (.bool true) (.bool true)=some (.bool false):=Zk
def ax6:dn X h .neq 41 false (.agg [.bool false, .bool false, .Z 0]) (.agg [.bool false, .bool false, .Z 0])=some (.bool false):=Zk
def avt(b:Nat):dn X h .neq 47 true (.ptr b 0) .cz=some (.bool true):=Zk
set_option maxRecDepth 100000 in
def atN(aA:iE X)(bT:lP X)(eS:rC X)(iJ:xD X){P:Nat->Prop}{J:bE}{v:F}(aL:(o X).a8<=j)(bx:cO X h P J v)(bC:∀e,P e->e<j)(bJ:fj ln J):
 aW X 191 [v] h j (λae T au=>ae= .bool true/\bq X h j T au) (λ_ _ _=>False):=by
 refine zA aA.todz (ahL X) ?_
 rw[ahM]
 unfold U1
 rw[fj.eq]at bJ
 obtain⟨bJ,yF⟩:=bJ
 have lE:=awS bJ
 obtain⟨b,a6,cH,bo,rfl,aj,a0,bh,cl,a3,a4,a5,hB,hY,iU,cC,has⟩:=id bx.open
 have f1:=bC b aj
 obtain⟨fk,L8,wN⟩:=iJ.at_ h
 have jz:=wN J.kind
 generalize FF:(tF J.kind).getD (2,false,false,false)=s at lE
 have arq:∀am:Int×Bool×Bool×Bool,pS am=[.Z am.1, .bool am.2.1, .bool am.2.2.1, .bool am.2.2.2]:=λ_=>rfl
 rw[arq]at jz
 refine he @L8 @a0 @jz ⟨?_⟩
 refine j3 (λcZ T aV=>cZ.g 0=some (.ptr b 0)/\cZ.g 3=some (.ptr (j+9) 0)/\bq X h j T aV/\j+9<aV/\ab X T (j+9)=zx (pS s) 4) (λaa bG=> ?_) ?_
 ·cases b1:tF J.kind with
  |some am=>
   rw[b1]at FF
   simp only[YP]at FF
   subst FF
   simp only[YP,Yc]
   refine cL ⟨?_⟩
   exact bG _ _ _ ⟨bw,bw,dU,Zo,by rw[bm Zo];rfl⟩
  |none=>
   rw[b1]at FF
   simp only[Option.getD_none]at FF
   subst FF
   simp only[Option.getD_none,Z3]
   refine cL ⟨?_⟩
   exact bG _ _ _ ⟨bw,bw,dU,Zo,by rw[bm Zo];rfl⟩
 rintro M a2 aO ⟨t0,t3,bU,r9,b4⟩
 have rd:∀T,Go.bi.ab X T (j+9)=zx (pS s) 4->ao X T (.ptr (j+9) 0)=some (.Z s.1)/\ao X T (.ptr (j+9) 1)=some (.bool s.2.1)/\ao X T (.ptr (j+9) 2)=some (.bool s.2.2.1)/\ao X T (.ptr (j+9) 3)=some (.bool s.2.2.2):=λT a=>
  ⟨by rw[bR a];rfl,by rw[bR a];rfl,by rw[bR a];rfl,by rw[bR a];rfl⟩
 have kQ:=bJ.bV
 have h4:=bJ.cw
 have cX:decide (J.kind<1)=false:=by simp only[Zc];omega
 have cP:decide ((26:Int)<J.kind)=false:=by simp only[Zc];omega
 obtain⟨jp,eW,e5,hy⟩:=rd a2 b4
 have G8:ao X a2 (.ptr b 0)=some (.Z J.kind):=by rw[bU.fT _ _ f1];exact a0
 have Ha:ao X a2 (.ptr b 8)=some a6:=by rw[bU.fT _ _ f1];exact iU
 have eD:=cC.len
 have AT:=has.len
 rw[Zn,AT]at eD
 have u0:∀e,P e->ab X a2 e=ab X h e:=λe H=>bU.ad e (bC e H)
 have jy:=bU.le
 apply KP
 ·intro asE
  by_cases oG:0<=s.1
  all_goals
   first
   |(
     have eQ:decide ((0:Int)<=s.1)=true:=by simp[oG]
     have iq:decide ((J.args.length:Int)≠s.1)=false:=by simp[lE.B7 oG]
     refine he @t0 @t3 (Za @G8 (Za @cX (Za @cP (Za @jp (Za @eQ (Za @Ha (Za @eD (Za @jp @iq)))))))) ⟨?_⟩)
   |(
     have eQ:decide ((0:Int)<=s.1)=false:=by simp[oG]
     refine he @t0 @t3 (Za @G8 (Za @cX (Za @cP (Za @jp (Za @eQ @Ha))))) ⟨?_⟩)
   refine(akp (j:=aO+34) (h:=a2) aA (cC.ad u0) (dw.ad u0 _ _ has)).Zm ?_
   rintro ae aS bg ⟨rfl,rfl,ge⟩
   refine x9 ⟨?_⟩
   refine j3 (λcZ T aV=>cZ.g 0=some (.ptr b 0)/\cZ.g 3=some (.ptr (j+9) 0)/\bq X h j T aV/\j+9<aV/\ab X T (j+9)=zx (pS s) 4) (λaa bG=> ?_) ?_
   ·refine cL ⟨?_⟩
    exact bG _ _ _ ⟨bf t0,bf t3,bU.more Zo,Zo,b4⟩
   exact asE.out
 clear t0 t3 bU b4 jp eW e5 hy G8 Ha u0 jy
 rintro M bb bs ⟨t0,t3,cq,yu,cN⟩
 obtain⟨jp,eW,e5,hy⟩:=rd bb cN
 have iL:=cq.le
 have OO:ao X bb (.ptr b 2)=some (.str J.name):=by rw[cq.fT _ _ f1];exact cl
 have aqs:s.2.1=true->decide (J.name≠[])=true:=λa=>by simp[(lE.adz a).ne]
 have aqr:s.2.1=false->decide (J.name≠[])=false:=λa=>by simp[lE.Nl a]
 have kp:(J.no=true/\decide (J.kind≠6)=false)\/(J.no=false/\decide ((0:Int)≠0)=false):=by
  cases b1:J.no with
  |true=>exact .inl ⟨rfl,by simp[bJ.no b1]⟩
  |false=>exact .inr ⟨rfl,rfl⟩
 apply KP
 ·intro asB
  rcases Bool.eq_false_or_eq_true s.2.1 with k8|k8
  all_goals
   first
   |(
     have wj:=aqs k8
     rw[k8]at eW
     refine he @t0 @t3 (Za @eW (Za @OO (Za @wj @akQ))) ⟨?_⟩
     refine(Jt (j:=bs+33) (h:=bb) aA bT eS (lE.adz k8) Zo).Zm ?_
     rintro ae bF c7 ⟨rfl,dv⟩
     have jl:=dv.le
     have rZ:bq X h j bF c7:=cq.trans (dv.kv Zo)
     have Rr:j+9<c7:=Zo
     have fy:ab X bF (j+9)=zx (pS s) 4:=by rw[dv.ad _ Zo];exact cN
     have OP:ao X bF (.ptr b 3)=some (.bool J.no):=by rw[rZ.fT _ _ f1];exact a3
     have Wc:ao X bF (.ptr b 0)=some (.Z J.kind):=by rw[rZ.fT _ _ f1];exact a0)
   |(
     have wj:=aqr k8
     rw[k8]at eW
     refine he @t0 @t3 (Za @eW (Za @OO (Za @wj @akP))) ⟨?_⟩
     have rZ:bq X h j bb (bs+33):=cq.more Zo
     have Rr:j+9<bs+33:=Zo
     have fy:ab X bb (j+9)=zx (pS s) 4:=cN
     have OP:ao X bb (.ptr b 3)=some (.bool J.no):=by rw[rZ.fT _ _ f1];exact a3
     have Wc:ao X bb (.ptr b 0)=some (.Z J.kind):=by rw[rZ.fT _ _ f1];exact a0)
   rcases kp with ⟨abB,xV⟩|⟨abB,xV⟩
   all_goals
    rw[abB]at OP
    refine he @t0 @t3 (Za @OP (Za @Wc @xV)) ⟨?_⟩
    refine j3 (λcZ T aV=>cZ.g 0=some (.ptr b 0)/\cZ.g 3=some (.ptr (j+9) 0)/\bq X h j T aV/\j+9<aV/\ab X T (j+9)=zx (pS s) 4) (λaa bG=> ?_) ?_
    ·refine cL ⟨?_⟩
     exact bG _ _ _ ⟨bf t0,bf t3,rZ.more Zo,Zo,fy⟩
    exact asB.out
 clear t0 t3 cq cN jp eW e5 hy OO iL
 rintro M bX b2 ⟨t0,t3,dH,aqt,fY⟩
 obtain⟨jp,eW,e5,hy⟩:=rd bX fY
 have h5:=dH.le
 have FH:eF J.ty=[.bool J.ty.b, .bool J.ty.s, .Z J.ty.w]:=rfl
 have ys:cg X bX 3 (.ptr b 4)=some (.agg (eF J.ty)):=by rw[qv,dH.fT _ _ f1,dH.fT _ _ f1,dH.fT _ _ f1,a4,a5,hB];rfl
 apply KP
 ·intro asD
  rcases Bool.eq_false_or_eq_true s.2.2.1 with k8|k8
  all_goals
   first
   |(
     have bp:=lE.ax5 k8
     rw[k8]at e5
     refine he @t0 @t3 (Za @e5 @ys) ⟨?_⟩
     refine(Dr (j:=b2) (h:=bX) aA.todz J.ty Zo).Zm ?_
     rintro ae cf eK ⟨rfl,eR⟩
     rw[bp]
     have r8:=eR.le
     have rZ:bq X h j cf eK:=dH.trans (eR.kv Zo)
     have Rr:j+9<eK:=Zo
     have fy:ab X cf (j+9)=zx (pS s) 4:=by rw[eR.ad _ Zo];exact fY
     have We:ao X cf (.ptr b 7)=some (.int .u64 J.n):=by rw[rZ.fT _ _ f1];exact hY
     have NJ:ao X cf (.ptr (j+9) 3)=some (.bool s.2.2.2):=(rd cf fy).2.2.2)
   |(
     have bp:=lE.dN k8
     rw[k8]at e5
     have arP:eF J.ty=[.bool false, .bool false, .Z 0]:=by rw[bp];rfl
     rw[arP]at ys
     refine he @t0 @t3 (Za @e5 (Za @ys @ax6)) ⟨?_⟩
     have rZ:bq X h j bX b2:=dH
     have Rr:j+9<b2:=aqt
     have fy:ab X bX (j+9)=zx (pS s) 4:=fY
     have We:ao X bX (.ptr b 7)=some (.int .u64 J.n):=by rw[rZ.fT _ _ f1];exact hY
     have NJ:ao X bX (.ptr (j+9) 3)=some (.bool s.2.2.2):=(rd bX fy).2.2.2)
   rcases Bool.eq_false_or_eq_true s.2.2.2 with qp|qp
   all_goals
    first
    |(
      have wj:decide ((0:Int)≠0)=false:=rfl
      rw[qp]at NJ
      have aAJ:s.2.2.2=true:=qp)
    |(
      have wj:decide (J.n≠0)=false:=by simp[lE.a8 qp]
      rw[qp]at NJ)
    refine he @t0 @t3 (Za @NJ (Za @We @wj)) ⟨?_⟩
    refine j3 (λcZ T aV=>cZ.g 0=some (.ptr b 0)/\cZ.g 3=some (.ptr (j+9) 0)/\bq X h j T aV/\j+9<aV/\ab X T (j+9)=zx (pS s) 4) (λaa bG=> ?_) ?_
    ·refine cL ⟨?_⟩
     exact bG _ _ _ ⟨bf t0,bf t3,rZ.more Zo,Zo,fy⟩
    exact asD.out
 clear t0 t3 dH fY jp eW e5 hy h5 ys
 rintro M cx eu ⟨t0,t3,fa,aAt,e1⟩
 have nn:=fa.le
 have El:ao X cx (.ptr b 0)=some (.Z J.kind):=by rw[fa.fT _ _ f1];exact a0
 have Wf:ao X cx (.ptr b 7)=some (.int .u64 J.n):=by rw[fa.fT _ _ f1];exact hY
 have Wg:ao X cx (.ptr b 8)=some a6:=by rw[fa.fT _ _ f1];exact iU
 have n2:∀e,P e->ab X cx e=ab X h e:=λe H=>fa.ad e (bC e H)
 show al _ _
 by_cases Q:J.kind=1
 ·have bD:decide (J.kind=1)=true:=by simp[Q]
  refine er @t0 @El @bD ⟨?_⟩
  refine(atE (j:=eu) (h:=cx) aA Zo (cO.ad n2 _ _ bx) (λe H=>zt (bC e H)) Q (bJ.ady Q)).Zm ?_
  rintro ae dx hW ⟨rfl,g9⟩
  exact⟨rfl,fa.trans (g9.kv Zo)⟩
 have bD:decide (J.kind=1)=false:=by simp[Q]
 by_cases HV:J.kind=19
 ·have EO:decide (J.kind=19)=true:=by simp[HV]
  have Pz:decide (J.n<=63)=true:=by simp[(bJ.l1 (.inl HV)).2]
  refine iZ @t0 @El @bD @EO @Wf @Pz ⟨?_⟩
  exact⟨rfl,fa.more Zo⟩
 have EO:decide (J.kind=19)=false:=by simp[HV]
 by_cases Qk:J.kind=20
 ·have HB:decide (J.kind=20)=true:=by simp[Qk]
  have Pz:decide (J.n<=63)=true:=by simp[(bJ.l1 (.inr Qk)).2]
  refine e7 @t0 @El @bD @EO @HB @Wf @Pz ⟨?_⟩
  exact⟨rfl,fa.more Zo⟩
 have HB:decide (J.kind=20)=false:=by simp[Qk]
 by_cases Ql:J.kind=21
 ·have K0:decide (J.kind=21)=true:=by simp[Ql]
  obtain⟨l,r,wC,aC⟩:=bJ.wq Ql
  obtain⟨av,aqk,gl⟩:=has.get 0 l (by rw[wC];rfl)
  obtain⟨cD,cp,dF⟩:=(cC.ad n2).one aqk
  obtain⟨n4,adb,atm,aBc,rfl,uE,d7,_,_,_,_,_,_,_,EE,ada,acS⟩:=(cO.ad n2 _ _ gl).open
  have aec:dW 1 a6 (.Z 0)=some (.ptr cH 0):=cD
  rcases aC with aC|⟨aC,x,ah,MO⟩
  ·have s1:decide (l.kind=1)=true:=by simp[aC]
   refine e7 @t0 @El @bD @EO @HB @K0 (Za @Wg (Za @aec (Za @cp (Za @d7 @s1)))) ⟨?_⟩
   exact⟨rfl,fa.more Zo⟩
  ·have s1:decide (l.kind=1)=false:=by simp[aC]
   have al1:decide (l.kind=4)=true:=by simp[aC]
   obtain⟨aBQ,ar4,ar2⟩:=acS.get 0 x (by rw[ah];rfl)
   obtain⟨fA,hx,xj⟩:=ada.one ar4
   obtain⟨aBP,rfl,to,lN⟩:=ar2.ptr
   have au6:dW 1 adb (.Z 0)=some (.ptr atm 0):=fA
   have ac5:=ada.len
   rw[Zn,acS.len,ah]at ac5
   have atG:dX adb=some (.Z 1):=ac5
   have ex:decide (x.kind=1)=true:=by simp[MO]
   have alT:decide ((1:Int)=1)=true:=rfl
   refine e7 @t0 @El @bD @EO @HB @K0 (Za @Wg (Za @aec (Za @cp (Za @d7 (Za @s1 (Za @al1 (Za @EE (Za @atG (Za @alT (Za @au6 (Za @hx (Za @avt (Za @lN @ex))))))))))))) ⟨?_⟩
   exact⟨rfl,fa.more Zo⟩
 have K0:decide (J.kind=21)=false:=by simp[Ql]
 refine iZ @t0 @El @bD @EO @HB @K0 ⟨?_⟩
 exact⟨rfl,fa.more Zo⟩
end
def apV{B:Nat}{J K:bE}(a:gK (B+1) J<=B)(aE:K∈J.args):gK B K+1<=B:=by
 have bp:∀(l:List bE) (b6:Nat),(∀K∈l,gK B K<=l.foldl (λa K=>max a (gK B K)) b6)/\b6<=l.foldl (λa K=>max a (gK B K)) b6:=by
  intro l
  induction l with
  |nil=>intro b6;exact⟨λ_ a=>by simp at a,Zi _⟩
  |cons b l ak=>
   intro b6
   obtain⟨ht,gg⟩:=ak (max b6 (gK B b))
   refine⟨λx ah=> ?_,Zz (Nat.le_max_left _ _) gg⟩
   rcases Zt.1 ah with rfl|ah
   ·exact Zz (Nat.le_max_right _ _) gg
   ·exact ht x ah
 have Q:=(bp J.args 0).1 K aE
 have U:gK (B+1) J=J.args.foldl (λa K=>max a (gK B K)) 0+1:=rfl
 omega
def apX{B:Nat}{J:bE}:1<=gK (B+1) J:=by
 have U:gK (B+1) J=J.args.foldl (λa K=>max a (gK B K)) 0+1:=rfl
 omega
def afq{bA:iG}:∀{l:List bE}{K:bE},gp bA l->K∈l->fj bA K:=by
 intro l
 induction l with
 |nil=>intro K _ a;cases a
 |cons b l ak=>
  intro K a aE
  rw[gp]at a
  rcases Zt.1 aE with rfl|aE
  ·exact a.1
  ·exact ak a.2 aE
section
variable{X:ck}{h T gb a2 aS:V an}{j au aO bg:Nat}{s:bk}
structure Ac(X:ck)(dc pf n4:Nat)(d:Int)(h:V an):Prop where
 KQ:∃c,ab X h dc=some (.cells c 1 .own)/\c.get 0=some (.Z d)
 Oe:ao X h (.ptr pf 0)=some (.Z 0)
 look:ao X h (.ptr n4 0)=some (.func (.func 190) [] [.ptr dc 0, .ptr pf 0, .ptr n4 0])
def Ac.ad{dc pf n4:Nat}{d:Int}(a:Ac X dc pf n4 d a2)(B:∀e,e=dc\/e=pf\/e=n4->ab X aS e=ab X a2 e):Ac X dc pf n4 d aS:=by
 obtain⟨c,Q,U⟩:=a.KQ
 exact⟨⟨c,by rw[B dc (.inl rfl)];exact Q,U⟩,zE (B pf (.inr (.inl rfl))) a.Oe,zE (B n4 (.inr (.inr rfl))) a.look⟩
set_option maxRecDepth 100000 in
def atK(aA:iE X)(bT:lP X)(eS:rC X)(iJ:xD X){P:Nat->Prop}{dc pf n4 fE:Nat}(wJ:(o X).a8<=dc)(azG:dc<fE)(aAR:pf<fE)(mQ:n4<fE)(CJ:pf≠dc)(jJ:n4≠dc)(bC:∀e,P e->e<fE/\e≠dc):
 ∀(B:Nat) (J:bE) (v:F) (h:V an) (j:Nat),B<=200->fE<=j->gK (B+1) J<=B->fj ln J->cO X h P J v->Ac X dc pf n4 ((200-B:Nat):Int) h->
  aW X 190 [v, .ptr dc 0, .ptr pf 0, .ptr n4 0] h j (λae T au=>ae= .tuple []/\Ac X dc pf n4 ((200-B:Nat):Int) T/\j<=au/\∀e,e<j->e≠dc->ab X T e=ab X h e) (λ_ _ _=>False):=by
 intro B
 induction B with
 |zero=>intro J v h j _ _ a;have:=apX (B:=0) (J:=J);omega
 |succ B ak=>
  intro J v h j aN aL gD bJ bx gr
  refine zA aA.todz (ahJ X) ?_
  rw[ahK]
  unfold U0
  obtain⟨b,a6,cH,bo,rfl,aj,_,_,_,_,_,_,_,_,iU,cC,has⟩:=id bx.open
  obtain⟨c,b4,b7⟩:=gr.KQ
  have ut:=bC b aj
  have bD:aF .add (.Z ((200-(B+1):Nat):Int)) (.Z 1)=some (.Z ((200-B:Nat):Int)):=by rw[eT Zo Zo,show((200-(B+1):Nat):Int)+1=((200-B:Nat):Int) by omega]
  refine he (bR b4) @b7 @bD ⟨?_⟩
  generalize et:bn X h dc _=a2
  have PZ:∃f0,ab X a2 dc=some (.cells f0 1 .own)/\f0.get 0=some (.Z ((200-B:Nat):Int)):=⟨dQ c 0 [.Z ((200-B:Nat):Int)],by rw[<-et,bm wJ];rfl,ru c 0 _⟩
  have bV:∀e,e≠dc->ab X a2 e=ab X h e:=λe H=>by rw[<-et,aI wJ H]
  clear et
  have aor:Ac X dc pf n4 ((200-B:Nat):Int) a2:=⟨PZ,zE (bV _ CJ) gr.Oe,zE (bV _ jJ) gr.look⟩
  have u0:∀e,P e->ab X a2 e=ab X h e:=λe H=>bV e (bC e H).2
  have Is:=cO.ad u0 _ _ bx
  refine ci @NB ⟨?_⟩
  refine(atN (j:=j) (h:=a2) aA bT eS iJ Zo Is (λe H=>zt (bC e H).1) bJ).Zm ?_
  rintro ae aS bg ⟨rfl,bK⟩
  have ge:=bK.le
  have LK:Ac X dc pf n4 ((200-B:Nat):Int) aS:=aor.ad (λe H=>bK.ad e (by rcases H with rfl|rfl|rfl<;>omega))
  obtain⟨dG,P1,am8⟩:=LK.KQ
  have ajQ:ao X aS (.ptr b 8)=some a6:=by rw[bK.fT _ _ Zo,cJ,bV _ ut.2, <-cJ];exact iU
  have eD:=cC.len
  have AT:=has.len
  rw[Zn,AT]at eD
  have i6:=cC.many
  rw[Zn,AT]at i6
  have cP:decide ((200:Int)<((200-B:Nat):Int))=false:=by simp only[Zc];omega
  refine gA (bR P1) @am8 @cP @ajQ @eD ⟨?_⟩
  refine fU (λm M T aV=>∃(aa:Nat),M.g 1=some (.ptr dc 0)/\M.g 2=some (.ptr pf 0)/\M.g 3=some (.ptr n4 0)/\M.g 12=some a6/\M.g 13=some (.Z (J.args.length:Int))/\M.g 14=some (.Z (aa:Int))/\aa+m=J.args.length
   /\Ac X dc pf n4 ((200-B:Nat):Int) T/\j<=aV/\∀e,e<j->e≠dc->ab X T e=ab X h e)
   J.args.length ⟨0,bw,bw,bw,bw,bw,gc,Zo,LK,ge,λe Q U=>by rw[bK.ad e Q,bV e U]⟩ ?_
  rintro m M bb bs ⟨aa,t1,ez,t3,tG,lj,oj,bG,H6,iL,nR⟩
  cases m with
  |zero=>
   have d:=zu aa J.args.length
   obtain⟨hd,ws,am9⟩:=H6.KQ
   have cF:aF .sub (.Z ((200-B:Nat):Int)) (.Z 1)=some (.Z ((200-(B+1):Nat):Int)):=by rw[w3 Zo Zo,show((200-B:Nat):Int) -1=((200-(B+1):Nat):Int) by omega]
   refine e7 @oj @lj @t1 @d (bR ws) @am9 @cF ⟨?_⟩
   refine⟨rfl,⟨⟨dQ hd 0 [.Z ((200-(B+1):Nat):Int)],by rw[bm wJ];rfl,ru hd 0 _⟩,zE (aI wJ CJ) H6.Oe,zE (aI wJ jJ) H6.look⟩,Zo,λe Q U=>by rw[aI wJ U];exact nR e Q U⟩
  |succ m=>
   have d:=zv aa J.args.length
   have cF:=zy aa
   obtain⟨K,aE⟩:=zw J.args aa
   obtain⟨w,si,QM⟩:=has.get aa K aE
   have lb:∀e,P e->ab X bb e=ab X h e:=λe H=>nR e (zt (bC e H).1) (bC e H).2
   obtain⟨cD,cp,dF⟩:=(cC.ad lb).one si
   have aaE:=Zl aE
   have azM:=apV gD aaE
   have jz:=H6.look
   refine e7 @oj @lj @tG @t3 @d @cD (Za @cp @jz) ⟨?_⟩
   rw[fj.eq]at bJ
   refine(ak K w bb bs Zo Zo Zo (afq bJ.2 aaE) (cO.ad lb _ _ QM) H6).Zm ?_
   rintro ae bF c7 ⟨rfl,aos,jl,gd⟩
   refine cV @oj @cF ⟨?_⟩
   exact⟨m,Zo,aa+1,bf t1,bf ez,bf t3,bf tG,bf lj,bw,Zo,aos,Zo,λe Q U=>by rw[gd e Zo U];exact nR e Q U⟩
end
structure Ox(g:Go.aU.Node):Prop where
 vars:g.eG.length+g.out.length+g.loc.length<=256
 eqs:g.eqs.length<=4096
 high:∀am∈g.eqs,gK 201 am.right<=200
def atx:∀{l:List e9},vf l=none->∀am∈l,gK 201 am.right<=200:=by
 intro l
 induction l with
 |nil=>intro _ am a;cases a
 |cons K l ak=>
  intro a am b1
  unfold vf at a
  split at a
  ·cases a
  ·rcases Zt.1 b1 with rfl|b1
   ·omega
   ·exact ak a am b1
def aty:∀{l:List Go.aU.Node},oZ l=none->∀g∈l,Ox g:=by
 intro l
 induction l with
 |nil=>intro _ am a;cases a
 |cons K l ak=>
  intro a g b5
  unfold oZ at a
  split at a
  ·cases a
  ·rename_i b1
   split at a
   ·cases a
   ·rename_i bx
    rcases Zt.1 b5 with rfl|b5
    ·exact⟨Zo,Zo,atx bx⟩
    ·exact ak a g b5
def St{aq:List Go.aU.Node}(a:n8 aq=none):aq.length<=64/\∀g∈aq,Ox g:=by
 unfold n8 at a
 split at a
 ·cases a
 ·rename_i b1
  rw[List.getElem?_eq_none_iff]at b1
  exact⟨b1,aty a⟩
section
variable{X:ck}{h T gb a2 aS:V an}{j au aO bg:Nat}{s:bk}
set_option maxRecDepth 100000 in
def amZ(aA:iE X)(bT:lP X)(eS:rC X)(iJ:xD X){P:Nat->Prop}{J:bE}{v:F}(aL:(o X).a8<=j)(bx:cO X h P J v)(bC:∀e,P e->e<j)(bJ:fj ln J)(gD:gK 201 J<=200):
 aW X 144 [v] h j (λae T au=>ae= .Z 0/\bq X h j T au) (λ_ _ _=>False):=by
 refine zA aA.todz (agR X) ?_
 rw[agS]
 unfold Uv
 refine cL ⟨?_⟩
 generalize et:bn X _ (j+1+1) _=a2
 have iY:ab X a2 j=zx [.Z 0] 1:=by rw[<-et];simp(disch:=omega) only[aI,bm];rfl
 have b4:ab X a2 (j+1)=zx [.Z 0] 1:=by rw[<-et];simp(disch:=omega) only[aI,bm];rfl
 have b7:ao X a2 (.ptr (j+1+1) 0)=some (.func (.func 190) [] [.ptr (j+1) 0, .ptr j 0, .ptr (j+1+1) 0]):=by rw[<-et,tt Zo];rfl
 have bU:bq X h j a2 (j+1+1+1):=by rw[<-et];exact dU
 clear et
 refine ci @b7 ⟨?_⟩
 have Is:=cO.ad (λe H=>bU.ad e (bC e H)) _ _ bx
 refine(atK (fE:=j+1+1+1) aA bT eS iJ Zo Zo Zo Zo Zo Zo (λe H=>by have:=bC e H;exact⟨Zo,Zo⟩) 200 J v a2 (j+1+1+1) Zo Zo gD bJ Is ⟨⟨_,b4,rfl⟩,by rw[bR iY];rfl,b7⟩).Zm ?_
 rintro ae aS bg ⟨rfl,LK,ge,h4⟩
 have arY:=LK.Oe
 refine ci @arY ⟨?_⟩
 exact⟨rfl,Zo,λe H=>by rw[h4 e Zo Zo];exact bU.ad e H⟩
set_option maxRecDepth 100000 in
def atW(aA:iE X)(bT:lP X)(eS:rC X)(iJ:xD X){P:Nat->Prop}{g:Go.aU.Node}{row:List F}(aL:(o X).a8<=j)(b5:m5 X h P g row)(bC:∀e,P e->e<j)(bJ:pm ln g)(aC:Ox g):
 aW X 92 [.agg row] h j (λae T au=>ae= .Z 0/\bq X h j T au) (λ_ _ _=>False):=by
 refine zA aA.todz (ajB X) ?_
 rw[ajC]
 unfold V0
 obtain⟨cY,dj,a6,ev,c0,dL,ef,hQ,aR,rfl,nl,lC,oK,iu,e3⟩:=b5
 have eg:=nl.len
 have c5:=lC.len
 have e6:=oK.len
 have lW:=e3.wide
 have g0:=iu.len
 have i6:=iu.many
 rw[Zn]at eg c5 e6
 rw[lW.1]at g0 i6
 have aAQ:=aC.vars
 have azJ:=aC.eqs
 have Ft:0<g.out.length:=YG.2 bJ.some
 have bD:aF .add (.Z (g.eG.length:Int)) (.Z (g.out.length:Int))=some (.Z ((g.eG.length+g.out.length:Nat):Int)):=by rw[eT Zo Zo];simp
 have cF:aF .add (.Z ((g.eG.length+g.out.length:Nat):Int)) (.Z (g.loc.length:Int))=some (.Z ((g.eG.length+g.out.length+g.loc.length:Nat):Int)):=by rw[eT Zo Zo];simp
 have cX:decide ((g.out.length:Int)=0)=false:=by simp only[Zc];omega
 have cP:decide ((256:Int)<((g.eG.length+g.out.length+g.loc.length:Nat):Int))=false:=by simp only[Zc];omega
 have eQ:decide ((4096:Int)<(g.eqs.length:Int))=false:=by simp only[Zc];omega
 refine sT ?_
 generalize et:bn X h j _=a2
 have b4:ab X a2 j=zx [.str g.name, .Z g.at_,cY,dj,a6,ev] 6:=by rw[<-et,bm aL];rfl
 have bU:bq X h j a2 (j+1):=by rw[<-et];exact dU
 clear et
 refine he (bR b4) @eg (Za @c5 (Za @e6 (Za @bD @cF))) ⟨?_⟩
 refine(Jt (j:=j+1) (h:=a2) aA bT eS bJ.name Zo).Zm ?_
 rintro ae aS bg ⟨rfl,bK⟩
 have ge:=bK.le
 rw[<-bK.ad _ Zo]at b4
 have jX:=bU.trans bK
 have dt:=(ke nl.len).1
 have dG:=(ke lC.len).1
 have hd:=(ke oK.len).1
 have jm:fg 3 [.aP, .aP, .aP] [(0,1,cY),(1,1,dj),(2,1,a6)] bg=some (.slice bg 0 3 3, .cells (V.ofList [cY,dj,a6] 0 .nil) 3 .own):=by
  simp[fg,py,pz,li,dt,dG,hd]
 refine he (bR b4) @eg (Za @c5 (Za @e6 (Za @g0 (Za @cX (Za @cP @eQ))))) ⟨?_⟩
 refine fF jm ?_
 refine x9 ⟨?_⟩
 generalize fC:bn X aS bg _=bb
 have cN:ab X bb bg=zx [cY,dj,a6] 3:=by rw[<-fC,bm Zo]
 have cq:bq X h j bb (bg+1):=⟨Zo,λe H=>by rw[<-fC];simp(disch:=omega) only[aI];exact jX.ad e H⟩
 have ws:ab X bb j=zx [.str g.name, .Z g.at_,cY,dj,a6,ev] 6:=by rw[<-fC];simp(disch:=omega) only[aI];exact b4
 clear fC
 have lb:∀e,P e->ab X bb e=ab X h e:=λe H=>cq.ad e (bC e H)
 refine(aln (j:=bg+1) (h:=bb) aA.todz Zo Zo cN (nl.ad lb) (lC.ad lb) (oK.ad lb) (λe H=>zt (bC e H)) Zo Zo).Zm ?_
 rintro ae bF c7 ⟨Ew,cC,dv⟩
 have jl:=dv.le
 refine x9 ⟨?_⟩
 refine(alx (j:=c7) (h:=bF) aA bT eS Zo cC (λe H=>H.2) (λd aM=> ?_)).Zm ?_
 ·rcases Zy.1 aM with a|a
  ·exact bJ.eG d a
  ·rcases Zy.1 a with a|a
   ·exact bJ.out d a
   ·exact bJ.loc d a
 rintro ae bX b2 ⟨rfl,dH⟩
 have h5:=dH.le
 have HZ:bq X bb (bg+1) bX b2:=dv.trans dH
 have rZ:bq X h j bX b2:=cq.trans HZ
 rw[<-HZ.ad _ Zo]at ws
 refine cV (bR ws) @g0 ⟨?_⟩
 refine fU (λm M T aV=>∃(aa:Nat),M.g 4=some (.Z 0)/\M.g 53=some ev/\M.g 54=some (.Z (g.eqs.length:Int))/\M.g 55=some (.Z (aa:Int))/\aa+m=g.eqs.length/\bq X h j T aV)
  g.eqs.length ⟨0,bw,bw,bw,gc,Zo,rZ⟩ ?_
 rintro m M cf eK ⟨aa,t4,pT,j8,pU,bG,eR⟩
 have r8:=eR.le
 cases m with
 |zero=>
  have d:=zu aa g.eqs.length
  refine gt @pU @j8 @t4 @d ⟨?_⟩
  exact⟨rfl,eR⟩
 |succ m=>
  have d:=zv aa g.eqs.length
  have bD:=zy aa
  obtain⟨am,b1⟩:=zw g.eqs aa
  have C2:=Zl b1
  have yz:=bJ.eqs am C2
  obtain⟨row,ft,sb⟩:=e3.get aa am b1
  have sk:∀e,P e->ab X cf e=ab X h e:=λe H=>eR.ad e (bC e H)
  have dZ:=iu.f2 aa (by rw[lW.1];omega)
  have ic:=(iu.ad sk).row Zd ft
  obtain⟨nu,o5,dt,dG,lL,rfl,hM,mo,mR,oM⟩:=sb
  have wZ:=hM.len
  rw[show(ii am.left).length=am.left.length from by simp[ii]]at wZ
  have aAg:0<am.left.length:=YG.2 yz.some
  have xW:decide ((am.left.length:Int)=0)=false:=by simp only[Zc];omega
  refine iZ @pU @j8 @pT @d @dZ @ic ⟨?_⟩
  refine fF (h6 (B:=4) (b:=eK) (Y:=0) (n:=4) (c:=V.ofList [.aP, .aP, .Z 0, .cz] 0 .nil) (bm Zo) Zo rfl Zd Zd oM) ?_
  generalize nf:bn X _ eK _=cx
  have e1:ab X cx eK=zx [nu,o5, .Z am.at_,lL] 4:=by rw[<-nf,bm Zo];rfl
  have fa:bq X h j cx (eK+1):=⟨Zo,λe H=>by rw[<-nf];simp(disch:=omega) only[aI];exact eR.ad e H⟩
  clear nf
  have n2:∀e,P e->ab X cx e=ab X h e:=λe H=>fa.ad e (bC e H)
  refine ci (bR e1) ⟨?_⟩
  refine(amZ (j:=eK+1) (h:=cx) aA bT eS iJ Zo (cO.ad n2 _ _ mR) (λe H=>zt (bC e H)) yz.right (aC.high am C2)).Zm ?_
  rintro ae dx hW ⟨rfl,g9⟩
  have yt:=g9.le
  rw[<-g9.ad _ Zo]at e1
  have aae:bq X h j dx hW:=fa.trans g9
  have qu:∀e,P e->ab X dx e=ab X h e:=λe H=>aae.ad e (bC e H)
  refine er (bR e1) @wZ @xW ⟨?_⟩
  refine(ato (j:=hW) (h:=dx) aA bT eS Zo (hM.ad qu) (λe H=>zt (bC e H)) yz.left).Zm ?_
  rintro ae ei i7 ⟨rfl,kM⟩
  have fW:decide ((0:Int)=1)=false:=rfl
  have fv:decide ((0:Int)≠0)=false:=rfl
  refine gt @fW @fv @pU @bD ⟨?_⟩
  exact⟨m,Zo,aa+1,bf t4,bf pT,bf j8,bw,Zo,aae.trans kM⟩
set_option maxRecDepth 100000 in
def amY(aA:iE X)(bT:lP X)(eS:rC X)(iJ:xD X){P:Nat->Prop}{aq:List Go.aU.Node}{v:F}(aL:(o X).a8<=j)(b5:nE X h P aq v)(bC:∀e,P e->e<j)(bJ:∀g∈aq,pm ln g)(b6:aq≠[])(aC:n8 aq=none):
 aW X 40 [v] h j (λae T au=>ae= .Z 0/\bq X h j T au) (λ_ _ _=>False):=by
 refine zA aA.todz (ai7 X) ?_
 rw[ai8]
 unfold VH
 obtain⟨qm,nT⟩:=St aC
 obtain⟨b,a6,cH,aR,rfl,aj,a0,cC,kS⟩:=id b5
 have lW:=kS.wide
 have eD:=cC.len
 rw[lW.1]at eD
 have f1:=bC b aj
 have az:0<aq.length:=YG.2 b6
 have cX:decide ((aq.length:Int)=0)=false:=by simp only[Zc];omega
 have cP:decide ((64:Int)<(aq.length:Int))=false:=by simp only[Zc];omega
 refine gA @PF @a0 @eD @cX @cP ⟨?_⟩
 refine fU (λm M T aV=>∃(aa:Nat),M.g 3=some (.Z 0)/\M.g 28=some a6/\M.g 29=some (.Z (aq.length:Int))/\M.g 30=some (.Z (aa:Int))/\aa+m=aq.length/\bq X h j T aV)
  aq.length ⟨0,bw,bw,bw,gc,Zo,bq.refl _ _⟩ ?_
 rintro m M a2 aO ⟨aa,t3,aeR,D0,BK,bG,bU⟩
 have jy:=bU.le
 cases m with
 |zero=>
  have d:=zu aa aq.length
  refine gt @BK @D0 @t3 @d ⟨?_⟩
  exact⟨rfl,bU⟩
 |succ m=>
  have d:=zv aa aq.length
  have bD:=zy aa
  obtain⟨g,nk⟩:=zw aq aa
  have CN:=Zl nk
  obtain⟨row,ft,jK⟩:=kS.get aa g nk
  have u0:∀e,P e->ab X a2 e=ab X h e:=λe H=>bU.ad e (bC e H)
  have dZ:=cC.f2 aa (by rw[lW.1];omega)
  have ic:=(cC.ad u0).row Zd ft
  have jL:=jK.iz
  have CW:=jK
  obtain⟨cY,dj,iQ,ev,c0,dL,ef,hQ,fV,rfl,_⟩:=jK
  refine iZ @BK @D0 @aeR @d @dZ @ic ⟨?_⟩
  refine fF (h6 (B:=6) (b:=aO) (Y:=0) (n:=6) (c:=V.ofList [.str [], .Z 0, .aP, .aP, .aP, .aP] 0 .nil) (bm Zo) Zo rfl Zd Zd jL) ?_
  generalize dI:bn X _ aO _=aS
  have b7:ab X aS aO=zx [.str g.name, .Z g.at_,cY,dj,iQ,ev] 6:=by rw[<-dI,bm Zo];rfl
  have bK:bq X h j aS (aO+1):=⟨Zo,λe H=>by rw[<-dI];simp(disch:=omega) only[aI];exact bU.ad e H⟩
  clear dI
  refine ci (bR b7) ⟨?_⟩
  refine(atW (j:=aO+1) (h:=aS) aA bT eS iJ Zo (CW.ad (bu:=P) (λe H=>bK.ad e (bC e H)) (λ_ a=>a)) (λe H=>zt (bC e H)) (bJ g CN) (nT g CN)).Zm ?_
  rintro ae bb bs ⟨rfl,cq⟩
  have fW:decide ((0:Int)=1)=false:=rfl
  have fv:decide ((0:Int)=22)=false:=rfl
  refine gt @fW @fv @BK @bD ⟨?_⟩
  exact⟨m,Zo,aa+1,bf t3,bf aeR,bf D0,bw,Zo,bK.trans cq⟩
end
section
variable{X:ck}{h T gb a2 aS:V an}{j au aO bg:Nat}{s:bk}
def Kd(c:V F)(K b:F):(dQ c 0 [K,b]).get 0=some K:=by rw[jS];simp
def aff(c:V F)(K b:F):(dQ c 0 [K,b]).get 1=some b:=by rw[jS];simp
set_option maxRecDepth 100000 in
def ak7(aA:iE X)(bT:lP X)(eS:rC X)(iJ:xD X){P:Nat->Prop}{aq:List Go.aU.Node}{v:F}(aL:(o X).a8<=j)(b5:nE X h P aq v)(bC:∀e,P e->e<j)(bJ:∀g∈aq,pm ln g)(b6:aq≠[])(aC:n8 aq=none):
 aW X 20 [v] h j (λae T au=>ae= .agg [.Z (t7 aq).1, .Z (t7 aq).2]/\bq X h j T au) (λ_ _ _=>False):=by
 refine zA aA.todz (aib X) ?_
 rw[aic]
 unfold U4
 obtain⟨qm,nT⟩:=St aC
 refine p3 ?_
 generalize et:bn X h j _=a2
 have b4:∃c,ab X a2 j=some (.cells c 2 .own):=⟨_,by rw[<-et,bm aL];rfl⟩
 have bU:bq X h j a2 (j+1):=by rw[<-et];exact dU
 clear et
 have u0:∀e,P e->ab X a2 e=ab X h e:=λe H=>bU.ad e (bC e H)
 refine(amY (j:=j+1) (h:=a2) aA bT eS iJ Zo (b5.ad (bu:=P) u0 (λ_ a=>a)) (λe H=>zt (bC e H)) bJ b6 aC).Zm ?_
 rintro ae aS bg ⟨rfl,bK⟩
 have ge:=bK.le
 rw[<-bK.ad _ Zo]at b4
 have jX:=bU.trans bK
 obtain⟨b,a6,cH,aR,rfl,aj,a0,cC,kS⟩:=id b5
 have lW:=kS.wide
 have eD:=cC.len
 rw[lW.1]at eD
 have f1:=bC b aj
 have bt:decide ((0:Int)≠0)=false:=rfl
 rw[<-jX.fT _ _ f1]at a0
 refine er @bt @a0 @eD ⟨?_⟩
 refine fU (λm M T aV=>∃(aa:Nat),M.g 0=some (.ptr b 0)/\M.g 2=some (.ptr j 0)/\M.g 13=some a6/\M.g 14=some (.Z (aq.length:Int))/\M.g 15=some (.Z (aa:Int))/\aa+m=aq.length/\bq X h j T aV/\j<aV/\(∃c,ab X T j=some (.cells c 2 .own))/\t7 aq=Ar aq aa (aq.drop aa))
  aq.length ⟨0,bw,bw,bw,bw,gc,Zo,jX,Zo,b4,rfl⟩ ?_
 rintro m M bb bs ⟨aa,t0,ez,lj,oj,vA,bG,cq,yu,⟨hd,cN⟩,lU⟩
 have iL:=cq.le
 cases m with
 |zero=>
  have d:=zu aa aq.length
  rw[ZN Zo]at lU
  refine iZ @vA @oj @ez @d @Kd @aff ⟨?_⟩
  refine⟨by rw[lU];rfl, ?_⟩
  exact⟨Zo,λe H=>by rw[aI Zo Zo];exact cq.ad e H⟩
 |succ m=>
  have d:=zv aa aq.length
  have bD:=zy aa
  obtain⟨g,nk⟩:=zw aq aa
  have CN:=Zl nk
  have aM:aq.drop aa=g::aq.drop (aa+1):=by
   obtain⟨ah,H⟩:=Zb.1 nk
   rw[Zv ah,H]
  rw[aM,Ar]at lU
  obtain⟨row,ft,jK⟩:=kS.get aa g nk
  have lb:∀e,P e->ab X bb e=ab X h e:=λe H=>cq.ad e (bC e H)
  have dZ:=cC.f2 aa (by rw[lW.1];omega)
  have ic:=(cC.ad lb).row Zd ft
  have jL:=jK.iz
  have CW:=jK
  obtain⟨cY,dj,iQ,ev,c0,dL,ef,hQ,fV,rfl,_⟩:=jK
  refine iZ @vA @oj @lj @d @dZ @ic ⟨?_⟩
  refine fF (h6 (B:=6) (b:=bs) (Y:=0) (n:=6) (c:=V.ofList [.str [], .Z 0, .aP, .aP, .aP, .aP] 0 .nil) (bm Zo) Zo rfl Zd Zd jL) ?_
  generalize fl:bn X _ bs _=bF
  have ej:ab X bF bs=zx [.str g.name, .Z g.at_,cY,dj,iQ,ev] 6:=by rw[<-fl,bm Zo];rfl
  have ec:∀e,e<bs->ab X bF e=ab X bb e:=λe H=>by rw[<-fl];exact zz
  clear fl
  have dv:bq X h j bF (bs+1):=⟨Zo,λe H=>by rw[ec e Zo];exact cq.ad e H⟩
  rw[<-ec _ Zo]at cN
  refine cV @t0 (bR ej) ⟨?_⟩
  refine(adG (j:=bs+1) (h:=bF) aA.todz Zo (λe H=>zt (bC e H)) (CW.ad (bu:=P) (λe H=>dv.ad e (bC e H)) (λ_ a=>a)) (by rw[K2];have:=(nT g CN).vars;simp only[pN];omega)).Zm ?_
  rintro ae bX b2 ⟨cW,lK,vx,c9,rfl,mq,IG,cD,cp,dF,fL,dH⟩
  have h5:=dH.le
  have aoh:bq X h j bX b2:=dv.trans (dH.kv Zo)
  rw[<-dH.ad _ Zo]at cN
  refine cV @t0 @vA ⟨?_⟩
  generalize f6:bn X _ (b2+1) _=cf
  have dY:ab X cf (b2+1)=zx [.ptr b 0, .Z (aa:Int), .ptr cW 0, .map b2, .Z 0, .Z 0] 6:=by rw[<-f6,bm Zo];rfl
  have e1:ab X cf b2=some (.map [] 0):=by rw[<-f6];simp(disch:=omega) only[aI,bm]
  have eR:bq X bX b2 cf (b2+1+1):=by rw[<-f6];exact dU
  clear f6
  have aac:bq X h j cf (b2+1+1):=aoh.trans (eR.kv Zo)
  rw[<-eR.ad _ Zo]at cN
  have fZ:∀e,(P e\/da (bs+1) b2 e)->e<b2+1+1/\e≠b2+1/\e≠b2:=by
   rintro e (H|H)
   ·have:=bC e H;omega
   ·have:=H.2;omega
  refine(ak8 (j:=b2+1+1) (h:=cf) (P:=λe=>P e\/da (bs+1) b2 e) (B:=aa) (aq:=aq) (g:=g) (cW:= .ptr cW 0) aA.todz Zo Zo Zo Zo Zo Zo fZ
   (b5.ad (λe H=>aac.ad e (bC e H)) (λ_ a=> .inl a)) nk ⟨cW,lK,rfl, .inr mq, .inr IG,by rw[eR.fT _ _ (zt mq.2)];exact cD,cp.ad (eR.ad _ IG.2)⟩ dY ⟨[],0,e1,λ_=>rfl⟩).Zm ?_
  rintro ae cx eu ⟨rfl,AR,nn,q5⟩
  have fa:bq X h j cx eu:=⟨Zo,λe H=>by rw[q5 e Zo Zo Zo];exact aac.ad e H⟩
  rw[<-q5 _ Zo Zo Zo]at cN
  have oA:ao X cx (.ptr (b2+1) 4)=some (.Z (rk aq aa g).1):=by unfold f3 at AR;rw[bR AR];rfl
  have x3:ao X cx (.ptr (b2+1) 5)=some (.Z (rk aq aa g).2):=by unfold f3 at AR;rw[bR AR];rfl
  by_cases cv:(rk aq aa g).1=0
  ·have x0:decide ((rk aq aa g).1≠0)=false:=by simp[cv]
   rw[Zg (by simp[cv])]at lU
   refine gt @oA @x0 @vA @bD ⟨?_⟩
   exact⟨m,Zo,aa+1,bf t0,bf ez,bf lj,bf oj,bw,Zo,fa,Zo,⟨hd,cN⟩,lU⟩
  ·have x0:decide ((rk aq aa g).1≠0)=true:=by simp[cv]
   rw[Zq cv]at lU
   have uF:cg X cx 2 (.ptr (b2+1) 4)=some (.agg [.Z (rk aq aa g).1, .Z (rk aq aa g).2]):=by rw[n5,oA,x3];rfl
   refine iZ @oA @x0 @uF @ez @Kd @aff ⟨?_⟩
   refine⟨by rw[lU], ?_⟩
   exact⟨Zo,λe H=>by rw[aI Zo Zo];exact fa.ad e H⟩
end
def l2(t:bk->Option eJ)(w:bk):d9:=((t w).getD tK).d.ty
def sr:List d9->Bool
 |[]=>true
 |K::l=>(K::l).all λb=>decide (b=K)
def GQ:d9:=⟨true,false,1⟩
def Aq(aq:List Go.aU.Node)(nm:bk)(K:List d9):List d9×Bool:=
 match aq[(nb aq nm).getD 0]? with
 |none=>([],false)
 |some g=>(g.out.map (·.ty),decide (g.eG.map (·.ty)=K))
def j6(aq:List Go.aU.Node)(t:bk->Option eJ)(J:bE)(K:List d9):List d9×Bool:=
 let a0:=K.headD dN
 if J.kind=1 then([J.ty],true)
 else if J.kind=2 then([l2 t J.name],true)
 else if J.kind=3\/J.kind=5 then([a0],true)
 else if J.kind=4\/J.kind=19\/J.kind=20 then([a0], !a0.b)
 else if J.kind=6 then([a0],(l2 t J.name).b)
 else if J.kind=7\/J.kind=8\/J.kind=9\/J.kind=21\/J.kind=22 then([a0],sr K)
 else if J.kind=16\/J.kind=17\/J.kind=18 then([a0],sr K&& !a0.b)
 else if J.kind=10\/J.kind=11 then([GQ],sr K)
 else if J.kind=12\/J.kind=13\/J.kind=14\/J.kind=15 then([GQ],sr K&& !a0.b)
 else if J.kind=23 then([(K[1]?).getD dN],a0.b&&sr K.tail)
 else if J.kind=24 then([a0],sr K&&(l2 t J.name).b)
 else if J.kind=26 then([J.ty], !J.ty.b||a0.b)
 else Aq aq J.name K
mutual
def rR(aq:List Go.aU.Node)(t:bk->Option eJ):bE->Except Int (List d9)
 | .mk B at_ nm no ty n args=>match po aq t args with
   | .error K=> .error K
   | .ok (b8,one)=>if one=false then .error at_ else
     let r:=j6 aq t (.mk B at_ nm no ty n args) b8
     if r.2=false then .error at_ else .ok r.1
def po(aq:List Go.aU.Node)(t:bk->Option eJ):List bE->Except Int (List d9×Bool)
 |[]=> .ok ([],true)
 |J::l=>match rR aq t J with
  | .error K=> .error K
  | .ok r=>match po aq t l with
    | .error K=> .error K
    | .ok (b8,one)=>match r with
      |[x]=> .ok (x::b8,one)
      |_=> .ok (b8,false)
end
def Ch(t:bk->Option eJ)(g:Go.aU.Node):Option Int:=(g6 g).findSome? λx=>if x.2.on≠[]/\(l2 t x.2.on).b=false then some x.2.fu else none
def qW(aq:List Go.aU.Node)(t:bk->Option eJ)(am:e9):Option Int:=match rR aq t am.right with
 | .error K=>some K
 | .ok row=>if (1<am.left.length/\am.right.kind≠25)\/row≠am.left.map (l2 t)then some am.at_ else none
def xe(aq:List Go.aU.Node)(g:Go.aU.Node):Option Int:=match Ch (gX g) g with
 |some K=>some K
 |none=>g.eqs.findSome? (qW aq (gX g))
def y1(aq:List Go.aU.Node):Option Int:=aq.findSome? (xe aq)
end
end Go.Proofs.YtpfajohmofnkfaaGreatDoor

