/- Part of the proof of the last text; no conditions -/
import Derived.Test.YtpeabpmnlmaabaaGreatDoorYj
set_option maxHeartbeats 8000000
set_option linter.all false
namespace Go.Proofs.YtpeabpmnlmaabaaGreatDoor
open Go.bg Go.aL
noncomputable section
section
variable{X:ca}{h R fi aQ aP:S ag}{j an aV aX:Nat}
structure yQ(X:ca)(g7:S ag)(ef bT di:Nat)(p:E)(u:Int)(cr:E)(f:Int×Int)(ae:aR->Option Int)(h:S ag)(n:Nat):Prop where
 le:ef<=n
 kz:gs X h bT p u cr (.map di) f
 lp:pF X h di (o4 ae)
 low:∀e,e<ef->e≠bT->e≠di->W X h e=W X g7 e
def yQ.ab{g7:S ag}{ef bT di:Nat}{p cr:E}{u:Int}{f:Int×Int}{ae:aR->Option Int}(a:yQ X g7 ef bT di p u cr f ae aQ aV)(iO:bT<ef)(ET:di<ef)(aF:aV<=aX)(aH:∀e,e<aV->W X aP e=W X aQ e):yQ X g7 ef bT di p u cr f ae aP aX:=by
 have gl:=a.le
 refine⟨Zo, ?_,a.lp.ab (aH _ Zo),λe H M al=>by rw[aH e Zo];exact a.low e H M al⟩
 have:=a.kz
 unfold gs at*
 rw[aH _ Zo];exact this
def D4(ak:eZ)(i:Nat):Int:=(ak.df[i]?).getD 0
def ay5{ak:eZ}{i:Nat}{w:aR}(a:ak.left[i]? =some w):(sP ak)[i]? =some (w,D4 ak i):=by
 unfold sP
 rw[Zy,XW a];rfl
def ay6(ak:eZ):(sP ak).length=ak.left.length:=by simp[sP]
def aqz(aw:dk X){P:Nat->Prop}{bT di:Nat}{p cr:E}{u:Nat}{am:List Go.aL.Node}{g:Go.aL.Node}(aF:(o X).a8<=j)(iO:(o X).a8<=bT)(xR:(o X).a8<=di)(AC:bT<j)(xS:di<j)(u4:bT≠di)
 (bs:∀e,P e->e<j/\e≠bT/\e≠di)(bV:oX X h P am p)(aH:am[u]? =some g)(ba:kd X h P cr (dy g))(aA:gs X h bT p u cr (.map di) (0,0))(fZ:pF X h di (o4 λ_=>none)):
 a2 X 53 [.ptr bT 0] h j (λac R an=>ac= .tuple []/\gs X R bT p u cr (.map di) (q0 am u g)/\j<=an/\∀e,e<j->e≠bT->e≠di->W X R e=W X h e) zL:=by
 refine Kf (ani X) (aw.none _ _ rfl) ?_
 rw[anj]
 unfold aa0
 obtain⟨jE,Jg,QA,aHt,rfl,mY,aiz,agp,ago⟩:=id bV
 have LB:=ago.wide
 have aF5:=(Zb.1 aH).1
 obtain⟨row,fD,jR⟩:=ago.get u g aH
 have AN:=jR
 have kl:=jR.iF
 obtain⟨cQ,c4,aO,eo,bQ,cl,cU,fe,be,rfl,l9,kS,np,kk,fq⟩:=jR
 have awr:=bs jE mY
 have dx:aU X h (.ptr bT 0)=some (.ptr jE 0):=by unfold gs at aA;rw[bG aA];rfl
 have c5:aU X h (.ptr bT 1)=some (.Z (u:Int)):=by unfold gs at aA;rw[bG aA];rfl
 have dA:=agp.fx u (by rw[LB.1];omega)
 refine uU ⟨?_⟩
 generalize dl:bm X h j _=aQ
 have jO:W X aQ j=zD [.ptr bT 0] 1:=by rw[<-dl,bh aF];rfl
 have bL:br X h j aQ (j+1):=by rw[<-dl];exact dH
 clear dl
 have md:∀e,P e->W X aQ e=W X h e:=λe z=>bL.ab e (bs e z).1
 rw[<-bL.e6 _ _ AC]at dx c5
 rw[<-bL.e6 _ _ awr.1]at aiz
 have iB:=(agp.ab md).row Zd fD
 refine hl (bG jO) @dx (Za @c5 (Za @aiz (Za @dA @iB))) ⟨?_⟩
 refine gm (jG (u:=6) (b:=j+1+13) (T:=0) (n:=6) (c:=S.ofList [.str [], .Z 0, .aY, .aY, .aY, .aY] 0 .nil) (bh Zo) Zo rfl Zd Zd kl) ?_
 generalize dR:bm X _ (j+1+13) _=aP
 have b2:W X aP (j+1+13)=zD [.str g.name, .Z g.at_,cQ,c4,aO,eo] 6:=by rw[<-dR,bh Zo];rfl
 have bI:br X aQ (j+1) aP (j+1+14):=by rw[<-dR];exact dH
 clear dR
 rw[<-bI.ab _ Zo]at jO
 have hb:br X h j aP (j+1+14):=⟨Zo,λe z=>by rw[bI.ab e Zo,bL.ab e z]⟩
 have nv:∀e,P e->W X aP e=W X h e:=λe z=>hb.ab e (bs e z).1
 rw[<-bI.e6 _ _ Zo]at dx c5
 refine hl (bG jO) @dx (bG b2) ⟨?_⟩
 refine(Te (j:=j+1+15+12) (h:=aP) aw Zo (bV.ab (a7:=P) nv (λ_ a=>a)) (λe z=>zz (bs e z).1) g.name).Zm ?_
 rintro ac a6 bz ⟨rfl,cp⟩
 have jm:=cp.le
 rw[<-cp.ab _ Zo]at jO b2
 rw[<-cp.e6 _ _ Zo]at dx c5
 have tK:br X h j a6 bz:=⟨Zo,λe z=>by rw[cp.ab e Zo,hb.ab e z]⟩
 have jC:∀e,P e->W X a6 e=W X h e:=λe z=>tK.ab e (bs e z).1
 have At:yQ X a6 bz bT di (.ptr jE 0) u cr (0,0) (λ_=>none) a6 bz:=⟨Zj _,by unfold gs at*;rw[tK.ab _ AC];exact aA,fZ.ab (tK.ab _ xS),λ_ _ _ _=>rfl⟩
 generalize LQ:(mz am g.name).getD 0=Q6
 have g0:rU am u g=if Q6<u then ni (0,0) 24 g.at_ else(0,0):=by unfold rU;rw[LQ]
 refine hl (bG jO) @dx @c5 ⟨?_⟩
 refine ko (λda R aS=>da.g 1=some (.ptr j 0)/\da.g 2=some (.ptr (j+1+13) 0)/\da.bj=[]/\yQ X a6 bz bT di (.ptr jE 0) u cr (rU am u g) (λ_=>none) R aS) (λV bF=> ?_) ?_
 ·by_cases c3:Q6<u
  ·have aD:=zB Q6 u
   rw[Zp c3]at g0
   refine er @aD (bG jO) (bG b2) ⟨?_⟩
   refine(xr (h:=a6) aw iO At.kz 24 g.at_).Zm ?_
   rintro ac bH cC ⟨rfl,wi,iu,gz⟩
   refine cL ⟨?_⟩
   exact bF _ _ _ ⟨bo,bo,rfl,Zo,by rw[g0];exact wi,At.lp.ab (gz _ (λD=>u4 D.symm)),λe H M al=>gz e M⟩
  ·have aD:=zA Q6 u
   rw[Zg c3]at g0
   refine cj @aD ⟨?_⟩
   exact bF _ _ _ ⟨bo,bo,rfl,by rw[g0];exact At⟩
 rintro I bH cC ⟨t1,eK,lj,pb⟩
 have iu:=pb.le
 have asL:W X bH j=zD [.ptr bT 0] 1:=by rw[pb.low _ Zo Zo Zo];exact jO
 have asR:W X bH (j+1+13)=zD [.str g.name, .Z g.at_,cQ,c4,aO,eo] 6:=by rw[pb.low _ Zo Zo Zo];exact b2
 have mI:∀e,P e->W X bH e=W X h e:=λe z=>by have:=bs e z;rw[pb.low e Zo this.2.1 this.2.2,jC e z]
 show cH _ _
 refine hl @t1 @eK (Za (bG asL) (bG asR)) ⟨?_⟩
 refine(aq2 (j:=cC) (h:=bH) aw Zo iO Zo (λe z=>⟨zz (bs e z).1,(bs e z).2.1⟩) (ba.ab (a7:=P) mI (λ_ a=>a)) pb.kz (AN.ab (a7:=P) mI (λ_ a=>a)) trivial).Zm ?_
 rintro ac bN ci ⟨rfl,EE,iP,nq⟩
 have hN:yQ X a6 bz bT di (.ptr jE 0) u cr (tx (dy g) g (rU am u g)) (λ_=>none) bN ci:=⟨Zo,EE,pb.lp.ab (nq _ Zo (λD=>u4 D.symm)),λe H M al=>by rw[nq e Zo M];exact pb.low e H M al⟩
 have asS:W X bN (j+1+13)=zD [.str g.name, .Z g.at_,cQ,c4,aO,eo] 6:=by rw[hN.low _ Zo Zo Zo];exact b2
 have km:=fq.wide
 have d2:=kk.len
 have h1:=kk.many
 rw[km.1]at d2 h1
 have UZ:q0 am u g=(fS g).foldl (s6 (g.eqs.foldl (nD (dy g) am u) (λ_=>none,tx (dy g) g (rU am u g))).1) (g.eqs.foldl (nD (dy g) am u) (λ_=>none,tx (dy g) g (rU am u g))).2:=rfl
 generalize PG:((λ_=>none,tx (dy g) g (rU am u g)):(aR->Option Int)×(Int×Int))=qm at UZ
 have aub:yQ X a6 bz bT di (.ptr jE 0) u cr qm.2 qm.1 bN ci:=by rw[<-PG];exact hN
 have iy:∀w,0<=(qm.1 w).getD 0/\(qm.1 w).getD 0<=((0:Nat):Int)*1048576:=by intro w;rw[<-PG];simp
 refine hl @eK (bG asS) @d2 ⟨?_⟩
 refine g3 ?_
 refine fE (λm I R aS=>∃(V:Nat),I.g 1=some (.ptr j 0)/\I.g 2=some (.ptr (j+1+13) 0)/\I.bj=[]/\I.g 49=some eo/\I.g 50=some (.Z (g.eqs.length:Int))/\I.g 51=some (.Z (V:Int))/\V+m=g.eqs.length
  /\yQ X a6 bz bT di (.ptr jE 0) u cr ((g.eqs.take V).foldl (nD (dy g) am u) qm).2 ((g.eqs.take V).foldl (nD (dy g) am u) qm).1 R aS/\(∀w,0<=(((g.eqs.take V).foldl (nD (dy g) am u) qm).1 w).getD 0/\(((g.eqs.take V).foldl (nD (dy g) am u) qm).1 w).getD 0<=(V:Int)*1048576))
  g.eqs.length ⟨0,aW t1,aW eK,lj,bo,bo,fY,Zo,aub,iy⟩ ?_
 clear t1 eK lj
 rintro m I b6 dr ⟨V,t1,eK,lj,s5,wY,wZ,bF,ig,ae2⟩
 have oB:=ig.le
 have asM:W X b6 j=zD [.ptr bT 0] 1:=by rw[ig.low _ Zo Zo Zo];exact jO
 have tF:W X b6 (j+1+13)=zD [.str g.name, .Z g.at_,cQ,c4,aO,eo] 6:=by rw[ig.low _ Zo Zo Zo];exact b2
 have qZ:∀e,P e->W X b6 e=W X h e:=λe z=>by have:=bs e z;rw[ig.low e Zo this.2.1 this.2.2,jC e z]
 cases m with
 |zero=>
  have aD:=zA V g.eqs.length
  rw[ZA Zo]at ig
  generalize g.eqs.foldl (nD (dy g) am u) qm=G at ig UZ
  refine f3 @wZ @wY @eK @aD (bG tF) ⟨?_⟩
  refine(N6 aw Zo).Zm ?_
  rintro ac cy dX ⟨rfl,rfl,eC,cA,dT,fG⟩
  generalize CB:dr+1=d5 at*
  have vi:∀e,P e->W X cy e=W X h e:=λe z=>by rw[eC.ab e (zz (bs e z).1),qZ e z]
  have Cw:gs X cy bT (.ptr jE 0) u cr (.map di) G.2:=by have:=ig.kz;unfold gs at*;rw[eC.ab bT Zo];exact this
  have apO:W X cy j=zD [.ptr bT 0] 1:=by rw[eC.ab _ Zo];exact asM
  refine g3 ?_
  refine N7 (P:=P) (g:=g) (bQ:=bQ) (cl:=cl) (cU:=cU) (cQ:=cQ) (c4:=c4) (aO:=aO) aw (λi R aS=>tf X cy d5 bT di (.ptr jE 0) u cr (.map di) (((fS g).take i).foldl (s6 G.1) G.2) G.1 R aS) Zo Zo Zo Zo
   (l9.ab vi) (kS.ab vi) (np.ab vi) cA dT fG (λi R aS a=>⟨a.le,λe z=>a.low e (zz (bs e z).1) (bs e z).2.1 (bs e z).2.2⟩)
   (λi aQ aV aP aX a gl aH=>a.ab Zo Zo gl aH) (λR bY=>⟨Zj _,by unfold gs at*;rw[bY.ab _ Zo];exact Cw,(ig.lp.ab (eC.ab _ Zo)).ab (bY.ab _ Zo),λe z _ _=>bY.ab e z⟩) ?_ ?_
  ·intro mk i fd d dt iv aG jk Al atl
   rw[Ce (s6 G.1) _ aG]
   generalize ((fS g).take i).foldl (s6 G.1) G.2=cd at jk ⊢
   have CA:=jk.le
   have jl:dK d=[.str d.name, .Z d.at_, .bool d.ty.b, .bool d.ty.s, .Z d.ty.w, .str d.on, .Z d.eX, .bool d.no]:=rfl
   rw[jl]
   unfold us
   refine cL ⟨?_⟩
   generalize Ct:bm X _ iv _=d6
   have nk:W X d6 iv=zD [.str d.name, .Z d.at_, .bool d.ty.b, .bool d.ty.s, .Z d.ty.w, .str d.on, .Z d.eX, .bool d.no] 8:=by rw[<-Ct,bh Zo];rfl
   have g4:∀e,e<iv->W X d6 e=W X dt e:=λe z=>by rw[<-Ct];exact zF
   clear Ct
   refine⟨by rw[g4 _ Zo];exact atl, ?_⟩
   generalize sC:bm X d6 (d5+1) _=g7
   have hm:W X g7 (d5+1)=some (mk .busy none):=by rw[<-sC,bh Zo]
   have lV:∀e,e≠d5+1->W X g7 e=W X d6 e:=λe z=>by rw[<-sC,aI Zo z]
   clear sC
   have qL:=jk.ab (aP:=g7) (aX:=iv+1) Zo Zo Zo (λe H M=>by rw[lV e M,g4 e H])
   rw[<-lV _ Zo]at nk
   have Tv:W X g7 d5=some (.deferred (some [])):=by rw[lV _ Zo,g4 _ Zo];exact Al
   have cb:aU X g7 (.ptr j 0)=some (.ptr bT 0):=by rw[bG (show W X g7 j=_ by rw[qL.low _ Zo Zo Zo];exact apO)];rfl
   have eW:aU X g7 (.ptr bT 3)=some (.map di):=by have:=qL.kz;unfold gs at this;rw[bG this];rfl
   have kT:n3 X g7 9 (.Z 0) (.map di) (.str d.name) false=some (.Z ((G.1 d.name).getD 0)):=by
    rw[FB qL.seen];unfold o4;cases G.1 d.name<;>rfl
   have kR:∀R aS,tf X cy d5 bT di (.ptr jE 0) u cr (.map di) (s6 G.1 cd (fd,d)) G.1 R aS->W X R d5=some (.deferred (some []))->(E.bool true=E.bool true/\tf X cy d5 bT di (.ptr jE 0) u cr (.map di) (s6 G.1 cd (fd,d)) G.1 (bm X R (d5+1) (some (mk .ready none))) aS/\W X (bm X R (d5+1) (some (mk .ready none))) d5=some (.deferred (some []))/\W X (bm X R (d5+1) (some (mk .ready none))) (d5+1)=some (mk .ready none)):=λR aS a M=>
    ⟨rfl,a.ab Zo Zo (Zj _) (λe H M=>aI Zo M),by rw[aI Zo Zo];exact M,bh Zo⟩
   refine uU ⟨?_⟩
   refine g3 ?_
   by_cases jx:fd=1
   ·have aD:decide (fd≠1)=false:=by simp[jx]
    have qP:s6 G.1 cd (fd,d)=cd:=by unfold s6;rw[Zg (by simp[jx])]
    refine cj @aD ⟨?_⟩
    rw[qP]at kR ⊢
    exact⟨⟨.busy,none,hm⟩,kR _ _ (qL.ab Zo Zo Zo (λ_ _ _=>rfl)) Tv⟩
   ·have aD:decide (fd≠1)=true:=by simp[jx]
    by_cases cx:(G.1 d.name).getD 0=0
    ·have Eh:decide ((G.1 d.name).getD 0=0)=true:=by simp[cx]
     have qP:s6 G.1 cd (fd,d)=ni cd 37 d.at_:=by unfold s6;rw[Zp ⟨jx,cx⟩]
     refine eh @aD @t1 @cb @eW (bG nk) @kT @Eh ⟨?_⟩
     refine(xr (h:=g7) aw iO qL.kz 37 d.at_).Zm ?_
     rintro ac DW sT ⟨rfl,Ul,afS,rH⟩
     refine cL ⟨?_⟩
     rw[qP]at kR ⊢
     have Lq:=qL.le
     exact⟨⟨.busy,none,by rw[rH _ Zo];exact hm⟩,kR _ _ ⟨Zo,Ul,qL.seen.ab (rH _ Zo),λe H M al=>by rw[rH e M];exact qL.low e H M al⟩ (by rw[rH _ Zo];exact Tv)⟩
    ·have Eh:decide ((G.1 d.name).getD 0=0)=false:=by simp[cx]
     have qP:s6 G.1 cd (fd,d)=cd:=by unfold s6;rw[Zg (λa=>cx a.2)]
     refine eh @aD @t1 @cb @eW (bG nk) @kT @Eh ⟨?_⟩
     rw[qP]at kR ⊢
     exact⟨⟨.busy,none,hm⟩,kR _ _ (qL.ab Zo Zo Zo (λ_ _ _=>rfl)) Tv⟩
  ·intro dt iv jk Al
   rw[Y1]at jk
   have CA:=jk.le
   rw[<-UZ]at jk
   show n9 X [] _ _ _ _ _
   simp only[A6,yt,lj]
   refine⟨by show(o X).a8<=d5;omega,Al, ?_⟩
   show r0 _ _ _ _ _
   refine⟨rfl, ?_,Zo,λe H M al=> ?_⟩
   ·have:=jk.kz
    unfold gs at*
    rw[aI Zo Zo];exact this
   ·rw[aI Zo Zo,jk.low e Zo M al,eC.ab e Zo,ig.low e Zo M al,tK.ab e H]
 |succ m=>
  have aD:=zB V g.eqs.length
  have bC:=zE V
  obtain⟨ak,bM⟩:=zC g.eqs V
  obtain⟨aiY,awE,wA⟩:=fq.get V ak bM
  have dA:=kk.fx V (by rw[km.1];omega)
  have iB:=(kk.ab qZ).row Zd awE
  obtain⟨q5,s0,aFA,aFB,il,rfl,iA,n1,pg,rK⟩:=wA
  have AQ:=iA.len
  have Ip:=iA.many
  have Pw:=n1.1.len
  have awB:=n1.1.many
  rw[show(f8 ak.left).length=ak.left.length from by simp[f8]]at AQ Ip
  rw[Zi]at Pw awB
  have c8:=Ce (nD (dy g) am u) qm bM
  generalize aup:(g.eqs.take V).foldl (nD (dy g) am u) qm=Jt at ig c8 ae2
  refine ic @wZ @wY @s5 @aD @dA @iB ⟨?_⟩
  refine gm (jG (u:=4) (b:=dr) (T:=0) (n:=4) (c:=S.ofList [.aY, .aY, .Z 0, .cN] 0 .nil) (bh Zo) Zo rfl Zd Zd rK) ?_
  generalize k6:bm X _ dr _=cy
  have ew:W X cy dr=zD [q5,s0, .Z ak.at_,il] 4:=by rw[<-k6,bh Zo];rfl
  have f0:∀e,e<dr->W X cy e=W X b6 e:=λe z=>by rw[<-k6];exact zF
  clear k6
  have sA:=ig.ab (aP:=cy) (aX:=dr+1) Zo Zo Zo (λe H=>f0 e H)
  refine KH (bG ew) @AQ ⟨?_⟩
  refine g3 ?_
  refine fE (λgg I R aS=>∃(i:Nat),I.g 1=some (.ptr j 0)/\I.g 2=some (.ptr (j+1+13) 0)/\I.bj=[]/\I.g 49=some eo/\I.g 50=some (.Z (g.eqs.length:Int))/\I.g 51=some (.Z (V:Int))/\I.g 6=some (.ptr dr 0)/\I.g 56=some q5/\I.g 57=some (.Z (ak.left.length:Int))/\I.g 58=some (.Z (i:Int))/\i+gg=ak.left.length
   /\yQ X a6 bz bT di (.ptr jE 0) u cr (((sP ak).take i).foldl (oJ (dy g)) Jt).2 (((sP ak).take i).foldl (oJ (dy g)) Jt).1 R aS/\(∀w,0<=((((sP ak).take i).foldl (oJ (dy g)) Jt).1 w).getD 0/\((((sP ak).take i).foldl (oJ (dy g)) Jt).1 w).getD 0<=(V:Int)*1048576+i)
   /\dr+1<=aS/\W X R dr=zD [q5,s0, .Z ak.at_,il] 4)
   ak.left.length ⟨0,aW t1,aW eK,lj,aW s5,aW wY,aW wZ,bo,bo,bo,fY,Zo,sA,λw=>by simpa using ae2 w,Zo,ew⟩ ?_
  clear t1 eK lj s5 wY wZ
  rintro gg da dt iv ⟨i,t1,eK,lj,s5,wY,wZ,eY,qq,Bs,w0,aG,jk,qN,aGx,gu⟩
  have CA:=jk.le
  have ad5:W X dt j=zD [.ptr bT 0] 1:=by rw[jk.low _ Zo Zo Zo];exact jO
  have CW:∀e,P e->W X dt e=W X h e:=λe z=>by have:=bs e z;rw[jk.low e Zo this.2.1 this.2.2,jC e z]
  cases gg with
  |zero=>
   have e2:=zA i ak.left.length
   rw[ZA (by rw[ay6];omega)]at jk qN
   refine eh @w0 @Bs @t1 @eY @e2 (bG ad5) (bG gu) ⟨?_⟩
   refine(aCp (j:=iv) (h:=dt) aw Zo iO Zo (λe z=>⟨zz (bs e z).1,(bs e z).2.1⟩) (ba.ab (a7:=P) CW (λ_ a=>a)) (bV.ab (a7:=P) CW (λ_ a=>a)) jk.kz (cn.ab CW _ _ pg)).Zm ?_
   rintro ac d6 hG ⟨rfl,Uk,qT,rG⟩
   refine cS @wZ @bC ⟨?_⟩
   refine⟨m,Zo,V+1,aW t1,aW eK,lj,aW s5,aW wY,bo,Zo, ?_, ?_⟩
   ·rw[c8]
    exact⟨Zo,Uk,jk.lp.ab (rG _ Zo (λD=>u4 D.symm)),λe H M al=>by rw[rG e Zo M];exact jk.low e H M al⟩
   ·rw[c8]
    intro w
    have:=qN w
    simp only[nD]
    constructor
    ·exact this.1
    ·have M:=this.2
     have al:i<=1048576:=Zo
     push_cast
     omega
  |succ gg=>
   have e2:=zB i ak.left.length
   have cu:=zE i
   obtain⟨w,bb⟩:=zC ak.left i
   have tV:=iA.fx i (by simp[f8];omega)
   have h0:=(iA.ab CW).cell i [.str w] 0 (.str w) (by unfold f8;rw[Zy,bb];rfl) rfl
   rw[Z4]at tV
   rw[Z4,ZX]at h0
   have CJ:=Ce (oJ (dy g)) Jt (ay5 bb)
   generalize auo:((sP ak).take i).foldl (oJ (dy g)) Jt=pw at jk CJ qN
   have auK:=qN w
   refine hl @w0 @Bs (Za @qq (Za @eY (Za @e2 (Za @tV (Za @h0 (Za (bG gu) @Pw)))))) ⟨?_⟩
   refine g3 ?_
   refine hl @w0 @Bs (Za @qq (Za @eY (Za @e2 (Za @tV (Za @h0 (Za (bG gu) @Pw)))))) ⟨?_⟩
   refine g3 ?_
   refine hl @w0 @Bs (Za @qq (Za @eY (Za @e2 (Za @tV (Za @h0 (Za (bG gu) @Pw)))))) ⟨?_⟩
   refine ko (λto R aS=>to.g 1=some (.ptr j 0)/\to.g 2=some (.ptr (j+1+13) 0)/\to.bj=[]/\to.g 49=some eo/\to.g 50=some (.Z (g.eqs.length:Int))/\to.g 51=some (.Z (V:Int))/\to.g 6=some (.ptr dr 0)/\to.g 56=some q5/\to.g 57=some (.Z (ak.left.length:Int))/\to.g 58=some (.Z (i:Int))/\to.g 8=some (.str w)/\to.g 9=some (.Z (D4 ak i))/\R=dt/\aS=iv) (λahb Ic=> ?_) ?_
   ·by_cases Lo:i<ak.df.length
    ·have jh:=zB i ak.df.length
     obtain⟨F,aE⟩:∃F,ak.df[i]? =some F:=⟨_,Ze Lo⟩
     have O8:=n1.1.fx i (by rw[Zi];exact Lo)
     have ae9:=(n1.1.ab CW).cell i [IF F] 0 (IF F) (by rw[Zy,aE];rfl) rfl
     rw[Z4]at O8
     rw[Z4,ZX]at ae9
     have nW:D4 ak i=F:=by unfold D4;rw[aE];rfl
     refine f3 @jh @eY (bG gu) @O8 @ae9 ⟨?_⟩
     exact Ic _ _ _ ⟨aW t1,aW eK,lj,aW s5,aW wY,aW wZ,aW eY,aW qq,aW Bs,aW w0,bo,by refine Cf ⟨?_⟩;rw[nW];rfl,rfl,rfl⟩
    ·have jh:=zA i ak.df.length
     have nW:D4 ak i=0:=by unfold D4;rw[Z6 Zo];rfl
     refine cj @jh ⟨?_⟩
     exact Ic _ _ _ ⟨aW t1,aW eK,lj,aW s5,aW wY,aW wZ,aW eY,aW qq,aW Bs,aW w0,bo,by refine Cf ⟨?_⟩;rw[nW],rfl,rfl⟩
   ·clear t1 eK lj s5 wY wZ eY qq Bs w0
    rintro to R aS ⟨t1,eK,lj,s5,wY,wZ,eY,qq,Bs,w0,gQ,t9,rfl,rfl⟩
    show cH _ _
    refine gk @t1 @gQ @t9 (bG ad5) ⟨?_⟩
    refine(ay2 aw Zo iO xR Zo Zo u4 jk.kz (ba.ab (a7:=P) CW (λ_ a=>a)) (λe z=>⟨zz (bs e z).1,(bs e z).2.1,(bs e z).2.2⟩) jk.lp w (D4 ak i) ⟨auK.1,Zo⟩).Zm ?_
    rintro ac d6 hG ⟨rfl,Uk,at0,qT,rG⟩
    refine cS @w0 @cu ⟨?_⟩
    refine⟨gg,Zo,i+1,aW t1,aW eK,lj,aW s5,aW wY,aW wZ,aW eY,aW qq,aW Bs,bo,Zo, ?_, ?_,Zo,by rw[rG _ Zo Zo Zo];exact gu⟩
    ·rw[CJ]
     exact⟨Zo,Uk,at0,λe H M al=>by rw[rG e Zo M al];exact jk.low e H M al⟩
    ·rw[CJ]
     intro x
     have af:=qN x
     simp only[oJ]
     split
     ·simp only[YJ];push_cast;omega
     ·push_cast;omega
end
def az7{C:aN}{h:S ag}{j r pos c:Nat}{s:aR}(Y:C.a8<=r)(a:W C h r=some (.pu s pos))(aA:s[pos]? =some c)(H:c<128):
 xK C ld true h j (lf (.ptr r 0))=some (.fH (.tuple [.zT, .Z (pos:Int), .int .i32 (c:Int)]) (bm C h r (some (.pu s (pos+1)))) j):=by
 have c3:=(Zb.1 aA).1
 have bC:Nat.blt pos s.length=true:=by simp[Nat.blt];omega
 have cu:Nat.blt c 128=true:=by simp[Nat.blt];omega
 have fL:jv C r=true:=j3 Y
 simp only[xK,lf,fL,fo,a,bC,qi,aA,cu,bg.setObj,hf]
 rfl
def az5{C:aN}{h:S ag}{j r pos:Nat}{s:aR}(Y:C.a8<=r)(a:W C h r=some (.pu s pos))(aA:s.length<=pos):
 xK C ld true h j (lf (.ptr r 0))=some (.val (.tuple [.zF])):=by
 have bC:Nat.blt pos s.length=false:=by
  cases bM:Nat.blt pos s.length with
  |false=>rfl
  |true=>simp[Nat.blt]at bM;omega
 have fL:jv C r=true:=j3 Y
 simp only[xK,lf,fL,fo,a,bC,lo]
def asD{T:Option ed}{h R:S ag}{j an:Nat}{ai:bK}{v:E}(a:T=some (.fH v R an))(u:ai v R an):HB T h j ai:=by subst a;exact⟨u⟩
def asC{T:Option ed}{h:S ag}{j:Nat}{ai:bK}{v:E}(a:T=some (.val v))(u:ai v h j):HB T h j ai:=by subst a;exact⟨u⟩
section
variable{X:ca}{h R fi aQ aP:S ag}{j an aV aX:Nat}
def VJ{c:Nat}(a:jB c=true):(97<=c/\c<=122)\/(65<=c/\c<=90)\/(48<=c/\c<=57)\/c=95:=by
 simp[jB,rO,jn]at a
 omega
def aAx(aw:dk X){c:Nat}(aA:jB c=true):a2 X 119 [.int .i32 (c:Int)] h j (λac R an=>ac= .zF/\R=h/\j<=an) zL:=by
 refine zG aw (alr X) ?_
 rw[als]
 unfold ο
 rcases VJ aA with a|a|a|a
 ·have c2:decide ((c:Int)<97)=false:=zO
  have cM:decide ((122:Int)<(c:Int))=false:=zO
  refine cS @c2 @cM ⟨?_⟩
  exact⟨rfl,rfl,Zo⟩
 ·have c2:decide ((c:Int)<97)=true:=zP
  have cM:decide ((c:Int)<65)=false:=zO
  have e2:decide ((90:Int)<(c:Int))=false:=zO
  refine er @c2 @cM @e2 ⟨?_⟩
  exact⟨rfl,rfl,Zo⟩
 ·have c2:decide ((c:Int)<97)=true:=zP
  have cM:decide ((c:Int)<65)=true:=zP
  have e2:decide ((c:Int)<48)=false:=zO
  have jh:decide ((57:Int)<(c:Int))=false:=zO
  refine gk @c2 @cM @e2 @jh ⟨?_⟩
  exact⟨rfl,rfl,Zo⟩
 ·have c2:decide ((c:Int)<97)=true:=zP
  have cM:decide ((c:Int)<65)=false:=zO
  have e2:decide ((90:Int)<(c:Int))=true:=zP
  have jh:decide ((c:Int)<48)=false:=zO
  have gt:decide ((57:Int)<(c:Int))=true:=zP
  have ht:decide ((c:Int)≠95)=false:=by simp only[Zc,ne_eq,Decidable.not_not];omega
  refine ic @c2 @cM @e2 @jh @gt @ht ⟨?_⟩
  exact⟨rfl,rfl,Zo⟩
def aCs{C:aN}{s:aR}{ai:bK}(u:ai (.ptr j 0) (bm C h j (some (.pu s 0))) (j+1)):h6 (W4 C h j (.str s)) h j ai:=kH (by simp only[W4,n5,mW,hf]) u
def ap6:db X h .eql 4 false .zF .zF=some .zT:=Zk
def acG:db X h .eql 4 false .zF .zT=some .zF:=Zk
def ap7:db X h .eql 4 false .zT .zF=some .zF:=Zk
def ap8:db X h .eql 4 false .zT .zT=some .zT:=Zk
def axS(aw:dk X){s:aR}(aC:∀c∈s,jB c=true)(aF:(o X).a8<=j):
 a2 X 120 [.str s, .func (.func 119) [] []] h j (λac R an=>ac= .Z (-1)/\br X h j R an) zL:=by
 refine zG aw (alv X) ?_
 rw[alw]
 unfold ρ
 refine zG aw (alV X) ?_
 rw[alW]
 unfold aae
 refine aCs ?_
 generalize dl:bm X h j _=aQ
 have bP:W X aQ j=some (.pu s 0):=by rw[<-dl,bh aF]
 have bL:br X h j aQ (j+1):=by rw[<-dl];exact dH
 clear dl
 refine cL ⟨?_⟩
 refine fE (λm I R aS=>∃(V:Nat),I.g 1=some (.func (.func 119) [] [])/\I.g 2=some .zT/\I.g 10=some (.ptr j 0)/\V+m=s.length/\W X R j=some (.pu s V)/\br X h j R aS/\j+1<=aS)
  s.length ⟨0,bo,bo,bo,Zo,bP,bL,Zo⟩ ?_
 rintro m I aP aX ⟨V,t1,eK,js,bF,b2,bI,lS⟩
 cases m with
 |zero=>
  refine cj @js ⟨?_⟩
  refine asC (az5 aF b2 Zo) ?_
  refine cL ⟨?_⟩
  exact⟨rfl,bI⟩
 |succ m=>
  obtain⟨c,aA⟩:=zC s V
  have bn:=aC c (Zl aA)
  have atN:c<128:=zz (VJ bn)
  refine cj @js ⟨?_⟩
  refine asD (az7 aF b2 aA atN) ?_
  refine cj @t1 ⟨?_⟩
  generalize eQ:bm X aP j _=a6
  have cI:W X a6 j=some (.pu s (V+1)):=by rw[<-eQ,bh aF]
  have cp:br X h j a6 aX:=⟨bI.le,λe z=>by rw[<-eQ,aI aF Zo];exact bI.ab e z⟩
  clear eQ
  refine(aAx aw bn).Zm ?_
  rintro ac bH cC ⟨rfl,rfl,iu⟩
  refine cS @eK @acG ⟨?_⟩
  refine⟨m,Zo,V+1,aW t1,aW eK,aW js,Zo,cI,⟨zz cp.le,cp.ab⟩,Zo⟩
end
def aja:List aR:=[[110,111,100,101],[114,101,116,117,114,110,115],[118,97,114],[108,101,116],[116,101,108],[119,104,101,110],[110,111,116],[111,114],[120,111,114],[97,110,100],[112,114,101],[102,98,121],[105,102],[116,104,101,110],[101,108,115,101],[109,101,114,103,101],[116,114,117,101],[102,97,108,115,101]]
def aCd:∀w∈aja,w∈wS:=by decide
structure sf(X:ca):Prop where
 a8:2<X.a8
 at_:∀h,∃b aO,aU X h (.ptr 3 0)=some aO/\dV X h (λe=>e<X.a8) b aO 1 (f8 aja)
section
variable{X:ca}{h R fi aQ aP:S ag}{j an aV aX:Nat}{s:aR}
def arP:db X h .eql 139 true .nilIface .nilIface=some .zT:=Zk
def arQ(b:Nat):db X h .eql 139 true (.iface 181 (.ptr b 0)) .nilIface=some .zF:=Zk
def aqP(aw:dk X){b:Nat}{aO:E}{P:Nat->Prop}{hi:List aR}(Y:dV X h P b aO 1 (f8 hi))(aC:s∉hi):
 a2 X 121 [aO, .str s] h j (λac R an=>ac= .zF/\br X h j R an) zL:=by
 refine zG aw (alx X) ?_
 rw[aly]
 unfold σ
 refine a2.mono (ai:=λac R an=>ac= .Z (-1)/\br X h j R an) (ax:=λ_ _ _=>False) ?_ ?_ (λ_ _ _ a=>a.elim)
 ·refine zG aw (alX X) ?_
  rw[alY]
  unfold aaf
  have d2:=Y.len
  have h1:=Y.many
  rw[show(f8 hi).length=hi.length from by simp[f8]]at d2 h1
  refine cj @d2 ⟨?_⟩
  refine fE (λm I R aS=>∃(V:Nat),I.g 0=some aO/\I.g 1=some (.str s)/\I.g 7=some (.Z (hi.length:Int))/\I.g 8=some (.Z (V:Int))/\V+m=hi.length/\R=h/\aS=j)
   hi.length ⟨0,bo,bo,bo,fY,Zo,rfl,rfl⟩ ?_
  rintro m I aP aX ⟨V,t0,t1,e9,gQ,bF,rfl,rfl⟩
  cases m with
  |zero=>
   have d:=zA V hi.length
   refine er @gQ @e9 @d ⟨?_⟩
   exact⟨rfl,br.refl _ _⟩
  |succ m=>
   have d:=zB V hi.length
   have bC:=zE V
   obtain⟨w,bb⟩:=zC hi V
   have dA:=Y.fx V (by simp[f8];omega)
   have h0:=Y.cell V [.str w] 0 (.str w) (by unfold f8;rw[Zy,bb];rfl) rfl
   rw[Z4]at dA
   rw[Z4,ZX]at h0
   have dn:s≠w:=λD=>aC (by rw[D];exact Zl bb)
   have cM:decide (s=w)=false:=by simp[dn]
   refine eh @gQ @e9 @t1 @t0 @d @dA (Za @h0 (Za @cM @bC)) ⟨?_⟩
   exact⟨m,Zo,V+1,aW t0,aW t1,aW e9,bo,Zo,rfl,rfl⟩
 ·rintro ac aQ aV ⟨rfl,bY⟩
  refine cL ⟨?_⟩
  exact⟨rfl,bY⟩
def ajX(aw:dk X)(t:d3)(aF:(o X).a8<=j):a2 X 123 [.agg (eE t)] h j (λac R an=>ac= .str (oa t)/\br X h j R an) zL:=by
 refine zG aw (alB X) ?_
 rw[alC]
 unfold υ
 have ba:eE t=[.bool t.b, .bool t.s, .Z t.w]:=rfl
 rw[ba]
 refine cL ⟨?_⟩
 refine e0 (λaQ=>W X aQ j=zD [.bool t.b, .bool t.s, .Z t.w] 3/\br X h j aQ (j+1)) ⟨bh aF,dH⟩ ?_
 rintro aQ ⟨bP,bL⟩
 refine(FF aw t Zo).Zm ?_
 rintro ac aP aX ⟨rfl,bI⟩
 have fN:=bI.le
 have bY:=bL.trans bI
 have b2:W X aP j=zD [.bool t.b, .bool t.s, .Z t.w] 3:=by rw[bI.ab _ Zo];exact bP
 have dx:aU X aP (.ptr j 0)=some (.bool t.b):=by rw[bG b2];rfl
 have c5:aU X aP (.ptr j 1)=some (.bool t.s):=by rw[bG b2];rfl
 have dC:aU X aP (.ptr j 2)=some (.Z t.w):=by rw[bG b2];rfl
 cases bn:lA t with
 |false=>
  refine cL ⟨?_⟩
  exact⟨by simp[oa,bn],bY⟩
 |true=>
  cases lv:t.b with
  |true=>
   rw[lv]at dx
   refine cj @dx ⟨?_⟩
   exact⟨by simp[oa,bn,lv],bY⟩
  |false=>
   rw[lv]at dx
   have bb:1<=t.w/\t.w<=64:=by simpa[lA,lv]using bn
   obtain⟨w,AZ⟩:=Ye (by omega:0<=t.w)
   rw[AZ]at dC
   have aG:j8 t.w.toNat=j8 w:=by rw[AZ];rfl
   have eM:(j8 w).length<=2:=by unfold j8;split<;>simp
   have uM:∀h c,db X h .add 9 true (.str [c]) (.str (j8 w))=some (.str (c::j8 w)):=λh c=>by
    have:Nat.ble ([c].length+(j8 w).length) 1000000000=true:=j3 Zx
    simp only[db,BT,this,fo];rfl
   cases kW:t.s with
   |true=>
    rw[kW]at c5
    refine er @dx @c5 @dC ⟨?_⟩
    refine(PW aw Zo).Zm ?_
    rintro ac a6 bz ⟨rfl,rfl,rfl⟩
    refine cj @uM ⟨?_⟩
    exact⟨by simp[oa,bn,lv,kW,aG],bY⟩
   |false=>
    rw[kW]at c5
    refine er @dx @c5 @dC ⟨?_⟩
    refine(PW aw Zo).Zm ?_
    rintro ac a6 bz ⟨rfl,rfl,rfl⟩
    refine cj @uM ⟨?_⟩
    exact⟨by simp[oa,bn,lv,kW,aG],bY⟩
def axX{c:Nat}(a:jB c=true):c<256:=zz (VJ a)
def aEr(aw:jd X)(bY:mi X)(aC:GU s)(aF:(o X).a8<=j):
 a2 X 122 [.str s] h j (λac R an=>ac= .zF/\br X h j R an) zL:=by
 refine zG aw.todk (alz X) ?_
 rw[alA]
 unfold τ
 cases s with
 |nil=>exact absurd rfl aC.ne
 |cons c k=>
  cases k with
  |nil=>
   have hM:decide (((1:Nat):Int)<2)=true:=rfl
   refine cj @hM ⟨?_⟩
   exact⟨rfl,dH⟩
  |cons dC k=>
   have c2:decide ((((dC::k).length+1:Nat):Int)<2)=false:=by simp only[Zc,ZF];omega
   have hP:nF (.str (c::dC::k)) (some (.Z 1)) none=some (.str (dC::k)):=QW (k:=1) .i64 Zs
   have dA:oF (.str (c::dC::k)) (.Z 0)=some (.int .u8 (c:Int)):=CS (i:=0) .i64 rfl
   have d2:nz (.str (c::dC::k))=some (.Z ((c::dC::k).length:Int)):=A5 _
   have k7:=aC.all
   have eM:=aC.len
   have xO:c::dC::k≠[98,111,111,108]:=λD=>by have:=aC.ty;rw[D]at this;cases this
   have cM:decide (c::dC::k=[98,111,111,108])=false:=by simp only[Zc];exact xO
   have AW:=aC.ty
   generalize lR:dC::k=m at*
   have gt:decide ((c:Int)=105)=decide (c=105):=by simp;omega
   refine gm d2 ?_
   refine cS @c2 @hP ⟨?_⟩
   refine(acs aw bY (by simp at eM;omega) (λx af=>axX (k7 x (Zt _ af))) (aii (λx af=>k7 x (Zt _ af))) Zo).Zm ?_
   rintro ac aP aX ⟨⟨bE,D,rfl,bA,af⟩,bI⟩
   have fN:=bI.le
   rcases bA with rfl|⟨b,rfl⟩
   ·refine gk @cM @arP @dA @gt ⟨?_⟩
    refine(ajX (j:=aX) (h:=aP) aw.todk ⟨false,decide (c=105),bE⟩ Zo).Zm ?_
    rintro ac a6 bz ⟨rfl,cp⟩
    have aD:decide (c::m=oa ⟨false,decide (c=105),bE⟩)=false:=by
     simp only[Zc]
     intro a
     cases bn:lA ⟨false,decide (c=105),bE⟩with
     |false=>simp[oa,bn]at a
     |true=>
      have cx:1<=bE/\bE<=64:=by simpa[lA]using bn
      obtain⟨n,rfl⟩:=Ye (by omega:0<=bE)
      simp only[oa,bn,ZG,Zw,ZB]at a
      have H:=(List.cons.inj a).1
      have M:=(List.cons.inj a).2
      have H3:c=105\/c=117:=by
       by_cases aA:c=105
       ·exact .inl aA
       ·simp[aA]at H;exact .inr H
      exact ajW AW H3 (n:=n) Zo Zo (by simpa using M.symm)
    refine cj @aD ⟨?_⟩
    exact⟨rfl,bI.trans cp⟩
   ·refine cS @cM @arQ ⟨?_⟩
    exact⟨rfl,bI⟩
def Mp(aw:jd X)(bY:mi X)(dZ:sf X)(aC:GU s)(aF:(o X).a8<=j):
 a2 X 97 [.str s] h j (λac R an=>ac= .zT/\br X h j R an) zL:=by
 refine zG aw.todk (aoH X) ?_
 rw[aoI]
 unfold abO
 have dn:=aC.ne
 have c2:decide (s=[])=false:=by simp[dn]
 have eM:=aC.len
 have cM:decide ((32:Int)<(s.length:Int))=false:=zO
 obtain⟨c,aA⟩:∃c,s.head?=some c:=by cases s with|nil=>exact absurd rfl dn|cons c k=>exact⟨c,rfl⟩
 have Ax:=aC.apW c aA
 have dA:oF (.str s) (.Z 0)=some (.int .u8 (c:Int)):=CS (i:=0) .i64 (by rw[<-List.head?_eq_getElem?];exact aA)
 have H2:65<=c:=by simp[rO]at Ax;omega
 have e2:decide ((48:Int)<=(c:Int))=true:=zP
 have jh:decide ((c:Int)<=57)=false:=zO
 refine f3 @c2 @cM @dA @e2 @jh ⟨?_⟩
 refine(axS aw.todk aC.all aF).Zm ?_
 rintro ac aQ aV ⟨rfl,bL⟩
 have jy:=bL.le
 obtain⟨b,aO,hP,cG⟩:=dZ.at_ aQ
 have B7:decide ((0:Int)<= -1)=false:=rfl
 refine cS @hP @B7 ⟨?_⟩
 refine(aqP (j:=aV) aw.todk cG (λa=>aC.res (aCd _ a))).Zm ?_
 rintro ac aP aX ⟨rfl,bI⟩
 have fN:=bI.le
 refine cL ⟨?_⟩
 refine(aEr (j:=aX) (h:=aP) aw bY aC Zo).Zm ?_
 rintro ac a6 bz ⟨rfl,cp⟩
 refine cL ⟨?_⟩
 exact⟨rfl,(bL.trans bI).trans cp⟩
end
section
variable{X:ca}{h R fi aQ aP:S ag}{j an aV aX:Nat}{s:aR}
def XV:List E:=[.str [], .Z 0, .zF, .zF, .Z 0, .str [], .Z 0, .zF]
def atx(n:Nat):H1 X h j .append [37,3] [.aY, .Z (n:Int)]=b0 (Nat.ble n 1048576) (b0 (Nat.beq n 0) (some (.val .aY)) (uY X h j n 8 (lE n XV))) none:=Zk
def F3(n:Nat)(k:List E):(lE n k).length=n*k.length:=by
 induction n with
 |zero=>simp[lE]
 |succ n ah=>simp[lE,ah,Z8];omega
def aqo:ts X h .cap [37] [.aY]=some (.Z 0):=Zk
def aC8:uv X h 8 .aY none (some (.Z 0)) none=some .aY:=by rfl
def aDa{d5 n m:Nat}{c:S E}(a:W X h d5=some (.cells c m (.grow []))):uv X h 8 (.fl d5 0 n 8) none (some (.Z 0)) none=some (.fl d5 0 0 8):=by
 have bC:qd (some (.Z 0)) (m/8) n=some 0:=by simp[qd,az4]
 have cu:∀F b:Nat,qd none F b=some b:=λF b=>rfl
 have fL:yu X h d5=some m:=by simp[yu,a]
 have j5:Nat.blt 0 8=true:=rfl
 simp only[uv,fL,mR,zh,cu,bC]
 simp[j5]
def QJ{C:aN}{P:Nat->Prop}{b bd:Nat}{aO:E}{be:List (List E)}(a:dV C h P b aO bd be)(cx:0<bd):lZ C h bd aO=some (be.length,be.flatten):=by
 have Lm:=tE a.wide
 have key:∀dD T n:Nat,n=be.length->(∀i,i<be.length->some (E.ptr dD (T+i*bd))=some (.ptr b (i*bd)))->nT C h dD T (n*bd)=some be.flatten:=by
  intro dD T n aF aG
  subst aF
  by_cases aK:be.length=0
  ·have:be=[]:=ZN aK
   subst this
   simp only[nT]
   cases aA:cellsOf C h dD with
   |none=>simp
   |some c=>simp[aeg]
  ·have H:=aG 0 Zo
   simp at H
   obtain⟨rfl,rfl⟩:=H
   obtain⟨r,Y⟩:=zC be 0
   have E2:=a.wide r (Zl Y)
   obtain⟨v,bD⟩:=zC r 0
   have qO:=a.cell 0 r 0 v Y bD
   simp only[zs,ZX]at qO
   have EF:∃c,cellsOf C h dD=some c:=by
    simp only[aU]at qO
    cases aA:cellsOf C h dD with
    |none=>rw[aA]at qO;cases qO
    |some c=>exact⟨c,rfl⟩
   obtain⟨c,aA⟩:=EF
   simp only[nT,aA]
   rw[<-Lm]
   refine aee _ _ λV v bF=> ?_
   have wp:=(Zb.1 bF).1
   rw[Lm]at wp
   have bM:V/bd<be.length:=Nat.div_lt_of_lt_mul (by rw[zv];exact wp)
   obtain⟨ik,m1⟩:∃r,be[V/bd]? =some r:=⟨_,Ze bM⟩
   have aGM:=a.wide ik (Zl m1)
   have bn:V%bd<bd:=zn _ cx
   obtain⟨f9,AY⟩:∃v,ik[V%bd]? =some v:=⟨_,Ze Zo⟩
   have M:=a.cell (V/bd) ik (V%bd) f9 m1 AY
   have al:=Ti be a.wide (V/bd) ik (V%bd) f9 m1 AY
   have aB:V/bd*bd+V%bd=V:=by rw[zv];exact Nat.div_add_mod V bd
   rw[aB]at M al
   rw[bF]at al
   cases al
   simp only[aU,aA]at M
   rw[ZT]
   exact M
 have az:=a.len
 cases aO with
 |slice dD T n cap=>
  have aF:n=be.length:=by rw[ug]at az;simp at az;omega
  have aG:∀i,i<be.length->some (E.ptr dD (T+i*bd))=some (.ptr b (i*bd)):=λi aG=>by
   have:=a.fx i aG
   rw[<-this]
   have D:Nat.blt i n=true:=by simp[Nat.blt];omega
   simp only[gd,rT,DD,D,fo]
  have aH:=key dD T n aF aG
  subst aF
  simp only[lZ,aH]
 |fl dD T n yw=>
  have aF:n=be.length:=by rw[wK]at az;simp at az;omega
  have aG:∀i,i<be.length->some (E.ptr dD (T+i*bd))=some (.ptr b (i*bd)):=λi aG=>by
   have:=a.fx i aG
   rw[<-this]
   have D:Nat.blt i n=true:=by simp[Nat.blt];omega
   simp only[gd,rT,DD,D,fo]
  have aH:=key dD T n aF aG
  subst aF
  simp only[lZ,aH]
 |aY=>
  have aF:(0:Int)=be.length:=by rw[yf]at az;simpa using az
  have:be=[]:=ZN Zo
  subst this
  rfl
 |_=>simp[gr]at az
def aCt{d5 n r m:Nat}{c:S E}{x:E}{k:List E}{ai:bK}(aj:W X h d5=some (.cells c (m*8) (.grow [])))(aJ:(o X).a8<=d5)(af:lZ X h 8 x=some (r,k))(az:k.length=r*8)(Y:n+r<=m)(H:Go.bg.iF k=true)
 (u:∀R fX,W X R d5=some (.cells fX (m*8) (.grow []))->(∀i,fX.get i=if n*8<=i/\i<n*8+k.length then k[i-n*8]? else c.get i)->(∀e,e≠d5->W X R e=W X h e)->ai (.fl d5 0 (n+r) 8) R j):
 h6 (j1 X h j 8 (.fl d5 0 n 8) x) h j ai:=by
 by_cases aK:r=0
 ·subst aK
  have:k=[]:=ZN Zo
  subst this
  have bC:j1 X h j 8 (.fl d5 0 n 8) x=some (.val (.fl d5 0 n 8)):=by
   simp only[j1,af]
   simp[Hc,yu,aj]
   omega
  refine W1 bC ?_
  exact u h c aj (λi=>by rw[Zg Zs]) (λ_ _=>rfl)
 ·have cu:Nat.ble ((n+r)*8) (m*8)=true:=j3 Zo
  have fL:Nat.ble (n*8+k.length) (m*8)=true:=j3 Zo
  have Ku:Nat.beq 8 8=true:=rfl
  have j5:jv X d5=true:=j3 aJ
  have qI:j1 X h j 8 (.fl d5 0 n 8) x=some (.fH (.fl d5 0 (n+r) 8) (Go.bg.bm X h d5 (some (.cells (d7 c (n*8) k) (m*8) (.grow [])))) j):=by
   simp only[j1,af]
   rw[ia,Zg aK]
   simp only[yZ,J6,aj,j5,Ku,fo,cu,sm,fL,H,Ys,hf,nw,ZT]
  refine kH qI ?_
  refine u _ _ (bh aJ) (λi=> ?_) (λe z=>aI aJ z)
  rw[kb]
def aCZ(aw:dk X){n:Nat}(aK:0<n)(H:n<=300000)(aF:(o X).a8<=j):
 a2 X 96 [.aY, .Z (n:Int)] h j (λac R an=>ac= .fl j 0 0 8/\(∃c,W X R j=some (.cells c (n*8) (.grow [])))/\br X h j R an/\j<an) zL:=by
 refine zG aw (aoF X) ?_
 rw[aoG]
 unfold abN
 have c2:decide ((n:Int)<0)=false:=zO
 have cM:decide ((0:Int)<(n:Int))=true:=zP
 have bC:bv .sub (.Z 0) (.Z 0)=some (.Z 0):=x7 Zo Zo
 have cu:bv .sub (.Z (n:Int)) (.Z 0)=some (.Z (n:Int)):=by rw[x7 Zo Zo];simp
 have fL:H1 X h j .append [37,3] [.aY, .Z (n:Int)]=some (.fH (.fl j 0 n 8) (bm X h j (some (.cells (S.ofList (lE n XV) 0 .nil) (n*8) (.grow [])))) (j+1)):=by
  rw[atx,j3 Zo,fo,ia,Zg Zo]
  simp only[uY,j3 (show n<=1048576 by omega),fo,n5,mW,hf,F3]
  rfl
 refine ic @c2 @aqo @bC @cu @cM @aC8 ⟨?_⟩
 refine kH fL ?_
 generalize dl:bm X h j _=aQ
 have bP:W X aQ j=some (.cells (S.ofList (lE n XV) 0 .nil) (n*8) (.grow [])):=by rw[<-dl,bh aF]
 have bL:br X h j aQ (j+1):=by rw[<-dl];exact dH
 clear dl
 have j5:=aDa (n:=n) bP
 refine cj @j5 ⟨?_⟩
 exact⟨rfl,⟨_,bP⟩,bL,Zo⟩
def B3(k:List (List eb)):Nat:=(k.map List.length).sum
def ac1(aw:dk X){P:Nat->Prop}{rj bQ cl cU:Nat}{cQ c4 aO:E}{A bx ae:List eb}(aF:(o X).a8<=j)(u0:rj<j)(aE:W X h rj=zD [cQ,c4,aO] 3)
 (H:dV X h P bQ cQ 8 (A.map dK))(M:dV X h P cl c4 8 (bx.map dK))(al:dV X h P cU aO 8 (ae.map dK))(bs:∀e,P e->e<j)(aK:0<A.length+bx.length+ae.length)(bn:A.length+bx.length+ae.length<=300000):
 a2 X 76 [.slice rj 0 3 3] h j (λac R an=>∃b,dV X R (dU j an) b ac 8 ((A++(bx++ae)).map dK)/\br X h j R an) zL:=by
 refine zG aw (an1 X) ?_
 rw[an2]
 unfold abq
 have Iu:∀V,V<3->∃s b L,[cQ,c4,aO][V]? =some s/\dV X h P b s 8 (L.map dK)/\([A,bx,ae]:List (List eb))[V]? =some L/\L.length<=300000:=by
  intro V bF
  match V,bF with
  |0,_=>exact⟨cQ,bQ,A,rfl,H,rfl,Zo⟩
  |1,_=>exact⟨c4,cl,bx,rfl,M,rfl,Zo⟩
  |2,_=>exact⟨aO,cU,ae,rfl,al,rfl,Zo⟩
 have qO:∀R V s,W X R rj=zD [cQ,c4,aO] 3->[cQ,c4,aO][V]? =some s->aU X R (.ptr rj V)=some s:=λR V s a aC=>by rw[bG a,m5];exact aC
 obtain⟨l7,xQ⟩:∃l7:Nat->Nat,∀V,l7 V=B3 (([A,bx,ae]:List (List eb)).take V):=⟨_,λ_=>rfl⟩
 obtain⟨Ai,mC⟩:∃Ai:Nat->List eb,∀V,Ai V=(([A,bx,ae]:List (List eb)).take V).flatten:=⟨_,λ_=>rfl⟩
 have afr:∀V L,([A,bx,ae]:List (List eb))[V]? =some L->Ai (V+1)=Ai V++L:=by
  intro V L a
  rw[mC,mC,ZY,a];simp
 have Le:∀V,l7 V=(Ai V).length:=λV=>by rw[xQ,mC];unfold B3;rw[List.length_flatten]
 have c8:∀V L,([A,bx,ae]:List (List eb))[V]? =some L->l7 (V+1)=l7 V+L.length:=by
  intro V L a
  rw[Le,Le,afr V L a,ZL]
 have gl:∀V,l7 V<=A.length+bx.length+ae.length:=by
  intro V
  rw[xQ]
  match V with
  |0=>simp[B3]
  |1=>simp[B3];omega
  |2=>simp[B3]
  |n+3=>simp[B3];omega
 have aew:l7 3=A.length+bx.length+ae.length:=by rw[xQ];simp[B3];omega
 have Ev:l7 0=0:=by rw[xQ];simp[B3]
 have asc:Ai 0=[]:=by rw[mC];rfl
 refine cL ⟨?_⟩
 refine fE (λm I R aS=>∃(V:Nat),I.g 0=some (.slice rj 0 3 3)/\I.g 9=some (.slice rj 0 3 3)/\I.g 10=some (.Z 3)/\I.g 11=some (.Z (V:Int))/\I.g 3=some (.Z (l7 V:Nat))/\V+m=3/\R=h/\aS=j)
  3 ⟨0,bo,bo,fY,fY,by refine Cf ⟨?_⟩;rw[Ev];rfl,Zo,rfl,rfl⟩ ?_
 rintro m I aQ aV ⟨V,t0,t9,js,pv,t3,bF,rfl,rfl⟩
 cases m with
 |succ m=>
  have d:decide ((V:Int)<3)=true:=zP
  have bC:=zE V
  obtain⟨s,b,L,aC,cG,gp,aue⟩:=Iu V Zo
  have EQ:=gl V
  have dA:gd 1 (.slice rj 0 3 3) (.Z (V:Int))=some (.ptr rj V):=by rw[Fo _ Zo];simp
  have aA:=qO _ V s aE aC
  have d2:=cG.len
  rw[Zi]at d2
  have cu:bv .add (.Z ((l7 V:Nat):Int)) (.Z (L.length:Int))=some (.Z ((l7 (V+1):Nat):Int)):=by
   rw[c8 V L gp,eI Zo Zo];simp
  have cM:decide (((l7 (V+1):Nat):Int)<0)=false:=zO
  refine eh @pv @js @t9 @t3 @d @dA (Za @aA (Za @d2 (Za @cu (Za @cM @bC)))) ⟨?_⟩
  exact⟨m,Zo,V+1,aW t0,aW t9,aW js,bo,bo,Zo,rfl,rfl⟩
 |zero=>
  have d:decide ((V:Int)<3)=false:=zO
  have Pa:V=3:=Zo
  subst Pa
  rw[aew]at t3
  refine gk @pv @js @t3 @d ⟨?_⟩
  refine(aCZ aw aK bn aF).Zm ?_
  rintro ac aP aX ⟨rfl,⟨dC,b2⟩,bI,lS⟩
  generalize sB:A.length+bx.length+ae.length=dv at*
  refine cj @t0 ⟨?_⟩
  refine fE (λm I R aS=>∃(V:Nat) (c:S E),I.g 25=some (.slice rj 0 3 3)/\I.g 26=some (.Z 3)/\I.g 27=some (.Z (V:Int))/\I.g 6=some (.fl aV 0 (l7 V) 8)/\V+m=3/\aV<aS/\br X aQ aV R aS
   /\W X R aV=some (.cells c (dv*8) (.grow []))/\∀(i:Nat) v,((Ai V).map dK).flatten[i]? =some v->c.get i=some v)
   3 ⟨0,dC,bo,fY,fY,by refine Cf ⟨?_⟩;rw[Ev],Zo,lS,bI,b2,λi v a=>by rw[asc]at a;simp at a⟩ ?_
  clear t0 t9 js pv t3
  rintro m I a6 bz ⟨V,ge,na,l1,Gh,eY,bF,ww,cp,cI,xP⟩
  have Lm:∀L:List eb,((L.map dK).flatten).length=L.length*8:=λL=>by
   have:=tE (be:=L.map dK) (bd:=8) (by intro r Y;obtain⟨d,_,rfl⟩:=ZE.1 Y;rfl)
   rw[this,Zi]
  cases m with
  |zero=>
   have d:decide ((V:Int)<3)=false:=zO
   have Pa:V=3:=Zo
   subst Pa
   rw[aew]at eY
   refine gk @Gh @l1 @eY @d ⟨?_⟩
   have k7:Ai 3=A++(bx++ae):=by rw[mC];simp
   rw[k7]at xP
   have eM:(A++(bx++ae)).length=dv:=by simp;omega
   refine⟨aV,⟨λ_=>⟨Zo,Zo⟩,by rw[Zi,eM];omega,by intro r Y;obtain⟨d,_,rfl⟩:=ZE.1 Y;rfl,by rw[wK,Zi,eM],λi aG=>by rw[Fp _ (by rw[Zi,eM]at aG;omega),ZT],λi r ahb v aG Ic=> ?_⟩,cp⟩
   rw[bG cI]
   exact xP _ _ (Ti _ (by intro r Y;obtain⟨d,_,rfl⟩:=ZE.1 Y;rfl) i r ahb v aG Ic)
  |succ m=>
   have d:decide ((V:Int)<3)=true:=zP
   have bC:=zE V
   obtain⟨s,b,L,aC,cG,gp,aue⟩:=Iu V Zo
   have dA:gd 1 (.slice rj 0 3 3) (.Z (V:Int))=some (.ptr rj V):=by rw[Fo _ Zo];simp
   have aut:W X a6 rj=zD [cQ,c4,aO] 3:=by rw[cp.ab _ u0];exact aE
   have aA:=qO _ V s aut aC
   have kV:=QJ (cG.ab (R:=a6) (λe z=>cp.ab e (bs e z))) Zd
   rw[Zi]at kV
   have H:=c8 V L gp
   have M:=gl (V+1)
   refine eh @Gh @l1 @na @eY @d @dA @aA ⟨?_⟩
   refine aCt cI Zo kV (Lm L) Zo ?_ ?_
   ·clear kV
    have:∀dv:List eb,Go.bg.iF (dv.map dK).flatten=true:=by
     intro dv
     induction dv with
     |nil=>rfl
     |cons d dv ah=>simpa[dK,Go.bg.iF,po]using ah
    exact this L
   ·intro bH ou dL wi gz
    refine cS @Gh @bC ⟨?_⟩
    refine⟨m,Zo,V+1,ou,aW na,aW l1,bo,by refine Cf ⟨?_⟩;rw[H],Zo,ww,⟨cp.le,λe z=>by rw[gz e Zo];exact cp.ab e z⟩,dL,λi v aG=> ?_⟩
    rw[afr V L gp]at aG
    simp only[YN,ZW]at aG
    have tY:(((Ai V).map dK).flatten).length=l7 V*8:=by
     rw[Lm,Le]
    rw[wi]
    by_cases c3:i<l7 V*8
    ·rw[Zg Zo]
     rw[Z7 Zo]at aG
     exact xP i v aG
    ·rw[ZM Zo,tY]at aG
     have:=(Zb.1 aG).1
     rw[Zp ⟨Zo,Zo⟩]
     exact aG
end
section
variable{X:ca}{h R fi aQ aP:S ag}{j an aV aX:Nat}{s:aR}
def aCK{t:d3}(a:lA t=true):oa t≠[]:=by
 unfold oa
 rw[Zp a]
 split<;>simp
def aqZ(aw:jd X)(bY:mi X)(dZ:sf X){P:Nat->Prop}{b:Nat}{aO:E}{ds:List eb}(aF:(o X).a8<=j)(cG:dV X h P b aO 8 (ds.map dK))(bs:∀e,P e->e<j)(bb:∀d∈ds,oT jJ d):
 a2 X 98 [aO] h j (λac R an=>ac= .zT/\br X h j R an) zL:=by
 refine zG aw.todk (aoJ X) ?_
 rw[aoK]
 unfold abP
 have d2:=cG.len
 have h1:=cG.many
 rw[Zi]at d2 h1
 refine cj @d2 ⟨?_⟩
 refine fE (λm I R aS=>∃(V:Nat),I.g 5=some aO/\I.g 6=some (.Z (ds.length:Int))/\I.g 7=some (.Z (V:Int))/\V+m=ds.length/\br X h j R aS)
  ds.length ⟨0,bo,bo,fY,Zo,br.refl _ _⟩ ?_
 rintro m I aQ aV ⟨V,t5,eY,e9,bF,bL⟩
 have jy:=bL.le
 cases m with
 |zero=>
  have d:=zA V ds.length
  refine er @e9 @eY @d ⟨?_⟩
  exact⟨rfl,bL⟩
 |succ m=>
  have SQ:=zB V ds.length
  have bC:=zE V
  obtain⟨d,aJ⟩:=zC ds V
  have AE:=bb d (Zl aJ)
  have dA:=cG.fx V (by rw[Zi];omega)
  have fD:=(cG.ab (λe z=>bL.ab e (bs e z))).row (i:=V) (r:=dK d) Zd (by rw[Zy,aJ];rfl)
  have jl:dK d=[.str d.name, .Z d.at_, .bool d.ty.b, .bool d.ty.s, .Z d.ty.w, .str d.on, .Z d.eX, .bool d.no]:=rfl
  rw[jl]at fD
  refine ic @e9 @eY @t5 @SQ @dA @fD ⟨?_⟩
  generalize dR:bm X _ aV _=aP
  have b2:W X aP aV=zD [.str d.name, .Z d.at_, .bool d.ty.b, .bool d.ty.s, .Z d.ty.w, .str d.on, .Z d.eX, .bool d.no] 8:=by rw[<-dR,bh Zo];rfl
  have bI:br X h j aP (aV+1):=⟨Zo,λe z=>by rw[<-dR];simp(disch:=omega) only[aI];exact bL.ab e z⟩
  clear dR
  refine cj (bG b2) ⟨?_⟩
  refine(Mp (j:=aV+1) (h:=aP) aw bY dZ AE.name Zo).Zm ?_
  rintro ac a6 bz ⟨rfl,cp⟩
  have jm:=cp.le
  rw[<-cp.ab _ Zo]at b2
  have sM:eE d.ty=[.bool d.ty.b, .bool d.ty.s, .Z d.ty.w]:=rfl
  have AK:dE X a6 3 (.ptr aV 2)=some (.agg (eE d.ty)):=by
   rw[wJ,bG b2,bG b2,bG b2];rfl
  refine cj @AK ⟨?_⟩
  refine(ajX (j:=bz) (h:=a6) aw.todk d.ty Zo).Zm ?_
  rintro ac bH cC ⟨rfl,cW⟩
  have iu:=cW.le
  rw[<-cW.ab _ Zo]at b2
  have c2:decide (oa d.ty=[])=false:=by simp[aCK AE.type]
  have aeD:br X h j bH cC:=(bI.trans cp).trans cW
  by_cases ls:d.on=[]
  ·have cM:decide (d.on≠[])=false:=by simp[ls]
   have e2:decide (d.on=[])=true:=by simp[ls]
   have jQ:aU X bH (.ptr aV 7)=some .zF:=by rw[bG b2];exact congrArg (λb=>some (E.bool b)) (AE.no ls)
   have Va:aU X bH (.ptr aV 5)=some (.str d.on):=by rw[bG b2];rfl
   refine eh @c2 @Va @cM @e2 @jQ @e9 @bC ⟨?_⟩
   exact⟨m,Zo,V+1,aW t5,aW eY,bo,Zo,aeD⟩
  ·have cM:decide (d.on≠[])=true:=by simp[ls]
   have e2:decide (d.on=[])=false:=by simp[ls]
   have Va:aU X bH (.ptr aV 5)=some (.str d.on):=by rw[bG b2];rfl
   refine er @c2 @Va @cM ⟨?_⟩
   refine(Mp (j:=cC) (h:=bH) aw bY dZ (AE.on ls) Zo).Zm ?_
   rintro ac bN ci ⟨rfl,dW⟩
   have iP:=dW.le
   rw[<-dW.ab _ Zo]at b2
   have awl:aU X bN (.ptr aV 5)=some (.str d.on):=by rw[bG b2];rfl
   refine gk @awl @e2 @e9 @bC ⟨?_⟩
   exact⟨m,Zo,V+1,aW t5,aW eY,bo,Zo,aeD.trans dW⟩
def aAw(aw:jd X)(bY:mi X)(dZ:sf X){w:aR}(bb:GU w)(aF:(o X).a8<=j):
 a2 X 99 [.str w] h j (λac R an=>ac= .zF/\br X h j R an) zL:=by
 refine zG aw.todk (aoL X) ?_
 rw[aoM]
 unfold abQ
 refine(Mp (j:=j) (h:=h) aw bY dZ bb aF).Zm ?_
 rintro ac aP aX ⟨rfl,bI⟩
 refine cL ⟨?_⟩
 exact⟨rfl,bI⟩
def ay3(aw:jd X)(bY:mi X)(dZ:sf X){P:Nat->Prop}{b:Nat}{aO:E}{hi:List aR}(aF:(o X).a8<=j)(Y:dV X h P b aO 1 (f8 hi))(bs:∀e,P e->e<j)(bb:∀w∈hi,GU w):
 a2 X 49 [aO, .func (.func 99) [] []] h j (λac R an=>ac= .zF/\br X h j R an) zL:=by
 refine zG aw.todk (aaV X) ?_
 rw[aaW]
 unfold RP
 refine a2.mono (ai:=λac R an=>ac= .Z (-1)/\br X h j R an) (ax:=λ_ _ _=>False) ?_ ?_ (λ_ _ _ a=>a.elim)
 ·refine zG aw.todk (abr X) ?_
  rw[abs]
  unfold RS
  have d2:=Y.len
  have h1:=Y.many
  rw[show(f8 hi).length=hi.length from by simp[f8]]at d2 h1
  refine cj @d2 ⟨?_⟩
  refine fE (λm I R aS=>∃(V:Nat),I.g 0=some aO/\I.g 1=some (.func (.func 99) [] [])/\I.g 7=some (.Z (hi.length:Int))/\I.g 8=some (.Z (V:Int))/\V+m=hi.length/\br X h j R aS)
   hi.length ⟨0,bo,bo,bo,fY,Zo,br.refl _ _⟩ ?_
  rintro m I aQ aV ⟨V,t0,t1,e9,gQ,bF,bL⟩
  have jy:=bL.le
  cases m with
  |zero=>
   have d:=zA V hi.length
   refine er @gQ @e9 @d ⟨?_⟩
   exact⟨rfl,bL⟩
  |succ m=>
   have d:=zB V hi.length
   have bC:=zE V
   obtain⟨w,nt⟩:=zC hi V
   have dA:=Y.fx V (by simp[f8];omega)
   have h0:=(Y.ab (λe z=>bL.ab e (bs e z))).cell V [.str w] 0 (.str w) (by unfold f8;rw[Zy,nt];rfl) rfl
   rw[Z4]at dA
   rw[Z4,ZX]at h0
   refine eh @gQ @e9 @t1 @t0 @d @dA @h0 ⟨?_⟩
   refine(aAw (j:=aV) (h:=aQ) aw bY dZ (bb w (Zl nt)) Zo).Zm ?_
   rintro ac aP aX ⟨rfl,bI⟩
   refine cS @gQ @bC ⟨?_⟩
   exact⟨m,Zo,V+1,aW t0,aW t1,aW e9,bo,Zo,bL.trans bI⟩
 ·rintro ac aQ aV ⟨rfl,bY⟩
  refine cL ⟨?_⟩
  exact⟨rfl,bY⟩
end
def aAU:∀w<65,Dj ((w:Nat):Int)=((2^w-1:Nat):Int):=by decide+kernel
def apv{n w:Nat}(bb:w<=64)(aF:n<18446744073709551616)(a:J5 (n:Int) (Dj (w:Int))=0):n<2^w:=by
 rw[aAU w Zo]at a
 unfold J5 at a
 have c3:=(BitVec.ofInt 64 (n:Int)&&& ~~~ BitVec.ofInt 64 ((2^w-1:Nat):Int)).isLt
 rw[akq Zo Zo]at a
 have aK:BitVec.ofInt 64 (n:Int)&&& ~~~ BitVec.ofInt 64 ((2^w-1:Nat):Int)=0#64:=BitVec.eq_of_toNat_eq (by rw[BitVec.toNat_ofNat];omega)
 rw[BitVec.ofInt_natCast,BitVec.ofInt_natCast]at aK
 apply Nat.lt_pow_two_of_testBit
 intro i aG
 by_cases HO:i<64
 ·have aj:=congrArg (λv=>v.getLsbD i) aK
  simp only[BitVec.getLsbD_and,BitVec.getLsbD_not,BitVec.getLsbD_ofNat,HO,YG,zk,Nat.testBit_two_pow_sub_one,BitVec.getLsbD_zero]at aj
  have:decide (i<w)=false:=by simp;omega
  rw[this]at aj
  simpa using aj
 ·exact Nat.testBit_lt_two_pow (ZP aF (by
   have:(18446744073709551616:Nat)=2^64:=by decide
   rw[this]
   exact Nat.pow_le_pow_right Zd Zo))
def azj{t:d3}{n:Int}(a:RH t n):n<2^(if t.s then t.w-1 else t.w).toNat:=by
 obtain⟨H,M,al,aB⟩:=a
 obtain⟨m,rfl⟩:=Ye al
 have bb:=Qc H
 have key:∀w:Nat,w<=64->J5 (m:Int) (Dj (w:Int))=0->(m:Int)<2^w:=λw bb a=>by
  have:=apv bb Zo a
  have M:((2^w:Nat):Int)=(2:Int)^w:=by simp
  rw[<-M];omega
 unfold wy at M
 cases aC:t.s with
 |true=>
  rw[Zp aC]at M
  rw[Zp rfl]
  by_cases aK:t.w-1=0
  ·rw[Zp aK]at M
   have:(m:Int)=0:=by simpa using M
   rw[aK,this];decide
  ·rw[Zg aK]at M
   obtain⟨w,AZ⟩:=Ye (by omega:0<=t.w-1)
   rw[AZ]at M ⊢
   simp only[Fm,Zq,Zh]at M
   exact key w Zo M.2
 |false=>
  rw[Zg (by simp[aC])]at M
  rw[Zg Zs]
  obtain⟨w,AZ⟩:=Ye (by omega:0<=t.w)
  simp only[Fm,Zq,Zh]at M
  rw[AZ]at M ⊢
  exact key w Zo M.2
section
variable{X:ca}{h R fi aQ aP:S ag}{j an aV aX:Nat}{s:aR}
def ajo{n b:Int}(aK:0<=n)(aj:0<=b)(kC:b<=64)(a:n<2^b.toNat):bv .shr (.int .u64 n) (.Z b)=some (.int .u64 0):=by
 have bC:A1 b 0=false:=by rw[vf];simp;omega
 have cu:min b.toNat IntKind.u64.bits=b.toNat:=by
  have:IntKind.u64.bits=64:=rfl
  rw[this];omega
 have fL:n.fdiv (2^b.toNat)=0:=by
  rw[Int.fdiv_eq_ediv_of_nonneg _ (by exact Int.le_of_lt (Int.lt_of_le_of_lt aK a))]
  exact Int.ediv_eq_zero_of_lt aK a
 simp only[bv,mc,fo,J3,bC,lo,cu,fL]
 rfl
def azk(aw:jd X){P:Nat->Prop}{D:bp}{v:E}(aF:(o X).a8<=j)(bA:cn X h P D v)(bs:∀e,P e->e<j)(aH:D.kind=1)(az:RH D.ty D.n):
 a2 X 137 [v] h j (λac R an=>ac= .zT/\br X h j R an) zL:=by
 refine zG aw.todk (al1 X) ?_
 rw[al2]
 unfold aah
 obtain⟨b,aO,ce,bk,rfl,aj,a0,bf,cf,a3,a4,a5,jK,kx,jf,cG,has⟩:=id bA.open
 have f5:=bs b aj
 have OR:=azj az
 have bb:=Qc az.1
 have y9:decide (D.kind=1)=true:=by simp[aH]
 have sM:eE D.ty=[.bool D.ty.b, .bool D.ty.s, .Z D.ty.w]:=rfl
 have AK:dE X h 3 (.ptr b 4)=some (.agg (eE D.ty)):=by rw[wJ,a4,a5,jK];rfl
 cases aC:D.ty.s with
 |true=>
  rw[aC]at a5
  rw[Zp aC]at OR
  have bC:bv .sub (.Z D.ty.w) (.Z 1)=some (.Z (D.ty.w-1)):=x7 Zo Zo
  have Kk:decide (D.ty.w-1=64)=false:=zO
  have mD:=ajo az.2.2.1 Zo Zo OR
  refine ic @a5 @jK @bC @a0 @y9 @AK ⟨?_⟩
  refine(FF (j:=j) (h:=h) aw.todk D.ty aF).Zm ?_
  rintro ac aQ aV ⟨rfl,bL⟩
  have R0:aU X aQ (.ptr b 7)=some (.int .u64 D.n):=by rw[bL.e6 _ _ f5];exact kx
  have bn:lA D.ty=true:=az.1
  rw[bn]
  refine er @Kk @R0 @mD ⟨?_⟩
  exact⟨rfl,bL⟩
 |false=>
  rw[aC]at a5
  rw[Zg (by simp[aC])]at OR
  refine f3 @a5 @jK @a0 @y9 @AK ⟨?_⟩
  refine(FF (j:=j) (h:=h) aw.todk D.ty aF).Zm ?_
  rintro ac aQ aV ⟨rfl,bL⟩
  have R0:aU X aQ (.ptr b 7)=some (.int .u64 D.n):=by rw[bL.e6 _ _ f5];exact kx
  have bn:lA D.ty=true:=az.1
  rw[bn]
  by_cases HO:D.ty.w=64
  ·have Kk:decide (D.ty.w=64)=true:=by simp[HO]
   refine cj @Kk ⟨?_⟩
   exact⟨rfl,bL⟩
  ·have Kk:decide (D.ty.w=64)=false:=by simp[HO]
   have mD:=ajo az.2.2.1 Zo Zo OR
   refine er @Kk @R0 @mD ⟨?_⟩
   exact⟨rfl,bL⟩
def aAe(b:Nat):db X h .eql 54 false .cN (.ptr b 0)=some .zF:=Zk
def apG(aw:jd X){P:Nat->Prop}{b:Nat}{aO:E}{b8:List bp}{bk:List E}(Y:dV X h P b aO 1 (bk.map λv=>[v]))(H7:de X h P b8 bk):
 a2 X 136 [aO, .cN] h j (λac R an=>ac= .zF/\R=h/\j<=an) zL:=by
 refine zG aw.todk (alZ X) ?_
 rw[al0]
 unfold aag
 refine a2.mono (ai:=λac R an=>ac= .Z (-1)/\R=h/\j<=an) (ax:=λ_ _ _=>False) ?_ ?_ (λ_ _ _ a=>a.elim)
 ·refine zG aw.todk (amb X) ?_
  rw[amc]
  unfold aam
  have d2:=Y.len
  have h1:=Y.many
  rw[Zi]at d2 h1
  refine cj @d2 ⟨?_⟩
  refine fE (λm I R aS=>∃(V:Nat),I.g 0=some aO/\I.g 1=some .cN/\I.g 7=some (.Z (bk.length:Int))/\I.g 8=some (.Z (V:Int))/\V+m=bk.length/\R=h/\j<=aS)
   bk.length ⟨0,bo,bo,bo,fY,Zo,rfl,Zo⟩ ?_
  rintro m I aP aX ⟨V,t0,t1,e9,gQ,bF,rfl,lS⟩
  cases m with
  |zero=>
   have d:=zA V bk.length
   refine er @gQ @e9 @d ⟨?_⟩
   exact⟨rfl,rfl,lS⟩
  |succ m=>
   have d:=zB V bk.length
   have bC:=zE V
   obtain⟨v,bD⟩:=zC bk V
   have Lk:=H7.len
   obtain⟨D,bA⟩:=zC b8 V
   obtain⟨f9,AY,AG⟩:=H7.get V D bA
   rw[bD]at AY
   cases AY
   obtain⟨Hg,rfl,_,_⟩:=AG.ptr
   obtain⟨bP,b2,cI⟩:=Y.one bD
   refine eh @gQ @e9 @t1 @t0 @d @bP (Za @b2 (Za @aAe @bC)) ⟨?_⟩
   exact⟨m,Zo,V+1,aW t0,aW t1,aW e9,bo,Zo,rfl,lS⟩
 ·rintro ac aQ aV ⟨rfl,rfl,bY⟩
  refine cL ⟨?_⟩
  exact⟨rfl,rfl,bY⟩
end
def vt(u:Int):Option (Int×Bool×Bool×Bool):=
 if u=1 then some (0,false,true,true)else if u=2 then some (0,true,false,false)else if u=3\/u=4\/u=5 then some (1,false,false,false)else if u=6 then some (1,true,false,false)
 else if u=19\/u=20 then some (1,false,false,true)else if u=23 then some (3,false,false,false)else if u=24 then some (2,true,false,false)else if u=25 then some (-1,true,false,false)
 else if u=26 then some (1,false,true,false)else none
def q6(s:Int×Bool×Bool×Bool):List E:=[.Z s.1, .bool s.2.1, .bool s.2.2.1, .bool s.2.2.2]
structure xe(X:ca):Prop where
 at_:∀h,∃v,aU X h (.ptr 7 0)=some v/\∀u:Int,n3 X h 3 (.agg [.Z 0, .zF, .zF, .zF]) v (.Z u) true=some (.tuple [.agg (q6 ((vt u).getD (0,false,false,false))), .bool (vt u).isSome])
structure aoU(D:bp)(s:Int×Bool×Bool×Bool):Prop where
 sp:0<=s.1->(D.args.length:Int)=s.1
 Qm:s.2.1=true->GU D.name
 hS:s.2.1=false->D.name=[]
 XF:s.2.2.1=true->lA D.ty=true
 dQ:s.2.2.1=false->D.ty=dQ
 a8:s.2.2.2=false->D.n=0
def aC0{D:bp}(a:DS jJ D):aoU D ((vt D.kind).getD (2,false,false,false)):=by
 have H:=a.bR
 have M:=a.cm
 have pV:=a.sp
 have g1:=a.nm
 have EW:=a.hS
 have AW:=a.ty
 have AX:=a.dQ
 have g0:=a.a8
 unfold tq at pV
 unfold u2 at g1 EW
 unfold u3 at AW AX
 generalize D.kind=u at*
 unfold vt
 have aH:u=1\/u=2\/(u=3\/u=4\/u=5)\/u=6\/(u=19\/u=20)\/u=23\/u=24\/u=25\/u=26\/(7<=u/\u<=18\/u=21\/u=22):=Zo
 rcases aH with aH|aH|aH|aH|aH|aH|aH|aH|aH|aH
 ·subst aH
  exact⟨λ_=>by have:=pV 0 Zs;simp[this],λa=>by simp at a,λ_=>EW Zo,λ_=>AW Zo,λa=>by simp at a,λa=>by simp at a⟩
 ·subst aH
  exact⟨λ_=>by have:=pV 0 Zs;simp[this],λ_=>g1 Zo,λa=>by simp at a,λa=>by simp at a,λ_=>AX Zo,λ_=>g0 Zo Zo Zo⟩
 ·rw[Zg Zo,Zg Zo,Zp aH]
  rw[Zg Zo,Zg Zo,Zp Zo]at pV
  exact⟨λ_=>by have:=pV 1 rfl;simp[this],λa=>by simp at a,λ_=>EW Zo,λa=>by simp at a,λ_=>AX Zo,λ_=>g0 Zo Zo Zo⟩
 ·subst aH
  exact⟨λ_=>by have:=pV 1 Zs;simp[this],λ_=>g1 Zo,λa=>by simp at a,λa=>by simp at a,λ_=>AX Zo,λ_=>g0 Zo Zo Zo⟩
 ·rw[Zg Zo,Zg Zo,Zg Zo,Zg Zo,Zp aH]
  rw[Zg Zo,Zg Zo,Zp Zo]at pV
  exact⟨λ_=>by have:=pV 1 rfl;simp[this],λa=>by simp at a,λ_=>EW Zo,λa=>by simp at a,λ_=>AX Zo,λa=>by simp at a⟩
 ·subst aH
  exact⟨λ_=>by have:=pV 3 Zs;simp[this],λa=>by simp at a,λ_=>EW Zo,λa=>by simp at a,λ_=>AX Zo,λ_=>g0 Zo Zo Zo⟩
 ·subst aH
  exact⟨λ_=>by have:=pV 2 Zs;simp[this],λ_=>g1 Zo,λa=>by simp at a,λa=>by simp at a,λ_=>AX Zo,λ_=>g0 Zo Zo Zo⟩
 ·subst aH
  exact⟨λa=>by simp at a,λ_=>g1 Zo,λa=>by simp at a,λa=>by simp at a,λ_=>AX Zo,λ_=>g0 Zo Zo Zo⟩
 ·subst aH
  exact⟨λ_=>by have:=pV 1 Zs;simp[this],λa=>by simp at a,λ_=>EW Zo,λ_=>AW Zo,λa=>by simp at a,λ_=>g0 Zo Zo Zo⟩
 ·rw[Zg Zo,Zg Zo,Zg Zo,Zg Zo,Zg Zo,Zg Zo,Zg Zo,Zg Zo,Zg Zo]
  rw[Zg Zo,Zg Zo,Zg Zo,Zg Zo]at pV
  exact⟨λ_=>by have:=pV 2 rfl;simp[this],λa=>by simp at a,λ_=>EW Zo,λa=>by simp at a,λ_=>AX Zo,λ_=>g0 Zo Zo Zo⟩
section
variable{X:ca}{h R fi aQ aP:S ag}{j an aV aX:Nat}{s:aR}
structure akK(G:Prop):Prop where
 out:G
def NR{G qz:Prop}(iE:akK G->qz)(aDL:G):qz:=iE ⟨aDL⟩
def ap9:db X h .neq 4 false .zF .zF=some .zF:=Zk
def aqa:db X h .neq 4 false .zT .zT=some .zF:=Zk
def aEq:db X h .neq 44 false (.agg [.zF, .zF, .Z 0]) (.agg [.zF, .zF, .Z 0])=some .zF:=Zk
def aBx(b:Nat):db X h .neq 54 true (.ptr b 0) .cN=some .zT:=Zk
set_option maxRecDepth 100000 in
def azv(aw:jd X)(bY:mi X)(dZ:sf X)(iX:xe X){P:Nat->Prop}{D:bp}{v:E}(aF:(o X).a8<=j)(bA:cn X h P D v)(bs:∀e,P e->e<j)(bb:eG jJ D):
 a2 X 125 [v] h j (λac R an=>ac= .zT/\br X h j R an) zL:=by
 refine zG aw.todk (alF X) ?_
 rw[alG]
 unfold χ
 rw[eG.eq]at bb
 obtain⟨bb,wC⟩:=bb
 have mD:=aC0 bb
 obtain⟨b,aO,ce,bk,rfl,aj,a0,bf,cf,a3,a4,a5,jK,kx,jf,cG,has⟩:=id bA.open
 have f5:=bs b aj
 obtain⟨fM,O3,O4⟩:=iX.at_ h
 have kT:=O4 D.kind
 generalize Ix:(vt D.kind).getD (2,false,false,false)=s at mD
 have awX:∀ak:Int×Bool×Bool×Bool,q6 ak=[.Z ak.1, .bool ak.2.1, .bool ak.2.2.1, .bool ak.2.2.2]:=λ_=>rfl
 rw[awX]at kT
 refine hl @O3 @a0 @kT ⟨?_⟩
 refine ko (λda R aS=>da.g 0=some (.ptr b 0)/\da.g 3=some (.ptr (j+9) 0)/\br X h j R aS/\j+9<aS/\W X R (j+9)=zD (q6 s) 4) (λV bF=> ?_) ?_
 ·cases bM:vt D.kind with
  |some ak=>
   rw[bM]at Ix
   simp only[YJ]at Ix
   subst Ix
   simp only[YJ,Ya]
   refine cL ⟨?_⟩
   exact bF _ _ _ ⟨bo,bo,dH,Zo,by rw[bh Zo];rfl⟩
  |none=>
   rw[bM]at Ix
   simp only[Option.getD_none]at Ix
   subst Ix
   simp only[Option.getD_none,Z3]
   refine cL ⟨?_⟩
   exact bF _ _ _ ⟨bo,bo,dH,Zo,by rw[bh Zo];rfl⟩
 rintro I aQ aV ⟨t0,t3,bL,tX,bP⟩
 have rd:∀R,Go.bg.W X R (j+9)=zD (q6 s) 4->aU X R (.ptr (j+9) 0)=some (.Z s.1)/\aU X R (.ptr (j+9) 1)=some (.bool s.2.1)/\aU X R (.ptr (j+9) 2)=some (.bool s.2.2.1)/\aU X R (.ptr (j+9) 3)=some (.bool s.2.2.2):=λR a=>
  ⟨by rw[bG a];rfl,by rw[bG a];rfl,by rw[bG a];rfl,by rw[bG a];rfl⟩
 have jx:=bb.bR
 have hD:=bb.cm
 have c2:decide (D.kind<1)=false:=zO
 have cM:decide ((26:Int)<D.kind)=false:=zO
 obtain⟨j9,fz,gn,iG⟩:=rd aQ bP
 have JZ:aU X aQ (.ptr b 0)=some (.Z D.kind):=by rw[bL.e6 _ _ f5];exact a0
 have J0:aU X aQ (.ptr b 8)=some aO:=by rw[bL.e6 _ _ f5];exact jf
 have d2:=cG.len
 have Lk:=has.len
 rw[Zi,Lk]at d2
 have md:∀e,P e->W X aQ e=W X h e:=λe z=>bL.ab e (bs e z)
 have jy:=bL.le
 apply NR
 ·intro ayg
  by_cases pV:0<=s.1
  all_goals
   first
   |(
     have e2:decide ((0:Int)<=s.1)=true:=by simp[pV]
     have jh:decide ((D.args.length:Int)≠s.1)=false:=by simp[mD.sp pV]
     refine hl @t0 @t3 (Za @JZ (Za @c2 (Za @cM (Za @j9 (Za @e2 (Za @J0 (Za @d2 (Za @j9 @jh)))))))) ⟨?_⟩)
   |(
     have e2:decide ((0:Int)<=s.1)=false:=by simp[pV]
     refine hl @t0 @t3 (Za @JZ (Za @c2 (Za @cM (Za @j9 (Za @e2 @J0))))) ⟨?_⟩)
   refine(apG (j:=aV+34) (h:=aQ) aw (cG.ab md) (de.ab md _ _ has)).Zm ?_
   rintro ac aP aX ⟨rfl,rfl,fN⟩
   refine uU ⟨?_⟩
   refine ko (λda R aS=>da.g 0=some (.ptr b 0)/\da.g 3=some (.ptr (j+9) 0)/\br X h j R aS/\j+9<aS/\W X R (j+9)=zD (q6 s) 4) (λV bF=> ?_) ?_
   ·refine cL ⟨?_⟩
    exact bF _ _ _ ⟨aW t0,aW t3,bL.more Zo,Zo,bP⟩
   exact ayg.out
 clear t0 t3 bL bP j9 fz gn iG JZ J0 md jy
 rintro I a6 bz ⟨t0,t3,cp,ww,cI⟩
 obtain⟨j9,fz,gn,iG⟩:=rd a6 cI
 have jm:=cp.le
 have G7:aU X a6 (.ptr b 2)=some (.str D.name):=by rw[cp.e6 _ _ f5];exact cf
 have av6:s.2.1=true->decide (D.name≠[])=true:=λa=>by simp[(mD.Qm a).ne]
 have av4:s.2.1=false->decide (D.name≠[])=false:=λa=>by simp[mD.hS a]
 have jQ:(D.no=true/\decide (D.kind≠6)=false)\/(D.no=false/\decide ((0:Int)≠0)=false):=by
  cases bM:D.no with
  |true=>exact .inl ⟨rfl,by simp[bb.no bM]⟩
  |false=>exact .inr ⟨rfl,rfl⟩
 apply NR
 ·intro ayd
  rcases Bool.eq_false_or_eq_true s.2.1 with lu|lu
  all_goals
   first
   |(
     have B7:=av6 lu
     rw[lu]at fz
     refine hl @t0 @t3 (Za @fz (Za @G7 (Za @B7 @aqa))) ⟨?_⟩
     refine(Mp (j:=bz+33) (h:=a6) aw bY dZ (mD.Qm lu) Zo).Zm ?_
     rintro ac bH cC ⟨rfl,cW⟩
     have iu:=cW.le
     have tL:br X h j bH cC:=cp.trans (cW.kZ Zo)
     have U0:j+9<cC:=Zo
     have fU:W X bH (j+9)=zD (q6 s) 4:=by rw[cW.ab _ Zo];exact cI
     have RZ:aU X bH (.ptr b 3)=some (.bool D.no):=by rw[tL.e6 _ _ f5];exact a3
     have xm:aU X bH (.ptr b 0)=some (.Z D.kind):=by rw[tL.e6 _ _ f5];exact a0)
   |(
     have B7:=av4 lu
     rw[lu]at fz
     refine hl @t0 @t3 (Za @fz (Za @G7 (Za @B7 @ap9))) ⟨?_⟩
     have tL:br X h j a6 (bz+33):=cp.more Zo
     have U0:j+9<bz+33:=Zo
     have fU:W X a6 (j+9)=zD (q6 s) 4:=cI
     have RZ:aU X a6 (.ptr b 3)=some (.bool D.no):=by rw[tL.e6 _ _ f5];exact a3
     have xm:aU X a6 (.ptr b 0)=some (.Z D.kind):=by rw[tL.e6 _ _ f5];exact a0)
   rcases jQ with ⟨af6,y9⟩|⟨af6,y9⟩
   all_goals
    rw[af6]at RZ
    refine hl @t0 @t3 (Za @RZ (Za @xm @y9)) ⟨?_⟩
    refine ko (λda R aS=>da.g 0=some (.ptr b 0)/\da.g 3=some (.ptr (j+9) 0)/\br X h j R aS/\j+9<aS/\W X R (j+9)=zD (q6 s) 4) (λV bF=> ?_) ?_
    ·refine cL ⟨?_⟩
     exact bF _ _ _ ⟨aW t0,aW t3,tL.more Zo,Zo,fU⟩
    exact ayd.out
 clear t0 t3 cp cI j9 fz gn iG G7 jm
 rintro I bN ci ⟨t0,t3,dW,af1,fg⟩
 obtain⟨j9,fz,gn,iG⟩:=rd bN fg
 have iP:=dW.le
 have sM:eE D.ty=[.bool D.ty.b, .bool D.ty.s, .Z D.ty.w]:=rfl
 have AK:dE X bN 3 (.ptr b 4)=some (.agg (eE D.ty)):=by rw[wJ,dW.e6 _ _ f5,dW.e6 _ _ f5,dW.e6 _ _ f5,a4,a5,jK];rfl
 apply NR
 ·intro ayf
  rcases Bool.eq_false_or_eq_true s.2.2.1 with lu|lu
  all_goals
   first
   |(
     have bn:=mD.XF lu
     rw[lu]at gn
     refine hl @t0 @t3 (Za @gn @AK) ⟨?_⟩
     refine(FF (j:=ci) (h:=bN) aw.todk D.ty Zo).Zm ?_
     rintro ac b6 dr ⟨rfl,ec⟩
     rw[bn]
     have oB:=ec.le
     have tL:br X h j b6 dr:=dW.trans (ec.kZ Zo)
     have U0:j+9<dr:=Zo
     have fU:W X b6 (j+9)=zD (q6 s) 4:=by rw[ec.ab _ Zo];exact fg
     have abY:aU X b6 (.ptr b 7)=some (.int .u64 D.n):=by rw[tL.e6 _ _ f5];exact kx
     have QH:aU X b6 (.ptr (j+9) 3)=some (.bool s.2.2.2):=(rd b6 fU).2.2.2)
   |(
     have bn:=mD.dQ lu
     rw[lu]at gn
     have axi:eE D.ty=[.zF, .zF, .Z 0]:=by rw[bn];rfl
     rw[axi]at AK
     refine hl @t0 @t3 (Za @gn (Za @AK @aEq)) ⟨?_⟩
     have tL:br X h j bN ci:=dW
     have U0:j+9<ci:=af1
     have fU:W X bN (j+9)=zD (q6 s) 4:=fg
     have abY:aU X bN (.ptr b 7)=some (.int .u64 D.n):=by rw[tL.e6 _ _ f5];exact kx
     have QH:aU X bN (.ptr (j+9) 3)=some (.bool s.2.2.2):=(rd bN fU).2.2.2)
   rcases Bool.eq_false_or_eq_true s.2.2.2 with p3|p3
   all_goals
    first
    |(
      have B7:decide ((0:Int)≠0)=false:=rfl
      rw[p3]at QH
      have aGN:s.2.2.2=true:=p3)
    |(
      have B7:decide (D.n≠0)=false:=by simp[mD.a8 p3]
      rw[p3]at QH)
    refine hl @t0 @t3 (Za @QH (Za @abY @B7)) ⟨?_⟩
    refine ko (λda R aS=>da.g 0=some (.ptr b 0)/\da.g 3=some (.ptr (j+9) 0)/\br X h j R aS/\j+9<aS/\W X R (j+9)=zD (q6 s) 4) (λV bF=> ?_) ?_
    ·refine cL ⟨?_⟩
     exact bF _ _ _ ⟨aW t0,aW t3,tL.more Zo,Zo,fU⟩
    exact ayf.out
 clear t0 t3 dW fg j9 fz gn iG iP AK
 rintro I cy dX ⟨t0,t3,eC,Ih,ew⟩
 have nr:=eC.le
 have G6:aU X cy (.ptr b 0)=some (.Z D.kind):=by rw[eC.e6 _ _ f5];exact a0
 have abZ:aU X cy (.ptr b 7)=some (.int .u64 D.n):=by rw[eC.e6 _ _ f5];exact kx
 have ab1:aU X cy (.ptr b 8)=some aO:=by rw[eC.e6 _ _ f5];exact jf
 have vi:∀e,P e->W X cy e=W X h e:=λe z=>eC.ab e (bs e z)
 show cH _ _
 by_cases H:D.kind=1
 ·have bC:decide (D.kind=1)=true:=by simp[H]
  refine er @t0 @G6 @bC ⟨?_⟩
  refine(azk (j:=dX) (h:=cy) aw Zo (cn.ab vi _ _ bA) (λe z=>zz (bs e z)) H (bb.WB H)).Zm ?_
  rintro ac dt iv ⟨rfl,is⟩
  exact⟨rfl,eC.trans (is.kZ Zo)⟩
 have bC:decide (D.kind=1)=false:=by simp[H]
 by_cases KP:D.kind=19
 ·have Ht:decide (D.kind=19)=true:=by simp[KP]
  have SY:decide (D.n<=63)=true:=by simp[(bb.mM (.inl KP)).2]
  refine ic @t0 @G6 @bC @Ht @abZ @SY ⟨?_⟩
  exact⟨rfl,eC.more Zo⟩
 have Ht:decide (D.kind=19)=false:=by simp[KP]
 by_cases TM:D.kind=20
 ·have Kt:decide (D.kind=20)=true:=by simp[TM]
  have SY:decide (D.n<=63)=true:=by simp[(bb.mM (.inr TM)).2]
  refine eh @t0 @G6 @bC @Ht @Kt @abZ @SY ⟨?_⟩
  exact⟨rfl,eC.more Zo⟩
 have Kt:decide (D.kind=20)=false:=by simp[TM]
 by_cases TN:D.kind=21
 ·have N4:decide (D.kind=21)=true:=by simp[TN]
  obtain⟨k,r,u1,az⟩:=bb.ha TN
  obtain⟨aq,avU,gl⟩:=has.get 0 k (by rw[u1];rfl)
  obtain⟨cE,cA,dT⟩:=(cG.ab vi).one avU
  obtain⟨pj,ahR,ayY,aHl,rfl,ws,dx,_,_,_,_,_,_,_,Hl,ahQ,ahy⟩:=(cn.ab vi _ _ gl).open
  have aiW:gd 1 aO (.Z 0)=some (.ptr ce 0):=cE
  rcases az with az|⟨az,x,af,PS⟩
  ·have uR:decide (k.kind=1)=true:=by simp[az]
   refine eh @t0 @G6 @bC @Ht @Kt @N4 (Za @ab1 (Za @aiW (Za @cA (Za @dx @uR)))) ⟨?_⟩
   exact⟨rfl,eC.more Zo⟩
  ·have uR:decide (k.kind=1)=false:=by simp[az]
   have aru:decide (k.kind=4)=true:=by simp[az]
   obtain⟨aHT,axA,axx⟩:=ahy.get 0 x (by rw[af];rfl)
   obtain⟨fF,h5,yn⟩:=ahQ.one axA
   obtain⟨aHS,rfl,vc,kr⟩:=axx.ptr
   have aBb:gd 1 ahR (.Z 0)=some (.ptr ayY 0):=fF
   have ahL:=ahQ.len
   rw[Zi,ahy.len,af]at ahL
   have azl:gr ahR=some (.Z 1):=ahL
   have ex:decide (x.kind=1)=true:=by simp[PS]
   have arm:decide ((1:Int)=1)=true:=rfl
   refine eh @t0 @G6 @bC @Ht @Kt @N4 (Za @ab1 (Za @aiW (Za @cA (Za @dx (Za @uR (Za @aru (Za @Hl (Za @azl (Za @arm (Za @aBb (Za @h5 (Za @aBx (Za @kr @ex))))))))))))) ⟨?_⟩
   exact⟨rfl,eC.more Zo⟩
 have N4:decide (D.kind=21)=false:=by simp[TN]
 refine ic @t0 @G6 @bC @Ht @Kt @N4 ⟨?_⟩
 exact⟨rfl,eC.more Zo⟩
end
def avm{u:Nat}{D F:bp}(a:gv (u+1) D<=u)(aE:F∈D.args):gv u F+1<=u:=by
 have bn:∀(k:List bp) (aK:Nat),(∀F∈k,gv u F<=k.foldl (λa F=>max a (gv u F)) aK)/\aK<=k.foldl (λa F=>max a (gv u F)) aK:=by
  intro k
  induction k with
  |nil=>intro aK;exact⟨λ_ a=>by simp at a,Zj _⟩
  |cons b k ah=>
   intro aK
   obtain⟨hg,gq⟩:=ah (max aK (gv u b))
   refine⟨λx af=> ?_,ZD (Nat.le_max_left _ _) gq⟩
   rcases Zu.1 af with rfl|af
   ·exact ZD (Nat.le_max_right _ _) gq
   ·exact hg x af
 have H:=(bn D.args 0).1 F aE
 have M:gv (u+1) D=D.args.foldl (λa F=>max a (gv u F)) 0+1:=rfl
 omega
def avo{u:Nat}{D:bp}:1<=gv (u+1) D:=by
 have M:gv (u+1) D=D.args.foldl (λa F=>max a (gv u F)) 0+1:=rfl
 omega
def XQ{bu:gI}:∀{k:List bp}{F:bp},fj bu k->F∈k->eG bu F:=by
 intro k
 induction k with
 |nil=>intro F _ a;cases a
 |cons b k ah=>
  intro F a aE
  rw[fj]at a
  rcases Zu.1 aE with rfl|aE
  ·exact a.1
  ·exact ah a.2 aE
section
variable{X:ca}{h R fi aQ aP:S ag}{j an aV aX:Nat}{s:aR}
structure BI(X:ca)(di qt pj:Nat)(d:Int)(h:S ag):Prop where
 NT:∃c,W X h di=some (.cells c 1 .own)/\c.get 0=some (.Z d)
 Rh:aU X h (.ptr qt 0)=some (.Z 0)
 look:aU X h (.ptr pj 0)=some (.func (.func 124) [] [.ptr di 0, .ptr qt 0, .ptr pj 0])
def BI.ab{di qt pj:Nat}{d:Int}(a:BI X di qt pj d aQ)(u:∀e,e=di\/e=qt\/e=pj->W X aP e=W X aQ e):BI X di qt pj d aP:=by
 obtain⟨c,H,M⟩:=a.NT
 exact⟨⟨c,by rw[u di (.inl rfl)];exact H,M⟩,zK (u qt (.inr (.inl rfl))) a.Rh,zK (u pj (.inr (.inr rfl))) a.look⟩
set_option maxRecDepth 100000 in
def azo(aw:jd X)(bY:mi X)(dZ:sf X)(iX:xe X){P:Nat->Prop}{di qt pj fV:Nat}(xR:(o X).a8<=di)(aFW:di<fV)(VB:qt<fV)(pZ:pj<fV)(AE:qt≠di)(kD:pj≠di)(bs:∀e,P e->e<fV/\e≠di):
 ∀(u:Nat) (D:bp) (v:E) (h:S ag) (j:Nat),u<=200->fV<=j->gv (u+1) D<=u->eG jJ D->cn X h P D v->BI X di qt pj ((200-u:Nat):Int) h->
  a2 X 124 [v, .ptr di 0, .ptr qt 0, .ptr pj 0] h j (λac R an=>ac= .tuple []/\BI X di qt pj ((200-u:Nat):Int) R/\j<=an/\∀e,e<j->e≠di->W X R e=W X h e) zL:=by
 intro u
 induction u with
 |zero=>intro D v h j _ _ a;have:=avo (u:=0) (D:=D);omega
 |succ u ah=>
  intro D v h j aH aF gL bb bA gp
  refine zG aw.todk (alD X) ?_
  rw[alE]
  unfold φ
  obtain⟨b,aO,ce,bk,rfl,aj,_,_,_,_,_,_,_,_,jf,cG,has⟩:=id bA.open
  obtain⟨c,bP,b2⟩:=gp.NT
  have AA:=bs b aj
  have bC:bv .add (.Z ((200-(u+1):Nat):Int)) (.Z 1)=some (.Z ((200-u:Nat):Int)):=by rw[eI Zo Zo,show((200-(u+1):Nat):Int)+1=((200-u:Nat):Int) by omega]
  refine hl (bG bP) @b2 @bC ⟨?_⟩
  generalize dl:bm X h di _=aQ
  have Tp:∃fX,W X aQ di=some (.cells fX 1 .own)/\fX.get 0=some (.Z ((200-u:Nat):Int)):=⟨d7 c 0 [.Z ((200-u:Nat):Int)],by rw[<-dl,bh xR];rfl,yG c 0 _⟩
  have bR:∀e,e≠di->W X aQ e=W X h e:=λe z=>by rw[<-dl,aI xR z]
  clear dl
  have auc:BI X di qt pj ((200-u:Nat):Int) aQ:=⟨Tp,zK (bR _ AE) gp.Rh,zK (bR _ kD) gp.look⟩
  have md:∀e,P e->W X aQ e=W X h e:=λe z=>bR e (bs e z).2
  have pc:=cn.ab md _ _ bA
  refine cj @Jd ⟨?_⟩
  refine(azv (j:=j) (h:=aQ) aw bY dZ iX Zo pc (λe z=>zz (bs e z).1) bb).Zm ?_
  rintro ac aP aX ⟨rfl,bI⟩
  have fN:=bI.le
  have OJ:BI X di qt pj ((200-u:Nat):Int) aP:=auc.ab (λe z=>bI.ab e (by rcases z with rfl|rfl|rfl<;>omega))
  obtain⟨dC,Tq,asP⟩:=OJ.NT
  have R1:aU X aP (.ptr b 8)=some aO:=by rw[bI.e6 _ _ Zo,cw,bR _ AA.2, <-cw];exact jf
  have d2:=cG.len
  have Lk:=has.len
  rw[Zi,Lk]at d2
  have h1:=cG.many
  rw[Zi,Lk]at h1
  have cM:decide ((200:Int)<((200-u:Nat):Int))=false:=zO
  refine f3 (bG Tq) @asP @cM @R1 @d2 ⟨?_⟩
  refine fE (λm I R aS=>∃(V:Nat),I.g 1=some (.ptr di 0)/\I.g 2=some (.ptr qt 0)/\I.g 3=some (.ptr pj 0)/\I.g 12=some aO/\I.g 13=some (.Z (D.args.length:Int))/\I.g 14=some (.Z (V:Int))/\V+m=D.args.length
   /\BI X di qt pj ((200-u:Nat):Int) R/\j<=aS/\∀e,e<j->e≠di->W X R e=W X h e)
   D.args.length ⟨0,bo,bo,bo,bo,bo,fY,Zo,OJ,fN,λe H M=>by rw[bI.ab e H,bR e M]⟩ ?_
  rintro m I a6 bz ⟨V,t1,eK,t3,k1,mf,mO,bF,K0,jm,la⟩
  cases m with
  |zero=>
   have d:=zA V D.args.length
   obtain⟨ge,xB,asQ⟩:=K0.NT
   have cu:bv .sub (.Z ((200-u:Nat):Int)) (.Z 1)=some (.Z ((200-(u+1):Nat):Int)):=by rw[x7 Zo Zo,show((200-u:Nat):Int) -1=((200-(u+1):Nat):Int) by omega]
   refine eh @mO @mf @t1 @d (bG xB) @asQ @cu ⟨?_⟩
   refine⟨rfl,⟨⟨d7 ge 0 [.Z ((200-(u+1):Nat):Int)],by rw[bh xR];rfl,yG ge 0 _⟩,zK (aI xR AE) K0.Rh,zK (aI xR kD) K0.look⟩,Zo,λe H M=>by rw[aI xR M];exact la e H M⟩
  |succ m=>
   have d:=zB V D.args.length
   have cu:=zE V
   obtain⟨F,aE⟩:=zC D.args V
   obtain⟨w,nt,Lb⟩:=has.get V F aE
   have jC:∀e,P e->W X a6 e=W X h e:=λe z=>la e (zz (bs e z).1) (bs e z).2
   obtain⟨cE,cA,dT⟩:=(cG.ab jC).one nt
   have ae0:=Zl aE
   have aF1:=avm gL ae0
   have kT:=K0.look
   refine eh @mO @mf @k1 @t3 @d @cE (Za @cA @kT) ⟨?_⟩
   rw[eG.eq]at bb
   refine(ah F w a6 bz Zo Zo Zo (XQ bb.2 ae0) (cn.ab jC _ _ Lb) K0).Zm ?_
   rintro ac bH cC ⟨rfl,aud,iu,gz⟩
   refine cS @mO @cu ⟨?_⟩
   exact⟨m,Zo,V+1,aW t1,aW eK,aW t3,aW k1,aW mf,bo,Zo,aud,Zo,λe H M=>by rw[gz e Zo M];exact la e H M⟩
end
structure RG(g:Go.aL.Node):Prop where
 vars:g.d8.length+g.out.length+g.loc.length<=256
 eqs:g.eqs.length<=4096
 high:∀ak∈g.eqs,gv 201 ak.right<=200
def aze:∀{k:List eZ},sQ k=none->∀ak∈k,gv 201 ak.right<=200:=by
 intro k
 induction k with
 |nil=>intro _ ak a;cases a
 |cons F k ah=>
  intro a ak bM
  unfold sQ at a
  split at a
  ·cases a
  ·rcases Zu.1 bM with rfl|bM
   ·omega
   ·exact ah a ak bM
def azf:∀{k:List Go.aL.Node},pm k=none->∀g∈k,RG g:=by
 intro k
 induction k with
 |nil=>intro _ ak a;cases a
 |cons F k ah=>
  intro a g bV
  unfold pm at a
  split at a
  ·cases a
  ·rename_i bM
   split at a
   ·cases a
   ·rename_i bA
    rcases Zu.1 bV with rfl|bV
    ·exact⟨Zo,Zo,aze bA⟩
    ·exact ah a g bV
def Mj{am:List Go.aL.Node}(a:n2 am=none):am.length<=64/\∀g∈am,RG g:=by
 unfold n2 at a
 split at a
 ·cases a
 ·rename_i bM
  rw[List.getElem?_eq_none_iff]at bM
  exact⟨bM,azf a⟩
section
variable{X:ca}{h R fi aQ aP:S ag}{j an aV aX:Nat}{s:aR}
set_option maxRecDepth 100000 in
def asG(aw:jd X)(bY:mi X)(dZ:sf X)(iX:xe X){P:Nat->Prop}{D:bp}{v:E}(aF:(o X).a8<=j)(bA:cn X h P D v)(bs:∀e,P e->e<j)(bb:eG jJ D)(gL:gv 201 D<=200):
 a2 X 100 [v] h j (λac R an=>ac= .Z 0/\br X h j R an) zL:=by
 refine zG aw.todk (akU X) ?_
 rw[akV]
 unfold X6
 refine cL ⟨?_⟩
 generalize dl:bm X _ (j+1+1) _=aQ
 have jO:W X aQ j=zD [.Z 0] 1:=by rw[<-dl];simp(disch:=omega) only[aI,bh];rfl
 have bP:W X aQ (j+1)=zD [.Z 0] 1:=by rw[<-dl];simp(disch:=omega) only[aI,bh];rfl
 have b2:aU X aQ (.ptr (j+1+1) 0)=some (.func (.func 124) [] [.ptr (j+1) 0, .ptr j 0, .ptr (j+1+1) 0]):=by rw[<-dl,CY Zo];rfl
 have bL:br X h j aQ (j+1+1+1):=by rw[<-dl];exact dH
 clear dl
 refine cj @b2 ⟨?_⟩
 have pc:=cn.ab (λe z=>bL.ab e (bs e z)) _ _ bA
 refine(azo (fV:=j+1+1+1) aw bY dZ iX Zo Zo Zo Zo Zo Zo (λe z=>by have:=bs e z;exact⟨Zo,Zo⟩) 200 D v aQ (j+1+1+1) Zo Zo gL bb pc ⟨⟨_,bP,rfl⟩,by rw[bG jO];rfl,b2⟩).Zm ?_
 rintro ac aP aX ⟨rfl,OJ,fN,hD⟩
 have axs:=OJ.Rh
 refine cj @axs ⟨?_⟩
 exact⟨rfl,Zo,λe z=>by rw[hD e Zo Zo];exact bL.ab e z⟩
set_option maxRecDepth 100000 in
def azE(aw:jd X)(bY:mi X)(dZ:sf X)(iX:xe X){P:Nat->Prop}{g:Go.aL.Node}{row:List E}(aF:(o X).a8<=j)(bV:pG X h P g row)(bs:∀e,P e->e<j)(bb:kv jJ g)(az:RG g):
 a2 X 78 [.agg row] h j (λac R an=>ac= .Z 0/\br X h j R an) zL:=by
 refine zG aw.todk (an3 X) ?_
 rw[an4]
 unfold abt
 obtain⟨cQ,c4,aO,eo,bQ,cl,cU,fe,be,rfl,l9,kS,np,kk,fq⟩:=bV
 have en:=l9.len
 have cZ:=kS.len
 have eW:=np.len
 have km:=fq.wide
 have hn:=kk.len
 have h1:=kk.many
 rw[Zi]at en cZ eW
 rw[km.1]at hn h1
 have aGU:=az.vars
 have Uw:=az.eqs
 have Im:0<g.out.length:=ZU.2 bb.some
 have bC:bv .add (.Z (g.d8.length:Int)) (.Z (g.out.length:Int))=some (.Z ((g.d8.length+g.out.length:Nat):Int)):=by rw[eI Zo Zo];simp
 have cu:bv .add (.Z ((g.d8.length+g.out.length:Nat):Int)) (.Z (g.loc.length:Int))=some (.Z ((g.d8.length+g.out.length+g.loc.length:Nat):Int)):=by rw[eI Zo Zo];simp
 have c2:decide ((g.out.length:Int)=0)=false:=zO
 have cM:decide ((256:Int)<((g.d8.length+g.out.length+g.loc.length:Nat):Int))=false:=zO
 have e2:decide ((4096:Int)<(g.eqs.length:Int))=false:=zO
 refine tr ?_
 generalize dl:bm X h j _=aQ
 have bP:W X aQ j=zD [.str g.name, .Z g.at_,cQ,c4,aO,eo] 6:=by rw[<-dl,bh aF];rfl
 have bL:br X h j aQ (j+1):=by rw[<-dl];exact dH
 clear dl
 refine hl (bG bP) @en (Za @cZ (Za @eW (Za @bC @cu))) ⟨?_⟩
 refine(Mp (j:=j+1) (h:=aQ) aw bY dZ bb.name Zo).Zm ?_
 rintro ac aP aX ⟨rfl,bI⟩
 have fN:=bI.le
 rw[<-bI.ab _ Zo]at bP
 have hb:=bL.trans bI
 have c5:=(jS l9.len).1
 have dC:=(jS kS.len).1
 have ge:=(jS np.len).1
 have hP:hI 3 [.aY, .aY, .aY] [(0,1,cQ),(1,1,c4),(2,1,aO)] aX=some (.slice aX 0 3 3, .cells (S.ofList [cQ,c4,aO] 0 .nil) 3 .own):=by
  simp[hI,tB,tC,nE,c5,dC,ge]
 refine hl (bG bP) @en (Za @cZ (Za @eW (Za @hn (Za @c2 (Za @cM @e2))))) ⟨?_⟩
 refine gm hP ?_
 refine uU ⟨?_⟩
 generalize eQ:bm X aP aX _=a6
 have cI:W X a6 aX=zD [cQ,c4,aO] 3:=by rw[<-eQ,bh Zo]
 have cp:br X h j a6 (aX+1):=⟨Zo,λe z=>by rw[<-eQ];simp(disch:=omega) only[aI];exact hb.ab e z⟩
 have xB:W X a6 j=zD [.str g.name, .Z g.at_,cQ,c4,aO,eo] 6:=by rw[<-eQ];simp(disch:=omega) only[aI];exact bP
 clear eQ
 have jC:∀e,P e->W X a6 e=W X h e:=λe z=>cp.ab e (bs e z)
 refine(ac1 (j:=aX+1) (h:=a6) aw.todk Zo Zo cI (l9.ab jC) (kS.ab jC) (np.ab jC) (λe z=>zz (bs e z)) Zo Zo).Zm ?_
 rintro ac bH cC ⟨Hg,cG,cW⟩
 have iu:=cW.le
 refine uU ⟨?_⟩
 refine(aqZ (j:=cC) (h:=bH) aw bY dZ Zo cG (λe z=>z.2) (λd aJ=> ?_)).Zm ?_
 ·rcases Zz.1 aJ with a|a
  ·exact bb.d8 d a
  ·rcases Zz.1 a with a|a
   ·exact bb.out d a
   ·exact bb.loc d a
 rintro ac bN ci ⟨rfl,dW⟩
 have iP:=dW.le
 have KT:br X a6 (aX+1) bN ci:=cW.trans dW
 have tL:br X h j bN ci:=cp.trans KT
 rw[<-KT.ab _ Zo]at xB
 refine cS (bG xB) @hn ⟨?_⟩
 refine fE (λm I R aS=>∃(V:Nat),I.g 4=some (.Z 0)/\I.g 53=some eo/\I.g 54=some (.Z (g.eqs.length:Int))/\I.g 55=some (.Z (V:Int))/\V+m=g.eqs.length/\br X h j R aS)
  g.eqs.length ⟨0,bo,bo,bo,fY,Zo,tL⟩ ?_
 rintro m I b6 dr ⟨V,t4,q7,k2,q8,bF,ec⟩
 have oB:=ec.le
 cases m with
 |zero=>
  have d:=zA V g.eqs.length
  refine gk @q8 @k2 @t4 @d ⟨?_⟩
  exact⟨rfl,ec⟩
 |succ m=>
  have d:=zB V g.eqs.length
  have bC:=zE V
  obtain⟨ak,bM⟩:=zC g.eqs V
  have Ip:=Zl bM
  have wB:=bb.eqs ak Ip
  obtain⟨row,fD,wA⟩:=fq.get V ak bM
  have qZ:∀e,P e->W X b6 e=W X h e:=λe z=>ec.ab e (bs e z)
  have dA:=kk.fx V (by rw[km.1];omega)
  have iB:=(kk.ab qZ).row Zd fD
  obtain⟨q5,s0,c5,dC,il,rfl,iA,n1,pg,rK⟩:=wA
  have AQ:=iA.len
  rw[show(f8 ak.left).length=ak.left.length from by simp[f8]]at AQ
  have aGi:0<ak.left.length:=ZU.2 wB.some
  have Aa:decide ((ak.left.length:Int)=0)=false:=zO
  refine ic @q8 @k2 @q7 @d @dA @iB ⟨?_⟩
  refine gm (jG (u:=4) (b:=dr) (T:=0) (n:=4) (c:=S.ofList [.aY, .aY, .Z 0, .cN] 0 .nil) (bh Zo) Zo rfl Zd Zd rK) ?_
  generalize k6:bm X _ dr _=cy
  have ew:W X cy dr=zD [q5,s0, .Z ak.at_,il] 4:=by rw[<-k6,bh Zo];rfl
  have eC:br X h j cy (dr+1):=⟨Zo,λe z=>by rw[<-k6];simp(disch:=omega) only[aI];exact ec.ab e z⟩
  clear k6
  have vi:∀e,P e->W X cy e=W X h e:=λe z=>eC.ab e (bs e z)
  refine cj (bG ew) ⟨?_⟩
  refine(asG (j:=dr+1) (h:=cy) aw bY dZ iX Zo (cn.ab vi _ _ pg) (λe z=>zz (bs e z)) wB.right (az.high ak Ip)).Zm ?_
  rintro ac dt iv ⟨rfl,is⟩
  have CA:=is.le
  rw[<-is.ab _ Zo]at ew
  have aeH:br X h j dt iv:=eC.trans is
  have CW:∀e,P e->W X dt e=W X h e:=λe z=>aeH.ab e (bs e z)
  refine er (bG ew) @AQ @Aa ⟨?_⟩
  refine(ay3 (j:=iv) (h:=dt) aw bY dZ Zo (iA.ab CW) (λe z=>zz (bs e z)) wB.left).Zm ?_
  rintro ac d6 hG ⟨rfl,ie⟩
  have g5:decide ((0:Int)=1)=false:=rfl
  have gx:decide ((0:Int)≠0)=false:=rfl
  refine gk @g5 @gx @q8 @bC ⟨?_⟩
  exact⟨m,Zo,V+1,aW t4,aW q7,aW k2,bo,Zo,aeH.trans ie⟩
set_option maxRecDepth 100000 in
def asF(aw:jd X)(bY:mi X)(dZ:sf X)(iX:xe X){P:Nat->Prop}{am:List Go.aL.Node}{v:E}(aF:(o X).a8<=j)(bV:oX X h P am v)(bs:∀e,P e->e<j)(bb:∀g∈am,kv jJ g)(aK:am≠[])(az:n2 am=none):
 a2 X 52 [v] h j (λac R an=>ac= .Z 0/\br X h j R an) zL:=by
 refine zG aw.todk (ang X) ?_
 rw[anh]
 unfold aaZ
 obtain⟨n0,lR⟩:=Mj az
 obtain⟨b,aO,ce,be,rfl,aj,a0,cG,kU⟩:=id bV
 have km:=kU.wide
 have d2:=cG.len
 rw[km.1]at d2
 have f5:=bs b aj
 have ay:0<am.length:=ZU.2 aK
 have c2:decide ((am.length:Int)=0)=false:=zO
 have cM:decide ((64:Int)<(am.length:Int))=false:=zO
 refine f3 @adz @a0 @d2 @c2 @cM ⟨?_⟩
 refine fE (λm I R aS=>∃(V:Nat),I.g 3=some (.Z 0)/\I.g 28=some aO/\I.g 29=some (.Z (am.length:Int))/\I.g 30=some (.Z (V:Int))/\V+m=am.length/\br X h j R aS)
  am.length ⟨0,bo,bo,bo,fY,Zo,br.refl _ _⟩ ?_
 rintro m I aQ aV ⟨V,t3,ajD,Gi,Dv,bF,bL⟩
 have jy:=bL.le
 cases m with
 |zero=>
  have d:=zA V am.length
  refine gk @Dv @Gi @t3 @d ⟨?_⟩
  exact⟨rfl,bL⟩
 |succ m=>
  have d:=zB V am.length
  have bC:=zE V
  obtain⟨g,nZ⟩:=zC am V
  have qS:=Zl nZ
  obtain⟨row,fD,jR⟩:=kU.get V g nZ
  have md:∀e,P e->W X aQ e=W X h e:=λe z=>bL.ab e (bs e z)
  have dA:=cG.fx V (by rw[km.1];omega)
  have iB:=(cG.ab md).row Zd fD
  have kl:=jR.iF
  have AN:=jR
  obtain⟨cQ,c4,lh,eo,bQ,cl,cU,fe,fP,rfl,_⟩:=jR
  refine ic @Dv @Gi @ajD @d @dA @iB ⟨?_⟩
  refine gm (jG (u:=6) (b:=aV) (T:=0) (n:=6) (c:=S.ofList [.str [], .Z 0, .aY, .aY, .aY, .aY] 0 .nil) (bh Zo) Zo rfl Zd Zd kl) ?_
  generalize dR:bm X _ aV _=aP
  have b2:W X aP aV=zD [.str g.name, .Z g.at_,cQ,c4,lh,eo] 6:=by rw[<-dR,bh Zo];rfl
  have bI:br X h j aP (aV+1):=⟨Zo,λe z=>by rw[<-dR];simp(disch:=omega) only[aI];exact bL.ab e z⟩
  clear dR
  refine cj (bG b2) ⟨?_⟩
  refine(azE (j:=aV+1) (h:=aP) aw bY dZ iX Zo (AN.ab (a7:=P) (λe z=>bI.ab e (bs e z)) (λ_ a=>a)) (λe z=>zz (bs e z)) (bb g qS) (lR g qS)).Zm ?_
  rintro ac a6 bz ⟨rfl,cp⟩
  have g5:decide ((0:Int)=1)=false:=rfl
  have gx:decide ((0:Int)=22)=false:=rfl
  refine gk @g5 @gx @Dv @bC ⟨?_⟩
  exact⟨m,Zo,V+1,aW t3,aW ajD,aW Gi,bo,Zo,bI.trans cp⟩
end
section
variable{X:ca}{h R fi aQ aP:S ag}{j an aV aX:Nat}{s:aR}
def nI(c:S E)(F b:E):(d7 c 0 [F,b]).get 0=some F:=by rw[kb];simp
def nJ(c:S E)(F b:E):(d7 c 0 [F,b]).get 1=some b:=by rw[kb];simp
set_option maxRecDepth 100000 in
def aqy(aw:jd X)(bY:mi X)(dZ:sf X)(iX:xe X){P:Nat->Prop}{am:List Go.aL.Node}{v:E}(aF:(o X).a8<=j)(bV:oX X h P am v)(bs:∀e,P e->e<j)(bb:∀g∈am,kv jJ g)(aK:am≠[])(az:n2 am=none):
 a2 X 29 [v] h j (λac R an=>ac= .agg [.Z (ss am).1, .Z (ss am).2]/\br X h j R an) zL:=by
 refine zG aw.todk (amz X) ?_
 rw[amA]
 unfold aaB
 obtain⟨n0,lR⟩:=Mj az
 refine so ?_
 generalize dl:bm X h j _=aQ
 have bP:∃c,W X aQ j=some (.cells c 2 .own):=⟨_,by rw[<-dl,bh aF];rfl⟩
 have bL:br X h j aQ (j+1):=by rw[<-dl];exact dH
 clear dl
 have md:∀e,P e->W X aQ e=W X h e:=λe z=>bL.ab e (bs e z)
 refine(asF (j:=j+1) (h:=aQ) aw bY dZ iX Zo (bV.ab (a7:=P) md (λ_ a=>a)) (λe z=>zz (bs e z)) bb aK az).Zm ?_
 rintro ac aP aX ⟨rfl,bI⟩
 have fN:=bI.le
 rw[<-bI.ab _ Zo]at bP
 have hb:=bL.trans bI
 obtain⟨b,aO,ce,be,rfl,aj,a0,cG,kU⟩:=id bV
 have km:=kU.wide
 have d2:=cG.len
 rw[km.1]at d2
 have f5:=bs b aj
 have bE:decide ((0:Int)≠0)=false:=rfl
 rw[<-hb.e6 _ _ f5]at a0
 refine er @bE @a0 @d2 ⟨?_⟩
 refine fE (λm I R aS=>∃(V:Nat),I.g 0=some (.ptr b 0)/\I.g 2=some (.ptr j 0)/\I.g 13=some aO/\I.g 14=some (.Z (am.length:Int))/\I.g 15=some (.Z (V:Int))/\V+m=am.length/\br X h j R aS/\j<aS/\(∃c,W X R j=some (.cells c 2 .own))/\ss am=y7 am V (am.drop V))
  am.length ⟨0,bo,bo,bo,bo,fY,Zo,hb,Zo,bP,rfl⟩ ?_
 rintro m I a6 bz ⟨V,t0,eK,mf,mO,wW,bF,cp,ww,⟨ge,cI⟩,iY⟩
 have jm:=cp.le
 cases m with
 |zero=>
  have d:=zA V am.length
  rw[ZC Zo]at iY
  refine ic @wW @mO @eK @d @nI @nJ ⟨?_⟩
  refine⟨by rw[iY];rfl, ?_⟩
  exact⟨Zo,λe z=>by rw[aI Zo Zo];exact cp.ab e z⟩
 |succ m=>
  have d:=zB V am.length
  have bC:=zE V
  obtain⟨g,nZ⟩:=zC am V
  have qS:=Zl nZ
  have aJ:am.drop V=g::am.drop (V+1):=by
   obtain⟨af,z⟩:=Zb.1 nZ
   rw[Zr af,z]
  rw[aJ,y7]at iY
  obtain⟨row,fD,jR⟩:=kU.get V g nZ
  have jC:∀e,P e->W X a6 e=W X h e:=λe z=>cp.ab e (bs e z)
  have dA:=cG.fx V (by rw[km.1];omega)
  have iB:=(cG.ab jC).row Zd fD
  have kl:=jR.iF
  have AN:=jR
  obtain⟨cQ,c4,lh,eo,bQ,cl,cU,fe,fP,rfl,_⟩:=jR
  refine ic @wW @mO @mf @d @dA @iB ⟨?_⟩
  refine gm (jG (u:=6) (b:=bz) (T:=0) (n:=6) (c:=S.ofList [.str [], .Z 0, .aY, .aY, .aY, .aY] 0 .nil) (bh Zo) Zo rfl Zd Zd kl) ?_
  generalize e5:bm X _ bz _=bH
  have dL:W X bH bz=zD [.str g.name, .Z g.at_,cQ,c4,lh,eo] 6:=by rw[<-e5,bh Zo];rfl
  have d4:∀e,e<bz->W X bH e=W X a6 e:=λe z=>by rw[<-e5];exact zF
  clear e5
  have cW:br X h j bH (bz+1):=⟨Zo,λe z=>by rw[d4 e Zo];exact cp.ab e z⟩
  rw[<-d4 _ Zo]at cI
  refine cS @t0 (bG dL) ⟨?_⟩
  refine(Qq (j:=bz+1) (h:=bH) aw.todk Zo (λe z=>zz (bs e z)) (AN.ab (a7:=P) (λe z=>cW.ab e (bs e z)) (λ_ a=>a)) (by rw[Kw];have:=(lR g qS).vars;simp only[qk];omega)).Zm ?_
  rintro ac bN ci ⟨cr,lB,uw,d5,rfl,lv,ET,cE,cA,dT,fG,dW⟩
  have iP:=dW.le
  have at2:br X h j bN ci:=cW.trans (dW.kZ Zo)
  rw[<-dW.ab _ Zo]at cI
  refine cS @t0 @wW ⟨?_⟩
  generalize gS:bm X _ (ci+1) _=b6
  have d1:W X b6 (ci+1)=zD [.ptr b 0, .Z (V:Int), .ptr cr 0, .map ci, .Z 0, .Z 0] 6:=by rw[<-gS,bh Zo];rfl
  have ew:W X b6 ci=some (.map [] 0):=by rw[<-gS];simp(disch:=omega) only[aI,bh]
  have ec:br X bN ci b6 (ci+1+1):=by rw[<-gS];exact dH
  clear gS
  have aeF:br X h j b6 (ci+1+1):=at2.trans (ec.kZ Zo)
  rw[<-ec.ab _ Zo]at cI
  have eP:∀e,(P e\/dU (bz+1) ci e)->e<ci+1+1/\e≠ci+1/\e≠ci:=by
   rintro e (z|z)
   ·have:=bs e z;omega
   ·have:=z.2;omega
  refine(aqz (j:=ci+1+1) (h:=b6) (P:=λe=>P e\/dU (bz+1) ci e) (u:=V) (am:=am) (g:=g) (cr:= .ptr cr 0) aw.todk Zo Zo Zo Zo Zo Zo eP
   (bV.ab (λe z=>aeF.ab e (bs e z)) (λ_ a=> .inl a)) nZ ⟨cr,lB,rfl, .inr lv, .inr ET,by rw[ec.e6 _ _ (zz lv.2)];exact cE,cA.ab (ec.ab _ ET.2)⟩ d1 ⟨[],0,ew,λ_=>rfl⟩).Zm ?_
  rintro ac cy dX ⟨rfl,Cw,nr,sI⟩
  have eC:br X h j cy dX:=⟨Zo,λe z=>by rw[sI e Zo Zo Zo];exact aeF.ab e z⟩
  rw[<-sI _ Zo Zo Zo]at cI
  have f4:aU X cy (.ptr (ci+1) 4)=some (.Z (q0 am V g).1):=by unfold gs at Cw;rw[bG Cw];rfl
  have Ag:aU X cy (.ptr (ci+1) 5)=some (.Z (q0 am V g).2):=by unfold gs at Cw;rw[bG Cw];rfl
  by_cases cx:(q0 am V g).1=0
  ·have Eh:decide ((q0 am V g).1≠0)=false:=by simp[cx]
   rw[Zg (by simp[cx])]at iY
   refine gk @f4 @Eh @wW @bC ⟨?_⟩
   exact⟨m,Zo,V+1,aW t0,aW eK,aW mf,aW mO,bo,Zo,eC,Zo,⟨ge,cI⟩,iY⟩
  ·have Eh:decide ((q0 am V g).1≠0)=true:=by simp[cx]
   rw[Zp cx]at iY
   have wt:dE X cy 2 (.ptr (ci+1) 4)=some (.agg [.Z (q0 am V g).1, .Z (q0 am V g).2]):=by rw[jp,f4,Ag];rfl
   refine ic @f4 @Eh @wt @eK @nI @nJ ⟨?_⟩
   refine⟨by rw[iY], ?_⟩
   exact⟨Zo,λe z=>by rw[aI Zo Zo];exact eC.ab e z⟩
end
def mN(t:aR->Option c0)(w:aR):d3:=((t w).getD px).d.ty
def q2:List d3->Bool
 |[]=>true
 |F::k=>(F::k).all λb=>decide (b=F)
def Jy:d3:=⟨true,false,1⟩
def B1(am:List Go.aL.Node)(nm:aR)(F:List d3):List d3×Bool:=
 match am[(mz am nm).getD 0]? with
 |none=>([],false)
 |some g=>(g.out.map (·.ty),decide (g.d8.map (·.ty)=F))
def kI(am:List Go.aL.Node)(t:aR->Option c0)(D:bp)(F:List d3):List d3×Bool:=
 let a0:=F.headD dQ
 if D.kind=1 then([D.ty],true)
 else if D.kind=2 then([mN t D.name],true)
 else if D.kind=3\/D.kind=5 then([a0],true)
 else if D.kind=4\/D.kind=19\/D.kind=20 then([a0], !a0.b)
 else if D.kind=6 then([a0],(mN t D.name).b)
 else if D.kind=7\/D.kind=8\/D.kind=9\/D.kind=21\/D.kind=22 then([a0],q2 F)
 else if D.kind=16\/D.kind=17\/D.kind=18 then([a0],q2 F&& !a0.b)
 else if D.kind=10\/D.kind=11 then([Jy],q2 F)
 else if D.kind=12\/D.kind=13\/D.kind=14\/D.kind=15 then([Jy],q2 F&& !a0.b)
 else if D.kind=23 then([(F[1]?).getD dQ],a0.b&&q2 F.tail)
 else if D.kind=24 then([a0],q2 F&&(mN t D.name).b)
 else if D.kind=26 then([D.ty], !D.ty.b||a0.b)
 else B1 am D.name F
mutual
def ow(am:List Go.aL.Node)(t:aR->Option c0):bp->Except Int (List d3)
 | .mk u at_ nm no ty n args=>match ln am t args with
   | .error F=> .error F
   | .ok (bS,one)=>if one=false then .error at_ else
     let r:=kI am t (.mk u at_ nm no ty n args) bS
     if r.2=false then .error at_ else .ok r.1
def ln(am:List Go.aL.Node)(t:aR->Option c0):List bp->Except Int (List d3×Bool)
 |[]=> .ok ([],true)
 |D::k=>match ow am t D with
  | .error F=> .error F
  | .ok r=>match ln am t k with
    | .error F=> .error F
    | .ok (bS,one)=>match r with
      |[x]=> .ok (x::bS,one)
      |_=> .ok (bS,false)
end
def Ee(t:aR->Option c0)(g:Go.aL.Node):Option Int:=(fS g).findSome? λx=>if x.2.on≠[]/\(mN t x.2.on).b=false then some x.2.eX else none
def vX(am:List Go.aL.Node)(t:aR->Option c0)(ak:eZ):Option Int:=match ow am t ak.right with
 | .error F=>some F
 | .ok row=>if (1<ak.left.length/\ak.right.kind≠25)\/row≠ak.left.map (mN t)then some ak.at_ else none
def yj(am:List Go.aL.Node)(g:Go.aL.Node):Option Int:=match Ee (dy g) g with
 |some F=>some F
 |none=>g.eqs.findSome? (vX am (dy g))
def yA(am:List Go.aL.Node):Option Int:=am.findSome? (yj am)
end
open Go.bg
noncomputable section
variable (X : ca) (h : S ag) (j : Nat) (ai ax : bK) (a0 bf cf a3 a4 a5 jK kx jf : E)
def Jm(a:aN)(b:bK):fJ:=λc d e=>n9 a [.cell 2 31, .cell 3 26] b c c.bj d e
def Qz(a:aN)(b c:bK):tm:=λd e f g=>wO a [.cell 2 31, .cell 3 26] b c d e d.bj f g
def abG:Za0:=λa b c d e f=>ar (iK [.cN] d) λg=>gT a c d g.1 g.2 λc d g=>BA g a d λd g h=>a2 a 29 [b] g h (λg h i=>GM i a h g λg h i=>yL g a i 0 λj=>bt (λb c d=>fs b 2 3 λg h=>Km (.func (.func 30) [] [g,h]) [] b λb=>gT a c d (.map d) (.map [] 0) λc d g=>ar (fv [.mL] [(0,1,c)]) λc=>hC a d g c λc d g=>cH (b 2) λh=>oR a d h c λc=>kt b 2 a c λd=>fa b λh=>ar (fv [.cN, .cN, .cN] [(0,1,d),(1,1,h)]) λd=>hC a c g d λc d g=>sc b a d λh=>iT h (λb c d=>kt b 2 a c λf=>DI λg=>cH (b 2) λh=>oR a c h f λc=>qx b λf=>ar (fT a c 2 f g) λc=>Jm a e b c d) λi j=>fy (λb c d g=>hK c 27 26 λh=>bt (λc d g=>vB (λa c d=>gR a 27 λe=>b (aa a 27 e) c d) c 25 27 6 λb h=>GG a d h g λd g h=>pB c λi=>ar (dE a h 6 d) λj=>a2 a 31 [i,j] h g (λ_ a e=>b (aa c 7 d) a e) (Qz a e f (ib [31,32,33] (aa c 7 d)))) λa=>a1 h (a (aa c 28 h) d g) (j (aa c 28 h) d g)) (zJ b 5 c 25 h 26 i 27 (.Z 0)) d g) λf=>a1 j (e7 (h+3) λf=>nc a i g λh=>ar (fT a i 1 c .cN) λi=>nc a i g λk=>gO k (some h) (ar (fT a i 2 d h) λh=>Jm a e (zJ (cR [b]) 2 c 3 d 4 g 12 j) h f)) (f (zJ (cR [b]) 2 c 3 d 4 g 12 j) i h)) (Qz a e f (ib [8,9,4] (zH (cR [b]) 2 c 3 d)))
def aoO:Cd X 9 [a0] h j ai ax=abG X a0 h j ai ax:=Zk
def aoN:cV X 9 1=true:=Zk
def RN(a:aN)(b c:E)(d:Option E)(e:S ag)(f:Nat)(g:Bool->S ag->Nat->Prop):Prop:=
 Jk (some d) (cR [b,c]) λb c=>bt (λa b c=>g a.rc b c) λd=>ar (db a e .eql 20 true b .nilIface) λg=>bt d λd=>a1 g (d (zH c 5 b 7 g) e f) (ar (He 26 (.agg [.Z 0, .Z 0]) true b) λh=>ar (oh 1 h) λi=>ar (oh 0 h) λh=>bt d λd=>a1 i (GM f a e h λe f j=>e7 (f+3) λf=>nc a j e λk=>fa c λl=>ar (fT a j 1 l .cN) λj=>nc a j e λl=>gO l (some k) (te c λl=>ar (fT a j 2 l k) λa=>d (aa (zJ c 5 b 7 g 9 i 10 h) 3 e) a f)) (wP zL b e f))
def aaC(X:ca)(a0 bf:E)(kq:Option E)(h:S ag)(j:Nat)(ai:Bool->S ag->Nat->Prop):Aj X 30 [a0,bf] kq h j ai=RN X a0 bf kq h j ai:=Zk
def RO:cV X 30 2=true:=Zk
def aaD:Za1:=λa b c d e f g=>hC a d e c λd e h=>td a e 6 d 10 h g λe h i=>rg b 2 a h e λe=>e4 2 d a e λ_ h=>e4 3 d a e λ_ j=>e4 4 d a e λ_ k=>ar (fv [.aY, .aY, .aY] [(0,1,h),(1,1,j),(2,1,k)]) λh=>bt (λb c d=>iU b 3 5 a c λ_ e=>iT e (λ_ a b=>f (.tuple []) a b) λf h=>fy (λb c d e=>hK c 54 53 λf=>bt (λc d e=>vB (λa c d=>gR a 54 λe=>b (aa a 54 e) c d) c 52 54 4 λb f=>GH a d f e λd e f=>fa c λh=>e4 3 d a f λ_ i=>a2 a 56 [h,i] f e (λe f h=>kK d a f λi=>iT i (λc d e=>cH (c 11) λf=>ar (gr f) λf=>ar (bv .gtr f (.Z 1)) λf=>VM f (c 9) (λa=>hW 3 a) d e λd e h=>eJ f (aU a e d) e h λd e h=>By f d e h 0 a λd e h=>eJ f (bv .neq d (.Z 25)) e h λd e h=>c9 (λd=>vg d (c 10) e h λe f h=>vg d (c 11) f h λf h i=>lU d (λb=>a2 a 57 [e,f] h i b g) h i λe f h=>fc d (gi .not e) f h λe f h=>c9 (λd=>bt b λb=>a1 d (iU c 9 2 a f λ_ e=>a2 a 55 [e] f h (λ_ a e=>b (aa c 92 d) a e) g) (b (aa c 92 d) f h)) λa=>a1 d (a .zT) (a e)) λa=>a1 f (a d) (a .zF)) λb j=>fy (λb c d e=>hK c 65 64 λf=>bt (λc d e=>xa (λa c d=>gR a 65 λe=>b (aa a 65 e) c d) c 63 65 a d λb f=>fs c 11 0 λh i=>a2 a 54 [i,f] d e (λd e g=>Nh d g λd=>DH a e g d.1 d.2 3 h λa d e=>b (zH c 13 f 11 a) d e) g) λa=>a1 f (a (aa c 66 f) d e) (j (aa c 66 f) d e)) (zH (zJ c 9 d 10 e 11 .aY 63 i) 64 b 65 (.Z 0)) f h) g) λa=>a1 f (a (aa c 55 f) d e) (h (aa c 55 f) d e)) (zI b 52 e 53 f 54 (.Z 0)) c d) λf=>fy (λb c d e=>GJ c 26 3 λh=>bt (λc d e=>bt (λa c d=>gR a 26 λe=>b (aa a 26 e) c d) λb=>fs c 25 26 λf h=>ar (rQ false 3 1 f h) λf=>GP f b λb h=>fy (λb c d e=>hK c 31 30 λf=>bt (λc d e=>bt (λa c d=>gR a 31 λe=>b (aa a 31 e) c d) λb=>GF c 29 31 a d e λd e f=>e4 5 d a f λ_ h=>ar (db a f .neq 9 true h (.str [])) λh=>oG h (c 0) f e λe f i=>vC h 5 d f i a λf i j=>lx h (λb=>a2 a 54 [e,f] i j b g) i j λe f i=>eJ h (qK false 0 1 e) f i λe f i=>eJ h (gi .not e) f i λe f i=>c9 (λe=>bt b λb=>a1 e (e4 6 d a f λ_ h=>a2 a 55 [h] f i (λ_ a f=>b (zH c 7 d 45 e) a f) g) (b (zH c 7 d 45 e) f i)) λa=>a1 h (a e) (a .zF)) λa=>a1 f (a (aa c 32 f) d e) (h (aa c 32 f) d e)) (zJ c 5 f 29 f 30 b 31 (.Z 0)) d e) λa=>a1 h (a (aa c 27 h) d e) (f (aa c 27 h) d e)) (zI (cR [b,c]) 3 d 25 h 26 (.Z 0)) e i
def amC:c7 X 31 [a0,bf]=aaD X a0 bf:=Zk
def amB:cV X 31 2=true:=Zk
def ψ:Za1:=λa b c d e f g=>a2 a 138 [b,c] d e (λa b c=>DK a λa=>f a b c) g
def alI:c7 X 126 [a0,bf]=ψ X a0 bf:=Zk
def alH:cV X 126 2=true:=Zk
def aa1:Za1:=λa b c d e f g=>JH e λh=>gT a d e h.1 h.2 λd e h=>gU b 2 a e λ_ b=>Nf a b c e h g λ_ b c e=>ar (hW 1 b) λb=>ar (hW 2 b) λb=>k3 a e b λb=>uD a e 3 d b λa b=>f b a c
def anl:c7 X 54 [a0,bf]=aa1 X a0 bf:=Zk
def ank:cV X 54 2=true:=Zk
def aa2:Za0:=λ_ a b c _ d=>JI 26 a λa=>wP d a b c
def ann:c7 X 55 [a0]=aa2 X a0:=Zk
def anm:cV X 55 1=true:=Zk
def aa3:Za1:=λa b c d e f g=>gU c 8 a d λ_ h=>iT h (λb c d=>cH (b 6) λe=>ar (gi .not e) λe=>bt (λb c d=>fs b 0 1 λe h=>pB b λi=>a2 a 84 [e,h,i] c d (λc d e=>hB c λc h=>ar (gi .not h) λi=>bt (λb c d=>sc b a c λe=>gU e 0 a c λ_ e=>fs b 1 10 λg h=>h6 (uh a c d 54 e g h) c d λ_ a c=>cH (b 10) λb=>f b a c) λf=>a1 i (kc b 1 1 a d λ_ _ j=>a2 a 55 [j] d e (λ_ a d=>f (zI b 10 c 11 h 49 i) a d) g) (f (zI b 10 c 11 h 49 i) d e)) g) λf=>a1 e (kc b 1 1 a c λ_ _ h=>a2 a 55 [h] c d (λ_ a c=>f (aa b 35 e) a c) g) (f (aa b 35 e) c d)) λf i=>fy (λb c d e=>hK c 17 16 λf=>bt (λc d e=>xa (λa c d=>gR a 17 λe=>b (aa a 17 e) c d) c 15 17 a d λb f=>fa c λh=>a2 a 56 [h,f] d e (λd e g=>ar (gr d) λh=>ar (bv .neq h (.Z 1)) λh=>bt (λc d e=>fs c 5 9 λf g=>yM 3 g λg=>k3 a d g λg=>Nh g e λg=>DH a d e g.1 g.2 3 f λa d e=>b (aa c 5 a) d e) λa=>a1 h (b (zJ c 8 f 9 d 26 h 6 .zF) e g) (a (zI c 8 f 9 d 26 h) e g)) g) λa=>a1 f (a (aa c 18 f) d e) (i (aa c 18 f) d e)) (zH (zJ (cR [b,c]) 4 .aY 5 .aY 6 .zT 15 h) 16 f 17 (.Z 0)) d e
def anp:c7 X 56 [a0,bf]=aa3 X a0 bf:=Zk
def ano:cV X 56 2=true:=Zk
def aai:Za1:=λa b c d e f g=>iT b (λ_ a b=>f (.Z (-1)) a b) λh i=>fy (λb c d e=>hK c 8 7 λh=>bt (λc d e=>bt (λa c d=>gR a 8 λe=>b (aa a 8 e) c d) λb=>GK c 3 λh i j=>k3 a d j λj=>jA a i [j] d e (λa d e=>bt b λb=>a1 a (f h d e) (b (zH c 5 h 16 a) d e)) g) λa=>a1 h (a (aa c 9 h) d e) (i (aa c 9 h) d e)) (zI (cR [b,c]) 4 (.Z 0) 7 h 8 (.Z 0)) d e
def al4:c7 X 138 [a0,bf]=aai X a0 bf:=Zk
def al3:cV X 138 2=true:=Zk
def abA:Za2:=λa b c d e f g h=>gU c 0 a e λ_ i=>bt (λb c d=>fs b 0 1 λe f=>cH (b 2) λb=>a2 a 107 [e,f,b] c d (λa b c=>hB a λa d=>g (.tuple [a,d]) b c) h) λj=>oi i 1 j λj k=>a1 j (lK c 4 λb=>k3 a e b λb=>jA a (.func (.func 105) [] []) [b, .zT] e f (λa b c=>hB a λa d=>g (.tuple [a,d]) b c) h) (oi i 2 k λk l=>a1 k (gU c 2 a e λ_ c=>a2 a 54 [b,c] e f (λb c d=>jA a (.func (.func 105) [] []) [b, .zT] c d (λa b c=>hB a λa d=>g (.tuple [a,d]) b c) h) h) (ar (bv .eql i (.Z 3)) λm=>bt (λb c d=>cH (b 35) λe=>bt l λf=>a1 e (GN b a c λb _ e=>jA a b [e, .zT] c d (λa b c=>hB a λa d=>g (.tuple [a,d]) b c) h) (tc b 12 4 λe=>bt (λb c d=>cH (b 45) λe=>bt f λf=>a1 e (e7 (d+14) λd=>GN b a c λe _ f=>cH (b 2) λb=>yM 3 b λb=>kK b a c λb=>ar (gi .not b) λb=>jA a e [f,b] c d (λa b c=>hB a λa d=>g (.tuple [a,d]) b c) h) (vD b 6 f λe f=>a1 e (e7 (d+16) λd=>GN b a c λe f i=>fs b 0 1 λb j=>gU j 2 a c λ_ j=>a2 a 54 [b,j] c d (λb c d=>ar (qK false 0 1 b) λb=>k3 a c f λf=>gO f (some i) (jA a e [i,b] c d (λa b c=>hB a λa d=>g (.tuple [a,d]) b c) h)) h) (tc b 12 7 λi=>bt (λb c d=>cH (b 77) λe=>bt f λf=>a1 e (e7 (d+11) λd=>GN b a c λe f i=>w9 b 2 a 106 c d h λb c d=>k3 a c f λf=>gO f (some i) (jA a e [i,b] c d (λa b c=>hB a λa d=>g (.tuple [a,d]) b c) h)) (tc b 12 16 λe=>bt (λb c d=>cH (b 92) λe=>bt f λf=>a1 e (e7 (d+18) λd=>GN b a c λe f i=>w9 b 2 a 106 c d h λc d j=>IH c (b 2) d λb d=>kX c (gd 3 b (.Z 0)) d λb d=>GL c 0 b d a λb d=>kX c (gi .not b) d λb d=>c9 (λb=>k3 a d f λc=>gO c (some i) (jA a e [i,b] d j (λa b c=>hB a λa d=>g (.tuple [a,d]) b c) h)) λa=>a1 c (a b) (a .zF)) (tc b 12 10 λe=>bt (λb c d=>cH (b 112) λe=>bt f λf=>a1 e (e7 (d+9) λd=>cH (b 8) λe=>ar (dE a c 3 (.ptr 2 0)) λf=>w9 b 2 a 106 c d h λb c d=>ar (dE a c 3 (.ptr 2 0)) λi=>gO i (some f) (jA a e [f,b] c d (λa b c=>hB a λa d=>g (.tuple [a,d]) b c) h)) (tc b 12 12 λe=>bt (λb c d=>cH (b 122) λe=>bt f λf=>a1 e (e7 (d+16) λd=>cH (b 8) λe=>ar (dE a c 3 (.ptr 2 0)) λf=>w9 b 2 a 106 c d h λc d i=>IH c (b 2) d λb d=>kX c (gd 3 b (.Z 0)) d λb d=>GL c 0 b d a λb d=>kX c (gi .not b) d λb d=>c9 (λb=>ar (dE a d 3 (.ptr 2 0)) λc=>gO c (some f) (jA a e [f,b] d i (λa b c=>hB a λa d=>g (.tuple [a,d]) b c) h)) λa=>a1 c (a b) (a .zF)) (vD b 23 f λe f=>a1 e (e7 (d+18) λd=>fs b 8 2 λe f=>ar (gd 3 f (.Z 1)) λf=>k3 a c f λi=>cH (b 2) λj=>yM 3 j λj=>kK j a c λj=>IH j (b 2) c λb c=>kX j (uv a c 3 b (some (.Z 1)) none none) c λb c=>lx j (λe=>a2 a 106 [b] c d e h) c d λb c d=>c9 (λb=>k3 a c f λf=>gO f (some i) (jA a e [i,b] c d (λa b c=>hB a λa d=>g (.tuple [a,d]) b c) h)) λa=>a1 j (a b) (a .zF)) (vD b 24 f λf i=>a1 f (e7 (d+20) λd=>GN b a c λe f i=>w9 b 2 a 106 c d h λc d j=>IH c (b 0) d λd k=>DF c b 1 k 2 a λb k=>k3 a k f λl=>gO l (some i) (lx c (λc=>a2 a 54 [d,b] k j c h) k j λb d j=>kX c (qK false 0 1 b) d λb d=>c9 (λb=>k3 a d f λc=>gO c (some i) (jA a e [i,b] d j (λa b c=>hB a λa d=>g (.tuple [a,d]) b c) h)) λa=>a1 c (a b) (a .zF))) (vD b 26 i λi j=>a1 i (e7 (d+22) λd=>fs b 8 1 λe f=>lK f 4 λf=>k3 a c f λf=>te b λi=>lK i 4 λi=>kK i a c λi=>ar (gi .not i) λi=>VK i (b 2) c λb c=>yb i (gd 3 b (.Z 0)) c λb c=>yb i (hW 0 b) c λb c=>yb i (aU a c b) c λb c=>c9 (λb=>jA a e [f,b] c d (λa b c=>hB a λa d=>g (.tuple [a,d]) b c) h) λa=>a1 i (a .zT) (a b)) (j (zI b 141 e 159 f 179 i) c d))))) λa=>a1 e (a (aa b 122 e) c d) (vD b 13 a λa f=>a1 a (f (zH b 122 e 122 a) c d) (vD b 14 f λf g=>a1 f (g (zI b 122 e 122 a 122 f) c d) (tc b 12 15 λh=>g (zJ b 122 e 122 a 122 f 122 h) c d))))) λa=>a1 e (a (aa b 112 e) c d) (tc b 12 11 λf=>a (zH b 112 e 112 f) c d))) λa=>a1 e (a (aa b 92 e) c d) (vD b 17 a λa f=>a1 a (f (zH b 92 e 92 a) c d) (tc b 12 18 λg=>f (zI b 92 e 92 a 92 g) c d)))) λa=>a1 i (a (zH b 61 e 77 i) c d) (vD b 8 a λa f=>a1 a (f (zI b 61 e 77 i 77 a) c d) (vD b 9 f λf g=>a1 f (g (zJ b 61 e 77 i 77 a 77 f) c d) (vD b 21 g λg h=>a1 g (h (aa (zJ b 61 e 77 i 77 a 77 f) 77 g) c d) (tc b 12 22 λj=>h (zH (zJ b 61 e 77 i 77 a 77 f) 77 g 77 j) c d))))))) λa=>a1 e (a (aa b 45 e) c d) (vD b 19 a λa f=>a1 a (f (zH b 45 e 45 a) c d) (tc b 12 20 λg=>f (zI b 45 e 45 a 45 g) c d)))) λa=>a1 m (a (zI (zJ (cR [b,c,d]) 6 .aY 7 .zF 8 (.func (.func 105) [] []) 12 i) 13 j 23 k 35 m) e f) (ar (bv .eql i (.Z 5)) λg=>a (zJ (zJ (cR [b,c,d]) 6 .aY 7 .zF 8 (.func (.func 105) [] []) 12 i) 13 j 23 k 35 m 35 g) e f)))
def aog:c7 X 84 [a0,bf,cf]=abA X a0 bf cf:=Zk
def aof:cV X 84 3=true:=Zk
def γ:Za1:=λa b c d e f _=>hC a d e b λb d e=>k3 a d b λb=>Nh b e λb=>gT a d e b.1 b.2 λa b d=>f (.tuple [a,c]) b d
def ak5:c7 X 105 [a0,bf]=γ X a0 bf:=Zk
def ak4:cV X 105 2=true:=Zk
def δ:Za0:=λa b c d e f=>hC a c d b λb c d=>ar (aU a c b) λg=>a2 a 126 [g, .func (.func 127) [] [b]] c d (λa b c=>ar (gi .not a) λa=>e a b c) f
def ak7:c7 X 106 [a0]=δ X a0:=Zk
def ak6:cV X 106 1=true:=Zk
def ε:Za2:=λa b c d e f g h=>e7 (f+14) λf=>gU b 1 a e λ_ i=>gU c 2 a e λ_ c=>a2 a 79 [i,c] e f (λc e f=>hB c λc _=>gU b 1 a e λ_ b=>gU b 0 a e λ_ b=>ar (gd 6 b c) λb=>GG a e b f λb c e=>e7 (c+12) λc=>e4 3 b a e λ_ f=>e4 2 b a e λb i=>jA a (.func (.func 128) [] []) [f] e c (λc e f=>ar (aU a e b) λb=>gO b (some i) (jA a (.func (.func 128) [] []) [i] e f (λb e f=>a2 a 57 [b,d] e f (λa b d=>g (.tuple [c,a]) b d) h) h)) h) h
def ak9:c7 X 107 [a0,bf,cf]=ε X a0 bf cf:=Zk
def ak8:cV X 107 3=true:=Zk
def ω:Za1:=λa b c d e f _=>hC a d e b λb d e=>e7 (e+6) λe=>k3 a d b λb=>ar (aU a d c) λc=>yM 3 c λc=>k3 a d c λc=>ar (db a d .neq 44 false b c) λa=>f a d e
def alK:c7 X 127 [a0,bf]=ω X a0 bf:=Zk
def alJ:cV X 127 2=true:=Zk
def aaa:Za0:=λa b c d e _=>iT b (λa b c=>qx a λa=>e a b c) λe f=>fy (λb c d e=>hK c 8 7 λg=>bt (λc d e=>bt (λa c d=>gR a 8 λe=>b (aa a 8 e) c d) λb=>GF c 6 8 a d e λd e f=>qx c λg=>ar (hW 2 d) λh=>k3 a f h λh=>Nh h e λh=>DH a f e h.1 h.2 3 g λa e f=>b (zH c 5 d 3 a) e f) λa=>a1 g (a (aa c 9 g) d e) (f (aa c 9 g) d e)) (aa (zJ (cR [b]) 2 .aY 3 .aY 6 b 7 e) 8 (.Z 0)) c d
def alM:c7 X 128 [a0]=aaa X a0:=Zk
def alL:cV X 128 1=true:=Zk
end
noncomputable section
section
variable{X:ca}{h R aQ aP:S ag}{j an aV aX:Nat}{P:Nat->Prop}
def nP(X:ca)(h:S ag)(P:Nat->Prop)(aO:E)(k:List d3):Prop:=∃b,dV X h P b aO 3 (k.map eE)
def nP.ab{a7:Nat->Prop}{aO:E}{k:List d3}(a:nP X h P aO k)(u:∀e,P e->W X R e=W X h e)(az:∀e,P e->a7 e):nP X R a7 aO k:=by
 obtain⟨b,a⟩:=a
 exact⟨b,(a.ab u).lift az⟩
def ad3(X:ca):List Field:=match (o X).P.underlying 44 with|some (.struct jN)=>jN.toList|_=>[]
def arH(eq:Nat->E->E->Option Bool)(F b c fB dD fX:E):yV X eq (ad3 X) [F,b,c] [fB,dD,fX]=(match eq 4 F fB with|some true=>(match eq 4 b dD with|some true=>(match eq 3 c fX with|some true=>some true|some false=>some false|none=>none)|some false=>some false|none=>none)|some false=>some false|none=>none):=Zk
def arC(ck nb:List E):jg X h 50 44 (.agg ck) (.agg nb)=yV X (jg X h 49) (ad3 X) ck nb:=Zk
def S4(F b:Bool):jg X h 49 4 (.bool F) (.bool b)=some (Hk F b):=Zk
def arU(F b:Int):jg X h 49 3 (.Z F) (.Z b)=some (uc F b):=Zk
def Sl(F b:Bool):Hk F b=decide (F=b):=by cases F<;>cases b<;>rfl
def arS(F b:d3):jg X h 50 44 (.agg (eE F)) (.agg (eE b))=some (decide (F=b)):=by
 obtain⟨bf,cf,a3⟩:=F
 obtain⟨bQ,cl,cU⟩:=b
 simp only[eE]
 rw[arC,arH,S4,S4,arU,Sl,Sl,A0]
 by_cases H:bf=bQ<;>by_cases M:cf=cl<;>by_cases al:a3=cU<;>simp[H,M,al]
def ah9(F b:d3):db X h .neq 44 false (.agg (eE F)) (.agg (eE b))=some (.bool (!decide (F=b))):=by
 have a:db X h .neq 44 false (.agg (eE F)) (.agg (eE b))=(match jg X h 50 44 (.agg (eE F)) (.agg (eE b))with|some b=>nR (!b)|none=>none):=Zk
 rw[a,arS]
 cases decide (F=b)<;>rfl
def Mg{b T:Nat}{c:S E}{n:Nat}{st:oo}{t:d3}(aj:W X h b=some (.cells c n st))(a:c.lq T 3=some (eE t)):dE X h 3 (.ptr b T)=some (.agg (eE t)):=by
 rw[wI,aj];simp only[a,ZS]
structure yU(X:ca)(h:S ag)(P:Nat->Prop)(aO:E)(k:List d3):Prop where
 len:gr aO=some (.Z (k.length:Int))
 many:k.length<=300000
 fx:∀(i:Nat) t,k[i]? =some t->∃b T,gd 3 aO (.Z (i:Int))=some (.ptr b T)/\P b/\dE X h 3 (.ptr b T)=some (.agg (eE t))/\aU X h (.ptr b T)=some (.bool t.b)
def yU.ab{a7:Nat->Prop}{aO:E}{k:List d3}(a:yU X h P aO k)(u:∀e,P e->W X R e=W X h e)(az:∀e,P e->a7 e):yU X R a7 aO k:=
 ⟨a.len,a.many,λi t aG=>by
  obtain⟨b,T,H,M,al,aB⟩:=a.fx i t aG
  exact⟨b,T,H,az b M,by rw[wI,u b M, <-wI];exact al,zK (u b M) aB⟩⟩
def nP.rd{aO:E}{k:List d3}(a:nP X h P aO k):yU X h P aO k:=by
 obtain⟨b,a⟩:=a
 have az:=a.len
 have bn:=a.many
 rw[Zi]at az bn
 refine⟨az,bn,λi t aG=> ?_⟩
 have k9:=(Zb.1 aG).1
 have Y:(k.map eE)[i]? =some (eE t):=by rw[Zy,aG];rfl
 refine⟨b,i*3,a.fx i (by rw[Zi];omega),a.aj (λD=>by rw[D]at Y;cases Y),a.row Zd Y, ?_⟩
 exact a.cell i (eE t) 0 _ Y rfl
def aAP(aw:dk X){F b:d3}{k:List d3}{aO:E}{c:Nat}(aF:(o X).a8<=j)(aA:c<j)(h0:aU X h (.ptr c 0)=some aO)(ba:yU X h P aO (b::k))(bs:∀e,P e->e<j):
 a2 X 127 [.agg (eE F), .ptr c 0] h j (λac R an=>ac= .bool (!decide (F=b))/\br X h j R an) zL:=by
 refine zG aw (alJ X) ?_
 rw[alK]
 unfold ω
 obtain⟨ce,T,dA,mY,wt,_⟩:=ba.fx 0 b rfl
 have dA:gd 3 aO (.Z 0)=some (.ptr ce T):=dA
 refine tr ?_
 generalize dl:bm X h j _=aQ
 have bP:dE X aQ 3 (.ptr j 0)=some (.agg (eE F)):=by rw[<-dl];exact Mg (bh aF) (by cases F;rfl)
 have bL:br X h j aQ (j+1):=by rw[<-dl];exact dH
 clear dl
 have aH:=λe (z:P e)=>bL.ab e (bs e z)
 have iB:dE X aQ 3 (.ptr ce T)=some (.agg (eE b)):=by rw[wI,aH ce mY, <-wI];exact wt
 have auR:aU X aQ (.ptr c 0)=some aO:=zK (bL.ab c aA) h0
 refine f3 @bP @auR @dA @iB @ah9 ⟨?_⟩
 exact⟨rfl,bL.more Zo⟩
def aAQ(b:d3)(k:List d3):q2 (b::k)=(b::k).all (λF=>decide (F=b)):=rfl
def axN(aw:dk X){b:d3}{k:List d3}{aO:E}{c:Nat}(aF:(o X).a8<=j)(aA:c<j)(h0:aU X h (.ptr c 0)=some aO)(ba:yU X h P aO (b::k))(bs:∀e,P e->e<j):
 a2 X 138 [aO, .func (.func 127) [] [.ptr c 0]] h j (λac R an=>(∃u:Int,ac= .Z u/\decide (0<=u)= !q2 (b::k))/\br X h j R an) zL:=by
 refine zG aw (al3 X) ?_
 rw[al4]
 unfold aai
 have d2:=ba.len
 have h1:=ba.many
 rw[aAQ]
 generalize gp:b::k=L at*
 refine cj @d2 ⟨?_⟩
 refine fE (λm I R aS=>∃(V:Nat),I.g 0=some aO/\I.g 1=some (.func (.func 127) [] [.ptr c 0])/\I.g 7=some (.Z (L.length:Int))/\I.g 8=some (.Z (V:Int))/\V+m=L.length/\br X h j R aS/\L.all (λF=>decide (F=b))=(L.drop V).all (λF=>decide (F=b)))
  L.length ⟨0,bo,bo,bo,fY,Zo,br.refl _ _,rfl⟩ ?_
 rintro m I aP aX ⟨V,t0,t1,e9,gQ,bF,bI,b4⟩
 have fN:=bI.le
 cases m with
 |zero=>
  have d:=zA V L.length
  rw[ZC Zo]at b4
  refine er @gQ @e9 @d ⟨?_⟩
  exact⟨⟨-1,rfl,by rw[b4];rfl⟩,bI⟩
 |succ m=>
  have d:=zB V L.length
  have bC:=zE V
  obtain⟨g,bV⟩:=zC L V
  have aJ:L.drop V=g::L.drop (V+1):=by
   obtain⟨af,z⟩:=Zb.1 bV
   rw[Zr af,z]
  have aH:=λe (z:P e)=>bI.ab e (bs e z)
  obtain⟨ce,T,dA,mY,iB,_⟩:=(ba.ab (a7:=P) aH (λ_ a=>a)).fx V g bV
  have Un:aU X aP (.ptr c 0)=some aO:=zK (bI.ab c aA) h0
  rw[aJ,List.all_cons]at b4
  refine eh @gQ @e9 @t1 @t0 @d @dA @iB ⟨?_⟩
  refine(aAP aw (b:=b) (k:=k) (aO:=aO) Zo Zo Un (by rw[gp];exact ba.ab (a7:=P) aH (λ_ a=>a)) (λe z=>zz (bs e z))).Zm ?_
  rintro ac a6 bz ⟨rfl,cp⟩
  by_cases g1:g=b
  ·have cM:(!decide (g=b))=false:=by simp[g1]
   have e2:decide (g=b)=true:=by simp[g1]
   rw[e2,zk]at b4
   rw[cM]
   refine cS @gQ @bC ⟨?_⟩
   exact⟨m,Zo,V+1,aW t0,aW t1,aW e9,bo,Zo,bI.trans cp,b4⟩
  ·have cM:(!decide (g=b))=true:=by simp[g1]
   have e2:decide (g=b)=false:=by simp[g1]
   rw[e2,Bool.false_and]at b4
   rw[cM]
   refine cL ⟨?_⟩
   exact⟨⟨V,rfl,by rw[b4];simp⟩,bI.trans cp⟩
def aqN(aw:dk X){b:d3}{k:List d3}{aO:E}{c:Nat}(aF:(o X).a8<=j)(aA:c<j)(h0:aU X h (.ptr c 0)=some aO)(ba:yU X h P aO (b::k))(bs:∀e,P e->e<j):
 a2 X 126 [aO, .func (.func 127) [] [.ptr c 0]] h j (λac R an=>ac= .bool (!q2 (b::k))/\br X h j R an) zL:=by
 refine zG aw (alH X) ?_
 rw[alI]
 unfold ψ
 refine(axN aw aF aA h0 ba bs).Zm ?_
 rintro ac R aS ⟨⟨u,rfl,aH⟩,bY⟩
 refine cL ⟨?_⟩
 exact⟨by rw[aH],bY⟩
def I8(aw:dk X){b:d3}{k:List d3}{aO:E}(aF:(o X).a8<=j)(hP:aO.cells=[aO])(ba:yU X h P aO (b::k))(bs:∀e,P e->e<j):
 a2 X 106 [aO] h j (λac R an=>ac= .bool (q2 (b::k))/\br X h j R an) zL:=by
 refine zG aw (ak6 X) ?_
 rw[ak7]
 unfold δ
 refine tr ?_
 rw[hP]
 generalize dl:bm X h j _=aQ
 have bP:aU X aQ (.ptr j 0)=some aO:=by rw[<-dl,bG (bh aF)];rfl
 have bL:br X h j aQ (j+1):=by rw[<-dl];exact dH
 clear dl
 have aH:=λe (z:P e)=>bL.ab e (bs e z)
 refine cj @bP ⟨?_⟩
 refine(aqN aw Zo Zo bP (ba.ab (a7:=P) aH (λ_ a=>a)) (λe z=>zz (bs e z))).Zm ?_
 rintro ac aP aX ⟨rfl,bI⟩
 refine cL ⟨?_⟩
 exact⟨Zs,bL.trans bI⟩
def Mz(aw:dk X){t:aR->Option c0}{bT:Nat}{cr:E}(aF:(o X).a8<=j)(iO:bT<j)(aA:aU X h (.ptr bT 2)=some cr)(ba:kd X h P cr t)(bs:∀e,P e->e<j)(w:aR):
 a2 X 54 [.ptr bT 0, .str w] h j (λac R an=>ac= .agg (eE (mN t w))/\br X h j R an) zL:=by
 refine zG aw (ank X) ?_
 rw[anl]
 unfold aa1
 refine so ?_
 generalize dl:bm X h j _=aQ
 have bP:W X aQ j=zD [.zF, .zF, .Z 0] 3:=by rw[<-dl,bh aF];rfl
 have bL:br X h j aQ (j+1):=by rw[<-dl];exact dH
 clear dl
 have aH:=λe (z:P e)=>bL.ab e (bs e z)
 have sE:aU X aQ (.ptr bT 2)=some cr:=zK (bL.ab bT iO) aA
 refine cj @sE ⟨?_⟩
 refine(HE aw Zo (ba.ab (a7:=P) aH (λ_ a=>a)) (λe z=>zz (bs e z)) w).Zm ?_
 rintro ac aP aX ⟨rfl,bI⟩
 have fN:=bI.le
 unfold mN
 generalize (t w).getD px=v at*
 have p6:oO v=[.Z v.kind, .str v.d.name, .Z v.d.at_, .bool v.d.ty.b, .bool v.d.ty.s, .Z v.d.ty.w, .str v.d.on, .Z v.d.eX, .bool v.d.no, .Z v.eq, .Z v.left]:=rfl
 rw[p6]
 have b2:W X aP j=zD [.zF, .zF, .Z 0] 3:=by rw[bI.ab _ Zo];exact bP
 have hb:=bL.trans bI
 refine cL ⟨?_⟩
 generalize eQ:bm X _ aX _=a6
 have cI:W X a6 aX=zD [.Z v.kind, .str v.d.name, .Z v.d.at_, .bool v.d.ty.b, .bool v.d.ty.s, .Z v.d.ty.w, .str v.d.on, .Z v.d.eX, .bool v.d.no, .Z v.eq, .Z v.left] 11:=by rw[<-eQ,bh Zo];rfl
 have dT:W X a6 j=zD [.zF, .zF, .Z 0] 3:=by rw[<-eQ];simp(disch:=omega) only[aI];exact b2
 have cp:br X h j a6 (aX+1):=⟨Zo,λe z=>by rw[<-eQ];simp(disch:=omega) only[aI];exact hb.ab e z⟩
 clear eQ
 have az:dE X a6 3 (.ptr aX 3)=some (.agg (eE v.d.ty)):=Mg cI rfl
 refine cj @az ⟨?_⟩
 generalize e5:bm X _ j _=bH
 have afL:dE X bH 3 (.ptr j 0)=some (.agg (eE v.d.ty)):=by rw[<-e5];exact Mg (bh aF) rfl
 have cW:br X h j bH (aX+1):=⟨Zo,λe z=>by rw[<-e5];simp(disch:=omega) only[aI];exact cp.ab e z⟩
 clear e5
 refine cj @afL ⟨?_⟩
 exact⟨rfl,cW⟩
def KB(aw:dk X)(aF:(o X).a8<=j)(F:Int){ai:bK}:
 a2 X 55 [.Z F] h j ai (λac R an=>ac=pQ 26 F/\br X h j R an):=by
 refine zG aw (anm X) ?_
 rw[ann]
 unfold aa2
 refine cL ⟨?_⟩
 exact⟨⟨rfl,dH⟩⟩
end
section
variable{X:ca}{h R aQ aP:S ag}{j an aV aX:Nat}{P:Nat->Prop}
def qs(k:List d3):List (List E):=k.map eE
def M2(k:List d3):∀r∈qs k,r.length=3:=by
 intro r Y
 obtain⟨t,_,rfl⟩:=ZE.1 Y
 rfl
def ajZ(k:List d3):(qs k).flatten.length=k.length*3:=by
 rw[tE (M2 k)];simp[qs]
def aAR(t:d3):iF (eE t)=true:=rfl
def XH{s:E}{k:List d3}{cv:List Nat}{t:d3}{ce:Nat}{st:oo}(a:ga X h s 3 (qs k).flatten cv)(aj:W X h ce=some (.cells (S.ofList (eE t) 0 .nil) 3 st))(bn:k.length<=300000)(aF:(o X).a8<=j)(c3:∀e∈cv,e<j)(cap:Nat):
 ∃e1 R gK,j1 X h j 3 s (.slice ce 0 1 cap)=some (.fH e1 R (j+1))/\ga X R e1 3 (qs (k++[t])).flatten gK/\(∀e∈gK,e=j\/e∈cv)/\∀e,e≠j->e∉cv->W X R e=W X h e:=by
 have gp:=ajZ k
 obtain⟨e1,R,gK,H,M,al,aB⟩:=a.append (j:=j) Zd (s2 (u:=1) aj (nu _) rfl cap) rfl Zd (aAR t) (by rw[gp];simp[eE];omega) aF c3
 refine⟨e1,R,gK,H, .inl ?_,al,aB⟩
 have:(qs (k++[t])).flatten=(qs k).flatten++eE t:=by simp[qs]
 rw[this];exact M
def ajY(aw:dk X){ds:List eb}{aO:E}{b:Nat}(aF:(o X).a8<=j)(cG:dV X h P b aO 8 (ds.map dK))(bs:∀e,P e->e<j)(bn:ds.length<=100000):
 a2 X 128 [aO] h j (λac R an=>(ac.cells=[ac]/\nP X R (dU j an) ac (ds.map (·.ty)))/\br X h j R an) zL:=by
 refine zG aw (alL X) ?_
 rw[alM]
 unfold aaa
 have d2:=cG.len
 rw[Zi]at d2
 refine cj @d2 ⟨?_⟩
 refine fE (λm I R aS=>∃(V:Nat) (s:E) (cv:List Nat),I.g 3=some s/\I.g 6=some aO/\I.g 7=some (.Z (ds.length:Int))/\I.g 8=some (.Z (V:Int))/\V+m=ds.length/\br X h j R aS/\ga X R s 3 (qs ((ds.take V).map (·.ty))).flatten cv/\∀e∈cv,j<=e/\e<aS)
  ds.length ⟨0, .aY,[],bo,bo,bo,fY,Zo,br.refl _ _, .inl (.inl ⟨rfl,rfl,rfl⟩),Zs⟩ ?_
 rintro m I aP aX ⟨V,s,cv,t3,eY,e9,gQ,bF,bI,aC,eR⟩
 have fN:=bI.le
 cases m with
 |zero=>
  have d:=zA V ds.length
  rw[ZA Zo]at aC
  refine gk @gQ @e9 @d @t3 ⟨?_⟩
  obtain⟨bC,cu,fL⟩:=ga.one aC
  obtain⟨dD,cF⟩:=aC.uq (P:=dU j aX) Zd (M2 _) (by simp[qs];omega) eR
  exact⟨⟨bC,dD,cF⟩,bI⟩
 |succ m=>
  have d:=zB V ds.length
  have bC:=zE V
  obtain⟨g,bV⟩:=zC ds V
  have aH:=λe (z:P e)=>bI.ab e (bs e z)
  have dA:=cG.fx V (by rw[Zi];omega)
  have iB:=(cG.ab aH).row Zd (i:=V) (r:=dK g) (by rw[Zy,bV];rfl)
  have lw:ds.take (V+1)=ds.take V++[g]:=by rw[ZY,bV];rfl
  refine ic @gQ @e9 @eY @d @dA @iB ⟨?_⟩
  generalize eQ:bm X _ aX _=a6
  have cI:W X a6 aX=zD (dK g) 8:=by rw[<-eQ,bh Zo];rfl
  have cX:∀e,e<aX->W X a6 e=W X aP e:=λe z=>by rw[<-eQ];exact zF
  clear eQ
  have az:dE X a6 3 (.ptr aX 2)=some (.agg (eE g.ty)):=Mg cI rfl
  refine er @t3 @az eE.eq_1 ⟨?_⟩
  generalize e5:bm X a6 _ _=bH
  have dL:W X bH (aX+1)=zD (eE g.ty) 3:=by rw[<-e5,bh Zo];rfl
  have d4:∀e,e<aX->W X bH e=W X aP e:=λe z=>by rw[<-e5,aI Zo Zo];exact cX e z
  clear e5
  obtain⟨e1,bN,gK,iN,E3,Ay,nq⟩:=XH (j:=aX+1+1) (aC.ab (R:=bH) (λe z=>d4 e (eR e z).2)) dL (by rw[Zi,Yz];omega) Zo (λe z=>zz (eR e z)) 1
  refine kH iN ?_
  refine cS @gQ @bC ⟨?_⟩
  refine⟨m,Zo,V+1,e1,gK,bo,aW eY,aW e9,bo,Zo,⟨Zo,λe z=> ?_⟩, ?_,λe z=> ?_⟩
  ·rw[nq e Zo (λa=>zz (eR e a)),d4 e Zo];exact bI.ab e z
  ·rw[lw,ZW];exact E3
  ·rcases Ay e z with rfl|a
   ·omega
   ·have:=eR e a;omega
end
end
noncomputable section
variable (X : ca) (h : S ag) (j : Nat) (ai ax : bK) (a0 bf cf a3 a4 a5 jK kx jf : E)
def aa4:Za1:=λa b c d e f _=>ar (gr b) λg=>ar (gr c) λh=>ar (bv .neq g h) λg=>bt (λb c d=>fa b λe=>iT e (λ_ a b=>f .zT a b) λe g=>fy (λb c d e=>hK c 13 12 λh=>bt (λc d e=>bt (λa c d=>gR a 13 λe=>b (aa a 13 e) c d) λb=>cH (c 13) λg=>e7 (e+9) λe=>fa c λh=>ar (gd 3 h g) λh=>k3 a d h λh=>te c λi=>ar (gd 3 i g) λi=>k3 a d i λi=>ar (db a d .neq 44 false h i) λa=>bt b λb=>a1 a (f .zF d e) (b (zH c 5 g 24 a) d e)) λa=>a1 h (a (aa c 14 h) d e) (g (aa c 14 h) d e)) (zH b 12 e 13 (.Z 0)) c d) λa=>a1 g (f .zF d e) (a (zH (cR [b,c]) 4 .zF 10 g) d e)
def anr:c7 X 57 [a0,bf]=aa4 X a0 bf:=Zk
def anq:cV X 57 2=true:=Zk
end
noncomputable section
section
variable{X:ca}{h R aQ aP:S ag}{j an aV aX:Nat}{P:Nat->Prop}
def adB(aw:dk X){A bx:List d3}{jV MO:E}(aF:(o X).a8<=j)(aE:nP X h P jV A)(aj:nP X h P MO bx)(bs:∀e,P e->e<j):
 a2 X 57 [jV,MO] h j (λac R an=>ac= .bool (decide (A=bx))/\br X h j R an) zL:=by
 refine zG aw (anq X) ?_
 rw[anr]
 unfold aa4
 obtain⟨bQ,PC⟩:=aE
 obtain⟨cl,LI⟩:=aj
 have Lq:=PC.len
 have ws:=LI.len
 have avV:=PC.many
 rw[Zi]at Lq ws avV
 by_cases az:A.length=bx.length
 ·have d:decide ((A.length:Int)≠(bx.length:Int))=false:=by simp[az]
  refine er @Lq @ws @d ⟨?_⟩
  refine fE (λm I R aS=>∃(V:Nat),I.g 0=some jV/\I.g 1=some MO/\I.g 12=some (.Z (A.length:Int))/\I.g 13=some (.Z (V:Int))/\V+m=A.length/\br X h j R aS/\decide (A=bx)=decide (A.drop V=bx.drop V))
   A.length ⟨0,bo,bo,bo,fY,Zo,br.refl _ _,rfl⟩ ?_
  rintro m I aP aX ⟨V,t0,t1,k1,mf,bF,bI,b4⟩
  have fN:=bI.le
  cases m with
  |zero=>
   have d:=zA V A.length
   rw[ZC Zo,ZC Zo]at b4
   refine er @k1 @mf @d ⟨?_⟩
   exact⟨by rw[b4];rfl,bI⟩
  |succ m=>
   have d:=zB V A.length
   have bC:=zE V
   obtain⟨g,bV⟩:=zC A V
   obtain⟨a,gL⟩:=zC bx V
   have O0:A.drop V=g::A.drop (V+1):=by
    obtain⟨af,z⟩:=Zb.1 bV
    rw[Zr af,z]
   have qP:bx.drop V=a::bx.drop (V+1):=by
    obtain⟨af,z⟩:=Zb.1 gL
    rw[Zr af,z]
   have aH:=λe (z:P e)=>bI.ab e (bs e z)
   have dA:=PC.fx V (by rw[Zi];omega)
   have tV:=LI.fx V (by rw[Zi];omega)
   have iB:=(PC.ab aH).row Zd (i:=V) (r:=eE g) (by rw[Zy,bV];rfl)
   have awS:=(LI.ab aH).row Zd (i:=V) (r:=eE a) (by rw[Zy,gL];rfl)
   rw[O0,qP]at b4
   have I2:=ah9 (X:=X) (h:=aP) g a
   refine eh @t0 @t1 @k1 @mf @d @dA (Za @tV (Za @iB (Za @awS @I2))) ⟨?_⟩
   by_cases UE:g=a
   ·subst UE
    have cM:(!decide (g=g))=false:=by simp
    rw[cM]
    refine cS @mf @bC ⟨?_⟩
    exact⟨m,Zo,V+1,aW t0,aW t1,aW k1,bo,Zo,bI.more Zo,by rw[b4];simp⟩
   ·have cM:(!decide (g=a))=true:=by simp[UE]
    rw[cM]
    refine cL ⟨?_⟩
    exact⟨by rw[b4];simp[UE],bI.more Zo⟩
 ·have d:decide ((A.length:Int)≠(bx.length:Int))=true:=zP
  have dn:A≠bx:=λD=>az (by rw[D])
  refine er @Lq @ws @d ⟨?_⟩
  exact⟨by simp[dn],br.refl _ _⟩
def aCy(aw:dk X)(aF:(o X).a8<=j)(t:d3)(b:Bool):
 jA X (.func (.func 105) [] []) [.agg (eE t), .bool b] h j (λac R an=>∃w,ac= .tuple [w, .bool b]/\w.cells=[w]/\nP X R (dU j an) w [t]/\br X h j R an) zL:=by
 refine L2 ?_
 show a2 X 105 [.agg (eE t), .bool b] h j _ _
 refine zG aw (ak4 X) ?_
 rw[ak5]
 unfold γ
 refine tr ?_
 generalize dl:bm X h j _=aQ
 have bP:dE X aQ 3 (.ptr j 0)=some (.agg (eE t)):=by rw[<-dl];exact Mg (bh aF) (by cases t;rfl)
 have bL:br X h j aQ (j+1):=by rw[<-dl];exact dH
 clear dl
 refine cS @bP eE.eq_1 ⟨?_⟩
 generalize dR:bm X aQ _ _=aP
 have b2:W X aP (j+1)=zD [eE t].flatten (1*3):=by rw[<-dR,bh Zo];rfl
 have bI:br X h j aP (j+1+1):=⟨Zo,λe z=>by rw[<-dR,aI Zo Zo];exact bL.ab e z⟩
 exact⟨_,rfl,rfl,⟨j+1,Ji (be:=[eE t]) b2 rfl (by simp[eE]) Zo ⟨Zo,Zo⟩⟩,bI⟩
structure GR(X:ca)(h:S ag)(bT:Nat)(Dx p cr:E):Prop where
 dx:aU X h (.ptr bT 0)=some Dx
 c5:aU X h (.ptr bT 1)=some p
 dC:aU X h (.ptr bT 2)=some cr
def GR.ab{bT:Nat}{Dx p cr:E}(a:GR X h bT Dx p cr)(u:W X R bT=W X h bT):GR X R bT Dx p cr:=by
 have az:∀T,aU X R (.ptr bT T)=aU X h (.ptr bT T):=λT=>by rw[cw,cw,u]
 exact⟨by rw[az];exact a.dx,by rw[az];exact a.c5,by rw[az];exact a.dC⟩
def asj{nm:aR}:∀(am:List Go.aL.Node) (u V:Nat),tD nm u am=some V->V<u+am.length:=by
 intro am
 induction am with
 |nil=>intro u V a;cases a
 |cons g am ah=>
  intro u V a
  unfold tD at a
  split at a
  ·cases a;simp
  ·have:=ah _ _ a;simp;omega
def asm{am:List Go.aL.Node}{nm:aR}(aK:am≠[]):(mz am nm).getD 0<am.length:=by
 have:0<am.length:=ZU.2 aK
 cases a:mz am nm with
 |none=>exact this
 |some V=>have:=asj am 0 V a;simpa using this
def aqm(aw:dk X){am:List Go.aL.Node}{bT:Nat}{Dx p cr:E}(aF:(o X).a8<=j)(iO:bT<j)(aA:GR X h bT Dx p cr)(bV:oX X h P am p)(aK:am≠[])(bs:∀e,P e->e<j)(bn:∀g∈am,g.d8.length<=100000/\g.out.length<=100000)
 {D:bp}{v:E}(bA:cn X h P D v){F:List d3}{aO:E}(aE:nP X h P aO F):
 a2 X 107 [.ptr bT 0,v,aO] h j (λac R an=>∃w,ac= .tuple [w, .bool (B1 am D.name F).2]/\w.cells=[w]/\nP X R (dU j an) w (B1 am D.name F).1/\br X h j R an) zL:=by
 refine zG aw (ak8 X) ?_
 rw[ak9]
 unfold ε
 obtain⟨hu,_,_,_,rfl,afg,_,_,arv,_⟩:=bA.open
 have c5:=aA.c5
 refine cS @c5 @arv ⟨?_⟩
 refine(Te (j:=j+14) aw Zo bV (λe z=>zz (bs e z)) D.name).Zm ?_
 rintro ac aQ aV ⟨rfl,bL⟩
 have jy:=bL.le
 have jx:=λe (z:P e)=>bL.ab e (zz (bs e z))
 have AJ:=asm (nm:=D.name) aK
 unfold B1
 generalize xV:(mz am D.name).getD 0=u at*
 obtain⟨g,UF⟩:∃g,am[u]? =some g:=⟨_,Ze AJ⟩
 rw[UF]
 obtain⟨l9,kS⟩:=bn g (Zl UF)
 obtain⟨jE,Jg,QA,be,rfl,mY,a0,cG,kU⟩:=bV
 have Pr:=kU.wide
 obtain⟨row,fD,jR⟩:=kU.get u g UF
 have af8:=jR.ab (a7:=P) jx (λ_ a=>a)
 have sE:=(aA.ab (bL.ab bT Zo)).c5
 have JZ:aU X aQ (.ptr jE 0)=some Jg:=zK (bL.ab jE (zz (bs jE mY))) a0
 have dA:=cG.fx u (by rw[Pr.1];omega)
 have iB:=(cG.ab jx).row Zd fD
 have eM:=jR.len
 have p2:=af8.iF
 obtain⟨cQ,c4,ajh,eo,bQ,cl,cU,fe,eqs,rfl,rM,kl,_⟩:=af8
 refine gk @sE @JZ @dA @iB ⟨?_⟩
 refine gm (jG (u:=6) (b:=aV) (T:=0) (n:=6) (bh Zo) Zo rfl Zd Zd p2) ?_
 refine cL ⟨?_⟩
 show a2 X 128 [c4] _ _ _ _
 generalize dR:bm X _ aV _=aP
 have b2:W X aP aV=zD [.str g.name, .Z g.at_,cQ,c4,ajh,eo] 6:=by rw[<-dR,bh Zo];rfl
 have bI:br X h j aP (aV+1+12):=⟨Zo,λe z=>by rw[<-dR];simp(disch:=omega) only[aI];exact bL.ab e Zo⟩
 have hD:∀e,P e->W X aP e=W X aQ e:=λe z=>by rw[bI.ab e (bs e z),jx e z]
 clear dR
 refine(ajY aw Zo (kl.ab hD) (λe z=>zz (bs e z)) kS).Zm ?_
 rintro w4 a6 bz ⟨⟨axk,PL⟩,cp⟩
 have jm:=cp.le
 have cI:W X a6 aV=zD [.str g.name, .Z g.at_,cQ,c4,ajh,eo] 6:=by rw[cp.ab _ Zo];exact b2
 obtain⟨cE,cA,dT⟩:=jS rM.len
 refine cj (bG cI) ⟨?_⟩
 refine gP dT ?_
 refine L2 ?_
 show a2 X 128 [cQ] _ _ _ _
 have la:∀e,P e->W X a6 e=W X aQ e:=λe z=>by rw[cp.ab e (zz (bs e z)),hD e z]
 refine(ajY aw Zo (rM.ab la) (λe z=>zz (bs e z)) l9).Zm ?_
 rintro vw bH cC ⟨⟨aGS,PM⟩,cW⟩
 have iu:=cW.le
 have gz:∀e,P e->W X bH e=W X h e:=λe z=>by rw[cW.ab e (zz (bs e z)),la e z,jx e z]
 have KU:=(bI.trans ((cp.kZ Zo).trans cW))
 refine(adB (P:=λe=>e<cC) aw Zo (PM.ab (λ_ _=>rfl) (λe z=>z.2)) (aE.ab gz (λe z=>zz (bs e z))) (λe z=>z)).Zm ?_
 rintro vx bN ci ⟨rfl,dW⟩
 have iP:=dW.le
 refine cL ⟨?_⟩
 refine⟨w4,rfl,axk,PL.ab (λe z=> ?_) (λe z=>⟨zz z.1,zz z.2⟩),KU.trans dW⟩
 have:=z.2
 rw[dW.ab e Zo,cW.ab e Zo]
end
end
end Go.Proofs.YtpeabpmnlmaabaaGreatDoor

