/- A part of the last text's proof; no condition of its own -/
import Derived.Test.YtpfajohmofnkfaaGreatDoorYn
set_option maxHeartbeats 8000000
set_option linter.all false
namespace Go.Proofs.YtpfajohmofnkfaaGreatDoor
open Go.bk Go.aZ
noncomputable section
section
variable{X:co}{h U gw a6 aR:V an}{j ar aJ bc:Nat}
structure x5(X:co)(hj:V an)(eb b1 dh:Nat)(p:J)(F:Int)(cF:J)(f:Int×Int)(af:bq->Option Int)(h:V an)(n:Nat):Prop where
 le:eb<=n
 jP:ga X h b1 p F cF (.map dh) f
 kX:oG X h dh (n4 af)
 low:∀e,e<eb->e≠b1->e≠dh->ab X h e=ab X hj e
def x5.ad{hj:V an}{eb b1 dh:Nat}{p cF:J}{F:Int}{f:Int×Int}{af:bq->Option Int}(a:x5 X hj eb b1 dh p F cF f af a6 aJ)(ij:b1<eb)(Jf:dh<eb)(aM:aJ<=bc)(aL:∀e,e<aJ->ab X aR e=ab X a6 e):x5 X hj eb b1 dh p F cF f af aR bc:=by
 have gE:=a.le
 refine⟨Zo, ?_,a.kX.ad (aL _ Zo),λe T W au=>by rw[aL e Zo];exact a.low e T W au⟩
 have:=a.jP
 unfold ga at*
 rw[aL _ Zo];exact this
def Cz(ao:gv)(i:Nat):Int:=(ao.dm[i]?).getD 0
def atH{ao:gv}{i:Nat}{w:bq}(a:ao.left[i]? =some w):(qK ao)[i]? =some (w,Cz ao i):=by
 unfold qK
 rw[Zt,Ue a];rfl
def atI(ao:gv):(qK ao).length=ao.left.length:=by simp[qK]
def alm(az:dx X){P:Nat->Prop}{b1 dh:Nat}{p cF:J}{F:Nat}{aq:List Go.aZ.Node}{g:Go.aZ.Node}(aM:(q X).ba<=j)(ij:(q X).ba<=b1)(xf:(q X).ba<=dh)(yK:b1<j)(xg:dh<j)(Bd:b1≠dh)
 (bB:∀e,P e->e<j/\e≠b1/\e≠dh)(b0:ns X h P aq p)(aL:aq[F]? =some g)(bb:oK X h P cF (hD g))(aB:ga X h b1 p F cF (.map dh) (0,0))(gI:oG X h dh (n4 λ_=>none)):
 aW X 71 [.ptr b1 0] h j (λae U ar=>ae= .tuple []/\ga X U b1 p F cF (.map dh) (qP aq F g)/\j<=ar/\∀e,e<j->e≠b1->e≠dh->ab X U e=ab X h e) (λ_ _ _=>False):=by
 refine HV (ajv X) (az.none _ _ rfl) ?_
 rw[ajw]
 unfold Wb
 obtain⟨hq,vR,pq,aBn,rfl,k1,adX,Bl,abW⟩:=id b0
 have Jm:=abW.wide
 have azU:=(Zc.1 aL).1
 obtain⟨row,ft,kh⟩:=abW.get F g aL
 have Di:=kh
 have jY:=kh.jI
 obtain⟨cY,df,a8,eR,cT,dL,et,ig,bF,rfl,lr,kg,nD,jX,ff⟩:=kh
 have aqZ:=bB hq k1
 have ee:al X h (.ptr b1 0)=some (.ptr hq 0):=by unfold ga at aB;rw[bR aB];rfl
 have dy:al X h (.ptr b1 1)=some (.Z (F:Int)):=by unfold ga at aB;rw[bR aB];rfl
 have dQ:=Bl.e9 F (by rw[Jm.1];omega)
 refine yv ⟨?_⟩
 generalize ea:bo X h j _=a6
 have kb:ab X a6 j=zs [.ptr b1 0] 1:=by rw[<-ea,bi aM];rfl
 have bT:bh X h j a6 (j+1):=by rw[<-ea];exact dR
 clear ea
 have vv:∀e,P e->ab X a6 e=ab X h e:=λe H=>bT.ad e (bB e H).1
 rw[<-bT.f0 _ _ yK]at ee dy
 rw[<-bT.f0 _ _ aqZ.1]at adX
 have hS:=(Bl.ad vv).row Zd ft
 refine hm (bR kb) @ee (Za @dy (Za @adX (Za @dQ @hS))) ⟨?_⟩
 refine fS (im (F:=6) (b:=j+1+13) (Y:=0) (n:=6) (c:=V.ofList [.str [], .Z 0, .aU, .aU, .aU, .aU] 0 .nil) (bi Zo) Zo rfl Zd Zd jY) ?_
 generalize d2:bo X _ (j+1+13) _=aR
 have cd:ab X aR (j+1+13)=zs [.str g.name, .Z g.at_,cY,df,a8,eR] 6:=by rw[<-d2,bi Zo];rfl
 have bC:bh X a6 (j+1) aR (j+1+14):=by rw[<-d2];exact dR
 clear d2
 rw[<-bC.ad _ Zo]at kb
 have jb:bh X h j aR (j+1+14):=⟨Zo,λe H=>by rw[bC.ad e Zo,bT.ad e H]⟩
 have kH:∀e,P e->ab X aR e=ab X h e:=λe H=>jb.ad e (bB e H).1
 rw[<-bC.f0 _ _ Zo]at ee dy
 refine hm (bR kb) @ee (bR cd) ⟨?_⟩
 refine(LL (j:=j+1+15+12) (h:=aR) az Zo (b0.ad (bv:=P) kH (λ_ a=>a)) (λe H=>zo (bB e H).1) g.name).Zm ?_
 rintro ae a7 bd ⟨rfl,cm⟩
 have ik:=cm.le
 rw[<-cm.ad _ Zo]at kb cd
 rw[<-cm.f0 _ _ Zo]at ee dy
 have si:bh X h j a7 bd:=⟨Zo,λe H=>by rw[cm.ad e Zo,jb.ad e H]⟩
 have lz:∀e,P e->ab X a7 e=ab X h e:=λe H=>si.ad e (bB e H).1
 have tG:x5 X a7 bd b1 dh (.ptr hq 0) F cF (0,0) (λ_=>none) a7 bd:=⟨Zl _,by unfold ga at*;rw[si.ad _ yK];exact aB,gI.ad (si.ad _ xg),λ_ _ _ _=>rfl⟩
 generalize Jz:(m7 aq g.name).getD 0=Ok
 have gP:sO aq F g=if Ok<F then mf (0,0) 24 g.at_ else(0,0):=by unfold sO;rw[Jz]
 refine hm (bR kb) @ee @dy ⟨?_⟩
 refine j0 (λc8 U aV=>c8.g 1=some (.ptr j 0)/\c8.g 2=some (.ptr (j+1+13) 0)/\c8.bg=[]/\x5 X a7 bd b1 dh (.ptr hq 0) F cF (sO aq F g) (λ_=>none) U aV) (λaa bL=> ?_) ?_
 ·by_cases c4:Ok<F
  ·have aF:=zq Ok F
   rw[Zr c4]at gP
   refine d9 @aF (bR kb) (bR cd) ⟨?_⟩
   refine(wN (h:=a7) az ij tG.jP 24 g.at_).Zm ?_
   rintro ae bw db ⟨rfl,uZ,jd,gg⟩
   refine cS ⟨?_⟩
   exact bL _ _ _ ⟨bp,bp,rfl,Zo,by rw[gP];exact uZ,tG.kX.ad (gg _ (λI=>Bd I.symm)),λe T W au=>gg e W⟩
  ·have aF:=zp Ok F
   rw[Zh c4]at gP
   refine ce @aF ⟨?_⟩
   exact bL _ _ _ ⟨bp,bp,rfl,by rw[gP];exact tG⟩
 rintro M bw db ⟨t1,eF,kz,nz⟩
 have jd:=nz.le
 have ank:ab X bw j=zs [.ptr b1 0] 1:=by rw[nz.low _ Zo Zo Zo];exact kb
 have anq:ab X bw (j+1+13)=zs [.str g.name, .Z g.at_,cY,df,a8,eR] 6:=by rw[nz.low _ Zo Zo Zo];exact cd
 have la:∀e,P e->ab X bw e=ab X h e:=λe H=>by have:=bB e H;rw[nz.low e Zo this.2.1 this.2.2,lz e H]
 show aj _ _
 refine hm @t1 @eF (Za (bR ank) (bR anq)) ⟨?_⟩
 refine(alJ (j:=db) (h:=bw) az Zo ij Zo (λe H=>⟨zo (bB e H).1,(bB e H).2.1⟩) (bb.ad (bv:=P) la (λ_ a=>a)) nz.jP (Di.ad (bv:=P) la (λ_ a=>a)) trivial).Zm ?_
 rintro ae bS cj ⟨rfl,C5,il,mJ⟩
 have hx:x5 X a7 bd b1 dh (.ptr hq 0) F cF (uG (hD g) g (sO aq F g)) (λ_=>none) bS cj:=⟨Zo,C5,nz.kX.ad (mJ _ Zo (λI=>Bd I.symm)),λe T W au=>by rw[mJ e Zo W];exact nz.low e T W au⟩
 have anr:ab X bS (j+1+13)=zs [.str g.name, .Z g.at_,cY,df,a8,eR] 6:=by rw[hx.low _ Zo Zo Zo];exact cd
 have mN:=ff.wide
 have ew:=jX.len
 have h7:=jX.many
 rw[mN.1]at ew h7
 have RD:qP aq F g=(hl g).foldl (rN (g.eqs.foldl (nN (hD g) aq F) (λ_=>none,uG (hD g) g (sO aq F g))).1) (g.eqs.foldl (nN (hD g) aq F) (λ_=>none,uG (hD g) g (sO aq F g))).2:=rfl
 generalize M0:((λ_=>none,uG (hD g) g (sO aq F g)):(bq->Option Int)×(Int×Int))=ps at RD
 have aoO:x5 X a7 bd b1 dh (.ptr hq 0) F cF ps.2 ps.1 bS cj:=by rw[<-M0];exact hx
 have hc:∀w,0<=(ps.1 w).getD 0/\(ps.1 w).getD 0<=((0:Nat):Int)*1048576:=by intro w;rw[<-M0];simp
 refine hm @eF (bR anr) @ew ⟨?_⟩
 refine gX ?_
 refine fC (λm M U aV=>∃(aa:Nat),M.g 1=some (.ptr j 0)/\M.g 2=some (.ptr (j+1+13) 0)/\M.bg=[]/\M.g 49=some eR/\M.g 50=some (.Z (g.eqs.length:Int))/\M.g 51=some (.Z (aa:Int))/\aa+m=g.eqs.length
  /\x5 X a7 bd b1 dh (.ptr hq 0) F cF ((g.eqs.take aa).foldl (nN (hD g) aq F) ps).2 ((g.eqs.take aa).foldl (nN (hD g) aq F) ps).1 U aV/\(∀w,0<=(((g.eqs.take aa).foldl (nN (hD g) aq F) ps).1 w).getD 0/\(((g.eqs.take aa).foldl (nN (hD g) aq F) ps).1 w).getD 0<=(aa:Int)*1048576))
  g.eqs.length ⟨0,aQ t1,aQ eF,kz,bp,bp,fQ,Zo,aoO,hc⟩ ?_
 clear t1 eF kz
 rintro m M b4 dH ⟨aa,t1,eF,kz,rL,wc,wd,bL,jc,aaQ⟩
 have pY:=jc.le
 have anl:ab X b4 j=zs [.ptr b1 0] 1:=by rw[jc.low _ Zo Zo Zo];exact kb
 have ans:ab X b4 (j+1+13)=zs [.str g.name, .Z g.at_,cY,df,a8,eR] 6:=by rw[jc.low _ Zo Zo Zo];exact cd
 have qJ:∀e,P e->ab X b4 e=ab X h e:=λe H=>by have:=bB e H;rw[jc.low e Zo this.2.1 this.2.2,lz e H]
 cases m with
 |zero=>
  have aF:=zp aa g.eqs.length
  rw[ZB Zo]at jc
  generalize g.eqs.foldl (nN (hD g) aq F) ps=G at jc RD
  refine fW @wd @wc @eF @aF (bR ans) ⟨?_⟩
  refine(Lz az Zo).Zm ?_
  rintro ae cu e1 ⟨rfl,rfl,e7,cC,d6,fU⟩
  generalize FV:dH+1=dl at*
  have tY:∀e,P e->ab X cu e=ab X h e:=λe H=>by rw[e7.ad e (zo (bB e H).1),qJ e H]
  have Bc:ga X cu b1 (.ptr hq 0) F cF (.map dh) G.2:=by have:=jc.jP;unfold ga at*;rw[e7.ad b1 Zo];exact this
  have akI:ab X cu j=zs [.ptr b1 0] 1:=by rw[e7.ad _ Zo];exact anl
  refine gX ?_
  refine LB (P:=P) (g:=g) (cT:=cT) (dL:=dL) (et:=et) (cY:=cY) (df:=df) (a8:=a8) az (λi U aV=>rT X cu dl b1 dh (.ptr hq 0) F cF (.map dh) (((hl g).take i).foldl (rN G.1) G.2) G.1 U aV) Zo Zo Zo Zo
   (lr.ad tY) (kg.ad tY) (nD.ad tY) cC d6 fU (λi U aV a=>⟨a.le,λe H=>a.low e (zo (bB e H).1) (bB e H).2.1 (bB e H).2.2⟩)
   (λi a6 aJ aR bc a gE aL=>a.ad Zo Zo gE aL) (λU bX=>⟨Zl _,by unfold ga at*;rw[bX.ad _ Zo];exact Bc,(jc.kX.ad (e7.ad _ Zo)).ad (bX.ad _ Zo),λe H _ _=>bX.ad e H⟩) ?_ ?_
  ·intro mk i fb d d4 fd aN k0 yw anY
   rw[A0 (rN G.1) _ aN]
   generalize ((hl g).take i).foldl (rN G.1) G.2=ca at k0 ⊢
   have vb:=k0.le
   have kf:eK d=[.str d.name, .Z d.at_, .bool d.ty.b, .bool d.ty.s, .Z d.ty.w, .str d.on, .Z d.fD, .bool d.no]:=rfl
   rw[kf]
   unfold sY
   refine cS ⟨?_⟩
   generalize sk:bo X _ fd _=dM
   have mG:ab X dM fd=zs [.str d.name, .Z d.at_, .bool d.ty.b, .bool d.ty.s, .Z d.ty.w, .str d.on, .Z d.fD, .bool d.no] 8:=by rw[<-sk,bi Zo];rfl
   have hA:∀e,e<fd->ab X dM e=ab X d4 e:=λe H=>by rw[<-sk];exact zu
   clear sk
   refine⟨by rw[hA _ Zo];exact anY, ?_⟩
   generalize rq:bo X dM (dl+1) _=hj
   have ha:ab X hj (dl+1)=some (mk .busy none):=by rw[<-rq,bi Zo]
   have mo:∀e,e≠dl+1->ab X hj e=ab X dM e:=λe H=>by rw[<-rq,aG Zo H]
   clear rq
   have pR:=k0.ad (aR:=hj) (bc:=fd+1) Zo Zo Zo (λe T W=>by rw[mo e W,hA e T])
   rw[<-mo _ Zo]at mG
   have Qj:ab X hj dl=some (.deferred (some [])):=by rw[mo _ Zo,hA _ Zo];exact yw
   have ei:al X hj (.ptr j 0)=some (.ptr b1 0):=by rw[bR (show ab X hj j=_ by rw[pR.low _ Zo Zo Zo];exact akI)];rfl
   have eV:al X hj (.ptr b1 3)=some (.map dh):=by have:=pR.jP;unfold ga at this;rw[bR this];rfl
   have iJ:kJ X hj 9 (.Z 0) (.map dh) (.str d.name) false=some (.Z ((G.1 d.name).getD 0)):=by
    rw[DM pR.seen];unfold n4;cases G.1 d.name<;>rfl
   have h1:∀U aV,rT X cu dl b1 dh (.ptr hq 0) F cF (.map dh) (rN G.1 ca (fb,d)) G.1 U aV->ab X U dl=some (.deferred (some []))->(J.bool true=J.bool true/\rT X cu dl b1 dh (.ptr hq 0) F cF (.map dh) (rN G.1 ca (fb,d)) G.1 (bo X U (dl+1) (some (mk .ready none))) aV/\ab X (bo X U (dl+1) (some (mk .ready none))) dl=some (.deferred (some []))/\ab X (bo X U (dl+1) (some (mk .ready none))) (dl+1)=some (mk .ready none)):=λU aV a W=>
    ⟨rfl,a.ad Zo Zo (Zl _) (λe T W=>aG Zo W),by rw[aG Zo Zo];exact W,bi Zo⟩
   refine yv ⟨?_⟩
   refine gX ?_
   by_cases k5:fb=1
   ·have aF:decide (fb≠1)=false:=by simp[k5]
    have pV:rN G.1 ca (fb,d)=ca:=by unfold rN;rw[Zh (by simp[k5])]
    refine ce @aF ⟨?_⟩
    rw[pV]at h1 ⊢
    exact⟨⟨.busy,none,ha⟩,h1 _ _ (pR.ad Zo Zo Zo (λ_ _ _=>rfl)) Qj⟩
   ·have aF:decide (fb≠1)=true:=by simp[k5]
    by_cases cw:(G.1 d.name).getD 0=0
    ·have CJ:decide ((G.1 d.name).getD 0=0)=true:=by simp[cw]
     have pV:rN G.1 ca (fb,d)=mf ca 37 d.at_:=by unfold rN;rw[Zr ⟨k5,cw⟩]
     refine eu @aF @t1 @ei @eV (bR mG) @iJ @CJ ⟨?_⟩
     refine(wN (h:=hj) az ij pR.jP 37 d.at_).Zm ?_
     rintro ae x9 auv ⟨rfl,Q5,Rw,u9⟩
     refine cS ⟨?_⟩
     rw[pV]at h1 ⊢
     have Ja:=pR.le
     exact⟨⟨.busy,none,by rw[u9 _ Zo];exact ha⟩,h1 _ _ ⟨Zo,Q5,pR.seen.ad (u9 _ Zo),λe T W au=>by rw[u9 e W];exact pR.low e T W au⟩ (by rw[u9 _ Zo];exact Qj)⟩
    ·have CJ:decide ((G.1 d.name).getD 0=0)=false:=by simp[cw]
     have pV:rN G.1 ca (fb,d)=ca:=by unfold rN;rw[Zh (λa=>cw a.2)]
     refine eu @aF @t1 @ei @eV (bR mG) @iJ @CJ ⟨?_⟩
     rw[pV]at h1 ⊢
     exact⟨⟨.busy,none,ha⟩,h1 _ _ (pR.ad Zo Zo Zo (λ_ _ _=>rfl)) Qj⟩
  ·intro d4 fd k0 yw
   rw[YX]at k0
   have vb:=k0.le
   rw[<-RD]at k0
   show nj X [] _ _ _ _ _
   simp only[sM,rJ,kz]
   refine⟨by show(q X).ba<=dl;omega,yw, ?_⟩
   show qU _ _ _ _ _
   refine⟨rfl, ?_,Zo,λe T W au=> ?_⟩
   ·have:=k0.jP
    unfold ga at*
    rw[aG Zo Zo];exact this
   ·rw[aG Zo Zo,k0.low e Zo W au,e7.ad e Zo,jc.low e Zo W au,si.ad e T]
 |succ m=>
  have aF:=zq aa g.eqs.length
  have bH:=zt aa
  obtain⟨ao,b6⟩:=zr g.eqs aa
  obtain⟨aBo,arj,vi⟩:=ff.get aa ao b6
  have dQ:=jX.e9 aa (by rw[mN.1];omega)
  have hS:=(jX.ad qJ).row Zd arj
  obtain⟨l3,nM,azj,azk,l4,rfl,hz,lV,mM,o5⟩:=vi
  have Bm:=hz.len
  have yS:=hz.many
  have MU:=lV.len
  have are:=lV.many
  rw[show(ib ao.left).length=ao.left.length from by simp[ib]]at Bm yS
  rw[Zi]at MU are
  have dp:=A0 (nN (hD g) aq F) ps b6
  generalize ao8:(g.eqs.take aa).foldl (nN (hD g) aq F) ps=Hf at jc dp aaQ
  refine iu @wd @wc @rL @aF @dQ @hS ⟨?_⟩
  refine fS (im (F:=4) (b:=dH) (Y:=0) (n:=4) (c:=V.ofList [.aU, .aU, .Z 0, .cy] 0 .nil) (bi Zo) Zo rfl Zd Zd o5) ?_
  generalize ku:bo X _ dH _=cu
  have eQ:ab X cu dH=zs [l3,nM, .Z ao.at_,l4] 4:=by rw[<-ku,bi Zo];rfl
  have fR:∀e,e<dH->ab X cu e=ab X b4 e:=λe H=>by rw[<-ku];exact zu
  clear ku
  have oX:=jc.ad (aR:=cu) (bc:=dH+1) Zo Zo Zo (λe T=>fR e T)
  refine LS (bR eQ) @Bm ⟨?_⟩
  refine gX ?_
  refine fC (λgr M U aV=>∃(i:Nat),M.g 1=some (.ptr j 0)/\M.g 2=some (.ptr (j+1+13) 0)/\M.bg=[]/\M.g 49=some eR/\M.g 50=some (.Z (g.eqs.length:Int))/\M.g 51=some (.Z (aa:Int))/\M.g 6=some (.ptr dH 0)/\M.g 56=some l3/\M.g 57=some (.Z (ao.left.length:Int))/\M.g 58=some (.Z (i:Int))/\i+gr=ao.left.length
   /\x5 X a7 bd b1 dh (.ptr hq 0) F cF (((qK ao).take i).foldl (nb (hD g)) Hf).2 (((qK ao).take i).foldl (nb (hD g)) Hf).1 U aV/\(∀w,0<=((((qK ao).take i).foldl (nb (hD g)) Hf).1 w).getD 0/\((((qK ao).take i).foldl (nb (hD g)) Hf).1 w).getD 0<=(aa:Int)*1048576+i)
   /\dH+1<=aV/\ab X U dH=zs [l3,nM, .Z ao.at_,l4] 4)
   ao.left.length ⟨0,aQ t1,aQ eF,kz,aQ rL,aQ wc,aQ wd,bp,bp,bp,fQ,Zo,oX,λw=>by simpa using aaQ w,Zo,eQ⟩ ?_
  clear t1 eF kz rL wc wd
  rintro gr c8 d4 fd ⟨i,t1,eF,kz,rL,wc,wd,gt,pw,Am,An,aN,k0,pT,aAr,h4⟩
  have vb:=k0.le
  have γ:ab X d4 j=zs [.ptr b1 0] 1:=by rw[k0.low _ Zo Zo Zo];exact kb
  have BI:∀e,P e->ab X d4 e=ab X h e:=λe H=>by have:=bB e H;rw[k0.low e Zo this.2.1 this.2.2,lz e H]
  cases gr with
  |zero=>
   have eZ:=zp i ao.left.length
   rw[ZB (by rw[atI];omega)]at k0 pT
   refine eu @An @Am @t1 @gt @eZ (bR γ) (bR h4) ⟨?_⟩
   refine(awA (j:=fd) (h:=d4) az Zo ij Zo (λe H=>⟨zo (bB e H).1,(bB e H).2.1⟩) (bb.ad (bv:=P) BI (λ_ a=>a)) (b0.ad (bv:=P) BI (λ_ a=>a)) k0.jP (cR.ad BI _ _ mM)).Zm ?_
   rintro ae dM jf ⟨rfl,Q3,tO,qy⟩
   refine c1 @wd @bH ⟨?_⟩
   refine⟨m,Zo,aa+1,aQ t1,aQ eF,kz,aQ rL,aQ wc,bp,Zo, ?_, ?_⟩
   ·rw[dp]
    exact⟨Zo,Q3,k0.kX.ad (qy _ Zo (λI=>Bd I.symm)),λe T W au=>by rw[qy e Zo W];exact k0.low e T W au⟩
   ·rw[dp]
    intro w
    have:=pT w
    simp only[nN]
    constructor
    ·exact this.1
    ·have W:=this.2
     have au:i<=1048576:=Zo
     push_cast
     omega
  |succ gr=>
   have eZ:=zq i ao.left.length
   have cP:=zt i
   obtain⟨w,bI⟩:=zr ao.left i
   have o2:=hz.e9 i (by simp[ib];omega)
   have gW:=(hz.ad BI).cell i [.str w] 0 (.str w) (by unfold ib;rw[Zt,bI];rfl) rfl
   rw[Yh]at o2
   rw[Yh,ZT]at gW
   have Bt:=A0 (nb (hD g)) Hf (atH bI)
   generalize ao7:((qK ao).take i).foldl (nb (hD g)) Hf=oA at k0 Bt pT
   have apy:=pT w
   refine hm @An @Am (Za @pw (Za @gt (Za @eZ (Za @o2 (Za @gW (Za (bR h4) @MU)))))) ⟨?_⟩
   refine gX ?_
   refine hm @An @Am (Za @pw (Za @gt (Za @eZ (Za @o2 (Za @gW (Za (bR h4) @MU)))))) ⟨?_⟩
   refine gX ?_
   refine hm @An @Am (Za @pw (Za @gt (Za @eZ (Za @o2 (Za @gW (Za (bR h4) @MU)))))) ⟨?_⟩
   refine j0 (λr1 U aV=>r1.g 1=some (.ptr j 0)/\r1.g 2=some (.ptr (j+1+13) 0)/\r1.bg=[]/\r1.g 49=some eR/\r1.g 50=some (.Z (g.eqs.length:Int))/\r1.g 51=some (.Z (aa:Int))/\r1.g 6=some (.ptr dH 0)/\r1.g 56=some l3/\r1.g 57=some (.Z (ao.left.length:Int))/\r1.g 58=some (.Z (i:Int))/\r1.g 8=some (.str w)/\r1.g 9=some (.Z (Cz ao i))/\U=d4/\aV=fd) (λSl Bg=> ?_) ?_
   ·by_cases I7:i<ao.dm.length
    ·have iH:=zq i ao.dm.length
     obtain⟨K,aE⟩:∃K,ao.dm[i]? =some K:=⟨_,Ze I7⟩
     have FP:=lV.e9 i (by rw[Zi];exact I7)
     have aaW:=(lV.ad BI).cell i [JJ K] 0 (JJ K) (by rw[Zt,aE];rfl) rfl
     rw[Yh]at FP
     rw[Yh,ZT]at aaW
     have k3:Cz ao i=K:=by unfold Cz;rw[aE];rfl
     refine fW @iH @gt (bR h4) @FP @aaW ⟨?_⟩
     exact Bg _ _ _ ⟨aQ t1,aQ eF,kz,aQ rL,aQ wc,aQ wd,aQ gt,aQ pw,aQ Am,aQ An,bp,by refine A1 ⟨?_⟩;rw[k3];rfl,rfl,rfl⟩
    ·have iH:=zp i ao.dm.length
     have k3:Cz ao i=0:=by unfold Cz;rw[ZU Zo];rfl
     refine ce @iH ⟨?_⟩
     exact Bg _ _ _ ⟨aQ t1,aQ eF,kz,aQ rL,aQ wc,aQ wd,aQ gt,aQ pw,aQ Am,aQ An,bp,by refine A1 ⟨?_⟩;rw[k3],rfl,rfl⟩
   ·clear t1 eF kz rL wc wd gt pw Am An
    rintro r1 U aV ⟨t1,eF,kz,rL,wc,wd,gt,pw,Am,An,gA,t9,rfl,rfl⟩
    show aj _ _
    refine gl @t1 @gA @t9 (bR γ) ⟨?_⟩
    refine(atF az Zo ij xf Zo Zo Bd k0.jP (bb.ad (bv:=P) BI (λ_ a=>a)) (λe H=>⟨zo (bB e H).1,(bB e H).2.1,(bB e H).2.2⟩) k0.kX w (Cz ao i) ⟨apy.1,Zo⟩).Zm ?_
    rintro ae dM jf ⟨rfl,Q3,aoz,tO,qy⟩
    refine c1 @An @cP ⟨?_⟩
    refine⟨gr,Zo,i+1,aQ t1,aQ eF,kz,aQ rL,aQ wc,aQ wd,aQ gt,aQ pw,aQ Am,bp,Zo, ?_, ?_,Zo,by rw[qy _ Zo Zo Zo];exact h4⟩
    ·rw[Bt]
     exact⟨Zo,Q3,aoz,λe T W au=>by rw[qy e Zo W au];exact k0.low e T W au⟩
    ·rw[Bt]
     intro x
     have ah:=pT x
     simp only[nb]
     split
     ·simp only[Yy];push_cast;omega
     ·push_cast;omega
end
def auz{C:a2}{h:V an}{j r pos c:Nat}{s:bq}(Z:C.ba<=r)(a:ab C h r=some (.ox s pos))(aB:s[pos]? =some c)(T:c<128):
 w7 C iN true h j (kw (.ptr r 0))=some (.fE (.tuple [.bool true, .Z (pos:Int), .int .i32 (c:Int)]) (bo C h r (some (.ox s (pos+1)))) j):=by
 have c4:=(Zc.1 aB).1
 have bH:Nat.blt pos s.length=true:=by simp[Nat.blt];omega
 have cP:Nat.blt c 128=true:=by simp[Nat.blt];omega
 have fH:kD C r=true:=ln Z
 simp only[w7,kw,fH,e6,a,bH,pn,aB,cP,bk.setObj,hw]
 rfl
def aux{C:a2}{h:V an}{j r pos:Nat}{s:bq}(Z:C.ba<=r)(a:ab C h r=some (.ox s pos))(aB:s.length<=pos):
 w7 C iN true h j (kw (.ptr r 0))=some (.val (.tuple [.bool false])):=by
 have bH:Nat.blt pos s.length=false:=by
  cases b6:Nat.blt pos s.length with
  |false=>rfl
  |true=>simp[Nat.blt]at b6;omega
 have fH:kD C r=true:=ln Z
 simp only[w7,kw,fH,e6,a,bH,jz]
def anb{Y:Option eg}{h U:V an}{j ar:Nat}{ak:bJ}{v:J}(a:Y=some (.fE v U ar))(F:ak v U ar):Fp Y h j ak:=by subst a;exact⟨F⟩
def ana{Y:Option eg}{h:V an}{j:Nat}{ak:bJ}{v:J}(a:Y=some (.val v))(F:ak v h j):Fp Y h j ak:=by subst a;exact⟨F⟩
section
variable{X:co}{h U gw a6 aR:V an}{j ar aJ bc:Nat}
def Sj{c:Nat}(a:iZ c=true):(97<=c/\c<=122)\/(65<=c/\c<=90)\/(48<=c/\c<=57)\/c=95:=by
 simp[iZ,qG,iK]at a
 omega
def auS(az:dx X){c:Nat}(aB:iZ c=true):aW X 185 [.int .i32 (c:Int)] h j (λae U ar=>ae= .bool false/\U=h/\j<=ar) (λ_ _ _=>False):=by
 refine zv az (ahB X) ?_
 rw[ahC]
 unfold Ve
 rcases Sj aB with a|a|a|a
 ·have c3:decide ((c:Int)<97)=false:=by simp only[Zb];omega
  have cQ:decide ((122:Int)<(c:Int))=false:=by simp only[Zb];omega
  refine c1 @c3 @cQ ⟨?_⟩
  exact⟨rfl,rfl,Zo⟩
 ·have c3:decide ((c:Int)<97)=true:=by simp only[Zg];omega
  have cQ:decide ((c:Int)<65)=false:=by simp only[Zb];omega
  have eZ:decide ((90:Int)<(c:Int))=false:=by simp only[Zb];omega
  refine d9 @c3 @cQ @eZ ⟨?_⟩
  exact⟨rfl,rfl,Zo⟩
 ·have c3:decide ((c:Int)<97)=true:=by simp only[Zg];omega
  have cQ:decide ((c:Int)<65)=true:=by simp only[Zg];omega
  have eZ:decide ((c:Int)<48)=false:=by simp only[Zb];omega
  have iH:decide ((57:Int)<(c:Int))=false:=by simp only[Zb];omega
  refine gl @c3 @cQ @eZ @iH ⟨?_⟩
  exact⟨rfl,rfl,Zo⟩
 ·have c3:decide ((c:Int)<97)=true:=by simp only[Zg];omega
  have cQ:decide ((c:Int)<65)=false:=by simp only[Zb];omega
  have eZ:decide ((90:Int)<(c:Int))=true:=by simp only[Zg];omega
  have iH:decide ((c:Int)<48)=false:=by simp only[Zb];omega
  have gc:decide ((57:Int)<(c:Int))=true:=by simp only[Zg];omega
  have h3:decide ((c:Int)≠95)=false:=by simp only[Zb,ne_eq,Decidable.not_not];omega
  refine iu @c3 @cQ @eZ @iH @gc @h3 ⟨?_⟩
  exact⟨rfl,rfl,Zo⟩
def awE{C:a2}{s:bq}{ak:bJ}(F:ak (.ptr j 0) (bo C h j (some (.ox s 0))) (j+1)):gR (Tp C h j (.str s)) h j ak:=ky (by simp only[Tp,nd,mg,hw]) F
def akY:dc X h .eql 4 false (.bool false) (.bool true)=some (.bool false):=Zk
def asw(az:dx X){s:bq}(aI:∀c∈s,iZ c=true)(aM:(q X).ba<=j):
 aW X 186 [.str s, .func (.func 185) [] []] h j (λae U ar=>ae= .Z (-1)/\bh X h j U ar) (λ_ _ _=>False):=by
 refine zv az (ahD X) ?_
 rw[ahE]
 unfold Vf
 refine zv az (ain X) ?_
 rw[aio]
 unfold VB
 refine awE ?_
 generalize ea:bo X h j _=a6
 have b5:ab X a6 j=some (.ox s 0):=by rw[<-ea,bi aM]
 have bT:bh X h j a6 (j+1):=by rw[<-ea];exact dR
 clear ea
 refine cS ⟨?_⟩
 refine fC (λm M U aV=>∃(aa:Nat),M.g 1=some (.func (.func 185) [] [])/\M.g 2=some (.bool true)/\M.g 10=some (.ptr j 0)/\aa+m=s.length/\ab X U j=some (.ox s aa)/\bh X h j U aV/\j+1<=aV)
  s.length ⟨0,bp,bp,bp,Zo,b5,bT,Zo⟩ ?_
 rintro m M aR bc ⟨aa,t1,eF,nP,bL,cd,bC,k6⟩
 cases m with
 |zero=>
  refine ce @nP ⟨?_⟩
  refine ana (aux aM cd Zo) ?_
  refine cS ⟨?_⟩
  exact⟨rfl,bC⟩
 |succ m=>
  obtain⟨c,aB⟩:=zr s aa
  have bs:=aI c (Zn aB)
  have aon:c<128:=zo (Sj bs)
  refine ce @nP ⟨?_⟩
  refine anb (auz aM cd aB aon) ?_
  refine ce @t1 ⟨?_⟩
  generalize fl:bo X aR j _=a7
  have c0:ab X a7 j=some (.ox s (aa+1)):=by rw[<-fl,bi aM]
  have cm:bh X h j a7 bc:=⟨bC.le,λe H=>by rw[<-fl,aG aM Zo];exact bC.ad e H⟩
  clear fl
  refine(auS az bs).Zm ?_
  rintro ae bw db ⟨rfl,rfl,jd⟩
  refine c1 @eF @akY ⟨?_⟩
  refine⟨m,Zo,aa+1,aQ t1,aQ eF,aQ nP,Zo,c0,⟨zo cm.le,cm.ad⟩,Zo⟩
end
def aez:List bq:=[[110,111,100,101],[114,101,116,117,114,110,115],[118,97,114],[108,101,116],[116,101,108],[119,104,101,110],[110,111,116],[111,114],[120,111,114],[97,110,100],[112,114,101],[102,98,121],[105,102],[116,104,101,110],[101,108,115,101],[109,101,114,103,101],[116,114,117,101],[102,97,108,115,101]]
def awo:∀w∈aez,w∈vV:=by decide
structure rW(X:co):Prop where
 ba:2<X.ba
 at_:∀h,∃b a8,al X h (.ptr 2 0)=some a8/\d1 X h (λe=>e<X.ba) b a8 1 (ib aez)
section
variable{X:co}{h U gw a6 aR:V an}{j ar aJ bc:Nat}{s:bq}
def amt:dc X h .eql 238 true .nilIface .nilIface=some (.bool true):=Zk
def amu(b:Nat):dc X h .eql 238 true (.iface 283 (.ptr b 0)) .nilIface=some (.bool false):=Zk
def aly(az:dx X){b:Nat}{a8:J}{P:Nat->Prop}{mX:List bq}(Z:d1 X h P b a8 1 (ib mX))(aI:s∉mX):
 aW X 187 [a8, .str s] h j (λae U ar=>ae= .bool false/\bh X h j U ar) (λ_ _ _=>False):=by
 refine zv az (ahF X) ?_
 rw[ahG]
 unfold Vg
 refine aW.mono (ak:=λae U ar=>ae= .Z (-1)/\bh X h j U ar) (ay:=λ_ _ _=>False) ?_ ?_ (λ_ _ _ a=>a.elim)
 ·refine zv az (aip X) ?_
  rw[aiq]
  unfold VC
  have ew:=Z.len
  have h7:=Z.many
  rw[show(ib mX).length=mX.length from by simp[ib]]at ew h7
  refine ce @ew ⟨?_⟩
  refine fC (λm M U aV=>∃(aa:Nat),M.g 0=some a8/\M.g 1=some (.str s)/\M.g 7=some (.Z (mX.length:Int))/\M.g 8=some (.Z (aa:Int))/\aa+m=mX.length/\U=h/\aV=j)
   mX.length ⟨0,bp,bp,bp,fQ,Zo,rfl,rfl⟩ ?_
  rintro m M aR bc ⟨aa,t0,t1,fo,gA,bL,rfl,rfl⟩
  cases m with
  |zero=>
   have d:=zp aa mX.length
   refine d9 @gA @fo @d ⟨?_⟩
   exact⟨rfl,bh.refl _ _⟩
  |succ m=>
   have d:=zq aa mX.length
   have bH:=zt aa
   obtain⟨w,bI⟩:=zr mX aa
   have dQ:=Z.e9 aa (by simp[ib];omega)
   have gW:=Z.cell aa [.str w] 0 (.str w) (by unfold ib;rw[Zt,bI];rfl) rfl
   rw[Yh]at dQ
   rw[Yh,ZT]at gW
   have dT:s≠w:=λI=>aI (by rw[I];exact Zn bI)
   have cQ:decide (s=w)=false:=by simp[dT]
   refine eu @gA @fo @t1 @t0 @d @dQ (Za @gW (Za @cQ @bH)) ⟨?_⟩
   exact⟨m,Zo,aa+1,aQ t0,aQ t1,aQ fo,bp,Zo,rfl,rfl⟩
 ·rintro ae a6 aJ ⟨rfl,bX⟩
  refine cS ⟨?_⟩
  exact⟨rfl,bX⟩
def afd(az:dx X)(t:dJ)(aM:(q X).ba<=j):aW X 128 [.agg (dn t)] h j (λae U ar=>ae= .str (nk t)/\bh X h j U ar) (λ_ _ _=>False):=by
 refine zv az (agx X) ?_
 rw[agy]
 unfold UA
 have bb:dn t=[.bool t.b, .bool t.s, .Z t.w]:=rfl
 rw[bb]
 refine cS ⟨?_⟩
 refine fk (λa6=>ab X a6 j=zs [.bool t.b, .bool t.s, .Z t.w] 3/\bh X h j a6 (j+1)) ⟨bi aM,dR⟩ ?_
 rintro a6 ⟨b5,bT⟩
 refine(DP az t Zo).Zm ?_
 rintro ae aR bc ⟨rfl,bC⟩
 have f5:=bC.le
 have bX:=bT.trans bC
 have cd:ab X aR j=zs [.bool t.b, .bool t.s, .Z t.w] 3:=by rw[bC.ad _ Zo];exact b5
 have ee:al X aR (.ptr j 0)=some (.bool t.b):=by rw[bR cd];rfl
 have dy:al X aR (.ptr j 1)=some (.bool t.s):=by rw[bR cd];rfl
 have dZ:al X aR (.ptr j 2)=some (.Z t.w):=by rw[bR cd];rfl
 cases bs:kL t with
 |false=>
  refine cS ⟨?_⟩
  exact⟨by simp[nk,bs],bX⟩
 |true=>
  cases lY:t.b with
  |true=>
   rw[lY]at ee
   refine ce @ee ⟨?_⟩
   exact⟨by simp[nk,bs,lY],bX⟩
  |false=>
   rw[lY]at ee
   have bI:1<=t.w/\t.w<=64:=by simpa[kL,lY]using bs
   obtain⟨w,y1⟩:=Yl (by omega:0<=t.w)
   rw[y1]at dZ
   have aN:jr t.w.toNat=jr w:=by rw[y1];rfl
   have fL:(jr w).length<=2:=by unfold jr;split<;>simp
   have tl:∀h c,dc X h .add 9 true (.str [c]) (.str (jr w))=some (.str (c::jr w)):=λh c=>by
    have:Nat.ble ([c].length+(jr w).length) 1000000000=true:=ln (by simp;omega)
    simp only[dc,AK,this,e6];rfl
   cases kj:t.s with
   |true=>
    rw[kj]at dy
    refine d9 @ee @dy @dZ ⟨?_⟩
    refine(Nf az Zo).Zm ?_
    rintro ae a7 bd ⟨rfl,rfl,rfl⟩
    refine ce @tl ⟨?_⟩
    exact⟨by simp[nk,bs,lY,kj,aN],bX⟩
   |false=>
    rw[kj]at dy
    refine d9 @ee @dy @dZ ⟨?_⟩
    refine(Nf az Zo).Zm ?_
    rintro ae a7 bd ⟨rfl,rfl,rfl⟩
    refine ce @tl ⟨?_⟩
    exact⟨by simp[nk,bs,lY,kj,aN],bX⟩
def asB{c:Nat}(a:iZ c=true):c<256:=zo (Sj a)
def aym(az:iS X)(bX:ma X)(aI:EE s)(aM:(q X).ba<=j):
 aW X 188 [.str s] h j (λae U ar=>ae= .bool false/\bh X h j U ar) (λ_ _ _=>False):=by
 refine zv az.todx (ahH X) ?_
 rw[ahI]
 unfold Vh
 cases s with
 |nil=>exact absurd rfl aI.ne
 |cons c l=>
  cases l with
  |nil=>
   have m4:decide (((1:Nat):Int)<2)=true:=rfl
   refine ce @m4 ⟨?_⟩
   exact⟨rfl,dR⟩
  |cons dZ l=>
   have c3:decide ((((dZ::l).length+1:Nat):Int)<2)=false:=by simp only[Zb,ZC];omega
   have jq:kn (.str (c::dZ::l)) (some (.Z 1)) none=some (.str (dZ::l)):=N9 (l:=1) .i64 Zs
   have dQ:ly (.str (c::dZ::l)) (.Z 0)=some (.int .u8 (c:Int)):=BE (i:=0) .i64 rfl
   have ew:l1 (.str (c::dZ::l))=some (.Z ((c::dZ::l).length:Int)):=sL _
   have k2:=aI.all
   have fL:=aI.len
   have xb:c::dZ::l≠[98,111,111,108]:=λI=>by have:=aI.ty;rw[I]at this;cases this
   have cQ:decide (c::dZ::l=[98,111,111,108])=false:=by simp only[Zb];exact xb
   have rx:=aI.ty
   generalize mK:dZ::l=m at*
   have gc:decide ((c:Int)=105)=decide (c=105):=by simp;omega
   refine fS ew ?_
   refine c1 @c3 @jq ⟨?_⟩
   refine(WS az bX (by simp at fL;omega) (λx ah=>asB (k2 x (Zu _ ah))) (adL (λx ah=>k2 x (Zu _ ah))) Zo).Zm ?_
   rintro ae aR bc ⟨⟨bu,I,rfl,bA,ah⟩,bC⟩
   have f5:=bC.le
   rcases bA with rfl|⟨b,rfl⟩
   ·refine gl @cQ @amt @dQ @gc ⟨?_⟩
    refine(afd (j:=bc) (h:=aR) az.todx ⟨false,decide (c=105),bu⟩ Zo).Zm ?_
    rintro ae a7 bd ⟨rfl,cm⟩
    have aF:decide (c::m=nk ⟨false,decide (c=105),bu⟩)=false:=by
     simp only[Zb]
     intro a
     cases bs:kL ⟨false,decide (c=105),bu⟩with
     |false=>simp[nk,bs]at a
     |true=>
      have cw:1<=bu/\bu<=64:=by simpa[kL]using bs
      obtain⟨n,rfl⟩:=Yl (by omega:0<=bu)
      simp only[nk,bs,ZD,Zx,ZA]at a
      have T:=(List.cons.inj a).1
      have W:=(List.cons.inj a).2
      have Q6:c=105\/c=117:=by
       by_cases aB:c=105
       ·exact .inl aB
       ·simp[aB]at T;exact .inr T
      exact afc rx Q6 (n:=n) Zo Zo (by simpa using W.symm)
    refine ce @aF ⟨?_⟩
    exact⟨rfl,bC.trans cm⟩
   ·refine c1 @cQ @amu ⟨?_⟩
    exact⟨rfl,bC⟩
def J5(az:iS X)(bX:ma X)(e3:rW X)(aI:EE s)(aM:(q X).ba<=j):
 aW X 140 [.str s] h j (λae U ar=>ae= .bool true/\bh X h j U ar) (λ_ _ _=>False):=by
 refine zv az.todx (agN X) ?_
 rw[agO]
 unfold UK
 have dT:=aI.ne
 have c3:decide (s=[])=false:=by simp[dT]
 have fL:=aI.len
 have cQ:decide ((32:Int)<(s.length:Int))=false:=by simp only[Zb];omega
 obtain⟨c,aB⟩:∃c,s.head?=some c:=by cases s with|nil=>exact absurd rfl dT|cons c l=>exact⟨c,rfl⟩
 have yH:=aI.akQ c aB
 have dQ:ly (.str s) (.Z 0)=some (.int .u8 (c:Int)):=BE (i:=0) .i64 (by rw[<-List.head?_eq_getElem?];exact aB)
 have FI:65<=c:=by simp[qG]at yH;omega
 have eZ:decide ((48:Int)<=(c:Int))=true:=by simp only[Zg];omega
 have iH:decide ((c:Int)<=57)=false:=by simp only[Zb];omega
 refine fW @c3 @cQ @dQ @eZ @iH ⟨?_⟩
 refine(asw az.todx aI.all aM).Zm ?_
 rintro ae a6 aJ ⟨rfl,bT⟩
 have jF:=bT.le
 obtain⟨b,a8,jq,cG⟩:=e3.at_ a6
 have rh:decide ((0:Int)<= -1)=false:=rfl
 refine c1 @jq @rh ⟨?_⟩
 refine(aly (j:=aJ) az.todx cG (λa=>aI.res (awo _ a))).Zm ?_
 rintro ae aR bc ⟨rfl,bC⟩
 have f5:=bC.le
 refine cS ⟨?_⟩
 refine(aym (j:=bc) (h:=aR) az bX aI Zo).Zm ?_
 rintro ae a7 bd ⟨rfl,cm⟩
 refine cS ⟨?_⟩
 exact⟨rfl,(bT.trans bC).trans cm⟩
end
section
variable{X:co}{h U gw a6 aR:V an}{j ar aJ bc:Nat}{s:bq}
def Ud:List J:=[.str [], .Z 0, .bool false, .bool false, .Z 0, .str [], .Z 0, .bool false]
def an8(n:Nat):FH X h j .append [34,3] [.aU, .Z (n:Int)]=bV (Nat.ble n 1048576) (bV (Nat.beq n 0) (some (.val .aU)) (tz X h j n 8 (kP n Ud))) none:=Zk
def Ed(n:Nat)(l:List J):(kP n l).length=n*l.length:=by
 induction n with
 |zero=>simp[kP]
 |succ n am=>simp[kP,am,Ya];omega
def alc:r7 X h .cap [34] [.aU]=some (.Z 0):=Zk
def axi:s1 X h 8 .aU none (some (.Z 0)) none=some .aU:=by rfl
def axk{dl n m:Nat}{c:V J}(a:ab X h dl=some (.cells c m (.grow []))):s1 X h 8 (.fm dl 0 n 8) none (some (.Z 0)) none=some (.fm dl 0 0 8):=by
 have bH:pg (some (.Z 0)) (m/8) n=some 0:=by simp[pg,auu]
 have cP:∀K b:Nat,pg none K b=some b:=λK b=>rfl
 have fH:xP X h dl=some m:=by simp[xP,a]
 have jR:Nat.blt 0 8=true:=rfl
 simp only[s1,fH,mb,za,cP,bH]
 simp[jR]
def aev{C:a2}{P:Nat->Prop}{b br:Nat}{a8:J}{bF:List (List J)}(a:d1 C h P b a8 br bF)(cw:0<br):lh C h br a8=some (bF.length,bF.flatten):=by
 have I5:=wW a.wide
 have key:∀dN Y n:Nat,n=bF.length->(∀i,i<bF.length->some (J.ptr dN (Y+i*br))=some (.ptr b (i*br)))->m3 C h dN Y (n*br)=some bF.flatten:=by
  intro dN Y n aM aN
  subst aM
  by_cases ch:bF.length=0
  ·have:bF=[]:=Yc ch
   subst this
   simp only[m3]
   cases aB:cellsOf C h dN with
   |none=>simp
   |some c=>simp[π]
  ·have T:=aN 0 Zo
   simp at T
   obtain⟨rfl,rfl⟩:=T
   obtain⟨r,Z⟩:=zr bF 0
   have Dq:=a.wide r (Zn Z)
   obtain⟨v,bD⟩:=zr r 0
   have sn:=a.cell 0 r 0 v Z bD
   simp only[zk,ZT]at sn
   have C6:∃c,cellsOf C h dN=some c:=by
    simp only[al]at sn
    cases aB:cellsOf C h dN with
    |none=>rw[aB]at sn;cases sn
    |some c=>exact⟨c,rfl⟩
   obtain⟨c,aB⟩:=C6
   simp only[m3,aB]
   rw[<-I5]
   refine ξ _ _ λaa v bL=> ?_
   have u7:=(Zc.1 bL).1
   rw[I5]at u7
   have b6:aa/br<bF.length:=Nat.div_lt_of_lt_mul (by rw[zn];exact u7)
   obtain⟨hW,mn⟩:∃r,bF[aa/br]? =some r:=⟨_,Ze b6⟩
   have aAF:=a.wide hW (Zn mn)
   have bs:aa%br<br:=Nat.mod_lt _ cw
   obtain⟨g7,qD⟩:∃v,hW[aa%br]? =some v:=⟨_,Ze Zo⟩
   have W:=a.cell (aa/br) hW (aa%br) g7 mn qD
   have au:=P6 bF a.wide (aa/br) hW (aa%br) g7 mn qD
   have aP:aa/br*br+aa%br=aa:=by rw[zn];exact Nat.div_add_mod aa br
   rw[aP]at W au
   rw[bL]at au
   cases au
   simp only[al,aB]at W
   rw[ZP]
   exact W
 have aD:=a.len
 cases a8 with
 |slice dN Y n cap=>
  have aM:n=bF.length:=by rw[ph]at aD;simp at aD;omega
  have aN:∀i,i<bF.length->some (J.ptr dN (Y+i*br))=some (.ptr b (i*br)):=λi aN=>by
   have:=a.e9 i aN
   rw[<-this]
   have I:Nat.blt i n=true:=by simp[Nat.blt];omega
   simp only[dd,qO,Ck,I,e6]
  have aL:=key dN Y n aM aN
  subst aM
  simp only[lh,aL]
 |fm dN Y n xR=>
  have aM:n=bF.length:=by rw[qL]at aD;simp at aD;omega
  have aN:∀i,i<bF.length->some (J.ptr dN (Y+i*br))=some (.ptr b (i*br)):=λi aN=>by
   have:=a.e9 i aN
   rw[<-this]
   have I:Nat.blt i n=true:=by simp[Nat.blt];omega
   simp only[dd,qO,Ck,I,e6]
  have aL:=key dN Y n aM aN
  subst aM
  simp only[lh,aL]
 |aU=>
  have aM:(0:Int)=bF.length:=by rw[sK]at aD;simpa using aD
  have:bF=[]:=Yc Zo
  subst this
  rfl
 |_=>simp[dI]at aD
def awF{dl n r m:Nat}{c:V J}{x:J}{l:List J}{ak:bJ}(ai:ab X h dl=some (.cells c (m*8) (.grow [])))(aO:(q X).ba<=dl)(ah:lh X h 8 x=some (r,l))(aD:l.length=r*8)(Z:n+r<=m)(T:Go.bk.jI l=true)
 (F:∀U f9,ab X U dl=some (.cells f9 (m*8) (.grow []))->(∀i,f9.get i=if n*8<=i/\i<n*8+l.length then l[i-n*8]? else c.get i)->(∀e,e≠dl->ab X U e=ab X h e)->ak (.fm dl 0 (n+r) 8) U j):
 gR (is X h j 8 (.fm dl 0 n 8) x) h j ak:=by
 by_cases ch:r=0
 ·subst ch
  have:l=[]:=Yc Zo
  subst this
  have bH:is X h j 8 (.fm dl 0 n 8) x=some (.val (.fm dl 0 n 8)):=by
   simp only[is,ah]
   simp[ER,xP,ai]
   omega
  refine aey bH ?_
  exact F h c ai (λi=>by rw[Zh Zs]) (λ_ _=>rfl)
 ·have cP:Nat.ble ((n+r)*8) (m*8)=true:=ln Zo
  have fH:Nat.ble (n*8+l.length) (m*8)=true:=ln Zo
  have H8:Nat.beq 8 8=true:=rfl
  have jR:kD X dl=true:=ln aO
  have pN:is X h j 8 (.fm dl 0 n 8) x=some (.fE (.fm dl 0 (n+r) 8) (Go.bk.bo X h dl (some (.cells (d3 c (n*8) l) (m*8) (.grow [])))) j):=by
   simp only[is,ah]
   rw[hO,Zh ch]
   simp only[yd,HN,ai,jR,H8,e6,cP,wJ,fH,T,Yd,hw,p4,ZP]
  refine ky pN ?_
  refine F _ _ (bi aO) (λi=> ?_) (λe H=>aG aO H)
  rw[kA]
def axa(az:dx X){n:Nat}(ch:0<n)(T:n<=300000)(aM:(q X).ba<=j):
 aW X 189 [.aU, .Z (n:Int)] h j (λae U ar=>ae= .fm j 0 0 8/\(∃c,ab X U j=some (.cells c (n*8) (.grow [])))/\bh X h j U ar/\j<ar) (λ_ _ _=>False):=by
 refine zv az (ahJ X) ?_
 rw[ahK]
 unfold Vi
 have c3:decide ((n:Int)<0)=false:=by simp only[Zb];omega
 have cQ:decide ((0:Int)<(n:Int))=true:=by simp only[Zg];omega
 have bH:aC .sub (.Z 0) (.Z 0)=some (.Z 0):=BA Zo Zo
 have cP:aC .sub (.Z (n:Int)) (.Z 0)=some (.Z (n:Int)):=by rw[BA Zo Zo];simp
 have fH:FH X h j .append [34,3] [.aU, .Z (n:Int)]=some (.fE (.fm j 0 n 8) (bo X h j (some (.cells (V.ofList (kP n Ud) 0 .nil) (n*8) (.grow [])))) (j+1)):=by
  rw[an8,ln Zo,e6,hO,Zh Zo]
  simp only[tz,ln (show n<=1048576 by omega),e6,nd,mg,hw,Ed]
  rfl
 refine iu @c3 @alc @bH @cP @cQ @axi ⟨?_⟩
 refine ky fH ?_
 generalize ea:bo X h j _=a6
 have b5:ab X a6 j=some (.cells (V.ofList (kP n Ud) 0 .nil) (n*8) (.grow [])):=by rw[<-ea,bi aM]
 have bT:bh X h j a6 (j+1):=by rw[<-ea];exact dR
 clear ea
 have jR:=axk (n:=n) b5
 refine ce @jR ⟨?_⟩
 exact⟨rfl,⟨_,b5⟩,bT,Zo⟩
def AP(l:List (List fq)):Nat:=(l.map List.length).sum
def alt(az:dx X){P:Nat->Prop}{oN cT dL et:Nat}{cY df a8:J}{A bm af:List fq}(aM:(q X).ba<=j)(yG:oN<j)(aE:ab X h oN=zs [cY,df,a8] 3)
 (T:d1 X h P cT cY 8 (A.map eK))(W:d1 X h P dL df 8 (bm.map eK))(au:d1 X h P et a8 8 (af.map eK))(bB:∀e,P e->e<j)(ch:0<A.length+bm.length+af.length)(bs:A.length+bm.length+af.length<=300000):
 aW X 142 [.slice oN 0 3 3] h j (λae U ar=>∃b,d1 X U (cW j ar) b ae 8 ((A++(bm++af)).map eK)/\bh X h j U ar) (λ_ _ _=>False):=by
 refine zv az (agR X) ?_
 rw[agS]
 unfold UM
 have Br:∀aa,aa<3->∃s b L,[cY,df,a8][aa]? =some s/\d1 X h P b s 8 (L.map eK)/\([A,bm,af]:List (List fq))[aa]? =some L/\L.length<=300000:=by
  intro aa bL
  match aa,bL with
  |0,_=>exact⟨cY,cT,A,rfl,T,rfl,Zo⟩
  |1,_=>exact⟨df,dL,bm,rfl,W,rfl,Zo⟩
  |2,_=>exact⟨a8,et,af,rfl,au,rfl,Zo⟩
 have sn:∀U aa s,ab X U oN=zs [cY,df,a8] 3->[cY,df,a8][aa]? =some s->al X U (.ptr oN aa)=some s:=λU aa s a aI=>by rw[bR a,kM];exact aI
 obtain⟨lp,xe⟩:∃lp:Nat->Nat,∀aa,lp aa=AP (([A,bm,af]:List (List fq)).take aa):=⟨_,λ_=>rfl⟩
 obtain⟨qm,qx⟩:∃qm:Nat->List fq,∀aa,qm aa=(([A,bm,af]:List (List fq)).take aa).flatten:=⟨_,λ_=>rfl⟩
 have abd:∀aa L,([A,bm,af]:List (List fq))[aa]? =some L->qm (aa+1)=qm aa++L:=by
  intro aa L a
  rw[qx,qx,Z0,a];simp
 have IU:∀aa,lp aa=(qm aa).length:=λaa=>by rw[xe,qx];unfold AP;rw[List.length_flatten]
 have dp:∀aa L,([A,bm,af]:List (List fq))[aa]? =some L->lp (aa+1)=lp aa+L.length:=by
  intro aa L a
  rw[IU,IU,abd aa L a,ZO]
 have gE:∀aa,lp aa<=A.length+bm.length+af.length:=by
  intro aa
  rw[xe]
  match aa with
  |0=>simp[AP]
  |1=>simp[AP];omega
  |2=>simp[AP]
  |n+3=>simp[AP];omega
 have aag:lp 3=A.length+bm.length+af.length:=by rw[xe];simp[AP];omega
 have CV:lp 0=0:=by rw[xe];simp[AP]
 have amM:qm 0=[]:=by rw[qx];rfl
 refine cS ⟨?_⟩
 refine fC (λm M U aV=>∃(aa:Nat),M.g 0=some (.slice oN 0 3 3)/\M.g 9=some (.slice oN 0 3 3)/\M.g 10=some (.Z 3)/\M.g 11=some (.Z (aa:Int))/\M.g 3=some (.Z (lp aa:Nat))/\aa+m=3/\U=h/\aV=j)
  3 ⟨0,bp,bp,fQ,fQ,by refine A1 ⟨?_⟩;rw[CV];rfl,Zo,rfl,rfl⟩ ?_
 rintro m M a6 aJ ⟨aa,t0,t9,nP,oy,t3,bL,rfl,rfl⟩
 cases m with
 |succ m=>
  have d:decide ((aa:Int)<3)=true:=by simp only[Zg];omega
  have bH:=zt aa
  obtain⟨s,b,L,aI,cG,gn,aoS⟩:=Br aa Zo
  have De:=gE aa
  have dQ:dd 1 (.slice oN 0 3 3) (.Z (aa:Int))=some (.ptr oN aa):=by rw[Gk _ Zo];simp
  have aB:=sn _ aa s aE aI
  have ew:=cG.len
  rw[Zi]at ew
  have cP:aC .add (.Z ((lp aa:Nat):Int)) (.Z (L.length:Int))=some (.Z ((lp (aa+1):Nat):Int)):=by
   rw[dp aa L gn,eL Zo Zo];simp
  have cQ:decide (((lp (aa+1):Nat):Int)<0)=false:=by simp only[Zb];omega
  refine eu @oy @nP @t9 @t3 @d @dQ (Za @aB (Za @ew (Za @cP (Za @cQ @bH)))) ⟨?_⟩
  exact⟨m,Zo,aa+1,aQ t0,aQ t9,aQ nP,bp,bp,Zo,rfl,rfl⟩
 |zero=>
  have d:decide ((aa:Int)<3)=false:=by simp only[Zb];omega
  have MD:aa=3:=Zo
  subst MD
  rw[aag]at t3
  refine gl @oy @nP @t3 @d ⟨?_⟩
  refine(axa az ch bs aM).Zm ?_
  rintro ae aR bc ⟨rfl,⟨dZ,cd⟩,bC,k6⟩
  generalize n9:A.length+bm.length+af.length=dw at*
  refine ce @t0 ⟨?_⟩
  refine fC (λm M U aV=>∃(aa:Nat) (c:V J),M.g 25=some (.slice oN 0 3 3)/\M.g 26=some (.Z 3)/\M.g 27=some (.Z (aa:Int))/\M.g 6=some (.fm aJ 0 (lp aa) 8)/\aa+m=3/\aJ<aV/\bh X a6 aJ U aV
   /\ab X U aJ=some (.cells c (dw*8) (.grow []))/\∀(i:Nat) v,((qm aa).map eK).flatten[i]? =some v->c.get i=some v)
   3 ⟨0,dZ,bp,fQ,fQ,by refine A1 ⟨?_⟩;rw[CV],Zo,k6,bC,cd,λi v a=>by rw[amM]at a;simp at a⟩ ?_
  clear t0 t9 nP oy t3
  rintro m M a7 bd ⟨aa,hk,mz,lj,wb,gt,bL,yP,cm,c0,xd⟩
  have I5:∀L:List fq,((L.map eK).flatten).length=L.length*8:=λL=>by
   have:=wW (bF:=L.map eK) (br:=8) (by intro r Z;obtain⟨d,_,rfl⟩:=ZJ.1 Z;rfl)
   rw[this,Zi]
  cases m with
  |zero=>
   have d:decide ((aa:Int)<3)=false:=by simp only[Zb];omega
   have MD:aa=3:=Zo
   subst MD
   rw[aag]at gt
   refine gl @wb @lj @gt @d ⟨?_⟩
   have k2:qm 3=A++(bm++af):=by rw[qx];simp
   rw[k2]at xd
   have fL:(A++(bm++af)).length=dw:=by simp;omega
   refine⟨aJ,⟨λ_=>⟨Zo,Zo⟩,by rw[Zi,fL];omega,by intro r Z;obtain⟨d,_,rfl⟩:=ZJ.1 Z;rfl,by rw[qL,Zi,fL],λi aN=>by rw[Gl _ (by rw[Zi,fL]at aN;omega),ZP],λi r Sl v aN Bg=> ?_⟩,cm⟩
   rw[bR c0]
   exact xd _ _ (P6 _ (by intro r Z;obtain⟨d,_,rfl⟩:=ZJ.1 Z;rfl) i r Sl v aN Bg)
  |succ m=>
   have d:decide ((aa:Int)<3)=true:=by simp only[Zg];omega
   have bH:=zt aa
   obtain⟨s,b,L,aI,cG,gn,aoS⟩:=Br aa Zo
   have dQ:dd 1 (.slice oN 0 3 3) (.Z (aa:Int))=some (.ptr oN aa):=by rw[Gk _ Zo];simp
   have ape:ab X a7 oN=zs [cY,df,a8] 3:=by rw[cm.ad _ yG];exact aE
   have aB:=sn _ aa s ape aI
   have ki:=aev (cG.ad (U:=a7) (λe H=>cm.ad e (bB e H))) Zd
   rw[Zi]at ki
   have T:=dp aa L gn
   have W:=gE (aa+1)
   refine eu @wb @lj @mz @gt @d @dQ @aB ⟨?_⟩
   refine awF c0 Zo ki (I5 L) Zo ?_ ?_
   ·clear ki
    have:∀dw:List fq,Go.bk.jI (dw.map eK).flatten=true:=by
     intro dw
     induction dw with
     |nil=>rfl
     |cons d dw am=>simpa[eK,Go.bk.jI,p7]using am
    exact this L
   ·intro bw yj el uZ gg
    refine c1 @wb @bH ⟨?_⟩
    refine⟨m,Zo,aa+1,yj,aQ mz,aQ lj,bp,by refine A1 ⟨?_⟩;rw[T],Zo,yP,⟨cm.le,λe H=>by rw[gg e Zo];exact cm.ad e H⟩,el,λi v aN=> ?_⟩
    rw[abd aa L gn]at aN
    simp only[zc,Yw]at aN
    have sy:(((qm aa).map eK).flatten).length=lp aa*8:=by
     rw[I5,IU]
    rw[uZ]
    by_cases c4:i<lp aa*8
    ·rw[Zh Zo]
     rw[Z4 Zo]at aN
     exact xd i v aN
    ·rw[ZW Zo,sy]at aN
     have:=(Zc.1 aN).1
     rw[Zr ⟨Zo,Zo⟩]
     exact aN
end
section
variable{X:co}{h U gw a6 aR:V an}{j ar aJ bc:Nat}{s:bq}
def awX{t:dJ}(a:kL t=true):nk t≠[]:=by
 unfold nk
 rw[Zr a]
 split<;>simp
def alG(az:iS X)(bX:ma X)(e3:rW X){P:Nat->Prop}{b:Nat}{a8:J}{ds:List fq}(aM:(q X).ba<=j)(cG:d1 X h P b a8 8 (ds.map eK))(bB:∀e,P e->e<j)(bI:∀d∈ds,pC kr d):
 aW X 141 [a8] h j (λae U ar=>ae= .bool true/\bh X h j U ar) (λ_ _ _=>False):=by
 refine zv az.todx (agP X) ?_
 rw[agQ]
 unfold UL
 have ew:=cG.len
 have h7:=cG.many
 rw[Zi]at ew h7
 refine ce @ew ⟨?_⟩
 refine fC (λm M U aV=>∃(aa:Nat),M.g 5=some a8/\M.g 6=some (.Z (ds.length:Int))/\M.g 7=some (.Z (aa:Int))/\aa+m=ds.length/\bh X h j U aV)
  ds.length ⟨0,bp,bp,fQ,Zo,bh.refl _ _⟩ ?_
 rintro m M a6 aJ ⟨aa,t5,gt,fo,bL,bT⟩
 have jF:=bT.le
 cases m with
 |zero=>
  have d:=zp aa ds.length
  refine d9 @fo @gt @d ⟨?_⟩
  exact⟨rfl,bT⟩
 |succ m=>
  have alN:=zq aa ds.length
  have bH:=zt aa
  obtain⟨d,aO⟩:=zr ds aa
  have C9:=bI d (Zn aO)
  have dQ:=cG.e9 aa (by rw[Zi];omega)
  have ft:=(cG.ad (λe H=>bT.ad e (bB e H))).row (i:=aa) (r:=eK d) Zd (by rw[Zt,aO];rfl)
  have kf:eK d=[.str d.name, .Z d.at_, .bool d.ty.b, .bool d.ty.s, .Z d.ty.w, .str d.on, .Z d.fD, .bool d.no]:=rfl
  rw[kf]at ft
  refine iu @fo @gt @t5 @alN @dQ @ft ⟨?_⟩
  generalize d2:bo X _ aJ _=aR
  have cd:ab X aR aJ=zs [.str d.name, .Z d.at_, .bool d.ty.b, .bool d.ty.s, .Z d.ty.w, .str d.on, .Z d.fD, .bool d.no] 8:=by rw[<-d2,bi Zo];rfl
  have bC:bh X h j aR (aJ+1):=⟨Zo,λe H=>by rw[<-d2];simp(disch:=omega) only[aG];exact bT.ad e H⟩
  clear d2
  refine ce (bR cd) ⟨?_⟩
  refine(J5 (j:=aJ+1) (h:=aR) az bX e3 C9.name Zo).Zm ?_
  rintro ae a7 bd ⟨rfl,cm⟩
  have ik:=cm.le
  rw[<-cm.ad _ Zo]at cd
  have Ga:dn d.ty=[.bool d.ty.b, .bool d.ty.s, .Z d.ty.w]:=rfl
  have yO:bM X a7 3 (.ptr aJ 2)=some (.agg (dn d.ty)):=by
   rw[p5,bR cd,bR cd,bR cd];rfl
  refine ce @yO ⟨?_⟩
  refine(afd (j:=bd) (h:=a7) az.todx d.ty Zo).Zm ?_
  rintro ae bw db ⟨rfl,dj⟩
  have jd:=dj.le
  rw[<-dj.ad _ Zo]at cd
  have c3:decide (nk d.ty=[])=false:=by simp[awX C9.type]
  have aam:bh X h j bw db:=(bC.trans cm).trans dj
  by_cases lw:d.on=[]
  ·have cQ:decide (d.on≠[])=false:=by simp[lw]
   have eZ:decide (d.on=[])=true:=by simp[lw]
   have m9:al X bw (.ptr aJ 7)=some (.bool false):=by rw[bR cd, <-C9.no lw];rfl
   have RM:al X bw (.ptr aJ 5)=some (.str d.on):=by rw[bR cd];rfl
   refine eu @c3 @RM @cQ @eZ @m9 @fo @bH ⟨?_⟩
   exact⟨m,Zo,aa+1,aQ t5,aQ gt,bp,Zo,aam⟩
  ·have cQ:decide (d.on≠[])=true:=by simp[lw]
   have eZ:decide (d.on=[])=false:=by simp[lw]
   have RM:al X bw (.ptr aJ 5)=some (.str d.on):=by rw[bR cd];rfl
   refine d9 @c3 @RM @cQ ⟨?_⟩
   refine(J5 (j:=db) (h:=bw) az bX e3 (C9.on lw) Zo).Zm ?_
   rintro ae bS cj ⟨rfl,dF⟩
   have il:=dF.le
   rw[<-dF.ad _ Zo]at cd
   have aqR:al X bS (.ptr aJ 5)=some (.str d.on):=by rw[bR cd];rfl
   refine gl @aqR @eZ @fo @bH ⟨?_⟩
   exact⟨m,Zo,aa+1,aQ t5,aQ gt,bp,Zo,aam.trans dF⟩
def auR(az:iS X)(bX:ma X)(e3:rW X){w:bq}(bI:EE w)(aM:(q X).ba<=j):
 aW X 143 [.str w] h j (λae U ar=>ae= .bool false/\bh X h j U ar) (λ_ _ _=>False):=by
 refine zv az.todx (agT X) ?_
 rw[agU]
 unfold UN
 refine(J5 (j:=j) (h:=h) az bX e3 bI aM).Zm ?_
 rintro ae aR bc ⟨rfl,bC⟩
 refine cS ⟨?_⟩
 exact⟨rfl,bC⟩
def atG(az:iS X)(bX:ma X)(e3:rW X){P:Nat->Prop}{b:Nat}{a8:J}{mX:List bq}(aM:(q X).ba<=j)(Z:d1 X h P b a8 1 (ib mX))(bB:∀e,P e->e<j)(bI:∀w∈mX,EE w):
 aW X 145 [a8, .func (.func 143) [] []] h j (λae U ar=>ae= .bool false/\bh X h j U ar) (λ_ _ _=>False):=by
 refine zv az.todx (agX X) ?_
 rw[agY]
 unfold UP
 refine aW.mono (ak:=λae U ar=>ae= .Z (-1)/\bh X h j U ar) (ay:=λ_ _ _=>False) ?_ ?_ (λ_ _ _ a=>a.elim)
 ·refine zv az.todx (ahR X) ?_
  rw[ahS]
  unfold Vl
  have ew:=Z.len
  have h7:=Z.many
  rw[show(ib mX).length=mX.length from by simp[ib]]at ew h7
  refine ce @ew ⟨?_⟩
  refine fC (λm M U aV=>∃(aa:Nat),M.g 0=some a8/\M.g 1=some (.func (.func 143) [] [])/\M.g 7=some (.Z (mX.length:Int))/\M.g 8=some (.Z (aa:Int))/\aa+m=mX.length/\bh X h j U aV)
   mX.length ⟨0,bp,bp,bp,fQ,Zo,bh.refl _ _⟩ ?_
  rintro m M a6 aJ ⟨aa,t0,t1,fo,gA,bL,bT⟩
  have jF:=bT.le
  cases m with
  |zero=>
   have d:=zp aa mX.length
   refine d9 @gA @fo @d ⟨?_⟩
   exact⟨rfl,bT⟩
  |succ m=>
   have d:=zq aa mX.length
   have bH:=zt aa
   obtain⟨w,sE⟩:=zr mX aa
   have dQ:=Z.e9 aa (by simp[ib];omega)
   have gW:=(Z.ad (λe H=>bT.ad e (bB e H))).cell aa [.str w] 0 (.str w) (by unfold ib;rw[Zt,sE];rfl) rfl
   rw[Yh]at dQ
   rw[Yh,ZT]at gW
   refine eu @gA @fo @t1 @t0 @d @dQ @gW ⟨?_⟩
   refine(auR (j:=aJ) (h:=a6) az bX e3 (bI w (Zn sE)) Zo).Zm ?_
   rintro ae aR bc ⟨rfl,bC⟩
   refine c1 @gA @bH ⟨?_⟩
   exact⟨m,Zo,aa+1,aQ t0,aQ t1,aQ fo,bp,Zo,bT.trans bC⟩
 ·rintro ae a6 aJ ⟨rfl,bX⟩
  refine cS ⟨?_⟩
  exact⟨rfl,bX⟩
end
def au8:∀w<65,BZ ((w:Nat):Int)=((2^w-1:Nat):Int):=by decide+kernel
def akp{n w:Nat}(bI:w<=64)(aM:n<18446744073709551616)(a:HM (n:Int) (BZ (w:Int))=0):n<2^w:=by
 rw[au8 w Zo]at a
 unfold HM at a
 have c4:=(BitVec.ofInt 64 (n:Int)&&& ~~~ BitVec.ofInt 64 ((2^w-1:Nat):Int)).isLt
 rw[afz Zo Zo]at a
 have ch:BitVec.ofInt 64 (n:Int)&&& ~~~ BitVec.ofInt 64 ((2^w-1:Nat):Int)=0#64:=BitVec.eq_of_toNat_eq (by rw[BitVec.toNat_ofNat];omega)
 rw[BitVec.ofInt_natCast,BitVec.ofInt_natCast]at ch
 apply Nat.lt_pow_two_of_testBit
 intro i aN
 by_cases Fx:i<64
 ·have ai:=congrArg (λv=>v.getLsbD i) ch
  simp only[BitVec.getLsbD_and,BitVec.getLsbD_not,BitVec.getLsbD_ofNat,Fx,Yo,Bool.true_and,Nat.testBit_two_pow_sub_one,BitVec.getLsbD_zero]at ai
  have:decide (i<w)=false:=by simp;omega
  rw[this]at ai
  simpa using ai
 ·exact Nat.testBit_lt_two_pow (ZL aM (by
   have:(18446744073709551616:Nat)=2^64:=by decide
   rw[this]
   exact Nat.pow_le_pow_right Zd Zo))
def atU{t:dJ}{n:Int}(a:OO t n):n<2^(if t.s then t.w-1 else t.w).toNat:=by
 obtain⟨T,W,au,aP⟩:=a
 obtain⟨m,rfl⟩:=Yl au
 have bI:=Nu T
 have key:∀w:Nat,w<=64->HM (m:Int) (BZ (w:Int))=0->(m:Int)<2^w:=λw bI a=>by
  have:=akp bI Zo a
  have W:((2^w:Nat):Int)=(2:Int)^w:=by simp
  rw[<-W];omega
 unfold vg at W
 cases aI:t.s with
 |true=>
  rw[Zr aI]at W
  rw[Zr rfl]
  by_cases ch:t.w-1=0
  ·rw[Zr ch]at W
   have:(m:Int)=0:=by simpa using W
   rw[ch,this];decide
  ·rw[Zh ch]at W
   obtain⟨w,y1⟩:=Yl (by omega:0<=t.w-1)
   rw[y1]at W ⊢
   simp only[DB,Zp,Zg]at W
   exact key w Zo W.2
 |false=>
  rw[Zh (by simp[aI])]at W
  rw[Zh Zs]
  obtain⟨w,y1⟩:=Yl (by omega:0<=t.w)
  simp only[DB,Zp,Zg]at W
  rw[y1]at W ⊢
  exact key w Zo W.2
section
variable{X:co}{h U gw a6 aR:V an}{j ar aJ bc:Nat}{s:bq}
def aeK{n b:Int}(ch:0<=n)(ai:0<=b)(lT:b<=64)(a:n<2^b.toNat):aC .shr (.int .u64 n) (.Z b)=some (.int .u64 0):=by
 have bH:y2 b 0=false:=by rw[tW];simp;omega
 have cP:min b.toNat IntKind.u64.bits=b.toNat:=by
  have:IntKind.u64.bits=64:=rfl
  rw[this];omega
 have fH:n.fdiv (2^b.toNat)=0:=by
  rw[Int.fdiv_eq_ediv_of_nonneg _ (by exact Int.le_of_lt (Int.lt_of_le_of_lt ch a))]
  exact Int.ediv_eq_zero_of_lt ch a
 simp only[aC,l0,e6,HL,bH,jz,cP,fH]
 rfl
def atV(az:iS X){P:Nat->Prop}{I:bG}{v:J}(aM:(q X).ba<=j)(bA:cR X h P I v)(bB:∀e,P e->e<j)(aL:I.kind=1)(aD:OO I.ty I.n):
 aW X 216 [v] h j (λae U ar=>ae= .bool true/\bh X h j U ar) (λ_ _ _=>False):=by
 refine zv az.todx (ait X) ?_
 rw[aiu]
 unfold VE
 obtain⟨b,a8,cD,bj,rfl,ai,a0,bf,ck,a3,a4,a5,hv,ic,ir,cG,has⟩:=id bA.open
 have gp:=bB b ai
 have Mm:=atU aD
 have bI:=Nu aD.1
 have r9:decide (I.kind=1)=true:=by simp[aL]
 have Ga:dn I.ty=[.bool I.ty.b, .bool I.ty.s, .Z I.ty.w]:=rfl
 have yO:bM X h 3 (.ptr b 4)=some (.agg (dn I.ty)):=by rw[p5,a4,a5,hv];rfl
 cases aI:I.ty.s with
 |true=>
  rw[aI]at a5
  rw[Zr aI]at Mm
  have bH:aC .sub (.Z I.ty.w) (.Z 1)=some (.Z (I.ty.w-1)):=BA Zo Zo
  have HZ:decide (I.ty.w-1=64)=false:=by simp only[Zb];omega
  have lX:=aeK aD.2.2.1 Zo Zo Mm
  refine iu @a5 @hv @bH @a0 @r9 @yO ⟨?_⟩
  refine(DP (j:=j) (h:=h) az.todx I.ty aM).Zm ?_
  rintro ae a6 aJ ⟨rfl,bT⟩
  have O7:al X a6 (.ptr b 7)=some (.int .u64 I.n):=by rw[bT.f0 _ _ gp];exact ic
  have bs:kL I.ty=true:=aD.1
  rw[bs]
  refine d9 @HZ @O7 @lX ⟨?_⟩
  exact⟨rfl,bT⟩
 |false=>
  rw[aI]at a5
  rw[Zh (by simp[aI])]at Mm
  refine fW @a5 @hv @a0 @r9 @yO ⟨?_⟩
  refine(DP (j:=j) (h:=h) az.todx I.ty aM).Zm ?_
  rintro ae a6 aJ ⟨rfl,bT⟩
  have O7:al X a6 (.ptr b 7)=some (.int .u64 I.n):=by rw[bT.f0 _ _ gp];exact ic
  have bs:kL I.ty=true:=aD.1
  rw[bs]
  by_cases Fx:I.ty.w=64
  ·have HZ:decide (I.ty.w=64)=true:=by simp[Fx]
   refine ce @HZ ⟨?_⟩
   exact⟨rfl,bT⟩
  ·have HZ:decide (I.ty.w=64)=false:=by simp[Fx]
   have lX:=aeK aD.2.2.1 Zo Zo Mm
   refine d9 @HZ @O7 @lX ⟨?_⟩
   exact⟨rfl,bT⟩
def auE(b:Nat):dc X h .eql 47 false .cy (.ptr b 0)=some (.bool false):=Zk
def aky(az:iS X){P:Nat->Prop}{b:Nat}{a8:J}{b7:List bG}{bj:List J}(Z:d1 X h P b a8 1 (bj.map λv=>[v]))(FM:dB X h P b7 bj):
 aW X 215 [a8, .cy] h j (λae U ar=>ae= .bool false/\U=h/\j<=ar) (λ_ _ _=>False):=by
 refine zv az.todx (air X) ?_
 rw[ais]
 unfold VD
 refine aW.mono (ak:=λae U ar=>ae= .Z (-1)/\U=h/\j<=ar) (ay:=λ_ _ _=>False) ?_ ?_ (λ_ _ _ a=>a.elim)
 ·refine zv az.todx (aiN X) ?_
  rw[aiO]
  unfold VO
  have ew:=Z.len
  have h7:=Z.many
  rw[Zi]at ew h7
  refine ce @ew ⟨?_⟩
  refine fC (λm M U aV=>∃(aa:Nat),M.g 0=some a8/\M.g 1=some .cy/\M.g 7=some (.Z (bj.length:Int))/\M.g 8=some (.Z (aa:Int))/\aa+m=bj.length/\U=h/\j<=aV)
   bj.length ⟨0,bp,bp,bp,fQ,Zo,rfl,Zo⟩ ?_
  rintro m M aR bc ⟨aa,t0,t1,fo,gA,bL,rfl,k6⟩
  cases m with
  |zero=>
   have d:=zp aa bj.length
   refine d9 @gA @fo @d ⟨?_⟩
   exact⟨rfl,rfl,k6⟩
  |succ m=>
   have d:=zq aa bj.length
   have bH:=zt aa
   obtain⟨v,bD⟩:=zr bj aa
   have I4:=FM.len
   obtain⟨I,bA⟩:=zr b7 aa
   obtain⟨g7,qD,yM⟩:=FM.get aa I bA
   rw[bD]at qD
   cases qD
   obtain⟨CB,rfl,_,_⟩:=yM.ptr
   obtain⟨b5,cd,c0⟩:=Z.one bD
   refine eu @gA @fo @t1 @t0 @d @b5 (Za @cd (Za @auE @bH)) ⟨?_⟩
   exact⟨m,Zo,aa+1,aQ t0,aQ t1,aQ fo,bp,Zo,rfl,k6⟩
 ·rintro ae a6 aJ ⟨rfl,rfl,bX⟩
  refine cS ⟨?_⟩
  exact⟨rfl,rfl,bX⟩
end
def ui(F:Int):Option (Int×Bool×Bool×Bool):=
 if F=1 then some (0,false,true,true)else if F=2 then some (0,true,false,false)else if F=3\/F=4\/F=5 then some (1,false,false,false)else if F=6 then some (1,true,false,false)
 else if F=19\/F=20 then some (1,false,false,true)else if F=23 then some (3,false,false,false)else if F=24 then some (2,true,false,false)else if F=25 then some (-1,true,false,false)
 else if F=26 then some (1,false,true,false)else none
def qa(s:Int×Bool×Bool×Bool):List J:=[.Z s.1, .bool s.2.1, .bool s.2.2.1, .bool s.2.2.2]
structure x3(X:co):Prop where
 at_:∀h,∃v,al X h (.ptr 5 0)=some v/\∀F:Int,kJ X h 3 (.agg [.Z 0, .bool false, .bool false, .bool false]) v (.Z F) true=some (.tuple [.agg (qa ((ui F).getD (0,false,false,false))), .bool (ui F).isSome])
structure ajQ(I:bG)(s:Int×Bool×Bool×Bool):Prop where
 re:0<=s.1->(I.args.length:Int)=s.1
 adI:s.2.1=true->EE I.name
 NC:s.2.1=false->I.name=[]
 ayk:s.2.2.1=true->kL I.ty=true
 dU:s.2.2.1=false->I.ty=dU
 ba:s.2.2.2=false->I.n=0
def axb{I:bG}(a:tb kr I):ajQ I ((ui I.kind).getD (2,false,false,false)):=by
 have T:=a.bY
 have W:=a.cx
 have oY:=a.re
 have h8:=a.nm
 have Dh:=a.NC
 have rx:=a.ty
 have yY:=a.dU
 have gP:=a.ba
 unfold r5 at oY
 unfold tI at h8 Dh
 unfold tJ at rx yY
 generalize I.kind=F at*
 unfold ui
 have aL:F=1\/F=2\/(F=3\/F=4\/F=5)\/F=6\/(F=19\/F=20)\/F=23\/F=24\/F=25\/F=26\/(7<=F/\F<=18\/F=21\/F=22):=Zo
 rcases aL with aL|aL|aL|aL|aL|aL|aL|aL|aL|aL
 ·subst aL
  exact⟨λ_=>by have:=oY 0 Zs;simp[this],λa=>by simp at a,λ_=>Dh Zo,λ_=>rx Zo,λa=>by simp at a,λa=>by simp at a⟩
 ·subst aL
  exact⟨λ_=>by have:=oY 0 Zs;simp[this],λ_=>h8 Zo,λa=>by simp at a,λa=>by simp at a,λ_=>yY Zo,λ_=>gP Zo Zo Zo⟩
 ·rw[Zh Zo,Zh Zo,Zr aL]
  rw[Zh Zo,Zh Zo,Zr Zo]at oY
  exact⟨λ_=>by have:=oY 1 rfl;simp[this],λa=>by simp at a,λ_=>Dh Zo,λa=>by simp at a,λ_=>yY Zo,λ_=>gP Zo Zo Zo⟩
 ·subst aL
  exact⟨λ_=>by have:=oY 1 Zs;simp[this],λ_=>h8 Zo,λa=>by simp at a,λa=>by simp at a,λ_=>yY Zo,λ_=>gP Zo Zo Zo⟩
 ·rw[Zh Zo,Zh Zo,Zh Zo,Zh Zo,Zr aL]
  rw[Zh Zo,Zh Zo,Zr Zo]at oY
  exact⟨λ_=>by have:=oY 1 rfl;simp[this],λa=>by simp at a,λ_=>Dh Zo,λa=>by simp at a,λ_=>yY Zo,λa=>by simp at a⟩
 ·subst aL
  exact⟨λ_=>by have:=oY 3 Zs;simp[this],λa=>by simp at a,λ_=>Dh Zo,λa=>by simp at a,λ_=>yY Zo,λ_=>gP Zo Zo Zo⟩
 ·subst aL
  exact⟨λ_=>by have:=oY 2 Zs;simp[this],λ_=>h8 Zo,λa=>by simp at a,λa=>by simp at a,λ_=>yY Zo,λ_=>gP Zo Zo Zo⟩
 ·subst aL
  exact⟨λa=>by simp at a,λ_=>h8 Zo,λa=>by simp at a,λa=>by simp at a,λ_=>yY Zo,λ_=>gP Zo Zo Zo⟩
 ·subst aL
  exact⟨λ_=>by have:=oY 1 Zs;simp[this],λa=>by simp at a,λ_=>Dh Zo,λ_=>rx Zo,λa=>by simp at a,λ_=>gP Zo Zo Zo⟩
 ·rw[Zh Zo,Zh Zo,Zh Zo,Zh Zo,Zh Zo,Zh Zo,Zh Zo,Zh Zo,Zh Zo]
  rw[Zh Zo,Zh Zo,Zh Zo,Zh Zo]at oY
  exact⟨λ_=>by have:=oY 2 rfl;simp[this],λa=>by simp at a,λ_=>Dh Zo,λa=>by simp at a,λ_=>yY Zo,λ_=>gP Zo Zo Zo⟩
section
variable{X:co}{h U gw a6 aR:V an}{j ar aJ bc:Nat}{s:bq}
structure Uf(G:Prop):Prop where
 out:G
def Lm{G pE:Prop}(J3:Uf G->pE)(TJ:G):pE:=J3 ⟨TJ⟩
def akZ:dc X h .neq 4 false (.bool false) (.bool false)=some (.bool false):=Zk
def ak0:dc X h .neq 4 false (.bool true) (.bool true)=some (.bool false):=Zk
def ayl:dc X h .neq 41 false (.agg [.bool false, .bool false, .Z 0]) (.agg [.bool false, .bool false, .Z 0])=some (.bool false):=Zk
def avG(b:Nat):dc X h .neq 47 true (.ptr b 0) .cy=some (.bool true):=Zk
set_option maxRecDepth 100000 in
def at5(az:iS X)(bX:ma X)(e3:rW X)(iW:x3 X){P:Nat->Prop}{I:bG}{v:J}(aM:(q X).ba<=j)(bA:cR X h P I v)(bB:∀e,P e->e<j)(bI:e4 kr I):
 aW X 191 [v] h j (λae U ar=>ae= .bool true/\bh X h j U ar) (λ_ _ _=>False):=by
 refine zv az.todx (ahP X) ?_
 rw[ahQ]
 unfold Vk
 rw[e4.eq]at bI
 obtain⟨bI,y0⟩:=bI
 have lX:=axb bI
 obtain⟨b,a8,cD,bj,rfl,ai,a0,bf,ck,a3,a4,a5,hv,ic,ir,cG,has⟩:=id bA.open
 have gp:=bB b ai
 obtain⟨fy,Mx,My⟩:=iW.at_ h
 have iJ:=My I.kind
 generalize F8:(ui I.kind).getD (2,false,false,false)=s at lX
 have arE:∀ao:Int×Bool×Bool×Bool,qa ao=[.Z ao.1, .bool ao.2.1, .bool ao.2.2.1, .bool ao.2.2.2]:=λ_=>rfl
 rw[arE]at iJ
 refine hm @Mx @a0 @iJ ⟨?_⟩
 refine j0 (λc8 U aV=>c8.g 0=some (.ptr b 0)/\c8.g 3=some (.ptr (j+9) 0)/\bh X h j U aV/\j+9<aV/\ab X U (j+9)=zs (qa s) 4) (λaa bL=> ?_) ?_
 ·cases b6:ui I.kind with
  |some ao=>
   rw[b6]at F8
   simp only[Yy]at F8
   subst F8
   simp only[Yy,Z3]
   refine cS ⟨?_⟩
   exact bL _ _ _ ⟨bp,bp,dR,Zo,by rw[bi Zo];rfl⟩
  |none=>
   rw[b6]at F8
   simp only[Option.getD_none]at F8
   subst F8
   simp only[Option.getD_none,Z1]
   refine cS ⟨?_⟩
   exact bL _ _ _ ⟨bp,bp,dR,Zo,by rw[bi Zo];rfl⟩
 rintro M a6 aJ ⟨t0,t3,bT,sw,b5⟩
 have rd:∀U,Go.bk.ab X U (j+9)=zs (qa s) 4->al X U (.ptr (j+9) 0)=some (.Z s.1)/\al X U (.ptr (j+9) 1)=some (.bool s.2.1)/\al X U (.ptr (j+9) 2)=some (.bool s.2.2.1)/\al X U (.ptr (j+9) 3)=some (.bool s.2.2.2):=λU a=>
  ⟨by rw[bR a];rfl,by rw[bR a];rfl,by rw[bR a];rfl,by rw[bR a];rfl⟩
 have k5:=bI.bY
 have iX:=bI.cx
 have c3:decide (I.kind<1)=false:=by simp only[Zb];omega
 have cQ:decide ((26:Int)<I.kind)=false:=by simp only[Zb];omega
 obtain⟨jv,eW,fv,hK⟩:=rd a6 b5
 have HG:al X a6 (.ptr b 0)=some (.Z I.kind):=by rw[bT.f0 _ _ gp];exact a0
 have HI:al X a6 (.ptr b 8)=some a8:=by rw[bT.f0 _ _ gp];exact ir
 have ew:=cG.len
 have I4:=has.len
 rw[Zi,I4]at ew
 have vv:∀e,P e->ab X a6 e=ab X h e:=λe H=>bT.ad e (bB e H)
 have jF:=bT.le
 apply Lm
 ·intro asS
  by_cases oY:0<=s.1
  all_goals
   first
   |(
     have eZ:decide ((0:Int)<=s.1)=true:=by simp[oY]
     have iH:decide ((I.args.length:Int)≠s.1)=false:=by simp[lX.re oY]
     refine hm @t0 @t3 (Za @HG (Za @c3 (Za @cQ (Za @jv (Za @eZ (Za @HI (Za @ew (Za @jv @iH)))))))) ⟨?_⟩)
   |(
     have eZ:decide ((0:Int)<=s.1)=false:=by simp[oY]
     refine hm @t0 @t3 (Za @HG (Za @c3 (Za @cQ (Za @jv (Za @eZ @HI))))) ⟨?_⟩)
   refine(aky (j:=aJ+34) (h:=a6) az (cG.ad vv) (dB.ad vv _ _ has)).Zm ?_
   rintro ae aR bc ⟨rfl,rfl,f5⟩
   refine yv ⟨?_⟩
   refine j0 (λc8 U aV=>c8.g 0=some (.ptr b 0)/\c8.g 3=some (.ptr (j+9) 0)/\bh X h j U aV/\j+9<aV/\ab X U (j+9)=zs (qa s) 4) (λaa bL=> ?_) ?_
   ·refine cS ⟨?_⟩
    exact bL _ _ _ ⟨aQ t0,aQ t3,bT.more Zo,Zo,b5⟩
   exact asS.out
 clear t0 t3 bT b5 jv eW fv hK HG HI vv jF
 rintro M a7 bd ⟨t0,t3,cm,yP,c0⟩
 obtain⟨jv,eW,fv,hK⟩:=rd a7 c0
 have ik:=cm.le
 have O5:al X a7 (.ptr b 2)=some (.str I.name):=by rw[cm.f0 _ _ gp];exact ck
 have aqE:s.2.1=true->decide (I.name≠[])=true:=λa=>by simp[(lX.adI a).ne]
 have aqD:s.2.1=false->decide (I.name≠[])=false:=λa=>by simp[lX.NC a]
 have m9:(I.no=true/\decide (I.kind≠6)=false)\/(I.no=false/\decide ((0:Int)≠0)=false):=by
  cases b6:I.no with
  |true=>exact .inl ⟨rfl,by simp[bI.no b6]⟩
  |false=>exact .inr ⟨rfl,rfl⟩
 apply Lm
 ·intro asP
  rcases Bool.eq_false_or_eq_true s.2.1 with k8|k8
  all_goals
   first
   |(
     have rh:=aqE k8
     rw[k8]at eW
     refine hm @t0 @t3 (Za @eW (Za @O5 (Za @rh @ak0))) ⟨?_⟩
     refine(J5 (j:=bd+33) (h:=a7) az bX e3 (lX.adI k8) Zo).Zm ?_
     rintro ae bw db ⟨rfl,dj⟩
     have jd:=dj.le
     have sj:bh X h j bw db:=cm.trans (dj.j3 Zo)
     have RE:j+9<db:=Zo
     have fI:ab X bw (j+9)=zs (qa s) 4:=by rw[dj.ad _ Zo];exact c0
     have O6:al X bw (.ptr b 3)=some (.bool I.no):=by rw[sj.f0 _ _ gp];exact a3
     have r3:al X bw (.ptr b 0)=some (.Z I.kind):=by rw[sj.f0 _ _ gp];exact a0)
   |(
     have rh:=aqD k8
     rw[k8]at eW
     refine hm @t0 @t3 (Za @eW (Za @O5 (Za @rh @akZ))) ⟨?_⟩
     have sj:bh X h j a7 (bd+33):=cm.more Zo
     have RE:j+9<bd+33:=Zo
     have fI:ab X a7 (j+9)=zs (qa s) 4:=c0
     have O6:al X a7 (.ptr b 3)=some (.bool I.no):=by rw[sj.f0 _ _ gp];exact a3
     have r3:al X a7 (.ptr b 0)=some (.Z I.kind):=by rw[sj.f0 _ _ gp];exact a0)
   rcases m9 with ⟨abI,r9⟩|⟨abI,r9⟩
   all_goals
    rw[abI]at O6
    refine hm @t0 @t3 (Za @O6 (Za @r3 @r9)) ⟨?_⟩
    refine j0 (λc8 U aV=>c8.g 0=some (.ptr b 0)/\c8.g 3=some (.ptr (j+9) 0)/\bh X h j U aV/\j+9<aV/\ab X U (j+9)=zs (qa s) 4) (λaa bL=> ?_) ?_
    ·refine cS ⟨?_⟩
     exact bL _ _ _ ⟨aQ t0,aQ t3,sj.more Zo,Zo,fI⟩
    exact asP.out
 clear t0 t3 cm c0 jv eW fv hK O5 ik
 rintro M bS cj ⟨t0,t3,dF,aqF,fK⟩
 obtain⟨jv,eW,fv,hK⟩:=rd bS fK
 have il:=dF.le
 have Ga:dn I.ty=[.bool I.ty.b, .bool I.ty.s, .Z I.ty.w]:=rfl
 have yO:bM X bS 3 (.ptr b 4)=some (.agg (dn I.ty)):=by rw[p5,dF.f0 _ _ gp,dF.f0 _ _ gp,dF.f0 _ _ gp,a4,a5,hv];rfl
 apply Lm
 ·intro asR
  rcases Bool.eq_false_or_eq_true s.2.2.1 with k8|k8
  all_goals
   first
   |(
     have bs:=lX.ayk k8
     rw[k8]at fv
     refine hm @t0 @t3 (Za @fv @yO) ⟨?_⟩
     refine(DP (j:=cj) (h:=bS) az.todx I.ty Zo).Zm ?_
     rintro ae b4 dH ⟨rfl,dV⟩
     rw[bs]
     have pY:=dV.le
     have sj:bh X h j b4 dH:=dF.trans (dV.j3 Zo)
     have RE:j+9<dH:=Zo
     have fI:ab X b4 (j+9)=zs (qa s) 4:=by rw[dV.ad _ Zo];exact fK
     have Ww:al X b4 (.ptr b 7)=some (.int .u64 I.n):=by rw[sj.f0 _ _ gp];exact ic
     have NZ:al X b4 (.ptr (j+9) 3)=some (.bool s.2.2.2):=(rd b4 fI).2.2.2)
   |(
     have bs:=lX.dU k8
     rw[k8]at fv
     have ar0:dn I.ty=[.bool false, .bool false, .Z 0]:=by rw[bs];rfl
     rw[ar0]at yO
     refine hm @t0 @t3 (Za @fv (Za @yO @ayl)) ⟨?_⟩
     have sj:bh X h j bS cj:=dF
     have RE:j+9<cj:=aqF
     have fI:ab X bS (j+9)=zs (qa s) 4:=fK
     have Ww:al X bS (.ptr b 7)=some (.int .u64 I.n):=by rw[sj.f0 _ _ gp];exact ic
     have NZ:al X bS (.ptr (j+9) 3)=some (.bool s.2.2.2):=(rd bS fI).2.2.2)
   rcases Bool.eq_false_or_eq_true s.2.2.2 with p1|p1
   all_goals
    first
    |(
      have rh:decide ((0:Int)≠0)=false:=rfl
      rw[p1]at NZ
      have aAG:s.2.2.2=true:=p1)
    |(
      have rh:decide (I.n≠0)=false:=by simp[lX.ba p1]
      rw[p1]at NZ)
    refine hm @t0 @t3 (Za @NZ (Za @Ww @rh)) ⟨?_⟩
    refine j0 (λc8 U aV=>c8.g 0=some (.ptr b 0)/\c8.g 3=some (.ptr (j+9) 0)/\bh X h j U aV/\j+9<aV/\ab X U (j+9)=zs (qa s) 4) (λaa bL=> ?_) ?_
    ·refine cS ⟨?_⟩
     exact bL _ _ _ ⟨aQ t0,aQ t3,sj.more Zo,Zo,fI⟩
    exact asR.out
 clear t0 t3 dF fK jv eW fv hK il yO
 rintro M cu e1 ⟨t0,t3,e7,aAq,eQ⟩
 have nE:=e7.le
 have AI:al X cu (.ptr b 0)=some (.Z I.kind):=by rw[e7.f0 _ _ gp];exact a0
 have Wx:al X cu (.ptr b 7)=some (.int .u64 I.n):=by rw[e7.f0 _ _ gp];exact ic
 have Wy:al X cu (.ptr b 8)=some a8:=by rw[e7.f0 _ _ gp];exact ir
 have tY:∀e,P e->ab X cu e=ab X h e:=λe H=>e7.ad e (bB e H)
 show aj _ _
 by_cases T:I.kind=1
 ·have bH:decide (I.kind=1)=true:=by simp[T]
  refine d9 @t0 @AI @bH ⟨?_⟩
  refine(atV (j:=e1) (h:=cu) az Zo (cR.ad tY _ _ bA) (λe H=>zo (bB e H)) T (bI.adH T)).Zm ?_
  rintro ae d4 fd ⟨rfl,gy⟩
  exact⟨rfl,e7.trans (gy.j3 Zo)⟩
 have bH:decide (I.kind=1)=false:=by simp[T]
 by_cases Is:I.kind=19
 ·have Fg:decide (I.kind=19)=true:=by simp[Is]
  have PP:decide (I.n<=63)=true:=by simp[(bI.ms (.inl Is)).2]
  refine iu @t0 @AI @bH @Fg @Wx @PP ⟨?_⟩
  exact⟨rfl,e7.more Zo⟩
 have Fg:decide (I.kind=19)=false:=by simp[Is]
 by_cases Qy:I.kind=20
 ·have H7:decide (I.kind=20)=true:=by simp[Qy]
  have PP:decide (I.n<=63)=true:=by simp[(bI.ms (.inr Qy)).2]
  refine eu @t0 @AI @bH @Fg @H7 @Wx @PP ⟨?_⟩
  exact⟨rfl,e7.more Zo⟩
 have H7:decide (I.kind=20)=false:=by simp[Qy]
 by_cases Qz:I.kind=21
 ·have Lx:decide (I.kind=21)=true:=by simp[Qz]
  obtain⟨l,r,w8,aD⟩:=bI.wV Qz
  obtain⟨av,aqv,gE⟩:=has.get 0 l (by rw[w8];rfl)
  obtain⟨cL,cC,d6⟩:=(cG.ad tY).one aqv
  obtain⟨oi,adk,atE,aBb,rfl,su,ee,_,_,_,_,_,_,_,E3,adj,ac0⟩:=(cR.ad tY _ _ gE).open
  have aem:dd 1 a8 (.Z 0)=some (.ptr cD 0):=cL
  rcases aD with aD|⟨aD,x,ah,M9⟩
  ·have tq:decide (l.kind=1)=true:=by simp[aD]
   refine eu @t0 @AI @bH @Fg @H7 @Lx (Za @Wy (Za @aem (Za @cC (Za @ee @tq)))) ⟨?_⟩
   exact⟨rfl,e7.more Zo⟩
  ·have tq:decide (l.kind=1)=false:=by simp[aD]
   have amc:decide (l.kind=4)=true:=by simp[aD]
   obtain⟨aBJ,asg,Dz⟩:=ac0.get 0 x (by rw[ah];rfl)
   obtain⟨fJ,hp,uc⟩:=adj.one asg
   obtain⟨qf,rfl,tT,l8⟩:=Dz.ptr
   have avj:dd 1 adk (.Z 0)=some (.ptr atE 0):=fJ
   have adc:=adj.len
   rw[Zi,ac0.len,ah]at adc
   have atW:dI adk=some (.Z 1):=adc
   have ex:decide (x.kind=1)=true:=by simp[M9]
   have al4:decide ((1:Int)=1)=true:=rfl
   refine eu @t0 @AI @bH @Fg @H7 @Lx (Za @Wy (Za @aem (Za @cC (Za @ee (Za @tq (Za @amc (Za @E3 (Za @atW (Za @al4 (Za @avj (Za @hp (Za @avG (Za @l8 @ex))))))))))))) ⟨?_⟩
   exact⟨rfl,e7.more Zo⟩
 have Lx:decide (I.kind=21)=false:=by simp[Qz]
 refine iu @t0 @AI @bH @Fg @H7 @Lx ⟨?_⟩
 exact⟨rfl,e7.more Zo⟩
end
def aqb{F:Nat}{I K:bG}(a:g1 (F+1) I<=F)(aE:K∈I.args):g1 F K+1<=F:=by
 have bs:∀(l:List bG) (ch:Nat),(∀K∈l,g1 F K<=l.foldl (λa K=>max a (g1 F K)) ch)/\ch<=l.foldl (λa K=>max a (g1 F K)) ch:=by
  intro l
  induction l with
  |nil=>intro ch;exact⟨λ_ a=>by simp at a,Zl _⟩
  |cons b l am=>
   intro ch
   obtain⟨fX,f7⟩:=am (max ch (g1 F b))
   refine⟨λx ah=> ?_,Zz (Nat.le_max_left _ _) f7⟩
   rcases Zq.1 ah with rfl|ah
   ·exact Zz (Nat.le_max_right _ _) f7
   ·exact fX x ah
 have T:=(bs I.args 0).1 K aE
 have W:g1 (F+1) I=I.args.foldl (λa K=>max a (g1 F K)) 0+1:=rfl
 omega
def aqd{F:Nat}{I:bG}:1<=g1 (F+1) I:=by
 have W:g1 (F+1) I=I.args.foldl (λa K=>max a (g1 F K)) 0+1:=rfl
 omega
def T8{bn:g8}:∀{l:List bG}{K:bG},f8 bn l->K∈l->e4 bn K:=by
 intro l
 induction l with
 |nil=>intro K _ a;cases a
 |cons b l am=>
  intro K a aE
  rw[f8]at a
  rcases Zq.1 aE with rfl|aE
  ·exact a.1
  ·exact am a.2 aE
section
variable{X:co}{h U gw a6 aR:V an}{j ar aJ bc:Nat}{s:bq}
structure AA(X:co)(dh pz oi:Nat)(d:Int)(h:V an):Prop where
 Ln:∃c,ab X h dh=some (.cells c 1 .own)/\c.get 0=some (.Z d)
 OA:al X h (.ptr pz 0)=some (.Z 0)
 look:al X h (.ptr oi 0)=some (.func (.func 190) [] [.ptr dh 0, .ptr pz 0, .ptr oi 0])
def AA.ad{dh pz oi:Nat}{d:Int}(a:AA X dh pz oi d a6)(F:∀e,e=dh\/e=pz\/e=oi->ab X aR e=ab X a6 e):AA X dh pz oi d aR:=by
 obtain⟨c,T,W⟩:=a.Ln
 exact⟨⟨c,by rw[F dh (.inl rfl)];exact T,W⟩,zz (F pz (.inr (.inl rfl))) a.OA,zz (F oi (.inr (.inr rfl))) a.look⟩
set_option maxRecDepth 100000 in
def at0(az:iS X)(bX:ma X)(e3:rW X)(iW:x3 X){P:Nat->Prop}{dh pz oi eN:Nat}(xf:(q X).ba<=dh)(azL:dh<eN)(aAP:pz<eN)(o4:oi<eN)(C9:pz≠dh)(jW:oi≠dh)(bB:∀e,P e->e<eN/\e≠dh):
 ∀(F:Nat) (I:bG) (v:J) (h:V an) (j:Nat),F<=200->eN<=j->g1 (F+1) I<=F->e4 kr I->cR X h P I v->AA X dh pz oi ((200-F:Nat):Int) h->
  aW X 190 [v, .ptr dh 0, .ptr pz 0, .ptr oi 0] h j (λae U ar=>ae= .tuple []/\AA X dh pz oi ((200-F:Nat):Int) U/\j<=ar/\∀e,e<j->e≠dh->ab X U e=ab X h e) (λ_ _ _=>False):=by
 intro F
 induction F with
 |zero=>intro I v h j _ _ a;have:=aqd (F:=0) (I:=I);omega
 |succ F am=>
  intro I v h j aL aM gK bI bA gn
  refine zv az.todx (ahN X) ?_
  rw[ahO]
  unfold Vj
  obtain⟨b,a8,cD,bj,rfl,ai,_,_,_,_,_,_,_,_,ir,cG,has⟩:=id bA.open
  obtain⟨c,b5,cd⟩:=gn.Ln
  have xc:=bB b ai
  have bH:aC .add (.Z ((200-(F+1):Nat):Int)) (.Z 1)=some (.Z ((200-F:Nat):Int)):=by rw[eL Zo Zo,show((200-(F+1):Nat):Int)+1=((200-F:Nat):Int) by omega]
  refine hm (bR b5) @cd @bH ⟨?_⟩
  generalize ea:bo X h dh _=a6
  have Qe:∃f9,ab X a6 dh=some (.cells f9 1 .own)/\f9.get 0=some (.Z ((200-F:Nat):Int)):=⟨d3 c 0 [.Z ((200-F:Nat):Int)],by rw[<-ea,bi xf];rfl,rP c 0 _⟩
  have bY:∀e,e≠dh->ab X a6 e=ab X h e:=λe H=>by rw[<-ea,aG xf H]
  clear ea
  have aoQ:AA X dh pz oi ((200-F:Nat):Int) a6:=⟨Qe,zz (bY _ C9) gn.OA,zz (bY _ jW) gn.look⟩
  have vv:∀e,P e->ab X a6 e=ab X h e:=λe H=>bY e (bB e H).2
  have IZ:=cR.ad vv _ _ bA
  refine ce @NR ⟨?_⟩
  refine(at5 (j:=j) (h:=a6) az bX e3 iW Zo IZ (λe H=>zo (bB e H).1) bI).Zm ?_
  rintro ae aR bc ⟨rfl,bC⟩
  have f5:=bC.le
  have Mg:AA X dh pz oi ((200-F:Nat):Int) aR:=aoQ.ad (λe H=>bC.ad e (by rcases H with rfl|rfl|rfl<;>omega))
  obtain⟨dZ,Qf,ano⟩:=Mg.Ln
  have ajY:al X aR (.ptr b 8)=some a8:=by rw[bC.f0 _ _ Zo,cg,bY _ xc.2, <-cg];exact ir
  have ew:=cG.len
  have I4:=has.len
  rw[Zi,I4]at ew
  have h7:=cG.many
  rw[Zi,I4]at h7
  have cQ:decide ((200:Int)<((200-F:Nat):Int))=false:=by simp only[Zb];omega
  refine fW (bR Qf) @ano @cQ @ajY @ew ⟨?_⟩
  refine fC (λm M U aV=>∃(aa:Nat),M.g 1=some (.ptr dh 0)/\M.g 2=some (.ptr pz 0)/\M.g 3=some (.ptr oi 0)/\M.g 12=some a8/\M.g 13=some (.Z (I.args.length:Int))/\M.g 14=some (.Z (aa:Int))/\aa+m=I.args.length
   /\AA X dh pz oi ((200-F:Nat):Int) U/\j<=aV/\∀e,e<j->e≠dh->ab X U e=ab X h e)
   I.args.length ⟨0,bp,bp,bp,bp,bp,fQ,Zo,Mg,f5,λe T W=>by rw[bC.ad e T,bY e W]⟩ ?_
  rintro m M a7 bd ⟨aa,t1,eF,t3,uj,lE,my,bL,IE,ik,ob⟩
  cases m with
  |zero=>
   have d:=zp aa I.args.length
   obtain⟨hk,wX,anp⟩:=IE.Ln
   have cP:aC .sub (.Z ((200-F:Nat):Int)) (.Z 1)=some (.Z ((200-(F+1):Nat):Int)):=by rw[BA Zo Zo,show((200-F:Nat):Int) -1=((200-(F+1):Nat):Int) by omega]
   refine eu @my @lE @t1 @d (bR wX) @anp @cP ⟨?_⟩
   refine⟨rfl,⟨⟨d3 hk 0 [.Z ((200-(F+1):Nat):Int)],by rw[bi xf];rfl,rP hk 0 _⟩,zz (aG xf C9) IE.OA,zz (aG xf jW) IE.look⟩,Zo,λe T W=>by rw[aG xf W];exact ob e T W⟩
  |succ m=>
   have d:=zq aa I.args.length
   have cP:=zt aa
   obtain⟨K,aE⟩:=zr I.args aa
   obtain⟨w,sE,QX⟩:=has.get aa K aE
   have lz:∀e,P e->ab X a7 e=ab X h e:=λe H=>ob e (zo (bB e H).1) (bB e H).2
   obtain⟨cL,cC,d6⟩:=(cG.ad lz).one sE
   have aaO:=Zn aE
   have azQ:=aqb gK aaO
   have iJ:=IE.look
   refine eu @my @lE @uj @t3 @d @cL (Za @cC @iJ) ⟨?_⟩
   rw[e4.eq]at bI
   refine(am K w a7 bd Zo Zo Zo (T8 bI.2 aaO) (cR.ad lz _ _ QX) IE).Zm ?_
   rintro ae bw db ⟨rfl,aoR,jd,gg⟩
   refine c1 @my @cP ⟨?_⟩
   exact⟨m,Zo,aa+1,aQ t1,aQ eF,aQ t3,aQ uj,aQ lE,bp,Zo,aoR,Zo,λe T W=>by rw[gg e Zo W];exact ob e T W⟩
end
structure ON(g:Go.aZ.Node):Prop where
 vars:g.ef.length+g.out.length+g.loc.length<=256
 eqs:g.eqs.length<=4096
 high:∀ao∈g.eqs,g1 201 ao.right<=200
def atQ:∀{l:List gv},BM l=none->∀ao∈l,g1 201 ao.right<=200:=by
 intro l
 induction l with
 |nil=>intro _ ao a;cases a
 |cons K l am=>
  intro a ao b6
  unfold BM at a
  split at a
  ·cases a
  ·rcases Zq.1 b6 with rfl|b6
   ·omega
   ·exact am a ao b6
def atR:∀{l:List Go.aZ.Node},rz l=none->∀g∈l,ON g:=by
 intro l
 induction l with
 |nil=>intro _ ao a;cases a
 |cons K l am=>
  intro a g b0
  unfold rz at a
  split at a
  ·cases a
  ·rename_i b6
   split at a
   ·cases a
   ·rename_i bA
    rcases Zq.1 b0 with rfl|b0
    ·exact⟨Zo,Zo,atQ bA⟩
    ·exact am a g b0
def Nr{aq:List Go.aZ.Node}(a:qM aq=none):aq.length<=64/\∀g∈aq,ON g:=by
 unfold qM at a
 split at a
 ·cases a
 ·rename_i b6
  rw[List.getElem?_eq_none_iff]at b6
  exact⟨b6,atR a⟩
section
variable{X:co}{h U gw a6 aR:V an}{j ar aJ bc:Nat}{s:bq}
set_option maxRecDepth 100000 in
def anf(az:iS X)(bX:ma X)(e3:rW X)(iW:x3 X){P:Nat->Prop}{I:bG}{v:J}(aM:(q X).ba<=j)(bA:cR X h P I v)(bB:∀e,P e->e<j)(bI:e4 kr I)(gK:g1 201 I<=200):
 aW X 144 [v] h j (λae U ar=>ae= .Z 0/\bh X h j U ar) (λ_ _ _=>False):=by
 refine zv az.todx (agV X) ?_
 rw[agW]
 unfold UO
 refine cS ⟨?_⟩
 generalize ea:bo X _ (j+1+1) _=a6
 have kb:ab X a6 j=zs [.Z 0] 1:=by rw[<-ea];simp(disch:=omega) only[aG,bi];rfl
 have b5:ab X a6 (j+1)=zs [.Z 0] 1:=by rw[<-ea];simp(disch:=omega) only[aG,bi];rfl
 have cd:al X a6 (.ptr (j+1+1) 0)=some (.func (.func 190) [] [.ptr (j+1) 0, .ptr j 0, .ptr (j+1+1) 0]):=by rw[<-ea,tZ Zo];rfl
 have bT:bh X h j a6 (j+1+1+1):=by rw[<-ea];exact dR
 clear ea
 refine ce @cd ⟨?_⟩
 have IZ:=cR.ad (λe H=>bT.ad e (bB e H)) _ _ bA
 refine(at0 (eN:=j+1+1+1) az bX e3 iW Zo Zo Zo Zo Zo Zo (λe H=>by have:=bB e H;exact⟨Zo,Zo⟩) 200 I v a6 (j+1+1+1) Zo Zo gK bI IZ ⟨⟨_,b5,rfl⟩,by rw[bR kb];rfl,cd⟩).Zm ?_
 rintro ae aR bc ⟨rfl,Mg,f5,iX⟩
 have asb:=Mg.OA
 refine ce @asb ⟨?_⟩
 exact⟨rfl,Zo,λe H=>by rw[iX e Zo Zo];exact bT.ad e H⟩
set_option maxRecDepth 100000 in
def aue(az:iS X)(bX:ma X)(e3:rW X)(iW:x3 X){P:Nat->Prop}{g:Go.aZ.Node}{row:List J}(aM:(q X).ba<=j)(b0:oH X h P g row)(bB:∀e,P e->e<j)(bI:nr kr g)(aD:ON g):
 aW X 92 [.agg row] h j (λae U ar=>ae= .Z 0/\bh X h j U ar) (λ_ _ _=>False):=by
 refine zv az.todx (ajJ X) ?_
 rw[ajK]
 unfold Wl
 obtain⟨cY,df,a8,eR,cT,dL,et,ig,bF,rfl,lr,kg,nD,jX,ff⟩:=b0
 have en:=lr.len
 have c5:=kg.len
 have eV:=nD.len
 have mN:=ff.wide
 have g2:=jX.len
 have h7:=jX.many
 rw[Zi]at en c5 eV
 rw[mN.1]at g2 h7
 have aAO:=aD.vars
 have azO:=aD.eqs
 have FZ:0<g.out.length:=YL.2 bI.some
 have bH:aC .add (.Z (g.ef.length:Int)) (.Z (g.out.length:Int))=some (.Z ((g.ef.length+g.out.length:Nat):Int)):=by rw[eL Zo Zo];simp
 have cP:aC .add (.Z ((g.ef.length+g.out.length:Nat):Int)) (.Z (g.loc.length:Int))=some (.Z ((g.ef.length+g.out.length+g.loc.length:Nat):Int)):=by rw[eL Zo Zo];simp
 have c3:decide ((g.out.length:Int)=0)=false:=by simp only[Zb];omega
 have cQ:decide ((256:Int)<((g.ef.length+g.out.length+g.loc.length:Nat):Int))=false:=by simp only[Zb];omega
 have eZ:decide ((4096:Int)<(g.eqs.length:Int))=false:=by simp only[Zb];omega
 refine ti ?_
 generalize ea:bo X h j _=a6
 have b5:ab X a6 j=zs [.str g.name, .Z g.at_,cY,df,a8,eR] 6:=by rw[<-ea,bi aM];rfl
 have bT:bh X h j a6 (j+1):=by rw[<-ea];exact dR
 clear ea
 refine hm (bR b5) @en (Za @c5 (Za @eV (Za @bH @cP))) ⟨?_⟩
 refine(J5 (j:=j+1) (h:=a6) az bX e3 bI.name Zo).Zm ?_
 rintro ae aR bc ⟨rfl,bC⟩
 have f5:=bC.le
 rw[<-bC.ad _ Zo]at b5
 have jb:=bT.trans bC
 have dy:=(jt lr.len).1
 have dZ:=(jt kg.len).1
 have hk:=(jt nD.len).1
 have jq:fw 3 [.aU, .aU, .aU] [(0,1,cY),(1,1,df),(2,1,a8)] bc=some (.slice bc 0 3 3, .cells (V.ofList [cY,df,a8] 0 .nil) 3 .own):=by
  simp[fw,pP,pQ,lD,dy,dZ,hk]
 refine hm (bR b5) @en (Za @c5 (Za @eV (Za @g2 (Za @c3 (Za @cQ @eZ))))) ⟨?_⟩
 refine fS jq ?_
 refine yv ⟨?_⟩
 generalize fl:bo X aR bc _=a7
 have c0:ab X a7 bc=zs [cY,df,a8] 3:=by rw[<-fl,bi Zo]
 have cm:bh X h j a7 (bc+1):=⟨Zo,λe H=>by rw[<-fl];simp(disch:=omega) only[aG];exact jb.ad e H⟩
 have wX:ab X a7 j=zs [.str g.name, .Z g.at_,cY,df,a8,eR] 6:=by rw[<-fl];simp(disch:=omega) only[aG];exact b5
 clear fl
 have lz:∀e,P e->ab X a7 e=ab X h e:=λe H=>cm.ad e (bB e H)
 refine(alt (j:=bc+1) (h:=a7) az.todx Zo Zo c0 (lr.ad lz) (kg.ad lz) (nD.ad lz) (λe H=>zo (bB e H)) Zo Zo).Zm ?_
 rintro ae bw db ⟨CB,cG,dj⟩
 have jd:=dj.le
 refine yv ⟨?_⟩
 refine(alG (j:=db) (h:=bw) az bX e3 Zo cG (λe H=>H.2) (λd aO=> ?_)).Zm ?_
 ·rcases Zy.1 aO with a|a
  ·exact bI.ef d a
  ·rcases Zy.1 a with a|a
   ·exact bI.out d a
   ·exact bI.loc d a
 rintro ae bS cj ⟨rfl,dF⟩
 have il:=dF.le
 have Iw:bh X a7 (bc+1) bS cj:=dj.trans dF
 have sj:bh X h j bS cj:=cm.trans Iw
 rw[<-Iw.ad _ Zo]at wX
 refine c1 (bR wX) @g2 ⟨?_⟩
 refine fC (λm M U aV=>∃(aa:Nat),M.g 4=some (.Z 0)/\M.g 53=some eR/\M.g 54=some (.Z (g.eqs.length:Int))/\M.g 55=some (.Z (aa:Int))/\aa+m=g.eqs.length/\bh X h j U aV)
  g.eqs.length ⟨0,bp,bp,bp,fQ,Zo,sj⟩ ?_
 rintro m M b4 dH ⟨aa,t4,qb,ko,qc,bL,dV⟩
 have pY:=dV.le
 cases m with
 |zero=>
  have d:=zp aa g.eqs.length
  refine gl @qc @ko @t4 @d ⟨?_⟩
  exact⟨rfl,dV⟩
 |succ m=>
  have d:=zq aa g.eqs.length
  have bH:=zt aa
  obtain⟨ao,b6⟩:=zr g.eqs aa
  have yS:=Zn b6
  have yT:=bI.eqs ao yS
  obtain⟨row,ft,vi⟩:=ff.get aa ao b6
  have qJ:∀e,P e->ab X b4 e=ab X h e:=λe H=>dV.ad e (bB e H)
  have dQ:=jX.e9 aa (by rw[mN.1];omega)
  have hS:=(jX.ad qJ).row Zd ft
  obtain⟨l3,nM,dy,dZ,l4,rfl,hz,lV,mM,o5⟩:=vi
  have Bm:=hz.len
  rw[show(ib ao.left).length=ao.left.length from by simp[ib]]at Bm
  have aAd:0<ao.left.length:=YL.2 yT.some
  have sa:decide ((ao.left.length:Int)=0)=false:=by simp only[Zb];omega
  refine iu @qc @ko @qb @d @dQ @hS ⟨?_⟩
  refine fS (im (F:=4) (b:=dH) (Y:=0) (n:=4) (c:=V.ofList [.aU, .aU, .Z 0, .cy] 0 .nil) (bi Zo) Zo rfl Zd Zd o5) ?_
  generalize ku:bo X _ dH _=cu
  have eQ:ab X cu dH=zs [l3,nM, .Z ao.at_,l4] 4:=by rw[<-ku,bi Zo];rfl
  have e7:bh X h j cu (dH+1):=⟨Zo,λe H=>by rw[<-ku];simp(disch:=omega) only[aG];exact dV.ad e H⟩
  clear ku
  have tY:∀e,P e->ab X cu e=ab X h e:=λe H=>e7.ad e (bB e H)
  refine ce (bR eQ) ⟨?_⟩
  refine(anf (j:=dH+1) (h:=cu) az bX e3 iW Zo (cR.ad tY _ _ mM) (λe H=>zo (bB e H)) yT.right (aD.high ao yS)).Zm ?_
  rintro ae d4 fd ⟨rfl,gy⟩
  have vb:=gy.le
  rw[<-gy.ad _ Zo]at eQ
  have aaq:bh X h j d4 fd:=e7.trans gy
  have BI:∀e,P e->ab X d4 e=ab X h e:=λe H=>aaq.ad e (bB e H)
  refine d9 (bR eQ) @Bm @sa ⟨?_⟩
  refine(atG (j:=fd) (h:=d4) az bX e3 Zo (hz.ad BI) (λe H=>zo (bB e H)) yT.left).Zm ?_
  rintro ae dM jf ⟨rfl,kt⟩
  have f2:decide ((0:Int)=1)=false:=rfl
  have fF:decide ((0:Int)≠0)=false:=rfl
  refine gl @f2 @fF @qc @bH ⟨?_⟩
  exact⟨m,Zo,aa+1,aQ t4,aQ qb,aQ ko,bp,Zo,aaq.trans kt⟩
set_option maxRecDepth 100000 in
def ane(az:iS X)(bX:ma X)(e3:rW X)(iW:x3 X){P:Nat->Prop}{aq:List Go.aZ.Node}{v:J}(aM:(q X).ba<=j)(b0:ns X h P aq v)(bB:∀e,P e->e<j)(bI:∀g∈aq,nr kr g)(ch:aq≠[])(aD:qM aq=none):
 aW X 40 [v] h j (λae U ar=>ae= .Z 0/\bh X h j U ar) (λ_ _ _=>False):=by
 refine zv az.todx (ajh X) ?_
 rw[aji]
 unfold V3
 obtain⟨pX,mK⟩:=Nr aD
 obtain⟨b,a8,cD,bF,rfl,ai,a0,cG,k7⟩:=id b0
 have mN:=k7.wide
 have ew:=cG.len
 rw[mN.1]at ew
 have gp:=bB b ai
 have aA:0<aq.length:=YL.2 ch
 have c3:decide ((aq.length:Int)=0)=false:=by simp only[Zb];omega
 have cQ:decide ((64:Int)<(aq.length:Int))=false:=by simp only[Zb];omega
 refine fW @PV @a0 @ew @c3 @cQ ⟨?_⟩
 refine fC (λm M U aV=>∃(aa:Nat),M.g 3=some (.Z 0)/\M.g 28=some a8/\M.g 29=some (.Z (aq.length:Int))/\M.g 30=some (.Z (aa:Int))/\aa+m=aq.length/\bh X h j U aV)
  aq.length ⟨0,bp,bp,bp,fQ,Zo,bh.refl _ _⟩ ?_
 rintro m M a6 aJ ⟨aa,t3,Cc,s3,Cd,bL,bT⟩
 have jF:=bT.le
 cases m with
 |zero=>
  have d:=zp aa aq.length
  refine gl @Cd @s3 @t3 @d ⟨?_⟩
  exact⟨rfl,bT⟩
 |succ m=>
  have d:=zq aa aq.length
  have bH:=zt aa
  obtain⟨g,nC⟩:=zr aq aa
  have u4:=Zn nC
  obtain⟨row,ft,kh⟩:=k7.get aa g nC
  have vv:∀e,P e->ab X a6 e=ab X h e:=λe H=>bT.ad e (bB e H)
  have dQ:=cG.e9 aa (by rw[mN.1];omega)
  have hS:=(cG.ad vv).row Zd ft
  have jY:=kh.jI
  have Di:=kh
  obtain⟨cY,df,hL,eR,cT,dL,et,ig,hh,rfl,_⟩:=kh
  refine iu @Cd @s3 @Cc @d @dQ @hS ⟨?_⟩
  refine fS (im (F:=6) (b:=aJ) (Y:=0) (n:=6) (c:=V.ofList [.str [], .Z 0, .aU, .aU, .aU, .aU] 0 .nil) (bi Zo) Zo rfl Zd Zd jY) ?_
  generalize d2:bo X _ aJ _=aR
  have cd:ab X aR aJ=zs [.str g.name, .Z g.at_,cY,df,hL,eR] 6:=by rw[<-d2,bi Zo];rfl
  have bC:bh X h j aR (aJ+1):=⟨Zo,λe H=>by rw[<-d2];simp(disch:=omega) only[aG];exact bT.ad e H⟩
  clear d2
  refine ce (bR cd) ⟨?_⟩
  refine(aue (j:=aJ+1) (h:=aR) az bX e3 iW Zo (Di.ad (bv:=P) (λe H=>bC.ad e (bB e H)) (λ_ a=>a)) (λe H=>zo (bB e H)) (bI g u4) (mK g u4)).Zm ?_
  rintro ae a7 bd ⟨rfl,cm⟩
  have f2:decide ((0:Int)=1)=false:=rfl
  have fF:decide ((0:Int)=22)=false:=rfl
  refine gl @f2 @fF @Cd @bH ⟨?_⟩
  exact⟨m,Zo,aa+1,aQ t3,aQ Cc,aQ s3,bp,Zo,bC.trans cm⟩
end
section
variable{X:co}{h U gw a6 aR:V an}{j ar aJ bc:Nat}{s:bq}
def Ot(c:V J)(K b:J):(d3 c 0 [K,b]).get 0=some K:=by rw[kA];simp
def T3(c:V J)(K b:J):(d3 c 0 [K,b]).get 1=some b:=by rw[kA];simp
set_option maxRecDepth 100000 in
def alk(az:iS X)(bX:ma X)(e3:rW X)(iW:x3 X){P:Nat->Prop}{aq:List Go.aZ.Node}{v:J}(aM:(q X).ba<=j)(b0:ns X h P aq v)(bB:∀e,P e->e<j)(bI:∀g∈aq,nr kr g)(ch:aq≠[])(aD:qM aq=none):
 aW X 20 [v] h j (λae U ar=>ae= .agg [.Z (uB aq).1, .Z (uB aq).2]/\bh X h j U ar) (λ_ _ _=>False):=by
 refine zv az.todx (aif X) ?_
 rw[aig]
 unfold Vn
 obtain⟨pX,mK⟩:=Nr aD
 refine oO ?_
 generalize ea:bo X h j _=a6
 have b5:∃c,ab X a6 j=some (.cells c 2 .own):=⟨_,by rw[<-ea,bi aM];rfl⟩
 have bT:bh X h j a6 (j+1):=by rw[<-ea];exact dR
 clear ea
 have vv:∀e,P e->ab X a6 e=ab X h e:=λe H=>bT.ad e (bB e H)
 refine(ane (j:=j+1) (h:=a6) az bX e3 iW Zo (b0.ad (bv:=P) vv (λ_ a=>a)) (λe H=>zo (bB e H)) bI ch aD).Zm ?_
 rintro ae aR bc ⟨rfl,bC⟩
 have f5:=bC.le
 rw[<-bC.ad _ Zo]at b5
 have jb:=bT.trans bC
 obtain⟨b,a8,cD,bF,rfl,ai,a0,cG,k7⟩:=id b0
 have mN:=k7.wide
 have ew:=cG.len
 rw[mN.1]at ew
 have gp:=bB b ai
 have bu:decide ((0:Int)≠0)=false:=rfl
 rw[<-jb.f0 _ _ gp]at a0
 refine d9 @bu @a0 @ew ⟨?_⟩
 refine fC (λm M U aV=>∃(aa:Nat),M.g 0=some (.ptr b 0)/\M.g 2=some (.ptr j 0)/\M.g 13=some a8/\M.g 14=some (.Z (aq.length:Int))/\M.g 15=some (.Z (aa:Int))/\aa+m=aq.length/\bh X h j U aV/\j<aV/\(∃c,ab X U j=some (.cells c 2 .own))/\uB aq=AO aq aa (aq.drop aa))
  aq.length ⟨0,bp,bp,bp,bp,fQ,Zo,jb,Zo,b5,rfl⟩ ?_
 rintro m M a7 bd ⟨aa,t0,eF,lE,my,v8,bL,cm,yP,⟨hk,c0⟩,ml⟩
 have ik:=cm.le
 cases m with
 |zero=>
  have d:=zp aa aq.length
  rw[ZH Zo]at ml
  refine iu @v8 @my @eF @d @Ot @T3 ⟨?_⟩
  refine⟨by rw[ml];rfl, ?_⟩
  exact⟨Zo,λe H=>by rw[aG Zo Zo];exact cm.ad e H⟩
 |succ m=>
  have d:=zq aa aq.length
  have bH:=zt aa
  obtain⟨g,nC⟩:=zr aq aa
  have u4:=Zn nC
  have aO:aq.drop aa=g::aq.drop (aa+1):=by
   obtain⟨ah,H⟩:=Zc.1 nC
   rw[Zw ah,H]
  rw[aO,AO]at ml
  obtain⟨row,ft,kh⟩:=k7.get aa g nC
  have lz:∀e,P e->ab X a7 e=ab X h e:=λe H=>cm.ad e (bB e H)
  have dQ:=cG.e9 aa (by rw[mN.1];omega)
  have hS:=(cG.ad lz).row Zd ft
  have jY:=kh.jI
  have Di:=kh
  obtain⟨cY,df,hL,eR,cT,dL,et,ig,hh,rfl,_⟩:=kh
  refine iu @v8 @my @lE @d @dQ @hS ⟨?_⟩
  refine fS (im (F:=6) (b:=bd) (Y:=0) (n:=6) (c:=V.ofList [.str [], .Z 0, .aU, .aU, .aU, .aU] 0 .nil) (bi Zo) Zo rfl Zd Zd jY) ?_
  generalize eB:bo X _ bd _=bw
  have el:ab X bw bd=zs [.str g.name, .Z g.at_,cY,df,hL,eR] 6:=by rw[<-eB,bi Zo];rfl
  have d5:∀e,e<bd->ab X bw e=ab X a7 e:=λe H=>by rw[<-eB];exact zu
  clear eB
  have dj:bh X h j bw (bd+1):=⟨Zo,λe H=>by rw[d5 e Zo];exact cm.ad e H⟩
  rw[<-d5 _ Zo]at c0
  refine c1 @t0 (bR el) ⟨?_⟩
  refine(S4 (j:=bd+1) (h:=bw) az.todx Zo (λe H=>zo (bB e H)) (Di.ad (bv:=P) (λe H=>dj.ad e (bB e H)) (λ_ a=>a)) (by rw[Ia];have:=(mK g u4).vars;simp only[po];omega)).Zm ?_
  rintro ae bS cj ⟨cF,lb,v1,dl,rfl,lY,Jf,cL,cC,d6,fU,dF⟩
  have il:=dF.le
  have aoB:bh X h j bS cj:=dj.trans (dF.j3 Zo)
  rw[<-dF.ad _ Zo]at c0
  refine c1 @t0 @v8 ⟨?_⟩
  generalize gd:bo X _ (cj+1) _=b4
  have d8:ab X b4 (cj+1)=zs [.ptr b 0, .Z (aa:Int), .ptr cF 0, .map cj, .Z 0, .Z 0] 6:=by rw[<-gd,bi Zo];rfl
  have eQ:ab X b4 cj=some (.map [] 0):=by rw[<-gd];simp(disch:=omega) only[aG,bi]
  have dV:bh X bS cj b4 (cj+1+1):=by rw[<-gd];exact dR
  clear gd
  have aao:bh X h j b4 (cj+1+1):=aoB.trans (dV.j3 Zo)
  rw[<-dV.ad _ Zo]at c0
  have gD:∀e,(P e\/cW (bd+1) cj e)->e<cj+1+1/\e≠cj+1/\e≠cj:=by
   rintro e (H|H)
   ·have:=bB e H;omega
   ·have:=H.2;omega
  refine(alm (j:=cj+1+1) (h:=b4) (P:=λe=>P e\/cW (bd+1) cj e) (F:=aa) (aq:=aq) (g:=g) (cF:= .ptr cF 0) az.todx Zo Zo Zo Zo Zo Zo gD
   (b0.ad (λe H=>aao.ad e (bB e H)) (λ_ a=> .inl a)) nC ⟨cF,lb,rfl, .inr lY, .inr Jf,by rw[dV.f0 _ _ (zo lY.2)];exact cL,cC.ad (dV.ad _ Jf.2)⟩ d8 ⟨[],0,eQ,λ_=>rfl⟩).Zm ?_
  rintro ae cu e1 ⟨rfl,Bc,nE,rt⟩
  have e7:bh X h j cu e1:=⟨Zo,λe H=>by rw[rt e Zo Zo Zo];exact aao.ad e H⟩
  rw[<-rt _ Zo Zo Zo]at c0
  have nx:al X cu (.ptr (cj+1) 4)=some (.Z (qP aq aa g).1):=by unfold ga at Bc;rw[bR Bc];rfl
  have uJ:al X cu (.ptr (cj+1) 5)=some (.Z (qP aq aa g).2):=by unfold ga at Bc;rw[bR Bc];rfl
  by_cases cw:(qP aq aa g).1=0
  ·have CJ:decide ((qP aq aa g).1≠0)=false:=by simp[cw]
   rw[Zh (by simp[cw])]at ml
   refine gl @nx @CJ @v8 @bH ⟨?_⟩
   exact⟨m,Zo,aa+1,aQ t0,aQ eF,aQ lE,aQ my,bp,Zo,e7,Zo,⟨hk,c0⟩,ml⟩
  ·have CJ:decide ((qP aq aa g).1≠0)=true:=by simp[cw]
   rw[Zr cw]at ml
   have sv:bM X cu 2 (.ptr (cj+1) 4)=some (.agg [.Z (qP aq aa g).1, .Z (qP aq aa g).2]):=by rw[oj,nx,uJ];rfl
   refine iu @nx @CJ @sv @eF @Ot @T3 ⟨?_⟩
   refine⟨by rw[ml], ?_⟩
   exact⟨Zo,λe H=>by rw[aG Zo Zo];exact e7.ad e H⟩
end
def SV(n:Nat):∀l:List Nat,om n l=true↔n∈l:=by
 intro l
 induction l with
 |nil=>simp[om]
 |cons K l am=>simp[om,am]
section
variable{X:co}{h U gw a6 aR:V an}{j ar aJ bc:Nat}
end
def s9(X:co)(h:V an)(b:Nat)(ok:Bool):Prop:=∃c,ab X h b=some (.cells c 1 .own)/\c.get 0=some (.bool ok)
section
variable{X:co}{h U gw a6 aR:V an}{j ar aJ bc:Nat}
def s9.ad{b:Nat}{ok:Bool}(a:s9 X h b ok)(F:ab X U b=ab X h b):s9 X U b ok:=by
 obtain⟨c,T,W⟩:=a
 exact⟨c,by rw[F];exact T,W⟩
def s9.ry{b:Nat}{ok:Bool}(a:s9 X h b ok):al X h (.ptr b 0)=some (.bool ok):=by
 obtain⟨c,T,W⟩:=a
 rw[bR T];exact W
def s9.st{b:Nat}{ok v:Bool}{ak:V an->Prop}(a:s9 X h b ok)(ai:(q X).ba<=b)(F:∀U,s9 X U b v->(∀e,e≠b->ab X U e=ab X h e)->ak U):E (b8 X h 1 (.ptr b 0) (.bool v)) ak:=by
 obtain⟨c,T,W⟩:=a
 refine fS (rK T ai Zo rfl rfl) ?_
 exact F _ ⟨_,bi ai,by rw[V.kc,Zr rfl]⟩ (λe H=>aG ai H)
end
open Classical in
section
variable{X:co}{h U gw a6 aR:V an}{j ar aJ bc:Nat}
end
section
variable{X:co}{h U gw a6 aR:V an}{j ar aJ bc:Nat}
def aui{C:a2}{h:V an}(x e:Int):r7 C h .min [3,3] [.int .i64 x, .int .i64 e]=some (.int .i64 (min x e)):=by
 show oM false (.int .i64 x) [.int .i64 e]=_
 simp only[oM,fG,tW]
 congr 2
 simp only[Zg]
 split<;>simp_all<;>omega
def atP:∀{l:List Go.aZ.Node}{F K:Int},rz l=some (F,K)->F=30\/F=22:=by
 intro l
 induction l with
 |nil=>intro F K a;cases a
 |cons g l am=>
  intro F K a
  unfold rz at a
  split at a
  ·cases a;exact .inl rfl
  ·split at a
   ·cases a;exact .inr rfl
   ·exact am a
def avv{s:bq}(aI:s.length<=5000){F K:Int}(a:B2 s= .error (F,K)):F≠0:=by
 have T:=ad1 aI
 rw[a]at T
 unfold B3 at T
 split at T
 ·cases T
 ·cases T;decide
 ·split at T
  ·cases T
  ·cases T;decide
  ·split at T
   ·rename_i aD
    cases T
    unfold qM at aD
    split at aD
    ·cases aD;decide
    ·rcases atP aD with rfl|rfl<;>decide
   ·cases T
end
def jg(t:bq->Option eJ)(w:bq):dJ:=((t w).getD s5).d.ty
def pp:List dJ->Bool
 |[]=>true
 |K::l=>(K::l).all λb=>decide (b=K)
def Ci:dJ:=⟨true,false,1⟩
def yk(aq:List Go.aZ.Node)(nm:bq)(K:List dJ):List dJ×Bool:=
 match aq[(m7 aq nm).getD 0]? with
 |none=>([],false)
 |some g=>(g.out.map (·.ty),decide (g.ef.map (·.ty)=K))
def hg(aq:List Go.aZ.Node)(t:bq->Option eJ)(I:bG)(K:List dJ):List dJ×Bool:=
 let a0:=K.headD dU
 if I.kind=1 then([I.ty],true)
 else if I.kind=2 then([jg t I.name],true)
 else if I.kind=3\/I.kind=5 then([a0],true)
 else if I.kind=4\/I.kind=19\/I.kind=20 then([a0], !a0.b)
 else if I.kind=6 then([a0],(jg t I.name).b)
 else if I.kind=7\/I.kind=8\/I.kind=9\/I.kind=21\/I.kind=22 then([a0],pp K)
 else if I.kind=16\/I.kind=17\/I.kind=18 then([a0],pp K&& !a0.b)
 else if I.kind=10\/I.kind=11 then([Ci],pp K)
 else if I.kind=12\/I.kind=13\/I.kind=14\/I.kind=15 then([Ci],pp K&& !a0.b)
 else if I.kind=23 then([(K[1]?).getD dU],a0.b&&pp K.tail)
 else if I.kind=24 then([a0],pp K&&(jg t I.name).b)
 else if I.kind=26 then([I.ty], !I.ty.b||a0.b)
 else yk aq I.name K
mutual
def sd(aq:List Go.aZ.Node)(t:bq->Option eJ):bG->Except Int (List dJ)
 | .mk F at_ nm no ty n args=>match n1 aq t args with
   | .error K=> .error K
   | .ok (ci,one)=>if one=false then .error at_ else
     let r:=hg aq t (.mk F at_ nm no ty n args) ci
     if r.2=false then .error at_ else .ok r.1
def n1(aq:List Go.aZ.Node)(t:bq->Option eJ):List bG->Except Int (List dJ×Bool)
 |[]=> .ok ([],true)
 |I::l=>match sd aq t I with
  | .error K=> .error K
  | .ok r=>match n1 aq t l with
    | .error K=> .error K
    | .ok (ci,one)=>match r with
      |[x]=> .ok (x::ci,one)
      |_=> .ok (ci,false)
end
def AS(t:bq->Option eJ)(g:Go.aZ.Node):Option Int:=(hl g).findSome? λx=>if x.2.on≠[]/\(jg t x.2.on).b=false then some x.2.fD else none
def rj(aq:List Go.aZ.Node)(t:bq->Option eJ)(ao:gv):Option Int:=match sd aq t ao.right with
 | .error K=>some K
 | .ok row=>if (1<ao.left.length/\ao.right.kind≠25)\/row≠ao.left.map (jg t)then some ao.at_ else none
def xD(aq:List Go.aZ.Node)(g:Go.aZ.Node):Option Int:=match AS (hD g) g with
 |some K=>some K
 |none=>g.eqs.findSome? (rj aq (hD g))
def KG(aq:List Go.aZ.Node):Option Int:=aq.findSome? (xD aq)
end
end Go.Proofs.YtpfajohmofnkfaaGreatDoor

