/- Part of the proof of the last text; no conditions -/
import Derived.Test.YtbbkkkpgjaopkaaGreatDoorYu
set_option maxHeartbeats 8000000
set_option linter.all false
namespace Go.Proofs.YtbbkkkpgjaopkaaGreatDoor
open Go.bs Go.aQ
noncomputable section
def fv(g:Go.aQ.Node):List (Int×d4):=(g.dg.map λd=>(1,d))++((g.out.map λd=>(2,d))++(g.loc.map λd=>(3,d)))
def rz(g:Go.aQ.Node):Nat->List d4
 |0=>g.dg
 |1=>g.out
 |_=>g.loc
def tN(g:Go.aQ.Node):Nat->Nat
 |0=>0
 |1=>g.dg.length
 |2=>g.dg.length+g.out.length
 |_=>g.dg.length+g.out.length+g.loc.length
def asN(g:Go.aQ.Node){q:Nat}(aG:q<3):tN g (q+1)=tN g q+(rz g q).length:=by
 match q,aG with
 |0,_=>simp[tN,rz]
 |1,_=>rfl
 |2,_=>rfl
def W6(g:Go.aQ.Node):(fv g).length=tN g 3:=by simp[fv,tN];omega
def aks(g:Go.aQ.Node){q:Nat}(aG:q<3){Y:Nat}{d:d4}(a:(rz g q)[Y]? =some d):(fv g)[tN g q+Y]? =some (1+(q:Int),d):=by
 match q,aG,a with
 |0,_,a=>
  have bD:=(Zb.1 a).1
  simp only[rz]at a bD
  simp only[fv,tN,ZP]
  rw[ZI (by simpa using bD),Zy,a];rfl
 |1,_,a=>
  have bD:=(Zb.1 a).1
  simp only[rz]at a bD
  simp only[fv,tN]
  rw[ZF Zs,Zp,Nat.add_sub_cancel_left,ZI (by simpa using bD),Zy,a];rfl
 |2,_,a=>
  simp only[rz]at a
  simp only[fv,tN]
  rw[ZF Zx,Zp,ZF Zx,Zp,show g.dg.length+g.out.length+Y-g.dg.length-g.out.length=Y by omega,Zy,a];rfl
section
variable{X:cl}{h R fg aX aP:M ak}{j au aM be:Nat}
def aqq{C:aT}{k:Nat}{E m b:List y}{ah ax:bQ}(a:yN C k (E++m) h j ah ax):mm C (.func (.yield k) E b) m h j ah ax:=⟨a⟩
def akr(az:dW X){P:Nat->Prop}{g:Go.aQ.Node}{q0 k b4 cr cS:Nat}{cW cO a2:y}(dO:Nat->M ak->Nat->Prop)
 (H:et X fg P b4 cW 8 (g.dg.map dy))(K:et X fg P cr cO 8 (g.out.map dy))(am:et X fg P cS a2 8 (g.loc.map dy))
 (b2:aV X h (.ptr q0 2)=some cW)(a3:aV X h (.ptr q0 3)=some cO)(a4:aV X h (.ptr q0 4)=some a2)
 (Fk:∀i h j,dO i h j->(o X).aY<=j/\∀e,P e->Z X h e=Z X fg e)
 (LJ:∀i h j R au,dO i h j->bp X h j R au->dO i R au)
 (V:∀i q d h j,(fv g)[i]? =some (q,d)->dO i h j->yN X k [.Z q, .agg (dy d)] h j (λab R au=>ab= .zT/\dO (i+1) R au) (λ_ _ _=>False))
 (bi:dO 0 h j):a1 X 71 [.func (.yield k) [] [], .ptr q0 0] h j (λ_ R au=>dO (fv g).length R au) (λ_ _ _=>False):=by
 refine zL az (ahj X) ?_
 rw[ahk]
 unfold Vk
 have Mr:∀q,q<3->∃s b,[cW,cO,a2][q]? =some s/\et X fg P b s 8 ((rz g q).map dy):=by
  intro q aG
  match q,aG with
  |0,_=>exact⟨cW,b4,rfl,H⟩
  |1,_=>exact⟨cO,cr,rfl,K⟩
  |2,_=>exact⟨a2,cS,rfl,am⟩
 have ajI:=(iG H.len).1
 have ajN:=(iG K.len).1
 have xc:=(iG am.len).1
 have hY:fe [.aW, .aW, .aW] [(0,1,cW),(1,1,cO),(2,1,a2)]=some (.agg [cW,cO,a2]):=by
  simp[fe,tc,td,nk,ajI,ajN,xc]
 refine eP @b2 @a3 @a4 ⟨?_⟩
 refine gi hY ?_
 refine c7 ⟨?_⟩
 refine gK (λm I R aS=>∃(q:Nat),I.g 0=some (.func (.yield k) [] [])/\I.g 13=some (.agg [cW,cO,a2])/\I.g 14=some (.Z (q:Int))/\q+m=3/\dO (tN g q) R aS)
  3 ⟨0,bF,bF,ho,Zo,bi⟩ ?_
 rintro m I aP be ⟨q,t0,nn,ov,aG,Ax⟩
 cases m with
 |zero=>
  have d:decide ((q:Int)<3)=false:=by simp only[Ze];omega
  refine dq @ov @d ⟨?_⟩
  rw[W6]
  have:q=3:=Zo
  subst this
  exact Ax
 |succ m=>
  have d:decide ((q:Int)<3)=true:=by simp only[Zi];omega
  obtain⟨s,b,aE,c3⟩:=Mr q Zo
  have di:x1 false 3 1 (.agg [cW,cO,a2]) (.Z (q:Int))=some s:=by
   have am:Nat.blt q 3=true:=by simp[Nat.blt];omega
   simp only[x1,sy,am,eW,kp,rs,Yp]
   exact aE
  have er:=c3.len
  have jq:=c3.many
  rw[Zp]at er jq
  refine g0 @ov @nn @d @di @er ⟨?_⟩
  refine gK (λm I R aS=>∃(Y:Nat),I.g 0=some (.func (.yield k) [] [])/\I.g 13=some (.agg [cW,cO,a2])/\I.g 14=some (.Z (q:Int))/\I.g 3=some (.Z (q:Int))/\I.g 18=some s/\I.g 19=some (.Z ((rz g q).length:Int))/\I.g 20=some (.Z (Y:Int))/\Y+m=(rz g q).length/\dO (tN g q+Y) R aS)
   (rz g q).length ⟨0,bz t0,bz nn,bz ov,bF,bF,bF,ho,Zo,Ax⟩ ?_
  rintro fI cP bf bE ⟨Y,t0,nn,ov,t3,GD,wD,Ej,bD,xz⟩
  cases fI with
  |zero=>
   have d:=zF Y (rz g q).length
   have bB:=zJ q
   refine g0 @Ej @wD @ov @d @bB ⟨?_⟩
   refine⟨m,Zo,q+1,bz t0,bz nn,bF,Zo, ?_⟩
   rw[asN g Zo]
   have:Y=(rz g q).length:=Zo
   rw[<-this]
   exact xz
  |succ fI=>
   have d:=zG Y (rz g q).length
   have bB:=zJ Y
   have cp:bg .add (.Z 1) (.Z (q:Int))=some (.Z (1+(q:Int))):=eK Zo Zo
   obtain⟨aR,aH⟩:=zH (rz g q) Y
   obtain⟨rf,CZ⟩:=Fk _ _ _ xz
   have xJ:=c3.g2 Y (by rw[Zp];omega)
   have d2:=(c3.ad CZ).row (i:=Y) (r:=dy aR) Zd (by rw[Zy,aH];rfl)
   have j9:dy aR=[.str aR.name, .Z aR.at_, .bool aR.ty.b, .bool aR.ty.s, .Z aR.ty.w, .str aR.on, .Z aR.fT, .bool aR.no]:=rfl
   rw[j9]at d2
   refine kr @Ej @wD @GD @d @xJ @d2 ⟨?_⟩
   generalize iC:bl X _ bE _=bT
   have ep:Z X bT bE=zI [.str aR.name, .Z aR.at_, .bool aR.ty.b, .bool aR.ty.s, .Z aR.ty.w, .str aR.on, .Z aR.fT, .bool aR.no] 8:=by rw[<-iC,bn rf];rfl
   have dA:bp X bf bE bT (bE+1):=⟨Zo,λe B=>by rw[<-iC];exact zK⟩
   clear iC
   refine g6 @t0 @t3 @cp (bU ep) ⟨?_⟩
   refine aqq ((V _ _ _ _ _ (aks g Zo aH) (LJ _ _ _ _ _ xz dA)).mono ?_ (λ_ _ _ a=>False.elim a))
   rintro ab bZ ct ⟨rfl,h6⟩
   refine dq @Ej @bB ⟨?_⟩
   exact⟨fI,Zo,Y+1,bz t0,bz nn,bz ov,bz t3,bz GD,bz wD,bF,Zo,h6⟩
def Lc(az:dW X){P:Nat->Prop}{g:Go.aQ.Node}{n e3 g9 q0 b4 cr cS:Nat}{cW cO a2:y}{A bj:Ko}{ah:fK}{D:Nat->fK}{r:fK}{ax:sX}{I:dc}(dO:Nat->M ak->Nat->Prop)
 (aI:(o X).aY<=j)(eb:e3<n)(dm:g9<n)(Q3:q0<j)
 (H:et X h P b4 cW 8 (g.dg.map dy))(K:et X h P cr cO 8 (g.out.map dy))(am:et X h P cS a2 8 (g.loc.map dy))
 (b2:aV X h (.ptr q0 2)=some cW)(a3:aV X h (.ptr q0 3)=some cO)(a4:aV X h (.ptr q0 4)=some a2)
 (Fk:∀i R aS,dO i R aS->j+2<=aS/\∀e,P e->Z X R e=Z X h e)
 (LJ:∀i aX aM aP be,dO i aX aM->aM<=be->(∀e,e<aM->e≠j+1->Z X aP e=Z X aX e)->dO i aP be)
 (bi:∀R,bp X h j R (j+2)->dO 0 R (j+2))
 (aps:∀mk i q d aX aM,(fv g)[i]? =some (q,d)->dO i aX aM->Z X aX j=some (.deferred (some []))->Z X aX (j+1)=some (mk .ready none)->
  sK X A bj (j+1) mk (λab R aS=>ab= .zT/\dO (i+1) R aS/\Z X R j=some (.deferred (some []))/\Z X R (j+1)=some (mk .ready none)) (λ_ _ _=>False) (ae (ae I e3 (.Z q)) g9 (.agg (dy d))) aX aM)
 (C6:∀R aS,dO (fv g).length R aS->Z X R j=some (.deferred (some []))->ah (u1 I j) R aS):
 D8 X n (.func (.func 71) [] [.ptr q0 0]) [e3,g9] (sK X A bj) ah D r ax I h j:=by
 refine⟨aI, ?_⟩
 intro mk IE
 refine WC (az.none _ _ rfl) ?_
 generalize eN:bl X (bl X h j _) (j+1) _=aX
 have lV:Z X aX j=some (.deferred (some [])):=by rw[<-eN,aL Zo Zo,bn aI]
 have iB:Z X aX (j+1)=some (mk .ready none):=by rw[<-eN,bn Zo]
 have bY:bp X h j aX (j+2):=⟨Zo,λe B=>by rw[<-eN];exact zK⟩
 clear eN
 have β:=bi aX bY
 obtain⟨_,LL⟩:=Fk _ _ _ β
 refine(akr (k:=j+1) az (λi R aS=>dO i R aS/\Z X R j=some (.deferred (some []))/\Z X R (j+1)=some (mk .ready none)) (H.ad LL) (K.ad LL) (am.ad LL)
  (by rw[bY.fm _ _ Q3];exact b2) (by rw[bY.fm _ _ Q3];exact a3) (by rw[bY.fm _ _ Q3];exact a4)
  (λi R aS a=> ?_) (λi aX aM aP be a bP=> ?_) (λi q d aX aM aF a=> ?_) ⟨β,lV,iB⟩).Zm ?_
 ·obtain⟨cF,cH⟩:=Fk _ _ _ a.1
  exact⟨Zo,λe B=>by rw[cH e B,LL e B]⟩
 ·obtain⟨cF,cH⟩:=Fk _ _ _ a.1
  exact⟨LJ _ _ _ _ _ a.1 bP.le (λe B _=>bP.ad e B),by rw[bP.ad _ Zo];exact a.2.1,by rw[bP.ad _ Zo];exact a.2.2⟩
 ·refine IE _ _ _ _ _ a.2.2 ?_
  have bB:Nat.blt e3 n=true:=by simp[Nat.blt];omega
  have cp:Nat.blt g9 n=true:=by simp[Nat.blt];omega
  simp only[Gy,bB,cp,eW]
  exact aps mk i q d aX aM aF a.1 a.2.1 a.2.2
 ·rintro ab aP be ⟨Ax,al4,ama⟩
  obtain⟨cF,cH⟩:=Fk _ _ _ Ax
  refine⟨.ready,none,Zs,ama, ?_⟩
  show ah _ _ _
  exact C6 _ _ (LJ _ _ _ _ _ Ax (Zj _) (λe B I3=>aL Zo I3)) (by rw[aL Zo Zo];exact al4)
end
def Ak{α eH:Type}(st:eH->α->eH)(s:eH){k:List α}{i:Nat}{x:α}(a:k[i]? =some x):(k.take (i+1)).foldl st s=st ((k.take i).foldl st s) x:=by
 rw[YQ,a,zx];rfl
def kM(s:(ba->Option Int)×(Int×Int))(x:Int×d4):(ba->Option Int)×(Int×Int):=
 (λw=>if w=x.2.name then some x.1 else s.1 w,if 0<(s.1 x.2.name).getD 0 then la s.2 24 x.2.at_ else s.2)
def qf(t:ba->Option fZ)(f:Int×Int)(x:Int×d4):Int×Int:=if t x.2.on=none/\x.2.on≠[]then la f 23 x.2.fT else f
def pF(t:ba->Option fZ)(g:Go.aQ.Node)(f:Int×Int):Int×Int:=(fv g).foldl (qf t) ((fv g).foldl kM (λ_=>none,f)).2
section
variable{X:cl}{h R fg aX aP:M ak}{j au aM be:Nat}
def Lb(az:dW X){nm cW cO a2 dF:y}{E:y}(aI:(o X).aY<=j):
 a1 X 39 [.agg [nm,E,cW,cO,a2,dF]] h j (λab R au=>ab= .func (.func 71) [] [.ptr j 0]/\au=j+1/\bp X h j R au/\aV X R (.ptr j 2)=some cW/\aV X R (.ptr j 3)=some cO/\aV X R (.ptr j 4)=some a2) (λ_ _ _=>False):=by
 refine zL az (agv X) ?_
 rw[agw]
 unfold UN
 refine c7 ⟨?_⟩
 exact⟨rfl,rfl,dM,by rw[bU (bn aI)];rfl,by rw[bU (bn aI)];rfl,by rw[bU (bn aI)];rfl⟩
structure rL(X:cl)(iv:M ak)(d1 cL nf:Nat)(p:y)(q:Int)(dK c1:y)(f:Int×Int)(aa:ba->Option Int)(h:M ak)(n:Nat):Prop where
 le:d1+2<=n
 jQ:fP X h cL p q dK c1 f
 seen:oC X h nf (n3 aa)
 low:∀e,e<d1->e≠cL->e≠nf->Z X h e=Z X iv e
def rL.ad{iv:M ak}{d1 cL nf:Nat}{p dK c1:y}{q:Int}{f:Int×Int}{aa:ba->Option Int}(a:rL X iv d1 cL nf p q dK c1 f aa aX aM)(m7:cL<d1)(IB:nf<d1)(aI:aM<=be)(aG:∀e,e<aM->e≠d1+1->Z X aP e=Z X aX e):rL X iv d1 cL nf p q dK c1 f aa aP be:=by
 have fa:=a.le
 refine⟨Zo, ?_,a.seen.ad (aG _ Zo Zo),λe H K am=>by rw[aG e Zo Zo];exact a.low e H K am⟩
 have:=a.jQ
 unfold fP at*
 rw[aG _ Zo Zo];exact this
def aj2(az:dW X){P:Nat->Prop}{cL:Nat}{p dK c1:y}{q:Int}{t:ba->Option fZ}{g:Go.aQ.Node}{row:List y}(aI:(o X).aY<=j)(m7:(o X).aY<=cL)(xF:cL<j)
 (bI:∀e,P e->e<j/\e≠cL)(a8:wY X h P dK t){f:Int×Int}(aA:fP X h cL p q dK c1 f)(bw:lr X h P g row)(xK:True):
 a1 X 42 [.ptr cL 0, .agg row] h j (λab R au=>ab= .tuple []/\fP X R cL p q dK c1 (pF t g f)/\j<=au/\∀e,e<j->e≠cL->Z X R e=Z X h e) (λ_ _ _=>False):=by
 refine KT (agB X) (az.none _ _ rfl) ?_
 rw[agC]
 unfold UR
 obtain⟨cW,cO,a2,dF,b4,cr,cS,fh,aK,rfl,jA,iD,jB,hq,dJ⟩:=bw
 refine c7 ⟨?_⟩
 refine e8 (λaX=>Z X aX j=zI [.ptr cL 0] 1/\Z X aX (j+1)=zI [.str g.name, .Z g.at_,cW,cO,a2,dF] 6
  /\Z X aX (j+1+1)=some (.map [] 0)/\aV X aX (.ptr (j+1+1+1) 0)=some (.map (j+1+1))/\bp X h j aX (j+1+1+1+1)) ⟨by(first|assumption|(simp(disch:=omega) only[bn,aL]<;>rfl)|(simp(disch:=omega) only[bn,aL])),by(first|assumption|(simp(disch:=omega) only[bn,aL]<;>rfl)|(simp(disch:=omega) only[bn,aL])),by(first|assumption|(simp(disch:=omega) only[bn,aL]<;>rfl)|(simp(disch:=omega) only[bn,aL])),by rw[cT,bn Zo];rfl,dM⟩ ?_
 rintro aX ⟨eC,g1,b5,cR,bY⟩
 refine(Lb az Zo).Zm ?_
 rintro ab aP be ⟨rfl,rfl,b6,cH,d7,fU⟩
 have mB:bp X h j aP (j+1+1+1+1+1):=bY.trans b6
 have tC:∀e,P e->Z X aP e=Z X h e:=λe B=>mB.ad e (bI e B).1
 rw[<-b6.ad _ Zo]at eC g1 b5
 rw[<-b6.fm _ _ Zo]at cR
 generalize aoO:j+1+1+1+1+1=d1 at*
 have Fr:fP X aP cL p q dK c1 f:=by unfold fP at*;rw[mB.ad cL xF];exact aA
 have FB:oC X aP (j+1+1) (n3 λ_=>none):=⟨[],0,b5,λ_=>rfl⟩
 refine gT ?_
 refine Lc (P:=P) (g:=g) (b4:=b4) (cr:=cr) (cS:=cS) (cW:=cW) (cO:=cO) (a2:=a2) az (λi R aS=>rL X aP d1 cL (j+1+1) p q dK c1 (((fv g).take i).foldl kM (λ_=>none,f)).2 (((fv g).take i).foldl kM (λ_=>none,f)).1 R aS) Zo Zo Zo Zo
  (jA.ad tC) (iD.ad tC) (jB.ad tC) cH d7 fU (λi R aS a=>⟨a.le,λe B=>a.low e (zE (bI e B).1) (bI e B).2 (zE (bI e B).1)⟩)
  (λi aX aM aP be a fa aG=>a.ad Zo Zo fa aG) (λR bP=>⟨Zj _,by unfold fP at*;rw[bP.ad _ Zo];exact Fr,FB.ad (bP.ad _ Zo),λe B _ _=>bP.ad e B⟩) ?_ ?_
 ·intro mk i e2 d bf bE aF ih lV iB
  rw[Ak kM _ aF]
  generalize ((fv g).take i).foldl kM (λ_=>none,f)=bX at ih ⊢
  have fa:=ih.le
  have j9:dy d=[.str d.name, .Z d.at_, .bool d.ty.b, .bool d.ty.s, .Z d.ty.w, .str d.on, .Z d.fT, .bool d.no]:=rfl
  rw[j9]
  unfold sK
  refine c7 ⟨?_⟩
  generalize iC:bl X _ bE _=bT
  have ep:Z X bT bE=zI [.str d.name, .Z d.at_, .bool d.ty.b, .bool d.ty.s, .Z d.ty.w, .str d.on, .Z d.fT, .bool d.no] 8:=by rw[<-iC,bn Zo];rfl
  have eL:∀e,e<bE->Z X bT e=Z X bf e:=λe B=>by rw[<-iC];exact zK
  clear iC
  refine⟨by rw[eL _ Zo];exact iB, ?_⟩
  generalize iS:bl X bT (d1+1) _=bZ
  have fw:Z X bZ (d1+1)=some (mk .busy none):=by rw[<-iS,bn Zo]
  have eM:∀e,e≠d1+1->Z X bZ e=Z X bT e:=λe B=>by rw[<-iS,aL Zo B]
  clear iS
  have h6:=ih.ad (aP:=bZ) (be:=bE+1) Zo Zo Zo (λe H K=>by rw[eM e K,eL e H])
  rw[<-eM _ Zo]at ep
  have uq:Z X bZ d1=some (.deferred (some [])):=by rw[eM _ Zo,eL _ Zo];exact lV
  have ch:aV X bZ (.ptr j 0)=some (.ptr cL 0):=by rw[bU (show Z X bZ j=_ by rw[h6.low _ Zo Zo Zo];exact eC)];rfl
  have cS:aV X bZ (.ptr (j+1+1+1) 0)=some (.map (j+1+1)):=zP (h6.low _ Zo Zo Zo) cR
  have kb:nd X bZ 9 (.Z 0) (.map (j+1+1)) (.str d.name) false=some (.Z ((bX.1 d.name).getD 0)):=by
   rw[DL h6.seen];unfold n3;cases bX.1 d.name<;>rfl
  refine gG @cS @kb (bU ep) ⟨?_⟩
  refine gT ?_
  refine gG @cS @kb (bU ep) ⟨?_⟩
  refine kx (λcP R aS=>cP.g 4=some (.ptr (j+1+1+1) 0)/\cP.g 6=some (.ptr bE 0)/\cP.g 5=some (.Z e2)/\rL X aP d1 cL (j+1+1) p q dK c1 (kM bX (e2,d)).2 bX.1 R aS/\bE+1<=aS
   /\Z X R bE=zI [.str d.name, .Z d.at_, .bool d.ty.b, .bool d.ty.s, .Z d.ty.w, .str d.on, .Z d.fT, .bool d.no] 8/\Z X R d1=some (.deferred (some []))/\Z X R (d1+1)=some (mk .busy none)) (λY bD=> ?_) ?_
  ·by_cases aE:0<(bX.1 d.name).getD 0
   ·have aR:decide (0<(bX.1 d.name).getD 0)=true:=by simp[aE]
    refine eP @aR @ch (bU ep) ⟨?_⟩
    refine(vv (h:=bZ) az m7 h6.jQ 24 d.at_).Zm ?_
    rintro ab b9 dP ⟨rfl,anA,qx,n9⟩
    refine c7 ⟨?_⟩
    refine bD _ _ _ ⟨bF,bF,bF,⟨Zo, ?_,h6.seen.ad (n9 _ Zo),λe H K am=>by rw[n9 e K];exact h6.low e H K am⟩,Zo,by rw[n9 _ Zo];exact ep,by rw[n9 _ Zo];exact uq,by rw[n9 _ Zo];exact fw⟩
    unfold kM
    simp only[aE,ZE]
    exact anA
   ·have aR:decide (0<(bX.1 d.name).getD 0)=false:=by simp[aE]
    refine ce @aR ⟨?_⟩
    refine bD _ _ _ ⟨bF,bF,bF,⟨Zo, ?_,h6.seen,h6.low⟩,Zo,ep,uq,fw⟩
    unfold kM
    simp only[aE,ZD]
    exact h6.jQ
  ·rintro cP b9 dP ⟨t4,fN,t5,jc,qx,dU,r7,amc⟩
   have Fz:=jc.le
   have Cv:aV X b9 (.ptr (j+1+1+1) 0)=some (.map (j+1+1)):=zP (jc.low _ Zo Zo Zo) cR
   show cg _ _
   refine g0 @t4 @fN @t5 @Cv (bU dU) ⟨?_⟩
   obtain⟨cm,uK,amM,pO⟩:=M3 (j:=dP) (show(o X).aY<=j+1+1 by omega) jc.seen d.name (.Z e2)
   refine kh uK ?_
   refine c7 ⟨?_⟩
   refine⟨⟨.busy,none,by rw[pO _ Zo];exact amc⟩, ?_⟩
   have AA:fP X cm cL p q dK c1 (kM bX (e2,d)).2:=by have:=jc.jQ;unfold fP at*;rw[pO cL Zo];exact this
   have amN:oC X cm (j+1+1) (n3 (kM bX (e2,d)).1):=by
    have:(λx=>if x=d.name then some (y.Z e2)else n3 bX.1 x)=n3 (kM bX (e2,d)).1:=by
     funext x;unfold n3 kM;by_cases a:x=d.name<;>simp[a]
    rw[<-this];exact amM
   have q7:rL X aP d1 cL (j+1+1) p q dK c1 (kM bX (e2,d)).2 (kM bX (e2,d)).1 cm dP:=⟨Fz,AA,amN,λe H K am=>by rw[pO e am];exact jc.low e H K am⟩
   exact⟨rfl,q7.ad Zo Zo (Zj _) (λe H K=>aL Zo K),by rw[aL Zo Zo,pO _ Zo];exact r7,bn Zo⟩
 ·intro bf bE ih lV
  rw[zq]at ih
  unfold pF
  generalize (fv g).foldl kM (λ_=>none,f)=bX at ih ⊢
  have fa:=ih.le
  have vH:Z X bf (j+1)=zI [.str g.name, .Z g.at_,cW,cO,a2,dF] 6:=by rw[ih.low _ Zo Zo Zo];exact g1
  refine ce (bU vH) ⟨?_⟩
  refine(Lb az Zo).Zm ?_
  rintro ab bT b3 ⟨rfl,rfl,dA,cH,d7,fU⟩
  generalize uL:bE+1=dh at*
  have sf:fP X bT cL p q dK c1 bX.2:=by have:=ih.jQ;unfold fP at*;rw[dA.ad cL Zo];exact this
  have HP:Z X bT d1=some (.deferred (some [])):=by rw[dA.ad _ Zo];exact lV
  have x3:∀e,P e->Z X bT e=Z X h e:=λe B=>by
   have:=bI e B
   rw[dA.ad e Zo,ih.low e Zo this.2 Zo,tC e B]
  have ai7:Z X bT j=zI [.ptr cL 0] 1:=by rw[dA.ad _ Zo,ih.low _ Zo Zo Zo];exact eC
  refine gT ?_
  refine Lc (P:=P) (g:=g) (b4:=b4) (cr:=cr) (cS:=cS) (cW:=cW) (cO:=cO) (a2:=a2) az (λi R aS=>rL X bT dh cL (j+1+1) p q dK c1 (((fv g).take i).foldl (qf t) bX.2) bX.1 R aS) Zo Zo Zo Zo
   (jA.ad x3) (iD.ad x3) (jB.ad x3) cH d7 fU (λi R aS a=>⟨a.le,λe B=>a.low e (zE (bI e B).1) (bI e B).2 (zE (bI e B).1)⟩)
   (λi aX aM aP be a fa aG=>a.ad Zo Zo fa aG) (λR bP=>⟨Zj _,by unfold fP at*;rw[bP.ad _ Zo];exact sf,(ih.seen.ad (dA.ad _ Zo)).ad (bP.ad _ Zo),λe B _ _=>bP.ad e B⟩) ?_ ?_
  ·intro mk i e2 d bZ ct aF h6 uq amb
   rw[Ak (qf t) _ aF]
   generalize ((fv g).take i).foldl (qf t) bX.2=G at h6 ⊢
   have hQ:=h6.le
   have j9:dy d=[.str d.name, .Z d.at_, .bool d.ty.b, .bool d.ty.s, .Z d.ty.w, .str d.on, .Z d.fT, .bool d.no]:=rfl
   rw[j9]
   unfold sK
   refine c7 ⟨?_⟩
   generalize hX:bl X _ ct _=b9
   have dU:Z X b9 ct=zI [.str d.name, .Z d.at_, .bool d.ty.b, .bool d.ty.s, .Z d.ty.w, .str d.on, .Z d.fT, .bool d.no] 8:=by rw[<-hX,bn Zo];rfl
   have dS:∀e,e<ct->Z X b9 e=Z X bZ e:=λe B=>by rw[<-hX];exact zK
   clear hX
   refine⟨by rw[dS _ Zo];exact amb, ?_⟩
   generalize mg:bl X b9 (dh+1) _=cm
   have eu:Z X cm (dh+1)=some (mk .busy none):=by rw[<-mg,bn Zo]
   have e1:∀e,e≠dh+1->Z X cm e=Z X b9 e:=λe B=>by rw[<-mg,aL Zo B]
   clear mg
   have q7:=h6.ad (aP:=cm) (be:=ct+1) Zo Zo Zo (λe H K=>by rw[e1 e K,dS e H])
   rw[<-e1 _ Zo]at dU
   have tg:Z X cm dh=some (.deferred (some [])):=by rw[e1 _ Zo,dS _ Zo];exact uq
   have ch:aV X cm (.ptr j 0)=some (.ptr cL 0):=by rw[bU (show Z X cm j=_ by rw[q7.low _ Zo Zo Zo];exact ai7)];rfl
   have cD:aV X cm (.ptr cL 2)=some dK:=by have:=q7.jQ;unfold fP at this;rw[bU this];rfl
   have kO:∀R aS,rL X bT dh cL (j+1+1) p q dK c1 (qf t G (e2,d)) bX.1 R aS->Z X R dh=some (.deferred (some []))->(y.bool true=y.bool true/\rL X bT dh cL (j+1+1) p q dK c1 (qf t G (e2,d)) bX.1 (bl X R (dh+1) (some (mk .ready none))) aS/\Z X (bl X R (dh+1) (some (mk .ready none))) dh=some (.deferred (some []))/\Z X (bl X R (dh+1) (some (mk .ready none))) (dh+1)=some (mk .ready none)):=λR aS a K=>
    ⟨rfl,a.ad Zo Zo (Zj _) (λe H K=>aL Zo K),by rw[aL Zo Zo];exact K,bn Zo⟩
   refine vI ⟨?_⟩
   refine gT ?_
   refine eP @ch @cD (bU dU) ⟨?_⟩
   refine e8 (λdk=>Z X dk (ct+1+10)=zI [.Z 0, .str [], .Z 0, .zF, .zF, .Z 0, .str [], .Z 0, .zF, .Z 0, .Z 0] 11/\bp X cm (ct+1) dk (ct+1+10+1)) ⟨by rw[bn Zo];rfl,Zo,λe B=>zK⟩ ?_
   rintro dk ⟨hf,kt⟩
   refine(Qf (j:=ct+1+13) (h:=dk) az Zo (a8.ad (Q:=P) (λe B=>by have:=bI e B;rw[kt.ad e Zo,q7.low e Zo this.2 Zo,x3 e B]) (λ_ a=>a)) (λe B=>zE (bI e B).1) d.on).Zm ?_
   rintro ab d8 kd ⟨rfl,nB⟩
   have uH:=nB.le
   have nz:Z X d8 (ct+1+10)=zI [.Z 0, .str [], .Z 0, .zF, .zF, .Z 0, .str [], .Z 0, .zF, .Z 0, .Z 0] 11:=by rw[nB.ad _ Zo];exact hf
   generalize Dx:(t d.on).getD wI=e7
   have uT:p8 e7=[.Z e7.kind, .str e7.d.name, .Z e7.d.at_, .bool e7.d.ty.b, .bool e7.d.ty.s, .Z e7.d.ty.w, .str e7.d.on, .Z e7.d.fT, .bool e7.d.no, .Z e7.eq, .Z e7.left]:=rfl
   rw[uT]
   refine hU ⟨?_⟩
   refine hU ⟨?_⟩
   refine gi (jJ (q:=11) (b:=ct+1+10) (W:=0) (n:=11) nz Zo rfl Zd Zd rfl) ?_
   generalize vR:bl X d8 (ct+1+10) _=iv
   have nJ:∀e,e<ct+1->Z X iv e=Z X cm e:=λe B=>by rw[<-vR,aL Zo Zo,nB.ad e Zo,kt.ad e B]
   clear vR hf nz
   have pH:rL X bT dh cL (j+1+1) p q dK c1 G bX.1 iv kd:=q7.ad Zo Zo Zo (λe H K=>nJ e H)
   rw[<-nJ _ Zo]at dU eu tg
   have ai9:aV X iv (.ptr j 0)=some (.ptr cL 0):=zP (nJ _ Zo) ch
   cases sl:(t d.on)with
   |some awc=>
    have q9:qf t G (e2,d)=G:=by unfold qf;rw[Zg (by simp[sl])]
    simp only[Z8]
    refine c7 ⟨?_⟩
    rw[q9]at kO ⊢
    exact⟨⟨.busy,none,eu⟩,kO _ _ pH tg⟩
   |none=>
    simp only[Z4]
    by_cases mj:d.on=[]
    ·have q9:qf t G (e2,d)=G:=by unfold qf;rw[Zg (by simp[mj])]
     have aR:decide (d.on≠[])=false:=by simp[mj]
     refine dq (bU dU) @aR ⟨?_⟩
     rw[q9]at kO ⊢
     exact⟨⟨.busy,none,eu⟩,kO _ _ pH tg⟩
    ·have q9:qf t G (e2,d)=la G 23 d.fT:=by unfold qf;rw[Zu ⟨sl,mj⟩]
     have aR:decide (d.on≠[])=true:=by simp[mj]
     refine eP (bU dU) @aR @ai9 ⟨?_⟩
     refine(vv (h:=iv) az m7 pH.jQ 23 d.fT).Zm ?_
     rintro ab aic asq ⟨rfl,QR,aot,rb⟩
     refine c7 ⟨?_⟩
     rw[q9]at kO ⊢
     have aoq:=pH.le
     exact⟨⟨.busy,none,by rw[rb _ Zo];exact eu⟩,kO _ _ ⟨Zo,QR,pH.seen.ad (rb _ Zo),λe H K am=>by rw[rb e K];exact pH.low e H K am⟩ (by rw[rb _ Zo];exact tg)⟩
  ·intro bZ ct h6 uq
   rw[zq]at h6
   generalize (fv g).foldl (qf t) bX.2=G at h6 ⊢
   have hQ:=h6.le
   have al6:Z X bZ d1=some (.deferred (some [])):=by rw[h6.low _ Zo Zo Zo];exact HP
   show pj X [] _ _ _ _ _
   simp only[wj,u6,w2]
   refine⟨by show(o X).aY<=dh;omega,uq, ?_⟩
   refine⟨by show(o X).aY<=d1;omega,by rw[aL Zo Zo];exact al6, ?_⟩
   show qI _ _ _ _ _
   refine⟨rfl, ?_,Zo,λe H K=> ?_⟩
   ·have:=h6.jQ
    unfold fP at*
    rw[aL Zo Zo,aL Zo Zo];exact this
   ·rw[aL Zo Zo,aL Zo Zo,h6.low e Zo K Zo,dA.ad e Zo,ih.low e Zo K Zo,mB.ad e H]
end
def pY(s:(ba->Option fZ)×List ba)(x:Int×d4):(ba->Option fZ)×List ba:=
 if (s.1 x.2.name).isSome then s else(λw=>if w=x.2.name then some ⟨x.1,x.2, -1, -1⟩else s.1 w,s.2++[x.2.name])
def tO(q:Nat)(t:ba->Option fZ)(x:ba×Nat):ba->Option fZ:=match t x.1 with
 |some v=>if v.eq<0 then(λw=>if w=x.1 then some ⟨v.kind,v.d,q,x.2⟩else t w)else t
 |none=>t
def JB(t:ba->Option fZ)(x:ee×Nat):ba->Option fZ:=x.1.left.zipIdx.foldl (tO x.2) t
def ol(g:Go.aQ.Node):(ba->Option fZ)×List ba:=(fv g).foldl pY (λ_=>none,[])
def f2(g:Go.aQ.Node):ba->Option fZ:=g.eqs.zipIdx.foldl JB (ol g).1
def M6(g:Go.aQ.Node):List ba:=(ol g).2
def wF(t:ba->Option fZ):ba->Option y:=λw=>(t w).map λv=> .agg (p8 v)
def TW{α:Type}{k:List α}{i:Nat}{x:α}(a:k[i]? =some x):k.zipIdx[i]? =some (x,i):=by
 rw[List.getElem?_zipIdx,a];simp
section
variable{X:cl}{h R fg aX aP:M ak}{j au aM be:Nat}
structure rT(X:cl)(iv:M ak)(d1 nf dK bR:Nat)(t:ba->Option fZ)(hj:List ba)(h:M ak)(n:Nat):Prop where
 le:bR<=n
 map:oC X h nf (wF t)
 GG:∃c a2 cy,Z X h dK=some (.cells c 2 .own)/\c.get 0=some (.map nf)/\c.get 1=some a2/\gu X h a2 1 (hj.map .str) cy/\∀e∈cy,bR<=e/\e<n
 low:∀e,e<d1->e≠nf->e≠dK->Z X h e=Z X iv e
def rT.ad{iv:M ak}{d1 nf dK bR:Nat}{t:ba->Option fZ}{hj:List ba}(a:rT X iv d1 nf dK bR t hj aX aM)(IB:nf<d1)(mK:dK<d1)(mG:d1<=bR)(aI:aM<=be)(aG:∀e,e<aM->(e<d1\/bR<=e)->Z X aP e=Z X aX e):rT X iv d1 nf dK bR t hj aP be:=by
 have fa:=a.le
 refine⟨Zo,a.map.ad (aG _ Zo Zo), ?_,λe H K am=>by rw[aG e Zo Zo];exact a.low e H K am⟩
 obtain⟨c,a2,cy,g1,b5,cR,ep,fw⟩:=a.GG
 exact⟨c,a2,cy,by rw[aG _ Zo Zo];exact g1,b5,cR,ep.ad (λe B=>by have:=fw e B;exact aG e Zo Zo),λe B=>zE (fw e B)⟩
def asM(az:dW X){P:Nat->Prop}{g:Go.aQ.Node}{row:List y}(aI:(o X).aY<=j)(bI:∀e,P e->e<j)(bw:lr X h P g row)(bc:(fv g).length<=300000):
 a1 X 23 [.agg row] h j (λab R au=>∃dK nf a2 b,ab= .ptr dK 0/\ei j au dK/\ei j au nf/\aV X R (.ptr dK 0)=some (.map nf)/\oC X R nf (wF (f2 g))/\aV X R (.ptr dK 1)=some a2/\et X R (ei j au) b a2 1 (ip (M6 g))/\bp X h j R au) (λ_ _ _=>False):=by
 refine KT (af6 X) (az.none _ _ rfl) ?_
 rw[af7]
 unfold UB
 obtain⟨cW,cO,a2,dF,b4,cr,cS,fh,aK,rfl,jA,iD,jB,hq,dJ⟩:=bw
 refine c7 ⟨?_⟩
 refine e8 (λaX=>Z X aX j=zI [.str g.name, .Z g.at_,cW,cO,a2,dF] 6
  /\Z X aX (j+1)=some (.map [] 0)/\Z X aX (j+1+1)=zI [.map (j+1), .aW] 2/\aV X aX (.ptr (j+1+1+1) 0)=some (.ptr (j+1+1) 0)/\bp X h j aX (j+1+1+1+1)) ⟨by(first|assumption|(simp(disch:=omega) only[bn,aL]<;>rfl)|(simp(disch:=omega) only[bn,aL])),by(first|assumption|(simp(disch:=omega) only[bn,aL]<;>rfl)|(simp(disch:=omega) only[bn,aL])),by(first|assumption|(simp(disch:=omega) only[bn,aL]<;>rfl)|(simp(disch:=omega) only[bn,aL])),by rw[cT,bn Zo];rfl,dM⟩ ?_
 rintro aX ⟨eC,g1,b5,cR,bY⟩
 refine(Lb az Zo).Zm ?_
 rintro ab aP be ⟨rfl,rfl,b6,cH,d7,fU⟩
 have mB:bp X h j aP (j+1+1+1+1+1):=bY.trans b6
 have tC:∀e,P e->Z X aP e=Z X h e:=λe B=>mB.ad e (bI e B)
 rw[<-b6.ad _ Zo]at eC g1 b5
 rw[<-b6.fm _ _ Zo]at cR
 generalize aoO:j+1+1+1+1+1=d1 at*
 refine gT ?_
 refine Lc (P:=P) (g:=g) (b4:=b4) (cr:=cr) (cS:=cS) (cW:=cW) (cO:=cO) (a2:=a2) az (λi R aS=>rT X aP d1 (j+1) (j+1+1) (d1+2) (((fv g).take i).foldl pY (λ_=>none,[])).1 (((fv g).take i).foldl pY (λ_=>none,[])).2 R aS/\(((fv g).take i).foldl pY (λ_=>none,[])).2.length<=i) Zo Zo Zo Zo
  (jA.ad tC) (iD.ad tC) (jB.ad tC) cH d7 fU (λi R aS a=>⟨a.1.le,λe B=>a.1.low e (zE (bI e B)) (zE (bI e B)) (zE (bI e B))⟩)
  (λi aX aM aP be a fa aG=>⟨a.1.ad Zo Zo Zo fa (λe H K=>aG e H Zo),a.2⟩)
  (λR bP=>⟨⟨Zj _,⟨[],0,by rw[bP.ad _ Zo];exact g1,λ_=>rfl⟩,⟨_, .aW,[],by rw[bP.ad _ Zo];exact b5,rfl,rfl, .inl (.inl ⟨rfl,rfl,rfl⟩),λe B=>by simp at B⟩,λe B _ _=>bP.ad e B⟩,Zs⟩) ?_ ?_
 ·intro mk i e2 d bf bE aF ih lV iB
  rw[Ak pY _ aF]
  generalize ((fv g).take i).foldl pY (λ_=>none,[])=bX at ih ⊢
  obtain⟨ih,eO⟩:=ih
  have axd:=(Zb.1 aF).1
  have fa:=ih.le
  have j9:dy d=[.str d.name, .Z d.at_, .bool d.ty.b, .bool d.ty.s, .Z d.ty.w, .str d.on, .Z d.fT, .bool d.no]:=rfl
  rw[j9]
  unfold sK
  refine c7 ⟨?_⟩
  generalize iC:bl X _ bE _=bT
  have ep:Z X bT bE=zI [.str d.name, .Z d.at_, .bool d.ty.b, .bool d.ty.s, .Z d.ty.w, .str d.on, .Z d.fT, .bool d.no] 8:=by rw[<-iC,bn Zo];rfl
  have eL:∀e,e<bE->Z X bT e=Z X bf e:=λe B=>by rw[<-iC];exact zK
  clear iC
  refine⟨by rw[eL _ Zo];exact iB, ?_⟩
  generalize iS:bl X bT (d1+1) _=bZ
  have fw:Z X bZ (d1+1)=some (mk .busy none):=by rw[<-iS,bn Zo]
  have eM:∀e,e≠d1+1->Z X bZ e=Z X bT e:=λe B=>by rw[<-iS,aL Zo B]
  clear iS
  have h6:=ih.ad (aP:=bZ) (be:=bE+1) Zo Zo Zo Zo (λe H K=>by rw[eM e Zo,eL e H])
  rw[<-eM _ Zo]at ep
  have uq:Z X bZ d1=some (.deferred (some [])):=by rw[eM _ Zo,eL _ Zo];exact lV
  have cS:aV X bZ (.ptr (j+1+1+1) 0)=some (.ptr (j+1+1) 0):=zP (h6.low _ Zo Zo Zo) cR
  obtain⟨ie,ayQ,ajk,eA,eU,gr,l4,ll⟩:=h6.GG
  have kb:nd X bZ 9 (.agg [.Z 0, .str [], .Z 0, .zF, .zF, .Z 0, .str [], .Z 0, .zF, .Z 0, .Z 0]) (.map (j+1)) (.str d.name) true=some (.tuple [.agg (p8 ((bX.1 d.name).getD wI)), .bool (bX.1 d.name).isSome]):=by
   rw[DL h6.map];unfold wF;cases bX.1 d.name<;>rfl
  generalize Dx:(bX.1 d.name).getD wI=e7 at kb
  have uT:p8 e7=[.Z e7.kind, .str e7.d.name, .Z e7.d.at_, .bool e7.d.ty.b, .bool e7.d.ty.s, .Z e7.d.ty.w, .str e7.d.on, .Z e7.d.fT, .bool e7.d.no, .Z e7.eq, .Z e7.left]:=rfl
  rw[uT]at kb
  have kO:∀R aS (G:(ba->Option fZ)×List ba),rT X aP d1 (j+1) (j+1+1) (d1+2) G.1 G.2 R aS->G.2.length<=i+1->Z X R d1=some (.deferred (some []))->(y.bool true=y.bool true/\(rT X aP d1 (j+1) (j+1+1) (d1+2) G.1 G.2 (bl X R (d1+1) (some (mk .ready none))) aS/\G.2.length<=i+1)/\Z X (bl X R (d1+1) (some (mk .ready none))) d1=some (.deferred (some []))/\Z X (bl X R (d1+1) (some (mk .ready none))) (d1+1)=some (mk .ready none)):=λR aS G a aB K=>
   ⟨rfl,⟨a.ad Zo Zo Zo (Zj _) (λe H K=>aL Zo Zo),aB⟩,by rw[aL Zo Zo];exact K,bn Zo⟩
  refine vI ⟨?_⟩
  refine gT ?_
  refine g0 @cS (bU eA) @eU (bU ep) @kb ⟨?_⟩
  generalize hX:bl X _ (bE+1+10) _=b9
  have dS:∀e,e<bE+1->Z X b9 e=Z X bZ e:=λe B=>by rw[<-hX];exact zK
  clear hX kb
  have jc:rT X aP d1 (j+1) (j+1+1) (d1+2) bX.1 bX.2 b9 (bE+1+13):=h6.ad Zo Zo Zo Zo (λe H K=>dS e H)
  rw[<-dS _ Zo]at ep fw uq
  have Cv:aV X b9 (.ptr (j+1+1+1) 0)=some (.ptr (j+1+1) 0):=zP (dS _ Zo) cS
  have adI:Z X b9 (j+1+1)=some (.cells ie 2 .own):=by rw[dS _ Zo];exact eA
  cases aE:bX.1 d.name with
  |some awc=>
   have gl:pY bX (e2,d)=bX:=by unfold pY;rw[Zu (by simp[aE])]
   rw[gl]
   simp only[Z8]
   refine c7 ⟨?_⟩
   exact⟨⟨.busy,none,fw⟩,kO _ _ bX (jc.ad Zo Zo Zo Zo (λ_ _ _=>rfl)) Zo uq⟩
  |none=>
   have gl:pY bX (e2,d)=(λw=>if w=d.name then some ⟨e2,d, -1, -1⟩else bX.1 w,bX.2++[d.name]):=by unfold pY;rw[Zg (by simp[aE])]
   rw[gl]
   simp only[Z4]
   refine g6 @Cv (bU adI) @eU (bU ep) ⟨?_⟩
   generalize jd:bE+1+13+10=N
   obtain⟨cm,uK,δ,pO⟩:=M3 (j:=N) (show(o X).aY<=j+1 by omega) jc.map d.name (.agg (p8 ⟨e2,d, -1, -1⟩))
   refine kh uK ?_
   have Wk:aV X cm (.ptr (j+1+1+1) 0)=some (.ptr (j+1+1) 0):=zP (pO _ Zo) Cv
   have adJ:Z X cm (j+1+1)=some (.cells ie 2 .own):=by rw[pO _ Zo];exact adI
   rw[<-pO _ Zo]at ep fw uq
   refine g6 @Wk (bU adJ) @gr (bU ep) ⟨?_⟩
   generalize qo:bl X cm (N+7) _=dk
   have ako:Z X dk (N+7)=zI [.str d.name] 1:=by rw[<-qo,bn Zo]
   have fS:∀e,e<N->Z X dk e=Z X cm e:=λe B=>by rw[<-qo];exact zK
   clear qo uK
   obtain⟨fc,d8,hS,ii,abi,π,qv⟩:=(l4.ad (R:=dk) (λe B=>by have:=ll e B;rw[fS e Zo,pO e Zo,dS e Zo])).append (j:=N+12) Zd (pp ako (lk _) rfl _) rfl Zd rfl Zx Zo (λe B=>zE (ll e B))
   refine kh ii ?_
   have gJ:∀e,e<N->e∉ajk->Z X d8 e=Z X cm e:=λe B a=>by rw[qv e Zo a,fS e B]
   have ajd:aV X d8 (.ptr (j+1+1+1) 0)=some (.ptr (j+1+1) 0):=zP (gJ _ Zo (λa=>zE (ll _ a))) Wk
   have atL:Z X d8 (j+1+1)=some (.cells ie 2 .own):=by rw[gJ _ Zo (λa=>zE (ll _ a))];exact adJ
   refine ce @ajd ⟨?_⟩
   refine j0 (by simp[y.same]) ?_
   obtain⟨e3,g9,ws⟩:=ib.one abi
   refine gi (nO atL Zo Zo e3 g9) ?_
   refine c7 ⟨?_⟩
   generalize vR:bl X d8 (j+1+1) _=iv
   have adL:Z X iv (j+1+1)=some (.cells (ie.set 1 (some fc)) 2 .own):=by rw[<-vR,bn Zo]
   have nJ:∀e,e≠j+1+1->Z X iv e=Z X d8 e:=λe B=>by rw[<-vR,aL Zo B]
   clear vR
   have de:∀e,e<bE+1->(e<d1\/e=d1\/e=d1+1)->e≠j+1+1->e≠j+1->Z X iv e=Z X b9 e:=λe B H K am=>by
    rw[nJ e K,gJ e Zo (λa=>zE (ll _ a)),pO e am]
   refine⟨⟨.busy,none, ?_⟩,kO _ _ (_,bX.2++[d.name]) ⟨Zo, ?_,⟨ie.set 1 (some fc),fc,hS,adL, ?_, ?_, ?_, ?_⟩, ?_⟩ Zx ?_⟩
   ·rw[nJ _ Zo,gJ _ Zo (λa=>zE (ll _ a))];exact fw
   ·have:(λx=>if x=d.name then some (y.agg (p8 ⟨e2,d, -1, -1⟩))else wF bX.1 x)=wF (λw=>if w=d.name then some ⟨e2,d, -1, -1⟩else bX.1 w):=by
     funext x;unfold wF;by_cases a:x=d.name<;>simp[a]
    rw[this]at δ
    exact δ.ad (by rw[nJ _ Zo,gJ _ Zo (λa=>zE (ll _ a))])
   ·rw[M.j7,Zg Zd];exact eU
   ·rw[M.j7,Zu rfl]
   ·rw[Yu]
    exact .inl (abi.ad λe B=>nJ e (by rcases π e B with rfl|a;omega;have:=ll _ a;omega))
   ·intro e B
    rcases π e B with rfl|a
    ·omega
    ·have:=ll _ a;omega
   ·intro e H K am
    rw[de e Zo (.inl H) am K];exact jc.low e H K am
   ·rw[nJ _ Zo,gJ _ Zo (λa=>zE (ll _ a))];exact uq
 ·intro bf bE ih lV
  rw[zq]at ih
  obtain⟨ih,eO⟩:=ih
  change rT X aP d1 (j+1) (j+1+1) (d1+2) (ol g).1 (ol g).2 bf bE at ih
  change (ol g).2.length<=_ at eO
  have alC:Z X bf j=zI [.str g.name, .Z g.at_,cW,cO,a2,dF] 6:=by rw[ih.low _ Zo Zo Zo];exact eC
  have gp:=dJ.wide
  have er:=hq.len
  have jq:=hq.many
  rw[gp.1]at er jq
  refine dq (bU alC) @er ⟨?_⟩
  refine gK (λm I R aS=>∃(Y:Nat),I.g 3=some (.ptr (j+1+1+1) 0)/\I.g 54=some dF/\I.g 55=some (.Z (g.eqs.length:Int))/\I.g 56=some (.Z (Y:Int))/\I.bb=[⟨.collected d1,[]⟩]/\Y+m=g.eqs.length
   /\rT X aP d1 (j+1) (j+1+1) (d1+2) ((g.eqs.zipIdx.take Y).foldl JB (ol g).1) (ol g).2 R aS/\Z X R d1=some (.deferred (some [])))
   g.eqs.length ⟨0,bF,bF,bF,ho,rfl,Zo,ih,lV⟩ ?_
  rintro m I bT b3 ⟨Y,t3,np,nq,mU,lG,bD,qn,HP⟩
  have je:=qn.le
  cases m with
  |zero=>
   have aR:=zF Y g.eqs.length
   have ajb:aV X bT (.ptr (j+1+1+1) 0)=some (.ptr (j+1+1) 0):=zP (qn.low _ Zo Zo Zo) cR
   refine g0 @mU @nq @t3 @aR @ajb ⟨?_⟩
   have C8:(g.eqs.zipIdx.take Y).foldl JB (ol g).1=f2 g:=by
    rw[ZQ Zx];rfl
   rw[C8]at qn
   show pj X [.tmp 2] _ _ _ _ _
   simp only[u6,lG]
   refine⟨by show(o X).aY<=d1;omega,HP, ?_⟩
   show qI _ _ _ _ _
   unfold qI
   refine c7 ⟨?_⟩
   have h6:=qn.ad (aP:=bl X bT d1 (some (.deferred none))) Zo Zo Zo (Zj _) (λe H K=>aL Zo Zo)
   obtain⟨c,s,cy,eA,eU,gr,l4,ll⟩:=h6.GG
   obtain⟨b,al⟩:=l4.NA (P:=ei j b3) (by simp[M6]at eO ⊢;omega) (λe B=>by have:=ll e B;exact⟨Zo,Zo⟩)
   refine⟨j+1+1,j+1,s,b,rfl,⟨Zo,Zo⟩,⟨Zo,Zo⟩,by rw[bU eA];exact eU,h6.map,by rw[bU eA];exact gr, ?_,Zo,λe B=> ?_⟩
   ·have:ip (M6 g)=((ol g).2.map y.str).map λv=>[v]:=by unfold ip M6;rw[YB];rfl
    rw[this];exact al
   ·rw[h6.low e Zo Zo Zo];exact mB.ad e B
  |succ m=>
   have aR:=zG Y g.eqs.length
   have bB:=zJ Y
   obtain⟨ai,bG⟩:=zH g.eqs Y
   obtain⟨row,d2,Do⟩:=dJ.get Y ai bG
   have x3:∀e,P e->Z X bT e=Z X h e:=λe B=>by have:=bI e B;rw[qn.low e Zo Zo Zo,tC e B]
   have di:=hq.g2 Y (by rw[gp.1];omega)
   have kP:=(hq.ad x3).row Zd d2
   obtain⟨yj,BK,dl,dx,jZ,rfl,jf,nF,qA,sp⟩:=Do
   have xN:=iG jf.len
   have ax2:=iG nF.1.len
   have ts:=jf.len
   have FI:=jf.many
   rw[show(ip ai.left).length=ai.left.length from by simp[ip]]at ts FI
   have cI:=Ak JB (ol g).1 (TW bG)
   rw[show(ai,Y)=(ai,Y) from rfl]at cI
   generalize am9:(g.eqs.zipIdx.take Y).foldl JB (ol g).1=NT at qn cI
   refine kr @mU @nq @np @aR @di @kP ⟨?_⟩
   refine gi (jJ (q:=4) (b:=b3) (W:=0) (n:=4) (c:=M.ofList [.aW, .aW, .Z 0, .cN] 0 .nil) (bn Zo) Zo rfl Zd Zd sp) ?_
   generalize iS:bl X _ b3 _=bZ
   have fw:aV X bZ (.ptr b3 0)=some yj:=by rw[<-iS,cT,bn Zo];rfl
   have eM:∀e,e<b3->Z X bZ e=Z X bT e:=λe B=>by rw[<-iS];exact zK
   clear iS
   have h6:rT X aP d1 (j+1) (j+1+1) (d1+2) NT (ol g).2 bZ (b3+1):=qn.ad Zo Zo Zo Zo (λe H K=>eM e H)
   rw[<-eM _ Zo]at HP
   refine dq @fw @ts ⟨?_⟩
   refine gK (λfI I R aS=>∃(i:Nat),I.g 3=some (.ptr (j+1+1+1) 0)/\I.g 54=some dF/\I.g 55=some (.Z (g.eqs.length:Int))/\I.g 56=some (.Z (Y:Int))/\I.bb=[⟨.collected d1,[]⟩]/\I.g 8=some (.Z (Y:Int))/\I.g 62=some yj/\I.g 63=some (.Z (ai.left.length:Int))/\I.g 64=some (.Z (i:Int))/\i+fI=ai.left.length
    /\rT X aP d1 (j+1) (j+1+1) (d1+2) ((ai.left.zipIdx.take i).foldl (tO Y) NT) (ol g).2 R aS/\Z X R d1=some (.deferred (some [])))
    ai.left.length ⟨0,bz t3,bz np,bz nq,bz mU,lG,bF,bF,bF,ho,Zo,h6,HP⟩ ?_
   rintro fI cP b9 dP ⟨i,t3,np,nq,mU,lG,iX,NQ,JY,GF,aF,jc,r7⟩
   have qx:=jc.le
   cases fI with
   |zero=>
    have aR:=zF i ai.left.length
    refine g0 @GF @JY @mU @aR @bB ⟨?_⟩
    rw[ZQ Zx]at jc
    refine⟨m,Zo,Y+1,bz t3,bz np,bz nq,bF,lG,Zo, ?_,r7⟩
    rw[cI]
    exact jc
   |succ fI=>
    have aR:=zG i ai.left.length
    have cp:=zJ i
    obtain⟨w,br⟩:=zH ai.left i
    have F4:∀e,P e->Z X b9 e=Z X h e:=λe B=>by have:=bI e B;rw[jc.low e Zo Zo Zo,tC e B]
    have xJ:=jf.g2 i (by simp[ip];omega)
    have kv:=(jf.ad F4).cell i [.str w] 0 (.str w) (by unfold ip;rw[Zy,br];rfl) rfl
    rw[Yp]at xJ
    rw[Yp,Z5]at kv
    have tt:=Ak (tO Y) NT (TW br)
    generalize am8:(ai.left.zipIdx.take i).foldl (tO Y) NT=ow at jc tt
    have Cv:aV X b9 (.ptr (j+1+1+1) 0)=some (.ptr (j+1+1) 0):=zP (jc.low _ Zo Zo Zo) cR
    obtain⟨ug,ayR,awJ,eA,eU,gr,l4,ll⟩:=jc.GG
    have kb:nd X b9 9 (.agg [.Z 0, .str [], .Z 0, .zF, .zF, .Z 0, .str [], .Z 0, .zF, .Z 0, .Z 0]) (.map (j+1)) (.str w) true=some (.tuple [.agg (p8 ((ow w).getD wI)), .bool (ow w).isSome]):=by
     rw[DL jc.map];unfold wF;cases ow w<;>rfl
    generalize Dx:(ow w).getD wI=e7 at kb
    have uT:p8 e7=[.Z e7.kind, .str e7.d.name, .Z e7.d.at_, .bool e7.d.ty.b, .bool e7.d.ty.s, .Z e7.d.ty.w, .str e7.d.on, .Z e7.d.fT, .bool e7.d.no, .Z e7.eq, .Z e7.left]:=rfl
    rw[uT]at kb
    refine fA @GF @JY @NQ @t3 @aR @xJ (Za @kv (Za @Cv (Za (bU eA) (Za @eU @kb)))) ⟨?_⟩
    generalize mg:bl X _ dP _=cm
    have eu:Z X cm dP=zI [.Z e7.kind, .str e7.d.name, .Z e7.d.at_, .bool e7.d.ty.b, .bool e7.d.ty.s, .Z e7.d.ty.w, .str e7.d.on, .Z e7.d.fT, .bool e7.d.no, .Z e7.eq, .Z e7.left] 11:=by rw[<-mg,bn Zo];rfl
    have e1:∀e,e<dP->Z X cm e=Z X b9 e:=λe B=>by rw[<-mg];exact zK
    clear mg
    have q7:rT X aP d1 (j+1) (j+1+1) (d1+2) ow (ol g).2 cm (dP+1):=jc.ad Zo Zo Zo Zo (λe H K=>e1 e H)
    rw[<-e1 _ Zo]at r7
    cases aE:ow w with
    |none=>
     have gl:tO Y ow (w,i)=ow:=by unfold tO;simp only[aE]
     simp only[Z4]
     refine dq @GF @cp ⟨?_⟩
     exact⟨fI,Zo,i+1,bz t3,bz np,bz nq,bz mU,lG,bz iX,bz NQ,bz JY,bF,Zo,by rw[tt,gl];exact q7,r7⟩
    |some v=>
     have apX:v=e7:=by rw[aE]at Dx;exact Dx
     subst apX
     simp only[Z8]
     by_cases Md:v.eq<0
     ·have cC:decide (v.eq<0)=true:=by simp[Md]
      have gl:tO Y ow (w,i)=λx=>if x=w then some ⟨v.kind,v.d,Y,i⟩else ow x:=by unfold tO;simp only[aE,Md,ZE]
      refine g6 (bU eu) @cC @iX @GF ⟨?_⟩
      generalize qo:bl X (bl X cm dP _) dP _=dk
      have hf:Z X dk dP=zI [.Z v.kind, .str v.d.name, .Z v.d.at_, .bool v.d.ty.b, .bool v.d.ty.s, .Z v.d.ty.w, .str v.d.on, .Z v.d.fT, .bool v.d.no, .Z Y, .Z i] 11:=by rw[<-qo,bn Zo];rfl
      have fS:∀e,e≠dP->Z X dk e=Z X cm e:=λe B=>by rw[<-qo,aL Zo B,aL Zo B]
      clear qo eu
      have lf:rT X aP d1 (j+1) (j+1+1) (d1+2) ow (ol g).2 dk (dP+1):=⟨q7.le,q7.map.ad (fS _ Zo),by
       obtain⟨c,s,cy,cF,cH,d7,fU,mv⟩:=jc.GG
       exact⟨c,s,cy,by rw[fS _ Zo,e1 _ Zo];exact cF,cH,d7,fU.ad (λe B=>by have:=mv e B;rw[fS e Zo,e1 e Zo]),λe B=>zE (mv e B)⟩,
       λe H K am=>by rw[fS e Zo];exact q7.low e H K am⟩
      have ajc:aV X dk (.ptr (j+1+1+1) 0)=some (.ptr (j+1+1) 0):=by rw[cT,fS _ Zo,e1 _ Zo, <-cT];exact Cv
      have atK:Z X dk (j+1+1)=some (.cells ug 2 .own):=by rw[fS _ Zo,e1 _ Zo];exact eA
      refine g0 @t3 @ajc (bU atK) @eU (bU hf) ⟨?_⟩
      obtain⟨d8,uK,am1,qv⟩:=M3 (j:=dP+1+7) (show(o X).aY<=j+1 by omega) lf.map w (.agg (p8 ⟨v.kind,v.d,Y,i⟩))
      refine kh uK ?_
      refine dq @GF @cp ⟨?_⟩
      refine⟨fI,Zo,i+1,bz t3,bz np,bz nq,bz mU,lG,bz iX,bz NQ,bz JY,bF,Zo, ?_,by rw[qv _ Zo,fS _ Zo];exact r7⟩
      rw[tt,gl]
      refine⟨Zo, ?_, ?_,λe H K am=>by rw[qv e K];exact lf.low e H K am⟩
      ·have:(λx=>if x=w then some (y.agg (p8 ⟨v.kind,v.d,Y,i⟩))else wF ow x)=wF (λx=>if x=w then some ⟨v.kind,v.d,Y,i⟩else ow x):=by
        funext x;unfold wF;by_cases a:x=w<;>simp[a]
       rw[<-this];exact am1
      ·obtain⟨c,s,cy,cF,cH,d7,fU,mv⟩:=lf.GG
       exact⟨c,s,cy,by rw[qv _ Zo];exact cF,cH,d7,fU.ad (λe B=>by have:=mv e B;exact qv e Zo),λe B=>zE (mv e B)⟩
     ·have cC:decide (v.eq<0)=false:=by simp[Md]
      have gl:tO Y ow (w,i)=ow:=by unfold tO;simp only[aE,Md,ZD]
      refine g6 (bU eu) @cC @GF @cp ⟨?_⟩
      exact⟨fI,Zo,i+1,bz t3,bz np,bz nq,bz mU,lG,bz iX,bz NQ,bz JY,bF,Zo,by rw[tt,gl];exact q7,r7⟩
end
end
end Go.Proofs.YtbbkkkpgjaopkaaGreatDoor

namespace Go.aQ
structure iP where
 N:ba->Prop
 EC:iO->Prop
 L:iO->Int->Prop
 aY:∀s,N s->s≠[]
 dK:EC ⟨true,false,1⟩
 fb:L ⟨true,false,1⟩ 0
 dv:L ⟨true,false,1⟩ 1
 lt:∀t n,L t n->EC t
 A:Int->Prop
 a0:A 0
structure yS(bv:iP)(x:Tok):Prop where
 name:x.kind=1->bv.N x.text
 type:x.kind=3->bv.EC x.ty
 num:x.kind=4->0<=x.n
 lit:x.kind=5->bv.L x.ty x.n
 pos:x.kind≠7->bv.A x.at_
def gv(bv:iP)(k:List Tok):Prop:=∀x∈k,yS bv x
def gv.pq{bv:iP}{x:Tok}{k:List Tok}(a:gv bv (x::k)):gv bv k:=λe B=>a e (Zn _ B)
def gv.aH{bv:iP}{x:Tok}{k:List Tok}(a:gv bv (x::k)):yS bv x:=a x (Zt ..)
def s0(q:Int):Option Nat:=if q=25 then none else if q=1\/q=2 then some 0 else if q=3\/q=4\/q=5\/q=6\/q=19\/q=20\/q=26 then some 1 else if q=23 then some 3 else some 2
def tl(q:Int):Prop:=q=2\/q=6\/q=24\/q=25
def tm(q:Int):Prop:=q=1\/q=26
structure G3(bv:iP)(D:bL):Prop where
 ap:bv.A D.at_
 bS:1<=D.kind
 ck:D.kind<=26
 Hl:∀m,s0 D.kind=some m->D.args.length=m
 nm:tl D.kind->bv.N D.name
 Na:¬tl D.kind->D.name=[]
 no:D.no=true->D.kind=6
 ty:tm D.kind->bv.EC D.ty
 dr:¬tm D.kind->D.ty=dr
 acV:D.kind=1->bv.L D.ty D.n
 hj:D.kind=19\/D.kind=20->0<=D.n/\D.n<=63
 aY:D.kind≠1->D.kind≠19->D.kind≠20->D.n=0
 vF:D.kind=21->∃k r,D.args=[k,r]/\(k.kind=1\/k.kind=4/\∃x,k.args=[x]/\x.kind=1)
mutual
def fu(bv:iP):bL->Prop
 | .mk q E nm no ty n args=>G3 bv (.mk q E nm no ty n args)/\gc bv args
def gc(bv:iP):List bL->Prop
 |[]=>True
 |D::k=>fu bv D/\gc bv k
end
def fu.eq{bv:iP}(D:bL):fu bv D=(G3 bv D/\gc bv D.args):=by cases D;rw[fu];rfl
def gc.cons{bv:iP}{D:bL}{k:List bL}(a:fu bv D)(q:gc bv k):gc bv (D::k):=by rw[gc];exact⟨a,q⟩
def gc.nil{bv:iP}:gc bv []:=by rw[gc];trivial
def gc.app{bv:iP}{D:bL}(a:fu bv D):∀{k:List bL},gc bv k->gc bv (k++[D]):=by
 intro k
 induction k with
 |nil=>intro _;exact gc.cons a gc.nil
 |cons E k aj=>intro q;rw[gc]at q;exact gc.cons q.1 (aj q.2)
def dj(bv:iP){α:Type}(Q:α->Prop)(x:fY α):Prop:=∀E cb,x=some (.ok (E,cb))->gv bv cb/\Q E
section
variable{bv:iP}{α eH:Type}
def dj.none{Q:α->Prop}:dj bv Q none:=λ_ _ a=>by cases a
def dj.ok{Q:α->Prop}{E:α}{k:List Tok}(a:gv bv k)(ai:Q E):dj bv Q (aQ.ok E k):=λgd cb D=>by cases D;exact⟨a,ai⟩
def dj.bad{Q:α->Prop}(E:Int):dj bv Q (aQ.bad E:fY α):=λgd cb D=>by cases D
def dj.andThen{Q:α->Prop}{qT:eH->Prop}{x:fY α}{f:α->List Tok->fY eH}(a:dj bv Q x)(q:∀E cb,gv bv cb->Q E->dj bv qT (f E cb)):dj bv qT (aQ.andThen x f):=by
 unfold aQ.andThen
 split
 ·exact dj.none
 ·exact λ_ _ D=>by cases D
 ·rename_i E k
  obtain⟨H,K⟩:=a E k rfl
  exact q E k H K
def yS.gX{x:Tok}{s:ba}(a:yS bv x)(aE:gX x s=true):bv.A x.at_:=a.pos λD=>by simp[aQ.gX,D]at aE
def nR{s:ba}{k:List Tok}(a:gv bv k):dj bv (λx:Tok=>bv.A x.at_) (eo s k):=by
 cases k with
 |nil=>exact dj.none
 |cons x k=>
  simp only[eo]
  split
  ·rename_i aE;exact dj.ok a.pq (a.aH.gX aE)
  ·exact dj.bad _
def uW{q:Int}{k:List Tok}(a:gv bv k):dj bv (λx:Tok=>yS bv x/\x.kind=q) (iH q k):=by
 cases k with
 |nil=>exact dj.none
 |cons x k=>
  simp only[iH]
  split
  ·rename_i aE;exact dj.ok a.pq ⟨a.aH,aE⟩
  ·exact dj.bad _
def p7{s:ba}{k:List Tok}{f:Option Tok->List Tok->fY eH}{Q:eH->Prop}(a:gv bv k)(H:∀x cb,bv.A x.at_->gv bv cb->dj bv Q (f (some x) cb))(K:dj bv Q (f none k)):dj bv Q (h8 s k f):=by
 cases k with
 |nil=>exact dj.none
 |cons x k=>
  unfold h8 l6
  by_cases aE:gX x s=true
  ·simp only[aE,ZE];exact H x k (a.aH.gX aE) a.pq
  ·simp only[aE,ZD];exact K
def KM{k:List Tok}(a:gv bv k):∀(os:List (ba×Int)) D cb,oJ os k=some (D,cb)->gv bv cb/\∀x,D=some x->∃W∈os,∃E,bv.A E/\x= .mk W.2 E [] false dr 0 []:=by
 intro os
 induction os with
 |nil=>intro D cb bt;cases bt;exact⟨a,λx af=>by cases af⟩
 |cons W os aj=>
  obtain⟨s,q⟩:=W
  intro D cb bt
  cases k with
  |nil=>simp[oJ,l6]at bt
  |cons x k=>
   unfold oJ l6 at bt
   by_cases aE:gX x s=true
   ·simp only[aE,ZE]at bt
    cases bt
    exact⟨a.pq,λe B=>by cases B;exact⟨_,Zt ..,_,a.aH.gX aE,rfl⟩⟩
   ·simp only[aE,ZD]at bt
    obtain⟨H,K⟩:=aj D cb bt
    exact⟨H,λe B=>by obtain⟨W,bd,E,aD⟩:=K e B;exact⟨W,Zn _ bd,E,aD⟩⟩
def aeL{q E:Int}{x e:bL}(aG:7<=q/\q<=18\/q=22)(af:fu bv x)(B:fu bv e)(aD:bv.A E):fu bv (.mk q E [] false dr 0 [x,e]):=by
 rw[fu.eq]
 refine⟨⟨aD,by simp only[bL.kind];omega,by simp only[bL.kind];omega, ?_, ?_,λ_=>rfl,(λa=>absurd a (by simp[bL.no])), ?_,λ_=>rfl, ?_, ?_,λ_ _ _=>rfl, ?_⟩,gc.cons af (gc.cons B gc.nil)⟩
 ·intro m bc
  have sn:s0 q=some m:=bc
  unfold s0 at sn
  rw[Zg Zo,Zg Zo,Zg Zo,Zg Zo]at sn
  cases sn;rfl
 ·intro a;simp only[tl,bL.kind]at a;omega
 ·intro a;simp only[tm,bL.kind]at a;omega
 ·intro a;simp only[bL.kind]at a;omega
 ·intro a;simp only[bL.kind]at a;omega
 ·intro a;simp only[bL.kind]at a;omega
def J6{q E n:Int}{nm:ba}{no:Bool}{ty:iO}{x:bL}(aG:q=3\/q=4\/q=5\/q=6\/q=19\/q=20\/q=26)(gy:q=6->bv.N nm)(gx:q≠6->nm=[]/\no=false)(a8:q=26->bv.EC ty)(RT:q≠26->ty=dr)(aI:q=19\/q=20->0<=n/\n<=63)(IG:q≠19->q≠20->n=0)(af:fu bv x)(aD:bv.A E):fu bv (.mk q E nm no ty n [x]):=by
 rw[fu.eq]
 refine⟨⟨aD,by simp only[bL.kind];omega,by simp only[bL.kind];omega, ?_, ?_, ?_, ?_, ?_, ?_, ?_,aI, ?_, ?_⟩,gc.cons af gc.nil⟩
 ·intro m bc
  have sn:s0 q=some m:=bc
  unfold s0 at sn
  rw[Zg Zo,Zg Zo,Zu aG]at sn
  cases sn;rfl
 ·intro a;simp only[tl,bL.kind]at a;exact gy Zo
 ·intro a;simp only[tl,bL.kind]at a;exact(gx Zo).1
 ·intro a
  by_cases b1:q=6
  ·exact b1
  ·have co:no=true:=a
   rw[(gx b1).2]at co;cases co
 ·intro a;simp only[tm,bL.kind]at a;exact a8 Zo
 ·intro a;simp only[tm,bL.kind]at a;exact RT Zo
 ·intro a;simp only[bL.kind]at a;omega
 ·intro H K am;exact IG K am
 ·intro a;simp only[bL.kind]at a;omega
def aeK{E n:Int}{ty:iO}(a:bv.L ty n)(aD:bv.A E):fu bv (.mk 1 E [] false ty n []):=by
 rw[fu.eq]
 exact⟨⟨aD,by simp[bL.kind],by simp[bL.kind],λm bc=>by simp[s0,bL.kind]at bc;simp[bL.args, <-bc],λa=>by simp[tl,bL.kind]at a,λ_=>rfl,(λa=>absurd a (by simp[bL.no])),λ_=>bv.lt _ _ a,λa=>by simp[tm,bL.kind]at a,λ_=>a,λa=>by simp[bL.kind]at a,λa=>by simp[bL.kind]at a,λa=>by simp[bL.kind]at a⟩,gc.nil⟩
def aeM{E:Int}{nm:ba}(a:bv.N nm)(aD:bv.A E):fu bv (.mk 2 E nm false dr 0 []):=by
 rw[fu.eq]
 exact⟨⟨aD,by simp[bL.kind],by simp[bL.kind],λm bc=>by simp[s0,bL.kind]at bc;simp[bL.args, <-bc],λ_=>a,λa=>by simp[tl,bL.kind]at a,(λa=>absurd a (by simp[bL.no])),λa=>by simp[tm,bL.kind]at a,λ_=>rfl,λa=>by simp[bL.kind]at a,λa=>by simp[bL.kind]at a,λ_ _ _=>rfl,λa=>by simp[bL.kind]at a⟩,gc.nil⟩
def awk{E:Int}{nm:ba}{ca:List bL}(a:bv.N nm)(q:gc bv ca)(aD:bv.A E):fu bv (.mk 25 E nm false dr 0 ca):=by
 rw[fu.eq]
 exact⟨⟨aD,by simp[bL.kind],by simp[bL.kind],λm bc=>by simp[s0,bL.kind]at bc,λ_=>a,λa=>by simp[tl,bL.kind]at a,(λa=>absurd a (by simp[bL.no])),λa=>by simp[tm,bL.kind]at a,λ_=>rfl,λa=>by simp[bL.kind]at a,λa=>by simp[bL.kind]at a,λ_ _ _=>rfl,λa=>by simp[bL.kind]at a⟩,q⟩
def awm{E:Int}{x e bo:bL}(af:fu bv x)(B:fu bv e)(cf:fu bv bo)(aD:bv.A E):fu bv (.mk 23 E [] false dr 0 [x,e,bo]):=by
 rw[fu.eq]
 exact⟨⟨aD,by simp[bL.kind],by simp[bL.kind],λm bc=>by simp[s0,bL.kind]at bc;simp[bL.args, <-bc],λa=>by simp[tl,bL.kind]at a,λ_=>rfl,(λa=>absurd a (by simp[bL.no])),λa=>by simp[tm,bL.kind]at a,λ_=>rfl,λa=>by simp[bL.kind]at a,λa=>by simp[bL.kind]at a,λ_ _ _=>rfl,λa=>by simp[bL.kind]at a⟩,gc.cons af (gc.cons B (gc.cons cf gc.nil))⟩
def awn{E:Int}{nm:ba}{x e:bL}(a:bv.N nm)(af:fu bv x)(B:fu bv e)(aD:bv.A E):fu bv (.mk 24 E nm false dr 0 [x,e]):=by
 rw[fu.eq]
 exact⟨⟨aD,by simp[bL.kind],by simp[bL.kind],λm bc=>by simp[s0,bL.kind]at bc;simp[bL.args, <-bc],λ_=>a,λa=>by simp[tl,bL.kind]at a,(λa=>absurd a (by simp[bL.no])),λa=>by simp[tm,bL.kind]at a,λ_=>rfl,λa=>by simp[bL.kind]at a,λa=>by simp[bL.kind]at a,λ_ _ _=>rfl,λa=>by simp[bL.kind]at a⟩,gc.cons af (gc.cons B gc.nil)⟩
def awl{E:Int}{x e:bL}(a:tH x=some true)(af:fu bv x)(B:fu bv e)(aD:bv.A E):fu bv (.mk 21 E [] false dr 0 [x,e]):=by
 rw[fu.eq]
 refine⟨⟨aD,by simp[bL.kind],by simp[bL.kind],λm bc=>by simp[s0,bL.kind]at bc;simp[bL.args, <-bc],λa=>by simp[tl,bL.kind]at a,λ_=>rfl,(λa=>absurd a (by simp[bL.no])),λa=>by simp[tm,bL.kind]at a,λ_=>rfl,λa=>by simp[bL.kind]at a,λa=>by simp[bL.kind]at a,λ_ _ _=>rfl,λ_=>⟨x,e,rfl, ?_⟩⟩,gc.cons af (gc.cons B gc.nil)⟩
 unfold tH at a
 split at a
 ·rename_i H;exact .inl H
 ·split at a
  ·rename_i H aC
   refine .inr ⟨aC, ?_⟩
   have qB:=af
   rw[fu.eq]at qB
   have aB:=qB.1.Hl 1 (by rw[aC];rfl)
   cases aD:x.args with
   |nil=>rw[aD]at aB;cases aB
   |cons b k=>
    rw[aD]at aB a
    cases k with
    |nil=>exact⟨b,rfl,by simpa using a⟩
    |cons c k=>simp at aB
  ·cases a
def as2:∀(q:Nat) (W:ba×Int),W∈ar q->7<=W.2/\W.2<=18:=by
 intro q W a
 match q with
 |0=>simp[ar]at a;rcases a with rfl|rfl<;>decide
 |1=>simp[ar]at a;subst a;decide
 |2=>simp[ar]at a;rcases a with rfl|rfl|rfl|rfl|rfl|rfl<;>decide
 |3=>simp[ar]at a;rcases a with rfl|rfl<;>decide
 |4=>simp[ar]at a;subst a;decide
 |n+5=>simp[ar]at a
def atu(W:ba×Int)(a:W∈yi):W.2=3\/W.2=4\/W.2=5:=by
 simp[yi]at a;rcases a with rfl|rfl|rfl<;>simp
end
structure aeY(bv:iP)(n:Nat):Prop where
 level:∀q k,gv bv k->dj bv (fu bv) (level n q k)
 pc:∀q D k,gv bv k->fu bv D->dj bv (fu bv) (pc n q D k)
 shift:∀k,gv bv k->dj bv (fu bv) (shift n k)
 pm:∀D k,gv bv k->fu bv D->dj bv (fu bv) (pm n D k)
 pn:∀q x D k,q=19\/q=20->bv.A x.at_->gv bv k->fu bv D->dj bv (fu bv) (pn n q x D k)
 tQ:∀k,gv bv k->dj bv (fu bv) (wu n k)
 nr:∀D k,gv bv k->fu bv D->dj bv (fu bv) (nr n D k)
 part:∀k,gv bv k->dj bv (fu bv) (part n k)
 list:∀k,gv bv k->dj bv (gc bv) (list n k)
 pe:∀ca k,gv bv k->gc bv ca->dj bv (gc bv) (pe n ca k)
 lS:∀k,gv bv k->dj bv (fu bv) (lS n k)
 arrow:∀k,gv bv k->dj bv (fu bv) (arrow n k)
def aiM(bv:iP):∀n,aeY bv n:=by
 intro n
 induction n with
 |zero=>constructor<;>intros<;>exact dj.none
 |succ n aj=>
  constructor
  case level=>
   intro q k aB
   rw[level]
   split
   ·exact aj.shift k aB
   ·exact(aj.level (q+1) k aB).andThen λD cb H K=>aj.pc q D cb H K
  case pc=>
   intro q D k aB bt
   rw[pc]
   split
   ·exact dj.none
   ·rename_i cb al
    exact dj.ok (KM aB _ _ _ al).1 bt
   ·rename_i x cb al
    obtain⟨H,K⟩:=KM aB _ _ _ al
    obtain⟨W,bd,E,aD,rfl⟩:=K _ rfl
    have aG:=as2 _ _ bd
    refine(aj.level (q+1) cb H).andThen λr cD bS ck=> ?_
    have a8:fu bv (two (.mk W.2 E [] false dr 0 []) D r):=aeL (q:=W.2) (.inl aG) bt ck aD
    split
    ·exact dj.ok bS a8
    ·exact aj.pc q _ cD bS a8
  case shift=>
   intro k aB
   rw[shift]
   exact(aj.tQ k aB).andThen λD cb H K=>aj.pm D cb H K
  case pm=>
   intro D k aB bt
   rw[pm]
   refine p7 aB (λx cb aD H=>aj.pn 19 x D cb (.inl rfl) aD H bt) ?_
   exact p7 aB (λx cb aD H=>aj.pn 20 x D cb (.inr rfl) aD H bt) (dj.ok aB bt)
  case pn=>
   intro q x D k aG aD aB bt
   rw[pn]
   refine(uW aB).andThen λm cb H K=> ?_
   split
   ·exact dj.bad _
   ·rename_i awY
    have bi:=K.1.num K.2
    exact aj.pm _ cb H (J6 Zo (λa=>Zo) (λ_=>⟨rfl,rfl⟩) (λa=>Zo) (λ_=>rfl) (λ_=>⟨bi,Zo⟩) (λH K=>Zo) bt aD)
  case tQ=>
   intro k aB
   rw[wu]
   split
   ·exact dj.none
   ·rename_i x cb al
    obtain⟨H,K⟩:=KM aB _ _ _ al
    obtain⟨W,bd,E,aD,rfl⟩:=K _ rfl
    have aG:=atu _ bd
    refine(aj.tQ cb H).andThen λD cD bS ck=>dj.ok bS ?_
    exact J6 (q:=W.2) Zo (λa=>Zo) (λ_=>⟨rfl,rfl⟩) (λa=>Zo) (λ_=>rfl) (λa=>Zo) (λ_ _=>rfl) ck aD
   ·rename_i cb al
    exact(aj.part cb (KM aB _ _ _ al).1).andThen λD cD bS ck=>aj.nr D cD bS ck
  case nr=>
   intro D k aB bt
   rw[nr]
   refine p7 aB (λx cb aD H=> ?_) (dj.ok aB bt)
   refine p7 H (λe cD _ bS=> ?_) ?_
   ·refine(uW bS).andThen λm ec m1 fp=> ?_
    exact aj.nr _ ec m1 (J6 Zo (λ_=>fp.1.name fp.2) (λa=>absurd rfl a) (λa=>Zo) (λ_=>rfl) (λa=>Zo) (λ_ _=>rfl) bt aD)
   ·refine(uW H).andThen λm ec m1 fp=> ?_
    exact aj.nr _ ec m1 (J6 Zo (λ_=>fp.1.name fp.2) (λa=>absurd rfl a) (λa=>Zo) (λ_=>rfl) (λa=>Zo) (λ_ _=>rfl) bt aD)
  case list=>
   intro k aB
   rw[list]
   refine p7 aB (λx cb _ H=>dj.ok H gc.nil) ?_
   exact(aj.arrow k aB).andThen λD cD bS ck=>aj.pe _ cD bS (gc.cons ck gc.nil)
  case pe=>
   intro ca k aB aD
   rw[pe]
   refine p7 aB (λx cb _ H=> ?_) ?_
   ·exact(aj.arrow cb H).andThen λD cD bS ck=>aj.pe _ cD bS (gc.app ck aD)
   ·exact(nR aB).andThen λ_ cb H _=>dj.ok H aD
  case lS=>
   intro k aB
   rw[lS]
   refine(aj.level 0 k aB).andThen λD cD bS ck=> ?_
   refine p7 bS (λx cb aD H=> ?_) (dj.ok bS ck)
   simp only[]
   split
   ·exact dj.none
   ·rename_i AF
    exact(aj.lS cb H).andThen λr ec m1 fp=>dj.ok m1 (awl AF ck fp aD)
   ·exact dj.bad _
  case arrow=>
   intro k aB
   rw[arrow]
   refine(aj.lS k aB).andThen λD cD bS ck=> ?_
   refine p7 bS (λx cb aD H=> ?_) (dj.ok bS ck)
   exact(aj.arrow cb H).andThen λr ec m1 fp=>dj.ok m1 (aeL (.inr rfl) ck fp aD)
  case part=>
   intro k aB
   cases k with
   |nil=>rw[part];exact dj.none
   |cons x k=>
   have af:=aB.aH
   have hg:=aB.pq
   rw[part]
   by_cases ie:x.kind=5
   ·rw[Zu ie]
    exact dj.ok hg (aeK (af.lit ie) (af.pos (by rw[ie];decide)))
   rw[Zg ie]
   split
   ·rename_i K
    refine dj.ok hg (aeK ?_ (af.pos λD=>by simp[D]at K))
    split
    ·exact bv.dv
    ·exact bv.fb
   by_cases dl:x.kind=1
   ·rw[Zu dl]
    refine p7 hg (λe cD _ H=> ?_) (dj.ok hg (aeM (af.name dl) (af.pos (by rw[dl];decide))))
    exact(aj.list cD H).andThen λca ec m1 fp=>dj.ok m1 (awk (af.name dl) fp (af.pos (by rw[dl];decide)))
   rw[Zg dl]
   by_cases gD:x.kind=3
   ·rw[Zu gD]
    refine(nR hg).andThen λ_ cD H _=> ?_
    refine(aj.arrow cD H).andThen λD ec m1 fp=> ?_
    refine(nR m1).andThen λ_ fl e3 _=> ?_
    exact dj.ok e3 (J6 Zo (λa=>Zo) (λ_=>⟨rfl,rfl⟩) (λ_=>af.type gD) (λa=>absurd rfl a) (λa=>Zo) (λ_ _=>rfl) fp (af.pos (by rw[gD];decide)))
   rw[Zg gD]
   split
   ·refine(aj.arrow k hg).andThen λD ec m1 fp=> ?_
    refine(nR m1).andThen λ_ fl e3 _=> ?_
    exact dj.ok e3 fp
   split
   ·rename_i K
    refine(aj.arrow k hg).andThen λD ec m1 fp=> ?_
    refine(nR m1).andThen λ_ fl e3 _=> ?_
    refine(aj.arrow fl e3).andThen λcp fG cF cH=> ?_
    refine(nR cF).andThen λ_ kz eA _=> ?_
    refine(aj.arrow kz eA).andThen λfj kA kH lF=> ?_
    exact dj.ok kH (awm fp cH lF (af.pos λD=>by simp[D]at K))
   split
   ·rename_i K
    refine(uW hg).andThen λc cD H aA=> ?_
    refine(aj.part cD H).andThen λD ec m1 fp=> ?_
    refine(aj.part ec m1).andThen λcp fl e3 g9=> ?_
    exact dj.ok e3 (awn (aA.1.name aA.2) fp g9 (af.pos λD=>by simp[D]at K))
   ·exact dj.bad _
structure pw(bv:iP)(d:d4):Prop where
 name:bv.N d.name
 type:bv.EC d.ty
 on:d.on≠[]->bv.N d.on
 no:d.on=[]->d.no=false
 ap:bv.A d.at_
 op:bv.A d.fT
structure GX(bv:iP)(ai:ee):Prop where
 left:∀s∈ai.left,bv.N s
 some:ai.left≠[]
 right:fu bv ai.right
 ap:bv.A ai.at_
 ayv:∀E∈ai.cX,bv.A E
structure ls(bv:iP)(g:Node):Prop where
 name:bv.N g.name
 dg:∀d∈g.dg,pw bv d
 out:∀d∈g.out,pw bv d
 loc:∀d∈g.loc,pw bv d
 some:g.out≠[]
 eqs:∀ai∈g.eqs,GX bv ai
 ap:bv.A g.at_
def wT(bv:iP)(xs:List Tok):Prop:=∀x∈xs,bv.N x.text/\bv.A x.at_
def wT.app{bv:iP}{x:Tok}{xs:List Tok}(a:wT bv xs)(af:bv.N x.text/\bv.A x.at_):wT bv (xs++[x]):=by
 intro e B
 rcases Zw.1 B with B|B
 ·exact a e B
 ·simp at B;subst B;exact af
def acM{bv:iP}:∀(n:Nat) (ca k:List Tok),gv bv k->wT bv ca->dj bv (λxs=>wT bv xs/\xs≠[]) (rm n ca k):=by
 intro n
 induction n with
 |zero=>intro ca k _ _;rw[rm];exact dj.none
 |succ n aj=>
  intro ca k aB aD
  rw[rm]
  refine(uW aB).andThen λx cb H af=> ?_
  have aI:=aD.app ⟨af.1.name af.2,af.1.pos (by rw[af.2];decide)⟩
  refine p7 H (λe cD _ K=>aj _ cD K aI) (dj.ok H ⟨aI,Zs⟩)
def WP{bv:iP}{w:Option Tok}{k:List Tok}(aB:gv bv k):dj bv (λr:ba×Int×Bool=>((r.1≠[]->bv.N r.1)/\(r.1=[]->r.2.2=false))/\bv.A r.2.1) (y8 w k):=by
 unfold y8
 split
 ·exact dj.ok aB ⟨⟨λa=>absurd rfl a,λ_=>rfl⟩,bv.a0⟩
 ·refine p7 aB (λe cD _ K=> ?_) ?_
  ·exact(uW K).andThen λx cb H af=>dj.ok H ⟨⟨λ_=>af.1.name af.2,λa=>absurd a (bv.aY _ (af.1.name af.2))⟩,af.1.pos (by rw[af.2];decide)⟩
  ·exact(uW aB).andThen λx cb H af=>dj.ok H ⟨⟨λ_=>af.1.name af.2,λa=>absurd a (bv.aY _ (af.1.name af.2))⟩,af.1.pos (by rw[af.2];decide)⟩
def gv.drop{bv:iP}{k:List Tok}(a:gv bv k)(n:Nat):gv bv (k.drop n):=λx af=>a x (YP af)
def WN{bv:iP}{loc:Bool}{q:List d4->List Tok->fY (List d4)}{Q:List d4->Prop}{ds:List d4}{k:List Tok}(aB:gv bv k)(bG:Q ds)(aG:∀cb,gv bv cb->dj bv Q (q ds cb)):dj bv Q (xg loc q ds k):=by
 unfold xg
 split
 ·exact dj.none
 ·split
  ·split
   ·split
    ·exact dj.none
    ·split
     ·exact dj.ok aB bG
     ·exact aG _ (aB.drop 1)
   ·exact aG _ (aB.drop 1)
  ·exact dj.ok aB bG
def Py{bv:iP}{loc:Bool}:∀(n:Nat) (ds:List d4) (k:List Tok),gv bv k->(∀d∈ds,pw bv d)->dj bv (λds=>(∀d∈ds,pw bv d)/\ds≠[]) (ja n loc ds k):=by
 intro n
 induction n with
 |zero=>intro ds k _ _;rw[ja];exact dj.none
 |succ n aj=>
  intro ds k aB aH
  rw[ja]
  refine(acM n [] k aB (λ_ a=>by cases a)).andThen λxs cb H af=> ?_
  unfold CD
  refine(nR H).andThen λ_ cD K _=> ?_
  refine(uW K).andThen λt ec am a8=> ?_
  have qs:∀r:ba×Int×Bool,((r.1≠[]->bv.N r.1)/\(r.1=[]->r.2.2=false))/\bv.A r.2.1->∀d∈ds++xs.map (pE t.ty r.1 r.2.1 r.2.2),pw bv d:=by
   intro r V d anH
   rcases Zw.1 anH with a|a
   ·exact aH d a
   ·obtain⟨x,FS,rfl⟩:=ZC.1 a
    exact⟨(af.1 x FS).1,a8.1.type a8.2,V.1.1,V.1.2,(af.1 x FS).2,V.2⟩
  refine p7 am (λw fl _ aC=> ?_) ?_
  ·refine(WP aC).andThen λr fG bm V=> ?_
   exact WN bm ⟨qs r V,by simp[af.2]⟩ (λcb a=>aj _ cb a (qs r V))
  ·refine(WP am).andThen λr fG bm V=> ?_
   exact WN bm ⟨qs r V,by simp[af.2]⟩ (λcb a=>aj _ cb a (qs r V))
def akP{bv:iP}(n:Nat){k:List Tok}(aB:gv bv k):dj bv (GX bv) (uo n k):=by
 have Ds:∀(xs:List Tok) (k:List Tok),gv bv k->wT bv xs/\xs≠[]->dj bv (GX bv) (andThen (eo [61] k) λD k=>andThen (arrow n k) λr k=>andThen (eo [59] k) λ_ k=>ok ⟨xs.map Tok.text,xs.map Tok.at_,D.at_,r⟩ k):=by
  intro xs k aB af
  refine(nR aB).andThen λD cD K anO=> ?_
  refine((aiM bv n).arrow cD K).andThen λr ec am V=> ?_
  refine(nR am).andThen λ_ fl aC _=>dj.ok aC ⟨?_,by simp[af.2],V,anO, ?_⟩
  ·intro s aE
   obtain⟨x,FS,rfl⟩:=ZC.1 aE
   exact(af.1 x FS).1
  ·intro s aE
   obtain⟨x,FS,rfl⟩:=ZC.1 aE
   exact(af.1 x FS).2
 have qz:∀x:Tok,yS bv x/\x.kind=1->wT bv [x]:=λx af e B=>by simp at B;subst B;exact⟨af.1.name af.2,af.1.pos (by rw[af.2];decide)⟩
 unfold uo
 refine p7 aB (λe cD _ K=> ?_) ?_
 ·refine dj.andThen (Q:=λxs=>wT bv xs/\xs≠[]) ?_ Ds
  refine(uW K).andThen λx ec am af=> ?_
  refine(nR am).andThen λ_ fl aC _=> ?_
  refine(acM n [x] fl aC (qz x af)).andThen λxs fG bm AQ=> ?_
  exact(nR bm).andThen λ_ kz b1 _=>dj.ok b1 AQ
 ·refine dj.andThen (Q:=λxs=>wT bv xs/\xs≠[]) ?_ Ds
  exact(uW aB).andThen λx ec am af=>dj.ok am ⟨qz x af,Zs⟩
def akT{bv:iP}:∀(n:Nat) (b8:List ee) (k:List Tok),gv bv k->(∀ai∈b8,GX bv ai)->dj bv (λb8=>∀ai∈b8,GX bv ai) (lR n b8 k):=by
 intro n
 induction n with
 |zero=>intro b8 k _ _;rw[lR];exact dj.none
 |succ n aj=>
  intro b8 k aB bG
  rw[lR]
  refine p7 aB (λe cD _ K=>dj.ok K bG) ?_
  refine(akP n aB).andThen λai cD K apg=>aj _ cD K ?_
  intro p2 a
  rcases Zw.1 a with a|a
  ·exact bG p2 a
  ·simp at a;subst a;exact apg
def asF{bv:iP}(n:Nat){k:List Tok}(aB:gv bv k):dj bv (ls bv) (node n k):=by
 unfold node
 refine(nR aB).andThen λ_ k H _=> ?_
 refine(uW H).andThen λx k K af=> ?_
 refine(nR K).andThen λ_ k am _=> ?_
 have Ds:∀(dg:List d4) (k:List Tok),gv bv k->(∀d∈dg,pw bv d)->dj bv (ls bv) (andThen (eo [114,101,116,117,114,110,115] k) λ_ k=>andThen (eo [40] k) λ_ k=>andThen (ja n false [] k) λout k=>andThen (eo [41] k) λ_ k=>
  h8 [118,97,114] k λe k=>andThen (match e with
   |some _=>andThen (ja n true [] k) λds k=>andThen (eo [59] k) λ_ k=>ok ds k
   |none=>ok [] k) λloc k=>
  andThen (eo [108,101,116] k) λ_ k=>andThen (lR n [] k) λb8 k=>ok ⟨x.text,x.at_,dg,out,loc,b8⟩ k):=by
  intro dg k aB aF
  refine(nR aB).andThen λ_ k H _=> ?_
  refine(nR H).andThen λ_ k K _=> ?_
  refine(Py n [] k K (λ_ a=>by cases a)).andThen λout k am bd=> ?_
  refine(nR am).andThen λ_ k aC _=> ?_
  have FA:∀(loc:List d4) (k:List Tok),gv bv k->(∀d∈loc,pw bv d)->dj bv (ls bv) (andThen (eo [108,101,116] k) λ_ k=>andThen (lR n [] k) λb8 k=>ok ⟨x.text,x.at_,dg,out,loc,b8⟩ k):=by
   intro loc k aB aox
   refine(nR aB).andThen λ_ k bm _=> ?_
   exact(akT n [] k bm (λ_ a=>by cases a)).andThen λb8 k b1 o0=>dj.ok b1 ⟨af.1.name af.2,aF,bd.1,aox,bd.2,o0,af.1.pos (by rw[af.2];decide)⟩
  refine p7 aC (λe cD _ bm=> ?_) ?_
  ·refine dj.andThen (Q:=λds=>∀d∈ds,pw bv d) ?_ FA
   refine(Py n [] cD bm (λ_ a=>by cases a)).andThen λds k b1 QY=> ?_
   exact(nR b1).andThen λ_ k df _=>dj.ok df QY.1
  ·exact dj.andThen (Q:=λds=>∀d∈ds,pw bv d) (dj.ok aC (λ_ a=>by cases a)) FA
 refine p7 am (λe cD _ aC=> ?_) ?_
 ·exact dj.andThen (Q:=λds=>∀d∈ds,pw bv d) (dj.ok aC (λ_ a=>by cases a)) Ds
 ·refine dj.andThen (Q:=λds=>∀d∈ds,pw bv d) ?_ Ds
  refine(Py n [] _ am (λ_ a=>by cases a)).andThen λds k b1 QY=> ?_
  exact(nR b1).andThen λ_ k df _=>dj.ok df QY.1
def ac1{bv:iP}:∀(n:Nat) (an:List Node) (k:List Tok),gv bv k->(∀g∈an,ls bv g)->dj bv (λan=>(∀g∈an,ls bv g)/\an≠[]) (nodes n an k):=by
 intro n
 induction n with
 |zero=>intro an k _ _;rw[nodes];exact dj.none
 |succ n aj=>
  intro an k aB bw
  rw[nodes]
  refine(asF n aB).andThen λg cD K an9=> ?_
  have Fx:∀eI∈an++[g],ls bv eI:=by
   intro eI a
   rcases Zw.1 a with a|a
   ·exact bw eI a
   ·simp at a;subst a;exact an9
  split
  ·exact dj.none
  ·split
   ·exact dj.ok K ⟨Fx,Zs⟩
   ·exact aj _ _ K Fx
end Go.aQ

