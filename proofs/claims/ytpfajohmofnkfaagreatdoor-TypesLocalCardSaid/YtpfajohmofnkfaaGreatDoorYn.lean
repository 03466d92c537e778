/- A part of the last text's proof; no condition of its own -/
import Derived.Test.YtpfajohmofnkfaaGreatDoorYm
set_option maxHeartbeats 8000000
set_option linter.all false
namespace Go.Proofs.YtpfajohmofnkfaaGreatDoor
open Go.bi Go.aU
noncomputable section
def g6(g:Go.aU.Node):List (Int×fe):=(g.eG.map λd=>(1,d))++((g.out.map λd=>(2,d))++(g.loc.map λd=>(3,d)))
def l7(g:Go.aU.Node):Nat->List fe
 |0=>g.eG
 |1=>g.out
 |_=>g.loc
def pN(g:Go.aU.Node):Nat->Nat
 |0=>0
 |1=>g.eG.length
 |2=>g.eG.length+g.out.length
 |_=>g.eG.length+g.out.length+g.loc.length
def adH(g:Go.aU.Node){B:Nat}(aN:B<3):pN g (B+1)=pN g B+(l7 g B).length:=by
 match B,aN with
 |0,_=>simp[pN,l7]
 |1,_=>rfl
 |2,_=>rfl
def K2(g:Go.aU.Node):(g6 g).length=pN g 3:=by simp[g6,pN];omega
def Xu(g:Go.aU.Node){B:Nat}(aN:B<3){aa:Nat}{d:fe}(a:(l7 g B)[aa]? =some d):(g6 g)[pN g B+aa]? =some (1+(B:Int),d):=by
 match B,aN,a with
 |0,_,a=>
  have bG:=(Zb.1 a).1
  simp only[l7]at a bG
  simp only[g6,pN,ZI]
  rw[ZO (by simpa using bG),Zx,a];rfl
 |1,_,a=>
  have bG:=(Zb.1 a).1
  simp only[l7]at a bG
  simp only[g6,pN]
  rw[ZE Zs,Zn,Nat.add_sub_cancel_left,ZO (by simpa using bG),Zx,a];rfl
 |2,_,a=>
  simp only[l7]at a
  simp only[g6,pN]
  rw[ZE (by simp;omega),Zn,ZE (by simp;omega),Zn,show g.eG.length+g.out.length+aa-g.eG.length-g.out.length=aa by omega,Zx,a];rfl
section
variable{X:ck}{h T gb a2 aS:V an}{j au aO bg:Nat}
def asm{C:aZ}{l:Nat}{K m b:List F}{ai ay:bI}(a:Ai C l (K++m) h j ai ay):jn C (.func (.yield l) K b) m h j ai ay:=⟨a⟩
def alX(aA:dz X){P:Nat->Prop}{g:Go.aU.Node}{d1 l c0 dL ef:Nat}{cY dj a6:F}(d0:Nat->V an->Nat->Prop)
 (Q:dO X gb P c0 cY 8 (g.eG.map eY))(U:dO X gb P dL dj 8 (g.out.map eY))(ar:dO X gb P ef a6 8 (g.loc.map eY))
 (cl:ao X h (.ptr d1 2)=some cY)(a3:ao X h (.ptr d1 3)=some dj)(a4:ao X h (.ptr d1 4)=some a6)
 (E7:∀i h j,d0 i h j->(o X).a8<=j/\∀e,P e->ab X h e=ab X gb e)
 (LJ:∀i h j T au,d0 i h j->bq X h j T au->d0 i T au)
 (Z:∀i B d h j,(g6 g)[i]? =some (B,d)->d0 i h j->Ai X l [.Z B, .agg (eY d)] h j (λae T au=>ae= .bool true/\d0 (i+1) T au) (λ_ _ _=>False))
 (b6:d0 0 h j):aW X 132 [.func (.yield l) [] [], .ptr d1 0] h j (λ_ T au=>d0 (g6 g).length T au) (λ_ _ _=>False):=by
 refine zA aA (agB X) ?_
 rw[agC]
 unfold Un
 have FD:∀B,B<3->∃s b,[cY,dj,a6][B]? =some s/\dO X gb P b s 8 ((l7 g B).map eY):=by
  intro B aN
  match B,aN with
  |0,_=>exact⟨cY,c0,rfl,Q⟩
  |1,_=>exact⟨dj,dL,rfl,U⟩
  |2,_=>exact⟨a6,ef,rfl,ar⟩
 have ak9:=(ke Q.len).1
 have alm:=(ke U.len).1
 have rP:=(ke ar.len).1
 have fz:eB [.aP, .aP, .aP] [(0,1,cY),(1,1,dj),(2,1,a6)]=some (.agg [cY,dj,a6]):=by
  simp[eB,py,pz,li,ak9,alm,rP]
 refine er @cl @a3 @a4 ⟨?_⟩
 refine fF fz ?_
 refine cL ⟨?_⟩
 refine fU (λm M T aV=>∃(B:Nat),M.g 0=some (.func (.yield l) [] [])/\M.g 13=some (.agg [cY,dj,a6])/\M.g 14=some (.Z (B:Int))/\B+m=3/\d0 (pN g B) T aV)
  3 ⟨0,bw,bw,gc,Zo,b6⟩ ?_
 rintro m M aS bg ⟨B,t0,lj,oj,aN,AL⟩
 cases m with
 |zero=>
  have d:decide ((B:Int)<3)=false:=by simp only[Zc];omega
  refine cV @oj @d ⟨?_⟩
  rw[K2]
  have:B=3:=Zo
  subst this
  exact AL
 |succ m=>
  have d:decide ((B:Int)<3)=true:=by simp only[Zh];omega
  obtain⟨s,b,aD,cC⟩:=FD B Zo
  have dZ:ts false 3 1 (.agg [cY,dj,a6]) (.Z (B:Int))=some s:=by
   have ar:Nat.blt B 3=true:=by simp[Nat.blt];omega
   simp only[ts,rg,ar,eP,jF,pL,Yj]
   exact aD
  have eD:=cC.len
  have i6:=cC.many
  rw[Zn]at eD i6
  refine gA @oj @lj @d @dZ @eD ⟨?_⟩
  refine fU (λm M T aV=>∃(aa:Nat),M.g 0=some (.func (.yield l) [] [])/\M.g 13=some (.agg [cY,dj,a6])/\M.g 14=some (.Z (B:Int))/\M.g 3=some (.Z (B:Int))/\M.g 18=some s/\M.g 19=some (.Z ((l7 g B).length:Int))/\M.g 20=some (.Z (aa:Int))/\aa+m=(l7 g B).length/\d0 (pN g B+aa) T aV)
   (l7 g B).length ⟨0,bf t0,bf lj,bf oj,bw,bw,bw,gc,Zo,AL⟩ ?_
  rintro gm cZ bb bs ⟨aa,t0,lj,oj,t3,GN,xt,DX,bG,yi⟩
  cases gm with
  |zero=>
   have d:=zu aa (l7 g B).length
   have bD:=zy B
   refine gA @DX @xt @oj @d @bD ⟨?_⟩
   refine⟨m,Zo,B+1,bf t0,bf lj,bw,Zo, ?_⟩
   rw[adH g Zo]
   have:aa=(l7 g B).length:=Zo
   rw[<-this]
   exact yi
  |succ gm=>
   have d:=zv aa (l7 g B).length
   have bD:=zy aa
   have cF:aF .add (.Z 1) (.Z (B:Int))=some (.Z (1+(B:Int))):=eT Zo Zo
   obtain⟨aG,aM⟩:=zw (l7 g B) aa
   obtain⟨yu,aoL⟩:=E7 _ _ _ yi
   have qk:=cC.f2 aa (by rw[Zn];omega)
   have ft:=(cC.ad aoL).row (i:=aa) (r:=eY aG) Zd (by rw[Zx,aM];rfl)
   have jZ:eY aG=[.str aG.name, .Z aG.at_, .bool aG.ty.b, .bool aG.ty.s, .Z aG.ty.w, .str aG.on, .Z aG.fu, .bool aG.no]:=rfl
   rw[jZ]at ft
   refine iZ @DX @xt @GN @d @qk @ft ⟨?_⟩
   generalize fl:bn X _ bs _=bF
   have ej:ab X bF bs=zx [.str aG.name, .Z aG.at_, .bool aG.ty.b, .bool aG.ty.s, .Z aG.ty.w, .str aG.on, .Z aG.fu, .bool aG.no] 8:=by rw[<-fl,bm yu];rfl
   have dv:bq X bb bs bF (bs+1):=⟨Zo,λe H=>by rw[<-fl];exact zz⟩
   clear fl
   refine gt @t0 @t3 @cF (bR ej) ⟨?_⟩
   refine asm ((Z _ _ _ _ _ (Xu g Zo aM) (LJ _ _ _ _ _ yi dv)).mono ?_ (λ_ _ _ a=>False.elim a))
   rintro ae bX b2 ⟨rfl,h3⟩
   refine cV @DX @bD ⟨?_⟩
   exact⟨gm,Zo,aa+1,bf t0,bf lj,bf oj,bf t3,bf GN,bf xt,bw,Zo,h3⟩
def K4(aA:dz X){P:Nat->Prop}{g:Go.aU.Node}{n fA hx d1 c0 dL ef:Nat}{cY dj a6:F}{A bj:Kq}{ai:gs}{J:Nat->gs}{r:gs}{ay:rH}{M:dS}(d0:Nat->V an->Nat->Prop)
 (aL:(o X).a8<=j)(el:fA<n)(dA:hx<n)(wL:d1<j)
 (Q:dO X h P c0 cY 8 (g.eG.map eY))(U:dO X h P dL dj 8 (g.out.map eY))(ar:dO X h P ef a6 8 (g.loc.map eY))
 (cl:ao X h (.ptr d1 2)=some cY)(a3:ao X h (.ptr d1 3)=some dj)(a4:ao X h (.ptr d1 4)=some a6)
 (E7:∀i T aV,d0 i T aV->j+2<=aV/\∀e,P e->ab X T e=ab X h e)
 (LJ:∀i a2 aO aS bg,d0 i a2 aO->aO<=bg->(∀e,e<aO->e≠j+1->ab X aS e=ab X a2 e)->d0 i aS bg)
 (b6:∀T,bq X h j T (j+2)->d0 0 T (j+2))
 (ark:∀mk i B d a2 aO,(g6 g)[i]? =some (B,d)->d0 i a2 aO->ab X a2 j=some (.deferred (some []))->ab X a2 (j+1)=some (mk .ready none)->
  sz X A bj (j+1) mk (λae T aV=>ae= .bool true/\d0 (i+1) T aV/\ab X T j=some (.deferred (some []))/\ab X T (j+1)=some (mk .ready none)) (λ_ _ _=>False) (ac (ac M fA (.Z B)) hx (.agg (eY d))) a2 aO)
 (wM:∀T aV,d0 (g6 g).length T aV->ab X T j=some (.deferred (some []))->ai (vg M j) T aV):
 DL X n (.func (.func 132) [] [.ptr d1 0]) [fA,hx] (sz X A bj) ai J r ay M h j:=by
 refine⟨aL, ?_⟩
 intro mk IJ
 refine WT (aA.none _ _ rfl) ?_
 generalize et:bn X (bn X h j _) (j+1) _=a2
 have mO:ab X a2 j=some (.deferred (some [])):=by rw[<-et,aI Zo Zo,bm aL]
 have is:ab X a2 (j+1)=some (mk .ready none):=by rw[<-et,bm Zo]
 have bU:bq X h j a2 (j+2):=⟨Zo,λe H=>by rw[<-et];exact zz⟩
 clear et
 have LI:=b6 a2 bU
 obtain⟨_,LO⟩:=E7 _ _ _ LI
 refine(alX (l:=j+1) aA (λi T aV=>d0 i T aV/\ab X T j=some (.deferred (some []))/\ab X T (j+1)=some (mk .ready none)) (Q.ad LO) (U.ad LO) (ar.ad LO)
  (by rw[bU.fT _ _ wL];exact cl) (by rw[bU.fT _ _ wL];exact a3) (by rw[bU.fT _ _ wL];exact a4)
  (λi T aV a=> ?_) (λi a2 aO aS bg a bT=> ?_) (λi B d a2 aO aJ a=> ?_) ⟨LI,mO,is⟩).Zm ?_
 ·obtain⟨cD,cp⟩:=E7 _ _ _ a.1
  exact⟨Zo,λe H=>by rw[cp e H,LO e H]⟩
 ·obtain⟨cD,cp⟩:=E7 _ _ _ a.1
  exact⟨LJ _ _ _ _ _ a.1 bT.le (λe H _=>bT.ad e H),by rw[bT.ad _ Zo];exact a.2.1,by rw[bT.ad _ Zo];exact a.2.2⟩
 ·refine IJ _ _ _ _ _ a.2.2 ?_
  have bD:Nat.blt fA n=true:=by simp[Nat.blt];omega
  have cF:Nat.blt hx n=true:=by simp[Nat.blt];omega
  simp only[GH,bD,cF,eP]
  exact ark mk i B d a2 aO aJ a.1 a.2.1 a.2.2
 ·rintro ae aS bg ⟨AL,ant,anB⟩
  obtain⟨cD,cp⟩:=E7 _ _ _ AL
  refine⟨.ready,none,Zs,anB, ?_⟩
  show ai _ _ _
  exact wM _ _ (LJ _ _ _ _ _ AL (Zi _) (λe H MP=>aI Zo MP)) (by rw[aI Zo Zo];exact ant)
end
def AC{α eO:Type}(st:eO->α->eO)(s:eO){l:List α}{i:Nat}{x:α}(a:l[i]? =some x):(l.take (i+1)).foldl st s=st ((l.take i).foldl st s) x:=by
 rw[Z5,a,List.foldl_append];rfl
def lw(s:(bk->Option Int)×(Int×Int))(x:Int×fe):(bk->Option Int)×(Int×Int):=
 (λw=>if w=x.2.name then some x.1 else s.1 w,if 0<(s.1 x.2.name).getD 0 then mg s.2 24 x.2.at_ else s.2)
def qV(t:bk->Option eJ)(f:Int×Int)(x:Int×fe):Int×Int:=if t x.2.on=none/\x.2.on≠[]then mg f 23 x.2.fu else f
def sZ(t:bk->Option eJ)(g:Go.aU.Node)(f:Int×Int):Int×Int:=(g6 g).foldl (qV t) ((g6 g).foldl lw (λ_=>none,f)).2
section
variable{X:ck}{h T gb a2 aS:V an}{j au aO bg:Nat}
def K3(aA:dz X){nm cY dj a6 ev:F}{K:F}(aL:(o X).a8<=j):
 aW X 78 [.agg [nm,K,cY,dj,a6,ev]] h j (λae T au=>ae= .func (.func 132) [] [.ptr j 0]/\au=j+1/\bq X h j T au/\ao X T (.ptr j 2)=some cY/\ao X T (.ptr j 3)=some dj/\ao X T (.ptr j 4)=some a6) (λ_ _ _=>False):=by
 refine zA aA (ajr X) ?_
 rw[ajs]
 unfold VV
 refine cL ⟨?_⟩
 exact⟨rfl,rfl,dU,by rw[bR (bm aL)];rfl,by rw[bR (bm aL)];rfl,by rw[bR (bm aL)];rfl⟩
structure rz(X:ck)(hj:V an)(d2 b0 lK:Nat)(p:F)(B:Int)(cW dc:F)(f:Int×Int)(af:bk->Option Int)(h:V an)(n:Nat):Prop where
 le:d2+2<=n
 jE:f3 X h b0 p B cW dc f
 seen:ot X h lK (nL af)
 low:∀e,e<d2->e≠b0->e≠lK->ab X h e=ab X hj e
def rz.ad{hj:V an}{d2 b0 lK:Nat}{p cW dc:F}{B:Int}{f:Int×Int}{af:bk->Option Int}(a:rz X hj d2 b0 lK p B cW dc f af a2 aO)(ko:b0<d2)(IG:lK<d2)(aL:aO<=bg)(aN:∀e,e<aO->e≠d2+1->ab X aS e=ab X a2 e):rz X hj d2 b0 lK p B cW dc f af aS bg:=by
 have gl:=a.le
 refine⟨Zo, ?_,a.seen.ad (aN _ Zo Zo),λe Q U ar=>by rw[aN e Zo Zo];exact a.low e Q U ar⟩
 have:=a.jE
 unfold f3 at*
 rw[aN _ Zo Zo];exact this
def alz(aA:dz X){P:Nat->Prop}{b0:Nat}{p cW dc:F}{B:Int}{t:bk->Option eJ}{g:Go.aU.Node}{row:List F}(aL:(o X).a8<=j)(ko:(o X).a8<=b0)(yp:b0<j)
 (bC:∀e,P e->e<j/\e≠b0)(bc:rJ X h P cW t){f:Int×Int}(aB:f3 X h b0 p B cW dc f)(b5:m5 X h P g row)(wR:True):
 aW X 120 [.ptr b0 0, .agg row] h j (λae T au=>ae= .tuple []/\f3 X T b0 p B cW dc (sZ t g f)/\j<=au/\∀e,e<j->e≠b0->ab X T e=ab X h e) (λ_ _ _=>False):=by
 refine Hn (agn X) (aA.none _ _ rfl) ?_
 rw[ago]
 unfold Ug
 obtain⟨cY,dj,a6,ev,c0,dL,ef,hQ,aR,rfl,nl,lC,oK,iu,e3⟩:=b5
 refine cL ⟨?_⟩
 refine fc (λa2=>ab X a2 j=zx [.ptr b0 0] 1/\ab X a2 (j+1)=zx [.str g.name, .Z g.at_,cY,dj,a6,ev] 6
  /\ab X a2 (j+1+1)=some (.map [] 0)/\ao X a2 (.ptr (j+1+1+1) 0)=some (.map (j+1+1))/\bq X h j a2 (j+1+1+1+1)) ⟨by(first|assumption|(simp(disch:=omega) only[bm,aI]<;>rfl)|(simp(disch:=omega) only[bm,aI])),by(first|assumption|(simp(disch:=omega) only[bm,aI]<;>rfl)|(simp(disch:=omega) only[bm,aI])),by(first|assumption|(simp(disch:=omega) only[bm,aI]<;>rfl)|(simp(disch:=omega) only[bm,aI])),by rw[cJ,bm Zo];rfl,dU⟩ ?_
 rintro a2 ⟨iY,b4,b7,cN,bU⟩
 refine(K3 aA Zo).Zm ?_
 rintro ae aS bg ⟨rfl,rfl,bK,cp,dF,fL⟩
 have jX:bq X h j aS (j+1+1+1+1+1):=bU.trans bK
 have n1:∀e,P e->ab X aS e=ab X h e:=λe H=>jX.ad e (bC e H).1
 rw[<-bK.ad _ Zo]at iY b4 b7
 rw[<-bK.fT _ _ Zo]at cN
 generalize aqu:j+1+1+1+1+1=d2 at*
 have Fe:f3 X aS b0 p B cW dc f:=by unfold f3 at*;rw[jX.ad b0 yp];exact aB
 have CR:ot X aS (j+1+1) (nL λ_=>none):=⟨[],0,b7,λ_=>rfl⟩
 refine gV ?_
 refine K4 (P:=P) (g:=g) (c0:=c0) (dL:=dL) (ef:=ef) (cY:=cY) (dj:=dj) (a6:=a6) aA (λi T aV=>rz X aS d2 b0 (j+1+1) p B cW dc (((g6 g).take i).foldl lw (λ_=>none,f)).2 (((g6 g).take i).foldl lw (λ_=>none,f)).1 T aV) Zo Zo Zo Zo
  (nl.ad n1) (lC.ad n1) (oK.ad n1) cp dF fL (λi T aV a=>⟨a.le,λe H=>a.low e (zt (bC e H).1) (bC e H).2 (zt (bC e H).1)⟩)
  (λi a2 aO aS bg a gl aN=>a.ad Zo Zo gl aN) (λT bT=>⟨Zi _,by unfold f3 at*;rw[bT.ad _ Zo];exact Fe,CR.ad (bT.ad _ Zo),λe H _ _=>bT.ad e H⟩) ?_ ?_
 ·intro mk i fb d bb bs aJ gu mO is
  rw[AC lw _ aJ]
  generalize ((g6 g).take i).foldl lw (λ_=>none,f)=cd at gu ⊢
  have gl:=gu.le
  have jZ:eY d=[.str d.name, .Z d.at_, .bool d.ty.b, .bool d.ty.s, .Z d.ty.w, .str d.on, .Z d.fu, .bool d.no]:=rfl
  rw[jZ]
  unfold sz
  refine cL ⟨?_⟩
  generalize fl:bn X _ bs _=bF
  have ej:ab X bF bs=zx [.str d.name, .Z d.at_, .bool d.ty.b, .bool d.ty.s, .Z d.ty.w, .str d.on, .Z d.fu, .bool d.no] 8:=by rw[<-fl,bm Zo];rfl
  have ec:∀e,e<bs->ab X bF e=ab X bb e:=λe H=>by rw[<-fl];exact zz
  clear fl
  refine⟨by rw[ec _ Zo];exact is, ?_⟩
  generalize mi:bn X bF (d2+1) _=bX
  have fY:ab X bX (d2+1)=some (mk .busy none):=by rw[<-mi,bm Zo]
  have eU:∀e,e≠d2+1->ab X bX e=ab X bF e:=λe H=>by rw[<-mi,aI Zo H]
  clear mi
  have h3:=gu.ad (aS:=bX) (bg:=bs+1) Zo Zo Zo (λe Q U=>by rw[eU e U,ec e Q])
  rw[<-eU _ Zo]at ej
  have ui:ab X bX d2=some (.deferred (some [])):=by rw[eU _ Zo,ec _ Zo];exact mO
  have fB:ao X bX (.ptr j 0)=some (.ptr b0 0):=by rw[bR (show ab X bX j=_ by rw[h3.low _ Zo Zo Zo];exact iY)];rfl
  have ef:ao X bX (.ptr (j+1+1+1) 0)=some (.map (j+1+1)):=zE (h3.low _ Zo Zo Zo) cN
  have jz:kr X bX 9 (.Z 0) (.map (j+1+1)) (.str d.name) false=some (.Z ((cd.1 d.name).getD 0)):=by
   rw[Do h3.seen];unfold nL;cases cd.1 d.name<;>rfl
  refine he @ef @jz (bR ej) ⟨?_⟩
  refine gV ?_
  refine he @ef @jz (bR ej) ⟨?_⟩
  refine j3 (λcZ T aV=>cZ.g 4=some (.ptr (j+1+1+1) 0)/\cZ.g 6=some (.ptr bs 0)/\cZ.g 5=some (.Z fb)/\rz X aS d2 b0 (j+1+1) p B cW dc (lw cd (fb,d)).2 cd.1 T aV/\bs+1<=aV
   /\ab X T bs=zx [.str d.name, .Z d.at_, .bool d.ty.b, .bool d.ty.s, .Z d.ty.w, .str d.on, .Z d.fu, .bool d.no] 8/\ab X T d2=some (.deferred (some []))/\ab X T (d2+1)=some (mk .busy none)) (λaa bG=> ?_) ?_
  ·by_cases aD:0<(cd.1 d.name).getD 0
   ·have aG:decide (0<(cd.1 d.name).getD 0)=true:=by simp[aD]
    refine er @aG @fB (bR ej) ⟨?_⟩
    refine(wh (h:=bX) aA ko h3.jE 24 d.at_).Zm ?_
    rintro ae cf eK ⟨rfl,apg,r8,nS⟩
    refine cL ⟨?_⟩
    refine bG _ _ _ ⟨bw,bw,bw,⟨Zo, ?_,h3.seen.ad (nS _ Zo),λe Q U ar=>by rw[nS e U];exact h3.low e Q U ar⟩,Zo,by rw[nS _ Zo];exact ej,by rw[nS _ Zo];exact ui,by rw[nS _ Zo];exact fY⟩
    unfold lw
    simp only[aD,ZD]
    exact apg
   ·have aG:decide (0<(cd.1 d.name).getD 0)=false:=by simp[aD]
    refine ci @aG ⟨?_⟩
    refine bG _ _ _ ⟨bw,bw,bw,⟨Zo, ?_,h3.seen,h3.low⟩,Zo,ej,ui,fY⟩
    unfold lw
    simp only[aD,ZA]
    exact h3.jE
  ·rintro cZ cf eK ⟨t4,fM,t5,i2,r8,dY,rU,anD⟩
   have Mk:=i2.le
   have Ca:ao X cf (.ptr (j+1+1+1) 0)=some (.map (j+1+1)):=zE (i2.low _ Zo Zo Zo) cN
   show al _ _
   refine gA @t4 @fM @t5 @Ca (bR dY) ⟨?_⟩
   obtain⟨cx,q6,aod,q5⟩:=Nd (j:=eK) (show(o X).a8<=j+1+1 by omega) i2.seen d.name (.Z fb)
   refine ki q6 ?_
   refine cL ⟨?_⟩
   refine⟨⟨.busy,none,by rw[q5 _ Zo];exact anD⟩, ?_⟩
   have AR:f3 X cx b0 p B cW dc (lw cd (fb,d)).2:=by have:=i2.jE;unfold f3 at*;rw[q5 b0 Zo];exact this
   have aoe:ot X cx (j+1+1) (nL (lw cd (fb,d)).1):=by
    have:(λx=>if x=d.name then some (F.Z fb)else nL cd.1 x)=nL (lw cd (fb,d)).1:=by
     funext x;unfold nL lw;by_cases a:x=d.name<;>simp[a]
    rw[<-this];exact aod
   have q1:rz X aS d2 b0 (j+1+1) p B cW dc (lw cd (fb,d)).2 (lw cd (fb,d)).1 cx eK:=⟨Mk,AR,aoe,λe Q U ar=>by rw[q5 e ar];exact i2.low e Q U ar⟩
   exact⟨rfl,q1.ad Zo Zo (Zi _) (λe Q U=>aI Zo U),by rw[aI Zo Zo,q5 _ Zo];exact rU,bm Zo⟩
 ·intro bb bs gu mO
  rw[YY]at gu
  unfold sZ
  generalize (g6 g).foldl lw (λ_=>none,f)=cd at gu ⊢
  have gl:=gu.le
  have ws:ab X bb (j+1)=zx [.str g.name, .Z g.at_,cY,dj,a6,ev] 6:=by rw[gu.low _ Zo Zo Zo];exact b4
  refine ci (bR ws) ⟨?_⟩
  refine(K3 aA Zo).Zm ?_
  rintro ae bF c7 ⟨rfl,rfl,dv,cp,dF,fL⟩
  generalize yv:bs+1=c9 at*
  have uv:f3 X bF b0 p B cW dc cd.2:=by have:=gu.jE;unfold f3 at*;rw[dv.ad b0 Zo];exact this
  have HO:ab X bF d2=some (.deferred (some [])):=by rw[dv.ad _ Zo];exact mO
  have ld:∀e,P e->ab X bF e=ab X h e:=λe H=>by
   have:=bC e H
   rw[dv.ad e Zo,gu.low e Zo this.2 Zo,n1 e H]
  have O1:ab X bF j=zx [.ptr b0 0] 1:=by rw[dv.ad _ Zo,gu.low _ Zo Zo Zo];exact iY
  refine gV ?_
  refine K4 (P:=P) (g:=g) (c0:=c0) (dL:=dL) (ef:=ef) (cY:=cY) (dj:=dj) (a6:=a6) aA (λi T aV=>rz X bF c9 b0 (j+1+1) p B cW dc (((g6 g).take i).foldl (qV t) cd.2) cd.1 T aV) Zo Zo Zo Zo
   (nl.ad ld) (lC.ad ld) (oK.ad ld) cp dF fL (λi T aV a=>⟨a.le,λe H=>a.low e (zt (bC e H).1) (bC e H).2 (zt (bC e H).1)⟩)
   (λi a2 aO aS bg a gl aN=>a.ad Zo Zo gl aN) (λT bT=>⟨Zi _,by unfold f3 at*;rw[bT.ad _ Zo];exact uv,(gu.seen.ad (dv.ad _ Zo)).ad (bT.ad _ Zo),λe H _ _=>bT.ad e H⟩) ?_ ?_
  ·intro mk i fb d bX b2 aJ h3 ui anC
   rw[AC (qV t) _ aJ]
   generalize ((g6 g).take i).foldl (qV t) cd.2=G at h3 ⊢
   have h5:=h3.le
   have jZ:eY d=[.str d.name, .Z d.at_, .bool d.ty.b, .bool d.ty.s, .Z d.ty.w, .str d.on, .Z d.fu, .bool d.no]:=rfl
   rw[jZ]
   unfold sz
   refine cL ⟨?_⟩
   generalize f6:bn X _ b2 _=cf
   have dY:ab X cf b2=zx [.str d.name, .Z d.at_, .bool d.ty.b, .bool d.ty.s, .Z d.ty.w, .str d.on, .Z d.fu, .bool d.no] 8:=by rw[<-f6,bm Zo];rfl
   have dK:∀e,e<b2->ab X cf e=ab X bX e:=λe H=>by rw[<-f6];exact zz
   clear f6
   refine⟨by rw[dK _ Zo];exact anC, ?_⟩
   generalize nf:bn X cf (c9+1) _=cx
   have e1:ab X cx (c9+1)=some (mk .busy none):=by rw[<-nf,bm Zo]
   have gM:∀e,e≠c9+1->ab X cx e=ab X cf e:=λe H=>by rw[<-nf,aI Zo H]
   clear nf
   have q1:=h3.ad (aS:=cx) (bg:=b2+1) Zo Zo Zo (λe Q U=>by rw[gM e U,dK e Q])
   rw[<-gM _ Zo]at dY
   have s4:ab X cx c9=some (.deferred (some [])):=by rw[gM _ Zo,dK _ Zo];exact ui
   have fB:ao X cx (.ptr j 0)=some (.ptr b0 0):=by rw[bR (show ab X cx j=_ by rw[q1.low _ Zo Zo Zo];exact O1)];rfl
   have c5:ao X cx (.ptr b0 2)=some cW:=by have:=q1.jE;unfold f3 at this;rw[bR this];rfl
   have j0:∀T aV,rz X bF c9 b0 (j+1+1) p B cW dc (qV t G (fb,d)) cd.1 T aV->ab X T c9=some (.deferred (some []))->(F.bool true=F.bool true/\rz X bF c9 b0 (j+1+1) p B cW dc (qV t G (fb,d)) cd.1 (bn X T (c9+1) (some (mk .ready none))) aV/\ab X (bn X T (c9+1) (some (mk .ready none))) c9=some (.deferred (some []))/\ab X (bn X T (c9+1) (some (mk .ready none))) (c9+1)=some (mk .ready none)):=λT aV a U=>
    ⟨rfl,a.ad Zo Zo (Zi _) (λe Q U=>aI Zo U),by rw[aI Zo Zo];exact U,bm Zo⟩
   refine x9 ⟨?_⟩
   refine gV ?_
   refine er @fB @c5 (bR dY) ⟨?_⟩
   refine fc (λdx=>ab X dx (b2+1+10)=zx [.Z 0, .str [], .Z 0, .bool false, .bool false, .Z 0, .str [], .Z 0, .bool false, .Z 0, .Z 0] 11/\bq X cx (b2+1) dx (b2+1+10+1)) ⟨by rw[bm Zo];rfl,Zo,λe H=>zz⟩ ?_
   rintro dx ⟨ir,g9⟩
   refine(Lo (j:=b2+1+13) (h:=dx) aA Zo (bc.ad (bu:=P) (λe H=>by have:=bC e H;rw[g9.ad e Zo,q1.low e Zo this.2 Zo,ld e H]) (λ_ a=>a)) (λe H=>zt (bC e H).1) d.on).Zm ?_
   rintro ae ei i7 ⟨rfl,kM⟩
   have tj:=kM.le
   have nc:ab X ei (b2+1+10)=zx [.Z 0, .str [], .Z 0, .bool false, .bool false, .Z 0, .str [], .Z 0, .bool false, .Z 0, .Z 0] 11:=by rw[kM.ad _ Zo];exact ir
   generalize Dc:(t d.on).getD tK=fd
   have sg:pd fd=[.Z fd.kind, .str fd.d.name, .Z fd.d.at_, .bool fd.d.ty.b, .bool fd.d.ty.s, .Z fd.d.ty.w, .str fd.d.on, .Z fd.d.fu, .bool fd.d.no, .Z fd.eq, .Z fd.left]:=rfl
   rw[sg]
   refine hR ⟨?_⟩
   refine hR ⟨?_⟩
   refine fF (h6 (B:=11) (b:=b2+1+10) (Y:=0) (n:=11) nc Zo rfl Zd Zd rfl) ?_
   generalize q2:bn X ei (b2+1+10) _=hj
   have lX:∀e,e<b2+1->ab X hj e=ab X cx e:=λe H=>by rw[<-q2,aI Zo Zo,kM.ad e Zo,g9.ad e H]
   clear q2 ir nc
   have pA:rz X bF c9 b0 (j+1+1) p B cW dc G cd.1 hj i7:=q1.ad Zo Zo Zo (λe Q U=>lX e Q)
   rw[<-lX _ Zo]at dY e1 s4
   have akz:ao X hj (.ptr j 0)=some (.ptr b0 0):=zE (lX _ Zo) fB
   cases r6:(t d.on)with
   |some afd=>
    have pE:qV t G (fb,d)=G:=by unfold qV;rw[Zg (by simp[r6])]
    simp only[Yc]
    refine cL ⟨?_⟩
    rw[pE]at j0 ⊢
    exact⟨⟨.busy,none,e1⟩,j0 _ _ pA s4⟩
   |none=>
    simp only[Z3]
    by_cases nW:d.on=[]
    ·have pE:qV t G (fb,d)=G:=by unfold qV;rw[Zg (by simp[nW])]
     have aG:decide (d.on≠[])=false:=by simp[nW]
     refine cV (bR dY) @aG ⟨?_⟩
     rw[pE]at j0 ⊢
     exact⟨⟨.busy,none,e1⟩,j0 _ _ pA s4⟩
    ·have pE:qV t G (fb,d)=mg G 23 d.fu:=by unfold qV;rw[Zq ⟨r6,nW⟩]
     have aG:decide (d.on≠[])=true:=by simp[nW]
     refine er (bR dY) @aG @akz ⟨?_⟩
     refine(wh (h:=hj) aA ko pA.jE 23 d.fu).Zm ?_
     rintro ae V6 auh ⟨rfl,QT,aqc,uC⟩
     refine cL ⟨?_⟩
     rw[pE]at j0 ⊢
     have IC:=pA.le
     exact⟨⟨.busy,none,by rw[uC _ Zo];exact e1⟩,j0 _ _ ⟨Zo,QT,pA.seen.ad (uC _ Zo),λe Q U ar=>by rw[uC e U];exact pA.low e Q U ar⟩ (by rw[uC _ Zo];exact s4)⟩
  ·intro bX b2 h3 ui
   rw[YY]at h3
   generalize (g6 g).foldl (qV t) cd.2=G at h3 ⊢
   have h5:=h3.le
   have anv:ab X bX d2=some (.deferred (some [])):=by rw[h3.low _ Zo Zo Zo];exact HO
   show mZ X [] _ _ _ _ _
   simp only[so,rr,sP]
   refine⟨by show(o X).a8<=c9;omega,ui, ?_⟩
   refine⟨by show(o X).a8<=d2;omega,by rw[aI Zo Zo];exact anv, ?_⟩
   show qC _ _ _ _ _
   refine⟨rfl, ?_,Zo,λe Q U=> ?_⟩
   ·have:=h3.jE
    unfold f3 at*
    rw[aI Zo Zo,aI Zo Zo];exact this
   ·rw[aI Zo Zo,aI Zo Zo,h3.low e Zo U Zo,dv.ad e Zo,gu.low e Zo U Zo,jX.ad e Q]
end
def xi(s:(bk->Option eJ)×List bk)(x:Int×fe):(bk->Option eJ)×List bk:=
 if (s.1 x.2.name).isSome then s else(λw=>if w=x.2.name then some ⟨x.1,x.2, -1, -1⟩else s.1 w,s.2++[x.2.name])
def tB(B:Nat)(t:bk->Option eJ)(x:bk×Nat):bk->Option eJ:=match t x.1 with
 |some v=>if v.eq<0 then(λw=>if w=x.1 then some ⟨v.kind,v.d,B,x.2⟩else t w)else t
 |none=>t
def JF(t:bk->Option eJ)(x:e9×Nat):bk->Option eJ:=x.1.left.zipIdx.foldl (tB x.2) t
def pM(g:Go.aU.Node):(bk->Option eJ)×List bk:=(g6 g).foldl xi (λ_=>none,[])
def gX(g:Go.aU.Node):bk->Option eJ:=g.eqs.zipIdx.foldl JF (pM g).1
def Nh(g:Go.aU.Node):List bk:=(pM g).2
def vE(t:bk->Option eJ):bk->Option F:=λw=>(t w).map λv=> .agg (pd v)
def TY{α:Type}{l:List α}{i:Nat}{x:α}(a:l[i]? =some x):l.zipIdx[i]? =some (x,i):=by
 rw[List.getElem?_zipIdx,a];simp
section
variable{X:ck}{h T gb a2 aS:V an}{j au aO bg:Nat}
structure rG(X:ck)(hj:V an)(d2 lK cW bS:Nat)(t:bk->Option eJ)(l1:List bk)(h:V an)(n:Nat):Prop where
 le:bS<=n
 map:ot X h lK (vE t)
 vC:∃c a6 cK,ab X h cW=some (.cells c 2 .own)/\c.get 0=some (.map lK)/\c.get 1=some a6/\gI X h a6 1 (l1.map .str) cK/\∀e∈cK,bS<=e/\e<n
 low:∀e,e<d2->e≠lK->e≠cW->ab X h e=ab X hj e
def rG.ad{hj:V an}{d2 lK cW bS:Nat}{t:bk->Option eJ}{l1:List bk}(a:rG X hj d2 lK cW bS t l1 a2 aO)(IG:lK<d2)(mq:cW<d2)(nU:d2<=bS)(aL:aO<=bg)(aN:∀e,e<aO->(e<d2\/bS<=e)->ab X aS e=ab X a2 e):rG X hj d2 lK cW bS t l1 aS bg:=by
 have gl:=a.le
 refine⟨Zo,a.map.ad (aN _ Zo Zo), ?_,λe Q U ar=>by rw[aN e Zo Zo];exact a.low e Q U ar⟩
 obtain⟨c,a6,cK,b4,b7,cN,ej,fY⟩:=a.vC
 exact⟨c,a6,cK,by rw[aN _ Zo Zo];exact b4,b7,cN,ej.ad (λe H=>by have:=fY e H;exact aN e Zo Zo),λe H=>zt (fY e H)⟩
def adG(aA:dz X){P:Nat->Prop}{g:Go.aU.Node}{row:List F}(aL:(o X).a8<=j)(bC:∀e,P e->e<j)(b5:m5 X h P g row)(bp:(g6 g).length<=300000):
 aW X 32 [.agg row] h j (λae T au=>∃cW lK a6 b,ae= .ptr cW 0/\da j au cW/\da j au lK/\ao X T (.ptr cW 0)=some (.map lK)/\ot X T lK (vE (gX g))/\ao X T (.ptr cW 1)=some a6/\dO X T (da j au) b a6 1 (ii (Nh g))/\bq X h j T au) (λ_ _ _=>False):=by
 refine Hn (ai1 X) (aA.none _ _ rfl) ?_
 rw[ai2]
 unfold VE
 obtain⟨cY,dj,a6,ev,c0,dL,ef,hQ,aR,rfl,nl,lC,oK,iu,e3⟩:=b5
 refine cL ⟨?_⟩
 refine fc (λa2=>ab X a2 j=zx [.str g.name, .Z g.at_,cY,dj,a6,ev] 6
  /\ab X a2 (j+1)=some (.map [] 0)/\ab X a2 (j+1+1)=zx [.map (j+1), .aP] 2/\ao X a2 (.ptr (j+1+1+1) 0)=some (.ptr (j+1+1) 0)/\bq X h j a2 (j+1+1+1+1)) ⟨by(first|assumption|(simp(disch:=omega) only[bm,aI]<;>rfl)|(simp(disch:=omega) only[bm,aI])),by(first|assumption|(simp(disch:=omega) only[bm,aI]<;>rfl)|(simp(disch:=omega) only[bm,aI])),by(first|assumption|(simp(disch:=omega) only[bm,aI]<;>rfl)|(simp(disch:=omega) only[bm,aI])),by rw[cJ,bm Zo];rfl,dU⟩ ?_
 rintro a2 ⟨iY,b4,b7,cN,bU⟩
 refine(K3 aA Zo).Zm ?_
 rintro ae aS bg ⟨rfl,rfl,bK,cp,dF,fL⟩
 have jX:bq X h j aS (j+1+1+1+1+1):=bU.trans bK
 have n1:∀e,P e->ab X aS e=ab X h e:=λe H=>jX.ad e (bC e H)
 rw[<-bK.ad _ Zo]at iY b4 b7
 rw[<-bK.fT _ _ Zo]at cN
 generalize aqu:j+1+1+1+1+1=d2 at*
 refine gV ?_
 refine K4 (P:=P) (g:=g) (c0:=c0) (dL:=dL) (ef:=ef) (cY:=cY) (dj:=dj) (a6:=a6) aA (λi T aV=>rG X aS d2 (j+1) (j+1+1) (d2+2) (((g6 g).take i).foldl xi (λ_=>none,[])).1 (((g6 g).take i).foldl xi (λ_=>none,[])).2 T aV/\(((g6 g).take i).foldl xi (λ_=>none,[])).2.length<=i) Zo Zo Zo Zo
  (nl.ad n1) (lC.ad n1) (oK.ad n1) cp dF fL (λi T aV a=>⟨a.1.le,λe H=>a.1.low e (zt (bC e H)) (zt (bC e H)) (zt (bC e H))⟩)
  (λi a2 aO aS bg a gl aN=>⟨a.1.ad Zo Zo Zo gl (λe Q U=>aN e Q Zo),a.2⟩)
  (λT bT=>⟨⟨Zi _,⟨[],0,by rw[bT.ad _ Zo];exact b4,λ_=>rfl⟩,⟨_, .aP,[],by rw[bT.ad _ Zo];exact b7,rfl,rfl, .inl (.inl ⟨rfl,rfl,rfl⟩),λe H=>by simp at H⟩,λe H _ _=>bT.ad e H⟩,Zs⟩) ?_ ?_
 ·intro mk i fb d bb bs aJ gu mO is
  rw[AC xi _ aJ]
  generalize ((g6 g).take i).foldl xi (λ_=>none,[])=cd at gu ⊢
  obtain⟨gu,fD⟩:=gu
  have azQ:=(Zb.1 aJ).1
  have gl:=gu.le
  have jZ:eY d=[.str d.name, .Z d.at_, .bool d.ty.b, .bool d.ty.s, .Z d.ty.w, .str d.on, .Z d.fu, .bool d.no]:=rfl
  rw[jZ]
  unfold sz
  refine cL ⟨?_⟩
  generalize fl:bn X _ bs _=bF
  have ej:ab X bF bs=zx [.str d.name, .Z d.at_, .bool d.ty.b, .bool d.ty.s, .Z d.ty.w, .str d.on, .Z d.fu, .bool d.no] 8:=by rw[<-fl,bm Zo];rfl
  have ec:∀e,e<bs->ab X bF e=ab X bb e:=λe H=>by rw[<-fl];exact zz
  clear fl
  refine⟨by rw[ec _ Zo];exact is, ?_⟩
  generalize mi:bn X bF (d2+1) _=bX
  have fY:ab X bX (d2+1)=some (mk .busy none):=by rw[<-mi,bm Zo]
  have eU:∀e,e≠d2+1->ab X bX e=ab X bF e:=λe H=>by rw[<-mi,aI Zo H]
  clear mi
  have h3:=gu.ad (aS:=bX) (bg:=bs+1) Zo Zo Zo Zo (λe Q U=>by rw[eU e Zo,ec e Q])
  rw[<-eU _ Zo]at ej
  have ui:ab X bX d2=some (.deferred (some [])):=by rw[eU _ Zo,ec _ Zo];exact mO
  have ef:ao X bX (.ptr (j+1+1+1) 0)=some (.ptr (j+1+1) 0):=zE (h3.low _ Zo Zo Zo) cN
  obtain⟨jU,aBw,akL,eW,e5,hy,og,mY⟩:=h3.vC
  have jz:kr X bX 9 (.agg [.Z 0, .str [], .Z 0, .bool false, .bool false, .Z 0, .str [], .Z 0, .bool false, .Z 0, .Z 0]) (.map (j+1)) (.str d.name) true=some (.tuple [.agg (pd ((cd.1 d.name).getD tK)), .bool (cd.1 d.name).isSome]):=by
   rw[Do h3.map];unfold vE;cases cd.1 d.name<;>rfl
  generalize Dc:(cd.1 d.name).getD tK=fd at jz
  have sg:pd fd=[.Z fd.kind, .str fd.d.name, .Z fd.d.at_, .bool fd.d.ty.b, .bool fd.d.ty.s, .Z fd.d.ty.w, .str fd.d.on, .Z fd.d.fu, .bool fd.d.no, .Z fd.eq, .Z fd.left]:=rfl
  rw[sg]at jz
  have j0:∀T aV (G:(bk->Option eJ)×List bk),rG X aS d2 (j+1) (j+1+1) (d2+2) G.1 G.2 T aV->G.2.length<=i+1->ab X T d2=some (.deferred (some []))->(F.bool true=F.bool true/\(rG X aS d2 (j+1) (j+1+1) (d2+2) G.1 G.2 (bn X T (d2+1) (some (mk .ready none))) aV/\G.2.length<=i+1)/\ab X (bn X T (d2+1) (some (mk .ready none))) d2=some (.deferred (some []))/\ab X (bn X T (d2+1) (some (mk .ready none))) (d2+1)=some (mk .ready none)):=λT aV G a aC U=>
   ⟨rfl,⟨a.ad Zo Zo Zo (Zi _) (λe Q U=>aI Zo Zo),aC⟩,by rw[aI Zo Zo];exact U,bm Zo⟩
  refine x9 ⟨?_⟩
  refine gV ?_
  refine gA @ef (bR eW) @e5 (bR ej) @jz ⟨?_⟩
  generalize f6:bn X _ (bs+1+10) _=cf
  have dK:∀e,e<bs+1->ab X cf e=ab X bX e:=λe H=>by rw[<-f6];exact zz
  clear f6 jz
  have i2:rG X aS d2 (j+1) (j+1+1) (d2+2) cd.1 cd.2 cf (bs+1+13):=h3.ad Zo Zo Zo Zo (λe Q U=>dK e Q)
  rw[<-dK _ Zo]at ej fY ui
  have Ca:ao X cf (.ptr (j+1+1+1) 0)=some (.ptr (j+1+1) 0):=zE (dK _ Zo) ef
  have aef:ab X cf (j+1+1)=some (.cells jU 2 .own):=by rw[dK _ Zo];exact eW
  cases aD:cd.1 d.name with
  |some afd=>
   have gj:xi cd (fb,d)=cd:=by unfold xi;rw[Zq (by simp[aD])]
   rw[gj]
   simp only[Yc]
   refine cL ⟨?_⟩
   exact⟨⟨.busy,none,fY⟩,j0 _ _ cd (i2.ad Zo Zo Zo Zo (λ_ _ _=>rfl)) Zo ui⟩
  |none=>
   have gj:xi cd (fb,d)=(λw=>if w=d.name then some ⟨fb,d, -1, -1⟩else cd.1 w,cd.2++[d.name]):=by unfold xi;rw[Zg (by simp[aD])]
   rw[gj]
   simp only[Z3]
   refine gt @Ca (bR aef) @e5 (bR ej) ⟨?_⟩
   generalize iH:bs+1+13+10=N
   obtain⟨cx,q6,E8,q5⟩:=Nd (j:=N) (show(o X).a8<=j+1 by omega) i2.map d.name (.agg (pd ⟨fb,d, -1, -1⟩))
   refine ki q6 ?_
   have WD:ao X cx (.ptr (j+1+1+1) 0)=some (.ptr (j+1+1) 0):=zE (q5 _ Zo) Ca
   have aeg:ab X cx (j+1+1)=some (.cells jU 2 .own):=by rw[q5 _ Zo];exact aef
   rw[<-q5 _ Zo]at ej fY ui
   refine gt @WD (bR aeg) @hy (bR ej) ⟨?_⟩
   generalize qg:bn X cx (N+7) _=dx
   have alU:ab X dx (N+7)=zx [.str d.name] 1:=by rw[<-qg,bm Zo]
   have hw:∀e,e<N->ab X dx e=ab X cx e:=λe H=>by rw[<-qg];exact zz
   clear qg q6
   obtain⟨fo,ei,gR,iK,ab2,aaH,ql⟩:=(og.ad (T:=dx) (λe H=>by have:=mY e H;rw[hw e Zo,q5 e Zo,dK e Zo])).append (j:=N+12) Zd (sE alU (mT _) rfl _) rfl Zd rfl (by simp;omega) Zo (λe H=>zt (mY e H))
   refine ki iK ?_
   have hl:∀e,e<N->e∉akL->ab X ei e=ab X cx e:=λe H a=>by rw[ql e Zo a,hw e H]
   have akE:ao X ei (.ptr (j+1+1+1) 0)=some (.ptr (j+1+1) 0):=zE (hl _ Zo (λa=>zt (mY _ a))) WD
   have avO:ab X ei (j+1+1)=some (.cells jU 2 .own):=by rw[hl _ Zo (λa=>zt (mY _ a))];exact aeg
   refine ci @akE ⟨?_⟩
   refine gP (by simp[F.same]) ?_
   obtain⟨fA,hx,xj⟩:=kk.one ab2
   refine fF (sF avO Zo Zo fA hx) ?_
   refine cL ⟨?_⟩
   generalize q2:bn X ei (j+1+1) _=hj
   have aei:ab X hj (j+1+1)=some (.cells (jU.set 1 (some fo)) 2 .own):=by rw[<-q2,bm Zo]
   have lX:∀e,e≠j+1+1->ab X hj e=ab X ei e:=λe H=>by rw[<-q2,aI Zo H]
   clear q2
   have eE:∀e,e<bs+1->(e<d2\/e=d2\/e=d2+1)->e≠j+1+1->e≠j+1->ab X hj e=ab X cf e:=λe H Q U ar=>by
    rw[lX e U,hl e Zo (λa=>zt (mY _ a)),q5 e ar]
   refine⟨⟨.busy,none, ?_⟩,j0 _ _ (_,cd.2++[d.name]) ⟨Zo, ?_,⟨jU.set 1 (some fo),fo,gR,aei, ?_, ?_, ?_, ?_⟩, ?_⟩ (by simp;omega) ?_⟩
   ·rw[lX _ Zo,hl _ Zo (λa=>zt (mY _ a))];exact fY
   ·have:(λx=>if x=d.name then some (F.agg (pd ⟨fb,d, -1, -1⟩))else vE cd.1 x)=vE (λw=>if w=d.name then some ⟨fb,d, -1, -1⟩else cd.1 w):=by
     funext x;unfold vE;by_cases a:x=d.name<;>simp[a]
    rw[this]at E8
    exact E8.ad (by rw[lX _ Zo,hl _ Zo (λa=>zt (mY _ a))])
   ·rw[V.kc,Zg Zd];exact e5
   ·rw[V.kc,Zq rfl]
   ·rw[Yy]
    exact .inl (ab2.ad λe H=>lX e (by rcases aaH e H with rfl|a;omega;have:=mY _ a;omega))
   ·intro e H
    rcases aaH e H with rfl|a
    ·omega
    ·have:=mY _ a;omega
   ·intro e Q U ar
    rw[eE e Zo (.inl Q) ar U];exact i2.low e Q U ar
   ·rw[lX _ Zo,hl _ Zo (λa=>zt (mY _ a))];exact ui
 ·intro bb bs gu mO
  rw[YY]at gu
  obtain⟨gu,fD⟩:=gu
  change rG X aS d2 (j+1) (j+1+1) (d2+2) (pM g).1 (pM g).2 bb bs at gu
  change (pM g).2.length<=_ at fD
  have am3:ab X bb j=zx [.str g.name, .Z g.at_,cY,dj,a6,ev] 6:=by rw[gu.low _ Zo Zo Zo];exact iY
  have lW:=e3.wide
  have eD:=iu.len
  have i6:=iu.many
  rw[lW.1]at eD i6
  refine cV (bR am3) @eD ⟨?_⟩
  refine fU (λm M T aV=>∃(aa:Nat),M.g 3=some (.ptr (j+1+1+1) 0)/\M.g 54=some ev/\M.g 55=some (.Z (g.eqs.length:Int))/\M.g 56=some (.Z (aa:Int))/\M.bd=[⟨.collected d2,[]⟩]/\aa+m=g.eqs.length
   /\rG X aS d2 (j+1) (j+1+1) (d2+2) ((g.eqs.zipIdx.take aa).foldl JF (pM g).1) (pM g).2 T aV/\ab X T d2=some (.deferred (some [])))
   g.eqs.length ⟨0,bw,bw,bw,gc,rfl,Zo,gu,mO⟩ ?_
  rintro m M bF c7 ⟨aa,t3,j8,pU,pb,kj,bG,qe,HO⟩
  have jl:=qe.le
  cases m with
  |zero=>
   have aG:=zu aa g.eqs.length
   have akC:ao X bF (.ptr (j+1+1+1) 0)=some (.ptr (j+1+1) 0):=zE (qe.low _ Zo Zo Zo) cN
   refine gA @pb @pU @t3 @aG @akC ⟨?_⟩
   have Fm:(g.eqs.zipIdx.take aa).foldl JF (pM g).1=gX g:=by
    rw[ZC (by simp;omega)];rfl
   rw[Fm]at qe
   show mZ X [.tmp 2] _ _ _ _ _
   simp only[rr,kj]
   refine⟨by show(o X).a8<=d2;omega,HO, ?_⟩
   show qC _ _ _ _ _
   unfold qC
   refine cL ⟨?_⟩
   have h3:=qe.ad (aS:=bn X bF d2 (some (.deferred none))) Zo Zo Zo (Zi _) (λe Q U=>aI Zo Zo)
   obtain⟨c,s,cK,eW,e5,hy,og,mY⟩:=h3.vC
   obtain⟨b,aj⟩:=og.JS (P:=da j c7) (by simp[Nh]at fD ⊢;omega) (λe H=>by have:=mY e H;exact⟨Zo,Zo⟩)
   refine⟨j+1+1,j+1,s,b,rfl,⟨Zo,Zo⟩,⟨Zo,Zo⟩,by rw[bR eW];exact e5,h3.map,by rw[bR eW];exact hy, ?_,Zo,λe H=> ?_⟩
   ·have:ii (Nh g)=((pM g).2.map F.str).map λv=>[v]:=by unfold ii Nh;rw[YK];rfl
    rw[this];exact aj
   ·rw[h3.low e Zo Zo Zo];exact jX.ad e H
  |succ m=>
   have aG:=zv aa g.eqs.length
   have bD:=zy aa
   obtain⟨am,b1⟩:=zw g.eqs aa
   obtain⟨row,ft,sb⟩:=e3.get aa am b1
   have ld:∀e,P e->ab X bF e=ab X h e:=λe H=>by have:=bC e H;rw[qe.low e Zo Zo Zo,n1 e H]
   have dZ:=iu.f2 aa (by rw[lW.1];omega)
   have ic:=(iu.ad ld).row Zd ft
   obtain⟨nu,o5,dt,dG,lL,rfl,hM,mo,mR,oM⟩:=sb
   have yy:=ke hM.len
   have aAG:=ke mo.len
   have wZ:=hM.len
   have C2:=hM.many
   rw[show(ii am.left).length=am.left.length from by simp[ii]]at wZ C2
   have di:=AC JF (pM g).1 (TY b1)
   rw[show(am,aa)=(am,aa) from rfl]at di
   generalize aoS:(g.eqs.zipIdx.take aa).foldl JF (pM g).1=N2 at qe di
   refine iZ @pb @pU @j8 @aG @dZ @ic ⟨?_⟩
   refine fF (h6 (B:=4) (b:=c7) (Y:=0) (n:=4) (c:=V.ofList [.aP, .aP, .Z 0, .cz] 0 .nil) (bm Zo) Zo rfl Zd Zd oM) ?_
   generalize mi:bn X _ c7 _=bX
   have fY:ao X bX (.ptr c7 0)=some nu:=by rw[<-mi,cJ,bm Zo];rfl
   have eU:∀e,e<c7->ab X bX e=ab X bF e:=λe H=>by rw[<-mi];exact zz
   clear mi
   have h3:rG X aS d2 (j+1) (j+1+1) (d2+2) N2 (pM g).2 bX (c7+1):=qe.ad Zo Zo Zo Zo (λe Q U=>eU e Q)
   rw[<-eU _ Zo]at HO
   refine cV @fY @wZ ⟨?_⟩
   refine fU (λgm M T aV=>∃(i:Nat),M.g 3=some (.ptr (j+1+1+1) 0)/\M.g 54=some ev/\M.g 55=some (.Z (g.eqs.length:Int))/\M.g 56=some (.Z (aa:Int))/\M.bd=[⟨.collected d2,[]⟩]/\M.g 8=some (.Z (aa:Int))/\M.g 62=some nu/\M.g 63=some (.Z (am.left.length:Int))/\M.g 64=some (.Z (i:Int))/\i+gm=am.left.length
    /\rG X aS d2 (j+1) (j+1+1) (d2+2) ((am.left.zipIdx.take i).foldl (tB aa) N2) (pM g).2 T aV/\ab X T d2=some (.deferred (some [])))
    am.left.length ⟨0,bf t3,bf j8,bf pU,bf pb,kj,bw,bw,bw,gc,Zo,h3,HO⟩ ?_
   rintro gm cZ cf eK ⟨i,t3,j8,pU,pb,kj,gx,N1,BL,tH,aJ,i2,rU⟩
   have r8:=i2.le
   cases gm with
   |zero=>
    have aG:=zu i am.left.length
    refine gA @tH @BL @pb @aG @bD ⟨?_⟩
    rw[ZC (by simp;omega)]at i2
    refine⟨m,Zo,aa+1,bf t3,bf j8,bf pU,bw,kj,Zo, ?_,rU⟩
    rw[di]
    exact i2
   |succ gm=>
    have aG:=zv i am.left.length
    have cF:=zy i
    obtain⟨w,bJ⟩:=zw am.left i
    have sk:∀e,P e->ab X cf e=ab X h e:=λe H=>by have:=bC e H;rw[i2.low e Zo Zo Zo,n1 e H]
    have qk:=hM.f2 i (by simp[ii];omega)
    have ib:=(hM.ad sk).cell i [.str w] 0 (.str w) (by unfold ii;rw[Zx,bJ];rfl) rfl
    rw[Yj]at qk
    rw[Yj,ZY]at ib
    have A3:=AC (tB aa) N2 (TY bJ)
    generalize aoR:(am.left.zipIdx.take i).foldl (tB aa) N2=ol at i2 A3
    have Ca:ao X cf (.ptr (j+1+1+1) 0)=some (.ptr (j+1+1) 0):=zE (i2.low _ Zo Zo Zo) cN
    obtain⟨tY,aBx,ay7,eW,e5,hy,og,mY⟩:=i2.vC
    have jz:kr X cf 9 (.agg [.Z 0, .str [], .Z 0, .bool false, .bool false, .Z 0, .str [], .Z 0, .bool false, .Z 0, .Z 0]) (.map (j+1)) (.str w) true=some (.tuple [.agg (pd ((ol w).getD tK)), .bool (ol w).isSome]):=by
     rw[Do i2.map];unfold vE;cases ol w<;>rfl
    generalize Dc:(ol w).getD tK=fd at jz
    have sg:pd fd=[.Z fd.kind, .str fd.d.name, .Z fd.d.at_, .bool fd.d.ty.b, .bool fd.d.ty.s, .Z fd.d.ty.w, .str fd.d.on, .Z fd.d.fu, .bool fd.d.no, .Z fd.eq, .Z fd.left]:=rfl
    rw[sg]at jz
    refine e7 @tH @BL @N1 @t3 @aG @qk (Za @ib (Za @Ca (Za (bR eW) (Za @e5 @jz)))) ⟨?_⟩
    generalize nf:bn X _ eK _=cx
    have e1:ab X cx eK=zx [.Z fd.kind, .str fd.d.name, .Z fd.d.at_, .bool fd.d.ty.b, .bool fd.d.ty.s, .Z fd.d.ty.w, .str fd.d.on, .Z fd.d.fu, .bool fd.d.no, .Z fd.eq, .Z fd.left] 11:=by rw[<-nf,bm Zo];rfl
    have gM:∀e,e<eK->ab X cx e=ab X cf e:=λe H=>by rw[<-nf];exact zz
    clear nf
    have q1:rG X aS d2 (j+1) (j+1+1) (d2+2) ol (pM g).2 cx (eK+1):=i2.ad Zo Zo Zo Zo (λe Q U=>gM e Q)
    rw[<-gM _ Zo]at rU
    cases aD:ol w with
    |none=>
     have gj:tB aa ol (w,i)=ol:=by unfold tB;simp only[aD]
     simp only[Z3]
     refine cV @tH @cF ⟨?_⟩
     exact⟨gm,Zo,i+1,bf t3,bf j8,bf pU,bf pb,kj,bf gx,bf N1,bf BL,bw,Zo,by rw[A3,gj];exact q1,rU⟩
    |some v=>
     have arV:v=fd:=by rw[aD]at Dc;exact Dc
     subst arV
     simp only[Yc]
     by_cases Ms:v.eq<0
     ·have cP:decide (v.eq<0)=true:=by simp[Ms]
      have gj:tB aa ol (w,i)=λx=>if x=w then some ⟨v.kind,v.d,aa,i⟩else ol x:=by unfold tB;simp only[aD,Ms,ZD]
      refine gt (bR e1) @cP @gx @tH ⟨?_⟩
      generalize qg:bn X (bn X cx eK _) eK _=dx
      have ir:ab X dx eK=zx [.Z v.kind, .str v.d.name, .Z v.d.at_, .bool v.d.ty.b, .bool v.d.ty.s, .Z v.d.ty.w, .str v.d.on, .Z v.d.fu, .bool v.d.no, .Z aa, .Z i] 11:=by rw[<-qg,bm Zo];rfl
      have hw:∀e,e≠eK->ab X dx e=ab X cx e:=λe H=>by rw[<-qg,aI Zo H,aI Zo H]
      clear qg e1
      have kN:rG X aS d2 (j+1) (j+1+1) (d2+2) ol (pM g).2 dx (eK+1):=⟨q1.le,q1.map.ad (hw _ Zo),by
       obtain⟨c,s,cK,cD,cp,dF,fL,l4⟩:=i2.vC
       exact⟨c,s,cK,by rw[hw _ Zo,gM _ Zo];exact cD,cp,dF,fL.ad (λe H=>by have:=l4 e H;rw[hw e Zo,gM e Zo]),λe H=>zt (l4 e H)⟩,
       λe Q U ar=>by rw[hw e Zo];exact q1.low e Q U ar⟩
      have akD:ao X dx (.ptr (j+1+1+1) 0)=some (.ptr (j+1+1) 0):=by rw[cJ,hw _ Zo,gM _ Zo, <-cJ];exact Ca
      have avN:ab X dx (j+1+1)=some (.cells tY 2 .own):=by rw[hw _ Zo,gM _ Zo];exact eW
      refine gA @t3 @akD (bR avN) @e5 (bR ir) ⟨?_⟩
      obtain⟨ei,q6,aoy,ql⟩:=Nd (j:=eK+1+7) (show(o X).a8<=j+1 by omega) kN.map w (.agg (pd ⟨v.kind,v.d,aa,i⟩))
      refine ki q6 ?_
      refine cV @tH @cF ⟨?_⟩
      refine⟨gm,Zo,i+1,bf t3,bf j8,bf pU,bf pb,kj,bf gx,bf N1,bf BL,bw,Zo, ?_,by rw[ql _ Zo,hw _ Zo];exact rU⟩
      rw[A3,gj]
      refine⟨Zo, ?_, ?_,λe Q U ar=>by rw[ql e U];exact kN.low e Q U ar⟩
      ·have:(λx=>if x=w then some (F.agg (pd ⟨v.kind,v.d,aa,i⟩))else vE ol x)=vE (λx=>if x=w then some ⟨v.kind,v.d,aa,i⟩else ol x):=by
        funext x;unfold vE;by_cases a:x=w<;>simp[a]
       rw[<-this];exact aoy
      ·obtain⟨c,s,cK,cD,cp,dF,fL,l4⟩:=kN.vC
       exact⟨c,s,cK,by rw[ql _ Zo];exact cD,cp,dF,fL.ad (λe H=>by have:=l4 e H;exact ql e Zo),λe H=>zt (l4 e H)⟩
     ·have cP:decide (v.eq<0)=false:=by simp[Ms]
      have gj:tB aa ol (w,i)=ol:=by unfold tB;simp only[aD,Ms,ZA]
      refine gt (bR e1) @cP @tH @cF ⟨?_⟩
      exact⟨gm,Zo,i+1,bf t3,bf j8,bf pU,bf pb,kj,bf gx,bf N1,bf BL,bw,Zo,by rw[A3,gj];exact q1,rU⟩
end
end
end Go.Proofs.YtpfajohmofnkfaaGreatDoor

namespace Go.aU
structure iG where
 N:bk->Prop
 Ek:d9->Prop
 L:d9->Int->Prop
 a8:∀s,N s->s≠[]
 cW:Ek ⟨true,false,1⟩
 fP:L ⟨true,false,1⟩ 0
 eg:L ⟨true,false,1⟩ 1
 lt:∀t n,L t n->Ek t
 A:Int->Prop
 a0:A 0
structure B2(bA:iG)(x:Tok):Prop where
 name:x.kind=1->bA.N x.text
 type:x.kind=3->bA.Ek x.ty
 num:x.kind=4->0<=x.n
 lit:x.kind=5->bA.L x.ty x.n
 pos:x.kind≠7->bA.A x.at_
def gZ(bA:iG)(l:List Tok):Prop:=∀x∈l,B2 bA x
def gZ.pc{bA:iG}{x:Tok}{l:List Tok}(a:gZ bA (x::l)):gZ bA l:=λe H=>a e (Zr _ H)
def gZ.aM{bA:iG}{x:Tok}{l:List Tok}(a:gZ bA (x::l)):B2 bA x:=a x (Zu ..)
def rL(B:Int):Option Nat:=if B=25 then none else if B=1\/B=2 then some 0 else if B=3\/B=4\/B=5\/B=6\/B=19\/B=20\/B=26 then some 1 else if B=23 then some 3 else some 2
def te(B:Int):Prop:=B=2\/B=6\/B=24\/B=25
def tf(B:Int):Prop:=B=1\/B=26
structure BU(bA:iG)(J:bE):Prop where
 ap:bA.A J.at_
 bV:1<=J.kind
 cw:J.kind<=26
 B7:∀m,rL J.kind=some m->J.args.length=m
 nm:te J.kind->bA.N J.name
 Nl:¬te J.kind->J.name=[]
 no:J.no=true->J.kind=6
 ty:tf J.kind->bA.Ek J.ty
 dN:¬tf J.kind->J.ty=dN
 ady:J.kind=1->bA.L J.ty J.n
 l1:J.kind=19\/J.kind=20->0<=J.n/\J.n<=63
 a8:J.kind≠1->J.kind≠19->J.kind≠20->J.n=0
 wq:J.kind=21->∃l r,J.args=[l,r]/\(l.kind=1\/l.kind=4/\∃x,l.args=[x]/\x.kind=1)
mutual
def fj(bA:iG):bE->Prop
 | .mk B K nm no ty n args=>BU bA (.mk B K nm no ty n args)/\gp bA args
def gp(bA:iG):List bE->Prop
 |[]=>True
 |J::l=>fj bA J/\gp bA l
end
def fj.eq{bA:iG}(J:bE):fj bA J=(BU bA J/\gp bA J.args):=by cases J;rw[fj];rfl
def gp.cons{bA:iG}{J:bE}{l:List bE}(a:fj bA J)(B:gp bA l):gp bA (J::l):=by rw[gp];exact⟨a,B⟩
def gp.nil{bA:iG}:gp bA []:=by rw[gp];trivial
def gp.app{bA:iG}{J:bE}(a:fj bA J):∀{l:List bE},gp bA l->gp bA (l++[J]):=by
 intro l
 induction l with
 |nil=>intro _;exact gp.cons a gp.nil
 |cons K l ak=>intro B;rw[gp]at B;exact gp.cons B.1 (ak B.2)
def dy(bA:iG){α:Type}(bu:α->Prop)(x:ga α):Prop:=∀K b8,x=some (.ok (K,b8))->gZ bA b8/\bu K
section
variable{bA:iG}{α eO:Type}
def dy.none{bu:α->Prop}:dy bA bu none:=λ_ _ a=>by cases a
def dy.ok{bu:α->Prop}{K:α}{l:List Tok}(a:gZ bA l)(am:bu K):dy bA bu (aU.ok K l):=λfN b8 J=>by cases J;exact⟨a,am⟩
def dy.bad{bu:α->Prop}(K:Int):dy bA bu (aU.bad K:ga α):=λfN b8 J=>by cases J
def dy.andThen{bu:α->Prop}{qM:eO->Prop}{x:ga α}{f:α->List Tok->ga eO}(a:dy bA bu x)(B:∀K b8,gZ bA b8->bu K->dy bA qM (f K b8)):dy bA qM (aU.andThen x f):=by
 unfold aU.andThen
 split
 ·exact dy.none
 ·exact λ_ _ J=>by cases J
 ·rename_i K l
  obtain⟨Q,U⟩:=a K l rfl
  exact B K l Q U
def B2.g3{x:Tok}{s:bk}(a:B2 bA x)(aD:g3 x s=true):bA.A x.at_:=a.pos λJ=>by simp[aU.g3,J]at aD
def nz{s:bk}{l:List Tok}(a:gZ bA l):dy bA (λx:Tok=>bA.A x.at_) (eH s l):=by
 cases l with
 |nil=>exact dy.none
 |cons x l=>
  simp only[eH]
  split
  ·rename_i aD;exact dy.ok a.pc (a.aM.g3 aD)
  ·exact dy.bad _
def u2{B:Int}{l:List Tok}(a:gZ bA l):dy bA (λx:Tok=>B2 bA x/\x.kind=B) (iy B l):=by
 cases l with
 |nil=>exact dy.none
 |cons x l=>
  simp only[iy]
  split
  ·rename_i aD;exact dy.ok a.pc ⟨a.aM,aD⟩
  ·exact dy.bad _
def pW{s:bk}{l:List Tok}{f:Option Tok->List Tok->ga eO}{bu:eO->Prop}(a:gZ bA l)(Q:∀x b8,bA.A x.at_->gZ bA b8->dy bA bu (f (some x) b8))(U:dy bA bu (f none l)):dy bA bu (h7 s l f):=by
 cases l with
 |nil=>exact dy.none
 |cons x l=>
  unfold h7 lM
  by_cases aD:g3 x s=true
  ·simp only[aD,ZD];exact Q x l (a.aM.g3 aD) a.pc
  ·simp only[aD,ZA];exact U
def KG{l:List Tok}(a:gZ bA l):∀(os:List (bk×Int)) J b8,ow os l=some (J,b8)->gZ bA b8/\∀x,J=some x->∃Y∈os,∃K,bA.A K/\x= .mk Y.2 K [] false dN 0 []:=by
 intro os
 induction os with
 |nil=>intro J b8 bx;cases bx;exact⟨a,λx ah=>by cases ah⟩
 |cons Y os ak=>
  obtain⟨s,B⟩:=Y
  intro J b8 bx
  cases l with
  |nil=>simp[ow,lM]at bx
  |cons x l=>
   unfold ow lM at bx
   by_cases aD:g3 x s=true
   ·simp only[aD,ZD]at bx
    cases bx
    exact⟨a.pc,λe H=>by cases H;exact⟨_,Zu ..,_,a.aM.g3 aD,rfl⟩⟩
   ·simp only[aD,ZA]at bx
    obtain⟨Q,U⟩:=ak J b8 bx
    exact⟨Q,λe H=>by obtain⟨Y,bl,K,aE⟩:=U e H;exact⟨Y,Zr _ bl,K,aE⟩⟩
def afp{B K:Int}{x e:bE}(aN:7<=B/\B<=18\/B=22)(ah:fj bA x)(H:fj bA e)(aE:bA.A K):fj bA (.mk B K [] false dN 0 [x,e]):=by
 rw[fj.eq]
 refine⟨⟨aE,by simp only[bE.kind];omega,by simp only[bE.kind];omega, ?_, ?_,λ_=>rfl,(λa=>absurd a (by simp[bE.no])), ?_,λ_=>rfl, ?_, ?_,λ_ _ _=>rfl, ?_⟩,gp.cons ah (gp.cons H gp.nil)⟩
 ·intro m bp
  have uH:rL B=some m:=bp
  unfold rL at uH
  rw[Zg Zo,Zg Zo,Zg Zo,Zg Zo]at uH
  cases uH;rfl
 ·intro a;simp only[te,bE.kind]at a;omega
 ·intro a;simp only[tf,bE.kind]at a;omega
 ·intro a;simp only[bE.kind]at a;omega
 ·intro a;simp only[bE.kind]at a;omega
 ·intro a;simp only[bE.kind]at a;omega
def Ke{B K n:Int}{nm:bk}{no:Bool}{ty:d9}{x:bE}(aN:B=3\/B=4\/B=5\/B=6\/B=19\/B=20\/B=26)(iv:B=6->bA.N nm)(gU:B≠6->nm=[]/\no=false)(bc:B=26->bA.Ek ty)(RU:B≠26->ty=dN)(aL:B=19\/B=20->0<=n/\n<=63)(aqz:B≠19->B≠20->n=0)(ah:fj bA x)(aE:bA.A K):fj bA (.mk B K nm no ty n [x]):=by
 rw[fj.eq]
 refine⟨⟨aE,by simp only[bE.kind];omega,by simp only[bE.kind];omega, ?_, ?_, ?_, ?_, ?_, ?_, ?_,aL, ?_, ?_⟩,gp.cons ah gp.nil⟩
 ·intro m bp
  have uH:rL B=some m:=bp
  unfold rL at uH
  rw[Zg Zo,Zg Zo,Zq aN]at uH
  cases uH;rfl
 ·intro a;simp only[te,bE.kind]at a;exact iv Zo
 ·intro a;simp only[te,bE.kind]at a;exact(gU Zo).1
 ·intro a
  by_cases cu:B=6
  ·exact cu
  ·have cy:no=true:=a
   rw[(gU cu).2]at cy;cases cy
 ·intro a;simp only[tf,bE.kind]at a;exact bc Zo
 ·intro a;simp only[tf,bE.kind]at a;exact RU Zo
 ·intro a;simp only[bE.kind]at a;omega
 ·intro Q U ar;exact aqz U ar
 ·intro a;simp only[bE.kind]at a;omega
def afo{K n:Int}{ty:d9}(a:bA.L ty n)(aE:bA.A K):fj bA (.mk 1 K [] false ty n []):=by
 rw[fj.eq]
 exact⟨⟨aE,by simp[bE.kind],by simp[bE.kind],λm bp=>by simp[rL,bE.kind]at bp;simp[bE.args, <-bp],λa=>by simp[te,bE.kind]at a,λ_=>rfl,(λa=>absurd a (by simp[bE.no])),λ_=>bA.lt _ _ a,λa=>by simp[tf,bE.kind]at a,λ_=>a,λa=>by simp[bE.kind]at a,λa=>by simp[bE.kind]at a,λa=>by simp[bE.kind]at a⟩,gp.nil⟩
def ayC{K:Int}{nm:bk}(a:bA.N nm)(aE:bA.A K):fj bA (.mk 2 K nm false dN 0 []):=by
 rw[fj.eq]
 exact⟨⟨aE,by simp[bE.kind],by simp[bE.kind],λm bp=>by simp[rL,bE.kind]at bp;simp[bE.args, <-bp],λ_=>a,λa=>by simp[te,bE.kind]at a,(λa=>absurd a (by simp[bE.no])),λa=>by simp[tf,bE.kind]at a,λ_=>rfl,λa=>by simp[bE.kind]at a,λa=>by simp[bE.kind]at a,λ_ _ _=>rfl,λa=>by simp[bE.kind]at a⟩,gp.nil⟩
def ayy{K:Int}{nm:bk}{ct:List bE}(a:bA.N nm)(B:gp bA ct)(aE:bA.A K):fj bA (.mk 25 K nm false dN 0 ct):=by
 rw[fj.eq]
 exact⟨⟨aE,by simp[bE.kind],by simp[bE.kind],λm bp=>by simp[rL,bE.kind]at bp,λ_=>a,λa=>by simp[te,bE.kind]at a,(λa=>absurd a (by simp[bE.no])),λa=>by simp[tf,bE.kind]at a,λ_=>rfl,λa=>by simp[bE.kind]at a,λa=>by simp[bE.kind]at a,λ_ _ _=>rfl,λa=>by simp[bE.kind]at a⟩,B⟩
def ayA{K:Int}{x e bt:bE}(ah:fj bA x)(H:fj bA e)(cv:fj bA bt)(aE:bA.A K):fj bA (.mk 23 K [] false dN 0 [x,e,bt]):=by
 rw[fj.eq]
 exact⟨⟨aE,by simp[bE.kind],by simp[bE.kind],λm bp=>by simp[rL,bE.kind]at bp;simp[bE.args, <-bp],λa=>by simp[te,bE.kind]at a,λ_=>rfl,(λa=>absurd a (by simp[bE.no])),λa=>by simp[tf,bE.kind]at a,λ_=>rfl,λa=>by simp[bE.kind]at a,λa=>by simp[bE.kind]at a,λ_ _ _=>rfl,λa=>by simp[bE.kind]at a⟩,gp.cons ah (gp.cons H (gp.cons cv gp.nil))⟩
def ayB{K:Int}{nm:bk}{x e:bE}(a:bA.N nm)(ah:fj bA x)(H:fj bA e)(aE:bA.A K):fj bA (.mk 24 K nm false dN 0 [x,e]):=by
 rw[fj.eq]
 exact⟨⟨aE,by simp[bE.kind],by simp[bE.kind],λm bp=>by simp[rL,bE.kind]at bp;simp[bE.args, <-bp],λ_=>a,λa=>by simp[te,bE.kind]at a,(λa=>absurd a (by simp[bE.no])),λa=>by simp[tf,bE.kind]at a,λ_=>rfl,λa=>by simp[bE.kind]at a,λa=>by simp[bE.kind]at a,λ_ _ _=>rfl,λa=>by simp[bE.kind]at a⟩,gp.cons ah (gp.cons H gp.nil)⟩
def ayz{K:Int}{x e:bE}(a:tw x=some true)(ah:fj bA x)(H:fj bA e)(aE:bA.A K):fj bA (.mk 21 K [] false dN 0 [x,e]):=by
 rw[fj.eq]
 refine⟨⟨aE,by simp[bE.kind],by simp[bE.kind],λm bp=>by simp[rL,bE.kind]at bp;simp[bE.args, <-bp],λa=>by simp[te,bE.kind]at a,λ_=>rfl,(λa=>absurd a (by simp[bE.no])),λa=>by simp[tf,bE.kind]at a,λ_=>rfl,λa=>by simp[bE.kind]at a,λa=>by simp[bE.kind]at a,λ_ _ _=>rfl,λ_=>⟨x,e,rfl, ?_⟩⟩,gp.cons ah (gp.cons H gp.nil)⟩
 unfold tw at a
 split at a
 ·rename_i Q;exact .inl Q
 ·split at a
  ·rename_i Q aK
   refine .inr ⟨aK, ?_⟩
   have qq:=ah
   rw[fj.eq]at qq
   have aC:=qq.1.B7 1 (by rw[aK];rfl)
   cases aE:x.args with
   |nil=>rw[aE]at aC;cases aC
   |cons b l=>
    rw[aE]at aC a
    cases l with
    |nil=>exact⟨b,rfl,by simpa using a⟩
    |cons c l=>simp at aC
  ·cases a
def auZ:∀(B:Nat) (Y:bk×Int),Y∈ax B->7<=Y.2/\Y.2<=18:=by
 intro B Y a
 match B with
 |0=>simp[ax]at a;rcases a with rfl|rfl<;>decide
 |1=>simp[ax]at a;subst a;decide
 |2=>simp[ax]at a;rcases a with rfl|rfl|rfl|rfl|rfl|rfl<;>decide
 |3=>simp[ax]at a;rcases a with rfl|rfl<;>decide
 |4=>simp[ax]at a;subst a;decide
 |n+5=>simp[ax]at a
def avv(Y:bk×Int)(a:Y∈yQ):Y.2=3\/Y.2=4\/Y.2=5:=by
 simp[yQ]at a;rcases a with rfl|rfl|rfl<;>simp
end
end Go.aU

namespace Go.aU
structure afN(bA:iG)(n:Nat):Prop where
 level:∀B l,gZ bA l->dy bA (fj bA) (level n B l)
 oY:∀B J l,gZ bA l->fj bA J->dy bA (fj bA) (oY n B J l)
 shift:∀l,gZ bA l->dy bA (fj bA) (shift n l)
 o8:∀J l,gZ bA l->fj bA J->dy bA (fj bA) (o8 n J l)
 o9:∀B x J l,B=19\/B=20->bA.A x.at_->gZ bA l->fj bA J->dy bA (fj bA) (o9 n B x J l)
 tC:∀l,gZ bA l->dy bA (fj bA) (xk n l)
 m4:∀J l,gZ bA l->fj bA J->dy bA (fj bA) (m4 n J l)
 part:∀l,gZ bA l->dy bA (fj bA) (part n l)
 list:∀l,gZ bA l->dy bA (gp bA) (list n l)
 o0:∀ct l,gZ bA l->gp bA ct->dy bA (gp bA) (o0 n ct l)
 lz:∀l,gZ bA l->dy bA (fj bA) (lz n l)
 arrow:∀l,gZ bA l->dy bA (fj bA) (arrow n l)
def akf(bA:iG):∀n,afN bA n:=by
 intro n
 induction n with
 |zero=>constructor<;>intros<;>exact dy.none
 |succ n ak=>
  constructor
  case level=>
   intro B l aC
   rw[level]
   split
   ·exact ak.shift l aC
   ·exact(ak.level (B+1) l aC).andThen λJ b8 Q U=>ak.oY B J b8 Q U
  case oY=>
   intro B J l aC bx
   rw[oY]
   split
   ·exact dy.none
   ·rename_i b8 aj
    exact dy.ok (KG aC _ _ _ aj).1 bx
   ·rename_i x b8 aj
    obtain⟨Q,U⟩:=KG aC _ _ _ aj
    obtain⟨Y,bl,K,aE,rfl⟩:=U _ rfl
    have aN:=auZ _ _ bl
    refine(ak.level (B+1) b8 Q).andThen λr c5 bV cw=> ?_
    have bc:fj bA (two (.mk Y.2 K [] false dN 0 []) J r):=afp (B:=Y.2) (.inl aN) bx cw aE
    split
    ·exact dy.ok bV bc
    ·exact ak.oY B _ c5 bV bc
  case shift=>
   intro l aC
   rw[shift]
   exact(ak.tC l aC).andThen λJ b8 Q U=>ak.o8 J b8 Q U
  case o8=>
   intro J l aC bx
   rw[o8]
   refine pW aC (λx b8 aE Q=>ak.o9 19 x J b8 (.inl rfl) aE Q bx) ?_
   exact pW aC (λx b8 aE Q=>ak.o9 20 x J b8 (.inr rfl) aE Q bx) (dy.ok aC bx)
  case o9=>
   intro B x J l aN aE aC bx
   rw[o9]
   refine(u2 aC).andThen λm b8 Q U=> ?_
   split
   ·exact dy.bad _
   ·rename_i azr
    have b6:=U.1.num U.2
    exact ak.o8 _ b8 Q (Ke Zo (λa=>Zo) (λ_=>⟨rfl,rfl⟩) (λa=>Zo) (λ_=>rfl) (λ_=>⟨b6,Zo⟩) (λQ U=>Zo) bx aE)
  case tC=>
   intro l aC
   rw[xk]
   split
   ·exact dy.none
   ·rename_i x b8 aj
    obtain⟨Q,U⟩:=KG aC _ _ _ aj
    obtain⟨Y,bl,K,aE,rfl⟩:=U _ rfl
    have aN:=avv _ bl
    refine(ak.tC b8 Q).andThen λJ c5 bV cw=>dy.ok bV ?_
    exact Ke (B:=Y.2) Zo (λa=>Zo) (λ_=>⟨rfl,rfl⟩) (λa=>Zo) (λ_=>rfl) (λa=>Zo) (λ_ _=>rfl) cw aE
   ·rename_i b8 aj
    exact(ak.part b8 (KG aC _ _ _ aj).1).andThen λJ c5 bV cw=>ak.m4 J c5 bV cw
  case m4=>
   intro J l aC bx
   rw[m4]
   refine pW aC (λx b8 aE Q=> ?_) (dy.ok aC bx)
   refine pW Q (λe c5 _ bV=> ?_) ?_
   ·refine(u2 bV).andThen λm e6 e8 fQ=> ?_
    exact ak.m4 _ e6 e8 (Ke Zo (λ_=>fQ.1.name fQ.2) (λa=>absurd rfl a) (λa=>Zo) (λ_=>rfl) (λa=>Zo) (λ_ _=>rfl) bx aE)
   ·refine(u2 Q).andThen λm e6 e8 fQ=> ?_
    exact ak.m4 _ e6 e8 (Ke Zo (λ_=>fQ.1.name fQ.2) (λa=>absurd rfl a) (λa=>Zo) (λ_=>rfl) (λa=>Zo) (λ_ _=>rfl) bx aE)
  case list=>
   intro l aC
   rw[list]
   refine pW aC (λx b8 _ Q=>dy.ok Q gp.nil) ?_
   exact(ak.arrow l aC).andThen λJ c5 bV cw=>ak.o0 _ c5 bV (gp.cons cw gp.nil)
  case o0=>
   intro ct l aC aE
   rw[o0]
   refine pW aC (λx b8 _ Q=> ?_) ?_
   ·exact(ak.arrow b8 Q).andThen λJ c5 bV cw=>ak.o0 _ c5 bV (gp.app cw aE)
   ·exact(nz aC).andThen λ_ b8 Q _=>dy.ok Q aE
  case lz=>
   intro l aC
   rw[lz]
   refine(ak.level 0 l aC).andThen λJ c5 bV cw=> ?_
   refine pW bV (λx b8 aE Q=> ?_) (dy.ok bV cw)
   simp only[]
   split
   ·exact dy.none
   ·rename_i AV
    exact(ak.lz b8 Q).andThen λr e6 e8 fQ=>dy.ok e8 (ayz AV cw fQ aE)
   ·exact dy.bad _
  case arrow=>
   intro l aC
   rw[arrow]
   refine(ak.lz l aC).andThen λJ c5 bV cw=> ?_
   refine pW bV (λx b8 aE Q=> ?_) (dy.ok bV cw)
   exact(ak.arrow b8 Q).andThen λr e6 e8 fQ=>dy.ok e8 (afp (.inr rfl) cw fQ aE)
  case part=>
   intro l aC
   cases l with
   |nil=>rw[part];exact dy.none
   |cons x l=>
   have ah:=aC.aM
   have hk:=aC.pc
   rw[part]
   by_cases jU:x.kind=5
   ·rw[Zq jU]
    exact dy.ok hk (afo (ah.lit jU) (ah.pos (by rw[jU];decide)))
   rw[Zg jU]
   split
   ·rename_i U
    refine dy.ok hk (afo ?_ (ah.pos λJ=>by simp[J]at U))
    split
    ·exact bA.eg
    ·exact bA.fP
   by_cases dt:x.kind=1
   ·rw[Zq dt]
    refine pW hk (λe c5 _ Q=> ?_) (dy.ok hk (ayC (ah.name dt) (ah.pos (by rw[dt];decide))))
    exact(ak.list c5 Q).andThen λct e6 e8 fQ=>dy.ok e8 (ayy (ah.name dt) fQ (ah.pos (by rw[dt];decide)))
   rw[Zg dt]
   by_cases hd:x.kind=3
   ·rw[Zq hd]
    refine(nz hk).andThen λ_ c5 Q _=> ?_
    refine(ak.arrow c5 Q).andThen λJ e6 e8 fQ=> ?_
    refine(nz e8).andThen λ_ g0 fA _=> ?_
    exact dy.ok fA (Ke Zo (λa=>Zo) (λ_=>⟨rfl,rfl⟩) (λ_=>ah.type hd) (λa=>absurd rfl a) (λa=>Zo) (λ_ _=>rfl) fQ (ah.pos (by rw[hd];decide)))
   rw[Zg hd]
   split
   ·refine(ak.arrow l hk).andThen λJ e6 e8 fQ=> ?_
    refine(nz e8).andThen λ_ g0 fA _=> ?_
    exact dy.ok fA fQ
   split
   ·rename_i U
    refine(ak.arrow l hk).andThen λJ e6 e8 fQ=> ?_
    refine(nz e8).andThen λ_ g0 fA _=> ?_
    refine(ak.arrow g0 fA).andThen λcF gF cD cp=> ?_
    refine(nz cD).andThen λ_ mv eW _=> ?_
    refine(ak.arrow mv eW).andThen λfx lZ jQ kA=> ?_
    exact dy.ok jQ (ayA fQ cp kA (ah.pos λJ=>by simp[J]at U))
   split
   ·rename_i U
    refine(u2 hk).andThen λc c5 Q aB=> ?_
    refine(ak.part c5 Q).andThen λJ e6 e8 fQ=> ?_
    refine(ak.part e6 e8).andThen λcF g0 fA hx=> ?_
    exact dy.ok fA (ayB (aB.1.name aB.2) fQ hx (ah.pos λJ=>by simp[J]at U))
   ·exact dy.bad _
structure pX(bA:iG)(d:fe):Prop where
 name:bA.N d.name
 type:bA.Ek d.ty
 on:d.on≠[]->bA.N d.on
 no:d.on=[]->d.no=false
 ap:bA.A d.at_
 op:bA.A d.fu
structure GV(bA:iG)(am:e9):Prop where
 left:∀s∈am.left,bA.N s
 some:am.left≠[]
 right:fj bA am.right
 ap:bA.A am.at_
 aBb:∀K∈am.dg,bA.A K
structure pm(bA:iG)(g:Node):Prop where
 name:bA.N g.name
 eG:∀d∈g.eG,pX bA d
 out:∀d∈g.out,pX bA d
 loc:∀d∈g.loc,pX bA d
 some:g.out≠[]
 eqs:∀am∈g.eqs,GV bA am
 ap:bA.A g.at_
def xF(bA:iG)(cn:List Tok):Prop:=∀x∈cn,bA.N x.text/\bA.A x.at_
def xF.app{bA:iG}{x:Tok}{cn:List Tok}(a:xF bA cn)(ah:bA.N x.text/\bA.A x.at_):xF bA (cn++[x]):=by
 intro e H
 rcases Zy.1 H with H|H
 ·exact a e H
 ·simp at H;subst H;exact ah
def adq{bA:iG}:∀(n:Nat) (ct l:List Tok),gZ bA l->xF bA ct->dy bA (λcn=>xF bA cn/\cn≠[]) (rf n ct l):=by
 intro n
 induction n with
 |zero=>intro ct l _ _;rw[rf];exact dy.none
 |succ n ak=>
  intro ct l aC aE
  rw[rf]
  refine(u2 aC).andThen λx b8 Q ah=> ?_
  have aL:=aE.app ⟨ah.1.name ah.2,ah.1.pos (by rw[ah.2];decide)⟩
  refine pW Q (λe c5 _ U=>ak _ c5 U aL) (dy.ok Q ⟨aL,Zs⟩)
def Xd{bA:iG}{w:Option Tok}{l:List Tok}(aC:gZ bA l):dy bA (λr:bk×Int×Bool=>((r.1≠[]->bA.N r.1)/\(r.1=[]->r.2.2=false))/\bA.A r.2.1) (Av w l):=by
 unfold Av
 split
 ·exact dy.ok aC ⟨⟨λa=>absurd rfl a,λ_=>rfl⟩,bA.a0⟩
 ·refine pW aC (λe c5 _ U=> ?_) ?_
  ·exact(u2 U).andThen λx b8 Q ah=>dy.ok Q ⟨⟨λ_=>ah.1.name ah.2,λa=>absurd a (bA.a8 _ (ah.1.name ah.2))⟩,ah.1.pos (by rw[ah.2];decide)⟩
  ·exact(u2 aC).andThen λx b8 Q ah=>dy.ok Q ⟨⟨λ_=>ah.1.name ah.2,λa=>absurd a (bA.a8 _ (ah.1.name ah.2))⟩,ah.1.pos (by rw[ah.2];decide)⟩
def gZ.drop{bA:iG}{l:List Tok}(a:gZ bA l)(n:Nat):gZ bA (l.drop n):=λx ah=>a x (Y8 ah)
def Xb{bA:iG}{loc:Bool}{B:List fe->List Tok->ga (List fe)}{bu:List fe->Prop}{ds:List fe}{l:List Tok}(aC:gZ bA l)(b1:bu ds)(aN:∀b8,gZ bA b8->dy bA bu (B ds b8)):dy bA bu (xU loc B ds l):=by
 unfold xU
 split
 ·exact dy.none
 ·split
  ·split
   ·split
    ·exact dy.none
    ·split
     ·exact dy.ok aC b1
     ·exact aN _ (aC.drop 1)
   ·exact aN _ (aC.drop 1)
  ·exact dy.ok aC b1
def Pr{bA:iG}{loc:Bool}:∀(n:Nat) (ds:List fe) (l:List Tok),gZ bA l->(∀d∈ds,pX bA d)->dy bA (λds=>(∀d∈ds,pX bA d)/\ds≠[]) (iW n loc ds l):=by
 intro n
 induction n with
 |zero=>intro ds l _ _;rw[iW];exact dy.none
 |succ n ak=>
  intro ds l aC aM
  rw[iW]
  refine(adq n [] l aC (λ_ a=>by cases a)).andThen λcn b8 Q ah=> ?_
  unfold Cg
  refine(nz Q).andThen λ_ c5 U _=> ?_
  refine(u2 U).andThen λt e6 ar bc=> ?_
  have oI:∀r:bk×Int×Bool,((r.1≠[]->bA.N r.1)/\(r.1=[]->r.2.2=false))/\bA.A r.2.1->∀d∈ds++cn.map (pv t.ty r.1 r.2.1 r.2.2),pX bA d:=by
   intro r Z d aps
   rcases Zy.1 aps with a|a
   ·exact aM d a
   ·obtain⟨x,FJ,rfl⟩:=ZT.1 a
    exact⟨(ah.1 x FJ).1,bc.1.type bc.2,Z.1.1,Z.1.2,(ah.1 x FJ).2,Z.2⟩
  refine pW ar (λw g0 _ aK=> ?_) ?_
  ·refine(Xd aK).andThen λr gF bH Z=> ?_
   exact Xb bH ⟨oI r Z,by simp[ah.2]⟩ (λb8 a=>ak _ b8 a (oI r Z))
  ·refine(Xd ar).andThen λr gF bH Z=> ?_
   exact Xb bH ⟨oI r Z,by simp[ah.2]⟩ (λb8 a=>ak _ b8 a (oI r Z))
def amp{bA:iG}(n:Nat){l:List Tok}(aC:gZ bA l):dy bA (GV bA) (ue n l):=by
 have w0:∀(cn:List Tok) (l:List Tok),gZ bA l->xF bA cn/\cn≠[]->dy bA (GV bA) (andThen (eH [61] l) λJ l=>andThen (arrow n l) λr l=>andThen (eH [59] l) λ_ l=>ok ⟨cn.map Tok.text,cn.map Tok.at_,J.at_,r⟩ l):=by
  intro cn l aC ah
  refine(nz aC).andThen λJ c5 U apz=> ?_
  refine((akf bA n).arrow c5 U).andThen λr e6 ar Z=> ?_
  refine(nz ar).andThen λ_ g0 aK _=>dy.ok aK ⟨?_,by simp[ah.2],Z,apz, ?_⟩
  ·intro s aD
   obtain⟨x,FJ,rfl⟩:=ZT.1 aD
   exact(ah.1 x FJ).1
  ·intro s aD
   obtain⟨x,FJ,rfl⟩:=ZT.1 aD
   exact(ah.1 x FJ).2
 have nX:∀x:Tok,B2 bA x/\x.kind=1->xF bA [x]:=λx ah e H=>by simp at H;subst H;exact⟨ah.1.name ah.2,ah.1.pos (by rw[ah.2];decide)⟩
 unfold ue
 refine pW aC (λe c5 _ U=> ?_) ?_
 ·refine dy.andThen (bu:=λcn=>xF bA cn/\cn≠[]) ?_ w0
  refine(u2 U).andThen λx e6 ar ah=> ?_
  refine(nz ar).andThen λ_ g0 aK _=> ?_
  refine(adq n [x] g0 aK (nX x ah)).andThen λcn gF bH A8=> ?_
  exact(nz bH).andThen λ_ mv cu _=>dy.ok cu A8
 ·refine dy.andThen (bu:=λcn=>xF bA cn/\cn≠[]) ?_ w0
  exact(u2 aC).andThen λx e6 ar ah=>dy.ok ar ⟨nX x ah,Zs⟩
def ams{bA:iG}:∀(n:Nat) (cR:List e9) (l:List Tok),gZ bA l->(∀am∈cR,GV bA am)->dy bA (λcR=>∀am∈cR,GV bA am) (ly n cR l):=by
 intro n
 induction n with
 |zero=>intro cR l _ _;rw[ly];exact dy.none
 |succ n ak=>
  intro cR l aC b1
  rw[ly]
  refine pW aC (λe c5 _ U=>dy.ok U b1) ?_
  refine(amp n aC).andThen λam c5 U aq6=>ak _ c5 U ?_
  intro S2 a
  rcases Zy.1 a with a|a
  ·exact b1 S2 a
  ·simp at a;subst a;exact aq6
def auA{bA:iG}(n:Nat){l:List Tok}(aC:gZ bA l):dy bA (pm bA) (node n l):=by
 unfold node
 refine(nz aC).andThen λ_ l Q _=> ?_
 refine(u2 Q).andThen λx l U ah=> ?_
 refine(nz U).andThen λ_ l ar _=> ?_
 have w0:∀(eG:List fe) (l:List Tok),gZ bA l->(∀d∈eG,pX bA d)->dy bA (pm bA) (andThen (eH [114,101,116,117,114,110,115] l) λ_ l=>andThen (eH [40] l) λ_ l=>andThen (iW n false [] l) λout l=>andThen (eH [41] l) λ_ l=>
  h7 [118,97,114] l λe l=>andThen (match e with
   |some _=>andThen (iW n true [] l) λds l=>andThen (eH [59] l) λ_ l=>ok ds l
   |none=>ok [] l) λloc l=>
  andThen (eH [108,101,116] l) λ_ l=>andThen (ly n [] l) λcR l=>ok ⟨x.text,x.at_,eG,out,loc,cR⟩ l):=by
  intro eG l aC aJ
  refine(nz aC).andThen λ_ l Q _=> ?_
  refine(nz Q).andThen λ_ l U _=> ?_
  refine(Pr n [] l U (λ_ a=>by cases a)).andThen λout l ar bl=> ?_
  refine(nz ar).andThen λ_ l aK _=> ?_
  have abq:∀(loc:List fe) (l:List Tok),gZ bA l->(∀d∈loc,pX bA d)->dy bA (pm bA) (andThen (eH [108,101,116] l) λ_ l=>andThen (ly n [] l) λcR l=>ok ⟨x.text,x.at_,eG,out,loc,cR⟩ l):=by
   intro loc l aC aqg
   refine(nz aC).andThen λ_ l bH _=> ?_
   exact(ams n [] l bH (λ_ a=>by cases a)).andThen λcR l cu aq8=>dy.ok cu ⟨ah.1.name ah.2,aJ,bl.1,aqg,bl.2,aq8,ah.1.pos (by rw[ah.2];decide)⟩
  refine pW aK (λe c5 _ bH=> ?_) ?_
  ·refine dy.andThen (bu:=λds=>∀d∈ds,pX bA d) ?_ abq
   refine(Pr n [] c5 bH (λ_ a=>by cases a)).andThen λds l cu Q0=> ?_
   exact(nz cu).andThen λ_ l dM _=>dy.ok dM Q0.1
  ·exact dy.andThen (bu:=λds=>∀d∈ds,pX bA d) (dy.ok aK (λ_ a=>by cases a)) abq
 refine pW ar (λe c5 _ aK=> ?_) ?_
 ·exact dy.andThen (bu:=λds=>∀d∈ds,pX bA d) (dy.ok aK (λ_ a=>by cases a)) w0
 ·refine dy.andThen (bu:=λds=>∀d∈ds,pX bA d) ?_ w0
  refine(Pr n [] _ ar (λ_ a=>by cases a)).andThen λds l cu Q0=> ?_
  exact(nz cu).andThen λ_ l dM _=>dy.ok dM Q0.1
def auD{bA:iG}:∀(n:Nat) (aq:List Node) (l:List Tok),gZ bA l->(∀g∈aq,pm bA g)->dy bA (λaq=>(∀g∈aq,pm bA g)/\aq≠[]) (o3 n aq l):=by
 intro n
 induction n with
 |zero=>intro aq l _ _;rw[o3];exact dy.none
 |succ n ak=>
  intro aq l aC b5
  rw[o3]
  refine(auA n aC).andThen λg c5 U apS=> ?_
  have aa6:∀PX∈aq++[g],pm bA PX:=by
   intro PX a
   rcases Zy.1 a with a|a
   ·exact b5 PX a
   ·simp at a;subst a;exact apS
  split
  ·exact dy.none
  ·split
   ·exact dy.ok U ⟨aa6,Zs⟩
   ·exact ak _ _ U aa6
end Go.aU

namespace Go.Proofs.YtpfajohmofnkfaaGreatDoor
open Go.bi Go.aU
noncomputable section
structure Ed(s:bk):Prop where
 ne:s≠[]
 len:s.length<=32
 akG:∀c,s.head?=some c->qs c=true
 all:∀c∈s,iN c=true
 res:s∉vs
 ty:k0 s=none
def Oy(t:d9)(n:Int):Prop:=ku t=true/\uJ t n=true/\0<=n/\n<18446744073709551616
def aqE:uJ ⟨true,false,1⟩ 0=true:=by decide+kernel
def aqF:uJ ⟨true,false,1⟩ 1=true:=by decide+kernel
def ln:iG:=⟨Ed,λt=>ku t=true,Oy,λ_ a=>a.ne,rfl,⟨rfl,aqE,Zo,Zo⟩,⟨rfl,aqF,Zo,Zo⟩,λ_ _ a=>a.1,λ_=>True,trivial⟩
def Ak(n:Nat):iG:={ln with A:=λK=>0<=K/\K<=n,a0:=⟨Int.le_refl 0,Int.natCast_nonneg n⟩}
def axS{
 s:bk}{i:Nat}{x:Tok}(a:xv s i=some x):B2 ln (lq x i):=by
 unfold xv at a
 cases aB:s[i]? with
 |none=>rw[aB]at a;cases a
 |some c=>
  rw[aB]at a
  simp only[]at a
  obtain⟨ah,H⟩:=Zb.1 aB
  have aM:s.drop i=c::s.drop (i+1):=by rw[Zv ah,H]
  split at a
  ·unfold DB at a
   simp only[]at a
   split at a
   ·cases a
   ·have c1:=ad9 ((s.drop i).takeWhile iw)
    split at a
    ·cases a
     exact⟨λa=>by simp[lq]at a,λa=>by simp[lq]at a,λ_=>by simp only[lq];omega,λa=>by simp[lq]at a,λ_=>trivial⟩
    ·split at a
     ·rename_i t bc
      split at a
      ·rename_i gD
       cases a
       simp only[Zp]at gD
       exact⟨λa=>by simp[lq]at a,λa=>by simp[lq]at a,λa=>by simp[lq]at a,λ_=>⟨TK bc,gD.2,by simp only[lq];omega,by simp only[lq];omega⟩,λ_=>trivial⟩
      ·cases a
     ·cases a
  ·split at a
   ·rename_i aj
    split at a
    ·rename_i aC
     cases a
     have bJ:(s.drop i).takeWhile iN=c::(s.drop (i+1)).takeWhile iN:=by
      rw[aM,YF]
      have:iN c=true:=by simp[iN,aj]
      simp[this]
     refine⟨λa=> ?_,λa=> ?_,λa=> ?_,λa=> ?_,λ_=>trivial⟩
     ·simp only[lq,tx]at a ⊢
      split at a
      ·cases a
      ·rename_i aL
       split at a
       ·cases a
       ·rename_i Z
        have hk:((s.drop i).takeWhile iN).length<=32:=by simpa[tx]using aC
        refine⟨by rw[bJ];simp,hk, ?_,aeU iN _,Z,by simpa using aL⟩
        intro f0 cy
        rw[bJ]at cy
        cases cy
        exact aj
     ·simp only[lq,tx]at a ⊢
      split at a
      ·rename_i aL
       cases bc:k0 ((s.drop i).takeWhile iN)with
       |none=>rw[bc]at aL;cases aL
       |some t=>exact TK bc
      ·split at a<;>cases a
     ·simp only[lq,tx]at a
      split at a
      ·cases a
      ·split at a<;>cases a
     ·simp only[lq,tx]at a
      split at a
      ·cases a
      ·split at a<;>cases a
    ·cases a
   ·cases aD:vv s i with
    |none=>rw[aD]at a;cases a
    |some p=>
     rw[aD]at a
     cases a
     exact⟨λa=>by simp[lq,DS]at a,λa=>by simp[lq,DS]at a,λa=>by simp[lq,DS]at a,λa=>by simp[lq,DS]at a,λ_=>trivial⟩
def axV{s:bk}:∀(n:Nat) (aX:List Tok) (i:Nat) (mD:List Tok),gZ ln aX->qE s n aX i=some (.ok mD)->gZ ln mD:=by
 intro n
 induction n with
 |zero=>intro aX i mD _ a;cases a
 |succ n ak=>
  intro aX i mD bc a
  rw[qE]at a
  split at a
  ·split at a
   ·cases a
   ·rename_i x ah
    refine ak _ _ _ ?_ a
    intro e H
    rcases Zy.1 H with H|H
    ·exact bc e H
    ·simp at H;subst H;exact axS ah
  ·cases a
   intro e H
   rcases Zy.1 H with H|H
   ·exact bc e H
   ·simp at H;subst H;exact⟨λa=>by simp at a,λa=>by simp at a,λa=>by simp at a,λa=>by simp at a,λ_=>trivial⟩
def axT{s:bk}:∀(n:Nat) (aX:List Tok) (i:Nat) (mD:List Tok),(∀x∈aX,x.kind≠7->0<=x.at_/\x.at_<=s.length)->qE s n aX i=some (.ok mD)->∀x∈mD,x.kind≠7->0<=x.at_/\x.at_<=s.length:=by
 intro n
 induction n with
 |zero=>intro aX i mD _ a;cases a
 |succ n ak=>
  intro aX i mD bc a
  rw[qE]at a
  split at a
  ·rename_i aJ
   split at a
   ·cases a
   ·rename_i x ah
    refine ak _ _ _ ?_ a
    intro e H
    rcases Zy.1 H with H|H
    ·exact bc e H
    ·simp at H;subst H;intro _;simp only[lq];omega
  ·cases a
   intro e H
   rcases Zy.1 H with H|H
   ·exact bc e H
   ·simp at H;subst H;intro a;exact absurd rfl a
def avj{s:bk}{aq:List Go.aU.Node}(a:BA s= .ok aq):(∀g∈aq,pm (Ak s.length) g)/\aq≠[]/\n8 aq=none:=by
 unfold BA at a
 split at a
 ·rename_i r Z
  subst a
  unfold BB at Z
  split at Z
  ·cases Z
  ·cases Z
  ·rename_i aX bc
   have arK:=axT _ _ _ _ (λ_ a=>by cases a) bc
   have Da:gZ (Ak s.length) aX:=λx ah=>by
    obtain⟨Q,U,ar,aK,_⟩:=axV _ _ _ _ (λ_ a=>by cases a) bc x ah
    exact⟨Q,U,ar,aK,arK x ah⟩
   split at Z
   ·cases Z
   ·cases Z
   ·rename_i i1 l aL
    obtain⟨Q,U⟩:=auD (bA:=Ak s.length) _ _ _ Da (λ_ a=>by cases a) _ _ aL
    split at Z
    ·cases Z
    ·rename_i aC
     cases Z
     exact⟨U.1,U.2,aC⟩
 ·cases a
def aut{n:Nat}{J:bE}(a:BU (Ak n) J):BU ln J:=⟨trivial,a.bV,a.cw,a.B7,a.nm,a.Nl,a.no,a.ty,a.dN,a.ady,a.l1,a.a8,a.wq⟩
mutual
def afm{n:Nat}:∀{J:bE},fj (Ak n) J->fj ln J
 | .mk ..,a=>by rw[fj]at a ⊢;exact⟨aut a.1,afn a.2⟩
def afn{n:Nat}:∀{l:List bE},gp (Ak n) l->gp ln l
 |[],_=>gp.nil
 |_::_,a=>by rw[gp]at a;exact gp.cons (afm a.1) (afn a.2)
end
def Pp{n:Nat}{d:fe}(a:pX (Ak n) d):pX ln d:=⟨a.name,a.type,a.on,a.no,trivial,trivial⟩
def auw{n:Nat}{g:Go.aU.Node}(a:pm (Ak n) g):pm ln g:=⟨a.name,λd aM=>Pp (a.eG d aM),λd aM=>Pp (a.out d aM),λd aM=>Pp (a.loc d aM),a.some,λam b1=>⟨(a.eqs am b1).left,(a.eqs am b1).some,afm (a.eqs am b1).right,trivial,λ_ _=>trivial⟩,trivial⟩
def avi{s:bk}{aq:List Go.aU.Node}(a:BA s= .ok aq):(∀g∈aq,pm ln g)/\aq≠[]/\n8 aq=none:=
 have B:=avj a
 ⟨λg b5=>auw (B.1 g b5),B.2⟩
mutual
def JK:bE->List bE
 | .mk B K nm no t n args=> .mk B K nm no t n args::JL args
def JL:List bE->List bE
 |[]=>[]
 |J::l=>JK J++JL l
end
mutual
def afh{iD:Type}(step:iD->bE->iD×Bool)(a:∀s J,(step s J).2=true):∀(J:bE) (s:iD),BO step s J=(JK J).foldl (λs J=>(step s J).1) s
 | .mk B K nm no t n args,s=>by
   rw[BO,Zq (a _ _),JK,Yo]
   exact afi step a args _
def afi{iD:Type}(step:iD->bE->iD×Bool)(a:∀s J,(step s J).2=true):∀(l:List bE) (s:iD),xy step s l=(JL l).foldl (λs J=>(step s J).1) s
 |[],s=>by rw[xy,JL];rfl
 |J::l,s=>by
  rw[xy,JL,List.foldl_append,afh step a J s]
  exact afi step a l _
end
def rb(am:e9):List (bk×Int):=am.left.zipIdx.map λx=>(x.1,(am.dg[x.2]?).getD 0)
def nt(t:bk->Option eJ)(s:(bk->Option Int)×(Int×Int))(x:bk×Int):(bk->Option Int)×(Int×Int):=(λw=>if w=x.1 then some ((s.1 x.1).getD 0+1)else s.1 w,Jn t s.1 s.2 x.1 x.2)
def mA(t:bk->Option eJ)(aq:List Go.aU.Node)(B:Nat)(s:(bk->Option Int)×(Int×Int))(am:e9):(bk->Option Int)×(Int×Int):=
 (((rb am).foldl (nt t) s).1,NL t aq B ((rb am).foldl (nt t) s).2 am.right)
def rs(af:bk->Option Int)(f:Int×Int)(x:Int×fe):Int×Int:=if x.1≠1/\(af x.2.name).getD 0=0 then mg f 37 x.2.at_ else f
def rj(aq:List Go.aU.Node)(B:Nat)(g:Go.aU.Node):Int×Int:=if (nb aq g.name).getD 0<B then mg (0,0) 24 g.at_ else(0,0)
def rk(aq:List Go.aU.Node)(B:Nat)(g:Go.aU.Node):Int×Int:=
 (g6 g).foldl (rs (g.eqs.foldl (mA (gX g) aq B) (λ_=>none,sZ (gX g) g (rj aq B g))).1) (g.eqs.foldl (mA (gX g) aq B) (λ_=>none,sZ (gX g) g (rj aq B g))).2
def Ar(aq:List Go.aU.Node):Nat->List Go.aU.Node->Int×Int
 |_,[]=>(0,0)
 |B,g::l=>if (rk aq B g).1≠0 then rk aq B g else Ar aq (B+1) l
def t7(aq:List Go.aU.Node):Int×Int:=Ar aq 0 aq
def Cq(f:Int×Int){c:Int}(K:Int)(aB:c≠0):(mg f c K).1≠0:=by
 unfold mg
 split
 ·exact aB
 ·rename_i a;exact a
def XW{α:Type}(bad:α->Prop)[DecidablePred bad](c K:α->Int)(aB:∀x,c x≠0):∀(l:List α) (f:Int×Int),(l.foldl (λf x=>if bad x then mg f (c x) (K x)else f) f).1=0↔f.1=0/\∀x∈l,¬bad x:=by
 intro l
 induction l with
 |nil=>intro f;simp
 |cons x l ak=>
  intro f
  rw[Yo,ak]
  by_cases aj:bad x
  ·have:=Cq f (K x) (aB x)
   simp[aj,this]
  ·simp[aj]
def ado(g:Go.aU.Node):List bk:=(g6 g).map λx=>x.2.name
def alY{g:Go.aU.Node}{x:Int×fe}(a:x∈g6 g):x.1=1/\x.2∈g.eG\/x.1=2/\x.2∈g.out\/x.1=3/\x.2∈g.loc:=by
 simp only[g6,Zy,ZT]at a
 rcases a with ⟨d,a,rfl⟩|⟨d,a,rfl⟩|⟨d,a,rfl⟩<;>simp[a]
def alS:∀(l:List (Int×fe)) (s:bk->Option Int) (f:Int×Int),(∀x∈l,0<x.1)->((l.foldl lw (s,f)).2.1=0↔f.1=0/\(l.map λx=>x.2.name).Nodup/\∀x∈l,¬0<(s x.2.name).getD 0):=by
 intro l
 induction l with
 |nil=>intro s f _;simp
 |cons x l ak=>
  intro s f az
  rw[Yo]
  have ah:=az x (Zu ..)
  rw[show lw (s,f) x=((lw (s,f) x).1,(lw (s,f) x).2) from rfl,ak _ _ (λe H=>az e (Zr _ H))]
  simp only[lw,ZK,List.nodup_cons,Zt,ZT]
  constructor
  ·rintro⟨Q,U,ar⟩
   by_cases aj:0<(s x.2.name).getD 0
   ·rw[Zq aj]at Q
    exact absurd Q (Cq f _ Zd)
   ·rw[Zg aj]at Q
    refine⟨Q,⟨?_,U⟩, ?_⟩
    ·rintro⟨e,H,bx⟩
     have:=ar e H
     rw[Zq bx]at this
     exact this (by simpa using ah)
    ·rintro e (rfl|H)
     ·exact aj
     ·have:=ar e H
      split at this
      ·exact absurd ah (by simpa using this)
      ·exact this
  ·rintro⟨Q,⟨U,ar⟩,aK⟩
   have aj:¬0<(s x.2.name).getD 0:=aK x (.inl rfl)
   refine⟨by rw[Zg aj];exact Q,ar,λe H=> ?_⟩
   rw[Zg (λJ=>U ⟨e,H,J⟩)]
   exact aK e (.inr H)
def Xc{g:Go.aU.Node}{t:bk->Option eJ}{f:Int×Int}:(sZ t g f).1=0↔f.1=0/\(ado g).Nodup/\∀x∈g6 g,¬(t x.2.on=none/\x.2.on≠[]):=by
 unfold sZ
 have U:=XW (λx:Int×fe=>t x.2.on=none/\x.2.on≠[]) (λ_=>23) (λx=>x.2.fu) (λ_=>Zd) (g6 g) ((g6 g).foldl lw (λ_=>none,f)).2
 have ar:(g6 g).foldl (qV t) ((g6 g).foldl lw (λ_=>none,f)).2=(g6 g).foldl (λf x=>if t x.2.on=none/\x.2.on≠[]then mg f 23 x.2.fu else f) ((g6 g).foldl lw (λ_=>none,f)).2:=rfl
 rw[ar,U,alS _ _ _ (λx ah=>by rcases alY ah with a|a|a<;>omega)]
 simp[ado,and_assoc]
def js(w:bk)(l:List bk):Int:=((l.filter λx=>decide (x=w)).length:Int)
def Hq(w x:bk)(l:List bk):js w (x::l)=(if x=w then 1 else 0)+js w l:=by
 unfold js
 rw[List.filter_cons]
 by_cases a:x=w
 ·simp[a];omega
 ·simp[a]
def KO(w:bk):js w []=0:=rfl
def EK(w:bk)(l:List bk):0<=js w l:=by unfold js;omega
def Hp(w:bk)(l m:List bk):js w (l++m)=js w l+js w m:=by unfold js;rw[List.filter_append,ZM];omega
def WY{w:bk}{l:List bk}:0<js w l↔w∈l:=by
 induction l with
 |nil=>simp[KO]
 |cons x l ak=>
  have:=EK w l
  rw[Hq]
  by_cases a:x=w
  ·simp[a];omega
  ·have cy:¬w=x:=λJ=>a J.symm
   simp[a,cy,ak]
def SD(t:bk->Option eJ):∀(l:List (bk×Int)) (s:(bk->Option Int)×(Int×Int)) (w:bk),((l.foldl (nt t) s).1 w).getD 0=(s.1 w).getD 0+js w (l.map Prod.fst):=by
 intro l
 induction l with
 |nil=>intro s w;simp[KO]
 |cons x l ak=>
  intro s w
  rw[Yo,ak,ZK,Hq]
  simp only[nt]
  by_cases a:w=x.1
  ·subst a;simp;omega
  ·have cy:¬x.1=w:=λJ=>a J.symm
   simp[a,cy]
def atL(t:bk->Option eJ):∀(l:List (bk×Int)) (s:(bk->Option Int)×(Int×Int)),(∀w,0<=(s.1 w).getD 0)->((l.foldl (nt t) s).2.1=0↔s.2.1=0/\∀w∈l.map Prod.fst,∃v,t w=some v/\v.kind≠1/\(s.1 w).getD 0+js w (l.map Prod.fst)<=1):=by
 intro l
 induction l with
 |nil=>intro s _;simp
 |cons x l ak=>
  intro s aD
  have pI:∀w,0<=((nt t s x).1 w).getD 0:=by
   intro w
   have:=aD w
   have:=aD x.1
   simp only[nt]
   split
   ·simp;omega
   ·assumption
  rw[Yo,ak _ pI]
  have A7:=aD x.1
  constructor
  ·rintro⟨Q,U⟩
   have ar:s.2.1=0/\∃v,t x.1=some v/\v.kind≠1/\(s.1 x.1).getD 0+1<=1:=by
    simp only[nt,Jn]at Q
    cases bc:t x.1 with
    |none=>rw[bc]at Q;exact absurd Q (Cq _ _ Zd)
    |some v=>
     rw[bc]at Q
     simp only[]at Q
     split at Q
     ·exact absurd Q (Cq _ _ Zd)
     ·rename_i b1
      exact⟨Q,v,rfl,λJ=>b1 (.inl J),by have:¬1<(s.1 x.1).getD 0+1:=λJ=>b1 (.inr J);omega⟩
   refine⟨ar.1,λw bJ=> ?_⟩
   rw[ZK,Zt]at bJ
   rw[ZK,Hq]
   by_cases A6:w=x.1
   ·subst A6
    obtain⟨v,aK,bH,cu⟩:=ar.2
    refine⟨v,aK,bH, ?_⟩
    by_cases bp:x.1∈l.map Prod.fst
    ·obtain⟨f9,_,_,dM⟩:=U _ bp
     simp only[nt,ZD,YP]at dM ⊢
     omega
    ·have:¬0<js x.1 (l.map Prod.fst):=λJ=>bp (WY.1 J)
     have:=EK x.1 (l.map Prod.fst)
     simp only[ZD]
     omega
   ·rcases bJ with bJ|bJ
    ·exact absurd bJ A6
    ·obtain⟨v,aK,bH,cu⟩:=U _ bJ
     have RX:¬x.1=w:=λJ=>A6 J.symm
     simp only[nt,A6,ZA]at cu
     exact⟨v,aK,bH,by simp only[RX,ZA];omega⟩
  ·rintro⟨Q,U⟩
   obtain⟨v,aK,bH,cu⟩:=U x.1 Zs
   rw[ZK,Hq,Zq rfl]at cu
   have aB:=EK x.1 (l.map Prod.fst)
   refine⟨?_,λw bJ=> ?_⟩
   ·simp only[nt,Jn,aK]
    rw[Zg (by rintro(J|J);exact bH J;omega)]
    exact Q
   ·obtain⟨f9,bV,cw,c4⟩:=U w (by rw[ZK];exact Zr _ bJ)
    refine⟨f9,bV,cw, ?_⟩
    rw[ZK,Hq]at c4
    simp only[nt]
    by_cases A6:w=x.1
    ·subst A6;simp only[ZD,YP];simp only[ZD]at c4;omega
    ·have RX:¬x.1=w:=λJ=>A6 J.symm
     simp only[A6,ZA];simp only[RX,ZA]at c4;omega
def Sq(am:e9):(rb am).map Prod.fst=am.left:=by
 simp only[rb,YK]
 have:(Prod.fst∘λx:bk×Nat=>(x.1,(am.dg[x.2]?).getD 0))=Prod.fst:=rfl
 rw[this]
 exact List.zipIdx_map_fst ..
def BW(t:bk->Option eJ)(aq:List Go.aU.Node)(B:Nat)(J:bE):Prop:=∀x∈JK J,(xd x=true->(t x.name).isSome=true)/\(x.kind=25->∃aa,nb aq x.name=some aa/\aa<B)
def awj{t:bk->Option eJ}{aq:List Go.aU.Node}{B:Nat}{f:Int×Int}{J:bE}:(NL t aq B f J).1=0↔f.1=0/\BW t aq B J:=by
 unfold NL BW
 rw[afh _ (λ_ _=>rfl)]
 generalize JK J=l
 induction l generalizing f with
 |nil=>simp
 |cons x l ak=>
  rw[Yo,ak]
  have Q:(sA t aq B f x).1.1=0↔f.1=0/\(xd x=true->(t x.name).isSome=true)/\(x.kind=25->∃aa,nb aq x.name=some aa/\aa<B):=by
   simp only[sA,GF]
   have U:(xn t f x).1=0↔f.1=0/\(xd x=true->(t x.name).isSome=true):=by
    unfold xn
    by_cases a:xd x=true
    ·rw[Zq a]
     by_cases cy:(t x.name).isSome=true
     ·rw[Zq cy];simp[cy]
     ·rw[Zg cy];simp[a,cy,Cq]
    ·rw[Zg a];simp[a]
   by_cases rX:x.kind=25
   ·rw[Zq rX]
    cases ch:nb aq x.name with
    |none=>simp[Cq,rX]
    |some aa=>
     simp only[]
     by_cases aN:B<=aa
     ·rw[Zq aN]
      have:¬aa<B:=Zo
      simp[Cq,rX,this]
     ·rw[Zg aN,U]
      have:aa<B:=Zo
      simp[rX,this]
   ·rw[Zg rX,U];simp[rX]
  rw[Q]
  simp only[Zt,forall_eq_or_imp,and_assoc]
def avM(t:bk->Option eJ)(aq:List Go.aU.Node)(B:Nat):∀(l:List e9) (s:(bk->Option Int)×(Int×Int)) (w:bk),((l.foldl (mA t aq B) s).1 w).getD 0=(s.1 w).getD 0+js w (l.flatMap e9.left):=by
 intro l
 induction l with
 |nil=>intro s w;simp[KO]
 |cons am l ak=>
  intro s w
  rw[Yo,ak,Yu,Hp]
  simp only[mA]
  rw[SD,Sq]
  omega
def aee(t:bk->Option eJ)(aq:List Go.aU.Node)(B:Nat):∀(l:List e9) (s:(bk->Option Int)×(Int×Int)),(∀w,0<=(s.1 w).getD 0)->((l.foldl (mA t aq B) s).2.1=0↔s.2.1=0/\(∀w∈l.flatMap e9.left,∃v,t w=some v/\v.kind≠1/\(s.1 w).getD 0+js w (l.flatMap e9.left)<=1)/\∀am∈l,BW t aq B am.right):=by
 intro l
 induction l with
 |nil=>intro s _;simp
 |cons am l ak=>
  intro s aD
  have pI:∀w,0<=((mA t aq B s am).1 w).getD 0:=by
   intro w
   simp only[mA]
   rw[SD]
   have:=aD w
   have:=EK w ((rb am).map Prod.fst)
   omega
  rw[Yo,ak _ pI]
  have bD:(mA t aq B s am).2.1=0↔(s.2.1=0/\∀w∈am.left,∃v,t w=some v/\v.kind≠1/\(s.1 w).getD 0+js w am.left<=1)/\BW t aq B am.right:=by
   simp only[mA]
   rw[awj,atL t _ _ aD,Sq]
  have cF:∀w,((mA t aq B s am).1 w).getD 0=(s.1 w).getD 0+js w am.left:=by
   intro w
   simp only[mA]
   rw[SD,Sq]
  rw[bD]
  simp only[cF,Yu,Hp,Zy,Zt,forall_eq_or_imp]
  constructor
  ·rintro⟨⟨⟨Q,U⟩,ar⟩,aK,bH⟩
   refine⟨Q,λw bJ=> ?_,ar,bH⟩
   by_cases bp:w∈l.flatMap e9.left
   ·obtain⟨v,bV,cw,c4⟩:=aK w bp
    exact⟨v,bV,cw,Zo⟩
   ·have b6:¬0<js w (l.flatMap e9.left):=λJ=>bp (WY.1 J)
    have:=EK w (l.flatMap e9.left)
    obtain⟨v,bV,cw,c4⟩:=U w (bJ.resolve_right bp)
    exact⟨v,bV,cw,Zo⟩
  ·rintro⟨Q,U,ar,aK⟩
   refine⟨⟨⟨Q,λw bJ=> ?_⟩,ar⟩,λw bJ=> ?_,aK⟩
   ·obtain⟨v,bV,cw,c4⟩:=U w (.inl bJ)
    have:=EK w (l.flatMap e9.left)
    exact⟨v,bV,cw,Zo⟩
   ·obtain⟨v,bV,cw,c4⟩:=U w (.inr bJ)
    exact⟨v,bV,cw,Zo⟩
def ayc(af:bk->Option Int)(l:List (Int×fe))(f:Int×Int):(l.foldl (rs af) f).1=0↔f.1=0/\∀x∈l,¬(x.1≠1/\(af x.2.name).getD 0=0):=
 XW (λx:Int×fe=>x.1≠1/\(af x.2.name).getD 0=0) (λ_=>37) (λx=>x.2.at_) (λ_=>Zd) l f
end
end Go.Proofs.YtpfajohmofnkfaaGreatDoor

