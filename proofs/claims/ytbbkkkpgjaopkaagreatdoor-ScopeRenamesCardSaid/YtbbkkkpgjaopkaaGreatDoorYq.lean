/- Part of the proof of the last text; no conditions -/
import Derived.Test.YtbbkkkpgjaopkaaGreatDoorYp
set_option maxHeartbeats 8000000
set_option linter.all false
namespace Go.Proofs.YtbbkkkpgjaopkaaGreatDoor
open Go.bp Go.aS
noncomputable section
def px(s:(bc->Option fJ)×List bc)(x:Int×ep):(bc->Option fJ)×List bc:=
 if (s.1 x.2.name).isSome then s else(λw=>if w=x.2.name then some ⟨x.1,x.2, -1, -1⟩else s.1 w,s.2++[x.2.name])
def ql(o:Nat)(t:bc->Option fJ)(x:bc×Nat):bc->Option fJ:=match t x.1 with
 |some v=>if v.eq<0 then(λw=>if w=x.1 then some ⟨v.kind,v.d,o,x.2⟩else t w)else t
 |none=>t
def FB(t:bc->Option fJ)(x:eL×Nat):bc->Option fJ:=x.1.left.zipIdx.foldl (ql x.2) t
def ni(g:Go.aS.Node):(bc->Option fJ)×List bc:=(gq g).foldl px (λ_=>none,[])
def f9(g:Go.aS.Node):bc->Option fJ:=g.eqs.zipIdx.foldl FB (ni g).1
def Mo(g:Go.aS.Node):List bc:=(ni g).2
def vY(t:bc->Option fJ):bc->Option z:=λw=>(t w).map λv=> .agg (pI v)
def Th{α:Type}{k:List α}{i:Nat}{x:α}(a:k[i]? =some x):k.zipIdx[i]? =some (x,i):=by
 rw[List.getElem?_zipIdx,a];simp
section
variable{X:cn}{h S gx a1 aT:R ag}{j aq aP bk:Nat}
structure rh(X:cn)(h2:R ag)(dM eK dA bL:Nat)(t:bc->Option fJ)(lB:List bc)(h:R ag)(n:Nat):Prop where
 le:bL<=n
 map:n9 X h eK (vY t)
 FT:∃c bf cR,Z X h dA=some (.cells c 2 .own)/\c.get 0=some (.map eK)/\c.get 1=some bf/\gU X h bf 1 (lB.map .str) cR/\∀e∈cR,bL<=e/\e<n
 low:∀e,e<dM->e≠eK->e≠dA->Z X h e=Z X h2 e
def rh.ad{h2:R ag}{dM eK dA bL:Nat}{t:bc->Option fJ}{lB:List bc}(a:rh X h2 dM eK dA bL t lB a1 aP)(H1:eK<dM)(l1:dA<dM)(mw:dM<=bL)(aL:aP<=bk)(aG:∀e,e<aP->(e<dM\/bL<=e)->Z X aT e=Z X a1 e):rh X h2 dM eK dA bL t lB aT bk:=by
 have f8:=a.le
 refine⟨Zo,a.map.ad (aG _ Zo Zo), ?_,λe I M ak=>by rw[aG e Zo Zo];exact a.low e I M ak⟩
 obtain⟨c,bf,cR,cb,b5,cG,er,eV⟩:=a.FT
 exact⟨c,bf,cR,by rw[aG _ Zo Zo];exact cb,b5,cG,er.ad (λe F=>by have:=eV e F;exact aG e Zo Zo),λe F=>zy (eV e F)⟩
def arX(aB:dR X){P:Nat->Prop}{g:Go.aS.Node}{row:List z}(aL:(q X).a6<=j)(b1:∀e,P e->e<j)(bX:qw X h P g row)(aX:(gq g).length<=300000):
 a7 X 23 [.agg row] h j (λaa S aq=>∃dA eK bf b,aa= .ptr dA 0/\ec j aq dA/\ec j aq eK/\aR X S (.ptr dA 0)=some (.map eK)/\n9 X S eK (vY (f9 g))/\aR X S (.ptr dA 1)=some bf/\ee X S (ec j aq) b bf 1 (g3 (Mo g))/\bD X h j S aq) zK:=by
 refine Kf (afl X) (aB.none _ _ rfl) ?_
 rw[afm]
 unfold TS
 obtain⟨c1,dn,bf,ev,b0,cy,cT,fi,ba,rfl,oy,p4,p5,mv,fp⟩:=bX
 refine cV ⟨?_⟩
 refine e1 (λa1=>Z X a1 j=zC [.str g.name, .Z g.at_,c1,dn,bf,ev] 6
  /\Z X a1 (j+1)=some (.map [] 0)/\Z X a1 (j+1+1)=zC [.map (j+1), .aV] 2/\aR X a1 (.ptr (j+1+1+1) 0)=some (.ptr (j+1+1) 0)/\bD X h j a1 (j+1+1+1+1)) ⟨by(first|assumption|(exact zP)|(simp(disch:=omega) only[bv,aK])),by(first|assumption|(exact zP)|(simp(disch:=omega) only[bv,aK])),by(first|assumption|(exact zP)|(simp(disch:=omega) only[bv,aK])),by rw[c6,bv Zo];rfl,dL⟩ ?_
 rintro a1 ⟨il,cb,b5,cG,b4⟩
 refine(Ky aB Zo).Zm ?_
 rintro aa aT bk ⟨rfl,rfl,cl,cB,dN,fx⟩
 have mY:bD X h j aT (j+1+1+1+1+1):=b4.trans cl
 have sW:∀e,P e->Z X aT e=Z X h e:=λe F=>mY.ad e (b1 e F)
 rw[<-cl.ad _ Zo]at il cb b5
 rw[<-cl.fA _ _ Zo]at cG
 generalize an2:j+1+1+1+1+1=dM at*
 refine gQ ?_
 refine Kz (P:=P) (g:=g) (b0:=b0) (cy:=cy) (cT:=cT) (c1:=c1) (dn:=dn) (bf:=bf) aB (λi S aQ=>rh X aT dM (j+1) (j+1+1) (dM+2) (((gq g).take i).foldl px (λ_=>none,[])).1 (((gq g).take i).foldl px (λ_=>none,[])).2 S aQ/\(((gq g).take i).foldl px (λ_=>none,[])).2.length<=i) Zo Zo Zo Zo
  (oy.ad sW) (p4.ad sW) (p5.ad sW) cB dN fx (λi S aQ a=>⟨a.1.le,λe F=>a.1.low e (zy (b1 e F)) (zy (b1 e F)) (zy (b1 e F))⟩)
  (λi a1 aP aT bk a f8 aG=>⟨a.1.ad Zo Zo Zo f8 (λe I M=>aG e I Zo),a.2⟩)
  (λS bZ=>⟨⟨Zi _,⟨[],0,by rw[bZ.ad _ Zo];exact cb,λ_=>rfl⟩,⟨_, .aV,[],by rw[bZ.ad _ Zo];exact b5,rfl,rfl, .inl (.inl ⟨rfl,rfl,rfl⟩),λe F=>by simp at F⟩,λe F _ _=>bZ.ad e F⟩,Zs⟩) ?_ ?_
 ·intro mk i eS d be bF aE hg mr h6
  rw[yv px _ aE]
  generalize ((gq g).take i).foldl px (λ_=>none,[])=bR at hg ⊢
  obtain⟨hg,eD⟩:=hg
  have awA:=(Zb.1 aE).1
  have f8:=hg.le
  have kg:d6 d=[.str d.name, .Z d.at_, .bool d.ty.b, .bool d.ty.s, .Z d.ty.w, .str d.on, .Z d.fX, .bool d.no]:=rfl
  rw[kg]
  unfold r9
  refine cV ⟨?_⟩
  generalize h7:bn X _ bF _=bU
  have er:Z X bU bF=zC [.str d.name, .Z d.at_, .bool d.ty.b, .bool d.ty.s, .Z d.ty.w, .str d.on, .Z d.fX, .bool d.no] 8:=by rw[<-h7,bv Zo];rfl
  have fb:∀e,e<bF->Z X bU e=Z X be e:=λe F=>by rw[<-h7];exact zE
  clear h7
  refine⟨by rw[fb _ Zo];exact h6, ?_⟩
  generalize jr:bn X bU (dM+1) _=bY
  have eV:Z X bY (dM+1)=some (mk .busy none):=by rw[<-jr,bv Zo]
  have eJ:∀e,e≠dM+1->Z X bY e=Z X bU e:=λe F=>by rw[<-jr,aK Zo F]
  clear jr
  have hL:=hg.ad (aT:=bY) (bk:=bF+1) Zo Zo Zo Zo (λe I M=>by rw[eJ e Zo,fb e I])
  rw[<-eJ _ Zo]at er
  have tH:Z X bY dM=some (.deferred (some [])):=by rw[eJ _ Zo,fb _ Zo];exact mr
  have cT:aR X bY (.ptr (j+1+1+1) 0)=some (.ptr (j+1+1) 0):=zJ (hL.low _ Zo Zo Zo) cG
  obtain⟨jD,ax5,aiI,eX,fD,hD,nY,mC⟩:=hL.FT
  have iF:my X bY 9 (.agg [.Z 0, .str [], .Z 0, .zF, .zF, .Z 0, .str [], .Z 0, .zF, .Z 0, .Z 0]) (.map (j+1)) (.str d.name) true=some (.tuple [.agg (pI ((bR.1 d.name).getD v2)), .bool (bR.1 d.name).isSome]):=by
   rw[Cn hL.map];unfold vY;cases bR.1 d.name<;>rfl
  generalize B4:(bR.1 d.name).getD v2=e0 at iF
  have ui:pI e0=[.Z e0.kind, .str e0.d.name, .Z e0.d.at_, .bool e0.d.ty.b, .bool e0.d.ty.s, .Z e0.d.ty.w, .str e0.d.on, .Z e0.d.fX, .bool e0.d.no, .Z e0.eq, .Z e0.left]:=rfl
  rw[ui]at iF
  have jH:∀S aQ (G:(bc->Option fJ)×List bc),rh X aT dM (j+1) (j+1+1) (dM+2) G.1 G.2 S aQ->G.2.length<=i+1->Z X S dM=some (.deferred (some []))->(z.bool true=z.bool true/\(rh X aT dM (j+1) (j+1+1) (dM+2) G.1 G.2 (bn X S (dM+1) (some (mk .ready none))) aQ/\G.2.length<=i+1)/\Z X (bn X S (dM+1) (some (mk .ready none))) dM=some (.deferred (some []))/\Z X (bn X S (dM+1) (some (mk .ready none))) (dM+1)=some (mk .ready none)):=λS aQ G a az M=>
   ⟨rfl,⟨a.ad Zo Zo Zo (Zi _) (λe I M=>aK Zo Zo),az⟩,by rw[aK Zo Zo];exact M,bv Zo⟩
  refine u1 ⟨?_⟩
  refine gQ ?_
  refine gV @cT (bS eX) @fD (bS er) @iF ⟨?_⟩
  generalize iS:bn X _ (bF+1+10) _=ck
  have et:∀e,e<bF+1->Z X ck e=Z X bY e:=λe F=>by rw[<-iS];exact zE
  clear iS iF
  have iE:rh X aT dM (j+1) (j+1+1) (dM+2) bR.1 bR.2 ck (bF+1+13):=hL.ad Zo Zo Zo Zo (λe I M=>et e I)
  rw[<-et _ Zo]at er eV tH
  have Ba:aR X ck (.ptr (j+1+1+1) 0)=some (.ptr (j+1+1) 0):=zJ (et _ Zo) cT
  have ac2:Z X ck (j+1+1)=some (.cells jD 2 .own):=by rw[et _ Zo];exact eX
  cases aD:bR.1 d.name with
  |some avy=>
   have fT:px bR (eS,d)=bR:=by unfold px;rw[Zp (by simp[aD])]
   rw[fT]
   simp only[Z5]
   refine cV ⟨?_⟩
   exact⟨⟨.busy,none,eV⟩,jH _ _ bR (iE.ad Zo Zo Zo Zo (λ_ _ _=>rfl)) Zo tH⟩
  |none=>
   have fT:px bR (eS,d)=(λw=>if w=d.name then some ⟨eS,d, -1, -1⟩else bR.1 w,bR.2++[d.name]):=by unfold px;rw[Zg (by simp[aD])]
   rw[fT]
   simp only[ZX]
   refine hT @Ba (bS ac2) @fD (bS er) ⟨?_⟩
   generalize jZ:bF+1+13+10=N
   obtain⟨cC,uc,Xx,qK⟩:=Ml (j:=N) (show(q X).a6<=j+1 by omega) iE.map d.name (.agg (pI ⟨eS,d, -1, -1⟩))
   refine mc uc ?_
   have VC:aR X cC (.ptr (j+1+1+1) 0)=some (.ptr (j+1+1) 0):=zJ (qK _ Zo) Ba
   have ac3:Z X cC (j+1+1)=some (.cells jD 2 .own):=by rw[qK _ Zo];exact ac2
   rw[<-qK _ Zo]at er eV tH
   refine hT @VC (bS ac3) @hD (bS er) ⟨?_⟩
   generalize tP:bn X cC (N+7) _=dS
   have ajM:Z X dS (N+7)=zC [.str d.name] 1:=by rw[<-tP,bv Zo]
   have ia:∀e,e<N->Z X dS e=Z X cC e:=λe F=>by rw[<-tP];exact zE
   clear tP uc
   obtain⟨eP,dD,iy,j0,aaV,XG,nK⟩:=(nY.ad (S:=dS) (λe F=>by have:=mC e F;rw[ia e Zo,qK e Zo,et e Zo])).append (j:=N+12) Zd (td ajM (pt _) rfl _) rfl Zd rfl Zx Zo (λe F=>zy (mC e F))
   refine mc j0 ?_
   have gf:∀e,e<N->e∉aiI->Z X dD e=Z X cC e:=λe F a=>by rw[nK e Zo a,ia e F]
   have aiz:aR X dD (.ptr (j+1+1+1) 0)=some (.ptr (j+1+1) 0):=zJ (gf _ Zo (λa=>zy (mC _ a))) VC
   have as4:Z X dD (j+1+1)=some (.cells jD 2 .own):=by rw[gf _ Zo (λa=>zy (mC _ a))];exact ac3
   refine cr @aiz ⟨?_⟩
   refine iY (by simp[z.same]) ?_
   obtain⟨fg,hc,vM⟩:=kc.one aaV
   refine gm (sa as4 Zo Zo fg hc) ?_
   refine cV ⟨?_⟩
   generalize vc:bn X dD (j+1+1) _=h2
   have MO:Z X h2 (j+1+1)=some (.cells (jD.set 1 (some eP)) 2 .own):=by rw[<-vc,bv Zo]
   have nd:∀e,e≠j+1+1->Z X h2 e=Z X dD e:=λe F=>by rw[<-vc,aK Zo F]
   clear vc
   have dY:∀e,e<bF+1->(e<dM\/e=dM\/e=dM+1)->e≠j+1+1->e≠j+1->Z X h2 e=Z X ck e:=λe F I M ak=>by
    rw[nd e M,gf e Zo (λa=>zy (mC _ a)),qK e ak]
   refine⟨⟨.busy,none, ?_⟩,jH _ _ (_,bR.2++[d.name]) ⟨Zo, ?_,⟨jD.set 1 (some eP),eP,iy,MO, ?_, ?_, ?_, ?_⟩, ?_⟩ Zx ?_⟩
   ·rw[nd _ Zo,gf _ Zo (λa=>zy (mC _ a))];exact eV
   ·have:(λx=>if x=d.name then some (z.agg (pI ⟨eS,d, -1, -1⟩))else vY bR.1 x)=vY (λw=>if w=d.name then some ⟨eS,d, -1, -1⟩else bR.1 w):=by
     funext x;unfold vY;by_cases a:x=d.name<;>simp[a]
    rw[this]at Xx
    exact Xx.ad (by rw[nd _ Zo,gf _ Zo (λa=>zy (mC _ a))])
   ·rw[R.jF,Zg Zd];exact fD
   ·rw[R.jF,Zp rfl]
   ·rw[Yw]
    exact .inl (aaV.ad λe F=>nd e (by rcases XG e F with rfl|a;omega;have:=mC _ a;omega))
   ·intro e F
    rcases XG e F with rfl|a
    ·omega
    ·have:=mC _ a;omega
   ·intro e I M ak
    rw[dY e Zo (.inl I) ak M];exact iE.low e I M ak
   ·rw[nd _ Zo,gf _ Zo (λa=>zy (mC _ a))];exact tH
 ·intro be bF hg mr
  rw[zi]at hg
  obtain⟨hg,eD⟩:=hg
  change rh X aT dM (j+1) (j+1+1) (dM+2) (ni g).1 (ni g).2 be bF at hg
  change (ni g).2.length<=_ at eD
  have akV:Z X be j=zC [.str g.name, .Z g.at_,c1,dn,bf,ev] 6:=by rw[hg.low _ Zo Zo Zo];exact il
  have lv:=fp.wide
  have e3:=mv.len
  have kL:=mv.many
  rw[lv.1]at e3 kL
  refine dk (bS akV) @e3 ⟨?_⟩
  refine f6 (λm H S aQ=>∃(W:Nat),H.g 3=some (.ptr (j+1+1+1) 0)/\H.g 54=some ev/\H.g 55=some (.Z (g.eqs.length:Int))/\H.g 56=some (.Z (W:Int))/\H.aW=[⟨.collected dM,[]⟩]/\W+m=g.eqs.length
   /\rh X aT dM (j+1) (j+1+1) (dM+2) ((g.eqs.zipIdx.take W).foldl FB (ni g).1) (ni g).2 S aQ/\Z X S dM=some (.deferred (some [])))
   g.eqs.length ⟨0,bC,bC,bC,gC,rfl,Zo,hg,mr⟩ ?_
  rintro m H bU cP ⟨W,t3,mK,pF,o1,k8,bB,pY,Ha⟩
  have je:=pY.le
  cases m with
  |zero=>
   have aH:=zz W g.eqs.length
   have aix:aR X bU (.ptr (j+1+1+1) 0)=some (.ptr (j+1+1) 0):=zJ (pY.low _ Zo Zo Zo) cG
   refine gV @o1 @pF @t3 @aH @aix ⟨?_⟩
   have EG:(g.eqs.zipIdx.take W).foldl FB (ni g).1=f9 g:=by
    rw[ZB Zx];rfl
   rw[EG]at pY
   show oW X [.tmp 2] _ _ _ _ _
   simp only[vU,k8]
   refine⟨by show(q X).a6<=dM;omega,Ha, ?_⟩
   show qo _ _ _ _ _
   unfold qo
   refine cV ⟨?_⟩
   have hL:=pY.ad (aT:=bn X bU dM (some (.deferred none))) Zo Zo Zo (Zi _) (λe I M=>aK Zo Zo)
   obtain⟨c,s,cR,eX,fD,hD,nY,mC⟩:=hL.FT
   obtain⟨b,aj⟩:=nY.MP (P:=ec j cP) (by simp[Mo]at eD ⊢;omega) (λe F=>by have:=mC e F;exact⟨Zo,Zo⟩)
   refine⟨j+1+1,j+1,s,b,rfl,⟨Zo,Zo⟩,⟨Zo,Zo⟩,by rw[bS eX];exact fD,hL.map,by rw[bS eX];exact hD, ?_,Zo,λe F=> ?_⟩
   ·have:g3 (Mo g)=((ni g).2.map z.str).map λv=>[v]:=by unfold g3 Mo;rw[Yk];rfl
    rw[this];exact aj
   ·rw[hL.low e Zo Zo Zo];exact mY.ad e F
  |succ m=>
   have aH:=zA W g.eqs.length
   have bA:=zD W
   obtain⟨al,bJ⟩:=zB g.eqs W
   obtain⟨row,fN,BW⟩:=fp.get W al bJ
   have xn:∀e,P e->Z X bU e=Z X h e:=λe F=>by have:=b1 e F;rw[pY.low e Zo Zo Zo,sW e F]
   have d7:=mv.gZ W (by rw[lv.1];omega)
   have na:=(mv.ad xn).row Zd fN
   obtain⟨xz,AF,dv,dK,hF,rfl,iG,m8,qc,rN⟩:=BW
   have xa:=lA iG.len
   have axh:=lA m8.1.len
   have vu:=iG.len
   have ER:=iG.many
   rw[show(g3 al.left).length=al.left.length from by simp[g3]]at vu ER
   have cK:=yv FB (ni g).1 (Th bJ)
   rw[show(al,W)=(al,W) from rfl]at cK
   generalize amp:(g.eqs.zipIdx.take W).foldl FB (ni g).1=M6 at pY cK
   refine ln @o1 @pF @mK @aH @d7 @na ⟨?_⟩
   refine gm (j8 (o:=4) (b:=cP) (V:=0) (n:=4) (c:=R.ofList [.aV, .aV, .Z 0, .cM] 0 .nil) (bv Zo) Zo rfl Zd Zd rN) ?_
   generalize jr:bn X _ cP _=bY
   have eV:aR X bY (.ptr cP 0)=some xz:=by rw[<-jr,c6,bv Zo];rfl
   have eJ:∀e,e<cP->Z X bY e=Z X bU e:=λe F=>by rw[<-jr];exact zE
   clear jr
   have hL:rh X aT dM (j+1) (j+1+1) (dM+2) M6 (ni g).2 bY (cP+1):=pY.ad Zo Zo Zo Zo (λe I M=>eJ e I)
   rw[<-eJ _ Zo]at Ha
   refine dk @eV @vu ⟨?_⟩
   refine f6 (λeH H S aQ=>∃(i:Nat),H.g 3=some (.ptr (j+1+1+1) 0)/\H.g 54=some ev/\H.g 55=some (.Z (g.eqs.length:Int))/\H.g 56=some (.Z (W:Int))/\H.aW=[⟨.collected dM,[]⟩]/\H.g 8=some (.Z (W:Int))/\H.g 62=some xz/\H.g 63=some (.Z (al.left.length:Int))/\H.g 64=some (.Z (i:Int))/\i+eH=al.left.length
    /\rh X aT dM (j+1) (j+1+1) (dM+2) ((al.left.zipIdx.take i).foldl (ql W) M6) (ni g).2 S aQ/\Z X S dM=some (.deferred (some [])))
    al.left.length ⟨0,aY t3,aY mK,aY pF,aY o1,k8,bC,bC,bC,gC,Zo,hL,Ha⟩ ?_
   rintro eH cN ck dB ⟨i,t3,mK,pF,o1,k8,hH,M5,Jo,FS,aE,iE,rt⟩
   have qL:=iE.le
   cases eH with
   |zero=>
    have aH:=zz i al.left.length
    refine gV @FS @Jo @o1 @aH @bA ⟨?_⟩
    rw[ZB Zx]at iE
    refine⟨m,Zo,W+1,aY t3,aY mK,aY pF,bC,k8,Zo, ?_,rt⟩
    rw[cK]
    exact iE
   |succ eH=>
    have aH:=zA i al.left.length
    have cg:=zD i
    obtain⟨w,bQ⟩:=zB al.left i
    have Fc:∀e,P e->Z X ck e=Z X h e:=λe F=>by have:=b1 e F;rw[iE.low e Zo Zo Zo,sW e F]
    have w3:=iG.gZ i (by simp[g3];omega)
    have j1:=(iG.ad Fc).cell i [.str w] 0 (.str w) (by unfold g3;rw[Zw,bQ];rfl) rfl
    rw[Yc]at w3
    rw[Yc,ZS]at j1
    have qO:=yv (ql W) M6 (Th bQ)
    generalize amo:(al.left.zipIdx.take i).foldl (ql W) M6=n2 at iE qO
    have Ba:aR X ck (.ptr (j+1+1+1) 0)=some (.ptr (j+1+1) 0):=zJ (iE.low _ Zo Zo Zo) cG
    obtain⟨tu,ax6,av6,eX,fD,hD,nY,mC⟩:=iE.FT
    have iF:my X ck 9 (.agg [.Z 0, .str [], .Z 0, .zF, .zF, .Z 0, .str [], .Z 0, .zF, .Z 0, .Z 0]) (.map (j+1)) (.str w) true=some (.tuple [.agg (pI ((n2 w).getD v2)), .bool (n2 w).isSome]):=by
     rw[Cn iE.map];unfold vY;cases n2 w<;>rfl
    generalize B4:(n2 w).getD v2=e0 at iF
    have ui:pI e0=[.Z e0.kind, .str e0.d.name, .Z e0.d.at_, .bool e0.d.ty.b, .bool e0.d.ty.s, .Z e0.d.ty.w, .str e0.d.on, .Z e0.d.fX, .bool e0.d.no, .Z e0.eq, .Z e0.left]:=rfl
    rw[ui]at iF
    refine eQ @FS @Jo @M5 @t3 @aH @w3 (Za @j1 (Za @Ba (Za (bS eX) (Za @fD @iF)))) ⟨?_⟩
    generalize lo:bn X _ dB _=cC
    have eA:Z X cC dB=zC [.Z e0.kind, .str e0.d.name, .Z e0.d.at_, .bool e0.d.ty.b, .bool e0.d.ty.s, .Z e0.d.ty.w, .str e0.d.on, .Z e0.d.fX, .bool e0.d.no, .Z e0.eq, .Z e0.left] 11:=by rw[<-lo,bv Zo];rfl
    have f5:∀e,e<dB->Z X cC e=Z X ck e:=λe F=>by rw[<-lo];exact zE
    clear lo
    have qG:rh X aT dM (j+1) (j+1+1) (dM+2) n2 (ni g).2 cC (dB+1):=iE.ad Zo Zo Zo Zo (λe I M=>f5 e I)
    rw[<-f5 _ Zo]at rt
    cases aD:n2 w with
    |none=>
     have fT:ql W n2 (w,i)=n2:=by unfold ql;simp only[aD]
     simp only[ZX]
     refine dk @FS @cg ⟨?_⟩
     exact⟨eH,Zo,i+1,aY t3,aY mK,aY pF,aY o1,k8,aY hH,aY M5,aY Jo,bC,Zo,by rw[qO,fT];exact qG,rt⟩
    |some v=>
     have apd:v=e0:=by rw[aD]at B4;exact B4
     subst apd
     simp only[Z5]
     by_cases Lz:v.eq<0
     ·have cJ:decide (v.eq<0)=true:=by simp[Lz]
      have fT:ql W n2 (w,i)=λx=>if x=w then some ⟨v.kind,v.d,W,i⟩else n2 x:=by unfold ql;simp only[aD,Lz,ZE]
      refine hT (bS eA) @cJ @hH @FS ⟨?_⟩
      generalize tP:bn X (bn X cC dB _) dB _=dS
      have h4:Z X dS dB=zC [.Z v.kind, .str v.d.name, .Z v.d.at_, .bool v.d.ty.b, .bool v.d.ty.s, .Z v.d.ty.w, .str v.d.on, .Z v.d.fX, .bool v.d.no, .Z W, .Z i] 11:=by rw[<-tP,bv Zo];rfl
      have ia:∀e,e≠dB->Z X dS e=Z X cC e:=λe F=>by rw[<-tP,aK Zo F,aK Zo F]
      clear tP eA
      have kJ:rh X aT dM (j+1) (j+1+1) (dM+2) n2 (ni g).2 dS (dB+1):=⟨qG.le,qG.map.ad (ia _ Zo),by
       obtain⟨c,s,cR,cH,cB,dN,fx,lQ⟩:=iE.FT
       exact⟨c,s,cR,by rw[ia _ Zo,f5 _ Zo];exact cH,cB,dN,fx.ad (λe F=>by have:=lQ e F;rw[ia e Zo,f5 e Zo]),λe F=>zy (lQ e F)⟩,
       λe I M ak=>by rw[ia e Zo];exact qG.low e I M ak⟩
      have aiy:aR X dS (.ptr (j+1+1+1) 0)=some (.ptr (j+1+1) 0):=by rw[c6,ia _ Zo,f5 _ Zo, <-c6];exact Ba
      have as3:Z X dS (j+1+1)=some (.cells tu 2 .own):=by rw[ia _ Zo,f5 _ Zo];exact eX
      refine gV @t3 @aiy (bS as3) @fD (bS h4) ⟨?_⟩
      obtain⟨dD,uc,amj,nK⟩:=Ml (j:=dB+1+7) (show(q X).a6<=j+1 by omega) kJ.map w (.agg (pI ⟨v.kind,v.d,W,i⟩))
      refine mc uc ?_
      refine dk @FS @cg ⟨?_⟩
      refine⟨eH,Zo,i+1,aY t3,aY mK,aY pF,aY o1,k8,aY hH,aY M5,aY Jo,bC,Zo, ?_,by rw[nK _ Zo,ia _ Zo];exact rt⟩
      rw[qO,fT]
      refine⟨Zo, ?_, ?_,λe I M ak=>by rw[nK e M];exact kJ.low e I M ak⟩
      ·have:(λx=>if x=w then some (z.agg (pI ⟨v.kind,v.d,W,i⟩))else vY n2 x)=vY (λx=>if x=w then some ⟨v.kind,v.d,W,i⟩else n2 x):=by
        funext x;unfold vY;by_cases a:x=w<;>simp[a]
       rw[<-this];exact amj
      ·obtain⟨c,s,cR,cH,cB,dN,fx,lQ⟩:=kJ.FT
       exact⟨c,s,cR,by rw[nK _ Zo];exact cH,cB,dN,fx.ad (λe F=>by have:=lQ e F;exact nK e Zo),λe F=>zy (lQ e F)⟩
     ·have cJ:decide (v.eq<0)=false:=by simp[Lz]
      have fT:ql W n2 (w,i)=n2:=by unfold ql;simp only[aD,Lz,ZD]
      refine hT (bS eA) @cJ @FS @cg ⟨?_⟩
      exact⟨eH,Zo,i+1,aY t3,aY mK,aY pF,aY o1,k8,aY hH,aY M5,aY Jo,bC,Zo,by rw[qO,fT];exact qG,rt⟩
end
end
end Go.Proofs.YtbbkkkpgjaopkaaGreatDoor

namespace Go.aS
structure ik where
 N:bc->Prop
 DI:hS->Prop
 L:hS->Int->Prop
 a6:∀s,N s->s≠[]
 dA:DI ⟨true,false,1⟩
 fw:L ⟨true,false,1⟩ 0
 ea:L ⟨true,false,1⟩ 1
 lt:∀t n,L t n->DI t
 A:Int->Prop
 a0:A 0
structure A4(bu:ik)(x:Tok):Prop where
 name:x.kind=1->bu.N x.text
 type:x.kind=3->bu.DI x.ty
 num:x.kind=4->0<=x.n
 lit:x.kind=5->bu.L x.ty x.n
 pos:x.kind≠7->bu.A x.at_
def gz(bu:ik)(k:List Tok):Prop:=∀x∈k,A4 bu x
def gz.mL{bu:ik}{x:Tok}{k:List Tok}(a:gz bu (x::k)):gz bu k:=λe F=>a e (Zt _ F)
def gz.aI{bu:ik}{x:Tok}{k:List Tok}(a:gz bu (x::k)):A4 bu x:=a x (Zv ..)
def sl(o:Int):Option Nat:=if o=25 then none else if o=1\/o=2 then some 0 else if o=3\/o=4\/o=5\/o=6\/o=19\/o=20\/o=26 then some 1 else if o=23 then some 3 else some 2
def rA(o:Int):Prop:=o=2\/o=6\/o=24\/o=25
def sG(o:Int):Prop:=o=1\/o=26
structure Gl(bu:ik)(B:bx):Prop where
 ap:bu.A B.at_
 bM:1<=B.kind
 cq:B.kind<=26
 DP:∀m,sl B.kind=some m->B.args.length=m
 nm:rA B.kind->bu.N B.name
 Fw:¬rA B.kind->B.name=[]
 no:B.no=true->B.kind=6
 ty:sG B.kind->bu.DI B.ty
 dw:¬sG B.kind->B.ty=dw
 RY:B.kind=1->bu.L B.ty B.n
 lB:B.kind=19\/B.kind=20->0<=B.n/\B.n<=63
 a6:B.kind≠1->B.kind≠19->B.kind≠20->B.n=0
 mX:B.kind=21->∃k r,B.args=[k,r]/\(k.kind=1\/k.kind=4/\∃x,k.args=[x]/\x.kind=1)
mutual
def eM(bu:ik):bx->Prop
 | .mk o D nm no ty n args=>Gl bu (.mk o D nm no ty n args)/\fB bu args
def fB(bu:ik):List bx->Prop
 |[]=>True
 |B::k=>eM bu B/\fB bu k
end
def eM.eq{bu:ik}(B:bx):eM bu B=(Gl bu B/\fB bu B.args):=by cases B;rw[eM];rfl
def fB.cons{bu:ik}{B:bx}{k:List bx}(a:eM bu B)(o:fB bu k):fB bu (B::k):=by rw[fB];exact⟨a,o⟩
def fB.nil{bu:ik}:fB bu []:=by rw[fB];trivial
def fB.app{bu:ik}{B:bx}(a:eM bu B):∀{k:List bx},fB bu k->fB bu (k++[B]):=by
 intro k
 induction k with
 |nil=>intro _;exact fB.cons a fB.nil
 |cons D k ah=>intro o;rw[fB]at o;exact fB.cons o.1 (ah o.2)
def dl(bu:ik){α:Type}(bh:α->Prop)(x:fP α):Prop:=∀D b6,x=some (.ok (D,b6))->gz bu b6/\bh D
section
variable{bu:ik}{α d8:Type}
def dl.none{bh:α->Prop}:dl bu bh none:=λ_ _ a=>by cases a
def dl.ok{bh:α->Prop}{D:α}{k:List Tok}(a:gz bu k)(al:bh D):dl bu bh (aS.ok D k):=λfK b6 B=>by cases B;exact⟨a,al⟩
def dl.bad{bh:α->Prop}(D:Int):dl bu bh (aS.bad D:fP α):=λfK b6 B=>by cases B
def dl.andThen{bh:α->Prop}{qy:d8->Prop}{x:fP α}{f:α->List Tok->fP d8}(a:dl bu bh x)(o:∀D b6,gz bu b6->bh D->dl bu qy (f D b6)):dl bu qy (aS.andThen x f):=by
 unfold aS.andThen
 split
 ·exact dl.none
 ·exact λ_ _ B=>by cases B
 ·rename_i D k
  obtain⟨I,M⟩:=a D k rfl
  exact o D k I M
def A4.gI{x:Tok}{s:bc}(a:A4 bu x)(aD:gI x s=true):bu.A x.at_:=a.pos λB=>by simp[aS.gI,B]at aD
def np{s:bc}{k:List Tok}(a:gz bu k):dl bu (λx:Tok=>bu.A x.at_) (ed s k):=by
 cases k with
 |nil=>exact dl.none
 |cons x k=>
  simp only[ed]
  split
  ·rename_i aD;exact dl.ok a.mL (a.aI.gI aD)
  ·exact dl.bad _
def um{o:Int}{k:List Tok}(a:gz bu k):dl bu (λx:Tok=>A4 bu x/\x.kind=o) (ib o k):=by
 cases k with
 |nil=>exact dl.none
 |cons x k=>
  simp only[ib]
  split
  ·rename_i aD;exact dl.ok a.mL ⟨a.aI,aD⟩
  ·exact dl.bad _
def pH{s:bc}{k:List Tok}{f:Option Tok->List Tok->fP d8}{bh:d8->Prop}(a:gz bu k)(I:∀x b6,bu.A x.at_->gz bu b6->dl bu bh (f (some x) b6))(M:dl bu bh (f none k)):dl bu bh (hO s k f):=by
 cases k with
 |nil=>exact dl.none
 |cons x k=>
  unfold hO lC
  by_cases aD:gI x s=true
  ·simp only[aD,ZE];exact I x k (a.aI.gI aD) a.mL
  ·simp only[aD,ZD];exact M
def J7{k:List Tok}(a:gz bu k):∀(os:List (bc×Int)) B b6,oh os k=some (B,b6)->gz bu b6/\∀x,B=some x->∃V∈os,∃D,bu.A D/\x= .mk V.2 D [] false dw 0 []:=by
 intro os
 induction os with
 |nil=>intro B b6 bl;cases bl;exact⟨a,λx af=>by cases af⟩
 |cons V os ah=>
  obtain⟨s,o⟩:=V
  intro B b6 bl
  cases k with
  |nil=>simp[oh,lC]at bl
  |cons x k=>
   unfold oh lC at bl
   by_cases aD:gI x s=true
   ·simp only[aD,ZE]at bl
    cases bl
    exact⟨a.mL,λe F=>by cases F;exact⟨_,Zv ..,_,a.aI.gI aD,rfl⟩⟩
   ·simp only[aD,ZD]at bl
    obtain⟨I,M⟩:=ah B b6 bl
    exact⟨I,λe F=>by obtain⟨V,bb,D,aC⟩:=M e F;exact⟨V,Zt _ bb,D,aC⟩⟩
def ad9{o D:Int}{x e:bx}(aG:7<=o/\o<=18\/o=22)(af:eM bu x)(F:eM bu e)(aC:bu.A D):eM bu (.mk o D [] false dw 0 [x,e]):=by
 rw[eM.eq]
 refine⟨⟨aC,by simp only[bx.kind];omega,by simp only[bx.kind];omega, ?_, ?_,λ_=>rfl,(λa=>absurd a (by simp[bx.no])), ?_,λ_=>rfl, ?_, ?_,λ_ _ _=>rfl, ?_⟩,fB.cons af (fB.cons F fB.nil)⟩
 ·intro m aX
  have l0:sl o=some m:=aX
  unfold sl at l0
  rw[Zg Zo,Zg Zo,Zg Zo,Zg Zo]at l0
  cases l0;rfl
 ·intro a;simp only[rA,bx.kind]at a;omega
 ·intro a;simp only[sG,bx.kind]at a;omega
 ·intro a;simp only[bx.kind]at a;omega
 ·intro a;simp only[bx.kind]at a;omega
 ·intro a;simp only[bx.kind]at a;omega
def Jv{o D n:Int}{nm:bc}{no:Bool}{ty:hS}{x:bx}(aG:o=3\/o=4\/o=5\/o=6\/o=19\/o=20\/o=26)(jv:o=6->bu.N nm)(gu:o≠6->nm=[]/\no=false)(aZ:o=26->bu.DI ty)(Q3:o≠26->ty=dw)(aL:o=19\/o=20->0<=n/\n<=63)(an4:o≠19->o≠20->n=0)(af:eM bu x)(aC:bu.A D):eM bu (.mk o D nm no ty n [x]):=by
 rw[eM.eq]
 refine⟨⟨aC,by simp only[bx.kind];omega,by simp only[bx.kind];omega, ?_, ?_, ?_, ?_, ?_, ?_, ?_,aL, ?_, ?_⟩,fB.cons af fB.nil⟩
 ·intro m aX
  have l0:sl o=some m:=aX
  unfold sl at l0
  rw[Zg Zo,Zg Zo,Zp aG]at l0
  cases l0;rfl
 ·intro a;simp only[rA,bx.kind]at a;exact jv Zo
 ·intro a;simp only[rA,bx.kind]at a;exact(gu Zo).1
 ·intro a
  by_cases bV:o=6
  ·exact bV
  ·have cu:no=true:=a
   rw[(gu bV).2]at cu;cases cu
 ·intro a;simp only[sG,bx.kind]at a;exact aZ Zo
 ·intro a;simp only[sG,bx.kind]at a;exact Q3 Zo
 ·intro a;simp only[bx.kind]at a;omega
 ·intro I M ak;exact an4 M ak
 ·intro a;simp only[bx.kind]at a;omega
def ad7{D n:Int}{ty:hS}(a:bu.L ty n)(aC:bu.A D):eM bu (.mk 1 D [] false ty n []):=by
 rw[eM.eq]
 exact⟨⟨aC,by simp[bx.kind],by simp[bx.kind],λm aX=>by simp[sl,bx.kind]at aX;simp[bx.args, <-aX],λa=>by simp[rA,bx.kind]at a,λ_=>rfl,(λa=>absurd a (by simp[bx.no])),λ_=>bu.lt _ _ a,λa=>by simp[sG,bx.kind]at a,λ_=>a,λa=>by simp[bx.kind]at a,λa=>by simp[bx.kind]at a,λa=>by simp[bx.kind]at a⟩,fB.nil⟩
def avL{D:Int}{nm:bc}(a:bu.N nm)(aC:bu.A D):eM bu (.mk 2 D nm false dw 0 []):=by
 rw[eM.eq]
 exact⟨⟨aC,by simp[bx.kind],by simp[bx.kind],λm aX=>by simp[sl,bx.kind]at aX;simp[bx.args, <-aX],λ_=>a,λa=>by simp[rA,bx.kind]at a,(λa=>absurd a (by simp[bx.no])),λa=>by simp[sG,bx.kind]at a,λ_=>rfl,λa=>by simp[bx.kind]at a,λa=>by simp[bx.kind]at a,λ_ _ _=>rfl,λa=>by simp[bx.kind]at a⟩,fB.nil⟩
def avH{D:Int}{nm:bc}{cf:List bx}(a:bu.N nm)(o:fB bu cf)(aC:bu.A D):eM bu (.mk 25 D nm false dw 0 cf):=by
 rw[eM.eq]
 exact⟨⟨aC,by simp[bx.kind],by simp[bx.kind],λm aX=>by simp[sl,bx.kind]at aX,λ_=>a,λa=>by simp[rA,bx.kind]at a,(λa=>absurd a (by simp[bx.no])),λa=>by simp[sG,bx.kind]at a,λ_=>rfl,λa=>by simp[bx.kind]at a,λa=>by simp[bx.kind]at a,λ_ _ _=>rfl,λa=>by simp[bx.kind]at a⟩,o⟩
def avJ{D:Int}{x e br:bx}(af:eM bu x)(F:eM bu e)(ce:eM bu br)(aC:bu.A D):eM bu (.mk 23 D [] false dw 0 [x,e,br]):=by
 rw[eM.eq]
 exact⟨⟨aC,by simp[bx.kind],by simp[bx.kind],λm aX=>by simp[sl,bx.kind]at aX;simp[bx.args, <-aX],λa=>by simp[rA,bx.kind]at a,λ_=>rfl,(λa=>absurd a (by simp[bx.no])),λa=>by simp[sG,bx.kind]at a,λ_=>rfl,λa=>by simp[bx.kind]at a,λa=>by simp[bx.kind]at a,λ_ _ _=>rfl,λa=>by simp[bx.kind]at a⟩,fB.cons af (fB.cons F (fB.cons ce fB.nil))⟩
def avK{D:Int}{nm:bc}{x e:bx}(a:bu.N nm)(af:eM bu x)(F:eM bu e)(aC:bu.A D):eM bu (.mk 24 D nm false dw 0 [x,e]):=by
 rw[eM.eq]
 exact⟨⟨aC,by simp[bx.kind],by simp[bx.kind],λm aX=>by simp[sl,bx.kind]at aX;simp[bx.args, <-aX],λ_=>a,λa=>by simp[rA,bx.kind]at a,(λa=>absurd a (by simp[bx.no])),λa=>by simp[sG,bx.kind]at a,λ_=>rfl,λa=>by simp[bx.kind]at a,λa=>by simp[bx.kind]at a,λ_ _ _=>rfl,λa=>by simp[bx.kind]at a⟩,fB.cons af (fB.cons F fB.nil)⟩
def avI{D:Int}{x e:bx}(a:s0 x=some true)(af:eM bu x)(F:eM bu e)(aC:bu.A D):eM bu (.mk 21 D [] false dw 0 [x,e]):=by
 rw[eM.eq]
 refine⟨⟨aC,by simp[bx.kind],by simp[bx.kind],λm aX=>by simp[sl,bx.kind]at aX;simp[bx.args, <-aX],λa=>by simp[rA,bx.kind]at a,λ_=>rfl,(λa=>absurd a (by simp[bx.no])),λa=>by simp[sG,bx.kind]at a,λ_=>rfl,λa=>by simp[bx.kind]at a,λa=>by simp[bx.kind]at a,λ_ _ _=>rfl,λ_=>⟨x,e,rfl, ?_⟩⟩,fB.cons af (fB.cons F fB.nil)⟩
 unfold s0 at a
 split at a
 ·rename_i I;exact .inl I
 ·split at a
  ·rename_i I aA
   refine .inr ⟨aA, ?_⟩
   have qe:=af
   rw[eM.eq]at qe
   have az:=qe.1.DP 1 (by rw[aA];rfl)
   cases aC:x.args with
   |nil=>rw[aC]at az;cases az
   |cons b k=>
    rw[aC]at az a
    cases k with
    |nil=>exact⟨b,rfl,by simpa using a⟩
    |cons c k=>simp at az
  ·cases a
def asd:∀(o:Nat) (V:bc×Int),V∈ao o->7<=V.2/\V.2<=18:=by
 intro o V a
 match o with
 |0=>simp[ao]at a;rcases a with rfl|rfl<;>decide
 |1=>simp[ao]at a;subst a;decide
 |2=>simp[ao]at a;rcases a with rfl|rfl|rfl|rfl|rfl|rfl<;>decide
 |3=>simp[ao]at a;rcases a with rfl|rfl<;>decide
 |4=>simp[ao]at a;subst a;decide
 |n+5=>simp[ao]at a
def asI(V:bc×Int)(a:V∈xy):V.2=3\/V.2=4\/V.2=5:=by
 simp[xy]at a;rcases a with rfl|rfl|rfl<;>simp
end
structure aen(bu:ik)(n:Nat):Prop where
 level:∀o k,gz bu k->dl bu (eM bu) (level n o k)
 oP:∀o B k,gz bu k->eM bu B->dl bu (eM bu) (oP n o B k)
 shift:∀k,gz bu k->dl bu (eM bu) (shift n k)
 oZ:∀B k,gz bu k->eM bu B->dl bu (eM bu) (oZ n B k)
 o0:∀o x B k,o=19\/o=20->bu.A x.at_->gz bu k->eM bu B->dl bu (eM bu) (o0 n o x B k)
 s9:∀k,gz bu k->dl bu (eM bu) (vO n k)
 mN:∀B k,gz bu k->eM bu B->dl bu (eM bu) (mN n B k)
 part:∀k,gz bu k->dl bu (eM bu) (part n k)
 list:∀k,gz bu k->dl bu (fB bu) (list n k)
 oQ:∀cf k,gz bu k->fB bu cf->dl bu (fB bu) (oQ n cf k)
 lm:∀k,gz bu k->dl bu (eM bu) (lm n k)
 arrow:∀k,gz bu k->dl bu (eM bu) (arrow n k)
def ah9(bu:ik):∀n,aen bu n:=by
 intro n
 induction n with
 |zero=>constructor<;>intros<;>exact dl.none
 |succ n ah=>
  constructor
  case level=>
   intro o k az
   rw[level]
   split
   ·exact ah.shift k az
   ·exact(ah.level (o+1) k az).andThen λB b6 I M=>ah.oP o B b6 I M
  case oP=>
   intro o B k az bl
   rw[oP]
   split
   ·exact dl.none
   ·rename_i b6 aj
    exact dl.ok (J7 az _ _ _ aj).1 bl
   ·rename_i x b6 aj
    obtain⟨I,M⟩:=J7 az _ _ _ aj
    obtain⟨V,bb,D,aC,rfl⟩:=M _ rfl
    have aG:=asd _ _ bb
    refine(ah.level (o+1) b6 I).andThen λr c4 bM cq=> ?_
    have aZ:eM bu (two (.mk V.2 D [] false dw 0 []) B r):=ad9 (o:=V.2) (.inl aG) bl cq aC
    split
    ·exact dl.ok bM aZ
    ·exact ah.oP o _ c4 bM aZ
  case shift=>
   intro k az
   rw[shift]
   exact(ah.s9 k az).andThen λB b6 I M=>ah.oZ B b6 I M
  case oZ=>
   intro B k az bl
   rw[oZ]
   refine pH az (λx b6 aC I=>ah.o0 19 x B b6 (.inl rfl) aC I bl) ?_
   exact pH az (λx b6 aC I=>ah.o0 20 x B b6 (.inr rfl) aC I bl) (dl.ok az bl)
  case o0=>
   intro o x B k aG aC az bl
   rw[o0]
   refine(um az).andThen λm b6 I M=> ?_
   split
   ·exact dl.bad _
   ·rename_i awm
    have a2:=M.1.num M.2
    exact ah.oZ _ b6 I (Jv Zo (λa=>Zo) (λ_=>⟨rfl,rfl⟩) (λa=>Zo) (λ_=>rfl) (λ_=>⟨a2,Zo⟩) (λI M=>Zo) bl aC)
  case s9=>
   intro k az
   rw[vO]
   split
   ·exact dl.none
   ·rename_i x b6 aj
    obtain⟨I,M⟩:=J7 az _ _ _ aj
    obtain⟨V,bb,D,aC,rfl⟩:=M _ rfl
    have aG:=asI _ bb
    refine(ah.s9 b6 I).andThen λB c4 bM cq=>dl.ok bM ?_
    exact Jv (o:=V.2) Zo (λa=>Zo) (λ_=>⟨rfl,rfl⟩) (λa=>Zo) (λ_=>rfl) (λa=>Zo) (λ_ _=>rfl) cq aC
   ·rename_i b6 aj
    exact(ah.part b6 (J7 az _ _ _ aj).1).andThen λB c4 bM cq=>ah.mN B c4 bM cq
  case mN=>
   intro B k az bl
   rw[mN]
   refine pH az (λx b6 aC I=> ?_) (dl.ok az bl)
   refine pH I (λe c4 _ bM=> ?_) ?_
   ·refine(um bM).andThen λm eT d4 fk=> ?_
    exact ah.mN _ eT d4 (Jv Zo (λ_=>fk.1.name fk.2) (λa=>absurd rfl a) (λa=>Zo) (λ_=>rfl) (λa=>Zo) (λ_ _=>rfl) bl aC)
   ·refine(um I).andThen λm eT d4 fk=> ?_
    exact ah.mN _ eT d4 (Jv Zo (λ_=>fk.1.name fk.2) (λa=>absurd rfl a) (λa=>Zo) (λ_=>rfl) (λa=>Zo) (λ_ _=>rfl) bl aC)
  case list=>
   intro k az
   rw[list]
   refine pH az (λx b6 _ I=>dl.ok I fB.nil) ?_
   exact(ah.arrow k az).andThen λB c4 bM cq=>ah.oQ _ c4 bM (fB.cons cq fB.nil)
  case oQ=>
   intro cf k az aC
   rw[oQ]
   refine pH az (λx b6 _ I=> ?_) ?_
   ·exact(ah.arrow b6 I).andThen λB c4 bM cq=>ah.oQ _ c4 bM (fB.app cq aC)
   ·exact(np az).andThen λ_ b6 I _=>dl.ok I aC
  case lm=>
   intro k az
   rw[lm]
   refine(ah.level 0 k az).andThen λB c4 bM cq=> ?_
   refine pH bM (λx b6 aC I=> ?_) (dl.ok bM cq)
   simp only[]
   split
   ·exact dl.none
   ·rename_i sL
    exact(ah.lm b6 I).andThen λr eT d4 fk=>dl.ok d4 (avI sL cq fk aC)
   ·exact dl.bad _
  case arrow=>
   intro k az
   rw[arrow]
   refine(ah.lm k az).andThen λB c4 bM cq=> ?_
   refine pH bM (λx b6 aC I=> ?_) (dl.ok bM cq)
   exact(ah.arrow b6 I).andThen λr eT d4 fk=>dl.ok d4 (ad9 (.inr rfl) cq fk aC)
  case part=>
   intro k az
   cases k with
   |nil=>rw[part];exact dl.none
   |cons x k=>
   have af:=az.aI
   have gY:=az.mL
   rw[part]
   by_cases jD:x.kind=5
   ·rw[Zp jD]
    exact dl.ok gY (ad7 (af.lit jD) (af.pos (by rw[jD];decide)))
   rw[Zg jD]
   split
   ·rename_i M
    refine dl.ok gY (ad7 ?_ (af.pos λB=>by simp[B]at M))
    split
    ·exact bu.ea
    ·exact bu.fw
   by_cases dv:x.kind=1
   ·rw[Zp dv]
    refine pH gY (λe c4 _ I=> ?_) (dl.ok gY (avL (af.name dv) (af.pos (by rw[dv];decide))))
    exact(ah.list c4 I).andThen λcf eT d4 fk=>dl.ok d4 (avH (af.name dv) fk (af.pos (by rw[dv];decide)))
   rw[Zg dv]
   by_cases gM:x.kind=3
   ·rw[Zp gM]
    refine(np gY).andThen λ_ c4 I _=> ?_
    refine(ah.arrow c4 I).andThen λB eT d4 fk=> ?_
    refine(np d4).andThen λ_ gE fg _=> ?_
    exact dl.ok fg (Jv Zo (λa=>Zo) (λ_=>⟨rfl,rfl⟩) (λ_=>af.type gM) (λa=>absurd rfl a) (λa=>Zo) (λ_ _=>rfl) fk (af.pos (by rw[gM];decide)))
   rw[Zg gM]
   split
   ·refine(ah.arrow k gY).andThen λB eT d4 fk=> ?_
    refine(np d4).andThen λ_ gE fg _=> ?_
    exact dl.ok fg fk
   split
   ·rename_i M
    refine(ah.arrow k gY).andThen λB eT d4 fk=> ?_
    refine(np d4).andThen λ_ gE fg _=> ?_
    refine(ah.arrow gE fg).andThen λcg gg cH cB=> ?_
    refine(np cH).andThen λ_ l4 eX _=> ?_
    refine(ah.arrow l4 eX).andThen λeN lJ iX k5=> ?_
    exact dl.ok iX (avJ fk cB k5 (af.pos λB=>by simp[B]at M))
   split
   ·rename_i M
    refine(um gY).andThen λc c4 I ay=> ?_
    refine(ah.part c4 I).andThen λB eT d4 fk=> ?_
    refine(ah.part eT d4).andThen λcg gE fg hc=> ?_
    exact dl.ok fg (avK (ay.1.name ay.2) fk hc (af.pos λB=>by simp[B]at M))
   ·exact dl.bad _
structure mi(bu:ik)(d:ep):Prop where
 name:bu.N d.name
 type:bu.DI d.ty
 on:d.on≠[]->bu.N d.on
 no:d.on=[]->d.no=false
 ap:bu.A d.at_
 op:bu.A d.fX
structure Gf(bu:ik)(al:eL):Prop where
 left:∀s∈al.left,bu.N s
 some:al.left≠[]
 right:eM bu al.right
 ap:bu.A al.at_
 aq0:∀D∈al.cS,bu.A D
structure ml(bu:ik)(g:Node):Prop where
 name:bu.N g.name
 eh:∀d∈g.eh,mi bu d
 out:∀d∈g.out,mi bu d
 loc:∀d∈g.loc,mi bu d
 some:g.out≠[]
 eqs:∀al∈g.eqs,Gf bu al
 ap:bu.A g.at_
def we(bu:ik)(b9:List Tok):Prop:=∀x∈b9,bu.N x.text/\bu.A x.at_
def we.app{bu:ik}{x:Tok}{b9:List Tok}(a:we bu b9)(af:bu.N x.text/\bu.A x.at_):we bu (b9++[x]):=by
 intro e F
 rcases Zy.1 F with F|F
 ·exact a e F
 ·simp at F;subst F;exact af
def ach{bu:ik}:∀(n:Nat) (cf k:List Tok),gz bu k->we bu cf->dl bu (λb9=>we bu b9/\b9≠[]) (qS n cf k):=by
 intro n
 induction n with
 |zero=>intro cf k _ _;rw[qS];exact dl.none
 |succ n ah=>
  intro cf k az aC
  rw[qS]
  refine(um az).andThen λx b6 I af=> ?_
  have aL:=aC.app ⟨af.1.name af.2,af.1.pos (by rw[af.2];decide)⟩
  refine pH I (λe c4 _ M=>ah _ c4 M aL) (dl.ok I ⟨aL,Zs⟩)
def Wb{bu:ik}{w:Option Tok}{k:List Tok}(az:gz bu k):dl bu (λr:bc×Int×Bool=>((r.1≠[]->bu.N r.1)/\(r.1=[]->r.2.2=false))/\bu.A r.2.1) (yn w k):=by
 unfold yn
 split
 ·exact dl.ok az ⟨⟨λa=>absurd rfl a,λ_=>rfl⟩,bu.a0⟩
 ·refine pH az (λe c4 _ M=> ?_) ?_
  ·exact(um M).andThen λx b6 I af=>dl.ok I ⟨⟨λ_=>af.1.name af.2,λa=>absurd a (bu.a6 _ (af.1.name af.2))⟩,af.1.pos (by rw[af.2];decide)⟩
  ·exact(um az).andThen λx b6 I af=>dl.ok I ⟨⟨λ_=>af.1.name af.2,λa=>absurd a (bu.a6 _ (af.1.name af.2))⟩,af.1.pos (by rw[af.2];decide)⟩
def gz.drop{bu:ik}{k:List Tok}(a:gz bu k)(n:Nat):gz bu (k.drop n):=λx af=>a x (zb af)
def V9{bu:ik}{loc:Bool}{o:List ep->List Tok->fP (List ep)}{bh:List ep->Prop}{ds:List ep}{k:List Tok}(az:gz bu k)(bJ:bh ds)(aG:∀b6,gz bu b6->dl bu bh (o ds b6)):dl bu bh (wy loc o ds k):=by
 unfold wy
 split
 ·exact dl.none
 ·split
  ·split
   ·split
    ·exact dl.none
    ·split
     ·exact dl.ok az bJ
     ·exact aG _ (az.drop 1)
   ·exact aG _ (az.drop 1)
  ·exact dl.ok az bJ
def OC{bu:ik}{loc:Bool}:∀(n:Nat) (ds:List ep) (k:List Tok),gz bu k->(∀d∈ds,mi bu d)->dl bu (λds=>(∀d∈ds,mi bu d)/\ds≠[]) (iA n loc ds k):=by
 intro n
 induction n with
 |zero=>intro ds k _ _;rw[iA];exact dl.none
 |succ n ah=>
  intro ds k az aI
  rw[iA]
  refine(ach n [] k az (λ_ a=>by cases a)).andThen λb9 b6 I af=> ?_
  unfold Bh
  refine(np I).andThen λ_ c4 M _=> ?_
  refine(um M).andThen λt eT ak aZ=> ?_
  have p1:∀r:bc×Int×Bool,((r.1≠[]->bu.N r.1)/\(r.1=[]->r.2.2=false))/\bu.A r.2.1->∀d∈ds++b9.map (pf t.ty r.1 r.2.1 r.2.2),mi bu d:=by
   intro r U d amO
   rcases Zy.1 amO with a|a
   ·exact aI d a
   ·obtain⟨x,E2,rfl⟩:=ZK.1 a
    exact⟨(af.1 x E2).1,aZ.1.type aZ.2,U.1.1,U.1.2,(af.1 x E2).2,U.2⟩
  refine pH ak (λw gE _ aA=> ?_) ?_
  ·refine(Wb aA).andThen λr gg bq U=> ?_
   exact V9 bq ⟨p1 r U,by simp[af.2]⟩ (λb6 a=>ah _ b6 a (p1 r U))
  ·refine(Wb ak).andThen λr gg bq U=> ?_
   exact V9 bq ⟨p1 r U,by simp[af.2]⟩ (λb6 a=>ah _ b6 a (p1 r U))
def ake{bu:ik}(n:Nat){k:List Tok}(az:gz bu k):dl bu (Gf bu) (tC n k):=by
 have BZ:∀(b9:List Tok) (k:List Tok),gz bu k->we bu b9/\b9≠[]->dl bu (Gf bu) (andThen (ed [61] k) λB k=>andThen (arrow n k) λr k=>andThen (ed [59] k) λ_ k=>ok ⟨b9.map Tok.text,b9.map Tok.at_,B.at_,r⟩ k):=by
  intro b9 k az af
  refine(np az).andThen λB c4 M amT=> ?_
  refine((ah9 bu n).arrow c4 M).andThen λr eT ak U=> ?_
  refine(np ak).andThen λ_ gE aA _=>dl.ok aA ⟨?_,by simp[af.2],U,amT, ?_⟩
  ·intro s aD
   obtain⟨x,E2,rfl⟩:=ZK.1 aD
   exact(af.1 x E2).1
  ·intro s aD
   obtain⟨x,E2,rfl⟩:=ZK.1 aD
   exact(af.1 x E2).2
 have qa:∀x:Tok,A4 bu x/\x.kind=1->we bu [x]:=λx af e F=>by simp at F;subst F;exact⟨af.1.name af.2,af.1.pos (by rw[af.2];decide)⟩
 unfold tC
 refine pH az (λe c4 _ M=> ?_) ?_
 ·refine dl.andThen (bh:=λb9=>we bu b9/\b9≠[]) ?_ BZ
  refine(um M).andThen λx eT ak af=> ?_
  refine(np ak).andThen λ_ gE aA _=> ?_
  refine(ach n [x] gE aA (qa x af)).andThen λb9 gg bq y3=> ?_
  exact(np bq).andThen λ_ l4 bV _=>dl.ok bV y3
 ·refine dl.andThen (bh:=λb9=>we bu b9/\b9≠[]) ?_ BZ
  exact(um az).andThen λx eT ak af=>dl.ok ak ⟨qa x af,Zs⟩
def akj{bu:ik}:∀(n:Nat) (b8:List eL) (k:List Tok),gz bu k->(∀al∈b8,Gf bu al)->dl bu (λb8=>∀al∈b8,Gf bu al) (ll n b8 k):=by
 intro n
 induction n with
 |zero=>intro b8 k _ _;rw[ll];exact dl.none
 |succ n ah=>
  intro b8 k az bJ
  rw[ll]
  refine pH az (λe c4 _ M=>dl.ok M bJ) ?_
  refine(ake n az).andThen λal c4 M yV=>ah _ c4 M ?_
  intro mb a
  rcases Zy.1 a with a|a
  ·exact bJ mb a
  ·simp at a;subst a;exact yV
def arP{bu:ik}(n:Nat){k:List Tok}(az:gz bu k):dl bu (ml bu) (node n k):=by
 unfold node
 refine(np az).andThen λ_ k I _=> ?_
 refine(um I).andThen λx k M af=> ?_
 refine(np M).andThen λ_ k ak _=> ?_
 have BZ:∀(eh:List ep) (k:List Tok),gz bu k->(∀d∈eh,mi bu d)->dl bu (ml bu) (andThen (ed [114,101,116,117,114,110,115] k) λ_ k=>andThen (ed [40] k) λ_ k=>andThen (iA n false [] k) λout k=>andThen (ed [41] k) λ_ k=>
  hO [118,97,114] k λe k=>andThen (match e with
   |some _=>andThen (iA n true [] k) λds k=>andThen (ed [59] k) λ_ k=>ok ds k
   |none=>ok [] k) λloc k=>
  andThen (ed [108,101,116] k) λ_ k=>andThen (ll n [] k) λb8 k=>ok ⟨x.text,x.at_,eh,out,loc,b8⟩ k):=by
  intro eh k az aE
  refine(np az).andThen λ_ k I _=> ?_
  refine(np I).andThen λ_ k M _=> ?_
  refine(OC n [] k M (λ_ a=>by cases a)).andThen λout k ak bb=> ?_
  refine(np ak).andThen λ_ k aA _=> ?_
  have aaa:∀(loc:List ep) (k:List Tok),gz bu k->(∀d∈loc,mi bu d)->dl bu (ml bu) (andThen (ed [108,101,116] k) λ_ k=>andThen (ll n [] k) λb8 k=>ok ⟨x.text,x.at_,eh,out,loc,b8⟩ k):=by
   intro loc k az anL
   refine(np az).andThen λ_ k bq _=> ?_
   exact(akj n [] k bq (λ_ a=>by cases a)).andThen λb8 k bV yW=>dl.ok bV ⟨af.1.name af.2,aE,bb.1,anL,bb.2,yW,af.1.pos (by rw[af.2];decide)⟩
  refine pH aA (λe c4 _ bq=> ?_) ?_
  ·refine dl.andThen (bh:=λds=>∀d∈ds,mi bu d) ?_ aaa
   refine(OC n [] c4 bq (λ_ a=>by cases a)).andThen λds k bV wY=> ?_
   exact(np bV).andThen λ_ k c2 _=>dl.ok c2 wY.1
  ·exact dl.andThen (bh:=λds=>∀d∈ds,mi bu d) (dl.ok aA (λ_ a=>by cases a)) aaa
 refine pH ak (λe c4 _ aA=> ?_) ?_
 ·exact dl.andThen (bh:=λds=>∀d∈ds,mi bu d) (dl.ok aA (λ_ a=>by cases a)) BZ
 ·refine dl.andThen (bh:=λds=>∀d∈ds,mi bu d) ?_ BZ
  refine(OC n [] _ ak (λ_ a=>by cases a)).andThen λds k bV wY=> ?_
  exact(np bV).andThen λ_ k c2 _=>dl.ok c2 wY.1
def arR{bu:ik}:∀(n:Nat) (ax:List Node) (k:List Tok),gz bu k->(∀g∈ax,ml bu g)->dl bu (λax=>(∀g∈ax,ml bu g)/\ax≠[]) (nodes n ax k):=by
 intro n
 induction n with
 |zero=>intro ax k _ _;rw[nodes];exact dl.none
 |succ n ah=>
  intro ax k az bX
  rw[nodes]
  refine(arP n az).andThen λg c4 M ane=> ?_
  have X6:∀O8∈ax++[g],ml bu O8:=by
   intro O8 a
   rcases Zy.1 a with a|a
   ·exact bX O8 a
   ·simp at a;subst a;exact ane
  split
  ·exact dl.none
  ·split
   ·exact dl.ok M ⟨X6,Zs⟩
   ·exact ah _ _ M X6
end Go.aS

namespace Go.Proofs.YtbbkkkpgjaopkaaGreatDoor
open Go.bp Go.aS
noncomputable section
structure wd(s:bc):Prop where
 ne:s≠[]
 len:s.length<=32
 aiD:∀c,s.head?=some c->qf c=true
 all:∀c∈s,ir c=true
 res:s∉ta
 ty:kt s=none
def NI(t:hS)(n:Int):Prop:=km t=true/\ud t n=true/\0<=n/\n<18446744073709551616
def an9:ud ⟨true,false,1⟩ 0=true:=by decide+kernel
def aoa:ud ⟨true,false,1⟩ 1=true:=by decide+kernel
def ij:ik:=⟨wd,λt=>km t=true,NI,λ_ a=>a.ne,rfl,⟨rfl,an9,Zo,Zo⟩,⟨rfl,aoa,Zo,Zo⟩,λ_ _ a=>a.1,λ_=>True,trivial⟩
def yb(n:Nat):ik:={ij with A:=λD=>0<=D/\D<=n,a0:=⟨Int.le_refl 0,Int.natCast_nonneg n⟩}
def au7{
 s:bc}{i:Nat}{x:Tok}(a:vX s i=some x):A4 ij (lf x i):=by
 unfold vX at a
 cases ay:s[i]? with
 |none=>rw[ay]at a;cases a
 |some c=>
  rw[ay]at a
  simp only[]at a
  obtain⟨af,F⟩:=Zb.1 ay
  have aI:s.drop i=c::s.drop (i+1):=by rw[Zz af,F]
  split at a
  ·unfold CD at a
   simp only[]at a
   split at a
   ·cases a
   ·have cO:=acV ((s.drop i).takeWhile h8)
    split at a
    ·cases a
     exact⟨λa=>by simp[lf]at a,λa=>by simp[lf]at a,λ_=>by simp only[lf];omega,λa=>by simp[lf]at a,λ_=>trivial⟩
    ·split at a
     ·rename_i t aZ
      split at a
      ·rename_i gd
       cases a
       simp only[Zn]at gd
       exact⟨λa=>by simp[lf]at a,λa=>by simp[lf]at a,λa=>by simp[lf]at a,λ_=>⟨S5 aZ,gd.2,by simp only[lf];omega,by simp only[lf];omega⟩,λ_=>trivial⟩
      ·cases a
     ·cases a
  ·split at a
   ·rename_i aj
    split at a
    ·rename_i az
     cases a
     have bQ:(s.drop i).takeWhile ir=c::(s.drop (i+1)).takeWhile ir:=by
      rw[aI,YC]
      have:ir c=true:=by simp[ir,aj]
      simp[this]
     refine⟨λa=> ?_,λa=> ?_,λa=> ?_,λa=> ?_,λ_=>trivial⟩
     ·simp only[lf,s3]at a ⊢
      split at a
      ·cases a
      ·rename_i aL
       split at a
       ·cases a
       ·rename_i U
        have gY:((s.drop i).takeWhile ir).length<=32:=by simpa[s3]using az
        refine⟨by rw[bQ];simp,gY, ?_,adD ir _,U,by simpa using aL⟩
        intro gA cu
        rw[bQ]at cu
        cases cu
        exact aj
     ·simp only[lf,s3]at a ⊢
      split at a
      ·rename_i aL
       cases aZ:kt ((s.drop i).takeWhile ir)with
       |none=>rw[aZ]at aL;cases aL
       |some t=>exact S5 aZ
      ·split at a<;>cases a
     ·simp only[lf,s3]at a
      split at a
      ·cases a
      ·split at a<;>cases a
     ·simp only[lf,s3]at a
      split at a
      ·cases a
      ·split at a<;>cases a
    ·cases a
   ·cases aD:uw s i with
    |none=>rw[aD]at a;cases a
    |some p=>
     rw[aD]at a
     cases a
     exact⟨λa=>by simp[lf,CY]at a,λa=>by simp[lf,CY]at a,λa=>by simp[lf,CY]at a,λa=>by simp[lf,CY]at a,λ_=>trivial⟩
def ava{s:bc}:∀(n:Nat) (aN:List Tok) (i:Nat) (mf:List Tok),gz ij aN->qr s n aN i=some (.ok mf)->gz ij mf:=by
 intro n
 induction n with
 |zero=>intro aN i mf _ a;cases a
 |succ n ah=>
  intro aN i mf aZ a
  rw[qr]at a
  split at a
  ·split at a
   ·cases a
   ·rename_i x af
    refine ah _ _ _ ?_ a
    intro e F
    rcases Zy.1 F with F|F
    ·exact aZ e F
    ·simp at F;subst F;exact au7 af
  ·cases a
   intro e F
   rcases Zy.1 F with F|F
   ·exact aZ e F
   ·simp at F;subst F;exact⟨λa=>by simp at a,λa=>by simp at a,λa=>by simp at a,λa=>by simp at a,λ_=>trivial⟩
def au8{s:bc}:∀(n:Nat) (aN:List Tok) (i:Nat) (mf:List Tok),(∀x∈aN,x.kind≠7->0<=x.at_/\x.at_<=s.length)->qr s n aN i=some (.ok mf)->∀x∈mf,x.kind≠7->0<=x.at_/\x.at_<=s.length:=by
 intro n
 induction n with
 |zero=>intro aN i mf _ a;cases a
 |succ n ah=>
  intro aN i mf aZ a
  rw[qr]at a
  split at a
  ·rename_i aE
   split at a
   ·cases a
   ·rename_i x af
    refine ah _ _ _ ?_ a
    intro e F
    rcases Zy.1 F with F|F
    ·exact aZ e F
    ·simp at F;subst F;intro _;simp only[lf];omega
  ·cases a
   intro e F
   rcases Zy.1 F with F|F
   ·exact aZ e F
   ·simp at F;subst F;intro a;exact absurd rfl a
def asw{s:bc}{ax:List Go.aS.Node}(a:Ax s= .ok ax):(∀g∈ax,ml (yb s.length) g)/\ax≠[]/\l5 ax=none:=by
 unfold Ax at a
 split at a
 ·rename_i r U
  subst a
  unfold Ay at U
  split at U
  ·cases U
  ·cases U
  ·rename_i aN aZ
   have ao7:=au8 _ _ _ _ (λ_ a=>by cases a) aZ
   have Q5:gz (yb s.length) aN:=λx af=>by
    obtain⟨I,M,ak,aA,_⟩:=ava _ _ _ _ (λ_ a=>by cases a) aZ x af
    exact⟨I,M,ak,aA,ao7 x af⟩
   split at U
   ·cases U
   ·cases U
   ·rename_i iD k aL
    obtain⟨I,M⟩:=arR (bu:=yb s.length) _ _ _ Q5 (λ_ a=>by cases a) _ _ aL
    split at U
    ·cases U
    ·rename_i az
     cases U
     exact⟨M.1,M.2,az⟩
 ·cases a
def arJ{n:Nat}{B:bx}(a:Gl (yb n) B):Gl ij B:=⟨trivial,a.bM,a.cq,a.DP,a.nm,a.Fw,a.no,a.ty,a.dw,a.RY,a.lB,a.a6,a.mX⟩
mutual
def ad4{n:Nat}:∀{B:bx},eM (yb n) B->eM ij B
 | .mk ..,a=>by rw[eM]at a ⊢;exact⟨arJ a.1,ad5 a.2⟩
def ad5{n:Nat}:∀{k:List bx},fB (yb n) k->fB ij k
 |[],_=>fB.nil
 |_::_,a=>by rw[fB]at a;exact fB.cons (ad4 a.1) (ad5 a.2)
end
def OA{n:Nat}{d:ep}(a:mi (yb n) d):mi ij d:=⟨a.name,a.type,a.on,a.no,trivial,trivial⟩
def arK{n:Nat}{g:Go.aS.Node}(a:ml (yb n) g):ml ij g:=⟨a.name,λd aI=>OA (a.eh d aI),λd aI=>OA (a.out d aI),λd aI=>OA (a.loc d aI),a.some,λal bJ=>⟨(a.eqs al bJ).left,(a.eqs al bJ).some,ad4 (a.eqs al bJ).right,trivial,λ_ _=>trivial⟩,trivial⟩
def asv{s:bc}{ax:List Go.aS.Node}(a:Ax s= .ok ax):(∀g∈ax,ml ij g)/\ax≠[]/\l5 ax=none:=
 have o:=asw a
 ⟨λg bX=>arK (o.1 g bX),o.2⟩
mutual
def I7:bx->List bx
 | .mk o D nm no t n args=> .mk o D nm no t n args::I8 args
def I8:List bx->List bx
 |[]=>[]
 |B::k=>I7 B++I8 k
end
mutual
def adX{ga:Type}(step:ga->bx->ga×Bool)(a:∀s B,(step s B).2=true):∀(B:bx) (s:ga),th step s B=(I7 B).foldl (λs B=>(step s B).1) s
 | .mk o D nm no t n args,s=>by
   rw[th,Zp (a _ _),I7,ZL]
   exact adZ step a args _
def adZ{ga:Type}(step:ga->bx->ga×Bool)(a:∀s B,(step s B).2=true):∀(k:List bx) (s:ga),pL step s k=(I8 k).foldl (λs B=>(step s B).1) s
 |[],s=>by rw[pL,I8];rfl
 |B::k,s=>by
  rw[pL,I8,zs,adX step a B s]
  exact adZ step a k _
end
def nf(al:eL):List (bc×Int):=al.left.zipIdx.map λx=>(x.1,(al.cS[x.2]?).getD 0)
def kP(t:bc->Option fJ)(s:(bc->Option Int)×(Int×Int))(x:bc×Int):(bc->Option Int)×(Int×Int):=(λw=>if w=x.1 then some ((s.1 x.1).getD 0+1)else s.1 w,Ah t s.1 s.2 x.1 x.2)
def jz(t:bc->Option fJ)(ax:List Go.aS.Node)(o:Nat)(s:(bc->Option Int)×(Int×Int))(al:eL):(bc->Option Int)×(Int×Int):=
 (((nf al).foldl (kP t) s).1,Je t ax o ((nf al).foldl (kP t) s).2 al.right)
def o2(Y:bc->Option Int)(f:Int×Int)(x:Int×ep):Int×Int:=if x.1≠1/\(Y x.2.name).getD 0=0 then lW f 37 x.2.at_ else f
def lN(ax:List Go.aS.Node)(o:Nat)(g:Go.aS.Node):Int×Int:=if (pj ax g.name).getD 0<o then lW (0,0) 24 g.at_ else(0,0)
def oT(ax:List Go.aS.Node)(o:Nat)(g:Go.aS.Node):Int×Int:=
 (gq g).foldl (o2 (g.eqs.foldl (jz (f9 g) ax o) (λ_=>none,mq (f9 g) g (lN ax o g))).1) (g.eqs.foldl (jz (f9 g) ax o) (λ_=>none,mq (f9 g) g (lN ax o g))).2
def ss(ax:List Go.aS.Node):Nat->List Go.aS.Node->Int×Int
 |_,[]=>(0,0)
 |o,g::k=>if (oT ax o g).1≠0 then oT ax o g else ss ax (o+1) k
def wv(ax:List Go.aS.Node):Int×Int:=ss ax 0 ax
def Bo(f:Int×Int){c:Int}(D:Int)(ay:c≠0):(lW f c D).1≠0:=by
 unfold lW
 split
 ·exact ay
 ·rename_i a;exact a
def WS{α:Type}(bad:α->Prop)[DecidablePred bad](c D:α->Int)(ay:∀x,c x≠0):∀(k:List α) (f:Int×Int),(k.foldl (λf x=>if bad x then lW f (c x) (D x)else f) f).1=0↔f.1=0/\∀x∈k,¬bad x:=by
 intro k
 induction k with
 |nil=>intro f;simp
 |cons x k ah=>
  intro f
  rw[ZL,ah]
  by_cases aj:bad x
  ·have:=Bo f (D x) (ay x)
   simp[aj,this]
  ·simp[aj]
def acf(g:Go.aS.Node):List bc:=(gq g).map λx=>x.2.name
def ajR{g:Go.aS.Node}{x:Int×ep}(a:x∈gq g):x.1=1/\x.2∈g.eh\/x.1=2/\x.2∈g.out\/x.1=3/\x.2∈g.loc:=by
 simp only[gq,Zy,ZK]at a
 rcases a with ⟨d,a,rfl⟩|⟨d,a,rfl⟩|⟨d,a,rfl⟩<;>simp[a]
def ajJ:∀(k:List (Int×ep)) (s:bc->Option Int) (f:Int×Int),(∀x∈k,0<x.1)->((k.foldl jp (s,f)).2.1=0↔f.1=0/\(k.map λx=>x.2.name).Nodup/\∀x∈k,¬0<(s x.2.name).getD 0):=by
 intro k
 induction k with
 |nil=>intro s f _;simp
 |cons x k ah=>
  intro s f av
  rw[ZL]
  have af:=av x (Zv ..)
  rw[show jp (s,f) x=((jp (s,f) x).1,(jp (s,f) x).2) from rfl,ah _ _ (λe F=>av e (Zt _ F))]
  simp only[jp,ZC,List.nodup_cons,Zq,ZK]
  constructor
  ·rintro⟨I,M,ak⟩
   by_cases aj:0<(s x.2.name).getD 0
   ·rw[Zp aj]at I
    exact absurd I (Bo f _ Zd)
   ·rw[Zg aj]at I
    refine⟨I,⟨?_,M⟩, ?_⟩
    ·rintro⟨e,F,bl⟩
     have:=ak e F
     rw[Zp bl]at this
     exact this (by simpa using af)
    ·rintro e (rfl|F)
     ·exact aj
     ·have:=ak e F
      split at this
      ·exact absurd af (by simpa using this)
      ·exact this
  ·rintro⟨I,⟨M,ak⟩,aA⟩
   have aj:¬0<(s x.2.name).getD 0:=aA x (.inl rfl)
   refine⟨by rw[Zg aj];exact I,ak,λe F=> ?_⟩
   rw[Zg (λB=>M ⟨e,F,B⟩)]
   exact aA e (.inr F)
def Wa{g:Go.aS.Node}{t:bc->Option fJ}{f:Int×Int}:(mq t g f).1=0↔f.1=0/\(acf g).Nodup/\∀x∈gq g,¬(t x.2.on=none/\x.2.on≠[]):=by
 unfold mq
 have M:=WS (λx:Int×ep=>t x.2.on=none/\x.2.on≠[]) (λ_=>23) (λx=>x.2.fX) (λ_=>Zd) (gq g) ((gq g).foldl jp (λ_=>none,f)).2
 have ak:(gq g).foldl (oj t) ((gq g).foldl jp (λ_=>none,f)).2=(gq g).foldl (λf x=>if t x.2.on=none/\x.2.on≠[]then lW f 23 x.2.fX else f) ((gq g).foldl jp (λ_=>none,f)).2:=rfl
 rw[ak,M,ajJ _ _ _ (λx af=>by rcases ajR af with a|a|a<;>omega)]
 simp[acf,and_assoc]
def i2(w:bc)(k:List bc):Int:=((k.filter λx=>decide (x=w)).length:Int)
def GL(w x:bc)(k:List bc):i2 w (x::k)=(if x=w then 1 else 0)+i2 w k:=by
 unfold i2
 rw[List.filter_cons]
 by_cases a:x=w
 ·simp[a];omega
 ·simp[a]
def Kk(w:bc):i2 w []=0:=rfl
def D0(w:bc)(k:List bc):0<=i2 w k:=by unfold i2;omega
def GK(w:bc)(k m:List bc):i2 w (k++m)=i2 w k+i2 w m:=by unfold i2;rw[List.filter_append,ZP];omega
def VX{w:bc}{k:List bc}:0<i2 w k↔w∈k:=by
 induction k with
 |nil=>simp[Kk]
 |cons x k ah=>
  have:=D0 w k
  rw[GL]
  by_cases a:x=w
  ·simp[a];omega
  ·have cu:¬w=x:=λB=>a B.symm
   simp[a,cu,ah]
def RM(t:bc->Option fJ):∀(k:List (bc×Int)) (s:(bc->Option Int)×(Int×Int)) (w:bc),((k.foldl (kP t) s).1 w).getD 0=(s.1 w).getD 0+i2 w (k.map Prod.fst):=by
 intro k
 induction k with
 |nil=>intro s w;simp[Kk]
 |cons x k ah=>
  intro s w
  rw[ZL,ah,ZC,GL]
  simp only[kP]
  by_cases a:w=x.1
  ·subst a;simp;omega
  ·have cu:¬x.1=w:=λB=>a B.symm
   simp[a,cu]
def aq4(t:bc->Option fJ):∀(k:List (bc×Int)) (s:(bc->Option Int)×(Int×Int)),(∀w,0<=(s.1 w).getD 0)->((k.foldl (kP t) s).2.1=0↔s.2.1=0/\∀w∈k.map Prod.fst,∃v,t w=some v/\v.kind≠1/\(s.1 w).getD 0+i2 w (k.map Prod.fst)<=1):=by
 intro k
 induction k with
 |nil=>intro s _;simp
 |cons x k ah=>
  intro s aD
  have uf:∀w,0<=((kP t s x).1 w).getD 0:=by
   intro w
   have:=aD w
   have:=aD x.1
   simp only[kP]
   split
   ·simp;omega
   ·assumption
  rw[ZL,ah _ uf]
  have Im:=aD x.1
  constructor
  ·rintro⟨I,M⟩
   have ak:s.2.1=0/\∃v,t x.1=some v/\v.kind≠1/\(s.1 x.1).getD 0+1<=1:=by
    simp only[kP,Ah]at I
    cases aZ:t x.1 with
    |none=>rw[aZ]at I;exact absurd I (Bo _ _ Zd)
    |some v=>
     rw[aZ]at I
     simp only[]at I
     split at I
     ·exact absurd I (Bo _ _ Zd)
     ·rename_i bJ
      exact⟨I,v,rfl,λB=>bJ (.inl B),by have:¬1<(s.1 x.1).getD 0+1:=λB=>bJ (.inr B);omega⟩
   refine⟨ak.1,λw bQ=> ?_⟩
   rw[ZC,Zq]at bQ
   rw[ZC,GL]
   by_cases y2:w=x.1
   ·subst y2
    obtain⟨v,aA,bq,bV⟩:=ak.2
    refine⟨v,aA,bq, ?_⟩
    by_cases aX:x.1∈k.map Prod.fst
    ·obtain⟨gp,_,_,c2⟩:=M _ aX
     simp only[kP,ZE,YL]at c2 ⊢
     omega
    ·have:¬0<i2 x.1 (k.map Prod.fst):=λB=>aX (VX.1 B)
     have:=D0 x.1 (k.map Prod.fst)
     simp only[ZE]
     omega
   ·rcases bQ with bQ|bQ
    ·exact absurd bQ y2
    ·obtain⟨v,aA,bq,bV⟩:=M _ bQ
     have Rb:¬x.1=w:=λB=>y2 B.symm
     simp only[kP,y2,ZD]at bV
     exact⟨v,aA,bq,by simp only[Rb,ZD];omega⟩
  ·rintro⟨I,M⟩
   obtain⟨v,aA,bq,bV⟩:=M x.1 Zs
   rw[ZC,GL,Zp rfl]at bV
   have ay:=D0 x.1 (k.map Prod.fst)
   refine⟨?_,λw bQ=> ?_⟩
   ·simp only[kP,Ah,aA]
    rw[Zg (by rintro(B|B);exact bq B;omega)]
    exact I
   ·obtain⟨gp,bM,cq,df⟩:=M w (by rw[ZC];exact Zt _ bQ)
    refine⟨gp,bM,cq, ?_⟩
    rw[ZC,GL]at df
    simp only[kP]
    by_cases y2:w=x.1
    ·subst y2;simp only[ZE,YL];simp only[ZE]at df;omega
    ·have Rb:¬x.1=w:=λB=>y2 B.symm
     simp only[y2,ZD];simp only[Rb,ZD]at df;omega
def RE(al:eL):(nf al).map Prod.fst=al.left:=by
 simp only[nf,Yk]
 have:(Prod.fst∘λx:bc×Nat=>(x.1,(al.cS[x.2]?).getD 0))=Prod.fst:=rfl
 rw[this]
 exact List.zipIdx_map_fst ..
def AZ(t:bc->Option fJ)(ax:List Go.aS.Node)(o:Nat)(B:bx):Prop:=∀x∈I7 B,(uq x=true->(t x.name).isSome=true)/\(x.kind=25->∃W,pj ax x.name=some W/\W<o)
def atx{t:bc->Option fJ}{ax:List Go.aS.Node}{o:Nat}{f:Int×Int}{B:bx}:(Je t ax o f B).1=0↔f.1=0/\AZ t ax o B:=by
 unfold Je AZ
 rw[adX _ (λ_ _=>rfl)]
 generalize I7 B=k
 induction k generalizing f with
 |nil=>simp
 |cons x k ah=>
  rw[ZL,ah]
  have I:(pB t ax o f x).1.1=0↔f.1=0/\(uq x=true->(t x.name).isSome=true)/\(x.kind=25->∃W,pj ax x.name=some W/\W<o):=by
   simp only[pB,CT]
   have M:(uv t f x).1=0↔f.1=0/\(uq x=true->(t x.name).isSome=true):=by
    unfold uv
    by_cases a:uq x=true
    ·rw[Zp a]
     by_cases cu:(t x.name).isSome=true
     ·rw[Zp cu];simp[cu]
     ·rw[Zg cu];simp[a,cu,Bo]
    ·rw[Zg a];simp[a]
   by_cases rv:x.kind=25
   ·rw[Zp rv]
    cases ch:pj ax x.name with
    |none=>simp[Bo,rv]
    |some W=>
     simp only[]
     by_cases aG:o<=W
     ·rw[Zp aG]
      have:¬W<o:=Zo
      simp[Bo,rv,this]
     ·rw[Zg aG,M]
      have:W<o:=Zo
      simp[rv,this]
   ·rw[Zg rv,M];simp[rv]
  rw[I]
  simp only[Zq,forall_eq_or_imp,and_assoc]
def as1(t:bc->Option fJ)(ax:List Go.aS.Node)(o:Nat):∀(k:List eL) (s:(bc->Option Int)×(Int×Int)) (w:bc),((k.foldl (jz t ax o) s).1 w).getD 0=(s.1 w).getD 0+i2 w (k.flatMap eL.left):=by
 intro k
 induction k with
 |nil=>intro s w;simp[Kk]
 |cons al k ah=>
  intro s w
  rw[ZL,ah,Yr,GK]
  simp only[jz]
  rw[RM,RE]
  omega
def ac1(t:bc->Option fJ)(ax:List Go.aS.Node)(o:Nat):∀(k:List eL) (s:(bc->Option Int)×(Int×Int)),(∀w,0<=(s.1 w).getD 0)->((k.foldl (jz t ax o) s).2.1=0↔s.2.1=0/\(∀w∈k.flatMap eL.left,∃v,t w=some v/\v.kind≠1/\(s.1 w).getD 0+i2 w (k.flatMap eL.left)<=1)/\∀al∈k,AZ t ax o al.right):=by
 intro k
 induction k with
 |nil=>intro s _;simp
 |cons al k ah=>
  intro s aD
  have uf:∀w,0<=((jz t ax o s al).1 w).getD 0:=by
   intro w
   simp only[jz]
   rw[RM]
   have:=aD w
   have:=D0 w ((nf al).map Prod.fst)
   omega
  rw[ZL,ah _ uf]
  have bA:(jz t ax o s al).2.1=0↔(s.2.1=0/\∀w∈al.left,∃v,t w=some v/\v.kind≠1/\(s.1 w).getD 0+i2 w al.left<=1)/\AZ t ax o al.right:=by
   simp only[jz]
   rw[atx,aq4 t _ _ aD,RE]
  have cg:∀w,((jz t ax o s al).1 w).getD 0=(s.1 w).getD 0+i2 w al.left:=by
   intro w
   simp only[jz]
   rw[RM,RE]
  rw[bA]
  simp only[cg,Yr,GK,Zy,Zq,forall_eq_or_imp]
  constructor
  ·rintro⟨⟨⟨I,M⟩,ak⟩,aA,bq⟩
   refine⟨I,λw bQ=> ?_,ak,bq⟩
   by_cases aX:w∈k.flatMap eL.left
   ·obtain⟨v,bM,cq,df⟩:=aA w aX
    exact⟨v,bM,cq,Zo⟩
   ·have a2:¬0<i2 w (k.flatMap eL.left):=λB=>aX (VX.1 B)
    have:=D0 w (k.flatMap eL.left)
    obtain⟨v,bM,cq,df⟩:=M w (bQ.resolve_right aX)
    exact⟨v,bM,cq,Zo⟩
  ·rintro⟨I,M,ak,aA⟩
   refine⟨⟨⟨I,λw bQ=> ?_⟩,ak⟩,λw bQ=> ?_,aA⟩
   ·obtain⟨v,bM,cq,df⟩:=M w (.inl bQ)
    have:=D0 w (k.flatMap eL.left)
    exact⟨v,bM,cq,Zo⟩
   ·obtain⟨v,bM,cq,df⟩:=M w (.inr bQ)
    exact⟨v,bM,cq,Zo⟩
def avm(Y:bc->Option Int)(k:List (Int×ep))(f:Int×Int):(k.foldl (o2 Y) f).1=0↔f.1=0/\∀x∈k,¬(x.1≠1/\(Y x.2.name).getD 0=0):=
 WS (λx:Int×ep=>x.1≠1/\(Y x.2.name).getD 0=0) (λ_=>37) (λx=>x.2.at_) (λ_=>Zd) k f
def hN(g:Go.aS.Node):Go.aS.Node:=⟨g.name,g.at_,g.eh,g.out,g.loc,g.eqs.reverse⟩
def akA(nm:bc):∀(ax:List Go.aS.Node) (o:Nat),sx nm o (ax.map hN)=sx nm o ax:=by
 intro ax
 induction ax with
 |nil=>intro o;rfl
 |cons g ax ah=>intro o;rw[ZC,sx,sx,ah];rfl
def WL(ax:List Go.aS.Node)(nm:bc):pj (ax.map hN) nm=pj ax nm:=akA nm ax 0
def q0(v:fJ):Int×ep:=(v.kind,v.d)
def asi(o:Nat)(t:bc->Option fJ)(x:bc×Nat)(w:bc):((ql o t x) w).map q0=(t w).map q0:=by
 unfold ql
 cases a:t x.1 with
 |none=>rfl
 |some v=>
  simp only[]
  split
  ·by_cases bQ:w=x.1
   ·subst bQ;simp[a,q0]
   ·simp[bQ]
  ·rfl
def WT{α:Type}(s:(bc->Option fJ)->α->(bc->Option fJ))(aD:∀t x w,(s t x w).map q0=(t w).map q0):∀(k:List α) (t:bc->Option fJ) (w:bc),(k.foldl s t w).map q0=(t w).map q0:=by
 intro k
 induction k with
 |nil=>intro t w;rfl
 |cons D k ah=>intro t w;rw[ZL,ah,aD]
def adC(g:Go.aS.Node)(w:bc):(f9 g w).map q0=((ni g).1 w).map q0:=
 WT _ (λt x w=>WT _ (λt e w=>asi _ _ _ _) _ _ _) _ _ _
def au2(g:Go.aS.Node)(w:bc):(f9 (hN g) w).map q0=(f9 g w).map q0:=by rw[adC,adC];rfl
def x9(t dC:bc->Option fJ):Prop:=∀w,(dC w).map q0=(t w).map q0
section
variable{t dC:bc->Option fJ}
def x9.some(a:x9 t dC)(w:bc):(dC w).isSome=(t w).isSome:=by
 have:=congrArg Option.isSome (a w)
 simpa using this
def x9.RZ(a:x9 t dC)(w:bc):dC w=none↔t w=none:=by
 have:=a.some w
 cases I:t w<;>cases M:dC w<;>simp_all
def x9.kind(a:x9 t dC){w:bc}{v:fJ}(bt:t w=Option.some v):∃gp,dC w=Option.some gp/\gp.kind=v.kind:=by
 have:=a w
 cases M:dC w with
 |none=>rw[bt,M]at this;cases this
 |some gp=>
  rw[bt,M]at this
  simp only[ZR,Ze,q0,YK]at this
  exact⟨gp,rfl,this.1⟩
def AZ.rev{ax:List Go.aS.Node}{o:Nat}{B:bx}(aD:x9 t dC)(a:AZ t ax o B):AZ dC (ax.map hN) o B:=λx af=>by
 obtain⟨I,M⟩:=a x af
 refine⟨λaL=>by rw[aD.some];exact I aL,λaG=> ?_⟩
 rw[WL]
 exact M aG
end
def VY(w:bc):∀k:List eL,i2 w (k.reverse.flatMap eL.left)=i2 w (k.flatMap eL.left):=by
 intro k
 induction k with
 |nil=>rfl
 |cons D k ah=>
  rw[List.reverse_cons,List.flatMap_append,GK,ah,Yr,GK]
  simp only[Yr,List.flatMap_nil,GK,Kk]
  omega
def ark(w:bc)(k:List eL):w∈k.reverse.flatMap eL.left↔w∈k.flatMap eL.left:=by
 simp[List.mem_flatMap]
def arH{ax:List Go.aS.Node}{o:Nat}{g:Go.aS.Node}(a:(oT ax o g).1=0):(oT (ax.map hN) o (hN g)).1=0:=by
 have aD:x9 (f9 g) (f9 (hN g)):=au2 g
 unfold oT at a ⊢
 have aL:lN (ax.map hN) o (hN g)=lN ax o g:=by unfold lN;rw[WL];rfl
 rw[aL]
 rw[avm]at a ⊢
 obtain⟨I,M⟩:=a
 have cH:=(ac1 (f9 g) ax o g.eqs (λ_=>none,mq (f9 g) g (lN ax o g)) (λ_=>Zs)).1 I
 obtain⟨cB,dN,fx⟩:=cH
 have cB:=Wa.1 cB
 refine⟨(ac1 (f9 (hN g)) (ax.map hN) o (hN g).eqs (λ_=>none,mq (f9 (hN g)) (hN g) (lN ax o g)) (λ_=>Zs)).2 ⟨Wa.2 ⟨cB.1,cB.2.1,λx af=> ?_⟩,λw bQ=> ?_,λal bJ=> ?_⟩,λx af=> ?_⟩
 ·rw[aD.RZ];exact cB.2.2 x af
 ·obtain⟨v,bM,cq,df⟩:=dN w ((ark w g.eqs).1 bQ)
  obtain⟨gp,d4,fk⟩:=aD.kind bM
  refine⟨gp,d4,by rw[fk];exact cq, ?_⟩
  have:=VY w g.eqs
  show _+i2 w (g.eqs.reverse.flatMap eL.left)<=1
  rw[this];exact df
 ·exact(fx al (List.mem_reverse.1 bJ)).rev aD
 ·have:=M x af
  rw[as1]at this ⊢
  show ¬(x.1≠1/\_+i2 x.2.name (g.eqs.reverse.flatMap eL.left)=0)
  rw[VY]
  exact this
def VV{ax:List Go.aS.Node}:∀(k:List Go.aS.Node) (o:Nat),(ss ax o k).1=0->(ss (ax.map hN) o (k.map hN)).1=0:=by
 intro k
 induction k with
 |nil=>intro o _;rfl
 |cons g k ah=>
  intro o a
  rw[ss]at a
  rw[ZC,ss]
  split at a
  ·rename_i I;exact absurd a I
  ·rename_i I
   rw[Zg (by simp only[ne_eq,Decidable.not_not]at I ⊢;exact arH I)]
   exact ah _ a
def eu(s:bc):bc:=if s=[]then[]else[122,95]++s
def MS{s:bc}:eu s=[]↔s=[]:=by
 unfold eu;split<;>simp_all
def Jc{D b:bc}:eu D=eu b↔D=b:=by
 unfold eu
 by_cases aC:D=[]<;>by_cases aj:b=[]<;>simp[aC,aj]
mutual
def j7:bx->bx
 | .mk o D nm no ty n args=> .mk o D (eu nm) no ty n (qp args)
def qp:List bx->List bx
 |[]=>[]
 |B::k=>j7 B::qp k
end
def FJ:∀k:List bx,qp k=k.map j7
 |[]=>by rw[qp];rfl
 |B::k=>by rw[qp,FJ k];rfl
def atF(B:bx):(j7 B).name=eu B.name:=by cases B;rw[j7];rfl
def Sp(B:bx):(j7 B).kind=B.kind:=by cases B;rw[j7];rfl
def atE(B:bx):(j7 B).at_=B.at_:=by cases B;rw[j7];rfl
def jj(d:ep):ep:=⟨eu d.name,d.at_,d.ty,eu d.on,d.fX,d.no⟩
def pA(al:eL):eL:=⟨al.left.map eu,al.cS,al.at_,j7 al.right⟩
def hE(g:Go.aS.Node):Go.aS.Node:=⟨eu g.name,g.at_,g.eh.map jj,g.out.map jj,g.loc.map jj,g.eqs.map pA⟩
def akB(nm:bc):∀(ax:List Go.aS.Node) (o:Nat),sx (eu nm) o (ax.map hE)=sx nm o ax:=by
 intro ax
 induction ax with
 |nil=>intro o;rfl
 |cons g ax ah=>
  intro o
  rw[ZC,sx,sx,ah]
  have:((hE g).name=eu nm)=(g.name=nm):=propext Jc
  simp only[this]
def WM(ax:List Go.aS.Node)(nm:bc):pj (ax.map hE) (eu nm)=pj ax nm:=akB nm ax 0
def adg(v:fJ):fJ:=⟨v.kind,jj v.d,v.eq,v.left⟩
def ob(t dC:bc->Option fJ):Prop:=∀w,dC (eu w)=(t w).map adg
def OP(g:Go.aS.Node):gq (hE g)=(gq g).map λx=>(x.1,jj x.2):=by
 unfold gq hE
 simp[Yw,Function.comp_def]
def arV:∀(k:List (Int×ep)) (s eP:(bc->Option fJ)×List bc),ob s.1 eP.1->eP.2=s.2.map eu->ob (k.foldl px s).1 ((k.map λx=>(x.1,jj x.2)).foldl px eP).1/\((k.map λx=>(x.1,jj x.2)).foldl px eP).2=(k.foldl px s).2.map eu:=by
 intro k
 induction k with
 |nil=>intro s eP I M;exact⟨I,M⟩
 |cons x k ah=>
  intro s eP I M
  rw[ZC,ZL,ZL]
  have aL:(jj x.2).name=eu x.2.name:=rfl
  have aD:(eP.1 (jj x.2).name).isSome=(s.1 x.2.name).isSome:=by rw[aL,I];simp
  refine ah _ _ ?_ ?_
  ·intro w
   unfold px
   simp only[aD]
   split
   ·exact I w
   ·simp only[aL,Jc]
    split
    ·rfl
    ·exact I w
  ·unfold px
   simp only[aD]
   split
   ·exact M
   ·simp only[M,Yw,aL];rfl
def asj{o:Nat}{t dC:bc->Option fJ}(a:ob t dC)(x:bc×Nat):ob (ql o t x) (ql o dC (eu x.1,x.2)):=by
 intro w
 unfold ql
 simp only[a x.1]
 cases aZ:t x.1 with
 |none=>exact a w
 |some v=>
  simp only[ZR]
  have bA:(adg v).eq=v.eq:=rfl
  rw[bA]
  by_cases bt:v.eq<0
  ·simp only[Zp bt,Jc]
   split
   ·rfl
   ·exact a w
  ·simp only[Zg bt]
   exact a w
def G7{α d8:Type}{c7:d8->d8->Prop}{f G3:d8->α->d8}{m:α->α}(a:∀t dC x,c7 t dC->c7 (f t x) (G3 dC (m x))):∀(k:List α) (t dC:d8),c7 t dC->c7 (k.foldl f t) ((k.map m).foldl G3 dC):=by
 intro k
 induction k with
 |nil=>intro t dC a2;exact a2
 |cons x k ah=>intro t dC a2;rw[ZC,ZL,ZL];exact ah _ _ (a _ _ _ a2)
def Ti{α:Type}(f:α->α):∀(k:List α) (n:Nat),(k.map f).zipIdx n=(k.zipIdx n).map λx=>(f x.1,x.2):=by
 intro k
 induction k with
 |nil=>intro n;rfl
 |cons D k ah=>intro n;rw[ZC,List.zipIdx_cons,List.zipIdx_cons,ah];rfl
def au3(g:Go.aS.Node):ob (f9 g) (f9 (hE g)):=by
 unfold f9
 have a2:ob (ni g).1 (ni (hE g)).1:=by
  unfold ni
  rw[OP]
  exact(arV (gq g) _ _ (λ_=>rfl) rfl).1
 have ce:(hE g).eqs.zipIdx=g.eqs.zipIdx.map λx=>(pA x.1,x.2):=Ti pA g.eqs 0
 rw[ce]
 refine G7 (c7:=ob) (λt dC x a=> ?_) _ _ _ a2
 unfold FB
 have az:(pA x.1).left.zipIdx=x.1.left.zipIdx.map λe=>(eu e.1,e.2):=Ti eu x.1.left 0
 simp only[az]
 exact G7 (c7:=ob) (λt dC e a=>asj a e) _ _ _ a
def ob.RZ{t dC:bc->Option fJ}(a:ob t dC)(w:bc):dC (eu w)=none↔t w=none:=by rw[a];simp
def ob.isSome{t dC:bc->Option fJ}(a:ob t dC)(w:bc):(dC (eu w)).isSome=(t w).isSome:=by rw[a];simp
def U5(Y dg:bc->Option Int):Prop:=∀w,dg (eu w)=Y w
def sj(s eP:(bc->Option Int)×(Int×Int)):Prop:=U5 s.1 eP.1/\eP.2=s.2
section
variable{t dC:bc->Option fJ}{Y dg:bc->Option Int}{ax:List Go.aS.Node}{o:Nat}
def ajK{s eP:(bc->Option Int)×(Int×Int)}(a:sj s eP)(x:Int×ep):sj (jp s x) (jp eP (x.1,jj x.2)):=by
 obtain⟨I,M⟩:=a
 have aL:(jj x.2).name=eu x.2.name:=rfl
 refine⟨λw=> ?_, ?_⟩
 ·simp only[jp,aL,Jc]
  split
  ·rfl
  ·exact I w
 ·simp only[jp,aL,I x.2.name,M];rfl
def ajn(aZ:ob t dC)(g:Go.aS.Node)(f:Int×Int):mq dC (hE g) f=mq t g f:=by
 unfold mq
 rw[OP]
 have I:sj ((gq g).foldl jp (λ_=>none,f)) (((gq g).map λx=>(x.1,jj x.2)).foldl jp (λ_=>none,f)):=
  G7 (c7:=sj) (λ_ _ x a=>ajK a x) _ _ _ ⟨λ_=>rfl,rfl⟩
 rw[I.2]
 have:∀(k:List (Int×ep)) (f:Int×Int),(k.map λx=>(x.1,jj x.2)).foldl (oj dC) f=k.foldl (oj t) f:=by
  intro k
  induction k with
  |nil=>intro f;rfl
  |cons x k ah=>
   intro f
   rw[ZC,ZL,ZL,ah]
   congr 1
   unfold oj
   have I:(dC (jj x.2).on=none)=(t x.2.on=none):=propext (aZ.RZ x.2.on)
   have M:((jj x.2).on≠[])=(x.2.on≠[]):=by
    show(eu x.2.on≠[])=_
    rw[ne_eq,ne_eq,MS]
   simp only[I,M];rfl
 exact this _ _
def aqy(aZ:ob t dC)(f1:U5 Y dg)(f:Int×Int)(w:bc)(D:Int):Ah dC dg f (eu w) D=Ah t Y f w D:=by
 unfold Ah
 rw[aZ,f1]
 cases t w<;>rfl
def aq5(aZ:ob t dC){s eP:(bc->Option Int)×(Int×Int)}(a:sj s eP)(x:bc×Int):sj (kP t s x) (kP dC eP (eu x.1,x.2)):=by
 obtain⟨I,M⟩:=a
 refine⟨λw=> ?_, ?_⟩
 ·simp only[kP,Jc,I x.1]
  split
  ·rfl
  ·exact I w
 ·simp only[kP,M]
  exact aqy aZ I _ _ _
def aqD(al:eL):nf (pA al)=(nf al).map λx=>(eu x.1,x.2):=by
 unfold nf
 have az:(pA al).left.zipIdx=al.left.zipIdx.map λe=>(eu e.1,e.2):=Ti eu al.left 0
 rw[az,Yk,Yk]
 rfl
def atN(aZ:ob t dC)(f:Int×Int)(B:bx):pB dC (ax.map hE) o f (j7 B)=pB t ax o f B:=by
 unfold pB CT uv uq
 simp only[Sp,atF,atE,aZ.isSome,WM]
mutual
def adY{ga:Type}{st gn:ga->bx->ga×Bool}(a:∀s B,gn s (j7 B)=st s B):∀(B:bx) (s:ga),th gn s (j7 B)=th st s B
 | .mk o D nm no ty n args,s=>by
   have I:=a s (.mk o D nm no ty n args)
   rw[j7]at I ⊢
   rw[th,th,I,ad0 a args]
def ad0{ga:Type}{st gn:ga->bx->ga×Bool}(a:∀s B,gn s (j7 B)=st s B):∀(k:List bx) (s:ga),pL gn s (qp k)=pL st s k
 |[],s=>by rw[qp,pL,pL]
 |B::k,s=>by rw[qp,pL,pL,adY a B,ad0 a k]
end
def as2(aZ:ob t dC){s eP:(bc->Option Int)×(Int×Int)}(a:sj s eP)(al:eL):sj (jz t ax o s al) (jz dC (ax.map hE) o eP (pA al)):=by
 have I:sj ((nf al).foldl (kP t) s) ((nf (pA al)).foldl (kP dC) eP):=by
  rw[aqD]
  exact G7 (c7:=sj) (λ_ _ x a=>aq5 aZ a x) _ _ _ a
 refine⟨I.1, ?_⟩
 simp only[jz]
 rw[I.2]
 unfold Je
 exact adY (λf B=>atN aZ f B) _ _
end
def arI(ax:List Go.aS.Node)(o:Nat)(g:Go.aS.Node):oT (ax.map hE) o (hE g)=oT ax o g:=by
 have aZ:=au3 g
 unfold oT
 have aL:lN (ax.map hE) o (hE g)=lN ax o g:=by
  unfold lN
  have:(hE g).name=eu g.name:=rfl
  rw[this,WM];rfl
 rw[aL,ajn aZ]
 have bJ:sj (g.eqs.foldl (jz (f9 g) ax o) (λ_=>none,mq (f9 g) g (lN ax o g))) ((hE g).eqs.foldl (jz (f9 (hE g)) (ax.map hE) o) (λ_=>none,mq (f9 g) g (lN ax o g))):=
  G7 (c7:=sj) (m:=pA) (λ_ _ x a=>as2 aZ a x) g.eqs _ _ ⟨λ_=>rfl,rfl⟩
 rw[bJ.2,OP]
 generalize (g.eqs.foldl (jz (f9 g) ax o) (λ_=>none,mq (f9 g) g (lN ax o g))).2=f
 have:∀(k:List (Int×ep)) (f:Int×Int),(k.map λx=>(x.1,jj x.2)).foldl (o2 ((hE g).eqs.foldl (jz (f9 (hE g)) (ax.map hE) o) (λ_=>none,mq (f9 g) g (lN ax o g))).1) f=k.foldl (o2 (g.eqs.foldl (jz (f9 g) ax o) (λ_=>none,mq (f9 g) g (lN ax o g))).1) f:=by
  intro k
  induction k with
  |nil=>intro f;rfl
  |cons x k ah=>
   intro f
   rw[ZC,ZL,ZL,ah]
   congr 1
   unfold o2
   have I:=bJ.1 x.2.name
   have M:(jj x.2).name=eu x.2.name:=rfl
   simp only[M,I];rfl
 exact this _ _
def ai3(ax:List Go.aS.Node):∀(k:List Go.aS.Node) (o:Nat),ss (ax.map hE) o (k.map hE)=ss ax o k:=by
 intro k
 induction k with
 |nil=>intro o;rfl
 |cons g k ah=>intro o;rw[ZC,ss,ss,arI,ah]
def ai5(ax:List Go.aS.Node):wv (ax.map hE)=wv ax:=ai3 ax ax 0
def atu(g:Go.aS.Node):hN (hN g)=g:=by unfold hN;simp
def ai4(ax:List Go.aS.Node):decide ((wv (ax.map hN)).1=0)=decide ((wv ax).1=0):=by
 refine decide_eq_decide.2 ⟨λa=> ?_,λa=>VV ax 0 a⟩
 have:=VV (ax.map hN) 0 a
 rw[Yk,show hN∘hN=id from funext atu,List.map_id]at this
 exact this
end
end Go.Proofs.YtbbkkkpgjaopkaaGreatDoor

