/- A part of the last text's proof; no condition of its own -/
import Derived.Test.YtpfajohmofnkfaaGreatDoorYp
set_option maxHeartbeats 8000000
set_option linter.all false
namespace Go.Proofs.YtpfajohmofnkfaaGreatDoor
open Go.bi Go.aU
noncomputable section
def m8:List e9->Nat
 |[]=>0
 |am::l=>Cc am.right+m8 l
def alj:∀l b8:List e9,m8 (l++b8)=m8 l+m8 b8:=by
 intro l
 induction l with
 |nil=>intro b8;simp[m8]
 |cons K l ak=>intro b8;rw[YO,m8,m8,ak];omega
def WX(am:e9)(l:List e9):m8 (l++[am])=m8 l+Cc am.right:=by rw[alj];simp[m8]
def HM{α:Type}{f:α->Option Int}{l:List α}{i:Nat}{x:α}(a:l[i]? =some x)(b6:(l.take i).findSome? f=none):(l.take (i+1)).findSome? f=f x:=by
 rw[Z5,a,List.findSome?_append,b6]
 simp
def Ld{α:Type}{f:α->Option Int}{l:List α}{i:Nat}{x:α}{K:Int}(a:l[i]? =some x)(b6:(l.take i).findSome? f=none)(ah:f x=some K):l.findSome? f=some K:=by
 have J:l=l.take (i+1)++l.drop (i+1):=(List.take_append_drop _ _).symm
 rw[J,List.findSome?_append,HM a b6,ah]
 rfl
section
variable{X:ck}{h T a2 aS:V an}{j au aO bg:Nat}{P d6 bv:Nat->Prop}
def sO(X:ck)(h:V an)(aq:List Go.aU.Node)(t:bk->Option eJ)(df:Nat->Option F)(P d6:Nat->Prop):List e9->List (List F)->Prop
 |[],aR=>aR=[]
 |am::cR,aR=>∃row fV v,aR=row::fV/\row[3]? =some v/\qW aq t am=none/\me X h aq t df P d6 am.right v/\sO X h aq t df P d6 cR fV
def sO.ad{aq:List Go.aU.Node}{t:bk->Option eJ}{df iO:Nat->Option F}{qL qQ:Nat->Prop}(B:∀e,P e->ab X T e=ab X h e)(sl:∀e,d6 e->ab X T e=ab X h e)(aC:∀e,P e->iO e=df e)(az:∀e,P e->qL e)(H:∀e,d6 e->qQ e):∀{cR:List e9}{aR:List (List F)},sO X h aq t df P d6 cR aR->sO X T aq t iO qL qQ cR aR:=by
 intro cR
 induction cR with
 |nil=>intro aR a;exact a
 |cons am cR ak=>
  rintro aR ⟨row,fV,v,Q,U,ar,aK,bH⟩
  exact⟨row,fV,v,Q,U,ar,me.ad B sl aC az H _ _ aK,ak bH⟩
def sO.snoc{aq:List Go.aU.Node}{t:bk->Option eJ}{df:Nat->Option F}{am:e9}{row:List F}{v:F}(U:row[3]? =some v)(ar:qW aq t am=none)(aK:me X h aq t df P d6 am.right v):∀{cR:List e9}{aR:List (List F)},sO X h aq t df P d6 cR aR->sO X h aq t df P d6 (cR++[am]) (aR++[row]):=by
 intro cR
 induction cR with
 |nil=>rintro aR rfl;exact⟨row,[],v,rfl,U,ar,aK,rfl⟩
 |cons K cR ak=>
  rintro aR ⟨iB,fV,w,rfl,cw,c4,ec,eU⟩
  exact⟨iB,fV++[row],w,rfl,cw,c4,ec,ak eU⟩
structure Eb(X:ck)(h:V an)(fE:Nat)(P:Nat->Prop)(b0 am r:Nat)(p:F)(aq:List Go.aU.Node):Prop where
 a8:(o X).a8<=fE
 lc:b0<fE
 F7:am<fE
 Bm:r<fE
 Gk:(o X).a8<=r
 tz:(o X).a8<=b0
 Ce:b0≠r
 qr:am≠r
 Pm:am≠b0
 bC:∀e,P e->(o X).a8<=e/\e<fE/\e≠r/\e≠b0
 HN:∃c,ab X h b0=some (.cells c 3 .own)/\c.get 0=some (.ptr am 0)/\c.get 1=some p
 D3:ao X h (.ptr am 0)=some (.map r)
 prog:nE X h P aq p
def BV(X:ck)(h:V an)(aq:List Go.aU.Node)(df:Nat->Option F)(P d6:Nat->Prop)(g:Go.aU.Node)(row:List F):Prop:=xe aq g=none/\∃cY dj a6 ev c0 dL ef hQ aR,row=[.str g.name, .Z g.at_,cY,dj,a6,ev]/\dO X h P c0 cY 8 (g.eG.map eY)/\dO X h P dL dj 8 (g.out.map eY)/\dO X h P ef a6 8 (g.loc.map eY)/\dO X h P hQ ev 4 aR/\lO X h P g.eqs aR/\sO X h aq (gX g) df P d6 g.eqs aR
structure afV(n:Nat)(X:ck)(gb:V an)(j bs:Nat)(bv bu:Nat->Prop)(r:Nat)(aq:List Go.aU.Node)(t:bk->Option eJ)(df:Nat->Option F)(eqs:List e9)(aR:List (List F))(aa:Nat)(T:V an)(aV:Nat):Prop where
 none_:(eqs.take aa).findSome? (qW aq t)=none
 fr:ca X [r] gb bs T aV
 at_:∃iO pn,k3 X T bv r iO/\(∀e,¬bu e->iO e=df e)/\(∀e,pn e->bu e)/\lO X T pn (eqs.drop aa) (aR.drop aa)/\sO X T aq t iO (λe=>bu e/\¬pn e) (da j aV) (eqs.take aa) (aR.take aa)/\mH X T r (n+m8 (eqs.take aa))/\∀e,pn e->iO e=none
set_option maxRecDepth 100000 in
def auu(aA:dz X)(ew:Ec X){aq:List Go.aU.Node}{b0 JP r fE:Nat}{p:F}(b6:aq≠[])(bp:∀g∈aq,g.eG.length<=100000/\g.out.length<=100000)(wA:∀e,bv e->P e){bu:Nat->Prop}(Fa:∀e,bu e->bv e)(aL:fE<=j)(bT:Eb X h fE P b0 JP r p aq){df:Nat->Option F}(pB:k3 X h bv r df){n:Nat}(QC:mH X h r n)(pG:∀e,bu e->df e=none)
 {g:Go.aU.Node}{row:List F}(b5:m5 X h bu g row)(LR:∀am∈g.eqs,fj ln am.right)(pH:(g6 g).length<=300000):
 aW X 77 [.ptr b0 0, .agg row] h j (λae T au=>ae= .tuple []/\(∃c,ab X T b0=some (.cells c 3 .own)/\c.get 0=some (.ptr JP 0)/\c.get 1=some p)/\∃iO,k3 X T bv r iO/\(∀e,¬bu e->iO e=df e)/\BV X T aq iO bu (da j au) g row/\ca X [r,b0] h j T au/\mH X T r (n+m8 g.eqs))
  (λae T au=>∃K,xe aq g=some K/\ae=oB 26 K/\ca X [r,b0] h j T au):=by
 refine zA aA (ajp X) ?_
 rw[ajq]
 unfold VU
 have gU:=bT.a8
 have bC:=bT.bC
 have aqh:=bT.Bm;have Ri:=bT.lc;have aAh:=bT.F7
 have pC:∀e,bu e->P e:=λe H=>wA e (Fa e H)
 have aa7:=b5
 obtain⟨cY,dj,a6,ev,c0,dL,ef,hQ,aR,rfl,nl,lC,oK,iu,e3⟩:=b5
 have arr:=(ke nl.len).1
 have arv:=(ke lC.len).1
 have jm:=(ke oK.len).1
 have aAL:=(ke iu.len).1
 refine sT ?_
 generalize et:Go.bi.bn X h j _=a2
 have b4:ab X a2 j=zx [.str g.name, .Z g.at_,cY,dj,a6,ev] 6:=by rw[<-et,bm Zo];rfl
 have bU:bq X h j a2 (j+1):=by rw[<-et];exact dU
 clear et
 refine ci (bR b4) ⟨?_⟩
 have bV:∀e,P e->ab X a2 e=ab X h e:=λe H=>bU.ad e (zt (bC e H))
 refine(adG (j:=j+1) (h:=a2) aA Zo (λe H=>zt (bC e (pC e H))) (aa7.ad (bu:=bu) (λe H=>bV e (pC e H)) (λ_ a=>a)) pH).Zm ?_
 rintro ae aS bg ⟨cW,lK,NU,Ew,rfl,MI,FG,wG,q6,_,_,bK⟩
 have ge:=bK.le
 have jX:=bU.trans bK
 obtain⟨c,X2,X3,X4⟩:=bT.HN
 have Lm:ab X aS b0=some (.cells c 3 .own):=by rw[jX.ad b0 Zo];exact X2
 have Mr:=bT.tz
 refine x9 ⟨?_⟩
 generalize fC:Go.bi.bn X aS b0 _=bb
 have anp:∃f0,ab X bb b0=some (.cells f0 3 .own)/\f0.get 0=some (.ptr JP 0)/\f0.get 1=some p/\f0.get 2=some (.ptr cW 0):=⟨dQ c 2 [.ptr cW 0],by rw[<-fC,bm Mr];rfl,by rw[qI,V.kc];exact X3,by rw[qI,V.kc];exact X4,ru c 2 _⟩
 have c4:∀e,e≠b0->ab X bb e=ab X aS e:=λe H=>by rw[<-fC,aI Mr H]
 clear fC Lm
 have Be:∀e,e<j->e≠b0->ab X bb e=ab X h e:=λe Q U=>by rw[c4 e U,jX.ad e Q]
 have lb:∀e,P e->ab X bb e=ab X h e:=λe H=>by have:=bC e H;exact Be e Zo Zo
 have ea:ca X [r,b0] h j bb bg:=⟨Zo,λe Q U=>Be e Q (by simp at U;exact U.2)⟩
 have acb:rJ X bb (λe=>P e\/da (j+1) bg e) (.ptr cW 0) (gX g):=⟨cW,lK,rfl, .inr MI, .inr FG,zE (c4 cW (zt MI.1)) wG,q6.ad (c4 lK (zt FG.1))⟩
 have H1:vX X bb bg (λe=>P e\/da (j+1) bg e) b0 JP r (.ptr cW 0) p aq (gX g):=⟨Zo,Zo,Zo,Zo,bT.Gk,bT.Ce,bT.qr,λe H=>by
  rcases H with a|a
  ·have:=bC e a;exact⟨this.1,Zo,this.2.2.1⟩
  ·have Q:=a.1;have U:=a.2;exact⟨Zo,U,Zo⟩,anp,zE (Be JP Zo bT.Pm) bT.D3,acb,bT.prog.ad lb (λ_ a=> .inl a)⟩
 have ws:ab X bb j=zx [.str g.name, .Z g.at_,cY,dj,a6,ev] 6:=by rw[c4 j Zo,bK.ad j Zo];exact b4
 have AM:k3 X bb bv r df:=pB.ad (Be r Zo (λJ=>bT.Ce J.symm)) (λe H=>lb e (wA e H))
 have LL:mH X bb r n:=QC.ad (Be r Zo (λJ=>bT.Ce J.symm))
 generalize MK:gX g=t at*
 have CS:xe aq g=(match Ch t g with|some K=>some K|none=>g.eqs.findSome? (qW aq t)):=by unfold xe;rw[MK];rfl
 clear bU bK jX bV q6 wG acb b4 X2 X3 X4
 have QO:eB [.aP, .aP, .aP] [(0,1,cY),(1,1,dj),(2,1,a6)]=some (.agg [cY,dj,a6]):=by
  simp[eB,py,pz,li,arr,arv,jm]
 refine rT (bR ws) ⟨?_⟩
 refine fF QO ?_
 refine j3 (λM T aV=>M.g 0=some (.ptr b0 0)/\M.g 3=some (.ptr j 0)/\Ch t g=none/\bq X bb bg T aV) (λaa bG=> ?_) ?_
 ·have FD:∀B,B<3->∃s b,([cY,dj,a6]:List F)[B]? =some s/\dO X h bu b s 8 ((l7 g B).map eY):=λB aN=>by
   match B,aN with
   |0,_=>exact⟨cY,c0,rfl,nl⟩
   |1,_=>exact⟨dj,dL,rfl,lC⟩
   |2,_=>exact⟨a6,ef,rfl,oK⟩
  refine fU (λm M T aV=>∃(B:Nat),M.g 0=some (.ptr b0 0)/\M.g 3=some (.ptr j 0)/\M.g 25=some (.agg [cY,dj,a6])/\M.g 26=some (.Z (B:Int))/\B+m=3/\((g6 g).take (pN g B)).findSome? (λx=>if x.2.on≠[]/\(l2 t x.2.on).b=false then some x.2.fu else none)=none/\bq X bb bg T aV)
   3 ⟨0,bw,bw,bw,gc,Zo,by simp[pN],bq.refl _ _⟩ ?_
  rintro m M bF c7 ⟨B,t0,t3,l9,kZ,aN,k7,dv⟩
  have jl:=dv.le
  cases m with
  |zero=>
   have d:decide ((B:Int)<3)=false:=by simp only[Zc];omega
   have nR:B=3:=Zo
   subst nR
   rw[<-K2,YY]at k7
   refine cV @kZ @d ⟨?_⟩
   exact bG _ _ _ ⟨bf t0,bf t3,k7,dv⟩
  |succ m=>
   have d:decide ((B:Int)<3)=true:=by simp only[Zh];omega
   obtain⟨fo,dP,pI,uM⟩:=FD B Zo
   have Mf:ts false 3 1 (.agg [cY,dj,a6]) (.Z (B:Int))=some fo:=by
    have ar:Nat.blt B 3=true:=by simp[Nat.blt];omega
    simp only[ts,rg,ar,eP,jF,pL,Yj]
    exact pI
   have abu:=uM.len
   have abx:=uM.many
   rw[Zn]at abu abx
   refine gA @kZ @l9 @d @Mf @abu ⟨?_⟩
   refine fU (λm M T aV=>∃(i:Nat),M.g 0=some (.ptr b0 0)/\M.g 3=some (.ptr j 0)/\M.g 25=some (.agg [cY,dj,a6])/\M.g 26=some (.Z (B:Int))/\M.g 29=some fo/\M.g 30=some (.Z ((l7 g B).length:Int))/\M.g 31=some (.Z (i:Int))/\i+m=(l7 g B).length/\((g6 g).take (pN g B+i)).findSome? (λx=>if x.2.on≠[]/\(l2 t x.2.on).b=false then some x.2.fu else none)=none/\bq X bb bg T aV)
    (l7 g B).length ⟨0,bf t0,bf t3,bf l9,bf kZ,bw,bw,gc,Zo,k7,dv⟩ ?_
   clear t0 t3 l9 kZ k7
   rintro fQ M bX b2 ⟨i,t0,t3,l9,kZ,D0,BK,NZ,aJ,k7,dH⟩
   have h5:=dH.le
   cases fQ with
   |zero=>
    have d:=zu i (l7 g B).length
    have bD:=zy B
    refine gA @NZ @BK @kZ @d @bD ⟨?_⟩
    refine⟨m,Zo,B+1,bf t0,bf t3,bf l9,bw,Zo, ?_,dH⟩
    rw[adH g Zo]
    have:i=(l7 g B).length:=Zo
    rw[<-this]
    exact k7
   |succ fQ=>
    have d:=zv i (l7 g B).length
    have bD:=zy i
    obtain⟨aG,aM⟩:=zw (l7 g B) i
    have qk:=uM.f2 i (by rw[Zn];omega)
    have asM:∀e,bu e->ab X bX e=ab X h e:=λe H=>by have:=bC e (pC e H);rw[dH.ad e Zo,lb e (pC e H)]
    have yA:=(uM.ad asM).row (i:=i) (r:=eY aG) Zd (by rw[Zx,aM];rfl)
    have jZ:eY aG=[.str aG.name, .Z aG.at_, .bool aG.ty.b, .bool aG.ty.s, .Z aG.ty.w, .str aG.on, .Z aG.fu, .bool aG.no]:=rfl
    rw[jZ]at yA
    have Q9:=Xu g (B:=B) Zo aM
    have azu:=H1.fr (ca.of (X:=[r]) dH) (Zi _)
    refine iZ @NZ @BK @D0 @d @qk @yA ⟨?_⟩
    generalize f6:Go.bi.bn X _ b2 _=cf
    have dY:ab X cf b2=zx [.str aG.name, .Z aG.at_, .bool aG.ty.b, .bool aG.ty.s, .Z aG.ty.w, .str aG.on, .Z aG.fu, .bool aG.no] 8:=by rw[<-f6,bm Zo];rfl
    have dK:∀e,e<b2->ab X cf e=ab X bX e:=λe H=>by rw[<-f6];exact zz
    clear f6
    have eR:bq X bb bg cf (b2+1):=⟨Zo,λe H=>by rw[dK e Zo];exact dH.ad e H⟩
    have aad:=H1.fr (ca.of (X:=[r]) eR) (Zi _)
    by_cases nW:aG.on=[]
    ·have cP:∀i:Decidable (aG.on≠[]), @decide (aG.on≠[]) i=false:=λi=>by simp[nW]
     refine ci (bR dY) ⟨?_⟩
     simp only[cP]
     refine cV @NZ @bD ⟨?_⟩
     refine⟨fQ,Zo,i+1,bf t0,bf t3,bf l9,bf kZ,bf D0,bf BK,bw,Zo, ?_,eR.more Zo⟩
     rw[<-ZJ,HM Q9 k7]
     simp[nW]
    ·have cP:∀i:Decidable (aG.on≠[]), @decide (aG.on≠[]) i=true:=λi=>by simp[nW]
     refine ci (bR dY) ⟨?_⟩
     simp only[cP]
     refine cV @t0 (bR dY) ⟨?_⟩
     refine(JD (j:=b2+1) (P:=λe=>P e\/da (j+1) bg e) aA Zo Zo aad.EI.dG aad.vC (λe H=>zt (H1.bC e H).2.1) aG.on).Zm ?_
     rintro ae cx eu ⟨rfl,fa⟩
     have nn:=fa.le
     have LB:=eR.trans (fa.kv Zo)
     have e1:ab X cx b2=zx [.str aG.name, .Z aG.at_, .bool aG.ty.b, .bool aG.ty.s, .Z aG.ty.w, .str aG.on, .Z aG.fu, .bool aG.no] 8:=by rw[fa.ad b2 Zo];exact dY
     cases aj:(l2 t aG.on).b with
     |true=>
      refine gt @Lg @aj @NZ @bD ⟨?_⟩
      refine⟨fQ,Zo,i+1,bf t0,bf t3,bf l9,bf kZ,bf D0,bf BK,bw,Zo, ?_,LB⟩
      rw[<-ZJ,HM Q9 k7]
      simp[aj]
     |false=>
      refine er @Lg @aj (bR e1) ⟨?_⟩
      refine(HI aA Zo aG.fu).mono (λ_ _ _ a=>a) ?_
      rintro ae dx hW ⟨rfl,g9⟩
      have apq:Ch t g=some aG.fu:=Ld Q9 k7 (by simp[nW,aj])
      exact⟨aG.fu,by rw[CS,apq],rfl,ea.trans (ca.of (LB.trans g9))⟩
 ·rintro M bF c7 ⟨t0,t3,oI,dv⟩
  have jl:=dv.le
  have eC:ca X [r,b0] h j bF c7:=ea.trans (ca.of dv)
  have Qs:=H1.fr (ca.of (X:=[r]) dv) (Zi _)
  have am7:ab X bF j=zx [.str g.name, .Z g.at_,cY,dj,a6,ev] 6:=by rw[dv.ad j Zo];exact ws
  have ld:∀e,P e->ab X bF e=ab X h e:=λe H=>by have:=bC e H;rw[dv.ad e Zo,lb e H]
  have QA:k3 X bF bv r df:=AM.ad (dv.ad r Zo) (λe H=>by have:=bC e (wA e H);exact dv.ad e Zo)
  have LM:mH X bF r n:=LL.ad (dv.ad r Zo)
  have apK:lO X bF bu g.eqs aR:=e3.ad (λe H=>ld e (pC e H)) (λ_ a=>a)
  have lW:=e3.wide
  have eD:=iu.len
  have i6:=iu.many
  rw[lW.1]at eD i6
  rw[oI]at CS
  simp only[]at CS
  clear AM ws lb bT pB aa7
  show al _ _
  refine er @t3 (bR am7) @eD ⟨?_⟩
  refine fU (λm M T aV=>∃(aa:Nat),M.g 0=some (.ptr b0 0)/\M.g 52=some ev/\M.g 53=some (.Z (g.eqs.length:Int))/\M.g 54=some (.Z (aa:Int))/\aa+m=g.eqs.length/\afV n X bF j c7 bv bu r aq t df g.eqs aR aa T aV)
   g.eqs.length ⟨0,bf t0,bw,bw,gc,Zo,⟨rfl,ca.refl _ _ _,df,bu,QA,λ_ _=>rfl,λ_ a=>a,by simpa using apK,by rw[ZZ,ZZ];rfl,by rw[ZZ];exact LM,pG⟩⟩ ?_
  clear t0 t3
  rintro m M bX b2 ⟨aa,t0,xu,pT,j8,bG,gu⟩
  have dC:=gu.fr
  have h5:=dC.le
  have aoi:=Qs.fr dC Zo
  obtain⟨Sv,pn,H7,abt,yj,ti,A4,CD,Ix⟩:=gu.at_
  have k7:=gu.none_
  clear gu
  cases m with
  |zero=>
   have d:=zu aa g.eqs.length
   rw[ZC Zo]at k7 CD
   rw[ZC Zo,ZC Zo]at A4
   refine er @pT @j8 @d ⟨?_⟩
   have q0:ca X [r,b0] h j bX b2:=eC.trans (dC.down (Zi _) (λb aj=> .inl (by simp at aj;simp[aj])))
   have Jf:∀e,bu e->ab X bX e=ab X h e:=λe H=>by have:=bC e (pC e H);exact q0.ad e Zo (by simp;exact⟨this.2.2.1,this.2.2.2⟩)
   obtain⟨jU,z0,fW,fv,_⟩:=aoi.HN
   exact⟨rfl,⟨jU,z0,fW,fv⟩,Sv,H7,abt,⟨by rw[CS];exact k7,cY,dj,a6,ev,c0,dL,ef,hQ,aR,rfl,nl.ad Jf,lC.ad Jf,oK.ad Jf,iu.ad Jf,e3.ad Jf (λ_ a=>a),by rw[MK];exact A4.ad (λ_ _=>rfl) (λ_ _=>rfl) (λ_ _=>rfl) (λe H=>H.1) (λ_ a=>a)⟩,q0,CD⟩
  |succ m=>
   have d:=zv aa g.eqs.length
   have bD:=zy aa
   obtain⟨am,b1⟩:=zw g.eqs aa
   have aM:g.eqs.drop aa=am::g.eqs.drop (aa+1):=by
    obtain⟨ah,H⟩:=Zb.1 b1
    rw[Zv ah,H]
   rw[aM]at ti
   obtain⟨row,fV,y,cC,AO,sb,Q4⟩:=ti
   have uN:aR[aa]? =some row:=by
    have:(aR.drop aa)[0]? =some row:=by rw[cC];rfl
    simpa using this
   have uM:fV=aR.drop (aa+1):=by
    obtain⟨ah,H⟩:=Zb.1 uN
    rw[Zv ah]at cC
    simp only[Yw]at cC
    exact cC.2.symm
   subst uM
   obtain⟨nu,o5,dt,dG,lL,rfl,hM,mo,mR,oM⟩:=id sb
   obtain⟨d1,rfl,wL,oL⟩:=mR.ptr
   have qf:∀e,y e->bu e:=λe H=>yj e (AO e H)
   have AN:∀e,P e->e<c7/\e≠r:=λe H=>by have:=bC e H;exact⟨Zo,this.2.2.1⟩
   have Je:∀e,P e->ab X bX e=ab X h e:=λe H=>by have:=AN e H;rw[dC.ad e this.1 (by simp[this.2]),ld e H]
   have dZ:=iu.f2 aa (by rw[lW.1];omega)
   have ic:=(iu.ad (λe H=>Je e (pC e H))).row Zd uN
   have mr:g.eqs.take (aa+1)=g.eqs.take aa++[am]:=by rw[Z5,b1];rfl
   have w1:aR.take (aa+1)=aR.take aa++[[nu,o5, .Z am.at_, .ptr d1 0]]:=by rw[Z5,uN];rfl
   refine iZ @j8 @pT @xu @d @dZ @ic ⟨?_⟩
   refine fF (h6 (B:=4) (b:=b2) (Y:=0) (n:=4) (bm Zo) Zo rfl Zd Zd oM) ?_
   generalize f6:Go.bi.bn X _ b2 _=cf
   have dY:ab X cf b2=zx [nu,o5, .Z am.at_, .ptr d1 0] 4:=by rw[<-f6,bm Zo];rfl
   have dK:∀e,e<b2->ab X cf e=ab X bX e:=λe H=>by rw[<-f6];exact zz
   clear f6
   have ey:ca X [r] bF c7 cf (b2+1):=⟨Zo,λe Q U=>by rw[dK e Zo];exact dC.ad e Q U⟩
   have aoj:=Qs.fr ey Zo
   have QB:k3 X cf bv r Sv:=H7.ad (dK r Zo) (λe H=>by have:=AN e (wA e H);exact dK e Zo)
   have apL:cO X cf y am.right (.ptr d1 0):=cO.ad (λe H=>by have:=AN e (pC e (qf e H));exact dK e Zo) _ _ mR
   refine cV @t0 (bR dY) ⟨?_⟩
   refine(amA (bv:=bv) (P:=λe=>P e\/da (j+1) bg e) (fE:=bg) aA ew b6 bp (λe H=> .inl (wA e H)) (SizeOf.sizeOf am.right+1) am.right (YA _) (LR am (Zl b1)) y (.ptr d1 0) cf (b2+1) Sv (n+m8 (g.eqs.take aa)) (λe H=>Fa e (qf e H)) Zo aoj QB apL (CD.ad (dK r Zo)) (λe H=>Ix e (AO e H))).mono ?_ ?_
   ·rintro ae cx eu ⟨eo,Sw,iI,w2,IZ,E8,Fp,arJ,ek,LN⟩
    have nn:=ek.le
    have aan:ca X [r] bF c7 cx eu:=ey.trans (ek.down Zo (λb aj=> .inl aj))
    have aok:=Qs.fr aan Zo
    have e1:ab X cx b2=zx [nu,o5, .Z am.at_, .ptr d1 0] 4:=by rw[ek.ad b2 Zo (by simp;omega)];exact dY
    have abv:=hM.len
    have aqo:=hM.many
    simp only[ii,Zn]at abv aqo
    have asN:∀e,bu e->ab X cx e=ab X bX e:=λe H=>by have:=AN e (pC e H);rw[ek.ad e Zo (by simp[this.2]),dK e Zo]
    refine cV (bR e1) @abv ⟨?_⟩
    refine fU (λm M T aV=>∃(i:Nat) (s:F) (cK:List Nat),M.g 0=some (.ptr b0 0)/\M.g 9=some (.ptr b2 0)/\M.g 10=some ae/\M.g 11=some s/\M.g 52=some ev/\M.g 53=some (.Z (g.eqs.length:Int))/\M.g 54=some (.Z (aa:Int))/\M.g 63=some nu/\M.g 64=some (.Z (am.left.length:Int))/\M.g 65=some (.Z (i:Int))/\i+m=am.left.length/\gI X T s 3 (mC ((am.left.take i).map (l2 t))).flatten cK/\(∀e∈cK,eu<=e/\e<aV)/\bq X cx eu T aV)
     am.left.length ⟨0, .aP,[],bf t0,bw,bw,bw,bf xu,bf pT,bf j8,bw,bw,gc,Zo, .inl (.inl ⟨rfl,rfl,rfl⟩),Zs,bq.refl _ _⟩ ?_
    clear t0 xu pT j8
    rintro fQ M dx hW ⟨i,s,cK,t0,t9,nw,oi,xu,pT,j8,BL,tH,J4,aJ,aD,fz,g9⟩
    have yt:=g9.le
    have aag:=aok.fr (ca.of (X:=[r]) g9) Zo
    have ir:ab X dx b2=zx [nu,o5, .Z am.at_, .ptr d1 0] 4:=by rw[g9.ad b2 Zo];exact e1
    have R8:∀e,bu e->ab X dx e=ab X bX e:=λe H=>by have:=AN e (pC e H);rw[g9.ad e Zo,asN e H]
    cases fQ with
    |zero=>
     have d:=zu i am.left.length
     rw[ZC Zo]at aD
     obtain⟨akS,bJ⟩:=aD.l5 (P:=λe=>e<hW) Zd (GR _) (by simp[mC];omega) (λe H=>(fz e H).2)
     have acj:kH X dx (λe=>e<hW) s (am.left.map (l2 t)):=⟨akS,bJ⟩
     have yF:=acj.rd.len
     rw[Zn]at yF
     have yE:kH X dx (λe=>e<hW) ae eo:=IZ.ad (λe H=>g9.ad e H.2) (λe H=>zt H.2)
     have wQ:ao X dx (.ptr d1 0)=some (.Z am.right.kind):=zE (R8 d1 (qf d1 wL)) oL
     have gC:ca X [r] bF c7 dx hW:=aan.trans (ca.of (g9.kv Zo))
     have L6:qW aq t am=if (1<am.left.length/\am.right.kind≠25)\/eo≠am.left.map (l2 t)then some am.at_ else none:=by unfold qW;rw[iI]
     have fin:∀{ei:V an}{i7:Nat},ca X [r] bF c7 ei i7->qW aq t am=some am.at_->xe aq g=some am.at_/\ca X [r,b0] h j ei i7:=λha bx=>⟨by rw[CS];exact Ld b1 k7 bx,eC.trans (ha.down (Zi _) (λb aj=> .inl (by simp at aj;simp[aj])))⟩
     by_cases kp:1<am.left.length/\am.right.kind≠25
     ·have xW:decide ((am.left.length:Int)>1)=true:=by simp only[Zh];omega
      have xV:decide (am.right.kind≠25)=true:=by simp[kp.2]
      refine e7 @J4 @tH @d @oi @yF @xW (Za @t9 (Za (bR ir) (Za @wQ @xV))) ⟨?_⟩
      refine(HI aA Zo am.at_).mono (λ_ _ _ a=>a) ?_
      rintro ae ei i7 ⟨rfl,kM⟩
      obtain⟨eM,eZ⟩:=fin (gC.trans (ca.of kM)) (by rw[L6,Zq (.inl kp)])
      exact⟨_,eM,rfl,eZ⟩
     ·apply KP
      ·intro eE
       by_cases qm:1<am.left.length
       ·have xW:decide ((am.left.length:Int)>1)=true:=by simp only[Zh];omega
        have xV:decide (am.right.kind≠25)=false:=by simp only[Zc];exact λa=>kp ⟨qm,a⟩
        refine e7 @J4 @tH @d @oi @yF @xW (Za @t9 (Za (bR ir) (Za @wQ @xV))) ⟨?_⟩
        exact eE.out
       ·have xW:decide ((am.left.length:Int)>1)=false:=by simp only[Zc];omega
        refine iZ @J4 @tH @d @oi @yF @xW ⟨?_⟩
        exact eE.out
      ·refine cV @nw @oi ⟨?_⟩
       refine(PG (P:=λe=>e<hW) aA Zo yE acj (λe a=>a)).Zm ?_
       rintro TN ei i7 ⟨rfl,kM⟩
       have tj:=kM.le
       have ha:ca X [r] bF c7 ei i7:=gC.trans (ca.of kM)
       by_cases LP:eo=am.left.map (l2 t)
       ·have Pu:decide (eo=am.left.map (l2 t))=true:=by simp[LP]
        have aaR:qW aq t am=none:=by rw[L6,Zg];exact λa=>a.elim kp (λa=>a LP)
        refine er @Pu @j8 @bD ⟨?_⟩
        have E4:=g9.trans kM
        have acE:∀e,bu e->ab X ei e=ab X bX e:=λe H=>by have:=AN e (pC e H);rw[kM.ad e Zo,R8 e H]
        refine⟨m,Zo,aa+1,bf t0,bf xu,bf pT,bw,Zo,⟨by rw[HM b1 k7];exact aaR,ha,Sw,λe=>pn e/\¬y e,E8.ad (E4.ad r Zo) (λe H=>by have:=AN e (wA e H);exact E4.ad e Zo),λe H=>(Fp e (λa=>H (qf e a))).trans (abt e H),λe H=>yj e H.1,Q4.ad (λe H=>acE e (yj e H.1)) (λ_ a=>a), ?_,by rw[mr,WX, <-ZJ];exact LN.ad (E4.ad r Zo),λe H=>(Fp e H.2).trans (Ix e H.1)⟩⟩
        rw[mr,w1]
        refine sO.snoc (v:= .ptr d1 0) rfl aaR (me.ad (λe H=>by have:=AN e (pC e (qf e H));exact E4.ad e Zo) (λe H=>E4.ad e H.2) (λ_ _=>rfl) (λe H=>⟨qf e H,λa=>a.2 H⟩) (λe H=>⟨zt H.1,zt H.2⟩) _ _ arJ) (A4.ad (λe H=>acE e H.1) (λe H=> ?_) (λe H=>Fp e (λa=>H.2 (AO e a))) (λe H=>⟨H.1,λa=>H.2 a.1⟩) (λe H=>⟨H.1,zt H.2⟩))
        have Q:=H.1;have U:=H.2
        rw[E4.ad e Zo,ek.ad e Zo (by simp;omega),dK e U]
       ·have Pu:decide (eo=am.left.map (l2 t))=false:=by simp[LP]
        have nc:ab X ei b2=zx [nu,o5, .Z am.at_, .ptr d1 0] 4:=by rw[kM.ad b2 Zo];exact ir
        refine er @Pu @t9 (bR nc) ⟨?_⟩
        refine(HI aA Zo am.at_).mono (λ_ _ _ a=>a) ?_
        rintro ae hj d2 ⟨rfl,Qp⟩
        obtain⟨eM,eZ⟩:=fin (ha.trans (ca.of Qp)) (by rw[L6,Zq (.inr LP)])
        exact⟨_,eM,rfl,eZ⟩
    |succ fQ=>
     have d:=zv i am.left.length
     have cF:=zy i
     obtain⟨w,bJ⟩:=zw am.left i
     have A7:=hM.f2 i (by simp[ii];omega)
     have Dd:=(hM.ad (λe H=>R8 e (qf e H))).cell i [.str w] 0 (.str w) (by simp[ii,bJ]) rfl
     rw[Yj]at A7 Dd
     rw[ZY]at Dd
     have IX:am.left.take (i+1)=am.left.take i++[w]:=by rw[Z5,bJ];rfl
     refine e7 @J4 @tH @BL @d @A7 @Dd (Za @oi @t0) ⟨?_⟩
     refine(JD (j:=hW) (P:=λe=>P e\/da (j+1) bg e) aA Zo Zo aag.EI.dG aag.vC (λe H=>zt (H1.bC e H).2.1) w).Zm ?_
     rintro TN ei i7 ⟨rfl,kM⟩
     have tj:=kM.le
     refine ci eF.eq_1 ⟨?_⟩
     generalize q2:Go.bi.bn X ei i7 _=hj
     have h0:ab X hj i7=zx (eF (l2 t w)) 3:=by rw[<-q2,bm Zo];rfl
     have lX:∀e,e<i7->ab X hj e=ab X ei e:=λe H=>by rw[<-q2,aI Zo Zo]
     clear q2
     obtain⟨fo,V6,gR,iK,IU,apa,uC⟩:=TM (j:=i7+1) (aD.ad (T:=hj) (λe H=>by have:=fz e H;rw[lX e Zo,kM.ad e this.2])) h0 (by rw[Zn,ze];omega) Zo (λe H=>zt (fz e H)) 1
     refine ki iK ?_
     refine cV @J4 @cF ⟨?_⟩
     refine⟨fQ,Zo,i+1,fo,gR,bf t0,bf t9,bf nw,bw,bf xu,bf pT,bf j8,bf BL,bf tH,bw,Zo, ?_,λe H=> ?_,⟨Zo,λe H=> ?_⟩⟩
     ·rw[IX,Yy];exact IU
     ·rcases apa e H with rfl|a
      ·omega
      ·have:=fz e a;omega
     ·rw[uC e Zo (λa=>zt (fz e a)),lX e Zo,kM.ad e Zo];exact g9.ad e H
   ·rintro ae cx eu ⟨K,aE,rfl,ek⟩
    exact⟨K,by rw[CS];exact Ld b1 k7 (by unfold qW;rw[aE]),rfl,eC.trans ((ey.trans ek).down (Zi _) (λb aj=> .inl (by simp at aj;simp[aj])))⟩
end
section
variable{X:ck}{h T a2 aS:V an}{j au aO bg:Nat}{P d6:Nat->Prop}
def SA(p:F):lp X h 65 p=ao X h p:=Zk
def WM:∃fn c,(o X).P.funcs[76]? =some fn/\fn.body=some c:=Lh (OH X)
def avV(aA:dz X){K b:F}{bu:Bool->V an->Nat->Prop}(a:bu false h j):s0 X (.func 76) ([]++[K,b]) none h j bu:=by
 refine⟨aA.none _ _ rfl,WM,Li (OH X) ?_⟩
 show x6 X 76 [K,b] none h j bu
 rw[VT]
 unfold OG
 show aY _ _
 refine ci @XC ⟨?_⟩
 exact a
def avW(aA:dz X){K b:Nat}{B at_:Int}{dt dG:V F}{bu:Bool->V an->Nat->Prop}(aL:(o X).a8<=K)(kR:(o X).a8<=b)(yl:K≠b)(CE:K<j)(ut:b<j)(h0:ab X h K=some (.cells dt 1 .own))(oD:ab X h b=some (.cells dG 2 .own))
 (a:∀T aV,j<=aV->ao X T (.ptr K 0)=some .cz->cg X T 2 (.ptr b 0)=some (.agg [.Z B, .Z at_])->(∀e,e<j->e≠K->e≠b->ab X T e=ab X h e)->bu true T aV):s0 X (.func 76) ([]++[.ptr K 0, .ptr b 0]) (some (oB B at_)) h j bu:=by
 refine⟨aA.none _ _ rfl,WM,Li (OH X) ?_⟩
 show x6 X 76 [.ptr K 0, .ptr b 0] (some (oB B at_)) h j bu
 rw[VT]
 unfold OG
 show aY _ _
 have OZ:Eu 26 (.agg [.Z 0, .Z 0]) true (oB B at_)=some (.tuple [.agg [.Z B, .Z at_], .bool true]):=rM _ _ _
 have DM:∀(M:dS) (n:Nat),(NT M).g n=M.g n:=λ_ _=>rfl
 refine er @XB @OZ @DM ⟨?_⟩
 generalize et:bn X _ j _=a2
 have b4:ab X a2 j=zx [.Z B, .Z at_] 2:=by rw[<-et,bm Zo];rfl
 have Q:∀e,e<j->ab X a2 e=ab X h e:=λe H=>by rw[<-et];exact zz
 rw[<-Q K CE]at h0
 rw[<-Q b ut]at oD
 clear et
 refine cV (bR b4) @DM ⟨?_⟩
 refine gP (by simp[F.same,n9,pR]) ?_
 generalize dI:bn X a2 K _=aS
 have b7:ab X aS K=some (.cells (dQ dt 0 [.cz]) 1 .own):=by rw[<-dI,bm aL];rfl
 have U:∀e,e≠K->ab X aS e=ab X a2 e:=λe H=>by rw[<-dI,aI aL H]
 rw[<-U b Zo]at oD
 clear dI
 refine s3 @DM ⟨?_⟩
 refine fF (h6 (B:=2) (b:=b) (Y:=0) (n:=2) oD kR rfl Zd Zd rfl) ?_
 show bu true _ _
 refine a _ _ Zo ?_ ?_ (λe H RY gf=> ?_)
 ·rw[bR (by rw[aI kR yl];exact b7),jS];rfl
 ·rw[n5,bR (bm kR),bR (bm kR),jS,jS];rfl
 ·rw[aI kR gf,U e RY,Q e H]
def awc{ai:bI}{M:dS}{p am v w:F}(lV:M.bd=[])(U:M.g 2=some p)(ar:M.g 3=some am)(eg:ao X h p=some v)(c5:cg X h 2 am=some w)(a:ai (.tuple [v,w]) h j):GC X ai M h j:=by
 unfold GC
 rw[lV]
 show al (M.g 2) (λp=>E (lp X h 65 p) λv=>al (M.g 3) λp=>E (lp X h 26 p) λw=>ai (.tuple [v,w]) h j)
 rw[U,ar]
 refine lg ?_
 rw[SA,eg]
 refine lh ?_
 refine lg ?_
 rw[F5,c5]
 exact lh a
def awd{ai:bI}{M:dS}{p am v w K b:F}(aA:dz X)(lV:M.bd=[⟨.fn (.func 76) [K,b],[]⟩])(U:M.g 2=some p)(ar:M.g 3=some am)(eg:ao X h p=some v)(c5:cg X h 2 am=some w)(a:ai (.tuple [v,w]) h j):GC X ai M h j:=by
 unfold GC
 rw[lV]
 show s0 X (.func 76) ([]++[K,b]) none h j λ_ h j=>mZ X [.cell 2 65, .cell 3 26] ai M [] h j
 refine avV aA ?_
 show al (M.g 2) (λp=>E (lp X h 65 p) λv=>al (M.g 3) λp=>E (lp X h 26 p) λw=>ai (.tuple [v,w]) h j)
 rw[U,ar]
 refine lg ?_
 rw[SA,eg]
 refine lh ?_
 refine lg ?_
 rw[F5,c5]
 exact lh a
def ava{ai ay:bI}{M:dS}{K b:Nat}{B at_:Int}{dt dG:V F}(aA:dz X)(lV:M.bd=[⟨.fn (.func 76) [.ptr K 0, .ptr b 0],[]⟩])(U:M.g 2=some (.ptr K 0))(ar:M.g 3=some (.ptr b 0))
 (aL:(o X).a8<=K)(kR:(o X).a8<=b)(yl:K≠b)(CE:K<j)(ut:b<j)(h0:ab X h K=some (.cells dt 1 .own))(oD:ab X h b=some (.cells dG 2 .own))
 (a:∀T aV,j<=aV->(∀e,e<j->e≠K->e≠b->ab X T e=ab X h e)->ai (.tuple [.cz, .agg [.Z B, .Z at_]]) T aV):Nz X ai ay M (oB B at_) h j:=by
 unfold Nz
 rw[lV]
 show s0 X (.func 76) ([]++[.ptr K 0, .ptr b 0]) (some (oB B at_)) h j λb h j=>bP b (mZ X [.cell 2 65, .cell 3 26] ai M [] h j) _
 refine avW aA aL kR yl CE ut h0 oD (λT aV gl eg c5 aN=> ?_)
 show al (M.g 2) (λp=>E (lp X T 65 p) λv=>al (M.g 3) λp=>E (lp X T 26 p) λw=>ai (.tuple [v,w]) T aV)
 rw[U,ar]
 refine lg ?_
 rw[SA,eg]
 refine lh ?_
 refine lg ?_
 rw[F5,c5]
 exact lh (a T aV gl aN)
def BV.ad{aq:List Go.aU.Node}{df iO:Nat->Option F}{qL qQ:Nat->Prop}{g:Go.aU.Node}{row:List F}(a:BV X h aq df P d6 g row)(B:∀e,P e->ab X T e=ab X h e)(sl:∀e,d6 e->ab X T e=ab X h e)(aC:∀e,P e->iO e=df e)(az:∀e,P e->qL e)(H:∀e,d6 e->qQ e):BV X T aq iO qL qQ g row:=by
 obtain⟨b6,cY,dj,a6,ev,c0,dL,ef,hQ,aR,Q,U,ar,aK,bH,cu,dM⟩:=a
 exact⟨b6,cY,dj,a6,ev,c0,dL,ef,hQ,aR,Q,(U.ad B).lift az,(ar.ad B).lift az,(aK.ad B).lift az,(bH.ad B).lift az,cu.ad B az,dM.ad B sl aC az H⟩
def sN(X:ck)(h:V an)(aq:List Go.aU.Node)(df:Nat->Option F)(P d6:Nat->Prop):List Go.aU.Node->List (List F)->Prop
 |[],aR=>aR=[]
 |g::l,aR=>∃row fV,aR=row::fV/\BV X h aq df P d6 g row/\sN X h aq df P d6 l fV
def sN.ad{aq:List Go.aU.Node}{df iO:Nat->Option F}{qL qQ:Nat->Prop}(B:∀e,P e->ab X T e=ab X h e)(sl:∀e,d6 e->ab X T e=ab X h e)(aC:∀e,P e->iO e=df e)(az:∀e,P e->qL e)(H:∀e,d6 e->qQ e):∀{l:List Go.aU.Node}{aR:List (List F)},sN X h aq df P d6 l aR->sN X T aq iO qL qQ l aR:=by
 intro l
 induction l with
 |nil=>intro aR a;exact a
 |cons g l ak=>
  rintro aR ⟨row,fV,Q,U,ar⟩
  exact⟨row,fV,Q,U.ad B sl aC az H,ak ar⟩
def sN.snoc{aq:List Go.aU.Node}{df:Nat->Option F}{g:Go.aU.Node}{row:List F}(a:BV X h aq df P d6 g row):∀{l:List Go.aU.Node}{aR:List (List F)},sN X h aq df P d6 l aR->sN X h aq df P d6 (l++[g]) (aR++[row]):=by
 intro l
 induction l with
 |nil=>rintro aR rfl;exact⟨row,[],rfl,a,rfl⟩
 |cons K l ak=>
  rintro aR ⟨iB,fV,rfl,U,ar⟩
  exact⟨iB,fV++[row],rfl,U,ak ar⟩
def af1(X:ck)(h:V an)(aq:List Go.aU.Node)(df:Nat->Option F)(P d6:Nat->Prop)(p:F):Prop:=∃b a6 cH aR,p= .ptr b 0/\P b/\ao X h (.ptr b 0)=some a6/\dO X h P cH a6 6 aR/\sN X h aq df P d6 aq aR
def rp(aq:List Go.aU.Node):Int×Int:=if (t7 aq).1≠0 then t7 aq else match y1 aq with|some K=>(26,K)|none=>(0,0)
def ps:List Go.aU.Node->Nat
 |[]=>0
 |g::l=>m8 g.eqs+ps l
def ali(g:Go.aU.Node):∀l:List Go.aU.Node,ps (l++[g])=ps l+m8 g.eqs:=by
 intro l
 induction l with
 |nil=>simp[ps]
 |cons K l ak=>rw[YO,ps,ps,ak];omega
def ajK(X:ck)(h:V an)(aq:List Go.aU.Node)(P d6:Nat->Prop)(p v:F):Prop:=∃am r df,v= .ptr am 0/\d6 am/\d6 r/\ao X h (.ptr am 0)=some (.map r)/\k3 X h P r df/\af1 X h aq df P d6 p/\mH X h r (ps aq)
def D9(X:ck)(h:V an)(aq:List Go.aU.Node)(P d6:Nat->Prop)(p ae:F):Prop:=if (rp aq).1=0 then ∃v,ae= .tuple [v, .agg [.Z 0, .Z 0]]/\ajK X h aq P d6 p v else ae= .tuple [.cz, .agg [.Z (rp aq).1, .Z (rp aq).2]]
def Eb.ad{fE b0 am r:Nat}{p:F}{aq:List Go.aU.Node}(a:Eb X h fE P b0 am r p aq)(B:∀e,e<fE->e≠r->e≠b0->ab X T e=ab X h e)(b5:∃c,ab X T b0=some (.cells c 3 .own)/\c.get 0=some (.ptr am 0)/\c.get 1=some p):Eb X T fE P b0 am r p aq:=
 ⟨a.a8,a.lc,a.F7,a.Bm,a.Gk,a.tz,a.Ce,a.qr,a.Pm,a.bC,b5,zE (B am a.F7 a.qr a.Pm) a.D3,a.prog.ad (λe H=>by have:=a.bC e H;exact B e this.2.1 this.2.2.1 this.2.2.2) (λ_ a=>a)⟩
set_option maxRecDepth 100000 in
def WV(aA:iE X)(bT:lP X)(eS:rC X)(iJ:xD X)(ew:Ec X){aq:List Go.aU.Node}{p:F}(aL:(o X).a8<=j)(b5:nE X h P aq p)(bC:∀e,P e->(o X).a8<=e/\e<j)(bJ:∀g∈aq,pm ln g)(b6:aq≠[])(aC:n8 aq=none):
 aW X 31 [p] h j (λae T au=>D9 X T aq P (da j au) p ae/\bq X h j T au) (λ_ _ _=>False):=by
 refine Hn (aiZ X) (aA.todz.none _ _ rfl) ?_
 rw[ai0]
 unfold VD
 obtain⟨qm,nT⟩:=St aC
 refine cL ⟨?_⟩
 refine fc (λa2=>ab X a2 j=zx [.cz] 1/\ab X a2 (j+1)=zx [.Z 0, .Z 0] 2/\bq X h j a2 (j+1+1)) ⟨by simp(disch:=omega) only[aI,bm]<;>rfl,by rw[bm Zo];rfl,dU⟩ ?_
 rintro a2 ⟨b4,b7,bU⟩
 refine(ak7 (j:=j+1+1) aA bT eS iJ Zo (b5.ad (bu:=P) (λe H=>bU.ad e (bC e H).2) (λ_ a=>a)) (λe H=>zt (bC e H).2) bJ b6 aC).Zm ?_
 rintro ae aS bg ⟨rfl,bK⟩
 have ge:=bK.le
 have cN:ab X aS j=zx [.cz] 1:=by rw[bK.ad _ Zo];exact b4
 have ej:ab X aS (j+1)=zx [.Z 0, .Z 0] 2:=by rw[bK.ad _ Zo];exact b7
 have jX:=bU.trans bK
 clear b4 b7 bU bK
 have lD:(t7 aq).1≠0->rp aq=t7 aq:=λa=>by unfold rp;rw[Zq a]
 have IR:(t7 aq).1=0->rp aq=match y1 aq with|some K=>(26,K)|none=>(0,0):=λa=>by unfold rp;rw[Zg (by simp[a])]
 generalize t7 aq=EI at lD IR ⊢
 obtain⟨cc,xS⟩:=EI
 simp only at lD IR
 by_cases aB:cc=0
 ·have A0:=IR aB
  subst aB
  clear lD IR
  have d:decide ((0:Int)≠0)=false:=rfl
  refine ci @d ⟨?_⟩
  generalize fC:Go.bi.bn X _ bg _=bb
  have c4:∀e,e<bg->ab X bb e=ab X aS e:=λe H=>by rw[<-fC];exact zz
  clear fC
  rw[<-c4 j Zo]at cN
  rw[<-c4 (j+1) Zo]at ej
  have Be:∀e,e<j->ab X bb e=ab X h e:=λe H=>by rw[c4 e Zo];exact jX.ad e H
  have Q6:=b5.ad (T:=bb) (bu:=P) (λe H=>Be e (bC e H).2) (λ_ a=>a)
  obtain⟨iP,Gv,NA,aR,rfl,nd,a0,cC,kS⟩:=Q6
  have Mt:=kS.wide
  have eD:=cC.len
  have i6:=cC.many
  rw[Mt.1]at eD i6
  have yx:=bC iP nd
  refine Xf ?_
  generalize hL:yR _ _=tT
  have kj:tT.bd=[⟨.fn (.func 76) [.ptr j 0, .ptr (j+1) 0],[]⟩]:=by rw[<-hL];rfl
  have t0:tT.g 0=some (.ptr iP 0):=by rw[<-hL];rfl
  have ez:tT.g 2=some (.ptr j 0):=by rw[<-hL];rfl
  have t3:tT.g 3=some (.ptr (j+1) 0):=by rw[<-hL];rfl
  clear hL
  generalize yu:bg+1=bs at*
  refine gA @t0 @ez @cN @a0 @eD ⟨?_⟩
  generalize fl:Go.bi.bn X _ (bs+1+1) _=bF
  have uj:ab X bF bs=some (.map [] 0):=by rw[<-fl];simp(disch:=omega) only[bm,aI]
  have HS:ab X bF (bs+1)=zx [.map bs] 1:=by rw[<-fl];simp(disch:=omega) only[bm,aI]<;>rfl
  have X5:ab X bF (bs+1+1)=zx [.ptr (bs+1) 0, .ptr iP 0, .cz] 3:=by rw[<-fl,bm Zo];rfl
  have anG:ab X bF j=some (.cells (dQ (V.ofList [.cz] 0 .nil) 0 [.ptr (bs+1) 0]) 1 .own):=by rw[<-fl];simp(disch:=omega) only[bm,aI]<;>rfl
  have ec:∀e,e<bs->e≠j->ab X bF e=ab X bb e:=λe Q U=>by rw[<-fl];exact zz
  clear fl
  have anF:ab X bF (j+1)=zx [.Z 0, .Z 0] 2:=by rw[ec _ Zo Zo];exact ej
  have ld:∀e,P e->ab X bF e=ab X bb e:=λe H=>by have:=bC e H;exact ec e Zo Zo
  have abD:=kS.ad (T:=bF) (bu:=P) ld (λ_ a=>a)
  have aog:Eb X bF (bs+1+1+1) P (bs+1+1) (bs+1) bs (.ptr iP 0) aq:=⟨Zo,Zo,Zo,Zo,Zo,Zo,Zo,Zo,Zo,λe H=>by have:=bC e H;exact⟨this.1,Zo,Zo,Zo⟩,⟨_,X5,rfl,rfl⟩,by rw[bR HS];rfl,⟨iP,Gv,NA,aR,rfl,nd,zE (ld iP nd) a0,cC.ad ld,abD⟩⟩
  have aov:k3 X bF P bs (λ_=>none):=⟨[],0,uj,λ_=>rfl,Zs⟩
  have aoC:mH X bF bs 0:=⟨[],0,uj,rfl⟩
  refine fU (λm M T aV=>∃(aa:Nat) (df:Nat->Option F) (Ef:Nat->Prop),M.g 5=some (.ptr (bs+1+1) 0)/\M.g 25=some Gv/\M.g 26=some (.Z (aq.length:Int))/\M.g 27=some (.Z (aa:Int))/\M.bd=[⟨.fn (.func 76) [.ptr j 0, .ptr (j+1) 0],[]⟩]/\M.g 2=some (.ptr j 0)/\M.g 3=some (.ptr (j+1) 0)/\aa+m=aq.length/\(aq.take aa).findSome? (xe aq)=none/\(∃c,ab X T (bs+1+1)=some (.cells c 3 .own)/\c.get 0=some (.ptr (bs+1) 0)/\c.get 1=some (.ptr iP 0))/\ca X [bs,bs+1+1] bF (bs+1+1+1) T aV/\k3 X T P bs df/\(∀e,Ef e->P e)/\mI X T Ef (aq.drop aa) (aR.drop aa)/\sN X T aq df (λe=>P e/\¬Ef e) (da (bs+1+1+1) aV) (aq.take aa) (aR.take aa)/\mH X T bs (ps (aq.take aa))/\∀e,Ef e->df e=none)
   aq.length ⟨0,λ_=>none,P,bw,bw,bw,gc,kj,bf ez,bf t3,Zo,rfl,⟨_,X5,rfl,rfl⟩,ca.refl _ _ _,aov,λ_ a=>a,by simpa using abD,by rw[ZZ,ZZ];rfl,by rw[ZZ];exact aoC,λ_ _=>rfl⟩ ?_
  clear kj t0 ez t3 cN ej
  rintro m M bX b2 ⟨aa,df,Ef,t5,l9,kZ,DZ,J6,ez,t3,bG,k7,lU,dC,H7,QE,mP,IY,CD,Ix⟩
  have h5:=dC.le
  have Je:∀e,P e->ab X bX e=ab X bb e:=λe H=>by have:=bC e H;rw[dC.ad e Zo (by simp;omega),ld e H]
  have Qa:ab X bX j=some (.cells (dQ (V.ofList [.cz] 0 .nil) 0 [.ptr (bs+1) 0]) 1 .own):=by rw[dC.ad j Zo (by simp;omega)];exact anG
  have δ:ab X bX (j+1)=zx [.Z 0, .Z 0] 2:=by rw[dC.ad (j+1) Zo (by simp;omega)];exact anF
  have Rl:∀e,e<j->ab X bX e=ab X h e:=λe H=>by rw[dC.ad e Zo (by simp;omega),ec e Zo Zo,Be e H]
  cases m with
  |zero=>
   have d:=zu aa aq.length
   rw[ZC Zo]at k7 CD
   rw[ZC Zo,ZC Zo]at IY
   have j2:y1 aq=none:=k7
   rw[j2]at A0
   simp only[]at A0
   have gF:ao X bX (.ptr j 0)=some (.ptr (bs+1) 0):=by rw[bR Qa,jS];rfl
   refine e7 @DZ @kZ @d @ez @gF @Qa (Za @t3 @δ) ⟨?_⟩
   generalize f6:Go.bi.bn X _ (j+1) _=cf
   have fW:ab X cf j=some (.cells (dQ (dQ (V.ofList [.cz] 0 .nil) 0 [.ptr (bs+1) 0]) 0 [.ptr (bs+1) 0]) 1 .own):=by rw[<-f6];simp(disch:=omega) only[bm,aI]<;>rfl
   have fv:ab X cf (j+1)=some (.cells (dQ (V.ofList [.Z 0, .Z 0] 0 .nil) 0 [.Z 0, .Z 0]) 2 .own):=by rw[<-f6,bm Zo];rfl
   have z3:∀e,e≠j->e≠j+1->ab X cf e=ab X bX e:=λe Q U=>by rw[<-f6];exact zz
   clear f6
   have sk:∀e,P e->ab X cf e=ab X bX e:=λe H=>by have:=bC e H;exact z3 e Zo Zo
   have axR:ao X cf (.ptr (bs+1) 0)=some (.map bs):=by rw[cJ,z3 _ Zo Zo,dC.ad (bs+1) Zo Zs, <-cJ,bR HS];rfl
   refine awd (v:= .ptr (bs+1) 0) (w:= .agg [.Z 0, .Z 0]) aA.todz J6 (bf ez) (bf t3) (by rw[bR fW,jS];rfl) (by rw[n5,bR fv,bR fv,jS,jS];rfl) ⟨?_,Zo,λe H=>by rw[z3 e Zo Zo];exact Rl e H⟩
   unfold D9
   rw[Zq (by rw[A0])]
   exact⟨_,rfl,bs+1,bs,df,rfl,⟨Zo,Zo⟩,⟨Zo,Zo⟩,axR,H7.ad (z3 _ Zo Zo) sk,⟨iP,Gv,NA,aR,rfl,nd,by rw[cJ,sk iP nd,Je iP nd, <-cJ];exact a0,cC.ad (λe H=>by rw[sk e H,Je e H]),IY.ad (λe H=>sk e H.1) (λe H=>z3 e (zt H.1) (zt H.1)) (λ_ _=>rfl) (λe H=>H.1) (λe H=>⟨zt H.1,H.2⟩)⟩,CD.ad (z3 _ Zo Zo)⟩
  |succ m=>
   have d:=zv aa aq.length
   have bD:=zy aa
   obtain⟨g,nk⟩:=zw aq aa
   have CN:=Zl nk
   have aM:aq.drop aa=g::aq.drop (aa+1):=by
    obtain⟨ah,H⟩:=Zb.1 nk
    rw[Zv ah,H]
   rw[aM]at mP
   obtain⟨row,fV,bu,C5,fZ,jK,ao0⟩:=mP
   have uN:aR[aa]? =some row:=by
    have:(aR.drop aa)[0]? =some row:=by rw[C5];rfl
    simpa using this
   have uM:fV=aR.drop (aa+1):=by
    obtain⟨ah,H⟩:=Zb.1 uN
    rw[Zv ah]at C5
    simp only[Yw]at C5
    exact C5.2.symm
   subst uM
   have pC:∀e,bu e->P e:=λe H=>QE e (fZ e H)
   have dZ:=cC.f2 aa (by rw[Mt.1];omega)
   have ic:=(cC.ad Je).row Zd uN
   have jL:=jK.iz
   have CW:=jK
   have mr:aq.take (aa+1)=aq.take aa++[g]:=by rw[Z5,nk];rfl
   have w1:aR.take (aa+1)=aR.take aa++[row]:=by rw[Z5,uN];rfl
   obtain⟨cY,dj,iQ,ev,c0,dL,ef,hQ,fV,rfl,_⟩:=jK
   refine iZ @DZ @kZ @l9 @d @dZ @ic ⟨?_⟩
   refine fF (h6 (B:=6) (b:=b2) (Y:=0) (n:=6) (c:=V.ofList [.str [], .Z 0, .aP, .aP, .aP, .aP] 0 .nil) (bm Zo) Zo rfl Zd Zd jL) ?_
   generalize f6:Go.bi.bn X _ b2 _=cf
   have dY:ab X cf b2=zx [.str g.name, .Z g.at_,cY,dj,iQ,ev] 6:=by rw[<-f6,bm Zo];rfl
   have dK:∀e,e<b2->ab X cf e=ab X bX e:=λe H=>by rw[<-f6];exact zz
   clear f6
   have eR:Eb X cf (bs+1+1+1) P (bs+1+1) (bs+1) bs (.ptr iP 0) aq:=aog.ad (λe Q U ar=>by rw[dK e Zo];exact dC.ad e Q (by simp;exact⟨U,ar⟩)) (by rw[dK _ Zo];exact lU)
   have QB:k3 X cf P bs df:=H7.ad (dK _ Zo) (λe H=>by have:=bC e H;exact dK e Zo)
   have ey:ca X [bs,bs+1+1] bF (bs+1+1+1) cf (b2+1):=⟨Zo,λe Q U=>by rw[dK e Zo];exact dC.ad e Q U⟩
   refine cV @t5 (bR dY) ⟨?_⟩
   refine(auu (j:=b2+1) (bv:=P) (P:=P) (bu:=bu) aA.todz ew b6 (λg b5=>zt (nT g b5).vars) (λ_ a=>a) pC Zo eR QB (CD.ad (dK _ Zo)) (λe H=>Ix e (fZ e H)) (CW.ad (bu:=bu) (λe H=>by have:=bC e (pC e H);exact dK e Zo) (λ_ a=>a)) (λam b1=>((bJ g CN).eqs am b1).right) (by rw[K2];have:=(nT g CN).vars;simp only[pN];omega)).mono ?_ ?_
   ·rintro ae cx eu ⟨rfl,apn,Sw,E8,Fp,LN,ek,aoH⟩
    have nn:=ek.le
    have acL:∀e,e<b2->e≠bs->e≠bs+1+1->ab X cx e=ab X bX e:=λe Q U ar=>by rw[ek.ad e Zo (by simp;exact⟨U,ar⟩),dK e Q]
    have n2:∀e,P e->ab X cx e=ab X bX e:=λe H=>by have:=bC e H;exact acL e Zo Zo Zo
    refine cV @DZ @bD ⟨?_⟩
    refine⟨m,Zo,aa+1,Sw,λe=>Ef e/\¬bu e,bf t5,bf l9,bf kZ,bw,J6,bf ez,bf t3,Zo,by rw[HM nk k7];exact LN.1,apn,ey.trans (ek.down Zo (λb aj=> .inl aj)),E8,λe H=>QE e H.1,ao0.ad (λe H=>n2 e (QE e H.1)) (λ_ a=>a), ?_,by rw[mr,ali];exact aoH,λe H=>(Fp e H.2).trans (Ix e H.1)⟩
    rw[mr,w1]
    exact sN.snoc (LN.ad (λ_ _=>rfl) (λ_ _=>rfl) (λ_ _=>rfl) (λe H=>⟨pC e H,λa=>a.2 H⟩) (λe H=>⟨zt H.1,H.2⟩)) (IY.ad (λe H=>n2 e H.1) (λe H=>acL e H.2 (zt H.1) (zt H.1)) (λe H=>Fp e (λa=>H.2 (fZ e a))) (λe H=>⟨H.1,λa=>H.2 a.1⟩) (λe H=>⟨H.1,zt H.2⟩))
   ·rintro ae cx eu ⟨K,aE,rfl,ek⟩
    have nn:=ek.le
    have j2:y1 aq=some K:=Ld nk k7 aE
    rw[j2]at A0
    simp only[]at A0
    refine ava (dt:=dQ (V.ofList [.cz] 0 .nil) 0 [.ptr (bs+1) 0]) (dG:=V.ofList [.Z 0, .Z 0] 0 .nil) aA.todz J6 (by have bp:oa 2 [31,32,33]=false:=rfl;simp[p7,sC,ez,bp]) (by have bp:oa 3 [31,32,33]=false:=rfl;simp[p7,sC,t3,bp]) aL Zo Zo Zo Zo ?_ ?_ (λT aV gl aN=>⟨?_,Zo,λe H=> ?_⟩)
    ·rw[ek.ad j Zo (by simp;omega),dK j Zo];exact Qa
    ·rw[ek.ad (j+1) Zo (by simp;omega),dK (j+1) Zo];exact δ
    ·unfold D9
     rw[A0,Zg (show ¬(26:Int)=0 by decide)]
    ·rw[aN e Zo Zo Zo,ek.ad e Zo (by simp;omega),dK e Zo];exact Rl e H
 ·have A0:=lD aB
  clear lD IR
  have d:decide (cc≠0)=true:=by simp[aB]
  refine cV @d @cN ⟨?_⟩
  refine gP (by simp[F.same,n9,pR]) ?_
  refine ci @ej ⟨?_⟩
  generalize fC:Go.bi.bn X _ (j+1) _=bb
  have fW:ab X bb j=some (.cells (dQ (V.ofList [.cz] 0 .nil) 0 [.cz]) 1 .own):=by rw[<-fC];simp(disch:=omega) only[bm,aI]<;>rfl
  have fv:ab X bb (j+1)=some (.cells (dQ (V.ofList [.Z 0, .Z 0] 0 .nil) 0 [.Z cc, .Z xS]) 2 .own):=by rw[<-fC,bm Zo];rfl
  have z3:∀e,e<j->ab X bb e=ab X h e:=λe Q=>by rw[<-fC];simp(disch:=omega) only[aI];exact jX.ad e Q
  clear fC
  refine awc (v:= .cz) (w:= .agg [.Z cc, .Z xS]) rfl (gc) (gc) (by rw[bR fW,jS];rfl) (by rw[n5,bR fv,bR fv,jS,jS];rfl) ⟨?_,Zo,z3⟩
  unfold D9
  rw[A0,Zg aB]
end
def av4{aq:List Go.aU.Node}(a:(rp aq).1=0):(t7 aq).1=0:=by
 unfold rp at a
 split at a
 ·exact a
 ·rename_i aB;simpa using aB
def hN(g:Go.aU.Node):Go.aU.Node:=⟨g.name,g.at_,g.eG,g.out,g.loc,g.eqs.reverse⟩
def amJ(nm:bk):∀(aq:List Go.aU.Node) (B:Nat),wr nm B (aq.map hN)=wr nm B aq:=by
 intro aq
 induction aq with
 |nil=>intro B;rfl
 |cons g aq ak=>intro B;rw[ZK,wr,wr,ak];rfl
def PP(aq:List Go.aU.Node)(nm:bk):nb (aq.map hN) nm=nb aq nm:=amJ nm aq 0
def qG(v:eJ):Int×fe:=(v.kind,v.d)
def au5(B:Nat)(t:bk->Option eJ)(x:bk×Nat)(w:bk):((tB B t x) w).map qG=(t w).map qG:=by
 unfold tB
 cases a:t x.1 with
 |none=>rfl
 |some v=>
  simp only[]
  split
  ·by_cases bJ:w=x.1
   ·subst bJ;simp[a,qG]
   ·simp[bJ]
  ·rfl
def XX{α:Type}(s:(bk->Option eJ)->α->(bk->Option eJ))(aD:∀t x w,(s t x w).map qG=(t w).map qG):∀(l:List α) (t:bk->Option eJ) (w:bk),(l.foldl s t w).map qG=(t w).map qG:=by
 intro l
 induction l with
 |nil=>intro t w;rfl
 |cons K l ak=>intro t w;rw[Yo,ak,aD]
def aeT(g:Go.aU.Node)(w:bk):(gX g w).map qG=((pM g).1 w).map qG:=
 XX _ (λt x w=>XX _ (λt e w=>au5 _ _ _ _) _ _ _) _ _ _
def TH(g:Go.aU.Node)(w:bk):(gX (hN g) w).map qG=(gX g w).map qG:=by rw[aeT,aeT];rfl
def pY(t e2:bk->Option eJ):Prop:=∀w,(e2 w).map qG=(t w).map qG
section
variable{t e2:bk->Option eJ}
def pY.some(a:pY t e2)(w:bk):(e2 w).isSome=(t w).isSome:=by
 have:=congrArg Option.isSome (a w)
 simpa using this
def pY.adC(a:pY t e2)(w:bk):e2 w=none↔t w=none:=by
 have:=a.some w
 cases Q:t w<;>cases U:e2 w<;>simp_all
def pY.of(a:pY t e2)(w:bk):l2 e2 w=l2 t w:=by
 have:=a w
 unfold l2
 cases Q:t w with
 |none=>rw[(a.adC w).2 Q]
 |some v=>
  cases U:e2 w with
  |none=>rw[Q,U]at this;cases this
  |some f9=>
   rw[Q,U]at this
   simp only[ZV,Zf,qG,YL]at this
   simp[this.2]
def pY.kind(a:pY t e2){w:bk}{v:eJ}(bB:t w=Option.some v):∃f9,e2 w=Option.some f9/\f9.kind=v.kind:=by
 have:=a w
 cases U:e2 w with
 |none=>rw[bB,U]at this;cases this
 |some f9=>
  rw[bB,U]at this
  simp only[ZV,Zf,qG,YL]at this
  exact⟨f9,rfl,this.1⟩
def BW.rev{aq:List Go.aU.Node}{B:Nat}{J:bE}(aD:pY t e2)(a:BW t aq B J):BW e2 (aq.map hN) B J:=λx ah=>by
 obtain⟨Q,U⟩:=a x ah
 refine⟨λaL=>by rw[aD.some];exact Q aL,λaN=> ?_⟩
 rw[PP]
 exact U aN
end
def WZ(w:bk):∀l:List e9,js w (l.reverse.flatMap e9.left)=js w (l.flatMap e9.left):=by
 intro l
 induction l with
 |nil=>rfl
 |cons K l ak=>
  rw[zp,List.flatMap_append,Hp,ak,Yu,Hp]
  simp only[Yu,List.flatMap_nil,Hp,KO]
  omega
def atX(w:bk)(l:List e9):w∈l.reverse.flatMap e9.left↔w∈l.flatMap e9.left:=by
 simp[List.mem_flatMap]
def aus{aq:List Go.aU.Node}{B:Nat}{g:Go.aU.Node}(a:(rk aq B g).1=0):(rk (aq.map hN) B (hN g)).1=0:=by
 have aD:pY (gX g) (gX (hN g)):=TH g
 unfold rk at a ⊢
 have aL:rj (aq.map hN) B (hN g)=rj aq B g:=by unfold rj;rw[PP];rfl
 rw[aL]
 rw[ayc]at a ⊢
 obtain⟨Q,U⟩:=a
 have cD:=(aee (gX g) aq B g.eqs (λ_=>none,sZ (gX g) g (rj aq B g)) (λ_=>Zs)).1 Q
 obtain⟨cp,dF,fL⟩:=cD
 have cp:=Xc.1 cp
 refine⟨(aee (gX (hN g)) (aq.map hN) B (hN g).eqs (λ_=>none,sZ (gX (hN g)) (hN g) (rj aq B g)) (λ_=>Zs)).2 ⟨Xc.2 ⟨cp.1,cp.2.1,λx ah=> ?_⟩,λw bJ=> ?_,λam b1=> ?_⟩,λx ah=> ?_⟩
 ·rw[aD.adC];exact cp.2.2 x ah
 ·obtain⟨v,bV,cw,c4⟩:=dF w ((atX w g.eqs).1 bJ)
  obtain⟨f9,e8,fQ⟩:=aD.kind bV
  refine⟨f9,e8,by rw[fQ];exact cw, ?_⟩
  have:=WZ w g.eqs
  show _+js w (g.eqs.reverse.flatMap e9.left)<=1
  rw[this];exact c4
 ·exact(fL am (List.mem_reverse.1 b1)).rev aD
 ·have:=U x ah
  rw[avM]at this ⊢
  show ¬(x.1≠1/\_+js x.2.name (g.eqs.reverse.flatMap e9.left)=0)
  rw[WZ]
  exact this
def ak6{aq:List Go.aU.Node}:∀(l:List Go.aU.Node) (B:Nat),(Ar aq B l).1=0->(Ar (aq.map hN) B (l.map hN)).1=0:=by
 intro l
 induction l with
 |nil=>intro B _;rfl
 |cons g l ak=>
  intro B a
  rw[Ar]at a
  rw[ZK,Ar]
  split at a
  ·rename_i Q;exact absurd a Q
  ·rename_i Q
   rw[Zg (by simp only[ne_eq,Decidable.not_not]at Q ⊢;exact aus Q)]
   exact ak _ a
def ak0(aq:List Go.aU.Node)(nm:bk)(K:List d9):Aq (aq.map hN) nm K=Aq aq nm K:=by
 unfold Aq
 rw[PP,Zx]
 cases aq[(nb aq nm).getD 0]? <;>rfl
section
variable{t e2:bk->Option eJ}
def awt(aD:pY t e2)(aq:List Go.aU.Node)(J:bE)(K:List d9):j6 (aq.map hN) e2 J K=j6 aq t J K:=by
 unfold j6
 simp only[aD.of,ak0]
mutual
def PJ(aD:pY t e2)(aq:List Go.aU.Node):∀J:bE,rR (aq.map hN) e2 J=rR aq t J
 | .mk B at_ nm no ty n args=>by rw[rR,rR,Wx aD aq args];simp only[awt aD]
def Wx(aD:pY t e2)(aq:List Go.aU.Node):∀l:List bE,po (aq.map hN) e2 l=po aq t l
 |[]=>by rw[po,po]
 |J::l=>by rw[po,po,PJ aD aq J,Wx aD aq l]
end
def amk(aD:pY t e2)(aq:List Go.aU.Node)(am:e9):qW (aq.map hN) e2 am=qW aq t am:=by
 unfold qW
 rw[PJ aD]
 have:l2 e2=l2 t:=funext aD.of
 rw[this]
end
def auv{aq:List Go.aU.Node}{g:Go.aU.Node}(a:xe aq g=none):xe (aq.map hN) (hN g)=none:=by
 have aD:pY (gX g) (gX (hN g)):=TH g
 have aM:Ch (gX (hN g)) (hN g)=Ch (gX g) g:=by
  unfold Ch
  simp only[aD.of]
  rfl
 unfold xe at a ⊢
 rw[aM]
 split at a
 ·cases a
 ·rename_i Q
  rw[List.findSome?_eq_none_iff]at a ⊢
  intro am b1
  rw[amk aD]
  exact a am (List.mem_reverse.1 b1)
def ax8{aq:List Go.aU.Node}(a:y1 aq=none):y1 (aq.map hN)=none:=by
 unfold y1 at a ⊢
 rw[List.findSome?_eq_none_iff]at a ⊢
 intro g b5
 obtain⟨iY,b6,rfl⟩:=ZT.1 b5
 exact auv (a iY b6)
def av5{aq:List Go.aU.Node}(a:(rp aq).1=0):(rp (aq.map hN)).1=0:=by
 have Q:=av4 a
 have U:y1 aq=none:=by
  unfold rp at a
  rw[Zg (by simp[Q])]at a
  cases az:y1 aq with
  |none=>rfl
  |some K=>rw[az]at a;cases a
 have ar:(t7 (aq.map hN)).1=0:=ak6 aq 0 Q
 unfold rp
 rw[Zg (by simp[ar]),ax8 U]
def aux{bA:iG}{g:Go.aU.Node}(a:pm bA g):pm bA (hN g):=⟨a.name,a.eG,a.out,a.loc,a.some,λam b1=>a.eqs am (List.mem_reverse.1 b1),a.ap⟩
def SH(n:Nat):∀l:List Nat,oa n l=true↔n∈l:=by
 intro l
 induction l with
 |nil=>simp[oa]
 |cons K l ak=>simp[oa,ak]
section
variable{X:ck}{h T gb a2 aS:V an}{j au aO bg:Nat}
end
section
variable{X:ck}{h T gb a2 aS:V an}{j au aO bg:Nat}
end
open Classical in
section
variable{X:ck}{h T gb a2 aS:V an}{j au aO bg:Nat}
end
section
variable{X:ck}{h T gb a2 aS:V an}{j au aO bg:Nat}
def at1{C:aZ}{h:V an}(x e:Int):rN C h .min [3,3] [.int .i64 x, .int .i64 e]=some (.int .i64 (min x e)):=by
 show ov false (.int .i64 x) [.int .i64 e]=_
 simp only[ov,fw,tr]
 congr 2
 simp only[Zh]
 split<;>simp_all<;>omega
def atw:∀{l:List Go.aU.Node}{B K:Int},oZ l=some (B,K)->B=30\/B=22:=by
 intro l
 induction l with
 |nil=>intro B K a;cases a
 |cons g l ak=>
  intro B K a
  unfold oZ at a
  split at a
  ·cases a;exact .inl rfl
  ·split at a
   ·cases a;exact .inr rfl
   ·exact ak a
def avh{s:bk}(aD:s.length<=5000){B K:Int}(a:BA s= .error (B,K)):B≠0:=by
 have Q:=adV aD
 rw[a]at Q
 unfold BB at Q
 split at Q
 ·cases Q
 ·cases Q;decide
 ·split at Q
  ·cases Q
  ·cases Q;decide
  ·split at Q
   ·rename_i aC
    cases Q
    unfold n8 at aC
    split at aC
    ·cases aC;decide
    ·rcases atw aC with rfl|rfl<;>decide
   ·cases Q
end
end
end Go.Proofs.YtpfajohmofnkfaaGreatDoor

namespace Go.Proofs.YtpfajohmofnkfaaGreatDoor
open Go.bi
noncomputable section
end
end Go.Proofs.YtpfajohmofnkfaaGreatDoor

namespace Go.Proofs.YtpfajohmofnkfaaGreatDoor
open Go.bi Go.aU
noncomputable section
section
variable{X:ck}{h T a2 aS:V an}{j au aO bg:Nat}{P d6:Nat->Prop}
def auo:dn X h .eql 76 true .aP .aP=some (.bool true):=Zk
def aw0(b Y l c:Nat):dn X h .eql 76 true (.slice b Y l c) .aP=some (.bool false):=Zk
def aw5(b Y l c:Nat):dn X h .eql 76 true (.en b Y l c) .aP=some (.bool false):=Zk
def Xy(b:Nat):dn X h .eql 65 true (.ptr b 0) .cz=some (.bool false):=Zk
def aup{a6:F}{n:Nat}(a:dX a6=some (.Z (n:Int))):(a6= .aP/\n=0)\/dn X h .eql 76 true a6 .aP=some (.bool false):=by
 cases a6 with
 |aP=>rw[qw]at a;injection a with a;injection a with _ a;exact .inl ⟨rfl,Zo⟩
 |slice b Y l c=>exact .inr (aw0 b Y l c)
 |en b Y l c=>exact .inr (aw5 b Y l c)
 |_=>simp[dX]at a
def auW(l:List d9):iz (mC l).flatten=true:=by
 induction l with
 |nil=>rfl
 |cons t l ak=>exact ak
def ald(aA:dz X){l:List d9}{a6:F}(aL:(o X).a8<=j)(a:kH X h P a6 l)(bC:∀e,P e->e<j):
 aW X 83 [a6] h j (λae T au=>(ae.cells=[ae]/\kH X T (da j au) ae l)/\bq X h j T au) (λ_ _ _=>False):=by
 refine zA aA (ajx X) ?_
 rw[ajy]
 unfold VZ
 obtain⟨b,cC⟩:=a
 have i6:=cC.many
 have eD:=cC.len
 rw[Zn]at i6 eD
 rcases aup (X:=X) (h:=h) eD with ⟨rfl,b6⟩|dD
 ·have:l=[]:=ZW b6
  subst this
  refine ci @auo ⟨?_⟩
  exact⟨⟨rfl,0,dO.nil _ _⟩,bq.refl _ _⟩
 ·refine ci @dD ⟨?_⟩
  generalize et:Go.bi.bn X h j _=a2
  have b4:ab X a2 j=zx [] (0*3):=by rw[<-et,bm aL]
  have bU:bq X h j a2 (j+1):=by rw[<-et];exact dU
  clear et
  have aD:=S5 (cC.ad (λe H=>bU.ad e (bC e H))) Zd
  rw[Zn]at aD
  by_cases b6:l=[]
  ·subst b6
   have J:hC X a2 (j+1) 3 (.slice j 0 0 0) a6=some (.val (.slice j 0 0 0)):=by simp only[hC,aD];rfl
   refine Ta J ?_
   exact⟨⟨rfl,j,Gw (aR:=[]) b4 rfl Zs Zo ⟨Zo,Zo⟩⟩,bU⟩
  ·have aN:0<l.length:=YG.2 b6
   have oJ:=TL l
   obtain⟨fo,aS,cK,aE,jm,fz,h4⟩:=gI.append (j:=j+1) (l:=[]) (cK:=[j]) (m:=(mC l).flatten) (.inr ⟨j,0,_, .own,rfl,rfl,rfl,b4,mT []⟩) Zd aD oJ aN (auW l) (by rw[oJ];simp;omega) Zo Zs
   refine ki aE ?_
   have abE:j∉[j]->False:=λa=>a (Zu ..)
   have ib:fo.cells=[fo]:=by
    rcases jm with ⟨rfl,_,_⟩|⟨_,_,_,_,rfl,_⟩<;>rfl
   obtain⟨dL,U⟩:=jm.l5 (P:=da j (j+1+1)) (aR:=mC l) Zd (GR l) (by simp[mC];omega) (λe H=>by rcases(show e=j+1\/e=j by simpa using fz e H)with rfl|rfl<;>exact⟨Zo,Zo⟩)
   exact⟨⟨ib,dL,U⟩,⟨Zo,λe H=>by rw[h4 e Zo (by simp;omega)];exact bU.ad e H⟩⟩
def aep(aA:dz X){am r d1:Nat}{df:Nat->Option F}{w:F}{l:List d9}(aL:(o X).a8<=j)(b1:ao X h (.ptr am 0)=some (.map r))(pB:k3 X h P r df)(bl:nD X h d1)(bx:(o X).a8<=d1)(bJ:df d1=some w)(bc:kH X h d6 w l)(aoU:∀e,d6 e->e<j):
 aW X 37 [.ptr am 0, .ptr d1 0] h j (λae T au=>(ae.cells=[ae]/\kH X T (da j au) ae l)/\bq X h j T au) (λ_ _ _=>False):=by
 refine zA aA (ai5 X) ?_
 rw[ai6]
 unfold VG
 have aC:=atJ pB bl bx .aP false
 rw[bJ]at aC
 have aC:kr X h 47 .aP (.map r) (.ptr d1 0) false=some w:=aC
 refine er @Xy @b1 @aC ⟨?_⟩
 refine(ald aA aL bc aoU).Zm ?_
 rintro ae a2 aO a
 refine cL ⟨?_⟩
 exact a
end
end
end Go.Proofs.YtpfajohmofnkfaaGreatDoor

namespace Go.Proofs.YtpfajohmofnkfaaGreatDoor
open Go.bi
noncomputable section
variable (X : ck) (h : V an) (j : Nat) (ai ay : bI) (a0 bh cl a3 a4 a5 hB hY iU : F)
def VX(a:aZ)(b:F)(c:V an)(d:Nat)(e f:bI):Prop:=
 E (dX b) λg=>E (rN a c .min [3,3] [g,(.Z 3000)]) λg=>E (sD a c 1 b none (some g) none) λg=>aW a 15 [g] c d (λc d g=>E (cM 0 c) λh=>E (cM 1 c) λc=>E (dT [(.Z 0),(.Z 0)] g) λi=>cQ a d g i.1 i.2 λd g i=>E (ce a g 2 d c) λc=>E (ba 0 d) λg=>E (ao a c g) λg=>E (aF .neq g (.Z 0)) λg=>aY (λb c d=>al (b 3) λg=>E (dn a c .eql 23 true g .cz) λg=>aY (λb c d=>al (b 3) λg=>aW a 31 [g] c d (λc d g=>E (cM 0 c) λh=>E (cM 1 c) λc=>al (b 4) λi=>E (ce a d 2 i c) λc=>al (b 4) λd=>E (ba 0 d) λd=>E (ao a c d) λd=>E (aF .neq d (.Z 0)) λd=>aY (λb c d=>al (b 3) λg=>E (cm g) λg=>E (ba 0 g) λg=>E (ao a c g) λg=>aW a 43 [g] c d (λc d g=>E (eB [.aP] [(0,1,c)]) λc=>ip a d g c λc d g=>E (cm c) λh=>E (ba 0 h) λh=>E (ao a d h) λh=>E (dX h) λh=>aY (λb c d=>al (b 6) λg=>aW a 31 [g] c d (λc d g=>E (cM 0 c) λh=>E (cM 1 c) λc=>E (dT [(.Z 0),(.Z 0)] g) λi=>cQ a d g i.1 i.2 λd g i=>E (ce a g 2 d c) λc=>E (ba 0 d) λg=>E (ao a c g) λg=>E (aF .neq g (.Z 0)) λg=>hh g h c i (λc i j=>kd g (λb=>aW a 46 [c] i j b f) i j (λc i j=>w7 g (b 5) i j (λi j k=>kd g (λb=>aW a 46 [i] j k b f) j k (λi j k=>dp g (aF .neq c i) j k (λc i j=>dd (λc=>aY (λb c d=>al (b 3) λg=>E (cm g) λg=>E (ba 0 g) λg=>E (ao a c g) λg=>E (dX g) λh=>aY (λ_ b c=>aW a 30 [] b c e f) λi=>fJ (λb c d g=>al (c 99) λh=>al (c 98) λj=>E (aF .lss h j) λh=>aY (λc d g=>aY (λa c d=>al (a 99) λe=>E (aF .add e (.Z 1)) λe=>b (ac a 99 e) c d) λb=>al (c 97) λh=>al (c 99) λi=>E (dW 6 h i) λh=>E (cg a d 6 h) λh=>E (dT [(.str []),(.Z 0), .aP, .aP, .aP, .aP] g) λi=>cQ a d g i.1 i.2 λd g i=>E (ce a g 6 d h) λg=>E (ba 5 d) λh=>E (ao a g h) λh=>E (dX h) λj=>aY b λb=>fJ (λc d g h=>al (d 106) λi=>al (d 105) λj=>E (aF .lss i j) λi=>aY (λb d g=>aY (λa b d=>al (a 106) λe=>E (aF .add e (.Z 1)) λe=>c (ac a 106 e) b d) λc=>al (b 104) λh=>al (b 106) λi=>E (dW 4 h i) λh=>E (cg a d 4 h) λh=>E (dT [.aP, .aP,(.Z 0), .cz] g) λi=>cQ a d g i.1 i.2 λd g i=>E (ce a g 4 d h) λg=>eV (i+10) λh=>al (b 5) λi=>E (ba 3 d) λj=>E (ao a g j) λj=>al (b 8) λk=>E (ba 3 d) λl=>E (ao a g l) λm=>aW a 37 [i,j] g h (λg h i=>E (ao a h l) λj=>gG j (some m) (aW a 37 [k,m] h i (λh i j=>aW a 47 [g,h] i j (λa f g=>E (fG .not a) λa=>aY c λc=>a7 a (e (.bool false) f g) (c (zB b 13 d 119 a) f g)) f) f)) f) λa=>a7 i (a (ac d 107 i) g h) (b (ac d 107 i) g h)) (zD c 11 d 104 h 105 j 106 (.Z 0)) g i) λa=>a7 h (a (ac c 100 h) d g) (i (ac c 100 h) d g)) (zC b 97 g 98 h 99 (.Z 0)) c d) λa=>a7 c (e (.bool false) i j) (a (zC b 9 d 8 h 93 c) i j)) λa=>a7 g (a (.bool true)) (a c))))))) f) λe=>fJ (λb c d g=>al (c 50) λh=>al (c 49) λi=>E (aF .lss h i) λh=>aY (λc d e=>aY (λa c d=>al (a 50) λe=>E (aF .add e (.Z 1)) λe=>b (ac a 50 e) c d) λb=>al (c 50) λg=>eV (e+17) λe=>al (c 6) λh=>E (cm h) λh=>E (ba 0 h) λh=>E (ao a d h) λi=>al (c 6) λj=>E (cm j) λj=>E (ba 0 j) λj=>E (ao a d j) λj=>E (dW 6 j g) λj=>E (ba 5 j) λj=>E (ao a d j) λj=>aW a 44 [j] d e (λd e j=>E (dW 6 i g) λk=>E (ba 5 k) λk=>E (ao a e h) λh=>gG h (some i) (E (ce a e 1 k d) λd=>al (c 6) λe=>E (cm e) λe=>E (ba 0 e) λe=>E (ao a d e) λe=>E (dW 6 e g) λe=>E (ba 5 e) λe=>E (ao a d e) λe=>aW a 45 [e] d j (λ_ a d=>b (ac c 7 g) a d) f)) f) λa=>a7 h (a (ac c 51 h) d g) (e (ac c 51 h) d g)) (zC b 6 c 49 h 50 (.Z 0)) d g) f) λi=>a7 d (aW a 30 [] c g e f) (i (zB b 5 h 36 d) c g)) f) λa=>a7 g (e (.bool false) c d) (a (ac b 28 g) c d)) λj=>a7 g (aW a 30 [] c i e f) (j (zD (cS [b]) 2 (.bool false) 4 d 3 h 25 g) c i)) f
def ajA:dh X 8 [a0] h j ai ay=VX X a0 h j ai ay:=Zk
def ajz:cU X 8 1=true:=Zk
def VI(a:aZ)(b:F)(c:V an)(d:Nat)(e _:bI):Prop:=
 E (dn a c .eql 31 true b .aP) λf=>aY (λb c d=>E (fg 0 [] [] d) λf=>cQ a c d f.1 f.2 λc d f=>al (b 0) λb=>gw (hC a d f 6 c b) d f λa b c=>e a b c) λa=>a7 f (e .aP c d) (a (zB (cS [b]) 2 .aP 4 f) c d)
def aja:dh X 43 [a0] h j ai ay=VI X a0 h j ai ay:=Zk
def ai9:cU X 43 1=true:=Zk
def VJ(a:aZ)(b:F)(c:V an)(d:Nat)(e _:bI):Prop:=
 E (dn a c .eql 35 true b .aP) λf=>aY (λb c d=>E (fg 0 [] [] d) λf=>cQ a c d f.1 f.2 λc d f=>al (b 0) λb=>gw (hC a d f 4 c b) d f λa b c=>e a b c) λa=>a7 f (e .aP c d) (a (zB (cS [b]) 2 .aP 4 f) c d)
def ajc:dh X 44 [a0] h j ai ay=VJ X a0 h j ai ay:=Zk
def ajb:cU X 44 1=true:=Zk
def OD(a:aZ)(b:F)(c:V an)(d:Nat)(e _:bI):Prop:=
 E (dX b) λf=>E (aF .sub f (.Z 1)) λf=>aY (λ_ a b=>e (.tuple []) a b) λe=>fJ (λb c d f=>al (c 2) λg=>al (c 3) λh=>E (aF .lss g h) λg=>aY (λc d e=>aY (λa c d=>al (a 2) λe=>E (aF .add e (.Z 1)) λe=>al (a 3) λf=>E (aF .sub f (.Z 1)) λf=>b (zB a 2 e 3 f) c d) λb=>eV (e+16) λe=>al (c 0) λf=>al (c 2) λg=>al (c 0) λh=>al (c 3) λi=>al (c 0) λj=>al (c 3) λk=>E (dW 4 j k) λj=>E (cg a d 4 j) λj=>al (c 0) λk=>al (c 2) λl=>E (dW 4 k l) λk=>E (cg a d 4 k) λk=>E (dW 4 f g) λf=>E (ce a d 4 f j) λd=>E (dW 4 h i) λf=>E (ce a d 4 f k) λa=>b c a e) λa=>a7 g (a (ac c 9 g) d f) (e (ac c 9 g) d f)) (zB (cS [b]) 2 (.Z 0) 3 f) c d
def VL:dh X 45 [a0] h j ai ay=OD X a0 h j ai ay:=Zk
def VK:cU X 45 1=true:=Zk
def VM(a:aZ)(b:F)(c:V an)(d:Nat)(e _:bI):Prop:=
 E (dn a c .eql 65 true b .cz) λf=>aY (λb c d=>al (b 0) λb=>E (cm b) λb=>E (ba 0 b) λb=>E (ao a c b) λb=>E (Sr a c b) λa=>e a c d) λa=>a7 f (e (.Z 0) c d) (a (zB (cS [b]) 2 (.Z 0) 4 f) c d)
def aje:dh X 46 [a0] h j ai ay=VM X a0 h j ai ay:=Zk
def ajd:cU X 46 1=true:=Zk
end
end Go.Proofs.YtpfajohmofnkfaaGreatDoor

namespace Go.Proofs.YtpfajohmofnkfaaGreatDoor
open Go.bi Go.aU
noncomputable section
section
variable{X:ck}{h T a2 aS:V an}{j au aO bg:Nat}{P bu d6 iT:Nat->Prop}
def aeN{C:aZ}{h:V an}{b Y B n:Nat}{c:V F}{v:F}(a:ab C h b=some (.cells c n (.grow [])))(aj:C.a8<=b)(aN:v.cells.length=B)(b6:0<B)(bl:Y+B<=n)(Q:iz v.cells=true):
 ce C h B (.ptr b Y) v=some (bn C h b (some (.cells (dQ c Y v.cells) n (.grow [])))):=by
 subst aN
 have cF:Nat.blt 0 v.cells.length=true:=by simp[Nat.blt];omega
 have fx:Nat.beq v.cells.length v.cells.length=true:=by simp
 have bD:Nat.ble (Y+v.cells.length) n=true:=by simpa using bl
 have jh:Nat.ble C.a8 b=true:=by simpa using aj
 simp only[ce,tU,a,jV,jh,bD,cF,fx,Q,Ya,eP,g8,oU]
def nC(X:ck)(h:V an)(b a1:Nat)(aR:List (List F)):Prop:=∃c,ab X h b=some (.cells c (aR.length*a1) (.grow []))/\v1 c aR.flatten/\∀r∈aR,r.length=a1
def nC.ad{b a1:Nat}{aR:List (List F)}(a:nC X h b a1 aR)(B:ab X T b=ab X h b):nC X T b a1 aR:=by
 obtain⟨c,Q,U⟩:=a
 exact⟨c,by rw[B];exact Q,U⟩
def nC.l5{b a1:Nat}{aR:List (List F)}(a:nC X h b a1 aR)(bp:aR.length<=300000)(bC:P b):dO X h P b (.en b 0 aR.length a1) a1 aR:=by
 obtain⟨c,Q,U,ar⟩:=a
 refine⟨λ_=>bC,bp,ar,n7 ..,λi aJ=>by rw[Dg _ aJ,ZI],λi r aa v aJ bG=> ?_⟩
 rw[bR Q]
 exact(U _).trans (Lf aR ar i r aa v aJ bG)
def Tr{a1:Nat}{r:List F}(Z:r.length=a1):∀(aR:List (List F)) (i B:Nat),(∀r∈aR,r.length=a1)->i<aR.length->(aR.set i r).flatten[B]? =if i*a1<=B/\B<i*a1+a1 then r[B-i*a1]? else aR.flatten[B]? :=by
 intro aR
 induction aR with
 |nil=>intro i B _ a;simp at a
 |cons K aR ak=>
  intro i B bJ aJ
  have aE:=bJ K (Zu ..)
  cases i with
  |zero=>
   rw[Z7,Z6,Z6,zd,ZI]
   by_cases aN:B<a1
   ·rw[Zq ⟨Zo,aN⟩,ZO Zo,Y2]
   ·rw[Zg Zo,ZE Zo,ZE Zo,Z,aE]
  |succ i=>
   rw[Z8,Z6,Z6]
   have J:(i+1)*a1=i*a1+a1:=zm i a1
   by_cases aN:B<a1
   ·rw[Zg Zo,ZO Zo,ZO Zo]
   ·rw[ZE Zo,ZE Zo,aE,ak i (B-a1) (λr a=>bJ r (Zr _ a)) (by simpa using aJ)]
    by_cases aB:i*a1<=B-a1/\B-a1<i*a1+a1
    ·rw[Zq aB,Zq Zo]
     congr 1;omega
    ·rw[Zg aB,Zg Zo]
def afr{a1 i:Nat}{aR:List (List F)}{r:List F}(bJ:∀r∈aR,r.length=a1)(Z:r.length=a1):∀gO∈aR.set i r,gO.length=a1:=λgO a=>by
 rcases YQ a with a|rfl
 ·exact bJ _ a
 ·exact Z
def nC.row{b a1 i:Nat}{aR:List (List F)}{r:List F}{ai:V an->Prop}(a:nC X h b a1 aR)(aj:(o X).a8<=b)(aJ:i<aR.length)(Z:r.length=a1)(aD:0<a1)(Q:iz r=true)(B:∀T,nC X T b a1 (aR.set i r)->(∀e,e≠b->ab X T e=ab X h e)->ai T):E (ce X h a1 (.ptr b (i*a1)) (.agg r)) ai:=by
 obtain⟨c,b4,b7,cN⟩:=a
 have gl:i*a1+a1<=aR.length*a1:=by
  have:=Nat.mul_le_mul_right a1 (show i+1<=aR.length by omega)
  rw[zm]at this;exact this
 refine fF (aeN b4 aj (show r.length=a1 from Z) aD gl Q) (B _ ⟨dQ c (i*a1) r,by rw[bm aj,Yq];rfl,λam=> ?_,afr cN Z⟩ λe H=>aI aj H)
 rw[jS,Tr Z aR i am cN aJ,Z,b7 am]
def nC.cell{b a1 i aa:Nat}{aR:List (List F)}{r:List F}{v:F}{ai:V an->Prop}(a:nC X h b a1 aR)(aj:(o X).a8<=b)(aJ:aR[i]? =some r)(bG:aa<a1)(bB:v.cells=[v])(Q:oc v=true)(B:∀T,nC X T b a1 (aR.set i (r.set aa v))->(∀e,e≠b->ab X T e=ab X h e)->ai T):E (ce X h 1 (.ptr b (i*a1+aa)) v) ai:=by
 obtain⟨c,b4,b7,cN⟩:=a
 have jk:=(Zb.1 aJ).1
 have uO:=cN r (Zl aJ)
 have gl:i*a1+a1<=aR.length*a1:=by
  have:=Nat.mul_le_mul_right a1 (show i+1<=aR.length by omega)
  rw[zm]at this;exact this
 refine fF (aeN b4 aj (by rw[bB];rfl) Zd Zo (by rw[bB];simp[iz,Q])) (B _ ⟨dQ c (i*a1+aa) [v],by rw[bm aj,Yq,bB],λam=> ?_,afr cN (by rw[Yq];exact uO)⟩ λe H=>aI aj H)
 rw[jS,Tr (by rw[Yq];exact uO) aR i am cN jk,b7 am]
 have nq:aR.set i r=aR:=by
  apply Ys
  intro bt
  rw[YC]
  by_cases cv:i=bt
  ·subst cv;rw[Zq rfl,Zq jk,aJ]
  ·simp[cv]
 have CX:=Tr uO aR i am cN jk
 rw[nq]at CX
 simp only[ZB,ZU,ZI]
 by_cases b1:i*a1<=am/\am<i*a1+a1
 ·rw[Zq b1,YC]
  rw[Zq b1]at CX
  by_cases Mz:i*a1+aa=am
  ·rw[Zq Zo,Zq Zo,Zq Zo]
   rw[show am-(i*a1+aa)=0 by omega];rfl
  ·rw[Zg Zo,Zg Zo];exact CX
 ·rw[Zg b1,Zg Zo]
def aum(a6:F){n:Nat}(a:dX a6=some (.Z (n:Int))):(a6= .aP/\n=0)\/dn X h .eql 31 true a6 .aP=some (.bool false):=by
 cases a6 with
 |aP=>rw[qw]at a;injection a with a;injection a with _ a;exact .inl ⟨rfl,Zo⟩
 |slice b Y l c=>exact .inr Zk
 |en b Y l c=>exact .inr Zk
 |_=>simp[dX]at a
def aun(a6:F){n:Nat}(a:dX a6=some (.Z (n:Int))):(a6= .aP/\n=0)\/dn X h .eql 35 true a6 .aP=some (.bool false):=by
 cases a6 with
 |aP=>rw[qw]at a;injection a with a;injection a with _ a;exact .inl ⟨rfl,Zo⟩
 |slice b Y l c=>exact .inr Zk
 |en b Y l c=>exact .inr Zk
 |_=>simp[dX]at a
def aua:dn X h .eql 31 true .aP .aP=some (.bool true):=Zk
def aub:dn X h .eql 35 true .aP .aP=some (.bool true):=Zk
def Ot(X:ck)(T:V an)(j au a1:Nat)(aR:List (List F))(ae:F):Prop:=ae.cells=[ae]/\oc ae=true/\((aR=[]/\dX ae=some (.Z 0))\/∃b,ae= .en b 0 aR.length a1/\da j au b/\nC X T b a1 aR)
def W6{a1 cH:Nat}{a6:F}{aR:List (List F)}{ai:bI}(aD:0<a1)(aL:(o X).a8<=j)(cC:dO X h P cH a6 a1 aR)(bC:∀e,P e->e<j)(B:∀ae T aV,Ot X T j aV a1 aR ae->bq X h j T aV->ai ae T aV):
 gw (hC X (Go.bi.bn X h j (zx [] 0)) (j+1) a1 (.slice j 0 0 0) a6) (Go.bi.bn X h j (zx [] 0)) (j+1) ai:=by
 generalize et:Go.bi.bn X h j _=a2
 have b4:ab X a2 j=zx [] 0:=by rw[<-et,bm aL]
 have bU:bq X h j a2 (j+1):=by rw[<-et];exact dU
 clear et
 have pI:=S5 (cC.ad (λe H=>bU.ad e (bC e H))) aD
 have i6:=cC.many
 by_cases b6:aR=[]
 ·subst b6
  have J:hC X a2 (j+1) a1 (.slice j 0 0 0) a6=some (.val (.slice j 0 0 0)):=by simp only[hC,pI];rfl
  exact Ta J (B _ _ _ ⟨rfl,rfl, .inl ⟨rfl,rfl⟩⟩ bU)
 ·have aN:0<aR.length:=YG.2 b6
  have oJ:=uf cC.wide
  refine ki (Wt (l:=[]) aD pI aN Zo b4 (mT []) Zs) (B _ _ _ ⟨rfl,rfl, .inr ⟨j+1,by rw[ZI],⟨Zo,Zo⟩,_,by rw[bm Zo,YH,oJ],mT _,cC.wide⟩⟩ ⟨Zo,λe H=>by rw[aI Zo Zo];exact bU.ad e H⟩)
def alb(aA:dz X){cH:Nat}{a6:F}{aR:List (List F)}(aL:(o X).a8<=j)(cC:dO X h P cH a6 6 aR)(bC:∀e,P e->e<j):
 aW X 43 [a6] h j (λae T au=>Ot X T j au 6 aR ae/\bq X h j T au) (λ_ _ _=>False):=by
 refine zA aA (ai9 X) ?_
 rw[aja]
 unfold VI
 rcases aum (X:=X) (h:=h) a6 cC.len with ⟨rfl,b6⟩|dD
 ·have:aR=[]:=ZW b6
  subst this
  refine ci @aua ⟨?_⟩
  exact⟨⟨rfl,rfl, .inl ⟨rfl,rfl⟩⟩,bq.refl _ _⟩
 ·refine ci @dD ⟨?_⟩
  exact W6 Zd aL cC bC λae T aV Q U=>⟨Q,U⟩
def alc(aA:dz X){cH:Nat}{a6:F}{aR:List (List F)}(aL:(o X).a8<=j)(cC:dO X h P cH a6 4 aR)(bC:∀e,P e->e<j):
 aW X 44 [a6] h j (λae T au=>Ot X T j au 4 aR ae/\bq X h j T au) (λ_ _ _=>False):=by
 refine zA aA (ajb X) ?_
 rw[ajc]
 unfold VJ
 rcases aun (X:=X) (h:=h) a6 cC.len with ⟨rfl,b6⟩|dD
 ·have:aR=[]:=ZW b6
  subst this
  refine ci @aub ⟨?_⟩
  exact⟨⟨rfl,rfl, .inl ⟨rfl,rfl⟩⟩,bq.refl _ _⟩
 ·refine ci @dD ⟨?_⟩
  exact W6 Zd aL cC bC λae T aV Q U=>⟨Q,U⟩
def acY(aA:dz X){am r n:Nat}(b1:ao X h (.ptr am 0)=some (.map r))(iH:mH X h r n):
 aW X 46 [.ptr am 0] h j (λae T au=>ae= .Z (n:Int)/\T=h/\au=j) (λ_ _ _=>False):=by
 refine zA aA (ajd X) ?_
 rw[aje]
 unfold VM
 obtain⟨cb,eX,Q,U⟩:=iH
 have aC:Sr X h (.map r)=some (.Z (n:Int)):=by simp[Sr,Q,U,n0]
 refine er @Xy @b1 @aC ⟨?_⟩
 exact⟨rfl,rfl,rfl⟩
def awh(aA:dz X){b:Nat}{aR:List (List F)}(aL:(o X).a8<=j)(f1:(o X).a8<=b)(ut:b<j)(b5:nC X h b 4 aR)(nX:∀r∈aR,iz r=true)(bp:aR.length<=300000):
 aW X 45 [.en b 0 aR.length 4] h j (λae T au=>ae= .tuple []/\nC X T b 4 aR.reverse/\j<=au/\∀e,e≠b->ab X T e=ab X h e) (λ_ _ _=>False):=by
 refine zA aA (VK X) ?_
 rw[VL]
 unfold OD
 have eD:=n7 b 0 aR.length 4
 have HA:aF .sub (.Z (aR.length:Int)) (.Z 1)=some (.Z ((aR.length:Int) -1)):=w3 Zo Zo
 refine cV @eD @HA ⟨?_⟩
 refine fU (λm M T aV=>∃(i:Nat) (L:List (List F)),M.g 0=some (.en b 0 aR.length 4)/\M.g 2=some (.Z (i:Int))/\M.g 3=some (.Z ((aR.length:Int) -1-(i:Int)))/\i+m=aR.length+1/\L.length=aR.length/\(∀B,B<aR.length->L[B]? =if B<i\/aR.length<=B+i then aR[aR.length-1-B]? else aR[B]?)/\nC X T b 4 L/\j<=aV/\∀e,e≠b->ab X T e=ab X h e)
  (aR.length+1) ⟨0,aR,bw,gc,by refine x8 ⟨?_⟩;simp,Zo,rfl,λB aN=>by rw[Zg Zo],b5,Zi _,λ_ _=>rfl⟩ ?_
 rintro m M aS bg ⟨i,L,t0,ez,t3,aJ,gr,Mv,wN,ge,h4⟩
 by_cases aB:2*i+1<aR.length
 ·have d:decide ((i:Int)<(aR.length:Int) -1-(i:Int))=true:=by simp only[Zh];omega
  have bG:(aR.length:Int) -1-(i:Int)=((aR.length-1-i:Nat):Int):=Zo
  obtain⟨aes,sd⟩:∃r,L[i]? =some r:=⟨_,Ze Zo⟩
  obtain⟨aeu,uN⟩:∃r,L[aR.length-1-i]? =some r:=⟨_,Ze Zo⟩
  have S3:=Mv i Zo
  rw[Zg Zo,sd]at S3
  have S4:=Mv (aR.length-1-i) Zo
  rw[Zg Zo,uN]at S4
  have SP:=nX aes (Zl S3.symm)
  have vk:=nX aeu (Zl S4.symm)
  obtain⟨_,_,_,bJ⟩:=id wN
  have ayD:=bJ aes (Zl sd)
  have ayE:=bJ aeu (Zl uN)
  have cC:=wN.l5 (P:=λe=>e=b) Zo rfl
  rw[gr]at cC
  have ayN:=cC.f2 i Zo
  have afH:=cC.f2 (aR.length-1-i) Zo
  have Ss:=cC.row Zd sd
  have atF:=cC.row Zd uN
  have bD:=zy i
  have cF:aF .sub (.Z ((aR.length-1-i:Nat):Int)) (.Z 1)=some (.Z ((aR.length:Int) -1-((i+1:Nat):Int))):=by
   rw[w3 Zo Zo,show((aR.length-1-i:Nat):Int) -1=(aR.length:Int) -1-((i+1:Nat):Int) by omega]
  rw[bG]at t3
  rw[bG]at d
  refine e7 @ez @t3 @d @t0 @ayN @afH (Za @Ss @atF) ⟨?_⟩
  refine wN.row f1 Zo ayE Zd vk λbb cN c4=> ?_
  refine ci @afH ⟨?_⟩
  refine cN.row f1 (by rw[Yq];omega) ayD Zd SP λbF ej ec=> ?_
  refine gt @ez @t3 @bD @cF ⟨?_⟩
  refine⟨m-1,Zo,i+1,_,bf t0,bw,bw,Zo,by rw[Yq,Yq];exact gr,λB aN=> ?_,ej,Zo,λe H=>by rw[ec e H,c4 e H,h4 e H]⟩
  rw[YC,Yq]
  by_cases Q:aR.length-1-i=B
  ·rw[Zq Q,Zq Zo,Zq Zo,S3,show aR.length-1-B=i by omega]
  ·rw[Zg Q,YC]
   by_cases U:i=B
   ·rw[Zq U,Zq Zo,Zq Zo,S4,show aR.length-1-B=aR.length-1-i by omega]
   ·rw[Zg U,Mv B aN]
    by_cases ar:B<i\/aR.length<=B+i
    ·rw[Zq ar,Zq Zo]
    ·rw[Zg ar,Zg Zo]
 ·have d:decide ((i:Int)<(aR.length:Int) -1-(i:Int))=false:=by simp only[Zc];omega
  refine er @ez @t3 @d ⟨?_⟩
  have aou:L=aR.reverse:=by
   apply Ys
   intro B
   by_cases aN:B<aR.length
   ·rw[Mv B aN,List.getElem?_reverse aN]
    by_cases ar:B<i\/aR.length<=B+i
    ·rw[Zq ar]
    ·rw[Zg ar,show aR.length-1-B=B by omega]
   ·rw[ZG Zo,ZG (by rw[zg];omega)]
  rw[aou]at wN
  exact⟨rfl,wN,ge,h4⟩
end
section
variable{X:ck}{h T a2 aS:V an}{j au aO bg:Nat}{P bu d6 iT:Nat->Prop}
def JT{C:aZ}{b dP a1:Nat}{a6:F}{aR fV:List (List F)}(a:dO C h P b a6 a1 aR)(B:dO C h bu dP a6 a1 fV):aR=fV:=by
 have aC:aR.length=fV.length:=by
  have Q:=a.len
  rw[B.len]at Q
  injection Q with Q;injection Q with _ Q;omega
 apply Ys
 intro i
 by_cases aJ:i<aR.length
 ·obtain⟨r,Z⟩:∃r,aR[i]? =some r:=⟨_,Ze aJ⟩
  obtain⟨gO,kq⟩:∃r,fV[i]? =some r:=⟨_,Ze Zo⟩
  have mE:=a.wide r (Zl Z)
  have pe:=B.wide gO (Zl kq)
  have ht:=a.f2 i aJ
  have gg:=B.f2 i Zo
  rw[ht]at gg;cases gg
  rw[Z,kq]
  congr 1
  apply Ys
  intro aa
  by_cases bG:aa<a1
  ·obtain⟨v,bB⟩:=zw r aa
   obtain⟨f9,tn⟩:∃v,gO[aa]? =some v:=⟨_,Ze Zo⟩
   have dt:=a.cell i r aa v Z bB
   have dG:=B.cell i gO aa f9 kq tn
   rw[dt]at dG;cases dG
   rw[bB,tn]
  ·rw[ZG Zo,ZG Zo]
 ·rw[ZG Zo,ZG Zo]
def lO.rev:∀{cR:List e9}{aR:List (List F)}{P:Nat->Prop},lO X h P cR aR->lO X h P cR.reverse aR.reverse:=by
 intro cR
 induction cR with
 |nil=>rintro aR P rfl;exact rfl
 |cons am cR ak=>
  rintro aR P ⟨row,fV,bu,rfl,fZ,Z,a⟩
  rw[zp,zp]
  exact lO.snoc Z (ak a) (λe H=>H.1) (λe H=>⟨fZ e H,λa=>a.2 H⟩)
def B3(X:ck)(h:V an)(d1:Nat)(ae:F)(hX:List (List F)):Prop:=(hX=[]/\dX ae=some (.Z 0))\/(ae= .en d1 0 hX.length 4/\nC X h d1 4 hX.reverse)
def B3.ad{d1:Nat}{ae:F}{hX:List (List F)}(a:B3 X h d1 ae hX)(B:ab X T d1=ab X h d1):B3 X T d1 ae hX:=a.imp id λa=>⟨a.1,a.2.ad B⟩
def B3.l5{d1:Nat}{ae:F}{hX:List (List F)}(a:B3 X h d1 ae hX)(bp:hX.length<=300000)(bC:P d1):dO X h P d1 ae 4 hX.reverse:=by
 rcases a with ⟨rfl,a⟩|⟨rfl,a⟩
 ·exact⟨λJ=>absurd rfl J,Zs,Zs,by simpa using a,λi aJ=>by simp at aJ,λi r aa v aJ=>by simp at aJ⟩
 ·have:=a.l5 (P:=P) (by rw[zg];exact bp) bC
  rw[zg]at this
  exact this
def B4(X:ck)(h:V an)(P:Nat->Prop)(row iB:List F)(d1:Nat):Prop:=∃nm K cY dj a6 ev ae hX we,row=[nm,K,cY,dj,a6,ev]/\iB=[nm,K,cY,dj,a6,ae]/\dO X h P we ev 4 hX/\B3 X h d1 ae hX
def B4.ad{row iB:List F}{d1:Nat}(a:B4 X h P row iB d1)(B:∀e,P e->ab X T e=ab X h e)(Sb:ab X T d1=ab X h d1):B4 X T P row iB d1:=by
 obtain⟨nm,K,cY,dj,a6,ev,ae,hX,we,Q,U,ar,aK⟩:=a
 exact⟨nm,K,cY,dj,a6,ev,ae,hX,we,Q,U,ar.ad B,aK.ad Sb⟩
def B4.node{g:Go.aU.Node}{row iB:List F}{d1:Nat}(a:B4 X h P row iB d1)(b1:m5 X h bu g row):m5 X h (λe=>bu e\/e=d1) (hN g) iB:=by
 obtain⟨cY,dj,a6,ev,c0,dL,ef,hQ,aR,rfl,Q,U,ar,aK,bH⟩:=b1
 obtain⟨nm,K,awV,axa,iQ,Tn,ae,hX,we,bD,rfl,Z,aB⟩:=a
 simp only[Yw,Yb]at bD
 obtain⟨rfl,rfl,rfl,rfl,rfl,rfl⟩:=bD
 have:=JT Z aK
 subst this
 exact⟨cY,dj,a6,ae,c0,dL,ef,d1,hX.reverse,rfl,Q.lift (λ_ a=> .inl a),U.lift (λ_ a=> .inl a),ar.lift (λ_ a=> .inl a),aB.l5 aK.many (.inr rfl),(lO.rev bH).ad (λ_ _=>rfl) (λe a=> .inl a)⟩
def auB:∀{l:List Go.aU.Node}{aR fV:List (List F)}{ebs:List Nat}{P P0:Nat->Prop},mI X h P l aR->fV.length=aR.length->ebs.length=aR.length->ebs.Nodup->(∀e∈ebs,¬P e)->
 (∀(i:Nat) row iB d1,aR[i]? =some row->fV[i]? =some iB->ebs[i]? =some d1->B4 X h P0 row iB d1)->mI X h (λe=>P e\/e∈ebs) (l.map hN) fV:=by
 intro l
 induction l with
 |nil=>rintro aR fV ebs P P0 rfl Q U _ _ _;exact ZW Q
 |cons g l ak=>
  rintro aR fV ebs P P0 ⟨row,aBt,bu,rfl,fZ,Z,a⟩ Q U wT kp bc
  match fV,ebs,Q,U,wT,kp,bc with
  |iB::fV,d1::ebs,Q,U,wT,kp,bc=>
   rw[List.nodup_cons]at wT
   have aJ:=ak (ebs:=ebs) (P0:=P0) a (by simpa using Q) (by simpa using U) wT.2 (λe H az=>kp e (Zr _ H) az.1) (λi K b c cD cp dF=>bc (i+1) K b c cD cp dF)
   refine⟨iB,fV,λe=>bu e\/e=d1,rfl,λe H=> ?_,(bc 0 row iB d1 rfl rfl rfl).node Z,mI.ad (λ_ _=>rfl) (λe H=> ?_) aJ⟩
   ·rcases H with H|rfl
    ·exact .inl (fZ e H)
    ·exact .inr (Zu ..)
   ·rcases H with H|H
    ·exact⟨.inl H.1,λJ=>J.elim H.2 λJ=>kp d1 (Zu ..) (J▸H.1)⟩
    ·exact⟨.inr (Zr _ H),λJ=>J.elim (λJ=>kp e (Zr _ H) (fZ e J)) λJ=>wT.1 (J▸H)⟩
def alk(l:List e9):m8 l.reverse=m8 l:=by
 induction l with
 |nil=>rfl
 |cons K l ak=>rw[zp,WX,ak,m8];omega
def alh(l:List Go.aU.Node):ps (l.map hN)=ps l:=by
 induction l with
 |nil=>rfl
 |cons K l ak=>rw[ZK,ps,ps,ak];show m8 K.eqs.reverse+_=_;rw[alk]
def ac4:∀l:List e9,vf l=none↔∀am∈l,gK 201 am.right<=200:=by
 intro l
 induction l with
 |nil=>exact⟨λ_ am a=>(by cases a),λ_=>rfl⟩
 |cons K l ak=>
  unfold vf
  by_cases a:200<gK 201 K.right
  ·rw[Zq a]
   exact⟨λa=>(by cases a),λB=>absurd (B K (Zu ..)) Zo⟩
  ·rw[Zg a,ak]
   exact⟨λB am b1=>(Zt.1 b1).elim (λJ=>(by rw[J];omega)) (B am),λB am b1=>B am (Zr _ b1)⟩
def atz:∀{l:List Go.aU.Node},oZ l=none->oZ (l.map hN)=none:=by
 intro l
 induction l with
 |nil=>intro _;rfl
 |cons g l ak=>
  intro a
  rw[ZK]
  unfold oZ at a ⊢
  split at a
  ·cases a
  ·rename_i b1
   rw[Zg (by show ¬(256<g.eG.length+g.out.length+g.loc.length\/4096<g.eqs.reverse.length);rw[zg];exact b1)]
   split at a
   ·cases a
   ·rename_i bx
    have:vf (hN g).eqs=none:=(ac4 _).2 λam b1=>(ac4 _).1 bx am (List.mem_reverse.1 b1)
    rw[this]
    exact ak a
def atA{aq:List Go.aU.Node}(a:n8 aq=none):n8 (aq.map hN)=none:=by
 unfold n8 at a ⊢
 rw[Zx]
 cases b1:aq[64]? with
 |some g=>rw[b1]at a;cases a
 |none=>rw[b1]at a;exact atz a
def awg(aA:dz X){ae:F}(aC:dX ae=some (.Z 0)):
 aW X 45 [ae] h j (λv T au=>v= .tuple []/\T=h/\au=j) (λ_ _ _=>False):=by
 refine zA aA (VK X) ?_
 rw[VL]
 unfold OD
 have HA:aF .sub (.Z 0) (.Z 1)=some (.Z (-1)):=rfl
 refine cV @aC @HA ⟨?_⟩
 refine fU (λm M T aV=>M.g 2=some (.Z 0)/\M.g 3=some (.Z (-1))/\T=h/\aV=j) 0 ⟨bw,bw,rfl,rfl⟩ ?_
 rintro m M aS bg ⟨ez,t3,rfl,rfl⟩
 have d:decide ((0:Int)< -1)=false:=rfl
 refine er @ez @t3 @d ⟨?_⟩
 exact⟨rfl,rfl,rfl⟩
end
end
end Go.Proofs.YtpfajohmofnkfaaGreatDoor

