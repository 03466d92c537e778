/- Part of the proof of the last text; no conditions -/
import Derived.Test.YtbbkkkpgjaopkaaGreatDoorYn
set_option maxHeartbeats 8000000
set_option linter.all false
namespace Go.Proofs.YtbbkkkpgjaopkaaGreatDoor
open Go.bs Go.aQ
noncomputable section
structure iu(X:cl)(h:M ak)(j aJ bJ:Nat)(aU:List Tok)(i:Nat):Prop where
 aY:(o X).aY<=j
 ch:(o X).aY<=aJ
 hi:aJ<j
 gV:bJ<j
 many:aU.length<=300000
 par:aQ X h aJ bJ aU i
def iu.go{X:cl}{h R:M ak}{j au aJ bJ i cx:Nat}{aU:List Tok}(a:iu X h j aJ bJ aU i)(ay:aQ X R aJ bJ aU cx)(aI:j<=au):iu X R au aJ bJ aU cx:=
 ⟨ZB a.aY aI,a.ch,ZT a.hi aI,ZT a.gV aI,a.many,ay⟩
def ei(E b:Nat):Nat->Prop:=λe=>E<=e/\e<b
def xm(q E:Int):y:= .iface 26 (.agg [.Z q, .Z E])
def jN(X:cl)(aJ bJ:Nat)(aU:List Tok)(h:M ak)(j:Nat)(r:Except Int (bL×List Tok)):bQ:=λab R au=>
 ∃D cx,r= .ok (D,aU.drop cx)/\cG X R (ei j au) D ab/\aQ X R aJ bJ aU cx/\cu X [aJ] h j R au
def iN{α:Type}(X:cl)(aJ:Nat)(h:M ak)(j:Nat)(r:Except Int α):bQ:=λab R au=>
 ∃E,r= .error E/\ab=xm 21 E/\cu X [aJ] h j R au
def mY(X:cl):Prop:=7<X.aY/\∀h q,q<5->∃b a2,aV X h (.ptr 7 q)=some a2/\et X h (λe=>e<X.aY) b a2 2 ((ar q).map λW=>[.str W.1, .Z W.2])
section
variable{X:cl}{h R aX aP:M ak}{j au aM be aJ bJ:Nat}{aU:List Tok}{i:Nat}
def iN.of{α eH:Type}{fg:M ak}{ac3:Nat}{r:Except Int α}{hH:Except Int eH}{ab:y}(a:iN X aJ aX aM r ab R au)(gl:cu X [aJ] fg ac3 aX aM)(V:∀E,r= .error E->hH= .error E):iN X aJ fg ac3 hH ab R au:=by
 obtain⟨E,H,K,am⟩:=a
 exact⟨E,V E H,K,gl.trans am⟩
def cG.fr{E b:Nat}{D:bL}{v:y}(a:cG X h (ei E b) D v)(gl:cu X [aJ] h aM R au)(al:b<=aM)(ay:aJ<E){gd cQ:Nat}(H:gd<=E)(K:b<=cQ):cG X R (ei gd cQ) D v:=
 cG.lift (λe B=>⟨ZB H B.1,ZT B.2 K⟩) _ _ (cG.ad (λe B=>gl.ad e (zE B.2) (by simp;have:=B.1;omega)) _ _ a)
def cG.ex{E b:Nat}{D:bL}{v:y}(a:cG X h (ei E b) D v)(q:∀e,E<=e->e<b->Z X R e=Z X h e){gd cQ:Nat}(H:gd<=E)(K:b<=cQ):cG X R (ei gd cQ) D v:=
 cG.lift (λe B=>⟨ZB H B.1,ZT B.2 K⟩) _ _ (cG.ad (λe B=>q e B.1 B.2) _ _ a)
def qJ{eH:Type}{s:ba}{k:List Tok}{f:Option Tok->List Tok->fY eH}{r:Except Int (eH×List Tok)}(a:h8 s k f=some r):∃x cb,k=x::cb/\((gX x s=true/\f (some x) cb=some r)\/(gX x s=false/\f none k=some r)):=by
 unfold h8 l6 at a
 cases k with
 |nil=>cases a
 |cons x cb=>
  refine⟨x,cb,rfl, ?_⟩
  simp only[]at a
  cases aE:gX x s with
  |true=>rw[aE]at a;exact .inl ⟨rfl,a⟩
  |false=>rw[aE]at a;exact .inr ⟨rfl,a⟩
def ge{α eH:Type}{x:fY α}{f:α->List Tok->fY eH}{r:Except Int (eH×List Tok)}(a:andThen x f=some r):(∃E,x=some (.error E)/\r= .error E)\/∃E k,x=some (.ok (E,k))/\f E k=some r:=by
 unfold andThen at a
 split at a
 ·cases a
 ·injection a with a;exact .inl ⟨_,rfl,a.symm⟩
 ·exact .inr ⟨_,_,rfl,a⟩
def nP(az:dW X)(ay:iu X h j aJ bJ aU i){x:Tok}{k:List Tok}(aH:aU.drop i=x::k)(s:ba):
 a1 X 61 [.ptr aJ 0, .str s] h j (λab R au=>ab= .tuple [.agg (b0 (if gX x s then x else gZ)), .bool (gX x s)]/\aQ X R aJ bJ aU (if gX x s then i+1 else i)/\cu X [aJ] h j R au) (λ_ _ _=>False):=by
 obtain⟨H,K⟩:=fz aH
 cases aE:gX x s with
 |true=>simp only[ZE];exact aeo az ay.aY ay.par ay.ch ay.hi ay.gV ay.many H aE
 |false=>simp only[Zv,ZD];exact aen az ay.aY ay.par ay.ch ay.hi ay.gV H aE
structure qN(X:cl)(aJ bJ:Nat)(aU:List Tok)(n:Nat):Prop where
 level:∀h j i (q:Nat) r,q<=5->iu X h j aJ bJ aU i->Go.aQ.level n q (aU.drop i)=some r->a1 X 118 [.ptr aJ 0, .Z (q:Int)] h j (jN X aJ bJ aU h j r) (iN X aJ h j r)
 shift:∀h j i r,iu X h j aJ bJ aU i->Go.aQ.shift n (aU.drop i)=some r->a1 X 121 [.ptr aJ 0] h j (jN X aJ bJ aU h j r) (iN X aJ h j r)
 tQ:∀h j i r,iu X h j aJ bJ aU i->Go.aQ.wu n (aU.drop i)=some r->a1 X 127 [.ptr aJ 0] h j (jN X aJ bJ aU h j r) (iN X aJ h j r)
 part:∀h j i r,iu X h j aJ bJ aU i->Go.aQ.part n (aU.drop i)=some r->a1 X 133 [.ptr aJ 0] h j (jN X aJ bJ aU h j r) (iN X aJ h j r)
 lS:∀h j i r,iu X h j aJ bJ aU i->Go.aQ.lS n (aU.drop i)=some r->a1 X 109 [.ptr aJ 0] h j (jN X aJ bJ aU h j r) (iN X aJ h j r)
 arrow:∀h j i r,iu X h j aJ bJ aU i->Go.aQ.arrow n (aU.drop i)=some r->a1 X 89 [.ptr aJ 0] h j (jN X aJ bJ aU h j r) (iN X aJ h j r)
 list:∀h j i r,iu X h j aJ bJ aU i->Go.aQ.list n (aU.drop i)=some r->a1 X 136 [.ptr aJ 0] h j (λab R au=>∃ci cx bx cn,r= .ok (ci,aU.drop cx)/\et X R (ei j au) cn ab 1 (bx.map λv=>[v])/\dw X R (λe=>ei j au e/\e≠cn) ci bx/\aQ X R aJ bJ aU cx/\cu X [aJ] h j R au) (iN X aJ h j r)
def e8{C:aT}{f:Nat}{w3:List y}{ah ax:bQ}{h:M ak}{j:Nat}(P:M ak->Prop)(bI:P h)(a:∀bf,P bf->a1 C f w3 bf j ah ax):a1 C f w3 h j ah ax:=a h bI
def ry(q:IntKind)(x:Int):y.same 30 (.int q x) (.int q x)=true:=by
 simp only[y.same,FX];cases q<;>simp[l1]
def aQ.ex(a:aQ X h aJ bJ aU i)(q:bp X h j R au)(H:aJ<j)(K:bJ<j):aQ X R aJ bJ aU i:=a.ad (q.ad _ H) (q.ad _ K)
def ai1(az:dW X){n:Nat}(aj:∀m,m<n->qN X aJ bJ aU m):∀h j i r,iu X h j aJ bJ aU i->Go.aQ.arrow n (aU.drop i)=some r->a1 X 89 [.ptr aJ 0] h j (jN X aJ bJ aU h j r) (iN X aJ h j r):=by
 intro h j i r ay V
 cases n with
 |zero=>simp[Go.aQ.arrow]at V
 |succ n=>
 refine zL az (ahP X) ?_
 rw[ahQ]
 unfold VC
 have gx:=ay.aY
 have j8:=ay.hi
 have hB:=ay.ch
 unfold Go.aQ.arrow at V
 rcases ge V with ⟨E,H,rfl⟩|⟨left,dv,H,V⟩
 ·exact((aj n Zo).lS h j i _ ay H).mono (λab R au a=>by obtain⟨D,cx,a,_⟩:=a;cases a) (λab R au a=>a)
 refine((aj n Zo).lS h j i _ ay H).mono ?_ (λab R au a=>by obtain⟨E,a,_⟩:=a;cases a)
 rintro ve aX aM ⟨D,ri,bt,bY,eb,h5⟩
 cases bt
 have jD:=h5.le
 have mR:=ay.go eb jD
 obtain⟨x,cb,aH,af⟩:=qJ V
 refine(nP az mR aH _).Zm ?_
 rintro GJ aP be ⟨rfl,dm,dt⟩
 have f1:=dt.le
 rcases af with ⟨aE,V⟩|⟨aE,V⟩
 ·rw[aE]at dm ⊢
  simp only[ZE]at dm ⊢
  rw[<-(fz aH).2]at V
  refine ce b0.eq_1 ⟨?_⟩
  refine e8 (λbf=>bp X aP be bf (be+1+9)/\Z X bf be=zI (b0 x) 7) ⟨dM,bn Zo⟩ ?_
  rintro bf ⟨cq,cR⟩
  rcases ge V with ⟨E,K,rfl⟩|⟨right,cD,K,V⟩
  ·refine((aj n Zo).arrow bf _ _ _ (mR.go (dm.ex cq Zo (zE mR.gV)) Zo) K).mono (λab R au a=>by obtain⟨D,cx,a,_⟩:=a;cases a) (λab R au a=>a.of (h5.trans (dt.trans (cu.of cq))) (λ_ a=>a))
  refine((aj n Zo).arrow bf _ _ _ (mR.go (dm.ex cq Zo (zE mR.gV)) Zo) K).mono ?_ (λab R au a=>by obtain⟨E,a,_⟩:=a;cases a)
  rintro v4 bT b3 ⟨jn,i4,tq,dA,g7,eJ⟩
  cases tq
  have je:=eJ.le
  simp only[ok,Zc]at V
  subst V
  have ep:Z X bT be=zI (b0 x) 7:=by rw[eJ.ad _ Zo Zx];exact cR
  obtain⟨cF,rfl,jf,_⟩:=bY.ptr
  obtain⟨fU,rfl,sp,_⟩:=dA.ptr
  have jf:=jf.1
  refine dq (bU ep) b0.eq_1 ⟨?_⟩
  refine j0 (ry _ _) ?_
  refine⟨_,i4,rfl,cG.lit (ha:= .own) (cn:=be+1+5) (bx:=[.ptr cF 0, .ptr fU 0]) (bn Zo) ⟨Zo,Zo⟩ ?_ ⟨Zo,Zo⟩ rfl Zo Zo (dw.two (cG.ad (λe B=> ?_) _ _ bY) (cG.ad (λe B=> ?_) _ _ dA) (λe B=> ?_) (λe B=> ?_)), ?_, ?_⟩
  ·simp(disch:=omega) only[aL,bn]<;>rfl
  ·have H:=B.1;have K:=B.2
   simp(disch:=omega) only[aL]
   rw[eJ.ad e Zo Zx,cq.ad e Zo,dt.ad e Zo Zx]
  ·have H:=B.1;have K:=B.2
   simp(disch:=omega) only[aL]
  ·simp only[ei]at B ⊢;omega
  ·simp only[ei]at B ⊢;omega
  ·exact g7.ad (zK) (by have:=mR.gV;exact zK)
  ·exact⟨Zo,λb al bN=>by
    rw[<-((h5.trans (dt.trans (cu.of cq))).trans eJ).ad b al bN]
    simp(disch:=omega) only[aL]⟩
 ·rw[aE]at dm ⊢
  simp only[Zv,ZD]at dm ⊢
  simp only[ok,Zc]at V
  subst V
  refine dq b0.eq_1 gZ.eq_1 ⟨?_⟩
  refine⟨left,ri,rfl,cG.ex bY (λe H K=> ?_) (Zj _) Zo,dm.ad (zK) (by have:=mR.gV;exact zK), ?_⟩
  ·simp(disch:=omega) only[aL]
   exact dt.ad e Zo Zx
  ·exact⟨Zo,λb al bN=>by rw[<-(h5.trans dt).ad b al bN];exact zK⟩
end
section
variable{X:cl}{h R aX aP:M ak}{j au aM be aJ bJ:Nat}{aU:List Tok}{i:Nat}
def ak3(az:dW X){n:Nat}(aj:∀m,m<n->qN X aJ bJ aU m):∀h j i r,iu X h j aJ bJ aU i->Go.aQ.lS n (aU.drop i)=some r->a1 X 109 [.ptr aJ 0] h j (jN X aJ bJ aU h j r) (iN X aJ h j r):=by
 intro h j i r ay V
 cases n with
 |zero=>simp[Go.aQ.lS]at V
 |succ n=>
 refine zL az (afk X) ?_
 rw[afl]
 unfold Ud
 have gx:=ay.aY
 have j8:=ay.hi
 have hB:=ay.ch
 unfold Go.aQ.lS at V
 rcases ge V with ⟨E,H,rfl⟩|⟨left,dv,H,V⟩
 ·exact((aj n Zo).level h j i 0 _ Zo ay H).mono (λab R au a=>by obtain⟨D,cx,a,_⟩:=a;cases a) (λab R au a=>a)
 refine((aj n Zo).level h j i 0 _ Zo ay H).mono ?_ (λab R au a=>by obtain⟨E,a,_⟩:=a;cases a)
 rintro ve aX aM ⟨D,ri,bt,bY,eb,h5⟩
 cases bt
 have jD:=h5.le
 have mR:=ay.go eb jD
 obtain⟨x,cb,aH,af⟩:=qJ V
 refine(nP az mR aH _).Zm ?_
 rintro GJ aP be ⟨rfl,dm,dt⟩
 have f1:=dt.le
 have jy:=mR.gV
 rcases af with ⟨aE,V⟩|⟨aE,V⟩
 ·rw[aE]at dm ⊢
  simp only[ZE]at dm ⊢
  rw[<-(fz aH).2]at V
  simp only[]at V
  obtain⟨cF,a2,cn,bx,rfl,jf,ky,bS,ck,cM,eL,eM,dS,e1,fS,jF,I0⟩:=bY.open
  have jf:=jf
  obtain⟨axW,axX⟩:=jf
  have d9:aV X aP (.ptr cF 0)=some (.Z left.kind):=by rw[dt.fm _ _ Zo Zx];exact ky
  have EP:aV X aP (.ptr cF 8)=some a2:=by rw[dt.fm _ _ Zo Zx];exact fS
  have b7:tH left=some true->∀(I:dc) (bf:M ak) (bE:Nat),I.g 4=some (.ptr be 0)->I.g 3=some (.ptr cF 0)->I.g 0=some (.ptr aJ 0)->bp X aP be bf bE->be<bE->Z X bf be=zI (b0 x) 7->
   fo (bE+9) λasl=>cg (I.g 4) λavx=>av (hJ 2 avx) λaez=>av (aV X bf aez) λaeA=>cg (I.g 3) λavy=>cg (I.g 0) λavz=>a1 X 109 [avz] bf asl (λav4 aia asm=>av (hv 2 [.cN, .cN] [(0,1,avy),(1,1,av4)] (bE+5)) λadK=>lD X aia (bE+5) adK.1 adK.2 λav5 aib=>av (fe [.Z 0,.Z 0,.str [],.zF,.zF,.zF,.Z 0,.int .u64 0, .aW] [(0,1,(.Z 21)),(1,1,aeA),(8,1,av5)]) λav6=>w7 X aib (bE+7) av6 λav7 VP=>av (aV X VP aez) λav8=>io av8 (some aeA) (jN X aJ bJ aU h j r av7 VP asm)) (iN X aJ h j r):=by
   intro Rl I bf bE t4 t3 t0 cq cJ cR
   rw[Rl]at V
   simp only[]at V
   refine g0 @t4 @t3 @t0 (bU cR) b0.eq_1 ⟨?_⟩
   rcases ge V with ⟨E,K,rfl⟩|⟨right,cD,K,V⟩
   ·refine((aj n Zo).lS bf _ _ _ (mR.go (dm.ex cq Zo Zo) Zo) K).mono (λab R au a=>by obtain⟨D,cx,a,_⟩:=a;cases a) (λab R au a=>a.of (h5.trans (dt.trans (cu.of (cq.more Zo)))) (λ_ a=>a))
   refine((aj n Zo).lS bf _ _ _ (mR.go (dm.ex cq Zo Zo) Zo) K).mono ?_ (λab R au a=>by obtain⟨E,a,_⟩:=a;cases a)
   rintro v4 bT b3 ⟨jn,i4,tq,dA,g7,eJ⟩
   cases tq
   have je:=eJ.le
   simp only[ok,Zc]at V
   subst V
   have ep:Z X bT be=zI (b0 x) 7:=by rw[eJ.ad _ Zo Zx];exact cR
   obtain⟨fU,rfl,sp,_⟩:=dA.ptr
   refine dq (bU ep) b0.eq_1 ⟨?_⟩
   refine j0 (ry _ _) ?_
   refine⟨_,i4,rfl,cG.lit (ha:= .own) (cn:=bE+5) (bx:=[.ptr cF 0, .ptr fU 0]) (bn Zo) ⟨Zo,Zo⟩ ?_ ⟨Zo,Zo⟩ rfl Zo Zo (dw.two (cG.ad (λe B=> ?_) _ _ bY) (cG.ad (λe B=> ?_) _ _ dA) (λe B=> ?_) (λe B=> ?_)), ?_, ?_⟩
   ·simp(disch:=omega) only[aL,bn]<;>rfl
   ·have H:=B.1;have K:=B.2
    simp(disch:=omega) only[aL]
    rw[eJ.ad e Zo Zx,cq.ad e Zo,dt.ad e Zo Zx]
   ·have H:=B.1;have K:=B.2
    simp(disch:=omega) only[aL]
   ·simp only[ei]at B ⊢;omega
   ·simp only[ei]at B ⊢;omega
   ·exact g7.ad (zK) (zK)
   ·exact⟨Zo,λb al bN=>by
     rw[<-((h5.trans (dt.trans (cu.of (cq.more (by omega:bE<=bE+9))))).trans eJ).ad b al bN]
     simp(disch:=omega) only[aL]⟩
  have Xh:tH left=some false->∀(bf:M ak) (bE:Nat) (ah:bQ),bp X aP be bf bE->a1 X 87 [.agg (b0 x)] bf bE ah (iN X aJ h j r):=by
   intro Rl bf bE ah cq
   rw[Rl]at V
   simp only[bad,Zc]at V
   subst V
   refine(HM az (zE cq.le) x _ ?_).mono (λ_ _ _ a=>a.elim) (λ_ _ _ a=>a)
   intro R au bP
   exact⟨_,rfl,rfl,h5.trans (dt.trans (cu.of (cq.trans bP)))⟩
  by_cases mE:left.kind=1
  ·have cB:decide (left.kind≠1)=false:=by simp[mE]
   refine gG b0.eq_1 @d9 @cB ⟨?_⟩
   refine gT ?_
   refine gG b0.eq_1 @d9 @cB ⟨?_⟩
   refine gT ?_
   refine s5 ?_
   exact b7 (by simp[tH,mE]) _ _ _ (bF) (bF) (bF) dM Zo (bn Zo)
  ·have cB:decide (left.kind≠1)=true:=by simp[mE]
   by_cases gg:left.kind=4
   ·have iy:decide (left.kind≠4)=false:=by simp[gg]
    cases vS:left.args with
    |nil=>
     simp[tH,gg,vS]at V
    |cons E w3=>
     obtain⟨v,bu,amR⟩:=I0.get 0 E (by rw[vS];rfl)
     obtain⟨gO,kf,sz⟩:=jF.one bu
     have gO:iV 1 a2 (.Z 0)=some (.ptr cn 0):=gO
     obtain⟨BK,rfl,apd,nJ⟩:=amR.ptr
     obtain⟨axY,axZ⟩:=apd
     obtain⟨ayC,ayD⟩:=sz
     have KS:aV X aP (.ptr cn 0)=some (.ptr BK 0):=by rw[dt.fm _ _ Zo Zx];exact kf
     have Ht:aV X aP (.ptr BK 0)=some (.Z E.kind):=by rw[dt.fm _ _ Zo Zx];exact nJ
     by_cases aD:E.kind=1
     ·have fR:decide (E.kind≠1)=false:=by simp[aD]
      refine gG b0.eq_1 @d9 (Za @cB (Za @iy (Za @EP (Za @gO (Za @KS (Za @Ht @fR)))))) ⟨?_⟩
      refine gT ?_
      refine gG b0.eq_1 @d9 (Za @cB (Za @iy (Za @EP (Za @gO (Za @KS (Za @Ht @fR)))))) ⟨?_⟩
      refine gT ?_
      refine s5 ?_
      exact b7 (by simp[tH,gg,vS,aD]) _ _ _ (bF) (bF) (bF) dM Zo (bn Zo)
     ·have fR:decide (E.kind≠1)=true:=by simp[aD]
      refine gG b0.eq_1 @d9 (Za @cB (Za @iy (Za @EP (Za @gO (Za @KS (Za @Ht @fR)))))) ⟨?_⟩
      refine gT ?_
      refine gG b0.eq_1 @d9 (Za @cB (Za @iy (Za @EP (Za @gO (Za @KS (Za @Ht @fR)))))) ⟨?_⟩
      refine gT ?_
      refine s6 ?_
      refine ce b0.eq_1 ⟨?_⟩
      exact Xh (by simp[tH,gg,vS,aD]) _ _ _ dM
   ·have iy:decide (left.kind≠4)=true:=by simp[gg]
    refine gG b0.eq_1 @d9 (Za @cB @iy) ⟨?_⟩
    refine gT ?_
    refine gG b0.eq_1 @d9 (Za @cB @iy) ⟨?_⟩
    refine gT ?_
    refine s6 ?_
    refine ce b0.eq_1 ⟨?_⟩
    exact Xh (by simp[tH,mE,gg]) _ _ _ dM
 ·rw[aE]at dm ⊢
  simp only[Zv,ZD]at dm ⊢
  simp only[ok,Zc]at V
  subst V
  refine dq b0.eq_1 gZ.eq_1 ⟨?_⟩
  refine⟨left,ri,rfl,cG.ex bY (λe H K=> ?_) (Zj _) Zo,dm.ad (zK) (zK), ?_⟩
  ·simp(disch:=omega) only[aL]
   exact dt.ad e Zo Zx
  ·exact⟨Zo,λb al bN=>by rw[<-(h5.trans dt).ad b al bN];exact zK⟩
end
section
variable{X:cl}{h R aX aP:M ak}{j au aM be aJ bJ:Nat}{aU:List Tok}{i:Nat}
def ae2(X:cl)(aJ bJ:Nat)(aU:List Tok)(h:M ak)(j:Nat)(r:Option bL×List Tok):bQ:=λab R au=>∃cx,r.2=aU.drop cx/\aQ X R aJ bJ aU cx/\cu X [aJ] h j R au/\
 match r.1 with
 |none=>ab= .tuple [.cN, .zF]
 |some D=>∃b q E,D= .mk q E [] false dr 0 []/\ab= .tuple [.ptr b 0, .zT]/\j<=b/\b<au/\Z X R b=zI (gL q E [] false dr 0 .aW) 9
def aji(az:dW X)(c2:mY X){q:Nat}(aG:q<5)(ay:iu X h j aJ bJ aU i){r:Option bL×List Tok}(V:oJ (ar q) (aU.drop i)=some r):
 a1 X 122 [.ptr aJ 0, .Z (q:Int)] h j (ae2 X aJ bJ aU h j r) (λ_ _ _=>False):=by
 refine zL az (afI X) ?_
 rw[afJ]
 unfold Up
 have gx:=ay.aY
 have j8:=ay.hi
 have hB:=ay.ch
 have jy:=ay.gV
 obtain⟨amW,c2⟩:=c2
 obtain⟨b,a2,jF,c3⟩:=c2 h q aG
 have di:tA 5 1 (.ptr 7 0) (.Z (q:Int))=some (.ptr 7 q):=by
  simp[tA,sy,Kb,eQ,aG]
 have eO:=c3.len
 rw[Zp]at eO
 have uJ:=c3.many
 rw[Zp]at uJ
 refine gG @di @jF @eO ⟨?_⟩
 refine gT ?_
 refine gK (λm I R n=>∃Y,m=(ar q).length-Y/\Y<=(ar q).length/\I.g 0=some (.ptr aJ 0)/\I.g 12=some a2/\I.g 13=some (.Z ((ar q).length:Int))/\I.g 14=some (.Z (Y:Int))/\aQ X R aJ bJ aU i/\cu X [aJ] h j R n/\oJ ((ar q).drop Y) (aU.drop i)=some r)
  (ar q).length ⟨0,Zo,Zo,bF,bF,bF,ho,ay.par,cu.refl _ _ _,V⟩ ?_
 rintro m I aP n ⟨Y,rfl,bD,t0,BU,nn,ov,dm,gl,al⟩
 have fa:=gl.le
 have fB:=ay.go dm fa
 refine Lr @nn @ov ⟨?_⟩
 refine gT ?_
 refine EO (λcJ=> ?_) (λcJ=> ?_)
 ·have cJ:Y<(ar q).length:=Zo
  have j9:(ar q).drop Y=(ar q)[Y]::(ar q).drop (Y+1):=ZA cJ
  rw[j9]at al
  have aaC:=c3.g2 Y (by simpa using cJ)
  have d2:=((c2 aP q aG).choose_spec)
  obtain⟨cr,auP,uS,Dq⟩:=c2 aP q aG
  have RO:auP=a2:=by
   have D:aV X aP (.ptr 7 q)=aV X h (.ptr 7 q):=by
    rw[cT,cT]
    have:∀h:M ak,Z X h 7=X.G.get 7:=λh=>by
     have ano:Nat.blt 7 (o X).aY=true:=by simp[Nat.blt];exact amW
     simp only[Z,ano,eW];rfl
    rw[this,this]
   rw[D,jF]at uS
   exact(Ym uS).symm
  subst RO
  have aaC:=Dq.g2 Y (by simpa using cJ)
  have d2:=λbf (a:∀e,e<X.aY->Z X bf e=Z X aP e)=>(Dq.ad (R:=bf) a).row Zd (i:=Y) (r:=[.str (ar q)[Y].1, .Z (ar q)[Y].2]) (by rw[Zy,Zf cJ];rfl)
  have d2:=d2 aP (λ_ _=>rfl)
  generalize (ar q)[Y]=W at al d2 j9
  obtain⟨s,e2⟩:=W
  simp only[oJ]at al
  refine g0 @BU @ov @aaC @d2 @t0 ⟨?_⟩
  refine e8 (λbf=>bp X aP n bf (n+1)/\Z X bf n=zI [.str s, .Z e2] 2) ⟨dM,bn Zo⟩ ?_
  rintro bf ⟨cq,cR⟩
  cases aH:aU.drop i with
  |nil=>rw[aH]at al;simp[l6]at al
  |cons x k=>
   rw[aH]at al
   refine(nP az (fB.go (dm.ex cq Zo Zo) Zo) aH s).Zm ?_
   rintro ab bT b3 ⟨rfl,g7,eJ⟩
   have je:=eJ.le
   have ep:Z X bT n=zI [.str s, .Z e2] 2:=by rw[eJ.ad _ Zo Zx];exact cR
   have uu:=gl.trans ((cu.of cq).trans eJ)
   cases aE:gX x s with
   |true=>
    rw[aE]at g7
    simp only[l6,aE,ZE]at al g7 ⊢
    simp only[Zc]at al
    subst al
    refine dq b0.eq_1 (bU ep) ⟨?_⟩
    refine⟨i+1,(fz aH).2.symm,g7.ad (zK) (zK), ?_,b3+1,e2,x.at_,rfl,rfl,Zo,Zo, ?_⟩
    ·exact⟨Zo,λb al bN=>by rw[<-uu.ad b al bN];exact zK⟩
    ·simp(disch:=omega) only[aL,bn]<;>rfl
   |false=>
    rw[aE]at g7
    simp only[l6,aE,Zv,ZD]at al g7 ⊢
    have bB:=zJ Y
    refine g6 b0.eq_1 gZ.eq_1 @ov @bB ⟨?_⟩
    refine⟨_, ?_,Y+1,rfl,Zo,bz t0,bz BU,bz nn,bF,g7.ad (zK) (zK), ?_,al⟩
    ·omega
    ·exact⟨Zo,λb al bN=>by rw[<-uu.ad b al bN];exact zK⟩
 ·have bD:Y=(ar q).length:=Zo
  subst bD
  rw[List.drop_length]at al
  simp only[oJ,Zc]at al
  subst al
  refine c7 ⟨?_⟩
  exact⟨i,rfl,dm,gl,rfl⟩
end
section
variable{X:cl}{h R aX aP:M ak}{j au aM be aJ bJ:Nat}{aU:List Tok}{i:Nat}
def arv(az:dW X)(c2:mY X){n:Nat}(aj:∀m,m<n->qN X aJ bJ aU m):∀h j i (q:Nat) r,q<=5->iu X h j aJ bJ aU i->Go.aQ.level n q (aU.drop i)=some r->a1 X 118 [.ptr aJ 0, .Z (q:Int)] h j (jN X aJ bJ aU h j r) (iN X aJ h j r):=by
 intro h j i q r aG ay V
 cases n with
 |zero=>simp[Go.aQ.level]at V
 |succ n=>
 refine zL az (afA X) ?_
 rw[afB]
 unfold Uk
 have gx:=ay.aY
 have j8:=ay.hi
 have hB:=ay.ch
 have jy:=ay.gV
 unfold Go.aQ.level at V
 by_cases oX:q=5
 ·subst oX
  rw[Zu rfl]at V
  have cB:decide (((5:Nat):Int)=5)=true:=rfl
  refine ce @cB ⟨?_⟩
  exact(aj n Zo).shift h j i r ay V
 ·rw[Zg oX]at V
  have cB:decide ((q:Int)=5)=false:=by simp;omega
  have bB:=zJ q
  refine dq @cB @bB ⟨?_⟩
  rcases ge V with ⟨E,H,rfl⟩|⟨left,dv,H,V⟩
  ·exact((aj n Zo).level h j i (q+1) _ Zo ay H).mono (λab R au a=>by obtain⟨D,cx,a,_⟩:=a;cases a) (λab R au a=>a)
  refine((aj n Zo).level h j i (q+1) _ Zo ay H).mono ?_ (λab R au a=>by obtain⟨E,a,_⟩:=a;cases a)
  rintro ve aX aM ⟨D,ri,bt,bY,eb,h5⟩
  cases bt
  have jD:=h5.le
  refine gT ?_
  refine gK (λm I R aS=>∃left v cx,m<=n/\I.g 0=some (.ptr aJ 0)/\I.g 1=some (.Z (q:Int))/\I.g 5=some v/\cG X R (ei j aS) left v/\aQ X R aJ bJ aU cx/\cu X [aJ] h j R aS/\pc m q left (aU.drop cx)=some r)
   n ⟨left,ve,ri,Zj _,bF,bF,bF,bY,eb,h5,V⟩ ?_
  clear bY eb h5 H V
  rintro m I aP be ⟨left,v,jr,bc,t0,t1,t5,b6,dm,dt,V⟩
  cases m with
  |zero=>simp[pc]at V
  |succ m=>
  unfold pc at V
  have f1:=dt.le
  have fB:=ay.go dm f1
  refine gT ?_
  refine dq @t0 @t1 ⟨?_⟩
  cases al:oJ (ar q) (aU.drop jr)with
  |none=>rw[al]at V;cases V
  |some gW=>
  rw[al]at V
  refine(aji az c2 Zo fB al).Zm ?_
  rintro Em bf bE ⟨i3,to,gz,eG,a6⟩
  have jE:=eG.le
  obtain⟨ro,ayO⟩:=gW
  simp only[]at to
  subst to
  cases ro with
  |none=>
   simp only[]at a6 V
   subst a6
   simp only[ok,Zc]at V
   subst V
   refine ce @t5 ⟨?_⟩
   exact⟨left,i3,rfl,cG.fr b6 eG Zo Zo (Zj _) Zo,gz,dt.trans eG⟩
  |some D=>
   simp only[]at a6 V
   obtain⟨b,e2,E,rfl,rfl,n8,mC,cR⟩:=a6
   refine g6 @t0 @t1 @t5 @bB ⟨?_⟩
   rcases ge V with ⟨gd,aC,rfl⟩|⟨right,fl,aC,V⟩
   ·refine((aj m Zo).level bf bE i3 (q+1) _ Zo (fB.go gz jE) aC).mono (λab R au a=>by obtain⟨D,cx,a,_⟩:=a;cases a) (λab R au a=>a.of (dt.trans eG) (λ_ a=>a))
   refine((aj m Zo).level bf bE i3 (q+1) _ Zo (fB.go gz jE) aC).mono ?_ (λab R au a=>by obtain⟨E,a,_⟩:=a;cases a)
   rintro v4 bT b3 ⟨jn,i4,tq,dA,g7,eJ⟩
   cases tq
   have je:=eJ.le
   have ep:Z X bT b=zI (gL e2 E [] false dr 0 .aW) 9:=by rw[eJ.ad _ Zo Zx];exact cR
   obtain⟨cH,rfl,nF,_⟩:=b6.ptr
   obtain⟨fU,rfl,sp,_⟩:=dA.ptr
   refine eP @t5 @ep @t1 ⟨?_⟩
   have fin:∀gt,gt=bl X (bl X bT b3 (zI [.ptr cH 0, .ptr fU 0] 2)) b (zI (gL e2 E [] false dr 0 (.slice b3 0 2 2)) 9)->cG X gt (ei j (b3+1)) (two (.mk e2 E [] false dr 0 []) left right) (.ptr b 0)/\aQ X gt aJ bJ aU i4/\cu X [aJ] h j gt (b3+1):=by
    rintro gt rfl
    refine⟨cG.lit (ha:= .own) (cn:=b3) (bx:=[.ptr cH 0, .ptr fU 0]) (bn Zo) ⟨Zo,Zo⟩ ?_ ⟨Zo,Zo⟩ rfl Zo Zo (dw.two (cG.ad (λe B=> ?_) _ _ b6) (cG.ad (λe B=> ?_) _ _ dA) (λe B=> ?_) (λe B=> ?_)), ?_, ?_⟩
    ·simp(disch:=omega) only[aL,bn]
    ·have H:=B.1;have K:=B.2
     simp(disch:=omega) only[aL]
     rw[eJ.ad e Zo Zx,eG.ad e Zo Zx]
    ·have H:=B.1;have K:=B.2
     simp(disch:=omega) only[aL]
    ·simp only[ei]at B ⊢;omega
    ·simp only[ei]at B ⊢;omega
    ·exact g7.ad (zK) (zK)
    ·exact⟨Zo,λe B bN=>by
      rw[<-((dt.trans eG).trans eJ).ad e B bN]
      simp(disch:=omega) only[aL]⟩
   obtain⟨ef,eX,jS⟩:=fin (bl X (bl X bT b3 (zI [.ptr cH 0, .ptr fU 0] 2)) b (some (.cells (d3 (M.ofList (gL e2 E [] false dr 0 .aW) 0 .nil) 8 (y.slice b3 0 2 2).cells) 9 .own))) rfl
   refine EO (λK=> ?_) (λK=> ?_)
   ·have gH:q=2:=Zo
    rw[Zu gH]at V
    simp only[ok,Zc]at V
    subst V
    exact⟨_,i4,rfl,ef,eX,jS⟩
   ·rw[Zg Zo]at V
    exact⟨m,Zo,_, .ptr b 0,i4,Zo,bz t0,bz t1,bF,ef,eX,jS,V⟩
end
section
variable{X:cl}{h R aX aP:M ak}{j au aM be aJ bJ:Nat}{aU:List Tok}{i:Nat}
def auJ(az:dW X){n:Nat}(aj:∀m,m<n->qN X aJ bJ aU m):∀h j i r,iu X h j aJ bJ aU i->Go.aQ.shift n (aU.drop i)=some r->a1 X 121 [.ptr aJ 0] h j (jN X aJ bJ aU h j r) (iN X aJ h j r):=by
 intro h j i r ay V
 cases n with
 |zero=>simp[Go.aQ.shift]at V
 |succ n=>
 refine zL az (afG X) ?_
 rw[afH]
 unfold Uo
 have gx:=ay.aY
 have j8:=ay.hi
 have hB:=ay.ch
 have jy:=ay.gV
 unfold Go.aQ.shift at V
 rcases ge V with ⟨E,H,rfl⟩|⟨left,dv,H,V⟩
 ·exact((aj n Zo).tQ h j i _ ay H).mono (λab R au a=>by obtain⟨D,cx,a,_⟩:=a;cases a) (λab R au a=>a)
 refine((aj n Zo).tQ h j i _ ay H).mono ?_ (λab R au a=>by obtain⟨E,a,_⟩:=a;cases a)
 rintro ve aX aM ⟨D,ri,bt,bY,eb,h5⟩
 cases bt
 have jD:=h5.le
 refine gT ?_
 refine gK (λm I R aS=>∃left v cx,I.g 0=some (.ptr aJ 0)/\I.g 3=some v/\cG X R (ei j aS) left v/\aQ X R aJ bJ aU cx/\cu X [aJ] h j R aS/\pm m left (aU.drop cx)=some r)
  n ⟨left,ve,ri,bF,bF,bY,eb,h5,V⟩ ?_
 clear bY eb h5 H V jD
 rintro m I aP be ⟨left,v,jr,t0,t3,b6,dm,dt,V⟩
 cases m with
 |zero=>simp[pm]at V
 |succ m=>
 unfold pm at V
 have f1:=dt.le
 have fB:=ay.go dm f1
 refine gT ?_
 obtain⟨cH,rfl,nF,_⟩:=b6.ptr
 have nF:=nF.2
 refine ce @t0 ⟨?_⟩
 obtain⟨x,cb,aH,af⟩:=qJ V
 refine(nP az fB aH _).Zm ?_
 rintro Em bf bE ⟨rfl,gz,eG⟩
 have jE:=eG.le
 have q9:=aH
 refine r6 b0.eq_1 ⟨?_⟩
 refine kx (λcP R aS=>∃I7 e2 x cx dh,cP.g 0=some (.ptr aJ 0)/\cP.g 3=some (.ptr cH 0)/\cP.g 4=some (.Z e2)/\cP.g 5=some (.ptr dh 0)/\cP.g 6=some (.bool I7)/\Z X R dh=zI (b0 x) 7/\be<=dh/\dh<aS/\cG X R (ei j be) left (.ptr cH 0)/\aQ X R aJ bJ aU cx/\cu X [aJ] h j R aS/\be<=aS/\
  (I7=true->pn m e2 x left (aU.drop cx)=some r)/\(I7=false->r= .ok (left,aU.drop cx))) (λY bD=> ?_) ?_
 ·have cR:∀h,Z X (bl X (bl X h bE (zI (b0 gZ) 7)) bE (some (.cells (d3 (M.ofList (b0 gZ) 0 .nil) 0 (b0 x)) 7 .own))) bE=zI (b0 x) 7:=λh=>bn Zo
  rcases af with ⟨aE,V⟩|⟨aE,V⟩
  ·rw[aE]at gz ⊢
   simp only[ZE]at gz ⊢
   refine c7 ⟨?_⟩
   refine bD _ _ _ ⟨true,19,x,jr+1,bE,bz t0,bz t3,bF,bF,bF,bn Zo,Zo,Zo, ?_,gz.ad (zK) (zK), ?_,Zo,λ_=>by rw[(fz q9).2];exact V,λa=>by cases a⟩
   ·refine cG.ex b6 (λe H K=> ?_) (Zj _) (Zj _)
    simp(disch:=omega) only[aL]
    exact eG.ad e Zo Zx
   ·exact⟨Zo,λe B bN=>by rw[<-(dt.trans eG).ad e B bN];exact zK⟩
  ·rw[aE]at gz ⊢
   simp only[Zv,ZD]at gz ⊢
   simp only[]at V
   refine ce @t0 ⟨?_⟩
   refine e8 (λbT=>bp X bf bE bT (bE+1)/\Z X bT bE=zI (b0 gZ) 7) ⟨dM,bn Zo⟩ ?_
   rintro bT ⟨dA,ep⟩
   have kW:=fB.go (gz.ex dA Zo Zo) (by omega:be<=bE+1)
   obtain⟨e,fG,oU,ap6⟩:=qJ V
   refine(nP az kW oU _).Zm ?_
   rintro GL bZ ct ⟨rfl,g8,dV⟩
   have hQ:=dV.le
   have fw:Z X bZ bE=zI (b0 gZ) 7:=by rw[dV.ad _ Zo Zx];exact ep
   have de:∀e,e<be->e≠aJ->Z X bZ e=Z X aP e:=λe H K=>by
    rw[dV.ad e Zo (by simpa using K),dA.ad e Zo,eG.ad e Zo (by simpa using K)]
   have eD:=((dt.trans eG).trans (cu.of dA)).trans dV
   unfold b0 gZ dr at fw
   rcases ap6 with ⟨IQ,V⟩|⟨IQ,V⟩
   ·rw[IQ]at g8 ⊢
    simp only[ZE]at g8 ⊢
    refine dq b0.eq_1 @fw ⟨?_⟩
    refine bD _ _ _ ⟨true,20,e,jr+1,bE,bz t0,bz t3,bF,bF,bF,bn Zo,Zo,Zo, ?_,g8.ad (zK) (zK), ?_,Zo,λ_=>by rw[(fz oU).2];exact V,λa=>by cases a⟩
    ·refine cG.ex b6 (λe H K=> ?_) (Zj _) (Zj _)
     simp(disch:=omega) only[aL]
     exact de e K Zo
    ·exact⟨Zo,λe B bN=>by rw[<-eD.ad e B bN];exact zK⟩
   ·rw[IQ]at g8 ⊢
    simp only[Zv,ZD]at g8 ⊢
    simp only[ok,Zc]at V
    refine g6 b0.eq_1 gZ.eq_1 dr.eq_1 @fw ⟨?_⟩
    refine bD _ _ _ ⟨false,20,gZ,jr,bE,bz t0,bz t3,bF,bF,bF,bn Zo,Zo,Zo, ?_,g8.ad (zK) (zK), ?_,Zo,λa=>(by cases a),λ_=>V.symm⟩
    ·refine cG.ex b6 (λe H K=> ?_) (Zj _) (Zj _)
     simp(disch:=omega) only[aL]
     exact de e K Zo
    ·exact⟨Zo,λe B bN=>by rw[<-eD.ad e B bN];exact zK⟩
 ·clear b6 gz eG af V aH q9 dm fB
  rintro awH b9 dP ⟨I7,e2,x,h1,dh,t0,t3,t4,t5,fN,dU,axP,axQ,eY,hr,eD,qx,B,jV⟩
  cases I7 with
  |false=>
   have V:=jV rfl
   subst V
   refine dq @fN @t3 ⟨?_⟩
   exact⟨left,h1,rfl,cG.lift (λe B=>⟨B.1,zE B.2⟩) _ _ eY,hr,eD⟩
  |true=>
   have V:=B rfl
   cases m with
   |zero=>simp[pn]at V
   |succ m=>
   unfold pn at V
   have mu:=ay.go hr (by omega:j<=dP)
   refine dq @fN @t0 ⟨?_⟩
   cases aH:aU.drop h1 with
   |nil=>rw[aH]at V;simp[iH,andThen]at V
   |cons e k=>
   rw[aH]at V
   simp only[iH]at V
   refine(Bv az mu.aY mu.par mu.ch mu.hi mu.gV mu.many (fz aH).1 4).mono ?_ ?_
   ·rintro aex cm en ⟨aG,rfl,hD,eZ⟩
    have re:=eZ.le
    rw[Zu aG]at V
    simp only[andThen,ok]at V
    have eu:Z X cm dh=zI (b0 x) 7:=by rw[eZ.ad _ Zo Zx];exact dU
    have e6:=cG.ex (R:=cm) eY (λe H K=>eZ.ad e Zo Zx) (Zj _) (Zj _)
    have uu:=eD.trans eZ
    refine r6 b0.eq_1 ⟨?_⟩
    refine gT ?_
    refine EO (λQL=> ?_) (λQL=> ?_)
    ·rw[Zu QL]at V
     simp only[bad,Zc]at V
     subst V
     refine ce b0.eq_1 ⟨?_⟩
     refine(HM az Zo e _ ?_).mono (λ_ _ _ a=>a.elim) (λ_ _ _ a=>a)
     intro R au bP
     exact⟨_,rfl,rfl,uu.trans (cu.of (bp.trans dM bP))⟩
    ·rw[Zg QL]at V
     refine g0 b0.eq_1 @t4 @t5 @t3 (bU eu) ⟨?_⟩
     refine⟨m,Zo,_, .ptr (en+1+1) 0,h1+1,bz t0,bF,cG.lit (q:=1) (cap:=1) (n:=e.n) (kind:=e2) (at_:=x.at_) (name:=[]) (no:=false) (ty:=dr) (b:=en+1+1) (ha:= .own) (cn:=en+1) (bx:=[.ptr cH 0]) (bn (b:=en+1+1) Zo) ⟨Zo,Zo⟩ ?_ ⟨Zo,Zo⟩ rfl Zo Zo (dw.one (cG.ad (λe B=> ?_) _ _ e6) (λe B=> ?_)), ?_, ?_,by rw[(fz aH).2];exact V⟩
     ·simp(disch:=omega) only[aL,bn]<;>rfl
     ·have H:=B.1;have K:=B.2
      simp(disch:=omega) only[aL]
     ·simp only[ei]at B ⊢;omega
     ·exact hD.ad (zK) (zK)
     ·exact⟨Zo,λe B bN=>by
       rw[<-uu.ad e B bN]
       simp(disch:=omega) only[aL]⟩
   ·rintro aex cm en ⟨aG,rfl,eZ⟩
    rw[Zg aG]at V
    simp only[andThen,bad,Zc]at V
    subst V
    exact⟨_,rfl,rfl,eD.trans eZ⟩
end
section
variable{X:cl}{h R aX aP:M ak}{j au aM be aJ bJ:Nat}{aU:List Tok}{i:Nat}
def aqw{n aN Y:Nat}{cs:List y}(q:IntKind)(a:Y<n):x1 true n aN (.agg cs) (.int q (Y:Int))=some (.agg ((cs.drop (Y*aN)).take aN)):=by
 simp[x1,sy,eQ,a]
def SU:List y:=[.str [110,111,116], .Z 3, .str [45], .Z 4, .str [112,114,101], .Z 5]
def att{Y:Nat}(a:Y<3):∃s q,yi.drop Y=(s,q)::yi.drop (Y+1)/\(SU.drop (Y*2)).take 2=[.str s, .Z q]:=by
 match Y,a with
 |0,_=>exact⟨_,_,rfl,rfl⟩
 |1,_=>exact⟨_,_,rfl,rfl⟩
 |2,_=>exact⟨_,_,rfl,rfl⟩
def atz(az:dW X){n:Nat}(aj:∀m,m<n->qN X aJ bJ aU m):∀h j i r,iu X h j aJ bJ aU i->Go.aQ.wu n (aU.drop i)=some r->a1 X 127 [.ptr aJ 0] h j (jN X aJ bJ aU h j r) (iN X aJ h j r):=by
 intro h j i r ay V
 cases n with
 |zero=>simp[Go.aQ.wu]at V
 |succ n=>
 refine zL az (afM X) ?_
 rw[afN]
 unfold Ur
 have gx:=ay.aY
 have j8:=ay.hi
 have hB:=ay.ch
 have jy:=ay.gV
 unfold Go.aQ.wu at V
 cases al:oJ yi (aU.drop i)with
 |none=>rw[al]at V;cases V
 |some gW=>
 rw[al]at V
 refine vI ⟨?_⟩
 refine kx (λI R aS=>I.g 0=some (.ptr aJ 0)/\aQ X R aJ bJ aU i/\cu X [aJ] h j R aS/\gW=(none,aU.drop i)) (λY bD=> ?_) ?_
 ·refine gK (λm I R aS=>∃Y,m=3-Y/\Y<=3/\I.g 0=some (.ptr aJ 0)/\I.g 15=some (.agg SU)/\I.g 16=some (.Z (Y:Int))/\aQ X R aJ bJ aU i/\cu X [aJ] h j R aS/\oJ (yi.drop Y) (aU.drop i)=some gW)
   3 ⟨0,rfl,Zo,bF,ho,ho,ay.par,cu.refl _ _ _,al⟩ ?_
  rintro m I aP be ⟨Y,rfl,L5,t0,Ei,Tz,dm,dt,al⟩
  have f1:=dt.le
  have fB:=ay.go dm f1
  refine r6 @Tz ⟨?_⟩
  refine gT ?_
  refine EO (λcJ=> ?_) (λcJ=> ?_)
  ·have cJ:Y<3:=Zo
   obtain⟨s,e2,j9,d2⟩:=att cJ
   rw[j9]at al
   simp only[oJ]at al
   have aaB:=aqw (n:=3) (aN:=2) (cs:=SU) .i64 cJ
   rw[d2]at aaB
   refine g6 @Ei @Tz @aaB @t0 ⟨?_⟩
   refine e8 (λbf=>bp X aP be bf (be+1)/\Z X bf be=zI [.str s, .Z e2] 2) ⟨dM,bn Zo⟩ ?_
   rintro bf ⟨cq,cR⟩
   cases aH:aU.drop i with
   |nil=>rw[aH]at al;simp[l6]at al
   |cons x k=>
   rw[aH]at al
   refine(nP az (fB.go (dm.ex cq Zo Zo) Zo) aH s).Zm ?_
   rintro ab bT b3 ⟨rfl,g7,eJ⟩
   have je:=eJ.le
   have ep:Z X bT be=zI [.str s, .Z e2] 2:=by rw[eJ.ad _ Zo Zx];exact cR
   have uu:=dt.trans ((cu.of cq).trans eJ)
   cases aE:gX x s with
   |true=>
    rw[aE]at g7
    simp only[l6,aE,ZE]at al g7 ⊢
    simp only[Zc]at al
    subst al
    simp only[]at V
    refine eP b0.eq_1 (bU ep) @t0 ⟨?_⟩
    refine e8 (λbZ=>bp X bT b3 bZ (b3+1+10)/\Z X bZ b3=zI (b0 x) 7) ⟨dM,bn Zo⟩ ?_
    rintro bZ ⟨dC,fw⟩
    have oo:=fB.go (g7.ex dC Zo Zo) (by omega:be<=b3+1+10)
    have dV:=uu.trans (cu.of dC)
    rw[<-(fz aH).2]at V
    rcases ge V with ⟨E,b1,rfl⟩|⟨Ac,kz,b1,V⟩
    ·exact((aj n Zo).tQ bZ _ _ _ oo b1).mono (λab R au a=>by obtain⟨D,cx,a,_⟩:=a;cases a) (λab R au a=>a.of dV (λ_ a=>a))
    refine((aj n Zo).tQ bZ _ _ _ oo b1).mono ?_ (λab R au a=>by obtain⟨E,a,_⟩:=a;cases a)
    rintro yt b9 dP ⟨awR,h1,Q1,eY,hr,eD⟩
    cases Q1
    have qx:=eD.le
    simp only[ok,Zc]at V
    subst V
    obtain⟨BH,rfl,IL,_⟩:=eY.ptr
    have dU:Z X b9 b3=zI (b0 x) 7:=by rw[eD.ad _ Zo Zx];exact fw
    have XA:Z X b9 be=zI [.str s, .Z e2] 2:=by rw[eD.ad _ Zo Zx,dC.ad _ Zo];exact ep
    refine eP (bU dU) (bU XA) b0.eq_1 ⟨?_⟩
    refine j0 (ry _ _) ?_
    refine eP (bU dU) (bU XA) b0.eq_1 ⟨?_⟩
    refine j0 (ry _ _) ?_
    refine⟨_,h1,rfl,cG.lit (q:=1) (cap:=1) (n:=0) (kind:=e2) (at_:=x.at_) (name:=[]) (no:=false) (ty:=dr) (b:=b3+1+8) (ha:= .own) (cn:=b3+1+6) (bx:=[.ptr BH 0]) (bn (b:=b3+1+8) Zo) ⟨Zo,Zo⟩ ?_ ⟨Zo,Zo⟩ rfl Zo Zo (dw.one (cG.ad (λe B=> ?_) _ _ eY) (λe B=> ?_)), ?_, ?_⟩
    ·simp(disch:=omega) only[aL,bn]<;>rfl
    ·have H:=B.1;have K:=B.2
     simp(disch:=omega) only[aL]
    ·simp only[ei]at B ⊢;omega
    ·exact hr.ad (zK) (zK)
    ·exact⟨Zo,λe B bN=>by
      rw[<-(dV.trans eD).ad e B bN]
      simp(disch:=omega) only[aL]⟩
   |false=>
    rw[aE]at g7
    simp only[l6,aE,Zv,ZD]at al g7 ⊢
    have bB:=zJ Y
    refine g6 b0.eq_1 gZ.eq_1 @Tz @bB ⟨?_⟩
    refine⟨_, ?_,Y+1,rfl,Zo,bz t0,bz Ei,bF,g7.ad (zK) (zK), ?_,al⟩
    ·omega
    ·exact⟨Zo,λb al bN=>by rw[<-uu.ad b al bN];exact zK⟩
  ·have bD:Y=3:=Zo
   subst bD
   simp only[yi,Yh,Z9,oJ,Zc]at al
   refine c7 ⟨?_⟩
   exact bD _ _ _ ⟨bz t0,dm,dt,al.symm⟩
 ·clear al
  rintro nX fg aY ⟨t0,aaY,LG,rfl⟩
  simp only[]at V
  have Iz:=LG.le
  have SW:=ay.go aaY Iz
  refine ce @t0 ⟨?_⟩
  rcases ge V with ⟨E,H,rfl⟩|⟨left,dv,H,V⟩
  ·exact((aj n Zo).part fg aY i _ SW H).mono (λab R au a=>by obtain⟨D,cx,a,_⟩:=a;cases a) (λab R au a=>a.of LG (λ_ a=>a))
  refine((aj n Zo).part fg aY i _ SW H).mono ?_ (λab R au a=>by obtain⟨E,a,_⟩:=a;cases a)
  rintro ve aX aM ⟨D,ri,bt,bY,eb,h5⟩
  cases bt
  have jD:=h5.le
  refine gT ?_
  refine gK (λm I R aS=>∃left v cx,I.g 0=some (.ptr aJ 0)/\I.g 7=some v/\cG X R (ei j aS) left v/\aQ X R aJ bJ aU cx/\cu X [aJ] h j R aS/\nr m left (aU.drop cx)=some r)
   n ⟨left,ve,ri,bz t0,bF,cG.lift (λe B=>⟨zE B.1,B.2⟩) _ _ bY,eb,LG.trans h5,V⟩ ?_
  clear bY eb h5 H V jD t0 aaY LG Iz SW
  rintro m I aP be ⟨left,v,jr,t0,fx,b6,dm,dt,V⟩
  cases m with
  |zero=>simp[nr]at V
  |succ m=>
  unfold nr at V
  have f1:=dt.le
  have fB:=ay.go dm f1
  refine gT ?_
  obtain⟨cH,rfl,nF,_⟩:=b6.ptr
  have nF:=nF.2
  refine ce @t0 ⟨?_⟩
  obtain⟨x,cb,aH,af⟩:=qJ V
  refine(nP az fB aH _).Zm ?_
  rintro Em bf bE ⟨rfl,gz,eG⟩
  have jE:=eG.le
  have X9:=dt.trans eG
  have cq:=cG.ex (R:=bf) b6 (λe H K=>eG.ad e Zo Zx) (Zj _) (Zj _)
  rcases af with ⟨aE,V⟩|⟨aE,V⟩
  ·rw[aE]at gz ⊢
   simp only[ZE]at gz ⊢
   rw[<-(fz aH).2]at V
   simp only[]at V
   refine dq b0.eq_1 @t0 ⟨?_⟩
   refine e8 (λbZ=>bp X bf bE bZ (bE+1)/\Z X bZ bE=zI (b0 x) 7) ⟨dM,bn Zo⟩ ?_
   rintro bZ ⟨dC,fw⟩
   have oo:=fB.go (gz.ex dC Zo Zo) (by omega:be<=bE+1)
   obtain⟨e,kz,Ip,I2⟩:=qJ V
   refine(nP az oo Ip _).Zm ?_
   rintro aew b9 dP ⟨rfl,hr,eD⟩
   have qx:=eD.le
   have dU:Z X b9 bE=zI (b0 x) 7:=by rw[eD.ad _ Zo Zx];exact fw
   have ut:=(X9.trans (cu.of dC)).trans eD
   have eY:=cG.ex (R:=b9) cq (λe H K=>by rw[eD.ad e Zo Zx,dC.ad e Zo]) (Zj _) (Zj _)
   have mI:andThen (iH 1 (aU.drop (if gX e [110,111,116]then jr+1+1 else jr+1))) (λc k=>nr m (.mk 6 x.at_ c.text (gX e [110,111,116]) dr 0 [left]) k)=some r:=by
    rcases I2 with ⟨RN,mI⟩|⟨RN,mI⟩
    ·simp only[RN,ZE];rw[(fz Ip).2];exact mI
    ·simp only[RN,Zv,ZD];exact mI
   clear V I2
   generalize (if gX e [110,111,116]then jr+1+1 else jr+1)=h1 at mI hr
   generalize (if gX e [110,111,116]then e else gZ)=TT
   generalize gX e [110,111,116]=no at mI
   refine g6 b0.eq_1 (bU dU) @t0 @fx ⟨?_⟩
   refine e8 (λcm=>bp X b9 dP cm (dP+1+11)/\Z X cm (dP+1+7)=zI [.ptr cH 0] 1) ⟨dM,bn Zo⟩ ?_
   rintro cm ⟨e6,eu⟩
   have ni:=fB.go (hr.ex e6 Zo Zo) (by omega:be<=dP+1+11)
   cases sh:aU.drop h1 with
   |nil=>rw[sh]at mI;simp[iH,andThen]at mI
   |cons c kA=>
   rw[sh]at mI
   simp only[iH]at mI
   refine(Bv az ni.aY ni.par ni.ch ni.hi ni.gV ni.many (fz sh).1 1).mono ?_ ?_
   ·rintro u8 dk jI ⟨aG,rfl,v7,gR⟩
    have Dc:=gR.le
    rw[Zu aG]at mI
    simp only[andThen,ok]at mI
    have hf:Z X dk bE=zI (b0 x) 7:=by rw[gR.ad _ Zo Zx,e6.ad _ Zo];exact dU
    have alP:Z X dk (dP+1+7)=zI [.ptr cH 0] 1:=by rw[gR.ad _ Zo Zx];exact eu
    refine dq b0.eq_1 (bU hf) ⟨?_⟩
    refine j0 (ry _ _) ?_
    refine⟨m,Zo,_, .ptr (dP+1+9) 0,h1+1,bz t0,bF,cG.lit (q:=1) (cap:=1) (n:=0) (kind:=6) (at_:=x.at_) (name:=c.text) (no:=no) (ty:=dr) (b:=dP+1+9) (ha:= .own) (cn:=dP+1+7) (bx:=[.ptr cH 0]) (bn (b:=dP+1+9) Zo) ⟨Zo,Zo⟩ ?_ ⟨Zo,Zo⟩ rfl Zo Zo (dw.one (cG.ad (λe B=> ?_) _ _ eY) (λe B=> ?_)), ?_, ?_,by rw[(fz sh).2];exact mI⟩
    ·simp(disch:=omega) only[aL];exact alP
    ·have H:=B.1;have K:=B.2
     simp(disch:=omega) only[aL]
     rw[gR.ad e Zo Zx,e6.ad e Zo]
    ·simp only[ei]at B ⊢;omega
    ·exact v7.ad (zK) (zK)
    ·exact⟨Zo,λe B bN=>by
      rw[<-((ut.trans (cu.of e6)).trans gR).ad e B bN]
      simp(disch:=omega) only[aL]⟩
   ·rintro u8 dk jI ⟨aG,rfl,gR⟩
    rw[Zg aG]at mI
    simp only[andThen,bad,Zc]at mI
    subst mI
    exact⟨_,rfl,rfl,(ut.trans (cu.of e6)).trans gR⟩
  ·rw[aE]at gz ⊢
   simp only[Zv,ZD]at gz ⊢
   simp only[ok,Zc]at V
   subst V
   refine eP b0.eq_1 gZ.eq_1 @fx ⟨?_⟩
   refine⟨left,jr,rfl,cG.ex cq (λe H K=> ?_) (Zj _) Zo,gz.ad (zK) (zK), ?_⟩
   ·simp(disch:=omega) only[aL]
   ·exact⟨Zo,λb al bN=>by rw[<-X9.ad b al bN];exact zK⟩
end
section
variable{X:cl}{h R aX aP:M ak}{j au aM be aJ bJ:Nat}{aU:List Tok}{i:Nat}
def p3(E b:Nat)(cy:List Nat):Nat->Prop:=λe=>E<=e/\e<b/\e∉cy
def dw.off{C:aT}{Q:Nat->Prop}{E b cn:Nat}{cy:List Nat}{a2:y}{ci:List bL}{bx:List y}(a:dw C h (p3 E b cy) ci bx)(V:et C h (λe=>Q e/\e∈cy) cn a2 1 (bx.map λv=>[v])):dw C h (λe=>ei E b e/\e≠cn) ci bx:=by
 cases bx with
 |nil=>
  have:=a.len
  cases ci with
  |nil=>exact .nil
  |cons=>simp at this
 |cons v bx=>
  have al:=(V.al Zs).2
  exact dw.lift (λe B=>⟨⟨B.1,B.2.1⟩,λD=>B.2.2 (D▸al)⟩) _ _ a
def jt(az:dW X)(ay:iu X h j aJ bJ aU i){cn:Nat}{s:ba}(Fp:cn<j)(xQ:cn≠aJ)(aE:Z X h cn=zI [.str s] 1){r:Except Int (Tok×List Tok)}(V:eo s (aU.drop i)=some r):
 a1 X 59 [.ptr aJ 0, .slice cn 0 1 1] h j (λab R au=>∃x cx,r= .ok (x,aU.drop cx)/\ab= .agg (b0 x)/\aQ X R aJ bJ aU cx/\cu X [aJ] h j R au) (iN X aJ h j r):=by
 have H:et X h (λe=>e=cn) cn (.slice cn 0 1 1) 1 (ip [s]):=JI (aK:=[[.str s]]) (st:= .own) aE rfl Zs Zs rfl
 refine(aeH az ay.aY ay.par ay.ch ay.hi ay.gV ay.many Fp xQ H (r:=r) ?_)
 simp only[rC]
 rw[V]
 obtain⟨D|⟨x,k⟩,_⟩:∃ai,ai=r:=⟨r,rfl⟩
 all_goals(rename_i bG;subst bG;rfl)
def arI(az:dW X){n:Nat}(lY:n<=300000)(aj:∀m,m<n->qN X aJ bJ aU m):∀h j i r,iu X h j aJ bJ aU i->Go.aQ.list n (aU.drop i)=some r->a1 X 136 [.ptr aJ 0] h j (λab R au=>∃ci cx bx cn,r= .ok (ci,aU.drop cx)/\et X R (ei j au) cn ab 1 (bx.map λv=>[v])/\dw X R (λe=>ei j au e/\e≠cn) ci bx/\aQ X R aJ bJ aU cx/\cu X [aJ] h j R au) (iN X aJ h j r):=by
 intro h j i r ay V
 cases n with
 |zero=>simp[Go.aQ.list]at V
 |succ n=>
 refine zL az (afQ X) ?_
 rw[afR]
 unfold Ut
 have gx:=ay.aY
 have j8:=ay.hi
 have hB:=ay.ch
 have jy:=ay.gV
 unfold Go.aQ.list at V
 obtain⟨x,cb,aH,af⟩:=qJ V
 refine(nP az ay aH _).Zm ?_
 rintro ve aX aM ⟨rfl,eb,h5⟩
 have jD:=h5.le
 rcases af with ⟨aE,V⟩|⟨aE,V⟩
 ·rw[aE]at eb ⊢
  simp only[ZE]at eb ⊢
  simp only[ok,Zc]at V
  subst V
  refine ce b0.eq_1 ⟨?_⟩
  refine⟨[],i+1,[],0,by rw[(fz aH).2],et.nil _ _, .nil,eb.ad (zK) (zK), ?_⟩
  exact⟨Zo,λb al bN=>by rw[<-h5.ad b al bN];exact zK⟩
 ·rw[aE]at eb ⊢
  simp only[Zv,ZD]at eb ⊢
  simp only[]at V
  refine dq b0.eq_1 gZ.eq_1 ⟨?_⟩
  refine e8 (λbf=>bp X aX aM bf (aM+1)) dM ?_
  intro aP b6
  have fB:=ay.go (eb.ex b6 Zo Zo) (by omega:j<=aM+1)
  have dt:=h5.trans (cu.of b6)
  rcases ge V with ⟨E,K,rfl⟩|⟨D,cD,K,V⟩
  ·exact((aj n Zo).arrow aP _ _ _ fB K).mono (λab R au a=>by obtain⟨D,cx,a,_⟩:=a;cases a) (λab R au a=>a.of dt (λ_ a=>by cases a;rfl))
  refine((aj n Zo).arrow aP _ _ _ fB K).mono ?_ (λab R au a=>by obtain⟨E,a,_⟩:=a;cases a)
  rintro v3 bf bE ⟨fj,i3,anM,cq,gz,eG⟩
  cases anM
  have jE:=eG.le
  obtain⟨d7,rfl,qA,_⟩:=cq.ptr
  have qA:=qA.2
  refine c7 ⟨?_⟩
  refine gK (λm I R aS=>∃ci bx s cy cx,bx.length+m<=n+1/\I.g 0=some (.ptr aJ 0)/\I.g 5=some s/\gu X R s 1 bx cy/\(∀e∈cy,j<=e/\e<aS)/\dw X R (p3 j aS cy) ci bx/\aQ X R aJ bJ aU cx/\cu X [aJ] h j R aS/\pe m ci (aU.drop cx)=some r)
   n ⟨[D],[.ptr d7 0], .slice bE 0 1 1,[bE],i3,Zx,bF,bF, .inr ⟨bE,1,_,_,rfl,rfl,rfl,bn Zo,lk _,rfl,Zo⟩, ?_, ?_,gz.ad (zK) (zK), ?_,V⟩ ?_
  ·intro e B
   simp at B
   omega
  ·refine dw.one (cG.ad (λe B=> ?_) _ _ cq) (λe B=>⟨zE B.1,zE B.2,by have:=B.2;simp;omega⟩)
   have:=B.2
   simp(disch:=omega) only[aL]
  ·exact⟨Zo,λb al bN=>by rw[<-(dt.trans eG).ad b al bN];exact zK⟩
  clear cq gz eG K V qA
  rintro m I bT b3 ⟨ci,bx,s,cy,i4,bc,t0,t5,jF,hY,Fv,g7,eJ,V⟩
  cases m with
  |zero=>simp[pe]at V
  |succ m=>
  unfold pe at V
  have je:=eJ.le
  have kW:=ay.go g7 je
  refine gT ?_
  refine ce @t0 ⟨?_⟩
  obtain⟨e,cb,aH,af⟩:=qJ V
  refine(nP az kW aH _).Zm ?_
  rintro GL bZ ct ⟨rfl,g8,dV⟩
  have hQ:=dV.le
  have o9:∀e,j<=e->e<b3->Z X bZ e=Z X bT e:=λe H K=>dV.ad e Zo Zx
  have o3:=jF.ad (R:=bZ) (λe B=>o9 e (hY e B).1 (hY e B).2)
  have uC:=dw.ad (R:=bZ) (λe B=>o9 e B.1 B.2.1) _ _ Fv
  rcases af with ⟨aE,V⟩|⟨aE,V⟩
  ·rw[aE]at g8 ⊢
   simp only[ZE]at g8 ⊢
   rw[<-(fz aH).2]at V
   simp only[]at V
   refine eP b0.eq_1 @t0 @t5 ⟨?_⟩
   refine e8 (λbf=>bp X bZ ct bf (ct+1)) dM ?_
   intro b9 eY
   have eD:=(eJ.trans dV).trans (cu.of eY)
   have mu:=kW.go (g8.ex eY Zo Zo) (by omega:b3<=ct+1)
   rcases ge V with ⟨E,df,rfl⟩|⟨EY,kA,df,V⟩
   ·exact((aj m Zo).arrow b9 _ _ _ mu df).mono (λab R au a=>by obtain⟨D,cx,a,_⟩:=a;cases a) (λab R au a=>a.of eD (λ_ a=>by cases a;rfl))
   refine((aj m Zo).arrow b9 _ _ _ mu df).mono ?_ (λab R au a=>by obtain⟨E,a,_⟩:=a;cases a)
   rintro J5 cm en ⟨W4,o6,xG,e6,hD,eZ⟩
   cases xG
   have re:=eZ.le
   obtain⟨BI,rfl,Dn,_⟩:=e6.ptr
   have Dn:=Dn.2
   refine c7 ⟨?_⟩
   have aqL:∀gt,gt=bl X cm en (zI [.ptr BI 0] 1)->∀e,j<=e->e<ct->Z X gt e=Z X bZ e:=by
    rintro gt rfl e H K
    rw[aL Zo Zo,eZ.ad e Zo Zx,eY.ad e Zo]
   have h7:hI X (bl X cm en (zI [.ptr BI 0] 1)) 1 (.slice en 0 1 1)=some (1,[.ptr BI 0]):=pp (bn Zo) (lk _) rfl _
   obtain⟨fc,dk,hS,ii,RR,Ik,Da⟩:=(o3.ad (R:=bl X cm en (zI [.ptr BI 0] 1)) (λe B=>aqL _ rfl e (hY e B).1 (zE (hY e B).2))).append (j:=en+1) Zd h7 rfl Zd rfl Zx Zo (λe B=>zE (hY e B).2)
   refine kh ii ?_
   have fS:∀e,e<en->e∉cy->Z X dk e=Z X cm e:=λe H K=>by
    rw[Da e Zo K,aL Zo Zo]
   refine⟨m,Zo,ci++[EY],bx++[.ptr BI 0],fc,hS,o6,Zx,bz t0,bF, .inl RR, ?_, ?_, ?_, ?_,V⟩
   ·intro e B
    rcases Ik e B with rfl|B
    ·omega
    ·have:=hY e B;omega
   ·refine dw.snoc (cG.ad (λe B=> ?_) _ _ e6) (dw.ad (λe B=> ?_) _ _ uC) (λe B=>⟨B.1,zE B.2.1,λgh=> ?_⟩) (λe B=>⟨⟨zE B.1,zE B.2,λgh=> ?_⟩,λo5=>by have:=B.1;have:=o5.2.1;omega⟩)
    ·have H:=B.1
     exact fS e B.2 (λgh=>zE (hY e gh))
    ·have K:=B.2.1
     rw[fS e Zo B.2.2,eZ.ad e Zo (by have:=B.1;simp;omega),eY.ad e Zo]
    ·have K:=B.2.1
     rcases Ik e gh with rfl|gh
     ·omega
     ·exact B.2.2 gh
    ·have H:=B.1;have K:=B.2
     rcases Ik e gh with rfl|gh
     ·omega
     ·have:=hY e gh;omega
   ·exact hD.ad (fS _ Zo (λD=>zE (hY _ D))) (fS _ Zo (λD=>zE (hY _ D)))
   ·exact⟨Zo,λb al bN=>by rw[fS b Zo (λD=>zE (hY _ D))];exact(eD.trans eZ).ad b al bN⟩
  ·rw[aE]at g8 ⊢
   simp only[Zv,ZD]at g8 ⊢
   simp only[]at V
   refine g6 b0.eq_1 gZ.eq_1 @t0 @t5 ⟨?_⟩
   refine e8 (λbf=>bp X bZ ct bf (ct+1+1)/\Z X bf (ct+1)=zI [.str [41]] 1) ⟨dM,bn Zo⟩ ?_
   rintro b9 ⟨eY,dU⟩
   have eD:=(eJ.trans dV).trans (cu.of eY)
   have mu:=kW.go (g8.ex eY Zo Zo) (by omega:b3<=ct+1+1)
   rcases ge V with ⟨E,df,rfl⟩|⟨EY,kA,df,V⟩
   ·exact(jt az mu Zo Zo dU df).mono (λab R au a=>by obtain⟨D,cx,a,_⟩:=a;cases a) (λab R au a=>a.of eD (λ_ a=>by cases a;rfl))
   refine(jt az mu Zo Zo dU df).mono ?_ (λab R au a=>by obtain⟨E,a,_⟩:=a;cases a)
   rintro J5 cm en ⟨W4,o6,xG,_,hD,eZ⟩
   cases xG
   have re:=eZ.le
   simp only[ok,Zc]at V
   subst V
   refine ce @t5 ⟨?_⟩
   have e1:∀e,j<=e->e<ct->Z X cm e=Z X bZ e:=λe H K=>by
    rw[eZ.ad e Zo Zx,eY.ad e Zo]
   obtain⟨cn,c3⟩:=(o3.ad (R:=cm) (λe B=>e1 e (hY e B).1 (zE (hY e B).2))).NA (P:=λe=>ei j en e/\e∈cy) Zo (λe B=>⟨⟨(hY e B).1,zE (hY e B).2⟩,B⟩)
   refine⟨ci,o6,bx,cn,rfl,c3.lift (λe B=>B.1), ?_,hD,eD.trans eZ⟩
   exact dw.lift (λe B=>⟨⟨B.1.1,zE B.1.2⟩,B.2⟩) _ _ (dw.off (dw.ad (λe B=>e1 e B.1 (zE B.2.1)) _ _ uC) c3)
end
section
variable{X:cl}{h R aX aP:M ak}{j au aM be aJ bJ:Nat}{aU:List Tok}{i:Nat}
def atk(az:dW X){n:Nat}{r:Except Int (bL×List Tok)}(ay:iu X h j aJ bJ aU i){x:Tok}{k:List Tok}(aH:aU.drop i=x::k)(aG:x.kind=5)(V:Go.aQ.part (n+1) (x::k)=some r):
 a1 X 133 [.ptr aJ 0] h j (jN X aJ bJ aU h j r) (iN X aJ h j r):=by
 refine zL az (yL X) ?_
 rw[yM]
 unfold wX
 have gx:=ay.aY
 have j8:=ay.hi
 have hB:=ay.ch
 have jy:=ay.gV
 obtain⟨af,jU⟩:=fz aH
 unfold Go.aQ.part at V
 refine(rp az ay.aY ay.par ay.hi ay.gV af).Zm ?_
 rintro ab aX aM ⟨rfl,bY⟩
 have jD:=bY.le
 have eb:=ay.par.ex bY Zo Zo
 obtain⟨c,ao,a7,b2,a3,a4⟩:=eb.at_
 have bS:=jW a7 a3
 have jC:=(Zb.1 af).1
 have uJ:=ay.many
 have cE:=eb.ne
 have bB:=zJ i
 refine gG b0.eq_1 @bS (Za @bB @a7) ⟨?_⟩
 generalize dN:bl X _ aJ _=aP
 have ft:Z X aP aM=zI (b0 x) 7:=by rw[<-dN];simp(disch:=omega) only[aL,bn]<;>rfl
 have iA:Z X aP (aM+1)=zI (gL 0 x.at_ [] false dr 0 .aW) 9:=by rw[<-dN];simp(disch:=omega) only[aL,bn]<;>rfl
 have dm:aQ X aP aJ bJ aU (i+1):=by
  refine eb.on (c:=d3 c 1 [.Z ((i+1:Nat):Int)]) ?_ (λd9 st a=>by rw[a7]at a;cases a;exact qL ..) ?_
  ·rw[<-dN];simp(disch:=omega) only[aL,bn];rfl
  ·rw[<-dN];simp(disch:=omega) only[aL]
 have dt:cu X [aJ] h j aP (aM+2):=by
  refine⟨Zo,λb al bN=> ?_⟩
  rw[<-bY.ad b al, <-dN]
  simp only[Zr,ZN,Y4,Yw,ZK,Yi]at bN
  simp(disch:=omega) only[aL]
 clear dN bS a7 b2 a3 a4 eb bY
 have th:∃dx,Z X aP aJ=some (.cells dx 2 .own)/\aV X aP (.ptr aJ 1)=some (.Z ((i+1:Nat):Int)):=by
  obtain⟨c,ao,b4,cr,cS,fh⟩:=dm.at_
  exact⟨c,b4,jW b4 cS⟩
 have fB:=ay.go dm (by omega:j<=aM+1+1)
 refine kx (λI R aS=>∃v,I.g 4=some v/\jN X aJ bJ aU h j r v R aS) (λY bD=> ?_) (by
  rintro I R aS ⟨v,t4,a⟩
  refine ce @t4 ⟨?_⟩
  exact a)
 rw[Zu aG]at V
 simp only[ok,Zc]at V
 subst V
 have fR:decide (x.kind=5)=true:=by simp[aG]
 refine g6 (bU ft) @iA @fR b0.eq_1 ⟨?_⟩
 refine j0 (by simp[y.same,qE]) ?_
 refine eP (bU ft) @iA b0.eq_1 ⟨?_⟩
 refine j0 (ry _ _) ?_
 refine eP (bU ft) @iA b0.eq_1 ⟨?_⟩
 refine j0 (ry _ _) ?_
 refine eP (bU ft) @iA b0.eq_1 ⟨?_⟩
 refine bD _ _ _ ⟨.ptr (aM+1) 0,bF,_,i+1,by rw[<-jU],cG.leaf (b:=aM+1) (m:=9) (st:= .own) ?_ ⟨Zo,Zo⟩,dm.ad (zK) (zK), ?_⟩
 ·simp(disch:=omega) only[aL,bn]<;>rfl
 ·exact⟨Zo,λb al bN=>by rw[<-dt.ad b al bN];exact zK⟩
end
section
variable{X:cl}{h R aX aP:M ak}{j au aM be aJ bJ:Nat}{aU:List Tok}{i:Nat}
def adl(az:dW X){n:Nat}{r:Except Int (bL×List Tok)}(ay:iu X h j aJ bJ aU i){x:Tok}{k:List Tok}(aH:aU.drop i=x::k)(aG:x.kind=2)(a8:x.text=[116,114,117,101]\/x.text=[102,97,108,115,101])(V:Go.aQ.part (n+1) (x::k)=some r):
 a1 X 133 [.ptr aJ 0] h j (jN X aJ bJ aU h j r) (iN X aJ h j r):=by
 refine zL az (yL X) ?_
 rw[yM]
 unfold wX
 have gx:=ay.aY
 have j8:=ay.hi
 have hB:=ay.ch
 have jy:=ay.gV
 obtain⟨af,jU⟩:=fz aH
 unfold Go.aQ.part at V
 refine(rp az ay.aY ay.par ay.hi ay.gV af).Zm ?_
 rintro ab aX aM ⟨rfl,bY⟩
 have jD:=bY.le
 have eb:=ay.par.ex bY Zo Zo
 obtain⟨c,ao,a7,b2,a3,a4⟩:=eb.at_
 have bS:=jW a7 a3
 have jC:=(Zb.1 af).1
 have uJ:=ay.many
 have cE:=eb.ne
 have bB:=zJ i
 refine gG b0.eq_1 @bS (Za @bB @a7) ⟨?_⟩
 generalize dN:bl X _ aJ _=aP
 have ft:Z X aP aM=zI (b0 x) 7:=by rw[<-dN];simp(disch:=omega) only[aL,bn]<;>rfl
 have iA:Z X aP (aM+1)=zI (gL 0 x.at_ [] false dr 0 .aW) 9:=by rw[<-dN];simp(disch:=omega) only[aL,bn]<;>rfl
 have dm:aQ X aP aJ bJ aU (i+1):=by
  refine eb.on (c:=d3 c 1 [.Z ((i+1:Nat):Int)]) ?_ (λd9 st a=>by rw[a7]at a;cases a;exact qL ..) ?_
  ·rw[<-dN];simp(disch:=omega) only[aL,bn];rfl
  ·rw[<-dN];simp(disch:=omega) only[aL]
 have dt:cu X [aJ] h j aP (aM+2):=by
  refine⟨Zo,λb al bN=> ?_⟩
  rw[<-bY.ad b al, <-dN]
  simp only[Zr,ZN,Y4,Yw,ZK,Yi]at bN
  simp(disch:=omega) only[aL]
 clear dN bS a7 b2 a3 a4 eb bY
 have th:∃dx,Z X aP aJ=some (.cells dx 2 .own)/\aV X aP (.ptr aJ 1)=some (.Z ((i+1:Nat):Int)):=by
  obtain⟨c,ao,b4,cr,cS,fh⟩:=dm.at_
  exact⟨c,b4,jW b4 cS⟩
 have fB:=ay.go dm (by omega:j<=aM+1+1)
 refine kx (λI R aS=>∃v,I.g 4=some v/\jN X aJ bJ aU h j r v R aS) (λY bD=> ?_) (by
  rintro I R aS ⟨v,t4,a⟩
  refine ce @t4 ⟨?_⟩
  exact a)
 rw[Zg (by rw[aG];decide),Zu (by rcases a8 with a|a<;>simp[aG,a])]at V
 simp only[ok,Zc]at V
 subst V
 have fR:decide (x.kind=5)=false:=by simp[aG]
 have cC:decide (x.kind=2)=true:=by simp[aG]
 rcases a8 with a8|a8
 ·have HG:decide (x.text=[116,114,117,101])=true:=by simp[a8]
  refine kr (bU ft) @iA @fR @cC @HG b0.eq_1 ⟨?_⟩
  refine bD _ _ _ ⟨.ptr (aM+1) 0,bF,_,i+1,by rw[<-jU],cG.leaf (b:=aM+1) (m:=9) (st:= .own) (n:=if x.text=[116,114,117,101]then 1 else 0) ?_ ⟨Zo,Zo⟩,dm.ad (zK) (zK), ?_⟩
  ·rw[Zu a8];simp(disch:=omega) only[aL,bn]<;>rfl
  ·exact⟨Zo,λb al bN=>by rw[<-dt.ad b al bN];exact zK⟩
 ·have HG:decide (x.text=[116,114,117,101])=false:=by simp[a8]
  have bb:decide (x.text=[102,97,108,115,101])=true:=by simp[a8]
  refine fA (bU ft) @iA @fR @cC @HG @bb b0.eq_1 ⟨?_⟩
  refine bD _ _ _ ⟨.ptr (aM+1) 0,bF,_,i+1,by rw[<-jU],cG.leaf (b:=aM+1) (m:=9) (st:= .own) (n:=if x.text=[116,114,117,101]then 1 else 0) ?_ ⟨Zo,Zo⟩,dm.ad (zK) (zK), ?_⟩
  ·rw[Zg (by rw[a8];decide)];simp(disch:=omega) only[aL,bn]<;>rfl
  ·exact⟨Zo,λb al bN=>by rw[<-dt.ad b al bN];exact zK⟩
end
section
variable{X:cl}{h R aX aP:M ak}{j au aM be aJ bJ:Nat}{aU:List Tok}{i:Nat}
def atm(az:dW X){n:Nat}(aj:∀m,m<n+1->qN X aJ bJ aU m){r:Except Int (bL×List Tok)}(ay:iu X h j aJ bJ aU i){x:Tok}{k:List Tok}(aH:aU.drop i=x::k)(lY:n<=1000000)(aG:x.kind=1)(V:Go.aQ.part (n+1) (x::k)=some r):
 a1 X 133 [.ptr aJ 0] h j (jN X aJ bJ aU h j r) (iN X aJ h j r):=by
 refine zL az (yL X) ?_
 rw[yM]
 unfold wX
 have gx:=ay.aY
 have j8:=ay.hi
 have hB:=ay.ch
 have jy:=ay.gV
 obtain⟨af,jU⟩:=fz aH
 unfold Go.aQ.part at V
 refine(rp az ay.aY ay.par ay.hi ay.gV af).Zm ?_
 rintro ab aX aM ⟨rfl,bY⟩
 have jD:=bY.le
 have eb:=ay.par.ex bY Zo Zo
 obtain⟨c,ao,a7,b2,a3,a4⟩:=eb.at_
 have bS:=jW a7 a3
 have jC:=(Zb.1 af).1
 have uJ:=ay.many
 have cE:=eb.ne
 have bB:=zJ i
 refine gG b0.eq_1 @bS (Za @bB @a7) ⟨?_⟩
 generalize dN:bl X _ aJ _=aP
 have ft:Z X aP aM=zI (b0 x) 7:=by rw[<-dN];simp(disch:=omega) only[aL,bn]<;>rfl
 have iA:Z X aP (aM+1)=zI (gL 0 x.at_ [] false dr 0 .aW) 9:=by rw[<-dN];simp(disch:=omega) only[aL,bn]<;>rfl
 have dm:aQ X aP aJ bJ aU (i+1):=by
  refine eb.on (c:=d3 c 1 [.Z ((i+1:Nat):Int)]) ?_ (λd9 st a=>by rw[a7]at a;cases a;exact qL ..) ?_
  ·rw[<-dN];simp(disch:=omega) only[aL,bn];rfl
  ·rw[<-dN];simp(disch:=omega) only[aL]
 have dt:cu X [aJ] h j aP (aM+2):=by
  refine⟨Zo,λb al bN=> ?_⟩
  rw[<-bY.ad b al, <-dN]
  simp only[Zr,ZN,Y4,Yw,ZK,Yi]at bN
  simp(disch:=omega) only[aL]
 clear dN bS a7 b2 a3 a4 eb bY
 have th:∃dx,Z X aP aJ=some (.cells dx 2 .own)/\aV X aP (.ptr aJ 1)=some (.Z ((i+1:Nat):Int)):=by
  obtain⟨c,ao,b4,cr,cS,fh⟩:=dm.at_
  exact⟨c,b4,jW b4 cS⟩
 have fB:=ay.go dm (by omega:j<=aM+1+1)
 refine kx (λI R aS=>∃v,I.g 4=some v/\jN X aJ bJ aU h j r v R aS) (λY bD=> ?_) (by
  rintro I R aS ⟨v,t4,a⟩
  refine ce @t4 ⟨?_⟩
  exact a)
 rw[Zg (by rw[aG];decide),Zg (by simp[aG]),Zu aG]at V
 have fR:decide (x.kind=5)=false:=by simp[aG]
 have cC:decide (x.kind=2)=false:=by simp[aG]
 have cB:decide (x.kind=1)=true:=by simp[aG]
 refine kr (bU ft) @iA @fR @cC @cB b0.eq_1 ⟨?_⟩
 refine j0 (by simp[y.same,DT]) ?_
 refine eP (bU ft) @iA b0.eq_1 ⟨?_⟩
 refine e8 (λbf=>Z X bf (aM+1)=zI (gL 2 x.at_ x.text false dr 0 .aW) 9/\aQ X bf aJ bJ aU (i+1)/\cu X [aJ] h j bf (aM+1+1+10)) ⟨?_, ?_, ?_⟩ ?_
 ·simp(disch:=omega) only[aL,bn]<;>rfl
 ·exact dm.ad (zK) (zK)
 ·exact⟨Zo,λb al bN=>by rw[<-dt.ad b al bN];exact zK⟩
 clear dm fB dt ft iA th
 rintro bf ⟨iA,gz,eG⟩
 have nh:=ay.go gz (by omega:j<=aM+1+1+10)
 rw[<-jU]at V
 obtain⟨e,fl,C2,RZ⟩:=qJ V
 refine(nP az nh C2 _).Zm ?_
 rintro GK bT b3 ⟨rfl,g7,eJ⟩
 have je:=eJ.le
 have HQ:Z X bT (aM+1)=zI (gL 2 x.at_ x.text false dr 0 .aW) 9:=by rw[eJ.ad _ Zo Zx];exact iA
 have uu:=eG.trans eJ
 rcases RZ with ⟨aE,V⟩|⟨aE,V⟩
 ·rw[aE]at g7 ⊢
  simp only[ZE]at g7 ⊢
  rw[<-(fz C2).2]at V
  simp only[]at V
  refine ce b0.eq_1 ⟨?_⟩
  refine e8 (λbZ=>bp X bT b3 bZ (b3+1)) dM ?_
  intro bZ dC
  have oo:=nh.go (g7.ex dC Zo Zo) (by omega:aM+1+1+10<=b3+1)
  have dV:=uu.trans (cu.of dC)
  rcases ge V with ⟨E,b1,rfl⟩|⟨ci,kz,b1,V⟩
  ·exact((aj n Zo).list bZ _ _ _ oo b1).mono (λab R au a=>by obtain⟨D,cx,bx,cn,a,_⟩:=a;cases a) (λab R au a=>a.of dV (λ_ a=>by cases a;rfl))
  refine((aj n Zo).list bZ _ _ _ oo b1).mono ?_ (λab R au a=>by obtain⟨E,a,_⟩:=a;cases a)
  rintro yt b9 dP ⟨me,h1,bx,cn,Q1,c3,Fv,hr,eD⟩
  cases Q1
  have qx:=eD.le
  simp only[ok,Zc]at V
  subst V
  have r8:Z X b9 (aM+1)=zI (gL 2 x.at_ x.text false dr 0 .aW) 9:=by rw[eD.ad _ Zo Zx,dC.ad _ Zo];exact HQ
  have qz:∃w,yt.cells=[w]/\w=yt/\l3 yt=true:=by
   have:=c3.len
   cases yt<;>first|exact⟨_,rfl,rfl,rfl⟩|(simp[fM]at this;done)
  obtain⟨w,br,rfl,oc⟩:=qz
  have cI:∀cm Pf,Z X cm (aM+1)=some (.cells Pf 9 .own)->es X cm 1 (.ptr (aM+1) 8) w=some (bl X cm (aM+1) (some (.cells (Pf.set 8 (some w)) 9 .own))):=λcm Pf a=>nO a Zo Zo br oc
  refine ce @r8 ⟨?_⟩
  refine gi (cI _ _ (bn Zo)) ?_
  refine bD _ _ _ ⟨.ptr (aM+1) 0,bF,_,h1,rfl,cG.of (b:=aM+1) (m:=9) (st:= .own) (cn:=cn) (a2:=w) (kind:=25) (at_:=x.at_) (name:=x.text) (no:=false) (ty:=dr) (n:=0) (bx:=bx) ?_ ⟨Zo,Zo⟩ ?_ (λbu=> ?_) ?_,hr.ad (zK) (zK), ?_⟩
  ·simp(disch:=omega) only[aL,bn]<;>rfl
  ·refine(c3.ad (λe B=> ?_)).lift (λe B=>⟨zE B.1,B.2⟩)
   have:=B.1
   simp(disch:=omega) only[aL]
  ·have:=(c3.al (by simpa using bu)).1
   omega
  ·refine dw.lift (λe B=>⟨⟨zE B.1.1,zE B.1.2⟩,zE B.1.1,B.2⟩) _ _ (dw.ad (λe B=> ?_) _ _ Fv)
   have H:=B.1.1
   have K:=B.1.2
   simp(disch:=omega) only[aL]
  ·exact⟨Zo,λb al bN=>by rw[<-(dV.trans eD).ad b al bN];exact zK⟩
 ·rw[aE]at g7 ⊢
  simp only[Zv,ZD]at g7 ⊢
  simp only[ok,Zc]at V
  subst V
  refine dq b0.eq_1 gZ.eq_1 ⟨?_⟩
  refine bD _ _ _ ⟨.ptr (aM+1) 0,bF,_,i+1,rfl,cG.leaf (b:=aM+1) (m:=9) (st:= .own) ?_ ⟨Zo,Zo⟩,g7.ad (zK) (zK), ?_⟩
  ·simp(disch:=omega) only[aL];exact HQ
  ·exact⟨Zo,λb al bN=>by rw[<-uu.ad b al bN];exact zK⟩
end
section
variable{X:cl}{h R aX aP:M ak}{j au aM be aJ bJ:Nat}{aU:List Tok}{i:Nat}
def atp(az:dW X){n:Nat}(aj:∀m,m<n+1->qN X aJ bJ aU m){r:Except Int (bL×List Tok)}(ay:iu X h j aJ bJ aU i){x:Tok}{k:List Tok}(aH:aU.drop i=x::k)(aG:x.kind=3)(V:Go.aQ.part (n+1) (x::k)=some r):
 a1 X 133 [.ptr aJ 0] h j (jN X aJ bJ aU h j r) (iN X aJ h j r):=by
 refine zL az (yL X) ?_
 rw[yM]
 unfold wX
 have gx:=ay.aY
 have j8:=ay.hi
 have hB:=ay.ch
 have jy:=ay.gV
 obtain⟨af,jU⟩:=fz aH
 unfold Go.aQ.part at V
 refine(rp az ay.aY ay.par ay.hi ay.gV af).Zm ?_
 rintro ab aX aM ⟨rfl,bY⟩
 have jD:=bY.le
 have eb:=ay.par.ex bY Zo Zo
 obtain⟨c,ao,a7,b2,a3,a4⟩:=eb.at_
 have bS:=jW a7 a3
 have jC:=(Zb.1 af).1
 have uJ:=ay.many
 have cE:=eb.ne
 have bB:=zJ i
 refine gG b0.eq_1 @bS (Za @bB @a7) ⟨?_⟩
 generalize dN:bl X _ aJ _=aP
 have ft:Z X aP aM=zI (b0 x) 7:=by rw[<-dN];simp(disch:=omega) only[aL,bn]<;>rfl
 have iA:Z X aP (aM+1)=zI (gL 0 x.at_ [] false dr 0 .aW) 9:=by rw[<-dN];simp(disch:=omega) only[aL,bn]<;>rfl
 have dm:aQ X aP aJ bJ aU (i+1):=by
  refine eb.on (c:=d3 c 1 [.Z ((i+1:Nat):Int)]) ?_ (λd9 st a=>by rw[a7]at a;cases a;exact qL ..) ?_
  ·rw[<-dN];simp(disch:=omega) only[aL,bn];rfl
  ·rw[<-dN];simp(disch:=omega) only[aL]
 have dt:cu X [aJ] h j aP (aM+2):=by
  refine⟨Zo,λb al bN=> ?_⟩
  rw[<-bY.ad b al, <-dN]
  simp only[Zr,ZN,Y4,Yw,ZK,Yi]at bN
  simp(disch:=omega) only[aL]
 clear dN bS a7 b2 a3 a4 eb bY
 have th:∃dx,Z X aP aJ=some (.cells dx 2 .own)/\aV X aP (.ptr aJ 1)=some (.Z ((i+1:Nat):Int)):=by
  obtain⟨c,ao,b4,cr,cS,fh⟩:=dm.at_
  exact⟨c,b4,jW b4 cS⟩
 have fB:=ay.go dm (by omega:j<=aM+1+1)
 refine kx (λI R aS=>∃v,I.g 4=some v/\jN X aJ bJ aU h j r v R aS) (λY bD=> ?_) (by
  rintro I R aS ⟨v,t4,a⟩
  refine ce @t4 ⟨?_⟩
  exact a)
 rw[Zg (by rw[aG];decide),Zg (by simp[aG]),Zg (by rw[aG];decide),Zu aG]at V
 have fR:decide (x.kind=5)=false:=by simp[aG]
 have cC:decide (x.kind=2)=false:=by simp[aG]
 have cB:decide (x.kind=1)=false:=by simp[aG]
 have dI:decide (x.kind=3)=true:=by simp[aG]
 refine fA (bU ft) @iA @fR @cC @cB @dI b0.eq_1 ⟨?_⟩
 refine j0 (by simp[y.same,qE]) ?_
 refine eP (bU ft) @iA b0.eq_1 ⟨?_⟩
 refine e8 (λbf=>Z X bf (aM+1+1+10)=zI [.str [40]] 1/\Z X bf (aM+1)=zI (gL 26 x.at_ [] false x.ty 0 .aW) 9/\aQ X bf aJ bJ aU (i+1)/\cu X [aJ] h j bf (aM+1+1+10+1)) ⟨bn Zo, ?_, ?_, ?_⟩ ?_
 ·simp(disch:=omega) only[aL,bn]<;>rfl
 ·exact dm.ad (zK) (zK)
 ·exact⟨Zo,λb al bN=>by rw[<-dt.ad b al bN];exact zK⟩
 clear dm fB dt ft iA th
 rintro bf ⟨an,iA,gz,eG⟩
 have nh:=ay.go gz (by omega:j<=aM+1+1+10+1)
 rw[<-jU]at V
 rcases ge V with ⟨E,aC,rfl⟩|⟨lq,fl,aC,V⟩
 ·exact(jt az nh Zo Zo an aC).mono (λab R au a=>by obtain⟨D,cx,a,_⟩:=a;cases a) (λab R au a=>a.of eG (λ_ a=>by cases a;rfl))
 refine(jt az nh Zo Zo an aC).mono ?_ (λab R au a=>by obtain⟨E,a,_⟩:=a;cases a)
 rintro v4 bT b3 ⟨awu,i4,tq,_,g7,eJ⟩
 cases tq
 have je:=eJ.le
 have kW:=nh.go g7 je
 have xy:=eG.trans eJ
 rcases ge V with ⟨E,bm,rfl⟩|⟨oM,fG,bm,V⟩
 ·exact((aj n Zo).arrow bT _ _ _ kW bm).mono (λab R au a=>by obtain⟨D,cx,a,_⟩:=a;cases a) (λab R au a=>a.of xy (λ_ a=>by cases a;rfl))
 refine((aj n Zo).arrow bT _ _ _ kW bm).mono ?_ (λab R au a=>by obtain⟨E,a,_⟩:=a;cases a)
 rintro v5 bZ ct ⟨K9,i5,si,dC,g8,dV⟩
 cases si
 have hQ:=dV.le
 have oo:=kW.go g8 hQ
 have qm:=xy.trans dV
 obtain⟨mv,rfl,rg,_⟩:=dC.ptr
 have rg:=rg.2
 have q1:Z X bZ (aM+1)=zI (gL 26 x.at_ [] false x.ty 0 .aW) 9:=by rw[dV.ad _ Zo Zx,eJ.ad _ Zo Zx];exact iA
 refine ce @q1 ⟨?_⟩
 refine e8 (λb9=>Z X b9 (ct+1)=zI [.str [41]] 1/\Z X b9 ct=zI [.ptr mv 0] 1/\Z X b9 (aM+1)=zI (gL 26 x.at_ [] false x.ty 0 (.slice ct 0 1 1)) 9/\cG X b9 (ei b3 ct) oM (.ptr mv 0)/\aQ X b9 aJ bJ aU i5/\cu X [aJ] h j b9 (ct+1+1)) ⟨bn Zo, ?_, ?_, ?_, ?_, ?_⟩ ?_
 ·simp(disch:=omega) only[aL,bn]<;>rfl
 ·simp(disch:=omega) only[aL,bn]<;>rfl
 ·refine cG.ex dC (λe H K=> ?_) Zo Zo
  simp(disch:=omega) only[aL]
 ·exact g8.ad (zK) (zK)
 ·exact⟨Zo,λb al bN=>by rw[<-qm.ad b al bN];exact zK⟩
 clear dC g8 q1 dV
 rintro b9 ⟨HT,al0,r8,eY,hr,eD⟩
 have mu:=ay.go hr (by omega:j<=ct+1+1)
 rcases ge V with ⟨E,df,rfl⟩|⟨vg,kA,df,V⟩
 ·exact(jt az mu Zo Zo HT df).mono (λab R au a=>by obtain⟨D,cx,a,_⟩:=a;cases a) (λab R au a=>a.of eD (λ_ a=>by cases a;rfl))
 refine(jt az mu Zo Zo HT df).mono ?_ (λab R au a=>by obtain⟨E,a,_⟩:=a;cases a)
 rintro J5 cm en ⟨awv,o6,xG,_,hD,eZ⟩
 cases xG
 have re:=eZ.le
 simp only[ok,Zc]at V
 subst V
 refine bD _ _ _ ⟨.ptr (aM+1) 0,bF,_,o6,rfl,cG.lit (q:=1) (cap:=1) (b:=aM+1) (m:=9) (st:= .own) (ha:= .own) (cn:=ct) (bx:=[.ptr mv 0]) ?_ ⟨Zo,Zo⟩ ?_ ⟨Zo,Zo⟩ rfl Zo Zo (dw.one (cG.ad (λe B=> ?_) _ _ eY) (λe B=> ?_)),hD,eD.trans eZ⟩
 ·rw[eZ.ad _ Zo Zx];exact r8
 ·rw[eZ.ad _ Zo Zx];exact al0
 ·have H:=B.1;have K:=B.2
  exact eZ.ad e Zo Zx
 ·simp only[ei]at B ⊢;omega
end
end
end Go.Proofs.YtbbkkkpgjaopkaaGreatDoor

