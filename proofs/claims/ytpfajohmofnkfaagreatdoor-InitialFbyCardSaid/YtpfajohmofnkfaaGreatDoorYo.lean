/- A part of the last text's proof; no condition of its own -/
import Derived.Test.YtpfajohmofnkfaaGreatDoorYn
set_option maxHeartbeats 8000000
set_option linter.all false
namespace Go.Proofs.YtpfajohmofnkfaaGreatDoor
open Go.bd Go.aR
noncomputable section
def vd(q:Int):Option (Int×Bool×Bool×Bool):=
 if q=1 then some (0,false,true,true)else if q=2 then some (0,true,false,false)else if q=3\/q=4\/q=5 then some (1,false,false,false)else if q=6 then some (1,true,false,false)
 else if q=19\/q=20 then some (1,false,false,true)else if q=23 then some (3,false,false,false)else if q=24 then some (2,true,false,false)else if q=25 then some (-1,true,false,false)
 else if q=26 then some (1,false,true,false)else none
def qN(s:Int×Bool×Bool×Bool):List D:=[.Z s.1, .bool s.2.1, .bool s.2.2.1, .bool s.2.2.2]
structure xD(X:cb):Prop where
 at_:∀h,∃v,aO X h (.ptr 5 0)=some v/\∀q:Int,lO X h 3 (.agg [.Z 0, .zF, .zF, .zF]) v (.Z q) true=some (.tuple [.agg (qN ((vd q).getD (0,false,false,false))), .bool (vd q).isSome])
structure amH(E:be)(s:Int×Bool×Bool×Bool):Prop where
 qh:0<=s.1->(E.args.length:Int)=s.1
 agy:s.2.1=true->Gf E.name
 Iv:s.2.1=false->E.name=[]
 aBv:s.2.2.1=true->gR E.ty=true
 dH:s.2.2.1=false->E.ty=dH
 a2:s.2.2.2=false->E.n=0
def aAd{E:be}(a:xF gV E):amH E ((vd E.kind).getD (2,false,false,false)):=by
 have I:=a.bR
 have J:=a.cq
 have mX:=a.qh
 have iR:=a.nm
 have ER:=a.Iv
 have tB:=a.ty
 have A7:=a.dH
 have gP:=a.a2
 unfold nq at mX
 unfold rh at iR ER
 unfold sd at tB A7
 generalize E.kind=q at*
 unfold vd
 have aD:q=1\/q=2\/(q=3\/q=4\/q=5)\/q=6\/(q=19\/q=20)\/q=23\/q=24\/q=25\/q=26\/(7<=q/\q<=18\/q=21\/q=22):=Zo
 rcases aD with aD|aD|aD|aD|aD|aD|aD|aD|aD|aD
 ·subst aD
  exact⟨λ_=>by have:=mX 0 Zs;simp[this],λa=>by simp at a,λ_=>ER Zo,λ_=>tB Zo,λa=>by simp at a,λa=>by simp at a⟩
 ·subst aD
  exact⟨λ_=>by have:=mX 0 Zs;simp[this],λ_=>iR Zo,λa=>by simp at a,λa=>by simp at a,λ_=>A7 Zo,λ_=>gP Zo Zo Zo⟩
 ·rw[Zg Zo,Zg Zo,Zu aD]
  rw[Zg Zo,Zg Zo,Zu Zo]at mX
  exact⟨λ_=>by have:=mX 1 rfl;simp[this],λa=>by simp at a,λ_=>ER Zo,λa=>by simp at a,λ_=>A7 Zo,λ_=>gP Zo Zo Zo⟩
 ·subst aD
  exact⟨λ_=>by have:=mX 1 Zs;simp[this],λ_=>iR Zo,λa=>by simp at a,λa=>by simp at a,λ_=>A7 Zo,λ_=>gP Zo Zo Zo⟩
 ·rw[Zg Zo,Zg Zo,Zg Zo,Zg Zo,Zu aD]
  rw[Zg Zo,Zg Zo,Zu Zo]at mX
  exact⟨λ_=>by have:=mX 1 rfl;simp[this],λa=>by simp at a,λ_=>ER Zo,λa=>by simp at a,λ_=>A7 Zo,λa=>by simp at a⟩
 ·subst aD
  exact⟨λ_=>by have:=mX 3 Zs;simp[this],λa=>by simp at a,λ_=>ER Zo,λa=>by simp at a,λ_=>A7 Zo,λ_=>gP Zo Zo Zo⟩
 ·subst aD
  exact⟨λ_=>by have:=mX 2 Zs;simp[this],λ_=>iR Zo,λa=>by simp at a,λa=>by simp at a,λ_=>A7 Zo,λ_=>gP Zo Zo Zo⟩
 ·subst aD
  exact⟨λa=>by simp at a,λ_=>iR Zo,λa=>by simp at a,λa=>by simp at a,λ_=>A7 Zo,λ_=>gP Zo Zo Zo⟩
 ·subst aD
  exact⟨λ_=>by have:=mX 1 Zs;simp[this],λa=>by simp at a,λ_=>ER Zo,λ_=>tB Zo,λa=>by simp at a,λ_=>gP Zo Zo Zo⟩
 ·rw[Zg Zo,Zg Zo,Zg Zo,Zg Zo,Zg Zo,Zg Zo,Zg Zo,Zg Zo,Zg Zo]
  rw[Zg Zo,Zg Zo,Zg Zo,Zg Zo]at mX
  exact⟨λ_=>by have:=mX 2 rfl;simp[this],λa=>by simp at a,λ_=>ER Zo,λa=>by simp at a,λ_=>A7 Zo,λ_=>gP Zo Zo Zo⟩
section
variable{X:cb}{h T c6 aP aM:K ag}{j an aG a1:Nat}{s:bi}
structure aiN(G:Prop):Prop where
 out:G
def Np{G sW:Prop}(Vw:aiN G->sW)(aAW:G):sW:=Vw ⟨aAW⟩
def anT:dw X h .neq 4 false .zF .zF=some .zF:=Zk
def anU:dw X h .neq 4 false .zT .zT=some .zF:=Zk
def aBw:dw X h .neq 41 false (.agg [.zF, .zF, .Z 0]) (.agg [.zF, .zF, .Z 0])=some .zF:=Zk
def ayL(b:Nat):dw X h .neq 47 true (.ptr b 0) .cx=some .zT:=Zk
set_option maxRecDepth 100000 in
def aw8(aw:iI X)(bT:lV X)(eN:rT X)(gY:xD X){P:Nat->Prop}{E:be}{v:D}(aE:(o X).a2<=j)(bs:cy X h P E v)(bE:∀e,P e->e<j)(bt:d2 gV E):
 aY X 191 [v] h j (λac T an=>ac= .zT/\bo X h j T an) (λ_ _ _=>False):=by
 refine zx aw.todu (akK X) ?_
 rw[akL]
 unfold X5
 rw[d2.eq]at bt
 obtain⟨bt,oY⟩:=bt
 have mf:=aAd bt
 obtain⟨b,aW,cp,a8,rfl,aj,a0,ba,cj,a3,a4,a5,hy,h3,h4,cA,has⟩:=id bs.open
 have gn:=bE b aj
 obtain⟨fu,OI,OJ⟩:=gY.at_ h
 have kr:=OJ E.kind
 generalize HM:(vd E.kind).getD (2,false,false,false)=s at mf
 have auH:∀ah:Int×Bool×Bool×Bool,qN ah=[.Z ah.1, .bool ah.2.1, .bool ah.2.2.1, .bool ah.2.2.2]:=λ_=>rfl
 rw[auH]at kr
 refine he @OI @a0 @kr ⟨?_⟩
 refine kt (λc1 T aU=>c1.g 0=some (.ptr b 0)/\c1.g 3=some (.ptr (j+9) 0)/\bo X h j T aU/\j+9<aU/\Y X T (j+9)=zu (qN s) 4) (λW bK=> ?_) ?_
 ·cases bL:vd E.kind with
  |some ah=>
   rw[bL]at HM
   simp only[YQ]at HM
   subst HM
   simp only[YQ,Z9]
   refine cK ⟨?_⟩
   exact bK _ _ _ ⟨bw,bw,dM,Zo,by rw[bg Zo];rfl⟩
  |none=>
   rw[bL]at HM
   simp only[Option.getD_none]at HM
   subst HM
   simp only[Option.getD_none,Z2]
   refine cK ⟨?_⟩
   exact bK _ _ _ ⟨bw,bw,dM,Zo,by rw[bg Zo];rfl⟩
 rintro H aP aG ⟨t0,t3,bN,ts,b3⟩
 have rd:∀T,Go.bd.Y X T (j+9)=zu (qN s) 4->aO X T (.ptr (j+9) 0)=some (.Z s.1)/\aO X T (.ptr (j+9) 1)=some (.bool s.2.1)/\aO X T (.ptr (j+9) 2)=some (.bool s.2.2.1)/\aO X T (.ptr (j+9) 3)=some (.bool s.2.2.2):=λT a=>
  ⟨by rw[bO a];rfl,by rw[bO a];rfl,by rw[bO a];rfl,by rw[bO a];rfl⟩
 have kq:=bt.bR
 have i6:=bt.cq
 have cX:decide (E.kind<1)=false:=by simp only[Zb];omega
 have cF:decide ((26:Int)<E.kind)=false:=by simp only[Zb];omega
 obtain⟨jI,eL,e7,hE⟩:=rd aP b3
 have Jz:aO X aP (.ptr b 0)=some (.Z E.kind):=by rw[bN.fZ _ _ gn];exact a0
 have DV:aO X aP (.ptr b 8)=some aW:=by rw[bN.fZ _ _ gn];exact h4
 have d5:=cA.len
 have KP:=has.len
 rw[Zn,KP]at d5
 have wu:∀e,P e->Y X aP e=Y X h e:=λe z=>bN.ab e (bE e z)
 have jm:=bN.le
 apply Np
 ·intro av2
  by_cases mX:0<=s.1
  all_goals
   first
   |(
     have eS:decide ((0:Int)<=s.1)=true:=by simp[mX]
     have iK:decide ((E.args.length:Int)≠s.1)=false:=by simp[mf.qh mX]
     refine he @t0 @t3 (Za @Jz (Za @cX (Za @cF (Za @jI (Za @eS (Za @DV (Za @d5 (Za @jI @iK)))))))) ⟨?_⟩)
   |(
     have eS:decide ((0:Int)<=s.1)=false:=by simp[mX]
     refine he @t0 @t3 (Za @Jz (Za @cX (Za @cF (Za @jI (Za @eS @DV))))) ⟨?_⟩)
   refine(anr (j:=aG+34) (h:=aP) aw (cA.ab wu) (dk.ab wu _ _ has)).Zm ?_
   rintro ac aM a1 ⟨rfl,rfl,f7⟩
   refine AC ⟨?_⟩
   refine kt (λc1 T aU=>c1.g 0=some (.ptr b 0)/\c1.g 3=some (.ptr (j+9) 0)/\bo X h j T aU/\j+9<aU/\Y X T (j+9)=zu (qN s) 4) (λW bK=> ?_) ?_
   ·refine cK ⟨?_⟩
    exact bK _ _ _ ⟨a7 t0,a7 t3,bN.more Zo,Zo,b3⟩
   exact av2.out
 clear t0 t3 bN b3 jI eL e7 hE Jz DV wu jm
 rintro H aX bf ⟨t0,t3,cg,AX,cS⟩
 obtain⟨jI,eL,e7,hE⟩:=rd aX cS
 have ip:=cg.le
 have Rx:aO X aX (.ptr b 2)=some (.str E.name):=by rw[cg.fZ _ _ gn];exact cj
 have atK:s.2.1=true->decide (E.name≠[])=true:=λa=>by simp[(mf.agy a).ne]
 have atJ:s.2.1=false->decide (E.name≠[])=false:=λa=>by simp[mf.Iv a]
 have nz:(E.no=true/\decide (E.kind≠6)=false)\/(E.no=false/\decide ((0:Int)≠0)=false):=by
  cases bL:E.no with
  |true=>exact .inl ⟨rfl,by simp[bt.no bL]⟩
  |false=>exact .inr ⟨rfl,rfl⟩
 apply Np
 ·intro avZ
  rcases Bool.eq_false_or_eq_true s.2.1 with lL|lL
  all_goals
   first
   |(
     have Ce:=atK lL
     rw[lL]at eL
     refine he @t0 @t3 (Za @eL (Za @Rx (Za @Ce @anU))) ⟨?_⟩
     refine(LQ (j:=bf+33) (h:=aX) aw bT eN (mf.agy lL) Zo).Zm ?_
     rintro ac bC da ⟨rfl,dv⟩
     have jC:=dv.le
     have th:bo X h j bC da:=cg.trans (dv.k3 Zo)
     have Ub:j+9<da:=Zo
     have fE:Y X bC (j+9)=zu (qN s) 4:=by rw[dv.ab _ Zo];exact cS
     have Ry:aO X bC (.ptr b 3)=some (.bool E.no):=by rw[th.fZ _ _ gn];exact a3
     have aaQ:aO X bC (.ptr b 0)=some (.Z E.kind):=by rw[th.fZ _ _ gn];exact a0)
   |(
     have Ce:=atJ lL
     rw[lL]at eL
     refine he @t0 @t3 (Za @eL (Za @Rx (Za @Ce @anT))) ⟨?_⟩
     have th:bo X h j aX (bf+33):=cg.more Zo
     have Ub:j+9<bf+33:=Zo
     have fE:Y X aX (j+9)=zu (qN s) 4:=cS
     have Ry:aO X aX (.ptr b 3)=some (.bool E.no):=by rw[th.fZ _ _ gn];exact a3
     have aaQ:aO X aX (.ptr b 0)=some (.Z E.kind):=by rw[th.fZ _ _ gn];exact a0)
   rcases nz with ⟨aeC,An⟩|⟨aeC,An⟩
   all_goals
    rw[aeC]at Ry
    refine he @t0 @t3 (Za @Ry (Za @aaQ @An)) ⟨?_⟩
    refine kt (λc1 T aU=>c1.g 0=some (.ptr b 0)/\c1.g 3=some (.ptr (j+9) 0)/\bo X h j T aU/\j+9<aU/\Y X T (j+9)=zu (qN s) 4) (λW bK=> ?_) ?_
    ·refine cK ⟨?_⟩
     exact bK _ _ _ ⟨a7 t0,a7 t3,th.more Zo,Zo,fE⟩
    exact avZ.out
 clear t0 t3 cg cS jI eL e7 hE Rx ip
 rintro H bW b4 ⟨t0,t3,dJ,atL,fS⟩
 obtain⟨jI,eL,e7,hE⟩:=rd bW fS
 have ib:=dJ.le
 have HO:ed E.ty=[.bool E.ty.b, .bool E.ty.s, .Z E.ty.w]:=rfl
 have AW:d8 X bW 3 (.ptr b 4)=some (.agg (ed E.ty)):=by rw[rv,dJ.fZ _ _ gn,dJ.fZ _ _ gn,dJ.fZ _ _ gn,a4,a5,hy];rfl
 apply Np
 ·intro av1
  rcases Bool.eq_false_or_eq_true s.2.2.1 with lL|lL
  all_goals
   first
   |(
     have bp:=mf.aBv lL
     rw[lL]at e7
     refine he @t0 @t3 (Za @e7 @AW) ⟨?_⟩
     refine(Fk (j:=b4) (h:=bW) aw.todu E.ty Zo).Zm ?_
     rintro ac b9 eB ⟨rfl,eG⟩
     rw[bp]
     have tq:=eG.le
     have th:bo X h j b9 eB:=dJ.trans (eG.k3 Zo)
     have Ub:j+9<eB:=Zo
     have fE:Y X b9 (j+9)=zu (qN s) 4:=by rw[eG.ab _ Zo];exact fS
     have aaS:aO X b9 (.ptr b 7)=some (.int .u64 E.n):=by rw[th.fZ _ _ gn];exact h3
     have Qf:aO X b9 (.ptr (j+9) 3)=some (.bool s.2.2.2):=(rd b9 fE).2.2.2)
   |(
     have bp:=mf.dH lL
     rw[lL]at e7
     have au1:ed E.ty=[.zF, .zF, .Z 0]:=by rw[bp];rfl
     rw[au1]at AW
     refine he @t0 @t3 (Za @e7 (Za @AW @aBw)) ⟨?_⟩
     have th:bo X h j bW b4:=dJ
     have Ub:j+9<b4:=atL
     have fE:Y X bW (j+9)=zu (qN s) 4:=fS
     have aaS:aO X bW (.ptr b 7)=some (.int .u64 E.n):=by rw[th.fZ _ _ gn];exact h3
     have Qf:aO X bW (.ptr (j+9) 3)=some (.bool s.2.2.2):=(rd bW fE).2.2.2)
   rcases Bool.eq_false_or_eq_true s.2.2.2 with rr|rr
   all_goals
    first
    |(
      have Ce:decide ((0:Int)≠0)=false:=rfl
      rw[rr]at Qf
      have aDN:s.2.2.2=true:=rr)
    |(
      have Ce:decide (E.n≠0)=false:=by simp[mf.a2 rr]
      rw[rr]at Qf)
    refine he @t0 @t3 (Za @Qf (Za @aaS @Ce)) ⟨?_⟩
    refine kt (λc1 T aU=>c1.g 0=some (.ptr b 0)/\c1.g 3=some (.ptr (j+9) 0)/\bo X h j T aU/\j+9<aU/\Y X T (j+9)=zu (qN s) 4) (λW bK=> ?_) ?_
    ·refine cK ⟨?_⟩
     exact bK _ _ _ ⟨a7 t0,a7 t3,th.more Zo,Zo,fE⟩
    exact av1.out
 clear t0 t3 dJ fS jI eL e7 hE ib AW
 rintro H cB ef ⟨t0,t3,eW,aDx,eY⟩
 have n5:=eW.le
 have Gn:aO X cB (.ptr b 0)=some (.Z E.kind):=by rw[eW.fZ _ _ gn];exact a0
 have aaT:aO X cB (.ptr b 7)=some (.int .u64 E.n):=by rw[eW.fZ _ _ gn];exact h3
 have aaU:aO X cB (.ptr b 8)=some aW:=by rw[eW.fZ _ _ gn];exact h4
 have ru:∀e,P e->Y X cB e=Y X h e:=λe z=>eW.ab e (bE e z)
 show cL _ _
 by_cases I:E.kind=1
 ·have bF:decide (E.kind=1)=true:=by simp[I]
  refine et @t0 @Gn @bF ⟨?_⟩
  refine(awX (j:=ef) (h:=cB) aw Zo (cy.ab ru _ _ bs) (λe z=>zq (bE e z)) I (bt.VF I)).Zm ?_
  rintro ac dX iD ⟨rfl,hX⟩
  exact⟨rfl,eW.trans (hX.k3 Zo)⟩
 have bF:decide (E.kind=1)=false:=by simp[I]
 by_cases Kj:E.kind=19
 ·have GQ:decide (E.kind=19)=true:=by simp[Kj]
  have Sg:decide (E.n<=63)=true:=by simp[(bt.mj (.inl Kj)).2]
  refine iM @t0 @Gn @bF @GQ @aaT @Sg ⟨?_⟩
  exact⟨rfl,eW.more Zo⟩
 have GQ:decide (E.kind=19)=false:=by simp[Kj]
 by_cases S4:E.kind=20
 ·have J2:decide (E.kind=20)=true:=by simp[S4]
  have Sg:decide (E.n<=63)=true:=by simp[(bt.mj (.inr S4)).2]
  refine eF @t0 @Gn @bF @GQ @J2 @aaT @Sg ⟨?_⟩
  exact⟨rfl,eW.more Zo⟩
 have J2:decide (E.kind=20)=false:=by simp[S4]
 by_cases S5:E.kind=21
 ·have NB:decide (E.kind=21)=true:=by simp[S5]
  obtain⟨k,r,yd,az⟩:=bt.tc S5
  obtain⟨ao,atA,gq⟩:=has.get 0 k (by rw[yd];rfl)
  obtain⟨cG,cw,d9⟩:=(cA.ab ru).one atA
  obtain⟨jW,af8,awG,aEi,rfl,wd,d3,_,_,_,_,_,_,_,vw,af7,afQ⟩:=(cy.ab ru _ _ gq).open
  have ahd:gv 1 aW (.Z 0)=some (.ptr cp 0):=cG
  rcases az with az|⟨az,x,af,Po⟩
  ·have uu:decide (k.kind=1)=true:=by simp[az]
   refine eF @t0 @Gn @bF @GQ @J2 @NB (Za @aaU (Za @ahd (Za @cw (Za @d3 @uu)))) ⟨?_⟩
   exact⟨rfl,eW.more Zo⟩
  ·have uu:decide (k.kind=1)=false:=by simp[az]
   have apa:decide (k.kind=4)=true:=by simp[az]
   obtain⟨aEU,avl,avi⟩:=afQ.get 0 x (by rw[af];rfl)
   obtain⟨fG,hD,yK⟩:=af7.one avl
   obtain⟨aET,rfl,uV,mo⟩:=avi.ptr
   have ayo:gv 1 af8 (.Z 0)=some (.ptr awG 0):=fG
   have af2:=af7.len
   rw[Zn,afQ.len,af]at af2
   have awY:gy af8=some (.Z 1):=af2
   have ex:decide (x.kind=1)=true:=by simp[Po]
   have aoZ:decide ((1:Int)=1)=true:=rfl
   refine eF @t0 @Gn @bF @GQ @J2 @NB (Za @aaU (Za @ahd (Za @cw (Za @d3 (Za @uu (Za @apa (Za @vw (Za @awY (Za @aoZ (Za @ayo (Za @hD (Za @ayL (Za @mo @ex))))))))))))) ⟨?_⟩
   exact⟨rfl,eW.more Zo⟩
 have NB:decide (E.kind=21)=false:=by simp[S5]
 refine iM @t0 @Gn @bF @GQ @J2 @NB ⟨?_⟩
 exact⟨rfl,eW.more Zo⟩
end
def atc{q:Nat}{E F:be}(a:fO (q+1) E<=q)(aC:F∈E.args):fO q F+1<=q:=by
 have bp:∀(k:List be) (aS:Nat),(∀F∈k,fO q F<=k.foldl (λa F=>max a (fO q F)) aS)/\aS<=k.foldl (λa F=>max a (fO q F)) aS:=by
  intro k
  induction k with
  |nil=>intro aS;exact⟨λ_ a=>by simp at a,Zi _⟩
  |cons b k al=>
   intro aS
   obtain⟨fC,fe⟩:=al (max aS (fO q b))
   refine⟨λx af=> ?_,ZB (Nat.le_max_left _ _) fe⟩
   rcases Zr.1 af with rfl|af
   ·exact ZB (Nat.le_max_right _ _) fe
   ·exact fC x af
 have I:=(bp E.args 0).1 F aC
 have J:fO (q+1) E=E.args.foldl (λa F=>max a (fO q F)) 0+1:=rfl
 omega
def atf{q:Nat}{E:be}:1<=fO (q+1) E:=by
 have J:fO (q+1) E=E.args.foldl (λa F=>max a (fO q F)) 0+1:=rfl
 omega
def WJ{bA:hd}:∀{k:List be}{F:be},e0 bA k->F∈k->d2 bA F:=by
 intro k
 induction k with
 |nil=>intro F _ a;cases a
 |cons b k al=>
  intro F a aC
  rw[e0]at a
  rcases Zr.1 aC with rfl|aC
  ·exact a.1
  ·exact al a.2 aC
section
variable{X:cb}{h T c6 aP aM:K ag}{j an aG a1:Nat}{s:bi}
structure BU(X:cb)(df fx jW:Nat)(d:Int)(h:K ag):Prop where
 Nr:∃c,Y X h df=some (.cells c 1 .own)/\c.get 0=some (.Z d)
 QM:aO X h (.ptr fx 0)=some (.Z 0)
 look:aO X h (.ptr jW 0)=some (.func (.func 190) [] [.ptr df 0, .ptr fx 0, .ptr jW 0])
def BU.ab{df fx jW:Nat}{d:Int}(a:BU X df fx jW d aP)(q:∀e,e=df\/e=fx\/e=jW->Y X aM e=Y X aP e):BU X df fx jW d aM:=by
 obtain⟨c,I,J⟩:=a.Nr
 exact⟨⟨c,by rw[q df (.inl rfl)];exact I,J⟩,zB (q fx (.inr (.inl rfl))) a.QM,zB (q jW (.inr (.inr rfl))) a.look⟩
set_option maxRecDepth 100000 in
def aw2(aw:iI X)(bT:lV X)(eN:rT X)(gY:xD X){P:Nat->Prop}{df fx jW dK:Nat}(yk:(o X).a2<=df)(aCU:df<dK)(aDV:fx<dK)(pF:jW<dK)(EF:fx≠df)(io:jW≠df)(bE:∀e,P e->e<dK/\e≠df):
 ∀(q:Nat) (E:be) (v:D) (h:K ag) (j:Nat),q<=200->dK<=j->fO (q+1) E<=q->d2 gV E->cy X h P E v->BU X df fx jW ((200-q:Nat):Int) h->
  aY X 190 [v, .ptr df 0, .ptr fx 0, .ptr jW 0] h j (λac T an=>ac= .tuple []/\BU X df fx jW ((200-q:Nat):Int) T/\j<=an/\∀e,e<j->e≠df->Y X T e=Y X h e) (λ_ _ _=>False):=by
 intro q
 induction q with
 |zero=>intro E v h j _ _ a;have:=atf (q:=0) (E:=E);omega
 |succ q al=>
  intro E v h j aD aE gH bt bs f6
  refine zx aw.todu (akI X) ?_
  rw[akJ]
  unfold X4
  obtain⟨b,aW,cp,a8,rfl,aj,_,_,_,_,_,_,_,_,h4,cA,has⟩:=id bs.open
  obtain⟨c,b3,b7⟩:=f6.Nr
  have uI:=bE b aj
  have bF:bq .add (.Z ((200-(q+1):Nat):Int)) (.Z 1)=some (.Z ((200-q:Nat):Int)):=by rw[eJ Zo Zo,show((200-(q+1):Nat):Int)+1=((200-q:Nat):Int) by omega]
  refine he (bO b3) @b7 @bF ⟨?_⟩
  generalize dZ:bn X h df _=aP
  have SJ:∃f5,Y X aP df=some (.cells f5 1 .own)/\f5.get 0=some (.Z ((200-q:Nat):Int)):=⟨dN c 0 [.Z ((200-q:Nat):Int)],by rw[<-dZ,bg yk];rfl,sH c 0 _⟩
  have bR:∀e,e≠df->Y X aP e=Y X h e:=λe z=>by rw[<-dZ,aI yk z]
  clear dZ
  have arU:BU X df fx jW ((200-q:Nat):Int) aP:=⟨SJ,zB (bR _ EF) f6.QM,zB (bR _ io) f6.look⟩
  have wu:∀e,P e->Y X aP e=Y X h e:=λe z=>bR e (bE e z).2
  have KM:=cy.ab wu _ _ bs
  refine ci @IG ⟨?_⟩
  refine(aw8 (j:=j) (h:=aP) aw bT eN gY Zo KM (λe z=>zq (bE e z).1) bt).Zm ?_
  rintro ac aM a1 ⟨rfl,bJ⟩
  have f7:=bJ.le
  have Oj:BU X df fx jW ((200-q:Nat):Int) aM:=arU.ab (λe z=>bJ.ab e (by rcases z with rfl|rfl|rfl<;>omega))
  obtain⟨dx,x2,NV⟩:=Oj.Nr
  have amQ:aO X aM (.ptr b 8)=some aW:=by rw[bJ.fZ _ _ Zo,co,bR _ uI.2, <-co];exact h4
  have d5:=cA.len
  have KP:=has.len
  rw[Zn,KP]at d5
  have hO:=cA.many
  rw[Zn,KP]at hO
  have cF:decide ((200:Int)<((200-q:Nat):Int))=false:=by simp only[Zb];omega
  refine gg (bO x2) @NV @cF @amQ @d5 ⟨?_⟩
  refine fK (λm H T aU=>∃(W:Nat),H.g 1=some (.ptr df 0)/\H.g 2=some (.ptr fx 0)/\H.g 3=some (.ptr jW 0)/\H.g 12=some aW/\H.g 13=some (.Z (E.args.length:Int))/\H.g 14=some (.Z (W:Int))/\W+m=E.args.length
   /\BU X df fx jW ((200-q:Nat):Int) T/\j<=aU/\∀e,e<j->e≠df->Y X T e=Y X h e)
   E.args.length ⟨0,bw,bw,bw,bw,bw,fW,Zo,Oj,f7,λe I J=>by rw[bJ.ab e I,bR e J]⟩ ?_
  rintro m H aX bf ⟨W,t1,dQ,t3,rH,jt,lb,bK,Ku,ip,mc⟩
  cases m with
  |zero=>
   have d:=zr W E.args.length
   obtain⟨gf,x3,aqt⟩:=Ku.Nr
   have cn:bq .sub (.Z ((200-q:Nat):Int)) (.Z 1)=some (.Z ((200-(q+1):Nat):Int)):=by rw[CS Zo Zo,show((200-q:Nat):Int) -1=((200-(q+1):Nat):Int) by omega]
   refine eF @lb @jt @t1 @d (bO x3) @aqt @cn ⟨?_⟩
   refine⟨rfl,⟨⟨dN gf 0 [.Z ((200-(q+1):Nat):Int)],by rw[bg yk];rfl,sH gf 0 _⟩,zB (aI yk EF) Ku.QM,zB (aI yk io) Ku.look⟩,Zo,λe I J=>by rw[aI yk J];exact mc e I J⟩
  |succ m=>
   have d:=zs W E.args.length
   have cn:=zv W
   obtain⟨F,aC⟩:=zt E.args W
   obtain⟨w,mA,Tt⟩:=has.get W F aC
   have kZ:∀e,P e->Y X aX e=Y X h e:=λe z=>mc e (zq (bE e z).1) (bE e z).2
   obtain⟨cG,cw,d9⟩:=(cA.ab kZ).one mA
   have adH:=Zj aC
   have aCZ:=atc gH adH
   have kr:=Ku.look
   refine eF @lb @jt @rH @t3 @d @cG (Za @cw @kr) ⟨?_⟩
   rw[d2.eq]at bt
   refine(al F w aX bf Zo Zo Zo (WJ bt.2 adH) (cy.ab kZ _ _ Tt) Ku).Zm ?_
   rintro ac bC da ⟨rfl,arV,jC,gh⟩
   refine cT @lb @cn ⟨?_⟩
   exact⟨m,Zo,W+1,a7 t1,a7 dQ,a7 t3,a7 rH,a7 jt,bw,Zo,arV,Zo,λe I J=>by rw[gh e Zo J];exact mc e I J⟩
end
structure Rg(g:Go.aR.Node):Prop where
 vars:g.ez.length+g.out.length+g.loc.length<=256
 eqs:g.eqs.length<=4096
 high:∀ah∈g.eqs,fO 201 ah.right<=200
def awS:∀{k:List fc},wI k=none->∀ah∈k,fO 201 ah.right<=200:=by
 intro k
 induction k with
 |nil=>intro _ ah a;cases a
 |cons F k al=>
  intro a ah bL
  unfold wI at a
  split at a
  ·cases a
  ·rcases Zr.1 bL with rfl|bL
   ·omega
   ·exact al a ah bL
def awT:∀{k:List Go.aR.Node},pV k=none->∀g∈k,Rg g:=by
 intro k
 induction k with
 |nil=>intro _ ah a;cases a
 |cons F k al=>
  intro a g bU
  unfold pV at a
  split at a
  ·cases a
  ·rename_i bL
   split at a
   ·cases a
   ·rename_i bs
    rcases Zr.1 bU with rfl|bU
    ·exact⟨Zo,Zo,awS bs⟩
    ·exact al a g bU
def Vh{ai:List Go.aR.Node}(a:nC ai=none):ai.length<=64/\∀g∈ai,Rg g:=by
 unfold nC at a
 split at a
 ·cases a
 ·rename_i bL
  rw[List.getElem?_eq_none_iff]at bL
  exact⟨bL,awT a⟩
section
variable{X:cb}{h T c6 aP aM:K ag}{j an aG a1:Nat}{s:bi}
set_option maxRecDepth 100000 in
def aqk(aw:iI X)(bT:lV X)(eN:rT X)(gY:xD X){P:Nat->Prop}{E:be}{v:D}(aE:(o X).a2<=j)(bs:cy X h P E v)(bE:∀e,P e->e<j)(bt:d2 gV E)(gH:fO 201 E<=200):
 aY X 144 [v] h j (λac T an=>ac= .Z 0/\bo X h j T an) (λ_ _ _=>False):=by
 refine zx aw.todu (ajO X) ?_
 rw[ajP]
 unfold Xy
 refine cK ⟨?_⟩
 generalize dZ:bn X _ (j+1+1) _=aP
 have h6:Y X aP j=zu [.Z 0] 1:=by rw[<-dZ];simp(disch:=omega) only[aI,bg];rfl
 have b3:Y X aP (j+1)=zu [.Z 0] 1:=by rw[<-dZ];simp(disch:=omega) only[aI,bg];rfl
 have b7:aO X aP (.ptr (j+1+1) 0)=some (.func (.func 190) [] [.ptr (j+1) 0, .ptr j 0, .ptr (j+1+1) 0]):=by rw[<-dZ,u0 Zo];rfl
 have bN:bo X h j aP (j+1+1+1):=by rw[<-dZ];exact dM
 clear dZ
 refine ci @b7 ⟨?_⟩
 have KM:=cy.ab (λe z=>bN.ab e (bE e z)) _ _ bs
 refine(aw2 (dK:=j+1+1+1) aw bT eN gY Zo Zo Zo Zo Zo Zo (λe z=>by have:=bE e z;exact⟨Zo,Zo⟩) 200 E v aP (j+1+1+1) Zo Zo gH bt KM ⟨⟨_,b3,rfl⟩,by rw[bO h6];rfl,b7⟩).Zm ?_
 rintro ac aM a1 ⟨rfl,Oj,f7,i6⟩
 have avd:=Oj.QM
 refine ci @avd ⟨?_⟩
 exact⟨rfl,Zo,λe z=>by rw[i6 e Zo Zo];exact bN.ab e z⟩
set_option maxRecDepth 100000 in
def axi(aw:iI X)(bT:lV X)(eN:rT X)(gY:xD X){P:Nat->Prop}{g:Go.aR.Node}{row:List D}(aE:(o X).a2<=j)(bU:pn X h P g row)(bE:∀e,P e->e<j)(bt:mQ gV g)(az:Rg g):
 aY X 92 [.agg row] h j (λac T an=>ac= .Z 0/\bo X h j T an) (λ_ _ _=>False):=by
 refine zx aw.todu (amx X) ?_
 rw[amy]
 unfold aaG
 obtain⟨dj,dG,aW,eP,bQ,cf,cM,ew,br,rfl,oP,my,qz,j8,e2⟩:=bU
 have ei:=oP.len
 have c4:=my.len
 have fa:=qz.len
 have lM:=e2.wide
 have g6:=j8.len
 have hO:=j8.many
 rw[Zn]at ei c4 fa
 rw[lM.1]at g6 hO
 have aDU:=az.vars
 have aCW:=az.eqs
 have Hz:0<g.out.length:=YO.2 bt.some
 have bF:bq .add (.Z (g.ez.length:Int)) (.Z (g.out.length:Int))=some (.Z ((g.ez.length+g.out.length:Nat):Int)):=by rw[eJ Zo Zo];simp
 have cn:bq .add (.Z ((g.ez.length+g.out.length:Nat):Int)) (.Z (g.loc.length:Int))=some (.Z ((g.ez.length+g.out.length+g.loc.length:Nat):Int)):=by rw[eJ Zo Zo];simp
 have cX:decide ((g.out.length:Int)=0)=false:=by simp only[Zb];omega
 have cF:decide ((256:Int)<((g.ez.length+g.out.length+g.loc.length:Nat):Int))=false:=by simp only[Zb];omega
 have eS:decide ((4096:Int)<(g.eqs.length:Int))=false:=by simp only[Zb];omega
 refine s6 ?_
 generalize dZ:bn X h j _=aP
 have b3:Y X aP j=zu [.str g.name, .Z g.at_,dj,dG,aW,eP] 6:=by rw[<-dZ,bg aE];rfl
 have bN:bo X h j aP (j+1):=by rw[<-dZ];exact dM
 clear dZ
 refine he (bO b3) @ei (Za @c4 (Za @fa (Za @bF @cn))) ⟨?_⟩
 refine(LQ (j:=j+1) (h:=aP) aw bT eN bt.name Zo).Zm ?_
 rintro ac aM a1 ⟨rfl,bJ⟩
 have f7:=bJ.le
 rw[<-bJ.ab _ Zo]at b3
 have jk:=bN.trans bJ
 have db:=(k0 oP.len).1
 have dx:=(k0 my.len).1
 have gf:=(k0 qz.len).1
 have jF:hi 3 [.aV, .aV, .aV] [(0,1,dj),(1,1,dG),(2,1,aW)] a1=some (.slice a1 0 3 3, .cells (K.ofList [dj,dG,aW] 0 .nil) 3 .own):=by
  simp[hi,qp,qq,lS,db,dx,gf]
 refine he (bO b3) @ei (Za @c4 (Za @fa (Za @g6 (Za @cX (Za @cF @eS))))) ⟨?_⟩
 refine fw jF ?_
 refine AC ⟨?_⟩
 generalize e9:bn X aM a1 _=aX
 have cS:Y X aX a1=zu [dj,dG,aW] 3:=by rw[<-e9,bg Zo]
 have cg:bo X h j aX (a1+1):=⟨Zo,λe z=>by rw[<-e9];simp(disch:=omega) only[aI];exact jk.ab e z⟩
 have x3:Y X aX j=zu [.str g.name, .Z g.at_,dj,dG,aW,eP] 6:=by rw[<-e9];simp(disch:=omega) only[aI];exact b3
 clear e9
 have kZ:∀e,P e->Y X aX e=Y X h e:=λe z=>cg.ab e (bE e z)
 refine(aor (j:=a1+1) (h:=aX) aw.todu Zo Zo cS (oP.ab kZ) (my.ab kZ) (qz.ab kZ) (λe z=>zq (bE e z)) Zo Zo).Zm ?_
 rintro ac bC da ⟨B6,cA,dv⟩
 have jC:=dv.le
 refine AC ⟨?_⟩
 refine(aoB (j:=da) (h:=bC) aw bT eN Zo cA (λe z=>z.2) (λd aH=> ?_)).Zm ?_
 ·rcases Zz.1 aH with a|a
  ·exact bt.ez d a
  ·rcases Zz.1 a with a|a
   ·exact bt.out d a
   ·exact bt.loc d a
 rintro ac bW b4 ⟨rfl,dJ⟩
 have ib:=dJ.le
 have Kn:bo X aX (a1+1) bW b4:=dv.trans dJ
 have th:bo X h j bW b4:=cg.trans Kn
 rw[<-Kn.ab _ Zo]at x3
 refine cT (bO x3) @g6 ⟨?_⟩
 refine fK (λm H T aU=>∃(W:Nat),H.g 4=some (.Z 0)/\H.g 53=some eP/\H.g 54=some (.Z (g.eqs.length:Int))/\H.g 55=some (.Z (W:Int))/\W+m=g.eqs.length/\bo X h j T aU)
  g.eqs.length ⟨0,bw,bw,bw,fW,Zo,th⟩ ?_
 rintro m H b9 eB ⟨W,t4,qP,kz,qQ,bK,eG⟩
 have tq:=eG.le
 cases m with
 |zero=>
  have d:=zr W g.eqs.length
  refine gx @qQ @kz @t4 @d ⟨?_⟩
  exact⟨rfl,eG⟩
 |succ m=>
  have d:=zs W g.eqs.length
  have bF:=zv W
  obtain⟨ah,bL⟩:=zt g.eqs W
  have EW:=Zj bL
  have A2:=bt.eqs ah EW
  obtain⟨row,e3,tu⟩:=e2.get W ah bL
  have wv:∀e,P e->Y X b9 e=Y X h e:=λe z=>eG.ab e (bE e z)
  have dS:=j8.f3 W (by rw[lM.1];omega)
  have ic:=(j8.ab wv).row Zd e3
  obtain⟨ky,mI,db,dx,k8,rfl,hA,ka,mz,nA⟩:=tu
  have yv:=hA.len
  rw[show(ih ah.left).length=ah.left.length from by simp[ih]]at yv
  have aDk:0<ah.left.length:=YO.2 A2.some
  have Ao:decide ((ah.left.length:Int)=0)=false:=by simp only[Zb];omega
  refine iM @qQ @kz @qP @d @dS @ic ⟨?_⟩
  refine fw (hF (q:=4) (b:=eB) (U:=0) (n:=4) (c:=K.ofList [.aV, .aV, .Z 0, .cx] 0 .nil) (bg Zo) Zo rfl Zd Zd nA) ?_
  generalize n0:bn X _ eB _=cB
  have eY:Y X cB eB=zu [ky,mI, .Z ah.at_,k8] 4:=by rw[<-n0,bg Zo];rfl
  have eW:bo X h j cB (eB+1):=⟨Zo,λe z=>by rw[<-n0];simp(disch:=omega) only[aI];exact eG.ab e z⟩
  clear n0
  have ru:∀e,P e->Y X cB e=Y X h e:=λe z=>eW.ab e (bE e z)
  refine ci (bO eY) ⟨?_⟩
  refine(aqk (j:=eB+1) (h:=cB) aw bT eN gY Zo (cy.ab ru _ _ mz) (λe z=>zq (bE e z)) A2.right (az.high ah EW)).Zm ?_
  rintro ac dX iD ⟨rfl,hX⟩
  have CE:=hX.le
  rw[<-hX.ab _ Zo]at eY
  have adl:bo X h j dX iD:=eW.trans hX
  have CZ:∀e,P e->Y X dX e=Y X h e:=λe z=>adl.ab e (bE e z)
  refine et (bO eY) @yv @Ao ⟨?_⟩
  refine(awI (j:=iD) (h:=dX) aw bT eN Zo (hA.ab CZ) (λe z=>zq (bE e z)) A2.left).Zm ?_
  rintro ac ee jo ⟨rfl,jS⟩
  have f1:decide ((0:Int)=1)=false:=rfl
  have fD:decide ((0:Int)≠0)=false:=rfl
  refine gx @f1 @fD @qQ @bF ⟨?_⟩
  exact⟨m,Zo,W+1,a7 t4,a7 qP,a7 kz,bw,Zo,adl.trans jS⟩
set_option maxRecDepth 100000 in
def aqj(aw:iI X)(bT:lV X)(eN:rT X)(gY:xD X){P:Nat->Prop}{ai:List Go.aR.Node}{v:D}(aE:(o X).a2<=j)(bU:nQ X h P ai v)(bE:∀e,P e->e<j)(bt:∀g∈ai,mQ gV g)(aS:ai≠[])(az:nC ai=none):
 aY X 40 [v] h j (λac T an=>ac= .Z 0/\bo X h j T an) (λ_ _ _=>False):=by
 refine zx aw.todu (al7 X) ?_
 rw[al8]
 unfold aap
 obtain⟨qA,n4⟩:=Vh az
 obtain⟨b,aW,cp,br,rfl,aj,a0,cA,kK⟩:=id bU
 have lM:=kK.wide
 have d5:=cA.len
 rw[lM.1]at d5
 have gn:=bE b aj
 have ay:0<ai.length:=YO.2 aS
 have cX:decide ((ai.length:Int)=0)=false:=by simp only[Zb];omega
 have cF:decide ((64:Int)<(ai.length:Int))=false:=by simp only[Zb];omega
 refine gg @Sm @a0 @d5 @cX @cF ⟨?_⟩
 refine fK (λm H T aU=>∃(W:Nat),H.g 3=some (.Z 0)/\H.g 28=some aW/\H.g 29=some (.Z (ai.length:Int))/\H.g 30=some (.Z (W:Int))/\W+m=ai.length/\bo X h j T aU)
  ai.length ⟨0,bw,bw,bw,fW,Zo,bo.refl _ _⟩ ?_
 rintro m H aP aG ⟨W,t3,ahP,FS,w5,bK,bN⟩
 have jm:=bN.le
 cases m with
 |zero=>
  have d:=zr W ai.length
  refine gx @w5 @FS @t3 @d ⟨?_⟩
  exact⟨rfl,bN⟩
 |succ m=>
  have d:=zs W ai.length
  have bF:=zv W
  obtain⟨g,kX⟩:=zt ai W
  have mx:=Zj kX
  obtain⟨row,e3,jD⟩:=kK.get W g kX
  have wu:∀e,P e->Y X aP e=Y X h e:=λe z=>bN.ab e (bE e z)
  have dS:=cA.f3 W (by rw[lM.1];omega)
  have ic:=(cA.ab wu).row Zd e3
  have jE:=jD.jH
  have ES:=jD
  obtain⟨dj,dG,jJ,eP,bQ,cf,cM,ew,gz,rfl,_⟩:=jD
  refine iM @w5 @FS @ahP @d @dS @ic ⟨?_⟩
  refine fw (hF (q:=6) (b:=aG) (U:=0) (n:=6) (c:=K.ofList [.str [], .Z 0, .aV, .aV, .aV, .aV] 0 .nil) (bg Zo) Zo rfl Zd Zd jE) ?_
  generalize dI:bn X _ aG _=aM
  have b7:Y X aM aG=zu [.str g.name, .Z g.at_,dj,dG,jJ,eP] 6:=by rw[<-dI,bg Zo];rfl
  have bJ:bo X h j aM (aG+1):=⟨Zo,λe z=>by rw[<-dI];simp(disch:=omega) only[aI];exact bN.ab e z⟩
  clear dI
  refine ci (bO b7) ⟨?_⟩
  refine(axi (j:=aG+1) (h:=aM) aw bT eN gY Zo (ES.ab (bm:=P) (λe z=>bJ.ab e (bE e z)) (λ_ a=>a)) (λe z=>zq (bE e z)) (bt g mx) (n4 g mx)).Zm ?_
  rintro ac aX bf ⟨rfl,cg⟩
  have f1:decide ((0:Int)=1)=false:=rfl
  have fD:decide ((0:Int)=22)=false:=rfl
  refine gx @f1 @fD @w5 @bF ⟨?_⟩
  exact⟨m,Zo,W+1,a7 t3,a7 ahP,a7 FS,bw,Zo,bJ.trans cg⟩
end
section
variable{X:cb}{h T c6 aP aM:K ag}{j an aG a1:Nat}{s:bi}
def Dy(c:K D)(F b:D):(dN c 0 [F,b]).get 0=some F:=by rw[jd];simp
def I7(c:K D)(F b:D):(dN c 0 [F,b]).get 1=some b:=by rw[jd];simp
set_option maxRecDepth 100000 in
def aof(aw:iI X)(bT:lV X)(eN:rT X)(gY:xD X){P:Nat->Prop}{ai:List Go.aR.Node}{v:D}(aE:(o X).a2<=j)(bU:nQ X h P ai v)(bE:∀e,P e->e<j)(bt:∀g∈ai,mQ gV g)(aS:ai≠[])(az:nC ai=none):
 aY X 20 [v] h j (λac T an=>ac= .agg [.Z (uo ai).1, .Z (uo ai).2]/\bo X h j T an) (λ_ _ _=>False):=by
 refine zx aw.todu (ala X) ?_
 rw[alb]
 unfold X8
 obtain⟨qA,n4⟩:=Vh az
 refine pq ?_
 generalize dZ:bn X h j _=aP
 have b3:∃c,Y X aP j=some (.cells c 2 .own):=⟨_,by rw[<-dZ,bg aE];rfl⟩
 have bN:bo X h j aP (j+1):=by rw[<-dZ];exact dM
 clear dZ
 have wu:∀e,P e->Y X aP e=Y X h e:=λe z=>bN.ab e (bE e z)
 refine(aqj (j:=j+1) (h:=aP) aw bT eN gY Zo (bU.ab (bm:=P) wu (λ_ a=>a)) (λe z=>zq (bE e z)) bt aS az).Zm ?_
 rintro ac aM a1 ⟨rfl,bJ⟩
 have f7:=bJ.le
 rw[<-bJ.ab _ Zo]at b3
 have jk:=bN.trans bJ
 obtain⟨b,aW,cp,br,rfl,aj,a0,cA,kK⟩:=id bU
 have lM:=kK.wide
 have d5:=cA.len
 rw[lM.1]at d5
 have gn:=bE b aj
 have bz:decide ((0:Int)≠0)=false:=rfl
 rw[<-jk.fZ _ _ gn]at a0
 refine et @bz @a0 @d5 ⟨?_⟩
 refine fK (λm H T aU=>∃(W:Nat),H.g 0=some (.ptr b 0)/\H.g 2=some (.ptr j 0)/\H.g 13=some aW/\H.g 14=some (.Z (ai.length:Int))/\H.g 15=some (.Z (W:Int))/\W+m=ai.length/\bo X h j T aU/\j<aU/\(∃c,Y X T j=some (.cells c 2 .own))/\uo ai=xR ai W (ai.drop W))
  ai.length ⟨0,bw,bw,bw,bw,fW,Zo,jk,Zo,b3,rfl⟩ ?_
 rintro m H aX bf ⟨W,t0,dQ,jt,lb,w3,bK,cg,AX,⟨gf,cS⟩,ls⟩
 have ip:=cg.le
 cases m with
 |zero=>
  have d:=zr W ai.length
  rw[ZH Zo]at ls
  refine iM @w3 @lb @dQ @d @Dy @I7 ⟨?_⟩
  refine⟨by rw[ls];rfl, ?_⟩
  exact⟨Zo,λe z=>by rw[aI Zo Zo];exact cg.ab e z⟩
 |succ m=>
  have d:=zs W ai.length
  have bF:=zv W
  obtain⟨g,kX⟩:=zt ai W
  have mx:=Zj kX
  have aH:ai.drop W=g::ai.drop (W+1):=by
   obtain⟨af,z⟩:=Zc.1 kX
   rw[Zv af,z]
  rw[aH,xR]at ls
  obtain⟨row,e3,jD⟩:=kK.get W g kX
  have kZ:∀e,P e->Y X aX e=Y X h e:=λe z=>cg.ab e (bE e z)
  have dS:=cA.f3 W (by rw[lM.1];omega)
  have ic:=(cA.ab kZ).row Zd e3
  have jE:=jD.jH
  have ES:=jD
  obtain⟨dj,dG,jJ,eP,bQ,cf,cM,ew,gz,rfl,_⟩:=jD
  refine iM @w3 @lb @jt @d @dS @ic ⟨?_⟩
  refine fw (hF (q:=6) (b:=bf) (U:=0) (n:=6) (c:=K.ofList [.str [], .Z 0, .aV, .aV, .aV, .aV] 0 .nil) (bg Zo) Zo rfl Zd Zd jE) ?_
  generalize eH:bn X _ bf _=bC
  have eh:Y X bC bf=zu [.str g.name, .Z g.at_,dj,dG,jJ,eP] 6:=by rw[<-eH,bg Zo];rfl
  have d0:∀e,e<bf->Y X bC e=Y X aX e:=λe z=>by rw[<-eH];exact zw
  clear eH
  have dv:bo X h j bC (bf+1):=⟨Zo,λe z=>by rw[d0 e Zo];exact cg.ab e z⟩
  rw[<-d0 _ Zo]at cS
  refine cT @t0 (bO eh) ⟨?_⟩
  refine(agE (j:=bf+1) (h:=bC) aw.todu Zo (λe z=>zq (bE e z)) (ES.ab (bm:=P) (λe z=>dv.ab e (bE e z)) (λ_ a=>a)) (by rw[ND];have:=(n4 g mx).vars;simp only[qH];omega)).Zm ?_
  rintro ac bW b4 ⟨cZ,mh,wZ,dV,rfl,m1,K0,cG,cw,d9,fQ,dJ⟩
  have ib:=dJ.le
  have arJ:bo X h j bW b4:=dv.trans (dJ.k3 Zo)
  rw[<-dJ.ab _ Zo]at cS
  refine cT @t0 @w3 ⟨?_⟩
  generalize fB:bn X _ (b4+1) _=b9
  have dT:Y X b9 (b4+1)=zu [.ptr b 0, .Z (W:Int), .ptr cZ 0, .map b4, .Z 0, .Z 0] 6:=by rw[<-fB,bg Zo];rfl
  have eY:Y X b9 b4=some (.map [] 0):=by rw[<-fB];simp(disch:=omega) only[aI,bg]
  have eG:bo X bW b4 b9 (b4+1+1):=by rw[<-fB];exact dM
  clear fB
  have adj:bo X h j b9 (b4+1+1):=arJ.trans (eG.k3 Zo)
  rw[<-eG.ab _ Zo]at cS
  have fj:∀e,(P e\/cQ (bf+1) b4 e)->e<b4+1+1/\e≠b4+1/\e≠b4:=by
   rintro e (z|z)
   ·have:=bE e z;omega
   ·have:=z.2;omega
  refine(aog (j:=b4+1+1) (h:=b9) (P:=λe=>P e\/cQ (bf+1) b4 e) (q:=W) (ai:=ai) (g:=g) (cZ:= .ptr cZ 0) aw.todu Zo Zo Zo Zo Zo Zo fj
   (bU.ab (λe z=>adj.ab e (bE e z)) (λ_ a=> .inl a)) kX ⟨cZ,mh,rfl, .inr m1, .inr K0,by rw[eG.fZ _ _ (zq m1.2)];exact cG,cw.ab (eG.ab _ K0.2)⟩ dT ⟨[],0,eY,λ_=>rfl⟩).Zm ?_
  rintro ac cB ef ⟨rfl,Cx,n5,sg⟩
  have eW:bo X h j cB ef:=⟨Zo,λe z=>by rw[sg e Zo Zo Zo];exact adj.ab e z⟩
  rw[<-sg _ Zo Zo Zo]at cS
  have pv:aO X cB (.ptr (b4+1) 4)=some (.Z (qF ai W g).1):=by unfold f8 at Cx;rw[bO Cx];rfl
  have Av:aO X cB (.ptr (b4+1) 5)=some (.Z (qF ai W g).2):=by unfold f8 at Cx;rw[bO Cx];rfl
  by_cases cr:(qF ai W g).1=0
  ·have Ec:decide ((qF ai W g).1≠0)=false:=by simp[cr]
   rw[Zg (by simp[cr])]at ls
   refine gx @pv @Ec @w3 @bF ⟨?_⟩
   exact⟨m,Zo,W+1,a7 t0,a7 dQ,a7 jt,a7 lb,bw,Zo,eW,Zo,⟨gf,cS⟩,ls⟩
  ·have Ec:decide ((qF ai W g).1≠0)=true:=by simp[cr]
   rw[Zu cr]at ls
   have tp:d8 X cB 2 (.ptr (b4+1) 4)=some (.agg [.Z (qF ai W g).1, .Z (qF ai W g).2]):=by rw[o1,pv,Av];rfl
   refine iM @pv @Ec @tp @dQ @Dy @I7 ⟨?_⟩
   refine⟨by rw[ls], ?_⟩
   exact⟨Zo,λe z=>by rw[aI Zo Zo];exact eW.ab e z⟩
end
def od(t:bi->Option ej)(w:bi):de:=((t w).getD vh).d.ty
def rB:List de->Bool
 |[]=>true
 |F::k=>(F::k).all λb=>decide (b=F)
def I3:de:=⟨true,false,1⟩
def Ak(ai:List Go.aR.Node)(nm:bi)(F:List de):List de×Bool:=
 match ai[(nv ai nm).getD 0]? with
 |none=>([],false)
 |some g=>(g.out.map (·.ty),decide (g.ez.map (·.ty)=F))
def iq(ai:List Go.aR.Node)(t:bi->Option ej)(E:be)(F:List de):List de×Bool:=
 let a0:=F.headD dH
 if E.kind=1 then([E.ty],true)
 else if E.kind=2 then([od t E.name],true)
 else if E.kind=3\/E.kind=5 then([a0],true)
 else if E.kind=4\/E.kind=19\/E.kind=20 then([a0], !a0.b)
 else if E.kind=6 then([a0],(od t E.name).b)
 else if E.kind=7\/E.kind=8\/E.kind=9\/E.kind=21\/E.kind=22 then([a0],rB F)
 else if E.kind=16\/E.kind=17\/E.kind=18 then([a0],rB F&& !a0.b)
 else if E.kind=10\/E.kind=11 then([I3],rB F)
 else if E.kind=12\/E.kind=13\/E.kind=14\/E.kind=15 then([I3],rB F&& !a0.b)
 else if E.kind=23 then([(F[1]?).getD dH],a0.b&&rB F.tail)
 else if E.kind=24 then([a0],rB F&&(od t E.name).b)
 else if E.kind=26 then([E.ty], !E.ty.b||a0.b)
 else Ak ai E.name F
mutual
def lJ(ai:List Go.aR.Node)(t:bi->Option ej):be->Except Int (List de)
 | .mk q at_ nm no ty n args=>match j1 ai t args with
   | .error F=> .error F
   | .ok (bV,one)=>if one=false then .error at_ else
     let r:=iq ai t (.mk q at_ nm no ty n args) bV
     if r.2=false then .error at_ else .ok r.1
def j1(ai:List Go.aR.Node)(t:bi->Option ej):List be->Except Int (List de×Bool)
 |[]=> .ok ([],true)
 |E::k=>match lJ ai t E with
  | .error F=> .error F
  | .ok r=>match j1 ai t k with
    | .error F=> .error F
    | .ok (bV,one)=>match r with
      |[x]=> .ok (x::bV,one)
      |_=> .ok (bV,false)
end
def GN(t:bi->Option ej)(g:Go.aR.Node):Option Int:=(hM g).findSome? λx=>if x.2.on≠[]/\(od t x.2.on).b=false then some x.2.fL else none
def q3(ai:List Go.aR.Node)(t:bi->Option ej)(ah:fc):Option Int:=match lJ ai t ah.right with
 | .error F=>some F
 | .ok row=>if (1<ah.left.length/\ah.right.kind≠25)\/row≠ah.left.map (od t)then some ah.at_ else none
def u6(ai:List Go.aR.Node)(g:Go.aR.Node):Option Int:=match GN (fH g) g with
 |some F=>some F
 |none=>g.eqs.findSome? (q3 ai (fH g))
def BD(ai:List Go.aR.Node):Option Int:=ai.findSome? (u6 ai)
end
end Go.Proofs.YtpfajohmofnkfaaGreatDoor

namespace Go.Proofs.YtpfajohmofnkfaaGreatDoor
open Go.bd
noncomputable section
variable (X : cb) (h : K ag) (j : Nat) (ak av : bI) (a0 ba cj a3 a4 a5 hy h3 h4 : D)
def IR(a:aL)(b:bI):fg:=λc d e=>nI a [.cell 2 65, .cell 3 26] b c c.bc d e
def P8(a:aL)(b c:bI):sZ:=λd e f g=>wP a [.cell 2 65, .cell 3 26] b c d e d.bc f g
def aal(a:aL)(b:D)(c:K ag)(d:Nat)(e f:bI):Prop:=
 Jj d a c λc d g=>BL g a d λd g h=>aY a 20 [b] g h (λg h i=>BL i a h λh i j=>rP a i h g λg=>kQ h a g λi=>F4 i λi=>bB (λb c d=>gt b 2 3 λg h=>JV (.func (.func 76) [] [g,h]) [] b λb=>gw a c d (.map d) (.map [] 0) λc d g=>ax (e8 [.mi] [(0,1,c)]) λc=>iv a d g c λc d g=>cL (b 2) λh=>nk a d h c λc=>lh b 2 a c λd=>eQ b λh=>ax (e8 [.cx, .cx, .cx] [(0,1,d),(1,1,h)]) λd=>iv a c g d λc d g=>ot b a d λh=>je h (λb c d=>lh b 2 a c λf=>F5 λg=>cL (b 2) λh=>nk a c h f λc=>qb b λf=>rP a c f g λc=>IR a e b c d) λi j=>fF (λb c d g=>hJ c 27 26 λh=>bB (λc d g=>mN (λa c d=>gU a 27 λe=>b (aa a 27 e) c d) c 25 27 λb h i=>DB h i a d g λd g h=>ou c λi=>ax (d8 a h 6 d) λj=>aY a 77 [i,j] h g (λ_ a e=>b (aa c 7 d) a e) (P8 a e f (hL [31,32,33] (aa c 7 d)))) λa=>aZ h (a (aa c 28 h) d g) (j (aa c 28 h) d g)) (zA b 5 c 25 h 26 i 27 (.Z 0)) d g) λf=>aZ i (fb (j+3) λf=>xy a g h λj=>ax (gj a g 1 c .cx) λg=>xy a g h λk=>gT k (some j) (rP a g d j λg=>IR a e (zA (cO [b]) 2 c 3 d 4 h 12 i) g f)) (f (zA (cO [b]) 2 c 3 d 4 h 12 i) g j)) (P8 a e f (hL [8,9,4] (zy (cO [b]) 2 c 3 d)))
def al0:Cl X 31 [a0] h j ak av=aal X a0 h j ak av:=Zk
def alZ:cW X 31 1=true:=Zk
def aao(a:aL)(b c:D)(d:K ag)(e:Nat)(f g:bI):Prop:=
 ax (dw a d .eql 65 true b .cx) λh=>bB (λb c d=>ot b a c λe=>sL b λb=>ax (lO a c 47 .aV e b false) λb=>aY a 83 [b] c d f g) λa=>aZ h (f .aV d e) (a (zy (cO [b,c]) 4 .aV 6 h) d e)
def al6:dg X 37 [a0,ba] h j ak av=aao X a0 ba h j ak av:=Zk
def al5:cW X 37 2=true:=Zk
def aau(a:aL)(b c:D)(d:K ag)(e:Nat)(f g:bI):Prop:=
 Jg e a d λd e h=>aY a 37 [b,c] e h (λe g h=>ax (gy e) λi=>ax (bq .neq i (.Z 1)) λi=>bB (λb c d=>cL (b 6) λe=>xw 3 e λe=>it a c e λe=>mq b 4 a c 3 e λa b=>f (.tuple [b, .zT]) a d) λj=>aZ i (ax (e8 [.zF, .zF, .Z 0] []) λb=>ax (gj a g 3 d b) λb=>it a b d λa=>f (.tuple [a, .zF]) b h) (j (zA (cO [b,c]) 4 d 5 .zF 6 e 12 i) g h)) g
def ame:dg X 54 [a0,ba] h j ak av=aau X a0 ba h j ak av:=Zk
def amd:cW X 54 2=true:=Zk
def Rr(a:aL)(b c:D)(d:Option D)(e:K ag)(f:Nat)(g:Bool->K ag->Nat->Prop):Prop:=
 IM (some d) (cO [b,c]) λb c=>bB (λa b c=>g a.rc b c) λd=>ax (dw a e .eql 20 true b .nilIface) λg=>bB d λd=>aZ g (d (zy c 5 b 7 g) e f) (ax (Gx 26 (.agg [.Z 0, .Z 0]) true b) λh=>ax (pg 1 h) λi=>ax (pg 0 h) λh=>bB d λd=>aZ i (BL f a e λe f j=>rP a f e h λf=>fb (j+3) λj=>xy a f e λk=>eQ c λl=>ax (gj a f 1 l .cx) λf=>xy a f e λl=>gT l (some k) (sL c λl=>rP a f l k λa=>d (aa (zA c 5 b 7 g 9 i 10 h) 3 e) a j)) (wQ (λ_ _ _=>False) b e f))
def aaA(X:cb)(a0 ba:D)(jX:Option D)(h:K ag)(j:Nat)(ak:Bool->K ag->Nat->Prop):Ay X 76 [a0,ba] jX h j ak=Rr X a0 ba jX h j ak:=Zk
def Rs:cW X 76 2=true:=Zk
def aaB(a:aL)(b c:D)(d:K ag)(e:Nat)(f g:bI):Prop:=
 iv a d e c λd e h=>F7 a e 6 d 32 h g λe h i=>rQ b 2 a h e λe=>WU d a e λh=>bB (λb c d=>jL b 3 5 a c λ_ e=>je e (λ_ a b=>f (.tuple []) a b) λf h=>fF (λb c d e=>hJ c 54 53 λf=>bB (λc d e=>F2 (λa c d=>gU a 54 λe=>b (aa a 54 e) c d) c 52 54 a d e λb d e f=>eQ c λh=>fy 3 d a f λ_ i=>aY a 131 [h,i] f e (λe f h=>kQ d a f λi=>je i (λc d e=>cL (c 11) λf=>ax (gy f) λf=>ax (bq .gtr f (.Z 1)) λf=>Q6 f c 9 (λa=>hv 3 a) d e a λd e h=>BN f d e h 0 a λd e h=>eZ f (bq .neq d (.Z 25)) e h λd e h=>dh (λd=>Bg d (c 10) e h λe f h=>Bg d (c 11) f h λf h i=>Jb d (λb=>aY a 47 [e,f] h i b g) h i λe f h=>dh (λd=>bB b λb=>aZ d (jL c 9 2 a f λ_ e=>aY a 130 [e] f h (λ_ a e=>b (aa c 92 d) a e) g) (b (aa c 92 d) f h)) λa=>aZ d (a .zT) (a e)) λa=>aZ f (a d) (a .zF)) λb j=>fF (λb c d e=>hJ c 65 64 λf=>bB (λc d e=>uc (λa c d=>gU a 65 λe=>b (aa a 65 e) c d) c 63 65 a d λb f=>gt c 11 0 λh i=>aY a 129 [i,f] d e (λd e g=>MJ d g λd=>DC a e g d.1 d.2 3 h λa d e=>b (zy c 13 f 11 a) d e) g) λa=>aZ f (a (aa c 66 f) d e) (j (aa c 66 f) d e)) (zy (zA c 9 d 10 e 11 .aV 63 i) 64 b 65 (.Z 0)) f h) g) λa=>aZ f (a (aa c 55 f) d e) (h (aa c 55 f) d e)) (zz b 52 e 53 f 54 (.Z 0)) c d) λf=>fF (λb c d e=>Ji c 26 3 λh=>bB (λc d e=>mN (λa c d=>gU a 26 λe=>b (aa a 26 e) c d) c 25 26 λb f h=>ax (uZ false 3 1 f h) λf=>DF f b λb h=>fF (λb c d e=>hJ c 31 30 λf=>bB (λc d e=>mN (λa c d=>gU a 31 λe=>b (aa a 31 e) c d) c 29 31 λb f h=>ML f h a d e λd e f=>aiG d a f λh=>oa h (c 0) f e λe f i=>vl h 5 d f i a λf i j=>m4 h (λb=>aY a 129 [e,f] i j b g) i j λe f i=>eZ h (r6 false 0 1 e) f i λe f i=>eZ h (hp .not e) f i λe f i=>dh (λe=>bB b λb=>aZ e (fy 6 d a f λ_ h=>aY a 130 [h] f i (λ_ a f=>b (zy c 7 d 45 e) a f) g) (b (zy c 7 d 45 e) f i)) λa=>aZ h (a e) (a .zF)) λa=>aZ f (a (aa c 32 f) d e) (h (aa c 32 f) d e)) (zA c 5 f 29 f 30 b 31 (.Z 0)) d e) λa=>aZ h (a (aa c 27 h) d e) (f (aa c 27 h) d e)) (zz (cO [b,c]) 3 d 25 h 26 (.Z 0)) e i
def amo:dg X 77 [a0,ba] h j ak av=aaB X a0 ba h j ak av:=Zk
def amn:cW X 77 2=true:=Zk
def aaE(a:aL)(b c:D)(d:K ag)(e:Nat)(f g:bI):Prop:=
 aY a 135 [b,c] d e (λa b c=>Gb a λa=>f a b c) g
def amu:dg X 80 [a0,ba] h j ak av=aaE X a0 ba h j ak av:=Zk
def amt:cW X 80 2=true:=Zk
def aaF(a:aL)(b:D)(c:K ag)(d:Nat)(e _:bI):Prop:=
 ax (dw a c .eql 76 true b .aV) λf=>bB (λb c d=>aiE d a c b 3 λa b c=>e a b c) λa=>aZ f (e .aV c d) (a (zy (cO [b]) 2 .aV 4 f) c d)
def amw:dg X 83 [a0] h j ak av=aaF X a0 h j ak av:=Zk
def amv:cW X 83 1=true:=Zk
def Xn(a:aL)(b c:D)(d:K ag)(e:Nat)(f g:bI):Prop:=
 Jg e a d λd e h=>h1 b 2 a e λ_ b=>WV a b c e h g λ_ b c e=>ax (hv 1 b) λb=>ax (hv 2 b) λb=>it a e b λb=>ax (gj a e 3 d b) λb=>it a b d λa=>f a b c
def ajt:dg X 129 [a0,ba] h j ak av=Xn X a0 ba h j ak av:=Zk
def ajs:cW X 129 2=true:=Zk
def Xo(_:aL)(a:D)(b:K ag)(c:Nat)(_ d:bI):Prop:=
 Ja 26 a λa=>wQ d a b c
def ajv:dg X 130 [a0] h j ak av=Xo X a0 h j ak av:=Zk
def aju:cW X 130 1=true:=Zk
def Xp(a:aL)(b c:D)(d:K ag)(e:Nat)(f g:bI):Prop:=
 h1 c 8 a d λ_ h=>je h (λb c d=>cL (b 6) λe=>ax (hp .not e) λe=>bB (λb c d=>gt b 0 1 λe h=>ou b λi=>aY a 184 [e,h,i] c d (λc d e=>hn c λc h=>ax (hp .not h) λi=>bB (λb c d=>ot b a c λe=>h1 e 0 a c λ_ e=>gt b 1 10 λg h=>hZ (tL a c d 47 e g h) c d λ_ a c=>cL (b 10) λb=>f b a c) λf=>aZ i (kP b 1 1 a d λ_ _ j=>aY a 130 [j] d e (λ_ a d=>f (zz b 10 c 11 h 49 i) a d) g) (f (zz b 10 c 11 h 49 i) d e)) g) λf=>aZ e (kP b 1 1 a c λ_ _ h=>aY a 130 [h] c d (λ_ a c=>f (aa b 35 e) a c) g) (f (aa b 35 e) c d)) λf i=>fF (λb c d e=>hJ c 17 16 λf=>bB (λc d e=>uc (λa c d=>gU a 17 λe=>b (aa a 17 e) c d) c 15 17 a d λb f=>eQ c λh=>aY a 131 [h,f] d e (λd e g=>ax (gy d) λh=>ax (bq .neq h (.Z 1)) λh=>bB (λc d e=>gt c 5 9 λf g=>xw 3 g λg=>it a d g λg=>MJ g e λg=>DC a d e g.1 g.2 3 f λa d e=>b (aa c 5 a) d e) λa=>aZ h (b (zA c 8 f 9 d 26 h 6 .zF) e g) (a (zz c 8 f 9 d 26 h) e g)) g) λa=>aZ f (a (aa c 18 f) d e) (i (aa c 18 f) d e)) (zy (zA (cO [b,c]) 4 .aV 5 .aV 6 .zT 15 h) 16 f 17 (.Z 0)) d e
def ajx:dg X 131 [a0,ba] h j ak av=Xp X a0 ba h j ak av:=Zk
def ajw:cW X 131 2=true:=Zk
def Xt(a:aL)(b c:D)(d:K ag)(e:Nat)(f g:bI):Prop:=
 je b (λ_ a b=>f (.Z (-1)) a b) λh i=>fF (λb c d e=>hJ c 8 7 λh=>bB (λc d e=>mN (λa c d=>gU a 8 λe=>b (aa a 8 e) c d) c 8 1 λb h i=>eQ c λj=>ax (gv 3 j h) λj=>it a d j λj=>iz a i [j] d e (λa d e=>bB b λb=>aZ a (f h d e) (b (zy c 5 h 16 a) d e)) g) λa=>aZ h (a (aa c 9 h) d e) (i (aa c 9 h) d e)) (zz (cO [b,c]) 4 (.Z 0) 7 h 8 (.Z 0)) d e
def ajF:dg X 135 [a0,ba] h j ak av=Xt X a0 ba h j ak av:=Zk
def ajE:cW X 135 2=true:=Zk
def XY(a:aL)(b c d:D)(e:K ag)(f:Nat)(g h:bI):Prop:=
 h1 c 0 a e λ_ i=>bB (λb c d=>gt b 0 1 λe f=>cL (b 2) λb=>aY a 212 [e,f,b] c d (λa b c=>hn a λa d=>g (.tuple [a,d]) b c) h) λj=>oq i 1 j λj k=>aZ j (kB c 4 λb=>it a e b λb=>iz a (.func (.func 210) [] []) [b, .zT] e f (λa b c=>hn a λa d=>g (.tuple [a,d]) b c) h) (oq i 2 k λk l=>aZ k (h1 c 2 a e λ_ c=>aY a 129 [b,c] e f (λb c d=>iz a (.func (.func 210) [] []) [b, .zT] c d (λa b c=>hn a λa d=>g (.tuple [a,d]) b c) h) h) (ax (bq .eql i (.Z 3)) λm=>bB (λb c d=>BK b 35 l λe f=>aZ e (F1 b a c λb _ e=>iz a b [e, .zT] c d (λa b c=>hn a λa d=>g (.tuple [a,d]) b c) h) (sO b 12 4 λe=>bB (λb c d=>BK b 45 f λe f=>aZ e (fb (d+14) λd=>F1 b a c λe _ f=>cL (b 2) λb=>xw 3 b λb=>kQ b a c λb=>ax (hp .not b) λb=>iz a e [f,b] c d (λa b c=>hn a λa d=>g (.tuple [a,d]) b c) h) (sQ b 12 6 f λe f=>aZ e (fb (d+16) λd=>F1 b a c λe f i=>gt b 0 1 λb j=>h1 j 2 a c λ_ j=>aY a 129 [b,j] c d (λb c d=>ax (r6 false 0 1 b) λb=>it a c f λf=>gT f (some i) (iz a e [i,b] c d (λa b c=>hn a λa d=>g (.tuple [a,d]) b c) h)) h) (sO b 12 7 λi=>bB (λb c d=>BK b 77 f λe f=>aZ e (fb (d+11) λd=>F1 b a c λe f i=>xx b 2 a 211 c d h λb c d=>it a c f λf=>gT f (some i) (iz a e [i,b] c d (λa b c=>hn a λa d=>g (.tuple [a,d]) b c) h)) (sO b 12 16 λe=>bB (λb c d=>BK b 92 f λe f=>aZ e (fb (d+18) λd=>F1 b a c λe f i=>xx b 2 a 211 c d h λc d j=>WW c b 2 d a λb d=>dh (λb=>it a d f λc=>gT c (some i) (iz a e [i,b] d j (λa b c=>hn a λa d=>g (.tuple [a,d]) b c) h)) λa=>aZ c (a b) (a .zF)) (sO b 12 10 λe=>bB (λb c d=>BK b 112 f λe f=>aZ e (fb (d+9) λd=>cL (b 8) λe=>ax (d8 a c 3 (.ptr 4 0)) λf=>xx b 2 a 211 c d h λb c d=>ax (d8 a c 3 (.ptr 4 0)) λi=>gT i (some f) (iz a e [f,b] c d (λa b c=>hn a λa d=>g (.tuple [a,d]) b c) h)) (sO b 12 12 λe=>bB (λb c d=>BK b 122 f λe f=>aZ e (fb (d+16) λd=>cL (b 8) λe=>ax (d8 a c 3 (.ptr 4 0)) λf=>xx b 2 a 211 c d h λc d i=>WW c b 2 d a λb d=>dh (λb=>ax (d8 a d 3 (.ptr 4 0)) λc=>gT c (some f) (iz a e [f,b] d i (λa b c=>hn a λa d=>g (.tuple [a,d]) b c) h)) λa=>aZ c (a b) (a .zF)) (sQ b 12 23 f λe f=>aZ e (fb (d+18) λd=>gt b 8 2 λe f=>ax (gv 3 f (.Z 1)) λf=>it a c f λi=>cL (b 2) λj=>xw 3 j λj=>kQ j a c λj=>Lz j (b 2) c λb c=>kd j (tZ a c 3 b (some (.Z 1)) none none) c λb c=>m4 j (λe=>aY a 211 [b] c d e h) c d λb c d=>dh (λb=>it a c f λf=>gT f (some i) (iz a e [i,b] c d (λa b c=>hn a λa d=>g (.tuple [a,d]) b c) h)) λa=>aZ j (a b) (a .zF)) (sQ b 12 24 f λf i=>aZ f (fb (d+20) λd=>F1 b a c λe f i=>xx b 2 a 211 c d h λc d j=>Lz c (b 0) d λd k=>F3 c b 1 k 2 a λb k=>it a k f λl=>gT l (some i) (m4 c (λc=>aY a 129 [d,b] k j c h) k j λb d j=>kd c (r6 false 0 1 b) d λb d=>dh (λb=>it a d f λc=>gT c (some i) (iz a e [i,b] d j (λa b c=>hn a λa d=>g (.tuple [a,d]) b c) h)) λa=>aZ c (a b) (a .zF))) (sQ b 12 26 i λi j=>aZ i (fb (d+22) λd=>gt b 8 1 λe f=>kB f 4 λf=>it a c f λf=>sL b λi=>kB i 4 λi=>kQ i a c λi=>ax (hp .not i) λi=>UR i (b 2) c λb c=>yB i (gv 3 b (.Z 0)) c λb c=>yB i (hv 0 b) c λb c=>yB i (aO a c b) c λb c=>dh (λb=>iz a e [f,b] c d (λa b c=>hn a λa d=>g (.tuple [a,d]) b c) h) λa=>aZ i (a .zT) (a b)) (j (zz b 141 e 159 f 179 i) c d))))) λa=>aZ e (a (aa b 122 e) c d) (sQ b 12 13 a λa f=>aZ a (f (zy b 122 e 122 a) c d) (sQ b 12 14 f λf g=>aZ f (g (zz b 122 e 122 a 122 f) c d) (sO b 12 15 λh=>g (zA b 122 e 122 a 122 f 122 h) c d))))) λa=>aZ e (a (aa b 112 e) c d) (sO b 12 11 λf=>a (zy b 112 e 112 f) c d))) λa=>aZ e (a (aa b 92 e) c d) (sQ b 12 17 a λa f=>aZ a (f (zy b 92 e 92 a) c d) (sO b 12 18 λg=>f (zz b 92 e 92 a 92 g) c d)))) λa=>aZ i (a (zy b 61 e 77 i) c d) (sQ b 12 8 a λa f=>aZ a (f (zz b 61 e 77 i 77 a) c d) (sQ b 12 9 f λf g=>aZ f (g (zA b 61 e 77 i 77 a 77 f) c d) (sQ b 12 21 g λg h=>aZ g (h (aa (zA b 61 e 77 i 77 a 77 f) 77 g) c d) (sO b 12 22 λj=>h (zy (zA b 61 e 77 i 77 a 77 f) 77 g 77 j) c d))))))) λa=>aZ e (a (aa b 45 e) c d) (sQ b 12 19 a λa f=>aZ a (f (zy b 45 e 45 a) c d) (sO b 12 20 λg=>f (zz b 45 e 45 a 45 g) c d)))) λa=>aZ m (a (zz (zA (cO [b,c,d]) 6 .aV 7 .zF 8 (.func (.func 210) [] []) 12 i) 13 j 23 k 35 m) e f) (ax (bq .eql i (.Z 5)) λg=>a (zA (zA (cO [b,c,d]) 6 .aV 7 .zF 8 (.func (.func 210) [] []) 12 i) 13 j 23 k 35 m 35 g) e f)))
def akx:dg X 184 [a0,ba,cj] h j ak av=XY X a0 ba cj h j ak av:=Zk
def akw:cW X 184 3=true:=Zk
def μ(a:aL)(b c:D)(d:K ag)(e:Nat)(f _:bI):Prop:=
 iv a d e b λb d e=>it a d b λb=>MJ b e λb=>gw a d e b.1 b.2 λa b d=>f (.tuple [a,c]) b d
def ald:dg X 210 [a0,ba] h j ak av=μ X a0 ba h j ak av:=Zk
def alc:cW X 210 2=true:=Zk
def ν(a:aL)(b:D)(c:K ag)(d:Nat)(e f:bI):Prop:=
 iv a c d b λb c d=>ax (aO a c b) λg=>aY a 80 [g, .func (.func 234) [] [b]] c d (λa b c=>ax (hp .not a) λa=>e a b c) f
def alf:dg X 211 [a0] h j ak av=ν X a0 h j ak av:=Zk
def ale:cW X 211 1=true:=Zk
def ξ(a:aL)(b c d:D)(e:K ag)(f:Nat)(g h:bI):Prop:=
 fb (f+14) λf=>h1 b 1 a e λ_ i=>h1 c 2 a e λ_ c=>aY a 79 [i,c] e f (λc e f=>hn c λc _=>h1 b 1 a e λ_ b=>h1 b 0 a e λ_ b=>DB b c a e f λb c e=>fb (c+12) λc=>fy 3 b a e λ_ f=>fy 2 b a e λb i=>iz a (.func (.func 235) [] []) [f] e c (λc e f=>ax (aO a e b) λb=>gT b (some i) (iz a (.func (.func 235) [] []) [i] e f (λb e f=>aY a 47 [b,d] e f (λa b d=>g (.tuple [c,a]) b d) h) h)) h) h
def alh:dg X 212 [a0,ba,cj] h j ak av=ξ X a0 ba cj h j ak av:=Zk
def alg:cW X 212 3=true:=Zk
def aab(a:aL)(b c:D)(d:K ag)(e:Nat)(f _:bI):Prop:=
 iv a d e b λb d e=>fb (e+6) λe=>it a d b λb=>ax (aO a d c) λc=>xw 3 c λc=>WR a d c b λa=>f a d e
def alG:dg X 234 [a0,ba] h j ak av=aab X a0 ba h j ak av:=Zk
def alF:cW X 234 2=true:=Zk
def aac(a:aL)(b:D)(c:K ag)(d:Nat)(e _:bI):Prop:=
 je b (λa b c=>qb a λa=>e a b c) λe f=>fF (λb c d e=>hJ c 8 7 λg=>bB (λc d e=>mN (λa c d=>gU a 8 λe=>b (aa a 8 e) c d) c 6 8 λb f g=>ML f g a d e λd e f=>qb c λg=>ax (hv 2 d) λh=>it a f h λh=>MJ h e λh=>DC a f e h.1 h.2 3 g λa e f=>b (zy c 5 d 3 a) e f) λa=>aZ g (a (aa c 9 g) d e) (f (aa c 9 g) d e)) (aa (zA (cO [b]) 2 .aV 3 .aV 6 b 7 e) 8 (.Z 0)) c d
def alI:dg X 235 [a0] h j ak av=aac X a0 h j ak av:=Zk
def alH:cW X 235 1=true:=Zk
end
end Go.Proofs.YtpfajohmofnkfaaGreatDoor

namespace Go.Proofs.YtpfajohmofnkfaaGreatDoor
open Go.bd Go.aR
noncomputable section
section
variable{X:cb}{h T aP aM:K ag}{j an aG a1:Nat}{P:Nat->Prop}
def kE(X:cb)(h:K ag)(P:Nat->Prop)(aW:D)(k:List de):Prop:=∃b,dD X h P b aW 3 (k.map ed)
def kE.ab{bm:Nat->Prop}{aW:D}{k:List de}(a:kE X h P aW k)(q:∀e,P e->Y X T e=Y X h e)(az:∀e,P e->bm e):kE X T bm aW k:=by
 obtain⟨b,a⟩:=a
 exact⟨b,(a.ab q).lift az⟩
def acH(X:cb):List Field:=match (o X).P.underlying 41 with|some (.struct jR)=>jR.toList|_=>[]
def apo(eq:Nat->D->D->Option Bool)(F b c fV dO f5:D):DW X eq (acH X) [F,b,c] [fV,dO,f5]=(match eq 4 F fV with|some true=>(match eq 4 b dO with|some true=>(match eq 3 c f5 with|some true=>some true|some false=>some false|none=>none)|some false=>some false|none=>none)|some false=>some false|none=>none):=Zk
def apj(cl oo:List D):kl X h 50 41 (.agg cl) (.agg oo)=DW X (kl X h 49) (acH X) cl oo:=Zk
def acf(F b:Bool):kl X h 49 4 (.bool F) (.bool b)=some (GF F b):=Zk
def apD(F b:Int):kl X h 49 3 (.Z F) (.Z b)=some (uY F b):=Zk
def abu(F b:Bool):GF F b=decide (F=b):=by cases F<;>cases b<;>rfl
def apB(F b:de):kl X h 50 41 (.agg (ed F)) (.agg (ed b))=some (decide (F=b)):=by
 obtain⟨ba,cj,a3⟩:=F
 obtain⟨bQ,cf,cM⟩:=b
 simp only[ed]
 rw[apj,apo,acf,acf,apD,abu,abu,CT]
 by_cases I:ba=bQ<;>by_cases J:cj=cf<;>by_cases am:a3=cM<;>simp[I,J,am]
def ags(F b:de):dw X h .neq 41 false (.agg (ed F)) (.agg (ed b))=some (.bool (!decide (F=b))):=by
 have a:dw X h .neq 41 false (.agg (ed F)) (.agg (ed b))=(match kl X h 50 41 (.agg (ed F)) (.agg (ed b))with|some b=>oE (!b)|none=>none):=Zk
 rw[a,apB]
 cases decide (F=b)<;>rfl
def Ib{b U:Nat}{c:K D}{n:Nat}{st:ox}{t:de}(aj:Y X h b=some (.cells c n st))(a:c.kU U 3=some (ed t)):d8 X h 3 (.ptr b U)=some (.agg (ed t)):=by
 rw[sq,aj];simp only[a,ZU]
structure Ac(X:cb)(h:K ag)(P:Nat->Prop)(aW:D)(k:List de):Prop where
 len:gy aW=some (.Z (k.length:Int))
 many:k.length<=300000
 f3:∀(i:Nat) t,k[i]? =some t->∃b U,gv 3 aW (.Z (i:Int))=some (.ptr b U)/\P b/\d8 X h 3 (.ptr b U)=some (.agg (ed t))/\aO X h (.ptr b U)=some (.bool t.b)
def Ac.ab{bm:Nat->Prop}{aW:D}{k:List de}(a:Ac X h P aW k)(q:∀e,P e->Y X T e=Y X h e)(az:∀e,P e->bm e):Ac X T bm aW k:=
 ⟨a.len,a.many,λi t aN=>by
  obtain⟨b,U,I,J,am,aB⟩:=a.f3 i t aN
  exact⟨b,U,I,az b J,by rw[sq,q b J, <-sq];exact am,zB (q b J) aB⟩⟩
def kE.rd{aW:D}{k:List de}(a:kE X h P aW k):Ac X h P aW k:=by
 obtain⟨b,a⟩:=a
 have az:=a.len
 have bp:=a.many
 rw[Zn]at az bp
 refine⟨az,bp,λi t aN=> ?_⟩
 have lK:=(Zc.1 aN).1
 have V:(k.map ed)[i]? =some (ed t):=by rw[Zy,aN];rfl
 refine⟨b,i*3,a.f3 i (by rw[Zn];omega),a.aj (λE=>by rw[E]at V;cases V),a.row Zd V, ?_⟩
 exact a.cell i (ed t) 0 _ V rfl
def ax7(aw:du X){F b:de}{k:List de}{aW:D}{c:Nat}(aE:(o X).a2<=j)(aA:c<j)(iy:aO X h (.ptr c 0)=some aW)(a6:Ac X h P aW (b::k))(bE:∀e,P e->e<j):
 aY X 234 [.agg (ed F), .ptr c 0] h j (λac T an=>ac= .bool (!decide (F=b))/\bo X h j T an) (λ_ _ _=>False):=by
 refine zx aw (alF X) ?_
 rw[alG]
 unfold aab
 obtain⟨cp,U,dS,jA,tp,_⟩:=a6.f3 0 b rfl
 have dS:gv 3 aW (.Z 0)=some (.ptr cp U):=dS
 refine s6 ?_
 generalize dZ:bn X h j _=aP
 have b3:d8 X aP 3 (.ptr j 0)=some (.agg (ed F)):=by rw[<-dZ];exact Ib (bg aE) (by cases F;rfl)
 have bN:bo X h j aP (j+1):=by rw[<-dZ];exact dM
 clear dZ
 have aD:=λe (z:P e)=>bN.ab e (bE e z)
 have ic:d8 X aP 3 (.ptr cp U)=some (.agg (ed b)):=by rw[sq,aD cp jA, <-sq];exact tp
 have asG:aO X aP (.ptr c 0)=some aW:=zB (bN.ab c aA) iy
 refine gg @b3 @asG @dS @ic @ags ⟨?_⟩
 exact⟨rfl,bN.more Zo⟩
def ax8(b:de)(k:List de):rB (b::k)=(b::k).all (λF=>decide (F=b)):=rfl
def avA(aw:du X){b:de}{k:List de}{aW:D}{c:Nat}(aE:(o X).a2<=j)(aA:c<j)(iy:aO X h (.ptr c 0)=some aW)(a6:Ac X h P aW (b::k))(bE:∀e,P e->e<j):
 aY X 135 [aW, .func (.func 234) [] [.ptr c 0]] h j (λac T an=>(∃q:Int,ac= .Z q/\decide (0<=q)= !rB (b::k))/\bo X h j T an) (λ_ _ _=>False):=by
 refine zx aw (ajE X) ?_
 rw[ajF]
 unfold Xt
 have d5:=a6.len
 have hO:=a6.many
 rw[ax8]
 generalize f6:b::k=L at*
 refine ci @d5 ⟨?_⟩
 refine fK (λm H T aU=>∃(W:Nat),H.g 0=some aW/\H.g 1=some (.func (.func 234) [] [.ptr c 0])/\H.g 7=some (.Z (L.length:Int))/\H.g 8=some (.Z (W:Int))/\W+m=L.length/\bo X h j T aU/\L.all (λF=>decide (F=b))=(L.drop W).all (λF=>decide (F=b)))
  L.length ⟨0,bw,bw,bw,fW,Zo,bo.refl _ _,rfl⟩ ?_
 rintro m H aM a1 ⟨W,t0,t1,gd,hb,bK,bJ,ch⟩
 have f7:=bJ.le
 cases m with
 |zero=>
  have d:=zr W L.length
  rw[ZH Zo]at ch
  refine et @hb @gd @d ⟨?_⟩
  exact⟨⟨-1,rfl,by rw[ch];rfl⟩,bJ⟩
 |succ m=>
  have d:=zs W L.length
  have bF:=zv W
  obtain⟨g,bU⟩:=zt L W
  have aH:L.drop W=g::L.drop (W+1):=by
   obtain⟨af,z⟩:=Zc.1 bU
   rw[Zv af,z]
  have aD:=λe (z:P e)=>bJ.ab e (bE e z)
  obtain⟨cp,U,dS,jA,ic,_⟩:=(a6.ab (bm:=P) aD (λ_ a=>a)).f3 W g bU
  have TD:aO X aM (.ptr c 0)=some aW:=zB (bJ.ab c aA) iy
  rw[aH,List.all_cons]at ch
  refine eF @hb @gd @t1 @t0 @d @dS @ic ⟨?_⟩
  refine(ax7 aw (b:=b) (k:=k) (aW:=aW) Zo Zo TD (by rw[f6];exact a6.ab (bm:=P) aD (λ_ a=>a)) (λe z=>zq (bE e z))).Zm ?_
  rintro ac aX bf ⟨rfl,cg⟩
  by_cases iR:g=b
  ·have cF:(!decide (g=b))=false:=by simp[iR]
   have eS:decide (g=b)=true:=by simp[iR]
   rw[eS,Bool.true_and]at ch
   rw[cF]
   refine cT @hb @bF ⟨?_⟩
   exact⟨m,Zo,W+1,a7 t0,a7 t1,a7 gd,bw,Zo,bJ.trans cg,ch⟩
  ·have cF:(!decide (g=b))=true:=by simp[iR]
   have eS:decide (g=b)=false:=by simp[iR]
   rw[eS,Bool.false_and]at ch
   rw[cF]
   refine cK ⟨?_⟩
   exact⟨⟨W,rfl,by rw[ch];simp⟩,bJ.trans cg⟩
def aot(aw:du X){b:de}{k:List de}{aW:D}{c:Nat}(aE:(o X).a2<=j)(aA:c<j)(iy:aO X h (.ptr c 0)=some aW)(a6:Ac X h P aW (b::k))(bE:∀e,P e->e<j):
 aY X 80 [aW, .func (.func 234) [] [.ptr c 0]] h j (λac T an=>ac= .bool (!rB (b::k))/\bo X h j T an) (λ_ _ _=>False):=by
 refine zx aw (amt X) ?_
 rw[amu]
 unfold aaE
 refine(avA aw aE aA iy a6 bE).Zm ?_
 rintro ac T aU ⟨⟨q,rfl,aD⟩,bT⟩
 refine cK ⟨?_⟩
 exact⟨by rw[aD],bT⟩
def IA(aw:du X){b:de}{k:List de}{aW:D}(aE:(o X).a2<=j)(jF:aW.cells=[aW])(a6:Ac X h P aW (b::k))(bE:∀e,P e->e<j):
 aY X 211 [aW] h j (λac T an=>ac= .bool (rB (b::k))/\bo X h j T an) (λ_ _ _=>False):=by
 refine zx aw (ale X) ?_
 rw[alf]
 unfold ν
 refine s6 ?_
 rw[jF]
 generalize dZ:bn X h j _=aP
 have b3:aO X aP (.ptr j 0)=some aW:=by rw[<-dZ,bO (bg aE)];rfl
 have bN:bo X h j aP (j+1):=by rw[<-dZ];exact dM
 clear dZ
 have aD:=λe (z:P e)=>bN.ab e (bE e z)
 refine ci @b3 ⟨?_⟩
 refine(aot aw Zo Zo b3 (a6.ab (bm:=P) aD (λ_ a=>a)) (λe z=>zq (bE e z))).Zm ?_
 rintro ac aM a1 ⟨rfl,bJ⟩
 refine cK ⟨?_⟩
 exact⟨Zs,bN.trans bJ⟩
def L1(aw:du X){t:bi->Option ej}{b5:Nat}{cZ:D}(aE:(o X).a2<=j)(kW:b5<j)(aA:aO X h (.ptr b5 2)=some cZ)(a6:s2 X h P cZ t)(bE:∀e,P e->e<j)(w:bi):
 aY X 129 [.ptr b5 0, .str w] h j (λac T an=>ac= .agg (ed (od t w))/\bo X h j T an) (λ_ _ _=>False):=by
 refine zx aw (ajs X) ?_
 rw[ajt]
 unfold Xn
 refine pq ?_
 generalize dZ:bn X h j _=aP
 have b3:Y X aP j=zu [.zF, .zF, .Z 0] 3:=by rw[<-dZ,bg aE];rfl
 have bN:bo X h j aP (j+1):=by rw[<-dZ];exact dM
 clear dZ
 have aD:=λe (z:P e)=>bN.ab e (bE e z)
 have uJ:aO X aP (.ptr b5 2)=some cZ:=zB (bN.ab b5 kW) aA
 refine ci @uJ ⟨?_⟩
 refine(NZ aw Zo (a6.ab (bm:=P) aD (λ_ a=>a)) (λe z=>zq (bE e z)) w).Zm ?_
 rintro ac aM a1 ⟨rfl,bJ⟩
 have f7:=bJ.le
 unfold od
 generalize (t w).getD vh=v at*
 have tD:p8 v=[.Z v.kind, .str v.d.name, .Z v.d.at_, .bool v.d.ty.b, .bool v.d.ty.s, .Z v.d.ty.w, .str v.d.on, .Z v.d.fL, .bool v.d.no, .Z v.eq, .Z v.left]:=rfl
 rw[tD]
 have b7:Y X aM j=zu [.zF, .zF, .Z 0] 3:=by rw[bJ.ab _ Zo];exact b3
 have jk:=bN.trans bJ
 refine cK ⟨?_⟩
 generalize e9:bn X _ a1 _=aX
 have cS:Y X aX a1=zu [.Z v.kind, .str v.d.name, .Z v.d.at_, .bool v.d.ty.b, .bool v.d.ty.s, .Z v.d.ty.w, .str v.d.on, .Z v.d.fL, .bool v.d.no, .Z v.eq, .Z v.left] 11:=by rw[<-e9,bg Zo];rfl
 have d9:Y X aX j=zu [.zF, .zF, .Z 0] 3:=by rw[<-e9];simp(disch:=omega) only[aI];exact b7
 have cg:bo X h j aX (a1+1):=⟨Zo,λe z=>by rw[<-e9];simp(disch:=omega) only[aI];exact jk.ab e z⟩
 clear e9
 have az:d8 X aX 3 (.ptr a1 3)=some (.agg (ed v.d.ty)):=Ib cS rfl
 refine ci @az ⟨?_⟩
 generalize eH:bn X _ j _=bC
 have OU:d8 X bC 3 (.ptr j 0)=some (.agg (ed v.d.ty)):=by rw[<-eH];exact Ib (bg aE) rfl
 have dv:bo X h j bC (a1+1):=⟨Zo,λe z=>by rw[<-eH];simp(disch:=omega) only[aI];exact cg.ab e z⟩
 clear eH
 refine ci @OU ⟨?_⟩
 exact⟨rfl,dv⟩
def J8(aw:du X)(aE:(o X).a2<=j)(F:Int){ak:bI}:
 aY X 130 [.Z F] h j ak (λac T an=>ac=pw 26 F/\bo X h j T an):=by
 refine zx aw (aju X) ?_
 rw[ajv]
 unfold Xo
 refine cK ⟨?_⟩
 exact⟨⟨rfl,dM⟩⟩
end
section
variable{X:cb}{h T aP aM:K ag}{j an aG a1:Nat}{P:Nat->Prop}
def nh(k:List de):List (List D):=k.map ed
def I4(k:List de):∀r∈nh k,r.length=3:=by
 intro r V
 obtain⟨t,_,rfl⟩:=ZE.1 V
 rfl
def Wz(k:List de):(nh k).flatten.length=k.length*3:=by
 rw[x1 (I4 k)];simp[nh]
def ax9(t:de):jH (ed t)=true:=rfl
def WA{s:D}{k:List de}{cJ:List Nat}{t:de}{cp:Nat}{st:ox}(a:gB X h s 3 (nh k).flatten cJ)(aj:Y X h cp=some (.cells (K.ofList (ed t) 0 .nil) 3 st))(bp:k.length<=300000)(aE:(o X).a2<=j)(c2:∀e∈cJ,e<j)(cap:Nat):
 ∃fk T gC,kG X h j 3 s (.slice cp 0 1 cap)=some (.fs fk T (j+1))/\gB X T fk 3 (nh (k++[t])).flatten gC/\(∀e∈gC,e=j\/e∈cJ)/\∀e,e≠j->e∉cJ->Y X T e=Y X h e:=by
 have f6:=Wz k
 obtain⟨fk,T,gC,I,J,am,aB⟩:=a.append (j:=j) Zd (sD (q:=1) aj (n8 _) rfl cap) rfl Zd (ax9 t) (by rw[f6];simp[ed];omega) aE c2
 refine⟨fk,T,gC,I, .inl ?_,am,aB⟩
 have:(nh (k++[t])).flatten=(nh k).flatten++ed t:=by simp[nh]
 rw[this];exact J
def ah3(aw:du X){ds:List fo}{aW:D}{b:Nat}(aE:(o X).a2<=j)(cA:dD X h P b aW 8 (ds.map eT))(bE:∀e,P e->e<j)(bp:ds.length<=100000):
 aY X 235 [aW] h j (λac T an=>(ac.cells=[ac]/\kE X T (cQ j an) ac (ds.map (·.ty)))/\bo X h j T an) (λ_ _ _=>False):=by
 refine zx aw (alH X) ?_
 rw[alI]
 unfold aac
 have d5:=cA.len
 rw[Zn]at d5
 refine ci @d5 ⟨?_⟩
 refine fK (λm H T aU=>∃(W:Nat) (s:D) (cJ:List Nat),H.g 3=some s/\H.g 6=some aW/\H.g 7=some (.Z (ds.length:Int))/\H.g 8=some (.Z (W:Int))/\W+m=ds.length/\bo X h j T aU/\gB X T s 3 (nh ((ds.take W).map (·.ty))).flatten cJ/\∀e∈cJ,j<=e/\e<aU)
  ds.length ⟨0, .aV,[],bw,bw,bw,fW,Zo,bo.refl _ _, .inl (.inl ⟨rfl,rfl,rfl⟩),Zs⟩ ?_
 rintro m H aM a1 ⟨W,s,cJ,t3,fU,gd,hb,bK,bJ,aF,fd⟩
 have f7:=bJ.le
 cases m with
 |zero=>
  have d:=zr W ds.length
  rw[Zx Zo]at aF
  refine gx @hb @gd @d @t3 ⟨?_⟩
  obtain⟨bF,cn,eU⟩:=gB.one aF
  obtain⟨dO,cz⟩:=aF.tT (P:=cQ j a1) Zd (I4 _) (by simp[nh];omega) fd
  exact⟨⟨bF,dO,cz⟩,bJ⟩
 |succ m=>
  have d:=zs W ds.length
  have bF:=zv W
  obtain⟨g,bU⟩:=zt ds W
  have aD:=λe (z:P e)=>bJ.ab e (bE e z)
  have dS:=cA.f3 W (by rw[Zn];omega)
  have ic:=(cA.ab aD).row Zd (i:=W) (r:=eT g) (by rw[Zy,bU];rfl)
  have kc:ds.take (W+1)=ds.take W++[g]:=by rw[ZY,bU];rfl
  refine iM @hb @gd @fU @d @dS @ic ⟨?_⟩
  generalize e9:bn X _ a1 _=aX
  have cS:Y X aX a1=zu (eT g) 8:=by rw[<-e9,bg Zo];rfl
  have cP:∀e,e<a1->Y X aX e=Y X aM e:=λe z=>by rw[<-e9];exact zw
  clear e9
  have az:d8 X aX 3 (.ptr a1 2)=some (.agg (ed g.ty)):=Ib cS rfl
  refine et @t3 @az ed.eq_1 ⟨?_⟩
  generalize eH:bn X aX _ _=bC
  have eh:Y X bC (a1+1)=zu (ed g.ty) 3:=by rw[<-eH,bg Zo];rfl
  have d0:∀e,e<a1->Y X bC e=Y X aM e:=λe z=>by rw[<-eH,aI Zo Zo];exact cP e z
  clear eH
  obtain⟨fk,bW,gC,ix,A5,vW,md⟩:=WA (j:=a1+1+1) (aF.ab (T:=bC) (λe z=>d0 e (fd e z).2)) eh (by rw[Zn,zf];omega) Zo (λe z=>zq (fd e z)) 1
  refine kN ix ?_
  refine cT @hb @bF ⟨?_⟩
  refine⟨m,Zo,W+1,fk,gC,bw,a7 fU,a7 gd,bw,Zo,⟨Zo,λe z=> ?_⟩, ?_,λe z=> ?_⟩
  ·rw[md e Zo (λa=>zq (fd e a)),d0 e Zo];exact bJ.ab e z
  ·rw[kc,Yi];exact A5
  ·rcases vW e z with rfl|a
   ·omega
   ·have:=fd e a;omega
end
end
end Go.Proofs.YtpfajohmofnkfaaGreatDoor

namespace Go.Proofs.YtpfajohmofnkfaaGreatDoor
open Go.bd
noncomputable section
variable (X : cb) (h : K ag) (j : Nat) (ak av : bI) (a0 ba cj a3 a4 a5 hy h3 h4 : D)
def aaq(a:aL)(b c:D)(d:K ag)(e:Nat)(f _:bI):Prop:=
 ax (gy b) λg=>ax (gy c) λh=>ax (bq .neq g h) λg=>bB (λb c d=>eQ b λe=>je e (λ_ a b=>f .zT a b) λe g=>fF (λb c d e=>hJ c 13 12 λh=>bB (λc d e=>bB (λa c d=>gU a 13 λe=>b (aa a 13 e) c d) λb=>cL (c 13) λg=>fb (e+9) λe=>eQ c λh=>ax (gv 3 h g) λh=>it a d h λh=>sL c λi=>ax (gv 3 i g) λi=>WR a d i h λa=>bB b λb=>aZ a (f .zF d e) (b (zy c 5 g 24 a) d e)) λa=>aZ h (a (aa c 14 h) d e) (g (aa c 14 h) d e)) (zy b 12 e 13 (.Z 0)) c d) λa=>aZ g (f .zF d e) (a (zy (cO [b,c]) 4 .zF 10 g) d e)
def ama:dg X 47 [a0,ba] h j ak av=aaq X a0 ba h j ak av:=Zk
def al9:cW X 47 2=true:=Zk
end
end Go.Proofs.YtpfajohmofnkfaaGreatDoor

namespace Go.Proofs.YtpfajohmofnkfaaGreatDoor
open Go.bd Go.aR
noncomputable section
section
variable{X:cb}{h T aP aM:K ag}{j an aG a1:Nat}{P:Nat->Prop}
def aci(aw:du X){A bh:List de}{lR rG:D}(aE:(o X).a2<=j)(aC:kE X h P lR A)(aj:kE X h P rG bh)(bE:∀e,P e->e<j):
 aY X 47 [lR,rG] h j (λac T an=>ac= .bool (decide (A=bh))/\bo X h j T an) (λ_ _ _=>False):=by
 refine zx aw (al9 X) ?_
 rw[ama]
 unfold aaq
 obtain⟨bQ,Pa⟩:=aC
 obtain⟨cf,Lc⟩:=aj
 have KW:=Pa.len
 have wd:=Lc.len
 have atB:=Pa.many
 rw[Zn]at KW wd atB
 by_cases az:A.length=bh.length
 ·have d:decide ((A.length:Int)≠(bh.length:Int))=false:=by simp[az]
  refine et @KW @wd @d ⟨?_⟩
  refine fK (λm H T aU=>∃(W:Nat),H.g 0=some lR/\H.g 1=some rG/\H.g 12=some (.Z (A.length:Int))/\H.g 13=some (.Z (W:Int))/\W+m=A.length/\bo X h j T aU/\decide (A=bh)=decide (A.drop W=bh.drop W))
   A.length ⟨0,bw,bw,bw,fW,Zo,bo.refl _ _,rfl⟩ ?_
  rintro m H aM a1 ⟨W,t0,t1,rH,jt,bK,bJ,ch⟩
  have f7:=bJ.le
  cases m with
  |zero=>
   have d:=zr W A.length
   rw[ZH Zo,ZH Zo]at ch
   refine et @rH @jt @d ⟨?_⟩
   exact⟨by rw[ch];rfl,bJ⟩
  |succ m=>
   have d:=zs W A.length
   have bF:=zv W
   obtain⟨g,bU⟩:=zt A W
   obtain⟨a,gH⟩:=zt bh W
   have Cz:A.drop W=g::A.drop (W+1):=by
    obtain⟨af,z⟩:=Zc.1 bU
    rw[Zv af,z]
   have mv:bh.drop W=a::bh.drop (W+1):=by
    obtain⟨af,z⟩:=Zc.1 gH
    rw[Zv af,z]
   have aD:=λe (z:P e)=>bJ.ab e (bE e z)
   have dS:=Pa.f3 W (by rw[Zn];omega)
   have pD:=Lc.f3 W (by rw[Zn];omega)
   have ic:=(Pa.ab aD).row Zd (i:=W) (r:=ed g) (by rw[Zy,bU];rfl)
   have Lf:=(Lc.ab aD).row Zd (i:=W) (r:=ed a) (by rw[Zy,gH];rfl)
   rw[Cz,mv]at ch
   have Iw:=ags (X:=X) (h:=aM) g a
   refine eF @t0 @t1 @rH @jt @d @dS (Za @pD (Za @ic (Za @Lf @Iw))) ⟨?_⟩
   by_cases TT:g=a
   ·subst TT
    have cF:(!decide (g=g))=false:=by simp
    rw[cF]
    refine cT @jt @bF ⟨?_⟩
    exact⟨m,Zo,W+1,a7 t0,a7 t1,a7 rH,bw,Zo,bJ.more Zo,by rw[ch];simp⟩
   ·have cF:(!decide (g=a))=true:=by simp[TT]
    rw[cF]
    refine cK ⟨?_⟩
    exact⟨by rw[ch];simp[TT],bJ.more Zo⟩
 ·have d:decide ((A.length:Int)≠(bh.length:Int))=true:=by simp only[Zh];omega
  have c8:A≠bh:=λE=>az (by rw[E])
  refine et @KW @wd @d ⟨?_⟩
  exact⟨by simp[c8],bo.refl _ _⟩
def azK(aw:du X)(aE:(o X).a2<=j)(t:de)(b:Bool):
 iz X (.func (.func 210) [] []) [.agg (ed t), .bool b] h j (λac T an=>∃w,ac= .tuple [w, .bool b]/\w.cells=[w]/\kE X T (cQ j an) w [t]/\bo X h j T an) (λ_ _ _=>False):=by
 refine CU ?_
 show aY X 210 [.agg (ed t), .bool b] h j _ _
 refine zx aw (alc X) ?_
 rw[ald]
 unfold μ
 refine s6 ?_
 generalize dZ:bn X h j _=aP
 have b3:d8 X aP 3 (.ptr j 0)=some (.agg (ed t)):=by rw[<-dZ];exact Ib (bg aE) (by cases t;rfl)
 have bN:bo X h j aP (j+1):=by rw[<-dZ];exact dM
 clear dZ
 refine cT @b3 ed.eq_1 ⟨?_⟩
 generalize dI:bn X aP _ _=aM
 have b7:Y X aM (j+1)=zu [ed t].flatten (1*3):=by rw[<-dI,bg Zo];rfl
 have bJ:bo X h j aM (j+1+1):=⟨Zo,λe z=>by rw[<-dI,aI Zo Zo];exact bN.ab e z⟩
 exact⟨_,rfl,rfl,⟨j+1,FG (br:=[ed t]) b7 rfl (by simp[ed]) Zo ⟨Zo,Zo⟩⟩,bJ⟩
structure Gd(X:cb)(h:K ag)(b5:Nat)(Dw p cZ:D):Prop where
 d3:aO X h (.ptr b5 0)=some Dw
 db:aO X h (.ptr b5 1)=some p
 dx:aO X h (.ptr b5 2)=some cZ
def Gd.ab{b5:Nat}{Dw p cZ:D}(a:Gd X h b5 Dw p cZ)(q:Y X T b5=Y X h b5):Gd X T b5 Dw p cZ:=by
 have az:∀U,aO X T (.ptr b5 U)=aO X h (.ptr b5 U):=λU=>by rw[co,co,q]
 exact⟨by rw[az];exact a.d3,by rw[az];exact a.db,by rw[az];exact a.dx⟩
def ap2{nm:bi}:∀(ai:List Go.aR.Node) (q W:Nat),x0 nm q ai=some W->W<q+ai.length:=by
 intro ai
 induction ai with
 |nil=>intro q W a;cases a
 |cons g ai al=>
  intro q W a
  unfold x0 at a
  split at a
  ·cases a;simp
  ·have:=al _ _ a;simp;omega
def ap4{ai:List Go.aR.Node}{nm:bi}(aS:ai≠[]):(nv ai nm).getD 0<ai.length:=by
 have:0<ai.length:=YO.2 aS
 cases a:nv ai nm with
 |none=>exact this
 |some W=>have:=ap2 ai 0 W a;simpa using this
def an4(aw:du X){ai:List Go.aR.Node}{b5:Nat}{Dw p cZ:D}(aE:(o X).a2<=j)(kW:b5<j)(aA:Gd X h b5 Dw p cZ)(bU:nQ X h P ai p)(aS:ai≠[])(bE:∀e,P e->e<j)(bp:∀g∈ai,g.ez.length<=100000/\g.out.length<=100000)
 {E:be}{v:D}(bs:cy X h P E v){F:List de}{aW:D}(aC:kE X h P aW F):
 aY X 212 [.ptr b5 0,v,aW] h j (λac T an=>∃w,ac= .tuple [w, .bool (Ak ai E.name F).2]/\w.cells=[w]/\kE X T (cQ j an) w (Ak ai E.name F).1/\bo X h j T an) (λ_ _ _=>False):=by
 refine zx aw (alg X) ?_
 rw[alh]
 unfold ξ
 obtain⟨cR,_,_,_,rfl,adV,_,_,apb,_⟩:=bs.open
 have db:=aA.db
 refine cT @db @apb ⟨?_⟩
 refine(Sz (j:=j+14) aw Zo bU (λe z=>zq (bE e z)) E.name).Zm ?_
 rintro ac aP aG ⟨rfl,bN⟩
 have jm:=bN.le
 have kq:=λe (z:P e)=>bN.ab e (zq (bE e z))
 have CD:=ap4 (nm:=E.name) aS
 unfold Ak
 generalize yn:(nv ai E.name).getD 0=q at*
 obtain⟨g,TU⟩:∃g,ai[q]? =some g:=⟨_,Ze CD⟩
 rw[TU]
 obtain⟨oP,my⟩:=bp g (Zj TU)
 obtain⟨iV,Bq,L5,br,rfl,jA,a0,cA,kK⟩:=bU
 have yr:=kK.wide
 obtain⟨row,e3,jD⟩:=kK.get q g TU
 have aeD:=jD.ab (bm:=P) kq (λ_ a=>a)
 have uJ:=(aA.ab (bN.ab b5 Zo)).db
 have Jz:aO X aP (.ptr iV 0)=some Bq:=zB (bN.ab iV (zq (bE iV jA))) a0
 have dS:=cA.f3 q (by rw[yr.1];omega)
 have ic:=(cA.ab kq).row Zd e3
 have fI:=jD.len
 have ys:=aeD.jH
 obtain⟨dj,dG,ahw,eP,bQ,cf,cM,ew,eqs,rfl,wk,jE,_⟩:=aeD
 refine gx @uJ @Jz @dS @ic ⟨?_⟩
 refine fw (hF (q:=6) (b:=aG) (U:=0) (n:=6) (bg Zo) Zo rfl Zd Zd ys) ?_
 refine cK ⟨?_⟩
 show aY X 235 [dG] _ _ _ _
 generalize dI:bn X _ aG _=aM
 have b7:Y X aM aG=zu [.str g.name, .Z g.at_,dj,dG,ahw,eP] 6:=by rw[<-dI,bg Zo];rfl
 have bJ:bo X h j aM (aG+1+12):=⟨Zo,λe z=>by rw[<-dI];simp(disch:=omega) only[aI];exact bN.ab e Zo⟩
 have i6:∀e,P e->Y X aM e=Y X aP e:=λe z=>by rw[bJ.ab e (bE e z),kq e z]
 clear dI
 refine(ah3 aw Zo (jE.ab i6) (λe z=>zq (bE e z)) my).Zm ?_
 rintro BE aX bf ⟨⟨au3,auT⟩,cg⟩
 have ip:=cg.le
 have cS:Y X aX aG=zu [.str g.name, .Z g.at_,dj,dG,ahw,eP] 6:=by rw[cg.ab _ Zo];exact b7
 obtain⟨cG,cw,d9⟩:=k0 wk.len
 refine ci (bO cS) ⟨?_⟩
 refine g2 d9 ?_
 refine CU ?_
 show aY X 235 [dj] _ _ _ _
 have mc:∀e,P e->Y X aX e=Y X aP e:=λe z=>by rw[cg.ab e (zq (bE e z)),i6 e z]
 refine(ah3 aw Zo (wk.ab mc) (λe z=>zq (bE e z)) oP).Zm ?_
 rintro FX bC da ⟨⟨aDT,auU⟩,dv⟩
 have jC:=dv.le
 have gh:∀e,P e->Y X bC e=Y X h e:=λe z=>by rw[dv.ab e (zq (bE e z)),mc e z,kq e z]
 have Ko:=(bJ.trans ((cg.k3 Zo).trans dv))
 refine(aci (P:=λe=>e<da) aw Zo (auU.ab (λ_ _=>rfl) (λe z=>z.2)) (aC.ab gh (λe z=>zq (bE e z))) (λe z=>z)).Zm ?_
 rintro FY bW b4 ⟨rfl,dJ⟩
 have ib:=dJ.le
 refine cK ⟨?_⟩
 refine⟨BE,rfl,au3,auT.ab (λe z=> ?_) (λe z=>⟨zq z.1,zq z.2⟩),Ko.trans dJ⟩
 have:=z.2
 rw[dJ.ab e Zo,dv.ab e Zo]
end
def nX{p:Prop}[Decidable p](a:p):decide p=true:=decide_eq_true a
def nt{p:Prop}[Decidable p](a:¬p):decide p=false:=decide_eq_false a
def NQ(t:de):r6 false 0 1 (.agg (ed t))=some (.bool t.b):=rfl
def sA(t:de):D.same 30 (.agg (ed t)) (.agg (ed t))=true:=by
 obtain⟨F,b,c⟩:=t
 have I:∀x:Bool,D.same 29 (.bool x) (.bool x)=true:=λx=>by cases x<;>rfl
 have J:D.same 29 (.Z c) (.Z c)=true:=by simp only[D.same];simp
 simp only[ed]
 rw[D.same]
 simp only[o3,I,J,Yg]
section
variable{X:cb}{h T aP aM:K ag}{j an aG a1:Nat}{P:Nat->Prop}
def DK(X:cb):Prop:=∀h,d8 X h 3 (.ptr 4 0)=some (.agg (ed I3))
def aaJ(X:cb)(h:K ag)(j:Nat)(r:List de×Bool):bI:=λac T an=>∃w,ac= .tuple [w, .bool r.2]/\w.cells=[w]/\kE X T (cQ j an) w r.1/\bo X h j T an
def pN(aw:du X)(aE:(o X).a2<=j)(bT:bo X h j aP aG){H:de}{bh:Bool}{r:List de×Bool}(V:r=([H],bh)):
 aY X 210 [.agg (ed H), .bool bh] aP aG (λWE Gj axu=>ax (pg 0 WE) λaBB=>ax (pg 1 WE) λaBC=>aaJ X h j r (.tuple [aBB,aBC]) Gj axu) (λ_ _ _=>False):=by
 subst V
 have gq:=bT.le
 have a:=(azK (h:=aP) (j:=aG) aw Zo H bh).out
 refine a.Zm ?_
 rintro ac T aU ⟨w,rfl,bt,a6,bJ⟩
 refine cK ⟨?_⟩
 exact⟨w,rfl,bt,a6.ab (λ_ _=>rfl) (λe z=>⟨zq z.1,z.2⟩),bT.trans bJ⟩
def Ag{E:be}{F:List de}(bt:xF gV E)(kJ:F.length=E.args.length){m:Nat}(a:nq E.kind=some (m+1)):∃b k,F=b::k:=by
 have:=bt.qh _ a
 cases F with
 |nil=>simp at kJ;omega
 |cons b k=>exact⟨b,k,rfl⟩
def aBc{F:List de}{aW:D}{cJ:List Nat}(a:gB X h aW 3 (nh F).flatten cJ)(J:2<=F.length)(bp:F.length<=1000)(az:∀e∈cJ,P e):
 ∃jJ,tZ X h 3 aW (some (.Z 1)) none none=some jJ/\jJ.cells=[jJ]/\Ac X h P jJ F.tail:=by
 have f6:=Wz F
 obtain⟨B6,cA⟩:=a.tT (P:=P) Zd (I4 F) (by simp[nh];omega) az
 have e4:=(show kE X h P aW F from⟨B6,cA⟩).rd
 have dS:∀i t,F.tail[i]? =some t->∃b U,gv 3 aW (.Z ((i+1:Nat):Int))=some (.ptr b U)/\P b/\d8 X h 3 (.ptr b U)=some (.agg (ed t))/\aO X h (.ptr b U)=some (.bool t.b):=
  λi t aN=>e4.f3 (i+1) t (by rw[<-aN];cases F<;>simp)
 have c2:∀i t,F.tail[i]? =some t->i<F.length-1:=λi t aN=>by have:=(Zc.1 aN).1;simpa using this
 have bF:nD (.Z 1)=some 1:=rfl
 rcases a with (⟨_,a,_⟩|⟨b,fv,n,c,rfl,am,rfl,aB,bk,b6,c5⟩)|⟨b,n,c,st,rfl,am,rfl,aB,bk⟩
 ·rw[a]at f6;simp at f6;omega
 ·have aE:n=F.length:=Zo
  subst aE
  have aj:mr F.length ((F.length*3-0)/3) (some (.Z 1)) none none=some (1,F.length,F.length):=by
   have cG:(F.length*3-0)/3=F.length:=Zo
   rw[cG]
   have cw:Nat.ble 1 F.length=true:=ll Zo
   simp only[mr,pS,bF,cw,eX]
  refine⟨.fl b (0+1*3) (F.length-1) 3, ?_,rfl,⟨by rw[rx,List.length_tail],by simp;omega,λi t aN=> ?_⟩⟩
  ·simp only[tZ,yR,b6,aj]
   have cG:(F.length*3-0)/3=F.length:=Zo
   rw[cG]
   have cw:Nat.blt 1 F.length=true:=by simp[Nat.blt];omega
   simp[cw,fA]
  ·obtain⟨bQ,gS,cG,cw,d9,fQ⟩:=dS i t aN
   have my:=c2 i t aN
   rw[H0 _ Zo]at cG
   cases cG
   refine⟨b,0+1*3+i*3,H0 _ my,cw, ?_, ?_⟩
   ·rw[show 0+1*3+i*3=0+(i+1)*3 by omega];exact d9
   ·rw[show 0+1*3+i*3=0+(i+1)*3 by omega];exact fQ
 ·have aE:n=F.length:=Zo
  subst aE
  have aj:mr F.length F.length (some (.Z 1)) none none=some (1,F.length,F.length):=by
   have cw:Nat.ble 1 F.length=true:=ll Zo
   simp only[mr,pS,bF,cw,eX]
  refine⟨.slice b (0+1*3) (F.length-1) (F.length-1), ?_,rfl,⟨by rw[pT,List.length_tail],by simp;omega,λi t aN=> ?_⟩⟩
  ·simp only[tZ,aj]
   have cw:¬F.length=1:=Zo
   simp[cw,hK]
  ·obtain⟨bQ,gS,cG,cw,d9,fQ⟩:=dS i t aN
   have my:=c2 i t aN
   rw[HZ _ Zo]at cG
   cases cG
   refine⟨b,0+1*3+i*3,HZ _ my,cw, ?_, ?_⟩
   ·rw[show 0+1*3+i*3=0+(i+1)*3 by omega];exact d9
   ·rw[show 0+1*3+i*3=0+(i+1)*3 by omega];exact fQ
set_option maxRecDepth 100000 in
def azN(aw:du X)(er:DK X){ai:List Go.aR.Node}{t:bi->Option ej}{b5:Nat}{Dw p cZ:D}(aE:(o X).a2<=j)(kW:b5<j)(aA:Gd X h b5 Dw p cZ)(a6:s2 X h P cZ t)(bU:nQ X h P ai p)(aS:ai≠[])(bE:∀e,P e->e<j)(bp:∀g∈ai,g.ez.length<=100000/\g.out.length<=100000)
 {E:be}{v:D}(bs:cy X h P E v)(bt:xF gV E){F:List de}{aW:D}{cJ:List Nat}(kJ:F.length=E.args.length)(aC:gB X h aW 3 (nh F).flatten cJ)(EN:F.length<=300000)(fd:∀e∈cJ,P e):
 aY X 184 [.ptr b5 0,v,aW] h j (aaJ X h j (iq ai t E F)) (λ_ _ _=>False):=by
 obtain⟨B6,cA⟩:=aC.tT (P:=P) Zd (I4 F) (by simp[nh];omega) fd
 have ae9:kE X h P aW F:=⟨B6,cA⟩
 have e4:=ae9.rd
 obtain⟨jF,_,_⟩:=k0 e4.len
 refine zx aw (akw X) ?_
 rw[akx]
 unfold XY
 obtain⟨cR,_,_,_,rfl,adV,a0,_,cj,_,a4,a5,hy,_⟩:=id bs.open
 have tB:d8 X h 3 (.ptr cR 4)=some (.agg (ed E.ty)):=by rw[rv,a4,a5,hy];rfl
 have bR:=bt.bR
 have cq:=bt.cq
 have adc:=er h
 have ab:∀{T:K ag}{n aU:Nat},bo X h n T aU->j<=n->∀e,P e->Y X T e=Y X h e:=λa aE e z=>a.ab e (zq (bE e z))
 have yA:∀b k,F=b::k->∃cp U,gv 3 aW (.Z 0)=some (.ptr cp U)/\P cp/\d8 X h 3 (.ptr cp U)=some (.agg (ed b))/\aO X h (.ptr cp U)=some (.bool b.b):=λb k a=>e4.f3 0 b (by rw[a];rfl)
 have C3:∀{T:K ag}{n aU cp U:Nat}{b:de},bo X h n T aU->j<=n->P cp->d8 X h 3 (.ptr cp U)=some (.agg (ed b))->aO X h (.ptr cp U)=some (.bool b.b)->d8 X T 3 (.ptr cp U)=some (.agg (ed b))/\aO X T (.ptr cp U)=some (.bool b.b):=
  λa aE ay cG cw=>⟨by rw[sq,ab a aE _ ay, <-sq];exact cG,zB (ab a aE _ ay) cw⟩
 have asE:E.kind=1\/E.kind=2\/(E.kind=3\/E.kind=5)\/(E.kind=4\/E.kind=19\/E.kind=20)\/E.kind=6\/(E.kind=7\/E.kind=8\/E.kind=9\/E.kind=21\/E.kind=22)\/(E.kind=16\/E.kind=17\/E.kind=18)\/(E.kind=10\/E.kind=11)\/(E.kind=12\/E.kind=13\/E.kind=14\/E.kind=15)\/E.kind=23\/E.kind=24\/E.kind=26\/E.kind=25:=Zo
 rcases asE with a|a|a|a|a|a|a|a|a|a|a|a|a
 ·refine gx @a0 @nX @nt @tB ⟨?_⟩
  exact pN aw aE (bo.refl _ _) (by unfold iq;rw[Zu a])
 ·refine gx @a0 @nX @nt @cj ⟨?_⟩
  refine(L1 aw aE kW aA.dx a6 bE E.name).Zm ?_
  rintro ac aM a1 ⟨rfl,bJ⟩
  refine cK ⟨?_⟩
  exact pN aw aE bJ (by unfold iq;rw[Zg Zo,Zu a])
 ·rcases a with a|a
  all_goals
   obtain⟨b,k,rfl⟩:=Ag bt kJ (by rw[a];rfl)
   obtain⟨cp,U,fC,fe,i3,i4⟩:=yA b k rfl
   refine gg @a0 @nX @nt @fC @i3 ⟨?_⟩
   exact pN aw aE (bo.refl _ _) (by simp[iq,a])
 ·rcases a with a|a|a
  all_goals
   obtain⟨b,k,rfl⟩:=Ag bt kJ (by rw[a];rfl)
   obtain⟨cp,U,fC,fe,i3,i4⟩:=yA b k rfl
   refine iM @a0 @nX @nt @fC @i3 @i4 ⟨?_⟩
   exact pN aw aE ((bo.refl _ _).more Zo) (by simp[iq,a])
 ·obtain⟨b,k,rfl⟩:=Ag bt kJ (by rw[a];rfl)
  obtain⟨cp,U,fC,fe,i3,i4⟩:=yA b k rfl
  refine iM @a0 @nX @nt @fC @i3 @cj ⟨?_⟩
  refine(L1 (j:=j+16) aw Zo Zo aA.dx a6 (λe z=>zq (bE e z)) E.name).Zm ?_
  rintro ac aM a1 ⟨rfl,bJ⟩
  obtain⟨sm,Bf⟩:=C3 bJ Zo fe i3 i4
  refine cT @NQ @sm ⟨?_⟩
  refine g2 (sA b) ?_
  refine cK ⟨?_⟩
  exact pN aw aE (bJ.k3 Zo) (by simp[iq,a])
 ·rcases a with a|a|a|a|a
  all_goals
   obtain⟨b,k,rfl⟩:=Ag bt kJ (by rw[a];rfl)
   obtain⟨cp,U,fC,fe,i3,i4⟩:=yA b k rfl
   refine gg @a0 @nX @nt @fC @i3 ⟨?_⟩
   refine(IA (j:=j+11) aw Zo jF e4 (λe z=>zq (bE e z))).Zm ?_
   rintro ac aM a1 ⟨rfl,bJ⟩
   obtain⟨sm,Bf⟩:=C3 bJ Zo fe i3 i4
   refine ci @sm ⟨?_⟩
   refine g2 (sA b) ?_
   refine cK ⟨?_⟩
   exact pN aw aE (bJ.k3 Zo) (by simp[iq,a])
 ·rcases a with a|a|a
  all_goals
   obtain⟨b,k,rfl⟩:=Ag bt kJ (by rw[a];rfl)
   obtain⟨cp,U,fC,fe,i3,i4⟩:=yA b k rfl
   refine gg @a0 @nX @nt @fC @i3 ⟨?_⟩
   refine(IA (j:=j+18) aw Zo jF e4 (λe z=>zq (bE e z))).Zm ?_
   rintro ac aM a1 ⟨rfl,bJ⟩
   obtain⟨sm,Bf⟩:=C3 bJ Zo fe i3 i4
   cases aj:rB (b::k)
   ·refine ci @sm ⟨?_⟩
    refine g2 (sA b) ?_
    refine cK ⟨?_⟩
    exact pN aw aE (bJ.k3 Zo) (by simp[iq,a,aj])
   ·refine et @fC @sm @Bf ⟨?_⟩
    refine g2 (sA b) ?_
    refine cK ⟨?_⟩
    exact pN aw aE (bJ.k3 Zo) (by simp[iq,a,aj])
 ·rcases a with a|a
  all_goals
   obtain⟨b,k,rfl⟩:=Ag bt kJ (by rw[a];rfl)
   obtain⟨cp,U,fC,fe,i3,i4⟩:=yA b k rfl
   refine gx @a0 @nX @nt @adc ⟨?_⟩
   refine(IA (j:=j+9) aw Zo jF e4 (λe z=>zq (bE e z))).Zm ?_
   rintro ac aM a1 ⟨rfl,bJ⟩
   obtain⟨sm,Bf⟩:=C3 bJ Zo fe i3 i4
   have Ob:=er aM
   refine ci @Ob ⟨?_⟩
   refine g2 (sA I3) ?_
   refine cK ⟨?_⟩
   exact pN aw aE (bJ.k3 Zo) (by simp[iq,a])
 ·rcases a with a|a|a|a
  all_goals
   obtain⟨b,k,rfl⟩:=Ag bt kJ (by rw[a];rfl)
   obtain⟨cp,U,fC,fe,i3,i4⟩:=yA b k rfl
   refine gx @a0 @nX @nt @adc ⟨?_⟩
   refine(IA (j:=j+16) aw Zo jF e4 (λe z=>zq (bE e z))).Zm ?_
   rintro ac aM a1 ⟨rfl,bJ⟩
   obtain⟨sm,Bf⟩:=C3 bJ Zo fe i3 i4
   have Ob:=er aM
   cases aj:rB (b::k)
   ·refine ci @Ob ⟨?_⟩
    refine g2 (sA I3) ?_
    refine cK ⟨?_⟩
    exact pN aw aE (bJ.k3 Zo) (by simp[iq,a,aj])
   ·refine et @fC @Bf @Ob ⟨?_⟩
    refine g2 (sA I3) ?_
    refine cK ⟨?_⟩
    exact pN aw aE (bJ.k3 Zo) (by simp[iq,a,aj])
 ·obtain⟨bM,bQ,cf,rfl⟩:∃bM bQ cf,F=[bM,bQ,cf]:=by
   have am:F.length=3:=kJ.trans (bt.qh 3 (by rw[a];rfl))
   match F,am with
   |[x,e,bz],_=>exact⟨x,e,bz,rfl⟩
  obtain⟨cp,U,fC,fe,i3,i4⟩:=yA bM [bQ,cf] rfl
  obtain⟨xQ,ayk,cG,cw,d9,fQ⟩:=e4.f3 1 bQ rfl
  have cG:gv 3 aW (.Z 1)=some (.ptr xQ ayk):=cG
  obtain⟨jJ,jr,k9,Mg⟩:=aBc aC Zs Zs fd
  cases aj:bM.b
  ·rw[aj]at i4
   refine eF @a0 @nX @nt @fC @cG @d9 @i4 ⟨?_⟩
   refine g2 (sA bQ) ?_
   refine cK ⟨?_⟩
   exact pN aw aE ((bo.refl _ _).more Zo) (by simp[iq,a,aj])
  ·rw[aj]at i4
   refine eF @a0 @nX @nt @fC @cG @d9 (Za @i4 @jr) ⟨?_⟩
   refine(IA (j:=j+18) (b:=bQ) (k:=[cf]) aw Zo k9 Mg (λe z=>zq (bE e z))).Zm ?_
   rintro ac aM a1 ⟨rfl,bJ⟩
   obtain⟨sm,Bf⟩:=C3 bJ Zo cw d9 fQ
   refine ci @sm ⟨?_⟩
   refine g2 (sA bQ) ?_
   refine cK ⟨?_⟩
   exact pN aw aE (bJ.k3 Zo) (by simp[iq,a,aj])
 ·obtain⟨b,k,rfl⟩:=Ag bt kJ (by rw[a];rfl)
  obtain⟨cp,U,fC,fe,i3,i4⟩:=yA b k rfl
  refine gg @a0 @nX @nt @fC @i3 ⟨?_⟩
  refine(IA (j:=j+20) aw Zo jF e4 (λe z=>zq (bE e z))).Zm ?_
  rintro ac aM a1 ⟨rfl,bJ⟩
  obtain⟨sm,Bf⟩:=C3 bJ Zo fe i3 i4
  cases aj:rB (b::k)
  ·refine ci @sm ⟨?_⟩
   refine g2 (sA b) ?_
   refine ci @sm ⟨?_⟩
   refine g2 (sA b) ?_
   refine cK ⟨?_⟩
   exact pN aw aE (bJ.k3 Zo) (by simp[iq,a,aj])
  ·have amP:aO X aM (.ptr cR 2)=some (.str E.name):=zB (ab bJ Zo cR adV) cj
   have f7:=bJ.le
   refine cT @amP @sm ⟨?_⟩
   refine g2 (sA b) ?_
   refine cK ⟨?_⟩
   refine(L1 (j:=a1) aw Zo Zo (aA.ab (bJ.ab b5 Zo)).dx (a6.ab (bm:=P) (ab bJ Zo) (λ_ a=>a)) (λe z=>zq (bE e z)) E.name).Zm ?_
   rintro ac aX bf ⟨rfl,cg⟩
   have G7:=bJ.trans cg
   obtain⟨e6,fq⟩:=C3 G7 Zo fe i3 i4
   refine cT @NQ @e6 ⟨?_⟩
   refine g2 (sA b) ?_
   refine cK ⟨?_⟩
   exact pN aw aE (G7.k3 Zo) (by simp[iq,a,aj])
 ·obtain⟨b,k,rfl⟩:=Ag bt kJ (by rw[a];rfl)
  obtain⟨cp,U,fC,fe,i3,i4⟩:=yA b k rfl
  cases aj:E.ty.b
  ·rw[aj]at a4
   refine gg @a0 @nX @nt @tB @a4 ⟨?_⟩
   exact pN aw aE ((bo.refl _ _).more Zo) (by simp[iq,a,aj])
  ·rw[aj]at a4
   refine eF @a0 @nX @nt @tB @a4 @fC @i4 ⟨?_⟩
   exact pN aw aE ((bo.refl _ _).more Zo) (by simp[iq,a,aj])
 ·have V:iq ai t E F=Ak ai E.name F:=by simp[iq,a]
  rw[V]
  refine et @a0 @nX @nt ⟨?_⟩
  refine(an4 aw aE kW aA bU aS bE bp bs ae9).Zm ?_
  rintro ac aM a1 ⟨w,rfl,I,J,am⟩
  refine cK ⟨?_⟩
  exact⟨w,rfl,I,J,am⟩
end
def Ef(E:Nat×D×Nat):D×D×Nat:=(.ptr E.1 0,E.2.1,E.2.2)
mutual
def D5:be->Nat
 | .mk _ _ _ _ _ _ args=>up args+1
def up:List be->Nat
 |[]=>0
 |E::k=>D5 E+up k
end
def aol(E:be):D5 E=up E.args+1:=by cases E;rw[D5];rfl
def aom:up []=0:=by rw[up]
def abD(E:be):∀k:List be,up (k++[E])=up k+D5 E:=by
 intro k
 induction k with
 |nil=>simp[up]
 |cons F k al=>rw[YC,up,up,al];omega
section
variable{X:cb}{h T aP aM:K ag}{j an aG a1:Nat}
def kj(X:cb)(h:K ag)(P:Nat->Prop)(r:Nat)(cE:Nat->Option D):Prop:=∃dn eR,Y X h r=some (.map (dn.map Ef) eR)/\(∀w,ry dn w=cE w)/\∀x∈dn,P x.1/\kR X h x.1
variable{P:Nat->Prop}
def kj.ab{r:Nat}{cE:Nat->Option D}(a:kj X h P r cE)(U1:Y X T r=Y X h r)(q:∀e,P e->Y X T e=Y X h e):kj X T P r cE:=by
 obtain⟨dn,eR,I,J,am⟩:=a
 exact⟨dn,eR,by rw[U1];exact I,J,λx af=>⟨(am x af).1,(am x af).2.ab (q _ (am x af).1)⟩⟩
def P0(b:Nat):np X 20 47 (.ptr b 0)=true:=Zk
def apz(b dO:Nat):kl X h 20 47 (.ptr b 0) (.ptr dO 0)=bd.ptrEq X h b 0 dO 0:=Zk
def ayV{b dO:Nat}(a:kR X h b)(cz:kR X h dO)(aE:(o X).a2<=b):bd.ptrEq X h b 0 dO 0=some (decide (b=dO)):=by
 obtain⟨c,n,I,J⟩:=a
 obtain⟨f5,aU,am,aB⟩:=cz
 unfold bd.ptrEq
 rw[hK]
 by_cases E:b=dO
 ·simp[E]
 ·have bQ:Nat.blt 0 n=true:=ll Zo
  have cf:Nat.blt 0 aU=true:=ll Zo
  have cG:IE X h b 0=true:=by simp only[IE,I,kH,ll aE,bQ,Yg]
  have cw:C4 X h dO 0=true:=by simp only[C4,am,cf]
  simp[E,cG,cw,fA]
def NO{b:Nat}(aj:kR X h b)(aE:(o X).a2<=b):∀(dn:List (Nat×D×Nat)) (i:Nat),(∀x∈dn,P x.1/\kR X h x.1)->findKey X h 47 (.ptr b 0) (dn.map Ef) i=some (ma dn b i):=by
 intro dn
 induction dn with
 |nil=>intro i _;rfl
 |cons x dn al=>
  intro i oN
  simp only[ZL,Ef,findKey,apz,ayV aj (oN x (Zq ..)).2 aE,ma]
  by_cases a:b=x.1
  ·have:x.1=b:=a.symm
   simp[this]
  ·have:¬x.1=b:=λE=>a E.symm
   simp only[a,this,Yd,ZA]
   exact al (i+1) (λx af=>oN x (Zt _ af))
def awd(b:Nat):ob 20 (.ptr b 0) (.ptr b 0)=true:=by
 simp[ob]
def aw1{r:Nat}{cE:Nat->Option D}(a:kj X h P r cE){b:Nat}(aj:kR X h b)(aE:(o X).a2<=b)(bz:D)(ok:Bool):
 lO X h 47 bz (.map r) (.ptr b 0) ok=some (match cE b with|some v=>bY ok (.tuple [v, .zT]) v|none=>bY ok (.tuple [bz, .zF]) bz):=by
 obtain⟨dn,eR,I,J,am⟩:=a
 have aB:=J b
 unfold ry at aB
 simp only[lO,I,P0,eX,NO aj aE _ _ am]
 cases bL:ma dn b 0 with
 |none=>rw[bL]at aB;rw[<-aB];rfl
 |some p=>rw[bL]at aB;rw[<-aB];rfl
def axq{r:Nat}{cE:Nat->Option D}(V:(o X).a2<=r)(a:kj X h P r cE){b:Nat}(aj:kR X h b)(ay:P b)(aE:(o X).a2<=b)(v:D):
 ∃T,tL X h j 47 (.map r) (.ptr b 0) v=some (.fs bd.undef T j)/\kj X T P r (λx=>if x=b then some v else cE x)/\∀e,e≠r->Y X T e=Y X h e:=by
 obtain⟨dn,eR,I,J,am⟩:=a
 have aH:kH X r=true:=ll V
 have c8:∀e,kR X h e->e≠r:=λe z E=>by obtain⟨c,n,ah,_⟩:=z;rw[E,I]at ah;cases ah
 have key:∀(N:List (Nat×D×Nat)) (s9:Nat),(∀x∈N,x.1=b\/∃e∈dn,e.1=x.1)->(∀x∈N,P x.1/\kR X (Go.bd.bn X h r (some (.map (N.map Ef) s9))) x.1):=λN s9 i2 x af=>by
  have ah:P x.1/\kR X h x.1:=by
   rcases i2 x af with E|⟨e,z,E⟩
   ·rw[E];exact⟨ay,aj⟩
   ·rw[<-E];exact am e z
  exact⟨ah.1,ah.2.ab (aI V (c8 _ ah.2))⟩
 cases ch:ma dn b 0 with
 |none=>
  refine⟨Go.bd.bn X h r (some (.map ((dn++[(b,v,eR)]).map Ef) (eR+1))), ?_,⟨dn++[(b,v,eR)],eR+1,bg V,λx=> ?_,key _ _ λx af=> ?_⟩,λe z=>aI V z⟩
  ·simp only[tL,I,P0,eX,NO aj aE _ _ am,ch,bd.setObj,aH,eX,hk]
   rw[Yi]
   rfl
  ·rw[af5 _ _ _ _ _ (by unfold ry;rw[ch];rfl),J]
  ·rcases Zz.1 af with af|af
   ·exact .inr ⟨x,af,rfl⟩
   ·rw[Yu]at af;exact .inl (by rw[af])
 |some p=>
  obtain⟨W,v0⟩:=p
  obtain⟨born,ast⟩:=acC b dn W v0 ch
  have atO:(dn.map Ef)[W]? =some (.ptr b 0,v0,born):=by rw[Zy,ast];rfl
  refine⟨Go.bd.bn X h r (some (.map ((dn.set W (b,v,born)).map Ef) eR)), ?_,⟨dn.set W (b,v,born),eR,bg V,λx=> ?_,key _ _ λx af=> ?_⟩,λe z=>aI V z⟩
  ·simp only[tL,I,P0,eX,NO aj aE _ _ am,ch,qG,atO,awd,bd.setObj,aH,eX,hk]
   rw[List.map_set]
   rfl
  ·rw[af6 _ _ _ _ _ _ _ ch,J]
  ·rcases List.mem_or_eq_of_mem_set af with af|af
   ·exact .inr ⟨x,af,rfl⟩
   ·exact .inl (by rw[af])
def pk(X:cb)(h:K ag)(r n:Nat):Prop:=∃bH eR,Y X h r=some (.map bH eR)/\bH.length=n
def pk.ab{r n:Nat}(a:pk X h r n)(q:Y X T r=Y X h r):pk X T r n:=by unfold pk;rw[q];exact a
def axr{r n:Nat}{cE:Nat->Option D}(V:(o X).a2<=r)(a:kj X h P r cE)(i2:pk X h r n){b:Nat}(aj:kR X h b)(aE:(o X).a2<=b)(aS:cE b=none){v:D}(aF:tL X h j 47 (.map r) (.ptr b 0) v=some (.fs bd.undef T j)):pk X T r (n+1):=by
 obtain⟨dn,eR,I,J,am⟩:=a
 obtain⟨bH,s9,b3,b7⟩:=i2
 rw[I]at b3
 cases b3
 have aH:kH X r=true:=ll V
 have aB:=J b
 rw[aS]at aB
 unfold ry at aB
 have ch:ma dn b 0=none:=by
  cases bL:ma dn b 0 with
  |none=>rfl
  |some p=>rw[bL]at aB;cases aB
 simp only[tL,I,P0,eX,NO aj aE _ _ am,ch,bd.setObj,aH,eX,hk,Zf,d6.fs.injEq]at aF
 obtain⟨_,rfl,_⟩:=aF
 exact⟨_,_,bg V,by rw[ZO,b7];rfl⟩
mutual
def lY(X:cb)(h:K ag)(ai:List Go.aR.Node)(t:bi->Option ej)(cE:Nat->Option D)(P c3:Nat->Prop):be->D->Prop
 | .mk q F nm no ty n args,v=>∃b aW cp a8 row w,v= .ptr b 0/\P b/\aO X h (.ptr b 8)=some aW/\dD X h P cp aW 1 (a8.map λv=>[v])/\lJ ai t (.mk q F nm no ty n args)= .ok row/\cE b=some w/\w.cells=[w]/\kE X h c3 w row/\kD X h ai t cE P c3 args a8
def kD(X:cb)(h:K ag)(ai:List Go.aR.Node)(t:bi->Option ej)(cE:Nat->Option D)(P c3:Nat->Prop):List be->List D->Prop
 |[],a8=>a8=[]
 |E::bH,a8=>∃v jc,a8=v::jc/\lY X h ai t cE P c3 E v/\kD X h ai t cE P c3 bH jc
end
mutual
def lY.ab{ai:List Go.aR.Node}{t:bi->Option ej}{cE jb:Nat->Option D}{P c3 nP rY:Nat->Prop}(q:∀e,P e->Y X T e=Y X h e)(tG:∀e,c3 e->Y X T e=Y X h e)(az:∀e,P e->jb e=cE e)(ay:∀e,P e->nP e)(z:∀e,c3 e->rY e):∀(E:be) (v:D),lY X h ai t cE P c3 E v->lY X T ai t jb nP rY E v
 | .mk sn F nm no ty n args,v,a=>by
   rw[lY]at a ⊢
   obtain⟨b,aW,cp,a8,row,w,I,J,am,aB,bk,b6,c5,eb,g5⟩:=a
   exact⟨b,aW,cp,a8,row,w,I,ay b J,zB (q b J) am,(aB.ab q).lift ay,bk,by rw[az b J];exact b6,c5,eb.ab tG z,kD.ab q tG az ay z args a8 g5⟩
def kD.ab{ai:List Go.aR.Node}{t:bi->Option ej}{cE jb:Nat->Option D}{P c3 nP rY:Nat->Prop}(q:∀e,P e->Y X T e=Y X h e)(tG:∀e,c3 e->Y X T e=Y X h e)(az:∀e,P e->jb e=cE e)(ay:∀e,P e->nP e)(z:∀e,c3 e->rY e):∀(bH:List be) (a8:List D),kD X h ai t cE P c3 bH a8->kD X T ai t jb nP rY bH a8
 |[],a8,a=>by rw[kD]at a ⊢;exact a
 |E::bH,a8,a=>by
  rw[kD]at a ⊢
  obtain⟨v,jc,I,J,am⟩:=a
  exact⟨v,jc,I,lY.ab q tG az ay z E v J,kD.ab q tG az ay z bH jc am⟩
end
end
end
end Go.Proofs.YtpfajohmofnkfaaGreatDoor

