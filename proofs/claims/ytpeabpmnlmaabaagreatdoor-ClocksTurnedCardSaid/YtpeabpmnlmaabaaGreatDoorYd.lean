/- Part of the proof of the last text; no conditions -/
import Derived.Test.YtpeabpmnlmaabaaGreatDoorYc
import Derived.ChangeReads
import GoSem.ClaimJoined
import Derived.Lib.Bytealg
import Derived.LaidLaws
set_option maxHeartbeats 8000000
set_option linter.all false
namespace Go.bg
open Go.RowKit (Below)
section
variable{C:aN}{U dh dY:dd}{ae dJ ea:Nat->Prop}{h R:S ag}{j an bx:Nat}{w b5:World}{n aq:Nat}{av:Array Oper}
variable{bq:World}{bJ:Nat}{bX:List Frame}{v:E}{ah:hX}
variable{fn:Nat}{bj:List h8}{aD:Bool}{ro:Option Nat}{cs:List g6}{I:S E}{tmps:Array Value}{bB:List Item}{am:List Frame}{bO aG:Nat}
def aq8{au:List (Nat×E)}:∀(k:List fI),Eg C I au h k=true->∀x∈k,∃b,py x.g au=some b/\(b=true->∃ac,hd x.op C h au I=some ac/\ev au x.i=some ac):=by
 intro k
 induction k with
 |nil=>intro _ x a;simp at a
 |cons F k ah=>
  intro a x af
  simp only[Eg]at a
  split at a
  ·simp at a
  ·rename_i bb
   rcases Zu.1 af with rfl|af
   ·exact⟨false,bb,Zs⟩
   ·exact ah a x af
  ·rename_i bb
   split at a
   ·rename_i ac uz H M
    simp only[Zq]at a
    have:=QS _ _ _ a.1
    subst this
    rcases Zu.1 af with rfl|af
    ·exact⟨true,bb,λ_=>⟨ac,H,M⟩⟩
    ·exact ah a.2 x af
   ·simp at a
def aDM{fO:List qB}{u:Nat}{az:List (gC×fI)}:∃s rest,A9 fO u az=s::rest/\s.vj=uH u fO/\s.WV=F2 u fO/\
 (match az with|[]=>s.fC=none/\rest=[]|e::hO=>s.fC=some e.2/\rest=A9 fO (u+1) hO):=by
 cases az with
 |nil=>exact⟨_,_,rfl,rfl,rfl,rfl,rfl⟩
 |cons e az=>exact⟨_,_,rfl,rfl,rfl,rfl,rfl⟩
def BV{u:Nat}:∀{fO:List qB}{x:fI},x∈uH u fO↔∃k∈fO,k.bO=u/\k.x=x:=by
 intro fO
 induction fO with
 |nil=>intro x;simp[uH]
 |cons F fO ah=>
  intro x
  simp only[uH,ia]
  by_cases a:F.bO=u
  ·simp only[a,ZG,Zu,ah]
   constructor
   ·rintro(rfl|⟨k,H,M,al⟩)
    ·exact⟨F, .inl rfl,a,rfl⟩
    ·exact⟨k, .inr H,M,al⟩
   ·rintro⟨k,rfl|H,M,al⟩
    ·exact .inl al.symm
    ·exact .inr ⟨k,H,M,al⟩
  ·simp only[a,ZB,ah]
   constructor
   ·rintro⟨k,H,M,al⟩;exact⟨k, .tail _ H,M,al⟩
   ·rintro⟨k,H,M,al⟩
    rcases Zu.1 H with rfl|H
    ·exact absurd M a
    ·exact⟨k,H,M,al⟩
def aB0{u:Nat}:∀{fO:List qB}{k:qB},k∈fO->k.bO<u->u<=k.aG->Ds k.x.op=true->k.x∈F2 u fO:=by
 intro fO
 induction fO with
 |nil=>intro k a;simp at a
 |cons F fO ah=>
  intro k az H M al
  simp only[F2,fw]
  rcases Zu.1 az with rfl|az
  ·rw[Zp]
   ·exact Zv ..
   ·have bC:Nat.blt k.bO u=true:=by simp[Nat.blt];omega
    have cu:Nat.ble u k.aG=true:=by simpa using M
    simp[bC,cu,al]
  ·split
   ·exact Zt _ (ah az H M al)
   ·exact ah az H M al
def apL{u:Nat}:∀{fO:List qB},(fO.Pairwise λF b=>F.x.i<b.x.i)->(uH u fO).Pairwise λF b=>F.i≠b.i:=by
 intro fO
 induction fO with
 |nil=>intro _;simp[uH]
 |cons F fO ah=>
  intro a
  rw[List.pairwise_cons]at a
  simp only[uH,ia]
  split
  ·rw[List.pairwise_cons]
   refine⟨λx af=> ?_,ah a.2⟩
   obtain⟨k,H,_,rfl⟩:=BV.1 af
   have:=a.1 k H;omega
  ·exact ah a.2
def ayx(op:ku):oE op=true/\nx op= .fC\/oE op=false/\(nx op= .iD\/nx op= .make):=by
 unfold oE
 cases nx op<;>simp
def azH(cP:Env C bq dY ea)(gF:om C bq bJ bX ah){u:List d0}{base ej:Nat}{au:List (Nat×E)}(ws:bO<=base)(f5:base+av.size<=j)(g0:C.a8<=base){s:xk}{rest:List xk}
 (c8:match (gX C n aq av).drop ej with|[]=>s.fC=none|e::hO=>s.fC=some e.2/\rest=A9 (mu C n aq av) (ej+1) hO)
 (a:(match s.fC with
    |none=>KE (lQ aq av.toList 0) au I λI=>ah .run u ⟨fn,n,aq,bj,aD,ro,cs⟩ I h j
    |some a=>(match py a.g au with
     |none=>none
     |some w=>b0 (w) ((match io a.op C h j au I with
       |some r=>o1 r ah C (.Bv av base au a.i rest (lQ aq av.toList 0)) u ⟨fn,n,aq,bj,aD,ro,cs⟩ I h j
       |none=>none))<|ah .run (.drawn av base ((a.i,undef)::au) rest (lQ aq av.toList 0)::u) ⟨fn,n,aq,bj,aD,ro,cs⟩ I h j))=some v):
 ∀(k:List Nat) (U:dd) (ae:Nat->Prop) (w:World) (tmps:Array Value) (dp:Nat->Prop),jH C bq bJ bX fn aq bj aD ro cs h j U ae w bO am->mj C U ae aq u bB->se C U ae h base n aq av au ej (ej+1) I tmps dp->xj av dp k->
  (∀k∈mu C n aq av,k.bO<ej+1->¬dp k.x.i->∃ac,ev au k.x.i=some ac/\JT C h au I k.x ac)->Ends C bq bJ bX v (lone (cz U fn bj aD ro tmps (.inRegion av k::bB) .run) am w):=by
 intro k
 induction k with
 |nil=>
  intro U ae w tmps dp aE aH aJ aC U4
  cases aC with
  |nil k7=>
   have O2:(gX C n aq av).drop ej=[]:=by
    cases bM:(gX C n aq av).drop ej with
    |nil=>rfl
    |cons e hO=>
     exfalso
     have z:(gX C n aq av)[ej]? =some e:=by
      have:((gX C n aq av).drop ej)[0]? =some e:=by rw[bM];rfl
      rwa[Yi]at this
     have bY:=k7 e.1.i (ara aJ.st (Zl z)).1
     have:=(aJ.done ej e z).1 bY
     omega
   rw[O2]at c8
   simp only at c8
   rw[c8]at a
   simp only[Oe,pp]at a
   split at a
   ·rename_i da it
    refine .head ajw ?_
    have bD:pI U ae aq (λ_=>True) (iS av av.size) au I tmps:=by
     obtain⟨_,fp,kO⟩:=M9 av av.size (Zj _)
     intro t ac _ bc
     apply aJ.Ef t ac
     split at bc
     ·rename_i V bF
      obtain⟨bP,b2,cI⟩:=fp t V bF
      left
      refine⟨V,k7 V bP,b2,λqb Lp tO=> ?_,bc⟩
      rcases zg V qb with c3|Cy
      ·exact absurd tO (cI qb c3 (aJ.x8 qb Lp))
      ·exact Cy
     ·rename_i bF
      exact .inr ⟨λV Lp=>kO t bF V (aJ.x8 V Lp),bc⟩
    exact gF _ _ _ _ _ _ _ _ _ _ _ _ v a U ae w bO tmps bB am (aE.state (.plain aH (adQ bD aJ.size it)))
   ·simp at a
 |cons i k m2=>
  intro U ae w tmps dp aE aH aJ aC U4
  cases aC with
  |cons bi rI mB t6=>
   rename_i T
   have aG:i<av.size:=(ZO.1 bi).1
   obtain⟨p,x,o',g5,gx,z3,z4,z5,DE⟩:=Ab aJ.st i aG
   have awm:o'=T:=by
    have:=z5.oper
    rw[z4,bi]at this
    exact(Yf this).symm
   subst awm
   have PR:=arb aJ.st aJ.closed aJ.x8 aJ.Ef gx bi rI mB
   have Pl:=Ko aJ.closed (Qd gx) (by rw[z3];exact bi) mB
   have aA:=z5
   have bV:=aA.g
   have EX:=aA.op
   have cG:=aA.reads
   rw[z4]at bV EX cG
   have AG:∀k5,Sub k5 au->jY U ae (lG tmps) (jM (iS av i) k5 I) o'.op.operands.toList:=by
    intro k5 AV
    refine adC (X:=λt=>fR p.r t=true) (λt ac bZ bc=>PR t ac bZ ?_) (λt ba=>aBF DE ba) cG aE.ir
    split at bc
    ·exact AV _ _ bc
    ·exact bc
   have UC:∀V b t,o'.guard=some (V,b)->xx V (iS av i)=some t->fR p.r t=true:=by
    intro V b t H M
    rw[DE.r,Hh,z3]
    have:fR (Oz (iS av i) o'.guard) t=true:=by
     rw[H]
     simp only[Oz,M]
     rw[NH];simp
    rw[this];simp
   have kR:∀(dh:dd) (ac:Value),(cz dh fn bj aD ro tmps (.inRegion av (i::k)::bB) .run).finish ac=cz dh fn bj aD ro (q4 tmps o'.dst ac) (.inRegion av k::bB) .run:=by
    intro dh ac
    rw[Og (g:=cz dh fn bj aD ro tmps _ .run) rfl bi];rfl
   rcases ayx x.op with ⟨gL,pY⟩|⟨gL,pY⟩
   ·
    have sH:(p,x)∈gX C n aq av:=by rw[NV];exact YM.2 ⟨Zl g5,gL⟩
    obtain⟨ak,bM⟩:=Z2.1 sH
    have awD:ak=ej:=by
     rcases YV ak ej with c3|D|gv
     ·exact absurd ((aJ.done ak _ bM).2 c3) (by simpa only[z3]using rI)
     ·exact D
     ·exfalso
      have eM:ak-1<(gX C n aq av).length:=zz (Zb.1 bM).1
      have agq:(gX C n aq av)[ak-1]? =some ((gX C n aq av)[ak-1]):=Ze eM
      have OX:=aJ.st.chain
      rw[Ol]at OX
      have aj:=au3 OX (ak-1) ((gX C n aq av)[ak-1]).1 p (by rw[Zy,agq];rfl) (by rw[show ak-1+1=ak by omega,Zy,bM];rfl)
      have bY:=Pl _ aj
      have:=(aJ.done (ak-1) _ agq).1 bY
      omega
    subst awD
    have O2:(gX C n aq av).drop ak=(p,x)::(gX C n aq av).drop (ak+1):=by
     have c3:=(Zb.1 bM).1
     rw[Zr c3,(Zb.1 bM).2]
    rw[O2]at c8
    simp only at c8
    obtain⟨lu,p3⟩:=c8
    rw[lu]at a
    simp only at a
    have z:av[((p,x):gC×fI).1.i]? =some o':=by simp only[z3];exact bi
    split at a
    ·simp at a
    ·rename_i XO km
     have ub:=Rf (zr aG) bV PR UC (Sub.refl au) km
     have af3:¬dp ((p,x):gC×fI).1.i:=by simpa only[z3]using rI
     have axy:x.i=((p,x):gC×fI).1.i:=by simp only[z3,z4]
     cases XO with
     |false=>
      simp only[lo]at a
      refine .head (Xn bi ub) ?_
      rw[kR]
      rw[axy,p3]at a
      have:=aJ.fC bM z af3 mB (v:=undef) trivial aA.dst
      exact gF _ _ _ _ _ _ _ _ _ _ _ _ v a U ae w bO _ _ am (aE.state (.drawn aH ws f5 this (by simp only[z3];exact t6)))
     |true=>
      simp only[fo]at a
      split at a
      ·rename_i r Y
       have mX:=afi aE.Y aE.ez cP.k0 (AG au (Sub.refl au)) EX Y
       have LP:ng C U ae h bO j n aq I tmps (.Bv av base au x.i rest (lQ aq av.toList 0)::u) (.inRegion av (i::k)::bB):=by
        have agJ:=ng.drawn (bO:=bO) (aG:=j) (k:=k) aH ws f5 aJ bM z af3 mB (by simp only[z3];exact t6)
        simp only[z3]at agJ
        rw[p3,z4]
        exact agJ
       exact acg cP gF aE LP aE.kF (Zj _) bi ub mX a
      ·simp at a
   ·
    have avX:=Zl g5
    have gp:(⟨x,vU p.m (rs (gX C n aq av)),Cz p.i (rs (gX C n aq av))⟩:qB)∈mu C n aq av:=by
     rw[NX];exact ZE.2 ⟨(p,x),YM.2 ⟨avX,by simp[gL]⟩,rfl⟩
    have oC:vU p.m (rs (gX C n aq av))<ej+1:=by
     have:=aqQ p.m (rs (gX C n aq av)) ej (λak e bM gl=>by
      rw[Ol,Zy]at bM
      cases cx:(gX C n aq av)[ak]? with
      |none=>rw[cx]at bM;cases bM
      |some bE=>
       rw[cx]at bM;cases bM
       cases aj:fR p.m bE.1.i with
       |false=>rfl
       |true=>have:=(aJ.done ak bE cx).1 (Pl _ aj);omega)
     omega
    have Ii:¬dp x.i:=by rw[z4];exact rI
    obtain⟨ac,Iz,Vz⟩:=aJ.ahead _ gp oC
    obtain⟨wq,k5,b,aeX,wC,iy,nX⟩:=Vz Ii
    have ub:=Rf (zr aG) bV PR UC aeX wC
    have Vc:av[x.i]? =some o':=by rw[z4];exact bi
    have U5:∀RD:Nat->Prop,(∀V,dp V->RD V)->∀k∈mu C n aq av,k.bO<ej+1->¬RD k.x.i->∃ac,ev au k.x.i=some ac/\JT C h au I k.x ac:=λRD Ex bS H M al=>U4 bS H M (λak=>al (Ex _ ak))
    have Cu:add dp x.i=add dp i:=by rw[z4]
    cases b with
    |false=>
     have:ac=undef:=iy rfl
     subst this
     refine .head (Xn bi ub) ?_
     rw[kR]
     have kD:=aJ.iD (dh:=U) (dJ:=ae) gp oC Vc Ii mB Iz (λ_ _=>rfl) (λ_ a=>a) (λ_ a=> .inl a) (by trivial) aA.dst
     simp only[Cu]at kD
     exact m2 U ae w _ _ aE aH kD t6 (U5 _ λ_ a=> .inl a)
    |true=>
     obtain⟨_,Lw,_⟩:=nX rfl
     rcases pY with pY|pY
     ·obtain⟨uz,sN,aoY,aoV,uK,aV,aX,bz,cC⟩:=U4 _ gp oC Ii
      simp only at sN bz cC
      rw[Iz]at sN;cases sN
      have axr:=Rf (zr aG) bV PR UC aV bz
      have f5:uK=true:=by rw[<-axr,ub]
      have sG:=cC f5 pY
      have CF:dq C U ae aoV j bq.heap.size w:=aE.Y.adL aX
      obtain⟨bf,cf⟩:=ahH CF (AG aoY aV) EX sG
      refine .head (Gb bi ub bf (.inl rfl)) ?_
      rw[kR]
      have kD:=aJ.iD (dh:=U) (dJ:=ae) gp oC Vc Ii mB Iz (λ_ _=>rfl) (λ_ a=>a) (λ_ a=> .inl a) cf aA.dst
      simp only[Cu]at kD
      exact m2 U ae w _ _ aE aH kD t6 (U5 _ λ_ a=> .inl a)
     ·obtain⟨cT,bn,ih⟩:=Lw pY
      simp only at bn ih
      have pe:¬ae (base+x.i):=λak=>Ii (aJ.ids x.i (by rw[z4];exact aG) ak)
      obtain⟨pn,es,fk,jT⟩:=ahT (w:=w) (U:=U) pe (AG k5 aeX) (Qb EX bn)
      have c3:base+x.i<j:=by rw[z4];omega
      have nl:=aE.Y.alloc (an:=j) (R:=h) (b:=base+x.i) Zo c3 (Zj _) pe aE.ez rfl ih (λ_ _=> .inl rfl) jT (ahU (Qb EX bn))
      have af:jb C bO U ae h bq.heap.size w (gH U (base+x.i) ⟨w.heap.size,0,0⟩) (add ae (base+x.i)) h (w.alloc pn):=
       ⟨r9 pe,λ_ a=> .inl a,λe a=>a.elim .inl (λa=> .inr Zo),λ_ _ _=>rfl,Below.alloc (Below.refl _ _) aE.ez _⟩
      refine .head (Gb bi ub es (.inl rfl)) ?_
      rw[kR, <-IW af.jr aE.ip]
      have kD:=aJ.iD (dh:=gH U (base+x.i) ⟨w.heap.size,0,0⟩) (dJ:=add ae (base+x.i)) gp oC Vc Ii mB Iz af.jr af.kf (λ_ a=>a) fk aA.dst
      simp only[Cu]at kD
      exact m2 _ _ _ _ _ (aE.ext nl af (Zj _)) (aH.ab af.jr af.kf) kD t6 (U5 _ λ_ a=> .inl a)
end
section
variable{C:aN}{U dh dY:dd}{ae dJ ea:Nat->Prop}{h R:S ag}{j an bx:Nat}{w b5:World}{n aq:Nat}{av:Array Oper}
variable{bq:World}{bJ:Nat}{bX:List Frame}{v:E}{ah:hX}
variable{fn:Nat}{bj:List h8}{aD:Bool}{ro:Option Nat}{cs:List g6}{I:S E}{tmps:Array Value}{bB:List Item}{am:List Frame}{bO aG:Nat}
def dq.more(Y:dq C U ae h j bx w)(aF:j<=an)(iX:∀b,ae b->W C R b=W C h b)(c3:∀b T,W C R b=some T->b<an):dq C U ae R an bx w:=by
 refine⟨ZD Y.a8 aF,λb a=>ZP (Y.lt b a) aF,c3,λb T a d=>Y.obj b T (by rw[<-iX b d];exact a) d,λb dD T o' a cF d l8=>Y.sep b dD T o' (by rw[<-iX b d];exact a) (by rw[<-iX dD l8];exact cF) d l8,λb T aj a d=>Y.base b T aj (by rw[<-iX b d];exact a) d,λb T a d=>Y.eS b T (by rw[<-iX b d];exact a) d⟩
def ahI(c8:qy C n aq av){k bS:qB}(az:k∈mu C n aq av)(hO:bS∈mu C n aq av)(a:k.x.i=bS.x.i):k=bS:=by
 obtain⟨F,aE⟩:=Z2.1 az
 obtain⟨b,aj⟩:=Z2.1 hO
 obtain⟨K8,oz⟩:=Zb.1 aE
 obtain⟨nX,kC⟩:=Zb.1 aj
 have ay:=SU c8
 rw[YR]at ay
 rcases YV F b with c3|D|gv
 ·have:=ay F b K8 nX c3
  rw[oz,kC]at this;omega
 ·subst D;rw[<-oz,kC]
 ·have:=ay b F nX K8 gv
  rw[oz,kC]at this;omega
def adi(cP:Env C bq dY ea)(gF:om C bq bJ bX ah){u:List d0}{base ej:Nat}{au:List (Nat×E)}{dp:Nat->Prop}{k:List Nat}(aE:jH C bq bJ bX fn aq bj aD ro cs h j U ae w bO am)
 (aH:mj C U ae aq u bB)(ws:bO<=base)(f5:base+av.size<=j)(g0:C.a8<=base)(aJ:se C U ae h base n aq av au ej ej I tmps dp)(aC:xj av dp k)
 (a:Ad ah C av base au (A9 (mu C n aq av) ej ((gX C n aq av).drop ej)) (lQ aq av.toList 0) u ⟨fn,n,aq,bj,aD,ro,cs⟩ I h j=some v):Ends C bq bJ bX v (lone (cz U fn bj aD ro tmps (.inRegion av k::bB) .run) am w):=by
 obtain⟨s,rest,bC,cu,fL,j5⟩:=aDM (fO:=mu C n aq av) (u:=ej) (az:=(gX C n aq av).drop ej)
 rw[bC]at a
 simp only[Ad]at a
 split at a
 ·simp at a
 ·rename_i hY R gp
  simp only[fb]at a
  obtain⟨E0,a⟩:=a
  rw[cu]at gp
  rw[fL]at E0
  have UA:∀x∈uH ej (mu C n aq av),ev au x.i=none/\W C h (base+x.i)=none/\oE x.op=false:=by
   intro x af
   obtain⟨en,H,M,rfl⟩:=BV.1 af
   have bD:ev au en.x.i=none:=by
    cases bD:ev au en.x.i with
    |none=>rfl
    |some ac=>
     exfalso
     rcases aJ.keys _ ac bD with ⟨cZ,bP,b2,cI⟩|⟨p,e,bP,b2,_⟩
     ·have:=ahI aJ.st bP H b2
      subst this;omega
     ·exact P8 aJ.st H bP b2.symm
   obtain⟨_,_,cI,_⟩:=NZ H
   exact⟨bD,aJ.free _ (NY aJ.st H) bD,cI⟩
  obtain⟨bR,cm,cX,d4,dN⟩:=aq7 g0 _ _ _ _ _ (apL (SU aJ.st)) UA gp
  have Vs:∀b,ae b->W C R b=W C h b:=by
   intro b aj
   by_cases ak:W C R b=W C h b
   ·exact ak
   ·obtain⟨x,af,D⟩:=d4 b ak
    obtain⟨en,H,M,rfl⟩:=BV.1 af
    have bY:=aJ.ids _ (NY aJ.st H) (D▸aj)
    have:=aJ.vj en H bY
    omega
  have m1:dq C U ae R j bq.heap.size w:=aE.Y.more (Zj _) Vs (λb T aj=>by
   by_cases ak:W C R b=W C h b
   ·exact aE.Y.wN b T (by rw[<-ak];exact aj)
   ·obtain⟨x,af,D⟩:=d4 b ak
    obtain⟨en,H,M,rfl⟩:=BV.1 af
    have:=NY aJ.st H
    omega)
  have af:jb C bO U ae h bq.heap.size w U ae R w:=⟨λ_ _=>rfl,λ_ a=>a,λ_ a=> .inl a,λb _ c3=>by
   by_cases ak:W C R b=W C h b
   ·exact ak
   ·obtain⟨x,af,D⟩:=d4 b ak
    omega,Below.refl _ _⟩
  have Aw:=aE.ext m1 af (Zj _)
  have tO:se C U ae R base n aq av hY ej (ej+1) I tmps dp:=by
   refine⟨aJ.st,aJ.size,aJ.P3,aJ.d5,aJ.closed,aJ.x8,aJ.done,λen H M=>Nat.lt_succ_of_lt (aJ.vj en H M), ?_, ?_, ?_, ?_,aJ.ids, ?_⟩
   ·intro i ac bc
    rcases cX i (by rw[bc];simp)with H|⟨x,H,M⟩
    ·cases bD:ev au i with
     |none=>exact absurd bD H
     |some uz=>
      rcases aJ.keys i uz bD with ⟨en,bP,b2,cI⟩|g
      ·exact .inl ⟨en,bP,b2,Zo⟩
      ·exact .inr g
    ·obtain⟨en,bP,b2,rfl⟩:=BV.1 H
     exact .inl ⟨en,bP,M,Zo⟩
   ·intro p e z ay
    obtain⟨ac,bc⟩:=aJ.wq p e z ay
    exact⟨ac,bR _ _ bc⟩
   ·intro en H M
    by_cases ak:en.bO=ej
    ·obtain⟨ac,bP,b2⟩:=dN en.x (BV.2 ⟨en,H,ak,rfl⟩)
     exact⟨ac,(bP ae).key,λ_=>bP ae⟩
    ·obtain⟨ac,bP,b2⟩:=aJ.ahead en H Zo
     refine⟨ac,bR _ _ bP,λbY=> ?_⟩
     obtain⟨_,k5,b,dL,fg,d1,ew⟩:=b2 bY
     refine⟨bR _ _ bP,k5,b,dL.trans bR,fg,d1,λaj=> ?_⟩
     obtain⟨gu,nk,asN⟩:=ew aj
     refine⟨gu,λbn=> ?_,asN⟩
     obtain⟨cT,Tp,Tq⟩:=nk bn
     refine⟨cT,Tp, ?_⟩
     by_cases cA:W C R (base+en.x.i)=W C h (base+en.x.i)
     ·rw[cA];exact Tq
     ·obtain⟨x,af,D⟩:=d4 _ cA
      obtain⟨cZ,es,fk,rfl⟩:=BV.1 af
      have:=ahI aJ.st H es Zo
      subst this;omega
   ·intro t ac bc
    apply aJ.Ef t ac
    rcases bc with ⟨V,bY,tQ,u7,bc⟩|bc
    ·left
     refine⟨V,bY,tQ,u7, ?_⟩
     have wq:∃uz,ev au V=some uz:=by
      rcases adh aJ.st V (aJ.x8 V bY)with ⟨en,bP,b2⟩|⟨p,e,bP,b2⟩
      ·obtain⟨uz,cI,_⟩:=aJ.ahead en bP (aJ.vj en bP (by rw[b2];exact bY))
       exact⟨uz,by rw[<-b2];exact cI⟩
      ·obtain⟨uz,cI⟩:=aJ.wq p e bP ((aJ.done p e bP).1 (by rw[b2];exact bY))
       exact⟨uz,by rw[<-b2];exact cI⟩
     obtain⟨uz,sN⟩:=wq
     have:=bR _ _ sN
     rw[bc]at this
     cases this
     exact sN
    ·exact .inr bc
   ·intro i aG bD
    have axl:ev au i=none:=by
     cases bM:ev au i with
     |none=>rfl
     |some ac=>rw[bR _ _ bM]at bD;cases bD
    by_cases ak:W C R (base+i)=W C h (base+i)
    ·rw[ak];exact aJ.free i aG axl
    ·obtain⟨x,af,D⟩:=d4 _ ak
     obtain⟨ac,bP,_⟩:=dN x af
     have:x.i=i:=Zo
     rw[<-this,(bP ae).key]at bD
     cases bD
  refine azH cP gF ws f5 g0 (s:=s) (rest:=rest) ?_ a k U ae w tmps dp Aw aH tO aC ?_
  ·cases bM:(gX C n aq av).drop ej with
   |nil=>rw[bM]at j5;exact j5.1
   |cons e hO=>rw[bM]at j5;exact j5
  ·intro en H M bY
   by_cases ak:en.bO=ej
   ·obtain⟨ac,bP,b2⟩:=dN en.x (BV.2 ⟨en,H,ak,rfl⟩)
    exact⟨ac,(bP ae).key,b2⟩
   ·obtain⟨ac,bP,b2⟩:=aJ.ahead en H Zo
    refine⟨ac,bR _ _ bP, ?_⟩
    obtain⟨_,k5,b,dL,fg,d1,ew⟩:=b2 bY
    by_cases Iv:Ds en.x.op=true
    ·have tT:ej<=en.aG:=by
      obtain⟨p,es,fk,jT,Wq⟩:=NZ H
      obtain⟨_,g5,gx,z3,z4,z5⟩:=Ac aJ.st es
      rw[Wq]
      refine avs _ _ _ (by rw[Ol,Zi];exact aJ.P3) λak e z c3=> ?_
      rw[Ol,Zy]at z
      cases cx:(gX C n aq av)[ak]? with
      |none=>rw[cx]at z;cases z
      |some bE=>
       rw[cx]at z;cases z
       cases aj:fR bE.1.m p.i with
       |false=>rfl
       |true=>
        exfalso
        have at6:=(aJ.done ak bE cx).2 c3
        obtain⟨aHp,JC,JD,aFg,aFh,aHV,XT⟩:=Ac aJ.st (NW (Zl cx)).1
        have:=Ko aJ.closed (Zl aFh) XT.oper (aJ.closed _ _ XT.oper at6) _ aj
        simp only at gx
        rw[<-gx]at this
        exact bY this
     obtain⟨dD,fz,gn⟩:=aq8 _ E0 en.x (aB0 H Zo tT Iv)
     refine⟨hY,R,dD,Sub.refl _,qA.refl _,fz,λaj _=> ?_⟩
     obtain⟨uz,iG,ps⟩:=gn aj
     rw[bR _ _ bP]at ps
     cases ps
     exact iG
    ·have Iv:Ds en.x.op=false:=by simpa using Iv
     refine⟨k5, .nil,b,dL.trans bR,ahF _,fg,λaj pY=> ?_⟩
     exact(ew aj).2.2 pY Iv .nil
def ar9{u:List d0}(id:Nat)(a:mj C U ae aq u bB){fh:List d0}(bA:exitTo id u=some fh):∃iw,Go.exitTo id bB=some iw/\mj C U ae aq fh iw:=by
 induction a with
 |nil=>simp[exitTo]at bA
 |cons H M ah=>
  cases H<;>simp only[exitTo]at bA
  case inBlock ve=>
   rw[ia]at bA
   split at bA
   ·rename_i D
    simp at bA;subst bA
    exact⟨_,by simp[Go.exitTo,D],M⟩
   ·rename_i D
    obtain⟨iw,bP,b2⟩:=ah bA
    have:(ve==id)=false:=by simpa using D
    exact⟨iw,by simp[Go.exitTo,this,bP],b2⟩
  all_goals
   obtain⟨iw,bP,b2⟩:=ah bA
   exact⟨iw,by simp[Go.exitTo,bP],b2⟩
def adE(ir:ti C U ae){n:Nat}(ba:j0 U ae n aq I tmps){x:Operand}{ac:E}(f6:Be C aq [] x=true)(a:xA I x=some ac):lG tmps x=aT U ac/\co ae ac:=by
 cases x with
 |tmp t=>
  simp only[Be,apJ]at f6
  obtain⟨H,M⟩:=ba.val t ac f6 a
  exact⟨by simp[lG,H],M⟩
 |const c=>exact Qp a
 |global g=>
  simp[xA]at a;subst a
  simp only[Be]at f6
  obtain⟨bP,b2,cI⟩:=ir g (l6 f6)
  exact⟨by simp[lG,aT,b2,cI],bP⟩
 |func f=>
  simp[xA]at a;subst a
  exact⟨by simp[lG,aT,nS,b3],trivial,trivial,trivial⟩
def pI.start{n:Nat}(ba:j0 U ae n aq I tmps):pI U ae aq (λ_=>True) (iS av 0) [] I tmps:=by
 intro t ac _ a
 rw[M8]at a
 exact ba.val t ac a.1 a.2
def aB7(cP:Env C bq dY ea)(gF:om C bq bJ bX ah){u:List d0}{id:Nat}{B8:Bool}(aE:jH C bq bJ bX fn aq bj aD ro cs h j U ae w bO am)(aH:mj C U ae aq u bB)(ba:j0 U ae n aq I tmps)
 (a:ai6 av B8 ah C u ⟨fn,n,aq,bj,aD,ro,cs⟩ I h j=some v):Ends C bq bJ bX v (lone (cz U fn bj aD ro tmps (.code (.region id av B8)::bB) .run) am w):=by
 cases B8 with
 |false=>
  have cF:WY n aq av ah C u ⟨fn,n,aq,bj,aD,ro,cs⟩ I h j=some v:=a
  simp only[WY,pp]at cF
  split at cF
  ·rename_i r Y
   obtain⟨rest,fin⟩:=r
   have OB:Bn rest ⟨ah,av,fin,u,⟨fn,n,aq,bj,aD,ro,cs⟩⟩ C I [] h j=some v:=cF
   unfold Mr at Y
   split at Y
   ·rename_i dg iz
    simp at Y
    obtain⟨rfl,rfl⟩:=Y
    refine .head aDC ?_
    refine ajl cP gF dg [] h j U ae w tmps _ am aE aH ⟨0,zd _, ?_,iz,rfl,pI.start ba,ba.size⟩ OB
    rw[List.range_eq_range'];rfl
   ·simp at Y
  ·simp at cF
 |true=>
  have cF:WX n aq av ah C u ⟨fn,n,aq,bj,aD,ro,cs⟩ I h j=some v:=a
  simp only[WX,pp]at cF
  split at cF
  ·rename_i r Y
   obtain⟨l0,fin⟩:=r
   have OB:rr j (λj=>Ad ah C av j [] l0 fin u ⟨fn,n,aq,bj,aD,ro,cs⟩ I h (j+av.size))=some v:=cF
   rw[mW]at OB
   unfold Mq at Y
   split at Y
   ·simp at Y
   ·rename_i dg iz
    simp only[fb,Zq,Zf]at Y
    obtain⟨⟨⟨bP,b2⟩,cI⟩,dL⟩:=Y
    have jl:xv C n aq av=dg:=by unfold xv;rw[iz];rfl
    have c8:qy C n aq av:=⟨by rw[jl];exact iz,bP,b2,by unfold gX;rw[jl];exact cI⟩
    have aw7:l0=A9 (mu C n aq av) 0 ((gX C n aq av).drop 0)/\fin=lQ aq av.toList 0:=by
     have D:=dL
     cases D
     refine⟨?_,rfl⟩
     rw[Yg]
     unfold mu gX
     rw[jl];rfl
    obtain⟨rfl,rfl⟩:=aw7
    refine .head aDD ?_
    rw[cP.k0.mixed]
    have af:jb C bO U ae h bq.heap.size w U ae h w.drew:=⟨λ_ _=>rfl,λ_ a=>a,λ_ a=> .inl a,λ_ _ _=>rfl,Below.drew (Below.refl _ _)⟩
    have m1:dq C U ae h (j+av.size) bq.heap.size w.drew:=aE.Y.drew.more (zi _ _) (λ_ _=>rfl) (λb T aj=>ZP (aE.Y.wN b T aj) (zi _ _))
    refine adi cP gF (dp:=λ_=>False) (aE.ext m1 af (zi _ _)) aH aE.kF (Zj _) aE.Y.a8 ?_ (aCM bP _) OB
    refine⟨c8,ba.size,zd _,aE.Y.a8,λ_ _ _ a=>a.elim,λ_ a=>a.elim,λp e _=>⟨λa=>a.elim,λa=>Zo⟩,λ_ _ a=>a.elim,λi ac bc=>by simp at bc,λp e _ a=>Zo,λen _ a=>Zo, ?_, ?_, ?_⟩
    ·intro t ac bc
     rcases bc with ⟨V,a,_⟩|⟨_,H,M⟩
     ·exact a.elim
     ·exact ba.val t ac H M
    ·intro i _ aJ
     have:=aE.Y.lt _ aJ;omega
    ·intro i _ _
     cases bM:W C h (j+i)with
     |none=>rfl
     |some T=>have:=aE.Y.wN _ T bM;omega
  ·simp at cF
end
section
variable{C:aN}{U dh dY:dd}{ae dJ ea:Nat->Prop}{h R:S ag}{j an bx:Nat}{w b5:World}{n aq:Nat}{av:Array Oper}
variable{bq:World}{bJ:Nat}{bX:List Frame}{v:E}{ah:hX}
variable{fn:Nat}{bj:List h8}{aD:Bool}{ro:Option Nat}{cs:List g6}{I:S E}{tmps:Array Value}{bB:List Item}{am:List Frame}{bO aG:Nat}
def ar8{u:List d0}(id:Nat)(a:mj C U ae aq u bB)(bA:exitTo id u=none):Go.exitTo id bB=none:=by
 induction a with
 |nil=>rfl
 |cons H M ah=>
  cases H<;>simp only[exitTo]at bA
  case inBlock ve=>
   rw[ia]at bA
   split at bA
   ·simp at bA
   ·rename_i D
    have:(ve==id)=false:=by simpa using D
    simp[Go.exitTo,this,ah bA]
  all_goals simp[Go.exitTo,ah bA]
def Wm(aE:jH C bq bJ bX fn aq bj aD ro cs h j U ae w bO am){b:Nat}{st iH:LoopState}{rX Do:Option Code}{he aS lz:Nat}{da:S E}{params:List Nat}{assign body:Code}{gD:Nat}
 (aF:C.a8<=b)(aJ:ae b)(ih:W C h b=some (.loop st rX he aS lz da params assign body gD))(ay:∀c,Do=some c->II c):
 ∃h7,w.heap[(U b).cO]? =some (.loop ⟨st,rX,he,h7,params.toArray,assign,body,(U gD).cO⟩)/\RE C he lz/\(∀c,rX=some c->II c)/\
  jH C bq bJ bX fn aq bj aD ro cs (bm C h b (some (.loop iH Do he aS lz da params assign body gD))) j U ae (w.putObj (U b).cO (.loop ⟨iH,Do,he,h7,params.toArray,assign,body,(U gD).cO⟩)) bO am:=by
 obtain⟨h7,hc,nB,sZ,I4,Dd,ui,De⟩:=aE.Y.obj b _ ih aJ
 obtain⟨b5,bR,cm,cX⟩:=putObj aE.Y (dj:=bO) (o':= .loop ⟨iH,Do,he,h7,params.toArray,assign,body,(U gD).cO⟩) (pn:= .loop iH Do he aS lz da params assign body gD) aF aJ ih ⟨Zs,Zs⟩ hc Zs
  (λb5 sO=>⟨h7,sO,nB,sZ,I4,Dd,ay,De⟩) ⟨λ_ _ _ a=>(by cases a),λ_ _ _ a=>(by cases a)⟩
 rw[run_setObj_loop _ hc]at bR
 simp only[Result.ok.injEq]at bR
 obtain⟨_,rfl⟩:=bR
 exact⟨h7,hc,De,ui,aE.ext cm cX (Zj _)⟩
def acv(gF:om C bq bJ bX ah){ac:E}{dv:Machine}(aE:jH C bq bJ bX fn aq bj false ro cs h j U ae w bO am)(dn:cs≠[])(Ck:co ae ac)
 (qV:∀g e3,am=g::e3->step C.P dv= .next (lone (g.finish (aT U ac)) e3 w))(a:uI ah false cs ac h j=some v):Ends C bq bJ bX v dv:=by
 cases cs with
 |nil=>exact absurd rfl dn
 |cons c rest=>
  obtain⟨he,aS,lz,da,w2,gD,nA,j4,lX⟩:=c
  obtain⟨sR,h7,iw,e3,rfl,bR,cm,cX,d4,dN,dc⟩:=aE.cs.inv
  refine .head (qV _ _ rfl) ?_
  cases nA with
  |run=>
   have cF:W2 ah w2 ⟨he,aS,lz,gD,j4,lX,rest⟩ ac da h j=some v:=a
   cases w2 with
   |nil=>simp[W2]at cF
   |cons eN u=>exact HG gF ⟨aE.Y,aE.lO,aE.ir,ZD dN aE.kF,cX,d4,dc⟩ bR aE.kF Ck cF
  |returning=>simp[uI]at a
  |panicking fK=>simp[uI]at a
def Wc(gF:om C bq bJ bX ah){todo:List d0}{jo:Option Code}(bF:(jo=none/\bB=[])\/(jo=some .ret/\∃u,bB= .code .ret::u)\/(∃id u,jo=some (.exit id)/\bB= .code (.exit id)::u/\Go.exitTo id u=none))
 (aE:jH C bq bJ bX fn aq bj aD ro cs h j U ae w bO am)(ba:j0 U ae n aq I tmps)
 (a:pk jo ah C todo ⟨fn,n,aq,bj,aD,ro,cs⟩ I h j=some v):Ends C bq bJ bX v (lone (cz U fn bj aD ro tmps bB .run) am w):=by
 unfold pk at a
 cases ro with
 |some k=>
  simp only at a
  split at a
  ·rename_i st rX he aS lz da params assign body gD ih
   simp only[fb,Zq,hf]at a
   obtain⟨⟨⟨EJ,aGF⟩,wj⟩,a⟩:=a
   have wj:aD=false:=by simpa using wj
   subst wj
   have aJ:=aE.ip.ro k rfl
   have aws:∀c,jo=some c->II c:=by
    intro c aA
    subst aA
    rcases bF with ⟨D,_⟩|⟨D,_⟩|⟨id,u,D,_⟩
    ·cases D
    ·cases D;exact .inl rfl
    ·cases D;exact .inr ⟨id,rfl⟩
   obtain⟨h7,hc,De,_,Aw⟩:=Wm aE (iH:=b0 jo.isNone .ready .done) (Do:=jo) (j2 EJ) aJ ih aws
   have dn:cs≠[]:=λD=>by have:=(aE.bot D).2.2;cases this
   refine acv (ac:= .bool jo.isNone) gF Aw dn trivial (λg e3 D=> ?_) a
   subst D
   refine aDG bF ?_
   have:=run_endRound (P:=C.P) jo hc
   rw[this]
   cases jo<;>rfl
  ·simp at a
 |none=>
  simp only[fb]at a
  have c8:DX C bq bJ bX .returning todo fn n aq bj aD none cs I h j U ae w bO tmps bB am:=⟨aE.Y,aE.lO,aE.ir,aE.kF,aE.ip,trivial,aE.bot,aE.cs,ba⟩
  have bY:=gF _ _ _ _ _ _ _ _ _ _ _ _ v a.2 U ae w bO tmps bB am c8
  rcases bF with ⟨rfl,rfl⟩|⟨rfl,u,rfl⟩|⟨id,u,rfl,rfl,_⟩
  ·exact .head aDs bY
  ·exact .head aDE bY
  ·simp[VS]at a
def aBY(cP:Env C bq dY ea)(gF:om C bq bJ bX ah){f:Operand}{params:Array Nat}{assign body:Code}{u:List d0}(aE:jH C bq bJ bX fn aq bj aD ro cs h j U ae w bO am)(ba:j0 U ae n aq I tmps)
 (f6:mr C aq (.rangeFunc f params assign body)=true)(aH:mj C U ae aq u bB)(a:MG f params assign body ah C u ⟨fn,n,aq,bj,aD,ro,cs⟩ I h j=some v):
 Ends C bq bJ bX v (lone (cz U fn bj aD ro tmps (.code (.rangeFunc f params assign body)::bB) .run) am w):=by
 simp only[mr,Zq]at f6
 obtain⟨b4,aga,ih⟩:=f6
 unfold MG at a
 split at a
 ·rename_i g first f1 Tj aV IT aq5 Kl W5 su bA fq
  cases fq
  obtain⟨bC,cu⟩:=adE aE.ir ba b4 bA
  have lb:∀(b:Nat) (jX:World),(resolve (lG tmps) {callee:= .value f,args:= #[.const (.func (.yield b) #[] #[])],argTypes:= #[]} 0).run C.P jX=
   .ok ⟨.fn (.func g) (b3 U f1).toArray,(b3 U first).toArray++ #[.func (.yield b) #[] #[]]⟩ jX:=by
   intro b jX
   have SZ:lG tmps (.const (.func (.yield b) #[] #[]))= .func (.yield b) #[] #[]:=rfl
   simp[resolve,bC,aT,nS,Deferred.ofValue,SZ]
  have afj:∀(b:Nat) (yJ:dd) (nd:Nat->Prop) (aQ:S ag) (FP:Nat) (jX:World) (uO:List g6) (xF:List Frame) (dj:Nat) (bS:Nat),(∀x,ae x->yJ x=U x)->(∀x,ae x->nd x)->nd bS->(yJ bS).cO=b->
   dq C yJ nd aQ FP bq.heap.size jX->Below bq.heap.size bq jX->ti C yJ nd->dj<=FP->pC C yJ nd aQ bJ bX dj uO xF->uO≠[]->o5 ah C g (first++[.func (.yield bS) [] []]++f1) false uO aQ FP=some v->
   ∃args,(invoke (.fn (.func g) (b3 U f1).toArray) ((b3 U first).toArray++ #[.func (.yield b) #[] #[]])).run C.P jX= .ok (.enter g args) jX/\Ends C bq bJ bX v (lone (Frame.enter C.P g args .normal) xF jX):=by
   intro b yJ nd aQ FP jX uO xF dj bS dS fZ hO aj qU nX O3 p0 iz dn a
   have avj:ey nd (first++[.func (.yield bS) [] []]++f1):=Ch (Ch (sy fZ _ cu.2.1) ⟨⟨hO,trivial,trivial⟩,trivial⟩) (sy fZ _ cu.2.2)
   refine⟨(b3 yJ (first++[.func (.yield bS) [] []]++f1)).toArray, ?_,N9 gF qU nX O3 p0 iz (λD=>absurd D dn) avj a⟩
   have Le:∃func c,C.P.funcs[g]? =some func/\func.body=some c:=by
    unfold o5 at a
    split at a
    ·rename_i func rE
     split at a
     ·rename_i c aA;exact⟨func,c,rE,aA⟩
     ·simp at a
    ·simp at a
   obtain⟨func,c,rE,aA⟩:=Le
   have aF:func.name≠ "runtime.NumGoroutine":=by simpa using cP.k0.num g func rE (by simp[aA])
   have u1:(b3 yJ (first++[.func (.yield bS) [] []]++f1)).toArray=((b3 U first).toArray++ #[.func (.yield b) #[] #[]])++(b3 U f1).toArray:=by
    rw[D8,D8,y8 dS cu.2.1,y8 dS cu.2.2]
    simp[b3,aT,nS,aj]
   rw[u1]
   simp[invoke,callFunc,rE,aF,aA]
  cases ro with
  |none=>
   simp only[mW]at a
   have pe:=sX aE.Y
   have qU:=aE.Y.alloc (b:=j) (an:=j+1) (pl:=⟨w.heap.size,0,0⟩) (cT:= .deferred (some [])) (T:= .deferred (some [])) (R:=bm C h j (some (.deferred (some [])))) aE.Y.a8 (Yn _) (Yd _) pe aE.ez rfl
    (by rw[gc _ aE.Y.a8,Zp rfl]) (λx af=> .inl (by rw[gc _ aE.Y.a8,Zg af])) ⟨by rw[World.alloc_heap_new];rfl,λk az=>by cases az;simp⟩ ⟨λ_ _ _ a=>(by cases a),λ_ _ _ a=>(by cases a)⟩
   have vb:jb C j U ae h bq.heap.size w (gH U j ⟨w.heap.size,0,0⟩) (add ae j) (bm C h j (some (.deferred (some [])))) (w.alloc (.deferred (some []))):=
    ⟨r9 pe,λ_ a=> .inl a,λe a=>a.elim .inl (λa=> .inr Zo),λx _ c3=>by rw[gc _ aE.Y.a8,Zg Zo],Below.alloc (Below.refl _ _) aE.ez _⟩
   have tX:C.a8<=j+1:=Nat.le_succ_of_le aE.Y.a8
   have af2:=sX qU
   have aez:bq.heap.size<=(w.alloc (.deferred (some []))).heap.size:=by rw[World.size_alloc];have:=aE.ez;omega
   have agV:(gH U j ⟨w.heap.size,0,0⟩ j)=⟨w.heap.size,0,0⟩:=l3 ..
   have PV:=r9 (U:=gH U j ⟨w.heap.size,0,0⟩) (pl:=⟨w.heap.size+1,0,0⟩) af2
   have hx:=qU.alloc (b:=j+1) (an:=j+2) (pl:=⟨w.heap.size+1,0,0⟩) (cT:= .loop .ready none fn n aq I params.toList assign body j) (T:= .loop {state:= .ready,pending:=none,fn,tmps,params,assign,body,defers:=w.heap.size})
    (R:=bm C (bm C h j (some (.deferred (some [])))) (j+1) (some (.loop .ready none fn n aq I params.toList assign body j))) tX (Yn _) (Yd _) af2 aez (by rw[World.size_alloc])
    (by rw[gc _ tX,Zp rfl]) (λx af=> .inl (by rw[gc _ tX,Zg af]))
    ⟨tmps,by
     rw[show(⟨w.heap.size+1,0,0⟩:nf).cO=(w.alloc (.deferred (some []))).heap.size by rw[World.size_alloc],World.alloc_heap_new,PV j (.inr rfl),agV],
     (ba.ab vb.jr vb.kf).ab PV (λ_ a=> .inl a), .inl (.inr rfl),aga,ih,λc aA=>(by cases aA),aE.ip.fn⟩
    ⟨λ_ _ _ a=>(by cases a),λ_ _ _ a=>(by cases a)⟩
   have Fe:jb C (j+1) (gH U j ⟨w.heap.size,0,0⟩) (add ae j) (bm C h j (some (.deferred (some [])))) bq.heap.size (w.alloc (.deferred (some []))) (gH (gH U j ⟨w.heap.size,0,0⟩) (j+1) ⟨w.heap.size+1,0,0⟩) (add (add ae j) (j+1))
    (bm C (bm C h j (some (.deferred (some [])))) (j+1) (some (.loop .ready none fn n aq I params.toList assign body j))) ((w.alloc (.deferred (some []))).alloc (.loop {state:= .ready,pending:=none,fn,tmps,params,assign,body,defers:=w.heap.size})):=
    ⟨PV,λ_ a=> .inl a,λe a=>a.elim .inl (λa=> .inr Zo),λx _ c3=>by rw[gc _ tX,Zg Zo],Below.alloc (Below.refl _ _) aez _⟩
   have af:=vb.trans (Yd j) Fe
   have oz:=aE.ext hx (af.mono aE.kF) (ZD (Yd _) (Yd _))
   have avh:xc C (add (add ae j) (j+1)) fn aq (⟨.collected j,[]⟩::bj) none:=⟨λd aJ=>by
    rcases Zu.1 aJ with rfl|aJ
    ·exact⟨.inl (.inr rfl),trivial⟩
    ·exact oz.ip.bj d aJ,oz.ip.ro,oz.ip.fn⟩
   have LP:ng C (gH (gH U j ⟨w.heap.size,0,0⟩) (j+1) ⟨w.heap.size+1,0,0⟩) (add (add ae j) (j+1)) (bm C (bm C h j (some (.deferred (some [])))) (j+1) (some (.loop .ready none fn n aq I params.toList assign body j))) bO (j+2) n aq I tmps
    (.inRangeFunc (j+1)::u) (.inRangeFunc (w.heap.size+1)::bB):=by
    have:=ng.dU (bO:=bO) (aG:=j+2) (h:=bm C (bm C h j (some (.deferred (some [])))) (j+1) (some (.loop .ready none fn n aq I params.toList assign body j))) (aH.ab af.jr af.kf) (ba.ab af.jr af.kf) (k:=j+1) (.inr rfl)
    rw[l3]at this
    exact this
   have p0:bO<=j+2:=zz aE.kF
   obtain⟨args,bP,b2⟩:=afj (w.heap.size+1) _ _ _ _ _ _ _ (j+2) (j+1) af.jr af.kf (.inr rfl) (by rw[l3]) hx oz.lO oz.ir (Zj _)
    (.cons (bW:= .run) LP trivial avh aE.bot p0 oz.cs) Zs a
   refine .head (ajv (run_enterLoop_outer fn tmps params assign body) (lb _ _) bP) ?_
   have qR:({cz U fn bj aD none tmps (.inRangeFunc (w.heap.size+1)::bB) .run with defers:=[{target:= .collected w.heap.size,args:= #[]}]++bj.map (mo U)}:Frame)=
    cz (gH (gH U j ⟨w.heap.size,0,0⟩) (j+1) ⟨w.heap.size+1,0,0⟩) fn (⟨.collected j,[]⟩::bj) aD none tmps (.inRangeFunc (w.heap.size+1)::bB) .run:=by
    have D:bj.map (mo (gH (gH U j ⟨w.heap.size,0,0⟩) (j+1) ⟨w.heap.size+1,0,0⟩))=bj.map (mo U):=YC λd aJ=>Sr af.jr (aE.ip.bj d aJ)
    have fL:mo (gH (gH U j ⟨w.heap.size,0,0⟩) (j+1) ⟨w.heap.size+1,0,0⟩) ⟨.collected j,[]⟩={target:= .collected w.heap.size,args:= #[]}:=by
     simp only[mo,D6,b3]
     rw[PV j (.inr rfl),agV]
    simp only[cz,ZJ,D,fL,YO,YF,Y6]
   rw[qR]
   exact b2
  |some k=>
   simp only[mW]at a
   split at a
   ·rename_i st rX he aS lz da aHs aFt aFx gD az
    have aJ:=aE.ip.ro k rfl
    obtain⟨h7,hc,nB,sZ,I4,Dd,ui,De⟩:=aE.Y.obj k _ az aJ
    have pe:=sX aE.Y
    have VH:=r9 (U:=U) (pl:=⟨w.heap.size,0,0⟩) pe
    have hx:=aE.Y.alloc (b:=j) (an:=j+1) (pl:=⟨w.heap.size,0,0⟩) (cT:= .loop .ready none fn n aq I params.toList assign body gD) (T:= .loop {state:= .ready,pending:=none,fn,tmps,params,assign,body,defers:=(U gD).cO})
     (R:=bm C h j (some (.loop .ready none fn n aq I params.toList assign body gD))) aE.Y.a8 (Yn _) (Yd _) pe aE.ez rfl
     (by rw[gc _ aE.Y.a8,Zp rfl]) (λx af=> .inl (by rw[gc _ aE.Y.a8,Zg af]))
     ⟨tmps,by rw[World.alloc_heap_new,VH gD sZ],ba.ab VH (λ_ a=> .inl a), .inl sZ,aga,ih,λc aA=>(by cases aA),aE.ip.fn⟩
     ⟨λ_ _ _ a=>(by cases a),λ_ _ _ a=>(by cases a)⟩
    have af:jb C j U ae h bq.heap.size w (gH U j ⟨w.heap.size,0,0⟩) (add ae j) (bm C h j (some (.loop .ready none fn n aq I params.toList assign body gD))) (w.alloc (.loop {state:= .ready,pending:=none,fn,tmps,params,assign,body,defers:=(U gD).cO})):=
     ⟨VH,λ_ a=> .inl a,λe a=>a.elim .inl (λa=> .inr Zo),λx _ c3=>by rw[gc _ aE.Y.a8,Zg Zo],Below.alloc (Below.refl _ _) aE.ez _⟩
    have oz:=aE.ext hx (af.mono aE.kF) (Yd _)
    have LP:ng C (gH U j ⟨w.heap.size,0,0⟩) (add ae j) (bm C h j (some (.loop .ready none fn n aq I params.toList assign body gD))) bO (j+1) n aq I tmps (.inRangeFunc j::u) (.inRangeFunc w.heap.size::bB):=by
     have:=ng.dU (bO:=bO) (aG:=j+1) (h:=bm C h j (some (.loop .ready none fn n aq I params.toList assign body gD))) (aH.ab af.jr af.kf) (ba.ab af.jr af.kf) (k:=j) (.inr rfl)
     rw[l3]at this
     exact this
    have p0:bO<=j+1:=zz aE.kF
    obtain⟨args,bP,b2⟩:=afj w.heap.size _ _ _ _ _ _ _ (j+1) j af.jr af.kf (.inr rfl) (by rw[l3]) hx oz.lO oz.ir (Zj _)
     (.cons (bW:= .run) LP trivial oz.ip aE.bot p0 oz.cs) Zs a
    have au7:(Instr.enterLoop fn tmps params assign body ((some k).map λk=>(U k).cO)).run C.P w= .ok (w.heap.size,[]) (w.alloc (.loop {state:= .ready,pending:=none,fn,tmps,params,assign,body,defers:=(U gD).cO})):=by
     unfold Instr.enterLoop
     simp only[ZS,Sem.run_bind,run_getLoop hc,run_newObj_alloc,Result.andThen,Sem.run_pure]
    refine .head (ajv au7 (lb _ _) bP) ?_
    have qR:({cz U fn bj aD (some k) tmps (.inRangeFunc w.heap.size::bB) .run with defers:=[]++bj.map (mo U)}:Frame)=cz U fn bj aD (some k) tmps (.inRangeFunc w.heap.size::bB) (g8 U .run):=rfl
    rw[qR, <-IW af.jr aE.ip]
    exact b2
   ·simp at a
 ·simp at a
def acW(cP:Env C bq dY ea)(gF:om C bq bJ bX ah)(aE:jH C bq bJ bX fn aq bj aD ro cs h j U ae w bO am)(ba:j0 U ae n aq I tmps):∀(c:Code) (u:List d0) (bB:List Item),mr C aq c=true->mj C U ae aq u bB->
 vT c ah C u ⟨fn,n,aq,bj,aD,ro,cs⟩ I h j=some v->Ends C bq bJ bX v (lone (cz U fn bj aD ro tmps (.code c::bB) .run) am w):=by
 intro c
 have go:∀u bB,mj C U ae aq u bB->ah .run u ⟨fn,n,aq,bj,aD,ro,cs⟩ I h j=some v->Ends C bq bJ bX v (lone (cz U fn bj aD ro tmps bB .run) am w):=
  λu bB aH a=>gF _ _ _ _ _ _ _ _ _ _ _ _ v a U ae w bO tmps bB am (aE.state (.plain aH ba))
 induction c with
 |skip=>intro u bB _ aH a;exact .head aDJ (go u bB aH a)
 |region id av B8=>intro u bB _ aH a;exact aB7 cP gF aE aH ba a
 |seq F b mF h3=>
  intro u bB f6 aH a
  simp only[mr,Zq]at f6
  exact .head aDI (mF (.code b::u) (.code b::bB) f6.1 (.cons (.code f6.2) aH) a)
 |cond c F b mF h3=>
  intro u bB f6 aH a
  simp only[mr,Zq]at f6
  have cF:Kj c I (vT F ah C u ⟨fn,n,aq,bj,aD,ro,cs⟩ I h j) (vT b ah C u ⟨fn,n,aq,bj,aD,ro,cs⟩ I h j)=some v:=a
  simp only[Kj,pp]at cF
  split at cF
  ·rename_i ac bc
   obtain⟨bC,_⟩:=adE aE.ir ba f6.1 bc
   cases ac with
   |bool t=>
    refine .head (aDq (t:=t) (by rw[bC];rfl)) ?_
    cases t with
    |true=>exact mF u bB f6.2.1 aH cF
    |false=>exact h3 u bB f6.2.2 aH cF
   |_=>simp at cF
  ·simp at cF
 |block id b h3=>intro u bB f6 aH a;exact .head aDp (h3 (.inBlock id::u) (.inBlock id::bB) f6 (.cons .inBlock aH) a)
 |loop b h3=>intro u bB f6 aH a;exact .head aDz (h3 (.inLoop b::u) (.inLoop b::bB) f6 (.cons (.inLoop f6) aH) a)
 |rangeFunc f params assign body _ _=>intro u bB f6 aH a;exact aBY cP gF aE ba f6 aH a
 |exit id=>
  intro u bB _ aH a
  have cF:Cb id ah C u ⟨fn,n,aq,bj,aD,ro,cs⟩ I h j=some v:=a
  unfold Cb at cF
  split at cF
  ·rename_i fh bA
   obtain⟨iw,bP,b2⟩:=ar9 id aH bA
   exact .head (aDu bP) (go fh iw b2 cF)
  ·rename_i bA
   exact Wc gF (.inr (.inr ⟨id,bB,rfl,rfl,ar8 id aH bA⟩)) aE ba cF
 |scope b h3=>intro u bB f6 aH a;exact .head aDH (h3 (.inScope b::u) (.inScope b::bB) f6 (.cons (.inScope f6) aH) a)
 |label k=>intro u bB _ aH a;exact .head aDy (go u bB aH a)
 |goto k=>intro u bB _ _ a;exact absurd a (by simp[vT,FM])
 |ret=>intro u bB _ aH a;exact Wc gF (.inr (.inl ⟨rfl,bB,rfl⟩)) aE ba a
 |refuse s=>intro u bB _ _ a;exact absurd a (by simp[vT,FM])
def aCf(aE:dq C U ae h j bx w)(ba:j0 U ae n aq I tmps){cd:ResultVar->Sem Value}(iM:∀t,cd (.tmp t)=pure (tmps.getD t Go.undef))(dz:∀F t,cd (.cell F t)=do loadVar t (<-asAddr (tmps.getD F Go.undef))):
 ∀(k:List ResultVar) (bk:List E),Bj aq k=true->yp C h I k=some bk->(k.mapM cd).run C.P w= .ok (b3 U bk) w/\ey ae bk:=by
 intro k
 induction k with
 |nil=>intro bk _ a;simp[yp]at a;subst a;exact⟨by simp[b3],trivial⟩
 |cons x k ah=>
  intro bk f6 a
  cases x with
  |tmp t=>
   simp only[Bj,Zq]at f6
   simp only[yp]at a
   split at a
   ·rename_i ac r bc Y
    simp at a;subst a
    obtain⟨H,M⟩:=ba.val t ac f6.1 bc
    obtain⟨al,aB⟩:=ah r f6.2 Y
    refine⟨?_,M,aB⟩
    simp[za,iM,H,al,b3]
   ·simp at a
  |cell F t=>
   simp only[Bj,Zq]at f6
   simp only[yp]at a
   split at a
   ·rename_i p ay
    split at a
    ·rename_i ac r bc Y
     simp at a;subst a
     obtain⟨H,M⟩:=ba.val F p f6.1 ay
     obtain⟨al,aB⟩:=ah r f6.2 Y
     obtain⟨bw,b1⟩:=ab7 aE M bc
     refine⟨?_,b1,aB⟩
     cases p with
     |ptr b T=>
      simp only[Instr.loadAt,Instr.sureAddr,aT,Sem.run_bind,Sem.run_pure,Result.andThen_ok]at bw
      simp[za,dz,H,aT,asAddr,bw,al,b3]
     |_=>simp[mm,dE,aU]at bc;split at bc<;>simp at bc
    ·simp at a
   ·simp at a
def aAT(bk:List E):(if a:(b3 U bk).toArray.size=1 then(b3 U bk).toArray[0]else Value.tuple (b3 U bk).toArray)=aT U (one bk):=by
 match bk with
 |[]=>simp[one,b3,aT]
 |[F]=>simp[one,b3]
 |F::b::r=>simp[one,b3,aT]
def aAS{bk:List E}(a:ey ae bk):co ae (one bk):=by
 match bk,a with
 |[],a=>exact a
 |[F],a=>exact a.1
 |F::b::r,a=>exact a
def jH.defs(aE:jH C bq bJ bX fn aq bj aD ro cs h j U ae w bO am){gD:List h8}(a:∀d∈gD,xD ae d):jH C bq bJ bX fn aq gD aD ro cs h j U ae w bO am:=
 ⟨aE.Y,aE.lO,aE.ir,aE.kF,⟨a,aE.ip.ro,aE.ip.fn⟩,aE.bot,aE.cs⟩
def jH.XK{todo:List d0}{bW:lJ}(Lv:bW≠ .run)(bV:ru ae bW)(aE:jH C bq bJ bX fn aq bj aD ro cs h j U ae w bO am)(ba:j0 U ae n aq I tmps):
 DX C bq bJ bX bW todo fn n aq bj aD ro cs I h j U ae w bO tmps bB am:=by
 cases bW with
 |run=>exact absurd rfl Lv
 |returning=>exact⟨aE.Y,aE.lO,aE.ir,aE.kF,aE.ip,bV,aE.bot,aE.cs,ba⟩
 |panicking fK=>exact⟨aE.Y,aE.lO,aE.ir,aE.kF,aE.ip,bV,aE.bot,aE.cs,ba⟩
def adb(cP:Env C bq dY ea)(gF:om C bq bJ bX ah){d:h8}{ds:List h8}{bW:lJ}{todo:List d0}(Lv:bW≠ .run)(bV:ru ae bW)(aE:jH C bq bJ bX fn aq (d::ds) aD ro cs h j U ae w bO am)(ba:j0 U ae n aq I tmps)
 (a:yv d ds bW todo ah C ⟨fn,n,aq,[],aD,ro,cs⟩ I h j=some v):Ends C bq bJ bX v (lone (cz U fn (d::ds) aD ro tmps bB (g8 U bW)) am w):=by
 have O5:xD ae d:=aE.ip.bj d (Zv ..)
 have afu:∀d∈ds,xD ae d:=λl8 aJ=>aE.ip.bj l8 (Zt _ aJ)
 have afa:g8 U bW≠ .run:=by cases bW<;>simp[g8]at Lv ⊢
 unfold yv at a
 split at a
 rename_i Tj aV IT aq5 Kl W5 su fq
 cases fq
 split at a
 ·rename_i r cB
  split at a
  ·rename_i qE ih
   simp only[fb,hf]at a
   obtain⟨EJ,a⟩:=a
   have aJ:ae r:=O5.1
   obtain⟨hc,nB⟩:=aE.Y.obj r _ ih aJ
   simp only[ZS]at hc
   obtain⟨b5,bR,cm,cX⟩:=putObj aE.Y (dj:=bO) (o':= .deferred none) (pn:= .deferred none) (j2 EJ) aJ ih ⟨Zs,Zs⟩ hc Zs
    (λb5 sO=>⟨by simpa using sO,λk az=>by cases az⟩) ⟨λ_ _ _ a=>(by cases a),λ_ _ _ a=>(by cases a)⟩
   have PO:(Instr.takeDeferred (U r).cO).run C.P w= .ok (qE.map (mo U)) b5:=by
    have D:b5=w.putObj (U r).cO (.deferred none):=by
     have:(Go.setObj (U r).cO (.deferred none)).run C.P w= .ok () (w.putObj (U r).cO (.deferred none)):=by simp[Go.setObj,Sem.run,hc,World.putObj]
     rw[this]at bR
     simp only[Result.ok.injEq]at bR
     exact bR.2.symm
    rw[D]
    exact run_takeDeferred hc
   refine .head (aDK (dJ:=qE++ds) afa PO (by rw[ZW])) ?_
   have auU:∀d∈qE++ds,xD ae d:=λl8 tO=>by
    rcases Zz.1 tO with ak|ak
    ·exact nB qE rfl l8 ak
    ·exact afu l8 ak
   have Aw:=(aE.defs auU).ext cm cX (Zj _)
   exact gF _ _ _ _ _ _ _ _ _ _ _ _ v a U ae b5 bO tmps bB am (Aw.XK Lv bV ba)
  ·simp at a
 ·rename_i f f1 args
  split at a
  ·rename_i g cB UK
   have mX:=ag6 (U:=U) (h:=h) (j:=j) (bx:=bq.heap.size) (w:=w) cP.k0 O5.1.1 O5.1.2 O5.2 UK
   obtain⟨H,M⟩:=mX
   have qV:=step_defer (P:=C.P) (fr:=cz U fn (⟨.fn f f1,args⟩::ds) aD ro tmps bB (g8 U bW)) (cs:=am) (w:=w) (d:=mo U ⟨.fn f f1,args⟩) (ds:=ds.map (mo U)) afa rfl rfl H
   refine .head qV ?_
   have aC:BQ C U ae h bO j n aq I tmps bW todo bB:=by
    cases bW with
    |run=>exact absurd rfl Lv
    |_=>exact ba
   exact adr (Ec:=true) gF aE.Y aE.lO aE.ir (Zj _) (.cons (bW:=bW) aC bV ((aE.defs afu).ip) aE.bot aE.kF aE.cs) (λD=>by cases D) M a
  ·simp at a
def arf(U:dd):∀(k:List s9),(k.map (uL U)).dropWhile (!·.goexit)=[]:=by
 intro k
 induction k with
 |nil=>rfl
 |cons F k ah=>simp[uL,ah]
def aCY(U:dd)(fK:List s9):settle (g8 U (.panicking fK))=g8 U (yB fK):=by
 cases fK with
 |nil=>rfl
 |cons p k=>
  obtain⟨v,r⟩:=p
  cases r with
  |false=>simp[g8,settle,yB,uL]
  |true=>simp[g8,settle,yB,uL,arf]
def aEv{fK:List s9}(a:ru ae (.panicking fK)):ru ae (yB fK):=by
 unfold yB
 split
 ·trivial
 ·exact a
def aEw(fK:List s9):yB fK≠ .run:=by
 unfold yB
 split<;>simp
def aCk(cP:Env C bq dY ea)(gF:om C bq bJ bX ah){todo:List d0}(aE:jH C bq bJ bX fn aq bj aD ro cs h j U ae w bO am)(ba:j0 U ae n aq I tmps)
 (a:MS todo ah C ⟨fn,n,aq,bj,aD,ro,cs⟩ I h j=some v):Ends C bq bJ bX v (lone (cz U fn bj aD ro tmps bB .returning) am w):=by
 unfold MS at a
 cases bj with
 |cons d ds=>exact adb (bW:= .returning) cP gF Zs trivial aE ba a
 |nil=>
  simp only at a
  split at a
  ·rename_i f b4
   obtain⟨adJ,rE,lb⟩:=aE.ip.fn
   rw[b4]at rE;cases rE
   split at a
   ·rename_i bk Fc
    have ph:(results f tmps).run C.P w= .ok (aT U (one bk)) w/\ey ae bk:=by
     unfold results
     rw[Sem.run_bind,Array.mapM_eq_mapM_toList,Sem.run_map]
     obtain⟨fz,gn⟩:=aCf aE.Y ba (cd:=λx=>match x with| .tmp t=>pure (tmps.getD t Go.undef)| .cell F t=>do loadVar t (<-asAddr (tmps.getD F Go.undef))) (λ_=>rfl) (λ_ _=>rfl) _ _ lb Fc
     refine⟨?_,gn⟩
     refine(congrArg (λr=>Result.andThen (Result.andThen r _) _) fz).trans ?_
     simp only[Result.andThen_ok,Sem.run_pure]
     rw[<-aAT]
    obtain⟨ph,atG⟩:=ph
    cases aD with
    |false=>
     have Pf:(cz U fn [] false ro tmps bB .returning).leaving C.P w (.returned (aT U (one bk))):=⟨rfl,rfl,rfl,f,b4,ph⟩
     cases cs with
     |nil=>
      simp only[uI,lo,Zf]at a
      subst a
      obtain⟨bQ,cl,cU⟩:=aE.bot rfl
      have iz:=aE.cs
      cases iz with
      |nil=>exact⟨U,w,_, .refl _ _,Pf,bQ,aE.lO⟩
     |cons c rest=>
      refine acv gF aE Zs (aAS atG) (λg e3 D=> ?_) a
      subst D
      exact step_leave_returned Pf
    |true=>
     cases cs with
     |nil=>have:=(aE.bot rfl).2.1;cases this
     |cons c rest=>
      obtain⟨he,aS,lz,da,w2,gD,nA,j4,lX⟩:=c
      obtain⟨sR,h7,iw,e3,rfl,bR,cm,cX,d4,dN,dc⟩:=aE.cs.inv
      have qV:=step_going_returned (P:=C.P) (fr:=cz U fn [] true ro tmps bB .returning) (c:=cz U he gD j4 lX h7 iw (g8 U nA)) (cs:=e3) (w:=w) (v:=aT U (one bk)) rfl ⟨rfl,rfl,f,b4,ph⟩
      refine .head qV ?_
      cases nA with
      |run=>simp[uI]at a
      |returning=>
       have cF:ah .returning w2 ⟨he,aS,lz,gD,j4,lX,rest⟩ da h j=some v:=a
       exact gF _ _ _ _ _ _ _ _ _ _ _ _ v cF U ae w sR h7 iw e3 ⟨aE.Y,aE.lO,aE.ir,ZD dN aE.kF,cX,trivial,d4,dc,bR⟩
      |panicking fK=>
       have cF:ah (yB fK) w2 ⟨he,aS,lz,gD,j4,lX,rest⟩ da h j=some v:=a
       have D:({cz U he gD j4 lX h7 iw (g8 U (.panicking fK))with mode:=settle (cz U he gD j4 lX h7 iw (g8 U (.panicking fK))).mode}:Frame)=cz U he gD j4 lX h7 iw (g8 U (yB fK)):=by
        rw[show(cz U he gD j4 lX h7 iw (g8 U (.panicking fK))).mode=g8 U (.panicking fK) from rfl,aCY]
        rfl
       rw[D]
       have aj:jH C bq bJ bX he lz gD j4 lX rest h j U ae w sR e3:=⟨aE.Y,aE.lO,aE.ir,ZD dN aE.kF,cX,d4,dc⟩
       exact gF _ _ _ _ _ _ _ _ _ _ _ _ v cF U ae w sR h7 iw e3 (aj.XK (aEw fK) (aEv cm) bR)
   ·simp at a
  ·simp at a
def aBV(U:dd)(fK:List s9)(bW:lJ):raised (g8 U bW) (fK.map (uL U))=g8 U (FZ fK bW):=by
 cases bW<;>simp[g8,raised,FZ]
def aBM{fK:List s9}{bW:lJ}(a:ru ae (.panicking fK))(cF:ru ae bW):ru ae (FZ fK bW):=by
 cases bW with
 |panicking q1=>
  intro p ay
  rcases Zz.1 ay with ak|ak
  ·exact a p ak
  ·exact cF p ak
 |_=>exact a
def aBg(cP:Env C bq dY ea)(gF:om C bq bJ bX ah){todo:List d0}{fK:List s9}(bV:ru ae (.panicking fK))(aE:jH C bq bJ bX fn aq bj aD ro cs h j U ae w bO am)(ba:j0 U ae n aq I tmps)
 (a:MR fK todo ah C ⟨fn,n,aq,bj,aD,ro,cs⟩ I h j=some v):Ends C bq bJ bX v (lone (cz U fn bj aD ro tmps bB (g8 U (.panicking fK))) am w):=by
 unfold MR at a
 cases bj with
 |cons d ds=>exact adb (bW:= .panicking fK) cP gF Zs bV aE ba a
 |nil=>
  simp only at a
  cases cs with
  |nil=>simp at a
  |cons c rest=>
   obtain⟨he,aS,lz,da,w2,gD,nA,j4,lX⟩:=c
   obtain⟨sR,h7,iw,e3,rfl,bR,cm,cX,d4,dN,dc⟩:=aE.cs.inv
   obtain⟨f,b4,_⟩:=aE.ip.fn
   have qV:=step_going_panicked (P:=C.P) (fr:=cz U fn [] aD ro tmps bB (g8 U (.panicking fK))) (c:=cz U he gD j4 lX h7 iw (g8 U nA)) (cs:=e3) (w:=w) (chain:=fK.map (uL U)) ⟨rfl,rfl,f,b4⟩
   refine .head qV ?_
   have D:({cz U he gD j4 lX h7 iw (g8 U nA)with mode:=raised (cz U he gD j4 lX h7 iw (g8 U nA)).mode (fK.map (uL U))}:Frame)=cz U he gD j4 lX h7 iw (g8 U (FZ fK nA)):=by
    rw[show(cz U he gD j4 lX h7 iw (g8 U nA)).mode=g8 U nA from rfl,aBV]
    rfl
   rw[D]
   have cF:ah (FZ fK nA) w2 ⟨he,aS,lz,gD,j4,lX,rest⟩ (vV w2 da) h j=some v:=a
   have aj:jH C bq bJ bX he lz gD j4 lX rest h j U ae w sR e3:=⟨aE.Y,aE.lO,aE.ir,ZD dN aE.kF,cX,d4,dc⟩
   exact gF _ _ _ _ _ _ _ _ _ _ _ _ v cF U ae w sR h7 iw e3 (aj.XK (by cases nA<;>simp[FZ]) (aBM bV cm) bR.drop)
def ajx(cP:Env C bq dY ea)(qX:om C bq bJ bX ah):om C bq bJ bX λbW todo cd I h j=>Xq ah C bW todo cd I h j:=by
 intro bW todo fn n aq bj aD ro cs I h j v cF U ae w dj tmps bB am c8
 cases bW with
 |run=>
  obtain⟨aE,ba⟩:=c8.apH
  have M:ajy todo ah C ⟨fn,n,aq,bj,aD,ro,cs⟩ I h j=some v:=cF
  cases ba with
  |plain aH x4=>
   cases aH with
   |nil=>
    have al:pk none ah C [] ⟨fn,n,aq,bj,aD,ro,cs⟩ I h j=some v:=M
    exact Wc qX (.inl ⟨rfl,rfl⟩) aE x4 al
   |cons aG aH=>
    rename_i F x u bB
    have al:ag8 F ah C u ⟨fn,n,aq,bj,aD,ro,cs⟩ I h j=some v:=M
    have go:∀u bB,mj C U ae aq u bB->ah .run u ⟨fn,n,aq,bj,aD,ro,cs⟩ I h j=some v->Ends C bq bJ bX v (lone (cz U fn bj aD ro tmps bB .run) am w):=
     λu bB aH a=>qX _ _ _ _ _ _ _ _ _ _ _ _ v a U ae w dj tmps bB am (aE.state (.plain aH x4))
    cases aG with
    |code f6=>exact acW cP qX aE x4 _ u bB f6 aH al
    |inBlock=>exact .head aDv (go u bB aH al)
    |inLoop f6=>exact .head aDw (acW cP qX aE x4 _ _ _ f6 (.cons (.inLoop f6) aH) al)
    |inScope f6=>exact .head aDx (go u bB aH al)
    |Ej aJ=>
     rename_i k
     have aB:Hv k ah C u ⟨fn,n,aq,bj,aD,ro,cs⟩ I h j=some v:=al
     unfold Hv at aB
     split at aB
     ·rename_i st rX he aS lz da params assign body gD ih
      have TB:st≠ .busy->b0 (jv C k) (j6 (bm C h k (some (.loop .exhausted rX he aS lz da params assign body gD))) λh=>ah .run ((rX.map d0.code).toList++u) ⟨fn,n,aq,bj,aD,ro,cs⟩ I h j) none=some v->
       Ends C bq bJ bX v (lone (cz U fn bj aD ro tmps (.endRangeFunc (U k).cO::bB) .run) am w):=by
       intro aw6 bw
       simp only[fb,hf]at bw
       obtain⟨EJ,bw⟩:=bw
       have Ve:∀c,rX=some c->II c:=by
        obtain⟨_,_,_,_,_,_,ui,_⟩:=aE.Y.obj k _ ih aJ
        exact ui
       obtain⟨h7,hc,De,ui,Aw⟩:=Wm aE (iH:= .exhausted) (Do:=rX) (j2 EJ) aJ ih Ve
       refine .head (aDt (run_endLoop hc aw6)) ?_
       refine qX _ _ _ _ _ _ _ _ _ _ _ _ v bw U ae _ dj tmps _ am (Aw.state (.plain ?_ x4))
       cases rX with
       |none=>exact aH
       |some c=>
        have aA:mr C aq c=true:=by
         rcases ui c rfl with rfl|⟨id,rfl⟩<;>rfl
        exact .cons (.code aA) aH
      cases st with
      |busy=>simp at aB
      |ready=>exact TB Zs aB
      |done=>exact TB Zs aB
      |exhausted=>exact TB Zs aB
     ·simp at aB
    |begin=>
     have aB:J9 ah C u ⟨fn,n,aq,bj,aD,ro,cs⟩ I h j=some v:=al
     unfold J9 at aB
     cases ro with
     |none=>simp at aB
     |some k=>
      simp only at aB
      split at aB
      ·rename_i rX he aS lz da params assign body gD ih
       simp only[fb,hf]at aB
       obtain⟨EJ,aB⟩:=aB
       have aJ:=aE.ip.ro k rfl
       have Ve:∀c,rX=some c->II c:=by
        obtain⟨_,_,_,_,_,_,ui,_⟩:=aE.Y.obj k _ ih aJ
        exact ui
       obtain⟨h7,hc,De,ui,Aw⟩:=Wm aE (iH:= .busy) (Do:=rX) (j2 EJ) aJ ih Ve
       refine .head (aDo (run_beginRound hc rfl)) ?_
       exact qX _ _ _ _ _ _ _ _ _ _ _ _ v aB U ae _ dj tmps bB am (Aw.state (.plain aH x4))
      ·simp at aB
  |seq aH aC=>exact ajl cP qX _ _ _ _ _ _ _ _ _ _ aE aH aC M
  |drawn aH bw b1 c6 el=>exact adi cP qX aE aH bw b1 c6.d5 c6 el M
 |returning=>
  have aE:jH C bq bJ bX fn aq bj aD ro cs h j U ae w dj am:=⟨c8.Y,c8.lO,c8.ir,c8.kF,c8.ip,c8.bot,c8.cs⟩
  exact aCk (todo:=todo) cP qX aE c8.todo cF
 |panicking fK=>
  have aE:jH C bq bJ bX fn aq bj aD ro cs h j U ae w dj am:=⟨c8.Y,c8.lO,c8.ir,c8.kF,c8.ip,c8.bot,c8.cs⟩
  exact aBg (todo:=todo) cP qX c8.mode aE c8.todo cF
def aCE(cP:Env C bq dY ea):∀n,om C bq bJ bX (run C n):=by
 intro n
 induction n with
 |zero=>intro bW todo fn n aq bj aD ro cs I h j v a;simp[run]at a
 |succ m qX=>exact ajx cP qX
def aCB(cP:Env C bq dY ea){m f:Nat}{args:List E}(hm:ey ea args)(a:Bl C m f args=some v):
 Calls C.P f (b3 dY args).toArray bq λD b5=>(∃U,D= .returned (aT U v))/\Below bq.heap.size bq b5:=by
 intro su
 have bY:Ends C bq f su v (lone (Frame.enter C.P f (b3 dY args).toArray .normal) su bq):=
  N9 (aCE cP m) cP.base (Below.refl _ _) cP.ir (Zj _) .nil (λ_=>rfl) hm a
 obtain⟨U,b5,fr,H,M,al,aB⟩:=bY
 exact⟨.returned (aT U v),b5,fr,⟨⟨U,rfl⟩,aB⟩,H,al,M⟩
end
noncomputable section
open Go.RowKit (Below)
abbrev xf:=Option (List E×Nat×List (Nat×ag))
def Fu(P:Program)(next:Nat->DataW Unit->Nat->xf):List Field->List (DataW Unit)->Nat->Nat->xf
 |[],[],_,n=>some ([],n,[])
 |f::jN,d::ds,off,n=>b0 (Nat.beq f.offset off) (match next f.type d n with
  |some (k,aV,os)=>b0 (Nat.beq k.length (P.cellsOf f.type)) (match Fu P next jN ds (off+k.length) aV with
   |some (cZ,aX,ul)=>some (k++cZ,aX,os++ul)
   |none=>none) none
  |none=>none) none
 |_,_,_,_=>none
def IL(P:Program)(next:Nat->DataW Unit->Nat->xf)(D:Nat):List (DataW Unit)->Nat->xf
 |[],n=>some ([],n,[])
 |d::ds,n=>match next D d n with
  |some (k,aV,os)=>b0 (Nat.beq k.length (P.cellsOf D)) (match IL P next D ds aV with
   |some (cZ,aX,ul)=>some (k++cZ,aX,os++ul)
   |none=>none) none
  |none=>none
def Ma:Lit->Option E
 | .bool b=>some (.bool b)
 | .int u n=>some (.int u n)
 | .string s=>some (.str (s.map (·.toNat)))
 |_=>none
def Wa(P:Program)(D:Nat)(k:List E):Option E:=match P.underlying D with
 |some (.struct _)=>some (.agg k)
 |some (.array _ _)=>some (.agg k)
 |some _=>(match k with|[v]=>some v|_=>none)
 |none=>none
def QC(P:Program)(u:Nat):Bool:=match P.underlying u with|some .bool=>true|some (.int _)=>true|some .string=>true|_=>false
def Mf(P:Program)(next:Nat->DataW Unit->Nat->xf)(D:Nat):List (Lit×DataW Unit)->Nat->Option (List (E×E)×Nat×List (Nat×ag))
 |[],n=>some ([],n,[])
 |(key,d)::b8,n=>match Ma key,next D d n with
  |some IK,some (k,aV,os)=>(match Wa P D k,Mf P next D b8 aV with
   |some v,some (r,aX,ul)=>some ((IK,v)::r,aX,os++ul)
   |_,_=>none)
  |_,_=>none
def Jn(k:List E):ag:= .cells (S.ofList k 0 .nil) k.length .own
def yd(P:Program):Nat->Nat->DataW Unit->Nat->xf
 |0,_,_,_=>none
 |m+1,t,d,n=>match P.underlying t,d with
  |some .bool, .lit (.bool b)=>some ([.bool b],n,[])
  |some (.int _), .lit (.int u i)=>some ([.int u i],n,[])
  |some .string, .lit (.string s)=>some ([.str (s.map (·.toNat))],n,[])
  |some (.pointer _), .nil=>some ([.cN],n,[])
  |some (.pointer D), .ptr d=>(match yd P m D d (n+1)with
   |some (k,aV,os)=>b0 (Nat.beq k.length (P.cellsOf D)&&Nat.blt 0 k.length) (some ([.ptr n 0],aV,(n,Jn k)::os)) none
   |none=>none)
  |some (.slice _), .nil=>some ([.aY],n,[])
  |some (.slice D), .slice b8 ajq=>(match ajq with
   |[]=>(match IL P (yd P m) D b8 (n+1)with
    |some (k,aV,os)=>b0 (Nat.blt 0 k.length) (some ([.slice n 0 b8.length b8.length],aV,(n,Jn k)::os)) none
    |none=>none)
   |_::_=>none)
  |some (.struct jN), .agg ds=>(match Fu P (yd P m) jN.toList ds 0 n with
   |some (k,aV,os)=>b0 (Nat.beq k.length (P.cellsOf t)) (some (k,aV,os)) none
   |none=>none)
  |some (.array _ D), .agg ds=>(match IL P (yd P m) D ds n with
   |some (k,aV,os)=>b0 (Nat.beq k.length (P.cellsOf t)) (some (k,aV,os)) none
   |none=>none)
  |some (.interface _), .nil=>some ([.nilIface],n,[])
  |some (.map _ _), .nil=>some ([.mL],n,[])
  |some (.map u D), .map b8=>b0 (QC P u) (match Mf P (yd P m) D b8 (n+1)with
   |some (r,aV,os)=>some ([.map n],aV,(n, .look r)::os)
   |none=>none) none
  |_,_=>none
section
variable{C:aN}{P:Program}{w:World}
def th(w:World)(dm:List MemPlace):Prop:=∀b off,MemPlace.cell b off∈dm->∃c t,w.heap[b]? =some (.cells c t (0,0))
def GX(T:ag):Prop:=∀C ae,xh C ae T
def Lays(C:aN)(w:World)(n:Nat)(cs:List Value)(r:List E×Nat×List (Nat×ag)):Prop:=
 n<=r.2.1/\(∀x∈r.2.2,n<=x.1/\x.1<r.2.1/\GX x.2)/\∃f:Nat->nf,∀U ae,(∀b,n<=b->b<r.2.1->U b=f b/\ae b)->cs=b3 U r.1/\ey ae r.1/\∀x∈r.2.2,kL C U ae x.2 (U x.1) w
def Lays.plain{n:Nat}{cs:List Value}{k:List E}(a:∀U ae,cs=b3 U k/\ey ae k):Lays C w n cs (k,n,[]):=
 ⟨Zj _,Zs,λ_=>default,λU ae _=>⟨(a U ae).1,(a U ae).2,Zs⟩⟩
def Lays.app{n aV aX:Nat}{su SI:List Value}{en cZ:List E}{aix ul:List (Nat×ag)}(H:Lays C w n su (en,aV,aix))(M:Lays C w aV SI (cZ,aX,ul)):Lays C w n (su++SI) (en++cZ,aX,aix++ul):=by
 obtain⟨bf,cf,eO,a3⟩:=H
 obtain⟨bQ,cl,fp,cU⟩:=M
 refine⟨ZD bf bQ, ?_,λb=>if b<aV then eO b else fp b, ?_⟩
 ·intro x af
  rcases Zz.1 af with a|a
  ·obtain⟨cE,cA,dT⟩:=cf x a
   exact⟨cE,ZP cA bQ,dT⟩
  ·obtain⟨cE,cA,dT⟩:=cl x a
   exact⟨ZD bf cE,cA,dT⟩
 ·intro U ae dS
  obtain⟨c5,dC,ge⟩:=a3 U ae (λb H M=>by
   have HN:b<aV:=M
   have:=dS b H (ZP M bQ)
   simp only[Zp HN]at this
   exact this)
  obtain⟨c2,cM,e2⟩:=cU U ae (λb H M=>by
   have uZ:¬b<aV:=zt.2 H
   have:=dS b (ZD bf H) M
   simp only[Zg uZ]at this
   exact this)
  refine⟨by rw[D8, <-c5, <-c2],Ch dC cM, ?_⟩
  intro x af
  rcases Zz.1 af with a|a
  ·exact ge x a
  ·exact e2 x a
def FE{α eU:Type}{f:α->Option eU}:∀{k:List α}{r:List eU},k.mapM f=some r->r.length=k.length/\∀(i:Nat) (F:α) (b:eU),k[i]? =some F->r[i]? =some b->f F=some b:=by
 intro k
 induction k with
 |nil=>intro r a;simp at a;subst a;simp
 |cons F k ah=>
  intro r a
  simp only[za,Option.bind_eq_bind,Z1]at a
  obtain⟨b,aj,ik,Y,a⟩:=a
  simp at a;subst a
  obtain⟨H,M⟩:=ah Y
  refine⟨by simp[H],λi fB dD aE kh=> ?_⟩
  cases i with
  |zero=>simp at aE kh;subst aE;subst kh;exact aj
  |succ i=>exact M i fB dD (by simpa using aE) (by simpa using kh)
def ahV{α eU:Type}{f:α->Option eU}{F:α}{k:List α}{r:List eU}(a:(F::k).mapM f=some r):∃b ik,r=b::ik/\f F=some b/\k.mapM f=some ik:=by
 simp only[za,Option.bind_eq_bind,Z1]at a
 obtain⟨b,aj,ik,Y,a⟩:=a
 simp at a;subst a
 exact⟨b,ik,rfl,aj,Y⟩
def th.of{dm cq:List MemPlace}(a:th w dm)(aC:∀x∈cq,x∈dm):th w cq:=λb off aj=>a b off (aC _ aj)
def Nu(C:aN)(w:World)(next:Nat->DataW Unit->Nat->xf)(dG:TypeId->List Value->Option (DataW Unit×List MemPlace)):Prop:=
 ∀t d n r,next t d n=some r->∀cs dm,dG t cs=some (d,dm)->th w dm->Lays C w n cs r
variable{next:Nat->DataW Unit->Nat->xf}{dG:TypeId->List Value->Option (DataW Unit×List MemPlace)}
def ayU(d9:Nu C w next dG){cs:List Value}:∀(jN:List Field) (ds:List (DataW Unit)) (off n:Nat) (r:List E×Nat×List (Nat×ag)),Fu P next jN ds off n=some r->
 ∀ck:List (DataW Unit×List MemPlace),(jN.mapM λf=>dG f.type ((cs.drop f.offset).take (P.cellsOf f.type)))=some ck->ck.map (·.1)=ds->th w (ck.flatMap (·.2))->Lays C w n ((cs.drop off).take r.1.length) r:=by
 intro jN
 induction jN with
 |nil=>
  intro ds off n r a ck _ _ _
  cases ds with
  |nil=>simp[Fu]at a;subst a;exact .plain λU ae=>⟨by simp[b3],trivial⟩
  |cons d ds=>simp[Fu]at a
 |cons f jN ah=>
  intro ds off n r a ck af aJ cx
  cases ds with
  |nil=>simp[Fu]at a
  |cons d ds=>
   simp only[Fu,fb]at a
   obtain⟨U7,a⟩:=a
   have U7:=Zn U7
   split at a
   ·rename_i k aV os Y
    simp only[fb]at a
    obtain⟨az,a⟩:=a
    have az:=Zn az
    split at a
    ·rename_i cZ aX ul hx
     simp at a;subst a
     obtain⟨e,nb,rfl,z,VG⟩:=ahV af
     simp at aJ
     obtain⟨rfl,aJ⟩:=aJ
     have H:=d9 _ _ _ _ Y _ e.2 (by rw[z]) (cx.of (by intro x af;simp;exact .inl af))
     have M:=ah ds (off+k.length) aV _ hx nb VG aJ (cx.of (by intro x af;simp only[YK,Zz];exact .inr af))
     rw[U7, <-az]at H
     have:=H.app M
     simp only[ZL]
     rw[List.take_add,zq]
     exact this
    ·simp at a
   ·simp at a
def adY(cs:List Value)(u:Nat):∀(m i0:Nat),(List.range' i0 m).flatMap (λi=>(cs.drop (i*u)).take u)=(cs.drop (i0*u)).take (m*u):=by
 intro m
 induction m with
 |zero=>intro i0;simp
 |succ m ah=>
  intro i0
  rw[List.range'_succ,YK,ah,Z8 m 1 u,Nat.one_mul,zw (m*u) u,List.take_add,zq,Z8 i0 1 u,Nat.one_mul]
def ahB(d9:Nu C w next dG){D:Nat}{g:Nat->List Value}:∀(ds:List (DataW Unit)) (i0 n:Nat) (r:List E×Nat×List (Nat×ag)),IL P next D ds n=some r->
 ∀ck:List (DataW Unit×List MemPlace),((List.range' i0 ds.length).mapM λi=>dG D (g i))=some ck->ck.map (·.1)=ds->th w (ck.flatMap (·.2))->Lays C w n ((List.range' i0 ds.length).flatMap g) r/\r.1.length=ds.length*P.cellsOf D:=by
 intro ds
 induction ds with
 |nil=>
  intro i0 n r a ck _ _ _
  simp[IL]at a;subst a
  exact⟨.plain λU ae=>⟨by simp[b3],trivial⟩,Zs⟩
 |cons d ds ah=>
  intro i0 n r a ck af aJ cx
  simp only[IL]at a
  split at a
  ·rename_i k aV os Y
   simp only[fb]at a
   obtain⟨az,a⟩:=a
   have az:=Zn az
   split at a
   ·rename_i cZ aX ul hx
    simp at a;subst a
    simp only[ZF,List.range'_succ]at af
    obtain⟨e,nb,rfl,z,VG⟩:=ahV af
    simp at aJ
    obtain⟨rfl,aJ⟩:=aJ
    have H:=d9 _ _ _ _ Y _ e.2 (by rw[z]) (cx.of (by intro x af;simp;exact .inl af))
    obtain⟨M,al⟩:=ah (i0+1) aV _ hx nb VG aJ (cx.of (by intro x af;simp only[YK,Zz];exact .inr af))
    refine⟨?_, ?_⟩
    ·simp only[ZF,List.range'_succ,YK]
     exact H.app M
    ·simp only[ZL,ZF,al,az,Nat.succ_mul]
     omega
   ·simp at a
  ·simp at a
end
end
noncomputable section
open Go.RowKit (Below)
section
variable{C:aN}{P:Program}{w:World}
def Sy{F:Addr}{v:Value}(a:w.cell? F=some v):F.spot=none/\∃ct ty vr,w.heap[F.block]? =some (.cells ct ty vr)/\ct[F.off]? =some v:=by
 unfold World.cell? at a
 split at a
 ·rename_i c ty vr aj
  split at a
  ·cases a
  ·rename_i aC
   refine⟨?_,c,ty,vr,aj,a⟩
   cases bM:F.spot with
   |none=>rfl
   |some x=>rw[bM]at aC;exact absurd rfl aC
 ·cases a
def R5(F:Addr)(V:Nat):(F.add V).block=F.block:=by unfold Addr.add;split<;>rfl
def ace(F:Addr)(V:Nat):(F.add V).off=F.off+V:=by unfold Addr.add;split<;>simp_all
def SA{F:Addr}{u:Nat}{g:List Value}{ct:Array Value}{ty:TypeId}{vr:Nat×Nat}(aj:w.heap[F.block]? =some (.cells ct ty vr))(a:w.cells? 0 F u=some g):g=(ct.toList.drop F.off).take u/\g.length=u:=by
 unfold World.cells? at a
 rw[Zp (zd _)]at a
 obtain⟨H,M⟩:=FE a
 rw[List.length_range]at H
 have key:∀V,V<u->ct[F.off+V]? =g[V]? :=by
  intro V bF
  have bV:g[V]? =some g[V]:=Ze Zo
  have:=M V V g[V] (by simp[bF]) bV
  obtain⟨_,Hd,aEp,aHu,cE,cA⟩:=Sy this
  rw[R5,aj]at cE
  cases cE
  rw[ace]at cA
  rw[cA,bV]
 refine⟨YS λV=> ?_,H⟩
 by_cases bF:V<u
 ·rw[YW bF,Yi, <-key V bF];simp
 ·rw[Z6 Zo,Z6 Zx]
def WG(k:List E):GX (Jn k):=λ_ _=>⟨λ_ _ _ a=>(by cases a),λ_ _ _ a=>(by cases a;exact I6)⟩
def aAN(k:List (E×E)):GX (.look k):=λ_ _=>⟨λ_ _ _ a=>(by cases a),λ_ _ _ a=>(by cases a)⟩
def W7{U:dd}{ae:Nat->Prop}{k:List E}{pl:nf}{ct:Array Value}{ty:TypeId}(aj:w.heap[pl.cO]? =some (.cells ct ty (0,0)))(az:(ct.toList.drop pl.ek).take k.length=b3 U k)(g:ey ae k)(cx:0<k.length):kL C U ae (Jn k) pl w:=by
 have eM:k.length<=ct.size-pl.ek:=by
  have:=congrArg List.length az
  rw[kA]at this
  simp at this
  omega
 refine⟨ct,ty,0,0,aj,rfl,Zo,λi v bD=> ?_⟩
 rw[m5]at bD
 have aG:i<k.length:=(Zb.1 bD).1
 refine⟨?_,Ci g bD⟩
 have:=congrArg (λx:List Value=>x[i]?) az
 simp only[YW aG,Yi,ZQ,B4,bD,ZS]at this
 exact this
def Lays.block{n aV:Nat}{os:List (Nat×ag)}{cs:List Value}{k:List E}{ac:E}{x:Value}{cT:ag}(pl:nf)(a:Lays C w (n+1) cs (k,aV,os))(bi:GX cT)
 (ih:∀U ae,U n=pl->ae n->cs=b3 U k->ey ae k->kL C U ae cT pl w/\x=aT U ac/\co ae ac):Lays C w n [x] ([ac],aV,(n,cT)::os):=by
 obtain⟨bf,cf,f,a3⟩:=a
 have bf:n+1<=aV:=bf
 refine⟨by simp only;omega, ?_,λb=>if b=n then pl else f b, ?_⟩
 ·intro e z
  rcases Zu.1 z with rfl|z
  ·exact⟨Zj _,by simp only;omega,bi⟩
  ·obtain⟨cE,cA,dT⟩:=cf e z
   exact⟨Zo,cA,dT⟩
 ·intro U ae dS
  have aF:=dS n (Zj _) (by simp only;omega)
  simp only[ZG]at aF
  obtain⟨c5,dC,ge⟩:=a3 U ae (λb H M=>by
   have:=dS b Zo M
   have dn:b≠n:=Zo
   simp only[Zg dn]at this
   exact this)
  obtain⟨fz,gn,iG⟩:=ih U ae aF.1 aF.2 c5 dC
  refine⟨by simp[b3,gn],⟨iG,trivial⟩, ?_⟩
  intro e z
  rcases Zu.1 z with rfl|z
  ·simp only[aF.1];exact fz
  ·exact ge e z
def aiH{α eU:Type}{f:α->eU}{F m:List eU}(a:F.Perm m):∀k:List α,k.map f=F->∃bS:List α,bS.Perm k/\bS.map f=m:=by
 induction a with
 |nil=>intro k a;simp at a;subst a;exact⟨[], .refl _,rfl⟩
 |cons x _ ah=>
  intro k a
  cases k with
  |nil=>simp at a
  |cons e k=>
   simp at a
   obtain⟨bS,H,M⟩:=ah k a.2
   exact⟨e::bS,H.cons e,by simp[a.1,M]⟩
 |swap x e ft=>
  intro k a
  cases k with
  |nil=>simp at a
  |cons p k=>
   cases k with
   |nil=>simp at a
   |cons ak k=>
    simp at a
    obtain⟨rfl,rfl,rfl⟩:=a
    exact⟨ak::p::k, .swap _ _ _,Zs⟩
 |trans _ _ VI LZ=>
  intro k a
  obtain⟨en,H,M⟩:=VI k a
  obtain⟨cZ,al,aB⟩:=LZ en M
  exact⟨cZ,al.trans H,aB⟩
def insert_perm{qz:Type}(x:Lit×DataW qz):∀k,(DataW.insert x k).Perm (x::k):=by
 intro k
 induction k with
 |nil=>exact .refl _
 |cons e k ah=>
  simp only[DataW.insert]
  split
  ·exact .refl _
  ·exact(ah.cons e).trans (.swap _ _ _)
def sorted_perm{qz:Type}:∀k:List (Lit×DataW qz),(k.foldr DataW.insert []).Perm k:=by
 intro k
 induction k with
 |nil=>exact .refl _
 |cons x k ah=>exact(insert_perm x _).trans (ah.cons x)
def ayv{u:Nat}{v:Value}{key:Lit}{IK:E}(ay:QC P u=true)(a:keyOf P u v=some key)(aH:Ma key=some IK)(U:dd)(ae:Nat->Prop):v=aT U IK/\co ae IK:=by
 unfold QC at ay
 unfold keyOf at a
 have D:mapKey P u v=some key:=by
  cases bc:P.underlying u with
  |none=>rw[bc]at ay;cases ay
  |some ac=>rw[bc]at a ay;cases ac<;>first|exact a|cases ay
 unfold mapKey at D
 split at D
 ·simp at D;subst D;simp[Ma]at aH;subst aH;exact⟨rfl,trivial⟩
 ·split at D
  ·rename_i ak rZ n _ bM
   simp at D;subst D;simp[Ma]at aH;subst aH
   exact⟨by rw[bM.1];rfl,trivial⟩
  ·cases D
 ·split at D
  ·rename_i s _ _
   simp at D;subst D;simp[Ma]at aH;subst aH
   refine⟨by simp only[aT];rw[Sn], ?_⟩
   intro x af
   simp at af
   obtain⟨b,_,rfl⟩:=af
   exact b.toNat_lt
  ·cases D
 ·cases D
def aEJ{D:Nat}{v:Value}{k:List E}{ac:E}{U:dd}{ae:Nat->Prop}(b4:v.formed P D=true)(bc:Wa P D k=some ac)(aA:v.cells.toList=b3 U k)(g:ey ae k):v=aT U ac/\co ae ac:=by
 unfold Wa at bc
 unfold Value.formed at b4
 cases aJ:P.underlying D with
 |none=>rw[aJ]at bc;cases bc
 |some MY=>
  rw[aJ]at bc b4
  have agg:(∃cs,v= .agg cs)->ac= .agg k->v=aT U ac/\co ae ac:=by
   rintro⟨cs,rfl⟩ rfl
   refine⟨?_,g⟩
   simp only[Value.cells]at aA
   simp only[aT, <-aA]
  have aC4:v.cells= #[v]->(∃x,k=[x]/\ac=x)->v=aT U ac/\co ae ac:=by
   rintro H ⟨x,rfl,rfl⟩
   rw[H]at aA
   simp[b3]at aA
   exact⟨aA,g.1⟩
  cases v<;>cases MY<;>simp only at b4 bc<;>first
   |(cases b4;done)
   |(simp at bc;exact agg ⟨_,rfl⟩ bc.symm)
   |(
     split at bc
     ·simp at bc;exact aC4 rfl ⟨_,rfl,bc.symm⟩
     ·cases bc)
end
end
noncomputable section
open Go.RowKit (Below)
section
variable{C:aN}{P:Program}{w:World}
variable{next:Nat->DataW Unit->Nat->xf}{dG:TypeId->List Value->Option (DataW Unit×List MemPlace)}
def ayT(d9:Nu C w next dG){u D:Nat}(ay:QC P u=true):∀(b8:List (Lit×DataW Unit)) (n:Nat) (r:List (E×E)×Nat×List (Nat×ag)),Mf P next D b8 n=some r->
 ∀fm:List (MapEntry×((Lit×DataW Unit)×List MemPlace)),fm.map (·.2.1)=b8->(∀bE∈fm,keyOf P u bE.1.key=some bE.2.1.1/\bE.1.val.formed P D=true/\dG D bE.1.val.cells.toList=some (bE.2.1.2,bE.2.2)/\th w bE.2.2)->
 n<=r.2.1/\(∀x∈r.2.2,n<=x.1/\x.1<r.2.1/\GX x.2)/\r.1.length=fm.length/\∃f:Nat->nf,∀U ae,(∀b,n<=b->b<r.2.1->U b=f b/\ae b)->
  fm.map (·.1)=(List.zipWith (λ(p:E×E) (bE:MapEntry×((Lit×DataW Unit)×List MemPlace))=>(p.1,p.2,bE.1.born)) r.1 fm).map (mw U)/\(∀p∈r.1,co ae p.1/\co ae p.2)/\∀x∈r.2.2,kL C U ae x.2 (U x.1) w:=by
 intro b8
 induction b8 with
 |nil=>
  intro n r a fm HX _
  simp[Mf]at a;subst a
  simp at HX;subst HX
  exact⟨Zj _,Zs,rfl,λ_=>default,λU ae _=>⟨rfl,Zs,Zs⟩⟩
 |cons F b8 ah=>
  obtain⟨key,d⟩:=F
  intro n r a fm HX k7
  simp only[Mf]at a
  split at a
  ·rename_i IK k aV os avE aF
   split at a
   ·rename_i v j9 aX ul bD Y
    simp at a;subst a
    cases fm with
    |nil=>simp at HX
    |cons bE fm=>
     simp at HX
     obtain⟨IB,IC⟩:=HX
     obtain⟨bP,b2,cI,dL⟩:=k7 bE (Zv ..)
     rw[IB]at bP cI
     obtain⟨bf,cf,eO,a3⟩:=d9 _ _ _ _ aF _ _ cI dL
     obtain⟨bQ,cl,cb,fp,cU⟩:=ah aV _ Y fm IC (λbE cx=>k7 bE (Zt _ cx))
     have bf:n<=aV:=bf
     have bQ:aV<=aX:=bQ
     refine⟨ZD bf bQ, ?_,by simpa using cb,λb=>if b<aV then eO b else fp b, ?_⟩
     ·intro x af
      rcases Zz.1 af with ak|ak
      ·obtain⟨cE,cA,dT⟩:=cf x ak
       exact⟨cE,ZP cA bQ,dT⟩
      ·obtain⟨cE,cA,dT⟩:=cl x ak
       exact⟨ZD bf cE,cA,dT⟩
     ·intro U ae dS
      obtain⟨c5,dC,ge⟩:=a3 U ae (λb H M=>by
       have HN:b<aV:=M
       have:=dS b H (ZP M bQ)
       simp only[Zp HN]at this
       exact this)
      obtain⟨c2,cM,e2⟩:=cU U ae (λb H M=>by
       have uZ:¬b<aV:=zt.2 H
       have:=dS b (ZD bf H) M
       simp only[Zg uZ]at this
       exact this)
      obtain⟨bR,cm⟩:=ayv ay bP avE U ae
      obtain⟨Gn,aj6⟩:=aEJ b2 bD c5 dC
      refine⟨?_, ?_, ?_⟩
      ·simp only[ZJ,List.zipWith_cons_cons,c2]
       congr 1
       obtain⟨⟨aHX,aHY,aHW⟩,_⟩:=bE
       simp only[mw]at bR Gn ⊢
       rw[<-bR, <-Gn]
      ·intro p ay
       rcases Zu.1 ay with rfl|ay
       ·exact⟨cm,aj6⟩
       ·exact cM p ay
      ·intro x af
       rcases Zz.1 af with ak|ak
       ·exact ge x ak
       ·exact e2 x ak
   ·simp at a
  ·simp at a
def akA{fm:List (MapEntry×((Lit×DataW Unit)×List MemPlace))}:∀(r:List (E×E)) (fm:List (MapEntry×((Lit×DataW Unit)×List MemPlace))),r.length=fm.length->
 (List.zipWith (λ(p:E×E) (bE:MapEntry×((Lit×DataW Unit)×List MemPlace))=>(p.1,p.2,bE.1.born)) r fm).map (λD=>(D.1,D.2.1))=r:=by
 intro r
 induction r with
 |nil=>intro fm _;simp
 |cons p r ah=>
  intro fm a
  cases fm with
  |nil=>simp at a
  |cons bE fm=>simp[ah fm (by simpa using a)]
def azB{α eU:Type}{f g:α->Option eU}:∀{k:List α},(∀x∈k,f x=g x)->k.mapM f=k.mapM g:=by
 intro k
 induction k with
 |nil=>intro _;rfl
 |cons F k ah=>intro a;simp[za,a F Zs,ah λx af=>a x (by simp[af])]
def asr{α eU:Type}{f g:α->List eU}:∀{k:List α},(∀x∈k,f x=g x)->k.flatMap f=k.flatMap g:=by
 intro k
 induction k with
 |nil=>intro _;rfl
 |cons F k ah=>intro a;simp[YK,a F Zs,ah λx af=>a x (by simp[af])]
end
end
noncomputable section
open Go.RowKit (Below)
section
variable{C:aN}{P:Program}{w:World}
abbrev rd(P:Program)(w:World)(ak:Nat):TypeId->List Value->Option (DataW Unit×List MemPlace):=DataW.trod (λ_=>()) P w 0 (λ_=>true) false ak
def QO{F:Addr}{u:Nat}(a:0<u):MemPlace.cell F.block F.off∈MemPlace.row F u:=by
 unfold MemPlace.row
 exact ZE.2 ⟨0,by simp[a],Zs⟩
def ahD:∀(m ak:Nat),Nu C w (yd P m) (rd P w ak):=by
 intro m
 induction m with
 |zero=>intro ak t d n r a;simp[yd]at a
 |succ m ah=>
  intro ak t d n r a cs dm Y cx
  cases ak with
  |zero=>simp[rd,DataW.trod]at Y
  |succ ak=>
   have L0:=ah ak
   simp only[yd]at a
   split at a
   ·
    rename_i b bc
    simp at a;subst a
    match cs with
    |[]=>simp[rd,DataW.trod,bc]at Y
    |_::_::_=>simp[rd,DataW.trod,bc]at Y
    |[c]=>
     cases c<;>simp[rd,DataW.trod,bc]at Y
     obtain⟨rfl,rfl⟩:=Y
     exact .plain λU ae=>⟨rfl,trivial,trivial⟩
   ·
    rename_i fh u i bc
    simp at a;subst a
    match cs with
    |[]=>simp[rd,DataW.trod,bc]at Y
    |_::_::_=>simp[rd,DataW.trod,bc]at Y
    |[c]=>
     cases c<;>simp[rd,DataW.trod,bc]at Y
     obtain⟨⟨rfl,_⟩,⟨rfl,rfl⟩,rfl⟩:=Y
     exact .plain λU ae=>⟨rfl,trivial,trivial⟩
   ·
    rename_i s bc
    simp at a;subst a
    match cs with
    |[]=>simp[rd,DataW.trod,bc]at Y
    |_::_::_=>simp[rd,DataW.trod,bc]at Y
    |[c]=>
     cases c<;>simp[rd,DataW.trod,bc]at Y
     obtain⟨_,rfl,rfl⟩:=Y
     refine .plain λU ae=>⟨by simp only[b3,aT];rw[Sn], ?_,trivial⟩
     intro x af
     simp at af
     obtain⟨b,_,rfl⟩:=af
     exact b.toNat_lt
   ·
    rename_i D bc
    simp at a;subst a
    match cs with
    |[]=>simp[rd,DataW.trod,bc]at Y
    |_::_::_=>simp[rd,DataW.trod,bc]at Y
    |[c]=>
     cases c<;>simp[rd,DataW.trod,bc]at Y
     rename_i F
     cases F with
     |none=>exact .plain λU ae=>⟨rfl,trivial,trivial⟩
     |some F=>simp[Z1]at Y
   ·
    rename_i D d bc
    split at a
    ·rename_i k aV os az
     simp only[fb,Zq,Zf]at a
     obtain⟨⟨H,M⟩,rfl⟩:=a
     have H:=Zn H
     have M:=l6 M
     match cs with
     |[]=>simp[rd,DataW.trod,bc]at Y
     |_::_::_=>simp[rd,DataW.trod,bc]at Y
     |[c]=>
      cases c<;>simp[rd,DataW.trod,bc]at Y
      rename_i T
      cases T with
      |none=>simp at Y
      |some F=>
       simp only[Z1,Function.comp,Yj,YA,DataW.ptr.injEq]at Y
       obtain⟨dg,aA,x,af,rfl,rfl⟩:=Y
       obtain⟨ct,ty,aj⟩:=cx F.block F.off (Zz.2 (.inl (QO Zo)))
       obtain⟨bP,b2⟩:=SA aj aA
       have E7:F.spot=none:=by
        unfold World.cells? at aA
        rw[Zp (zd _)]at aA
        obtain⟨bR,cm⟩:=FE aA
        have:=cm 0 0 dg[0] (by rw[List.getElem?_range Zo]) (Ze Zo)
        exact(Sy (show w.cell? F=some _ from this)).1
       have AV:=L0 _ _ _ _ az dg x.2 af (cx.of λe z=>Zz.2 (.inr z))
       refine Lays.block ⟨F.block,F.off,0⟩ AV (WG k) λU ae dS fZ iz bV=>⟨W7 aj ?_ bV M, ?_,fZ⟩
       ·simp only
        rw[H, <-bP,iz]
       ·simp only[aT,dS]
        obtain⟨rj,apw,cB⟩:=F
        have E7:cB=none:=E7
        subst E7
        rfl
    ·simp at a
   ·
    rename_i D bc
    simp at a;subst a
    match cs with
    |[]=>simp[rd,DataW.trod,bc]at Y
    |_::_::_=>simp[rd,DataW.trod,bc]at Y
    |[c]=>
     cases c<;>(try(simp[rd,DataW.trod,bc]at Y;done))
     rename_i F len cap
     cases F with
     |none=>
      simp only[rd,DataW.trod,bc]at Y
      split at Y<;>simp_all
      exact .plain λU ae=>⟨rfl,trivial,trivial⟩
     |some F=>
      simp[rd,DataW.trod,bc,Z1]at Y
   ·
    rename_i D b8 ajq bc
    split at a
    ·split at a
     ·rename_i k aV os az
      simp only[fb,Zf]at a
      obtain⟨M,rfl⟩:=a
      have M:=l6 M
      match cs with
      |[]=>simp[rd,DataW.trod,bc]at Y
      |_::_::_=>simp[rd,DataW.trod,bc]at Y
      |[c]=>
       cases c<;>(try(simp[rd,DataW.trod,bc]at Y;done))
       rename_i T len cap
       cases T with
       |none=>
        simp only[rd,DataW.trod,bc]at Y
        split at Y<;>simp_all
       |some F=>
        simp only[rd,DataW.trod,bc]at Y
        split at Y
        ·rename_i nn
         simp only[Z1,Yj,YA,DataW.slice.injEq,ZG]at Y
         obtain⟨S2,bA,rest,x3,⟨bC,cu⟩,rfl⟩:=Y
         have awK:rest=[]:=by simpa using cu
         subst awK
         obtain⟨bR,_⟩:=FE x3
         obtain⟨cm,cX⟩:=FE bA
         simp at bR cm
         have h0:cap=len:=Zo
         subst h0
         have eM:b8.length=cap:=by rw[<-bC];simp[cm]
         simp only[Z0,ZX,Yh]at cx
         obtain⟨i2,jF⟩:=ahB (C:=C) (w:=w) L0 (D:=D) (g:=λi=>(w.cells? 0 (F.add (i*P.cellsOf D)) (P.cellsOf D)).getD []) b8 0 (n+1) _ az S2
          (by
           rw[eM, <-List.range_eq_range']
           rw[<-bA]
           have k7:∀i∈List.range cap,(w.cells? 0 (F.add (i*P.cellsOf D)) (P.cellsOf D)).isSome=true:=by
            intro i aG
            have k8:i<cap:=by simpa using aG
            have:=cX i i S2[i] (by simp[k8]) (Ze Zo)
            simp only[Z1]at this
            obtain⟨dx,cE,_⟩:=this
            rw[cE];rfl
           exact azB λi aG=>by
            have:=k7 i aG
            cases bM:w.cells? 0 (F.add (i*P.cellsOf D)) (P.cellsOf D)with
            |none=>rw[bM]at this;cases this
            |some dx=>simp)
          bC (cx.of λe z=>Zz.2 (.inr z))
         simp only at jF
         have AP:0<cap*P.cellsOf D:=by rw[<-eM, <-jF];exact M
         obtain⟨ct,ty,aj⟩:=cx F.block F.off (Zz.2 (.inl (QO (by rw[cm];exact AP))))
         have aH:0<P.cellsOf D:=Nat.pos_of_mul_pos_left AP
         have tN:0<cap:=Nat.pos_of_mul_pos_right AP
         have W:∀i,i<cap->∃dx,w.cells? 0 (F.add (i*P.cellsOf D)) (P.cellsOf D)=some dx:=by
          intro i k8
          have:=cX i i S2[i] (by simp[k8]) (Ze Zo)
          simp only[Z1]at this
          obtain⟨dx,cE,_⟩:=this
          exact⟨dx,cE⟩
         have E7:F.spot=none:=by
          obtain⟨dx,cE⟩:=W 0 tN
          have pZ:=(SA (F:=F.add (0*P.cellsOf D)) (by rw[R5];exact aj) cE).2
          unfold World.cells? at cE
          rw[Zp (zd _)]at cE
          obtain⟨_,cm⟩:=FE cE
          have:=cm 0 0 dx[0] (by rw[List.getElem?_range Zo]) (Ze Zo)
          have aK:(F.add (0*P.cellsOf D)).add 0=F:=by simp[Addr.add]
          rw[aK]at this
          exact(Sy this).1
         have ave:(List.range' 0 b8.length).flatMap (λi=>(w.cells? 0 (F.add (i*P.cellsOf D)) (P.cellsOf D)).getD [])=(ct.toList.drop F.off).take (cap*P.cellsOf D):=by
          rw[eM]
          have:∀i∈List.range' 0 cap,(w.cells? 0 (F.add (i*P.cellsOf D)) (P.cellsOf D)).getD []=((ct.toList.drop F.off).drop (i*P.cellsOf D)).take (P.cellsOf D):=by
           intro i aG
           have k8:i<cap:=by simpa using aG
           obtain⟨dx,cE⟩:=W i k8
           obtain⟨bP,_⟩:=SA (F:=F.add (i*P.cellsOf D)) (by rw[R5];exact aj) cE
           rw[cE,YJ,bP,ace,zq]
          rw[asr this,adY,zs,Yg]
         rw[ave]at i2
         refine Lays.block ⟨F.block,F.off,0⟩ i2 (WG k) λU ae dS fZ iz bV=>⟨W7 aj ?_ bV M, ?_,fZ⟩
         ·simp only
          rw[jF,eM];exact iz
         ·simp only[aT,dS,eM]
          obtain⟨rj,apw,cB⟩:=F
          have E7:cB=none:=E7
          subst E7
          rfl
        ·simp at Y
     ·simp at a
    ·simp at a
   ·
    rename_i jN ds bc
    split at a
    ·rename_i k aV os az
     simp only[fb,Zf]at a
     obtain⟨H,rfl⟩:=a
     have H:=Zn H
     have c8:rd P w (ak+1) t cs=(if cs.length=P.cellsOf t then(jN.toList.mapM λf=>rd P w ak f.type ((cs.drop f.offset).take (P.cellsOf f.type))).map λck=>(.agg (ck.map (·.1)),ck.flatMap (·.2))else none):=by
      simp only[rd]
      rw[DataW.trod_step]
      unfold DataW.trodStep
      rw[bc]
     rw[c8]at Y
     split at Y
     case isFalse=>cases Y
     rename_i eM
     simp only[Yj,YA,DataW.agg.injEq]at Y
     obtain⟨ck,af,aJ,rfl⟩:=Y
     have:=ayU (C:=C) (w:=w) L0 (cs:=cs) jN.toList ds 0 n _ az ck af aJ cx
     simp only[Yg]at this
     rw[ZA Zo]at this
     exact this
    ·simp at a
   ·
    rename_i u D ds bc
    split at a
    ·rename_i k aV os az
     simp only[fb,Zf]at a
     obtain⟨H,rfl⟩:=a
     have H:=Zn H
     have c8:rd P w (ak+1) t cs=(if cs.length=P.cellsOf t then((List.range u).mapM λi=>rd P w ak D ((cs.drop (i*P.cellsOf D)).take (P.cellsOf D))).map λck=>(.agg (ck.map (·.1)),ck.flatMap (·.2))else none):=by
      simp only[rd]
      rw[DataW.trod_step]
      unfold DataW.trodStep
      rw[bc]
     rw[c8]at Y
     split at Y
     case isFalse=>cases Y
     rename_i eM
     simp only[Yj,YA,DataW.agg.injEq]at Y
     obtain⟨ck,af,aJ,rfl⟩:=Y
     have kD:ds.length=u:=by
      have:=(FE af).1
      rw[<-aJ];simpa using this
     obtain⟨i2,jF⟩:=ahB (C:=C) (w:=w) L0 (D:=D) (g:=λi=>(cs.drop (i*P.cellsOf D)).take (P.cellsOf D)) ds 0 n _ az ck (by rw[kD, <-List.range_eq_range'];exact af) aJ cx
     rw[adY,zs,Yg,ZA (by simp only at jF;omega)]at i2
     exact i2
    ·simp at a
   ·
    rename_i D bc
    simp at a;subst a
    match cs with
    |[]=>simp[rd,DataW.trod,bc]at Y
    |_::_::_=>simp[rd,DataW.trod,bc]at Y
    |[c]=>
     cases c<;>simp[rd,DataW.trod,bc]at Y
     all_goals first
      |exact .plain λU ae=>⟨rfl,trivial,trivial⟩
      |(split at Y<;>simp_all)
   ·
    rename_i u D bc
    simp at a;subst a
    match cs with
    |[]=>simp[rd,DataW.trod,bc]at Y
    |_::_::_=>simp[rd,DataW.trod,bc]at Y
    |[c]=>
     cases c<;>simp[rd,DataW.trod,bc]at Y
     rename_i b
     cases b with
     |none=>exact .plain λU ae=>⟨rfl,trivial,trivial⟩
     |some b=>
      simp only at Y
      split at Y
      ·split at Y
       ·simp only[Z1]at Y
        obtain⟨dp,_,al⟩:=Y
        split at al<;>simp at al
       ·cases Y
      ·cases Y
   ·
    rename_i u D b8 bc
    simp only[fb]at a
    obtain⟨ay,a⟩:=a
    split at a
    ·rename_i fz aV os az
     simp at a;subst a
     match cs with
     |[]=>simp[rd,DataW.trod,bc]at Y
     |_::_::_=>simp[rd,DataW.trod,bc]at Y
     |[c]=>
      cases c<;>(try(simp[rd,DataW.trod,bc]at Y;done))
      rename_i b
      cases b with
      |none=>simp[rd,DataW.trod,bc]at Y
      |some b=>
       simp only[rd,DataW.trod,bc]at Y
       split at Y
       ·rename_i Kz ff aj
        split at Y
        ·simp only[Z1]at Y
         obtain⟨dp,bY,Y⟩:=Y
         split at Y
         ·simp only[Zf,YA,DataW.map.injEq]at Y
          obtain⟨aC,rfl⟩:=Y
          obtain⟨bR,cm⟩:=FE bY
          have aGh:dp.length=Kz.toList.length:=bR
          have aur:(Kz.toList.zip dp).map (·.2.1)=dp.map (·.1):=by
           have SZ:(λx:MapEntry×((Lit×DataW Unit)×List MemPlace)=>x.2.1)=(λe:(Lit×DataW Unit)×List MemPlace=>e.1)∘Prod.snd:=rfl
           rw[SZ, <-Yt,List.map_snd_zip Zo]
          obtain⟨fm,aeY,aeZ⟩:=aiH (sorted_perm (dp.map (·.1))).symm (Kz.toList.zip dp) aur
          rw[aC]at aeZ
          have k7:∀bE∈fm,keyOf P u bE.1.key=some bE.2.1.1/\bE.1.val.formed P D=true/\rd P w ak D bE.1.val.cells.toList=some (bE.2.1.2,bE.2.2)/\th w bE.2.2:=by
           intro bE IB
           have IC:=aeY.mem_iff.1 IB
           obtain⟨i,aG⟩:=Z2.1 IC
           rw[List.getElem?_zip_eq_some]at aG
           have:=cm i _ _ aG.1 aG.2
           simp only[Z1]at this
           obtain⟨key,cE,cA⟩:=this
           split at cA
           ·rename_i b4
            simp only[Yj]at cA
            obtain⟨e,dT,fG⟩:=cA
            rw[<-fG]
            refine⟨cE,b4,dT,cx.of λp ay=> ?_⟩
            refine Zt _ (List.mem_flatMap.2 ⟨bE.2,Zl aG.2, ?_⟩)
            rw[<-fG];exact ay
           ·cases cA
          obtain⟨bf,cf,a0,f,a3⟩:=ayT (C:=C) (w:=w) L0 ay b8 (n+1) _ az fm aeZ k7
          have bf:n+1<=aV:=bf
          refine⟨by simp only;omega, ?_,λx=>if x=n then⟨b,0,0⟩else f x, ?_⟩
          ·intro e z
           rcases Zu.1 z with rfl|z
           ·exact⟨Zj _,by simp only;omega,aAN _⟩
           ·obtain⟨cE,cA,dT⟩:=cf e z
            exact⟨Zo,cA,dT⟩
          ·intro U ae dS
           have aF:=dS n (Zj _) (by simp only;omega)
           simp only[ZG]at aF
           obtain⟨c5,dC,ge⟩:=a3 U ae (λx H M=>by
            have:=dS x Zo M
            have dn:x≠n:=Zo
            simp only[Zg dn]at this
            exact this)
           refine⟨by simp[b3,aT,aF.1],⟨aF.2,trivial⟩, ?_⟩
           intro e z
           rcases Zu.1 z with rfl|z
           ·simp only[aF.1]
            have agn:(fm.map (·.1)).Perm Kz.toList:=by
             have:=aeY.map (·.1)
             rwa[List.map_fst_zip Zo]at this
            rw[c5]at agn
            obtain⟨mT,fF,h5⟩:=aiH agn _ rfl
            refine⟨Kz,ff,mT,aj,h5.symm, ?_, ?_⟩
            ·have:=fF.map (λD=>(D.1,D.2.1))
             rwa[akA (fm:=fm) _ fm a0]at this
            ·intro x af
             have rN:=fF.mem_iff.1 af
             have bn:(x.1,x.2.1)∈fz:=by
              have:=List.mem_map_of_mem (f:=λD:E×E×Nat=>(D.1,D.2.1)) rN
              rwa[akA (fm:=fm) _ fm a0]at this
             exact dC _ bn
           ·exact ge e z
         ·simp at Y
        ·simp at Y
       ·simp at Y
    ·simp at a
   ·simp at a
end
end
noncomputable section
open Go.RowKit (Below)
def ob:List (Nat×ag)->S ag->S ag
 |[],I=>I
 |(b,T)::k,I=>ob k (I.set b (some T))
section
variable{C:aN}{P:Program}{w:World}
def Xe(b:Nat)(T:ag):∀(k:List (Nat×ag)) (I:S ag),(ob k I).get b=some T->(b,T)∈k\/I.get b=some T:=by
 intro k
 induction k with
 |nil=>intro I a;exact .inr a
 |cons x k ah=>
  obtain⟨dD,o'⟩:=x
  intro I a
  rcases ah _ a with a|a
  ·exact .inl (Zt _ a)
  ·rw[S.jP]at a
   by_cases D:dD=b
   ·subst D;simp at a;subst a;exact .inl (Zv ..)
   ·simp[D]at a;exact .inr a
def aj9{nm:String}{g:Nat}{cs:Array Value}(bV:P.globalNamed nm=some g)(a:w.var? P nm=some cs):∃ty vr,w.heap[g]? =some (.cells cs ty vr):=by
 unfold World.var? at a
 rw[bV]at a
 simp only[ZZ]at a
 split at a
 ·rename_i c ty vr aj
  simp at a;subst a
  exact⟨ty,vr,aj⟩
 ·cases a
def X2(C:aN)(w:World)(qh n:Nat)(r:Nat×List (Nat×ag)):Prop:=
 n<=r.1/\(∀x∈r.2,(x.1<qh\/n<=x.1)/\(x.1<qh\/x.1<r.1)/\GX x.2)/\
  ∃f:Nat->nf,∀U ae,(∀b,n<=b->b<r.1->U b=f b/\ae b)->(∀g,g<qh->U g=⟨g,0,0⟩/\ae g)->∀x∈r.2,kL C U ae x.2 (U x.1) w
end
end
noncomputable section
open Go.RowKit (Below)
def yY:List Nat->Bool
 |[]=>true
 |x::s=>Nat.blt x 256&&yY s
def A3:List Nat->Nat->Nat->Int
 |[],_,_=> .negSucc 0
 |x::s,c,i=>b0 (Nat.beq x c) (.ofNat i) (A3 s c (i+1))
def ym(cd:Nat)(f:Nat)(args:List E):Option E:=
 b0 (Nat.beq f cd) (match args with
  |[.str s, .int .u8 (.ofNat c)]=>b0 (yY s&&Nat.blt c 256) (some (.int .i64 (A3 s c 0))) none
  |_=>none) none
section
variable{C:aN}{P:Program}{w:World}
def R7:∀{s:List Nat},yY s=true->∀x∈s,x<256:=by
 intro s
 induction s with
 |nil=>intro _ x a;cases a
 |cons F s ah=>
  intro a x af
  simp only[yY,Zq]at a
  rcases Zu.1 af with rfl|af
  ·exact l6 a.1
  ·exact ah a.2 x af
def ax3:∀(s:List Nat) (c i:Nat),(∀x∈s,x<256)->c<256->A3 s c i=(if Lib.indexByte (s.map UInt8.ofNat) (UInt8.ofNat c)= -1 then -1 else Lib.indexByte (s.map UInt8.ofNat) (UInt8.ofNat c)+i):=by
 intro s
 induction s with
 |nil=>intro c i _ _;simp[A3,Lib.indexByte]
 |cons F s ah=>
  intro c i aC aA
  have aE:=aC F (Zv ..)
  have aG:=ah c (i+1) (λx af=>aC x (Zt _ af)) aA
  simp only[A3,ZJ,Lib.indexByte,ia]
  by_cases D:F=c
  ·subst D;simp
  ·have dn:(UInt8.ofNat F==UInt8.ofNat c)=false:=by
    rw[beq_eq_false_iff_ne]
    intro ak
    have:=congrArg UInt8.toNat ak
    simp at this
    rw[YH aE,YH aA]at this
    exact D this
   rw[Zg D,aG,dn]
   have Cy:=Lib.indexByte_ge (s.map UInt8.ofNat) (UInt8.ofNat c)
   by_cases ak:Lib.indexByte (s.map UInt8.ofNat) (UInt8.ofNat c)= -1
   ·simp[ak]
   ·simp only[ak,ZB]
    have:¬(Lib.indexByte (s.map UInt8.ofNat) (UInt8.ofNat c)+1= -1):=Zo
    simp[ak,this]
    omega
def ait{cd f:Nat}{args:List E}{v:E}(a:ym cd f args=some v):f=cd/\∃s c,args=[.str s, .int .u8 (.ofNat c)]/\v= .int .i64 (A3 s c 0)/\(∀x∈s,x<256)/\c<256:=by
 unfold ym at a
 rw[ia]at a
 split at a
 ·rename_i D
  split at a
  ·rename_i s c
   simp only[fb,Zq,Zf]at a
   exact⟨D,s,c,rfl,a.2.symm,R7 a.1.1,l6 a.1.2⟩
  ·simp at a
 ·simp at a
def aA4{cd:Nat}{fn:Func}(b4:P.funcs[cd]? =some fn)(aF:(fn.name== "runtime.NumGoroutine")=false)(aj:fn.body=none)(H:Extern.findNext fn=none)(M:Extern.find fn=some Extern.BytealgIndexByte.indexByte)
 {f:Nat}{args:List E}{v:E}(a:ym cd f args=some v)(U:dd)(w:World):(callFunc f (b3 U args).toArray).run P w= .ok (.value (aT U v)) w:=by
 obtain⟨rfl,s,c,rfl,rfl,aC,aA⟩:=ait a
 have ph:=Lib.run_indexByteString (P:=P) (gj s) (Int.ofNat c) w
 have D:Lib.indexByte (gj s).data.toList (Int.ofNat c).toNat.toUInt8=A3 s c 0:=by
  rw[ax3 s c 0 aC aA]
  have:(gj s).data.toList=s.map UInt8.ofNat:=by simp[gj]
  rw[this]
  have Cy:=Lib.indexByte_ge (s.map UInt8.ofNat) (UInt8.ofNat c)
  show Lib.indexByte (s.map UInt8.ofNat) (UInt8.ofNat c)=_
  split
  ·rename_i ak;exact ak
  ·simp
 rw[D]at ph
 have iz:(b3 U [.str s, .int .u8 (.ofNat c)]).toArray= #[.string (gj s), .int .u8 (Int.ofNat c)]:=rfl
 rw[iz]
 have Pm:¬fn.name= "runtime.NumGoroutine":=by simpa using aF
 simp only[callFunc,Sem.run_bind]
 simp[b4,Pm,aj,H,M,aT]
 exact congrArg (λr=>Result.andThen r (λF b5=>Result.ok (Next.value F) b5)) ph
end
end
noncomputable section
open Go.RowKit (Below)
mutual
def rY:E->Bool
 | .bool _=>true
 | .int _ _=>true
 | .str s=>yY s
 | .cN=>true
 | .aY=>true
 | .mL=>true
 | .nilFunc=>true
 | .nilIface=>true
 | .iface _ v=>rY v
 | .agg k=>Dp k
 | .tuple k=>Dp k
 |_=>false
def Dp:List E->Bool
 |[]=>true
 |v::k=>rY v&&Dp k
end
mutual
def QD:∀v,rY v=true->co (λ_=>False) v
 | .bool _,_=>trivial
 | .int _ _,_=>trivial
 | .str s,a=>R7 (by simpa[rY]using a)
 | .cN,_=>trivial
 | .aY,_=>trivial
 | .mL,_=>trivial
 | .nilFunc,_=>trivial
 | .nilIface,_=>trivial
 | .iface _ v,a=>by
   have:=QD v (by simpa[rY]using a)
   simpa[co]using this
 | .agg k,a=>ME k (by simpa[rY]using a)
 | .tuple k,a=>ME k (by simpa[rY]using a)
 | .ptr _ _,a=>by simp[rY]at a
 | .slice ..,a=>by simp[rY]at a
 | .fl ..,a=>by simp[rY]at a
 | .map _,a=>by simp[rY]at a
 | .func ..,a=>by simp[rY]at a
def ME:∀k,Dp k=true->ey (λ_=>False) k
 |[],_=>trivial
 |v::k,a=>by
  simp only[Dp,Zq]at a
  exact⟨QD v a.1,ME k a.2⟩
end
def aiI{v:E}(a:rY v=true):(∀U ja,aT U v=aT ja v)/\∀ae,co ae v:=
 ⟨λ_ _=>rm (λ_ a=>a.elim) (QD v a),λ_=>pT (λ_ a=>a.elim) v (QD v a)⟩
def WP{k:List E}(a:Dp k=true):(∀U ja,b3 U k=b3 ja k)/\∀ae,ey ae k:=
 ⟨λ_ _=>y8 (λ_ a=>a.elim) (ME k a),λ_=>sy (λ_ a=>a.elim) k (ME k a)⟩
def aiJ{F b:E}(a:QB F b=true):F=b:=by
 unfold QB at a
 split at a
 ·simp only[ap5,Y3]at a;rw[a]
 ·simp only[Zq,ahn,A0,Zh]at a;rw[a.1,a.2]
 ·rw[(Mv _ _).1 a]
 ·rfl
 ·rfl
 ·rfl
 ·cases a
def aBw:∀{F b:List E},FW F b=true->F=b:=by
 intro F
 induction F with
 |nil=>intro b a;cases b<;>simp[FW]at a;rfl
 |cons x F ah=>
  intro b a
  cases b with
  |nil=>simp[FW]at a
  |cons e b=>
   simp only[FW,Zq]at a
   rw[aiJ a.1,ah a.2]
def SO(x e:E):Bool:=match x,e with
 | .agg F, .agg b=>FW F b
 |x,e=>QB x e
def aq3{F b:E}(a:SO F b=true):F=b:=by
 unfold SO at a
 split at a
 ·rw[aBw a]
 ·exact aiJ a
def Hs:List E->List E->Bool
 |[],[]=>true
 |F::x,b::e=>SO F b&&Hs x e
 |_,_=>false
def aq4:∀{F b:List E},Hs F b=true->F=b:=by
 intro F
 induction F with
 |nil=>intro b a;cases b<;>simp[Hs]at a;rfl
 |cons x F ah=>
  intro b a
  cases b with
  |nil=>simp[Hs]at a
  |cons e b=>
   simp only[Hs,Zq]at a
   rw[aq3 a.1,ah a.2]
def yc(f:Nat)(args:List E):List (Nat×List E×E)->Option E
 |[]=>none
 |(g,cB,v)::k=>b0 (Nat.beq f g) (b0 (Hs args cB) (some v)<|yc f args k) (yc f args k)
def ahu{f:Nat}{args:List E}{v:E}:∀{k:List (Nat×List E×E)},yc f args k=some v->(f,args,v)∈k:=by
 intro k
 induction k with
 |nil=>intro a;simp[yc]at a
 |cons x k ah=>
  obtain⟨g,cB,ac⟩:=x
  intro a
  simp only[yc]at a
  rw[fw]at a
  split at a
  ·rename_i ak
   rw[fw]at a
   split at a
   ·rename_i cA
    simp at a;subst a
    rw[Zn ak,aq4 cA]
    exact Zv ..
   ·exact Zt _ (ah a)
  ·exact Zt _ (ah a)
def rV(T:Nat->List E->Option E)(k:List (Nat×List E×E))(f:Nat)(args:List E):Option E:=
 match yc f args k with|some v=>some v|none=>T f args
def MX:List (Nat×List E×E)->Bool
 |[]=>true
 |x::k=>(Dp x.2.1&&rY x.2.2)&&MX k
def ajF:∀{k:List (Nat×List E×E)},MX k=true->∀x∈k,Dp x.2.1=true/\rY x.2.2=true:=by
 intro k
 induction k with
 |nil=>intro _ x a;cases a
 |cons F k ah=>
  intro a x af
  simp only[MX,Zq]at a
  rcases Zu.1 af with rfl|af
  ·exact a.1
  ·exact ah a.2 x af
section
variable{P:Program}{w:World}
def arw{ah:hX}{C:aN}{f:Nat}{args:List E}{b:Bool}{cs:List g6}{h:S ag}{j:Nat}{v:E}(a:o5 ah C f args b cs h j=some v):∃fn c,C.P.funcs[f]? =some fn/\fn.body=some c:=by
 unfold o5 at a
 split at a
 ·rename_i fn b4
  split at a
  ·rename_i c aA;exact⟨fn,c,b4,aA⟩
  ·simp at a
 ·simp at a
def aiv{G:S ag}{a8 qh:Nat}{T:Nat->List E->Option E}{dY:dd}{ea:Nat->Prop}{k:List (Nat×List E×E)}(cP:Env ⟨P,G,a8,T,qh⟩ w dY ea)(ba:MX k=true)
 (k7:∀x∈k,∃m,Bl ⟨P,G,a8,T,qh⟩ m x.1 x.2.1=some x.2.2):RJ ⟨P,G,a8,rV T k,qh⟩ w:=by
 refine⟨λf args v bi=> ?_,λf args v bi U rb aj=> ?_⟩
 ·have bi:rV T k f args=some v:=bi
  unfold rV at bi
  split at bi
  ·rename_i ac bc
   simp at bi;subst bi
   obtain⟨H,M⟩:=ajF ba _ (ahu bc)
   exact⟨aiI M,WP H⟩
  ·exact cP.hz.val f args v bi
 ·have bi:rV T k f args=some v:=bi
  unfold rV at bi
  split at bi
  ·rename_i ac bc
   simp at bi;subst bi
   have bn:=ahu bc
   obtain⟨H,M⟩:=ajF ba _ bn
   obtain⟨m,ph⟩:=k7 _ bn
   obtain⟨fn,c,b4,aA⟩:=arw ph
   right
   have aF:fn.name≠ "runtime.NumGoroutine":=by simpa using cP.k0.num f fn b4 (by simp[aA])
   refine⟨?_, ?_⟩
   ·have rE:P.funcs[f]? =some fn:=b4
    simp[callFunc,rE,aF,aA]
   ·have au8:=cP.later aj
    have:=aCB au8 (f:=f) (args:=args) ((WP H).2 ea) ph
    rw[(WP H).1 U dY]
    exact this.mono λD b5 ⟨⟨ja,bA⟩,kh⟩=>⟨by rw[bA,(aiI M).1 ja U],kh⟩
  ·exact cP.hz.ok f args v bi U rb aj
end
end
noncomputable section
open Go.RowKit (Below)
def J8:List (String×Nat)->String->Option Nat
 |[],_=>none
 |(F,ac)::k,s=>b0 (F==s) (some ac) (J8 k s)
def P6(P:Program)(nm:List (String×Nat))(t:Nat)(d:DataW Unit)(n:Nat):xf:=match P.underlying t,d with
 |some (.interface _), .iface s (.ptr l8)=>(match J8 nm s with
  |some ac=>(match P.underlying ac with
   |some (.pointer _)=>(match yd P 39 ac (.ptr l8) n with
    |some ([x],aV,os)=>some ([.iface ac x],aV,os)
    |_=>none)
   |_=>none)
  |none=>none)
 |_,_=>yd P 40 t d n
def ho(P:Program)(nm:List (String×Nat)):List (String×DataW Unit)->Nat->Nat×List (Nat×ag)
 |[],n=>(n,[])
 |(v,d)::r,n=>match P.globalNamed v with
  |some g=>(match P.globals[g]? with
   |some jj=>(match P6 P nm jj.type d n with
    |some (k,aV,os)=>b0 (Nat.blt 0 k.length) (match ho P nm r aV with|(aX,ul)=>(aX,(g,Jn k)::(os++ul))) (ho P nm r n)
    |none=>ho P nm r n)
   |none=>ho P nm r n)
  |none=>ho P nm r n
def BK(P:Program)(nm:List (String×Nat)):Prop:=∀x∈nm,∀ac,P.typeName? 3 ac=some x.1->ac=x.2
section
variable{C:aN}{P:Program}{w:World}
def apK{s:String}{ac:Nat}:∀{k:List (String×Nat)},J8 k s=some ac->(s,ac)∈k:=by
 intro k
 induction k with
 |nil=>intro a;simp[J8]at a
 |cons x k ah=>
  obtain⟨F,b⟩:=x
  intro a
  simp only[J8]at a
  rw[fw]at a
  split at a
  ·rename_i ak
   simp at a ak;subst a;subst ak
   exact Zv ..
  ·exact Zt _ (ah a)
def ayV{nm:List (String×Nat)}(g1:BK P nm){t:Nat}{d:DataW Unit}{n:Nat}{r:List E×Nat×List (Nat×ag)}(a:P6 P nm t d n=some r){ak:Nat}{cs:List Value}{dm:List MemPlace}(Y:rd P w ak t cs=some (d,dm))(cx:th w dm)
 (f6:∀ac v,cs=[.iface ac v]->Value.okWide P w .any 0 ac v):Lays C w n cs r:=by
 unfold P6 at a
 split at a
 ·rename_i i1 s l8 aG
  split at a
  ·rename_i ac bc
   split at a
   ·rename_i D ay
    split at a
    ·rename_i x aV os az
     simp at a;subst a
     obtain⟨eO,uz,v,rfl,aF,H⟩:=iface_of_trod aG Y
     obtain rfl:=g1 _ (apK bc) uz aF
     obtain⟨fp,F,dg,rZ,bD,_,_,_⟩:=ptr_of_trod ay H
     have ok:=f6 _ _ rfl
     have AY:v= .pointer (some F):=by
      unfold Value.okWide at ok
      simp only[ay]at ok
      unfold Cell.okWide at ok
      cases v<;>simp[Value.cells,Cell.ok,ay]at ok bD
      subst bD
      rfl
     have gp:=ahD (C:=C) (w:=w) 39 eO _ _ _ _ az _ _ H cx
     obtain⟨bf,cf,f,a3⟩:=gp
     refine⟨bf,cf,f,λU ae dS=> ?_⟩
     obtain⟨c5,dC,ge⟩:=a3 U ae dS
     refine⟨?_,⟨dC.1,trivial⟩,ge⟩
     subst AY
     have D:Value.pointer (some F)=aT U x:=by
      simp[Value.cells,b3]at c5
      exact c5
     simp only[b3,aT,D]
    ·simp at a
   ·simp at a
  ·simp at a
 ·exact ahD (C:=C) (w:=w) 40 ak _ _ _ _ a cs dm Y cx
def ahC{nm:List (String×Nat)}(g1:BK P nm){qh:Nat}:∀(laid:List (String×DataW Unit)) (n:Nat) (dm:List MemPlace),P.globals.size=qh->DataW.LaidVars P w laid dm->th w dm->
 (∀b off,MemPlace.cell b off∈dm->∀ac v,w.cell? ⟨b,off,none⟩=some (.iface ac v)->Value.okWide P w .any 0 ac v)->X2 C w qh n (ho P nm laid n):=by
 intro laid
 induction laid with
 |nil=>
  intro n dm _ _ _ _
  exact⟨Zj _,by simp[ho],λ_=>default,λU ae _ _=>by simp[ho]⟩
 |cons F r ah=>
  obtain⟨v0,d⟩:=F
  intro n dm Lx gp cx afA
  obtain⟨g,t,cs,fuel,p,ak,bV,ba,bD,aJ,Y,rfl⟩:=gp
  have agT:th w ak:=cx.of λe z=>Zz.2 (.inr z)
  have afB:∀b off,MemPlace.cell b off∈ak->∀ac v,w.cell? ⟨b,off,none⟩=some (.iface ac v)->Value.okWide P w .any 0 ac v:=λb off aj=>afA b off (Zz.2 (.inr aj))
  have skip:ho P nm ((v0,d)::r) n=ho P nm r n->X2 C w qh n (ho P nm ((v0,d)::r) n):=λD=>by rw[D];exact ah n ak Lx Y agT afB
  simp only[Yj]at ba
  obtain⟨jj,EN,rfl⟩:=ba
  have UG:g<qh:=by rw[<-Lx];exact(ZO.1 EN).1
  have f6:∀ac v,cs.toList=[.iface ac v]->Value.okWide P w .any 0 ac v:=by
   intro ac v iz
   obtain⟨ty,vr,aj⟩:=aj9 bV bD
   have eA:cs.size=1:=by have:=congrArg List.length iz;simpa using this
   refine afA g 0 (Zz.2 (.inl (Zz.2 (.inl (QO (F:=⟨g,0,none⟩) (u:=cs.size) Zo))))) ac v ?_
   have aK:cs[0]? =some (.iface ac v):=by rw[<-ZQ,iz];rfl
   simp[World.cell?,aj,aK]
  cases az:P6 P nm jj.type d n with
  |none=>exact skip (by simp[ho,bV,EN,az])
  |some fz=>
   obtain⟨k,aV,os⟩:=fz
   by_cases AP:0<k.length
   ·have bA:ho P nm ((v0,d)::r) n=((ho P nm r aV).1,(g,Jn k)::(os++(ho P nm r aV).2)):=by
     have:Nat.blt 0 k.length=true:=by simp[Nat.blt];omega
     simp[ho,bV,EN,az,this]
    obtain⟨bf,cf,eO,a3⟩:=ayV (C:=C) (w:=w) g1 az (cs:=cs.toList) (dm:=p) aJ (cx.of λe z=>Zz.2 (.inl (Zz.2 (.inr z)))) f6
    obtain⟨bQ,cl,fp,cU⟩:=ah aV ak Lx Y agT afB
    have bf:n<=aV:=bf
    rw[bA]
    refine⟨ZD bf bQ, ?_,λb=>if b<aV then eO b else fp b, ?_⟩
    ·intro x af
     rcases Zu.1 af with rfl|af
     ·exact⟨.inl UG, .inl UG,WG k⟩
     ·rcases Zz.1 af with ak|ak
      ·obtain⟨cE,cA,dT⟩:=cf x ak
       exact⟨.inr cE, .inr (ZP cA bQ),dT⟩
      ·obtain⟨cE,cA,dT⟩:=cl x ak
       exact⟨cE.imp id (λa=>ZD bf a),cA,dT⟩
    ·intro U ae dS dZ
     obtain⟨c5,dC,ge⟩:=a3 U ae (λb H M=>by
      have HN:b<aV:=M
      have:=dS b H (ZP M bQ)
      simp only[Zp HN]at this
      exact this)
     have e2:=cU U ae (λb H M=>by
      have uZ:¬b<aV:=zt.2 H
      have:=dS b (ZD bf H) M
      simp only[Zg uZ]at this
      exact this) dZ
     intro x af
     rcases Zu.1 af with rfl|af
     ·obtain⟨axE,aFO⟩:=dZ g UG
      obtain⟨ty,vr,aj⟩:=aj9 bV bD
      have eA:cs.size=k.length:=by
       have:=congrArg List.length c5
       rw[kA]at this
       simpa using this
      obtain⟨fX,eB,kh⟩:=cx g 0 (Zz.2 (.inl (Zz.2 (.inl (QO (F:=⟨g,0,none⟩) (u:=cs.size) Zo)))))
      rw[aj]at kh
      have awL:vr=(0,0):=by
       simp only[Zf,Obj.cells.injEq]at kh
       exact kh.2.2
      rw[awL]at aj
      simp only[axE]
      refine W7 (pl:=⟨g,0,0⟩) aj ?_ dC AP
      simp only[Yg]
      rw[ZA Zx]
      exact c5
     ·rcases Zz.1 af with ak|ak
      ·exact ge x ak
      ·exact e2 x ak
   ·exact skip (by
     have mb:k.length=0:=Zo
     have:Nat.blt 0 k.length=false:=by rw[mb];rfl
     simp[ho,bV,EN,az,this])
def V9{nm:List (String×Nat)}(g1:BK P nm){laid:List (String×DataW Unit)}{hz:Nat->List E->Option E}(a:laidMet P laid w):
 ∃U ae,dq ⟨P,ob (ho P nm laid P.globals.size).2 .nil,(ho P nm laid P.globals.size).1,hz,P.globals.size⟩ U ae .nil (ho P nm laid P.globals.size).1 w.heap.size w/\
  ti ⟨P,ob (ho P nm laid P.globals.size).2 .nil,(ho P nm laid P.globals.size).1,hz,P.globals.size⟩ U ae:=by
 obtain⟨dm,gp,_,mb⟩:=a
 have cx:th w dm:=λb off aj=>(mb b off aj).1
 obtain⟨bf,cf,f,a3⟩:=ahC (C:=⟨P,ob (ho P nm laid P.globals.size).2 .nil,(ho P nm laid P.globals.size).1,hz,P.globals.size⟩) g1 laid P.globals.size dm rfl gp cx (λb off aj=>(mb b off aj).2)
 generalize aF:ho P nm laid P.globals.size=r at bf cf a3 ⊢
 obtain⟨a8,os⟩:=r
 simp only at bf cf a3 ⊢
 have U6:∀b T,W ⟨P,ob os .nil,a8,hz,P.globals.size⟩ .nil b=some T->(b,T)∈os/\b<a8:=by
  intro b T bi
  unfold W at bi
  rw[fw]at bi
  split at bi
  ·rename_i aj
   rcases Xe b T os .nil bi with ak|ak
   ·exact⟨ak,l6 aj⟩
   ·simp at ak
  ·simp at bi
 refine⟨λb=>if b<P.globals.size then⟨b,0,0⟩else f b,λb=>b<a8,⟨Zj _,λ_ a=>a,λb T bi=>(U6 b T bi).2, ?_, ?_, ?_, ?_⟩, ?_⟩
 ·intro b T bi _
  have:=a3 (λb=>if b<P.globals.size then⟨b,0,0⟩else f b) (λb=>b<a8) (λb H M=>⟨by rw[Zg Zo],M⟩) (λg bV=>⟨by rw[Zp bV],Zo⟩) (b,T) (U6 b T bi).1
  exact this
 ·intro b dD T o' _ _ d _ _ aj
  exact absurd d (zt.2 aj)
 ·intro b T aj _ d
  exact absurd d (zt.2 aj)
 ·intro b T bi _
  exact(cf (b,T) (U6 b T bi).1).2.2 _ _
 ·intro g bV
  have bV:g<P.globals.size:=bV
  exact⟨Zo,by simp[bV],by simp[bV]⟩
def Env.ayL{nm:List (String×Nat)}(g1:BK P nm){laid:List (String×DataW Unit)}{cd:Nat}{fn:Func}(k0:yS P)(b4:P.funcs[cd]? =some fn)(aF:(fn.name== "runtime.NumGoroutine")=false)(aj:fn.body=none)(H:Extern.findNext fn=none)
 (M:Extern.find fn=some Extern.BytealgIndexByte.indexByte)(a:laidMet P laid w):
 ∃U ae,Env ⟨P,ob (ho P nm laid P.globals.size).2 .nil,(ho P nm laid P.globals.size).1,ym cd,P.globals.size⟩ w U ae:=by
 obtain⟨U,ae,al,aB⟩:=V9 (hz:=ym cd) g1 a
 refine⟨U,ae,k0,⟨λf args v bi=> ?_,λf args v bi U w _=> .inl (aA4 b4 aF aj H M bi U w)⟩,al,aB⟩
 obtain⟨rfl,s,c,rfl,rfl,aC,aA⟩:=ait bi
 exact⟨⟨λ_ _=>rfl,λ_=>trivial⟩,λ_ _=>rfl,λ_=>⟨aC,trivial,trivial⟩⟩
end
end
noncomputable section
open Go.RowKit (Below)
def yl(cd:Nat)(T:Nat->List E->Option E)(f:Nat)(args:List E):Option E:=
 b0 (Nat.beq f cd) (match args with
  |[.str s]=>b0 (yY s&&Nat.ble s.length 281474976710656) (some (.str s)) none
  |_=>none) (T f args)
section
variable{P:Program}{w:World}
def ais{cd f:Nat}{T:Nat->List E->Option E}{args:List E}{v:E}(a:yl cd T f args=some v):
 (f=cd/\∃s,args=[.str s]/\v= .str s/\(∀x∈s,x<256)/\s.length<=281474976710656)\/T f args=some v:=by
 unfold yl at a
 rw[ia]at a
 split at a
 ·rename_i D
  split at a
  ·rename_i s
   simp only[fb,Zq,Zf]at a
   exact .inl ⟨D,s,rfl,a.2.symm,R7 a.1.1,j2 a.1.2⟩
  ·simp at a
 ·exact .inr a
def Env.ayK{nm:List (String×Nat)}(g1:BK P nm){laid:List (String×DataW Unit)}{T:Nat->List E->Option E}{cd:Nat}{fn:Func}{c:Code}(b4:P.funcs[cd]? =some fn)(aF:(fn.name== "runtime.NumGoroutine")=false)(aj:fn.body=some c)
 (atV:∀(s:ByteArray) (w:World),s.size<=281474976710656->Calls P cd #[.string s] w λD b5=>D= .returned (.string s)/\Below w.heap.size w b5)(a:laidMet P laid w){dY:dd}{ea:Nat->Prop}
 (cP:Env ⟨P,ob (ho P nm laid P.globals.size).2 .nil,(ho P nm laid P.globals.size).1,T,P.globals.size⟩ w dY ea):
 ∃U ae,Env ⟨P,ob (ho P nm laid P.globals.size).2 .nil,(ho P nm laid P.globals.size).1,yl cd T,P.globals.size⟩ w U ae:=by
 obtain⟨U,ae,al,aB⟩:=V9 (hz:=yl cd T) g1 a
 refine⟨U,ae,cP.k0,⟨λf args v bi=> ?_,λf args v bi U rb kC=> ?_⟩,al,aB⟩
 ·rcases ais bi with ⟨rfl,s,rfl,rfl,aC,_⟩|bi
  ·exact⟨⟨λ_ _=>rfl,λ_=>aC⟩,λ_ _=>rfl,λ_=>⟨aC,trivial⟩⟩
  ·exact cP.hz.val f args v bi
 ·rcases ais bi with ⟨rfl,s,rfl,rfl,aC,az⟩|bi
  ·right
   have Pm:¬fn.name= "runtime.NumGoroutine":=by simpa using aF
   refine⟨by simp[callFunc,b4,Pm,aj], ?_⟩
   have:=atV (gj s) rb (by simpa[gj,ByteArray.size]using az)
   exact this
  ·exact cP.hz.ok f args v bi U rb kC
end
end
noncomputable section
open Go.RowKit (Below)
def ajm(C:aN):List (Nat×ag)->S ag->S ag
 |[],I=>I
 |(b,T)::k,I=>ajm C k (bm C I b (some T))
def pick(C:aN)(h:S ag):List Nat->List (Nat×ag)
 |[]=>[]
 |b::k=>match W C h b with|some T=>(b,T)::pick C h k|none=>pick C h k
def adn(C:aN):List Nat->Bool
 |[]=>true
 |b::k=>jv C b&&adn C k
def ayq(C:aN)(L:List Nat)(h:S ag):S ag:=ajm C (pick C h L) .nil
def aBv(todo:List d0):Bool:=match todo with| .drawn .. ::_=>false|_=>true
def aig:List g6->Bool
 |[]=>true
 |c::k=>(match c with|⟨_,_,_,_,todo,_,_,_,_⟩=>(match todo with| .Bv .. ::_=>false|_=>true))&&aig k
def nU(C:aN)(L:List Nat)(b:hX):hX:=λbW todo cd I h j=>match cd with
 |⟨fn,n,aq,bj,aD,ro,cs⟩=>b0 (aBv todo&&aig cs&&adn C L) (b bW todo ⟨fn,n,aq,bj,aD,ro,cs⟩ I (ayq C L h) j) none
section
variable{C:aN}{U dY:dd}{ae ea:Nat->Prop}{h R:S ag}{j bx:Nat}{w:World}
variable{bq:World}{bJ:Nat}{bX:List Frame}{v:E}{b:hX}
def oV(C:aN)(bq:World)(bJ:Nat)(bX:List Frame)(bW:lJ)(todo:List d0)(cd:iV)(I:S E)(h:S ag)(j:Nat)(v:E):Prop:=
 ∀U ae w dj tmps bB am,DX C bq bJ bX bW todo cd.fn cd.n cd.aq cd.bj cd.aD cd.ro cd.cs I h j U ae w dj tmps bB am->Ends C bq bJ bX v (lone (cz U cd.fn cd.bj cd.aD cd.ro tmps bB (g8 U bW)) am w)
open Classical in
def only(A7:lJ)(XB:List d0)(lM:iV)(sj:S E)(aQ:S ag)(FP:Nat)(v:E):hX:=λbW todo cd I h j=>
 if bW=A7/\todo=XB/\cd=lM/\I=sj/\h=aQ/\j=FP then some v else none
end
end
noncomputable section
open Go.RowKit (Below)
def low(ae:Nat->Prop)(N:Nat)(b:Nat):Prop:=ae b/\b<N
section
variable{ae:Nat->Prop}{N:Nat}
end
end
noncomputable section
open Go.RowKit (Below)
section
variable{C:aN}{U dY:dd}{ae ea:Nat->Prop}{h R:S ag}{j bx N:Nat}{w:World}
variable{bq:World}{bJ g:Nat}{bX:List Frame}{v:E}{b:hX}
open Classical in
def gb(C:aN)(bq:World)(bJ:Nat)(bX:List Frame)(v:E):hX:=λbW todo cd I h j=>if oV C bq bJ bX bW todo cd I h j v then some v else none
def ach:om C bq bJ bX (gb C bq bJ bX v):=by
 intro bW todo fn n aq bj aD ro cs I h j ac bc U ae w dj tmps bB am c8
 unfold gb at bc
 split at bc
 ·rename_i a
  simp at bc;subst bc
  exact a U ae w dj tmps bB am c8
 ·cases bc
def iJ{bW:lJ}{todo:List d0}{cd:iV}{I:S E}(a:oV C bq bJ bX bW todo cd I h j v):gb C bq bJ bX v bW todo cd I h j=some v:=by
 unfold gb
 rw[Zp a]
def asz{eN:d0}{u:List d0}{cd:iV}{I:S E}(aC:E.same 30 v v=true):∀k:List (E×S ag),k≠[]->(∀ac R,(ac,R)∈k->∃h4,pR eN ac=some h4/\oV C bq bJ bX .run (h4::u) cd I R j v)->
 Ak (gb C bq bJ bX v) eN u cd I j k=some v:=by
 intro k
 induction k with
 |nil=>intro a;exact absurd rfl a
 |cons p k m2=>
  obtain⟨ac,R⟩:=p
  intro _ k7
  obtain⟨h4,H,M⟩:=k7 ac R (Zv ..)
  cases k with
  |nil=>simp only[Ak,H];exact iJ M
  |cons ak k=>
   have ah:=m2 Zs (λac R a=>k7 ac R (Zt _ a))
   simp only[Ak,H,iJ M]
   rw[ah]
   simp only[aC,fo]
end
end
end Go.bg

