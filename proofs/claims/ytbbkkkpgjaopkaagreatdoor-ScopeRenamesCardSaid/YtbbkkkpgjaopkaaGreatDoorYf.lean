/- Part of the proof of the last text; no conditions -/
import Derived.Test.YtbbkkkpgjaopkaaGreatDoorYe
import Derived.ChangeReads
import GoSem.ClaimJoined
set_option maxHeartbeats 8000000
set_option linter.all false
namespace Go.bp
open Go.RowKit (Below)
section
variable{C:aM}{J cX dx:cQ}{Y dg dE:Nat->Prop}{h S:R ag}{j aq bd:Nat}{w bO:World}{n am:Nat}{ao:Array Oper}
variable{bi:World}{bz:Nat}{bH:List Frame}{v:z}{ah:g5}
variable{fn:Nat}{aW:List he}{aH:Bool}{ro:Option Nat}{cs:List gh}{H:R z}{tmps:Array Value}{bo:List Item}{ax:List Frame}{bL aE:Nat}
def ajw{an:List (Nat×z)}:∀(k:List e4),Bj C H an h k=true->∀x∈k,∃b,n3 x.g an=some b/\(b=true->∃aa,gr x.op C h an H=some aa/\d1 an x.i=some aa):=by
 intro k
 induction k with
 |nil=>intro _ x a;simp at a
 |cons D k ah=>
  intro a x af
  simp only[Bj]at a
  split at a
  ·simp at a
  ·rename_i bQ
   rcases Zq.1 af with rfl|af
   ·exact⟨false,bQ,Zs⟩
   ·exact ah a x af
  ·rename_i bQ
   split at a
   ·rename_i aa sc I M
    simp only[Zn]at a
    have:=MY _ _ _ a.1
    subst this
    rcases Zq.1 af with rfl|af
    ·exact⟨true,bQ,λ_=>⟨aa,I,M⟩⟩
    ·exact ah a.2 x af
   ·simp at a
def auT{hV:List pa}{o:Nat}{az:List (fR×e4)}:∃s rest,xt hV o az=s::rest/\s.sZ=sm o hV/\s.Sg=CQ o hV/\
 (match az with|[]=>s.e2=none/\rest=[]|e::gY=>s.e2=some e.2/\rest=xt hV (o+1) gY):=by
 cases az with
 |nil=>exact⟨_,_,rfl,rfl,rfl,rfl,rfl⟩
 |cons e az=>exact⟨_,_,rfl,rfl,rfl,rfl,rfl⟩
def yf{o:Nat}:∀{hV:List pa}{x:e4},x∈sm o hV↔∃k∈hV,k.bL=o/\k.x=x:=by
 intro hV
 induction hV with
 |nil=>intro x;simp[sm]
 |cons D hV ah=>
  intro x
  simp only[sm,hw]
  by_cases a:D.bL=o
  ·simp only[a,ZE,Zq,ah]
   constructor
   ·rintro(rfl|⟨k,I,M,ak⟩)
    ·exact⟨D, .inl rfl,a,rfl⟩
    ·exact⟨k, .inr I,M,ak⟩
   ·rintro⟨k,rfl|I,M,ak⟩
    ·exact .inl ak.symm
    ·exact .inr ⟨k,I,M,ak⟩
  ·simp only[a,ZD,ah]
   constructor
   ·rintro⟨k,I,M,ak⟩;exact⟨k, .tail _ I,M,ak⟩
   ·rintro⟨k,I,M,ak⟩
    rcases Zq.1 I with rfl|I
    ·exact absurd M a
    ·exact⟨k,I,M,ak⟩
def atb{o:Nat}:∀{hV:List pa}{k:pa},k∈hV->k.bL<o->o<=k.aE->AG k.x.op=true->k.x∈CQ o hV:=by
 intro hV
 induction hV with
 |nil=>intro k a;simp at a
 |cons D hV ah=>
  intro k az I M ak
  simp only[CQ,eU]
  rcases Zq.1 az with rfl|az
  ·rw[Zp]
   ·exact Zv ..
   ·have bA:Nat.blt k.bL o=true:=by simp[Nat.blt];omega
    have cg:Nat.ble o k.aE=true:=by simpa using M
    simp[bA,cg,ak]
  ·split
   ·exact Zt _ (ah az I M ak)
   ·exact ah az I M ak
def aiq{o:Nat}:∀{hV:List pa},(hV.Pairwise λD b=>D.x.i<b.x.i)->(sm o hV).Pairwise λD b=>D.i≠b.i:=by
 intro hV
 induction hV with
 |nil=>intro _;simp[sm]
 |cons D hV ah=>
  intro a
  rw[List.pairwise_cons]at a
  simp only[sm,hw]
  split
  ·rw[List.pairwise_cons]
   refine⟨λx af=> ?_,ah a.2⟩
   obtain⟨k,I,_,rfl⟩:=yf.1 af
   have:=a.1 k I;omega
  ·exact ah a.2
def ap9(op:jl):nb op=true/\l3 op= .e2\/nb op=false/\(l3 op= .hC\/l3 op= .make):=by
 unfold nb
 cases l3 op<;>simp
def arn(cA:Env C bi dx dE)(fW:mQ C bi bz bH ah){o:List dy}{base dY:Nat}{an:List (Nat×z)}(BP:bL<=base)(fV:base+ao.size<=j)(gu:C.a6<=base){s:uN}{rest:List uN}
 (cK:match (gc C n am ao).drop dY with|[]=>s.e2=none|e::gY=>s.e2=some e.2/\rest=xt (lj C n am ao) (dY+1) gY)
 (a:(match s.e2 with
    |none=>G5 (kH am ao.toList 0) an H λH=>ah .run o ⟨fn,n,am,aW,aH,ro,cs⟩ H h j
    |some a=>(match n3 a.g an with
     |none=>none
     |some w=>bK (w) ((match hn a.op C h j an H with
       |some r=>ny r ah C (.xP ao base an a.i rest (kH am ao.toList 0)) o ⟨fn,n,am,aW,aH,ro,cs⟩ H h j
       |none=>none))<|ah .run (.drawn ao base ((a.i,undef)::an) rest (kH am ao.toList 0)::o) ⟨fn,n,am,aW,aH,ro,cs⟩ H h j))=some v):
 ∀(k:List Nat) (J:cQ) (Y:Nat->Prop) (w:World) (tmps:Array Value) (c8:Nat->Prop),iv C bi bz bH fn am aW aH ro cs h j J Y w bL ax->lc C J Y am o bo->qv C J Y h base n am ao an dY (dY+1) H tmps c8->uM ao c8 k->
  (∀k∈lj C n am ao,k.bL<dY+1->¬c8 k.x.i->∃aa,d1 an k.x.i=some aa/\Gm C h an H k.x aa)->Ends C bi bz bH v (lone (cd J fn aW aH ro tmps (.inRegion ao k::bo) .run) ax w):=by
 intro k
 induction k with
 |nil=>
  intro J Y w tmps c8 aC aG aI aD Qy
  cases aD with
  |nil kK=>
   have Lb:(gc C n am ao).drop dY=[]:=by
    cases bJ:(gc C n am ao).drop dY with
    |nil=>rfl
    |cons e gY=>
     exfalso
     have F:(gc C n am ao)[dY]? =some e:=by
      have:((gc C n am ao).drop dY)[0]? =some e:=by rw[bJ];rfl
      rwa[Z1]at this
     have bZ:=kK e.1.i (ajy aI.st (Zl F)).1
     have:=(aI.done dY e F).1 bZ
     omega
   rw[Lb]at cK
   simp only at cK
   rw[cK]at a
   simp only[KG,nW]at a
   split at a
   ·rename_i cN m1
    refine .head adu ?_
    have bt:od J Y am (λ_=>True) (hP ao ao.size) an H tmps:=by
     obtain⟨_,e5,f3⟩:=Jz ao ao.size (Zi _)
     intro t aa _ aU
     apply aI.Bi t aa
     split at aU
     ·rename_i W bB
      obtain⟨cb,b5,cG⟩:=e5 t W bB
      left
      refine⟨W,kK W cb,b5,λoM HT rD=> ?_,aU⟩
      rcases ze W oM with cO|yM
      ·exact absurd rD (cG oM cO (aI.vy oM HT))
      ·exact yM
     ·rename_i bB
      exact .inr ⟨λW HT=>f3 t bB W (aI.vy W HT),aU⟩
    exact fW _ _ _ _ _ _ _ _ _ _ _ _ v a J Y w bL tmps bo ax (aC.state (.plain aG (WJ bt aI.size m1)))
   ·simp at a
 |cons i k lI=>
  intro J Y w tmps c8 aC aG aI aD Qy
  cases aD with
  |cons bb p9 lp uf=>
   rename_i V
   have aE:i<ao.size:=(ZM.1 bb).1
   obtain⟨p,x,o',g4,gK,z3,z4,z5,AO⟩:=wz aI.st i aE
   have aod:o'=V:=by
    have:=z5.oper
    rw[z4,bb]at this
    exact(Yv this).symm
   subst aod
   have LX:=ajz aI.st aI.closed aI.vy aI.Bi gK bb p9 lp
   have Lw:=GR aI.closed (Mk gK) (by rw[z3];exact bb) lp
   have ay:=z5
   have bX:=ay.g
   have BU:=ay.op
   have cW:=ay.reads
   rw[z4]at bX BU cW
   have w1:∀jU,Sub jU an->iL J Y (ks tmps) (iC (hP ao i) jU H) o'.op.operands.toList:=by
    intro jU xf
    refine Wy (X:=λt=>e8 p.r t=true) (λt aa bI aU=>LX t aa bI ?_) (λt aZ=>asN AO aZ) cW aC.hp
    split at aU
    ·exact xf _ _ aU
    ·exact aU
   have Qd:∀W b t,o'.guard=some (W,b)->uX W (hP ao i)=some t->e8 p.r t=true:=by
    intro W b t I M
    rw[AO.r,DT,z3]
    have:e8 (KT (hP ao i) o'.guard) t=true:=by
     rw[I]
     simp only[KT,M]
     rw[J8];simp
    rw[this];simp
   have jH:∀(cX:cQ) (aa:Value),(cd cX fn aW aH ro tmps (.inRegion ao (i::k)::bo) .run).finish aa=cd cX fn aW aH ro (pz tmps o'.dst aa) (.inRegion ao k::bo) .run:=by
    intro cX aa
    rw[KH (g:=cd cX fn aW aH ro tmps _ .run) rfl bb];rfl
   rcases ap9 x.op with ⟨gd,p6⟩|⟨gd,p6⟩
   ·
    have HS:(p,x)∈gc C n am ao:=by rw[Ko];exact YJ.2 ⟨Zl g4,gd⟩
    obtain⟨al,bJ⟩:=ZW.1 HS
    have aor:al=dY:=by
     rcases YT al dY with cO|B|fH
     ·exact absurd ((aI.done al _ bJ).2 cO) (by simpa only[z3]using p9)
     ·exact B
     ·exfalso
      have eD:al-1<(gc C n am ao).length:=zy (Zb.1 bJ).1
      have aaF:(gc C n am ao)[al-1]? =some ((gc C n am ao)[al-1]):=Zf eD
      have XK:=aI.st.chain
      rw[KI]at XK
      have aj:=amV XK (al-1) ((gc C n am ao)[al-1]).1 p (by rw[Zw,aaF];rfl) (by rw[show al-1+1=al by omega,Zw,bJ];rfl)
      have bZ:=Lw _ aj
      have:=(aI.done (al-1) _ aaF).1 bZ
      omega
    subst aor
    have Lb:(gc C n am ao).drop al=(p,x)::(gc C n am ao).drop (al+1):=by
     have cO:=(Zb.1 bJ).1
     rw[Zz cO,(Zb.1 bJ).2]
    rw[Lb]at cK
    simp only at cK
    obtain⟨kh,oF⟩:=cK
    rw[kh]at a
    simp only at a
    have F:ao[((p,x):fR×e4).1.i]? =some o':=by simp only[z3];exact bb
    split at a
    ·simp at a
    ·rename_i Ta lv
     have rT:=Nh (zq aE) bX LX Qd (Sub.refl an) lv
     have aao:¬c8 ((p,x):fR×e4).1.i:=by simpa only[z3]using p9
     have Ra:x.i=((p,x):fR×e4).1.i:=by simp only[z3,z4]
     cases Ta with
     |false=>
      simp only[kE]at a
      refine .head (SM bb rT) ?_
      rw[jH]
      rw[Ra,oF]at a
      have:=aI.e2 bJ F aao lp (v:=undef) trivial ay.dst
      exact fW _ _ _ _ _ _ _ _ _ _ _ _ v a J Y w bL _ _ ax (aC.state (.drawn aG BP fV this (by simp only[z3];exact uf)))
     |true=>
      simp only[fj]at a
      split at a
      ·rename_i r U
       have lH:=XU aC.U aC.eB cA.jM (w1 an (Sub.refl an)) BU U
       have Ii:lV C J Y h bL j n am H tmps (.xP ao base an x.i rest (kH am ao.toList 0)::o) (.inRegion ao (i::k)::bo):=by
        have aa2:=lV.drawn (bL:=bL) (aE:=j) (k:=k) aG BP fV aI bJ F aao lp (by simp only[z3];exact uf)
        simp only[z3]at aa2
        rw[oF,z4]
        exact aa2
       exact Vq cA fW aC Ii aC.jx (Zi _) bb rT lH a
      ·simp at a
   ·
    have anS:=Zl g4
    have gj:(⟨x,tA p.m (pU (gc C n am ao)),yN p.i (pU (gc C n am ao))⟩:pa)∈lj C n am ao:=by
     rw[Kq];exact ZK.2 ⟨(p,x),YJ.2 ⟨anS,by simp[gd]⟩,rfl⟩
    have mw:tA p.m (pU (gc C n am ao))<dY+1:=by
     have:=aje p.m (pU (gc C n am ao)) dY (λal e bJ f8=>by
      rw[KI,Zw]at bJ
      cases ce:(gc C n am ao)[al]? with
      |none=>rw[ce]at bJ;cases bJ
      |some br=>
       rw[ce]at bJ;cases bJ
       cases aj:e8 p.m br.1.i with
       |false=>rfl
       |true=>have:=(aI.done al br ce).1 (Lw _ aj);omega)
     omega
    have EI:¬c8 x.i:=by rw[z4];exact p9
    obtain⟨aa,LW,Q6⟩:=aI.ahead _ gj mw
    obtain⟨t7,jU,b,Xz,aa6,hz,nI⟩:=Q6 EI
    have rT:=Nh (zq aE) bX LX Qd Xz aa6
    have QG:ao[x.i]? =some o':=by rw[z4];exact bb
    have Qz:∀NE:Nat->Prop,(∀W,c8 W->NE W)->∀k∈lj C n am ao,k.bL<dY+1->¬NE k.x.i->∃aa,d1 an k.x.i=some aa/\Gm C h an H k.x aa:=λNE By b6 I M ak=>Qy b6 I M (λal=>ak (By _ al))
    have HB:add c8 x.i=add c8 i:=by rw[z4]
    cases b with
    |false=>
     have:aa=undef:=hz rfl
     subst this
     refine .head (SM bb rT) ?_
     rw[jH]
     have js:=aI.hC (cX:=J) (dg:=Y) gj mw QG EI lp LW (λ_ _=>rfl) (λ_ a=>a) (λ_ a=> .inl a) (by trivial) ay.dst
     simp only[HB]at js
     exact lI J Y w _ _ aC aG js uf (Qz _ λ_ a=> .inl a)
    |true=>
     obtain⟨_,H4,_⟩:=nI rfl
     rcases p6 with p6|p6
     ·obtain⟨sc,sP,ahH,ahF,sp,aP,bk,bF,cP⟩:=Qy _ gj mw EI
      simp only at sP bF cP
      rw[LW]at sP;cases sP
      have api:=Nh (zq aE) bX LX Qd aP bF
      have fV:sp=true:=by rw[<-api,rT]
      have HN:=cP fV p6
      have yY:c9 C J Y ahF j bi.heap.size w:=aC.U.WE bk
      obtain⟨bm,ct⟩:=abR yY (w1 ahH aP) BU HN
      refine .head (C1 bb rT bm (.inl rfl)) ?_
      rw[jH]
      have js:=aI.hC (cX:=J) (dg:=Y) gj mw QG EI lp LW (λ_ _=>rfl) (λ_ a=>a) (λ_ a=> .inl a) ct ay.dst
      simp only[HB]at js
      exact lI J Y w _ _ aC aG js uf (Qz _ λ_ a=> .inl a)
     ·obtain⟨cE,aX,hi⟩:=H4 p6
      simp only at aX hi
      have nM:¬Y (base+x.i):=λal=>EI (aI.ids x.i (by rw[z4];exact aE) al)
      obtain⟨nU,d4,fk,iH⟩:=ab2 (w:=w) (J:=J) nM (w1 jU Xz) (Mi BU aX)
      have cO:base+x.i<j:=by rw[z4];omega
      have BE:=aC.U.alloc (aq:=j) (S:=h) (b:=base+x.i) Zo cO (Zi _) nM aC.eB rfl hi (λ_ _=> .inl rfl) iH (ab3 (Mi BU aX))
      have af:hZ C bL J Y h bi.heap.size w (fY J (base+x.i) ⟨w.heap.size,0,0⟩) (add Y (base+x.i)) h (w.alloc nU):=
       ⟨qs nM,λ_ a=> .inl a,λe a=>a.elim .inl (λa=> .inr Zo),λ_ _ _=>rfl,Below.alloc (Below.refl _ _) aC.eB _⟩
      refine .head (C1 bb rT d4 (.inl rfl)) ?_
      rw[jH, <-Fq af.ic aC.ho]
      have js:=aI.hC (cX:=fY J (base+x.i) ⟨w.heap.size,0,0⟩) (dg:=add Y (base+x.i)) gj mw QG EI lp LW af.ic af.i6 (λ_ a=>a) fk ay.dst
      simp only[HB]at js
      exact lI _ _ _ _ _ (aC.ext BE af (Zi _)) (aG.ad af.ic af.i6) js uf (Qz _ λ_ a=> .inl a)
end
section
variable{C:aM}{J cX dx:cQ}{Y dg dE:Nat->Prop}{h S:R ag}{j aq bd:Nat}{w bO:World}{n am:Nat}{ao:Array Oper}
variable{bi:World}{bz:Nat}{bH:List Frame}{v:z}{ah:g5}
variable{fn:Nat}{aW:List he}{aH:Bool}{ro:Option Nat}{cs:List gh}{H:R z}{tmps:Array Value}{bo:List Item}{ax:List Frame}{bL aE:Nat}
def c9.more(U:c9 C J Y h j bd w)(aL:j<=aq)(iR:∀b,Y b->Z C S b=Z C h b)(cO:∀b V,Z C S b=some V->b<aq):c9 C J Y S aq bd w:=by
 refine⟨ZA U.a6 aL,λb a=>ZN (U.lt b a) aL,cO,λb V a d=>U.obj b V (by rw[<-iR b d];exact a) d,λb dT V o' a cu d kZ=>U.sep b dT V o' (by rw[<-iR b d];exact a) (by rw[<-iR dT kZ];exact cu) d kZ,λb V aj a d=>U.base b V aj (by rw[<-iR b d];exact a) d,λb V a d=>U.eb b V (by rw[<-iR b d];exact a) d⟩
def abS(cK:o7 C n am ao){k b6:pa}(az:k∈lj C n am ao)(gY:b6∈lj C n am ao)(a:k.x.i=b6.x.i):k=b6:=by
 obtain⟨D,aC⟩:=ZW.1 az
 obtain⟨b,aj⟩:=ZW.1 gY
 obtain⟨Hz,m2⟩:=Zb.1 aC
 obtain⟨nI,m3⟩:=Zb.1 aj
 have av:=OI cK
 rw[YP]at av
 rcases YT D b with cO|B|fH
 ·have:=av D b Hz nI cO
  rw[m2,m3]at this;omega
 ·subst B;rw[<-m2,m3]
 ·have:=av b D nI Hz fH
  rw[m2,m3]at this;omega
def Wj(cA:Env C bi dx dE)(fW:mQ C bi bz bH ah){o:List dy}{base dY:Nat}{an:List (Nat×z)}{c8:Nat->Prop}{k:List Nat}(aC:iv C bi bz bH fn am aW aH ro cs h j J Y w bL ax)
 (aG:lc C J Y am o bo)(BP:bL<=base)(fV:base+ao.size<=j)(gu:C.a6<=base)(aI:qv C J Y h base n am ao an dY dY H tmps c8)(aD:uM ao c8 k)
 (a:wB ah C ao base an (xt (lj C n am ao) dY ((gc C n am ao).drop dY)) (kH am ao.toList 0) o ⟨fn,n,am,aW,aH,ro,cs⟩ H h j=some v):Ends C bi bz bH v (lone (cd J fn aW aH ro tmps (.inRegion ao k::bo) .run) ax w):=by
 obtain⟨s,rest,bA,cg,eN,iP⟩:=auT (hV:=lj C n am ao) (o:=dY) (az:=(gc C n am ao).drop dY)
 rw[bA]at a
 simp only[wB]at a
 split at a
 ·simp at a
 ·rename_i g6 S gj
  simp only[ey]at a
  obtain⟨vv,a⟩:=a
  rw[cg]at gj
  rw[eN]at vv
  have Qc:∀x∈sm dY (lj C n am ao),d1 an x.i=none/\Z C h (base+x.i)=none/\nb x.op=false:=by
   intro x af
   obtain⟨ea,I,M,rfl⟩:=yf.1 af
   have bt:d1 an ea.x.i=none:=by
    cases bt:d1 an ea.x.i with
    |none=>rfl
    |some aa=>
     exfalso
     rcases aI.keys _ aa bt with ⟨c4,cb,b5,cG⟩|⟨p,e,cb,b5,_⟩
     ·have:=abS aI.st cb I b5
      subst this;omega
     ·exact Me aI.st I cb b5.symm
   obtain⟨_,_,cG,_⟩:=Ks I
   exact⟨bt,aI.free _ (Kr aI.st I) bt,cG⟩
  obtain⟨bM,cq,df,fb,eJ⟩:=ajv gu _ _ _ _ _ (aiq (OI aI.st)) Qc gj
  have QV:∀b,Y b->Z C S b=Z C h b:=by
   intro b aj
   by_cases al:Z C S b=Z C h b
   ·exact al
   ·obtain⟨x,af,B⟩:=fb b al
    obtain⟨ea,I,M,rfl⟩:=yf.1 af
    have bZ:=aI.ids _ (Kr aI.st I) (B▸aj)
    have:=aI.sZ ea I bZ
    omega
  have kN:c9 C J Y S j bi.heap.size w:=aC.U.more (Zi _) QV (λb V aj=>by
   by_cases al:Z C S b=Z C h b
   ·exact aC.U.ur b V (by rw[<-al];exact aj)
   ·obtain⟨x,af,B⟩:=fb b al
    obtain⟨ea,I,M,rfl⟩:=yf.1 af
    have:=Kr aI.st I
    omega)
  have af:hZ C bL J Y h bi.heap.size w J Y S w:=⟨λ_ _=>rfl,λ_ a=>a,λ_ a=> .inl a,λb _ cO=>by
   by_cases al:Z C S b=Z C h b
   ·exact al
   ·obtain⟨x,af,B⟩:=fb b al
    omega,Below.refl _ _⟩
  have wT:=aC.ext kN af (Zi _)
  have rD:qv C J Y S base n am ao g6 dY (dY+1) H tmps c8:=by
   refine⟨aI.st,aI.size,aI.Ma,aI.dH,aI.closed,aI.vy,aI.done,λea I M=>Nat.lt_succ_of_lt (aI.sZ ea I M), ?_, ?_, ?_, ?_,aI.ids, ?_⟩
   ·intro i aa aU
    rcases df i (by rw[aU];simp)with I|⟨x,I,M⟩
    ·cases bt:d1 an i with
     |none=>exact absurd bt I
     |some sc=>
      rcases aI.keys i sc bt with ⟨ea,cb,b5,cG⟩|g
      ·exact .inl ⟨ea,cb,b5,Zo⟩
      ·exact .inr g
    ·obtain⟨ea,cb,b5,rfl⟩:=yf.1 I
     exact .inl ⟨ea,cb,M,Zo⟩
   ·intro p e F av
    obtain⟨aa,aU⟩:=aI.t7 p e F av
    exact⟨aa,bM _ _ aU⟩
   ·intro ea I M
    by_cases al:ea.bL=dY
    ·obtain⟨aa,cb,b5⟩:=eJ ea.x (yf.2 ⟨ea,I,al,rfl⟩)
     exact⟨aa,(cb Y).key,λ_=>cb Y⟩
    ·obtain⟨aa,cb,b5⟩:=aI.ahead ea I Zo
     refine⟨aa,bM _ _ cb,λbZ=> ?_⟩
     obtain⟨_,jU,b,er,eV,d3,eA⟩:=b5 bZ
     refine⟨bM _ _ cb,jU,b,er.trans bM,eV,d3,λaj=> ?_⟩
     obtain⟨h4,ot,akY⟩:=eA aj
     refine⟨h4,λaX=> ?_,akY⟩
     obtain⟨cE,Pa,Pb⟩:=ot aX
     refine⟨cE,Pa, ?_⟩
     by_cases cB:Z C S (base+ea.x.i)=Z C h (base+ea.x.i)
     ·rw[cB];exact Pb
     ·obtain⟨x,af,B⟩:=fb _ cB
      obtain⟨c4,d4,fk,rfl⟩:=yf.1 af
      have:=abS aI.st I d4 Zo
      subst this;omega
   ·intro t aa aU
    apply aI.Bi t aa
    rcases aU with ⟨W,bZ,tV,vo,aU⟩|aU
    ·left
     refine⟨W,bZ,tV,vo, ?_⟩
     have t7:∃sc,d1 an W=some sc:=by
      rcases Wi aI.st W (aI.vy W bZ)with ⟨ea,cb,b5⟩|⟨p,e,cb,b5⟩
      ·obtain⟨sc,cG,_⟩:=aI.ahead ea cb (aI.sZ ea cb (by rw[b5];exact bZ))
       exact⟨sc,by rw[<-b5];exact cG⟩
      ·obtain⟨sc,cG⟩:=aI.t7 p e cb ((aI.done p e cb).1 (by rw[b5];exact bZ))
       exact⟨sc,by rw[<-b5];exact cG⟩
     obtain⟨sc,sP⟩:=t7
     have:=bM _ _ sP
     rw[aU]at this
     cases this
     exact sP
    ·exact .inr aU
   ·intro i aE bt
    have apc:d1 an i=none:=by
     cases bJ:d1 an i with
     |none=>rfl
     |some aa=>rw[bM _ _ bJ]at bt;cases bt
    by_cases al:Z C S (base+i)=Z C h (base+i)
    ·rw[al];exact aI.free i aE apc
    ·obtain⟨x,af,B⟩:=fb _ al
     obtain⟨aa,cb,_⟩:=eJ x af
     have:x.i=i:=Zo
     rw[<-this,(cb Y).key]at bt
     cases bt
  refine arn cA fW BP fV gu (s:=s) (rest:=rest) ?_ a k J Y w tmps c8 wT aG rD aD ?_
  ·cases bJ:(gc C n am ao).drop dY with
   |nil=>rw[bJ]at iP;exact iP.1
   |cons e gY=>rw[bJ]at iP;exact iP
  ·intro ea I M bZ
   by_cases al:ea.bL=dY
   ·obtain⟨aa,cb,b5⟩:=eJ ea.x (yf.2 ⟨ea,I,al,rfl⟩)
    exact⟨aa,(cb Y).key,b5⟩
   ·obtain⟨aa,cb,b5⟩:=aI.ahead ea I Zo
    refine⟨aa,bM _ _ cb, ?_⟩
    obtain⟨_,jU,b,er,eV,d3,eA⟩:=b5 bZ
    by_cases EX:AG ea.x.op=true
    ·have rG:dY<=ea.aE:=by
      obtain⟨p,d4,fk,iH,IJ⟩:=Ks I
      obtain⟨_,g4,gK,z3,z4,z5⟩:=wA aI.st d4
      rw[IJ]
      refine anm _ _ _ (by rw[KI,Zr];exact aI.Ma) λal e F cO=> ?_
      rw[KI,Zw]at F
      cases ce:(gc C n am ao)[al]? with
      |none=>rw[ce]at F;cases F
      |some br=>
       rw[ce]at F;cases F
       cases aj:e8 br.1.m p.i with
       |false=>rfl
       |true=>
        exfalso
        have al8:=(aI.done al br ce).2 cO
        obtain⟨axT,F1,F2,avT,avU,ayp,Te⟩:=wA aI.st (Kp (Zl ce)).1
        have:=GR aI.closed (Zl avU) Te.oper (aI.closed _ _ Te.oper al8) _ aj
        simp only at gK
        rw[<-gK]at this
        exact bZ this
     obtain⟨dT,eX,fD⟩:=ajw _ vv ea.x (atb I Zo rG EX)
     refine⟨g6,S,dT,Sub.refl _,o9.refl _,eX,λaj _=> ?_⟩
     obtain⟨sc,hD,nY⟩:=fD aj
     rw[bM _ _ cb]at nY
     cases nY
     exact hD
    ·have EX:AG ea.x.op=false:=by simpa using EX
     refine⟨jU, .nil,b,er.trans bM,abP _,eV,λaj p6=> ?_⟩
     exact(eA aj).2.2 p6 EX .nil
def akr{o:List dy}(id:Nat)(a:lc C J Y am o bo){eE:List dy}(bl:exitTo id o=some eE):∃hv,Go.exitTo id bo=some hv/\lc C J Y am eE hv:=by
 induction a with
 |nil=>simp[exitTo]at bl
 |cons I M ah=>
  cases I<;>simp only[exitTo]at bl
  case inBlock sS=>
   rw[hw]at bl
   split at bl
   ·rename_i B
    simp at bl;subst bl
    exact⟨_,by simp[Go.exitTo,B],M⟩
   ·rename_i B
    obtain⟨hv,cb,b5⟩:=ah bl
    have:(sS==id)=false:=by simpa using B
    exact⟨hv,by simp[Go.exitTo,this,cb],b5⟩
  all_goals
   obtain⟨hv,cb,b5⟩:=ah bl
   exact⟨hv,by simp[Go.exitTo,cb],b5⟩
def WA(hp:re C J Y){n:Nat}(aZ:iM J Y n am H tmps){x:Operand}{aa:z}(fs:xw C am [] x=true)(a:uZ H x=some aa):ks tmps x=aJ J aa/\b2 Y aa:=by
 cases x with
 |tmp t=>
  simp only[xw,aio]at fs
  obtain⟨I,M⟩:=aZ.val t aa fs a
  exact⟨by simp[ks,I],M⟩
 |const c=>exact Mw a
 |global g=>
  simp[uZ]at a;subst a
  simp only[xw]at fs
  obtain⟨cb,b5,cG⟩:=hp g (kX fs)
  exact⟨by simp[ks,aJ,b5,cG],cb⟩
 |func f=>
  simp[uZ]at a;subst a
  exact⟨by simp[ks,aJ,mn,bP],trivial,trivial,trivial⟩
def od.start{n:Nat}(aZ:iM J Y n am H tmps):od J Y am (λ_=>True) (hP ao 0) [] H tmps:=by
 intro t aa _ a
 rw[Jy]at a
 exact aZ.val t aa a.1 a.2
def atg(cA:Env C bi dx dE)(fW:mQ C bi bz bH ah){o:List dy}{id:Nat}{yq:Bool}(aC:iv C bi bz bH fn am aW aH ro cs h j J Y w bL ax)(aG:lc C J Y am o bo)(aZ:iM J Y n am H tmps)
 (a:ac9 ao yq ah C o ⟨fn,n,am,aW,aH,ro,cs⟩ H h j=some v):Ends C bi bz bH v (lone (cd J fn aW aH ro tmps (.code (.region id ao yq)::bo) .run) ax w):=by
 cases yq with
 |false=>
  have cu:Sj n am ao ah C o ⟨fn,n,am,aW,aH,ro,cs⟩ H h j=some v:=a
  simp only[Sj,nW]at cu
  split at cu
  ·rename_i r U
   obtain⟨rest,fin⟩:=r
   have KV:xH rest ⟨ah,ao,fin,o,⟨fn,n,am,aW,aH,ro,cs⟩⟩ C H [] h j=some v:=cu
   unfold IR at U
   split at U
   ·rename_i cU hA
    simp at U
    obtain⟨rfl,rfl⟩:=U
    refine .head auK ?_
    refine adk cA fW cU [] h j J Y w tmps _ ax aC aG ⟨0,zu _, ?_,hA,rfl,od.start aZ,aZ.size⟩ KV
    rw[List.range_eq_range'];rfl
   ·simp at U
  ·simp at cu
 |true=>
  have cu:Si n am ao ah C o ⟨fn,n,am,aW,aH,ro,cs⟩ H h j=some v:=a
  simp only[Si,nW]at cu
  split at cu
  ·rename_i r U
   obtain⟨kT,fin⟩:=r
   have KV:pT j (λj=>wB ah C ao j [] kT fin o ⟨fn,n,am,aW,aH,ro,cs⟩ H h (j+ao.size))=some v:=cu
   rw[lG]at KV
   unfold IQ at U
   split at U
   ·simp at U
   ·rename_i cU hA
    simp only[ey,Zn,Ze]at U
    obtain⟨⟨⟨cb,b5⟩,cG⟩,er⟩:=U
    have kg:uV C n am ao=cU:=by unfold uV;rw[hA];rfl
    have cK:o7 C n am ao:=⟨by rw[kg];exact hA,cb,b5,by unfold gc;rw[kg];exact cG⟩
    have ao0:kT=xt (lj C n am ao) 0 ((gc C n am ao).drop 0)/\fin=kH am ao.toList 0:=by
     have B:=er
     cases B
     refine⟨?_,rfl⟩
     rw[Ya]
     unfold lj gc
     rw[kg];rfl
    obtain⟨rfl,rfl⟩:=ao0
    refine .head auL ?_
    rw[cA.jM.mixed]
    have af:hZ C bL J Y h bi.heap.size w J Y h w.drew:=⟨λ_ _=>rfl,λ_ a=>a,λ_ a=> .inl a,λ_ _ _=>rfl,Below.drew (Below.refl _ _)⟩
    have kN:c9 C J Y h (j+ao.size) bi.heap.size w.drew:=aC.U.drew.more (zg _ _) (λ_ _=>rfl) (λb V aj=>ZN (aC.U.ur b V aj) (zg _ _))
    refine Wj cA fW (c8:=λ_=>False) (aC.ext kN af (zg _ _)) aG aC.jx (Zi _) aC.U.a6 ?_ (atZ cb _) KV
    refine⟨cK,aZ.size,zu _,aC.U.a6,λ_ _ _ a=>a.elim,λ_ a=>a.elim,λp e _=>⟨λa=>a.elim,λa=>Zo⟩,λ_ _ a=>a.elim,λi aa aU=>by simp at aU,λp e _ a=>Zo,λea _ a=>Zo, ?_, ?_, ?_⟩
    ·intro t aa aU
     rcases aU with ⟨W,a,_⟩|⟨_,I,M⟩
     ·exact a.elim
     ·exact aZ.val t aa I M
    ·intro i _ aI
     have:=aC.U.lt _ aI;omega
    ·intro i _ _
     cases bJ:Z C h (j+i)with
     |none=>rfl
     |some V=>have:=aC.U.ur _ V bJ;omega
  ·simp at cu
end
section
variable{C:aM}{J cX dx:cQ}{Y dg dE:Nat->Prop}{h S:R ag}{j aq bd:Nat}{w bO:World}{n am:Nat}{ao:Array Oper}
variable{bi:World}{bz:Nat}{bH:List Frame}{v:z}{ah:g5}
variable{fn:Nat}{aW:List he}{aH:Bool}{ro:Option Nat}{cs:List gh}{H:R z}{tmps:Array Value}{bo:List Item}{ax:List Frame}{bL aE:Nat}
def akq{o:List dy}(id:Nat)(a:lc C J Y am o bo)(bl:exitTo id o=none):Go.exitTo id bo=none:=by
 induction a with
 |nil=>rfl
 |cons I M ah=>
  cases I<;>simp only[exitTo]at bl
  case inBlock sS=>
   rw[hw]at bl
   split at bl
   ·simp at bl
   ·rename_i B
    have:(sS==id)=false:=by simpa using B
    simp[Go.exitTo,this,ah bl]
  all_goals simp[Go.exitTo,ah bl]
def RK(aC:iv C bi bz bH fn am aW aH ro cs h j J Y w bL ax){b:Nat}{st gn:LoopState}{qm AA:Option Code}{gs aQ kk:Nat}{cN:R z}{params:List Nat}{assign body:Code}{fS:Nat}
 (aL:C.a6<=b)(aI:Y b)(hi:Z C h b=some (.loop st qm gs aQ kk cN params assign body fS))(av:∀c,AA=some c->Fa c):
 ∃hd,w.heap[(J b).cz]? =some (.loop ⟨st,qm,gs,hd,params.toArray,assign,body,(J fS).cz⟩)/\NF C gs kk/\(∀c,qm=some c->Fa c)/\
  iv C bi bz bH fn am aW aH ro cs (bn C h b (some (.loop gn AA gs aQ kk cN params assign body fS))) j J Y (w.putObj (J b).cz (.loop ⟨gn,AA,gs,hd,params.toArray,assign,body,(J fS).cz⟩)) bL ax:=by
 obtain⟨hd,gH,l9,s5,Fx,Ap,r2,Aq⟩:=aC.U.obj b _ hi aI
 obtain⟨bO,bM,cq,df⟩:=putObj aC.U (c0:=bL) (o':= .loop ⟨gn,AA,gs,hd,params.toArray,assign,body,(J fS).cz⟩) (nU:= .loop gn AA gs aQ kk cN params assign body fS) aL aI hi ⟨Zs,Zs⟩ gH Zs
  (λbO rS=>⟨hd,rS,l9,s5,Fx,Ap,av,Aq⟩) ⟨λ_ _ _ a=>(by cases a),λ_ _ _ a=>(by cases a)⟩
 rw[run_setObj_loop _ gH]at bM
 simp only[Result.ok.injEq]at bM
 obtain⟨_,rfl⟩:=bM
 exact⟨hd,gH,Aq,r2,aC.ext cq df (Zi _)⟩
def VD(fW:mQ C bi bz bH ah){aa:z}{dQ:Machine}(aC:iv C bi bz bH fn am aW false ro cs h j J Y w bL ax)(c5:cs≠[])(yC:b2 Y aa)
 (qP:∀g iD,ax=g::iD->step C.P dQ= .next (lone (g.finish (aJ J aa)) iD w))(a:sn ah false cs aa h j=some v):Ends C bi bz bH v dQ:=by
 cases cs with
 |nil=>exact absurd rfl c5
 |cons c rest=>
  obtain⟨gs,aQ,kk,cN,uB,fS,l6,iO,kQ⟩:=c
  obtain⟨qR,hd,hv,iD,rfl,bM,cq,df,fb,eJ,et⟩:=aC.cs.inv
  refine .head (qP _ _ rfl) ?_
  cases l6 with
  |run=>
   have cu:Sn ah uB ⟨gs,aQ,kk,fS,iO,kQ,rest⟩ aa cN h j=some v:=a
   cases uB with
   |nil=>simp[Sn]at cu
   |cons ej o=>exact Ef fW ⟨aC.U,aC.kD,aC.hp,ZA eJ aC.jx,df,fb,et⟩ bM aC.jx yC cu
  |returning=>simp[sn]at a
  |panicking fL=>simp[sn]at a
def RD(fW:mQ C bi bz bH ah){todo:List dy}{h9:Option Code}(bB:(h9=none/\bo=[])\/(h9=some .ret/\∃o,bo= .code .ret::o)\/(∃id o,h9=some (.exit id)/\bo= .code (.exit id)::o/\Go.exitTo id o=none))
 (aC:iv C bi bz bH fn am aW aH ro cs h j J Y w bL ax)(aZ:iM J Y n am H tmps)
 (a:nT h9 ah C todo ⟨fn,n,am,aW,aH,ro,cs⟩ H h j=some v):Ends C bi bz bH v (lone (cd J fn aW aH ro tmps bo .run) ax w):=by
 unfold nT at a
 cases ro with
 |some k=>
  simp only at a
  split at a
  ·rename_i st qm gs aQ kk cN params assign body fS hi
   simp only[ey,Zn,gB]at a
   obtain⟨⟨⟨BJ,axc⟩,P1⟩,a⟩:=a
   have P1:aH=false:=by simpa using P1
   subst P1
   have aI:=aC.ho.ro k rfl
   have aoi:∀c,h9=some c->Fa c:=by
    intro c ay
    subst ay
    rcases bB with ⟨B,_⟩|⟨B,_⟩|⟨id,o,B,_⟩
    ·cases B
    ·cases B;exact .inl rfl
    ·cases B;exact .inr ⟨id,rfl⟩
   obtain⟨hd,gH,Aq,_,wT⟩:=RK aC (gn:=bK h9.isNone .ready .done) (AA:=h9) (iN BJ) aI hi aoi
   have c5:cs≠[]:=λB=>by have:=(aC.bot B).2.2;cases this
   refine VD (aa:= .bool h9.isNone) fW wT c5 trivial (λg iD B=> ?_) a
   subst B
   refine auO bB ?_
   have:=run_endRound (P:=C.P) h9 gH
   rw[this]
   cases h9<;>rfl
  ·simp at a
 |none=>
  simp only[ey]at a
  have cK:A2 C bi bz bH .returning todo fn n am aW aH none cs H h j J Y w bL tmps bo ax:=⟨aC.U,aC.kD,aC.hp,aC.jx,aC.ho,trivial,aC.bot,aC.cs,aZ⟩
  have bZ:=fW _ _ _ _ _ _ _ _ _ _ _ _ v a.2 J Y w bL tmps bo ax cK
  rcases bB with ⟨rfl,rfl⟩|⟨rfl,o,rfl⟩|⟨id,o,rfl,rfl,_⟩
  ·exact .head auA bZ
  ·exact .head auM bZ
  ·simp[Rn]at a
def as8(cA:Env C bi dx dE)(fW:mQ C bi bz bH ah){f:Operand}{params:Array Nat}{assign body:Code}{o:List dy}(aC:iv C bi bz bH fn am aW aH ro cs h j J Y w bL ax)(aZ:iM J Y n am H tmps)
 (fs:li C am (.rangeFunc f params assign body)=true)(aG:lc C J Y am o bo)(a:Ja f params assign body ah C o ⟨fn,n,am,aW,aH,ro,cs⟩ H h j=some v):
 Ends C bi bz bH v (lone (cd J fn aW aH ro tmps (.code (.rangeFunc f params assign body)::bo) .run) ax w):=by
 simp only[li,Zn]at fs
 obtain⟨ch,aat,hi⟩:=fs
 unfold Ja at a
 split at a
 ·rename_i g first fm O2 aP Fl ajt GO Sr qC bl fp
  cases fp
  obtain⟨bA,cg⟩:=WA aC.hp aZ ch bl
  have oE:∀(b:Nat) (mM:World),(resolve (ks tmps) {callee:= .value f,args:= #[.const (.func (.yield b) #[] #[])],argTypes:= #[]} 0).run C.P mM=
   .ok ⟨.fn (.func g) (bP J fm).toArray,(bP J first).toArray++ #[.func (.yield b) #[] #[]]⟩ mM:=by
   intro b mM
   have ON:ks tmps (.const (.func (.yield b) #[] #[]))= .func (.yield b) #[] #[]:=rfl
   simp[resolve,bA,aJ,mn,Deferred.ofValue,ON]
  have XV:∀(b:Nat) (v7:cQ) (lS:Nat->Prop) (a1:R ag) (CE:Nat) (mM:World) (su:List gh) (u5:List Frame) (c0:Nat) (b6:Nat),(∀x,Y x->v7 x=J x)->(∀x,Y x->lS x)->lS b6->(v7 b6).cz=b->
   c9 C v7 lS a1 CE bi.heap.size mM->Below bi.heap.size bi mM->re C v7 lS->c0<=CE->n7 C v7 lS a1 bz bH c0 su u5->su≠[]->nD ah C g (first++[.func (.yield b6) [] []]++fm) false su a1 CE=some v->
   ∃args,(invoke (.fn (.func g) (bP J fm).toArray) ((bP J first).toArray++ #[.func (.yield b) #[] #[]])).run C.P mM= .ok (.enter g args) mM/\Ends C bi bz bH v (lone (Frame.enter C.P g args .normal) u5 mM):=by
   intro b v7 lS a1 CE mM su u5 c0 b6 dt f1 gY aj qN nI Le oC hA c5 a
   have anc:d2 lS (first++[.func (.yield b6) [] []]++fm):=yz (yz (qF f1 _ cg.2.1) ⟨⟨gY,trivial,trivial⟩,trivial⟩) (qF f1 _ cg.2.2)
   refine⟨(bP v7 (first++[.func (.yield b6) [] []]++fm)).toArray, ?_,KB fW qN nI Le oC hA (λB=>absurd B c5) anc a⟩
   have HH:∃func c,C.P.funcs[g]? =some func/\func.body=some c:=by
    unfold nD at a
    split at a
    ·rename_i func p3
     split at a
     ·rename_i c ay;exact⟨func,c,p3,ay⟩
     ·simp at a
    ·simp at a
   obtain⟨func,c,p3,ay⟩:=HH
   have aL:func.name≠ "runtime.NumGoroutine":=by simpa using cA.jM.num g func p3 (by simp[ay])
   have vd:(bP v7 (first++[.func (.yield b6) [] []]++fm)).toArray=((bP J first).toArray++ #[.func (.yield b) #[] #[]])++(bP J fm).toArray:=by
    rw[Bd,Bd,wx dt cg.2.1,wx dt cg.2.2]
    simp[bP,aJ,mn,aj]
   rw[vd]
   simp[invoke,callFunc,p3,aL,ay]
  cases ro with
  |none=>
   simp only[lG]at a
   have nM:=qW aC.U
   have qN:=aC.U.alloc (b:=j) (aq:=j+1) (pl:=⟨w.heap.size,0,0⟩) (cE:= .deferred (some [])) (V:= .deferred (some [])) (S:=bn C h j (some (.deferred (some [])))) aC.U.a6 (Yx _) (Z6 _) nM aC.eB rfl
    (by rw[fq _ aC.U.a6,Zp rfl]) (λx af=> .inl (by rw[fq _ aC.U.a6,Zg af])) ⟨by rw[World.alloc_heap_new];rfl,λk az=>by cases az;simp⟩ ⟨λ_ _ _ a=>(by cases a),λ_ _ _ a=>(by cases a)⟩
   have Im:hZ C j J Y h bi.heap.size w (fY J j ⟨w.heap.size,0,0⟩) (add Y j) (bn C h j (some (.deferred (some [])))) (w.alloc (.deferred (some []))):=
    ⟨qs nM,λ_ a=> .inl a,λe a=>a.elim .inl (λa=> .inr Zo),λx _ cO=>by rw[fq _ aC.U.a6,Zg Zo],Below.alloc (Below.refl _ _) aC.eB _⟩
   have rK:C.a6<=j+1:=Nat.le_succ_of_le aC.U.a6
   have aan:=qW qN
   have Xj:bi.heap.size<=(w.alloc (.deferred (some []))).heap.size:=by rw[World.size_alloc];have:=aC.eB;omega
   have aba:(fY J j ⟨w.heap.size,0,0⟩ j)=⟨w.heap.size,0,0⟩:=kU ..
   have L2:=qs (J:=fY J j ⟨w.heap.size,0,0⟩) (pl:=⟨w.heap.size+1,0,0⟩) aan
   have g9:=qN.alloc (b:=j+1) (aq:=j+2) (pl:=⟨w.heap.size+1,0,0⟩) (cE:= .loop .ready none fn n am H params.toList assign body j) (V:= .loop {state:= .ready,pending:=none,fn,tmps,params,assign,body,defers:=w.heap.size})
    (S:=bn C (bn C h j (some (.deferred (some [])))) (j+1) (some (.loop .ready none fn n am H params.toList assign body j))) rK (Yx _) (Z6 _) aan Xj (by rw[World.size_alloc])
    (by rw[fq _ rK,Zp rfl]) (λx af=> .inl (by rw[fq _ rK,Zg af]))
    ⟨tmps,by
     rw[show(⟨w.heap.size+1,0,0⟩:lU).cz=(w.alloc (.deferred (some []))).heap.size by rw[World.size_alloc],World.alloc_heap_new,L2 j (.inr rfl),aba],
     (aZ.ad Im.ic Im.i6).ad L2 (λ_ a=> .inl a), .inl (.inr rfl),aat,hi,λc ay=>(by cases ay),aC.ho.fn⟩
    ⟨λ_ _ _ a=>(by cases a),λ_ _ _ a=>(by cases a)⟩
   have Q8:hZ C (j+1) (fY J j ⟨w.heap.size,0,0⟩) (add Y j) (bn C h j (some (.deferred (some [])))) bi.heap.size (w.alloc (.deferred (some []))) (fY (fY J j ⟨w.heap.size,0,0⟩) (j+1) ⟨w.heap.size+1,0,0⟩) (add (add Y j) (j+1))
    (bn C (bn C h j (some (.deferred (some [])))) (j+1) (some (.loop .ready none fn n am H params.toList assign body j))) ((w.alloc (.deferred (some []))).alloc (.loop {state:= .ready,pending:=none,fn,tmps,params,assign,body,defers:=w.heap.size})):=
    ⟨L2,λ_ a=> .inl a,λe a=>a.elim .inl (λa=> .inr Zo),λx _ cO=>by rw[fq _ rK,Zg Zo],Below.alloc (Below.refl _ _) Xj _⟩
   have af:=Im.trans (Z6 j) Q8
   have m2:=aC.ext g9 (af.mono aC.jx) (ZA (Z6 _) (Z6 _))
   have am9:uH C (add (add Y j) (j+1)) fn am (⟨.collected j,[]⟩::aW) none:=⟨λd aI=>by
    rcases Zq.1 aI with rfl|aI
    ·exact⟨.inl (.inr rfl),trivial⟩
    ·exact m2.ho.aW d aI,m2.ho.ro,m2.ho.fn⟩
   have Ii:lV C (fY (fY J j ⟨w.heap.size,0,0⟩) (j+1) ⟨w.heap.size+1,0,0⟩) (add (add Y j) (j+1)) (bn C (bn C h j (some (.deferred (some [])))) (j+1) (some (.loop .ready none fn n am H params.toList assign body j))) bL (j+2) n am H tmps
    (.inRangeFunc (j+1)::o) (.inRangeFunc (w.heap.size+1)::bo):=by
    have:=lV.ec (bL:=bL) (aE:=j+2) (h:=bn C (bn C h j (some (.deferred (some [])))) (j+1) (some (.loop .ready none fn n am H params.toList assign body j))) (aG.ad af.ic af.i6) (aZ.ad af.ic af.i6) (k:=j+1) (.inr rfl)
    rw[kU]at this
    exact this
   have oC:bL<=j+2:=zy aC.jx
   obtain⟨args,cb,b5⟩:=XV (w.heap.size+1) _ _ _ _ _ _ _ (j+2) (j+1) af.ic af.i6 (.inr rfl) (by rw[kU]) g9 m2.kD m2.hp (Zi _)
    (.cons (bG:= .run) Ii trivial am9 aC.bot oC m2.cs) Zs a
   refine .head (adt (run_enterLoop_outer fn tmps params assign body) (oE _ _) cb) ?_
   have tY:({cd J fn aW aH none tmps (.inRangeFunc (w.heap.size+1)::bo) .run with defers:=[{target:= .collected w.heap.size,args:= #[]}]++aW.map (lg J)}:Frame)=
    cd (fY (fY J j ⟨w.heap.size,0,0⟩) (j+1) ⟨w.heap.size+1,0,0⟩) fn (⟨.collected j,[]⟩::aW) aH none tmps (.inRangeFunc (w.heap.size+1)::bo) .run:=by
    have B:aW.map (lg (fY (fY J j ⟨w.heap.size,0,0⟩) (j+1) ⟨w.heap.size+1,0,0⟩))=aW.map (lg J):=YB λd aI=>Oj af.ic (aC.ho.aW d aI)
    have eN:lg (fY (fY J j ⟨w.heap.size,0,0⟩) (j+1) ⟨w.heap.size+1,0,0⟩) ⟨.collected j,[]⟩={target:= .collected w.heap.size,args:= #[]}:=by
     simp only[lg,Bc,bP]
     rw[L2 j (.inr rfl),aba]
    simp only[cd,ZC,B,eN,List.cons_append,YQ,Y3]
   rw[tY]
   exact b5
  |some k=>
   simp only[lG]at a
   split at a
   ·rename_i st qm gs aQ kk cN axW av4 av7 fS az
    have aI:=aC.ho.ro k rfl
    obtain⟨hd,gH,l9,s5,Fx,Ap,r2,Aq⟩:=aC.U.obj k _ az aI
    have nM:=qW aC.U
    have Rd:=qs (J:=J) (pl:=⟨w.heap.size,0,0⟩) nM
    have g9:=aC.U.alloc (b:=j) (aq:=j+1) (pl:=⟨w.heap.size,0,0⟩) (cE:= .loop .ready none fn n am H params.toList assign body fS) (V:= .loop {state:= .ready,pending:=none,fn,tmps,params,assign,body,defers:=(J fS).cz})
     (S:=bn C h j (some (.loop .ready none fn n am H params.toList assign body fS))) aC.U.a6 (Yx _) (Z6 _) nM aC.eB rfl
     (by rw[fq _ aC.U.a6,Zp rfl]) (λx af=> .inl (by rw[fq _ aC.U.a6,Zg af]))
     ⟨tmps,by rw[World.alloc_heap_new,Rd fS s5],aZ.ad Rd (λ_ a=> .inl a), .inl s5,aat,hi,λc ay=>(by cases ay),aC.ho.fn⟩
     ⟨λ_ _ _ a=>(by cases a),λ_ _ _ a=>(by cases a)⟩
    have af:hZ C j J Y h bi.heap.size w (fY J j ⟨w.heap.size,0,0⟩) (add Y j) (bn C h j (some (.loop .ready none fn n am H params.toList assign body fS))) (w.alloc (.loop {state:= .ready,pending:=none,fn,tmps,params,assign,body,defers:=(J fS).cz})):=
     ⟨Rd,λ_ a=> .inl a,λe a=>a.elim .inl (λa=> .inr Zo),λx _ cO=>by rw[fq _ aC.U.a6,Zg Zo],Below.alloc (Below.refl _ _) aC.eB _⟩
    have m2:=aC.ext g9 (af.mono aC.jx) (Z6 _)
    have Ii:lV C (fY J j ⟨w.heap.size,0,0⟩) (add Y j) (bn C h j (some (.loop .ready none fn n am H params.toList assign body fS))) bL (j+1) n am H tmps (.inRangeFunc j::o) (.inRangeFunc w.heap.size::bo):=by
     have:=lV.ec (bL:=bL) (aE:=j+1) (h:=bn C h j (some (.loop .ready none fn n am H params.toList assign body fS))) (aG.ad af.ic af.i6) (aZ.ad af.ic af.i6) (k:=j) (.inr rfl)
     rw[kU]at this
     exact this
    have oC:bL<=j+1:=zy aC.jx
    obtain⟨args,cb,b5⟩:=XV w.heap.size _ _ _ _ _ _ _ (j+1) j af.ic af.i6 (.inr rfl) (by rw[kU]) g9 m2.kD m2.hp (Zi _)
     (.cons (bG:= .run) Ii trivial m2.ho aC.bot oC m2.cs) Zs a
    have am0:(Instr.enterLoop fn tmps params assign body ((some k).map λk=>(J k).cz)).run C.P w= .ok (w.heap.size,[]) (w.alloc (.loop {state:= .ready,pending:=none,fn,tmps,params,assign,body,defers:=(J fS).cz})):=by
     unfold Instr.enterLoop
     simp only[ZR,Sem.run_bind,run_getLoop gH,run_newObj_alloc,Result.andThen,Sem.run_pure]
    refine .head (adt am0 (oE _ _) cb) ?_
    have tY:({cd J fn aW aH (some k) tmps (.inRangeFunc w.heap.size::bo) .run with defers:=[]++aW.map (lg J)}:Frame)=cd J fn aW aH (some k) tmps (.inRangeFunc w.heap.size::bo) (gi J .run):=rfl
    rw[tY, <-Fq af.ic aC.ho]
    exact b5
   ·simp at a
 ·simp at a
def VZ(cA:Env C bi dx dE)(fW:mQ C bi bz bH ah)(aC:iv C bi bz bH fn am aW aH ro cs h j J Y w bL ax)(aZ:iM J Y n am H tmps):∀(c:Code) (o:List dy) (bo:List Item),li C am c=true->lc C J Y am o bo->
 tz c ah C o ⟨fn,n,am,aW,aH,ro,cs⟩ H h j=some v->Ends C bi bz bH v (lone (cd J fn aW aH ro tmps (.code c::bo) .run) ax w):=by
 intro c
 have go:∀o bo,lc C J Y am o bo->ah .run o ⟨fn,n,am,aW,aH,ro,cs⟩ H h j=some v->Ends C bi bz bH v (lone (cd J fn aW aH ro tmps bo .run) ax w):=
  λo bo aG a=>fW _ _ _ _ _ _ _ _ _ _ _ _ v a J Y w bL tmps bo ax (aC.state (.plain aG aZ))
 induction c with
 |skip=>intro o bo _ aG a;exact .head auR (go o bo aG a)
 |region id ao yq=>intro o bo _ aG a;exact atg cA fW aC aG aZ a
 |seq D b l2 ha=>
  intro o bo fs aG a
  simp only[li,Zn]at fs
  exact .head auQ (l2 (.code b::o) (.code b::bo) fs.1 (.cons (.code fs.2) aG) a)
 |cond c D b l2 ha=>
  intro o bo fs aG a
  simp only[li,Zn]at fs
  have cu:GM c H (tz D ah C o ⟨fn,n,am,aW,aH,ro,cs⟩ H h j) (tz b ah C o ⟨fn,n,am,aW,aH,ro,cs⟩ H h j)=some v:=a
  simp only[GM,nW]at cu
  split at cu
  ·rename_i aa aU
   obtain⟨bA,_⟩:=WA aC.hp aZ fs.1 aU
   cases aa with
   |bool t=>
    refine .head (auy (t:=t) (by rw[bA];rfl)) ?_
    cases t with
    |true=>exact l2 o bo fs.2.1 aG cu
    |false=>exact ha o bo fs.2.2 aG cu
   |_=>simp at cu
  ·simp at cu
 |block id b ha=>intro o bo fs aG a;exact .head aux (ha (.inBlock id::o) (.inBlock id::bo) fs (.cons .inBlock aG) a)
 |loop b ha=>intro o bo fs aG a;exact .head auH (ha (.inLoop b::o) (.inLoop b::bo) fs (.cons (.inLoop fs) aG) a)
 |rangeFunc f params assign body _ _=>intro o bo fs aG a;exact as8 cA fW aC aZ fs aG a
 |exit id=>
  intro o bo _ aG a
  have cu:yt id ah C o ⟨fn,n,am,aW,aH,ro,cs⟩ H h j=some v:=a
  unfold yt at cu
  split at cu
  ·rename_i eE bl
   obtain⟨hv,cb,b5⟩:=akr id aG bl
   exact .head (auC cb) (go eE hv b5 cu)
  ·rename_i bl
   exact RD fW (.inr (.inr ⟨id,bo,rfl,rfl,akq id aG bl⟩)) aC aZ cu
 |scope b ha=>intro o bo fs aG a;exact .head auP (ha (.inScope b::o) (.inScope b::bo) fs (.cons (.inScope fs) aG) a)
 |label k=>intro o bo _ aG a;exact .head auG (go o bo aG a)
 |goto k=>intro o bo _ _ a;exact absurd a (by simp[tz,CB])
 |ret=>intro o bo _ aG a;exact RD fW (.inr (.inl ⟨rfl,bo,rfl⟩)) aC aZ a
 |refuse s=>intro o bo _ _ a;exact absurd a (by simp[tz,CB])
def atp(aC:c9 C J Y h j bd w)(aZ:iM J Y n am H tmps){bR:ResultVar->Sem Value}(hK:∀t,bR (.tmp t)=pure (tmps.getD t Go.undef))(dp:∀D t,bR (.cell D t)=do loadVar t (<-asAddr (tmps.getD D Go.undef))):
 ∀(k:List ResultVar) (bj:List z),xB am k=true->vQ C h H k=some bj->(k.mapM bR).run C.P w= .ok (bP J bj) w/\d2 Y bj:=by
 intro k
 induction k with
 |nil=>intro bj _ a;simp[vQ]at a;subst a;exact⟨by simp[bP],trivial⟩
 |cons x k ah=>
  intro bj fs a
  cases x with
  |tmp t=>
   simp only[xB,Zn]at fs
   simp only[vQ]at a
   split at a
   ·rename_i aa r aU U
    simp at a;subst a
    obtain⟨I,M⟩:=aZ.val t aa fs.1 aU
    obtain⟨ak,aA⟩:=ah r fs.2 U
    refine⟨?_,M,aA⟩
    simp[za,hK,I,ak,bP]
   ·simp at a
  |cell D t=>
   simp only[xB,Zn]at fs
   simp only[vQ]at a
   split at a
   ·rename_i p av
    split at a
    ·rename_i aa r aU U
     simp at a;subst a
     obtain⟨I,M⟩:=aZ.val D p fs.1 av
     obtain⟨ak,aA⟩:=ah r fs.2 U
     obtain⟨bq,bV⟩:=Vn aC M aU
     refine⟨?_,bV,aA⟩
     cases p with
     |ptr b V=>
      simp only[Instr.loadAt,Instr.sureAddr,aJ,Sem.run_bind,Sem.run_pure,Result.andThen_ok]at bq
      simp[za,dp,I,aJ,asAddr,bq,ak,bP]
     |_=>simp[pb,d0,aR]at aU;split at aU<;>simp at aU
    ·simp at a
   ·simp at a
def ar8(bj:List z):(if a:(bP J bj).toArray.size=1 then(bP J bj).toArray[0]else Value.tuple (bP J bj).toArray)=aJ J (one bj):=by
 match bj with
 |[]=>simp[one,bP,aJ]
 |[D]=>simp[one,bP]
 |D::b::r=>simp[one,bP,aJ]
def ar7{bj:List z}(a:d2 Y bj):b2 Y (one bj):=by
 match bj,a with
 |[],a=>exact a
 |[D],a=>exact a.1
 |D::b::r,a=>exact a
def iv.defs(aC:iv C bi bz bH fn am aW aH ro cs h j J Y w bL ax){fS:List he}(a:∀d∈fS,u3 Y d):iv C bi bz bH fn am fS aH ro cs h j J Y w bL ax:=
 ⟨aC.U,aC.kD,aC.hp,aC.jx,⟨a,aC.ho.ro,aC.ho.fn⟩,aC.bot,aC.cs⟩
def iv.S6{todo:List dy}{bG:ku}(H2:bG≠ .run)(bX:pV Y bG)(aC:iv C bi bz bH fn am aW aH ro cs h j J Y w bL ax)(aZ:iM J Y n am H tmps):
 A2 C bi bz bH bG todo fn n am aW aH ro cs H h j J Y w bL tmps bo ax:=by
 cases bG with
 |run=>exact absurd rfl H2
 |returning=>exact⟨aC.U,aC.kD,aC.hp,aC.jx,aC.ho,bX,aC.bot,aC.cs,aZ⟩
 |panicking fL=>exact⟨aC.U,aC.kD,aC.hp,aC.jx,aC.ho,bX,aC.bot,aC.cs,aZ⟩
def Wd(cA:Env C bi dx dE)(fW:mQ C bi bz bH ah){d:he}{ds:List he}{bG:ku}{todo:List dy}(H2:bG≠ .run)(bX:pV Y bG)(aC:iv C bi bz bH fn am (d::ds) aH ro cs h j J Y w bL ax)(aZ:iM J Y n am H tmps)
 (a:vV d ds bG todo ah C ⟨fn,n,am,[],aH,ro,cs⟩ H h j=some v):Ends C bi bz bH v (lone (cd J fn (d::ds) aH ro tmps bo (gi J bG)) ax w):=by
 have Lg:u3 Y d:=aC.ho.aW d (Zv ..)
 have X8:∀d∈ds,u3 Y d:=λkZ aI=>aC.ho.aW kZ (Zt _ aI)
 have XN:gi J bG≠ .run:=by cases bG<;>simp[gi]at H2 ⊢
 unfold vV at a
 split at a
 rename_i O2 aP Fl ajt GO Sr qC fp
 cases fp
 split at a
 ·rename_i r cf
  split at a
  ·rename_i pd hi
   simp only[ey,gB]at a
   obtain⟨BJ,a⟩:=a
   have aI:Y r:=Lg.1
   obtain⟨gH,l9⟩:=aC.U.obj r _ hi aI
   simp only[ZR]at gH
   obtain⟨bO,bM,cq,df⟩:=putObj aC.U (c0:=bL) (o':= .deferred none) (nU:= .deferred none) (iN BJ) aI hi ⟨Zs,Zs⟩ gH Zs
    (λbO rS=>⟨by simpa using rS,λk az=>by cases az⟩) ⟨λ_ _ _ a=>(by cases a),λ_ _ _ a=>(by cases a)⟩
   have LV:(Instr.takeDeferred (J r).cz).run C.P w= .ok (pd.map (lg J)) bO:=by
    have B:bO=w.putObj (J r).cz (.deferred none):=by
     have:(Go.setObj (J r).cz (.deferred none)).run C.P w= .ok () (w.putObj (J r).cz (.deferred none)):=by simp[Go.setObj,Sem.run,gH,World.putObj]
     rw[this]at bM
     simp only[Result.ok.injEq]at bM
     exact bM.2.symm
    rw[B]
    exact run_takeDeferred gH
   refine .head (auS (dg:=pd++ds) XN LV (by rw[Yw])) ?_
   have amN:∀d∈pd++ds,u3 Y d:=λkZ rD=>by
    rcases Zy.1 rD with al|al
    ·exact l9 pd rfl kZ al
    ·exact X8 kZ al
   have wT:=(aC.defs amN).ext cq df (Zi _)
   exact fW _ _ _ _ _ _ _ _ _ _ _ _ v a J Y bO bL tmps bo ax (wT.S6 H2 bX aZ)
  ·simp at a
 ·rename_i f fm args
  split at a
  ·rename_i g cf Qg
   have lH:=abk (J:=J) (h:=h) (j:=j) (bd:=bi.heap.size) (w:=w) cA.jM Lg.1.1 Lg.1.2 Lg.2 Qg
   obtain⟨I,M⟩:=lH
   have qP:=step_defer (P:=C.P) (fr:=cd J fn (⟨.fn f fm,args⟩::ds) aH ro tmps bo (gi J bG)) (cs:=ax) (w:=w) (d:=lg J ⟨.fn f fm,args⟩) (ds:=ds.map (lg J)) XN rfl rfl I
   refine .head qP ?_
   have aD:ya C J Y h bL j n am H tmps bG todo bo:=by
    cases bG with
    |run=>exact absurd rfl H2
    |_=>exact aZ
   exact Ws (Bg:=true) fW aC.U aC.kD aC.hp (Zi _) (.cons (bG:=bG) aD bX ((aC.defs X8).ho) aC.bot aC.jx aC.cs) (λB=>by cases B) M a
  ·simp at a
def ajD(J:cQ):∀(k:List q4),(k.map (sq J)).dropWhile (!·.goexit)=[]:=by
 intro k
 induction k with
 |nil=>rfl
 |cons D k ah=>simp[sq,ah]
def at9(J:cQ)(fL:List q4):settle (gi J (.panicking fL))=gi J (vZ fL):=by
 cases fL with
 |nil=>rfl
 |cons p k=>
  obtain⟨v,r⟩:=p
  cases r with
  |false=>simp[gi,settle,vZ,sq]
  |true=>simp[gi,settle,vZ,sq,ajD]
def avk{fL:List q4}(a:pV Y (.panicking fL)):pV Y (vZ fL):=by
 unfold vZ
 split
 ·trivial
 ·exact a
def avl(fL:List q4):vZ fL≠ .run:=by
 unfold vZ
 split<;>simp
def ats(cA:Env C bi dx dE)(fW:mQ C bi bz bH ah){todo:List dy}(aC:iv C bi bz bH fn am aW aH ro cs h j J Y w bL ax)(aZ:iM J Y n am H tmps)
 (a:Jm todo ah C ⟨fn,n,am,aW,aH,ro,cs⟩ H h j=some v):Ends C bi bz bH v (lone (cd J fn aW aH ro tmps bo .returning) ax w):=by
 unfold Jm at a
 cases aW with
 |cons d ds=>exact Wd (bG:= .returning) cA fW Zs trivial aC aZ a
 |nil=>
  simp only at a
  split at a
  ·rename_i f ch
   obtain⟨G3,p3,oE⟩:=aC.ho.fn
   rw[ch]at p3;cases p3
   split at a
   ·rename_i bj B3
    have nO:(results f tmps).run C.P w= .ok (aJ J (one bj)) w/\d2 Y bj:=by
     unfold results
     rw[Sem.run_bind,Array.mapM_eq_mapM_toList,Sem.run_map]
     obtain⟨eX,fD⟩:=atp aC.U aZ (bR:=λx=>match x with| .tmp t=>pure (tmps.getD t Go.undef)| .cell D t=>do loadVar t (<-asAddr (tmps.getD D Go.undef))) (λ_=>rfl) (λ_ _=>rfl) _ _ oE B3
     refine⟨?_,fD⟩
     refine(congrArg (λr=>Result.andThen (Result.andThen r _) _) eX).trans ?_
     simp only[Result.andThen_ok,Sem.run_pure]
     rw[<-ar8]
    obtain⟨nO,alL⟩:=nO
    cases aH with
    |false=>
     have Ls:(cd J fn [] false ro tmps bo .returning).leaving C.P w (.returned (aJ J (one bj))):=⟨rfl,rfl,rfl,f,ch,nO⟩
     cases cs with
     |nil=>
      simp only[sn,kE,Ze]at a
      subst a
      obtain⟨b0,cy,cT⟩:=aC.bot rfl
      have hA:=aC.cs
      cases hA with
      |nil=>exact⟨J,w,_, .refl _ _,Ls,b0,aC.kD⟩
     |cons c rest=>
      refine VD fW aC Zs (ar7 alL) (λg iD B=> ?_) a
      subst B
      exact step_leave_returned Ls
    |true=>
     cases cs with
     |nil=>have:=(aC.bot rfl).2.1;cases this
     |cons c rest=>
      obtain⟨gs,aQ,kk,cN,uB,fS,l6,iO,kQ⟩:=c
      obtain⟨qR,hd,hv,iD,rfl,bM,cq,df,fb,eJ,et⟩:=aC.cs.inv
      have qP:=step_going_returned (P:=C.P) (fr:=cd J fn [] true ro tmps bo .returning) (c:=cd J gs fS iO kQ hd hv (gi J l6)) (cs:=iD) (w:=w) (v:=aJ J (one bj)) rfl ⟨rfl,rfl,f,ch,nO⟩
      refine .head qP ?_
      cases l6 with
      |run=>simp[sn]at a
      |returning=>
       have cu:ah .returning uB ⟨gs,aQ,kk,fS,iO,kQ,rest⟩ cN h j=some v:=a
       exact fW _ _ _ _ _ _ _ _ _ _ _ _ v cu J Y w qR hd hv iD ⟨aC.U,aC.kD,aC.hp,ZA eJ aC.jx,df,trivial,fb,et,bM⟩
      |panicking fL=>
       have cu:ah (vZ fL) uB ⟨gs,aQ,kk,fS,iO,kQ,rest⟩ cN h j=some v:=a
       have B:({cd J gs fS iO kQ hd hv (gi J (.panicking fL))with mode:=settle (cd J gs fS iO kQ hd hv (gi J (.panicking fL))).mode}:Frame)=cd J gs fS iO kQ hd hv (gi J (vZ fL)):=by
        rw[show(cd J gs fS iO kQ hd hv (gi J (.panicking fL))).mode=gi J (.panicking fL) from rfl,at9]
        rfl
       rw[B]
       have aj:iv C bi bz bH gs kk fS iO kQ rest h j J Y w qR iD:=⟨aC.U,aC.kD,aC.hp,ZA eJ aC.jx,df,fb,et⟩
       exact fW _ _ _ _ _ _ _ _ _ _ _ _ v cu J Y w qR hd hv iD (aj.S6 (avl fL) (avk cq) bM)
   ·simp at a
  ·simp at a
def as5(J:cQ)(fL:List q4)(bG:ku):raised (gi J bG) (fL.map (sq J))=gi J (CO fL bG):=by
 cases bG<;>simp[gi,raised,CO]
def asT{fL:List q4}{bG:ku}(a:pV Y (.panicking fL))(cu:pV Y bG):pV Y (CO fL bG):=by
 cases bG with
 |panicking pw=>
  intro p av
  rcases Zy.1 av with al|al
  ·exact a p al
  ·exact cu p al
 |_=>exact a
def asp(cA:Env C bi dx dE)(fW:mQ C bi bz bH ah){todo:List dy}{fL:List q4}(bX:pV Y (.panicking fL))(aC:iv C bi bz bH fn am aW aH ro cs h j J Y w bL ax)(aZ:iM J Y n am H tmps)
 (a:Jl fL todo ah C ⟨fn,n,am,aW,aH,ro,cs⟩ H h j=some v):Ends C bi bz bH v (lone (cd J fn aW aH ro tmps bo (gi J (.panicking fL))) ax w):=by
 unfold Jl at a
 cases aW with
 |cons d ds=>exact Wd (bG:= .panicking fL) cA fW Zs bX aC aZ a
 |nil=>
  simp only at a
  cases cs with
  |nil=>simp at a
  |cons c rest=>
   obtain⟨gs,aQ,kk,cN,uB,fS,l6,iO,kQ⟩:=c
   obtain⟨qR,hd,hv,iD,rfl,bM,cq,df,fb,eJ,et⟩:=aC.cs.inv
   obtain⟨f,ch,_⟩:=aC.ho.fn
   have qP:=step_going_panicked (P:=C.P) (fr:=cd J fn [] aH ro tmps bo (gi J (.panicking fL))) (c:=cd J gs fS iO kQ hd hv (gi J l6)) (cs:=iD) (w:=w) (chain:=fL.map (sq J)) ⟨rfl,rfl,f,ch⟩
   refine .head qP ?_
   have B:({cd J gs fS iO kQ hd hv (gi J l6)with mode:=raised (cd J gs fS iO kQ hd hv (gi J l6)).mode (fL.map (sq J))}:Frame)=cd J gs fS iO kQ hd hv (gi J (CO fL l6)):=by
    rw[show(cd J gs fS iO kQ hd hv (gi J l6)).mode=gi J l6 from rfl,as5]
    rfl
   rw[B]
   have cu:ah (CO fL l6) uB ⟨gs,aQ,kk,fS,iO,kQ,rest⟩ (tB uB cN) h j=some v:=a
   have aj:iv C bi bz bH gs kk fS iO kQ rest h j J Y w qR iD:=⟨aC.U,aC.kD,aC.hp,ZA eJ aC.jx,df,fb,et⟩
   exact fW _ _ _ _ _ _ _ _ _ _ _ _ v cu J Y w qR hd hv iD (aj.S6 (by cases l6<;>simp[CO]) (asT bX cq) bM.drop)
def adv(cA:Env C bi dx dE)(ps:mQ C bi bz bH ah):mQ C bi bz bH λbG todo bR H h j=>SP ah C bG todo bR H h j:=by
 intro bG todo fn n am aW aH ro cs H h j v cu J Y w c0 tmps bo ax cK
 cases bG with
 |run=>
  obtain⟨aC,aZ⟩:=cK.ail
  have M:adw todo ah C ⟨fn,n,am,aW,aH,ro,cs⟩ H h j=some v:=cu
  cases aZ with
  |plain aG E0=>
   cases aG with
   |nil=>
    have ak:nT none ah C [] ⟨fn,n,am,aW,aH,ro,cs⟩ H h j=some v:=M
    exact RD ps (.inl ⟨rfl,rfl⟩) aC E0 ak
   |cons aE aG=>
    rename_i D x o bo
    have ak:abm D ah C o ⟨fn,n,am,aW,aH,ro,cs⟩ H h j=some v:=M
    have go:∀o bo,lc C J Y am o bo->ah .run o ⟨fn,n,am,aW,aH,ro,cs⟩ H h j=some v->Ends C bi bz bH v (lone (cd J fn aW aH ro tmps bo .run) ax w):=
     λo bo aG a=>ps _ _ _ _ _ _ _ _ _ _ _ _ v a J Y w c0 tmps bo ax (aC.state (.plain aG E0))
    cases aE with
    |code fs=>exact VZ cA ps aC E0 _ o bo fs aG ak
    |inBlock=>exact .head auD (go o bo aG ak)
    |inLoop fs=>exact .head auE (VZ cA ps aC E0 _ _ _ fs (.cons (.inLoop fs) aG) ak)
    |inScope fs=>exact .head auF (go o bo aG ak)
    |Bm aI=>
     rename_i k
     have aA:D5 k ah C o ⟨fn,n,am,aW,aH,ro,cs⟩ H h j=some v:=ak
     unfold D5 at aA
     split at aA
     ·rename_i st qm gs aQ kk cN params assign body fS hi
      have Pm:st≠ .busy->bK (iB C k) (iQ (bn C h k (some (.loop .exhausted qm gs aQ kk cN params assign body fS))) λh=>ah .run ((qm.map dy.code).toList++o) ⟨fn,n,am,aW,aH,ro,cs⟩ H h j) none=some v->
       Ends C bi bz bH v (lone (cd J fn aW aH ro tmps (.endRangeFunc (J k).cz::bo) .run) ax w):=by
       intro aoZ bq
       simp only[ey,gB]at bq
       obtain⟨BJ,bq⟩:=bq
       have QI:∀c,qm=some c->Fa c:=by
        obtain⟨_,_,_,_,_,_,r2,_⟩:=aC.U.obj k _ hi aI
        exact r2
       obtain⟨hd,gH,Aq,r2,wT⟩:=RK aC (gn:= .exhausted) (AA:=qm) (iN BJ) aI hi QI
       refine .head (auB (run_endLoop gH aoZ)) ?_
       refine ps _ _ _ _ _ _ _ _ _ _ _ _ v bq J Y _ c0 tmps _ ax (wT.state (.plain ?_ E0))
       cases qm with
       |none=>exact aG
       |some c=>
        have ay:li C am c=true:=by
         rcases r2 c rfl with rfl|⟨id,rfl⟩<;>rfl
        exact .cons (.code ay) aG
      cases st with
      |busy=>simp at aA
      |ready=>exact Pm Zs aA
      |done=>exact Pm Zs aA
      |exhausted=>exact Pm Zs aA
     ·simp at aA
    |begin=>
     have aA:GB ah C o ⟨fn,n,am,aW,aH,ro,cs⟩ H h j=some v:=ak
     unfold GB at aA
     cases ro with
     |none=>simp at aA
     |some k=>
      simp only at aA
      split at aA
      ·rename_i qm gs aQ kk cN params assign body fS hi
       simp only[ey,gB]at aA
       obtain⟨BJ,aA⟩:=aA
       have aI:=aC.ho.ro k rfl
       have QI:∀c,qm=some c->Fa c:=by
        obtain⟨_,_,_,_,_,_,r2,_⟩:=aC.U.obj k _ hi aI
        exact r2
       obtain⟨hd,gH,Aq,r2,wT⟩:=RK aC (gn:= .busy) (AA:=qm) (iN BJ) aI hi QI
       refine .head (auw (run_beginRound gH rfl)) ?_
       exact ps _ _ _ _ _ _ _ _ _ _ _ _ v aA J Y _ c0 tmps bo ax (wT.state (.plain aG E0))
      ·simp at aA
  |seq aG aD=>exact adk cA ps _ _ _ _ _ _ _ _ _ _ aC aG aD M
  |drawn aG bq bV c2 eg=>exact Wj cA ps aC aG bq bV c2.dH c2 eg M
 |returning=>
  have aC:iv C bi bz bH fn am aW aH ro cs h j J Y w c0 ax:=⟨cK.U,cK.kD,cK.hp,cK.jx,cK.ho,cK.bot,cK.cs⟩
  exact ats (todo:=todo) cA ps aC cK.todo cu
 |panicking fL=>
  have aC:iv C bi bz bH fn am aW aH ro cs h j J Y w c0 ax:=⟨cK.U,cK.kD,cK.hp,cK.jx,cK.ho,cK.bot,cK.cs⟩
  exact asp (todo:=todo) cA ps cK.mode aC cK.todo cu
def atR(cA:Env C bi dx dE):∀n,mQ C bi bz bH (run C n):=by
 intro n
 induction n with
 |zero=>intro bG todo fn n am aW aH ro cs H h j v a;simp[run]at a
 |succ m ps=>exact adv cA ps
def atO(cA:Env C bi dx dE){m f:Nat}{args:List z}(ja:d2 dE args)(a:xE C m f args=some v):
 Calls C.P f (bP dx args).toArray bi λB bO=>(∃J,B= .returned (aJ J v))/\Below bi.heap.size bi bO:=by
 intro qC
 have bZ:Ends C bi f qC v (lone (Frame.enter C.P f (bP dx args).toArray .normal) qC bi):=
  KB (atR cA m) cA.base (Below.refl _ _) cA.hp (Zi _) .nil (λ_=>rfl) ja a
 obtain⟨J,bO,fr,I,M,ak,aA⟩:=bZ
 exact⟨.returned (aJ J v),bO,fr,⟨⟨J,rfl⟩,aA⟩,I,ak,M⟩
end
noncomputable section
open Go.RowKit (Below)
abbrev uJ:=Option (List z×Nat×List (Nat×ag))
def Cf(P:Program)(next:Nat->DataW Unit->Nat->uJ):List Field->List (DataW Unit)->Nat->Nat->uJ
 |[],[],_,n=>some ([],n,[])
 |f::jE,d::ds,off,n=>bK (Nat.beq f.offset off) (match next f.type d n with
  |some (k,aP,os)=>bK (Nat.beq k.length (P.cellsOf f.type)) (match Cf P next jE ds (off+k.length) aP with
   |some (c4,bk,r5)=>some (k++c4,bk,os++r5)
   |none=>none) none
  |none=>none) none
 |_,_,_,_=>none
def Ff(P:Program)(next:Nat->DataW Unit->Nat->uJ)(B:Nat):List (DataW Unit)->Nat->uJ
 |[],n=>some ([],n,[])
 |d::ds,n=>match next B d n with
  |some (k,aP,os)=>bK (Nat.beq k.length (P.cellsOf B)) (match Ff P next B ds aP with
   |some (c4,bk,r5)=>some (k++c4,bk,os++r5)
   |none=>none) none
  |none=>none
def IA:Lit->Option z
 | .bool b=>some (.bool b)
 | .int o n=>some (.int o n)
 | .string s=>some (.str (s.map (·.toNat)))
 |_=>none
def RB(P:Program)(B:Nat)(k:List z):Option z:=match P.underlying B with
 |some (.struct _)=>some (.agg k)
 |some (.array _ _)=>some (.agg k)
 |some _=>(match k with|[v]=>some v|_=>none)
 |none=>none
def MH(P:Program)(o:Nat):Bool:=match P.underlying o with|some .bool=>true|some (.int _)=>true|some .string=>true|_=>false
def IF(P:Program)(next:Nat->DataW Unit->Nat->uJ)(B:Nat):List (Lit×DataW Unit)->Nat->Option (List (z×z)×Nat×List (Nat×ag))
 |[],n=>some ([],n,[])
 |(key,d)::b3,n=>match IA key,next B d n with
  |some Fe,some (k,aP,os)=>(match RB P B k,IF P next B b3 aP with
   |some v,some (r,bk,r5)=>some ((Fe,v)::r,bk,os++r5)
   |_,_=>none)
  |_,_=>none
def FK(k:List z):ag:= .cells (R.ofList k 0 .nil) k.length .own
def vA(P:Program):Nat->Nat->DataW Unit->Nat->uJ
 |0,_,_,_=>none
 |m+1,t,d,n=>match P.underlying t,d with
  |some .bool, .lit (.bool b)=>some ([.bool b],n,[])
  |some (.int _), .lit (.int o i)=>some ([.int o i],n,[])
  |some .string, .lit (.string s)=>some ([.str (s.map (·.toNat))],n,[])
  |some (.pointer _), .nil=>some ([.cM],n,[])
  |some (.pointer B), .ptr d=>(match vA P m B d (n+1)with
   |some (k,aP,os)=>bK (Nat.beq k.length (P.cellsOf B)&&Nat.blt 0 k.length) (some ([.ptr n 0],aP,(n,FK k)::os)) none
   |none=>none)
  |some (.slice _), .nil=>some ([.aV],n,[])
  |some (.slice B), .slice b3 adq=>(match adq with
   |[]=>(match Ff P (vA P m) B b3 (n+1)with
    |some (k,aP,os)=>bK (Nat.blt 0 k.length) (some ([.slice n 0 b3.length b3.length],aP,(n,FK k)::os)) none
    |none=>none)
   |_::_=>none)
  |some (.struct jE), .agg ds=>(match Cf P (vA P m) jE.toList ds 0 n with
   |some (k,aP,os)=>bK (Nat.beq k.length (P.cellsOf t)) (some (k,aP,os)) none
   |none=>none)
  |some (.array _ B), .agg ds=>(match Ff P (vA P m) B ds n with
   |some (k,aP,os)=>bK (Nat.beq k.length (P.cellsOf t)) (some (k,aP,os)) none
   |none=>none)
  |some (.interface _), .nil=>some ([.nilIface],n,[])
  |some (.map _ _), .nil=>some ([.lM],n,[])
  |some (.map o B), .map b3=>bK (MH P o) (match IF P (vA P m) B b3 (n+1)with
   |some (r,aP,os)=>some ([.map n],aP,(n, .look r)::os)
   |none=>none) none
  |_,_=>none
section
variable{C:aM}{P:Program}{w:World}
def rb(w:World)(db:List MemPlace):Prop:=∀b off,MemPlace.cell b off∈db->∃c t,w.heap[b]? =some (.cells c t (0,0))
def DC(V:ag):Prop:=∀C Y,uK C Y V
def Lays(C:aM)(w:World)(n:Nat)(cs:List Value)(r:List z×Nat×List (Nat×ag)):Prop:=
 n<=r.2.1/\(∀x∈r.2.2,n<=x.1/\x.1<r.2.1/\DC x.2)/\∃f:Nat->lU,∀J Y,(∀b,n<=b->b<r.2.1->J b=f b/\Y b)->cs=bP J r.1/\d2 Y r.1/\∀x∈r.2.2,jC C J Y x.2 (J x.1) w
def Lays.plain{n:Nat}{cs:List Value}{k:List z}(a:∀J Y,cs=bP J k/\d2 Y k):Lays C w n cs (k,n,[]):=
 ⟨Zi _,Zs,λ_=>default,λJ Y _=>⟨(a J Y).1,(a J Y).2,Zs⟩⟩
def Lays.app{n aP bk:Nat}{qC Ox:List Value}{ea c4:List z}{acA r5:List (Nat×ag)}(I:Lays C w n qC (ea,aP,acA))(M:Lays C w aP Ox (c4,bk,r5)):Lays C w n (qC++Ox) (ea++c4,bk,acA++r5):=by
 obtain⟨bm,ct,ez,a3⟩:=I
 obtain⟨b0,cy,e5,cT⟩:=M
 refine⟨ZA bm b0, ?_,λb=>if b<aP then ez b else e5 b, ?_⟩
 ·intro x af
  rcases Zy.1 af with a|a
  ·obtain⟨cH,cB,dN⟩:=ct x a
   exact⟨cH,ZN cB b0,dN⟩
  ·obtain⟨cH,cB,dN⟩:=cy x a
   exact⟨ZA bm cH,cB,dN⟩
 ·intro J Y dt
  obtain⟨dv,dK,gM⟩:=a3 J Y (λb I M=>by
   have Em:b<aP:=M
   have:=dt b I (ZN M b0)
   simp only[Zp Em]at this
   exact this)
  obtain⟨cL,cJ,eI⟩:=cT J Y (λb I M=>by
   have sE:¬b<aP:=zt.2 I
   have:=dt b (ZA bm I) M
   simp only[Zg sE]at this
   exact this)
  refine⟨by rw[Bd, <-dv, <-cL],yz dK cJ, ?_⟩
  intro x af
  rcases Zy.1 af with a|a
  ·exact gM x a
  ·exact eI x a
def Cq{α d8:Type}{f:α->Option d8}:∀{k:List α}{r:List d8},k.mapM f=some r->r.length=k.length/\∀(i:Nat) (D:α) (b:d8),k[i]? =some D->r[i]? =some b->f D=some b:=by
 intro k
 induction k with
 |nil=>intro r a;simp at a;subst a;simp
 |cons D k ah=>
  intro r a
  simp only[za,Option.bind_eq_bind,ZV]at a
  obtain⟨b,aj,fy,U,a⟩:=a
  simp at a;subst a
  obtain⟨I,M⟩:=ah U
  refine⟨by simp[I],λi fK dT aC jb=> ?_⟩
  cases i with
  |zero=>simp at aC jb;subst aC;subst jb;exact aj
  |succ i=>exact M i fK dT (by simpa using aC) (by simpa using jb)
def ab4{α d8:Type}{f:α->Option d8}{D:α}{k:List α}{r:List d8}(a:(D::k).mapM f=some r):∃b fy,r=b::fy/\f D=some b/\k.mapM f=some fy:=by
 simp only[za,Option.bind_eq_bind,ZV]at a
 obtain⟨b,aj,fy,U,a⟩:=a
 simp at a;subst a
 exact⟨b,fy,rfl,aj,U⟩
def rb.of{db b8:List MemPlace}(a:rb w db)(aD:∀x∈b8,x∈db):rb w b8:=λb off aj=>a b off (aD _ aj)
def JS(C:aM)(w:World)(next:Nat->DataW Unit->Nat->uJ)(c7:TypeId->List Value->Option (DataW Unit×List MemPlace)):Prop:=
 ∀t d n r,next t d n=some r->∀cs db,c7 t cs=some (d,db)->rb w db->Lays C w n cs r
variable{next:Nat->DataW Unit->Nat->uJ}{c7:TypeId->List Value->Option (DataW Unit×List MemPlace)}
def aqt(io:JS C w next c7){cs:List Value}:∀(jE:List Field) (ds:List (DataW Unit)) (off n:Nat) (r:List z×Nat×List (Nat×ag)),Cf P next jE ds off n=some r->
 ∀b9:List (DataW Unit×List MemPlace),(jE.mapM λf=>c7 f.type ((cs.drop f.offset).take (P.cellsOf f.type)))=some b9->b9.map (·.1)=ds->rb w (b9.flatMap (·.2))->Lays C w n ((cs.drop off).take r.1.length) r:=by
 intro jE
 induction jE with
 |nil=>
  intro ds off n r a b9 _ _ _
  cases ds with
  |nil=>simp[Cf]at a;subst a;exact .plain λJ Y=>⟨by simp[bP],trivial⟩
  |cons d ds=>simp[Cf]at a
 |cons f jE ah=>
  intro ds off n r a b9 af aI ce
  cases ds with
  |nil=>simp[Cf]at a
  |cons d ds=>
   simp only[Cf,ey]at a
   obtain⟨QC,a⟩:=a
   have QC:=Zj QC
   split at a
   ·rename_i k aP os U
    simp only[ey]at a
    obtain⟨az,a⟩:=a
    have az:=Zj az
    split at a
    ·rename_i c4 bk r5 g9
     simp at a;subst a
     obtain⟨e,pN,rfl,F,Rc⟩:=ab4 af
     simp at aI
     obtain⟨rfl,aI⟩:=aI
     have I:=io _ _ _ _ U _ e.2 (by rw[F]) (ce.of (by intro x af;simp;exact .inl af))
     have M:=ah ds (off+k.length) aP _ g9 pN Rc aI (ce.of (by intro x af;simp only[Yr,Zy];exact .inr af))
     rw[QC, <-az]at I
     have:=I.app M
     simp only[ZP]
     rw[List.take_add,zp]
     exact this
    ·simp at a
   ·simp at a
def WP(cs:List Value)(o:Nat):∀(m i0:Nat),(List.range' i0 m).flatMap (λi=>(cs.drop (i*o)).take o)=(cs.drop (i0*o)).take (m*o):=by
 intro m
 induction m with
 |zero=>intro i0;simp
 |succ m ah=>
  intro i0
  rw[List.range'_succ,Yr,ah,Z3 m 1 o,Nat.one_mul,zo (m*o) o,List.take_add,zp,Z3 i0 1 o,Nat.one_mul]
def abL(io:JS C w next c7){B:Nat}{g:Nat->List Value}:∀(ds:List (DataW Unit)) (i0 n:Nat) (r:List z×Nat×List (Nat×ag)),Ff P next B ds n=some r->
 ∀b9:List (DataW Unit×List MemPlace),((List.range' i0 ds.length).mapM λi=>c7 B (g i))=some b9->b9.map (·.1)=ds->rb w (b9.flatMap (·.2))->Lays C w n ((List.range' i0 ds.length).flatMap g) r/\r.1.length=ds.length*P.cellsOf B:=by
 intro ds
 induction ds with
 |nil=>
  intro i0 n r a b9 _ _ _
  simp[Ff]at a;subst a
  exact⟨.plain λJ Y=>⟨by simp[bP],trivial⟩,Zs⟩
 |cons d ds ah=>
  intro i0 n r a b9 af aI ce
  simp only[Ff]at a
  split at a
  ·rename_i k aP os U
   simp only[ey]at a
   obtain⟨az,a⟩:=a
   have az:=Zj az
   split at a
   ·rename_i c4 bk r5 g9
    simp at a;subst a
    simp only[ZG,List.range'_succ]at af
    obtain⟨e,pN,rfl,F,Rc⟩:=ab4 af
    simp at aI
    obtain⟨rfl,aI⟩:=aI
    have I:=io _ _ _ _ U _ e.2 (by rw[F]) (ce.of (by intro x af;simp;exact .inl af))
    obtain⟨M,ak⟩:=ah (i0+1) aP _ g9 pN Rc aI (ce.of (by intro x af;simp only[Yr,Zy];exact .inr af))
    refine⟨?_, ?_⟩
    ·simp only[ZG,List.range'_succ,Yr]
     exact I.app M
    ·simp only[ZP,ZG,ak,az,Nat.succ_mul]
     omega
   ·simp at a
  ·simp at a
end
end
noncomputable section
open Go.RowKit (Below)
section
variable{C:aM}{P:Program}{w:World}
def Om{D:Addr}{v:Value}(a:w.cell? D=some v):D.spot=none/\∃b7 ty tb,w.heap[D.block]? =some (.cells b7 ty tb)/\b7[D.off]? =some v:=by
 unfold World.cell? at a
 split at a
 ·rename_i c ty tb aj
  split at a
  ·cases a
  ·rename_i aD
   refine⟨?_,c,ty,tb,aj,a⟩
   cases bJ:D.spot with
   |none=>rfl
   |some x=>rw[bJ]at aD;exact absurd rfl aD
 ·cases a
def N1(D:Addr)(W:Nat):(D.add W).block=D.block:=by unfold Addr.add;split<;>rfl
def Vo(D:Addr)(W:Nat):(D.add W).off=D.off+W:=by unfold Addr.add;split<;>simp_all
def Oo{D:Addr}{o:Nat}{g:List Value}{b7:Array Value}{ty:TypeId}{tb:Nat×Nat}(aj:w.heap[D.block]? =some (.cells b7 ty tb))(a:w.cells? 0 D o=some g):g=(b7.toList.drop D.off).take o/\g.length=o:=by
 unfold World.cells? at a
 rw[Zp (zu _)]at a
 obtain⟨I,M⟩:=Cq a
 rw[List.length_range]at I
 have key:∀W,W<o->b7[D.off+W]? =g[W]? :=by
  intro W bB
  have bX:g[W]? =some g[W]:=Zf Zo
  have:=M W W g[W] (by simp[bB]) bX
  obtain⟨_,DQ,adK,ax1,cH,cB⟩:=Om this
  rw[N1,aj]at cH
  cases cH
  rw[Vo]at cB
  rw[cB,bX]
 refine⟨YH λW=> ?_,I⟩
 by_cases bB:W<o
 ·rw[YU bB,Z1, <-key W bB];simp
 ·rw[ZT Zo,ZT Zx]
def R2(k:List z):DC (FK k):=λ_ _=>⟨λ_ _ _ a=>(by cases a),λ_ _ _ a=>(by cases a;exact Fy)⟩
def ar6(k:List (z×z)):DC (.look k):=λ_ _=>⟨λ_ _ _ a=>(by cases a),λ_ _ _ a=>(by cases a)⟩
def Ss{J:cQ}{Y:Nat->Prop}{k:List z}{pl:lU}{b7:Array Value}{ty:TypeId}(aj:w.heap[pl.cz]? =some (.cells b7 ty (0,0)))(az:(b7.toList.drop pl.dO).take k.length=bP J k)(g:d2 Y k)(ce:0<k.length):jC C J Y (FK k) pl w:=by
 have eD:k.length<=b7.size-pl.dO:=by
  have:=congrArg List.length az
  rw[jo]at this
  simp at this
  omega
 refine⟨b7,ty,0,0,aj,rfl,Zo,λi v bt=> ?_⟩
 rw[lO]at bt
 have aE:i<k.length:=(Zb.1 bt).1
 refine⟨?_,yA g bt⟩
 have:=congrArg (λx:List Value=>x[i]?) az
 simp only[YU aE,Z1,ZO,yl,bt,ZR]at this
 exact this
def Lays.block{n aP:Nat}{os:List (Nat×ag)}{cs:List Value}{k:List z}{aa:z}{x:Value}{cE:ag}(pl:lU)(a:Lays C w (n+1) cs (k,aP,os))(bb:DC cE)
 (hi:∀J Y,J n=pl->Y n->cs=bP J k->d2 Y k->jC C J Y cE pl w/\x=aJ J aa/\b2 Y aa):Lays C w n [x] ([aa],aP,(n,cE)::os):=by
 obtain⟨bm,ct,f,a3⟩:=a
 have bm:n+1<=aP:=bm
 refine⟨by simp only;omega, ?_,λb=>if b=n then pl else f b, ?_⟩
 ·intro e F
  rcases Zq.1 F with rfl|F
  ·exact⟨Zi _,by simp only;omega,bb⟩
  ·obtain⟨cH,cB,dN⟩:=ct e F
   exact⟨Zo,cB,dN⟩
 ·intro J Y dt
  have aL:=dt n (Zi _) (by simp only;omega)
  simp only[ZE]at aL
  obtain⟨dv,dK,gM⟩:=a3 J Y (λb I M=>by
   have:=dt b Zo M
   have c5:b≠n:=Zo
   simp only[Zg c5]at this
   exact this)
  obtain⟨eX,fD,hD⟩:=hi J Y aL.1 aL.2 dv dK
  refine⟨by simp[bP,fD],⟨hD,trivial⟩, ?_⟩
  intro e F
  rcases Zq.1 F with rfl|F
  ·simp only[aL.1];exact eX
  ·exact gM e F
def acL{α d8:Type}{f:α->d8}{D m:List d8}(a:D.Perm m):∀k:List α,k.map f=D->∃b6:List α,b6.Perm k/\b6.map f=m:=by
 induction a with
 |nil=>intro k a;simp at a;subst a;exact⟨[], .refl _,rfl⟩
 |cons x _ ah=>
  intro k a
  cases k with
  |nil=>simp at a
  |cons e k=>
   simp at a
   obtain⟨b6,I,M⟩:=ah k a.2
   exact⟨e::b6,I.cons e,by simp[a.1,M]⟩
 |swap x e fw=>
  intro k a
  cases k with
  |nil=>simp at a
  |cons p k=>
   cases k with
   |nil=>simp at a
   |cons al k=>
    simp at a
    obtain⟨rfl,rfl,rfl⟩:=a
    exact⟨al::p::k, .swap _ _ _,Zs⟩
 |trans _ _ Re Iq=>
  intro k a
  obtain⟨ea,I,M⟩:=Re k a
  obtain⟨c4,ak,aA⟩:=Iq ea M
  exact⟨c4,ak.trans I,aA⟩
def insert_perm{o8:Type}(x:Lit×DataW o8):∀k,(DataW.insert x k).Perm (x::k):=by
 intro k
 induction k with
 |nil=>exact .refl _
 |cons e k ah=>
  simp only[DataW.insert]
  split
  ·exact .refl _
  ·exact(ah.cons e).trans (.swap _ _ _)
def sorted_perm{o8:Type}:∀k:List (Lit×DataW o8),(k.foldr DataW.insert []).Perm k:=by
 intro k
 induction k with
 |nil=>exact .refl _
 |cons x k ah=>exact(insert_perm x _).trans (ah.cons x)
def ap8{o:Nat}{v:Value}{key:Lit}{Fe:z}(av:MH P o=true)(a:keyOf P o v=some key)(aG:IA key=some Fe)(J:cQ)(Y:Nat->Prop):v=aJ J Fe/\b2 Y Fe:=by
 unfold MH at av
 unfold keyOf at a
 have B:mapKey P o v=some key:=by
  cases aU:P.underlying o with
  |none=>rw[aU]at av;cases av
  |some aa=>rw[aU]at a av;cases aa<;>first|exact a|cases av
 unfold mapKey at B
 split at B
 ·simp at B;subst B;simp[IA]at aG;subst aG;exact⟨rfl,trivial⟩
 ·split at B
  ·rename_i al mb n _ bJ
   simp at B;subst B;simp[IA]at aG;subst aG
   exact⟨by rw[bJ.1];rfl,trivial⟩
  ·cases B
 ·split at B
  ·rename_i s _ _
   simp at B;subst B;simp[IA]at aG;subst aG
   refine⟨by simp only[aJ];rw[Of], ?_⟩
   intro x af
   simp at af
   obtain⟨b,_,rfl⟩:=af
   exact b.toNat_lt
  ·cases B
 ·cases B
def avw{B:Nat}{v:Value}{k:List z}{aa:z}{J:cQ}{Y:Nat->Prop}(ch:v.formed P B=true)(aU:RB P B k=some aa)(ay:v.cells.toList=bP J k)(g:d2 Y k):v=aJ J aa/\b2 Y aa:=by
 unfold RB at aU
 unfold Value.formed at ch
 cases aI:P.underlying B with
 |none=>rw[aI]at aU;cases aU
 |some au5=>
  rw[aI]at aU ch
  have agg:(∃cs,v= .agg cs)->aa= .agg k->v=aJ J aa/\b2 Y aa:=by
   rintro⟨cs,rfl⟩ rfl
   refine⟨?_,g⟩
   simp only[Value.cells]at ay
   simp only[aJ, <-ay]
  have auf:v.cells= #[v]->(∃x,k=[x]/\aa=x)->v=aJ J aa/\b2 Y aa:=by
   rintro I ⟨x,rfl,rfl⟩
   rw[I]at ay
   simp[bP]at ay
   exact⟨ay,g.1⟩
  cases v<;>cases au5<;>simp only at ch aU<;>first
   |(cases ch;done)
   |(simp at aU;exact agg ⟨_,rfl⟩ aU.symm)
   |(
     split at aU
     ·simp at aU;exact auf rfl ⟨_,rfl,aU.symm⟩
     ·cases aU)
end
end
noncomputable section
open Go.RowKit (Below)
section
variable{C:aM}{P:Program}{w:World}
variable{next:Nat->DataW Unit->Nat->uJ}{c7:TypeId->List Value->Option (DataW Unit×List MemPlace)}
def aqs(io:JS C w next c7){o B:Nat}(av:MH P o=true):∀(b3:List (Lit×DataW Unit)) (n:Nat) (r:List (z×z)×Nat×List (Nat×ag)),IF P next B b3 n=some r->
 ∀ef:List (MapEntry×((Lit×DataW Unit)×List MemPlace)),ef.map (·.2.1)=b3->(∀br∈ef,keyOf P o br.1.key=some br.2.1.1/\br.1.val.formed P B=true/\c7 B br.1.val.cells.toList=some (br.2.1.2,br.2.2)/\rb w br.2.2)->
 n<=r.2.1/\(∀x∈r.2.2,n<=x.1/\x.1<r.2.1/\DC x.2)/\r.1.length=ef.length/\∃f:Nat->lU,∀J Y,(∀b,n<=b->b<r.2.1->J b=f b/\Y b)->
  ef.map (·.1)=(List.zipWith (λ(p:z×z) (br:MapEntry×((Lit×DataW Unit)×List MemPlace))=>(p.1,p.2,br.1.born)) r.1 ef).map (lk J)/\(∀p∈r.1,b2 Y p.1/\b2 Y p.2)/\∀x∈r.2.2,jC C J Y x.2 (J x.1) w:=by
 intro b3
 induction b3 with
 |nil=>
  intro n r a ef Eu _
  simp[IF]at a;subst a
  simp at Eu;subst Eu
  exact⟨Zi _,Zs,rfl,λ_=>default,λJ Y _=>⟨rfl,Zs,Zs⟩⟩
 |cons D b3 ah=>
  obtain⟨key,d⟩:=D
  intro n r a ef Eu kK
  simp only[IF]at a
  split at a
  ·rename_i Fe k aP os anA aL
   split at a
   ·rename_i v iW bk r5 bt U
    simp at a;subst a
    cases ef with
    |nil=>simp at Eu
    |cons br ef=>
     simp at Eu
     obtain⟨E3,E4⟩:=Eu
     obtain⟨cb,b5,cG,er⟩:=kK br (Zv ..)
     rw[E3]at cb cG
     obtain⟨bm,ct,ez,a3⟩:=io _ _ _ _ aL _ _ cG er
     obtain⟨b0,cy,ci,e5,cT⟩:=ah aP _ U ef E4 (λbr ce=>kK br (Zt _ ce))
     have bm:n<=aP:=bm
     have b0:aP<=bk:=b0
     refine⟨ZA bm b0, ?_,by simpa using ci,λb=>if b<aP then ez b else e5 b, ?_⟩
     ·intro x af
      rcases Zy.1 af with al|al
      ·obtain⟨cH,cB,dN⟩:=ct x al
       exact⟨cH,ZN cB b0,dN⟩
      ·obtain⟨cH,cB,dN⟩:=cy x al
       exact⟨ZA bm cH,cB,dN⟩
     ·intro J Y dt
      obtain⟨dv,dK,gM⟩:=a3 J Y (λb I M=>by
       have Em:b<aP:=M
       have:=dt b I (ZN M b0)
       simp only[Zp Em]at this
       exact this)
      obtain⟨cL,cJ,eI⟩:=cT J Y (λb I M=>by
       have sE:¬b<aP:=zt.2 I
       have:=dt b (ZA bm I) M
       simp only[Zg sE]at this
       exact this)
      obtain⟨bM,cq⟩:=ap8 av cb anA J Y
      obtain⟨S7,adR⟩:=avw b5 bt dv dK
      refine⟨?_, ?_, ?_⟩
      ·simp only[ZC,List.zipWith_cons_cons,cL]
       congr 1
       obtain⟨⟨ayr,ays,ayq⟩,_⟩:=br
       simp only[lk]at bM S7 ⊢
       rw[<-bM, <-S7]
      ·intro p av
       rcases Zq.1 av with rfl|av
       ·exact⟨cq,adR⟩
       ·exact cJ p av
      ·intro x af
       rcases Zy.1 af with al|al
       ·exact gM x al
       ·exact eI x al
   ·simp at a
  ·simp at a
def aek{ef:List (MapEntry×((Lit×DataW Unit)×List MemPlace))}:∀(r:List (z×z)) (ef:List (MapEntry×((Lit×DataW Unit)×List MemPlace))),r.length=ef.length->
 (List.zipWith (λ(p:z×z) (br:MapEntry×((Lit×DataW Unit)×List MemPlace))=>(p.1,p.2,br.1.born)) r ef).map (λB=>(B.1,B.2.1))=r:=by
 intro r
 induction r with
 |nil=>intro ef _;simp
 |cons p r ah=>
  intro ef a
  cases ef with
  |nil=>simp at a
  |cons br ef=>simp[ah ef (by simpa using a)]
def arf{α d8:Type}{f g:α->Option d8}:∀{k:List α},(∀x∈k,f x=g x)->k.mapM f=k.mapM g:=by
 intro k
 induction k with
 |nil=>intro _;rfl
 |cons D k ah=>intro a;simp[za,a D Zs,ah λx af=>a x (by simp[af])]
def akF{α d8:Type}{f g:α->List d8}:∀{k:List α},(∀x∈k,f x=g x)->k.flatMap f=k.flatMap g:=by
 intro k
 induction k with
 |nil=>intro _;rfl
 |cons D k ah=>intro a;simp[Yr,a D Zs,ah λx af=>a x (by simp[af])]
end
end
end Go.bp

