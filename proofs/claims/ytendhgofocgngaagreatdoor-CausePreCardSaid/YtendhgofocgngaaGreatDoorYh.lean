/- Part of the proof of the last text; no conditions -/
import Derived.Test.YtendhgofocgngaaGreatDoorYg
set_option maxHeartbeats 8000000
set_option linter.all false
namespace Go.bn
open Go.RowKit (Below)
section
variable{C:aK}{J c6 dD:c1}{Y dr dQ:Nat->Prop}{h R:S ai}{j ap bj:Nat}{w bE:World}{n am:Nat}{ao:Array Oper}
variable{bl:World}{bD:Nat}{bO:List Frame}{v:z}{ag:hr}
variable{fn:Nat}{bg:List hE}{aN:Bool}{ro:Option Nat}{cs:List gz}{I:S z}{tmps:Array Value}{bB:List Item}{aE:List Frame}{bC aA:Nat}
def am7{an:List (Nat×z)}:∀(k:List fh),CI C I an h k=true->∀x∈k,∃b,oJ x.g an=some b/\(b=true->∃ac,gJ x.op C h an I=some ac/\ee an x.i=some ac):=by
 intro k
 induction k with
 |nil=>intro _ x a;simp at a
 |cons E k ag=>
  intro a x af
  simp only[CI]at a
  split at a
  ·simp at a
  ·rename_i bF
   rcases Zr.1 af with rfl|af
   ·exact⟨false,bF,Zs⟩
   ·exact ag a x af
  ·rename_i bF
   split at a
   ·rename_i ac rG H K
    simp only[Zp]at a
    have:=O7 _ _ _ a.1
    subst this
    rcases Zr.1 af with rfl|af
    ·exact⟨true,bF,λ_=>⟨ac,H,K⟩⟩
    ·exact ag a.2 x af
   ·simp at a
def azh{iy:List pr}{o:Nat}{aw:List (f9×fh)}:∃s rest,yL iy o aw=s::rest/\s.tN=s9 o iy/\s.UN=Ew o iy/\
 (match aw with|[]=>s.fg=none/\rest=[]|e::hn=>s.fg=some e.2/\rest=yL iy (o+1) hn):=by
 cases aw with
 |nil=>exact⟨_,_,rfl,rfl,rfl,rfl,rfl⟩
 |cons e aw=>exact⟨_,_,rfl,rfl,rfl,rfl,rfl⟩
def AC{o:Nat}:∀{iy:List pr}{x:fh},x∈s9 o iy↔∃k∈iy,k.bC=o/\k.x=x:=by
 intro iy
 induction iy with
 |nil=>intro x;simp[s9]
 |cons E iy ag=>
  intro x
  simp only[s9,hl]
  by_cases a:E.bC=o
  ·simp only[a,ZC,Zr,ag]
   constructor
   ·rintro(rfl|⟨k,H,K,ak⟩)
    ·exact⟨E, .inl rfl,a,rfl⟩
    ·exact⟨k, .inr H,K,ak⟩
   ·rintro⟨k,rfl|H,K,ak⟩
    ·exact .inl ak.symm
    ·exact .inr ⟨k,H,K,ak⟩
  ·simp only[a,ZA,ag]
   constructor
   ·rintro⟨k,H,K,ak⟩;exact⟨k, .tail _ H,K,ak⟩
   ·rintro⟨k,H,K,ak⟩
    rcases Zr.1 H with rfl|H
    ·exact absurd K a
    ·exact⟨k,H,K,ak⟩
def axx{o:Nat}:∀{iy:List pr}{k:pr},k∈iy->k.bC<o->o<=k.aA->B6 k.x.op=true->k.x∈Ew o iy:=by
 intro iy
 induction iy with
 |nil=>intro k a;simp at a
 |cons E iy ag=>
  intro k aw H K ak
  simp only[Ew,eR]
  rcases Zr.1 aw with rfl|aw
  ·rw[Zq]
   ·exact Zu ..
   ·have bw:Nat.blt k.bC o=true:=by simp[Nat.blt];omega
    have b3:Nat.ble o k.aA=true:=by simpa using K
    simp[bw,b3,ak]
  ·split
   ·exact Zt _ (ag aw H K ak)
   ·exact ag aw H K ak
def alL{o:Nat}:∀{iy:List pr},(iy.Pairwise λE b=>E.x.i<b.x.i)->(s9 o iy).Pairwise λE b=>E.i≠b.i:=by
 intro iy
 induction iy with
 |nil=>intro _;simp[s9]
 |cons E iy ag=>
  intro a
  rw[zr]at a
  simp only[s9,hl]
  split
  ·rw[zr]
   refine⟨λx af=> ?_,ag a.2⟩
   obtain⟨k,H,_,rfl⟩:=AC.1 af
   have:=a.1 k H;omega
  ·exact ag a.2
def aut(op:jS):nP op=true/\mG op= .fg\/nP op=false/\(mG op= .h9\/mG op= .make):=by
 unfold nP
 cases mG op<;>simp
def avE(cB:Env C bl dD dQ)(f5:nw C bl bD bO ag){o:List dJ}{base de:Nat}{an:List (Nat×z)}(uW:bC<=base)(gd:base+ao.size<=j)(gL:C.bf<=base){s:vL}{rest:List vL}
 (cX:match (gu C n am ao).drop de with|[]=>s.fg=none|e::hn=>s.fg=some e.2/\rest=yL (lR C n am ao) (de+1) hn)
 (a:(match s.fg with
    |none=>IG (k6 am ao.toList 0) an I λI=>ag .run o ⟨fn,n,am,bg,aN,ro,cs⟩ I h j
    |some a=>(match oJ a.g an with
     |none=>none
     |some w=>bI (w) ((match hH a.op C h j an I with
       |some r=>ny r ag C (.y9 ao base an a.i rest (k6 am ao.toList 0)) o ⟨fn,n,am,bg,aN,ro,cs⟩ I h j
       |none=>none))<|ag .run (.drawn ao base ((a.i,undef)::an) rest (k6 am ao.toList 0)::o) ⟨fn,n,am,bg,aN,ro,cs⟩ I h j))=some v):
 ∀(k:List Nat) (J:c1) (Y:Nat->Prop) (w:World) (tmps:Array Value) (dh:Nat->Prop),ja C bl bD bO fn am bg aN ro cs h j J Y w bC aE->lI C J Y am o bB->qL C J Y h base n am ao an de (de+1) I tmps dh->vK ao dh k->
  (∀k∈lR C n am ao,k.bC<de+1->¬dh k.x.i->∃ac,ee an k.x.i=some ac/\HW C h an I k.x ac)->Ends C bl bD bO v (lone (cn J fn bg aN ro tmps (.inRegion ao k::bB) .run) aE w):=by
 intro k
 induction k with
 |nil=>
  intro J Y w tmps dh aB aC aI aD SV
  cases aD with
  |nil is=>
   have Ni:(gu C n am ao).drop de=[]:=by
    cases bP:(gu C n am ao).drop de with
    |nil=>rfl
    |cons e hn=>
     exfalso
     have D:(gu C n am ao)[de]? =some e:=by
      have:((gu C n am ao).drop de)[0]? =some e:=by rw[bP];rfl
      rwa[Yk]at this
     have cd:=is e.1.i (ana aI.st (Zn D)).1
     have:=(aI.done de e D).1 cd
     omega
   rw[Ni]at cX
   simp only at cX
   rw[cX]at a
   simp only[Mv,oB]at a
   split at a
   ·rename_i cZ nG
    refine .head agw ?_
    have bo:oT J Y am (λ_=>True) (io ao ao.size) an I tmps:=by
     obtain⟨_,ev,f3⟩:=Lh ao ao.size (Zh _)
     intro t ac _ aX
     apply aI.CH t ac
     split at aX
     ·rename_i W bx
      obtain⟨b4,b1,cM⟩:=ev t W bx
      left
      refine⟨W,is W b4,b1,λpa Jm sp=> ?_,aX⟩
      rcases zd W pa with cS|A9
      ·exact absurd sp (cM pa cS (aI.wI pa Jm))
      ·exact A9
     ·rename_i bx
      exact .inr ⟨λW Jm=>f3 t bx W (aI.wI W Jm),aX⟩
    exact f5 _ _ _ _ _ _ _ _ _ _ _ _ v a J Y w bC tmps bB aE (aB.state (.plain aC (aa1 bo aI.size nG)))
   ·simp at a
 |cons i k m5=>
  intro J Y w tmps dh aB aC aI aD SV
  cases aD with
  |cons aS pG lV u5=>
   rename_i U
   have aA:i<ao.size:=(ZS.1 aS).1
   obtain⟨p,x,o',fD,fE,z3,z4,z5,rK⟩:=xI aI.st i aA
   have ash:o'=U:=by
    have:=z5.oper
    rw[z4,aS]at this
    exact(Ym this).symm
   subst ash
   have N0:=anb aI.st aI.closed aI.wI aI.CH fE aS pG lV
   have Nx:=It aI.closed (Ot fE) (by rw[z3];exact aS) lV
   have ax:=z5
   have bS:=ax.g
   have Dl:=ax.op
   have cR:=ax.reads
   rw[z4]at bS Dl cR
   have yg:∀kr,Sub kr an->jc J Y (k0 tmps) (ji (io ao i) kr I) o'.op.operands.toList:=by
    intro kr yw
    refine aaN (X:=λt=>fm p.r t=true) (λt ac bT aX=>N0 t ac bT ?_) (λt bh=>axa rK bh) cR aB.hS
    split at aX
    ·exact yw _ _ aX
    ·exact aX
   have Sw:∀W b t,o'.guard=some (W,b)->v6 W (io ao i)=some t->fm p.r t=true:=by
    intro W b t H K
    rw[rK.r,FA,z3]
    have:fm (MP (io ao i) o'.guard) t=true:=by
     rw[H]
     simp only[MP,K]
     rw[LU];simp
    rw[this];simp
   have kQ:∀(c6:c1) (ac:Value),(cn c6 fn bg aN ro tmps (.inRegion ao (i::k)::bB) .run).finish ac=cn c6 fn bg aN ro (pQ tmps o'.dst ac) (.inRegion ao k::bB) .run:=by
    intro c6 ac
    rw[My (g:=cn c6 fn bg aN ro tmps _ .run) rfl aS];rfl
   rcases aut x.op with ⟨gC,ql⟩|⟨gC,ql⟩
   ·
    have Jl:(p,x)∈gu C n am ao:=by rw[Mc];exact YG.2 ⟨Zn fD,gC⟩
    obtain⟨al,bP⟩:=Z2.1 Jl
    have asx:al=de:=by
     rcases YQ al de with cS|B|gV
     ·exact absurd ((aI.done al _ bP).2 cS) (by simpa only[z3]using pG)
     ·exact B
     ·exfalso
      have ej:al-1<(gu C n am ao).length:=zC (Zb.1 bP).1
      have adr:(gu C n am ao)[al-1]? =some ((gu C n am ao)[al-1]):=Ze ej
      have Nc:=aI.st.chain
      rw[MB]at Nc
      have ah:=aqT Nc (al-1) ((gu C n am ao)[al-1]).1 p (by rw[Zv,adr];rfl) (by rw[show al-1+1=al by omega,Zv,bP];rfl)
      have cd:=Nx _ ah
      have:=(aI.done (al-1) _ adr).1 cd
      omega
    subst asx
    have Ni:(gu C n am ao).drop al=(p,x)::(gu C n am ao).drop (al+1):=by
     have cS:=(Zb.1 bP).1
     rw[Zz cS,(Zb.1 bP).2]
    rw[Ni]at cX
    simp only at cX
    obtain⟨j3,oo⟩:=cX
    rw[j3]at a
    simp only at a
    have D:ao[((p,x):f9×fh).1.i]? =some o':=by simp only[z3];exact aS
    split at a
    ·simp at a
    ·rename_i VC oq
     have sH:=Pw (zw aA) bS N0 Sw (Sub.refl an) oq
     have ac5:¬dh ((p,x):f9×fh).1.i:=by simpa only[z3]using pG
     have Tz:x.i=((p,x):f9×fh).1.i:=by simp only[z3,z4]
     cases VC with
     |false=>
      simp only[ku]at a
      refine .head (Vd aS sH) ?_
      rw[kQ]
      rw[Tz,oo]at a
      have:=aI.fg bP D ac5 lV (v:=undef) trivial ax.dst
      exact f5 _ _ _ _ _ _ _ _ _ _ _ _ v a J Y w bC _ _ aE (aB.state (.drawn aC uW gd this (by simp only[z3];exact u5)))
     |true=>
      simp only[eU]at a
      split at a
      ·rename_i r V
       have k7:=ach aB.V aB.eX cB.kk (yg an (Sub.refl an)) Dl V
       have JZ:mr C J Y h bC j n am I tmps (.y9 ao base an x.i rest (k6 am ao.toList 0)::o) (.inRegion ao (i::k)::bB):=by
        have adS:=mr.drawn (bC:=bC) (aA:=j) (k:=k) aC uW gd aI bP D ac5 lV (by simp only[z3];exact u5)
        simp only[z3]at adS
        rw[oo,z4]
        exact adS
       exact XY cB f5 aB JZ aB.j8 (Zh _) aS sH k7 a
      ·simp at a
   ·
    have arR:=Zn fD
    have gj:(⟨x,ur p.m (p7 (gu C n am ao)),Bb p.i (p7 (gu C n am ao))⟩:pr)∈lR C n am ao:=by
     rw[Me];exact ZB.2 ⟨(p,x),YG.2 ⟨arR,by simp[gC]⟩,rfl⟩
    have l9:ur p.m (p7 (gu C n am ao))<de+1:=by
     have:=amI p.m (p7 (gu C n am ao)) de (λal e bP ge=>by
      rw[MB,Zv]at bP
      cases ce:(gu C n am ao)[al]? with
      |none=>rw[ce]at bP;cases bP
      |some aG=>
       rw[ce]at bP;cases bP
       cases ah:fm p.m aG.1.i with
       |false=>rfl
       |true=>have:=(aI.done al aG ce).1 (Nx _ ah);omega)
     omega
    have Gu:¬dh x.i:=by rw[z4];exact pG
    obtain⟨ac,NZ,Tt⟩:=aI.ahead _ gj l9
    obtain⟨uU,kr,b,abX,GK,hc,m0⟩:=Tt Gu
    have sH:=Pw (zw aA) bS N0 Sw abX GK
    have S0:ao[x.i]? =some o':=by rw[z4];exact aS
    have SW:∀PT:Nat->Prop,(∀W,dh W->PT W)->∀k∈lR C n am ao,k.bC<de+1->¬PT k.x.i->∃ac,ee an k.x.i=some ac/\HW C h an I k.x ac:=λPT C0 bQ H K ak=>SV bQ H K (λal=>ak (C0 _ al))
    have I8:add dh x.i=add dh i:=by rw[z4]
    cases b with
    |false=>
     have:ac=undef:=hc rfl
     subst this
     refine .head (Vd aS sH) ?_
     rw[kQ]
     have j2:=aI.h9 (c6:=J) (dr:=Y) gj l9 S0 Gu lV NZ (λ_ _=>rfl) (λ_ a=>a) (λ_ a=> .inl a) (by trivial) ax.dst
     simp only[I8]at j2
     exact m5 J Y w _ _ aB aC j2 u5 (SW _ λ_ a=> .inl a)
    |true=>
     obtain⟨_,JC,_⟩:=m0 rfl
     rcases ql with ql|ql
     ·obtain⟨rG,tD,akY,akW,qP,aL,bc,bL,cU⟩:=SV _ gj l9 Gu
      simp only at tD bL cU
      rw[NZ]at tD;cases tD
      have atv:=Pw (zw aA) bS N0 Sw aL bL
      have gd:qP=true:=by rw[<-atv,sH]
      have Sr:=cU gd ql
      have qq:cV C J Y akW j bl.heap.size w:=aB.V.aaW bc
      obtain⟨bd,ca⟩:=aeL qq (yg akY aL) Dl Sr
      refine .head (EF aS sH bd (.inl rfl)) ?_
      rw[kQ]
      have j2:=aI.h9 (c6:=J) (dr:=Y) gj l9 S0 Gu lV NZ (λ_ _=>rfl) (λ_ a=>a) (λ_ a=> .inl a) ca ax.dst
      simp only[I8]at j2
      exact m5 J Y w _ _ aB aC j2 u5 (SW _ λ_ a=> .inl a)
     ·obtain⟨cN,aZ,gw⟩:=JC ql
      simp only at aZ gw
      have oi:¬Y (base+x.i):=λal=>Gu (aI.ids x.i (by rw[z4];exact aA) al)
      obtain⟨lA,ek,fN,iP⟩:=aeX (w:=w) (J:=J) oi (yg kr abX) (On Dl aZ)
      have cS:base+x.i<j:=by rw[z4];omega
      have wm:=aB.V.alloc (ap:=j) (R:=h) (b:=base+x.i) Zo cS (Zh _) oi aB.eX rfl gw (λ_ _=> .inl rfl) iP (aeY (On Dl aZ))
      have af:hF C bC J Y h bl.heap.size w (gh J (base+x.i) ⟨w.heap.size,0,0⟩) (add Y (base+x.i)) h (w.alloc lA):=
       ⟨qG oi,λ_ a=> .inl a,λe a=>a.elim .inl (λa=> .inr Zo),λ_ _ _=>rfl,Below.alloc (Below.refl _ _) aB.eX _⟩
      refine .head (EF aS sH ek (.inl rfl)) ?_
      rw[kQ, <-G9 af.im aB.hR]
      have j2:=aI.h9 (c6:=gh J (base+x.i) ⟨w.heap.size,0,0⟩) (dr:=add Y (base+x.i)) gj l9 S0 Gu lV NZ af.im af.jh (λ_ a=>a) fN ax.dst
      simp only[I8]at j2
      exact m5 _ _ _ _ _ (aB.ext wm af (Zh _)) (aC.ad af.im af.jh) j2 u5 (SW _ λ_ a=> .inl a)
end
end Go.bn

namespace Go.bn
open Go.RowKit (Below)
section
variable{C:aK}{J c6 dD:c1}{Y dr dQ:Nat->Prop}{h R:S ai}{j ap bj:Nat}{w bE:World}{n am:Nat}{ao:Array Oper}
variable{bl:World}{bD:Nat}{bO:List Frame}{v:z}{ag:hr}
variable{fn:Nat}{bg:List hE}{aN:Bool}{ro:Option Nat}{cs:List gz}{I:S z}{tmps:Array Value}{bB:List Item}{aE:List Frame}{bC aA:Nat}
def cV.more(V:cV C J Y h j bj w)(aM:j<=ap)(i1:∀b,Y b->Z C R b=Z C h b)(cS:∀b U,Z C R b=some U->b<ap):cV C J Y R ap bj w:=by
 refine⟨Zy V.bf aM,λb a=>ZN (V.lt b a) aM,cS,λb U a d=>V.obj b U (by rw[<-i1 b d];exact a) d,λb dw U o' a cy d lq=>V.sep b dw U o' (by rw[<-i1 b d];exact a) (by rw[<-i1 dw lq];exact cy) d lq,λb U ah a d=>V.base b U ah (by rw[<-i1 b d];exact a) d,λb U a d=>V.et b U (by rw[<-i1 b d];exact a) d⟩
def aeM(cX:pp C n am ao){k bQ:pr}(aw:k∈lR C n am ao)(hn:bQ∈lR C n am ao)(a:k.x.i=bQ.x.i):k=bQ:=by
 obtain⟨E,aB⟩:=Z2.1 aw
 obtain⟨b,ah⟩:=Z2.1 hn
 obtain⟨I6,nH⟩:=Zb.1 aB
 obtain⟨m0,ls⟩:=Zb.1 ah
 have av:=QX cX
 rw[YZ]at av
 rcases YQ E b with cS|B|gV
 ·have:=av E b I6 m0 cS
  rw[nH,ls]at this;omega
 ·subst B;rw[<-nH,ls]
 ·have:=av b E m0 I6 gV
  rw[nH,ls]at this;omega
def aay(cB:Env C bl dD dQ)(f5:nw C bl bD bO ag){o:List dJ}{base de:Nat}{an:List (Nat×z)}{dh:Nat->Prop}{k:List Nat}(aB:ja C bl bD bO fn am bg aN ro cs h j J Y w bC aE)
 (aC:lI C J Y am o bB)(uW:bC<=base)(gd:base+ao.size<=j)(gL:C.bf<=base)(aI:qL C J Y h base n am ao an de de I tmps dh)(aD:vK ao dh k)
 (a:xK ag C ao base an (yL (lR C n am ao) de ((gu C n am ao).drop de)) (k6 am ao.toList 0) o ⟨fn,n,am,bg,aN,ro,cs⟩ I h j=some v):Ends C bl bD bO v (lone (cn J fn bg aN ro tmps (.inRegion ao k::bB) .run) aE w):=by
 obtain⟨s,rest,bw,b3,er,iJ⟩:=azh (iy:=lR C n am ao) (o:=de) (aw:=(gu C n am ao).drop de)
 rw[bw]at a
 simp only[xK]at a
 split at a
 ·simp at a
 ·rename_i hs R gj
  simp only[d6]at a
  obtain⟨NP,a⟩:=a
  rw[b3]at gj
  rw[er]at NP
  have Sv:∀x∈s9 de (lR C n am ao),ee an x.i=none/\Z C h (base+x.i)=none/\nP x.op=false:=by
   intro x af
   obtain⟨cO,H,K,rfl⟩:=AC.1 af
   have bo:ee an cO.x.i=none:=by
    cases bo:ee an cO.x.i with
    |none=>rfl
    |some ac=>
     exfalso
     rcases aI.keys _ ac bo with ⟨b9,b4,b1,cM⟩|⟨p,e,b4,b1,_⟩
     ·have:=aeM aI.st b4 H b1
      subst this;omega
     ·exact Oj aI.st H b4 b1.symm
   obtain⟨_,_,cM,_⟩:=Mg H
   exact⟨bo,aI.free _ (Mf aI.st H) bo,cM⟩
  obtain⟨bJ,b2,cF,fb,eS⟩:=am6 gL _ _ _ _ _ (alL (QX aI.st)) Sv gj
  have Tj:∀b,Y b->Z C R b=Z C h b:=by
   intro b ah
   by_cases al:Z C R b=Z C h b
   ·exact al
   ·obtain⟨x,af,B⟩:=fb b al
    obtain⟨cO,H,K,rfl⟩:=AC.1 af
    have cd:=aI.ids _ (Mf aI.st H) (B▸ah)
    have:=aI.tN cO H cd
    omega
  have mb:cV C J Y R j bl.heap.size w:=aB.V.more (Zh _) Tj (λb U ah=>by
   by_cases al:Z C R b=Z C h b
   ·exact aB.V.vl b U (by rw[<-al];exact ah)
   ·obtain⟨x,af,B⟩:=fb b al
    obtain⟨cO,H,K,rfl⟩:=AC.1 af
    have:=Mf aI.st H
    omega)
  have af:hF C bC J Y h bl.heap.size w J Y R w:=⟨λ_ _=>rfl,λ_ a=>a,λ_ a=> .inl a,λb _ cS=>by
   by_cases al:Z C R b=Z C h b
   ·exact al
   ·obtain⟨x,af,B⟩:=fb b al
    omega,Below.refl _ _⟩
  have x4:=aB.ext mb af (Zh _)
  have sp:qL C J Y R base n am ao hs de (de+1) I tmps dh:=by
   refine⟨aI.st,aI.size,aI.Of,aI.dj,aI.closed,aI.wI,aI.done,λcO H K=>Nat.lt_succ_of_lt (aI.tN cO H K), ?_, ?_, ?_, ?_,aI.ids, ?_⟩
   ·intro i ac aX
    rcases cF i (by rw[aX];simp)with H|⟨x,H,K⟩
    ·cases bo:ee an i with
     |none=>exact absurd bo H
     |some rG=>
      rcases aI.keys i rG bo with ⟨cO,b4,b1,cM⟩|g
      ·exact .inl ⟨cO,b4,b1,Zo⟩
      ·exact .inr g
    ·obtain⟨cO,b4,b1,rfl⟩:=AC.1 H
     exact .inl ⟨cO,b4,K,Zo⟩
   ·intro p e D av
    obtain⟨ac,aX⟩:=aI.uU p e D av
    exact⟨ac,bJ _ _ aX⟩
   ·intro cO H K
    by_cases al:cO.bC=de
    ·obtain⟨ac,b4,b1⟩:=eS cO.x (AC.2 ⟨cO,H,al,rfl⟩)
     exact⟨ac,(b4 Y).key,λ_=>b4 Y⟩
    ·obtain⟨ac,b4,b1⟩:=aI.ahead cO H Zo
     refine⟨ac,bJ _ _ b4,λcd=> ?_⟩
     obtain⟨_,kr,b,eu,eZ,eb,eW⟩:=b1 cd
     refine⟨bJ _ _ b4,kr,b,eu.trans bJ,eZ,eb,λah=> ?_⟩
     obtain⟨iX,lr,MD⟩:=eW ah
     refine⟨iX,λaZ=> ?_,MD⟩
     obtain⟨cN,Ro,Rp⟩:=lr aZ
     refine⟨cN,Ro, ?_⟩
     by_cases cG:Z C R (base+cO.x.i)=Z C h (base+cO.x.i)
     ·rw[cG];exact Rp
     ·obtain⟨x,af,B⟩:=fb _ cG
      obtain⟨b9,ek,fN,rfl⟩:=AC.1 af
      have:=aeM aI.st H ek Zo
      subst this;omega
   ·intro t ac aX
    apply aI.CH t ac
    rcases aX with ⟨W,cd,uN,tA,aX⟩|aX
    ·left
     refine⟨W,cd,uN,tA, ?_⟩
     have uU:∃rG,ee an W=some rG:=by
      rcases aax aI.st W (aI.wI W cd)with ⟨cO,b4,b1⟩|⟨p,e,b4,b1⟩
      ·obtain⟨rG,cM,_⟩:=aI.ahead cO b4 (aI.tN cO b4 (by rw[b1];exact cd))
       exact⟨rG,by rw[<-b1];exact cM⟩
      ·obtain⟨rG,cM⟩:=aI.uU p e b4 ((aI.done p e b4).1 (by rw[b1];exact cd))
       exact⟨rG,by rw[<-b1];exact cM⟩
     obtain⟨rG,tD⟩:=uU
     have:=bJ _ _ tD
     rw[aX]at this
     cases this
     exact tD
    ·exact .inr aX
   ·intro i aA bo
    have atn:ee an i=none:=by
     cases bP:ee an i with
     |none=>rfl
     |some ac=>rw[bJ _ _ bP]at bo;cases bo
    by_cases al:Z C R (base+i)=Z C h (base+i)
    ·rw[al];exact aI.free i aA atn
    ·obtain⟨x,af,B⟩:=fb _ al
     obtain⟨ac,b4,_⟩:=eS x af
     have:x.i=i:=Zo
     rw[<-this,(b4 Y).key]at bo
     cases bo
  refine avE cB f5 uW gd gL (s:=s) (rest:=rest) ?_ a k J Y w tmps dh x4 aC sp aD ?_
  ·cases bP:(gu C n am ao).drop de with
   |nil=>rw[bP]at iJ;exact iJ.1
   |cons e hn=>rw[bP]at iJ;exact iJ
  ·intro cO H K cd
   by_cases al:cO.bC=de
   ·obtain⟨ac,b4,b1⟩:=eS cO.x (AC.2 ⟨cO,H,al,rfl⟩)
    exact⟨ac,(b4 Y).key,b1⟩
   ·obtain⟨ac,b4,b1⟩:=aI.ahead cO H Zo
    refine⟨ac,bJ _ _ b4, ?_⟩
    obtain⟨_,kr,b,eu,eZ,eb,eW⟩:=b1 cd
    by_cases GF:B6 cO.x.op=true
    ·have q5:de<=cO.aA:=by
      obtain⟨p,ek,fN,iP,D0⟩:=Mg H
      obtain⟨_,fD,fE,z3,z4,z5⟩:=xJ aI.st ek
      rw[D0]
      refine arh _ _ _ (by rw[MB,Zl];exact aI.Of) λal e D cS=> ?_
      rw[MB,Zv]at D
      cases ce:(gu C n am ao)[al]? with
      |none=>rw[ce]at D;cases D
      |some aG=>
       rw[ce]at D;cases D
       cases ah:fm aG.1.m p.i with
       |false=>rfl
       |true=>
        exfalso
        have apZ:=(aI.done al aG ce).2 cS
        obtain⟨aCN,vB,vC,aAn,aAo,aDq,VF⟩:=xJ aI.st (Md (Zn ce)).1
        have:=It aI.closed (Zn aAo) VF.oper (aI.closed _ _ VF.oper apZ) _ ah
        simp only at fE
        rw[<-fE]at this
        exact cd this
     obtain⟨dw,fc,fQ⟩:=am7 _ NP cO.x (axx H Zo q5 GF)
     refine⟨hs,R,dw,Sub.refl _,pq.refl _,fc,λah _=> ?_⟩
     obtain⟨rG,ia,oD⟩:=fQ ah
     rw[bJ _ _ b4]at oD
     cases oD
     exact ia
    ·have GF:B6 cO.x.op=false:=by simpa using GF
     refine⟨kr, .nil,b,eu.trans bJ,aeJ _,eZ,λah ql=> ?_⟩
     exact(eW ah).2.2 ql GF .nil
def aod{o:List dJ}(id:Nat)(a:lI C J Y am o bB){eA:List dJ}(a7:exitTo id o=some eA):∃h1,Go.exitTo id bB=some h1/\lI C J Y am eA h1:=by
 induction a with
 |nil=>simp[exitTo]at a7
 |cons H K ag=>
  cases H<;>simp only[exitTo]at a7
  case inBlock tI=>
   rw[hl]at a7
   split at a7
   ·rename_i B
    simp at a7;subst a7
    exact⟨_,by simp[Go.exitTo,B],K⟩
   ·rename_i B
    obtain⟨h1,b4,b1⟩:=ag a7
    have:(tI==id)=false:=by simpa using B
    exact⟨h1,by simp[Go.exitTo,this,b4],b1⟩
  all_goals
   obtain⟨h1,b4,b1⟩:=ag a7
   exact⟨h1,by simp[Go.exitTo,b4],b1⟩
def aaP(hS:rX C J Y){n:Nat}(bh:jr J Y n am I tmps){x:Operand}{ac:z}(fj:yO C am [] x=true)(a:v8 I x=some ac):k0 tmps x=aF J ac/\b7 Y ac:=by
 cases x with
 |tmp t=>
  simp only[yO,alJ]at fj
  obtain⟨H,K⟩:=bh.val t ac fj a
  exact⟨by simp[k0,H],K⟩
 |const c=>exact OE a
 |global g=>
  simp[v8]at a;subst a
  simp only[yO]at fj
  obtain⟨b4,b1,cM⟩:=hS g (ks fj)
  exact⟨by simp[k0,aF,b1,cM],b4⟩
 |func f=>
  simp[v8]at a;subst a
  exact⟨by simp[k0,aF,mY,bK],trivial,trivial,trivial⟩
def oT.start{n:Nat}(bh:jr J Y n am I tmps):oT J Y am (λ_=>True) (io ao 0) [] I tmps:=by
 intro t ac _ a
 rw[Lg]at a
 exact bh.val t ac a.1 a.2
def axC(cB:Env C bl dD dQ)(f5:nw C bl bD bO ag){o:List dJ}{id:Nat}{AP:Bool}(aB:ja C bl bD bO fn am bg aN ro cs h j J Y w bC aE)(aC:lI C J Y am o bB)(bh:jr J Y n am I tmps)
 (a:af7 ao AP ag C o ⟨fn,n,am,bg,aN,ro,cs⟩ I h j=some v):Ends C bl bD bO v (lone (cn J fn bg aN ro tmps (.code (.region id ao AP)::bB) .run) aE w):=by
 cases AP with
 |false=>
  have cy:UQ n am ao ag C o ⟨fn,n,am,bg,aN,ro,cs⟩ I h j=some v:=a
  simp only[UQ,oB]at cy
  split at cy
  ·rename_i r V
   obtain⟨rest,fin⟩:=r
   have MR:y0 rest ⟨ag,ao,fin,o,⟨fn,n,am,bg,aN,ro,cs⟩⟩ C I [] h j=some v:=cy
   unfold Kz at V
   split at V
   ·rename_i c3 hJ
    simp at V
    obtain⟨rfl,rfl⟩:=V
    refine .head ay8 ?_
    refine agj cB f5 c3 [] h j J Y w tmps _ aE aB aC ⟨0,zu _, ?_,hJ,rfl,oT.start bh,bh.size⟩ MR
    rw[List.range_eq_range'];rfl
   ·simp at V
  ·simp at cy
 |true=>
  have cy:UP n am ao ag C o ⟨fn,n,am,bg,aN,ro,cs⟩ I h j=some v:=a
  simp only[UP,oB]at cy
  split at cy
  ·rename_i r V
   obtain⟨li,fin⟩:=r
   have MR:p6 j (λj=>xK ag C ao j [] li fin o ⟨fn,n,am,bg,aN,ro,cs⟩ I h (j+ao.size))=some v:=cy
   rw[l6]at MR
   unfold Ky at V
   split at V
   ·simp at V
   ·rename_i c3 hJ
    simp only[d6,Zp,Zf]at V
    obtain⟨⟨⟨b4,b1⟩,cM⟩,eu⟩:=V
    have kP:v1 C n am ao=c3:=by unfold v1;rw[hJ];rfl
    have cX:pp C n am ao:=⟨by rw[kP];exact hJ,b4,b1,by unfold gu;rw[kP];exact cM⟩
    have atc:li=yL (lR C n am ao) 0 ((gu C n am ao).drop 0)/\fin=k6 am ao.toList 0:=by
     have B:=eu
     cases B
     refine⟨?_,rfl⟩
     rw[Yg]
     unfold lR gu
     rw[kP];rfl
    obtain⟨rfl,rfl⟩:=atc
    refine .head ay9 ?_
    rw[cB.kk.mixed]
    have af:hF C bC J Y h bl.heap.size w J Y h w.drew:=⟨λ_ _=>rfl,λ_ a=>a,λ_ a=> .inl a,λ_ _ _=>rfl,Below.drew (Below.refl _ _)⟩
    have mb:cV C J Y h (j+ao.size) bl.heap.size w.drew:=aB.V.drew.more (zl _ _) (λ_ _=>rfl) (λb U ah=>ZN (aB.V.vl b U ah) (zl _ _))
    refine aay cB f5 (dh:=λ_=>False) (aB.ext mb af (zl _ _)) aC aB.j8 (Zh _) aB.V.bf ?_ (ayg b4 _) MR
    refine⟨cX,bh.size,zu _,aB.V.bf,λ_ _ _ a=>a.elim,λ_ a=>a.elim,λp e _=>⟨λa=>a.elim,λa=>Zo⟩,λ_ _ a=>a.elim,λi ac aX=>by simp at aX,λp e _ a=>Zo,λcO _ a=>Zo, ?_, ?_, ?_⟩
    ·intro t ac aX
     rcases aX with ⟨W,a,_⟩|⟨_,H,K⟩
     ·exact a.elim
     ·exact bh.val t ac H K
    ·intro i _ aI
     have:=aB.V.lt _ aI;omega
    ·intro i _ _
     cases bP:Z C h (j+i)with
     |none=>rfl
     |some U=>have:=aB.V.vl _ U bP;omega
  ·simp at cy
end
end Go.bn

namespace Go.bn
open Go.RowKit (Below)
section
variable{C:aK}{J c6 dD:c1}{Y dr dQ:Nat->Prop}{h R:S ai}{j ap bj:Nat}{w bE:World}{n am:Nat}{ao:Array Oper}
variable{bl:World}{bD:Nat}{bO:List Frame}{v:z}{ag:hr}
variable{fn:Nat}{bg:List hE}{aN:Bool}{ro:Option Nat}{cs:List gz}{I:S z}{tmps:Array Value}{bB:List Item}{aE:List Frame}{bC aA:Nat}
def aoc{o:List dJ}(id:Nat)(a:lI C J Y am o bB)(a7:exitTo id o=none):Go.exitTo id bB=none:=by
 induction a with
 |nil=>rfl
 |cons H K ag=>
  cases H<;>simp only[exitTo]at a7
  case inBlock tI=>
   rw[hl]at a7
   split at a7
   ·simp at a7
   ·rename_i B
    have:(tI==id)=false:=by simpa using B
    simp[Go.exitTo,this,ag a7]
  all_goals simp[Go.exitTo,ag a7]
def Uc(aB:ja C bl bD bO fn am bg aN ro cs h j J Y w bC aE){b:Nat}{st ic:LoopState}{qz BZ:Option Code}{gK aP kU:Nat}{cZ:S z}{params:List Nat}{assign body:Code}{ga:Nat}
 (aM:C.bf<=b)(aI:Y b)(gw:Z C h b=some (.loop st qz gK aP kU cZ params assign body ga))(av:∀c,BZ=some c->GV c):
 ∃hA,w.heap[(J b).cr]? =some (.loop ⟨st,qz,gK,hA,params.toArray,assign,body,(J ga).cr⟩)/\PU C gK kU/\(∀c,qz=some c->GV c)/\
  ja C bl bD bO fn am bg aN ro cs (bp C h b (some (.loop ic BZ gK aP kU cZ params assign body ga))) j J Y (w.putObj (J b).cr (.loop ⟨ic,BZ,gK,hA,params.toArray,assign,body,(J ga).cr⟩)) bC aE:=by
 obtain⟨hA,gZ,mM,tQ,Hf,BQ,sM,BR⟩:=aB.V.obj b _ gw aI
 obtain⟨bE,bJ,b2,cF⟩:=putObj aB.V (cJ:=bC) (o':= .loop ⟨ic,BZ,gK,hA,params.toArray,assign,body,(J ga).cr⟩) (lA:= .loop ic BZ gK aP kU cZ params assign body ga) aM aI gw ⟨Zs,Zs⟩ gZ Zs
  (λbE qr=>⟨hA,qr,mM,tQ,Hf,BQ,av,BR⟩) ⟨λ_ _ _ a=>(by cases a),λ_ _ _ a=>(by cases a)⟩
 rw[run_setObj_loop _ gZ]at bJ
 simp only[Result.ok.injEq]at bJ
 obtain⟨_,rfl⟩:=bJ
 exact⟨hA,gZ,BR,sM,aB.ext b2 cF (Zh _)⟩
def γ(f5:nw C bl bD bO ag){ac:z}{d5:Machine}(aB:ja C bl bD bO fn am bg false ro cs h j J Y w bC aE)(cK:cs≠[])(A0:b7 Y ac)
 (rg:∀g iZ,aE=g::iZ->step C.P d5= .next (lone (g.finish (aF J ac)) iZ w))(a:ta ag false cs ac h j=some v):Ends C bl bD bO v d5:=by
 cases cs with
 |nil=>exact absurd rfl cK
 |cons c rest=>
  obtain⟨gK,aP,kU,cZ,vx,ga,mJ,js,lg⟩:=c
  obtain⟨rp,hA,h1,iZ,rfl,bJ,b2,cF,fb,eS,eK⟩:=aB.cs.inv
  refine .head (rg _ _ rfl) ?_
  cases mJ with
  |run=>
   have cy:UT ag vx ⟨gK,aP,kU,ga,js,lg,rest⟩ ac cZ h j=some v:=a
   cases vx with
   |nil=>simp[UT]at cy
   |cons d7 o=>exact CU f5 ⟨aB.V,aB.kL,aB.hS,Zy eS aB.j8,cF,fb,eK⟩ bJ aB.j8 A0 cy
  |returning=>simp[ta]at a
  |panicking fW=>simp[ta]at a
def T3(f5:nw C bl bD bO ag){todo:List dJ}{iN:Option Code}(bx:(iN=none/\bB=[])\/(iN=some .ret/\∃o,bB= .code .ret::o)\/(∃id o,iN=some (.exit id)/\bB= .code (.exit id)::o/\Go.exitTo id o=none))
 (aB:ja C bl bD bO fn am bg aN ro cs h j J Y w bC aE)(bh:jr J Y n am I tmps)
 (a:ox iN ag C todo ⟨fn,n,am,bg,aN,ro,cs⟩ I h j=some v):Ends C bl bD bO v (lone (cn J fn bg aN ro tmps bB .run) aE w):=by
 unfold ox at a
 cases ro with
 |some k=>
  simp only at a
  split at a
  ·rename_i st qz gK aP kU cZ params assign body ga gw
   simp only[d6,Zp,gS]at a
   obtain⟨⟨⟨De,aB3⟩,Si⟩,a⟩:=a
   have Si:aN=false:=by simpa using Si
   subst Si
   have aI:=aB.hR.ro k rfl
   have asn:∀c,iN=some c->GV c:=by
    intro c ax
    subst ax
    rcases bx with ⟨B,_⟩|⟨B,_⟩|⟨id,o,B,_⟩
    ·cases B
    ·cases B;exact .inl rfl
    ·cases B;exact .inr ⟨id,rfl⟩
   obtain⟨hA,gZ,BR,_,x4⟩:=Uc aB (ic:=bI iN.isNone .ready .done) (BZ:=iN) (iV De) aI gw asn
   have cK:cs≠[]:=λB=>by have:=(aB.bot B).2.2;cases this
   refine γ (ac:= .bool iN.isNone) f5 x4 cK trivial (λg iZ B=> ?_) a
   subst B
   refine azc bx ?_
   have:=run_endRound (P:=C.P) iN gZ
   rw[this]
   cases iN<;>rfl
  ·simp at a
 |none=>
  simp only[d6]at a
  have cX:Cp C bl bD bO .returning todo fn n am bg aN none cs I h j J Y w bC tmps bB aE:=⟨aB.V,aB.kL,aB.hS,aB.j8,aB.hR,trivial,aB.bot,aB.cs,bh⟩
  have cd:=f5 _ _ _ _ _ _ _ _ _ _ _ _ v a.2 J Y w bC tmps bB aE cX
  rcases bx with ⟨rfl,rfl⟩|⟨rfl,o,rfl⟩|⟨id,o,rfl,rfl,_⟩
  ·exact .head ayY cd
  ·exact .head aza cd
  ·simp[TN]at a
def axv(cB:Env C bl dD dQ)(f5:nw C bl bD bO ag){f:Operand}{params:Array Nat}{assign body:Code}{o:List dJ}(aB:ja C bl bD bO fn am bg aN ro cs h j J Y w bC aE)(bh:jr J Y n am I tmps)
 (fj:lP C am (.rangeFunc f params assign body)=true)(aC:lI C J Y am o bB)(a:KS f params assign body ag C o ⟨fn,n,am,bg,aN,ro,cs⟩ I h j=some v):
 Ends C bl bD bO v (lone (cn J fn bg aN ro tmps (.code (.rangeFunc f params assign body)::bB) .run) aE w):=by
 simp only[lP,Zp]at fj
 obtain⟨b8,adb,gw⟩:=fj
 unfold KS at a
 split at a
 ·rename_i g first fw Rh aL G6 am4 Iq UW qS a7 e0
  cases e0
  obtain⟨bw,b3⟩:=aaP aB.hS bh b8 a7
  have nM:∀(b:Nat) (hC:World),(resolve (k0 tmps) {callee:= .value f,args:= #[.const (.func (.yield b) #[] #[])],argTypes:= #[]} 0).run C.P hC=
   .ok ⟨.fn (.func g) (bK J fw).toArray,(bK J first).toArray++ #[.func (.yield b) #[] #[]]⟩ hC:=by
   intro b hC
   have Q3:k0 tmps (.const (.func (.yield b) #[] #[]))= .func (.yield b) #[] #[]:=rfl
   simp[resolve,bw,aF,mY,Deferred.ofValue,Q3]
  have aci:∀(b:Nat) (xj:c1) (mn:Nat->Prop) (aU:S ai) (Ef:Nat) (hC:World) (tf:List gz) (wg:List Frame) (cJ:Nat) (bQ:Nat),(∀x,Y x->xj x=J x)->(∀x,Y x->mn x)->mn bQ->(xj bQ).cr=b->
   cV C xj mn aU Ef bl.heap.size hC->Below bl.heap.size bl hC->rX C xj mn->cJ<=Ef->oM C xj mn aU bD bO cJ tf wg->tf≠[]->oa ag C g (first++[.func (.yield bQ) [] []]++fw) false tf aU Ef=some v->
   ∃args,(invoke (.fn (.func g) (bK J fw).toArray) ((bK J first).toArray++ #[.func (.yield b) #[] #[]])).run C.P hC= .ok (.enter g args) hC/\Ends C bl bD bO v (lone (Frame.enter C.P g args .normal) wg hC):=by
   intro b xj mn aU Ef hC tf wg cJ bQ dB gv hn ah om m0 uR re hJ cK a
   have aq8:d0 mn (first++[.func (.yield bQ) [] []]++fw):=AX (AX (qZ gv _ b3.2.1) ⟨⟨hn,trivial,trivial⟩,trivial⟩) (qZ gv _ b3.2.2)
   refine⟨(bK xj (first++[.func (.yield bQ) [] []]++fw)).toArray, ?_,Mp f5 om m0 uR re hJ (λB=>absurd B cK) aq8 a⟩
   have Je:∃func c,C.P.funcs[g]? =some func/\func.body=some c:=by
    unfold oa at a
    split at a
    ·rename_i func qi
     split at a
     ·rename_i c ax;exact⟨func,c,qi,ax⟩
     ·simp at a
    ·simp at a
   obtain⟨func,c,qi,ax⟩:=Je
   have aM:func.name≠ "runtime.NumGoroutine":=by simpa using cB.kk.num g func qi (by simp[ax])
   have wn:(bK xj (first++[.func (.yield bQ) [] []]++fw)).toArray=((bK J first).toArray++ #[.func (.yield b) #[] #[]])++(bK J fw).toArray:=by
    rw[CD,CD,xG dB b3.2.1,xG dB b3.2.2]
    simp[bK,aF,mY,ah]
   rw[wn]
   simp[invoke,callFunc,qi,aM,ax]
  cases ro with
  |none=>
   simp only[l6]at a
   have oi:=rv aB.V
   have om:=aB.V.alloc (b:=j) (ap:=j+1) (pl:=⟨w.heap.size,0,0⟩) (cN:= .deferred (some [])) (U:= .deferred (some [])) (R:=bp C h j (some (.deferred (some [])))) aB.V.bf (YK _) (Yb _) oi aB.eX rfl
    (by rw[e9 _ aB.V.bf,Zq rfl]) (λx af=> .inl (by rw[e9 _ aB.V.bf,Zg af])) ⟨by rw[World.alloc_heap_new];rfl,λk aw=>by cases aw;simp⟩ ⟨λ_ _ _ a=>(by cases a),λ_ _ _ a=>(by cases a)⟩
   have Bo:hF C j J Y h bl.heap.size w (gh J j ⟨w.heap.size,0,0⟩) (add Y j) (bp C h j (some (.deferred (some [])))) (w.alloc (.deferred (some []))):=
    ⟨qG oi,λ_ a=> .inl a,λe a=>a.elim .inl (λa=> .inr Zo),λx _ cS=>by rw[e9 _ aB.V.bf,Zg Zo],Below.alloc (Below.refl _ _) aB.eX _⟩
   have nK:C.bf<=j+1:=Nat.le_succ_of_le aB.V.bf
   have ac4:=rv om
   have abB:bl.heap.size<=(w.alloc (.deferred (some []))).heap.size:=by rw[World.size_alloc];have:=aB.eX;omega
   have ad3:(gh J j ⟨w.heap.size,0,0⟩ j)=⟨w.heap.size,0,0⟩:=ll ..
   have N4:=qG (J:=gh J j ⟨w.heap.size,0,0⟩) (pl:=⟨w.heap.size+1,0,0⟩) ac4
   have hf:=om.alloc (b:=j+1) (ap:=j+2) (pl:=⟨w.heap.size+1,0,0⟩) (cN:= .loop .ready none fn n am I params.toList assign body j) (U:= .loop {state:= .ready,pending:=none,fn,tmps,params,assign,body,defers:=w.heap.size})
    (R:=bp C (bp C h j (some (.deferred (some [])))) (j+1) (some (.loop .ready none fn n am I params.toList assign body j))) nK (YK _) (Yb _) ac4 abB (by rw[World.size_alloc])
    (by rw[e9 _ nK,Zq rfl]) (λx af=> .inl (by rw[e9 _ nK,Zg af]))
    ⟨tmps,by
     rw[show(⟨w.heap.size+1,0,0⟩:mq).cr=(w.alloc (.deferred (some []))).heap.size by rw[World.size_alloc],World.alloc_heap_new,N4 j (.inr rfl),ad3],
     (bh.ad Bo.im Bo.jh).ad N4 (λ_ a=> .inl a), .inl (.inr rfl),adb,gw,λc ax=>(by cases ax),aB.hR.fn⟩
    ⟨λ_ _ _ a=>(by cases a),λ_ _ _ a=>(by cases a)⟩
   have Tx:hF C (j+1) (gh J j ⟨w.heap.size,0,0⟩) (add Y j) (bp C h j (some (.deferred (some [])))) bl.heap.size (w.alloc (.deferred (some []))) (gh (gh J j ⟨w.heap.size,0,0⟩) (j+1) ⟨w.heap.size+1,0,0⟩) (add (add Y j) (j+1))
    (bp C (bp C h j (some (.deferred (some [])))) (j+1) (some (.loop .ready none fn n am I params.toList assign body j))) ((w.alloc (.deferred (some []))).alloc (.loop {state:= .ready,pending:=none,fn,tmps,params,assign,body,defers:=w.heap.size})):=
    ⟨N4,λ_ a=> .inl a,λe a=>a.elim .inl (λa=> .inr Zo),λx _ cS=>by rw[e9 _ nK,Zg Zo],Below.alloc (Below.refl _ _) abB _⟩
   have af:=Bo.trans (Yb j) Tx
   have nH:=aB.ext hf (af.mono aB.j8) (Zy (Yb _) (Yb _))
   have aq4:vF C (add (add Y j) (j+1)) fn am (⟨.collected j,[]⟩::bg) none:=⟨λd aI=>by
    rcases Zr.1 aI with rfl|aI
    ·exact⟨.inl (.inr rfl),trivial⟩
    ·exact nH.hR.bg d aI,nH.hR.ro,nH.hR.fn⟩
   have JZ:mr C (gh (gh J j ⟨w.heap.size,0,0⟩) (j+1) ⟨w.heap.size+1,0,0⟩) (add (add Y j) (j+1)) (bp C (bp C h j (some (.deferred (some [])))) (j+1) (some (.loop .ready none fn n am I params.toList assign body j))) bC (j+2) n am I tmps
    (.inRangeFunc (j+1)::o) (.inRangeFunc (w.heap.size+1)::bB):=by
    have:=mr.du (bC:=bC) (aA:=j+2) (h:=bp C (bp C h j (some (.deferred (some [])))) (j+1) (some (.loop .ready none fn n am I params.toList assign body j))) (aC.ad af.im af.jh) (bh.ad af.im af.jh) (k:=j+1) (.inr rfl)
    rw[ll]at this
    exact this
   have re:bC<=j+2:=zC aB.j8
   obtain⟨args,b4,b1⟩:=aci (w.heap.size+1) _ _ _ _ _ _ _ (j+2) (j+1) af.im af.jh (.inr rfl) (by rw[ll]) hf nH.kL nH.hS (Zh _)
    (.cons (bN:= .run) JZ trivial aq4 aB.bot re nH.cs) Zs a
   refine .head (agv (run_enterLoop_outer fn tmps params assign body) (nM _ _) b4) ?_
   have uQ:({cn J fn bg aN none tmps (.inRangeFunc (w.heap.size+1)::bB) .run with defers:=[{target:= .collected w.heap.size,args:= #[]}]++bg.map (lN J)}:Frame)=
    cn (gh (gh J j ⟨w.heap.size,0,0⟩) (j+1) ⟨w.heap.size+1,0,0⟩) fn (⟨.collected j,[]⟩::bg) aN none tmps (.inRangeFunc (w.heap.size+1)::bB) .run:=by
    have B:bg.map (lN (gh (gh J j ⟨w.heap.size,0,0⟩) (j+1) ⟨w.heap.size+1,0,0⟩))=bg.map (lN J):=Yq λd aI=>QA af.im (aB.hR.bg d aI)
    have er:lN (gh (gh J j ⟨w.heap.size,0,0⟩) (j+1) ⟨w.heap.size+1,0,0⟩) ⟨.collected j,[]⟩={target:= .collected w.heap.size,args:= #[]}:=by
     simp only[lN,CA,bK]
     rw[N4 j (.inr rfl),ad3]
    simp only[cn,ZE,B,er,zb,Yn,ze]
   rw[uQ]
   exact b1
  |some k=>
   simp only[l6]at a
   split at a
   ·rename_i st qz gK aP kU cZ aCQ aAw aAF ga aw
    have aI:=aB.hR.ro k rfl
    obtain⟨hA,gZ,mM,tQ,Hf,BQ,sM,BR⟩:=aB.V.obj k _ aw aI
    have oi:=rv aB.V
    have TD:=qG (J:=J) (pl:=⟨w.heap.size,0,0⟩) oi
    have hf:=aB.V.alloc (b:=j) (ap:=j+1) (pl:=⟨w.heap.size,0,0⟩) (cN:= .loop .ready none fn n am I params.toList assign body ga) (U:= .loop {state:= .ready,pending:=none,fn,tmps,params,assign,body,defers:=(J ga).cr})
     (R:=bp C h j (some (.loop .ready none fn n am I params.toList assign body ga))) aB.V.bf (YK _) (Yb _) oi aB.eX rfl
     (by rw[e9 _ aB.V.bf,Zq rfl]) (λx af=> .inl (by rw[e9 _ aB.V.bf,Zg af]))
     ⟨tmps,by rw[World.alloc_heap_new,TD ga tQ],bh.ad TD (λ_ a=> .inl a), .inl tQ,adb,gw,λc ax=>(by cases ax),aB.hR.fn⟩
     ⟨λ_ _ _ a=>(by cases a),λ_ _ _ a=>(by cases a)⟩
    have af:hF C j J Y h bl.heap.size w (gh J j ⟨w.heap.size,0,0⟩) (add Y j) (bp C h j (some (.loop .ready none fn n am I params.toList assign body ga))) (w.alloc (.loop {state:= .ready,pending:=none,fn,tmps,params,assign,body,defers:=(J ga).cr})):=
     ⟨TD,λ_ a=> .inl a,λe a=>a.elim .inl (λa=> .inr Zo),λx _ cS=>by rw[e9 _ aB.V.bf,Zg Zo],Below.alloc (Below.refl _ _) aB.eX _⟩
    have nH:=aB.ext hf (af.mono aB.j8) (Yb _)
    have JZ:mr C (gh J j ⟨w.heap.size,0,0⟩) (add Y j) (bp C h j (some (.loop .ready none fn n am I params.toList assign body ga))) bC (j+1) n am I tmps (.inRangeFunc j::o) (.inRangeFunc w.heap.size::bB):=by
     have:=mr.du (bC:=bC) (aA:=j+1) (h:=bp C h j (some (.loop .ready none fn n am I params.toList assign body ga))) (aC.ad af.im af.jh) (bh.ad af.im af.jh) (k:=j) (.inr rfl)
     rw[ll]at this
     exact this
    have re:bC<=j+1:=zC aB.j8
    obtain⟨args,b4,b1⟩:=aci w.heap.size _ _ _ _ _ _ _ (j+1) j af.im af.jh (.inr rfl) (by rw[ll]) hf nH.kL nH.hS (Zh _)
     (.cons (bN:= .run) JZ trivial nH.hR aB.bot re nH.cs) Zs a
    have aqZ:(Instr.enterLoop fn tmps params assign body ((some k).map λk=>(J k).cr)).run C.P w= .ok (w.heap.size,[]) (w.alloc (.loop {state:= .ready,pending:=none,fn,tmps,params,assign,body,defers:=(J ga).cr})):=by
     unfold Instr.enterLoop
     simp only[ZK,Sem.run_bind,run_getLoop gZ,run_newObj_alloc,Result.andThen,Sem.run_pure]
    refine .head (agv aqZ (nM _ _) b4) ?_
    have uQ:({cn J fn bg aN (some k) tmps (.inRangeFunc w.heap.size::bB) .run with defers:=[]++bg.map (lN J)}:Frame)=cn J fn bg aN (some k) tmps (.inRangeFunc w.heap.size::bB) (gB J .run):=rfl
    rw[uQ, <-G9 af.im aB.hR]
    exact b1
   ·simp at a
 ·simp at a
def aab(cB:Env C bl dD dQ)(f5:nw C bl bD bO ag)(aB:ja C bl bD bO fn am bg aN ro cs h j J Y w bC aE)(bh:jr J Y n am I tmps):∀(c:Code) (o:List dJ) (bB:List Item),lP C am c=true->lI C J Y am o bB->
 up c ag C o ⟨fn,n,am,bg,aN,ro,cs⟩ I h j=some v->Ends C bl bD bO v (lone (cn J fn bg aN ro tmps (.code c::bB) .run) aE w):=by
 intro c
 have go:∀o bB,lI C J Y am o bB->ag .run o ⟨fn,n,am,bg,aN,ro,cs⟩ I h j=some v->Ends C bl bD bO v (lone (cn J fn bg aN ro tmps bB .run) aE w):=
  λo bB aC a=>f5 _ _ _ _ _ _ _ _ _ _ _ _ v a J Y w bC tmps bB aE (aB.state (.plain aC bh))
 induction c with
 |skip=>intro o bB _ aC a;exact .head azf (go o bB aC a)
 |region id ao AP=>intro o bB _ aC a;exact axC cB f5 aB aC bh a
 |seq E b mE hv=>
  intro o bB fj aC a
  simp only[lP,Zp]at fj
  exact .head aze (mE (.code b::o) (.code b::bB) fj.1 (.cons (.code fj.2) aC) a)
 |cond c E b mE hv=>
  intro o bB fj aC a
  simp only[lP,Zp]at fj
  have cy:Io c I (up E ag C o ⟨fn,n,am,bg,aN,ro,cs⟩ I h j) (up b ag C o ⟨fn,n,am,bg,aN,ro,cs⟩ I h j)=some v:=a
  simp only[Io,oB]at cy
  split at cy
  ·rename_i ac aX
   obtain⟨bw,_⟩:=aaP aB.hS bh fj.1 aX
   cases ac with
   |bool t=>
    refine .head (ayW (t:=t) (by rw[bw];rfl)) ?_
    cases t with
    |true=>exact mE o bB fj.2.1 aC cy
    |false=>exact hv o bB fj.2.2 aC cy
   |_=>simp at cy
  ·simp at cy
 |block id b hv=>intro o bB fj aC a;exact .head ayV (hv (.inBlock id::o) (.inBlock id::bB) fj (.cons .inBlock aC) a)
 |loop b hv=>intro o bB fj aC a;exact .head ay5 (hv (.inLoop b::o) (.inLoop b::bB) fj (.cons (.inLoop fj) aC) a)
 |rangeFunc f params assign body _ _=>intro o bB fj aC a;exact axv cB f5 aB bh fj aC a
 |exit id=>
  intro o bB _ aC a
  have cy:AR id ag C o ⟨fn,n,am,bg,aN,ro,cs⟩ I h j=some v:=a
  unfold AR at cy
  split at cy
  ·rename_i eA a7
   obtain⟨h1,b4,b1⟩:=aod id aC a7
   exact .head (ay0 b4) (go eA h1 b1 cy)
  ·rename_i a7
   exact T3 f5 (.inr (.inr ⟨id,bB,rfl,rfl,aoc id aC a7⟩)) aB bh cy
 |scope b hv=>intro o bB fj aC a;exact .head azd (hv (.inScope b::o) (.inScope b::bB) fj (.cons (.inScope fj) aC) a)
 |label k=>intro o bB _ aC a;exact .head ay4 (go o bB aC a)
 |goto k=>intro o bB _ _ a;exact absurd a (by simp[up,Ec])
 |ret=>intro o bB _ aC a;exact T3 f5 (.inr (.inl ⟨rfl,bB,rfl⟩)) aB bh a
 |refuse s=>intro o bB _ _ a;exact absurd a (by simp[up,Ec])
def axK(aB:cV C J Y h j bj w)(bh:jr J Y n am I tmps){bZ:ResultVar->Sem Value}(ij:∀t,bZ (.tmp t)=pure (tmps.getD t Go.undef))(dy:∀E t,bZ (.cell E t)=do loadVar t (<-asAddr (tmps.getD E Go.undef))):
 ∀(k:List ResultVar) (aY:List z),yU am k=true->w2 C h I k=some aY->(k.mapM bZ).run C.P w= .ok (bK J aY) w/\d0 Y aY:=by
 intro k
 induction k with
 |nil=>intro aY _ a;simp[w2]at a;subst a;exact⟨by simp[bK],trivial⟩
 |cons x k ag=>
  intro aY fj a
  cases x with
  |tmp t=>
   simp only[yU,Zp]at fj
   simp only[w2]at a
   split at a
   ·rename_i ac r aX V
    simp at a;subst a
    obtain⟨H,K⟩:=bh.val t ac fj.1 aX
    obtain⟨ak,ay⟩:=ag r fj.2 V
    refine⟨?_,K,ay⟩
    simp[zi,ij,H,ak,bK]
   ·simp at a
  |cell E t=>
   simp only[yU,Zp]at fj
   simp only[w2]at a
   split at a
   ·rename_i p av
    split at a
    ·rename_i ac r aX V
     simp at a;subst a
     obtain⟨H,K⟩:=bh.val E p fj.1 av
     obtain⟨ak,ay⟩:=ag r fj.2 V
     obtain⟨be,bV⟩:=XU aB K aX
     refine⟨?_,bV,ay⟩
     cases p with
     |ptr b U=>
      simp only[Instr.loadAt,Instr.sureAddr,aF,Sem.run_bind,Sem.run_pure,Result.andThen_ok]at be
      simp[zi,dy,H,aF,asAddr,be,ak,bK]
     |_=>simp[pv,ep,aV]at aX;split at aX<;>simp at aX
    ·simp at a
   ·simp at a
def awu(aY:List z):(if a:(bK J aY).toArray.size=1 then(bK J aY).toArray[0]else Value.tuple (bK J aY).toArray)=aF J (one aY):=by
 match aY with
 |[]=>simp[one,bK,aF]
 |[E]=>simp[one,bK]
 |E::b::r=>simp[one,bK,aF]
def awt{aY:List z}(a:d0 Y aY):b7 Y (one aY):=by
 match aY,a with
 |[],a=>exact a
 |[E],a=>exact a.1
 |E::b::r,a=>exact a
def ja.defs(aB:ja C bl bD bO fn am bg aN ro cs h j J Y w bC aE){ga:List hE}(a:∀d∈ga,wd Y d):ja C bl bD bO fn am ga aN ro cs h j J Y w bC aE:=
 ⟨aB.V,aB.kL,aB.hS,aB.j8,⟨a,aB.hR.ro,aB.hR.fn⟩,aB.bot,aB.cs⟩
def ja.Vz{todo:List dJ}{bN:k1}(JB:bN≠ .run)(bS:p8 Y bN)(aB:ja C bl bD bO fn am bg aN ro cs h j J Y w bC aE)(bh:jr J Y n am I tmps):
 Cp C bl bD bO bN todo fn n am bg aN ro cs I h j J Y w bC tmps bB aE:=by
 cases bN with
 |run=>exact absurd rfl JB
 |returning=>exact⟨aB.V,aB.kL,aB.hS,aB.j8,aB.hR,bS,aB.bot,aB.cs,bh⟩
 |panicking fW=>exact⟨aB.V,aB.kL,aB.hS,aB.j8,aB.hR,bS,aB.bot,aB.cs,bh⟩
def aas(cB:Env C bl dD dQ)(f5:nw C bl bD bO ag){d:hE}{ds:List hE}{bN:k1}{todo:List dJ}(JB:bN≠ .run)(bS:p8 Y bN)(aB:ja C bl bD bO fn am (d::ds) aN ro cs h j J Y w bC aE)(bh:jr J Y n am I tmps)
 (a:w7 d ds bN todo ag C ⟨fn,n,am,[],aN,ro,cs⟩ I h j=some v):Ends C bl bD bO v (lone (cn J fn (d::ds) aN ro tmps bB (gB J bN)) aE w):=by
 have Nj:wd Y d:=aB.hR.bg d (Zu ..)
 have acx:∀d∈ds,wd Y d:=λlq aI=>aB.hR.bg lq (Zt _ aI)
 have ab9:gB J bN≠ .run:=by cases bN<;>simp[gB]at JB ⊢
 unfold w7 at a
 split at a
 rename_i Rh aL G6 am4 Iq UW qS e0
 cases e0
 split at a
 ·rename_i r cg
  split at a
  ·rename_i pw gw
   simp only[d6,gS]at a
   obtain⟨De,a⟩:=a
   have aI:Y r:=Nj.1
   obtain⟨gZ,mM⟩:=aB.V.obj r _ gw aI
   simp only[ZK]at gZ
   obtain⟨bE,bJ,b2,cF⟩:=putObj aB.V (cJ:=bC) (o':= .deferred none) (lA:= .deferred none) (iV De) aI gw ⟨Zs,Zs⟩ gZ Zs
    (λbE qr=>⟨by simpa using qr,λk aw=>by cases aw⟩) ⟨λ_ _ _ a=>(by cases a),λ_ _ _ a=>(by cases a)⟩
   have NY:(Instr.takeDeferred (J r).cr).run C.P w= .ok (pw.map (lN J)) bE:=by
    have B:bE=w.putObj (J r).cr (.deferred none):=by
     have:(Go.setObj (J r).cr (.deferred none)).run C.P w= .ok () (w.putObj (J r).cr (.deferred none)):=by simp[Go.setObj,Sem.run,gZ,World.putObj]
     rw[this]at bJ
     simp only[Result.ok.injEq]at bJ
     exact bJ.2.symm
    rw[B]
    exact run_takeDeferred gZ
   refine .head (azg (dr:=pw++ds) ab9 NY (by rw[Yo])) ?_
   have aqL:∀d∈pw++ds,wd Y d:=λlq sp=>by
    rcases Zx.1 sp with al|al
    ·exact mM pw rfl lq al
    ·exact acx lq al
   have x4:=(aB.defs aqL).ext b2 cF (Zh _)
   exact f5 _ _ _ _ _ _ _ _ _ _ _ _ v a J Y bE bC tmps bB aE (x4.Vz JB bS bh)
  ·simp at a
 ·rename_i f fw args
  split at a
  ·rename_i g cg SC
   have k7:=aec (J:=J) (h:=h) (j:=j) (bj:=bl.heap.size) (w:=w) cB.kk Nj.1.1 Nj.1.2 Nj.2 SC
   obtain⟨H,K⟩:=k7
   have rg:=step_defer (P:=C.P) (fr:=cn J fn (⟨.fn f fw,args⟩::ds) aN ro tmps bB (gB J bN)) (cs:=aE) (w:=w) (d:=lN J ⟨.fn f fw,args⟩) (ds:=ds.map (lN J)) ab9 rfl rfl H
   refine .head rg ?_
   have aD:At C J Y h bC j n am I tmps bN todo bB:=by
    cases bN with
    |run=>exact absurd rfl JB
    |_=>exact bh
   exact aaJ (CG:=true) f5 aB.V aB.kL aB.hS (Zh _) (.cons (bN:=bN) aD bS ((aB.defs acx).hR) aB.bot aB.j8 aB.cs) (λB=>by cases B) K a
  ·simp at a
def ang(J:c1):∀(k:List rM),(k.map (tc J)).dropWhile (!·.goexit)=[]:=by
 intro k
 induction k with
 |nil=>rfl
 |cons E k ag=>simp[tc,ag]
def ayp(J:c1)(fW:List rM):settle (gB J (.panicking fW))=gB J (xe fW):=by
 cases fW with
 |nil=>rfl
 |cons p k=>
  obtain⟨v,r⟩:=p
  cases r with
  |false=>simp[gB,settle,xe,tc]
  |true=>simp[gB,settle,xe,tc,ang]
def azK{fW:List rM}(a:p8 Y (.panicking fW)):p8 Y (xe fW):=by
 unfold xe
 split
 ·trivial
 ·exact a
def azL(fW:List rM):xe fW≠ .run:=by
 unfold xe
 split<;>simp
def axN(cB:Env C bl dD dQ)(f5:nw C bl bD bO ag){todo:List dJ}(aB:ja C bl bD bO fn am bg aN ro cs h j J Y w bC aE)(bh:jr J Y n am I tmps)
 (a:K2 todo ag C ⟨fn,n,am,bg,aN,ro,cs⟩ I h j=some v):Ends C bl bD bO v (lone (cn J fn bg aN ro tmps bB .returning) aE w):=by
 unfold K2 at a
 cases bg with
 |cons d ds=>exact aas (bN:= .returning) cB f5 Zs trivial aB bh a
 |nil=>
  simp only at a
  split at a
  ·rename_i f b8
   obtain⟨aaR,qi,nM⟩:=aB.hR.fn
   rw[b8]at qi;cases qi
   split at a
   ·rename_i aY tE
    have lY:(results f tmps).run C.P w= .ok (aF J (one aY)) w/\d0 Y aY:=by
     unfold results
     rw[Sem.run_bind,Array.mapM_eq_mapM_toList,Sem.run_map]
     obtain⟨fc,fQ⟩:=axK aB.V bh (bZ:=λx=>match x with| .tmp t=>pure (tmps.getD t Go.undef)| .cell E t=>do loadVar t (<-asAddr (tmps.getD E Go.undef))) (λ_=>rfl) (λ_ _=>rfl) _ _ nM tE
     refine⟨?_,fQ⟩
     refine(congrArg (λr=>Result.andThen (Result.andThen r _) _) fc).trans ?_
     simp only[Result.andThen_ok,Sem.run_pure]
     rw[<-awu]
    obtain⟨lY,apD⟩:=lY
    cases aN with
    |false=>
     have Gq:(cn J fn [] false ro tmps bB .returning).leaving C.P w (.returned (aF J (one aY))):=⟨rfl,rfl,rfl,f,b8,lY⟩
     cases cs with
     |nil=>
      simp only[ta,ku,Zf]at a
      subst a
      obtain⟨ch,cD,di⟩:=aB.bot rfl
      have hJ:=aB.cs
      cases hJ with
      |nil=>exact⟨J,w,_, .refl _ _,Gq,ch,aB.kL⟩
     |cons c rest=>
      refine γ f5 aB Zs (awt apD) (λg iZ B=> ?_) a
      subst B
      exact step_leave_returned Gq
    |true=>
     cases cs with
     |nil=>have:=(aB.bot rfl).2.1;cases this
     |cons c rest=>
      obtain⟨gK,aP,kU,cZ,vx,ga,mJ,js,lg⟩:=c
      obtain⟨rp,hA,h1,iZ,rfl,bJ,b2,cF,fb,eS,eK⟩:=aB.cs.inv
      have rg:=step_going_returned (P:=C.P) (fr:=cn J fn [] true ro tmps bB .returning) (c:=cn J gK ga js lg hA h1 (gB J mJ)) (cs:=iZ) (w:=w) (v:=aF J (one aY)) rfl ⟨rfl,rfl,f,b8,lY⟩
      refine .head rg ?_
      cases mJ with
      |run=>simp[ta]at a
      |returning=>
       have cy:ag .returning vx ⟨gK,aP,kU,ga,js,lg,rest⟩ cZ h j=some v:=a
       exact f5 _ _ _ _ _ _ _ _ _ _ _ _ v cy J Y w rp hA h1 iZ ⟨aB.V,aB.kL,aB.hS,Zy eS aB.j8,cF,trivial,fb,eK,bJ⟩
      |panicking fW=>
       have cy:ag (xe fW) vx ⟨gK,aP,kU,ga,js,lg,rest⟩ cZ h j=some v:=a
       have B:({cn J gK ga js lg hA h1 (gB J (.panicking fW))with mode:=settle (cn J gK ga js lg hA h1 (gB J (.panicking fW))).mode}:Frame)=cn J gK ga js lg hA h1 (gB J (xe fW)):=by
        rw[show(cn J gK ga js lg hA h1 (gB J (.panicking fW))).mode=gB J (.panicking fW) from rfl,ayp]
        rfl
       rw[B]
       have ah:ja C bl bD bO gK kU ga js lg rest h j J Y w rp iZ:=⟨aB.V,aB.kL,aB.hS,Zy eS aB.j8,cF,fb,eK⟩
       exact f5 _ _ _ _ _ _ _ _ _ _ _ _ v cy J Y w rp hA h1 iZ (ah.Vz (azL fW) (azK b2) bJ)
   ·simp at a
  ·simp at a
def axs(J:c1)(fW:List rM)(bN:k1):raised (gB J bN) (fW.map (tc J))=gB J (Es fW bN):=by
 cases bN<;>simp[gB,raised,Es]
def axg{fW:List rM}{bN:k1}(a:p8 Y (.panicking fW))(cy:p8 Y bN):p8 Y (Es fW bN):=by
 cases bN with
 |panicking pO=>
  intro p av
  rcases Zx.1 av with al|al
  ·exact a p al
  ·exact cy p al
 |_=>exact a
def awK(cB:Env C bl dD dQ)(f5:nw C bl bD bO ag){todo:List dJ}{fW:List rM}(bS:p8 Y (.panicking fW))(aB:ja C bl bD bO fn am bg aN ro cs h j J Y w bC aE)(bh:jr J Y n am I tmps)
 (a:K1 fW todo ag C ⟨fn,n,am,bg,aN,ro,cs⟩ I h j=some v):Ends C bl bD bO v (lone (cn J fn bg aN ro tmps bB (gB J (.panicking fW))) aE w):=by
 unfold K1 at a
 cases bg with
 |cons d ds=>exact aas (bN:= .panicking fW) cB f5 Zs bS aB bh a
 |nil=>
  simp only at a
  cases cs with
  |nil=>simp at a
  |cons c rest=>
   obtain⟨gK,aP,kU,cZ,vx,ga,mJ,js,lg⟩:=c
   obtain⟨rp,hA,h1,iZ,rfl,bJ,b2,cF,fb,eS,eK⟩:=aB.cs.inv
   obtain⟨f,b8,_⟩:=aB.hR.fn
   have rg:=step_going_panicked (P:=C.P) (fr:=cn J fn [] aN ro tmps bB (gB J (.panicking fW))) (c:=cn J gK ga js lg hA h1 (gB J mJ)) (cs:=iZ) (w:=w) (chain:=fW.map (tc J)) ⟨rfl,rfl,f,b8⟩
   refine .head rg ?_
   have B:({cn J gK ga js lg hA h1 (gB J mJ)with mode:=raised (cn J gK ga js lg hA h1 (gB J mJ)).mode (fW.map (tc J))}:Frame)=cn J gK ga js lg hA h1 (gB J (Es fW mJ)):=by
    rw[show(cn J gK ga js lg hA h1 (gB J mJ)).mode=gB J mJ from rfl,axs]
    rfl
   rw[B]
   have cy:ag (Es fW mJ) vx ⟨gK,aP,kU,ga,js,lg,rest⟩ (ux vx cZ) h j=some v:=a
   have ah:ja C bl bD bO gK kU ga js lg rest h j J Y w rp iZ:=⟨aB.V,aB.kL,aB.hS,Zy eS aB.j8,cF,fb,eK⟩
   exact f5 _ _ _ _ _ _ _ _ _ _ _ _ v cy J Y w rp hA h1 iZ (ah.Vz (by cases mJ<;>simp[Es]) (axg bS b2) bJ.drop)
def agx(cB:Env C bl dD dQ)(pI:nw C bl bD bO ag):nw C bl bD bO λbN todo bZ I h j=>Vg ag C bN todo bZ I h j:=by
 intro bN todo fn n am bg aN ro cs I h j v cy J Y w cJ tmps bB aE cX
 cases bN with
 |run=>
  obtain⟨aB,bh⟩:=cX.alG
  have K:agy todo ag C ⟨fn,n,am,bg,aN,ro,cs⟩ I h j=some v:=cy
  cases bh with
  |plain aC GJ=>
   cases aC with
   |nil=>
    have ak:ox none ag C [] ⟨fn,n,am,bg,aN,ro,cs⟩ I h j=some v:=K
    exact T3 pI (.inl ⟨rfl,rfl⟩) aB GJ ak
   |cons aA aC=>
    rename_i E x o bB
    have ak:aee E ag C o ⟨fn,n,am,bg,aN,ro,cs⟩ I h j=some v:=K
    have go:∀o bB,lI C J Y am o bB->ag .run o ⟨fn,n,am,bg,aN,ro,cs⟩ I h j=some v->Ends C bl bD bO v (lone (cn J fn bg aN ro tmps bB .run) aE w):=
     λo bB aC a=>pI _ _ _ _ _ _ _ _ _ _ _ _ v a J Y w cJ tmps bB aE (aB.state (.plain aC GJ))
    cases aA with
    |code fj=>exact aab cB pI aB GJ _ o bB fj aC ak
    |inBlock=>exact .head ay1 (go o bB aC ak)
    |inLoop fj=>exact .head ay2 (aab cB pI aB GJ _ _ _ fj (.cons (.inLoop fj) aC) ak)
    |inScope fj=>exact .head ay3 (go o bB aC ak)
    |CL aI=>
     rename_i k
     have ay:FP k ag C o ⟨fn,n,am,bg,aN,ro,cs⟩ I h j=some v:=ak
     unfold FP at ay
     split at ay
     ·rename_i st qz gK aP kU cZ params assign body ga gw
      have Rz:st≠ .busy->bI (jI C k) (jt (bp C h k (some (.loop .exhausted qz gK aP kU cZ params assign body ga))) λh=>ag .run ((qz.map dJ.code).toList++o) ⟨fn,n,am,bg,aN,ro,cs⟩ I h j) none=some v->
       Ends C bl bD bO v (lone (cn J fn bg aN ro tmps (.endRangeFunc (J k).cr::bB) .run) aE w):=by
       intro atb be
       simp only[d6,gS]at be
       obtain⟨De,be⟩:=be
       have S2:∀c,qz=some c->GV c:=by
        obtain⟨_,_,_,_,_,_,sM,_⟩:=aB.V.obj k _ gw aI
        exact sM
       obtain⟨hA,gZ,BR,sM,x4⟩:=Uc aB (ic:= .exhausted) (BZ:=qz) (iV De) aI gw S2
       refine .head (ayZ (run_endLoop gZ atb)) ?_
       refine pI _ _ _ _ _ _ _ _ _ _ _ _ v be J Y _ cJ tmps _ aE (x4.state (.plain ?_ GJ))
       cases qz with
       |none=>exact aC
       |some c=>
        have ax:lP C am c=true:=by
         rcases sM c rfl with rfl|⟨id,rfl⟩<;>rfl
        exact .cons (.code ax) aC
      cases st with
      |busy=>simp at ay
      |ready=>exact Rz Zs ay
      |done=>exact Rz Zs ay
      |exhausted=>exact Rz Zs ay
     ·simp at ay
    |begin=>
     have ay:Ig ag C o ⟨fn,n,am,bg,aN,ro,cs⟩ I h j=some v:=ak
     unfold Ig at ay
     cases ro with
     |none=>simp at ay
     |some k=>
      simp only at ay
      split at ay
      ·rename_i qz gK aP kU cZ params assign body ga gw
       simp only[d6,gS]at ay
       obtain⟨De,ay⟩:=ay
       have aI:=aB.hR.ro k rfl
       have S2:∀c,qz=some c->GV c:=by
        obtain⟨_,_,_,_,_,_,sM,_⟩:=aB.V.obj k _ gw aI
        exact sM
       obtain⟨hA,gZ,BR,sM,x4⟩:=Uc aB (ic:= .busy) (BZ:=qz) (iV De) aI gw S2
       refine .head (ayU (run_beginRound gZ rfl)) ?_
       exact pI _ _ _ _ _ _ _ _ _ _ _ _ v ay J Y _ cJ tmps bB aE (x4.state (.plain aC GJ))
      ·simp at ay
  |seq aC aD=>exact agj cB pI _ _ _ _ _ _ _ _ _ _ aB aC aD K
  |drawn aC be bV c9 eg=>exact aay cB pI aB aC be bV c9.dj c9 eg K
 |returning=>
  have aB:ja C bl bD bO fn am bg aN ro cs h j J Y w cJ aE:=⟨cX.V,cX.kL,cX.hS,cX.j8,cX.hR,cX.bot,cX.cs⟩
  exact axN (todo:=todo) cB pI aB cX.todo cy
 |panicking fW=>
  have aB:ja C bl bD bO fn am bg aN ro cs h j J Y w cJ aE:=⟨cX.V,cX.kL,cX.hS,cX.j8,cX.hR,cX.bot,cX.cs⟩
  exact awK (todo:=todo) cB pI cX.mode aB cX.todo cy
def ax7(cB:Env C bl dD dQ):∀n,nw C bl bD bO (run C n):=by
 intro n
 induction n with
 |zero=>intro bN todo fn n am bg aN ro cs I h j v a;simp[run]at a
 |succ m pI=>exact agx cB pI
def ax4(cB:Env C bl dD dQ){m f:Nat}{args:List z}(iY:d0 dQ args)(a:yX C m f args=some v):
 Calls C.P f (bK dD args).toArray bl λB bE=>(∃J,B= .returned (aF J v))/\Below bl.heap.size bl bE:=by
 intro qS
 have cd:Ends C bl f qS v (lone (Frame.enter C.P f (bK dD args).toArray .normal) qS bl):=
  Mp (ax7 cB m) cB.base (Below.refl _ _) cB.hS (Zh _) .nil (λ_=>rfl) iY a
 obtain⟨J,bE,fr,H,K,ak,ay⟩:=cd
 exact⟨.returned (aF J v),bE,fr,⟨⟨J,rfl⟩,ay⟩,H,ak,K⟩
end
end Go.bn

