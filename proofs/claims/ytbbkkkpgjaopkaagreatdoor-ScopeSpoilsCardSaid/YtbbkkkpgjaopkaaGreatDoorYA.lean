/- Part of the proof of the last text; no conditions -/
import Derived.Test.YtbbkkkpgjaopkaaGreatDoorYz
import Derived.Test.YtbbkkkpgjaopkaaGreatDoorRows
import Derived.ProofKit
set_option maxHeartbeats 8000000
set_option linter.all false
namespace Go.Proofs.YtbbkkkpgjaopkaaGreatDoor
open Go.bs Go.aQ
noncomputable section
section
variable{X:cl}{h R aX aP:M ak}{j au aM be:Nat}{P:Nat->Prop}
variable{an:List Go.aQ.Node}{ai cn:Nat}{ah:Nat->Nat}{a2:y}{aK:List (List y)}{Y q:Nat}{g:Go.aQ.Node}
def adw:∀(e x:List Nat),tR e x=true↔e<+:x:=by
 intro e
 induction e with
 |nil=>intro x;simp[tR]
 |cons E e aj=>
  intro x
  cases x with
  |nil=>simp[tR]
  |cons b x=>rw[List.cons_prefix_cons, <-aj x];simp[tR]
def ν(e:List Nat):∀x:List Nat,oT e x=true↔e<:+:x:=by
 intro x
 induction x with
 |nil=>rw[oT,adw];simp
 |cons b x aj=>rw[oT,zb,adw,aj,List.infix_cons_iff]
def Wz:∀(t:ba),(∀c∈t,c<256)->xa (t.map λn:Nat=>y.int .u8 (n:Int))=some t:=by
 intro t
 induction t with
 |nil=>intro _;rfl
 |cons E t aj=>
  intro a
  have H:Nat.blt E 256=true:=by have:=a E (Zt ..);simp[Nat.blt];omega
  show bH (Nat.blt E 256) (match xa (t.map λn:Nat=>y.int .u8 (n:Int))with|some r=>some (E::r)|none=>none) none=_
  rw[H,eW,aj λc aA=>a c (Zn _ aA)]
def aim{C:aT}{h:M ak}{t:ba}(a:∀c∈t,c<256)(aI:C.aY<=j):sZ C (bl C h j (some (.cells (M.ofList (t.map λn:Nat=>y.int .u8 (n:Int)) 0 .nil) t.length (.grow [])))) (.ej j 0 t.length 1)=some t:=by
 have K:(M.ofList (t.map λn:Nat=>y.int .u8 (n:Int)) 0 .nil).ks 0 t.length=some (t.map λn:Nat=>y.int .u8 (n:Int)):=by
  rw[xr (lk _) _ _ Zs,Z9,ZQ Zs]
 simp only[sZ,ix,cellsOf,bn aI,K]
 exact Wz t a
def ajU{G P:M ak->Nat->Prop}{mc:Prop}(Jq:(∀h n,P h n->TY (G h n))->mc)(Tv:∀h n,P h n->G h n):mc:=Jq λh n a=>⟨Tv h n a⟩
def aec{b cQ:Bool}{gW:Nat}(a:pA b (Z X h gW))(aI:(o X).aY<=gW):∃dk,es X h 1 (.ptr gW 0) (.bool cQ)=some dk/\pA cQ (Z X dk gW)/\∀e,e≠gW->Z X dk e=Z X h e:=
 ⟨_,nO (W:=0) a aI Zo rfl rfl,by unfold pA;rw[bn aI];rfl,λe B=>aL aI B⟩
set_option maxRecDepth 100000 in
def arU(az:f5 X)(c2:qa X)(dY:mY X)(hV:km X)(hW:mb X){N:Nat}{Cz:List y}{jh eV gW:Nat}{kK:y}{s:ba}{aZ e4:Nat}{bq:Int->Prop}
 (aI:(o X).aY<=j)(xQ:aV X h (.ptr jh 0)=some kK)(AN:aV X h (.ptr eV 0)=some (.int .u8 (aZ:Int)))(oc:aV X h (.ptr eV 1)=some (.int .u8 (e4:Int)))(I1:eV<j)(pR:gW<j)(apY:aZ<256)(apZ:e4<256)
 (aE:s.length<=5000)(al:∀c∈s,c<256)(aB:fM kK=some (.int .i64 (s.length:Int)))(pL:∀R aS,bp X h j R aS->s9 X R kK=some (.str s))
 (nE:rv s= .ok an)(cE:an≠[])(bw:an[aZ%an.length]? =some g)(dJ:g.eqs=[])(vX:an.length<=64)(C5:g.eqs.length<=4096)
 (mi:∀(R:M ak) (aS:Nat) (hK:Nat->Prop) (v:y),(o X).aY<=aS->lL X R hK an v->(∀e,hK e->e<aS)->a1 X 7 [v] R aS (λab aP be=>(∃c E:Int,ab= .agg [.int .i64 c, .int .i64 E]/\bq c)/\bp X R aS aP be) (λ_ _ _=>False)):
 a1 X 9 [.func (.func N) [] Cz, .ptr jh 0, .ptr eV 0] h j (λab R au=>(∃c:Int,ab= .int .i64 c/\bq c)/\bp X h j R au) (λ_ _ _=>False):=by
 refine zL az.todW (OL X) ?_
 rw[OM]
 unfold Kv
 refine ce @xQ ⟨?_⟩
 refine(SQ (j:=j) az c2 dY aE al aI aB pL).Zm ?_
 rintro ab aP be ⟨uP,b6⟩
 have f1:=b6.le
 rw[nE]at uP
 obtain⟨v,rfl,Dl⟩:=uP
 obtain⟨ai,ah,cn,a2,aK,rfl,d⟩:=Dl.parts
 have bo:decide ((0:Int)≠0)=false:=rfl
 refine eP @bo @GN @GO ⟨?_⟩
 generalize fE:bl X (bl X aP be _) be _=bf
 have cM:∀e,e<be->Z X bf e=Z X aP e:=λe B=>by rw[<-fE];exact zK
 clear fE
 have DG:∀e,e<j->Z X bf e=Z X h e:=λe B=>by rw[cM e Zo,b6.ad e B]
 have dI:=d.ad (R:=bf) λe B=>cM e B.2
 have gp:=dI.hj.wide
 have m8:=(Zb.1 bw).1
 have mF:=dI.nc
 have er:=dI.iK.rd.len
 rw[gp.1]at er
 obtain⟨row,d2,hh⟩:=dI.hj.nodes.get _ g bw
 obtain⟨cW,cO,tV,dF,b4,cr,cS,fh,vD,rfl,jA,iD,jB,hq,o0⟩:=hh
 have ie:aV X bf (.ptr cn (aZ%an.length*6+5))=some dF:=dI.iK.rd.cell _ _ 5 _ d2 rfl
 have hQ:=hq.len
 rw[o0.wide.1]at hQ
 have di:=dI.iK.rd.g2 (aZ%an.length) (by rw[gp.1];exact m8)
 have oq:aV X bf (.ptr eV 0)=some (.int .u8 (aZ:Int)):=zP (DG eV I1) AN
 have cF:aV X bf (.ptr eV 1)=some (.int .u8 (e4:Int)):=zP (DG eV I1) oc
 have hb:tA 2 1 (.ptr eV 0) (.int .i64 0)=some (.ptr eV 0):=rfl
 have fX:tA 2 1 (.ptr eV 0) (.int .i64 1)=some (.ptr eV 1):=rfl
 have TS:k8 .i64 (.int .u8 (aZ:Int))=some (.int .i64 (aZ:Int)):=EU Zo Zo
 have vh:k8 .i64 (.int .u8 (e4:Int))=some (.int .i64 (e4:Int)):=EU Zo Zo
 have AC:=ZH.2 cE
 have fs:decide ((0:Int)<(g.eqs.length:Int))=false:=by rw[dJ];rfl
 have jH:=R4 (E:=aZ) (b:=an.length) AC Zo
 have z0:decide ((an.length:Int)=0)=false:=by simp;exact cE
 refine fA @Xb @mF @er @z0 @hb @oq (Za @TS (Za @jH (Za @di (Za @ie (Za @hQ @fs))))) ⟨?_⟩
 have oZ:lL X bf (ei j be) an (.ptr ai 0):=rU.prog (⟨ah,ai,a2,cn,aK,rfl,dI.al,dI.nc,dI.iK,dI.hj,dI.own⟩:rU X bf (ei j be) an (.ptr ai 0))
 refine(mi _ _ _ _ Zo oZ (λe B=>zE B.2)).Zm ?_
 rintro ab bZ ct ⟨⟨c,E,rfl,CX⟩,dC⟩
 have qx:=dC.le
 refine ce @vG ⟨?_⟩
 exact⟨⟨c,rfl,CX⟩,Zo,λe B=>by rw[dC.ad e Zo];exact DG e B⟩
def aug(az:f5 X)(c2:qa X)(dY:mY X)(hV:km X)(hW:mb X){jh eV gW aZ e4:Nat}{kK:y}{s:ba}(m:rQ X h j jh eV kK s aZ e4 an g)(pR:gW<j)(gx:(o X).aY<=gW)(V:pA true (Z X h gW)):
 a1 X 9 [.func (.func 10) [] [.ptr gW 0], .ptr jh 0, .ptr eV 0] h j (λab R au=>ab= .int .i64 (i6 an).1/\j<=au/\((i6 an).1=0->pA (sJ an g) (Z X R gW))/\∀e,e<j->e≠gW->Z X R e=Z X h e) (λ_ _ _=>False):=by
 obtain⟨iT,cE,ka⟩:=BA m.tP
 obtain⟨h0,gI⟩:=wh ka
 have aI:=m.n
 have hp:=Zh m.bw
 have mi:=ER (dH:=an) (bq:=λc=>c=(i6 an).1) az c2.err hV hW iT cE ka rfl
 by_cases dJ:g.eqs=[]
 ·refine(arU (h:=h) (j:=j) (gW:=gW) (bq:=λc=>c=(i6 an).1) az c2 dY hV hW aI m.kG m.oq m.cF m.wl pR m.fb m.dv m.aE m.al m.aB m.xe m.tP cE m.bw dJ h0 (gI g hp).eqs mi).Zm ?_
  rintro ab aP be ⟨⟨c,rfl,rfl⟩,bP⟩
  exact⟨rfl,bP.le,λa=>absurd dJ (E3 a m.bw (iT g hp).some),λe B _=>bP.ad e B⟩
 ·refine(acw (h:=h) (j:=j) (gW:=gW) (eE:=pA (sJ an g)) (bv:=λe=>e=gW) (bq:=λc=>c=(i6 an).1) (dH:=an) az c2 dY hV hW aI m.kG m.oq m.cF m.wl pR m.fb m.dv m.aE m.al m.aB m.xe m.tP cE m.bw dJ h0 (gI g hp).eqs mi ?_).Zm ?_
  ·intro aX aM ai ah cn a2 aK P fa d bI aG
   refine(auh (h:=aX) (j:=aM) az.todW Zo d m.bw (gW:=gW) gx (by rw[aG gW pR];exact V) h0 (gI g hp).vars).Zm ?_
   rintro ab aP be ⟨rfl,f1,gn,gH⟩
   have cC:=d.ad (R:=aP) λe B=>gH e (zE (bI e B).1)
   have oZ:lL X aP P an (.ptr ai 0):=rU.prog (⟨ah,ai,a2,cn,aK,rfl,cC.al,cC.nc,cC.iK,cC.hj,cC.own⟩:rU X aP P an (.ptr ai 0))
   exact⟨rfl,f1,⟨P,oZ,λe B=>zE (bI e B).2⟩,gn,λe B br=>by rw[gH e br];exact aG e B⟩
  ·rintro ab aP be ⟨⟨c,rfl,rfl⟩,fa,gn,aG⟩
   exact⟨rfl,fa,λ_=>gn,aG⟩
set_option maxRecDepth 100000 in
def arb(az:f5 X)(c2:qa X)(dY:mY X)(hV:km X)(hW:mb X)(Mv:(o X).g4 6 []=some (.bool true)){a0 a7:y}{kG s:ba}{aZ e4:Nat}(AN:aZ<256)(oc:e4<256)(aI:(o X).aY<=j)(aB:fM a0=some (.int .i64 (kG.length:Int)))(aE:s.length<=5000)(al:∀c∈s,c<256)
 (jF:∀R aS,bp X h j R aS->nN X R 1 a0 none (some (.int .i64 (min (kG.length:Int) 5000))) none=some a7)(h0:fM a7=some (.int .i64 (s.length:Int)))(pL:∀R aS,bp X h j R aS->s9 X R a7=some (.str s))
 (ID:s≠[]->∀R aS e (t:ba),bp X h j R aS->sZ X R e=some t->0<t.length->t.length<=1048576->Cp X R [a7,e]=some (.bool (oT t s)))
 (pJ:a0.cells=[a0])(xD:a7.cells=[a7])(aoS:l3 a7=true):
 a1 X 4 [a0, .agg [.int .u8 (aZ:Int), .int .u8 (e4:Int)]] h j (λab R au=>ab= .bool true/\bp X h j R au) (λ_ _ _=>False):=by
 refine zL az.todW (agH X) ?_
 rw[agI]
 unfold UO
 refine vu ?_
 refine vu ?_
 rw[pJ]
 generalize eN:bl X (bl X h j _) (j+1) _=aX
 have eC:Z X aX j=zI [a0] 1:=by rw[<-eN];simp(disch:=omega) only[aL,bn];rfl
 have g1:Z X aX (j+1)=zI [.int .u8 (aZ:Int), .int .u8 (e4:Int)] 2:=by rw[<-eN,bn Zo];rfl
 have bY:bp X h j aX (j+1+1):=by rw[<-eN];exact dM
 clear eN
 obtain⟨aP,tt,alB,ck⟩:∃aP,es X aX 1 (.ptr j 0) a7=some aP/\Z X aP j=zI [a7] 1/\∀e,e≠j->Z X aP e=Z X aX e:=⟨_,nO (W:=0) eC aI Zo xD aoS,by rw[bn aI];rfl,λe B=>aL aI B⟩
 have gq:aV X aX (.ptr j 0)=some a0:=by rw[bU eC];rfl
 repeat(with_reducible first|refine gT ?_ |refine ru ?_ |refine rt ?_ |refine r0 ?_ |refine KI ?_ |refine vu ?_ |refine M2 ?_ |refine M1 ?_ |refine MH ?_ |refine MJ ?_ |refine MG ?_ |refine MI ?_ |refine MR ?_ |refine KQ ?_ |refine M0 ?_ |refine MZ ?_ |refine Au ?_ |refine At ?_ |refine As ?_ |refine Ar ?_ |refine LC ?_ |refine s6 ?_ |refine s5 ?_ |refine MB ?_ |refine NB ?_ |refine NC ?_ |(refine gi (jJ (by(first|assumption|(simp(disch:=omega) only[bn,aL,gq,aB,SE,jF _ _ bY,tt]<;>rfl)|(simp(disch:=omega) only[bn,aL,gq,aB,SE,jF _ _ bY,tt]))) Zo rfl Zd Zd rfl) ?_)|((conv=>whnf;arg 1;simp(disch:=omega) only[BO,u6,BP,yV,w2,yW,BG,BF,Bj,wj,vA,x5,A8,tD,tE,x6,Bc,Bd,Be,Bf,Bg,A9,Ba,Bb,BZ,B3,B4,B5,B6,B7,B8,B9,Ca,B0,B1,B2,wK,BY,lE,y.cells,Ce,Cd,Cb,Bq,AW,AU,AV,AT,AS,AX,BR,BS,vG,Aj,w4,y6,y7,rk,tF,x7,uY,fe,td,tc,nk,zC,Yi,zD,Yg,Yl,Y9,Z6,Z1,Zz,ZY,Yh,Z9,Yd,YT,ZM,ZP,Z5,ZE,ZD,reduceIte,Nat.reduceEqDiff,Nat.reduceAdd,Nat.reduceMul,Nat.reduceLT,Nat.reduceBEq,Yz,Yq,Yt,Ys,eW,kp,Y5,YA,YD,Nat.reduceLeDiff,Nat.reduceSub,hv,gq,aB,SE,jF _ _ bY,tt]);(first|refine ru ?_ |refine rt ?_ |refine s6 ?_ |refine s5 ?_ |refine Au ?_ |refine At ?_ |refine As ?_ |refine Ar ?_))|dsimp only)
 generalize fE:bl X (bl X aP (j+1+1) _) (j+1+1) _=bf
 have cM:∀e,e<j+1+1->Z X bf e=Z X aP e:=λe B=>by rw[<-fE];exact zK
 have q3:pA true (Z X bf (j+1+1)):=by rw[<-fE,bn Zo];rfl
 clear fE
 have cq:bp X h j bf (j+1+1+1):=⟨Zo,λe B=>by rw[cM e Zo,ck e Zo,bY.ad e B]⟩
 have Gw:aV X bf (.ptr j 0)=some a7:=by rw[cT,cM j Zo, <-cT,bU alB];rfl
 have vH:Z X bf (j+1)=zI [.int .u8 (aZ:Int), .int .u8 (e4:Int)] 2:=by rw[cM _ Zo,ck _ Zo];exact g1
 cases nE:rv s with
 |error nJ=>
  obtain⟨de,Hi⟩:=nJ
  have C9:=adk aE nE
  refine(arT (h:=bf) (j:=j+1+1+1) az c2 dY Zo Gw aE al h0 (λR aS a=>pL R aS (cq.trans a)) nE).Zm ?_
  rintro ab bT b3 ⟨rfl,dA⟩
  have bo:decide (de≠0)=true:=by simp[C9]
  refine ce @bo ⟨?_⟩
  refine Cx Mv ?_
  refine c7 ⟨?_⟩
  exact⟨rfl,cq.trans dA⟩
 |ok an=>
  obtain⟨iT,cE,ka⟩:=BA nE
  obtain⟨axi,gI⟩:=wh ka
  have AC:=ZH.2 cE
  obtain⟨g,bw⟩:∃g,an[aZ%an.length]? =some g:=⟨_,Zf (zs _ AC)⟩
  have il:rQ X bf (j+1+1+1) j (j+1) a7 s aZ e4 an g:=⟨Zo,Zo,Zo,Gw,by rw[bU vH];rfl,by rw[bU vH];rfl,AN,oc,aE,al,h0,λR aS a=>pL R aS (cq.trans a),nE,bw⟩
  refine(aug (gW:=j+1+1) az c2 dY hV hW il Zo Zo q3).Zm ?_
  rintro ab bT b3 ⟨rfl,je,apo,eL⟩
  have dA:bp X h j bT b3:=⟨Zo,λe B=>by rw[eL e Zo Zo];exact cq.ad e B⟩
  by_cases dE:(i6 an).1=0
  ·have bo:decide ((i6 an).1≠0)=false:=by simp[dE]
   have FJ:=apo dE
   have Bk:rQ X bT b3 j (j+1) a7 s aZ e4 an g:=by
    have D:∀e,e<j+1+1->Z X bT e=Z X bf e:=λe B=>eL e Zo Zo
    exact⟨Zo,Zo,Zo,zP (D _ Zo) il.kG,zP (D _ Zo) il.oq,zP (D _ Zo) il.cF,AN,oc,aE,al,h0,λR aS a=>pL R aS (dA.trans a),nE,bw⟩
   refine ce @bo ⟨?_⟩
   generalize iS:bl X (bl X bT b3 _) b3 _=bZ
   have fw:Z X bZ b3=zI [.str (List.replicate 1 113)] 1:=by rw[<-iS,bn Zo];rfl
   have eM:∀e,e<b3->Z X bZ e=Z X bT e:=λe B=>by rw[<-iS];exact zK
   clear iS
   have abp:s≠[]:=λD=>by subst D;exact absurd nE (by intro a;cases a)
   have nG:=ZH.2 abp
   refine gK (λm I R aS=>∃c:Nat,I.g 2=some (.ptr j 0)/\I.g 5=some (.func (.func 9) [] [.ptr j 0, .ptr (j+1) 0])/\I.g 6=some (.ptr (j+1+1) 0)/\I.g 7=some (.ptr b3 0)/\1<=c/\c+m=s.length+1/\b3<aS/\Z X R b3=zI [.str (List.replicate c 113)] 1/\∀e,e<b3->Z X R e=Z X bT e)
    s.length ⟨1,bF,bF,bF,bF,Zo,Zo,Zo,fw,eM⟩ ?_
   rintro m I b9 dP ⟨c,eR,t5,fN,fx,anz,QU,Rn,dU,dS⟩
   have Ac:aV X b9 (.ptr j 0)=some a7:=zP (dS j Zo) Bk.kG
   have EY:aV X b9 (.ptr b3 0)=some (.str (List.replicate c 113)):=by rw[bU dU];rfl
   refine g6 @eR @Ac @fx @EY ⟨?_⟩
   refine Pd (by rw[YK];omega) ?_
   have lW:=aim (C:=o X) (h:=b9) (j:=dP) (t:=List.replicate c 113) (λe B=>zE (List.mem_replicate.1 B).2) Zo
   generalize mg:bl X b9 dP _=cm at lW ⊢
   have e1:∀e,e<dP->Z X cm e=Z X b9 e:=λe B=>by rw[<-mg];exact zK
   clear mg
   have e6:bp X h j cm (dP+1):=⟨Zo,λe B=>by rw[e1 e Zo,dS e Zo];exact dA.ad e B⟩
   refine⟨⟨_,ID abp cm (dP+1) _ _ e6 lW (by rw[YK];omega) (by rw[YK];omega), ?_⟩⟩
   cases vZ:oT (List.replicate c 113) s with
   |true=>
    have fa:=((ν _ _).1 vZ).length_le
    rw[YK]at fa
    cases m with
    |zero=>omega
    |succ m=>
     have eu:Z X cm b3=zI [.str (List.replicate c 113)] 1:=by rw[e1 b3 Rn];exact dU
     have La:aV X cm (.ptr b3 0)=some (.str (List.replicate c 113)):=by rw[bU eu];rfl
     have qX:dD X cm .add 9 true (.str (List.replicate c 113)) (.str [113])=some (.str (List.replicate (c+1) 113)):=by
      have:Nat.ble ((List.replicate c 113).length+[113].length) 1000000000=true:=jP Zx
      simp only[dD,wZ,this,eW]
      rw[List.replicate_succ']
     refine eP @fx @La @qX ⟨?_⟩
     exact⟨m,Zo,c+1,bz eR,bz t5,bz fN,bz fx,Zo,Zo,Zo,by rw[bn Zo];rfl,λe B=>by rw[aL Zo Zo,e1 e Zo,dS e B]⟩
   |false=>
    have Rd:¬List.replicate c 113<:+:s:=λa=>by rw[(ν _ _).2 a]at vZ;cases vZ
    have jV:(List.replicate c 113).length<=32->qR (List.replicate c 113):=λa=>atI anz (by rw[YK]at a;exact a)
    have eO:(List.replicate c 113).length<=5001:=by rw[YK];omega
    generalize gy:List.replicate c 113=nm at Rd jV eO dU EY
    clear lW vZ
    have eu:Z X cm b3=zI [.str nm] 1:=by rw[e1 b3 Rn];exact dU
    have La:aV X cm (.ptr b3 0)=some (.str nm):=by rw[bU eu];rfl
    have r9:pA (sJ an g) (Z X cm (j+1+1)):=by rw[e1 _ Zo,dS _ Zo];exact FJ
    have Li:aV X cm (.ptr (j+1+1) 0)=some (.bool (sJ an g)):=by rw[bU r9];rfl
    apply ajU (P:=λh n=>dP+1<=n/\pA (pk an g nm) (Z X h (j+1+1))/\∀e,e<dP+1->e≠j+1+1->Z X h e=Z X cm e)
    ·intro de
     cases pR:sJ an g with
     |false=>
      obtain⟨dk,xS,hf,fS⟩:=aec (cQ:=pk an g nm) r9 Zo
      have bG:pk an g nm=false:=by unfold pk;rw[pR];rfl
      rw[pR]at Li
      rw[bG]at xS
      refine eP @fN @Li @xS ⟨?_⟩
      have ky:dP+1<=dP+1/\pA (pk an g nm) (Z X dk (j+1+1))/\∀e,e<dP+1->e≠j+1+1->Z X dk e=Z X cm e:=⟨Zo,hf,λe _ B=>fS e B⟩
      generalize IG:dP+1=kd at ky ⊢
      exact(de dk kd (by rw[IG];exact ky)).out
     |true=>
      obtain⟨dk,xS,hf,fS⟩:=aec (cQ:=pk an g nm) r9 Zo
      have bG:pk an g nm=decide ((nm.length:Int)<=32):=by unfold pk;rw[pR,zA];exact decide_eq_decide.2 Zo
      rw[pR]at Li
      rw[bG]at xS
      refine kr @fN @fx @Li @La @uY @xS ⟨?_⟩
      have ky:dP+1<=dP+1/\pA (pk an g nm) (Z X dk (j+1+1))/\∀e,e<dP+1->e≠j+1+1->Z X dk e=Z X cm e:=⟨Zo,hf,λe _ B=>fS e B⟩
      generalize IG:dP+1=kd at ky ⊢
      exact(de dk kd (by rw[IG];exact ky)).out
    ·rintro d8 kd ⟨uH,tj,gJ⟩
     have nB:bp X h j d8 kd:=⟨Zo,λe B=>by rw[gJ e Zo Zo];exact e6.ad e B⟩
     have Jm:rQ X d8 kd j (j+1) a7 s aZ e4 an g:=by
      have D:∀e,e<j+1+1->Z X d8 e=Z X bT e:=λe B=>by rw[gJ e Zo Zo,e1 e Zo,dS e Zo]
      exact⟨Zo,Zo,Zo,zP (D _ Zo) Bk.kG,zP (D _ Zo) Bk.oq,zP (D _ Zo) Bk.cF,AN,oc,aE,al,h0,λR aS a=>pL R aS (nB.trans a),nE,bw⟩
     have EZ:aV X d8 (.ptr b3 0)=some (.str nm):=zP (gJ b3 Zo Zo) La
     have aaz:=ath nE
     refine ce @t5 ⟨?_⟩
     refine(ars az c2 dY hV hW Jm dE).Zm ?_
     rintro ab Ez ayz ⟨⟨dl,rfl,rfl⟩,Qu⟩
     have axt:=Qu.le
     refine ce @t5 ⟨?_⟩
     refine(ase az c2 dY hV hW (Jm.ad Qu) dE).Zm ?_
     rintro ab sY u2 ⟨⟨dx,rfl,rfl⟩,Fg⟩
     have aor:=Fg.le
     have Qv:=Qu.trans Fg
     refine dq @t5 @fx ⟨?_⟩
     refine(aiO az c2 dY hV hW (Jm.ad Qv) dE (dh:=b3) (nm:=nm) Zo (by rw[Qv.fm _ _ Zo];exact EZ) jV (Xy (aaz g (Zh bw)) Rd).2).Zm ?_
     rintro ab awF ayA ⟨⟨gD,rfl,tn⟩,X1⟩
     have axu:=X1.le
     have X2:=Qv.trans X1
     refine ce @t5 ⟨?_⟩
     refine(avO az c2 dY hV hW (Jm.ad X2) dE nm).Zm ?_
     rintro ab yP u3 ⟨⟨r2,rfl,sf⟩,X3⟩
     have aos:=X3.le
     have Qw:=X2.trans X3
     refine dq @t5 @fx ⟨?_⟩
     refine(aiG az c2 dY hV hW (Jm.ad Qw) dE (dh:=b3) (nm:=nm) Zo (by rw[Qw.fm _ _ Zo];exact EZ) jV (λE aD=>(Xy (aaz E aD) Rd).1)).Zm ?_
     rintro ab VQ ayB ⟨⟨ie,rfl,xE⟩,Fh⟩
     have axv:=Fh.le
     have Qx:=Qw.trans Fh
     have amk:pA (pk an g nm) (Z X VQ (j+1+1)):=by rw[Qx.ad _ Zo];exact tj
     have Lj:aV X VQ (.ptr (j+1+1) 0)=some (.bool (pk an g nm)):=by rw[bU amk];rfl
     have fs:decide ((37:Int)=37)=true:=rfl
     have fC:decide ((24:Int)=24)=true:=rfl
     have z3:decide ((0:Int)=0)=true:=rfl
     cases bG:pk an g nm with
     |true=>
      rw[bG]at Lj
      have am:=tn bG
      have aC:=sf bG
      have bm:=xE bG
      subst am aC bm
      refine g0 @fs @fC @z3 @fN @Lj ⟨?_⟩
      refine Cx Mv ?_
      refine c7 ⟨?_⟩
      exact⟨rfl,nB.trans Qx⟩
     |false=>
      rw[bG]at Lj
      refine g0 @fs @fC @z3 @fN @Lj ⟨?_⟩
      refine Cx Mv ?_
      refine c7 ⟨?_⟩
      exact⟨rfl,nB.trans Qx⟩
  ·have bo:decide ((i6 an).1≠0)=true:=by simp[dE]
   refine ce @bo ⟨?_⟩
   refine Cx Mv ?_
   refine c7 ⟨?_⟩
   exact⟨rfl,dA⟩
end
end
end Go.Proofs.YtbbkkkpgjaopkaaGreatDoor

namespace Go.bs
noncomputable section
open Go.RowKit (Below)
def T5(k:List y):Prop:=∀v∈k,(∀J ir,aO J v=aO ir v)/\∀aa,b7 aa v
def Eu(w:World)(v:Value)(aN:Nat)(k:List y):Prop:=
 (v= .slice none 0 0/\k=[])\/∃cA off len cap cd ty fr,v= .slice (some ⟨cA,off,none⟩) len cap/\len<=cap/\k.length=len*aN/\T5 k/\
  (0<k.length->w.heap[cA]? =some (.cells cd ty fr)/\off+k.length<=cd.size/\∀i x,k[i]? =some x->cd[off+i]? =some (aO (λ_=>default) x))
def aeZ(C:aT)(E:y)(b aN:Nat)(k:List y):Prop:=
 (E= .aW/\k=[])\/∃len cap,E= .slice b 0 len cap/\len<=cap/\k.length=len*aN/\(0<k.length->Z C .nil b=some (.cells (M.ofList k 0 .nil) k.length .j1))
def wo(k:List y)(G:M ak)(b:Nat):M ak:=if 0<k.length then G.set b (some (.cells (M.ofList k 0 .nil) k.length .j1))else G
def Eu.pl{w:World}{v:Value}{aN:Nat}{k:List y}(a:Eu w v aN k)(b:Nat):∃(E:y) (pl:mz),(∀J:cU,J b=pl->aO J E=v)/\(∀aa:Nat->Prop,aa b->b7 aa E)/\
 ((E= .aW/\k=[])\/∃len cap,E= .slice b 0 len cap/\len<=cap/\k.length=len*aN)/\(0<k.length->∀C J aa,j3 C J aa (.cells (M.ofList k 0 .nil) k.length .j1) pl w):=by
 rcases a with ⟨rfl,rfl⟩|⟨cA,off,len,cap,cd,ty,fr,rfl,H,K,am,aC⟩
 ·exact⟨.aW,default,λ_ _=>rfl,λ_ _=>trivial, .inl ⟨rfl,rfl⟩,λa=>by simp at a⟩
 ·refine⟨.slice b 0 len cap,⟨cA,off,k.length⟩,λJ dz=>by simp[aO,dz],λaa d=>d, .inr ⟨len,cap,rfl,H,K⟩,λa C J aa=> ?_⟩
  obtain⟨bS,ck,cM⟩:=aC a
  obtain⟨bR,aF⟩:=fr
  refine⟨cd,ty,bR,aF,bS,⟨trivial,Zj _,ck⟩,ck,λi x af=> ?_⟩
  rw[lE]at af
  have bc:=am x (Zh af)
  exact⟨by rw[bc.1 J (λ_=>default)];exact cM i x af,bc.2 aa⟩
section
variable{P:Program}{w:World}
def ara{nm:List (String×Nat)}(gy:yJ P nm){laid:List (String×DataW Unit)}{g4:Nat->List y->Option y}(a:laidMet P laid w){aY:Nat}{os:List (Nat×ak)}(aB:gU P nm laid P.globals.size=(aY,os)){v0:Value}{kG:Nat}{fb:List y}(bi:Eu w v0 kG fb):
 ∃J aa a0,c9 ⟨P,wo fb (nj os .nil) aY,aY+1,g4,P.globals.size⟩ J aa .nil (aY+1) w.heap.size w/\rN ⟨P,wo fb (nj os .nil) aY,aY+1,g4,P.globals.size⟩ J aa/\ea aa [a0]/\bO J [a0]=[v0]/\
  aeZ ⟨P,wo fb (nj os .nil) aY,aY+1,g4,P.globals.size⟩ a0 aY kG fb:=by
 obtain⟨a0,yf,d9,eC,t0,kC⟩:=bi.pl aY
 obtain⟨da,dY,_,lz⟩:=a
 have cf:rM w da:=λb off al=>(lz b off al).1
 obtain⟨a7,b2,f,a3⟩:=acb (C:=⟨P,wo fb (nj os .nil) aY,aY+1,g4,P.globals.size⟩) gy laid P.globals.size da rfl dY cf (λb off al=>(lz b off al).2)
 rw[aB]at a7 b2 a3
 simp only at a7 b2 a3
 have c2:∀b W,Z ⟨P,wo fb (nj os .nil) aY,aY+1,g4,P.globals.size⟩ .nil b=some W->((b,W)∈os/\b<aY)\/(b=aY/\0<fb.length/\W= .cells (M.ofList fb 0 .nil) fb.length .j1):=by
  intro b W bd
  unfold Z at bd
  rw[eQ]at bd
  split at bd
  ·rename_i al
   have al:=j4 al
   unfold wo at bd
   split at bd
   ·rename_i ay
    rw[M.j7]at bd
    split at bd
    ·rename_i D;cases bd;exact .inr ⟨D.symm▸rfl,ay,rfl⟩
    ·rcases Ti b W os .nil bd with ai|ai
     ·exact .inl ⟨ai,by have cH:b<P.globals.size\/b<aY:=(b2 (b,W) ai).2.1;have:P.globals.size<=aY:=a7;omega⟩
     ·simp at ai
   ·rcases Ti b W os .nil bd with ai|ai
    ·exact .inl ⟨ai,by have cH:b<P.globals.size\/b<aY:=(b2 (b,W) ai).2.1;have:P.globals.size<=aY:=a7;omega⟩
    ·simp at ai
  ·simp at bd
 refine⟨λb=>if b<P.globals.size then⟨b,0,0⟩else if b=aY then yf else f b,λb=>b<aY+1,a0,⟨Zj _,λ_ a=>a,λb W bd=> ?_, ?_, ?_, ?_, ?_⟩, ?_, ?_, ?_, ?_⟩
 ·rcases c2 b W bd with a|a
  ·omega
  ·omega
 ·intro b W bd _
  rcases c2 b W bd with a|⟨rfl,ay,rfl⟩
  ·exact a3 (λb=>if b<P.globals.size then⟨b,0,0⟩else if b=aY then yf else f b) (λb=>b<aY+1) (λb H K=>⟨by rw[Zg Zo,Zg Zo],Zo⟩) (λg bw=>⟨by rw[Zu bw],by have:P.globals.size<=aY:=a7;omega⟩) (b,W) a.1
  ·show j3 _ _ _ _ (if b<P.globals.size then(⟨b,0,0⟩:mz)else if b=b then yf else f b) w
   rw[Zg (by have:P.globals.size<=b:=a7;omega),Zu rfl]
   exact kC ay _ _ _
 ·intro b cQ W o' _ _ d _ _ al
  exact absurd d (zz.2 al)
 ·intro b W al _ d
  exact absurd d (zz.2 al)
 ·intro b W bd _
  rcases c2 b W bd with a|⟨rfl,ay,rfl⟩
  ·exact(b2 (b,W) a.1).2.2 _ _
  ·refine⟨λc n k aB=>(by cases aB),λc n st aA i v bu=> ?_⟩
   cases aA
   rw[lE]at bu
   exact(Zb.1 bu).1
 ·intro g bw
  have bw:g<P.globals.size:=bw
  exact⟨Zo,by simp[bw],by simp[bw]⟩
 ·exact⟨eC _ Zo,trivial⟩
 ·simp only[bO]
  rw[d9 _ (by rw[Zg Zo,Zu rfl])]
 ·rcases t0 with a|⟨len,cap,cF,cH,d7⟩
  ·exact .inl a
  ·refine .inr ⟨len,cap,cF,cH,d7,λa=> ?_⟩
   unfold Z wo
   have:Nat.blt aY (aY+1)=true:=by simp[Nat.blt]
   rw[this,eW,Zu a,M.j7,Zu rfl]
end
end
end Go.bs

namespace Go.Proofs.YtbbkkkpgjaopkaaGreatDoor
open Go.bs Go.aQ
noncomputable section
def nm:List (String×Nat):=[((Tryz.prog.typeName? 3 176).getD "",176)]
def ao:Nat×List (Nat×ak):=gU Tryz.prog nm Rows.scopeSpoilsRow.laid Tryz.prog.globals.size
def Gb:ao.1=21:=Zk
def fk:M ak:=nj ao.2 .nil
def amr:fk.get 1=zI [.str [45,62], .str [60,60], .str [62,62], .str [60,61], .str [62,61], .str [60,62], .str [40], .str [41], .str [44], .str [59], .str [58], .str [61], .str [60], .str [62], .str [43], .str [45], .str [42]] 17:=Zk
def Fb:fk.get 3=zI [.slice 13 0 18 18] 1:=Zk
def us:fk.get 2=zI [.map 15] 1:=Zk
def LD:fk.get 4=zI [.map 14] 1:=Zk
def HV:fk.get 5=zI [.iface 176 (.ptr 12 0)] 1:=Zk
def vN:fk.get 6=zI [.iface 176 (.ptr 11 0)] 1:=Zk
def xu:fk.get 7=zI [.slice 16 0 2 2, .slice 17 0 1 1, .slice 18 0 6 6, .slice 19 0 2 2, .slice 20 0 1 1] 5:=Zk
def ams:fk.get 13=zI [.str [110,111,100,101], .str [114,101,116,117,114,110,115], .str [118,97,114], .str [108,101,116], .str [116,101,108], .str [119,104,101,110], .str [110,111,116], .str [111,114], .str [120,111,114], .str [97,110,100], .str [112,114,101], .str [102,98,121], .str [105,102], .str [116,104,101,110], .str [101,108,115,101], .str [109,101,114,103,101], .str [116,114,117,101], .str [102,97,108,115,101]] 18:=Zk
def amu:fk.get 15=some (.look [(.str [97,110,100], .bool true),(.str [101,108,115,101], .bool true),(.str [102,97,108,115,101], .bool true),(.str [102,98,121], .bool true),(.str [105,102], .bool true),(.str [108,101,116], .bool true),(.str [109,101,114,103,101], .bool true),(.str [110,111,100,101], .bool true),(.str [110,111,116], .bool true),(.str [111,114], .bool true),(.str [112,114,101], .bool true),(.str [114,101,116,117,114,110,115], .bool true),(.str [116,101,108], .bool true),(.str [116,104,101,110], .bool true),(.str [116,114,117,101], .bool true),(.str [118,97,114], .bool true),(.str [119,104,101,110], .bool true),(.str [120,111,114], .bool true)]):=Zk
structure rX(X:cl):Prop where
 aY:X.aY=22
 get:∀b,b<21->X.G.get b=fk.get b
section
variable{X:cl}{h:M ak}
def rX.Z(a:rX X){b:Nat}(al:b<21):Z X h b=fk.get b:=by
 have D:Nat.blt b (o X).aY=true:=by
  show Nat.blt b X.aY=true
  rw[a.aY];simp[Nat.blt];omega
 unfold Go.bs.Z
 rw[D,eW]
 exact a.get b al
def rX.nc(a:rX X){b n:Nat}(al:b<21){c:M y}{st:oE}(bw:fk.get b=some (.cells c n st))(W:Nat):aV X h (.ptr b W)=c.get W:=bU (by rw[a.Z al];exact bw) W
def alQ(a:rX X):kl X:=⟨⟨12,λh=>by rw[a.nc Zd HV];rfl⟩,⟨11,λh=>by rw[a.nc Zd vN];rfl⟩⟩
def alW(a:rX X):Oy X:=⟨λh=>by
 rw[Sr,a.Z Zd,amr]
 rfl⟩
def arN(w:ba):∀L:List (ba×y),(L.map Prod.fst).Nodup->pf X h 9 (.str w) (L.map λD=>(y.str D.1,D.2))=some ((L.find? λD=>decide (D.1=w)).map Prod.snd):=by
 intro L
 induction L with
 |nil=>intro _;rfl
 |cons D L aj=>
  intro aI
  rw[ZJ,zd]at aI
  simp only[ZJ,pf,aj aI.2,Xa,DT,zr]
  by_cases a:D.1=w
  ·have co:w=D.1:=a.symm
   have Rt:L.find? (λD=>decide (D.1=w))=none:=by
    rw[zv]
    intro x af bG
    have:x.1=w:=by simpa using bG
    exact aI.1 (by rw[a, <-this];exact List.mem_map_of_mem af)
   simp[a,Rt]
  ·have co:¬w=D.1:=λai=>a ai.symm
   simp[a,co]
noncomputable def sI:List ba:=[[97,110,100],[101,108,115,101],[102,97,108,115,101],[102,98,121],[105,102],[108,101,116],[109,101,114,103,101],[110,111,100,101],[110,111,116],[111,114],[112,114,101],[114,101,116,117,114,110,115],[116,101,108],[116,104,101,110],[116,114,117,101],[118,97,114],[119,104,101,110],[120,111,114]]
def adQ(s:ba):s∈sI↔s∈tS:=by
 constructor
 ·intro a
  have:∀w∈sI,w∈tS:=by decide
  exact this s a
 ·intro a
  have:∀w∈tS,w∈sI:=by decide
  exact this s a
def atZ:((sI.map λs=>(s,y.bool true)).map λD:ba×y=>(y.str D.1,D.2))=[(.str [97,110,100], .bool true),(.str [101,108,115,101], .bool true),(.str [102,97,108,115,101], .bool true),(.str [102,98,121], .bool true),(.str [105,102], .bool true),(.str [108,101,116], .bool true),(.str [109,101,114,103,101], .bool true),(.str [110,111,100,101], .bool true),(.str [110,111,116], .bool true),(.str [111,114], .bool true),(.str [112,114,101], .bool true),(.str [114,101,116,117,114,110,115], .bool true),(.str [116,101,108], .bool true),(.str [116,104,101,110], .bool true),(.str [116,114,117,101], .bool true),(.str [118,97,114], .bool true),(.str [119,104,101,110], .bool true),(.str [120,111,114], .bool true)]:=rfl
def alU(a:rX X):Kq X:=⟨.map 15,λh=>⟨by rw[a.nc Zd us];rfl,λs=>by
 have bB:Z X h 15=_:=(a.Z Zd).trans amu
 rw[<-atZ]at bB
 have uM:((sI.map λs=>(s,y.bool true)).map Prod.fst).Nodup:=by decide
 simp only[nd,bB,Nj,eW,arN s _ uM]
 have bW:((sI.map λs=>(s,y.bool true)).find? λD=>decide (D.1=s)).map Prod.snd=if s∈sI then some (y.bool true)else none:=by
  by_cases aE:s∈sI
  ·rw[Zu aE]
   generalize sI=L at aE
   induction L with
   |nil=>cases aE
   |cons E L aj=>
    rw[ZJ,zr]
    by_cases aD:E=s
    ·simp[aD]
    ·simp only[aD,Yq]
     exact aj ((Zr.1 aE).resolve_left (λD=>aD D.symm))
  ·rw[Zg aE]
   have:(sI.map λs=>(s,y.bool true)).find? (λD=>decide (D.1=s))=none:=by
    rw[zv]
    intro x af bG
    obtain⟨e,B,rfl⟩:=ZC.1 af
    have:e=s:=by simpa using bG
    exact aE (this▸B)
   rw[this];rfl
 rw[bW]
 have:decide (s∈tS)=decide (s∈sI):=by
  by_cases aE:s∈sI
  ·simp[aE,(adQ s).1 aE]
  ·have:¬s∈tS:=λai=>aE ((adQ s).2 ai)
   simp[aE,this]
 rw[this]
 by_cases aE:s∈sI
 ·simp[aE,Ga]
 ·simp[aE,Ga]⟩⟩
def Gs{P:Nat->Prop}{b q aN n:Nat}{aK:List (List y)}{st:oE}(a:rX X)(al:b<21)(bw:fk.get b=some (.cells (M.ofList aK.flatten 0 .nil) n st))(aI:n=q*aN)(aG:aK.length=q)(V:∀r∈aK,r.length=aN)(bc:q<=300000)(bI:P b):et X h P b (.slice b 0 q q) aN aK:=
 JI (st:=st) (by rw[a.Z al,bw,aI]) aG V bc bI
def alT(a:rX X):km X:=⟨by rw[a.aY];decide,λh=>⟨13, .slice 13 0 18 18,by rw[a.nc Zd Fb];rfl,Gs a Zd ams rfl rfl Zd Zd (by rw[a.aY];decide)⟩⟩
def amw:fk.get 16=zI ((ar 0).map λW=>[y.str W.1, .int .i64 W.2]).flatten 4:=Zk
def amx:fk.get 17=zI ((ar 1).map λW=>[y.str W.1, .int .i64 W.2]).flatten 2:=Zk
def amy:fk.get 18=zI ((ar 2).map λW=>[y.str W.1, .int .i64 W.2]).flatten 12:=Zk
def amz:fk.get 19=zI ((ar 3).map λW=>[y.str W.1, .int .i64 W.2]).flatten 4:=Zk
def amA:fk.get 20=zI ((ar 4).map λW=>[y.str W.1, .int .i64 W.2]).flatten 2:=Zk
def J7(q:Nat):∀r∈(ar q).map λW=>[y.str W.1, .int .i64 W.2],r.length=2:=by
 intro r V
 obtain⟨W,_,rfl⟩:=ZC.1 V
 rfl
set_option maxRecDepth 20000 in
def alS(a:rX X):mY X:=⟨by rw[a.aY];decide,λh q aG=>by
 have bI:∀b,b<21->b<X.aY:=λb al=>by rw[a.aY];omega
 match q,aG with
 |0,_=>exact⟨16, .slice 16 0 2 2,by rw[a.nc Zd xu];rfl,Gs (P:=λe=>e<X.aY) (b:=16) (aK:=(ar 0).map λW=>[y.str W.1, .int .i64 W.2]) a Zd amw rfl rfl (J7 0) Zd (bI 16 Zd)⟩
 |1,_=>exact⟨17, .slice 17 0 1 1,by rw[a.nc Zd xu];rfl,Gs (P:=λe=>e<X.aY) (b:=17) (aK:=(ar 1).map λW=>[y.str W.1, .int .i64 W.2]) a Zd amx rfl rfl (J7 1) Zd (bI 17 Zd)⟩
 |2,_=>exact⟨18, .slice 18 0 6 6,by rw[a.nc Zd xu];rfl,Gs (P:=λe=>e<X.aY) (b:=18) (aK:=(ar 2).map λW=>[y.str W.1, .int .i64 W.2]) a Zd amy rfl rfl (J7 2) Zd (bI 18 Zd)⟩
 |3,_=>exact⟨19, .slice 19 0 2 2,by rw[a.nc Zd xu];rfl,Gs (P:=λe=>e<X.aY) (b:=19) (aK:=(ar 3).map λW=>[y.str W.1, .int .i64 W.2]) a Zd amz rfl rfl (J7 3) Zd (bI 19 Zd)⟩
 |4,_=>exact⟨20, .slice 20 0 1 1,by rw[a.nc Zd xu];rfl,Gs (P:=λe=>e<X.aY) (b:=20) (aK:=(ar 4).map λW=>[y.str W.1, .int .i64 W.2]) a Zd amA rfl rfl (J7 4) Zd (bI 20 Zd)⟩⟩
def akJ(E b:Int):nu X h 20 3 (.int .i64 E) (.int .i64 b)=some (wc E b):=Zk
def asR(E:Int):nw X 20 3 (.int .i64 E)=true:=Zk
def arM(w:Int):∀L:List (Int×y),(L.map Prod.fst).Nodup->pf X h 3 (.int .i64 w) (L.map λD=>(y.int .i64 D.1,D.2))=some ((L.find? λD=>decide (D.1=w)).map Prod.snd):=by
 intro L
 induction L with
 |nil=>intro _;rfl
 |cons D L aj=>
  intro aI
  rw[ZJ,zd]at aI
  simp only[ZJ,pf,aj aI.2,akJ,FX,zr]
  by_cases a:D.1=w
  ·have Rt:L.find? (λD=>decide (D.1=w))=none:=by
    rw[zv]
    intro x af bG
    have:x.1=w:=by simpa using bG
    exact aI.1 (by rw[a, <-this];exact List.mem_map_of_mem af)
   simp[a,Rt]
  ·have co:¬w=D.1:=λai=>a ai.symm
   simp[a,co]
noncomputable def Gz:List (Int×(Int×Bool×Bool×Bool)):=[1,2,3,4,5,6,19,20,23,24,25,26].map λq:Int=>(q,(tW q).getD (0,false,false,false))
def amt:fk.get 14=some (.look ((Gz.map λD=>(D.1,y.agg (p4 D.2))).map λD=>(y.int .i64 D.1,D.2))):=Zk
def auK(q:Int):(Gz.find? λD=>decide (D.1=q)).map Prod.snd=tW q:=by
 by_cases aG:q=1\/q=2\/q=3\/q=4\/q=5\/q=6\/q=19\/q=20\/q=23\/q=24\/q=25\/q=26
 ·rcases aG with rfl|rfl|rfl|rfl|rfl|rfl|rfl|rfl|rfl|rfl|rfl|rfl<;>decide
 ·have H:tW q=none:=by
   unfold tW
   rw[Zg Zo,Zg Zo,Zg Zo,Zg Zo,Zg Zo,Zg Zo,Zg Zo,Zg Zo,Zg Zo]
  rw[H]
  have:Gz.find? (λD=>decide (D.1=q))=none:=by
   rw[zv]
   intro x af bG
   have AP:x.1=q:=by simpa using bG
   obtain⟨e,B,rfl⟩:=ZC.1 af
   simp only at AP
   subst AP
   simp only[Zr,ZN,Yw]at B
   exact aG B
  rw[this];rfl
def alV(a:rX X):mb X:=⟨λh=>⟨.map 14,by rw[a.nc Zd LD];rfl,λq=>by
 have bB:Z X h 14=_:=(a.Z Zd).trans amt
 have uM:((Gz.map λD=>(D.1,y.agg (p4 D.2))).map Prod.fst).Nodup:=by decide
 simp only[nd,bB,asR,eW,arM q _ uM]
 have bW:((Gz.map λD=>(D.1,y.agg (p4 D.2))).find? λD=>decide (D.1=q)).map Prod.snd=(tW q).map λs=>y.agg (p4 s):=by
  rw[<-auK q,List.find?_map]
  have:((λD:Int×y=>decide (D.1=q))∘λD:Int×(Int×Bool×Bool×Bool)=>(D.1,y.agg (p4 D.2)))=λD=>decide (D.1=q):=rfl
  rw[this]
  cases Gz.find? (λD=>decide (D.1=q))<;>rfl
 rw[bW]
 cases tW q with
 |none=>rfl
 |some s=>rfl⟩⟩
def alX(a:rX X):qa X:=⟨alQ a,alU a,alW a⟩
end
end
end Go.Proofs.YtbbkkkpgjaopkaaGreatDoor

