/- Part of the proof of the last text; no conditions -/
import Derived.Test.YtbbkkkpgjaopkaaGreatDoorYy
set_option maxHeartbeats 8000000
set_option linter.all false
namespace Go.Proofs.YtbbkkkpgjaopkaaGreatDoor
open Go.bs Go.aQ
noncomputable section
section
variable{X:cl}{h R aX aP:M ak}{j au aM be:Nat}{P:Nat->Prop}
variable{an:List Go.aQ.Node}{ai cn:Nat}{ah:Nat->Nat}{a2:y}{aK:List (List y)}{Y q:Nat}{g:Go.aQ.Node}
def m0(X:cl)(h:M ak)(b:Nat)(nm:ba)(E:Int)(cO dF:y):Prop:=∃c,Z X h b=some (.cells c 6 .own)/\qQ c [.str nm, .int .i64 E, .aW,cO, .aW,dF]
section
variable{b:Nat}{nm:ba}{E:Int}{cO dF v:y}
def m0.ad(a:m0 X h b nm E cO dF)(q:Z X R b=Z X h b):m0 X R b nm E cO dF:=by unfold m0;rw[q];exact a
def m0.Ji(a:m0 X h b nm E cO dF):aV X h (.ptr b 3)=some cO:=by obtain⟨c,H,K⟩:=a;rw[bU H,K];rfl
def m0.arm(a:m0 X h b nm E cO dF):aV X h (.ptr b 5)=some dF:=by obtain⟨c,H,K⟩:=a;rw[bU H,K];rfl
def m0.wg(a:m0 X h b nm E cO dF):dT X h 6 (.ptr b 0)=some (.agg [.str nm, .int .i64 E, .aW,cO, .aW,dF]):=by
 obtain⟨c,H,K⟩:=a
 have:c.ks 0 6=some [.str nm, .int .i64 E, .aW,cO, .aW,dF]:=by rw[xr K 6 0 Zs];rfl
 simp only[dT,cellsOf,H,this]
def m0.au3(a:m0 X h b nm E cO dF)(al:(o X).aY<=b)(H:v.cells=[v])(K:l3 v=true):∃R,es X h 1 (.ptr b 5) v=some R/\m0 X R b nm E cO v/\∀e,e≠b->Z X R e=Z X h e:=by
 obtain⟨c,am,aC⟩:=a
 exact⟨_,nO am al Zo H K,⟨_,bn al,aC.BN (W:=5) Zs v⟩,λe B=>aL al B⟩
def m0.au2(a:m0 X h b nm E cO dF)(al:(o X).aY<=b)(H:v.cells=[v])(K:l3 v=true):∃R,es X h 1 (.ptr b 3) v=some R/\m0 X R b nm E v dF/\∀e,e≠b->Z X R e=Z X h e:=by
 obtain⟨c,am,aC⟩:=a
 exact⟨_,nO am al Zo H K,⟨_,bn al,aC.BN (W:=3) Zs v⟩,λe B=>aL al B⟩
end
set_option maxRecDepth 100000 in
def aiH(az:dW X)(aI:(o X).aY<=j)(d:qS X h P an ai ah cn a2 aK)(bI:∀e,P e->(o X).aY<=e/\e<j)(bw:an[an.length-1]? =some g){SG rj:y}{dh:Nat}{nm:ba}(uL:dh<j)(gy:aV X h (.ptr dh 0)=some (.str nm))(bc:an.length<=64)(bd:g.out≠[])(pQ:g.out.length<=256):
 a1 X 16 [.ptr ai 0,SG,rj, .ptr dh 0] h j (yQ X h P (l2 g nm::an) ai j) (λ_ _ _=>False):=by
 refine zL az (afY X) ?_
 rw[afZ]
 unfold Uw
 have gp:=d.hj.wide
 have vX:=(Zb.1 bw).1
 obtain⟨row,Q,d2,e0,hh,_⟩:=d.hj.No (an.length-1) g bw
 have oY:=hh.row.iI
 obtain⟨qM,cW,cO,tV,dF,b4,cr,cS,fh,vD,rfl,jA,iD,jB,hq,o0⟩:=hh
 have er:=d.iK.rd.len
 rw[gp.1]at er
 have o4:bg .sub (.int .i64 (an.length:Int)) (.int .i64 1)=some (.int .i64 ((an.length-1:Nat):Int)):=by rw[xY Zo Zo];congr 2;omega
 have di:=d.iK.rd.g2 (an.length-1) (by rw[gp.1];exact vX)
 have kP:=d.iK.rd.row Zd d2
 have mF:=d.nc
 have mG:=iD.rd.len
 rw[Zp]at mG
 obtain⟨gO,kf,sz⟩:=iG iD.rd.len
 obtain⟨ri,jr,_⟩:=iG jA.rd.len
 obtain⟨dv,cD,_⟩:=iG jB.rd.len
 obtain⟨bB,cp,_⟩:=iG hq.rd.len
 refine g0 @mF @er @o4 @di @kP ⟨?_⟩
 refine gi (jJ (q:=6) (b:=j+12) (W:=0) (n:=6) (c:=M.ofList [.str [], .int .i64 0, .aW, .aW, .aW, .aW] 0 .nil) (bn Zo) Zo rfl Zd Zd oY) ?_
 refine ce @gy ⟨?_⟩
 generalize fE:bl X _ (j+12) _=bf
 have cM:∀e,e≠j+12->Z X bf e=Z X h e:=λe B=>by rw[<-fE];exact zK
 have cR:m0 X bf (j+12) nm g.at_ cO .aW:=by
  refine⟨_,by rw[<-fE,bn Zo], ?_⟩
  have gq:qQ (d3 (M.ofList [.str [], .int .i64 0, .aW, .aW, .aW, .aW] 0 .nil) 0 [.str g.name, .int .i64 g.at_,cW,cO,tV,dF]) [.str g.name, .int .i64 g.at_,cW,cO,tV,dF]:=λi=>by
   rw[N5,M.HS]
   by_cases aF:i<6
   ·rw[Zu ⟨Zo,by simpa using aF⟩];rfl
   ·rw[Zg (λa=>aF (by simpa using a.2)),lE,ZW Zx,ZW Zx]
  exact(((gq.BN (W:=0) Zs (.str nm)).BN (W:=5) Zs .aW).BN (W:=2) Zs .aW).BN (W:=4) Zs .aW
 clear fE
 have ec:=cR.Ji
 refine dq @ec @mG ⟨?_⟩
 have abT:∀e,e<j->Z X bf e=Z X h e:=λe B=>cM e Zo
 have Ay:∀e,Q e->e<j:=λe B=>(bI e (e0 e B).1).2
 have apE:=S2 iD Zd
 rw[Zp]at apE
 have aoZ:=ZH.2 bd
 refine gK (λm I R aS=>∃(i:Nat) (dF:y) (l5:List (List y)) (cy:List Nat),I.g 0=some (.ptr ai 0)/\I.g 7=some (.ptr (j+12) 0)/\I.g 29=some cO/\I.g 30=some (.int .i64 (g.out.length:Int))/\I.g 31=some (.int .i64 (i:Int))/\i+m=g.out.length/\j+14<=aS/\m0 X R (j+12) nm g.at_ cO dF/\ib X R dF 4 l5.flatten cy/\(∀e∈cy,j+14<=e/\e<aS)/\ma X R (p3 (j+14) aS cy) ((g.out.take i).map sC) l5/\∀e,e<j->Z X R e=Z X h e)
  g.out.length ⟨0, .aW,[],[],bF,bF,bF,bF,ho,Zo,Zo,cR, .inl ⟨rfl,rfl,rfl⟩,Zs,rfl,abT⟩ ?_
 clear cR ec cM abT
 rintro m I bT b3 ⟨i,wx,l5,cy,t0,fx,yp,wE,TC,AE,axM,ep,pS,mh,Mk,eL⟩
 cases m with
 |zero=>
  have kq:=zF i g.out.length
  rw[ZQ Zo]at Mk
  have ec:=ep.Ji
  refine g0 @TC @wE @kq @fx @ec ⟨?_⟩
  have RZ:hI X bT 8 cO=some (g.out.length,(g.out.map dy).flatten):=by
   have:=S2 (iD.ad (R:=bT) λe B=>eL e (Ay e B.1)) Zd
   rwa[Zp]at this
  have RW:∀r∈g.out.map dy,r.length=8:=λr V=>by obtain⟨aR,_,rfl⟩:=ZC.1 V;rfl
  refine kh (Wb RZ aoZ Zo) ?_
  generalize iS:bl X bT b3 _=bZ
  have IQ:ib X bZ (.ej b3 0 g.out.length 8) 8 (g.out.map dy).flatten [b3]:= .inr ⟨b3,[],g.out.length,_,rfl,by rw[mf RW,Zp],rfl,Zx,Zs,by rw[<-iS,bn Zo,mf RW,Zp],lk _⟩
  have eM:∀e,e≠b3->Z X bZ e=Z X bT e:=λe B=>by rw[<-iS,aL Zo B]
  clear iS
  obtain⟨oI,Dp⟩:=(gu.JJ (.inl IQ) Zd RW (by rw[Zp];omega) (ek:=λe=>e=b3) Zs)
  obtain⟨b9,apK,dU,dS⟩:=(ep.ad (R:=bZ) (eM _ Zo)).au2 (v:= .ej b3 0 g.out.length 8) Zo rfl rfl
  have aqZ:=dU.Ji
  refine g6 @fx @apK @aqZ @tF ⟨?_⟩
  have aba:ma X b9 (p3 (j+14) b3 cy) (g.out.map sC) l5:=Mk.ad (λe B=>by rw[dS e (zE B.1),eM e (zE B.2.1)]) (λ_ a=>a)
  have pT:ib X b9 wx 4 l5.flatten cy:=pS.ad λe B=>by have:=mh e B;rw[dS e Zo,eM e Zo]
  have mI:=Dp.ad (R:=b9) λe B=>dS e Zo
  have aqT:∀e,e<j->Z X b9 e=Z X h e:=λe B=>by rw[dS e Zo,eM e Zo,eL e B]
  refine gK (λm I R aS=>∃(i:Nat),I.g 0=some (.ptr ai 0)/\I.g 7=some (.ptr (j+12) 0)/\I.g 55=some (.int .i64 (g.out.length:Int))/\I.g 56=some (.int .i64 (i:Int))/\i+m=g.out.length/\b3+1<=aS/\m0 X R (j+12) nm g.at_ (.ej b3 0 g.out.length 8) wx/\hd X R (λe=>e=b3) oI (.ej b3 0 g.out.length 8) 8 ((g.out.take i).map (λd=>dy (sB d))++(g.out.drop i).map dy)/\∀e,e<b3->Z X R e=Z X b9 e)
   g.out.length ⟨0,bz t0,bz fx,bF,ho,Zo,Zo,dU,by simpa using mI,λ_ _=>rfl⟩ ?_
  rintro m I cm en ⟨i,t0,fx,nq,mU,AE,aoN,eu,FK,e1⟩
  cases m with
  |zero=>
   have kq:=zF i g.out.length
   rw[ZQ Zo,ZR Zo,List.map_nil,Yn]at FK
   have Se:∀e,e<j->Z X cm e=Z X h e:=λe B=>by rw[e1 e Zo,aqT e B]
   have DK:=eu.wg
   have BI:aV X cm (.ptr ai 0)=some a2:=zP (Se ai (bI ai d.al.1).2) mF
   have ax0:=(bI ai d.al.1).2
   obtain⟨oM,Ac,_⟩:=ib.one pT
   refine kr @mU @nq @kq @t0 @fx @DK ⟨?_⟩
   generalize qo:bl X cm (en+2) _=dk
   have hf:Z X dk (en+2)=zI [.str nm, .int .i64 g.at_, .aW, .ej b3 0 g.out.length 8, .aW,wx] 6:=by rw[<-qo,bn Zo]
   have fS:∀e,e≠en+2->Z X dk e=Z X cm e:=λe B=>by rw[<-qo,aL Zo B]
   clear qo
   have S0:aV X dk (.ptr ai 0)=some a2:=zP (fS ai Zo) BI
   refine ce @S0 ⟨?_⟩
   have ap7:hI X dk 6 a2=some (aK.length,aK.flatten):=S2 (d.iK.ad (R:=dk) λe B=>by have:=bI e B.1;rw[fS e Zo,Se e this.2]) Zd
   have uQ:0<aK.length:=by rw[gp.1];omega
   have sq:[y.str nm, .int .i64 g.at_, .aW, .ej b3 0 g.out.length 8, .aW,wx].length=1*6:=rfl
   refine kh (Wa (k:=[.str nm, .int .i64 g.at_, .aW, .ej b3 0 g.out.length 8, .aW,wx]) Zd ap7 uQ (by rw[gp.1];omega) hf (lk _) sq) ?_
   generalize tk:bl X dk (en+11) _=d8
   have abu:∀r∈[y.str nm, .int .i64 g.at_, .aW, .ej b3 0 g.out.length 8, .aW,wx]::aK,r.length=6:=λr V=>by
    rcases Zr.1 V with rfl|V
    ·rfl
    ·exact gp.2 r V
   have Q5:=mf abu
   rw[ZL,Zz]at Q5
   have Mp:ib X d8 (.ej (en+11) 0 (1+aK.length) 6) 6 ([y.str nm, .int .i64 g.at_, .aW, .ej b3 0 g.out.length 8, .aW,wx]::aK).flatten [en+11]:=
    .inr ⟨en+11,[],1+aK.length,_,rfl,by rw[ZL,Q5,zn],rfl,Zx,Zs,by rw[<-tk,bn Zo,Q5,zn 1],by rw[ZL];exact lk _⟩
   have gJ:∀e,e≠en+11->Z X d8 e=Z X dk e:=λe B=>by rw[<-tk,aL Zo B]
   clear tk
   have Sf:∀e,e<en+2->Z X d8 e=Z X cm e:=λe B=>by rw[gJ e Zo,fS e Zo]
   have ab3:∀e,e<b3->Z X d8 e=Z X b9 e:=λe B=>by rw[Sf e Zo,e1 e B]
   have ab5:∀e,e<j->Z X d8 e=Z X h e:=λe B=>by rw[Sf e Zo,Se e B]
   obtain⟨Wl,apj⟩:=Mp.wv Zd abu (by rw[Zz,gp.1];omega) (P:=λe=>(P e/\ah e=2)\/ei j (en+11+1) e) (λe B=> .inr (by simp at B;exact⟨Zo,Zo⟩))
   have DA:=aba.wide
   obtain⟨O3,IM⟩:=(pT.ad (R:=d8) λe B=>ab3 e (mh e B).2).wv Zd DA.2 (by rw[DA.1,Zp];omega) (P:=λe=>(P e/\ah e=0)\/ei j (en+11+1) e) (λe B=> .inr (by have:=mh e B;exact⟨Zo,Zo⟩))
   have am2:lr X d8 (λe=>(P e/\ah e=0)\/ei j (en+11+1) e) (l2 g nm) [.str nm, .int .i64 g.at_, .aW, .ej b3 0 g.out.length 8, .aW,wx]:=by
    refine⟨.aW, .ej b3 0 g.out.length 8, .aW,wx,0,oI,0,O3,l5,rfl,et.nil _ _, ?_,et.nil _ _,IM,aba.ad (λe B=>ab3 e B.2.1) (λe B=> .inr ⟨zE B.1,zE B.2.1⟩)⟩
    have a:=(FK.rd.ad (R:=d8) λe B=>Sf e Zo).lift (Q:=λe=>(P e/\ah e=0)\/ei j (en+11+1) e) λe B=> .inr ⟨Zo,Zo⟩
    have D:(l2 g nm).out.map dy=g.out.map (λd=>dy (sB d)):=by simp[l2,Function.comp_def]
    rw[D];exact a
   obtain⟨ue,cI,nG⟩:=adC d bI (aM:=en+11+1) Zo (λe B _=>ab5 e B) apj (dH:=l2 g nm::an) ⟨_,aK,rfl,am2,d.hj.nodes.ad (λe B=>ab5 e (bI e B.1).2) (λ_ a=> .inl a)⟩
   refine ce @cI ⟨?_⟩
   exact nG
  |succ m=>
   have cB:=zG i g.out.length
   have a7:bg .add (.int .i64 (i:Int)) (.int .i64 1)=some (.int .i64 ((i+1:Nat):Int)):=by rw[eK Zo Zo];rfl
   obtain⟨aR,aH⟩:=zH g.out i
   have cJ:((g.out.take i).map (λd=>dy (sB d))).length=i:=by rw[Zp,YF];omega
   have abd:((g.out.take i).map (λd=>dy (sB d))++(g.out.drop i).map dy)[i]? =some (dy aR):=by
    rw[ZF Zo,cJ,zl,Zy,YC,Z5,aH];rfl
   have jC:=(Zb.1 abd).1
   have aoj:=FK.rd.g2 i jC
   obtain⟨dk,xS,RI,fS⟩:=FK.store abd (Y:=5) (v:= .str []) Zd rfl rfl
   have apu:(((g.out.take i).map (λd=>dy (sB d))++(g.out.drop i).map dy).set i ((dy aR).set 5 (.str [])))[i]? =some ((dy aR).set 5 (.str [])):=by rw[Yx,Zu rfl,Zu jC]
   obtain⟨d8,apL,ob,gJ⟩:=RI.store apu (Y:=7) (v:= .bool false) Zd rfl rfl
   have aq0:=eu.Ji
   have hf:=eu.ad (R:=dk) (fS _ Zo)
   have aq1:=hf.Ji
   have nz:=hf.ad (R:=d8) (gJ _ Zo)
   refine fA @mU @nq @cB @fx @aq0 @aoj (Za @xS @aq1) ⟨?_⟩
   refine j0 (by simp[y.same]) ?_
   refine eP @apL @mU @a7 ⟨?_⟩
   refine⟨m,Zo,i+1,bz t0,bz fx,bz nq,bF,Zo,Zo,nz, ?_,λe B=>by rw[gJ e Zo,fS e Zo,e1 e B]⟩
   have D:(((g.out.take i).map (λd=>dy (sB d))++(g.out.drop i).map dy).set i ((dy aR).set 5 (.str []))).set i (((dy aR).set 5 (.str [])).set 7 (.bool false))=(g.out.take (i+1)).map (λd=>dy (sB d))++(g.out.drop (i+1)).map dy:=by
    rw[List.set_set,List.set_append_right _ _ Zo,cJ,zl]
    obtain⟨af,B⟩:=Zb.1 aH
    rw[ZA af,B,ZJ,Yg,YQ,aH,Yu]
    simp[dy,sB]
   rw[D]at ob
   exact ob
 |succ m=>
  have cB:=zG i g.out.length
  have a7:bg .add (.int .i64 (i:Int)) (.int .i64 1)=some (.int .i64 ((i+1:Nat):Int)):=by rw[eK Zo Zo];rfl
  obtain⟨aR,aH⟩:=zH g.out i
  have aaw:=iD.rd.ad (R:=bT) λe B=>eL e (Ay e B.1)
  have Rf:=aaw.g2 i (by rw[Zp];omega)
  have apw:=aaw.row Zd (i:=i) (r:=dy aR) (by rw[Zy,aH];rfl)
  refine kr @TC @wE @cB @yp @Rf @apw ⟨?_⟩
  generalize iS:bl X _ b3 _=bZ
  have fw:Z X bZ b3=zI (dy aR) 8:=by rw[<-iS,bn Zo];rfl
  have eM:∀e,e≠b3->Z X bZ e=Z X bT e:=λe B=>by rw[<-iS];exact zK
  clear iS
  have fG:=(ep.ad (R:=bZ) (eM _ Zo)).arm
  have DK:aV X bZ (.ptr b3 0)=some (.str aR.name):=by rw[bU fw];rfl
  refine eP @fx @fG @DK ⟨?_⟩
  generalize hX:bl X (bl X (bl X bZ (b3+1) _) (b3+1+1) _) (b3+1+1+1) _=b9
  have alM:Z X b9 (b3+1)=zI [.str aR.name] 1:=by rw[<-hX];simp(disch:=omega) only[aL,bn]
  have alN:Z X b9 (b3+1+1)=zI (gL 2 0 aR.name false dr 0 .aW) 9:=by rw[<-hX];simp(disch:=omega) only[aL,bn];rfl
  have alO:Z X b9 (b3+1+1+1)=zI [.slice (b3+1) 0 1 1, .aW, .int .i64 0, .ptr (b3+1+1) 0] 4:=by rw[<-hX,bn Zo]
  have dS:∀e,e<b3->Z X b9 e=Z X bT e:=λe B=>by rw[<-eM e Zo, <-hX];exact zK
  clear hX
  have h7:hI X b9 4 (.slice (b3+1+1+1) 0 1 1)=some (1,[.slice (b3+1) 0 1 1, .aW, .int .i64 0, .ptr (b3+1+1) 0]):=pp alO (lk _) rfl _
  have DA:=Mk.wide
  have uQ:l5.length=i:=by rw[DA.1,Zp,YF];omega
  obtain⟨fc,cm,hS,ii,wa,qp,pO⟩:=gu.append (.inl (pS.ad (R:=b9) λe B=>dS e (mh e B).2)) (j:=b3+1+1+1+1) Zd h7 rfl Zd rfl (by rw[mf DA.2,uQ];simp;omega) Zo (λe B=>zE (mh e B))
  refine kh ii ?_
  obtain⟨e3,g9,_⟩:=ib.one wa
  have acN:∀e,e<j+14->e∉cy:=λe H K=>zE (mh e K)
  have e1:∀e,e<b3+1+1+1+1->e∉cy->Z X cm e=Z X b9 e:=λe H K=>pO e Zo K
  have eu:m0 X cm (j+12) nm g.at_ cO wx:=ep.ad (by rw[e1 _ Zo (acN _ Zo),dS _ Zo])
  obtain⟨dk,xS,hf,fS⟩:=eu.au3 (v:=fc) Zo e3 g9
  refine g6 @fx @xS @TC @a7 ⟨?_⟩
  refine⟨m,Zo,i+1,fc,l5++[[.slice (b3+1) 0 1 1, .aW, .int .i64 0, .ptr (b3+1+1) 0]],hS,bz t0,bz fx,bz yp,bz wE,bF,Zo,Zo,hf, ?_, ?_, ?_,λe B=> ?_⟩
  ·rw[YI,ZL,List.flatten_nil,Yn]
   exact wa.ad λe B=>fS e (by rcases qp e B with rfl|a;omega;have:=mh e a;omega)
  ·intro e B
   rcases qp e B with rfl|a
   ·omega
   ·have:=mh e a;omega
  ·have Rq:∀e,b3<=e->e<b3+1+1+1+1->e∉hS:=λe H K am=>by
    rcases qp e am with rfl|a
    ·omega
    ·have:=mh e a;omega
   have bB:(g.out.take (i+1)).map sC=(g.out.take i).map sC++[sC aR]:=by rw[YQ,aH,Yu];rfl
   rw[bB]
   have abR:∀e,b3<=e->e<b3+1+1+1+1->Z X dk e=Z X b9 e:=λe H K=>by rw[fS e Zo,e1 e K (λa=>zE (mh e a))]
   have Fy:∀e,p3 (j+14) b3 cy e->Z X dk e=Z X bT e:=λe B=>by
    have H:=B.1
    have K:=B.2.1
    rw[fS e Zo,e1 e Zo B.2.2,dS e K]
   have aoH:∀e,p3 (j+14) b3 cy e->p3 (j+14) (b3+1+1+1+1+1) hS e:=λe B=>by
    have K:=B.2.1
    refine⟨B.1,Zo,λa=> ?_⟩
    rcases qp e a with D|a
    ·omega
    ·exact B.2.2 a
   refine(Mk.ad Fy aoH).NN ?_
   have an7:Z X dk (b3+1)=zI (ip [aR.name]).flatten (1*1):=by rw[abR _ Zo Zo];exact alM
   have aaq:Z X dk (b3+1+1)=zI (gL 2 0 aR.name false dr 0 .aW) 9:=by rw[abR _ Zo Zo];exact alN
   refine⟨.slice (b3+1) 0 1 1, .aW,b3+1,0, .ptr (b3+1+1) 0,rfl,JI an7 rfl (by simp[ip]) Zo ⟨Zo,Zo,Rq _ Zo Zo⟩,⟨et.nil _ _,cG.leaf aaq ⟨⟨Zo,Zo,Rq _ Zo Zo⟩,λa=>absurd rfl a⟩⟩,cG.leaf aaq ⟨Zo,Zo,Rq _ Zo Zo⟩,rfl⟩
  ·rw[fS e Zo,e1 e Zo (acN e Zo),dS e Zo,eL e B]
end
section
variable{X:cl}{h R fg aX aP:M ak}{j au aM be:Nat}
def SE{C:aT}{h:M ak}(x e:Int):r1 C h .min [3,3] [.int .i64 x, .int .i64 e]=some (.int .i64 (min x e)):=by
 show oG false (.int .i64 x) [.int .i64 e]=_
 simp only[oG,eQ,tz]
 congr 2
 simp only[Zi]
 split<;>simp_all<;>omega
def arD:∀{k:List Go.aQ.Node}{q E:Int},pW k=some (q,E)->q=30\/q=22:=by
 intro k
 induction k with
 |nil=>intro q E a;cases a
 |cons g k aj=>
  intro q E a
  unfold pW at a
  split at a
  ·cases a;exact .inl rfl
  ·split at a
   ·cases a;exact .inr rfl
   ·exact aj a
def adk{s:ba}(aE:s.length<=5000){q E:Int}(a:rv s= .error (q,E)):q≠0:=by
 have H:=adj aE
 rw[a]at H
 unfold yh at H
 split at H
 ·cases H
 ·cases H;decide
 ·split at H
  ·cases H
  ·cases H;decide
  ·split at H
   ·rename_i aB
    cases H
    unfold pd at aB
    split at aB
    ·cases aB;decide
    ·rcases arD aB with rfl|rfl<;>decide
   ·cases H
end
section
variable{X:cl}{h R aX aP:M ak}{j au aM be:Nat}{P:Nat->Prop}
variable{an:List Go.aQ.Node}{ai cn:Nat}{ah:Nat->Nat}{a2:y}{aK:List (List y)}{Y q:Nat}{g:Go.aQ.Node}
def Xb(b:Nat):dD X h .eql 23 true (.ptr b 0) .cN=some (.bool false):=Zk
def R4{E b:Nat}(al:0<b)(aD:E<1000000):bg .rem (.int .i64 (E:Int)) (.int .i64 (b:Int))=some (.int .i64 ((E%b:Nat):Int)):=by
 have H:wc (b:Int) 0=false:=by rw[FX];simp;omega
 have am:(E:Int).tmod (b:Int)=((E%b:Nat):Int):=by rw[Int.tmod_eq_emod_of_nonneg Zo];omega
 simp[bg,lu,lA,l1,eQ,H,am,o7]
 omega
def pA(m:Bool)(W:Option ak):Prop:=W=zI [.bool m] 1
def sJ(an:List Go.aQ.Node)(g:Go.aQ.Node):Bool:=decide (an.length<64)&&decide (g.dg.length+g.out.length+g.loc.length<256)
def auh(az:dW X)(aI:(o X).aY<=j)(d:qS X h P an ai ah cn a2 aK)(bw:an[Y]? =some g){rj:y}{gW:Nat}{m:Bool}(pR:(o X).aY<=gW)(V:pA m (Z X h gW))(bc:an.length<=64)(bu:g.dg.length+g.out.length+g.loc.length<=256):
 a1 X 10 [.ptr ai 0, .ptr cn (Y*6),rj, .ptr gW 0] h j (λab R au=>ab= .tuple []/\j<=au/\pA (sJ an g) (Z X R gW)/\∀e,e≠gW->Z X R e=Z X h e) (λ_ _ _=>False):=by
 refine zL az (afm X) ?_
 rw[afn]
 unfold T6
 have gp:=d.hj.wide
 obtain⟨row,d2,hh⟩:=d.hj.nodes.get Y g bw
 obtain⟨cW,cO,tV,dF,b4,cr,cS,fh,vD,rfl,jA,iD,jB,hq,o0⟩:=hh
 have er:=d.iK.rd.len
 rw[gp.1]at er
 have mF:=d.nc
 have dx:aV X h (.ptr cn (Y*6+2))=some cW:=d.iK.rd.cell Y _ 2 _ d2 rfl
 have gD:aV X h (.ptr cn (Y*6+3))=some cO:=d.iK.rd.cell Y _ 3 _ d2 rfl
 have r2:aV X h (.ptr cn (Y*6+4))=some tV:=d.iK.rd.cell Y _ 4 _ d2 rfl
 have dv:=jA.len
 have cD:=iD.len
 have ec:=jB.len
 rw[Zp]at dv cD ec
 have st:∀fI:Bool,∃R,es X h 1 (.ptr gW 0) (.bool fI)=some R/\pA fI (Z X R gW)/\∀e,e≠gW->Z X R e=Z X h e:=λfI=>
  ⟨_,nO (W:=0) V pR Zo rfl rfl,by unfold pA;rw[bn pR];rfl,λe B=>aL pR B⟩
 have a7:bg .add (.int .i64 (g.dg.length:Int)) (.int .i64 (g.out.length:Int))=some (.int .i64 ((g.dg.length+g.out.length:Nat):Int)):=by rw[eK Zo Zo];rfl
 have b2:bg .add (.int .i64 ((g.dg.length+g.out.length:Nat):Int)) (.int .i64 (g.loc.length:Int))=some (.int .i64 ((g.dg.length+g.out.length+g.loc.length:Nat):Int)):=by rw[eK Zo Zo];rfl
 by_cases H:an.length<64
 ·have cB:decide ((an.length:Int)<64)=true:=by simp;omega
  obtain⟨aP,cI,gn,gH⟩:=st (sJ an g)
  have cC:decide (((g.dg.length+g.out.length+g.loc.length:Nat):Int)<256)=sJ an g:=by
   unfold sJ
   simp only[H,Yz,zA]
   exact decide_eq_decide.2 Zo
  refine fA @mF @er @cB @dx @gD @r2 (Za @dv (Za @cD (Za @ec (Za @a7 (Za @b2 (Za @cC @cI)))))) ⟨?_⟩
  exact⟨rfl,Zo,gn,gH⟩
 ·have cB:decide ((an.length:Int)<64)=false:=by simp;omega
  obtain⟨aP,cI,gn,gH⟩:=st false
  have cC:sJ an g=false:=by unfold sJ;simp[H]
  refine g6 @mF @er @cB @cI ⟨?_⟩
  rw[cC]
  exact⟨rfl,Zo,gn,gH⟩
set_option maxRecDepth 100000 in
def arT(az:f5 X)(c2:qa X)(dY:mY X){lU aws:y}{jh:Nat}{kK:y}{s:ba}{de Hi:Int}(aI:(o X).aY<=j)(xQ:aV X h (.ptr jh 0)=some kK)(aE:s.length<=5000)(al:∀c∈s,c<256)(aB:fM kK=some (.int .i64 (s.length:Int)))(pL:∀R aS,bp X h j R aS->s9 X R kK=some (.str s))
 (nE:rv s= .error (de,Hi)):
 a1 X 9 [lU, .ptr jh 0,aws] h j (λab R au=>ab= .int .i64 de/\bp X h j R au) (λ_ _ _=>False):=by
 refine zL az.todW (OL X) ?_
 rw[OM]
 unfold Kv
 refine ce @xQ ⟨?_⟩
 refine(SQ (j:=j) az c2 dY aE al aI aB pL).Zm ?_
 rintro ab aP be ⟨uP,b6⟩
 have f1:=b6.le
 rw[nE]at uP
 have C9:=adk aE nE
 have a6:ab= .tuple [.cN, .agg [.int .i64 de, .int .i64 Hi]]:=uP
 subst a6
 have bo:decide (de≠0)=true:=by simp[C9]
 refine eP @bo @GN @GO ⟨?_⟩
 exact⟨rfl,Zo,λe B=>by rw[<-b6.ad e B];exact zK⟩
set_option maxRecDepth 100000 in
def acw(az:f5 X)(c2:qa X)(dY:mY X)(hV:km X)(hW:mb X){N:Nat}{Cz:List y}{jh eV gW:Nat}{kK:y}{s:ba}{aZ e4:Nat}{dH:List Go.aQ.Node}{bv:Nat->Prop}{eE:Option ak->Prop}{bq:Int->Prop}
 (aI:(o X).aY<=j)(xQ:aV X h (.ptr jh 0)=some kK)(AN:aV X h (.ptr eV 0)=some (.int .u8 (aZ:Int)))(oc:aV X h (.ptr eV 1)=some (.int .u8 (e4:Int)))(I1:eV<j)(pR:gW<j)(apY:aZ<256)(apZ:e4<256)
 (aE:s.length<=5000)(al:∀c∈s,c<256)(aB:fM kK=some (.int .i64 (s.length:Int)))(pL:∀R aS,bp X h j R aS->s9 X R kK=some (.str s))
 (nE:rv s= .ok an)(cE:an≠[])(bw:an[aZ%an.length]? =some g)(dJ:g.eqs≠[])(vX:an.length<=64)(C5:g.eqs.length<=4096)
 (mi:∀(R:M ak) (aS:Nat) (hK:Nat->Prop) (v:y),(o X).aY<=aS->lL X R hK dH v->(∀e,hK e->e<aS)->a1 X 7 [v] R aS (λab aP be=>(∃c E:Int,ab= .agg [.int .i64 c, .int .i64 E]/\bq c)/\bp X R aS aP be) (λ_ _ _=>False))
 (QT:∀(aX:M ak) (aM ai:Nat) (ah:Nat->Nat) (cn:Nat) (a2:y) (aK:List (List y)) (P:Nat->Prop),j<=aM->qS X aX P an ai ah cn a2 aK->(∀e,P e->j<=e/\e<aM)->(∀e,e<j->Z X aX e=Z X h e)->
  a1 X N ([.ptr ai 0, .ptr cn (aZ%an.length*6), .int .i64 ((e4%g.eqs.length:Nat):Int)]++Cz) aX aM (λab R au=>ab= .tuple []/\aM<=au/\(∃hK,lL X R hK dH (.ptr ai 0)/\∀e,hK e->e<au)/\eE (Z X R gW)/\∀e,e<j->¬bv e->Z X R e=Z X h e) (λ_ _ _=>False)):
 a1 X 9 [.func (.func N) [] Cz, .ptr jh 0, .ptr eV 0] h j (λab R au=>(∃c:Int,ab= .int .i64 c/\bq c)/\j<=au/\eE (Z X R gW)/\∀e,e<j->¬bv e->Z X R e=Z X h e) (λ_ _ _=>False):=by
 refine zL az.todW (OL X) ?_
 rw[OM]
 unfold Kv
 refine ce @xQ ⟨?_⟩
 refine(SQ (j:=j) az c2 dY aE al aI aB pL).Zm ?_
 rintro ab aP be ⟨uP,b6⟩
 have f1:=b6.le
 rw[nE]at uP
 obtain⟨v,rfl,Dl⟩:=uP
 obtain⟨ai,ah,cn,a2,aK,rfl,d⟩:=Dl.parts
 have bo:decide ((0:Int)≠0)=false:=rfl
 refine eP @bo @GN @GO ⟨?_⟩
 generalize fE:bl X (bl X aP be _) be _=bf
 have cM:∀e,e<be->Z X bf e=Z X aP e:=λe B=>by rw[<-fE];exact zK
 clear fE
 have DG:∀e,e<j->Z X bf e=Z X h e:=λe B=>by rw[cM e Zo,b6.ad e B]
 have dI:=d.ad (R:=bf) λe B=>cM e B.2
 have gp:=dI.hj.wide
 have m8:=(Zb.1 bw).1
 have mF:=dI.nc
 have er:=dI.iK.rd.len
 rw[gp.1]at er
 obtain⟨row,d2,hh⟩:=dI.hj.nodes.get _ g bw
 obtain⟨cW,cO,tV,dF,b4,cr,cS,fh,vD,rfl,jA,iD,jB,hq,o0⟩:=hh
 have ie:aV X bf (.ptr cn (aZ%an.length*6+5))=some dF:=dI.iK.rd.cell _ _ 5 _ d2 rfl
 have hQ:=hq.len
 rw[o0.wide.1]at hQ
 have di:=dI.iK.rd.g2 (aZ%an.length) (by rw[gp.1];exact m8)
 have oq:aV X bf (.ptr eV 0)=some (.int .u8 (aZ:Int)):=zP (DG eV I1) AN
 have cF:aV X bf (.ptr eV 1)=some (.int .u8 (e4:Int)):=zP (DG eV I1) oc
 have hb:tA 2 1 (.ptr eV 0) (.int .i64 0)=some (.ptr eV 0):=rfl
 have fX:tA 2 1 (.ptr eV 0) (.int .i64 1)=some (.ptr eV 1):=rfl
 have TS:k8 .i64 (.int .u8 (aZ:Int))=some (.int .i64 (aZ:Int)):=EU Zo Zo
 have vh:k8 .i64 (.int .u8 (e4:Int))=some (.int .i64 (e4:Int)):=EU Zo Zo
 have AC:=ZH.2 cE
 have It:=ZH.2 dJ
 have jH:=R4 (E:=aZ) (b:=an.length) AC Zo
 have m1:=R4 (E:=e4) (b:=g.eqs.length) It Zo
 have z0:decide ((an.length:Int)=0)=false:=by simp;exact cE
 have fs:decide ((0:Int)<(g.eqs.length:Int))=true:=by simp;omega
 refine fA @Xb @mF @er @z0 @hb @oq (Za @TS (Za @jH (Za @di (Za @ie (Za @hQ (Za @fs (Za @fX (Za @cF (Za @vh @m1))))))))) ⟨?_⟩
 rw[YS]
 refine(QT bf _ ai ah cn a2 aK (ei j be) Zo dI (λe B=>⟨B.1,zE B.2⟩) DG).Zm ?_
 rintro ab bT b3 ⟨rfl,je,⟨hK,oZ,am5⟩,am7,eL⟩
 refine c7 ⟨?_⟩
 refine(mi _ b3 hK _ Zo oZ am5).Zm ?_
 rintro ab bZ ct ⟨⟨c,E,rfl,CX⟩,dC⟩
 have qx:=dC.le
 refine ce @vG ⟨?_⟩
 exact⟨⟨c,rfl,CX⟩,Zo,by rw[dC.ad gW Zo];exact am7,λe B br=>by rw[dC.ad e Zo];exact eL e B br⟩
end
section
variable{X:cl}{h R fg aX aP:M ak}{j au aM be:Nat}{s:ba}
def acq(az:dW X)(aE:32<s.length):a1 X 65 [.str s] h j (λab R au=>ab= .bool false/\bp X h j R au) (λ_ _ _=>False):=by
 refine zL az (Vc X) ?_
 rw[Vd]
 unfold OI
 have cB:decide (s=[])=false:=by simp;intro D;subst D;simp at aE
 have cC:decide ((32:Int)<(s.length:Int))=true:=by simp only[Zi];omega
 refine dq @cB @cC ⟨?_⟩
 exact⟨rfl,bp.refl _ _⟩
def ajY(az:f5 X)(bP:kl X)(c2:km X){P:Nat->Prop}{b:Nat}{a2:y}{ds:List d4}{xf:d4}(H7:32<xf.name.length)(aI:(o X).aY<=j)(c3:et X h P b a2 8 ((ds++[xf]).map dy))(bI:∀e,P e->e<j)(br:∀d∈ds,pw jO d):
 a1 X 66 [a2] h j (λab R au=>ab= .bool false/\bp X h j R au) (λ_ _ _=>False):=by
 refine zL az.todW (Ve X) ?_
 rw[Vf]
 unfold OJ
 have er:=c3.len
 have jq:=c3.many
 rw[Zp,ZG,List.length_singleton]at er jq
 refine ce @er ⟨?_⟩
 refine gK (λm I R aS=>∃(Y:Nat),I.g 5=some a2/\I.g 6=some (.int .i64 ((ds.length+1:Nat):Int))/\I.g 7=some (.int .i64 (Y:Int))/\Y+m=ds.length+1/\Y<=ds.length/\bp X h j R aS)
  (ds.length+1) ⟨0,bF,bF,ho,Zo,Zo,bp.refl _ _⟩ ?_
 rintro m I aX aM ⟨Y,t5,fN,fx,bD,m8,bY⟩
 have jD:=bY.le
 cases m with
 |zero=>omega
 |succ m=>
  have PB:=zG Y (ds.length+1:Nat)
  have bB:bg .add (.int .i64 (Y:Int)) (.int .i64 1)=some (.int .i64 ((Y+1:Nat):Int)):=by rw[eK Zo Zo];rfl
  obtain⟨d,aH⟩:∃d,(ds++[xf])[Y]? =some d:=⟨_,Zf Zx⟩
  have di:=c3.g2 Y (by rw[Zp,ZG];simp;omega)
  have d2:=(c3.ad (λe B=>bY.ad e (bI e B))).row (i:=Y) (r:=dy d) Zd (by rw[Zy,aH];rfl)
  have j9:dy d=[.str d.name, .int .i64 d.at_, .bool d.ty.b, .bool d.ty.s, .int .i64 d.ty.w, .str d.on, .int .i64 d.fT, .bool d.no]:=rfl
  rw[j9]at d2
  refine kr @fx @fN @t5 @PB @di @d2 ⟨?_⟩
  generalize dN:bl X _ aM _=aP
  have b5:Z X aP aM=zI [.str d.name, .int .i64 d.at_, .bool d.ty.b, .bool d.ty.s, .int .i64 d.ty.w, .str d.on, .int .i64 d.fT, .bool d.no] 8:=by rw[<-dN,bn Zo];rfl
  have b6:bp X h j aP (aM+1):=⟨Zo,λe B=>by rw[<-dN];simp(disch:=omega) only[aL];exact bY.ad e B⟩
  clear dN
  refine ce (bU b5) ⟨?_⟩
  by_cases FA:Y=ds.length
  ·have anE:d=xf:=by rw[FA,ZF (Zj _),zl]at aH;simp at aH;exact aH.symm
   subst anE
   refine(acq (j:=aM+1) (h:=aP) az.todW H7).Zm ?_
   rintro ab bf bE ⟨rfl,cq⟩
   refine c7 ⟨?_⟩
   exact⟨rfl,b6.trans cq⟩
  have tp:=br d (by rw[ZI Zo]at aH;exact Zh aH)
  refine(x8 (j:=aM+1) (h:=aP) az bP c2 tp.name Zo).Zm ?_
  rintro ab bf bE ⟨rfl,cq⟩
  have jE:=cq.le
  rw[<-cq.ad _ Zo]at b5
  have Dw:k0 d.ty=[.bool d.ty.b, .bool d.ty.s, .int .i64 d.ty.w]:=rfl
  have uG:dT X bf 3 (.ptr aM 2)=some (.agg (k0 d.ty)):=by
   rw[tE,bU b5,bU b5,bU b5];rfl
  refine ce @uG ⟨?_⟩
  refine(TK (j:=bE) (h:=bf) az.todW d.ty Zo).Zm ?_
  rintro ab bT b3 ⟨rfl,dA⟩
  have je:=dA.le
  rw[<-dA.ad _ Zo]at b5
  have cB:decide (mS d.ty=[])=false:=by simp[ad0 tp.type]
  have H0:bp X h j bT b3:=(b6.trans cq).trans dA
  by_cases mj:d.on=[]
  ·have cC:decide (d.on≠[])=false:=by simp[mj]
   have dI:decide (d.on=[])=true:=by simp[mj]
   have jV:aV X bT (.ptr aM 7)=some (.bool false):=by rw[bU b5];exact congrArg (λb=>some (y.bool b)) (tp.no mj)
   have Di:aV X bT (.ptr aM 5)=some (.str d.on):=by rw[bU b5];rfl
   refine fA @cB @Di @cC @dI @jV @fx @bB ⟨?_⟩
   exact⟨m,Zo,Y+1,bz t5,bz fN,bF,Zo,Zo,H0⟩
  ·have cC:decide (d.on≠[])=true:=by simp[mj]
   have dI:decide (d.on=[])=false:=by simp[mj]
   have Di:aV X bT (.ptr aM 5)=some (.str d.on):=by rw[bU b5];rfl
   refine eP @cB @Di @cC ⟨?_⟩
   refine(x8 (j:=b3) (h:=bT) az bP c2 (tp.on mj) Zo).Zm ?_
   rintro ab bZ ct ⟨rfl,dC⟩
   have hQ:=dC.le
   rw[<-dC.ad _ Zo]at b5
   have Rz:aV X bZ (.ptr aM 5)=some (.str d.on):=by rw[bU b5];rfl
   refine g6 @Rz @dI @fx @bB ⟨?_⟩
   exact⟨m,Zo,Y+1,bz t5,bz fN,bF,Zo,Zo,H0.trans dC⟩
def ar5(az:f5 X)(bP:kl X)(c2:km X)(hP:mb X){P:Nat->Prop}{g:Go.aQ.Node}{row:List y}(aI:(o X).aY<=j)(bw:lr X h P g row)(bI:∀e,P e->e<j)(H7:32<g.name.length)(RV:g.dg.length+g.out.length+g.loc.length<=1000):
 a1 X 38 [.agg row] h j (λab R au=>ab= .int .i64 1/\bp X h j R au) (λ_ _ _=>False):=by
 refine zL az.todW (Kt X) ?_
 rw[Ku]
 unfold G7
 obtain⟨cW,cO,a2,dF,b4,cr,cS,fh,aK,rfl,jA,iD,jB,hq,dJ⟩:=bw
 have dv:=jA.len
 have cD:=iD.len
 have ec:=jB.len
 have gp:=dJ.wide
 have fl:=hq.len
 have jq:=hq.many
 rw[Zp]at dv cD ec
 rw[gp.1]at fl jq
 have bB:bg .add (.int .i64 (g.dg.length:Int)) (.int .i64 (g.out.length:Int))=some (.int .i64 ((g.dg.length+g.out.length:Nat):Int)):=by rw[eK Zo Zo];simp
 have cp:bg .add (.int .i64 ((g.dg.length+g.out.length:Nat):Int)) (.int .i64 (g.loc.length:Int))=some (.int .i64 ((g.dg.length+g.out.length+g.loc.length:Nat):Int)):=by rw[eK Zo Zo];simp
 refine vu ?_
 generalize eN:bl X h j _=aX
 have g1:Z X aX j=zI [.str g.name, .int .i64 g.at_,cW,cO,a2,dF] 6:=by rw[<-eN,bn aI];rfl
 have bY:bp X h j aX (j+1):=by rw[<-eN];exact dM
 clear eN
 refine gG (bU g1) @dv (Za @cD (Za @ec (Za @bB @cp))) ⟨?_⟩
 refine(acq (j:=j+1) (h:=aX) az.todW H7).Zm ?_
 rintro ab aP be ⟨rfl,b6⟩
 refine c7 ⟨?_⟩
 exact⟨rfl,bY.trans b6⟩
def ar6(az:f5 X)(bP:kl X)(c2:km X)(hP:mb X){P:Nat->Prop}{g:Go.aQ.Node}{row:List y}(aI:(o X).aY<=j)(bw:lr X h P g row)(bI:∀e,P e->e<j)(aoP:qR g.name)(apF:g.out≠[])(aw1:256<g.dg.length+g.out.length+g.loc.length)(RV:g.dg.length+g.out.length+g.loc.length<=1000):
 a1 X 38 [.agg row] h j (λab R au=>ab= .int .i64 1/\bp X h j R au) (λ_ _ _=>False):=by
 refine zL az.todW (Kt X) ?_
 rw[Ku]
 unfold G7
 obtain⟨cW,cO,a2,dF,b4,cr,cS,fh,aK,rfl,jA,iD,jB,hq,dJ⟩:=bw
 have dv:=jA.len
 have cD:=iD.len
 have ec:=jB.len
 have gp:=dJ.wide
 have fl:=hq.len
 have jq:=hq.many
 rw[Zp]at dv cD ec
 rw[gp.1]at fl jq
 have AH:0<g.out.length:=ZH.2 apF
 have bB:bg .add (.int .i64 (g.dg.length:Int)) (.int .i64 (g.out.length:Int))=some (.int .i64 ((g.dg.length+g.out.length:Nat):Int)):=by rw[eK Zo Zo];simp
 have cp:bg .add (.int .i64 ((g.dg.length+g.out.length:Nat):Int)) (.int .i64 (g.loc.length:Int))=some (.int .i64 ((g.dg.length+g.out.length+g.loc.length:Nat):Int)):=by rw[eK Zo Zo];simp
 have cB:decide ((g.out.length:Int)=0)=false:=by simp only[Ze];omega
 have cC:decide ((256:Int)<((g.dg.length+g.out.length+g.loc.length:Nat):Int))=true:=by simp only[Zi];omega
 refine vu ?_
 generalize eN:bl X h j _=aX
 have g1:Z X aX j=zI [.str g.name, .int .i64 g.at_,cW,cO,a2,dF] 6:=by rw[<-eN,bn aI];rfl
 have bY:bp X h j aX (j+1):=by rw[<-eN];exact dM
 clear eN
 refine gG (bU g1) @dv (Za @cD (Za @ec (Za @bB @cp))) ⟨?_⟩
 refine(x8 (j:=j+1) (h:=aX) az bP c2 aoP Zo).Zm ?_
 rintro ab aP be ⟨rfl,b6⟩
 have f1:=b6.le
 rw[<-b6.ad _ Zo]at g1
 refine kr (bU g1) @dv @cD @ec @cB @cC ⟨?_⟩
 exact⟨rfl,bY.trans b6⟩
def ar4(az:f5 X)(bP:kl X)(c2:km X)(hP:mb X){P:Nat->Prop}{eC g:Go.aQ.Node}{xf:d4}{row:List y}(aI:(o X).aY<=j)(bw:lr X h P g row)(bI:∀e,P e->e<j)(Q8:g=l8 eC xf)(H7:32<xf.name.length)(br:ls jO eC)(aB:rP g):
 a1 X 38 [.agg row] h j (λab R au=>ab= .int .i64 1/\bp X h j R au) (λ_ _ _=>False):=by
 refine zL az.todW (Kt X) ?_
 rw[Ku]
 unfold G7
 obtain⟨cW,cO,a2,dF,b4,cr,cS,fh,aK,rfl,jA,iD,jB,hq,dJ⟩:=bw
 have dv:=jA.len
 have cD:=iD.len
 have ec:=jB.len
 have gp:=dJ.wide
 have fl:=hq.len
 have jq:=hq.many
 rw[Zp]at dv cD ec
 rw[gp.1]at fl jq
 have RV:=aB.vars
 have anX:=aB.eqs
 have AH:0<g.out.length:=by rw[Q8];exact ZH.2 br.some
 have bB:bg .add (.int .i64 (g.dg.length:Int)) (.int .i64 (g.out.length:Int))=some (.int .i64 ((g.dg.length+g.out.length:Nat):Int)):=by rw[eK Zo Zo];simp
 have cp:bg .add (.int .i64 ((g.dg.length+g.out.length:Nat):Int)) (.int .i64 (g.loc.length:Int))=some (.int .i64 ((g.dg.length+g.out.length+g.loc.length:Nat):Int)):=by rw[eK Zo Zo];simp
 have cB:decide ((g.out.length:Int)=0)=false:=by simp only[Ze];omega
 have cC:decide ((256:Int)<((g.dg.length+g.out.length+g.loc.length:Nat):Int))=false:=by simp only[Ze];omega
 have dI:decide ((4096:Int)<(g.eqs.length:Int))=false:=by simp only[Ze];omega
 refine vu ?_
 generalize eN:bl X h j _=aX
 have g1:Z X aX j=zI [.str g.name, .int .i64 g.at_,cW,cO,a2,dF] 6:=by rw[<-eN,bn aI];rfl
 have bY:bp X h j aX (j+1):=by rw[<-eN];exact dM
 clear eN
 refine gG (bU g1) @dv (Za @cD (Za @ec (Za @bB @cp))) ⟨?_⟩
 refine(x8 (j:=j+1) (h:=aX) az bP c2 (by rw[Q8];exact br.name) Zo).Zm ?_
 rintro ab aP be ⟨rfl,b6⟩
 have f1:=b6.le
 rw[<-b6.ad _ Zo]at g1
 have mB:=bY.trans b6
 have dl:=(iG jA.len).1
 have dx:=(iG iD.len).1
 have gD:=(iG jB.len).1
 have jF:hv 3 [.aW, .aW, .aW] [(0,1,cW),(1,1,cO),(2,1,a2)] be=some (.slice be 0 3 3, .cells (M.ofList [cW,cO,a2] 0 .nil) 3 .own):=by
  simp[hv,tc,td,nk,dl,dx,gD]
 refine gG (bU g1) @dv (Za @cD (Za @ec (Za @fl (Za @cB (Za @cC @dI))))) ⟨?_⟩
 refine gi jF ?_
 refine vI ⟨?_⟩
 generalize fE:bl X aP be _=bf
 have cR:Z X bf be=zI [cW,cO,a2] 3:=by rw[<-fE,bn Zo]
 have cq:bp X h j bf (be+1):=⟨Zo,λe B=>by rw[<-fE];simp(disch:=omega) only[aL];exact mB.ad e B⟩
 have vH:Z X bf j=zI [.str g.name, .int .i64 g.at_,cW,cO,a2,dF] 6:=by rw[<-fE];simp(disch:=omega) only[aL];exact g1
 clear fE
 have pV:∀e,P e->Z X bf e=Z X h e:=λe B=>cq.ad e (bI e B)
 refine(WI (j:=be+1) (h:=bf) az.todW Zo Zo cR (jA.ad pV) (iD.ad pV) (jB.ad pV) (λe B=>zE (bI e B)) Zo Zo).Zm ?_
 rintro ab bT b3 ⟨Wn,c3,dA⟩
 have je:=dA.le
 refine vI ⟨?_⟩
 have anB:g.dg++(g.out++g.loc)=(eC.dg++(eC.out++eC.loc))++[xf]:=by rw[Q8];simp[l8]
 rw[anB]at c3
 refine(ajY (j:=b3) (h:=bT) az bP c2 H7 Zo c3 (λe B=>B.2) (λd aH=> ?_)).Zm ?_
 ·rcases Zw.1 aH with a|a
  ·exact br.dg d a
  ·rcases Zw.1 a with a|a
   ·exact br.out d a
   ·exact br.loc d a
 rintro ab bZ ct ⟨rfl,dC⟩
 refine c7 ⟨?_⟩
 exact⟨rfl,cq.trans (dA.trans dC)⟩
set_option maxRecDepth 100000 in
def P2(az:f5 X)(bP:kl X)(c2:km X)(hP:mb X){P:Nat->Prop}{an:List Go.aQ.Node}{v:y}(aI:(o X).aY<=j)(bw:lL X h P an v)(bI:∀e,P e->e<j){A3:Nat}(axg:A3<an.length)(h0:an.length<=64)(br:∀i g,i<A3->an[i]? =some g->ls jO g/\rP g)(anq:∀(R:M ak) (aS:Nat) row g,an[A3]? =some g->(o X).aY<=aS->lr X R P g row->(∀e,P e->e<aS)->a1 X 38 [.agg row] R aS (λab aP be=>ab= .int .i64 1/\bp X R aS aP be) (λ_ _ _=>False)):
 a1 X 22 [v] h j (λab R au=>ab= .int .i64 1/\bp X h j R au) (λ_ _ _=>False):=by
 refine zL az.todW (OE X) ?_
 rw[OF]
 unfold Ks
 obtain⟨b,a2,cn,aK,rfl,al,a0,c3,lZ⟩:=id bw
 have gp:=lZ.wide
 have er:=c3.len
 rw[gp.1]at er
 have f0:=bI b al
 have ay:0<an.length:=Zo
 have cB:decide ((an.length:Int)=0)=false:=by simp only[Ze];omega
 have cC:decide ((64:Int)<(an.length:Int))=false:=by simp only[Ze];omega
 refine g0 @Lg @a0 @er @cB @cC ⟨?_⟩
 refine gK (λm I R aS=>∃(Y:Nat),Y<=A3/\I.g 3=some (.int .i64 0)/\I.g 28=some a2/\I.g 29=some (.int .i64 (an.length:Int))/\I.g 30=some (.int .i64 (Y:Int))/\Y+m=an.length/\bp X h j R aS)
  an.length ⟨0,Zo,bF,bF,bF,ho,Zo,bp.refl _ _⟩ ?_
 rintro m I aX aM ⟨Y,C8,t3,JX,yp,wE,bD,bY⟩
 have jD:=bY.le
 cases m with
 |zero=>omega
 |succ m=>
  have d:=zG Y an.length
  have bB:bg .add (.int .i64 (Y:Int)) (.int .i64 1)=some (.int .i64 ((Y+1:Nat):Int)):=by rw[eK Zo Zo];rfl
  obtain⟨g,oW⟩:=zH an Y
  have hp:=Zh oW
  obtain⟨row,d2,hh⟩:=lZ.get Y g oW
  have sv:∀e,P e->Z X aX e=Z X h e:=λe B=>bY.ad e (bI e B)
  have di:=c3.g2 Y (by rw[gp.1];omega)
  have kP:=(c3.ad sv).row Zd d2
  have li:=hh.iI
  have Dh:=hh
  obtain⟨cW,cO,po,dF,b4,cr,cS,fh,fV,rfl,_⟩:=hh
  refine kr @wE @yp @JX @d @di @kP ⟨?_⟩
  refine gi (jJ (q:=6) (b:=aM) (W:=0) (n:=6) (c:=M.ofList [.str [], .int .i64 0, .aW, .aW, .aW, .aW] 0 .nil) (bn Zo) Zo rfl Zd Zd li) ?_
  generalize dN:bl X _ aM _=aP
  have b5:Z X aP aM=zI [.str g.name, .int .i64 g.at_,cW,cO,po,dF] 6:=by rw[<-dN,bn Zo];rfl
  have b6:bp X h j aP (aM+1):=⟨Zo,λe B=>by rw[<-dN];simp(disch:=omega) only[aL];exact bY.ad e B⟩
  clear dN
  refine ce (bU b5) ⟨?_⟩
  have Me:=Dh.ad (Q:=P) (λe B=>b6.ad e (bI e B)) (λ_ a=>a)
  by_cases FA:Y=A3
  ·subst FA
   refine(anq aP (aM+1) _ g oW Zo Me (λe B=>zE (bI e B))).Zm ?_
   rintro ab bf bE ⟨rfl,cq⟩
   have fs:decide ((1:Int)=1)=true:=rfl
   refine ce @fs ⟨?_⟩
   exact⟨rfl,b6.trans cq⟩
  obtain⟨ap1,aov⟩:=br Y g Zo oW
  refine(acD (j:=aM+1) (h:=aP) az bP c2 hP Zo Me (λe B=>zE (bI e B)) ap1 aov).Zm ?_
  rintro ab bf bE ⟨rfl,cq⟩
  have fs:decide ((0:Int)=1)=false:=rfl
  have fC:decide ((0:Int)=22)=false:=rfl
  refine g6 @fs @fC @wE @bB ⟨?_⟩
  exact⟨m,Zo,Y+1,Zo,bz t3,bz JX,bz yp,bF,Zo,b6.trans cq⟩
def Xx(az:f5 X){P:Nat->Prop}{an:List Go.aQ.Node}{v:y}(bw:lL X h P an v)(bc:64<an.length):
 a1 X 22 [v] h j (λab R au=>ab= .int .i64 1/\bp X h j R au) (λ_ _ _=>False):=by
 refine zL az.todW (OE X) ?_
 rw[OF]
 unfold Ks
 obtain⟨b,a2,cn,aK,rfl,al,a0,c3,lZ⟩:=id bw
 have gp:=lZ.wide
 have er:=c3.len
 rw[gp.1]at er
 have cB:decide ((an.length:Int)=0)=false:=by simp only[Ze];omega
 have cC:decide ((64:Int)<(an.length:Int))=true:=by simp only[Zi];omega
 refine g0 @Lg @a0 @er @cB @cC ⟨?_⟩
 exact⟨rfl,bp.refl _ _⟩
def ajD(az:dW X){v:y}(aI:(o X).aY<=j)(bW:∀R:M ak,bp X h j R (j+1)->a1 X 22 [v] R (j+1) (λab aP be=>ab= .int .i64 1/\bp X R (j+1) aP be) (λ_ _ _=>False)):
 a1 X 7 [v] h j (λab R au=>(∃c E:Int,ab= .agg [.int .i64 c, .int .i64 E]/\True)/\bp X h j R au) (λ_ _ _=>False):=by
 refine zL az (Vr X) ?_
 rw[Vs]
 unfold OK
 refine r0 ?_
 generalize eN:bl X h j _=aX
 have g1:∃c,Z X aX j=some (.cells c 2 .own):=⟨_,by rw[<-eN,bn aI];rfl⟩
 have bY:bp X h j aX (j+1):=by rw[<-eN];exact dM
 clear eN
 refine(bW aX bY).Zm ?_
 rintro ab aP be ⟨rfl,b6⟩
 have f1:=b6.le
 rw[<-b6.ad _ Zo]at g1
 obtain⟨c,g1⟩:=g1
 have bo:decide ((1:Int)≠0)=true:=rfl
 refine eP @bo @GN @GO ⟨?_⟩
 exact⟨⟨1,0,rfl,trivial⟩,Zo,λe B=>by rw[aL Zo Zo];exact(bY.trans b6).ad e B⟩
end
section
variable{X:cl}{h R aX aP:M ak}{j au aM be:Nat}{P:Nat->Prop}
variable{an dH:List Go.aQ.Node}{g:Go.aQ.Node}{Y q:Nat}
def E3(dE:(i6 an).1=0)(bw:an[Y]? =some g)(bd:g.out≠[]):g.eqs≠[]:=by
 have a:=tM.1 (y2.1 dE Y g bw)
 obtain⟨d,aH⟩:=List.exists_mem_of_ne_nil _ bd
 have:=a.2 (2,d) (Zw.2 (.inr (Zw.2 (.inl (ZC.2 ⟨d,aH,rfl⟩))))) Zs
 intro D
 rw[mo,D]at this
 exact absurd this (by simp[gk])
structure rQ(X:cl)(h:M ak)(j jh eV:Nat)(kK:y)(s:ba)(aZ e4:Nat)(an:List Go.aQ.Node)(g:Go.aQ.Node):Prop where
 n:(o X).aY<=j
 a2:jh<j
 wl:eV<j
 kG:aV X h (.ptr jh 0)=some kK
 oq:aV X h (.ptr eV 0)=some (.int .u8 (aZ:Int))
 cF:aV X h (.ptr eV 1)=some (.int .u8 (e4:Int))
 fb:aZ<256
 dv:e4<256
 aE:s.length<=5000
 al:∀c∈s,c<256
 aB:fM kK=some (.int .i64 (s.length:Int))
 xe:∀R aS,bp X h j R aS->s9 X R kK=some (.str s)
 tP:rv s= .ok an
 bw:an[aZ%an.length]? =some g
section
variable{jh eV aZ e4:Nat}{kK:y}{s:ba}
def rQ.ad(a:rQ X h j jh eV kK s aZ e4 an g)(bP:bp X h j R au):rQ X R au jh eV kK s aZ e4 an g:=
 have fa:=bP.le
 have aI:=a.n
 have H:=a.a2
 have K:=a.wl
 {
  a with
  n:=Zo
  a2:=Zo
  wl:=Zo
  kG:=by rw[bP.fm _ _ H];exact a.kG
  oq:=by rw[bP.fm _ _ K];exact a.oq
  cF:=by rw[bP.fm _ _ K];exact a.cF
  xe:=λaP be K=>a.xe aP be (bP.trans K)}
def ER(az:f5 X)(bP:kl X)(hV:km X)(hW:mb X)(br:∀g∈dH,ls jO g)(cE:dH≠[])(aB:pd dH=none){bq:Int->Prop}(CX:bq (i6 dH).1):
 ∀(R:M ak) (aS:Nat) (hK:Nat->Prop) (v:y),(o X).aY<=aS->lL X R hK dH v->(∀e,hK e->e<aS)->a1 X 7 [v] R aS (λab aP be=>(∃c E:Int,ab= .agg [.int .i64 c, .int .i64 E]/\bq c)/\bp X R aS aP be) (λ_ _ _=>False):=by
 intro R aS hK v aI bw bI
 refine(ajG (j:=aS) (P:=hK) az bP hV hW aI bw bI br cE aB).Zm ?_
 rintro ab aP be ⟨rfl,b6⟩
 exact⟨⟨_,_,rfl,CX⟩,b6⟩
def Hu(az:f5 X){bq:Int->Prop}(CX:∀c,bq c)
 (bW:∀(R:M ak) (aS:Nat) (hK:Nat->Prop) (v:y),(o X).aY<=aS->lL X R hK dH v->(∀e,hK e->e<aS)->a1 X 22 [v] R aS (λab aP be=>ab= .int .i64 1/\bp X R aS aP be) (λ_ _ _=>False)):
 ∀(R:M ak) (aS:Nat) (hK:Nat->Prop) (v:y),(o X).aY<=aS->lL X R hK dH v->(∀e,hK e->e<aS)->a1 X 7 [v] R aS (λab aP be=>(∃c E:Int,ab= .agg [.int .i64 c, .int .i64 E]/\bq c)/\bp X R aS aP be) (λ_ _ _=>False):=by
 intro R aS hK v aI bw bI
 refine(ajD (j:=aS) az.todW aI (λaP bP=>bW aP (aS+1) hK v Zo (bw.ad (Q:=hK) (λe B=>bP.ad e (bI e B)) (λ_ a=>a)) (λe B=>zE (bI e B)))).Zm ?_
 rintro ab aP be ⟨⟨c,E,rfl,_⟩,b6⟩
 exact⟨⟨_,_,rfl,CX c⟩,b6⟩
def Jp(az:f5 X)(c2:qa X)(dY:mY X)(hV:km X)(hW:mb X)(m:rQ X h j jh eV kK s aZ e4 an g)(dJ:g.eqs≠[]){N:Nat}{Cz:List y}{bq:Int->Prop}
 (mi:∀(R:M ak) (aS:Nat) (hK:Nat->Prop) (v:y),(o X).aY<=aS->lL X R hK dH v->(∀e,hK e->e<aS)->a1 X 7 [v] R aS (λab aP be=>(∃c E:Int,ab= .agg [.int .i64 c, .int .i64 E]/\bq c)/\bp X R aS aP be) (λ_ _ _=>False))
 (QT:∀(aX:M ak) (aM ai:Nat) (ah:Nat->Nat) (cn:Nat) (a2:y) (aK:List (List y)) (P:Nat->Prop),j<=aM->(o X).aY<=aM->qS X aX P an ai ah cn a2 aK->(∀e,P e->(o X).aY<=e/\e<aM)->(∀e,e<j->Z X aX e=Z X h e)->
  a1 X N ([.ptr ai 0, .ptr cn (aZ%an.length*6), .int .i64 ((e4%g.eqs.length:Nat):Int)]++Cz) aX aM (yQ X aX P dH ai aM) (λ_ _ _=>False)):
 a1 X 9 [.func (.func N) [] Cz, .ptr jh 0, .ptr eV 0] h j (λab R au=>(∃c:Int,ab= .int .i64 c/\bq c)/\bp X h j R au) (λ_ _ _=>False):=by
 obtain⟨iT,cE,ka⟩:=BA m.tP
 obtain⟨h0,gI⟩:=wh ka
 have aI:=m.n
 have hp:=Zh m.bw
 refine(acw (h:=h) (j:=j) (gW:=jh) (eE:=λ_=>True) (bv:=λ_=>False) (bq:=bq) (dH:=dH) az c2 dY hV hW aI m.kG m.oq m.cF m.wl m.a2 m.fb m.dv m.aE m.al m.aB m.xe m.tP cE m.bw dJ h0 (gI g hp).eqs mi ?_).Zm ?_
 ·intro aX aM ai ah cn a2 aK P fa d bI aG
  refine(QT aX aM ai ah cn a2 aK P fa Zo d (λe B=>⟨zE (bI e B).1,(bI e B).2⟩) aG).Zm ?_
  rintro ab aP be ⟨rfl,f1,oZ,gH⟩
  refine⟨rfl,f1,⟨_,oZ,λe B=> ?_⟩,trivial,λe B _=> ?_⟩
  ·rcases B with B|B
   ·have:=(bI e B).2;omega
   ·exact B.2
  ·rw[gH e Zo (λa=>zE (bI e a).1)];exact aG e B
 ·rintro ab aP be ⟨H,fa,_,aG⟩
  exact⟨H,fa,λe B=>aG e B (λa=>a)⟩
def ars(az:f5 X)(c2:qa X)(dY:mY X)(hV:km X)(hW:mb X)(m:rQ X h j jh eV kK s aZ e4 an g)(dE:(i6 an).1=0):
 a1 X 9 [.func (.func 12) [] [], .ptr jh 0, .ptr eV 0] h j (λab R au=>(∃c:Int,ab= .int .i64 c/\c=37)/\bp X h j R au) (λ_ _ _=>False):=by
 obtain⟨iT,cE,ka⟩:=BA m.tP
 obtain⟨h0,gI⟩:=wh ka
 have hp:=Zh m.bw
 have dJ:=E3 dE m.bw (iT g hp).some
 have It:=ZH.2 dJ
 have pP:e4%g.eqs.length<g.eqs.length:=zs _ It
 have bG:=Zf pP
 generalize g.eqs[e4%g.eqs.length]=D at bG
 have o4:∀ai∈g.eqs.eraseIdx (e4%g.eqs.length),ai∈g.eqs:=λai a=>List.mem_of_mem_eraseIdx a
 refine Jp az c2 dY hV hW m dJ (bq:=λc=>c=37) (ER (dH:=an.set (aZ%an.length) (nS g (g.eqs.eraseIdx (e4%g.eqs.length)))) az c2.err hV hW (λeI a=> ?_) (Tn cE) (Jk (by rw[Yo];exact h0) (λeI a=> ?_)) (aru dE m.bw bG ((iT g hp).eqs D (Zh bG)).some)) ?_
 ·rcases Gd a with a|rfl
  ·exact iT eI a
  ·exact ac0 (iT g hp) o4
 ·rcases Gd a with a|rfl
  ·exact gI eI a
  ·exact acn (gI g hp) o4 (by have:=(gI g hp).eqs;have:=List.length_eraseIdx_le g.eqs (e4%g.eqs.length);omega)
 ·intro aX aM ai ah cn a2 aK P fa lY d bI aG
  exact art az.todW lY d bI m.bw pP (gI g hp).eqs
def ase(az:f5 X)(c2:qa X)(dY:mY X)(hV:km X)(hW:mb X)(m:rQ X h j jh eV kK s aZ e4 an g)(dE:(i6 an).1=0):
 a1 X 9 [.func (.func 13) [] [], .ptr jh 0, .ptr eV 0] h j (λab R au=>(∃c:Int,ab= .int .i64 c/\c=24)/\bp X h j R au) (λ_ _ _=>False):=by
 obtain⟨iT,cE,ka⟩:=BA m.tP
 obtain⟨h0,gI⟩:=wh ka
 have hp:=Zh m.bw
 have dJ:=E3 dE m.bw (iT g hp).some
 have It:=ZH.2 dJ
 have pP:e4%g.eqs.length<g.eqs.length:=zs _ It
 have bG:=Zf pP
 generalize g.eqs[e4%g.eqs.length]=D at bG
 have bt:=Zh bG
 have o4:∀ai∈g.eqs++[D],ai∈g.eqs:=λai a=>by
  rcases Zw.1 a with a|a
  ·exact a
  ·rw[zu.1 a];exact bt
 have Q6:=akU (tM.1 (y2.1 dE _ g m.bw)).1 (λai a=>((iT g hp).eqs ai a).some) (gI g hp).vars
 refine Jp az c2 dY hV hW m dJ (bq:=λc=>c=24) (ER (dH:=an.set (aZ%an.length) (nS g (g.eqs++[D]))) az c2.err hV hW (λeI a=> ?_) (Tn cE) (Jk (by rw[Yo];exact h0) (λeI a=> ?_)) (ash dE m.bw bG ((iT g hp).eqs D bt).some)) ?_
 ·rcases Gd a with a|rfl
  ·exact iT eI a
  ·exact ac0 (iT g hp) o4
 ·rcases Gd a with a|rfl
  ·exact gI eI a
  ·exact acn (gI g hp) o4 Zx
 ·intro aX aM ai ah cn a2 aK P fa lY d bI aG
  exact asf az.todW lY d bI m.bw bG (gI g hp).eqs
def pk(an:List Go.aQ.Node)(g:Go.aQ.Node)(nm:ba):Bool:=sJ an g&&decide (nm.length<=32)
def JM{nm:ba}:pk an g nm=true↔an.length<64/\g.dg.length+g.out.length+g.loc.length<256/\nm.length<=32:=by
 simp[pk,sJ,and_assoc]
def aiO(az:f5 X)(c2:qa X)(dY:mY X)(hV:km X)(hW:mb X)(m:rQ X h j jh eV kK s aZ e4 an g)(dE:(i6 an).1=0){dh:Nat}{nm:ba}(uL:dh<j)(gy:aV X h (.ptr dh 0)=some (.str nm))(jV:nm.length<=32->qR nm)(qu:nm∉mr g):
 a1 X 9 [.func (.func 14) [] [.ptr dh 0], .ptr jh 0, .ptr eV 0] h j (λab R au=>(∃c:Int,ab= .int .i64 c/\(pk an g nm=true->c=37))/\bp X h j R au) (λ_ _ _=>False):=by
 obtain⟨iT,cE,ka⟩:=BA m.tP
 obtain⟨h0,gI⟩:=wh ka
 have hp:=Zh m.bw
 have dJ:=E3 dE m.bw (iT g hp).some
 have bu:=(gI g hp).vars
 have m8:=(Zb.1 m.bw).1
 have bl:(an.set (aZ%an.length) (l8 g (tI nm)))[aZ%an.length]? =some (l8 g (tI nm)):=by rw[Yx,Zu rfl,Zu m8]
 refine Jp az c2 dY hV hW m dJ (dH:=an.set (aZ%an.length) (l8 g (tI nm))) ?_ ?_
 ·by_cases H:g.dg.length+g.out.length+g.loc.length<256
  ·by_cases K:nm.length<=32
   ·refine ER az c2.err hV hW (λeI a=> ?_) (Tn cE) (Jk (by rw[Yo];exact h0) (λeI a=> ?_)) (λ_=>aiQ dE m.bw rfl qu)
    ·rcases Gd a with a|rfl
     ·exact iT eI a
     ·exact asB (iT g hp) (jV K)
    ·rcases Gd a with a|rfl
     ·exact gI eI a
     ·exact aco (gI g hp) _ H
   ·refine Hu az (λc aA=>absurd (JM.1 aA).2.2 K) λaP be Kr v lh oZ CY=> ?_
    refine P2 az c2.err hV hW lh oZ CY (A3:=aZ%an.length) (by rw[Yo];exact m8) (by rw[Yo];exact h0) (λi E aF aD=> ?_) ?_
    ·have aD:=JR aF aD
     exact⟨iT E (Zh aD),gI E (Zh aD)⟩
    ·intro bf bE row E aD rf d2 CZ
     rw[bl]at aD
     cases aD
     exact ar4 az c2.err hV hW (xf:=tI nm) rf d2 CZ rfl (by show 32<nm.length;omega) (iT g hp) (aco (gI g hp) _ H)
  ·refine Hu az (λc aA=>absurd (JM.1 aA).2.1 H) λaP be Kr v lh oZ CY=> ?_
   refine P2 az c2.err hV hW lh oZ CY (A3:=aZ%an.length) (by rw[Yo];exact m8) (by rw[Yo];exact h0) (λi E aF aD=> ?_) ?_
   ·have aD:=JR aF aD
    exact⟨iT E (Zh aD),gI E (Zh aD)⟩
   ·intro bf bE row E aD rf d2 CZ
    rw[bl]at aD
    cases aD
    exact ar6 az c2.err hV hW rf d2 CZ (iT g hp).name (iT g hp).some (by simp[l8];omega) (by simp[l8];omega)
 ·intro aX aM ai ah cn a2 aK P fa lY d bI aG
  exact aiP az.todW lY d bI m.bw (zP (aG dh uL) gy) Zo
def avO(az:f5 X)(c2:qa X)(dY:mY X)(hV:km X)(hW:mb X)(m:rQ X h j jh eV kK s aZ e4 an g)(dE:(i6 an).1=0)(nm:ba):
 a1 X 9 [.func (.func 15) [] [], .ptr jh 0, .ptr eV 0] h j (λab R au=>(∃c:Int,ab= .int .i64 c/\(pk an g nm=true->c=24))/\bp X h j R au) (λ_ _ _=>False):=by
 obtain⟨iT,cE,ka⟩:=BA m.tP
 obtain⟨h0,gI⟩:=wh ka
 have hp:=Zh m.bw
 have dJ:=E3 dE m.bw (iT g hp).some
 have AC:=ZH.2 cE
 have bi:=Zf AC
 generalize an[0]=eC at bi
 have sj:=Zh bi
 refine Jp az c2 dY hV hW m dJ (dH:=an++[eC]) ?_ ?_
 ·by_cases H:an.length<64
  ·refine ER az c2.err hV hW (λeI a=> ?_) Zs (Jk Zx (λeI a=> ?_)) (λ_=>avQ dE bi)
   ·rcases Zw.1 a with a|a
    ·exact iT eI a
    ·rw[zu.1 a];exact iT eC sj
   ·rcases Zw.1 a with a|a
    ·exact gI eI a
    ·rw[zu.1 a];exact gI eC sj
  ·exact Hu az (λc aA=>absurd (JM.1 aA).1 H) λaP be Kr v lh oZ CY=>Xx az oZ Zx
 ·intro aX aM ai ah cn a2 aK P fa lY d bI aG
  exact avP az.todW lY d bI bi h0
def aiG(az:f5 X)(c2:qa X)(dY:mY X)(hV:km X)(hW:mb X)(m:rQ X h j jh eV kK s aZ e4 an g)(dE:(i6 an).1=0){dh:Nat}{nm:ba}(uL:dh<j)(gy:aV X h (.ptr dh 0)=some (.str nm))(jV:nm.length<=32->qR nm)(qu:∀E∈an,E.name≠nm):
 a1 X 9 [.func (.func 16) [] [.ptr dh 0], .ptr jh 0, .ptr eV 0] h j (λab R au=>(∃c:Int,ab= .int .i64 c/\(pk an g nm=true->c=0))/\bp X h j R au) (λ_ _ _=>False):=by
 obtain⟨iT,cE,ka⟩:=BA m.tP
 obtain⟨h0,gI⟩:=wh ka
 have hp:=Zh m.bw
 have dJ:=E3 dE m.bw (iT g hp).some
 have AC:=ZH.2 cE
 have bi:=Zf (show an.length-1<an.length by omega)
 generalize an[an.length-1]=eC at bi
 have sj:=Zh bi
 have abs:=(gI eC sj).vars
 refine Jp az c2 dY hV hW m dJ (dH:=l2 eC nm::an) ?_ ?_
 ·by_cases H:an.length<64
  ·by_cases K:nm.length<=32
   ·refine ER az c2.err hV hW (λeI a=> ?_) Zs (Jk Zx (λeI a=> ?_)) (λ_=>aiI dE sj qu)
    ·rcases Zr.1 a with rfl|a
     ·exact asC (iT eC sj) (jV K)
     ·exact iT eI a
    ·rcases Zr.1 a with rfl|a
     ·exact arG (gI eC sj) nm
     ·exact gI eI a
   ·refine Hu az (λc aA=>absurd (JM.1 aA).2.2 K) λaP be Kr v lh oZ CY=> ?_
    refine P2 az c2.err hV hW lh oZ CY (A3:=0) Zs Zx (λi E aF aD=>absurd aF Zo) ?_
    intro bf bE row E aD rf d2 CZ
    rw[Z6]at aD
    cases aD
    exact ar5 az c2.err hV hW rf d2 CZ (by show 32<nm.length;omega) (by simp[l2];omega)
  ·exact Hu az (λc aA=>absurd (JM.1 aA).1 H) λaP be Kr v lh oZ CY=>Xx az oZ Zx
 ·intro aX aM ai ah cn a2 aK P fa lY d bI aG
  exact aiH az.todW lY d bI bi Zo (zP (aG dh uL) gy) h0 (iT eC sj).some Zo
end
end
end
end Go.Proofs.YtbbkkkpgjaopkaaGreatDoor

