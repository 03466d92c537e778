/- Part of the proof of the last text; no conditions -/
import Derived.Test.YtendhgofocgngaaGreatDoorYt
set_option maxHeartbeats 8000000
set_option linter.all false
namespace Go.Proofs.YtendhgofocgngaaGreatDoor
open Go.bn Go.aT
noncomputable section
def fO(g:Go.aT.Node):List (Int×eP):=(g.es.map λd=>(1,d))++((g.out.map λd=>(2,d))++(g.loc.map λd=>(3,d)))
def rA(g:Go.aT.Node):Nat->List eP
 |0=>g.es
 |1=>g.out
 |_=>g.loc
def tR(g:Go.aT.Node):Nat->Nat
 |0=>0
 |1=>g.es.length
 |2=>g.es.length+g.out.length
 |_=>g.es.length+g.out.length+g.loc.length
def awj(g:Go.aT.Node){o:Nat}(aC:o<3):tR g (o+1)=tR g o+(rA g o).length:=by
 match o,aC with
 |0,_=>simp[tR,rA]
 |1,_=>rfl
 |2,_=>rfl
def aaH(g:Go.aT.Node):(fO g).length=tR g 3:=by simp[fO,tR];omega
def anu(g:Go.aT.Node){o:Nat}(aC:o<3){W:Nat}{d:eP}(a:(rA g o)[W]? =some d):(fO g)[tR g o+W]? =some (1+(o:Int),d):=by
 match o,aC,a with
 |0,_,a=>
  have bx:=(Zb.1 a).1
  simp only[rA]at a bx
  simp only[fO,tR,ZF]
  rw[ZO (by simpa using bx),Zv,a];rfl
 |1,_,a=>
  have bx:=(Zb.1 a).1
  simp only[rA]at a bx
  simp only[fO,tR]
  rw[ZG Zs,Zl,Nat.add_sub_cancel_left,ZO (by simpa using bx),Zv,a];rfl
 |2,_,a=>
  simp only[rA]at a
  simp only[fO,tR]
  rw[ZG (by simp;omega),Zl,ZG (by simp;omega),Zl,show g.es.length+g.out.length+W-g.es.length-g.out.length=W by omega,Zv,a];rfl
section
variable{X:co}{h R gn aU aQ:S ai}{j ap aL bc:Nat}
def at1{C:aK}{k:Nat}{E m b:List z}{aj au:bR}(a:Ar C k (E++m) h j aj au):ot C (.func (.yield k) E b) m h j aj au:=⟨a⟩
def ant(az:dN X){P:Nat->Prop}{g:Go.aT.Node}{iW k ch cD di:Nat}{dk dI bi:z}(dA:Nat->S ai->Nat->Prop)
 (H:dZ X gn P ch dk 8 (g.es.map e8))(K:dZ X gn P cD dI 8 (g.out.map e8))(ak:dZ X gn P di bi 8 (g.loc.map e8))
 (ca:aV X h (.ptr iW 2)=some dk)(a3:aV X h (.ptr iW 3)=some dI)(a4:aV X h (.ptr iW 4)=some bi)
 (F9:∀i h j,dA i h j->(q X).bf<=j/\∀e,P e->Z X h e=Z X gn e)
 (MY:∀i h j R ap,dA i h j->bG X h j R ap->dA i R ap)
 (V:∀i o d h j,(fO g)[i]? =some (o,d)->dA i h j->Ar X k [.Z o, .agg (e8 d)] h j (λac R ap=>ac= .zT/\dA (i+1) R ap) (λ_ _ _=>False))
 (a8:dA 0 h j):ba X 45 [.func (.yield k) [] [], .ptr iW 0] h j (λ_ R ap=>dA (fO g).length R ap) (λ_ _ _=>False):=by
 refine zJ az (ajs X) ?_
 rw[ajt]
 unfold WS
 have NU:∀o,o<3->∃s b,[dk,dI,bi][o]? =some s/\dZ X gn P b s 8 ((rA g o).map e8):=by
  intro o aC
  match o,aC with
  |0,_=>exact⟨dk,ch,rfl,H⟩
  |1,_=>exact⟨dI,cD,rfl,K⟩
  |2,_=>exact⟨bi,di,rfl,ak⟩
 have amu:=(mH H.len).1
 have amB:=(mH K.len).1
 have xF:=(mH ak.len).1
 have fM:fv [.a2, .a2, .a2] [(0,1,dk),(1,1,dI),(2,1,bi)]=some (.agg [dk,dI,bi]):=by
  simp[fv,uy,wa,oE,amu,amB,xF]
 refine ey @ca @a3 @a4 ⟨?_⟩
 refine gr fM ?_
 refine cY ⟨?_⟩
 refine fP (λm I R aP=>∃(o:Nat),I.g 0=some (.func (.yield k) [] [])/\I.g 13=some (.agg [dk,dI,bi])/\I.g 14=some (.Z (o:Int))/\o+m=3/\dA (tR g o) R aP)
  3 ⟨0,bt,bt,gc,Zo,a8⟩ ?_
 rintro m I aQ bc ⟨o,t0,kn,oH,aC,A4⟩
 cases m with
 |zero=>
  have d:decide ((o:Int)<3)=false:=by simp only[Zc];omega
  refine dd @oH @d ⟨?_⟩
  rw[aaH]
  have:o=3:=Zo
  subst this
  exact A4
 |succ m=>
  have d:decide ((o:Int)<3)=true:=by simp only[Zi];omega
  obtain⟨s,b,aD,cR⟩:=NU o Zo
  have dV:yD false 3 1 (.agg [dk,dI,bi]) (.Z (o:Int))=some s:=by
   have ak:Nat.blt o 3=true:=by simp[Nat.blt];omega
   simp only[yD,pL,ak,eU,ku,pN,ZP]
   exact aD
  have e5:=cR.len
  have hX:=cR.many
  rw[Zl]at e5 hX
  refine ht @oH @kn @d @dV @e5 ⟨?_⟩
  refine fP (λm I R aP=>∃(W:Nat),I.g 0=some (.func (.yield k) [] [])/\I.g 13=some (.agg [dk,dI,bi])/\I.g 14=some (.Z (o:Int))/\I.g 3=some (.Z (o:Int))/\I.g 18=some s/\I.g 19=some (.Z ((rA g o).length:Int))/\I.g 20=some (.Z (W:Int))/\W+m=(rA g o).length/\dA (tR g o+W) R aP)
   (rA g o).length ⟨0,a6 t0,a6 kn,a6 oH,bt,bt,bt,gc,Zo,A4⟩ ?_
  rintro e6 cZ br bL ⟨W,t0,kn,oH,t3,xa,rE,EL,bx,x3⟩
  cases e6 with
  |zero=>
   have d:=zD W (rA g o).length
   have bw:=zH o
   refine ht @EL @rE @oH @d @bw ⟨?_⟩
   refine⟨m,Zo,o+1,a6 t0,a6 kn,bt,Zo, ?_⟩
   rw[awj g Zo]
   have:W=(rA g o).length:=Zo
   rw[<-this]
   exact x3
  |succ e6=>
   have d:=zE W (rA g o).length
   have bw:=zH W
   have b3:bm .add (.Z 1) (.Z (o:Int))=some (.Z (1+(o:Int))):=eG Zo Zo
   obtain⟨aN,aI⟩:=zF (rA g o) W
   obtain⟨yl,aqf⟩:=F9 _ _ _ x3
   have uT:=cR.gF W (by rw[Zl];omega)
   have gg:=(cR.ad aqf).row (i:=W) (r:=e8 aN) Zd (by rw[Zv,aI];rfl)
   have kP:e8 aN=[.str aN.name, .Z aN.at_, .bool aN.ty.b, .bool aN.ty.s, .Z aN.ty.w, .str aN.on, .Z aN.f7, .bool aN.no]:=rfl
   rw[kP]at gg
   refine lT @EL @rE @xa @d @uT @gg ⟨?_⟩
   generalize hV:bp X _ bL _=b0
   have eu:Z X b0 bL=zG [.str aN.name, .Z aN.at_, .bool aN.ty.b, .bool aN.ty.s, .Z aN.ty.w, .str aN.on, .Z aN.f7, .bool aN.no] 8:=by rw[<-hV,bz yl];rfl
   have dz:bG X br bL b0 (bL+1):=⟨Zo,λe D=>by rw[<-hV];exact zI⟩
   clear hV
   refine hm @t0 @t3 @b3 (bX eu) ⟨?_⟩
   refine at1 ((V _ _ _ _ _ (anu g Zo aI) (MY _ _ _ _ _ x3 dz)).mono ?_ (λ_ _ _ a=>False.elim a))
   rintro ac b5 cA ⟨rfl,ik⟩
   refine dd @EL @bw ⟨?_⟩
   exact⟨e6,Zo,W+1,a6 t0,a6 kn,a6 oH,a6 t3,a6 xa,a6 rE,bt,Zo,ik⟩
def Mn(az:dN X){P:Nat->Prop}{g:Go.aT.Node}{n e7 hh iW ch cD di:Nat}{dk dI bi:z}{A bj:Lt}{aj:fS}{B:Nat->fS}{r:fS}{au:s6}{I:db}(dA:Nat->S ai->Nat->Prop)
 (aM:(q X).bf<=j)(ec:e7<n)(dq:hh<n)(Sq:iW<j)
 (H:dZ X h P ch dk 8 (g.es.map e8))(K:dZ X h P cD dI 8 (g.out.map e8))(ak:dZ X h P di bi 8 (g.loc.map e8))
 (ca:aV X h (.ptr iW 2)=some dk)(a3:aV X h (.ptr iW 3)=some dI)(a4:aV X h (.ptr iW 4)=some bi)
 (F9:∀i R aP,dA i R aP->j+2<=aP/\∀e,P e->Z X R e=Z X h e)
 (MY:∀i aU aL aQ bc,dA i aU aL->aL<=bc->(∀e,e<aL->e≠j+1->Z X aQ e=Z X aU e)->dA i aQ bc)
 (a8:∀R,bG X h j R (j+2)->dA 0 R (j+2))
 (asP:∀mk i o d aU aL,(fO g)[i]? =some (o,d)->dA i aU aL->Z X aU j=some (.deferred (some []))->Z X aU (j+1)=some (mk .ready none)->
  sU X A bj (j+1) mk (λac R aP=>ac= .zT/\dA (i+1) R aP/\Z X R j=some (.deferred (some []))/\Z X R (j+1)=some (mk .ready none)) (λ_ _ _=>False) (ab (ab I e7 (.Z o)) hh (.agg (e8 d))) aU aL)
 (Dg:∀R aP,dA (fO g).length R aP->Z X R j=some (.deferred (some []))->aj (vi I j) R aP):
 Eu X n (.func (.func 45) [] [.ptr iW 0]) [e7,hh] (sU X A bj) aj B r au I h j:=by
 refine⟨aM, ?_⟩
 intro mk JC
 refine τ (az.none _ _ rfl) ?_
 generalize fi:bp X (bp X h j _) (j+1) _=aU
 have jj:Z X aU j=some (.deferred (some [])):=by rw[<-fi,aJ Zo Zo,bz aM]
 have h5:Z X aU (j+1)=some (mk .ready none):=by rw[<-fi,bz Zo]
 have cb:bG X h j aU (j+2):=⟨Zo,λe D=>by rw[<-fi];exact zI⟩
 clear fi
 have abO:=a8 aU cb
 obtain⟨_,M2⟩:=F9 _ _ _ abO
 refine(ant (k:=j+1) az (λi R aP=>dA i R aP/\Z X R j=some (.deferred (some []))/\Z X R (j+1)=some (mk .ready none)) (H.ad M2) (K.ad M2) (ak.ad M2)
  (by rw[cb.fq _ _ Sq];exact ca) (by rw[cb.fq _ _ Sq];exact a3) (by rw[cb.fq _ _ Sq];exact a4)
  (λi R aP a=> ?_) (λi aU aL aQ bc a cd=> ?_) (λi o d aU aL aA a=> ?_) ⟨abO,jj,h5⟩).Zm ?_
 ·obtain⟨cP,cG⟩:=F9 _ _ _ a.1
  exact⟨Zo,λe D=>by rw[cG e D,M2 e D]⟩
 ·obtain⟨cP,cG⟩:=F9 _ _ _ a.1
  exact⟨MY _ _ _ _ _ a.1 cd.le (λe D _=>cd.ad e D),by rw[cd.ad _ Zo];exact a.2.1,by rw[cd.ad _ Zo];exact a.2.2⟩
 ·refine JC _ _ _ _ _ a.2.2 ?_
  have bw:Nat.blt e7 n=true:=by simp[Nat.blt];omega
  have b3:Nat.blt hh n=true:=by simp[Nat.blt];omega
  simp only[Hs,bw,b3,eU]
  exact asP mk i o d aU aL aA a.1 a.2.1 a.2.2
 ·rintro ac aQ bc ⟨A4,apa,aph⟩
  obtain⟨cP,cG⟩:=F9 _ _ _ A4
  refine⟨.ready,none,Zs,aph, ?_⟩
  show aj _ _ _
  exact Dg _ _ (MY _ _ _ _ _ A4 (Zh _) (λe D J4=>aJ Zo J4)) (by rw[aJ Zo Zo];exact apa)
end
def AU{α en:Type}(st:en->α->en)(s:en){k:List α}{i:Nat}{x:α}(a:k[i]? =some x):(k.take (i+1)).foldl st s=st ((k.take i).foldl st s) x:=by
 rw[Z3,a,Y7];rfl
def lS(s:(aW->Option Int)×(Int×Int))(x:Int×eP):(aW->Option Int)×(Int×Int):=
 (λw=>if w=x.2.name then some x.1 else s.1 w,if 0<(s.1 x.2.name).getD 0 then my s.2 24 x.2.at_ else s.2)
def qU(t:aW->Option f1)(f:Int×Int)(x:Int×eP):Int×Int:=if t x.2.on=none/\x.2.on≠[]then my f 23 x.2.f7 else f
def uv(t:aW->Option f1)(g:Go.aT.Node)(f:Int×Int):Int×Int:=(fO g).foldl (qU t) ((fO g).foldl lS (λ_=>none,f)).2
section
variable{X:co}{h R gn aU aQ:S ai}{j ap aL bc:Nat}
def Mm(az:dN X){nm dk dI bi eB:z}{E:z}(aM:(q X).bf<=j):
 ba X 23 [.agg [nm,E,dk,dI,bi,eB]] h j (λac R ap=>ac= .func (.func 45) [] [.ptr j 0]/\ap=j+1/\bG X h j R ap/\aV X R (.ptr j 2)=some dk/\aV X R (.ptr j 3)=some dI/\aV X R (.ptr j 4)=some bi) (λ_ _ _=>False):=by
 refine zJ az (aiM X) ?_
 rw[aiN]
 unfold Ww
 refine cY ⟨?_⟩
 exact⟨rfl,rfl,dS,by rw[bX (bz aM)];rfl,by rw[bX (bz aM)];rfl,by rw[bX (bz aM)];rfl⟩
structure rU(X:co)(ha:S ai)(dP cT lf:Nat)(p:z)(o:Int)(dl c8:z)(f:Int×Int)(Y:aW->Option Int)(h:S ai)(n:Nat):Prop where
 le:dP+2<=n
 jW:fU X h cT p o dl c8 f
 seen:nv X h lf (n7 Y)
 low:∀e,e<dP->e≠cT->e≠lf->Z X h e=Z X ha e
def rU.ad{ha:S ai}{dP cT lf:Nat}{p dl c8:z}{o:Int}{f:Int×Int}{Y:aW->Option Int}(a:rU X ha dP cT lf p o dl c8 f Y aU aL)(m1:cT<dP)(uZ:lf<dP)(aM:aL<=bc)(aC:∀e,e<aL->e≠dP+1->Z X aQ e=Z X aU e):rU X ha dP cT lf p o dl c8 f Y aQ bc:=by
 have ge:=a.le
 refine⟨Zo, ?_,a.seen.ad (aC _ Zo Zo),λe H K ak=>by rw[aC e Zo Zo];exact a.low e H K ak⟩
 have:=a.jW
 unfold fU at*
 rw[aC _ Zo Zo];exact this
def amZ(az:dN X){P:Nat->Prop}{cT:Nat}{p dl c8:z}{o:Int}{t:aW->Option f1}{g:Go.aT.Node}{row:List z}(aM:(q X).bf<=j)(m1:(q X).bf<=cT)(yc:cT<j)
 (bW:∀e,P e->e<j/\e≠cT)(bh:vM X h P dl t){f:Int×Int}(ax:fU X h cT p o dl c8 f)(bS:ps X h P g row)(uV:True):
 ba X 42 [.ptr cT 0, .agg row] h j (λac R ap=>ac= .tuple []/\fU X R cT p o dl c8 (uv t g f)/\j<=ap/\∀e,e<j->e≠cT->Z X R e=Z X h e) (λ_ _ _=>False):=by
 refine L2 (ajm X) (az.none _ _ rfl) ?_
 rw[ajn]
 unfold WP
 obtain⟨dk,dI,bi,eB,ch,cD,di,f4,bu,rfl,pE,q7,q8,m2,e0⟩:=bS
 refine cY ⟨?_⟩
 refine ff (λaU=>Z X aU j=zG [.ptr cT 0] 1/\Z X aU (j+1)=zG [.str g.name, .Z g.at_,dk,dI,bi,eB] 6
  /\Z X aU (j+1+1)=some (.map [] 0)/\aV X aU (.ptr (j+1+1+1) 0)=some (.map (j+1+1))/\bG X h j aU (j+1+1+1+1)) ⟨by(first|assumption|(simp(disch:=omega) only[bz,aJ]<;>rfl)|(simp(disch:=omega) only[bz,aJ])),by(first|assumption|(simp(disch:=omega) only[bz,aJ]<;>rfl)|(simp(disch:=omega) only[bz,aJ])),by(first|assumption|(simp(disch:=omega) only[bz,aJ]<;>rfl)|(simp(disch:=omega) only[bz,aJ])),by rw[da,bz Zo];rfl,dS⟩ ?_
 rintro aU ⟨jK,b4,b1,cM,cb⟩
 refine(Mm az Zo).Zm ?_
 rintro ac aQ bc ⟨rfl,rfl,cu,cG,d4,fK⟩
 have nE:bG X h j aQ (j+1+1+1+1+1):=cb.trans cu
 have tL:∀e,P e->Z X aQ e=Z X h e:=λe D=>nE.ad e (bW e D).1
 rw[<-cu.ad _ Zo]at jK b4 b1
 rw[<-cu.fq _ _ Zo]at cM
 generalize Ny:j+1+1+1+1+1=dP at*
 have Gc:fU X aQ cT p o dl c8 f:=by unfold fU at*;rw[nE.ad cT yc];exact ax
 have Gs:nv X aQ (j+1+1) (n7 λ_=>none):=⟨[],0,b1,λ_=>rfl⟩
 refine gM ?_
 refine Mn (P:=P) (g:=g) (ch:=ch) (cD:=cD) (di:=di) (dk:=dk) (dI:=dI) (bi:=bi) az (λi R aP=>rU X aQ dP cT (j+1+1) p o dl c8 (((fO g).take i).foldl lS (λ_=>none,f)).2 (((fO g).take i).foldl lS (λ_=>none,f)).1 R aP) Zo Zo Zo Zo
  (pE.ad tL) (q7.ad tL) (q8.ad tL) cG d4 fK (λi R aP a=>⟨a.le,λe D=>a.low e (zC (bW e D).1) (bW e D).2 (zC (bW e D).1)⟩)
  (λi aU aL aQ bc a ge aC=>a.ad Zo Zo ge aC) (λR cd=>⟨Zh _,by unfold fU at*;rw[cd.ad _ Zo];exact Gc,Gs.ad (cd.ad _ Zo),λe D _ _=>cd.ad e D⟩) ?_ ?_
 ·intro mk i eY d br bL aA hU jj h5
  rw[AU lS _ aA]
  generalize ((fO g).take i).foldl lS (λ_=>none,f)=bZ at hU ⊢
  have ge:=hU.le
  have kP:e8 d=[.str d.name, .Z d.at_, .bool d.ty.b, .bool d.ty.s, .Z d.ty.w, .str d.on, .Z d.f7, .bool d.no]:=rfl
  rw[kP]
  unfold sU
  refine cY ⟨?_⟩
  generalize hV:bp X _ bL _=b0
  have eu:Z X b0 bL=zG [.str d.name, .Z d.at_, .bool d.ty.b, .bool d.ty.s, .Z d.ty.w, .str d.on, .Z d.f7, .bool d.no] 8:=by rw[<-hV,bz Zo];rfl
  have fb:∀e,e<bL->Z X b0 e=Z X br e:=λe D=>by rw[<-hV];exact zI
  clear hV
  refine⟨by rw[fb _ Zo];exact h5, ?_⟩
  generalize j1:bp X b0 (dP+1) _=b5
  have eZ:Z X b5 (dP+1)=some (mk .busy none):=by rw[<-j1,bz Zo]
  have eS:∀e,e≠dP+1->Z X b5 e=Z X b0 e:=λe D=>by rw[<-j1,aJ Zo D]
  clear j1
  have ik:=hU.ad (aQ:=b5) (bc:=bL+1) Zo Zo Zo (λe H K=>by rw[eS e K,fb e H])
  rw[<-eS _ Zo]at eu
  have uA:Z X b5 dP=some (.deferred (some [])):=by rw[eS _ Zo,fb _ Zo];exact jj
  have ck:aV X b5 (.ptr j 0)=some (.ptr cT 0):=by rw[bX (show Z X b5 j=_ by rw[ik.low _ Zo Zo Zo];exact jK)];rfl
  have di:aV X b5 (.ptr (j+1+1+1) 0)=some (.map (j+1+1)):=zN (ik.low _ Zo Zo Zo) cM
  have jA:l2 X b5 9 (.Z 0) (.map (j+1+1)) (.str d.name) false=some (.Z ((bZ.1 d.name).getD 0)):=by
   rw[BG ik.seen];unfold n7;cases bZ.1 d.name<;>rfl
  refine gb @di @jA (bX eu) ⟨?_⟩
  refine gM ?_
  refine gb @di @jA (bX eu) ⟨?_⟩
  refine iw (λcZ R aP=>cZ.g 4=some (.ptr (j+1+1+1) 0)/\cZ.g 6=some (.ptr bL 0)/\cZ.g 5=some (.Z eY)/\rU X aQ dP cT (j+1+1) p o dl c8 (lS bZ (eY,d)).2 bZ.1 R aP/\bL+1<=aP
   /\Z X R bL=zG [.str d.name, .Z d.at_, .bool d.ty.b, .bool d.ty.s, .Z d.ty.w, .str d.on, .Z d.f7, .bool d.no] 8/\Z X R dP=some (.deferred (some []))/\Z X R (dP+1)=some (mk .busy none)) (λW bx=> ?_) ?_
  ·by_cases aD:0<(bZ.1 d.name).getD 0
   ·have aN:decide (0<(bZ.1 d.name).getD 0)=true:=by simp[aD]
    refine ey @aN @ck (bX eu) ⟨?_⟩
    refine(vT (h:=b5) az m1 ik.jW 24 d.at_).Zm ?_
    rintro ac cp d2 ⟨rfl,aqF,rb,kz⟩
    refine cY ⟨?_⟩
    refine bx _ _ _ ⟨bt,bt,bt,⟨Zo, ?_,ik.seen.ad (kz _ Zo),λe H K ak=>by rw[kz e K];exact ik.low e H K ak⟩,Zo,by rw[kz _ Zo];exact eu,by rw[kz _ Zo];exact uA,by rw[kz _ Zo];exact eZ⟩
    unfold lS
    simp only[aD,ZC]
    exact aqF
   ·have aN:decide (0<(bZ.1 d.name).getD 0)=false:=by simp[aD]
    refine cq @aN ⟨?_⟩
    refine bx _ _ _ ⟨bt,bt,bt,⟨Zo, ?_,ik.seen,ik.low⟩,Zo,eu,uA,eZ⟩
    unfold lS
    simp only[aD,ZA]
    exact ik.jW
  ·rintro cZ cp d2 ⟨t4,g9,t5,jl,rb,eb,sh,apj⟩
   have Ns:=jl.le
   have Cz:aV X cp (.ptr (j+1+1+1) 0)=some (.map (j+1+1)):=zN (jl.low _ Zo Zo Zo) cM
   show cl _ _
   refine ht @t4 @g9 @t5 @Cz (bX eb) ⟨?_⟩
   obtain⟨cH,sz,apT,ra⟩:=KA (j:=d2) (show(q X).bf<=j+1+1 by omega) jl.seen d.name (.Z eY)
   refine kl sz ?_
   refine cY ⟨?_⟩
   refine⟨⟨.busy,none,by rw[ra _ Zo];exact apj⟩, ?_⟩
   have A6:fU X cH cT p o dl c8 (lS bZ (eY,d)).2:=by have:=jl.jW;unfold fU at*;rw[ra cT Zo];exact this
   have apU:nv X cH (j+1+1) (n7 (lS bZ (eY,d)).1):=by
    have:(λx=>if x=d.name then some (z.Z eY)else n7 bZ.1 x)=n7 (lS bZ (eY,d)).1:=by
     funext x;unfold n7 lS;by_cases a:x=d.name<;>simp[a]
    rw[<-this];exact apT
   have q1:rU X aQ dP cT (j+1+1) p o dl c8 (lS bZ (eY,d)).2 (lS bZ (eY,d)).1 cH d2:=⟨Ns,A6,apU,λe H K ak=>by rw[ra e ak];exact jl.low e H K ak⟩
   exact⟨rfl,q1.ad Zo Zo (Zh _) (λe H K=>aJ Zo K),by rw[aJ Zo Zo,ra _ Zo];exact sh,bz Zo⟩
 ·intro br bL hU jj
  rw[YU]at hU
  unfold uv
  generalize (fO g).foldl lS (λ_=>none,f)=bZ at hU ⊢
  have ge:=hU.le
  have FV:Z X br (j+1)=zG [.str g.name, .Z g.at_,dk,dI,bi,eB] 6:=by rw[hU.low _ Zo Zo Zo];exact b4
  refine cq (bX FV) ⟨?_⟩
  refine(Mm az Zo).Zm ?_
  rintro ac b0 cU ⟨rfl,rfl,dz,cG,d4,fK⟩
  generalize sA:bL+1=dj at*
  have uM:fU X b0 cT p o dl c8 bZ.2:=by have:=hU.jW;unfold fU at*;rw[dz.ad cT Zo];exact this
  have II:Z X b0 dP=some (.deferred (some [])):=by rw[dz.ad _ Zo];exact jj
  have yG:∀e,P e->Z X b0 e=Z X h e:=λe D=>by
   have:=bW e D
   rw[dz.ad e Zo,hU.low e Zo this.2 Zo,tL e D]
  have alO:Z X b0 j=zG [.ptr cT 0] 1:=by rw[dz.ad _ Zo,hU.low _ Zo Zo Zo];exact jK
  refine gM ?_
  refine Mn (P:=P) (g:=g) (ch:=ch) (cD:=cD) (di:=di) (dk:=dk) (dI:=dI) (bi:=bi) az (λi R aP=>rU X b0 dj cT (j+1+1) p o dl c8 (((fO g).take i).foldl (qU t) bZ.2) bZ.1 R aP) Zo Zo Zo Zo
   (pE.ad yG) (q7.ad yG) (q8.ad yG) cG d4 fK (λi R aP a=>⟨a.le,λe D=>a.low e (zC (bW e D).1) (bW e D).2 (zC (bW e D).1)⟩)
   (λi aU aL aQ bc a ge aC=>a.ad Zo Zo ge aC) (λR cd=>⟨Zh _,by unfold fU at*;rw[cd.ad _ Zo];exact uM,(hU.seen.ad (dz.ad _ Zo)).ad (cd.ad _ Zo),λe D _ _=>cd.ad e D⟩) ?_ ?_
  ·intro mk i eY d b5 cA aA ik uA api
   rw[AU (qU t) _ aA]
   generalize ((fO g).take i).foldl (qU t) bZ.2=G at ik ⊢
   have jz:=ik.le
   have kP:e8 d=[.str d.name, .Z d.at_, .bool d.ty.b, .bool d.ty.s, .Z d.ty.w, .str d.on, .Z d.f7, .bool d.no]:=rfl
   rw[kP]
   unfold sU
   refine cY ⟨?_⟩
   generalize jw:bp X _ cA _=cp
   have eb:Z X cp cA=zG [.str d.name, .Z d.at_, .bool d.ty.b, .bool d.ty.s, .Z d.ty.w, .str d.on, .Z d.f7, .bool d.no] 8:=by rw[<-jw,bz Zo];rfl
   have eK:∀e,e<cA->Z X cp e=Z X b5 e:=λe D=>by rw[<-jw];exact zI
   clear jw
   refine⟨by rw[eK _ Zo];exact api, ?_⟩
   generalize nF:bp X cp (dj+1) _=cH
   have eW:Z X cH (dj+1)=some (mk .busy none):=by rw[<-nF,bz Zo]
   have gG:∀e,e≠dj+1->Z X cH e=Z X cp e:=λe D=>by rw[<-nF,aJ Zo D]
   clear nF
   have q1:=ik.ad (aQ:=cH) (bc:=cA+1) Zo Zo Zo (λe H K=>by rw[gG e K,eK e H])
   rw[<-gG _ Zo]at eb
   have to:Z X cH dj=some (.deferred (some [])):=by rw[gG _ Zo,eK _ Zo];exact uA
   have ck:aV X cH (.ptr j 0)=some (.ptr cT 0):=by rw[bX (show Z X cH j=_ by rw[q1.low _ Zo Zo Zo];exact alO)];rfl
   have b9:aV X cH (.ptr cT 2)=some dl:=by have:=q1.jW;unfold fU at this;rw[bX this];rfl
   have kQ:∀R aP,rU X b0 dj cT (j+1+1) p o dl c8 (qU t G (eY,d)) bZ.1 R aP->Z X R dj=some (.deferred (some []))->(z.bool true=z.bool true/\rU X b0 dj cT (j+1+1) p o dl c8 (qU t G (eY,d)) bZ.1 (bp X R (dj+1) (some (mk .ready none))) aP/\Z X (bp X R (dj+1) (some (mk .ready none))) dj=some (.deferred (some []))/\Z X (bp X R (dj+1) (some (mk .ready none))) (dj+1)=some (mk .ready none)):=λR aP a K=>
    ⟨rfl,a.ad Zo Zo (Zh _) (λe H K=>aJ Zo K),by rw[aJ Zo Zo];exact K,bz Zo⟩
   refine tm ⟨?_⟩
   refine gM ?_
   refine ey @ck @b9 (bX eb) ⟨?_⟩
   refine ff (λea=>Z X ea (cA+1+10)=zG [.Z 0, .str [], .Z 0, .zF, .zF, .Z 0, .str [], .Z 0, .zF, .Z 0, .Z 0] 11/\bG X cH (cA+1) ea (cA+1+10+1)) ⟨by rw[bz Zo];rfl,Zo,λe D=>zI⟩ ?_
   rintro ea ⟨iX,kx⟩
   refine(MF (j:=cA+1+13) (h:=ea) az Zo (bh.ad (bk:=P) (λe D=>by have:=bW e D;rw[kx.ad e Zo,q1.low e Zo this.2 Zo,yG e D]) (λ_ a=>a)) (λe D=>zC (bW e D).1) d.on).Zm ?_
   rintro ac eC mK ⟨rfl,qb⟩
   have wz:=qb.le
   have lr:Z X eC (cA+1+10)=zG [.Z 0, .str [], .Z 0, .zF, .zF, .Z 0, .str [], .Z 0, .zF, .Z 0, .Z 0] 11:=by rw[qb.ad _ Zo];exact iX
   generalize Dv:(t d.on).getD xg=fe
   have ri:pm fe=[.Z fe.kind, .str fe.d.name, .Z fe.d.at_, .bool fe.d.ty.b, .bool fe.d.ty.s, .Z fe.d.ty.w, .str fe.d.on, .Z fe.d.f7, .bool fe.d.no, .Z fe.eq, .Z fe.left]:=rfl
   rw[ri]
   refine h4 ⟨?_⟩
   refine h4 ⟨?_⟩
   refine gr (km (o:=11) (b:=cA+1+10) (U:=0) (n:=11) lr Zo rfl Zd Zd rfl) ?_
   generalize wl:bp X eC (cA+1+10) _=ha
   have ld:∀e,e<cA+1->Z X ha e=Z X cH e:=λe D=>by rw[<-wl,aJ Zo Zo,qb.ad e Zo,kx.ad e D]
   clear wl iX lr
   have pA:rU X b0 dj cT (j+1+1) p o dl c8 G bZ.1 ha mK:=q1.ad Zo Zo Zo (λe H K=>ld e H)
   rw[<-ld _ Zo]at eb eW to
   have alQ:aV X ha (.ptr j 0)=some (.ptr cT 0):=zN (ld _ Zo) ck
   cases sv:(t d.on)with
   |some azZ=>
    have q3:qU t G (eY,d)=G:=by unfold qU;rw[Zg (by simp[sv])]
    simp only[Z6]
    refine cY ⟨?_⟩
    rw[q3]at kQ ⊢
    exact⟨⟨.busy,none,eW⟩,kQ _ _ pA to⟩
   |none=>
    simp only[Z4]
    by_cases o5:d.on=[]
    ·have q3:qU t G (eY,d)=G:=by unfold qU;rw[Zg (by simp[o5])]
     have aN:decide (d.on≠[])=false:=by simp[o5]
     refine dd (bX eb) @aN ⟨?_⟩
     rw[q3]at kQ ⊢
     exact⟨⟨.busy,none,eW⟩,kQ _ _ pA to⟩
    ·have q3:qU t G (eY,d)=my G 23 d.f7:=by unfold qU;rw[Zq ⟨sv,o5⟩]
     have aN:decide (d.on≠[])=true:=by simp[o5]
     refine ey (bX eb) @aN @alQ ⟨?_⟩
     refine(vT (h:=ha) az m1 pA.jW 23 d.f7).Zm ?_
     rintro ac akT avT ⟨rfl,Sg,arG,sw⟩
     refine cY ⟨?_⟩
     rw[q3]at kQ ⊢
     have Gp:=pA.le
     exact⟨⟨.busy,none,by rw[sw _ Zo];exact eW⟩,kQ _ _ ⟨Zo,Sg,pA.seen.ad (sw _ Zo),λe H K ak=>by rw[sw e K];exact pA.low e H K ak⟩ (by rw[sw _ Zo];exact to)⟩
  ·intro b5 cA ik uA
   rw[YU]at ik
   generalize (fO g).foldl (qU t) bZ.2=G at ik ⊢
   have jz:=ik.le
   have apc:Z X b5 dP=some (.deferred (some [])):=by rw[ik.low _ Zo Zo Zo];exact II
   show pi X [] _ _ _ _ _
   simp only[yJ,w6,Az]
   refine⟨by show(q X).bf<=dj;omega,uA, ?_⟩
   refine⟨by show(q X).bf<=dP;omega,by rw[aJ Zo Zo];exact apc, ?_⟩
   show qB _ _ _ _ _
   refine⟨rfl, ?_,Zo,λe H K=> ?_⟩
   ·have:=ik.jW
    unfold fU at*
    rw[aJ Zo Zo,aJ Zo Zo];exact this
   ·rw[aJ Zo Zo,aJ Zo Zo,ik.low e Zo K Zo,dz.ad e Zo,hU.low e Zo K Zo,nE.ad e H]
end
def kF(s:(aW->Option f1)×List aW)(x:Int×eP):(aW->Option f1)×List aW:=
 if (s.1 x.2.name).isSome then s else(λw=>if w=x.2.name then some ⟨x.1,x.2, -1, -1⟩else s.1 w,s.2++[x.2.name])
def nT(o:Nat)(t:aW->Option f1)(x:aW×Nat):aW->Option f1:=match t x.1 with
 |some v=>if v.eq<0 then(λw=>if w=x.1 then some ⟨v.kind,v.d,o,x.2⟩else t w)else t
 |none=>t
def El(t:aW->Option f1)(x:eo×Nat):aW->Option f1:=x.1.left.zipIdx.foldl (nT x.2) t
def mN(g:Go.aT.Node):(aW->Option f1)×List aW:=(fO g).foldl kF (λ_=>none,[])
def g0(g:Go.aT.Node):aW->Option f1:=g.eqs.zipIdx.foldl El (mN g).1
def kC(g:Go.aT.Node):List aW:=(mN g).2
def xc(t:aW->Option f1):aW->Option z:=λw=>(t w).map λv=> .agg (pm v)
def VI{α:Type}{k:List α}{i:Nat}{x:α}(a:k[i]? =some x):k.zipIdx[i]? =some (x,i):=by
 rw[List.getElem?_zipIdx,a];simp
section
variable{X:co}{h R gn aU aQ:S ai}{j ap aL bc:Nat}
structure r2(X:co)(ha:S ai)(dP lf dl bC:Nat)(t:aW->Option f1)(d3:List aW)(h:S ai)(n:Nat):Prop where
 le:bC<=n
 map:nv X h lf (xc t)
 Hy:∃c bi cw,Z X h dl=some (.cells c 2 .own)/\c.get 0=some (.map lf)/\c.get 1=some bi/\f0 X h bi 1 (d3.map .str) cw/\∀e∈cw,bC<=e/\e<n
 low:∀e,e<dP->e≠lf->e≠dl->Z X h e=Z X ha e
def r2.ad{ha:S ai}{dP lf dl bC:Nat}{t:aW->Option f1}{d3:List aW}(a:r2 X ha dP lf dl bC t d3 aU aL)(uZ:lf<dP)(j4:dl<dP)(l9:dP<=bC)(aM:aL<=bc)(aC:∀e,e<aL->(e<dP\/bC<=e)->Z X aQ e=Z X aU e):r2 X ha dP lf dl bC t d3 aQ bc:=by
 have ge:=a.le
 refine⟨Zo,a.map.ad (aC _ Zo Zo), ?_,λe H K ak=>by rw[aC e Zo Zo];exact a.low e H K ak⟩
 obtain⟨c,bi,cw,b4,b1,cM,eu,eZ⟩:=a.Hy
 exact⟨c,bi,cw,by rw[aC _ Zo Zo];exact b4,b1,cM,eu.ad (λe D=>by have:=eZ e D;exact aC e Zo Zo),λe D=>zC (eZ e D)⟩
def Uw(az:dN X){P:Nat->Prop}{g:Go.aT.Node}{row:List z}(aM:(q X).bf<=j)(bW:∀e,P e->e<j)(bS:ps X h P g row)(aZ:(fO g).length<=300000):
 ba X 7 [.agg row] h j (λac R ap=>∃dl lf bi b,ac= .ptr dl 0/\du j ap dl/\du j ap lf/\aV X R (.ptr dl 0)=some (.map lf)/\nv X R lf (xc (g0 g))/\aV X R (.ptr dl 1)=some bi/\dZ X R (du j ap) b bi 1 (f8 (kC g))/\bG X h j R ap) (λ_ _ _=>False):=by
 refine L2 (ako X) (az.none _ _ rfl) ?_
 rw[akp]
 unfold Xg
 obtain⟨dk,dI,bi,eB,ch,cD,di,f4,bu,rfl,pE,q7,q8,m2,e0⟩:=bS
 refine cY ⟨?_⟩
 refine ff (λaU=>Z X aU j=zG [.str g.name, .Z g.at_,dk,dI,bi,eB] 6
  /\Z X aU (j+1)=some (.map [] 0)/\Z X aU (j+1+1)=zG [.map (j+1), .a2] 2/\aV X aU (.ptr (j+1+1+1) 0)=some (.ptr (j+1+1) 0)/\bG X h j aU (j+1+1+1+1)) ⟨by(first|assumption|(simp(disch:=omega) only[bz,aJ]<;>rfl)|(simp(disch:=omega) only[bz,aJ])),by(first|assumption|(simp(disch:=omega) only[bz,aJ]<;>rfl)|(simp(disch:=omega) only[bz,aJ])),by(first|assumption|(simp(disch:=omega) only[bz,aJ]<;>rfl)|(simp(disch:=omega) only[bz,aJ])),by rw[da,bz Zo];rfl,dS⟩ ?_
 rintro aU ⟨jK,b4,b1,cM,cb⟩
 refine(Mm az Zo).Zm ?_
 rintro ac aQ bc ⟨rfl,rfl,cu,cG,d4,fK⟩
 have nE:bG X h j aQ (j+1+1+1+1+1):=cb.trans cu
 have tL:∀e,P e->Z X aQ e=Z X h e:=λe D=>nE.ad e (bW e D)
 rw[<-cu.ad _ Zo]at jK b4 b1
 rw[<-cu.fq _ _ Zo]at cM
 generalize Ny:j+1+1+1+1+1=dP at*
 refine gM ?_
 refine Mn (P:=P) (g:=g) (ch:=ch) (cD:=cD) (di:=di) (dk:=dk) (dI:=dI) (bi:=bi) az (λi R aP=>r2 X aQ dP (j+1) (j+1+1) (dP+2) (((fO g).take i).foldl kF (λ_=>none,[])).1 (((fO g).take i).foldl kF (λ_=>none,[])).2 R aP/\(((fO g).take i).foldl kF (λ_=>none,[])).2.length<=i) Zo Zo Zo Zo
  (pE.ad tL) (q7.ad tL) (q8.ad tL) cG d4 fK (λi R aP a=>⟨a.1.le,λe D=>a.1.low e (zC (bW e D)) (zC (bW e D)) (zC (bW e D))⟩)
  (λi aU aL aQ bc a ge aC=>⟨a.1.ad Zo Zo Zo ge (λe H K=>aC e H Zo),a.2⟩)
  (λR cd=>⟨⟨Zh _,⟨[],0,by rw[cd.ad _ Zo];exact b4,λ_=>rfl⟩,⟨_, .a2,[],by rw[cd.ad _ Zo];exact b1,rfl,rfl, .inl (.inl ⟨rfl,rfl,rfl⟩),λe D=>by simp at D⟩,λe D _ _=>cd.ad e D⟩,Zs⟩) ?_ ?_
 ·intro mk i eY d br bL aA hU jj h5
  rw[AU kF _ aA]
  generalize ((fO g).take i).foldl kF (λ_=>none,[])=bZ at hU ⊢
  obtain⟨hU,ej⟩:=hU
  have aBi:=(Zb.1 aA).1
  have ge:=hU.le
  have kP:e8 d=[.str d.name, .Z d.at_, .bool d.ty.b, .bool d.ty.s, .Z d.ty.w, .str d.on, .Z d.f7, .bool d.no]:=rfl
  rw[kP]
  unfold sU
  refine cY ⟨?_⟩
  generalize hV:bp X _ bL _=b0
  have eu:Z X b0 bL=zG [.str d.name, .Z d.at_, .bool d.ty.b, .bool d.ty.s, .Z d.ty.w, .str d.on, .Z d.f7, .bool d.no] 8:=by rw[<-hV,bz Zo];rfl
  have fb:∀e,e<bL->Z X b0 e=Z X br e:=λe D=>by rw[<-hV];exact zI
  clear hV
  refine⟨by rw[fb _ Zo];exact h5, ?_⟩
  generalize j1:bp X b0 (dP+1) _=b5
  have eZ:Z X b5 (dP+1)=some (mk .busy none):=by rw[<-j1,bz Zo]
  have eS:∀e,e≠dP+1->Z X b5 e=Z X b0 e:=λe D=>by rw[<-j1,aJ Zo D]
  clear j1
  have ik:=hU.ad (aQ:=b5) (bc:=bL+1) Zo Zo Zo Zo (λe H K=>by rw[eS e Zo,fb e H])
  rw[<-eS _ Zo]at eu
  have uA:Z X b5 dP=some (.deferred (some [])):=by rw[eS _ Zo,fb _ Zo];exact jj
  have di:aV X b5 (.ptr (j+1+1+1) 0)=some (.ptr (j+1+1) 0):=zN (ik.low _ Zo Zo Zo) cM
  obtain⟨ke,aC3,al4,fc,fQ,ia,oD,nf⟩:=ik.Hy
  have jA:l2 X b5 9 (.agg [.Z 0, .str [], .Z 0, .zF, .zF, .Z 0, .str [], .Z 0, .zF, .Z 0, .Z 0]) (.map (j+1)) (.str d.name) true=some (.tuple [.agg (pm ((bZ.1 d.name).getD xg)), .bool (bZ.1 d.name).isSome]):=by
   rw[BG ik.map];unfold xc;cases bZ.1 d.name<;>rfl
  generalize Dv:(bZ.1 d.name).getD xg=fe at jA
  have ri:pm fe=[.Z fe.kind, .str fe.d.name, .Z fe.d.at_, .bool fe.d.ty.b, .bool fe.d.ty.s, .Z fe.d.ty.w, .str fe.d.on, .Z fe.d.f7, .bool fe.d.no, .Z fe.eq, .Z fe.left]:=rfl
  rw[ri]at jA
  have kQ:∀R aP (G:(aW->Option f1)×List aW),r2 X aQ dP (j+1) (j+1+1) (dP+2) G.1 G.2 R aP->G.2.length<=i+1->Z X R dP=some (.deferred (some []))->(z.bool true=z.bool true/\(r2 X aQ dP (j+1) (j+1+1) (dP+2) G.1 G.2 (bp X R (dP+1) (some (mk .ready none))) aP/\G.2.length<=i+1)/\Z X (bp X R (dP+1) (some (mk .ready none))) dP=some (.deferred (some []))/\Z X (bp X R (dP+1) (some (mk .ready none))) (dP+1)=some (mk .ready none)):=λR aP G a aw K=>
   ⟨rfl,⟨a.ad Zo Zo Zo (Zh _) (λe H K=>aJ Zo Zo),aw⟩,by rw[aJ Zo Zo];exact K,bz Zo⟩
  refine tm ⟨?_⟩
  refine gM ?_
  refine ht @di (bX fc) @fQ (bX eu) @jA ⟨?_⟩
  generalize jw:bp X _ (bL+1+10) _=cp
  have eK:∀e,e<bL+1->Z X cp e=Z X b5 e:=λe D=>by rw[<-jw];exact zI
  clear jw jA
  have jl:r2 X aQ dP (j+1) (j+1+1) (dP+2) bZ.1 bZ.2 cp (bL+1+13):=ik.ad Zo Zo Zo Zo (λe H K=>eK e H)
  rw[<-eK _ Zo]at eu eZ uA
  have Cz:aV X cp (.ptr (j+1+1+1) 0)=some (.ptr (j+1+1) 0):=zN (eK _ Zo) di
  have afZ:Z X cp (j+1+1)=some (.cells ke 2 .own):=by rw[eK _ Zo];exact fc
  cases aD:bZ.1 d.name with
  |some azZ=>
   have gq:kF bZ (eY,d)=bZ:=by unfold kF;rw[Zq (by simp[aD])]
   rw[gq]
   simp only[Z6]
   refine cY ⟨?_⟩
   exact⟨⟨.busy,none,eZ⟩,kQ _ _ bZ (jl.ad Zo Zo Zo Zo (λ_ _ _=>rfl)) Zo uA⟩
  |none=>
   have gq:kF bZ (eY,d)=(λw=>if w=d.name then some ⟨eY,d, -1, -1⟩else bZ.1 w,bZ.2++[d.name]):=by unfold kF;rw[Zg (by simp[aD])]
   rw[gq]
   simp only[Z4]
   refine hm @Cz (bX afZ) @fQ (bX eu) ⟨?_⟩
   generalize fX:bL+1+13+10=N
   obtain⟨cH,sz,abS,ra⟩:=KA (j:=N) (show(q X).bf<=j+1 by omega) jl.map d.name (.agg (pm ⟨eY,d, -1, -1⟩))
   refine kl sz ?_
   have β:aV X cH (.ptr (j+1+1+1) 0)=some (.ptr (j+1+1) 0):=zN (ra _ Zo) Cz
   have af0:Z X cH (j+1+1)=some (.cells ke 2 .own):=by rw[ra _ Zo];exact afZ
   rw[<-ra _ Zo]at eu eZ uA
   refine hm @β (bX af0) @ia (bX eu) ⟨?_⟩
   generalize qe:bp X cH (N+7) _=ea
   have anq:Z X ea (N+7)=zG [.str d.name] 1:=by rw[<-qe,bz Zo]
   have h8:∀e,e<N->Z X ea e=Z X cH e:=λe D=>by rw[<-qe];exact zI
   clear qe sz
   obtain⟨e1,eC,gA,gU,adL,ab2,qk⟩:=(oD.ad (R:=ea) (λe D=>by have:=nf e D;rw[h8 e Zo,ra e Zo,eK e Zo])).append (j:=N+12) Zd (qC anq (mF _) rfl _) rfl Zd rfl (by simp;omega) Zo (λe D=>zC (nf e D))
   refine kl gU ?_
   have hw:∀e,e<N->e∉al4->Z X eC e=Z X cH e:=λe D a=>by rw[qk e Zo a,h8 e D]
   have alV:aV X eC (.ptr (j+1+1+1) 0)=some (.ptr (j+1+1) 0):=zN (hw _ Zo (λa=>zC (nf _ a))) β
   have axr:Z X eC (j+1+1)=some (.cells ke 2 .own):=by rw[hw _ Zo (λa=>zC (nf _ a))];exact af0
   refine cq @alV ⟨?_⟩
   refine ka (by simp[z.same]) ?_
   obtain⟨e7,hh,vm⟩:=je.one adL
   refine gr (rC axr Zo Zo e7 hh) ?_
   refine cY ⟨?_⟩
   generalize wl:bp X eC (j+1+1) _=ha
   have OV:Z X ha (j+1+1)=some (.cells (ke.set 1 (some e1)) 2 .own):=by rw[<-wl,bz Zo]
   have ld:∀e,e≠j+1+1->Z X ha e=Z X eC e:=λe D=>by rw[<-wl,aJ Zo D]
   clear wl
   have de:∀e,e<bL+1->(e<dP\/e=dP\/e=dP+1)->e≠j+1+1->e≠j+1->Z X ha e=Z X cp e:=λe D H K ak=>by
    rw[ld e K,hw e Zo (λa=>zC (nf _ a)),ra e ak]
   refine⟨⟨.busy,none, ?_⟩,kQ _ _ (_,bZ.2++[d.name]) ⟨Zo, ?_,⟨ke.set 1 (some e1),e1,gA,OV, ?_, ?_, ?_, ?_⟩, ?_⟩ (by simp;omega) ?_⟩
   ·rw[ld _ Zo,hw _ Zo (λa=>zC (nf _ a))];exact eZ
   ·have:(λx=>if x=d.name then some (z.agg (pm ⟨eY,d, -1, -1⟩))else xc bZ.1 x)=xc (λw=>if w=d.name then some ⟨eY,d, -1, -1⟩else bZ.1 w):=by
     funext x;unfold xc;by_cases a:x=d.name<;>simp[a]
    rw[this]at abS
    exact abS.ad (by rw[ld _ Zo,hw _ Zo (λa=>zC (nf _ a))])
   ·rw[S.kw,Zg Zd];exact fQ
   ·rw[S.kw,Zq rfl]
   ·rw[Yo]
    exact .inl (adL.ad λe D=>ld e (by rcases ab2 e D with rfl|a;omega;have:=nf _ a;omega))
   ·intro e D
    rcases ab2 e D with rfl|a
    ·omega
    ·have:=nf _ a;omega
   ·intro e H K ak
    rw[de e Zo (.inl H) ak K];exact jl.low e H K ak
   ·rw[ld _ Zo,hw _ Zo (λa=>zC (nf _ a))];exact uA
 ·intro br bL hU jj
  rw[YU]at hU
  obtain⟨hU,ej⟩:=hU
  change r2 X aQ dP (j+1) (j+1+1) (dP+2) (mN g).1 (mN g).2 br bL at hU
  change (mN g).2.length<=_ at ej
  have aoL:Z X br j=zG [.str g.name, .Z g.at_,dk,dI,bi,eB] 6:=by rw[hU.low _ Zo Zo Zo];exact jK
  have oq:=e0.wide
  have e5:=m2.len
  have hX:=m2.many
  rw[oq.1]at e5 hX
  refine dd (bX aoL) @e5 ⟨?_⟩
  refine fP (λm I R aP=>∃(W:Nat),I.g 3=some (.ptr (j+1+1+1) 0)/\I.g 54=some eB/\I.g 55=some (.Z (g.eqs.length:Int))/\I.g 56=some (.Z (W:Int))/\I.bg=[⟨.collected dP,[]⟩]/\W+m=g.eqs.length
   /\r2 X aQ dP (j+1) (j+1+1) (dP+2) ((g.eqs.zipIdx.take W).foldl El (mN g).1) (mN g).2 R aP/\Z X R dP=some (.deferred (some [])))
   g.eqs.length ⟨0,bt,bt,bt,gc,rfl,Zo,hU,jj⟩ ?_
  rintro m I b0 cU ⟨W,t3,np,pS,pj,lD,bx,qd,II⟩
  have jy:=qd.le
  cases m with
  |zero=>
   have aN:=zD W g.eqs.length
   have alT:aV X b0 (.ptr (j+1+1+1) 0)=some (.ptr (j+1+1) 0):=zN (qd.low _ Zo Zo Zo) cM
   refine ht @pj @pS @t3 @aN @alT ⟨?_⟩
   have kR:(g.eqs.zipIdx.take W).foldl El (mN g).1=g0 g:=by
    rw[ZH (by simp;omega)];rfl
   rw[kR]at qd
   show pi X [.tmp 2] _ _ _ _ _
   simp only[w6,lD]
   refine⟨by show(q X).bf<=dP;omega,II, ?_⟩
   show qB _ _ _ _ _
   unfold qB
   refine cY ⟨?_⟩
   have ik:=qd.ad (aQ:=bp X b0 dP (some (.deferred none))) Zo Zo Zo (Zh _) (λe H K=>aJ Zo Zo)
   obtain⟨c,s,cw,fc,fQ,ia,oD,nf⟩:=ik.Hy
   obtain⟨b,ah⟩:=oD.B5 (P:=du j cU) (by simp[kC]at ej ⊢;omega) (λe D=>by have:=nf e D;exact⟨Zo,Zo⟩)
   refine⟨j+1+1,j+1,s,b,rfl,⟨Zo,Zo⟩,⟨Zo,Zo⟩,by rw[bX fc];exact fQ,ik.map,by rw[bX fc];exact ia, ?_,Zo,λe D=> ?_⟩
   ·have:f8 (kC g)=((mN g).2.map z.str).map λv=>[v]:=by unfold f8 kC;rw[YA];rfl
    rw[this];exact ah
   ·rw[ik.low e Zo Zo Zo];exact nE.ad e D
  |succ m=>
   have aN:=zE W g.eqs.length
   have bw:=zH W
   obtain⟨al,bP⟩:=zF g.eqs W
   obtain⟨row,gg,Dp⟩:=e0.get W al bP
   have yG:∀e,P e->Z X b0 e=Z X h e:=λe D=>by have:=bW e D;rw[qd.low e Zo Zo Zo,tL e D]
   have dV:=m2.gF W (by rw[oq.1];omega)
   have nN:=(m2.ad yG).row Zd gg
   obtain⟨yS,B4,dF,dR,hy,rfl,it,nL,qn,sD⟩:=Dp
   have yr:=mH it.len
   have aB9:=mH nL.1.len
   have yq:=it.len
   have GB:=it.many
   rw[show(f8 al.left).length=al.left.length from by simp[f8]]at yq GB
   have cX:=AU El (mN g).1 (VI bP)
   rw[show(al,W)=(al,W) from rfl]at cX
   generalize aqi:(g.eqs.zipIdx.take W).foldl El (mN g).1=Pm at qd cX
   refine lT @pj @pS @np @aN @dV @nN ⟨?_⟩
   refine gr (km (o:=4) (b:=cU) (U:=0) (n:=4) (c:=S.ofList [.a2, .a2, .Z 0, .cW] 0 .nil) (bz Zo) Zo rfl Zd Zd sD) ?_
   generalize j1:bp X _ cU _=b5
   have eZ:aV X b5 (.ptr cU 0)=some yS:=by rw[<-j1,da,bz Zo];rfl
   have eS:∀e,e<cU->Z X b5 e=Z X b0 e:=λe D=>by rw[<-j1];exact zI
   clear j1
   have ik:r2 X aQ dP (j+1) (j+1+1) (dP+2) Pm (mN g).2 b5 (cU+1):=qd.ad Zo Zo Zo Zo (λe H K=>eS e H)
   rw[<-eS _ Zo]at II
   refine dd @eZ @yq ⟨?_⟩
   refine fP (λe6 I R aP=>∃(i:Nat),I.g 3=some (.ptr (j+1+1+1) 0)/\I.g 54=some eB/\I.g 55=some (.Z (g.eqs.length:Int))/\I.g 56=some (.Z (W:Int))/\I.bg=[⟨.collected dP,[]⟩]/\I.g 8=some (.Z (W:Int))/\I.g 62=some yS/\I.g 63=some (.Z (al.left.length:Int))/\I.g 64=some (.Z (i:Int))/\i+e6=al.left.length
    /\r2 X aQ dP (j+1) (j+1+1) (dP+2) ((al.left.zipIdx.take i).foldl (nT W) Pm) (mN g).2 R aP/\Z X R dP=some (.deferred (some [])))
    al.left.length ⟨0,a6 t3,a6 np,a6 pS,a6 pj,lD,bt,bt,bt,gc,Zo,ik,II⟩ ?_
   rintro e6 cZ cp d2 ⟨i,t3,np,pS,pj,lD,iQ,Ph,K4,Hx,aA,jl,sh⟩
   have rb:=jl.le
   cases e6 with
   |zero=>
    have aN:=zD i al.left.length
    refine ht @Hx @K4 @pj @aN @bw ⟨?_⟩
    rw[ZH (by simp;omega)]at jl
    refine⟨m,Zo,W+1,a6 t3,a6 np,a6 pS,bt,lD,Zo, ?_,sh⟩
    rw[cX]
    exact jl
   |succ e6=>
    have aN:=zE i al.left.length
    have b3:=zH i
    obtain⟨w,bF⟩:=zF al.left i
    have GX:∀e,P e->Z X cp e=Z X h e:=λe D=>by have:=bW e D;rw[jl.low e Zo Zo Zo,tL e D]
    have uT:=it.gF i (by simp[f8];omega)
    have g4:=(it.ad GX).cell i [.str w] 0 (.str w) (by unfold f8;rw[Zv,bF];rfl) rfl
    rw[ZP]at uT
    rw[ZP,ZR]at g4
    have wG:=AU (nT W) Pm (VI bF)
    generalize aqh:(al.left.zipIdx.take i).foldl (nT W) Pm=oI at jl wG
    have Cz:aV X cp (.ptr (j+1+1+1) 0)=some (.ptr (j+1+1) 0):=zN (jl.low _ Zo Zo Zo) cM
    obtain⟨un,aC4,aAB,fc,fQ,ia,oD,nf⟩:=jl.Hy
    have jA:l2 X cp 9 (.agg [.Z 0, .str [], .Z 0, .zF, .zF, .Z 0, .str [], .Z 0, .zF, .Z 0, .Z 0]) (.map (j+1)) (.str w) true=some (.tuple [.agg (pm ((oI w).getD xg)), .bool (oI w).isSome]):=by
     rw[BG jl.map];unfold xc;cases oI w<;>rfl
    generalize Dv:(oI w).getD xg=fe at jA
    have ri:pm fe=[.Z fe.kind, .str fe.d.name, .Z fe.d.at_, .bool fe.d.ty.b, .bool fe.d.ty.s, .Z fe.d.ty.w, .str fe.d.on, .Z fe.d.f7, .bool fe.d.no, .Z fe.eq, .Z fe.left]:=rfl
    rw[ri]at jA
    refine eD @Hx @K4 @Ph @t3 @aN @uT (Za @g4 (Za @Cz (Za (bX fc) (Za @fQ @jA)))) ⟨?_⟩
    generalize nF:bp X _ d2 _=cH
    have eW:Z X cH d2=zG [.Z fe.kind, .str fe.d.name, .Z fe.d.at_, .bool fe.d.ty.b, .bool fe.d.ty.s, .Z fe.d.ty.w, .str fe.d.on, .Z fe.d.f7, .bool fe.d.no, .Z fe.eq, .Z fe.left] 11:=by rw[<-nF,bz Zo];rfl
    have gG:∀e,e<d2->Z X cH e=Z X cp e:=λe D=>by rw[<-nF];exact zI
    clear nF
    have q1:r2 X aQ dP (j+1) (j+1+1) (dP+2) oI (mN g).2 cH (d2+1):=jl.ad Zo Zo Zo Zo (λe H K=>gG e H)
    rw[<-gG _ Zo]at sh
    cases aD:oI w with
    |none=>
     have gq:nT W oI (w,i)=oI:=by unfold nT;simp only[aD]
     simp only[Z4]
     refine dd @Hx @b3 ⟨?_⟩
     exact⟨e6,Zo,i+1,a6 t3,a6 np,a6 pS,a6 pj,lD,a6 iQ,a6 Ph,a6 K4,bt,Zo,by rw[wG,gq];exact q1,sh⟩
    |some v=>
     have atp:v=fe:=by rw[aD]at Dv;exact Dv
     subst atp
     simp only[Z6]
     by_cases NA:v.eq<0
     ·have cE:decide (v.eq<0)=true:=by simp[NA]
      have gq:nT W oI (w,i)=λx=>if x=w then some ⟨v.kind,v.d,W,i⟩else oI x:=by unfold nT;simp only[aD,NA,ZC]
      refine hm (bX eW) @cE @iQ @Hx ⟨?_⟩
      generalize qe:bp X (bp X cH d2 _) d2 _=ea
      have iX:Z X ea d2=zG [.Z v.kind, .str v.d.name, .Z v.d.at_, .bool v.d.ty.b, .bool v.d.ty.s, .Z v.d.ty.w, .str v.d.on, .Z v.d.f7, .bool v.d.no, .Z W, .Z i] 11:=by rw[<-qe,bz Zo];rfl
      have h8:∀e,e≠d2->Z X ea e=Z X cH e:=λe D=>by rw[<-qe,aJ Zo D,aJ Zo D]
      clear qe eW
      have k8:r2 X aQ dP (j+1) (j+1+1) (dP+2) oI (mN g).2 ea (d2+1):=⟨q1.le,q1.map.ad (h8 _ Zo),by
       obtain⟨c,s,cw,cP,cG,d4,fK,mj⟩:=jl.Hy
       exact⟨c,s,cw,by rw[h8 _ Zo,gG _ Zo];exact cP,cG,d4,fK.ad (λe D=>by have:=mj e D;rw[h8 e Zo,gG e Zo]),λe D=>zC (mj e D)⟩,
       λe H K ak=>by rw[h8 e Zo];exact q1.low e H K ak⟩
      have alU:aV X ea (.ptr (j+1+1+1) 0)=some (.ptr (j+1+1) 0):=by rw[da,h8 _ Zo,gG _ Zo, <-da];exact Cz
      have axq:Z X ea (j+1+1)=some (.cells un 2 .own):=by rw[h8 _ Zo,gG _ Zo];exact fc
      refine ht @t3 @alU (bX axq) @fQ (bX iX) ⟨?_⟩
      obtain⟨eC,sz,aqb,qk⟩:=KA (j:=d2+1+7) (show(q X).bf<=j+1 by omega) k8.map w (.agg (pm ⟨v.kind,v.d,W,i⟩))
      refine kl sz ?_
      refine dd @Hx @b3 ⟨?_⟩
      refine⟨e6,Zo,i+1,a6 t3,a6 np,a6 pS,a6 pj,lD,a6 iQ,a6 Ph,a6 K4,bt,Zo, ?_,by rw[qk _ Zo,h8 _ Zo];exact sh⟩
      rw[wG,gq]
      refine⟨Zo, ?_, ?_,λe H K ak=>by rw[qk e K];exact k8.low e H K ak⟩
      ·have:(λx=>if x=w then some (z.agg (pm ⟨v.kind,v.d,W,i⟩))else xc oI x)=xc (λx=>if x=w then some ⟨v.kind,v.d,W,i⟩else oI x):=by
        funext x;unfold xc;by_cases a:x=w<;>simp[a]
       rw[<-this];exact aqb
      ·obtain⟨c,s,cw,cP,cG,d4,fK,mj⟩:=k8.Hy
       exact⟨c,s,cw,by rw[qk _ Zo];exact cP,cG,d4,fK.ad (λe D=>by have:=mj e D;exact qk e Zo),λe D=>zC (mj e D)⟩
     ·have cE:decide (v.eq<0)=false:=by simp[NA]
      have gq:nT W oI (w,i)=oI:=by unfold nT;simp only[aD,NA,ZA]
      refine hm (bX eW) @cE @Hx @b3 ⟨?_⟩
      exact⟨e6,Zo,i+1,a6 t3,a6 np,a6 pS,a6 pj,lD,a6 iQ,a6 Ph,a6 K4,bt,Zo,by rw[wG,gq];exact q1,sh⟩
end
end
end Go.Proofs.YtendhgofocgngaaGreatDoor

namespace Go.aT
structure iH where
 N:aW->Prop
 Fs:ig->Prop
 L:ig->Int->Prop
 bf:∀s,N s->s≠[]
 dl:Fs ⟨true,false,1⟩
 fH:L ⟨true,false,1⟩ 0
 cO:L ⟨true,false,1⟩ 1
 lt:∀t n,L t n->Fs t
 A:Int->Prop
 a0:A 0
structure Cr(bv:iH)(x:Tok):Prop where
 name:x.kind=1->bv.N x.text
 type:x.kind=3->bv.Fs x.ty
 num:x.kind=4->0<=x.n
 lit:x.kind=5->bv.L x.ty x.n
 pos:x.kind≠7->bv.A x.at_
def gQ(bv:iH)(k:List Tok):Prop:=∀x∈k,Cr bv x
def gQ.pk{bv:iH}{x:Tok}{k:List Tok}(a:gQ bv (x::k)):gQ bv k:=λe D=>a e (Zt _ D)
def gQ.aI{bv:iH}{x:Tok}{k:List Tok}(a:gQ bv (x::k)):Cr bv x:=a x (Zu ..)
def r9(o:Int):Option Nat:=if o=25 then none else if o=1\/o=2 then some 0 else if o=3\/o=4\/o=5\/o=6\/o=19\/o=20\/o=26 then some 1 else if o=23 then some 3 else some 2
def tv(o:Int):Prop:=o=2\/o=6\/o=24\/o=25
def tw(o:Int):Prop:=o=1\/o=26
structure HV(bv:iH)(B:bs):Prop where
 Qk:bv.A B.at_
 bJ:1<=B.kind
 b2:B.kind<=26
 Fz:∀m,r9 B.kind=some m->B.args.length=m
 nm:tv B.kind->bv.N B.name
 Oz:¬tv B.kind->B.name=[]
 no:B.no=true->B.kind=6
 ty:tw B.kind->bv.Fs B.ty
 dC:¬tw B.kind->B.ty=dC
 afn:B.kind=1->bv.L B.ty B.n
 d3:B.kind=19\/B.kind=20->0<=B.n/\B.n<=63
 bf:B.kind≠1->B.kind≠19->B.kind≠20->B.n=0
 jY:B.kind=21->∃k r,B.args=[k,r]/\(k.kind=1\/k.kind=4/\∃x,k.args=[x]/\x.kind=1)
mutual
def fl(bv:iH):bs->Prop
 | .mk o E nm no ty n args=>HV bv (.mk o E nm no ty n args)/\f2 bv args
def f2(bv:iH):List bs->Prop
 |[]=>True
 |B::k=>fl bv B/\f2 bv k
end
def fl.eq{bv:iH}(B:bs):fl bv B=(HV bv B/\f2 bv B.args):=by cases B;rw[fl];rfl
def f2.cons{bv:iH}{B:bs}{k:List bs}(a:fl bv B)(o:f2 bv k):f2 bv (B::k):=by rw[f2];exact⟨a,o⟩
def f2.nil{bv:iH}:f2 bv []:=by rw[f2];trivial
def f2.app{bv:iH}{B:bs}(a:fl bv B):∀{k:List bs},f2 bv k->f2 bv (k++[B]):=by
 intro k
 induction k with
 |nil=>intro _;exact f2.cons a f2.nil
 |cons E k ag=>intro o;rw[f2]at o;exact f2.cons o.1 (ag o.2)
def dp(bv:iH){α:Type}(bk:α->Prop)(x:ft α):Prop:=∀E bQ,x=some (.ok (E,bQ))->gQ bv bQ/\bk E
section
variable{bv:iH}{α en:Type}
def dp.none{bk:α->Prop}:dp bv bk none:=λ_ _ a=>by cases a
def dp.ok{bk:α->Prop}{E:α}{k:List Tok}(a:gQ bv k)(al:bk E):dp bv bk (aT.ok E k):=λfu bQ B=>by cases B;exact⟨a,al⟩
def dp.bad{bk:α->Prop}(E:Int):dp bv bk (aT.bad E:ft α):=λfu bQ B=>by cases B
def dp.andThen{bk:α->Prop}{mV:en->Prop}{x:ft α}{f:α->List Tok->ft en}(a:dp bv bk x)(o:∀E bQ,gQ bv bQ->bk E->dp bv mV (f E bQ)):dp bv mV (aT.andThen x f):=by
 unfold aT.andThen
 split
 ·exact dp.none
 ·exact λ_ _ B=>by cases B
 ·rename_i E k
  obtain⟨H,K⟩:=a E k rfl
  exact o E k H K
def Cr.gH{x:Tok}{s:aW}(a:Cr bv x)(aD:gH x s=true):bv.A x.at_:=a.pos λB=>by simp[aT.gH,B]at aD
def nY{s:aW}{k:List Tok}(a:gQ bv k):dp bv (λx:Tok=>bv.A x.at_) (dX s k):=by
 cases k with
 |nil=>exact dp.none
 |cons x k=>
  simp only[dX]
  split
  ·rename_i aD;exact dp.ok a.pk (a.aI.gH aD)
  ·exact dp.bad _
def vd{o:Int}{k:List Tok}(a:gQ bv k):dp bv (λx:Tok=>Cr bv x/\x.kind=o) (il o k):=by
 cases k with
 |nil=>exact dp.none
 |cons x k=>
  simp only[il]
  split
  ·rename_i aD;exact dp.ok a.pk ⟨a.aI,aD⟩
  ·exact dp.bad _
def pU{s:aW}{k:List Tok}{f:Option Tok->List Tok->ft en}{bk:en->Prop}(a:gQ bv k)(H:∀x bQ,bv.A x.at_->gQ bv bQ->dp bv bk (f (some x) bQ))(K:dp bv bk (f none k)):dp bv bk (hM s k f):=by
 cases k with
 |nil=>exact dp.none
 |cons x k=>
  unfold hM kZ
  by_cases aD:gH x s=true
  ·simp only[aD,ZC];exact H x k (a.aI.gH aD) a.pk
  ·simp only[aD,ZA];exact K
def LR{k:List Tok}(a:gQ bv k):∀(os:List (aW×Int)) B bQ,mX os k=some (B,bQ)->gQ bv bQ/\∀x,B=some x->∃U∈os,∃E,bv.A E/\x= .mk U.2 E [] false dC 0 []:=by
 intro os
 induction os with
 |nil=>intro B bQ a7;cases a7;exact⟨a,λx af=>by cases af⟩
 |cons U os ag=>
  obtain⟨s,o⟩:=U
  intro B bQ a7
  cases k with
  |nil=>simp[mX,kZ]at a7
  |cons x k=>
   unfold mX kZ at a7
   by_cases aD:gH x s=true
   ·simp only[aD,ZC]at a7
    cases a7
    exact⟨a.pk,λe D=>by cases D;exact⟨_,Zu ..,_,a.aI.gH aD,rfl⟩⟩
   ·simp only[aD,ZA]at a7
    obtain⟨H,K⟩:=ag B bQ a7
    exact⟨H,λe D=>by obtain⟨U,aS,E,aB⟩:=K e D;exact⟨U,Zt _ aS,E,aB⟩⟩
def ag7{o E:Int}{x e:bs}(aC:7<=o/\o<=18\/o=22)(af:fl bv x)(D:fl bv e)(aB:bv.A E):fl bv (.mk o E [] false dC 0 [x,e]):=by
 rw[fl.eq]
 refine⟨⟨aB,by simp only[bs.kind];omega,by simp only[bs.kind];omega, ?_, ?_,λ_=>rfl,(λa=>absurd a (by simp[bs.no])), ?_,λ_=>rfl, ?_, ?_,λ_ _ _=>rfl, ?_⟩,f2.cons af (f2.cons D f2.nil)⟩
 ·intro m aZ
  have sy:r9 o=some m:=aZ
  unfold r9 at sy
  rw[Zg Zo,Zg Zo,Zg Zo,Zg Zo]at sy
  cases sy;rfl
 ·intro a;simp only[tv,bs.kind]at a;omega
 ·intro a;simp only[tw,bs.kind]at a;omega
 ·intro a;simp only[bs.kind]at a;omega
 ·intro a;simp only[bs.kind]at a;omega
 ·intro a;simp only[bs.kind]at a;omega
def Ld{o E n:Int}{nm:aW}{no:Bool}{ty:ig}{x:bs}(aC:o=3\/o=4\/o=5\/o=6\/o=19\/o=20\/o=26)(gf:o=6->bv.N nm)(gL:o≠6->nm=[]/\no=false)(bh:o=26->bv.Fs ty)(Tp:o≠26->ty=dC)(aM:o=19\/o=20->0<=n/\n<=63)(ar6:o≠19->o≠20->n=0)(af:fl bv x)(aB:bv.A E):fl bv (.mk o E nm no ty n [x]):=by
 rw[fl.eq]
 refine⟨⟨aB,by simp only[bs.kind];omega,by simp only[bs.kind];omega, ?_, ?_, ?_, ?_, ?_, ?_, ?_,aM, ?_, ?_⟩,f2.cons af f2.nil⟩
 ·intro m aZ
  have sy:r9 o=some m:=aZ
  unfold r9 at sy
  rw[Zg Zo,Zg Zo,Zq aC]at sy
  cases sy;rfl
 ·intro a;simp only[tv,bs.kind]at a;exact gf Zo
 ·intro a;simp only[tv,bs.kind]at a;exact(gL Zo).1
 ·intro a
  by_cases bV:o=6
  ·exact bV
  ·have cy:no=true:=a
   rw[(gL bV).2]at cy;cases cy
 ·intro a;simp only[tw,bs.kind]at a;exact bh Zo
 ·intro a;simp only[tw,bs.kind]at a;exact Tp Zo
 ·intro a;simp only[bs.kind]at a;omega
 ·intro H K ak;exact ar6 K ak
 ·intro a;simp only[bs.kind]at a;omega
def ag6{E n:Int}{ty:ig}(a:bv.L ty n)(aB:bv.A E):fl bv (.mk 1 E [] false ty n []):=by
 rw[fl.eq]
 exact⟨⟨aB,by simp[bs.kind],by simp[bs.kind],λm aZ=>by simp[r9,bs.kind]at aZ;simp[bs.args, <-aZ],λa=>by simp[tv,bs.kind]at a,λ_=>rfl,(λa=>absurd a (by simp[bs.no])),λ_=>bv.lt _ _ a,λa=>by simp[tw,bs.kind]at a,λ_=>a,λa=>by simp[bs.kind]at a,λa=>by simp[bs.kind]at a,λa=>by simp[bs.kind]at a⟩,f2.nil⟩
def aAc{E:Int}{nm:aW}(a:bv.N nm)(aB:bv.A E):fl bv (.mk 2 E nm false dC 0 []):=by
 rw[fl.eq]
 exact⟨⟨aB,by simp[bs.kind],by simp[bs.kind],λm aZ=>by simp[r9,bs.kind]at aZ;simp[bs.args, <-aZ],λ_=>a,λa=>by simp[tv,bs.kind]at a,(λa=>absurd a (by simp[bs.no])),λa=>by simp[tw,bs.kind]at a,λ_=>rfl,λa=>by simp[bs.kind]at a,λa=>by simp[bs.kind]at a,λ_ _ _=>rfl,λa=>by simp[bs.kind]at a⟩,f2.nil⟩
def az8{E:Int}{nm:aW}{cg:List bs}(a:bv.N nm)(o:f2 bv cg)(aB:bv.A E):fl bv (.mk 25 E nm false dC 0 cg):=by
 rw[fl.eq]
 exact⟨⟨aB,by simp[bs.kind],by simp[bs.kind],λm aZ=>by simp[r9,bs.kind]at aZ,λ_=>a,λa=>by simp[tv,bs.kind]at a,(λa=>absurd a (by simp[bs.no])),λa=>by simp[tw,bs.kind]at a,λ_=>rfl,λa=>by simp[bs.kind]at a,λa=>by simp[bs.kind]at a,λ_ _ _=>rfl,λa=>by simp[bs.kind]at a⟩,o⟩
def aAa{E:Int}{x e aG:bs}(af:fl bv x)(D:fl bv e)(ce:fl bv aG)(aB:bv.A E):fl bv (.mk 23 E [] false dC 0 [x,e,aG]):=by
 rw[fl.eq]
 exact⟨⟨aB,by simp[bs.kind],by simp[bs.kind],λm aZ=>by simp[r9,bs.kind]at aZ;simp[bs.args, <-aZ],λa=>by simp[tv,bs.kind]at a,λ_=>rfl,(λa=>absurd a (by simp[bs.no])),λa=>by simp[tw,bs.kind]at a,λ_=>rfl,λa=>by simp[bs.kind]at a,λa=>by simp[bs.kind]at a,λ_ _ _=>rfl,λa=>by simp[bs.kind]at a⟩,f2.cons af (f2.cons D (f2.cons ce f2.nil))⟩
def aAb{E:Int}{nm:aW}{x e:bs}(a:bv.N nm)(af:fl bv x)(D:fl bv e)(aB:bv.A E):fl bv (.mk 24 E nm false dC 0 [x,e]):=by
 rw[fl.eq]
 exact⟨⟨aB,by simp[bs.kind],by simp[bs.kind],λm aZ=>by simp[r9,bs.kind]at aZ;simp[bs.args, <-aZ],λ_=>a,λa=>by simp[tv,bs.kind]at a,(λa=>absurd a (by simp[bs.no])),λa=>by simp[tw,bs.kind]at a,λ_=>rfl,λa=>by simp[bs.kind]at a,λa=>by simp[bs.kind]at a,λ_ _ _=>rfl,λa=>by simp[bs.kind]at a⟩,f2.cons af (f2.cons D f2.nil)⟩
def az9{E:Int}{x e:bs}(a:sK x=some true)(af:fl bv x)(D:fl bv e)(aB:bv.A E):fl bv (.mk 21 E [] false dC 0 [x,e]):=by
 rw[fl.eq]
 refine⟨⟨aB,by simp[bs.kind],by simp[bs.kind],λm aZ=>by simp[r9,bs.kind]at aZ;simp[bs.args, <-aZ],λa=>by simp[tv,bs.kind]at a,λ_=>rfl,(λa=>absurd a (by simp[bs.no])),λa=>by simp[tw,bs.kind]at a,λ_=>rfl,λa=>by simp[bs.kind]at a,λa=>by simp[bs.kind]at a,λ_ _ _=>rfl,λ_=>⟨x,e,rfl, ?_⟩⟩,f2.cons af (f2.cons D f2.nil)⟩
 unfold sK at a
 split at a
 ·rename_i H;exact .inl H
 ·split at a
  ·rename_i H ay
   refine .inr ⟨ay, ?_⟩
   have qs:=af
   rw[fl.eq]at qs
   have aw:=qs.1.Fz 1 (by rw[ay];rfl)
   cases aB:x.args with
   |nil=>rw[aB]at aw;cases aw
   |cons b k=>
    rw[aB]at aw a
    cases k with
    |nil=>exact⟨b,rfl,by simpa using a⟩
    |cons c k=>simp at aw
  ·cases a
def awA:∀(o:Nat) (U:aW×Int),U∈ao o->7<=U.2/\U.2<=18:=by
 intro o U a
 match o with
 |0=>simp[ao]at a;rcases a with rfl|rfl<;>decide
 |1=>simp[ao]at a;subst a;decide
 |2=>simp[ao]at a;rcases a with rfl|rfl|rfl|rfl|rfl|rfl<;>decide
 |3=>simp[ao]at a;rcases a with rfl|rfl<;>decide
 |4=>simp[ao]at a;subst a;decide
 |n+5=>simp[ao]at a
def aw5(U:aW×Int)(a:U∈yR):U.2=3\/U.2=4\/U.2=5:=by
 simp[yR]at a;rcases a with rfl|rfl|rfl<;>simp
end
end Go.aT

namespace Go.aT
structure ahm(bv:iH)(n:Nat):Prop where
 level:∀o k,gQ bv k->dp bv (fl bv) (level n o k)
 m7:∀o B k,gQ bv k->fl bv B->dp bv (fl bv) (m7 n o B k)
 shift:∀k,gQ bv k->dp bv (fl bv) (shift n k)
 nj:∀B k,gQ bv k->fl bv B->dp bv (fl bv) (nj n B k)
 nk:∀o x B k,o=19\/o=20->bv.A x.at_->gQ bv k->fl bv B->dp bv (fl bv) (nk n o x B k)
 tT:∀k,gQ bv k->dp bv (fl bv) (sR n k)
 l4:∀B k,gQ bv k->fl bv B->dp bv (fl bv) (l4 n B k)
 part:∀k,gQ bv k->dp bv (fl bv) (part n k)
 list:∀k,gQ bv k->dp bv (f2 bv) (list n k)
 m8:∀cg k,gQ bv k->f2 bv cg->dp bv (f2 bv) (m8 n cg k)
 kM:∀k,gQ bv k->dp bv (fl bv) (kM n k)
 arrow:∀k,gQ bv k->dp bv (fl bv) (arrow n k)
def alq(bv:iH):∀n,ahm bv n:=by
 intro n
 induction n with
 |zero=>constructor<;>intros<;>exact dp.none
 |succ n ag=>
  constructor
  case level=>
   intro o k aw
   rw[level]
   split
   ·exact ag.shift k aw
   ·exact(ag.level (o+1) k aw).andThen λB bQ H K=>ag.m7 o B bQ H K
  case m7=>
   intro o B k aw a7
   rw[m7]
   split
   ·exact dp.none
   ·rename_i bQ ah
    exact dp.ok (LR aw _ _ _ ah).1 a7
   ·rename_i x bQ ah
    obtain⟨H,K⟩:=LR aw _ _ _ ah
    obtain⟨U,aS,E,aB,rfl⟩:=K _ rfl
    have aC:=awA _ _ aS
    refine(ag.level (o+1) bQ H).andThen λr b9 bJ b2=> ?_
    have bh:fl bv (two (.mk U.2 E [] false dC 0 []) B r):=ag7 (o:=U.2) (.inl aC) a7 b2 aB
    split
    ·exact dp.ok bJ bh
    ·exact ag.m7 o _ b9 bJ bh
  case shift=>
   intro k aw
   rw[shift]
   exact(ag.tT k aw).andThen λB bQ H K=>ag.nj B bQ H K
  case nj=>
   intro B k aw a7
   rw[nj]
   refine pU aw (λx bQ aB H=>ag.nk 19 x B bQ (.inl rfl) aB H a7) ?_
   exact pU aw (λx bQ aB H=>ag.nk 20 x B bQ (.inr rfl) aB H a7) (dp.ok aw a7)
  case nk=>
   intro o x B k aC aB aw a7
   rw[nk]
   refine(vd aw).andThen λm bQ H K=> ?_
   split
   ·exact dp.bad _
   ·rename_i aA0
    have a8:=K.1.num K.2
    exact ag.nj _ bQ H (Ld Zo (λa=>Zo) (λ_=>⟨rfl,rfl⟩) (λa=>Zo) (λ_=>rfl) (λ_=>⟨a8,Zo⟩) (λH K=>Zo) a7 aB)
  case tT=>
   intro k aw
   rw[sR]
   split
   ·exact dp.none
   ·rename_i x bQ ah
    obtain⟨H,K⟩:=LR aw _ _ _ ah
    obtain⟨U,aS,E,aB,rfl⟩:=K _ rfl
    have aC:=aw5 _ aS
    refine(ag.tT bQ H).andThen λB b9 bJ b2=>dp.ok bJ ?_
    exact Ld (o:=U.2) Zo (λa=>Zo) (λ_=>⟨rfl,rfl⟩) (λa=>Zo) (λ_=>rfl) (λa=>Zo) (λ_ _=>rfl) b2 aB
   ·rename_i bQ ah
    exact(ag.part bQ (LR aw _ _ _ ah).1).andThen λB b9 bJ b2=>ag.l4 B b9 bJ b2
  case l4=>
   intro B k aw a7
   rw[l4]
   refine pU aw (λx bQ aB H=> ?_) (dp.ok aw a7)
   refine pU H (λe b9 _ bJ=> ?_) ?_
   ·refine(vd bJ).andThen λm d9 ek fN=> ?_
    exact ag.l4 _ d9 ek (Ld Zo (λ_=>fN.1.name fN.2) (λa=>absurd rfl a) (λa=>Zo) (λ_=>rfl) (λa=>Zo) (λ_ _=>rfl) a7 aB)
   ·refine(vd H).andThen λm d9 ek fN=> ?_
    exact ag.l4 _ d9 ek (Ld Zo (λ_=>fN.1.name fN.2) (λa=>absurd rfl a) (λa=>Zo) (λ_=>rfl) (λa=>Zo) (λ_ _=>rfl) a7 aB)
  case list=>
   intro k aw
   rw[list]
   refine pU aw (λx bQ _ H=>dp.ok H f2.nil) ?_
   exact(ag.arrow k aw).andThen λB b9 bJ b2=>ag.m8 _ b9 bJ (f2.cons b2 f2.nil)
  case m8=>
   intro cg k aw aB
   rw[m8]
   refine pU aw (λx bQ _ H=> ?_) ?_
   ·exact(ag.arrow bQ H).andThen λB b9 bJ b2=>ag.m8 _ b9 bJ (f2.app b2 aB)
   ·exact(nY aw).andThen λ_ bQ H _=>dp.ok H aB
  case kM=>
   intro k aw
   rw[kM]
   refine(ag.level 0 k aw).andThen λB b9 bJ b2=> ?_
   refine pU bJ (λx bQ aB H=> ?_) (dp.ok bJ b2)
   simp only[]
   split
   ·exact dp.none
   ·rename_i Bd
    exact(ag.kM bQ H).andThen λr d9 ek fN=>dp.ok ek (az9 Bd b2 fN aB)
   ·exact dp.bad _
  case arrow=>
   intro k aw
   rw[arrow]
   refine(ag.kM k aw).andThen λB b9 bJ b2=> ?_
   refine pU bJ (λx bQ aB H=> ?_) (dp.ok bJ b2)
   exact(ag.arrow bQ H).andThen λr d9 ek fN=>dp.ok ek (ag7 (.inr rfl) b2 fN aB)
  case part=>
   intro k aw
   cases k with
   |nil=>rw[part];exact dp.none
   |cons x k=>
   have af:=aw.aI
   have hn:=aw.pk
   rw[part]
   by_cases ke:x.kind=5
   ·rw[Zq ke]
    exact dp.ok hn (ag6 (af.lit ke) (af.pos (by rw[ke];decide)))
   rw[Zg ke]
   split
   ·rename_i K
    refine dp.ok hn (ag6 ?_ (af.pos λB=>by simp[B]at K))
    split
    ·exact bv.cO
    ·exact bv.fH
   by_cases dF:x.kind=1
   ·rw[Zq dF]
    refine pU hn (λe b9 _ H=> ?_) (dp.ok hn (aAc (af.name dF) (af.pos (by rw[dF];decide))))
    exact(ag.list b9 H).andThen λcg d9 ek fN=>dp.ok ek (az8 (af.name dF) fN (af.pos (by rw[dF];decide)))
   rw[Zg dF]
   by_cases g3:x.kind=3
   ·rw[Zq g3]
    refine(nY hn).andThen λ_ b9 H _=> ?_
    refine(ag.arrow b9 H).andThen λB d9 ek fN=> ?_
    refine(nY ek).andThen λ_ fI e7 _=> ?_
    exact dp.ok e7 (Ld Zo (λa=>Zo) (λ_=>⟨rfl,rfl⟩) (λ_=>af.type g3) (λa=>absurd rfl a) (λa=>Zo) (λ_ _=>rfl) fN (af.pos (by rw[g3];decide)))
   rw[Zg g3]
   split
   ·refine(ag.arrow k hn).andThen λB d9 ek fN=> ?_
    refine(nY ek).andThen λ_ fI e7 _=> ?_
    exact dp.ok e7 fN
   split
   ·rename_i K
    refine(ag.arrow k hn).andThen λB d9 ek fN=> ?_
    refine(nY ek).andThen λ_ fI e7 _=> ?_
    refine(ag.arrow fI e7).andThen λb3 fA cP cG=> ?_
    refine(nY cP).andThen λ_ ly fc _=> ?_
    refine(ag.arrow ly fc).andThen λer lz kI lB=> ?_
    exact dp.ok kI (aAa fN cG lB (af.pos λB=>by simp[B]at K))
   split
   ·rename_i K
    refine(vd hn).andThen λc b9 H ax=> ?_
    refine(ag.part b9 H).andThen λB d9 ek fN=> ?_
    refine(ag.part d9 ek).andThen λb3 fI e7 hh=> ?_
    exact dp.ok e7 (aAb (ax.1.name ax.2) fN hh (af.pos λB=>by simp[B]at K))
   ·exact dp.bad _
structure pZ(bv:iH)(d:eP):Prop where
 name:bv.N d.name
 type:bv.Fs d.ty
 on:d.on≠[]->bv.N d.on
 no:d.on=[]->d.no=false
 Qk:bv.A d.at_
 op:bv.A d.f7
structure HO(bv:iH)(al:eo):Prop where
 left:∀s∈al.left,bv.N s
 some:al.left≠[]
 right:fl bv al.right
 Qk:bv.A al.at_
 aCH:∀E∈al.cL,bv.A E
structure r0(bv:iH)(g:Node):Prop where
 name:bv.N g.name
 es:∀d∈g.es,pZ bv d
 out:∀d∈g.out,pZ bv d
 loc:∀d∈g.loc,pZ bv d
 some:g.out≠[]
 eqs:∀al∈g.eqs,HO bv al
 Qk:bv.A g.at_
def xr(bv:iH)(ci:List Tok):Prop:=∀x∈ci,bv.N x.text/\bv.A x.at_
def xr.app{bv:iH}{x:Tok}{ci:List Tok}(a:xr bv ci)(af:bv.N x.text/\bv.A x.at_):xr bv (ci++[x]):=by
 intro e D
 rcases Zx.1 D with D|D
 ·exact a e D
 ·simp at D;subst D;exact af
def afd{bv:iH}:∀(n:Nat) (cg k:List Tok),gQ bv k->xr bv cg->dp bv (λci=>xr bv ci/\ci≠[]) (pe n cg k):=by
 intro n
 induction n with
 |zero=>intro cg k _ _;rw[pe];exact dp.none
 |succ n ag=>
  intro cg k aw aB
  rw[pe]
  refine(vd aw).andThen λx bQ H af=> ?_
  have aM:=aB.app ⟨af.1.name af.2,af.1.pos (by rw[af.2];decide)⟩
  refine pU H (λe b9 _ K=>ag _ b9 K aM) (dp.ok H ⟨aM,Zs⟩)
def aaq{bv:iH}{w:Option Tok}{k:List Tok}(aw:gQ bv k):dp bv (λr:aW×Int×Bool=>((r.1≠[]->bv.N r.1)/\(r.1=[]->r.2.2=false))/\bv.A r.2.1) (vX w k):=by
 unfold vX
 split
 ·exact dp.ok aw ⟨⟨λa=>absurd rfl a,λ_=>rfl⟩,bv.a0⟩
 ·refine pU aw (λe b9 _ K=> ?_) ?_
  ·exact(vd K).andThen λx bQ H af=>dp.ok H ⟨⟨λ_=>af.1.name af.2,λa=>absurd a (bv.bf _ (af.1.name af.2))⟩,af.1.pos (by rw[af.2];decide)⟩
  ·exact(vd aw).andThen λx bQ H af=>dp.ok H ⟨⟨λ_=>af.1.name af.2,λa=>absurd a (bv.bf _ (af.1.name af.2))⟩,af.1.pos (by rw[af.2];decide)⟩
def gQ.drop{bv:iH}{k:List Tok}(a:gQ bv k)(n:Nat):gQ bv (k.drop n):=λx af=>a x (Y4 af)
def aap{bv:iH}{loc:Bool}{o:List eP->List Tok->ft (List eP)}{bk:List eP->Prop}{ds:List eP}{k:List Tok}(aw:gQ bv k)(bP:bk ds)(aC:∀bQ,gQ bv bQ->dp bv bk (o ds bQ)):dp bv bk (uu loc o ds k):=by
 unfold uu
 split
 ·exact dp.none
 ·split
  ·split
   ·split
    ·exact dp.none
    ·split
     ·exact dp.ok aw bP
     ·exact aC _ (aw.drop 1)
   ·exact aC _ (aw.drop 1)
  ·exact dp.ok aw bP
def QR{bv:iH}{loc:Bool}:∀(n:Nat) (ds:List eP) (k:List Tok),gQ bv k->(∀d∈ds,pZ bv d)->dp bv (λds=>(∀d∈ds,pZ bv d)/\ds≠[]) (hQ n loc ds k):=by
 intro n
 induction n with
 |zero=>intro ds k _ _;rw[hQ];exact dp.none
 |succ n ag=>
  intro ds k aw aI
  rw[hQ]
  refine(afd n [] k aw (λ_ a=>by cases a)).andThen λci bQ H af=> ?_
  unfold AN
  refine(nY H).andThen λ_ b9 K _=> ?_
  refine(vd K).andThen λt d9 ak bh=> ?_
  have qh:∀r:aW×Int×Bool,((r.1≠[]->bv.N r.1)/\(r.1=[]->r.2.2=false))/\bv.A r.2.1->∀d∈ds++ci.map (py t.ty r.1 r.2.1 r.2.2),pZ bv d:=by
   intro r V d yd
   rcases Zx.1 yd with a|a
   ·exact aI d a
   ·obtain⟨x,GL,rfl⟩:=ZB.1 a
    exact⟨(af.1 x GL).1,bh.1.type bh.2,V.1.1,V.1.2,(af.1 x GL).2,V.2⟩
  refine pU ak (λw fI _ ay=> ?_) ?_
  ·refine(aaq ay).andThen λr fA be V=> ?_
   exact aap be ⟨qh r V,by simp[af.2]⟩ (λbQ a=>ag _ bQ a (qh r V))
  ·refine(aaq ak).andThen λr fA be V=> ?_
   exact aap be ⟨qh r V,by simp[af.2]⟩ (λbQ a=>ag _ bQ a (qh r V))
def anV{bv:iH}(n:Nat){k:List Tok}(aw:gQ bv k):dp bv (HO bv) (sd n k):=by
 have qp:∀(ci:List Tok) (k:List Tok),gQ bv k->xr bv ci/\ci≠[]->dp bv (HO bv) (andThen (dX [61] k) λB k=>andThen (arrow n k) λr k=>andThen (dX [59] k) λ_ k=>ok ⟨ci.map Tok.text,ci.map Tok.at_,B.at_,r⟩ k):=by
  intro ci k aw af
  refine(nY aw).andThen λB b9 K aqR=> ?_
  refine((alq bv n).arrow b9 K).andThen λr d9 ak V=> ?_
  refine(nY ak).andThen λ_ fI ay _=>dp.ok ay ⟨?_,by simp[af.2],V,aqR, ?_⟩
  ·intro s aD
   obtain⟨x,GL,rfl⟩:=ZB.1 aD
   exact(af.1 x GL).1
  ·intro s aD
   obtain⟨x,GL,rfl⟩:=ZB.1 aD
   exact(af.1 x GL).2
 have oj:∀x:Tok,Cr bv x/\x.kind=1->xr bv [x]:=λx af e D=>by simp at D;subst D;exact⟨af.1.name af.2,af.1.pos (by rw[af.2];decide)⟩
 unfold sd
 refine pU aw (λe b9 _ K=> ?_) ?_
 ·refine dp.andThen (bk:=λci=>xr bv ci/\ci≠[]) ?_ qp
  refine(vd K).andThen λx d9 ak af=> ?_
  refine(nY ak).andThen λ_ fI ay _=> ?_
  refine(afd n [x] fI ay (oj x af)).andThen λci fA be pH=> ?_
  exact(nY be).andThen λ_ ly bV _=>dp.ok bV pH
 ·refine dp.andThen (bk:=λci=>xr bv ci/\ci≠[]) ?_ qp
  exact(vd aw).andThen λx d9 ak af=>dp.ok ak ⟨oj x af,Zs⟩
def an1{bv:iH}:∀(n:Nat) (cf:List eo) (k:List Tok),gQ bv k->(∀al∈cf,HO bv al)->dp bv (λcf=>∀al∈cf,HO bv al) (kf n cf k):=by
 intro n
 induction n with
 |zero=>intro cf k _ _;rw[kf];exact dp.none
 |succ n ag=>
  intro cf k aw bP
  rw[kf]
  refine pU aw (λe b9 _ K=>dp.ok K bP) ?_
  refine(anV n aw).andThen λal b9 K asy=>ag _ b9 K ?_
  intro l3 a
  rcases Zx.1 a with a|a
  ·exact bP l3 a
  ·simp at a;subst a;exact asy
def av8{bv:iH}(n:Nat){k:List Tok}(aw:gQ bv k):dp bv (r0 bv) (node n k):=by
 unfold node
 refine(nY aw).andThen λ_ k H _=> ?_
 refine(vd H).andThen λx k K af=> ?_
 refine(nY K).andThen λ_ k ak _=> ?_
 have qp:∀(es:List eP) (k:List Tok),gQ bv k->(∀d∈es,pZ bv d)->dp bv (r0 bv) (andThen (dX [114,101,116,117,114,110,115] k) λ_ k=>andThen (dX [40] k) λ_ k=>andThen (hQ n false [] k) λout k=>andThen (dX [41] k) λ_ k=>
  hM [118,97,114] k λe k=>andThen (match e with
   |some _=>andThen (hQ n true [] k) λds k=>andThen (dX [59] k) λ_ k=>ok ds k
   |none=>ok [] k) λloc k=>
  andThen (dX [108,101,116] k) λ_ k=>andThen (kf n [] k) λcf k=>ok ⟨x.text,x.at_,es,out,loc,cf⟩ k):=by
  intro es k aw aA
  refine(nY aw).andThen λ_ k H _=> ?_
  refine(nY H).andThen λ_ k K _=> ?_
  refine(QR n [] k K (λ_ a=>by cases a)).andThen λout k ak aS=> ?_
  refine(nY ak).andThen λ_ k ay _=> ?_
  have Jt:∀(loc:List eP) (k:List Tok),gQ bv k->(∀d∈loc,pZ bv d)->dp bv (r0 bv) (andThen (dX [108,101,116] k) λ_ k=>andThen (kf n [] k) λcf k=>ok ⟨x.text,x.at_,es,out,loc,cf⟩ k):=by
   intro loc k aw arJ
   refine(nY aw).andThen λ_ k be _=> ?_
   exact(an1 n [] k be (λ_ a=>by cases a)).andThen λcf k bV NJ=>dp.ok bV ⟨af.1.name af.2,aA,aS.1,arJ,aS.2,NJ,af.1.pos (by rw[af.2];decide)⟩
  refine pU ay (λe b9 _ be=> ?_) ?_
  ·refine dp.andThen (bk:=λds=>∀d∈ds,pZ bv d) ?_ Jt
   refine(QR n [] b9 be (λ_ a=>by cases a)).andThen λds k bV Sl=> ?_
   exact(nY bV).andThen λ_ k c9 _=>dp.ok c9 Sl.1
  ·exact dp.andThen (bk:=λds=>∀d∈ds,pZ bv d) (dp.ok ay (λ_ a=>by cases a)) Jt
 refine pU ak (λe b9 _ ay=> ?_) ?_
 ·exact dp.andThen (bk:=λds=>∀d∈ds,pZ bv d) (dp.ok ay (λ_ a=>by cases a)) qp
 ·refine dp.andThen (bk:=λds=>∀d∈ds,pZ bv d) ?_ qp
  refine(QR n [] _ ak (λ_ a=>by cases a)).andThen λds k bV Sl=> ?_
  exact(nY bV).andThen λ_ k c9 _=>dp.ok c9 Sl.1
def awb{bv:iH}:∀(n:Nat) (aE:List Node) (k:List Tok),gQ bv k->(∀g∈aE,r0 bv g)->dp bv (λaE=>(∀g∈aE,r0 bv g)/\aE≠[]) (nodes n aE k):=by
 intro n
 induction n with
 |zero=>intro aE k _ _;rw[nodes];exact dp.none
 |succ n ag=>
  intro aE k aw bS
  rw[nodes]
  refine(av8 n aw).andThen λg b9 K aq9=> ?_
  have Jj:∀CT∈aE++[g],r0 bv CT:=by
   intro CT a
   rcases Zx.1 a with a|a
   ·exact bS CT a
   ·simp at a;subst a;exact aq9
  split
  ·exact dp.none
  ·split
   ·exact dp.ok K ⟨Jj,Zs⟩
   ·exact ag _ _ K Jj
end Go.aT

