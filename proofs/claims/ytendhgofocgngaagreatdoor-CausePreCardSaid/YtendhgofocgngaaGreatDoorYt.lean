/- Part of the proof of the last text; no conditions -/
import Derived.Test.YtendhgofocgngaaGreatDoorYs
set_option maxHeartbeats 8000000
set_option linter.all false
namespace Go.Proofs.YtendhgofocgngaaGreatDoor
open Go.bn Go.aT
noncomputable section
section
variable{X:co}{h R aU aQ:S ai}{j ap aL bc aH bM:Nat}{aO:List Tok}{i:Nat}
def T8(p:z):pv X h 23 p=aV X h p:=Zk
def T9(p:z):pv X h 26 p=ep X h 2 p:=Zk
def anX:dv X h .eql 20 true .nilIface .nilIface=some .zT:=Zk
def anT(o E:Int):dv X h .eql 20 true (xQ o E) .nilIface=some .zF:=Zk
def ι:∃fn c,(q X).P.funcs[17]? =some fn/\fn.body=some c:=Ri (P0 X)
def axz(az:dN X){E b:z}{bk:Bool->S ai->Nat->Prop}(a:bk false h j):AO X (.func 17) ([]++[E,b]) none h j bk:=by
 refine⟨az.none _ _ rfl,ι,aa8 (P0 X) ?_⟩
 show FS X 17 [E,b] none h j bk
 rw[Wr]
 unfold PZ
 show bA _ _
 refine cq @anX ⟨?_⟩
 exact a
def axA(az:dN X){E b:Nat}{o at_:Int}{dF dR:S z}{bk:Bool->S ai->Nat->Prop}(aM:(q X).bf<=E)(lX:(q X).bf<=b)(I7:E≠b)(R8:E<j)(C9:b<j)(iY:Z X h E=some (.cells dF 1 .own))(qX:Z X h b=some (.cells dR 2 .own))
 (a:∀R aP,j<=aP->aV X R (.ptr E 0)=some .cW->ep X R 2 (.ptr b 0)=some (.agg [.Z o, .Z at_])->(∀e,e<j->e≠E->e≠b->Z X R e=Z X h e)->bk true R aP):AO X (.func 17) ([]++[.ptr E 0, .ptr b 0]) (some (xQ o at_)) h j bk:=by
 refine⟨az.none _ _ rfl,ι,aa8 (P0 X) ?_⟩
 show FS X 17 [.ptr E 0, .ptr b 0] (some (xQ o at_)) h j bk
 rw[Wr]
 unfold PZ
 show bA _ _
 have alI:LQ 26 (.agg [.Z 0, .Z 0]) true (xQ o at_)=some (.tuple [.agg [.Z o, .Z at_], .zT]):=AB _ _ _
 have UL:∀(I:db) (n:Nat),(U5 I).g n=I.g n:=λ_ _=>rfl
 refine ey @anT @alI @UL ⟨?_⟩
 generalize fi:bp X _ j _=aU
 have b4:Z X aU j=zG [.Z o, .Z at_] 2:=by rw[<-fi,bz Zo];rfl
 have H:∀e,e<j->Z X aU e=Z X h e:=λe D=>by rw[<-fi];exact zI
 rw[<-H E R8]at iY
 rw[<-H b C9]at qX
 clear fi
 refine dd (bX b4) @UL ⟨?_⟩
 refine ka (by simp[z.same,pK,rz]) ?_
 generalize dG:bp X aU E _=aQ
 have b1:Z X aQ E=some (.cells (dM dF 0 [.cW]) 1 .own):=by rw[<-dG,bz aM];rfl
 have K:∀e,e≠E->Z X aQ e=Z X aU e:=λe D=>by rw[<-dG,aJ aM D]
 rw[<-K b Zo]at qX
 clear dG
 refine tn @UL ⟨?_⟩
 refine gr (km (o:=2) (b:=b) (U:=0) (n:=2) qX lX rfl Zd Zd rfl) ?_
 show bk true _ _
 refine a _ _ Zo ?_ ?_ (λe D atG fY=> ?_)
 ·rw[bX (by rw[aJ lX I7];exact b1),mT];rfl
 ·rw[sI,bX (bz lX),bX (bz lX),mT,mT];rfl
 ·rw[aJ lX fY,K e atG,H e D]
def axL{aj:bR}{I:db}{p al v w:z}(pC:I.bg=[])(K:I.g 2=some p)(ak:I.g 3=some al)(cO:aV X h p=some v)(b9:ep X h 2 al=some w)(a:aj (.tuple [v,w]) h j):Ho X aj I h j:=by
 unfold Ho
 rw[pC]
 show cl (I.g 2) (λp=>ar (pv X h 23 p) λv=>cl (I.g 3) λp=>ar (pv X h 26 p) λw=>aj (.tuple [v,w]) h j)
 rw[K,ak]
 refine tS ?_
 rw[T8,cO]
 refine rx ?_
 refine tS ?_
 rw[T9,b9]
 exact rx a
def axM{aj:bR}{I:db}{p al v w E b:z}(az:dN X)(pC:I.bg=[⟨.fn (.func 17) [E,b],[]⟩])(K:I.g 2=some p)(ak:I.g 3=some al)(cO:aV X h p=some v)(b9:ep X h 2 al=some w)(a:aj (.tuple [v,w]) h j):Ho X aj I h j:=by
 unfold Ho
 rw[pC]
 show AO X (.func 17) ([]++[E,b]) none h j λ_ h j=>pi X [.cell 2 23, .cell 3 26] aj I [] h j
 refine axz az ?_
 show cl (I.g 2) (λp=>ar (pv X h 23 p) λv=>cl (I.g 3) λp=>ar (pv X h 26 p) λw=>aj (.tuple [v,w]) h j)
 rw[K,ak]
 refine tS ?_
 rw[T8,cO]
 refine rx ?_
 refine tS ?_
 rw[T9,b9]
 exact rx a
def afD{aj au:bR}{I:db}{E b:Nat}{o at_:Int}{dF dR:S z}(az:dN X)(pC:I.bg=[⟨.fn (.func 17) [.ptr E 0, .ptr b 0],[]⟩])(K:I.g 2=some (.ptr E 0))(ak:I.g 3=some (.ptr b 0))
 (aM:(q X).bf<=E)(lX:(q X).bf<=b)(I7:E≠b)(R8:E<j)(C9:b<j)(iY:Z X h E=some (.cells dF 1 .own))(qX:Z X h b=some (.cells dR 2 .own))
 (a:∀R aP,j<=aP->(∀e,e<j->e≠E->e≠b->Z X R e=Z X h e)->aj (.tuple [.cW, .agg [.Z o, .Z at_]]) R aP):KM X aj au I (xQ o at_) h j:=by
 unfold KM
 rw[pC]
 show AO X (.func 17) ([]++[.ptr E 0, .ptr b 0]) (some (xQ o at_)) h j λb h j=>bI b (pi X [.cell 2 23, .cell 3 26] aj I [] h j) _
 refine axA az aM lX I7 R8 C9 iY qX (λR aP ge cO b9 aC=> ?_)
 show cl (I.g 2) (λp=>ar (pv X R 23 p) λv=>cl (I.g 3) λp=>ar (pv X R 26 p) λw=>aj (.tuple [v,w]) R aP)
 rw[K,ak]
 refine tS ?_
 rw[T8,cO]
 refine rx ?_
 refine tS ?_
 rw[T9,b9]
 exact rx (a R aP ge aC)
def am2{fn:Fn}{first cap xB:List z}{I:db}{aj:db->Prop}(a:aj (B1 I ⟨.fn fn cap,first++xB⟩)):L9 (.func fn first cap) xB I aj:=a
def yQ(s:aW)(n:Nat):Option (Except (Int×Int) (List Go.aT.Node)):=match qF s (s.length+1) [] (n6 s s.length 0)with
 |none=>none
 |some (.error E)=>some (.error (20,E))
 |some (.ok aO)=>match nodes n [] aO with
  |none=>none
  |some (.error E)=>some (.error (21,E))
  |some (.ok (aE,_))=>match rn aE with
   |some (o,E)=>some (.error (o,E))
   |none=>some (.ok aE)
def VQ(X:co)(j:Nat)(r:Except (Int×Int) (List Go.aT.Node))(ac:z)(R:S ai)(ap:Nat):Prop:=match r with
 | .error (o,E)=>ac= .tuple [.cW, .agg [.Z o, .Z E]]
 | .ok aE=>∃v,ac= .tuple [v, .agg [.Z 0, .Z 0]]/\Co X R (du j ap) aE v
def FD(s:aW):∀(n i:Nat),i<=s.length->n6 s n i<=s.length:=by
 intro n
 induction n with
 |zero=>intro i a;exact a
 |succ n ag=>
  intro i a
  rw[n6]
  split
  ·exact a
  ·rename_i c ax
   have af:=(Zb.1 ax).1
   split
   ·exact ag _ Zo
   ·split
    ·have:=EO (λc=>decide (c≠10)) (s.drop i)
     rw[Yp]at this
     exact ag _ Zo
    ·exact a
def Vv(s:aW):∀(n:Nat) (aO:List Tok) (i:Nat) (lm:List Tok),aO.length<=i->i<=s.length->qF s n aO i=some (.ok lm)->lm.length<=s.length+1:=by
 intro n
 induction n with
 |zero=>intro aO i lm _ _ a;cases a
 |succ n ag=>
  intro aO i lm H K a
  rw[qF]at a
  split at a
  ·split at a
   ·cases a
   ·rename_i x af
    obtain⟨bJ,b2⟩:=Vu af
    have cF:=Qt s s.length (i+x.text.length)
    exact ag _ _ _ (by simp;omega) (FD s _ _ b2) a
  ·cases a
   simp;omega
def awO(az:jd X)(eN:HS X)(gj:vG X){s:aW}{n:Nat}(nK:n<=170000)(aD:s.length<=65536)(ah:∀c∈s,c<256)(aM:(q X).bf<=j){a0:z}(aw:eT a0=some (.Z (s.length:Int)))(yb:∀R aP,bG X h j R aP->AM X R a0=some (.str s))
 {r:Except (Int×Int) (List Go.aT.Node)}(V:yQ s n=some r):
 ba X 4 [a0] h j (λac R ap=>VQ X j r ac R ap/\bG X h j R ap) (λ_ _ _=>False):=by
 refine L2 (ajy X) (az.none _ _ rfl) ?_
 rw[ajz]
 unfold WM
 refine cY ⟨?_⟩
 refine ff (λaU=>Z X aU j=zG [.cW] 1/\Z X aU (j+1)=zG [.Z 0, .Z 0] 2/\bG X h j aU (j+1+1)) ⟨by simp(disch:=omega) only[aJ,bz]<;>rfl,by rw[bz Zo];rfl,dS⟩ ?_
 rintro aU ⟨b4,b1,cb⟩
 unfold yQ at V
 obtain⟨KX,JV⟩:∃KX,qF s (s.length+1) [] (n6 s s.length 0)=some KX:=by
  cases a:qF s (s.length+1) [] (n6 s s.length 0)with
  |none=>rw[a]at V;cases V
  |some KX=>exact⟨KX,rfl⟩
 rw[JV]at V
 refine(alr az eN aD ah Zo aw (λR aP a=>yb R aP (cb.trans a)) JV).Zm ?_
 rintro ac aQ bc ⟨Bm,cu⟩
 have gE:=cu.le
 have cM:Z X aQ j=zG [.cW] 1:=by rw[cu.ad _ Zo];exact b4
 have eu:Z X aQ (j+1)=zG [.Z 0, .Z 0] 2:=by rw[cu.ad _ Zo];exact b1
 have nE:=cb.trans cu
 clear b4 b1
 cases KX with
 |error E=>
  simp only[Zf]at V
  subst V
  simp only[XH]at Bm
  subst Bm
  have QN:decide ((20:Int)≠0)=true:=rfl
  refine cq @QN ⟨?_⟩
  generalize gk:bp X aQ (j+1) _=br
  have eZ:Z X br (j+1)=zG [.Z 20, .Z E] 2:=by rw[<-gk,bz Zo];rfl
  have ak:∀e,e≠j+1->Z X br e=Z X aQ e:=λe D=>by rw[<-gk,aJ Zo D]
  rw[<-ak _ Zo]at cM
  have cz:bG X h j br bc:=⟨Zo,λe D=>by rw[ak e Zo];exact nE.ad e D⟩
  clear gk ak eu
  refine gr (km (o:=1) (b:=j) (U:=0) (n:=1) cM aM rfl Zd Zd rfl) ?_
  generalize hV:bp X br j _=b0
  have eb:Z X b0 j=some (.cells (dM (S.ofList [.cW] 0 .nil) 0 [.cW]) 1 .own):=by rw[<-hV,bz aM];rfl
  have ay:∀e,e≠j->Z X b0 e=Z X br e:=λe D=>by rw[<-hV,aJ aM D]
  rw[<-ay _ Zo]at eZ
  have dz:bG X h j b0 bc:=⟨Zo,λe D=>by rw[ay e Zo];exact cz.ad e D⟩
  clear hV ay cM cz
  refine tn (bX eZ) ⟨?_⟩
  refine ka (by simp[z.same,pK,rz]) ?_
  refine gr (km (o:=2) (b:=j+1) (U:=0) (n:=2) eZ Zo rfl Zd Zd rfl) ?_
  refine axL (v:= .cW) (w:= .agg [.Z 20, .Z E]) rfl (gc) (gc) ?_ ?_ ⟨rfl,bG.set dz Zo aM Zo⟩
  ·rw[bX (by rw[aJ Zo Zo];exact eb),mT];rfl
  ·rw[sI,bX (bz Zo),bX (bz Zo),mT,mT];rfl
 |ok aO=>
  obtain⟨am,bM,rfl,cR,aA8,aA9⟩:=Bm
  simp only[]at V
  have QN:decide ((0:Int)≠0)=false:=rfl
  refine cq @QN ⟨?_⟩
  generalize gk:bp X aQ (j+1) _=br
  have eZ:Z X br (j+1)=zG [.Z 0, .Z 0] 2:=by rw[<-gk,bz Zo];rfl
  have ak:∀e,e≠j+1->Z X br e=Z X aQ e:=λe D=>by rw[<-gk,aJ Zo D]
  rw[<-ak _ Zo]at cM
  have cz:bG X h j br bc:=⟨Zo,λe D=>by rw[ak e Zo];exact nE.ad e D⟩
  have asH:=cR.ad (R:=br) (λe D=>by subst D;exact ak e Zo)
  clear gk ak eu
  refine am2 ?_
  obtain⟨bw,b3,er⟩:=mH cR.len
  refine cY ⟨?_⟩
  have iW:fv [.a2, .Z 0] [(0,1,am)]=some (.agg [am, .Z 0]):=by
   simp[fv,uy,wa,bw,oE]
  refine gr iW ?_
  refine cY ⟨?_⟩
  generalize nG:B1 _ _=Fr
  have lD:Fr.bg=[⟨.fn (.func 17) [.ptr j 0, .ptr (j+1) 0],[]⟩]:=by rw[<-nG];rfl
  have ei:Fr.g 2=some (.ptr j 0):=by rw[<-nG];rfl
  have t3:Fr.g 3=some (.ptr (j+1) 0):=by rw[<-nG];rfl
  have aat:∀k,oz 2 k=false->(h3 k Fr).g 2=some (.ptr j 0):=λk a=>by simp[xL,ei,a]
  have aau:∀k,oz 3 k=false->(h3 k Fr).g 3=some (.ptr (j+1) 0):=λk a=>by simp[xL,t3,a]
  have aao:∀k,(h3 k Fr).bg=[⟨.fn (.func 17) [.ptr j 0, .ptr (j+1) 0],[]⟩]:=λk=>lD
  clear nG
  refine ff (λb0=>Z X b0 bc=zG [am, .Z ((0:Nat):Int)] 2/\bG X br bc b0 (bc+1)) ⟨by rw[bz Zo];rfl,dS⟩ ?_
  rintro b0 ⟨eb,xY⟩
  have ej:=Vv s _ _ _ _ Zs (FD s _ _ Zo) JV
  have asl:aT X b0 bc bM aO 0:=⟨⟨_,am,eb,rfl,rfl,asH.ad λe D=>by subst D;exact xY.ad e Zo⟩,Zo⟩
  have aso:iG X b0 (bc+1) bc bM aO 0:=⟨Zo,Zo,Zo,Zo,Zo,asl⟩
  obtain⟨KU,qq⟩:∃KU,nodes n [] aO=some KU:=by
   cases a:nodes n [] aO with
   |none=>rw[a]at V;cases V
   |some KU=>exact⟨KU,rfl⟩
  rw[qq]at V
  have cP:Z X b0 j=zG [.cW] 1:=by rw[xY.ad _ Zo];exact cM
  have cG:Z X b0 (j+1)=zG [.Z 0, .Z 0] 2:=by rw[xY.ad _ Zo];exact eZ
  refine(axc az.todN gj nK Zo aso (r:=KU) qq).mono ?_ ?_
  ·rintro v b5 cA ⟨aE,i5,rfl,u4,_,dT⟩
   have jz:=dT.le
   simp only[]at V
   have d4:Z X b5 j=zG [.cW] 1:=by rw[dT.ad _ Zo (by simp;omega)];exact cP
   have fK:Z X b5 (j+1)=zG [.Z 0, .Z 0] 2:=by rw[dT.ad _ Zo (by simp;omega)];exact cG
   have ac1:∀e,e<j->Z X b5 e=Z X h e:=λe D=>by rw[dT.ad e Zo (by simp;omega),xY.ad e Zo];exact cz.ad e D
   obtain⟨vS,_,_,_,rfl,ab6,_⟩:=u4.prog
   have aBa:=ab6.1
   have aBb:=ab6.2
   refine tn @ei ⟨?_⟩
   refine gr (km (o:=1) (b:=j) (U:=0) (n:=1) d4 aM rfl Zd Zd rfl) ?_
   generalize jw:bp X b5 j _=cp
   have eW:Z X cp j=some (.cells (dM (S.ofList [.cW] 0 .nil) 0 [.ptr vS 0]) 1 .own):=by rw[<-jw,bz aM];rfl
   have bV:∀e,e≠j->Z X cp e=Z X b5 e:=λe D=>by rw[<-jw,aJ aM D]
   clear jw
   have ly:aV X cp (.ptr j 0)=some (.ptr vS 0):=by rw[bX eW,mT];rfl
   refine tn @ei ⟨?_⟩
   refine tn @ly ⟨?_⟩
   have asp:=u4.ad (R:=cp) (bk:=du (bc+1) cA) (λe D=>bV e (zC D.1)) (λ_ a=>a)
   have mj:Z X cp (j+1)=zG [.Z 0, .Z 0] 2:=by rw[bV _ Zo];exact fK
   refine(au8 (j:=cA) (h:=cp) az.todN Zo asp.prog (λe D=>D.2)).mono ?_ ?_
   ·rintro Lc cH eh ⟨re,rfl,e3⟩
    have pF:=e3.le
    rw[re]at V
    simp only[Zf]at V
    subst V
    have iX:Z X cH j=some (.cells (dM (S.ofList [.cW] 0 .nil) 0 [.ptr vS 0]) 1 .own):=by rw[e3.ad _ Zo];exact eW
    have B2:Z X cH (j+1)=zG [.Z 0, .Z 0] 2:=by rw[e3.ad _ Zo];exact mj
    have lz:aV X cH (.ptr j 0)=some (.ptr vS 0):=by rw[bX iX,mT];rfl
    refine tn @ei ⟨?_⟩
    refine tn @lz ⟨?_⟩
    refine h4 ⟨?_⟩
    refine tn @ei ⟨?_⟩
    refine gr (km (o:=1) (b:=j) (U:=0) (n:=1) iX aM rfl Zd Zd rfl) ?_
    generalize qe:bp X cH j _=ea
    have lr:Z X ea j=some (.cells (dM (dM (S.ofList [.cW] 0 .nil) 0 [.ptr vS 0]) 0 [.ptr vS 0]) 1 .own):=by rw[<-qe,bz aM];rfl
    have eg:∀e,e≠j->Z X ea e=Z X cH e:=λe D=>by rw[<-qe,aJ aM D]
    rw[<-eg _ Zo]at B2
    clear qe
    refine tn @t3 ⟨?_⟩
    refine gr (km (o:=2) (b:=j+1) (U:=0) (n:=2) B2 Zo rfl Zd Zd rfl) ?_
    have qk:∀cN e,e≠j->e≠j+1->e<cA->Z X (bp X ea (j+1) cN) e=Z X b5 e:=λcN e H K ak=>by
     rw[aJ Zo K,eg e H,e3.ad e ak,bV e H]
    refine axM (v:= .ptr vS 0) (w:= .agg [.Z 0, .Z 0]) az.todN lD ei t3 ?_ ?_ ⟨⟨.ptr vS 0,rfl,u4.ad (λe D=>qk _ e (zC D.1) (zC D.1) D.2) (λe D=>⟨zC D.1,zC D.2⟩)⟩,⟨Zo,λe D=>by rw[qk _ e Zo Zo Zo];exact ac1 e D⟩⟩
    ·rw[bX (by rw[aJ Zo Zo];exact lr),mT];rfl
    ·rw[sI,bX (bz Zo),bX (bz Zo),mT,mT];rfl
   ·rintro ac cH eh ⟨o,E,re,rfl,e3⟩
    have pF:=e3.le
    rw[re]at V
    simp only[Zf]at V
    subst V
    refine afD (dF:=dM (S.ofList [.cW] 0 .nil) 0 [.ptr vS 0]) (dR:=S.ofList [.Z 0, .Z 0] 0 .nil) az.todN (aao _) (aat _ rfl) (aau _ rfl) aM Zo Zo Zo Zo ?_ ?_ (λR aP ge aC=>⟨rfl,Zo,λe D=> ?_⟩)
    ·rw[e3.ad _ Zo];exact eW
    ·rw[e3.ad _ Zo];exact mj
    ·rw[aC e Zo Zo Zo,e3.ad e Zo,bV e Zo];exact ac1 e D
  ·rintro ac b5 cA ⟨E,rfl,rfl,dT⟩
   have jz:=dT.le
   simp only[Zf]at V
   subst V
   refine afD (dF:=S.ofList [.cW] 0 .nil) (dR:=S.ofList [.Z 0, .Z 0] 0 .nil) az.todN (aao _) (aat _ rfl) (aau _ rfl) aM Zo Zo Zo Zo ?_ ?_ (λR aP ge aC=>⟨rfl,Zo,λe D=> ?_⟩)
   ·rw[dT.ad _ Zo (by simp;omega)];exact cP
   ·rw[dT.ad _ Zo (by simp;omega)];exact cG
   ·rw[aC e Zo Zo Zo,dT.ad e Zo (by simp;omega),xY.ad e Zo];exact cz.ad e D
end
end
end Go.Proofs.YtendhgofocgngaaGreatDoor

namespace Go.aT
def hj:List Tok->Prop
 |[]=>False
 |x::k=>x.kind=7/\x.text=[]\/hj k
def hj.pk{x:Tok}{k:List Tok}(a:hj (x::k))(af:x.kind≠7):hj k:=a.resolve_left λo=>af o.1
def dY{α:Type}(b:Nat)(bk:α->Prop)(x:ft α):Prop:=∃r,x=some r/\∀E bQ,r= .ok (E,bQ)->hj bQ/\bQ.length<b/\bk E
def p0(B:bs):Prop:=B.kind=4->B.args≠[]
def dY.mono{α:Type}{b dw:Nat}{bk mV:α->Prop}{x:ft α}(a:dY b bk x)(ah:b<=dw)(bP:∀E,bk E->mV E):dY dw mV x:=by
 obtain⟨r,H,K⟩:=a
 exact⟨r,H,λE bQ B=>by obtain⟨bJ,b2,cF⟩:=K E bQ B;exact⟨bJ,Zo,bP E cF⟩⟩
def dY.ok{α:Type}{b:Nat}{bk:α->Prop}{E:α}{k:List Tok}(H:hj k)(K:k.length<b)(ak:bk E):dY b bk (aT.ok E k):=⟨_,rfl,λfu bQ B=>by cases B;exact⟨H,K,ak⟩⟩
def dY.bad{α:Type}{b:Nat}{bk:α->Prop}(E:Int):dY b bk (aT.bad E:ft α):=⟨_,rfl,λfu bQ B=>by cases B⟩
def dY.andThen{α en:Type}{b dw:Nat}{bk:α->Prop}{mV:en->Prop}{x:ft α}{f:α->List Tok->ft en}(a:dY b bk x)(o:∀E bQ,hj bQ->bQ.length<b->bk E->dY dw mV (f E bQ)):dY dw mV (aT.andThen x f):=by
 obtain⟨r,rfl,K⟩:=a
 cases r with
 |error E=>exact⟨_,rfl,λfu bQ B=>by cases B⟩
 |ok p=>
  obtain⟨E,bQ⟩:=p
  obtain⟨bJ,b2,cF⟩:=K E bQ rfl
  exact o E bQ bJ b2 cF
def U3{x:Tok}{s:aW}(a:gH x s=true):x.kind≠7:=by
 intro B;simp[gH,B]at a
def nX{s:aW}{k:List Tok}(a:hj k):dY k.length (λ_=>True) (dX s k):=by
 cases k with
 |nil=>exact a.elim
 |cons x k=>
  simp only[dX]
  split
  ·rename_i aD;exact dY.ok (a.pk (U3 aD)) Zs trivial
  ·exact dY.bad _
def vc{o:Int}(aC:o≠7){k:List Tok}(a:hj k):dY k.length (λx:Tok=>True) (il o k):=by
 cases k with
 |nil=>exact a.elim
 |cons x k=>
  simp only[il]
  split
  ·rename_i aD;exact dY.ok (a.pk Zo) Zs trivial
  ·exact dY.bad _
def pT{en:Type}{s:aW}{k:List Tok}{f:Option Tok->List Tok->ft en}{b:Nat}{bk:en->Prop}(a:hj k)(H:∀x bQ,hj bQ->bQ.length+1=k.length->dY b bk (f (some x) bQ))(K:dY b bk (f none k)):dY b bk (hM s k f):=by
 cases k with
 |nil=>exact a.elim
 |cons x k=>
  unfold hM kZ
  by_cases aD:gH x s=true
  ·simp only[aD,ZC];exact H x k (a.pk (U3 aD)) Zs
  ·simp only[aD,ZA];exact K
def ε{k:List Tok}(a:hj k):∀os:List (aW×Int),∃B bQ,mX os k=some (B,bQ)/\(B=none/\bQ=k\/∃x,B=some x/\hj bQ/\bQ.length+1=k.length):=by
 cases k with
 |nil=>exact a.elim
 |cons x k=>
  intro os
  induction os with
  |nil=>exact⟨_,_,rfl, .inl ⟨rfl,rfl⟩⟩
  |cons U os ag=>
   obtain⟨s,o⟩:=U
   unfold mX kZ
   by_cases aD:gH x s=true
   ·simp only[aD,ZC];exact⟨_,_,rfl, .inr ⟨_,rfl,a.pk (U3 aD),Zs⟩⟩
   ·simp only[aD,ZA]
    exact ag
structure ahl(n:Nat):Prop where
 level:∀o k,o<=5->hj k->13*k.length+9-o<=n->dY k.length p0 (level n o k)
 m7:∀o B k,o<=4->hj k->p0 B->13*k.length+1<=n->dY (k.length+1) p0 (m7 n o B k)
 shift:∀k,hj k->13*k.length+3<=n->dY k.length p0 (shift n k)
 nj:∀B k,hj k->p0 B->13*k.length+1<=n->dY (k.length+1) p0 (nj n B k)
 nk:∀o x B k,o≠4->hj k->13*k.length+1<=n->dY k.length p0 (nk n o x B k)
 tT:∀k,hj k->13*k.length+2<=n->dY k.length p0 (sR n k)
 l4:∀B k,hj k->p0 B->13*k.length+1<=n->dY (k.length+1) p0 (l4 n B k)
 part:∀k,hj k->13*k.length+1<=n->dY k.length p0 (part n k)
 list:∀k,hj k->13*k.length+12<=n->dY k.length (λ_=>True) (list n k)
 m8:∀cg k,hj k->13*k.length+1<=n->dY k.length (λ_=>True) (m8 n cg k)
 kM:∀k,hj k->13*k.length+10<=n->dY k.length p0 (kM n k)
 arrow:∀k,hj k->13*k.length+11<=n->dY k.length p0 (arrow n k)
def t8{B:bs}(a:B.kind≠4):p0 B:=λo=>absurd o a
def VD{B:bs}(a:B.args≠[]):p0 B:=λ_=>a
def hj.pos{k:List Tok}(a:hj k):0<k.length:=by cases k with
 |nil=>exact a.elim
 |cons x k=>simp
def alp:∀n,ahl n:=by
 intro n
 induction n with
 |zero=>constructor<;>(intros;rename_i a _ _;omega)
 |succ n ag=>
  constructor
  case level=>
   intro o k aC aw aM
   have:=aw.pos
   rw[level]
   split
   ·exact ag.shift k aw Zo
   ·refine(ag.level (o+1) k Zo aw Zo).andThen λB bQ H K ak=> ?_
    exact(ag.m7 o B bQ Zo H ak Zo).mono Zo λ_ a=>a
  case m7=>
   intro o B k aC aw a7 aM
   have:=aw.pos
   rw[m7]
   obtain⟨U,bQ,H,K⟩:=ε aw (ao o)
   rw[H]
   rcases K with ⟨rfl,rfl⟩|⟨x,rfl,ak,ay⟩
   ·exact dY.ok aw Zo a7
   ·simp only[]
    refine(ag.level (o+1) bQ Zo ak Zo).andThen λr b9 bJ b2 cF=> ?_
    split
    ·exact dY.ok bJ Zo (VD (by simp[two,bs.args]))
    ·exact(ag.m7 o _ b9 aC bJ (VD (by simp[two,bs.args])) Zo).mono Zo λ_ a=>a
  case shift=>
   intro k aw aM
   have:=aw.pos
   rw[shift]
   refine(ag.tT k aw Zo).andThen λB bQ H K ak=> ?_
   exact(ag.nj B bQ H ak Zo).mono Zo λ_ a=>a
  case nj=>
   intro B k aw a7 aM
   have:=aw.pos
   rw[nj]
   refine pT aw (λx bQ H K=>(ag.nk 19 x B bQ Zd H Zo).mono Zo λ_ a=>a) ?_
   refine pT aw (λx bQ H K=>(ag.nk 20 x B bQ Zd H Zo).mono Zo λ_ a=>a) ?_
   exact dY.ok aw Zo a7
  case nk=>
   intro o x B k aC aw aM
   have:=aw.pos
   rw[nk]
   refine(vc Zd aw).andThen λm bQ H K ak=> ?_
   split
   ·exact dY.bad _
   ·exact(ag.nj _ bQ H (t8 (by simpa[bs.kind]using aC)) Zo).mono Zo λ_ a=>a
  case tT=>
   intro k aw aM
   have:=aw.pos
   rw[sR]
   obtain⟨U,bQ,H,K⟩:=ε aw yR
   rw[H]
   rcases K with ⟨rfl,rfl⟩|⟨x,rfl,ak,ay⟩
   ·simp only[]
    refine(ag.part bQ aw Zo).andThen λB b9 bJ b2 cF=> ?_
    exact(ag.l4 B b9 bJ cF Zo).mono Zo λ_ a=>a
   ·simp only[]
    refine(ag.tT bQ ak Zo).andThen λB b9 bJ b2 cF=> ?_
    exact dY.ok bJ Zo (VD (by simp[bs.args]))
  case l4=>
   intro B k aw a7 aM
   have:=aw.pos
   rw[l4]
   refine pT aw (λx bQ H K=> ?_) (dY.ok aw Zo a7)
   have:=H.pos
   refine pT H (λe b9 bJ b2=> ?_) ?_
   ·refine(vc Zd bJ).andThen λm d9 ek fN iP=> ?_
    exact(ag.l4 _ d9 ek (t8 (by simp[bs.kind])) Zo).mono Zo λ_ a=>a
   ·refine(vc Zd H).andThen λm d9 ek fN iP=> ?_
    exact(ag.l4 _ d9 ek (t8 (by simp[bs.kind])) Zo).mono Zo λ_ a=>a
  case list=>
   intro k aw aM
   have:=aw.pos
   rw[list]
   refine pT aw (λx bQ H K=>dY.ok H Zo trivial) ?_
   refine(ag.arrow k aw Zo).andThen λB b9 bJ b2 cF=> ?_
   exact(ag.m8 _ b9 bJ Zo).mono Zo λ_ a=>a
  case m8=>
   intro cg k aw aM
   have:=aw.pos
   rw[m8]
   refine pT aw (λx bQ H K=> ?_) ?_
   ·refine(ag.arrow bQ H Zo).andThen λB b9 bJ b2 cF=> ?_
    exact(ag.m8 _ b9 bJ Zo).mono Zo λ_ a=>a
   ·exact(nX aw).andThen λ_ bQ H K _=>dY.ok H Zo trivial
  case kM=>
   intro k aw aM
   have:=aw.pos
   rw[kM]
   refine(ag.level 0 k Zo aw Zo).andThen λB b9 bJ b2 cF=> ?_
   refine pT bJ (λx bQ H K=> ?_) (dY.ok bJ Zo cF)
   have Bd:sK B≠none:=by
    unfold sK
    split
    ·simp
    ·split
     ·rename_i ay
      have:=cF ay
      cases aB:B.args with
      |nil=>exact absurd aB this
      |cons E k=>simp
     ·simp
   simp only[]
   split
   ·rename_i a;exact absurd a Bd
   ·refine(ag.kM bQ H Zo).andThen λr d9 ek fN iP=> ?_
    exact dY.ok ek Zo (t8 (by simp[bs.kind]))
   ·exact dY.bad _
  case arrow=>
   intro k aw aM
   have:=aw.pos
   rw[arrow]
   refine(ag.kM k aw Zo).andThen λB b9 bJ b2 cF=> ?_
   refine pT bJ (λx bQ H K=> ?_) (dY.ok bJ Zo cF)
   refine(ag.arrow bQ H Zo).andThen λr d9 ek fN iP=> ?_
   exact dY.ok ek Zo (t8 (by simp[bs.kind]))
  case part=>
   intro k aw aM
   cases k with
   |nil=>exact aw.elim
   |cons x k=>
   simp only[ZD]at aM
   rw[part]
   have ej:(x::k).length=k.length+1:=rfl
   rw[ej]
   by_cases ke:x.kind=5
   ·rw[Zq ke]
    exact dY.ok (aw.pk Zo) Zo (t8 (by simp[bs.kind]))
   rw[Zg ke]
   split
   ·rename_i a
    have:x.kind=2:=by simp at a;exact a.1
    exact dY.ok (aw.pk Zo) Zo (t8 (by simp[bs.kind]))
   by_cases dF:x.kind=1
   ·rw[Zq dF]
    have hn:=aw.pk Zo
    refine pT hn (λe b9 H K=> ?_) (dY.ok hn Zo (t8 (by simp[bs.kind])))
    refine(ag.list b9 H Zo).andThen λcg d9 ek fN iP=> ?_
    exact dY.ok ek Zo (t8 (by simp[bs.kind]))
   rw[Zg dF]
   by_cases g3:x.kind=3
   ·rw[Zq g3]
    have hn:=aw.pk Zo
    refine(nX hn).andThen λ_ b9 H K _=> ?_
    refine(ag.arrow b9 H Zo).andThen λB d9 ek fN iP=> ?_
    refine(nX ek).andThen λ_ fI e7 hh _=> ?_
    exact dY.ok e7 Zo (t8 (by simp[bs.kind]))
   rw[Zg g3]
   split
   ·rename_i a
    have:x.kind=6:=by simp at a;exact a.1
    have hn:=aw.pk Zo
    refine(ag.arrow k hn Zo).andThen λB d9 ek fN iP=> ?_
    refine(nX ek).andThen λ_ fI e7 hh _=> ?_
    exact dY.ok e7 Zo iP
   split
   ·rename_i a
    have:x.kind=2:=by simp at a;exact a.1
    have hn:=aw.pk Zo
    refine(ag.arrow k hn Zo).andThen λB d9 ek fN iP=> ?_
    refine(nX ek).andThen λ_ fI e7 hh _=> ?_
    refine(ag.arrow fI e7 Zo).andThen λb3 fA cP cG d4=> ?_
    refine(nX cP).andThen λ_ ly fc fQ _=> ?_
    refine(ag.arrow ly fc Zo).andThen λer lz kI lB UZ=> ?_
    exact dY.ok kI Zo (t8 (by simp[bs.kind]))
   split
   ·rename_i a
    have:x.kind=2:=by simp at a;exact a.1
    have hn:=aw.pk Zo
    refine(vc Zd hn).andThen λc b9 H K _=> ?_
    refine(ag.part b9 H Zo).andThen λB d9 ek fN iP=> ?_
    refine(ag.part d9 ek Zo).andThen λb3 fI e7 hh vm=> ?_
    exact dY.ok e7 Zo (t8 (by simp[bs.kind]))
   ·exact dY.bad _
def afc:∀(n:Nat) (cg k:List Tok),hj k->k.length<=n->dY k.length (λ_=>True) (pe n cg k):=by
 intro n
 induction n with
 |zero=>intro cg k a aM;have:=a.pos;omega
 |succ n ag=>
  intro cg k a aM
  rw[pe]
  refine(vc Zd a).andThen λx b9 H K _=> ?_
  refine pT H (λe d9 bJ b2=>(ag _ d9 bJ Zo).mono Zo λ_ a=>a) (dY.ok H Zo trivial)
def amY{w:Option Tok}{k:List Tok}(a:hj k):dY (k.length+1) (λ_=>True) (vX w k):=by
 cases w with
 |none=>exact dY.ok a Zo trivial
 |some w=>
  simp only[vX]
  refine pT a (λe b9 bJ b2=> ?_) ?_
  ·exact(vc Zd bJ).andThen λx d9 ek fN _=>dY.ok ek Zo trivial
  ·exact(vc Zd a).andThen λx d9 ek fN _=>dY.ok ek Zo trivial
def QQ:∀(n:Nat) (loc:Bool) (ds:List eP) (k:List Tok),hj k->k.length+1<=n->dY k.length (λ_=>True) (hQ n loc ds k):=by
 intro n
 induction n with
 |zero=>intro loc ds k a aM;omega
 |succ n ag=>
  intro loc ds k a aM
  rw[hQ]
  refine(afc n [] k a Zo).andThen λci b9 H K _=> ?_
  unfold AN
  refine(nX H).andThen λ_ d9 bJ b2 _=> ?_
  refine(vc Zd bJ).andThen λt fI ek fN _=> ?_
  have fin:∀w fA,hj fA->fA.length<=fI.length->dY k.length (λ_=>True) (andThen (vX w fA) λr k=>uu loc (hQ n loc) (ds++ci.map (py t.ty r.1 r.2.1 r.2.2)) k):=by
   intro w fA e7 hh
   refine(amY e7).andThen λr ly cP cG _=> ?_
   unfold uu
   cases ly with
   |nil=>exact cP.elim
   |cons e lz=>
    simp only[y7,ZD]at cG ⊢
    split
    ·rename_i aD
     have d4:hj lz:=cP.resolve_left λo=>by rw[o.2]at aD;cases aD
     split
     ·cases lz with
      |nil=>exact d4.elim
      |cons aG m6=>
       simp only[y7]
       split
       ·exact dY.ok cP (by simp at cG ⊢;omega) trivial
       ·exact(ag _ _ (aG::m6) d4 (by simp at cG ⊢;omega)).mono (by simp at cG ⊢;omega) λ_ a=>a
     ·exact(ag _ _ lz d4 Zo).mono Zo λ_ a=>a
    ·exact dY.ok cP (by simp;omega) trivial
  refine pT ek (λe fA e7 hh=>fin _ fA e7 Zo) (fin _ fI ek Zo)
def anU{n:Nat}{k:List Tok}(a:hj k)(aM:13*k.length+12<=n):dY k.length (λ_=>True) (sd n k):=by
 unfold sd
 have fin:∀(x:ft (List Tok)),dY (k.length+1) (λ_=>True) x->dY k.length (λ_=>True) (andThen x λci k=>andThen (dX [61] k) λB k=>andThen (arrow n k) λr k=>andThen (dX [59] k) λ_ k=>ok (⟨ci.map Tok.text,ci.map Tok.at_,B.at_,r⟩:eo) k):=by
  intro x af
  refine af.andThen λci b9 H K _=> ?_
  refine(nX H).andThen λ_ d9 bJ b2 _=> ?_
  refine((alp n).arrow d9 bJ Zo).andThen λB fI ek fN _=> ?_
  exact(nX ek).andThen λ_ fA e7 hh _=>dY.ok e7 Zo trivial
 refine pT a (λe b9 H K=>fin _ ?_) (fin _ ?_)
 ·refine(vc Zd H).andThen λx d9 bJ b2 _=> ?_
  refine(nX bJ).andThen λ_ fI ek fN _=> ?_
  refine(afc n _ fI ek Zo).andThen λci fA e7 hh _=> ?_
  exact(nX e7).andThen λ_ ly cP cG _=>dY.ok cP Zo trivial
 ·exact(vc Zd a).andThen λx d9 bJ b2 _=>dY.ok bJ Zo trivial
def an0:∀(n:Nat) (cf:List eo) (k:List Tok),hj k->13*k.length+13<=n->dY k.length (λ_=>True) (kf n cf k):=by
 intro n
 induction n with
 |zero=>intro cf k a aM;omega
 |succ n ag=>
  intro cf k a aM
  rw[kf]
  refine pT a (λe b9 H K=>dY.ok H Zo trivial) ?_
  refine(anU a Zo).andThen λal b9 H K _=> ?_
  exact(ag _ b9 H Zo).mono Zo λ_ a=>a
def av7{n:Nat}{k:List Tok}(a:hj k)(aM:13*k.length+13<=n):dY k.length (λ_=>True) (node n k):=by
 unfold node
 refine(nX a).andThen λ_ b9 H K _=> ?_
 refine(vc Zd H).andThen λx d9 bJ b2 _=> ?_
 refine(nX bJ).andThen λ_ fI ek fN _=> ?_
 have aon:∀es out fA,hj fA->fA.length<fI.length->dY k.length (λ_=>True) (hM [118,97,114] fA λe k=>andThen (match e with
  |some _=>andThen (hQ n true [] k) λds k=>andThen (dX [59] k) λ_ k=>ok ds k
  |none=>ok [] k) λloc k=>
  andThen (dX [108,101,116] k) λ_ k=>andThen (kf n [] k) λcf k=>ok (⟨x.text,x.at_,es,out,loc,cf⟩:Node) k):=by
  intro es out fA e7 hh
  have aaZ:∀(aG:ft (List eP)),dY (fA.length+1) (λ_=>True) aG->dY k.length (λ_=>True) (andThen aG λloc k=>
   andThen (dX [108,101,116] k) λ_ k=>andThen (kf n [] k) λcf k=>ok (⟨x.text,x.at_,es,out,loc,cf⟩:Node) k):=by
   intro aG ce
   refine ce.andThen λloc ly cP cG _=> ?_
   refine(nX cP).andThen λ_ lz fc fQ _=> ?_
   refine(an0 n _ lz fc Zo).andThen λcf m6 kI lB _=> ?_
   exact dY.ok kI Zo trivial
  refine pT e7 (λe ly cP cG=>aaZ _ ?_) (aaZ _ (dY.ok e7 Zo trivial))
  refine(QQ n _ _ ly cP Zo).andThen λds lz fc fQ _=> ?_
  exact(nX fc).andThen λ_ m6 kI lB _=>dY.ok kI Zo trivial
 have aaY:∀(aG:ft (List eP)),dY (fI.length+1) (λ_=>True) aG->dY k.length (λ_=>True) (andThen aG λes k=>
  andThen (dX [114,101,116,117,114,110,115] k) λ_ k=>andThen (dX [40] k) λ_ k=>andThen (hQ n false [] k) λout k=>andThen (dX [41] k) λ_ k=>
  hM [118,97,114] k λe k=>andThen (match e with
  |some _=>andThen (hQ n true [] k) λds k=>andThen (dX [59] k) λ_ k=>ok ds k
  |none=>ok [] k) λloc k=>
  andThen (dX [108,101,116] k) λ_ k=>andThen (kf n [] k) λcf k=>ok (⟨x.text,x.at_,es,out,loc,cf⟩:Node) k):=by
  intro aG ce
  refine ce.andThen λes fA e7 hh _=> ?_
  refine(nX e7).andThen λ_ ly cP cG _=> ?_
  refine(nX cP).andThen λ_ lz fc fQ _=> ?_
  refine(QQ n _ _ lz fc Zo).andThen λout m6 kI lB _=> ?_
  refine(nX kI).andThen λ_ rk t1 ei _=> ?_
  exact aon es out rk t1 Zo
 refine pT ek (λe fA e7 hh=>aaY _ (dY.ok e7 Zo trivial)) (aaY _ ?_)
 refine(QQ n _ _ fI ek Zo).andThen λds lz fc fQ _=> ?_
 exact(nX fc).andThen λ_ m6 kI lB _=>dY.ok kI Zo trivial
def awa:∀(n:Nat) (aE:List Node) (k:List Tok),hj k->13*k.length+14<=n->dY k.length (λ_=>True) (nodes n aE k):=by
 intro n
 induction n with
 |zero=>intro aE k a aM;omega
 |succ n ag=>
  intro aE k a aM
  rw[nodes]
  refine(av7 a Zo).andThen λg b9 H K _=> ?_
  cases b9 with
  |nil=>exact H.elim
  |cons x d9=>
   simp only[]
   split
   ·exact dY.ok H Zo trivial
   ·exact(ag _ _ H Zo).mono Zo λ_ a=>a
end Go.aT

namespace Go.Proofs.YtendhgofocgngaaGreatDoor
open Go.bn Go.aT
def hj.snoc{x:Tok}(H:x.kind=7)(K:x.text=[]):∀k:List Tok,hj (k++[x]):=by
 intro k
 induction k with
 |nil=>exact .inl ⟨H,K⟩
 |cons e k ag=>exact .inr ag
def azx(s:aW):∀(n:Nat) (aO:List Tok) (i:Nat),i<=s.length->s.length<i+n->∃r,qF s n aO i=some r/\∀lm,r= .ok lm->hj lm:=by
 intro n
 induction n with
 |zero=>intro aO i H K;omega
 |succ n ag=>
  intro aO i H K
  rw[qF]
  split
  ·cases af:xb s i with
   |none=>exact⟨_,rfl,λlm a=>by cases a⟩
   |some x=>
    obtain⟨bJ,b2⟩:=Vu af
    have cF:=Qt s s.length (i+x.text.length)
    exact ag _ _ (FD s _ _ b2) Zo
  ·exact⟨_,rfl,λlm a=>by cases a;exact hj.snoc rfl rfl _⟩
def awM{s:aW}(aD:s.length<=5000):∃r,yQ s 170000=some r:=by
 unfold yQ
 obtain⟨r,H,K⟩:=azx s (s.length+1) [] (n6 s s.length 0) (FD s _ _ Zo) Zo
 rw[H]
 cases r with
 |error E=>exact⟨_,rfl⟩
 |ok aO=>
  simp only[]
  have ej:=Vv s _ _ _ _ Zs (FD s _ _ Zo) H
  obtain⟨r,ak,_⟩:=awa 170000 [] aO (K aO rfl) Zo
  rw[ak]
  cases r with
  |error E=>exact⟨_,rfl⟩
  |ok p=>
   obtain⟨aE,k⟩:=p
   simp only[]
   cases rn aE with
   |none=>exact⟨_,rfl⟩
   |some al=>exact⟨_,rfl⟩
noncomputable def w0(s:aW):Except (Int×Int) (List Go.aT.Node):=match yQ s 170000 with
 |some r=>r
 |none=> .error (0,0)
def afG{s:aW}(aD:s.length<=5000):yQ s 170000=some (w0 s):=by
 obtain⟨r,a⟩:=awM aD
 unfold w0
 rw[a]
variable{X:co}{h:S ai}{j:Nat}
def UC(az:jd X)(eN:HS X)(gj:vG X){s:aW}(aD:s.length<=5000)(ah:∀c∈s,c<256)(aM:(q X).bf<=j){a0:z}(aw:eT a0=some (.Z (s.length:Int)))(yb:∀R aP,bG X h j R aP->AM X R a0=some (.str s)):
 ba X 4 [a0] h j (λac R ap=>VQ X j (w0 s) ac R ap/\bG X h j R ap) (λ_ _ _=>False):=
 awO az eN gj (Zh _) Zo ah aM aw yb (afG aD)
end Go.Proofs.YtendhgofocgngaaGreatDoor

namespace Go.Proofs.YtendhgofocgngaaGreatDoor
open Go.bn Go.aT
noncomputable section
def Mw(nm:aW):Nat->List Go.aT.Node->Option Nat
 |_,[]=>none
 |o,g::k=>if g.name=nm then some o else Mw nm (o+1) k
def tj(aE:List Go.aT.Node)(nm:aW):Option Nat:=Mw nm 0 aE
section
variable{X:co}{h R aU aQ:S ai}{j ap aL bc:Nat}{P:Nat->Prop}{aE:List Go.aT.Node}
def at4(az:dN X){g:Go.aT.Node}{row:List z}(aM:(q X).bf<=j)(bS:ps X h P g row){c:Nat}{nm:aW}(ax:c<j)(wv:aV X h (.ptr c 0)=some (.str nm)):
 ba X 74 [.agg row, .ptr c 0] h j (λac R ap=>ac= .bool (decide (g.name=nm))/\bG X h j R ap) (λ_ _ _=>False):=by
 refine zJ az (akg X) ?_
 rw[akh]
 unfold Xl
 obtain⟨dk,dI,bi,eB,ch,cD,di,f4,age,rfl,_⟩:=bS
 refine cq @wv ⟨?_⟩
 exact⟨rfl,dS⟩
def atS(az:dN X){bi:z}{cj:Nat}{bu:List (List z)}(aM:(q X).bf<=j)(cR:dZ X h P cj bi 6 bu)(uS:ug X h P aE bu)(bW:∀e,P e->e<j){c:Nat}{nm:aW}(ax:c<j)(wv:aV X h (.ptr c 0)=some (.str nm)):
 ba X 73 [bi, .func (.func 74) [] [.ptr c 0]] h j (λac R ap=>ac= .Z (match tj aE nm with|some o=>(o:Int)|none=> -1)/\bG X h j R ap) (λ_ _ _=>False):=by
 refine zJ az (ake X) ?_
 rw[akf]
 unfold Xk
 have ss:=uS.wide
 have e5:=cR.len
 have hX:=cR.many
 rw[ss.1]at e5 hX
 refine cq @e5 ⟨?_⟩
 refine fP (λm I R aP=>∃(W:Nat),I.g 0=some bi/\I.g 1=some (.func (.func 74) [] [.ptr c 0])/\I.g 7=some (.Z (aE.length:Int))/\I.g 8=some (.Z (W:Int))/\W+m=aE.length/\bG X h j R aP/\tj aE nm=Mw nm W (aE.drop W))
  aE.length ⟨0,bt,bt,bt,gc,Zo,bG.refl _ _,rfl⟩ ?_
 rintro m I aQ bc ⟨W,t0,t1,fC,iQ,bx,cu,b8⟩
 have gE:=cu.le
 cases m with
 |zero=>
  have d:=zD W aE.length
  rw[ZJ Zo]at b8
  refine ey @iQ @fC @d ⟨?_⟩
  exact⟨by rw[b8];rfl,cu⟩
 |succ m=>
  have d:=zE W aE.length
  have bw:=zH W
  obtain⟨g,bS⟩:=zF aE W
  have aI:aE.drop W=g::aE.drop (W+1):=by
   obtain⟨af,D⟩:=Zb.1 bS
   rw[Zz af,D]
  obtain⟨row,gg,mA⟩:=uS.get W g bS
  have aC:=λe (D:P e)=>cu.ad e (bW e D)
  have dV:=cR.gF W (by rw[ss.1];omega)
  have nN:=(cR.ad aC).row Zd gg
  have aqK:aV X aQ (.ptr c 0)=some (.str nm):=zN (cu.ad c ax) wv
  rw[aI,Mw]at b8
  refine eD @iQ @fC @t1 @t0 @d @dV @nN ⟨?_⟩
  refine(at4 az Zo (mA.ad (bk:=P) aC (λ_ a=>a)) Zo aqK).Zm ?_
  rintro ac br bL ⟨rfl,cz⟩
  by_cases gf:g.name=nm
  ·rw[Zq gf]at b8
   have cE:decide (g.name=nm)=true:=by simp[gf]
   rw[cE]
   refine cY ⟨?_⟩
   exact⟨by rw[b8],cu.trans cz⟩
  ·rw[Zg gf]at b8
   have cE:decide (g.name=nm)=false:=by simp[gf]
   rw[cE]
   refine dd @iQ @bw ⟨?_⟩
   exact⟨m,Zo,W+1,a6 t0,a6 t1,a6 fC,bt,Zo,cu.trans cz,b8⟩
def aaM(b:Nat):dv X h .eql 23 true (.ptr b 0) .cW=some .zF:=Zk
def ae1{C:aK}{h:S ai}(x:Int):qR C h .max [3,3] [.Z x, .Z 0]=some (.Z (max x 0)):=by
 show oU true (.Z x) [.Z 0]=_
 simp only[oU,eR,rj,ZC]
 congr 2
 simp only[Zi]
 split<;>omega
def aa4(az:dN X){v:z}(aM:(q X).bf<=j)(bS:ui X h P aE v)(bW:∀e,P e->e<j)(nm:aW):
 ba X 40 [v, .str nm] h j (λac R ap=>ac= .tuple [.Z (((tj aE nm).getD 0:Nat):Int), .bool (tj aE nm).isSome]/\bG X h j R ap) (λ_ _ _=>False):=by
 refine zJ az (aji X) ?_
 rw[ajj]
 unfold WN
 obtain⟨b,bi,cj,bu,rfl,o1,a0,cR,uS⟩:=bS
 have gd:=bW b o1
 refine dd @aaM @a0 ⟨?_⟩
 refine ff (λaU=>Z X aU j=zG [.str nm] 1/\bG X h j aU (j+1)) ⟨bz aM,dS⟩ ?_
 rintro aU ⟨b4,cb⟩
 have aC:=λe (D:P e)=>cb.ad e (bW e D)
 refine(atS (j:=j+1) (h:=aU) az Zo (cR.ad aC) (uS.ad (bk:=P) aC (λ_ a=>a)) (λe D=>zC (bW e D)) Zo (by rw[bX b4];rfl)).Zm ?_
 rintro ac aQ bc ⟨rfl,cu⟩
 cases b8:tj aE nm with
 |none=>
  refine cq @ae1 ⟨?_⟩
  exact⟨rfl,cb.trans cu⟩
 |some o=>
  have d:decide ((0:Int)<=(o:Int))=true:=by simp only[Zi];omega
  have aZ:max (o:Int) 0=(o:Int):=Zo
  refine ey @ae1 @d @aZ ⟨?_⟩
  exact⟨rfl,cb.trans cu⟩
end
mutual
def Cb{iS:Type}(step:iS->bs->iS×Bool):iS->bs->iS
 |s, .mk o E nm no t n args=>if (step s (.mk o E nm no t n args)).2=true then xh step (step s (.mk o E nm no t n args)).1 args else(step s (.mk o E nm no t n args)).1
def xh{iS:Type}(step:iS->bs->iS×Bool):iS->List bs->iS
 |s,[]=>s
 |s,B::k=>xh step (Cb step s B) k
end
def az0{iS:Type}(step:iS->bs->iS×Bool)(s:iS)(B:bs):Cb step s B=if (step s B).2=true then xh step (step s B).1 B.args else(step s B).1:=by
 cases B;rw[Cb];rfl
def ayx{B E:bs}(a:E∈B.args):SizeOf.sizeOf E<SizeOf.sizeOf B:=by
 cases B with
 |mk o at_ nm no t n args=>
  have cy:E∈args:=a
  have:=List.sizeOf_lt_of_mem cy
  simp
  omega
section
variable{X:co}{h R aU aQ:S ai}{j ap aL bc:Nat}
def az3(az:dN X){iS:Type}(step:iS->bs->iS×Bool)(P:Nat->Prop)(dA:iS->S ai->Nat->Prop)(gn:S ai)(dK:bs->z->Prop)(jv:∀B b bi cj aY,dK B (.ptr b 0)->aV X gn (.ptr b 8)=some bi->dZ X gn P cj bi 1 (aY.map λv=>[v])->c2 X gn P B.args aY->∀(i:Nat) E w,B.args[i]? =some E->aY[i]? =some w->dK E w)(o:Nat)(sf jY:List z)
 (rg:∀(s:iS) (B:bs) (v:z) (h:S ai) (j:Nat),dA s h j->dK B v->cm X h P B v->(∀e,P e->Z X h e=Z X gn e)->ba X o ((sf++[v])++jY) h j (λac R ap=>ac= .bool (step s B).2/\dA (step s B).1 R ap/\∀e,P e->Z X R e=Z X h e) (λ_ _ _=>False)):
 ∀(N:Nat) (B:bs),SizeOf.sizeOf B<N->∀(s:iS) (v:z) (h:S ai) (j:Nat),dA s h j->dK B v->cm X h P B v->(∀e,P e->Z X h e=Z X gn e)->
  ba X 9 [v, .func (.func o) sf jY] h j (λac R ap=>ac= .tuple []/\dA (Cb step s B) R ap/\∀e,P e->Z X R e=Z X h e) (λ_ _ _=>False):=by
 intro N
 induction N with
 |zero=>intro B a;omega
 |succ N ag=>
  intro B fX s v h j hU V a7 I4
  refine zJ az (XB X) ?_
  rw[XC]
  unfold P3
  obtain⟨b,bi,cj,aY,rfl,ah,_,_,_,_,_,_,_,_,hk,cR,has⟩:=id a7.open
  have e5:=cR.len
  have rh:=has.len
  rw[Zl,rh]at e5
  have hX:=cR.many
  rw[Zl,rh]at hX
  rw[az0]
  refine cq @En ⟨?_⟩
  refine(rg s B _ h j hU V a7 I4).Zm ?_
  rintro ac aU aL ⟨rfl,abP,hW⟩
  cases aBg:(step s B).2 with
  |false=>
   refine cY ⟨?_⟩
   exact⟨rfl,abP,hW⟩
  |true=>
   have xw:aV X aU (.ptr b 8)=some bi:=zN (hW b ah) hk
   refine dd @xw @e5 ⟨?_⟩
   refine fP (λm I R aP=>∃(W:Nat) (e1:iS),I.g 1=some (.func (.func o) sf jY)/\I.g 17=some bi/\I.g 18=some (.Z (B.args.length:Int))/\I.g 19=some (.Z (W:Int))/\W+m=B.args.length/\dA e1 R aP/\(∀e,P e->Z X R e=Z X h e)/\xh step (step s B).1 B.args=xh step e1 (B.args.drop W))
    B.args.length ⟨0,_,bt,bt,bt,gc,Zo,abP,hW,rfl⟩ ?_
   rintro m I aQ bc ⟨W,e1,t1,y3,xa,rE,bx,A4,gD,bF⟩
   cases m with
   |zero=>
    have d:=zD W B.args.length
    rw[ZJ Zo,xh]at bF
    refine ey @rE @xa @d ⟨?_⟩
    exact⟨rfl,by simp only[ZC];rw[bF];exact A4,gD⟩
   |succ m=>
    have d:=zE W B.args.length
    have bw:=zH W
    obtain⟨E,aB⟩:=zF B.args W
    have aI:B.args.drop W=E::B.args.drop (W+1):=by
     obtain⟨af,D⟩:=Zb.1 aB
     rw[Zz af,D]
    obtain⟨w,tF,R7⟩:=has.get W E aB
    obtain⟨b4,b1,cM⟩:=(cR.ad gD).one tF
    rw[aI,xh]at bF
    refine eD @rE @xa @y3 @t1 @d @b4 @b1 ⟨?_⟩
    have dW:=ayx (Zn aB)
    refine(ag E Zo e1 w aQ bc A4 (jv B b bi cj aY V (by rw[da, <-I4 b ah, <-da];exact hk) (cR.ad λe D=>(I4 e D).symm) (c2.ad (λe D=>(I4 e D).symm) _ _ has) W E w aB tF) (cm.ad gD _ _ R7) (λe D=>(gD e D).trans (I4 e D))).Zm ?_
    rintro ac br bL ⟨rfl,x3,k9⟩
    refine dd @rE @bw ⟨?_⟩
    exact⟨m,Zo,W+1,_,a6 t1,a6 y3,a6 xa,bt,Zo,x3,λe D=>by rw[k9 e D,gD e D],bF⟩
def az2(az:dN X){iS:Type}(step:iS->bs->iS×Bool)(P:Nat->Prop)(dA:iS->S ai->Nat->Prop)(o:Nat)(sf jY:List z)
 (rg:∀(s:iS) (B:bs) (v:z) (h:S ai) (j:Nat),dA s h j->cm X h P B v->ba X o ((sf++[v])++jY) h j (λac R ap=>ac= .bool (step s B).2/\dA (step s B).1 R ap/\∀e,P e->Z X R e=Z X h e) (λ_ _ _=>False))
 (N:Nat)(B:bs)(fX:SizeOf.sizeOf B<N)(s:iS)(v:z)(h:S ai)(j:Nat)(hU:dA s h j)(a7:cm X h P B v):
  ba X 9 [v, .func (.func o) sf jY] h j (λac R ap=>ac= .tuple []/\dA (Cb step s B) R ap/\∀e,P e->Z X R e=Z X h e) (λ_ _ _=>False):=
 az3 az step P dA h (λ_ _=>True) (λ_ _ _ _ _ _ _ _ _ _ _ _ _ _=>trivial) o sf jY (λs B v h j hU _ a7 _=>rg s B v h j hU a7) N B fX s v h j hU trivial a7 (λ_ _=>rfl)
end
def fU(X:co)(h:S ai)(cT:Nat)(p:z)(o:Int)(dl c8:z)(f:Int×Int):Prop:=Z X h cT=zG [p, .Z o,dl,c8, .Z f.1, .Z f.2] 6
def my(f:Int×Int)(c E:Int):Int×Int:=if f.1=0 then(c,E)else f
section
variable{X:co}{h R aU aQ:S ai}{j ap aL bc:Nat}
def vT(az:dN X){cT:Nat}{p dl c8:z}{o:Int}{f:Int×Int}(aM:(q X).bf<=cT)(ax:fU X h cT p o dl c8 f)(c E:Int):
 ba X 41 [.ptr cT 0, .Z c, .Z E] h j (λac R ap=>ac= .tuple []/\fU X R cT p o dl c8 (my f c E)/\j<=ap/\∀e,e≠cT->Z X R e=Z X h e) (λ_ _ _=>False):=by
 refine zJ az (ajk X) ?_
 rw[ajl]
 unfold WO
 obtain⟨ef,ev⟩:=f
 have aqE:=ax
 unfold fU at ax
 have fI:aV X h (.ptr cT 4)=some (.Z ef):=by rw[bX ax];rfl
 by_cases a8:ef=0
 ·have d:decide (ef=0)=true:=by simp[a8]
  refine h4 ⟨?_⟩
  refine h4 ⟨?_⟩
  refine h4 ⟨?_⟩
  refine dd @fI @d ⟨?_⟩
  refine⟨rfl, ?_,Zh _,λe D=>aJ Zo D⟩
  unfold fU my
  rw[bz Zo]
  simp only[a8,ZC]
  rfl
 ·have d:decide (ef=0)=false:=by simp[a8]
  refine dd @fI @d ⟨?_⟩
  refine⟨rfl, ?_,Zh _,λ_ _=>rfl⟩
  unfold my
  simp only[a8,ZA]
  exact aqE
def wV(B:bs):Bool:=decide (B.kind=2)||decide (B.kind=6)||decide (B.kind=24)
def avN(az:dN X){P:Nat->Prop}{B:bs}{v:z}(a7:cm X h P B v):
 ba X 76 [v] h j (λac R ap=>ac= .bool (wV B)/\R=h/\j<=ap) (λ_ _ _=>False):=by
 refine zJ az (akk X) ?_
 rw[akl]
 unfold Xn
 obtain⟨b,rfl,ah,a0⟩:=a7.ptr
 by_cases K:B.kind=2
 ·have d:decide (B.kind=2)=true:=by simp[K]
  refine dd @a0 @d ⟨?_⟩
  exact⟨by simp[wV,K],rfl,Zo⟩
 ·have d:decide (B.kind=2)=false:=by simp[K]
  by_cases bV:B.kind=6
  ·have hP:decide (B.kind=6)=true:=by simp[bV]
   refine ey @a0 @d @hP ⟨?_⟩
   exact⟨by simp[wV,bV],rfl,Zo⟩
  ·have hP:decide (B.kind=6)=false:=by simp[bV]
   refine ey @a0 @d @hP ⟨?_⟩
   exact⟨by simp[wV,K,bV],rfl,Zo⟩
end
def FQ(B:aW×z×Nat):z×z×Nat:=(.str B.1,B.2.1,B.2.2)
variable{bB:Type}[DecidableEq bB]
def oY:List (bB×z×Nat)->bB->Nat->Option (Nat×z)
 |[],_,_=>none
 |x::d5,w,i=>if x.1=w then some (i,x.2.1)else oY d5 w (i+1)
def vh(d5:List (bB×z×Nat))(w:bB):Option z:=(oY d5 w 0).map Prod.snd
def Rf(w:bB):∀(d5:List (bB×z×Nat)) (i:Nat),oY d5 w (i+1)=(oY d5 w i).map λp=>(p.1+1,p.2):=by
 intro d5
 induction d5 with
 |nil=>intro i;rfl
 |cons x d5 ag=>
  intro i
  simp only[oY]
  split
  ·rfl
  ·exact ag (i+1)
def BF(x:bB×z×Nat)(d5:List (bB×z×Nat))(w:bB):vh (x::d5) w=if x.1=w then some x.2.1 else vh d5 w:=by
 unfold vh
 simp only[oY]
 split
 ·rfl
 ·rw[Rf];cases oY d5 w 0<;>rfl
def aot(w:bB):∀(d5:List (bB×z×Nat)) (W:Nat) (v:z),oY d5 w 0=some (W,v)->∃b,d5[W]? =some (w,v,b):=by
 intro d5
 induction d5 with
 |nil=>intro W v a;cases a
 |cons x d5 ag=>
  intro W v a
  simp only[oY]at a
  split at a
  ·rename_i B
   cases a
   exact⟨x.2.2,by simp[<-B]⟩
  ·rw[Rf]at a
   cases bP:oY d5 w 0 with
   |none=>rw[bP]at a;cases a
   |some p=>
    rw[bP]at a
    simp at a
    obtain⟨rfl,rfl⟩:=a
    obtain⟨b,ah⟩:=ag p.1 p.2 bP
    exact⟨b,by simpa using ah⟩
def avg(w bE:bB)(v:z)(b:Nat):∀d5:List (bB×z×Nat),vh d5 w=none->vh (d5++[(w,v,b)]) bE=if bE=w then some v else vh d5 bE:=by
 intro d5
 induction d5 with
 |nil=>
  intro _
  rw[Yn,BF]
  by_cases a:bE=w
  ·simp[a]
  ·have:¬w=bE:=λB=>a B.symm
   simp[a,this]
 |cons x d5 ag=>
  intro a
  rw[BF]at a
  split at a
  ·cases a
  ·rename_i af
   rw[zb,BF,BF,ag a]
   by_cases B:x.1=bE
   ·have:¬bE=w:=λal=>af (B.trans al)
    simp[B,this]
   ·simp[B]
def avh(w bE:bB)(v:z):∀(d5:List (bB×z×Nat)) (W:Nat) (v0:z) (b:Nat),oY d5 w 0=some (W,v0)->vh (d5.set W (w,v,b)) bE=if bE=w then some v else vh d5 bE:=by
 intro d5
 induction d5 with
 |nil=>intro W v0 b a;cases a
 |cons x d5 ag=>
  intro W v0 b a
  simp only[oY]at a
  split at a
  ·rename_i B
   simp at a
   obtain⟨rfl,rfl⟩:=a
   rw[Z7,BF,BF]
   by_cases a:bE=w
   ·simp[a]
   ·have H:¬w=bE:=λal=>a al.symm
    have K:¬x.1=bE:=λal=>a (al.symm.trans B)
    simp[a,H,K]
  ·rename_i B
   rw[Rf]at a
   cases bP:oY d5 w 0 with
   |none=>rw[bP]at a;cases a
   |some p=>
    rw[bP]at a
    simp at a
    obtain⟨rfl,rfl⟩:=a
    rw[Yh,BF,BF,ag p.1 p.2 b bP]
    by_cases K:x.1=bE
    ·have:¬bE=w:=λal=>B (K.trans al)
     simp[K,this]
    ·simp[K]
section
variable{X:co}{h R aU aQ:S ai}{j ap aL bc:Nat}
def nv(X:co)(h:S ai)(r:Nat)(wQ:aW->Option z):Prop:=∃d5 dn,Z X h r=some (.map (d5.map FQ) dn)/\∀w,vh d5 w=wQ w
def nv.ad{r:Nat}{wQ:aW->Option z}(a:nv X h r wQ)(o:Z X R r=Z X h r):nv X R r wQ:=by
 obtain⟨d5,dn,H,K⟩:=a
 exact⟨d5,dn,by rw[o];exact H,K⟩
def OH(w:aW):mv X 20 9 (.str w)=true:=Zk
def aaL(w bE:aW):mu X h 20 9 (.str w) (.str bE)=some (mL w bE):=Zk
def Re(w:aW):∀(d5:List (aW×z×Nat)) (i:Nat),findKey X h 9 (.str w) (d5.map FQ) i=some (oY d5 w i):=by
 intro d5
 induction d5 with
 |nil=>intro i;rfl
 |cons x d5 ag=>
  intro i
  simp only[ZE,FQ,findKey,aaL,BM,oY]
  by_cases a:w=x.1
  ·have:x.1=w:=a.symm
   simp[this]
  ·have:¬x.1=w:=λB=>a B.symm
   simp only[a,this,Yw,ZA]
   exact ag (i+1)
def auq(w:aW):ov 20 (.str w) (.str w)=true:=by
 show mL w w=true
 rw[BM];simp
def BG{r:Nat}{wQ:aW->Option z}(a:nv X h r wQ)(aG:z)(w:aW)(ok:Bool):
 l2 X h 9 aG (.map r) (.str w) ok=some (match wQ w with|some v=>bI ok (.tuple [v, .zT]) v|none=>bI ok (.tuple [aG, .zF]) aG):=by
 obtain⟨d5,dn,H,K⟩:=a
 have ak:=K w
 unfold vh at ak
 simp only[l2,H,OH,eU,Re]
 cases bP:oY d5 w 0 with
 |none=>rw[bP]at ak;rw[<-ak];rfl
 |some p=>rw[bP]at ak;rw[<-ak];rfl
def KA{r:Nat}{wQ:aW->Option z}(V:(q X).bf<=r)(a:nv X h r wQ)(w:aW)(v:z):
 ∃R,BL X h j 9 (.map r) (.str w) v=some (.e2 bn.undef R j)/\nv X R r (λx=>if x=w then some v else wQ x)/\∀e,e≠r->Z X R e=Z X h e:=by
 obtain⟨d5,dn,H,K⟩:=a
 have aI:jI X r=true:=jg V
 cases b8:oY d5 w 0 with
 |none=>
  refine⟨Go.bn.bp X h r (some (.map ((d5++[(w,v,dn)]).map FQ) (dn+1))), ?_,⟨d5++[(w,v,dn)],dn+1,bz V,λx=> ?_⟩,λe D=>aJ V D⟩
  ·simp only[BL,H,OH,eU,Re,b8,bn.setObj,aI,eU,gS]
   rw[Yo]
   rfl
  ·rw[avg _ _ _ _ _ (by unfold vh;rw[b8];rfl),K]
 |some p=>
  obtain⟨W,v0⟩:=p
  obtain⟨born,ah⟩:=aot w d5 W v0 b8
  have cK:(d5.map FQ)[W]? =some (.str w,v0,born):=by rw[Zv,ah];rfl
  refine⟨Go.bn.bp X h r (some (.map ((d5.set W (w,v,born)).map FQ) dn)), ?_,⟨d5.set W (w,v,born),dn,bz V,λx=> ?_⟩,λe D=>aJ V D⟩
  ·simp only[BL,H,OH,eU,Re,b8,pN,cK,auq,bn.setObj,aI,eU,gS]
   rw[List.map_set]
   rfl
  ·rw[avh w x v d5 W v0 born b8,K]
end
end
end Go.Proofs.YtendhgofocgngaaGreatDoor

namespace Go.Proofs.YtendhgofocgngaaGreatDoor
open Go.bn Go.aT
noncomputable section
structure f1 where
 kind:Int
 d:eP
 eq:Int
 left:Int
def xg:f1:=⟨0,⟨[],0,dC,[],0,false⟩,0,0⟩
def pm(v:f1):List z:=[.Z v.kind, .str v.d.name, .Z v.d.at_, .bool v.d.ty.b, .bool v.d.ty.s, .Z v.d.ty.w, .str v.d.on, .Z v.d.f7, .bool v.d.no, .Z v.eq, .Z v.left]
def vM(X:co)(h:S ai)(P:Nat->Prop)(dl:z)(t:aW->Option f1):Prop:=∃b r,dl= .ptr b 0/\P b/\P r/\aV X h (.ptr b 0)=some (.map r)/\nv X h r (λw=>(t w).map λv=> .agg (pm v))
section
variable{X:co}{h R aU aQ:S ai}{j ap aL bc:Nat}
def vM.ad{P bk:Nat->Prop}{dl:z}{t:aW->Option f1}(a:vM X h P dl t)(o:∀e,P e->Z X R e=Z X h e)(aw:∀e,P e->bk e):vM X R bk dl t:=by
 obtain⟨b,r,H,K,ak,ay,be⟩:=a
 exact⟨b,r,H,aw b K,aw r ak,zN (o b K) ay,be.ad (o r ak)⟩
def anZ(b:Nat):dv X h .eql 40 true (.ptr b 0) .cW=some .zF:=Zk
def MF(az:dN X){P:Nat->Prop}{dl:z}{t:aW->Option f1}(aM:(q X).bf<=j)(bh:vM X h P dl t)(bW:∀e,P e->e<j)(w:aW):
 ba X 25 [dl, .str w] h j (λac R ap=>ac= .tuple [.agg (pm ((t w).getD xg)), .bool (t w).isSome]/\bG X h j R ap) (λ_ _ _=>False):=by
 refine zJ az (aiQ X) ?_
 rw[aiR]
 unfold Wy
 obtain⟨b,r,rfl,ah,V,a0,aZ⟩:=bh
 have gd:=bW b ah
 have qq:=bW r V
 refine s8 ?_
 generalize fi:bp X h j _=aU
 have b4:Z X aU j=zG [.Z 0, .str [], .Z 0, .zF, .zF, .Z 0, .str [], .Z 0, .zF, .Z 0, .Z 0] 11:=by rw[<-fi,bz aM];rfl
 have cb:bG X h j aU (j+1):=by rw[<-fi];exact dS
 clear fi
 have bd:aV X aU (.ptr b 0)=some (.map r):=zN (cb.ad b gd) a0
 have JA:=aZ.ad (cb.ad r qq)
 have jA:=BG JA (.agg [.Z 0, .str [], .Z 0, .zF, .zF, .Z 0, .str [], .Z 0, .zF, .Z 0, .Z 0]) w true
 have acV:l2 X aU 9 (.agg [.Z 0, .str [], .Z 0, .zF, .zF, .Z 0, .str [], .Z 0, .zF, .Z 0, .Z 0]) (.map r) (.str w) true=some (.tuple [.agg (pm ((t w).getD xg)), .bool (t w).isSome]):=by
  rw[jA];cases t w<;>rfl
 clear jA
 generalize (t w).getD xg=v at*
 have ri:pm v=[.Z v.kind, .str v.d.name, .Z v.d.at_, .bool v.d.ty.b, .bool v.d.ty.s, .Z v.d.ty.w, .str v.d.on, .Z v.d.f7, .bool v.d.no, .Z v.eq, .Z v.left]:=rfl
 rw[ri]at acV ⊢
 refine ey @anZ @bd @acV ⟨?_⟩
 refine gr (km (o:=11) (b:=j) (U:=0) (n:=11) (c:=S.ofList [.Z 0, .str [], .Z 0, .zF, .zF, .Z 0, .str [], .Z 0, .zF, .Z 0, .Z 0] 0 .nil) (by simp(disch:=omega) only[aJ];exact b4) aM rfl Zd Zd rfl) ?_
 generalize gk:bp X _ j _=br
 have cM:Z X br j=zG [.Z v.kind, .str v.d.name, .Z v.d.at_, .bool v.d.ty.b, .bool v.d.ty.s, .Z v.d.ty.w, .str v.d.on, .Z v.d.f7, .bool v.d.no, .Z v.eq, .Z v.left] 11:=by rw[<-gk,bz aM];rfl
 have cz:bG X h j br (j+1+1):=⟨Zo,λe D=>by rw[<-gk];simp(disch:=omega) only[aJ];exact cb.ad e D⟩
 clear gk
 refine cq (bX cM) ⟨?_⟩
 exact⟨rfl,cz⟩
end
def Kr(t:aW->Option f1)(Y:aW->Option Int)(f:Int×Int)(w:aW)(E:Int):Int×Int:=match t w with
 |none=>my f 23 E
 |some v=>if v.kind=1\/1<(Y w).getD 0+1 then my f 24 E else f
def n7(Y:aW->Option Int)(w:aW):Option z:=(Y w).map λo=> .Z o
section
variable{X:co}{h R aU aQ:S ai}{j ap aL bc:Nat}
def auV(az:dN X){P:Nat->Prop}{cT c8:Nat}{p dl:z}{o:Int}{t:aW->Option f1}{Y:aW->Option Int}{f:Int×Int}(aM:(q X).bf<=j)(m1:(q X).bf<=cT)(ww:(q X).bf<=c8)(yc:cT<j)(wx:c8<j)(A7:cT≠c8)
 (ax:fU X h cT p o dl (.map c8) f)(bh:vM X h P dl t)(bW:∀e,P e->e<j/\e≠cT/\e≠c8)(gv:nv X h c8 (n7 Y))(w:aW)(E:Int)(ah:0<=(Y w).getD 0/\(Y w).getD 0<4000000000000000000):
 ba X 43 [.ptr cT 0, .str w, .Z E] h j (λac R ap=>ac= .tuple []/\fU X R cT p o dl (.map c8) (Kr t Y f w E)/\nv X R c8 (n7 λx=>if x=w then some ((Y w).getD 0+1)else Y x)/\j<=ap/\∀e,e<j->e≠cT->e≠c8->Z X R e=Z X h e) (λ_ _ _=>False):=by
 refine zJ az (ajo X) ?_
 rw[ajp]
 unfold WQ
 have b9:aV X h (.ptr cT 2)=some dl:=by unfold fU at ax;rw[bX ax];rfl
 refine cq @b9 ⟨?_⟩
 refine(MF az aM bh (λe D=>(bW e D).1) w).Zm ?_
 rintro ac aU aL ⟨rfl,cb⟩
 have jn:=cb.le
 have wt:fU X aU cT p o dl (.map c8) f:=by unfold fU;rw[cb.ad cT yc];exact ax
 have apS:=gv.ad (cb.ad c8 wx)
 generalize bo:(t w).getD xg=v
 have ri:pm v=[.Z v.kind, .str v.d.name, .Z v.d.at_, .bool v.d.ty.b, .bool v.d.ty.s, .Z v.d.ty.w, .str v.d.on, .Z v.d.f7, .bool v.d.no, .Z v.eq, .Z v.left]:=rfl
 rw[ri]
 refine h4 ⟨?_⟩
 refine h4 ⟨?_⟩
 refine s8 ?_
 refine h4 ⟨?_⟩
 generalize dG:bp X _ aL _=aQ
 have b1:Z X aQ aL=zG [.Z v.kind, .str v.d.name, .Z v.d.at_, .bool v.d.ty.b, .bool v.d.ty.s, .Z v.d.ty.w, .str v.d.on, .Z v.d.f7, .bool v.d.no, .Z v.eq, .Z v.left] 11:=by rw[<-dG,bz Zo];rfl
 have cu:bG X h j aQ (aL+1):=⟨Zo,λe D=>by rw[<-dG];simp(disch:=omega) only[aJ];exact cb.ad e D⟩
 have gD:∀e,e<aL->Z X aQ e=Z X aU e:=λe D=>by rw[<-dG];exact zI
 clear dG
 have Gc:fU X aQ cT p o dl (.map c8) f:=by unfold fU;rw[gD cT Zo];exact wt
 have abC:=apS.ad (gD c8 Zo)
 have d9:aV X aQ (.ptr cT 3)=some (.map c8):=by unfold fU at Gc;rw[bX Gc];rfl
 have jA:l2 X aQ 9 (.Z 0) (.map c8) (.str w) false=some (.Z ((Y w).getD 0)):=by
  rw[BG abC];unfold n7;cases Y w<;>rfl
 have bw:bm .add (.Z ((Y w).getD 0)) (.Z 1)=some (.Z ((Y w).getD 0+1)):=eG Zo Zo
 refine ey @d9 @jA @bw ⟨?_⟩
 obtain⟨br,sz,abD,k9⟩:=KA (j:=aL+1) ww abC w (.Z ((Y w).getD 0+1))
 refine kl sz ?_
 have wu:fU X br cT p o dl (.map c8) f:=by unfold fU;rw[k9 cT A7];exact Gc
 rw[<-k9 aL Zo]at b1
 have IS:nv X br c8 (n7 λx=>if x=w then some ((Y w).getD 0+1)else Y x):=by
  have:(λx=>if x=w then some (z.Z ((Y w).getD 0+1))else n7 Y x)=(n7 λx=>if x=w then some ((Y w).getD 0+1)else Y x):=by
   funext x;unfold n7;by_cases a:x=w<;>simp[a]
  rw[<-this];exact abD
 have Nv:∀e,e<j->e≠c8->Z X br e=Z X h e:=λe H K=>by rw[k9 e K];exact cu.ad e H
 clear jA sz abD d9
 unfold Kr
 cases Ts:t w with
 |none=>
  simp only[Z4,Yz]
  refine cY ⟨?_⟩
  refine(vT (j:=aL+1) (h:=br) az m1 wu 23 E).Zm ?_
  rintro ac b0 cU ⟨rfl,uM,jy,gl⟩
  refine cY ⟨?_⟩
  exact⟨by first|trivial|rfl,uM,IS.ad (gl c8 Zo),Zo,λe H K ak=>by rw[gl e K];exact Nv e H ak⟩
 |some fd=>
  have Dv:fd=v:=by rw[Ts]at bo;exact bo
  subst Dv
  simp only[Z6,Yy]
  have fH:aV X br (.ptr aL 0)=some (.Z fd.kind):=by rw[bX b1];rfl
  have d9:aV X br (.ptr cT 3)=some (.map c8):=by unfold fU at wu;rw[bX wu];rfl
  have jA:l2 X br 9 (.Z 0) (.map c8) (.str w) false=some (.Z ((Y w).getD 0+1)):=by
   rw[BG IS];unfold n7;simp
  by_cases H:fd.kind=1
  ·have d:decide (fd.kind=1)=true:=by simp[H]
   refine dd @fH @d ⟨?_⟩
   refine(vT (j:=aL+1) (h:=br) az m1 wu 24 E).Zm ?_
   rintro ac b0 cU ⟨rfl,uM,jy,gl⟩
   refine cY ⟨?_⟩
   exact⟨by first|trivial|rfl,by simp only[H,true_or,ZC];exact uM,IS.ad (gl c8 Zo),Zo,λe H K ak=>by rw[gl e K];exact Nv e H ak⟩
  ·have d:decide (fd.kind=1)=false:=by simp[H]
   by_cases K:1<(Y w).getD 0+1
   ·have cE:decide (1<(Y w).getD 0+1)=true:=by simp only[Zi];exact K
    refine ht @fH @d @d9 @jA @cE ⟨?_⟩
    refine(vT (j:=aL+1) (h:=br) az m1 wu 24 E).Zm ?_
    rintro ac b0 cU ⟨rfl,uM,jy,gl⟩
    refine cY ⟨?_⟩
    exact⟨by first|trivial|rfl,by simp only[H,K,or_true,ZC];exact uM,IS.ad (gl c8 Zo),Zo,λe H K ak=>by rw[gl e K];exact Nv e H ak⟩
   ·have cE:decide (1<(Y w).getD 0+1)=false:=by simp only[Zc];exact K
    refine ht @fH @d @d9 @jA @cE ⟨?_⟩
    exact⟨by first|trivial|rfl,by simp only[H,K,Yx,ZA];exact wu,IS,Zo,λe H K ak=>Nv e H ak⟩
end
def w3(t:aW->Option f1)(f:Int×Int)(B:bs):Int×Int:=if wV B then(if (t B.name).isSome then f else my f 23 B.at_)else f
def Hq(aE:List Go.aT.Node)(o:Nat)(f:Int×Int)(B:bs):Int×Int:=if B.kind=25 then(match tj aE B.name with
 |none=>my f 23 B.at_
 |some W=>if o<=W then my f 25 B.at_ else f)else f
def sV(t:aW->Option f1)(aE:List Go.aT.Node)(o:Nat)(f:Int×Int)(B:bs):(Int×Int)×Bool:=(Hq aE o (w3 t f B) B,true)
structure Fp(X:co)(gn:S ai)(bf cT:Nat)(p:z)(o:Nat)(dl c8:z)(f:Int×Int)(h:S ai)(j:Nat):Prop where
 le:bf<=j
 jW:fU X h cT p o dl c8 f
 low:∀e,e<bf->e≠cT->Z X h e=Z X gn e
section
variable{X:co}{h R gn aU aQ:S ai}{j ap aL bc:Nat}
def axQ(az:dN X){P:Nat->Prop}{kV cT hL:Nat}{p dl c8:z}{o:Nat}{t:aW->Option f1}{aE:List Go.aT.Node}(aBK:(q X).bf<=kV)(m1:(q X).bf<=cT)(yc:cT<kV)(NL:hL<kV)(NI:hL≠cT)(bP:aV X gn (.ptr hL 0)=some (.ptr cT 0))
 (bW:∀e,P e->e<kV/\e≠cT)(bh:vM X gn P dl t)(bS:ui X gn P aE p){f:Int×Int}(o0:Fp X gn kV cT p o dl c8 f h j){B:bs}{v:z}(a7:cm X h P B v):
 ba X 75 [v, .ptr hL 0] h j (λac R ap=>ac= .zT/\Fp X gn kV cT p o dl c8 (sV t aE o f B).1 R ap) (λ_ _ _=>False):=by
 refine zJ az (aki X) ?_
 rw[akj]
 unfold Xm
 refine(avN az a7).Zm ?_
 rintro ac aU aL ⟨rfl,rfl,jn⟩
 have aBN:=o0.le
 have it:∀h,Z X h hL=Z X gn hL->aV X h (.ptr hL 0)=some (.ptr cT 0):=λh a=>zN a bP
 refine iw (λcZ R aP=>cZ.g 0=some v/\cZ.g 1=some (.ptr hL 0)/\Fp X gn kV cT p o dl c8 (w3 t f B) R aP/\cm X R P B v) (λW bx=> ?_) ?_
 ·obtain⟨b,_,_,_,rfl,ah,a0,bd,ca,_⟩:=id a7.open
  unfold w3 at bx
  cases gf:wV B with
  |false=>
   rw[gf]at bx
   simp only[Zw,ZA]at bx
   refine cY ⟨?_⟩
   exact bx _ _ _ ⟨bt,bt,⟨Zo,o0.jW,o0.low⟩,a7⟩
  |true=>
   rw[gf]at bx
   simp only[ZC]at bx
   have S7:=it aU (o0.low hL NL NI)
   have b9:aV X aU (.ptr cT 2)=some dl:=by have:=o0.jW;unfold fU at this;rw[bX this];rfl
   refine ey @S7 @b9 @ca ⟨?_⟩
   refine ff (λaQ=>Z X aQ (aL+12)=zG [.Z 0, .str [], .Z 0, .zF, .zF, .Z 0, .str [], .Z 0, .zF, .Z 0, .Z 0] 11/\bG X aU aL aQ (aL+12+1)) ⟨by rw[bz Zo];rfl,Zo,λe D=>zI⟩ ?_
   rintro aQ ⟨b1,cu⟩
   have b2:∀e,e<kV->Z X aQ e=Z X aU e:=λe D=>cu.ad e Zo
   refine(MF (j:=aL+15) (h:=aQ) az Zo (bh.ad (bk:=P) (λe D=>by rw[b2 e (bW e D).1];exact o0.low e (bW e D).1 (bW e D).2) (λ_ a=>a)) (λe D=>zC (bW e D).1) B.name).Zm ?_
   rintro ac br bL ⟨rfl,cz⟩
   have jo:=cz.le
   have cM:Z X br (aL+12)=zG [.Z 0, .str [], .Z 0, .zF, .zF, .Z 0, .str [], .Z 0, .zF, .Z 0, .Z 0] 11:=by rw[cz.ad _ Zo];exact b1
   generalize Dv:(t B.name).getD xg=fe
   have ri:pm fe=[.Z fe.kind, .str fe.d.name, .Z fe.d.at_, .bool fe.d.ty.b, .bool fe.d.ty.s, .Z fe.d.ty.w, .str fe.d.on, .Z fe.d.f7, .bool fe.d.no, .Z fe.eq, .Z fe.left]:=rfl
   rw[ri]
   refine h4 ⟨?_⟩
   refine h4 ⟨?_⟩
   refine gr (km (o:=11) (b:=aL+12) (U:=0) (n:=11) cM Zo rfl Zd Zd rfl) ?_
   generalize hV:bp X br (aL+12) _=b0
   have fb:∀e,e<aL->Z X b0 e=Z X aU e:=λe D=>by rw[<-hV,aJ Zo Zo,cz.ad e Zo,cu.ad e D]
   clear hV b1 cM
   have MX:Fp X gn kV cT p o dl c8 f b0 bL:=⟨Zo,by have:=o0.jW;unfold fU at*;rw[fb cT Zo];exact this,λe H K=>by rw[fb e Zo];exact o0.low e H K⟩
   have o4:cm X b0 P B (.ptr b 0):=cm.ad (λe D=>fb e (zC (bW e D).1)) _ _ a7
   have asv:=it b0 (MX.low hL NL NI)
   have ak0:aV X b0 (.ptr b 1)=some (.Z B.at_):=zN (fb b (zC (bW b ah).1)) bd
   cases sv:(t B.name).isSome with
   |true=>
    rw[sv]at bx
    simp only[ZC]at bx
    refine cY ⟨?_⟩
    exact bx _ _ _ ⟨bt,bt,MX,o4⟩
   |false=>
    rw[sv]at bx
    simp only[Zw,ZA]at bx
    refine dd @asv @ak0 ⟨?_⟩
    refine(vT (h:=b0) az m1 MX.jW 23 B.at_).Zm ?_
    rintro ac b5 cA ⟨rfl,Da,jz,lW⟩
    refine cY ⟨?_⟩
    exact bx _ _ _ ⟨bt,bt,⟨Zo,Da,λe H K=>by rw[lW e K];exact MX.low e H K⟩,cm.ad (λe D=>lW e (bW e D).2) _ _ o4⟩
 ·rintro I aQ bc ⟨t0,t1,C4,ye⟩
  obtain⟨b,_,_,_,rfl,ah,a0,bd,ca,_⟩:=id ye.open
  have gE:=C4.le
  show cl _ _
  by_cases sj:B.kind=25
  ·have d:decide (B.kind=25)=true:=by simp[sj]
   have S7:=it aQ (C4.low hL NL NI)
   have fH:aV X aQ (.ptr cT 0)=some p:=by have:=C4.jW;unfold fU at this;rw[bX this];rfl
   refine eD @t0 @t1 @a0 @d @S7 @fH @ca ⟨?_⟩
   refine(aa4 (j:=bc+14) (h:=aQ) az Zo (bS.ad (bk:=P) (λe D=>C4.low e (bW e D).1 (bW e D).2) (λ_ a=>a)) (λe D=>zC (bW e D).1) B.name).Zm ?_
   rintro ac br bL ⟨rfl,cz⟩
   have jo:=cz.le
   have C5:Fp X gn kV cT p o dl c8 (w3 t f B) br bL:=⟨Zo,by have:=C4.jW;unfold fU at*;rw[cz.ad cT Zo];exact this,λe H K=>by rw[cz.ad e Zo];exact C4.low e H K⟩
   have S8:=it br (C5.low hL NL NI)
   have XL:aV X br (.ptr b 1)=some (.Z B.at_):=zN (cz.ad b (zC (bW b ah).1)) bd
   have cO:aV X br (.ptr cT 1)=some (.Z (o:Int)):=by have:=C5.jW;unfold fU at this;rw[bX this];rfl
   cases b8:tj aE B.name with
   |none=>
    have V:(sV t aE o f B).1=my (w3 t f B) 23 B.at_:=by simp[sV,Hq,sj,b8]
    rw[V]
    simp only[Z4]
    refine hm @t0 @t1 @S8 @XL ⟨?_⟩
    refine(vT (h:=br) az m1 C5.jW 23 B.at_).Zm ?_
    rintro ac b5 cA ⟨rfl,Da,jz,lW⟩
    refine cY ⟨?_⟩
    exact⟨by first|trivial|rfl,Zo,Da,λe H K=>by rw[lW e K];exact C5.low e H K⟩
   |some W=>
    simp only[Z6,YL]
    by_cases Jr:o<=W
    ·have cE:decide ((o:Int)<=(W:Int))=true:=by simp only[Zi];omega
     have V:(sV t aE o f B).1=my (w3 t f B) 25 B.at_:=by simp[sV,Hq,sj,b8,Jr]
     rw[V]
     refine lT @t0 @t1 @S8 @XL @cO @cE ⟨?_⟩
     refine(vT (h:=br) az m1 C5.jW 25 B.at_).Zm ?_
     rintro ac b5 cA ⟨rfl,Da,jz,lW⟩
     refine cY ⟨?_⟩
     exact⟨by first|trivial|rfl,Zo,Da,λe H K=>by rw[lW e K];exact C5.low e H K⟩
    ·have cE:decide ((o:Int)<=(W:Int))=false:=by simp only[Zc];omega
     have V:(sV t aE o f B).1=w3 t f B:=by simp[sV,Hq,sj,b8,Jr]
     rw[V]
     refine ht @t0 @t1 @S8 @cO @cE ⟨?_⟩
     exact⟨by first|trivial|rfl,C5⟩
  ·have d:decide (B.kind=25)=false:=by simp[sj]
   have V:(sV t aE o f B).1=w3 t f B:=by simp[sV,Hq,sj]
   rw[V]
   refine ey @t0 @a0 @d ⟨?_⟩
   exact⟨by first|trivial|rfl,C4⟩
end
def OZ(t:aW->Option f1)(aE:List Go.aT.Node)(o:Nat)(f:Int×Int)(B:bs):Int×Int:=Cb (sV t aE o) f B
section
variable{X:co}{h:S ai}{j:Nat}
def axS(az:dN X){P:Nat->Prop}{cT:Nat}{p dl c8:z}{o:Nat}{t:aW->Option f1}{aE:List Go.aT.Node}(aM:(q X).bf<=j)(m1:(q X).bf<=cT)(yc:cT<j)
 (bW:∀e,P e->e<j/\e≠cT)(bh:vM X h P dl t)(bS:ui X h P aE p){f:Int×Int}(ax:fU X h cT p o dl c8 f){B:bs}{v:z}(a7:cm X h P B v):
 ba X 44 [.ptr cT 0,v] h j (λac R ap=>ac= .tuple []/\fU X R cT p o dl c8 (OZ t aE o f B)/\j<=ap/\∀e,e<j->e≠cT->Z X R e=Z X h e) (λ_ _ _=>False):=by
 refine zJ az (ajq X) ?_
 rw[ajr]
 unfold WR
 refine cY ⟨?_⟩
 refine ff (λaU=>Z X aU j=zG [.ptr cT 0] 1/\bG X h j aU (j+1)) ⟨bz aM,dS⟩ ?_
 rintro aU ⟨b4,cb⟩
 have TO:∀e,P e->Z X aU e=Z X h e:=λe D=>cb.ad e (bW e D).1
 have bP:aV X aU (.ptr j 0)=some (.ptr cT 0):=by rw[bX b4];rfl
 refine(az2 az (sV t aE o) P (Fp X aU (j+1) cT p o dl c8) 75 [] [.ptr j 0] (λs B v aQ bc hU ye=> ?_) (SizeOf.sizeOf B+1) B Zo f v aU (j+1) ⟨Zh _,by unfold fU at*;rw[cb.ad cT yc];exact ax,λ_ _ _=>rfl⟩ (cm.ad TO _ _ a7)).Zm ?_
 ·refine(axQ az Zo m1 Zo Zo Zo bP (λe D=>⟨zC (bW e D).1,(bW e D).2⟩) (bh.ad (bk:=P) TO (λ_ a=>a)) (bS.ad (bk:=P) TO (λ_ a=>a)) hU ye).Zm ?_
  rintro ac br bL ⟨rfl,o0⟩
  exact⟨rfl,o0,λe D=>by have:=bW e D;rw[o0.low e Zo this.2,hU.low e Zo this.2]⟩
 ·rintro ac aQ bc ⟨rfl,o0,_⟩
  refine cY ⟨?_⟩
  have:=o0.le
  exact⟨by first|trivial|rfl,o0.jW,Zo,λe H K=>by rw[o0.low e Zo K,cb.ad e H]⟩
end
end
end Go.Proofs.YtendhgofocgngaaGreatDoor

