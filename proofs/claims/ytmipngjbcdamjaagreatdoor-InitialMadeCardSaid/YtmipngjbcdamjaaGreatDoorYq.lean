/- Part of the proof of the last text; no conditions -/
import Derived.Test.YtmipngjbcdamjaaGreatDoorYp
set_option maxHeartbeats 8000000
set_option linter.all false
namespace Go.Proofs.YtmipngjbcdamjaaGreatDoor
open Go.S Go.a8
noncomputable section
def sv(s:aW):y.same 30 (.str s) (.str s)=true:=by simp[y.same,qg]
section
variable{X:bU}{h E cH ay aO:I ae}{j ar aL aR bz:Nat}{bp d2 P:Nat->Prop}{bm:bk->y->Prop}
def gd.snoc{df:List dO}{rows:List (List y)}(e:gd X h P bm df rows){L:dO}{row:List y}(d:jN X h P bm L row):gd X h P bm (df++[L]) (rows++[row]):=by
 refine⟨by simp[e.len],λi p r a M=> ?_⟩
 by_cases ak:i<df.length
 ·rw[ZA ak]at a
  rw[ZA (by rw[e.len];exact ak)]at M
  exact e.all i p r a M
 ·have c:=(Zf.1 a).1
  simp at c
  have b:i=df.length:=Zo
  subst b
  rw[Zy (Zp _),YV]at a
  rw[Zy (by rw[e.len];exact Zp _),e.len,YV]at M
  simp at a M
  subst a M
  exact d
def f9.snoc{df:List Go.a8.Node}{rows:List (List y)}(e:f9 X h P bm df rows){L:Go.a8.Node}{row:List y}(d:fT X h P bm L row):f9 X h P bm (df++[L]) (rows++[row]):=by
 refine⟨by simp[e.len],λi p r a M=> ?_⟩
 by_cases ak:i<df.length
 ·rw[ZA ak]at a
  rw[ZA (by rw[e.len];exact ak)]at M
  exact e.all i p r a M
 ·have c:=(Zf.1 a).1
  simp at c
  have b:i=df.length:=Zo
  subst b
  rw[Zy (Zp _),YV]at a
  rw[Zy (by rw[e.len];exact Zp _),e.len,YV]at M
  simp at a M
  subst a M
  exact d
def vo.to{bn:Nat->Prop}(o:∀a,P a->J X E a=J X h a)(au:∀a,P a->bn a){df:List dO}{rows:List (List y)}(e:gd X h P (bT X h P) df rows):gd X E bn (bT X E bn) df rows:=
 gd.to o au (λL _ v e=>bT.to o au _ _ e) e
def vr.to{bn:Nat->Prop}(o:∀a,P a->J X E a=J X h a)(au:∀a,P a->bn a){U:List Go.a8.Node}{rows:List (List y)}(e:f9 X h P (bT X h P) U rows):f9 X E bn (bT X E bn) U rows:=
 f9.to o au (λg _ L _ v e=>bT.to o au _ _ e) e
set_option maxRecDepth 100000 in
def Bp(UF:dX X){U:List Go.a8.Node}{v:y}(VP:(u X).aP<=j)(W6:gf X h P U v)(t:∀a,P a->a<j)(Wq:U.length<=1000)(WS:∀g∈U,g.cl.length<=1000/\g.out.length<=1000/\g.loc.length<=1000/\g.eqs.length<=1000):
 aN X 6 [v] h j (λN E ar=>gf X E (λa=>P a\/(j<=a/\a<ar)) U N/\a1 X h j E ar) zG:=by
 refine zB UF (C6 X) ?_
 rw[C7]
 unfold wv
 obtain⟨b,ax,bO,rows,rfl,ab,a0,V3,V2⟩:=W6
 have W7:=t b ab
 have V0:=V3.len
 rw[V2.len]at V0
 refine bG @xF ⟨?_⟩
 generalize Ur:aS X h j _=ay
 have VJ:J X ay j=zy [.az] 1:=by rw[<-Ur,bb VP];rfl
 have bf:∀a,a<j->J X ay a=J X h a:=λa f=>by rw[<-Ur,aY VP Zo]
 clear Ur
 refine cQ (λm B E aj=>∃(i:Nat) (UN:y) (UA:List (List y)) (aJ:List Nat) (U6:I y),B.g 0=some (.ptr b 0)/\B.g 3=some (.ptr j 0)/\B.g 4=some (.Z (i:Int))/\i+m=U.length/\j<aj/\J X E j=some (.cells U6 1 .own)/\U6.get 0=some UN
  /\cX X E UN 6 UA.flatten aJ/\(∀a∈aJ,j<a/\a<aj)/\(∀r∈UA,r.length=6)/\f9 X E (λa=>P a\/((j<a/\a<aj)/\a∉aJ)) (bT X E (λa=>P a\/((j<a/\a<aj)/\a∉aJ))) (U.take i) UA/\∀a,a<j->J X E a=J X h a)
  U.length ⟨0, .az,[],[],_,aK,aK,cA,Zo,Zo,VJ,rfl, .inl (.inl ⟨rfl,rfl,rfl⟩),Zs,Zs,⟨rfl,λi g row e=>by simp at e⟩,bf⟩ ?_
 clear VJ bf
 rintro m B aO aR ⟨i,UN,UA,aJ,U6,t0,t3,t4,ak,VZ,VN,VT,Vl,T6,V4,UH,Ua⟩
 have VI:W X aO (.ptr b 0)=some ax:=zF (Ua b W7) a0
 cases m with
 |zero=>
  have d:=zv i U.length
  rw[Zt Zo]at UH
  refine dw @t4 @t0 @VI @V0 @d @t3 ⟨?_⟩
  obtain⟨be,WJ⟩:=Vl.gO (P:=λa=>P a\/(j<=a/\a<aR)) Zd V4 (by rw[UH.len];omega) (λa f=>by have:=T6 a f;exact .inr ⟨Zo,Zo⟩)
  exact⟨⟨j,UN,be,UA,rfl, .inr ⟨Zp _,VZ⟩,by rw[ba VN];exact VT,WJ,vr.to (λ_ _=>rfl) (λa f=>by rcases f with f|f;exact .inl f;exact .inr ⟨Zo,f.1.2⟩) UH⟩,Zo,Ua⟩
 |succ m=>
  have d:=zw i U.length
  have Vy:=zz i
  obtain⟨g,Uy⟩:=zx U i
  obtain⟨Wl,Wm,z3,z4⟩:=WS g (Zg Uy)
  obtain⟨row,WM,Vc⟩:=V2.get i g Uy
  have WB:=V3.cT i (by rw[V2.len];omega)
  have VX:∀a,P a->J X aO a=J X h a:=λa f=>Ua a (t a f)
  have WO:=(V3.T VX).row Zd WM
  have e2:=Vc.cR
  obtain⟨bA,bB,VE,Ug,b2,be,b6,c4,X1,rfl,VU,VV,VW,UZ,Ux⟩:=Vc
  refine bs @t4 @t0 @VI @V0 @d @WB @WO ⟨?_⟩
  refine cD (e8 (o:=6) (b:=aR) (D:=0) (n:=6) (c:=I.ofList [.str [], .Z 0, .az, .az, .az, .az] 0 .nil) (bb Zo) Zo rfl Zd Zd e2) ?_
  generalize Us:aS X _ aR _=UO
  have Un:J X UO aR=zy [.str g.name, .Z g.at_,bA,bB,VE,Ug] 6:=by rw[<-Us,bb Zo];rfl
  have Vo:∀a,a<aR->J X UO a=J X aO a:=λa f=>by rw[<-Us];exact zA
  clear Us
  refine bG (ba Un) ⟨?_⟩
  generalize Ut:aS X UO (aR+1+14) _=T8
  have VK:J X T8 (aR+1+14)=zy [.str [], .Z 0, .az, .az, .az, .az] 6:=by rw[<-Ut,bb Zo];rfl
  have V6:∀a,a<aR+1->J X T8 a=J X UO a:=λa f=>by rw[<-Ut,aY Zo Zo]
  clear Ut
  have US:∀E,(∀a,a<aR+1->J X E a=J X T8 a)->Go.S.J X E aR=zy [.str g.name, .Z g.at_,bA,bB,VE,Ug] 6:=λE e=>by rw[e aR Zo,V6 aR Zo];exact Un
  have Ub:∀E,(∀a,a<aR+1->J X E a=J X T8 a)->∀a,P a->J X E a=J X h a:=λE e a f=>by have:=t a f;rw[e a Zo,V6 a Zo,Vo a Zo,VX a f]
  refine(uD UF (j:=aR+1+16) (h:=T8) Zo (VU.T (Ub T8 λ_ _=>rfl)) (λa f=>zu (t a f)) Wl).Zm ?_
  rintro O Uh WY ⟨Wn,Vh,VQ,UW⟩
  have Ws:=UW.le
  have UC:=US Uh λa f=>UW.T a Zo
  have Wy:=fg VU.len
  have Wa:=fg VV.len
  have Vt:=fg VW.len
  have Wz:=fg UZ.len
  refine bG (ba UC) ⟨?_⟩
  refine fi (sv _) ?_
  refine bG (ba UC) ⟨?_⟩
  refine fi (o3 _ _) ?_
  refine bG (ba UC) ⟨?_⟩
  refine fi Wa.2.2 ?_
  refine bG (ba UC) ⟨?_⟩
  refine fi Vt.2.2 ?_
  refine(uD UF (j:=WY) (h:=Uh) Zo (VV.T (Ub Uh λa f=>UW.T a Zo)) (λa f=>zu (t a f)) Wm).Zm ?_
  rintro Y UP WZ ⟨Wo,Vi,VR,Uq⟩
  have Wt:=Uq.le
  have V7:∀a,a<aR+1+16->J X UP a=J X T8 a:=λa f=>by rw[Uq.T a Zo,UW.T a Zo]
  have UT:=US UP λa f=>V7 a Zo
  refine bG (ba UT) ⟨?_⟩
  refine fi (sv _) ?_
  refine bG (ba UT) ⟨?_⟩
  refine fi (o3 _ _) ?_
  refine bG (ba UT) ⟨?_⟩
  refine fi Vt.2.2 ?_
  refine(uD UF (j:=WZ) (h:=UP) Zo (VW.T (Ub UP λa f=>V7 a Zo)) (λa f=>zu (t a f)) z3).Zm ?_
  rintro Z TY x ⟨Wp,Vj,VS,UX⟩
  have Wu:=UX.le
  have Ud:∀a,a<aR+1+16->J X TY a=J X T8 a:=λa f=>by rw[UX.T a Zo,V7 a f]
  have UU:=US TY λa f=>Ud a Zo
  have Uj:=cX.same Vh
  have Uk:=cX.same Vi
  have Ul:=cX.same Vj
  have W8:cr [.str [], .Z 0, .az, .az, .az, .az] [(0,1, .str g.name),(1,1, .Z g.at_),(2,1,O),(3,1,Y),(4,1,Z)]=some (.agg [.str g.name, .Z g.at_,O,Y,Z, .az]):=by
   have cs:(y.str g.name).cells=[.str g.name]:=rfl
   have Um:(y.Z g.at_).cells=[.Z g.at_]:=rfl
   simp[cr,gH,gI,Uj.1,Uk.1,Ul.1,cs,Um,e5]
  refine cD W8 ?_
  refine bG (ba UU) ⟨?_⟩
  refine fi (sv _) ?_
  refine bG (ba UU) ⟨?_⟩
  refine fi (o3 _ _) ?_
  have VL:J X TY (aR+1+14)=zy [.str [], .Z 0, .az, .az, .az, .az] 6:=by rw[Ud _ Zo];exact VK
  refine cD (e8 (o:=6) (b:=aR+1+14) (D:=0) (n:=6) VL Zo rfl Zd Zd (by simp[y.cells,cR,Uj.2.1,Uk.2.1,Ul.2.1,show d9 (.str g.name)=true from rfl,show d9 (.Z g.at_)=true from rfl,show d9 .az=true from rfl])) ?_
  generalize Uu:aS X TY (aR+1+14) _=TZ
  have VM:J X TZ (aR+1+14)=zy [.str g.name, .Z g.at_,O,Y,Z, .az] 6:=by rw[<-Uu,bb Zo];rfl
  have Ue:∀a,a≠aR+1+14->J X TZ a=J X TY a:=λa f=>by rw[<-Uu,aY Zo f]
  clear Uu
  have W0:J X TZ aR=zy [.str g.name, .Z g.at_,bA,bB,VE,Ug] 6:=by rw[Ue _ Zo];exact UU
  have WU:∀a,P a->J X TZ a=J X h a:=λa f=>by rw[Ue a (zu (t a f))];exact Ub TY (λa f=>Ud a Zo) a f
  have V9:∀a,a<aR->J X TZ a=J X aO a:=λa f=>by rw[Ue a Zo,Ud a Zo,V6 a Zo,Vo a f]
  have V1:=UZ.len
  rw[Ux.len]at V1
  clear Un VK UC UT UU VL US
  refine cU (λUR E aj=>∃(s:y) (T3:List (List y)) (w:List Nat) (T5:I y),UR.g 0=some (.ptr b 0)/\UR.g 3=some (.ptr j 0)/\UR.g 4=some (.Z (i:Int))/\UR.g 6=some (.ptr (aR+1+14) 0)/\x<=aj/\J X E (aR+1+14)=some (.cells T5 6 .own)/\dJ T5 [.str g.name, .Z g.at_,O,Y,Z,s]
   /\cX X E s 4 T3.flatten w/\(∀a∈w,x<=a/\a<aj)/\(∀r∈T3,r.length=4)/\gd X E (λa=>P a\/((x<=a/\a<aj)/\a∉w)) (bT X E (λa=>P a\/((x<=a/\a<aj)/\a∉w))) g.eqs T3/\∀a,a<x->a≠aR+1+14->J X E a=J X TZ a) (λWx WD=> ?_) ?_
  ·refine cQ (λUM B E aj=>∃(o:Nat) (s:y) (T3:List (List y)) (w:List Nat) (T5:I y),B.g 0=some (.ptr b 0)/\B.g 3=some (.ptr j 0)/\B.g 4=some (.Z (i:Int))/\B.g 5=some (.ptr aR 0)/\B.g 6=some (.ptr (aR+1+14) 0)/\B.g 7=some (.Z (o:Int))/\o+UM=g.eqs.length/\x<=aj/\J X E (aR+1+14)=some (.cells T5 6 .own)/\dJ T5 [.str g.name, .Z g.at_,O,Y,Z,s]
    /\cX X E s 4 T3.flatten w/\(∀a∈w,x<=a/\a<aj)/\(∀r∈T3,r.length=4)/\gd X E (λa=>P a\/((x<=a/\a<aj)/\a∉w)) (bT X E (λa=>P a\/((x<=a/\a<aj)/\a∉w))) (g.eqs.take o) T3/\∀a,a<x->a≠aR+1+14->J X E a=J X TZ a)
    g.eqs.length ⟨0, .az,[],[],_,an t0,an t3,an t4,aK,aK,cA,Zo,Zp _,VM,dl _, .inl (.inl ⟨rfl,rfl,rfl⟩),Zs,Zs,⟨rfl,λi g row e=>by simp at e⟩,λ_ _ _=>rfl⟩ ?_
   clear t0 t3 t4 VM
   rintro UM B T4 p ⟨o,s,T3,w,T5,t0,t3,t4,t5,UB,VF,Wr,Va,UD,UG,U8,G,UI,U3,T7⟩
   have Vq:W X T4 (.ptr aR 5)=some Ug:=by rw[b0,T7 aR Zo Zo,W0];rfl
   cases UM with
   |zero=>
    have d:=zv o g.eqs.length
    rw[Zt Zo]at U3
    refine de @VF @t5 @Vq @V1 @d ⟨?_⟩
    exact WD _ _ _ ⟨s,T3,w,T5,an t0,an t3,an t4,an UB,Va,UD,UG,U8,G,UI,U3,T7⟩
   |succ UM=>
    have d:=zw o g.eqs.length
    have Vz:=zz o
    obtain⟨L,Ve⟩:=zx g.eqs o
    obtain⟨X0,WN,WI⟩:=Ux.get o L Ve
    have Uc:∀a,P a->J X T4 a=J X h a:=λa f=>by have:=t a f;rw[T7 a Zo Zo,WU a f]
    have WC:=UZ.cT o (by rw[Ux.len];omega)
    have WP:=(UZ.T Uc).row Zd WN
    obtain⟨T2,T1,Vv,Vw,dB,rfl,Vf,Vg,WG,WH⟩:=WI
    have VG:=fg Vf.len
    have VH:=fg Vg.1.len
    refine bs @VF @t5 @Vq @V1 @d @WC @WP ⟨?_⟩
    refine cD (e8 (o:=4) (b:=p) (D:=0) (n:=4) (c:=I.ofList [.az, .az, .Z 0, .bC] 0 .nil) (bb Zo) Zo rfl Zd Zd WH) ?_
    generalize U0:aS X _ p _=fy
    have UV:J X fy p=zy [T2,T1, .Z L.at_,dB] 4:=by rw[<-U0,bb Zo];rfl
    have U4:∀a,a<p->J X fy a=J X T4 a:=λa f=>by rw[<-U0];exact zA
    clear U0
    have W3:J X fy (aR+1+14)=some (.cells T5 6 .own):=by rw[U4 _ Zo];exact UD
    have Vr:W X fy (.ptr (aR+1+14) 5)=some s:=by rw[ba W3,UG 5];rfl
    refine cz @UB @Vr (ba UV) ⟨?_⟩
    refine(IB UF _ L.right (Yo _) fy (p+1+16) P dB Zo (bT.to (λa f=>by rw[U4 a (zu (t a f)),Uc a f]) (λ_ e=>e) _ _ WG) (λa f=>zu (t a f))).Zm ?_
    rintro N T9 Vs ⟨Vn,UY⟩
    have Wv:=UY.le
    obtain⟨Wb,Wc,Ww⟩:=bT.val Vn
    have W9:cr [.az, .az, .Z 0, .bC] [(0,1,T2),(1,1,T1),(2,1, .Z L.at_),(3,1,N)]=some (.agg [T2,T1, .Z L.at_,N]):=by
     have Um:(y.Z L.at_).cells=[.Z L.at_]:=rfl
     simp[cr,gH,gI,VG.1,VH.1,Wb,Um,e5]
    refine cD W9 ?_
    have WQ:dC 1 [.az, .az, .Z 0, .bC] [(0,4, .agg [T2,T1, .Z L.at_,N])] (p+1+12)=some (.slice (p+1+12) 0 1 1, .cells (I.ofList [T2,T1, .Z L.at_,N] 0 .nil) 4 .own):=by
     simp[dC,gH,gI,e5,y.cells]
    refine cD WQ ?_
    have WX:W X T9 (.ptr (aR+1+14) 5)=some s:=by rw[UY.cZ _ _ Zo];exact Vr
    have Uo:J X T9 p=zy [T2,T1, .Z L.at_,dB] 4:=by rw[UY.T _ Zo];exact UV
    refine bG @WX ⟨?_⟩
    refine fi (cX.same U8).2.2 ?_
    refine bG (ba Uo) ⟨?_⟩
    refine fi VG.2.2 ?_
    refine bG (ba Uo) ⟨?_⟩
    refine fi VH.2.2 ?_
    refine bG (ba Uo) ⟨?_⟩
    refine fi (o3 _ _) ?_
    generalize Uv:aS X T9 (p+1+12) _=UQ
    have W1:J X UQ (p+1+12)=zy [T2,T1, .Z L.at_,N] 4:=by rw[<-Uv,bb Zo]
    have Vp:∀a,a≠p+1+12->J X UQ a=J X T9 a:=λa f=>by rw[<-Uv,aY Zo f]
    clear Uv
    have VA:∀a,a<p->J X UQ a=J X T4 a:=λa f=>by rw[Vp a Zo,UY.T a Zo,U4 a f]
    have WA:=iz UI
    have WL:=U3.len
    have Vd:Go.S.cR [T2,T1, .Z L.at_,N]=true:=by simp[Go.S.cR,VG.2.1,VH.2.1,Wc,show d9 (.Z L.at_)=true from rfl]
    obtain⟨VD,Ui,U5,Uw,Vk,U2,Uz⟩:=(U8.T (E:=UQ) (λa f=>VA a (G a f).2)).append (j:=Vs) (o:=1) Zd (hx W1 (dl _) rfl 1) rfl Zd Vd (by rw[WA,WL,Yq];simp;omega) Zo (λa f=>zu (G a f))
    refine eX Uw ?_
    obtain⟨VB,VC,_⟩:=Go.S.dc.one Vk
    have W4:J X Ui (aR+1+14)=some (.cells T5 6 .own):=by rw[Uz _ Zo (λe=>zu (G _ e)),VA _ Zo];exact UD
    refine bG @UB ⟨?_⟩
    refine cD (kt W4 Zo Zo VB VC) ?_
    generalize U1:aS X Ui (aR+1+14) _=C
    have Up:J X C (aR+1+14)=some (.cells (T5.set 5 (some VD)) 6 .own):=by rw[<-U1,bb Zo]
    have U9:∀a,a≠aR+1+14->J X C a=J X Ui a:=λa f=>by rw[<-U1,aY Zo f]
    clear U1
    have ch:∀a,a∉w->a≠Vs->a∉U5:=λa T0 z UE=>by
     rcases U2 a UE with e|e
     ·exact z e
     ·exact T0 e
    have UJ:∀a,a<p->a≠aR+1+14->a∉w->J X C a=J X T4 a:=λa f T0 z=>by rw[U9 a T0,Uz a Zo z,VA a f]
    have U7:∀a,P a->a∉w:=λa f e=>by have:=G a e;have:=t a f;omega
    refine cn @VF @Vz ⟨?_⟩
    refine⟨UM,Zo,o+1,VD,T3++[[T2,T1, .Z L.at_,N]],U5,_,an t0,an t3,an t4,an t5,an UB,aK,Zo,Zo,Up,dJ.set UG Zs VD, ?_,λa f=> ?_,λr M=> ?_, ?_,λa f Vb=> ?_⟩
    ·rw[YG]
     have:([[T2,T1, .Z L.at_,N]]:List (List y)).flatten=[T2,T1, .Z L.at_,N]:=by simp
     rw[this]
     exact .inl (Vk.T λa f=>U9 a (λl=>by
      rcases U2 a f with e|e
      ·omega
      ·have:=G a e;omega))
    ·rcases U2 a f with rfl|e
     ·omega
     ·have:=G a e;omega
    ·rcases Zr.1 M with M|M
     ·exact UI r M
     ·simp at M;subst M;rfl
    ·rw[ZG,Ve,zk]
     refine gd.snoc (vo.to (λa f=> ?_) (λa f=> ?_) U3) ⟨T2,T1,Vv,Vw,N,rfl,(Vf.T λa f=> ?_).lift λa f=> .inl f,⟨(Vg.1.T λa f=> ?_).lift λa f=> .inl f,trivial⟩,bT.to (λa f=> ?_) (λa f=> ?_) _ _ Vn,Vd⟩
     ·rcases f with f|f
      ·have:=t a f;exact UJ a Zo Zo (U7 a f)
      ·exact UJ a Zo Zo f.2
     ·rcases f with f|f
      ·exact .inl f
      ·exact .inr ⟨Zo,ch a f.2 Zo⟩
     ·have:=t a f;rw[UJ a Zo Zo (U7 a f),Uc a f]
     ·have:=t a f;rw[UJ a Zo Zo (U7 a f),Uc a f]
     ·have:=f.1
      have:=f.2
      rw[U9 a Zo,Uz a Zo (λe=>zu (G a e)),Vp a Zo]
     ·have:=f.1
      have:=f.2
      exact .inr ⟨Zo,ch a (λe=>zu (G a e)) Zo⟩
    ·rw[UJ a Zo Vb (λe=>zu (G a e)),T7 a f Vb]
  ·clear t0 t3 t4
   rintro B T4 p ⟨s,T3,w,T5,t0,t3,t4,UB,Va,UD,UG,U8,G,UI,U3,T7⟩
   have VO:J X T4 j=some (.cells U6 1 .own):=by rw[T7 j Zo Zo,V9 j VZ];exact VN
   have WW:W X T4 (.ptr j 0)=some UN:=by rw[ba VO];exact VT
   have WE:=rQ UD UG rfl
   have Vx:=cX.same U8
   refine cz @t3 @WW @UB ⟨?_⟩
   refine cD WE ?_
   have WR:dC 1 [.str [], .Z 0, .az, .az, .az, .az] [(0,6, .agg [.str g.name, .Z g.at_,O,Y,Z,s])] (p+6)=some (.slice (p+6) 0 1 1, .cells (I.ofList [.str g.name, .Z g.at_,O,Y,Z,s] 0 .nil) 6 .own):=by
    simp[dC,gH,gI,e5,y.cells]
   refine cD WR ?_
   refine bl ⟨?_⟩
   generalize U0:aS X T4 (p+6) _=fy
   have UV:J X fy (p+6)=zy [.str g.name, .Z g.at_,O,Y,Z,s] 6:=by rw[<-U0,bb Zo]
   have U4:∀a,a≠p+6->J X fy a=J X T4 a:=λa f=>by rw[<-U0,aY Zo f]
   clear U0
   have WT:=iz V4
   have WK:=UH.len
   have WV:∀a,a<aR->J X fy a=J X aO a:=λa f=>by rw[U4 a Zo,T7 a Zo Zo,V9 a f]
   have WF:Go.S.cR [.str g.name, .Z g.at_,O,Y,Z,s]=true:=by simp[Go.S.cR,Uj.2.1,Uk.2.1,Ul.2.1,Vx.2.1,show d9 (.Z g.at_)=true from rfl,show d9 (.str g.name)=true from rfl]
   obtain⟨Vu,T9,U5,Uw,Vm,U2,VY⟩:=(Vl.T (E:=fy) (λa f=>WV a (T6 a f).2)).append (j:=p+11) (o:=1) Zd (hx UV (dl _) rfl 1) rfl Zd WF (by rw[WT,WK,Yq];simp;omega) Zo (λa f=>zu (T6 a f))
   refine eX Uw ?_
   obtain⟨VB,VC,_⟩:=Go.S.dc.one Vm
   have W2:J X T9 j=some (.cells U6 1 .own):=by rw[VY _ Zo (λe=>zu (T6 _ e)),U4 _ Zo];exact VO
   refine bl ⟨?_⟩
   refine cD (kt W2 Zo Zo VB VC) ?_
   generalize U1:aS X T9 j _=C
   have Up:J X C j=some (.cells (U6.set 0 (some Vu)) 1 .own):=by rw[<-U1,bb Zo]
   have U9:∀a,a≠j->J X C a=J X T9 a:=λa f=>by rw[<-U1,aY Zo f]
   clear U1
   have UK:∀a,a≠j->a≠p+6->a≠p+11->a∉aJ->J X C a=J X T4 a:=λa T0 z UE W5=>by rw[U9 a T0,VY a UE W5,U4 a z]
   have V5:∀a,a<aR->a≠j->a∉aJ->J X C a=J X aO a:=λa f T0 z=>by rw[UK a T0 Zo Zo z,T7 a Zo Zo,V9 a f]
   have U7:∀a,P a->a∉aJ:=λa f e=>by have:=T6 a e;have:=t a f;omega
   have ch:∀a,a∉aJ->a≠p+11->a∉U5:=λa T0 z UE=>by
    rcases U2 a UE with e|e
    ·exact z e
    ·exact T0 e
   have Uf:∀a,aR<=a->a∉aJ:=λa T0 z=>zu (T6 a z)
   have V8:∀a,aR+1+16<=a->a<x->J X C a=J X TY a:=λa T0 z=>by rw[UK a Zo Zo Zo (Uf a Zo),T7 a z Zo,Ue a Zo]
   obtain⟨Wd,Wh⟩:=(Vh.T (E:=C) λa f=>by have:=VQ a f;rw[V8 a Zo Zo,UX.T a Zo,Uq.T a Zo]).gO (P:=λa=>aR+1+16<=a/\a<x) Zd (by intro r M;obtain⟨d,_,rfl⟩:=ZB.1 M;rfl) (by rw[Zn];omega) (λa f=>zu (VQ a f))
   obtain⟨We,Wi⟩:=(Vi.T (E:=C) λa f=>by have:=VR a f;rw[V8 a Zo Zo,UX.T a Zo]).gO (P:=λa=>aR+1+16<=a/\a<x) Zd (by intro r M;obtain⟨d,_,rfl⟩:=ZB.1 M;rfl) (by rw[Zn];omega) (λa f=>zu (VR a f))
   obtain⟨Wf,Wj⟩:=(Vj.T (E:=C) λa f=>by have:=VS a f;rw[V8 a Zo Zo]).gO (P:=λa=>aR+1+16<=a/\a<x) Zd (by intro r M;obtain⟨d,_,rfl⟩:=ZB.1 M;rfl) (by rw[Zn];omega) (λa f=>zu (VS a f))
   obtain⟨Wg,Wk⟩:=(U8.T (E:=C) λa f=>by have:=G a f;exact UK a Zo Zo Zo (Uf a Zo)).gO (P:=λa=>x<=a/\a<p) Zd UI (by rw[U3.len];omega) (λa f=>zu (G a f))
   have UL:∀a,aR+1+16<=a->a<p->P a\/((j<a/\a<p+11+1)/\a∉U5):=λa T0 z=> .inr ⟨Zo,ch a (Uf a Zo) Zo⟩
   refine cn @t4 @Vy ⟨?_⟩
   refine⟨m,Zo,i+1,Vu,UA++[[.str g.name, .Z g.at_,O,Y,Z,s]],U5,_,an t0,an t3,aK,Zo,Zo,Up,by rw[I.gn,Zv rfl], ?_,λa f=> ?_,λr M=> ?_, ?_,λa f=> ?_⟩
   ·rw[YG]
    have:([[.str g.name, .Z g.at_,O,Y,Z,s]]:List (List y)).flatten=[.str g.name, .Z g.at_,O,Y,Z,s]:=by simp
    rw[this]
    exact .inl (Vm.T λa f=>U9 a (λl=>by
     rcases U2 a f with e|e
     ·omega
     ·have:=T6 a e;omega))
   ·rcases U2 a f with rfl|e
    ·omega
    ·have:=T6 a e;omega
   ·rcases Zr.1 M with M|M
    ·exact V4 r M
    ·simp at M;subst M;rfl
   ·rw[ZG,Uy,zk]
    refine f9.snoc (vr.to (λa f=> ?_) (λa f=> ?_) UH) ⟨O,Y,Z,s,Wd,We,Wf,Wg,T3,rfl,Wh.lift λa f=>UL a f.1 Zo,Wi.lift λa f=>UL a f.1 Zo,Wj.lift λa f=>UL a f.1 Zo,Wk.lift λa f=>UL a Zo f.2,vo.to (λa f=> ?_) (λa f=> ?_) U3⟩
    ·rcases f with f|f
     ·have:=t a f;exact V5 a Zo Zo (U7 a f)
     ·exact V5 a Zo Zo f.2
    ·rcases f with f|f
     ·exact .inl f
     ·exact .inr ⟨Zo,ch a f.2 Zo⟩
    ·rcases f with f|f
     ·have:=t a f;exact UK a Zo Zo Zo (U7 a f)
     ·exact UK a Zo Zo Zo (Uf a Zo)
    ·rcases f with f|f
     ·exact .inl f
     ·exact UL a Zo Zo
   ·rw[V5 a Zo Zo (λe=>zu (T6 a e)),Ua a f]
end
section
variable{X:bU}{h E cH ay aO:I ae}{j ar aL aR:Nat}{s:aW}
def vm:List y:=[.str [], .Z 0, .zF, .zF, .Z 0, .str [], .Z 0, .zF]
def Gx(n:Nat):oI X h j .append [47,3] [.az, .Z (n:Int)]=aT (Nat.ble n 1048576) (aT (Nat.beq n 0) (some (.val .az)) (kb X h j n 8 (eA n vm))) none:=Zk
def nW(n:Nat)(k:List y):(eA n k).length=n*k.length:=by
 induction n with
 |zero=>simp[eA]
 |succ n V=>simp[eA,V,Z7];omega
def EE:j0 X h .cap [47] [.az]=some (.Z 0):=Zk
def Kn:il X h 8 .az none (some (.Z 0)) none=some .az:=by rfl
def Ko{ch n m:Nat}{c:I y}(e:J X h ch=some (.cells c m (.grow []))):il X h 8 (.cK ch 0 n 8) none (some (.Z 0)) none=some (.cK ch 0 0 8):=by
 have d:hq (some (.Z 0)) (m/8) n=some 0:=by simp[hq,Is]
 have f:∀a b:Nat,hq none a b=some b:=λa b=>rfl
 have g:jK X h ch=some m:=by simp[jK,e]
 have i:Nat.blt 0 8=true:=rfl
 simp only[il,g,gW,YI,f,d]
 simp[i]
def Jt{C:aC}{P:Nat->Prop}{b ap:Nat}{ax:y}{rows:List (List y)}(e:ci C h P b ax ap rows)(T4:0<ap):gy C h ap ax=some (rows.length,rows.flatten):=by
 have z:=iz e.wide
 have key:∀a D n:Nat,n=rows.length->(∀i,i<rows.length->some (y.ptr a (D+i*ap))=some (.ptr b (i*ap)))->fY C h a D (n*ap)=some rows.flatten:=by
  intro a D n d ak
  subst d
  by_cases Z:rows.length=0
  ·have:rows=[]:=Yc Z
   subst this
   simp only[fY]
   cases f:cellsOf C h a with
   |none=>simp
   |some c=>simp[Gq]
  ·have x:=ak 0 Zo
   simp at x
   obtain⟨rfl,rfl⟩:=x
   obtain⟨r,M⟩:=zx rows 0
   have T6:=e.wide r (Zg M)
   obtain⟨v,T3⟩:=zx r 0
   have g:=e.cell 0 r 0 v M T3
   simp only[Y4,ZH]at g
   have T1:∃c,cellsOf C h a=some c:=by
    simp only[W]at g
    cases f:cellsOf C h a with
    |none=>rw[f]at g;cases g
    |some c=>exact⟨c,rfl⟩
   obtain⟨c,f⟩:=T1
   simp only[fY,f]
   rw[<-z]
   refine x2 _ _ λH v G=> ?_
   have O:=(Zf.1 G).1
   rw[z]at O
   have T2:H/ap<rows.length:=Nat.div_lt_of_lt_mul (by rw[Nat.mul_comm];exact O)
   obtain⟨m,w⟩:∃r,rows[H/ap]? =some r:=⟨_,Ze T2⟩
   have T7:=e.wide m (Zg w)
   have T5:H%ap<ap:=zt _ T4
   obtain⟨Y,X⟩:∃v,m[H%ap]? =some v:=⟨_,Ze Zo⟩
   have p:=e.cell (H/ap) m (H%ap) Y w X
   have s:=tP rows e.wide (H/ap) m (H%ap) Y w X
   have T0:H/ap*ap+H%ap=H:=by rw[Nat.mul_comm];exact Nat.div_add_mod H ap
   rw[T0]at p s
   rw[G]at s
   cases s
   simp only[W,f]at p
   rw[ZE]
   exact p
 have au:=e.len
 cases ax with
 |slice a D n cap=>
  have d:n=rows.length:=by rw[hP]at au;simp at au;omega
  have ak:∀i,i<rows.length->some (y.ptr a (D+i*ap))=some (.ptr b (i*ap)):=λi ak=>by
   have:=e.cT i ak
   rw[<-this]
   have l:Nat.blt i n=true:=by simp[Nat.blt];omega
   simp only[bK,mD,mT,l,cS]
  have t:=key a D n d ak
  subst d
  simp only[gy,t]
 |cK a D n T8=>
  have d:n=rows.length:=by rw[ib]at au;simp at au;omega
  have ak:∀i,i<rows.length->some (y.ptr a (D+i*ap))=some (.ptr b (i*ap)):=λi ak=>by
   have:=e.cT i ak
   rw[<-this]
   have l:Nat.blt i n=true:=by simp[Nat.blt];omega
   simp only[bK,mD,mT,l,cS]
  have t:=key a D n d ak
  subst d
  simp only[gy,t]
 |az=>
  have d:(0:Int)=rows.length:=by rw[kj]at au;simpa using au
  have:rows=[]:=Yc Zo
  subst this
  rfl
 |_=>simp[bL]at au
def JU{ch n r m:Nat}{c:I y}{x:y}{k:List y}{R:bh}(ab:J X h ch=some (.cells c (m*8) (.grow [])))(b:(u X).aP<=ch)(g:gy X h 8 x=some (r,k))(au:k.length=r*8)(M:n+r<=m)(C:Go.S.cR k=true)
 (o:∀E d,J X E ch=some (.cells d (m*8) (.grow []))->(∀i,d.get i=if n*8<=i/\i<n*8+k.length then k[i-n*8]? else c.get i)->(∀a,a≠ch->J X E a=J X h a)->R (.cK ch 0 (n+r) 8) E j):
 dA (d4 X h j 8 (.cK ch 0 n 8) x) h j R:=by
 by_cases f:r=0
 ·subst f
  have:k=[]:=Yc Zo
  subst this
  have p:d4 X h j 8 (.cK ch 0 n 8) x=some (.val (.cK ch 0 n 8)):=by
   simp only[d4,g]
   simp[ol,jK,ab]
   omega
  refine JD p ?_
  exact o h c ab (λi=>by rw[Zj Zs]) (λ_ _=>rfl)
 ·have s:Nat.ble ((n+r)*8) (m*8)=true:=gk Zo
  have t:Nat.ble (n*8+k.length) (m*8)=true:=gk Zo
  have z:Nat.beq 8 8=true:=rfl
  have v:eV X ch=true:=gk b
  have w:d4 X h j 8 (.cK ch 0 n 8) x=some (.cy (.cK ch 0 (n+r) 8) (Go.S.aS X h ch (some (.cells (cO c (n*8) k) (m*8) (.grow [])))) j):=by
   simp only[d4,g]
   rw[d5,Zj f]
   simp only[kI,pm,ab,v,z,cS,s,gX,t,C,Yi,dF,fN,ZE]
  refine eX w ?_
  refine o _ _ (bb b) (λi=> ?_) (λa G=>aY b G)
  rw[iJ]
def Kk(s:dX X){n:Nat}(v:0<n)(w:n<=300000)(t:(u X).aP<=j):
 aN X 73 [.az, .Z (n:Int)] h j (λN E ar=>N= .cK j 0 0 8/\(∃c,J X E j=some (.cells c (n*8) (.grow [])))/\a1 X h j E ar/\j<ar) zG:=by
 refine zB s (C8 X) ?_
 rw[C9]
 unfold wy
 have d:decide ((n:Int)<0)=false:=zJ
 have f:decide ((0:Int)<(n:Int))=true:=zK
 have g:ah .sub (.Z 0) (.Z 0)=some (.Z 0):=g4 Zo Zo
 have i:ah .sub (.Z (n:Int)) (.Z 0)=some (.Z (n:Int)):=by rw[g4 Zo Zo];simp
 have m:oI X h j .append [47,3] [.az, .Z (n:Int)]=some (.cy (.cK j 0 n 8) (aS X h j (some (.cells (I.ofList (eA n vm) 0 .nil) (n*8) (.grow [])))) (j+1)):=by
  rw[Gx,gk Zo,cS,d5,Zj Zo]
  simp only[kb,gk (show n<=1048576 by omega),cS,gt,fZ,dF,nW]
  rfl
 refine dw @d @EE @g @i @f @Kn ⟨?_⟩
 refine eX m ?_
 generalize a:aS X h j _=ay
 have b:J X ay j=some (.cells (I.ofList (eA n vm) 0 .nil) (n*8) (.grow [])):=by rw[<-a,bb t]
 have r:a1 X h j ay (j+1):=by rw[<-a];exact dG
 clear a
 have p:=Ko (n:=n) b
 refine bG @p ⟨?_⟩
 exact⟨rfl,⟨_,b⟩,r,Zo⟩
def mc(k:List (List bx)):Nat:=(k.map List.length).sum
def EO(U7:dX X){P:Nat->Prop}{cM b2 be b6:Nat}{bA bB ax:y}{f aB F:List bx}(Ua:(u X).aP<=j)(UU:cM<j)(U8:J X h cM=zy [bA,bB,ax] 3)
 (Z:ci X h P b2 bA 8 (f.map bP))(U5:ci X h P be bB 8 (aB.map bP))(UP:ci X h P b6 ax 8 (F.map bP))(US:∀t,P t->t<j)(UO:0<f.length+aB.length+F.length)(UZ:f.length+aB.length+F.length<=300000):
 aN X 43 [.slice cM 0 3 3] h j (λN E ar=>∃b,ci X E (dm j ar) b N 8 ((f++(aB++F)).map bP)/\a1 X h j E ar) zG:=by
 refine zB U7 (CA X) ?_
 rw[CB]
 unfold we
 have UE:∀H,H<3->∃s b a,[bA,bB,ax][H]? =some s/\ci X h P b s 8 (a.map bP)/\([f,aB,F]:List (List bx))[H]? =some a/\a.length<=300000:=by
  intro H T4
  match H,T4 with
  |0,_=>exact⟨bA,b2,f,rfl,Z,rfl,Zo⟩
  |1,_=>exact⟨bB,be,aB,rfl,U5,rfl,Zo⟩
  |2,_=>exact⟨ax,b6,F,rfl,UP,rfl,Zo⟩
 have U9:∀E H s,J X E cM=zy [bA,bB,ax] 3->[bA,bB,ax][H]? =some s->W X E (.ptr cM H)=some s:=λE H s e z=>by rw[ba e,fG];exact z
 obtain⟨g,G⟩:∃g:Nat->Nat,∀H,g H=mc (([f,aB,F]:List (List bx)).take H):=⟨_,λ_=>rfl⟩
 obtain⟨p,x⟩:∃p:Nat->List bx,∀H,p H=(([f,aB,F]:List (List bx)).take H).flatten:=⟨_,λ_=>rfl⟩
 have UA:∀H a,([f,aB,F]:List (List bx))[H]? =some a->p (H+1)=p H++a:=by
  intro H a e
  rw[x,x,ZG,e];simp
 have T2:∀H,g H=(p H).length:=λH=>by rw[G,x];unfold mc;rw[List.length_flatten]
 have UF:∀H a,([f,aB,F]:List (List bx))[H]? =some a->g (H+1)=g H+a.length:=by
  intro H a e
  rw[T2,T2,UA H a e,ZT]
 have UC:∀H,g H<=f.length+aB.length+F.length:=by
  intro H
  rw[G]
  match H with
  |0=>simp[mc]
  |1=>simp[mc];omega
  |2=>simp[mc]
  |n+3=>simp[mc];omega
 have U6:g 3=f.length+aB.length+F.length:=by rw[G];simp[mc];omega
 have U4:g 0=0:=by rw[G];simp[mc]
 have UL:p 0=[]:=by rw[x];rfl
 refine bl ⟨?_⟩
 refine cQ (λm B E aj=>∃(H:Nat),B.g 0=some (.slice cM 0 3 3)/\B.g 9=some (.slice cM 0 3 3)/\B.g 10=some (.Z 3)/\B.g 11=some (.Z (H:Int))/\B.g 3=some (.Z (g H:Nat))/\H+m=3/\E=h/\aj=j)
  3 ⟨0,aK,aK,cA,cA,by refine oF ⟨?_⟩;rw[U4];rfl,Zo,rfl,rfl⟩ ?_
 rintro m B ay aL ⟨H,t0,t9,O,TY,t3,T4,rfl,rfl⟩
 cases m with
 |succ m=>
  have d:decide ((H:Int)<3)=true:=zK
  have Y:=zz H
  obtain⟨s,b,a,z,T7,C,UR⟩:=UE H Zo
  have Ui:=UC H
  have T3:bK 1 (.slice cM 0 3 3) (.Z (H:Int))=some (.ptr cM H):=by rw[mu _ Zo];simp
  have T0:=U9 _ H s U8 z
  have UD:=T7.len
  rw[Zn]at UD
  have UK:ah .add (.Z ((g H:Nat):Int)) (.Z (a.length:Int))=some (.Z ((g (H+1):Nat):Int)):=by
   rw[UF H a C,cx Zo Zo];simp
  have UJ:decide (((g (H+1):Nat):Int)<0)=false:=zJ
  refine bs @TY @O @t9 @t3 @d @T3 (Za @T0 (Za @UD (Za @UK (Za @UJ @Y)))) ⟨?_⟩
  exact⟨m,Zo,H+1,an t0,an t9,an O,aK,aK,Zo,rfl,rfl⟩
 |zero=>
  have d:decide ((H:Int)<3)=false:=zJ
  have T5:H=3:=Zo
  subst T5
  rw[U6]at t3
  refine cP @TY @O @t3 @d ⟨?_⟩
  refine(Kk U7 UO UZ Ua).Zm ?_
  rintro N aO aR ⟨rfl,⟨UH,UM⟩,UQ,Ub⟩
  generalize Uh:f.length+aB.length+F.length=bM at*
  refine bG @t0 ⟨?_⟩
  refine cQ (λm B E aj=>∃(H:Nat) (c:I y),B.g 25=some (.slice cM 0 3 3)/\B.g 26=some (.Z 3)/\B.g 27=some (.Z (H:Int))/\B.g 6=some (.cK aL 0 (g H) 8)/\H+m=3/\aL<aj/\a1 X ay aL E aj
   /\J X E aL=some (.cells c (bM*8) (.grow []))/\∀(i:Nat) v,((p H).map bP).flatten[i]? =some v->c.get i=some v)
   3 ⟨0,UH,aK,cA,cA,by refine oF ⟨?_⟩;rw[U4],Zo,Ub,UQ,UM,λi v e=>by rw[UL]at e;simp at e⟩ ?_
  clear t0 t9 O TY t3
  rintro m B U2 Uk ⟨H,Ug,UG,TZ,U0,U1,T4,Uc,w,U3,T1⟩
  have UB:∀a:List bx,((a.map bP).flatten).length=a.length*8:=λa=>by
   have:=iz (rows:=a.map bP) (ap:=8) (by intro r M;obtain⟨d,_,rfl⟩:=ZB.1 M;rfl)
   rw[this,Zn]
  cases m with
  |zero=>
   have d:decide ((H:Int)<3)=false:=zJ
   have T5:H=3:=Zo
   subst T5
   rw[U6]at U1
   refine cP @U0 @TZ @U1 @d ⟨?_⟩
   have UV:p 3=f++(aB++F):=by rw[x];simp
   rw[UV]at T1
   have T6:(f++(aB++F)).length=bM:=by simp;omega
   refine⟨aL,⟨λ_=>⟨Zo,Zo⟩,by rw[Zn,T6];omega,by intro r M;obtain⟨d,_,rfl⟩:=ZB.1 M;rfl,by rw[ib,Zn,T6],λi ak=>by rw[oL _ (by rw[Zn,T6]at ak;omega),ZE],λi r Ue v ak UX=> ?_⟩,w⟩
   rw[ba U3]
   exact T1 _ _ (tP _ (by intro r M;obtain⟨d,_,rfl⟩:=ZB.1 M;rfl) i r Ue v ak UX)
  |succ m=>
   have d:decide ((H:Int)<3)=true:=zK
   have Y:=zz H
   obtain⟨s,b,a,z,T7,C,UR⟩:=UE H Zo
   have T3:bK 1 (.slice cM 0 3 3) (.Z (H:Int))=some (.ptr cM H):=by rw[mu _ Zo];simp
   have UT:J X U2 cM=zy [bA,bB,ax] 3:=by rw[w.T _ UU];exact U8
   have T0:=U9 _ H s UT z
   have T8:=Jt (T7.T (E:=U2) (λt T9=>w.T t (US t T9))) Zd
   rw[Zn]at T8
   have Z:=UF H a C
   have U5:=UC (H+1)
   refine bs @U0 @TZ @UG @U1 @d @T3 @T0 ⟨?_⟩
   refine JU U3 Zo T8 (UB a) Zo ?_ ?_
   ·clear T8
    have:∀bM:List bx,Go.S.cR (bM.map bP).flatten=true:=by
     intro bM
     induction bM with
     |nil=>rfl
     |cons d bM V=>simpa[bP,Go.S.cR,d9]using V
    exact this a
   ·intro Uf UI UN UW UY
    refine cn @U0 @Y ⟨?_⟩
    refine⟨m,Zo,H+1,UI,an UG,an TZ,aK,by refine oF ⟨?_⟩;rw[Z],Zo,Uc,⟨w.le,λt T9=>by rw[UY t Zo];exact w.T t T9⟩,UN,λi v ak=> ?_⟩
    rw[UA H a C]at ak
    simp only[YG,YF]at ak
    have Ud:(((p H).map bP).flatten).length=g H*8:=by
     rw[UB,T2]
    rw[UW]
    by_cases Uj:i<g H*8
    ·rw[Zj Zo]
     rw[ZA Zo]at ak
     exact T1 i v ak
    ·rw[Zy Zo,Ud]at ak
     have:=(Zf.1 ak).1
     rw[Zv ⟨Zo,Zo⟩]
     exact ak
end
structure dU(X:bU):Prop extends dX X where
 may:∀s∈d8,X.O 41 [.str s]=some (.bool (c7 s))
 JN:∀s∈d8,X.O 85 [.str s]=some (.bool (c7 s))
section
variable{X:bU}{h E cH ay aO:I ae}{j ar aL aR bz:Nat}{bp d2 P:Nat->Prop}
def p9{s:aW}{R af:bh}(a:dU X)(b:s∈d8)(e:R (.bool (c7 s)) h j):aN X 41 [.str s] h j R af:=th (a.may s b) e
def mM{s:aW}{R af:bh}(a:dU X)(b:s∈d8)(e:R (.bool (c7 s)) h j):aN X 85 [.str s] h j R af:=th (a.JN s b) e
def J6(t:eb):decide (nY t=[])= !ey t:=by
 unfold nY
 cases a:ey t with
 |false=>rfl
 |true=>rw[Zv rfl];split<;>rfl
def Ln(i:dX X)(t:eb)(G:(u X).aP<=j):aN X 65 [.agg (eS t)] h j (λN E ar=>N= .str (nY t)/\a1 X h j E ar) zG:=by
 refine zB i (C4 X) ?_
 rw[C5]
 unfold ww
 have O:eS t=[.bool t.b, .bool t.s, .Z t.w]:=rfl
 rw[O]
 refine bl ⟨?_⟩
 refine l9 (λay=>J X ay j=zy [.bool t.b, .bool t.s, .Z t.w] 3/\a1 X h j ay (j+1)) ⟨bb G,dG⟩ ?_
 rintro ay ⟨z,C⟩
 refine(r0 i t Zo).Zm ?_
 rintro N aO aR ⟨rfl,r⟩
 have Y:=r.le
 have g:=C.trans r
 have p:J X aO j=zy [.bool t.b, .bool t.s, .Z t.w] 3:=by rw[r.T _ Zo];exact z
 have b:W X aO (.ptr j 0)=some (.bool t.b):=by rw[ba p];rfl
 have f:W X aO (.ptr j 1)=some (.bool t.s):=by rw[ba p];rfl
 have n:W X aO (.ptr j 2)=some (.Z t.w):=by rw[ba p];rfl
 cases d:ey t with
 |false=>
  refine bl ⟨?_⟩
  exact⟨by simp[nY,d],g⟩
 |true=>
  cases a:t.b with
  |true=>
   rw[a]at b
   refine bG @b ⟨?_⟩
   exact⟨by simp[nY,d,a],g⟩
  |false=>
   rw[a]at b
   have T0:1<=t.w/\t.w<=64:=by simpa[ey,a]using d
   obtain⟨w,v⟩:=Int.eq_ofNat_of_zero_le (by omega:0<=t.w)
   rw[v]at n
   have ak:iB t.w.toNat=iB w:=by rw[v];rfl
   have Z:(iB w).length<=2:=by unfold iB;split<;>simp
   have s:∀h c,ce X h .add 9 true (.str [c]) (.str (iB w))=some (.str (c::iB w)):=λh c=>by
    have:Nat.ble ([c].length+(iB w).length) 1000000000=true:=gk Zx
    simp only[ce,m8,this,cS];rfl
   cases m:t.s with
   |true=>
    rw[m]at f
    refine cz @b @f @n ⟨?_⟩
    refine(yg i Zo).Zm ?_
    rintro N x P ⟨rfl,rfl,rfl⟩
    refine bG @s ⟨?_⟩
    exact⟨by simp[nY,d,a,m,ak],g⟩
   |false=>
    rw[m]at f
    refine cz @b @f @n ⟨?_⟩
    refine(yg i Zo).Zm ?_
    rintro N x P ⟨rfl,rfl,rfl⟩
    refine bG @s ⟨?_⟩
    exact⟨by simp[nY,d,a,m,ak],g⟩
def hY{α:Type}{k:List α}{p:α->Prop}{H:Nat}{d:α}(b:k[H]? =some d)(e:∀x∈k.take H,p x)(c:p d):∀x∈k.take (H+1),p x:=by
 intro x a
 rw[ZG,b]at a
 rcases Zr.1 a with a|a
 ·exact e x a
 ·simp at a;subst a;exact c
def EU(C:dU X){b:Nat}{ax:y}{ds:List bx}(UG:(u X).aP<=j)(Z:ci X h P b ax 8 (ds.map bP))(U6:∀c,P c->c<j)(U9:∀d∈ds,it d):
 aN X 42 [ax] h j (λN E ar=>(∃g:Bool,N= .bool g/\(g=true↔∀d∈ds,jc d))/\a1 X h j E ar) zG:=by
 refine zB C.todX (Cy X) ?_
 rw[Cz]
 unfold wc
 have U1:=Z.len
 have UB:=Z.many
 rw[Zn]at U1 UB
 refine bG @U1 ⟨?_⟩
 refine cQ (λm B E aj=>∃(H:Nat),B.g 5=some ax/\B.g 6=some (.Z (ds.length:Int))/\B.g 7=some (.Z (H:Int))/\H+m=ds.length/\a1 X h j E aj/\∀x∈ds.take H,jc x)
  ds.length ⟨0,aK,aK,cA,Zo,a1.refl _ _,Zs⟩ ?_
 rintro m B ay aL ⟨H,t5,T2,T3,UD,z,G⟩
 have UE:=z.le
 cases m with
 |zero=>
  have d:=zv H ds.length
  rw[Zt Zo]at G
  refine cz @T3 @T2 @d ⟨?_⟩
  exact⟨⟨true,rfl,λ_=>G,λ_=>rfl⟩,z⟩
 |succ m=>
  have U4:=zw H ds.length
  have T8:=zz H
  obtain⟨d,O⟩:=zx ds H
  have TZ:=Zg O
  have U0:=U9 d TZ
  have U8:=Z.cT H (by rw[Zn];omega)
  have U3:=(Z.T (λc T7=>z.T c (U6 c T7))).row (i:=H) (r:=bP d) Zd (by rw[Zw,O];rfl)
  have U7:bP d=[.str d.name, .Z d.at_, .bool d.ty.b, .bool d.ty.s, .Z d.ty.w, .str d.on, .Z d.di, .bool d.no]:=rfl
  rw[U7]at U3
  refine dw @T3 @T2 @t5 @U4 @U8 @U3 ⟨?_⟩
  generalize T5:aS X _ aL _=aO
  have n:J X aO aL=zy [.str d.name, .Z d.at_, .bool d.ty.b, .bool d.ty.s, .Z d.ty.w, .str d.on, .Z d.di, .bool d.no] 8:=by rw[<-T5,bb Zo];rfl
  have TY:a1 X h j aO (aL+1):=⟨Zo,λc T7=>by rw[<-T5];simp(disch:=omega) only[aY];exact z.T c T7⟩
  clear T5
  have bad:∀E aj,¬jc d->a1 X h j E aj->(∃g:Bool,y.bool false= .bool g/\(g=true↔∀d∈ds,jc d))/\a1 X h j E aj:=λE aj ab U5=>⟨⟨false,rfl,(λe=>by cases e),λe=>absurd (e d TZ) ab⟩,U5⟩
  refine bG (ba n) ⟨?_⟩
  refine p9 C U0.nm ?_
  cases T6:c7 d.name with
  |false=>
   refine bl ⟨?_⟩
   exact bad _ _ (λe=>by have:=e.nm;rw[T6]at this;cases this) (TY.more Zo)
  |true=>
   have UH:eS d.ty=[.bool d.ty.b, .bool d.ty.s, .Z d.ty.w]:=rfl
   have UA:br X aO 3 (.ptr aL 2)=some (.agg (eS d.ty)):=by rw[hp,ba n,ba n,ba n];rfl
   refine bG @UA ⟨?_⟩
   refine(Ln (j:=aL+1) (h:=aO) C.todX d.ty Zo).Zm ?_
   rintro N t UC ⟨rfl,T4⟩
   have UF:=T4.le
   have T9:J X t aL=zy [.str d.name, .Z d.at_, .bool d.ty.b, .bool d.ty.s, .Z d.ty.w, .str d.on, .Z d.di, .bool d.no] 8:=by rw[T4.T _ Zo];exact n
   have p:a1 X h j t UC:=TY.trans T4
   have f:=J6 d.ty
   have T1:W X t (.ptr aL 5)=some (.str d.on):=by rw[ba T9];rfl
   have T0:W X t (.ptr aL 7)=some (.bool d.no):=by rw[ba T9];rfl
   cases s:ey d.ty with
   |false=>
    rw[s]at f
    refine bG @f ⟨?_⟩
    exact bad _ _ (λe=>by have:=e.ty;rw[s]at this;cases this) p
   |true=>
    rw[s]at f
    by_cases a:d.on=[]
    ·have v:decide (d.on≠[])=false:=by simp[a]
     have w:decide (d.on=[])=true:=by simp[a]
     cases Y:d.no with
     |true=>
      rw[Y]at T0
      refine de @f @T1 @v @w @T0 ⟨?_⟩
      exact bad _ _ (λe=>by have:=e.no a;rw[Y]at this;cases this) p
     |false=>
      rw[Y]at T0
      refine bs @f @T1 @v @w @T0 @T3 @T8 ⟨?_⟩
      exact⟨m,Zo,H+1,an t5,an T2,aK,Zo,p,hY O G ⟨T6,s,λe=>absurd a e,λ_=>Y⟩⟩
    ·have v:decide (d.on≠[])=true:=by simp[a]
     have w:decide (d.on=[])=false:=by simp[a]
     refine cz @f @T1 @v ⟨?_⟩
     refine p9 C U0.on ?_
     cases U2:c7 d.on with
     |false=>
      refine bl ⟨?_⟩
      exact bad _ _ (λe=>by have:=e.on a;rw[U2]at this;cases this) p
     |true=>
      refine cP @T1 @w @T3 @T8 ⟨?_⟩
      exact⟨m,Zo,H+1,an t5,an T2,aK,Zo,p,hY O G ⟨T6,s,λ_=>U2,λe=>absurd e a⟩⟩
def I9(b:Nat):ce X h .eql 59 false .bC (.ptr b 0)=some .zF:=Zk
def Ja:ce X h .eql 59 false .bC .bC=some .zT:=Zk
def Eg(G:dU X){b:Nat}{ax:y}{am:List bk}{aE:List y}(M:ci X h P b ax 1 (aE.map λv=>[v]))(O:du X h P am aE):
 aN X 100 [ax, .bC] h j (λN E ar=>(∃g:Bool,N= .bool g/\(g=false↔∀a∈am,a.kind≠ -1))/\E=h/\j<=ar) zG:=by
 refine zB G.todX (Bq X) ?_
 rw[Br]
 unfold vt
 have T7:=O.len
 refine aN.mono (R:=λN E ar=>(∃z:Int,N= .Z z/\(z<0↔∀a∈am,a.kind≠ -1))/\E=h/\j<=ar) (af:=λ_ _ _=>False) ?_ ?_ (λ_ _ _ e=>e.elim)
 ·refine zB G.todX (BO X) ?_
  rw[BP]
  unfold vI
  have Z:=M.len
  have T3:=M.many
  rw[Zn]at Z T3
  refine bG @Z ⟨?_⟩
  refine cQ (λm B E aj=>∃(H:Nat),B.g 0=some ax/\B.g 1=some .bC/\B.g 7=some (.Z (aE.length:Int))/\B.g 8=some (.Z (H:Int))/\H+m=aE.length/\E=h/\j<=aj/\∀x∈am.take H,x.kind≠ -1)
   aE.length ⟨0,aK,aK,aK,cA,Zo,rfl,Zo,Zs⟩ ?_
  rintro m B aO aR ⟨H,t0,r,f,s,T8,rfl,p,i⟩
  cases m with
  |zero=>
   have d:=zv H aE.length
   rw[Zt Zo]at i
   refine cz @s @f @d ⟨?_⟩
   exact⟨⟨-1,rfl,λ_=>i,λ_=>Zd⟩,rfl,p⟩
  |succ m=>
   have d:=zw H aE.length
   have T1:=zz H
   obtain⟨l,n⟩:=zx am H
   obtain⟨v,T4,Y⟩:=O.get H l n
   obtain⟨t,w,T6⟩:=M.one T4
   by_cases c:l.kind= -1
   ·have T5:=Y.nil c
    subst T5
    refine bs @s @f @r @t0 @d @t (Za @w @Ja) ⟨?_⟩
    exact⟨⟨(H:Int),rfl,λe=>Zo,λe=>absurd c (e l (Zg n))⟩,rfl,p⟩
   ·obtain⟨g,_,_,_,rfl,_⟩:=Y.root c
    refine bs @s @f @r @t0 @d @t (Za @w (Za @I9 @T1)) ⟨?_⟩
    exact⟨m,Zo,H+1,an t0,an r,an f,aK,Zo,rfl,p,hY n i c⟩
 ·rintro N ay aL ⟨⟨z,rfl,T0⟩,rfl,C⟩
  by_cases e:0<=z
  ·have d:decide ((0:Int)<=z)=true:=by simp only[Zc];exact e
   refine bG @d ⟨?_⟩
   exact⟨⟨true,rfl,(λe=>by cases e),λT2=>zu (T0.2 T2)⟩,rfl,C⟩
  ·have d:decide ((0:Int)<=z)=false:=by simp only[Zb];exact e
   refine bG @d ⟨?_⟩
   exact⟨⟨false,rfl,λ_=>T0.1 Zo,λ_=>rfl⟩,rfl,C⟩
def AJ{n b:Int}(f:0<=n)(ab:0<=b)(g:b<=64):ah .shr (.int .u64 n) (.Z b)=some (.int .u64 (n/2^b.toNat)):=by
 have a:kh b 0=false:=by rw[jt];simp;omega
 have c:min b.toNat IntKind.u64.bits=b.toNat:=by
  have:IntKind.u64.bits=64:=rfl
  rw[this];omega
 have d:n.fdiv (2^b.toNat)=n/2^b.toNat:=Int.fdiv_eq_ediv_of_nonneg _ (by exact Int.le_of_lt (Int.pow_pos Zd))
 simp only[ah,fM,cS,pi,a,fB,c,d,g5,ry]
def xq{n:Int}(a:0<=n)(o:Nat):n/2^o=0↔n<2^o:=by
 have b:(0:Int)<2^o:=Int.pow_pos Zd
 constructor
 ·intro e
  have:=Int.lt_mul_ediv_self_add (x:=n) b
  rw[e]at this;simpa using this
 ·exact λe=>Int.ediv_eq_zero_of_lt a e
def yM{t:eb}(e:ey t=true):1<=t.w/\t.w<=64:=by
 obtain⟨b,s,w⟩:=t
 cases b<;>cases s<;>simp[ey]at e<;>(simp;omega)
def HL(n:dU X){l:bk}{v:y}(C:(u X).aP<=j)(T0:bT X h P l v)(Z:∀G,P G->G<j)(x:l.kind=1)(r:ey l.ty=true)(f:mY l):
 aN X 101 [v] h j (λN E ar=>N= .bool (decide (l.n<2^(fK l.ty).toNat))/\a1 X h j E ar) zG:=by
 refine zB n.todX (Bs X) ?_
 rw[Bt]
 unfold vu
 obtain⟨b,ax,bO,aE,rfl,ab,a0,aH,aZ,a3,a4,a5,dY,d3,dE,T2,has⟩:=T0.root (by rw[x];decide)
 have w:=Z b ab
 have T4:=yM r
 have t:decide (l.kind=1)=true:=by simp[x]
 have T3:eS l.ty=[.bool l.ty.b, .bool l.ty.s, .Z l.ty.w]:=rfl
 have z:br X h 3 (.ptr b 4)=some (.agg (eS l.ty)):=by rw[hp,a4,a5,dY];rfl
 have O:=xq f.aL (fK l.ty).toNat
 have d:decide (l.n/2^(fK l.ty).toNat=0)=decide (l.n<2^(fK l.ty).toNat):=by rw[decide_eq_decide];exact O
 cases g:l.ty.s with
 |true=>
  have p:fK l.ty=l.ty.w-1:=by unfold fK;rw[g];rfl
  rw[p]at d ⊢
  rw[g]at a5
  have Y:ah .sub (.Z l.ty.w) (.Z 1)=some (.Z (l.ty.w-1)):=g4 Zo Zo
  have c:decide (l.ty.w-1=64)=false:=zJ
  have s:=AJ (b:=l.ty.w-1) f.aL Zo Zo
  refine dw @a5 @dY @Y @a0 @t @z ⟨?_⟩
  refine(r0 (j:=j) (h:=h) n.todX l.ty C).Zm ?_
  rintro N ay aL ⟨rfl,a⟩
  have i:W X ay (.ptr b 7)=some (.int .u64 l.n):=by rw[a.cZ _ _ w];exact d3
  rw[r]
  refine cz @c @i @s ⟨?_⟩
  exact⟨by rw[d],a⟩
 |false=>
  have p:fK l.ty=l.ty.w:=by unfold fK;rw[g];rfl
  rw[p]at d ⊢
  rw[g]at a5
  refine de @a5 @dY @a0 @t @z ⟨?_⟩
  refine(r0 (j:=j) (h:=h) n.todX l.ty C).Zm ?_
  rintro N ay aL ⟨rfl,a⟩
  have i:W X ay (.ptr b 7)=some (.int .u64 l.n):=by rw[a.cZ _ _ w];exact d3
  rw[r]
  by_cases m:l.ty.w=64
  ·have c:decide (l.ty.w=64)=true:=by simp[m]
   have T1:decide (l.n<2^l.ty.w.toNat)=true:=by rw[m];simp only[Zc];exact f.aR
   refine bG @c ⟨?_⟩
   exact⟨by rw[T1],a⟩
  ·have c:decide (l.ty.w=64)=false:=by simp[m]
   have s:=AJ (b:=l.ty.w) f.aL Zo Zo
   refine cz @c @i @s ⟨?_⟩
   exact⟨by rw[d],a⟩
end
def jJ(o:Int):Option (Int×Bool×Bool×Bool):=
 if o=1 then some (0,false,true,true)else if o=2 then some (0,true,false,false)else if o=3\/o=4\/o=5 then some (1,false,false,false)else if o=6 then some (1,true,false,false)
 else if o=19\/o=20 then some (1,false,false,true)else if o=23 then some (3,false,false,false)else if o=24 then some (2,true,false,false)else if o=25 then some (-1,true,false,false)
 else if o=26 then some (1,false,true,false)else none
def hX(s:Int×Bool×Bool×Bool):List y:=[.Z s.1, .bool s.2.1, .bool s.2.2.1, .bool s.2.2.2]
structure jQ(X:bU):Prop where
 at_:∀h,∃v,W X h (.ptr 1 0)=some v/\∀o:Int,gs X h 3 (.agg [.Z 0, .zF, .zF, .zF]) v (.Z o) true=some (.tuple [.agg (hX ((jJ o).getD (0,false,false,false))), .bool (jJ o).isSome])
def Km{o:Int}(a:1<=o)(b:o<=26):∃s:Int×Bool×Bool×Bool,(jJ o).getD (2,false,false,false)=s/\(s.1=match l4 o with|none=> -1|some m=>(m:Int))/\(s.2.1=true↔eI o)/\(s.2.2.1=true↔fE o)/\(s.2.2.2=true↔(o=1\/o=19\/o=20)):=by
 refine⟨_,rfl, ?_⟩
 unfold eI fE
 rcases(show o=1\/o=2\/o=3\/o=4\/o=5\/o=6\/o=7\/o=8\/o=9\/o=10\/o=11\/o=12\/o=13\/o=14\/o=15\/o=16\/o=17\/o=18\/o=19\/o=20\/o=21\/o=22\/o=23\/o=24\/o=25\/o=26 by omega)with rfl|rfl|rfl|rfl|rfl|rfl|rfl|rfl|rfl|rfl|rfl|rfl|rfl|rfl|rfl|rfl|rfl|rfl|rfl|rfl|rfl|rfl|rfl|rfl|rfl|rfl<;>exact⟨Zd,Zd,Zd,Zd⟩
section
variable{X:bU}{h E cH ay aO:I ae}{j ar aL aR bz:Nat}{bp d2 P:Nat->Prop}
def Lh:ce X h .neq 50 false (.agg [.zF, .zF, .Z 0]) (.agg [.zF, .zF, .Z 0])=some .zF:=Zk
def Lm(n:Nat):ce X h .neq 50 false (.agg [.zF, .zF, .Z (.ofNat (n+1))]) (.agg [.zF, .zF, .Z 0])=some .zT:=Zk
def Ll(n:Nat):ce X h .neq 50 false (.agg [.zF, .zF, .Z (.negSucc n)]) (.agg [.zF, .zF, .Z 0])=some .zT:=Zk
def Li(w:Int):ce X h .neq 50 false (.agg [.zT, .zF, .Z w]) (.agg [.zF, .zF, .Z 0])=some .zT:=Zk
def Lj(w:Int):ce X h .neq 50 false (.agg [.zF, .zT, .Z w]) (.agg [.zF, .zF, .Z 0])=some .zT:=Zk
def Lk(w:Int):ce X h .neq 50 false (.agg [.zT, .zT, .Z w]) (.agg [.zF, .zF, .Z 0])=some .zT:=Zk
def pa(t:eb):ce X h .neq 50 false (.agg [.bool t.b, .bool t.s, .Z t.w]) (.agg [.zF, .zF, .Z 0])=some (.bool (decide (t≠cm))):=by
 obtain⟨b,s,w⟩:=t
 cases b<;>cases s
 ·match w with
  | .ofNat 0=>exact Lh
  | .ofNat (n+1)=>rw[show decide ((⟨false,false, .ofNat (n+1)⟩:eb)≠cm)=true from by simp[cm];omega];exact Lm n
  | .negSucc n=>rw[show decide ((⟨false,false, .negSucc n⟩:eb)≠cm)=true from by simp[cm]];exact Ll n
 ·rw[show decide ((⟨false,true,w⟩:eb)≠cm)=true from by simp[cm]];exact Lj w
 ·rw[show decide ((⟨true,false,w⟩:eb)≠cm)=true from by simp[cm]];exact Li w
 ·rw[show decide ((⟨true,true,w⟩:eb)≠cm)=true from by simp[cm]];exact Lk w
def Eu:ce X h .neq 4 false .zF .zF=some .zF:=Zk
def Ev:ce X h .neq 4 false .zF .zT=some .zT:=Zk
def Ew:ce X h .neq 4 false .zT .zF=some .zT:=Zk
def Ex:ce X h .neq 4 false .zT .zT=some .zF:=Zk
def oq(a b:Bool):ce X h .neq 4 false (.bool a) (.bool b)=some (.bool (a != b)):=by
 cases a<;>cases b
 ·exact Eu
 ·exact Ev
 ·exact Ew
 ·exact Ex
def Ai(b:Nat):ce X h .neq 59 true (.ptr b 0) .bC=some .zT:=Zk
def I8:ce X h .neq 59 true .bC .bC=some .zF:=Zk
def IH{s:aW}(e:c7 s=true):s≠[]:=by intro l;subst l;exact absurd e Zd
set_option maxRecDepth 100000 in
def HW(UY:dU X)(VP:jQ X){l:bk}{v:y}(Vw:(u X).aP<=j)(VA:bT X h P l v)(Uk:∀d,P d->d<j)(VS:l.kind≠ -1)(VB:mY l)(Vr:∀a∈l.args,mY a):
 aN X 75 [v] h j (λN E ar=>(∃T3:Bool,N= .bool T3/\(T3=true↔gT l))/\a1 X h j E ar) zG:=by
 refine zB UY.todX (Dc X) ?_
 rw[Dd]
 unfold wA
 obtain⟨b,ax,bO,aE,rfl,ab,a0,aH,aZ,a3,a4,a5,dY,d3,dE,V2,has⟩:=VA.root VS
 have w:=Uk b ab
 obtain⟨dH,VR,gp⟩:=VP.at_ h
 have VD:=gp l.kind
 have bad:∀E aj,¬gT l->a1 X h j E aj->(∃T3:Bool,y.bool false= .bool T3/\(T3=true↔gT l))/\a1 X h j E aj:=λE aj ab VN=>⟨⟨false,rfl,(λe=>by cases e),λe=>absurd e ab⟩,VN⟩
 obtain⟨s,UC⟩:∃s,(jJ l.kind).getD (2,false,false,false)=s:=⟨_,rfl⟩
 have VZ:∀L:Int×Bool×Bool×Bool,hX L=[.Z L.1, .bool L.2.1, .bool L.2.2.1, .bool L.2.2.2]:=λ_=>rfl
 rw[VZ]at VD
 refine c6 @VR @a0 @VD ⟨?_⟩
 refine cU (λc E aj=>c.g 0=some (.ptr b 0)/\c.g 3=some (.ptr (j+9) 0)/\a1 X h j E aj/\j+9<aj/\J X E (j+9)=zy (hX s) 4) (λH f=> ?_) ?_
 ·cases C:jJ l.kind with
  |some L=>
   rw[C]at UC
   simp only[Y0]at UC
   subst UC
   simp only[Y0,Ya]
   refine bl ⟨?_⟩
   exact f _ _ _ ⟨aK,aK,dG,Zo,by rw[bb Zo];rfl⟩
  |none=>
   rw[C]at UC
   simp only[Option.getD_none]at UC
   subst UC
   simp only[Option.getD_none,Z4]
   refine bl ⟨?_⟩
   exact f _ _ _ ⟨aK,aK,dG,Zo,by rw[bb Zo];rfl⟩
 rintro B ay aL ⟨t0,t3,T4,Vx,Uv⟩
 have rd:∀E,Go.S.J X E (j+9)=zy (hX s) 4->W X E (.ptr (j+9) 0)=some (.Z s.1)/\W X E (.ptr (j+9) 1)=some (.bool s.2.1)/\W X E (.ptr (j+9) 2)=some (.bool s.2.2.1)/\W X E (.ptr (j+9) 3)=some (.bool s.2.2.2):=λE e=>
  ⟨by rw[ba e];rfl,by rw[ba e];rfl,by rw[ba e];rfl,by rw[ba e];rfl⟩
 obtain⟨T5,z,G,Ue⟩:=rd ay Uv
 have UE:W X ay (.ptr b 0)=some (.Z l.kind):=by rw[T4.cZ _ _ w];exact a0
 have Uh:W X ay (.ptr b 8)=some ax:=by rw[T4.cZ _ _ w];exact dE
 have V0:=V2.len
 have VQ:=has.len
 rw[Zn,VQ]at V0
 have V3:∀d,P d->J X ay d=J X h d:=λd Uc=>T4.T d (Uk d Uc)
 have VU:=T4.le
 by_cases bf:l.kind<1
 ·have UH:decide (l.kind<1)=true:=by simp only[Zc];exact bf
  refine cz @t0 @UE @UH ⟨?_⟩
  exact bad _ _ (λe=>zu e.bf) (T4.more Zo)
 have UH:decide (l.kind<1)=false:=by simp only[Zb];exact bf
 by_cases bo:26<l.kind
 ·have UR:decide ((26:Int)<l.kind)=true:=by simp only[Zc];exact bo
  refine cP @t0 @UE @UH @UR ⟨?_⟩
  exact bad _ _ (λe=>zu e.bo) (T4.more Zo)
 have UR:decide ((26:Int)<l.kind)=false:=by simp only[Zb];exact bo
 obtain⟨W7,VE,UM,VJ,VK,Ut⟩:=Km (o:=l.kind) Zo Zo
 rw[UC]at VE
 subst VE
 by_cases Ul:0<=s.1/\(l.args.length:Int)≠s.1
 ·have US:decide ((0:Int)<=s.1)=true:=by simp only[Zc];exact Ul.1
  have Uu:decide ((l.args.length:Int)≠s.1)=true:=by simp only[Zc];exact Ul.2
  refine bs @t0 @t3 @UE @UH @UR @T5 (Za @US (Za @Uh (Za @V0 (Za @T5 @Uu)))) ⟨?_⟩
  refine bad _ _ (λe=> ?_) (T4.more Zo)
  cases T8:l4 l.kind with
  |none=>rw[T8]at UM;simp only at UM;omega
  |some m=>rw[T8]at UM;simp only at UM;have:=e.w4 m T8;omega
 have V8:∀m,l4 l.kind=some m->l.args.length=m:=λm T8=>by
  rw[T8]at UM
  simp only at UM
  by_cases e:(l.args.length:Int)=s.1
  ·omega
  ·exact absurd ⟨Zo,e⟩ Ul
 apply kP
 ·intro Vd
  by_cases Ux:0<=s.1
  all_goals
   first
   |(
     have US:decide ((0:Int)<=s.1)=true:=by simp only[Zc];exact Ux
     have Uu:decide ((l.args.length:Int)≠s.1)=false:=by simp only[Zb];exact λe=>Ul ⟨Ux,e⟩
     refine c6 @t0 @t3 (Za @UE (Za @UH (Za @UR (Za @T5 (Za @US (Za @Uh (Za @V0 (Za @T5 @Uu)))))))) ⟨?_⟩)
   |(
     have US:decide ((0:Int)<=s.1)=false:=by simp only[Zb];exact Ux
     refine c6 @t0 @t3 (Za @UE (Za @UH (Za @UR (Za @T5 (Za @US @Uh))))) ⟨?_⟩)
   refine(Eg (j:=aL+34) (h:=ay) UY (V2.T V3) (du.to V3 (λ_ e=>e) _ _ has)).Zm ?_
   rintro N aO aR ⟨⟨T3,rfl,V9⟩,rfl,Vt⟩
   cases T3 with
   |true=>
    refine bl ⟨?_⟩
    exact bad _ _ (λe=>by have:=V9.2 e.gv;cases this) (T4.more Zo)
   |false=>
    have Un:=V9.1 rfl
    refine ho ⟨?_⟩
    refine cU (λc E aj=>(∀a∈l.args,a.kind≠ -1)/\c.g 0=some (.ptr b 0)/\c.g 3=some (.ptr (j+9) 0)/\a1 X h j E aj/\j+9<aj/\J X E (j+9)=zy (hX s) 4) (λH f=> ?_) ?_
    ·refine bl ⟨?_⟩
     exact f _ _ _ ⟨Un,an t0,an t3,T4.more Zo,Zo,Uv⟩
    exact Vd.out
 clear t0 t3 T4 Uv T5 z G Ue UE Uh V3 VU
 rintro B Uf W2 ⟨Un,t0,t3,p,Vy,UJ⟩
 obtain⟨T5,z,G,Ue⟩:=rd Uf UJ
 have VV:=p.le
 have U5:W X Uf (.ptr b 2)=some (.str l.name):=by rw[p.cZ _ _ w];exact aZ
 have t:W X Uf (.ptr b 3)=some (.bool l.no):=by rw[p.cZ _ _ w];exact a3
 have UP:W X Uf (.ptr b 0)=some (.Z l.kind):=by rw[p.cZ _ _ w];exact a0
 apply kP
 ·intro Ur
  cases TY:s.2.1 with
  |true=>
   have U4:=VJ.1 TY
   rw[TY]at z
   by_cases T9:l.name=[]
   ·have g:decide (l.name≠[])=false:=by simp[T9]
    have T6:((true:Bool) != false)=true:=rfl
    refine bs @t0 @t3 @z @U5 @g @oq @T6 ⟨?_⟩
    exact bad _ _ (λe=>IH (e.nm U4) T9) (p.more Zo)
   ·have g:decide (l.name≠[])=true:=by simp[T9]
    have T6:((true:Bool) != true)=false:=rfl
    refine c6 @t0 @t3 (Za @z (Za @U5 (Za @g (Za @oq @T6)))) ⟨?_⟩
    refine p9 UY VB.nm ?_
    cases V1:c7 l.name with
    |false=>
     refine bl ⟨?_⟩
     exact bad _ _ (λe=>by have:=e.nm U4;rw[V1]at this;cases this) (p.more Zo)
    |true=>
     by_cases T0:l.no=true/\l.kind≠6
     ·have U6:decide (l.kind≠6)=true:=by simp only[Zc];exact T0.2
      rw[T0.1]at t
      refine de @t0 @t3 @t @UP @U6 ⟨?_⟩
      exact bad _ _ (λe=>T0.2 (e.no T0.1)) (p.more Zo)
     ·have UA:l.no=true->l.kind=6:=λe=>Decidable.byContradiction λi=>T0 ⟨e,i⟩
      cases C:l.no with
      |true=>
       have U6:decide (l.kind≠6)=false:=by simp[UA C]
       rw[C]at t
       refine c6 @t0 @t3 (Za @t (Za @UP @U6)) ⟨?_⟩
       refine cU (λc E aj=>((eI l.kind->c7 l.name=true)/\(¬eI l.kind->l.name=[])/\(l.no=true->l.kind=6))/\c.g 0=some (.ptr b 0)/\c.g 3=some (.ptr (j+9) 0)/\a1 X h j E aj/\j+9<aj/\J X E (j+9)=zy (hX s) 4) (λH f=> ?_) ?_
       ·refine bl ⟨?_⟩
        exact f _ _ _ ⟨⟨λ_=>V1,λe=>absurd U4 e,UA⟩,an t0,an t3,p.more Zo,Zo,UJ⟩
       exact Ur.out
      |false=>
       rw[C]at t
       refine c6 @t0 @t3 @t ⟨?_⟩
       refine cU (λc E aj=>((eI l.kind->c7 l.name=true)/\(¬eI l.kind->l.name=[])/\(l.no=true->l.kind=6))/\c.g 0=some (.ptr b 0)/\c.g 3=some (.ptr (j+9) 0)/\a1 X h j E aj/\j+9<aj/\J X E (j+9)=zy (hX s) 4) (λH f=> ?_) ?_
       ·refine bl ⟨?_⟩
        exact f _ _ _ ⟨⟨λ_=>V1,λe=>absurd U4 e,UA⟩,an t0,an t3,p.more Zo,Zo,UJ⟩
       exact Ur.out
  |false=>
   have U4:¬eI l.kind:=λe=>by have:=VJ.2 e;rw[TY]at this;cases this
   rw[TY]at z
   by_cases T9:l.name=[]
   ·have g:decide (l.name≠[])=false:=by simp[T9]
    have T6:((false:Bool) != false)=false:=rfl
    by_cases T0:l.no=true/\l.kind≠6
    ·have U6:decide (l.kind≠6)=true:=by simp only[Zc];exact T0.2
     rw[T0.1]at t
     refine bs @t0 @t3 @z @U5 @g @oq (Za @T6 (Za @t (Za @UP @U6))) ⟨?_⟩
     exact bad _ _ (λe=>T0.2 (e.no T0.1)) (p.more Zo)
    ·have UA:l.no=true->l.kind=6:=λe=>Decidable.byContradiction λi=>T0 ⟨e,i⟩
     cases C:l.no with
     |true=>
      have U6:decide (l.kind≠6)=false:=by simp[UA C]
      rw[C]at t
      refine c6 @t0 @t3 (Za @z (Za @U5 (Za @g (Za @oq (Za @T6 (Za @t (Za @UP @U6))))))) ⟨?_⟩
      refine cU (λc E aj=>((eI l.kind->c7 l.name=true)/\(¬eI l.kind->l.name=[])/\(l.no=true->l.kind=6))/\c.g 0=some (.ptr b 0)/\c.g 3=some (.ptr (j+9) 0)/\a1 X h j E aj/\j+9<aj/\J X E (j+9)=zy (hX s) 4) (λH f=> ?_) ?_
      ·refine bl ⟨?_⟩
       exact f _ _ _ ⟨⟨λe=>absurd e U4,λ_=>T9,UA⟩,an t0,an t3,p.more Zo,Zo,UJ⟩
      exact Ur.out
     |false=>
      rw[C]at t
      refine c6 @t0 @t3 (Za @z (Za @U5 (Za @g (Za @oq (Za @T6 @t))))) ⟨?_⟩
      refine cU (λc E aj=>((eI l.kind->c7 l.name=true)/\(¬eI l.kind->l.name=[])/\(l.no=true->l.kind=6))/\c.g 0=some (.ptr b 0)/\c.g 3=some (.ptr (j+9) 0)/\a1 X h j E aj/\j+9<aj/\J X E (j+9)=zy (hX s) 4) (λH f=> ?_) ?_
      ·refine bl ⟨?_⟩
       exact f _ _ _ ⟨⟨λe=>absurd e U4,λ_=>T9,UA⟩,an t0,an t3,p.more Zo,Zo,UJ⟩
      exact Ur.out
   ·have g:decide (l.name≠[])=true:=by simp[T9]
    have T6:((false:Bool) != true)=true:=rfl
    refine bs @t0 @t3 @z @U5 @g @oq @T6 ⟨?_⟩
    exact bad _ _ (λe=>T9 (e.yS U4)) (p.more Zo)
 clear t0 t3 p UJ T5 z G Ue U5 t UP VV
 rintro B UN Vl ⟨⟨Vh,Vi,Vj⟩,t0,t3,Z,Vz,Uj⟩
 obtain⟨T5,z,G,Ue⟩:=rd UN Uj
 have VW:=Z.le
 have Va:eS l.ty=[.bool l.ty.b, .bool l.ty.s, .Z l.ty.w]:=rfl
 have U9:br X UN 3 (.ptr b 4)=some (.agg (eS l.ty)):=by rw[hp,Z.cZ _ _ w,Z.cZ _ _ w,Z.cZ _ _ w,a4,a5,dY];rfl
 apply kP
 ·intro Us
  cases TY:s.2.2.1 with
  |true=>
   have UD:=VK.1 TY
   rw[TY]at G
   refine c6 @t0 @t3 (Za @G @U9) ⟨?_⟩
   refine(r0 (j:=Vl) (h:=UN) UY.todX l.ty Zo).Zm ?_
   rintro N Ug Vm ⟨rfl,Uy⟩
   have Vu:=Uy.le
   have UX:a1 X h j Ug Vm:=Z.trans (Uy.jC Zo)
   cases T8:ey l.ty with
   |false=>
    refine bl ⟨?_⟩
    exact bad _ _ (λe=>by have:=e.ty UD;rw[T8]at this;cases this) (UX.more Zo)
   |true=>
    have Uw:J X Ug (j+9)=zy (hX s) 4:=by rw[Uy.T _ Zo];exact Uj
    have UQ:W X Ug (.ptr b 7)=some (.int .u64 l.n):=by rw[UX.cZ _ _ w];exact d3
    obtain⟨_,_,_,T1⟩:=rd Ug Uw
    cases TZ:s.2.2.2 with
    |true=>
     have UB:=Ut.1 TZ
     rw[TZ]at T1
     refine c6 @t0 @t3 @T1 ⟨?_⟩
     refine cU (λc E aj=>((fE l.kind->ey l.ty=true)/\(¬fE l.kind->l.ty=cm)/\(¬(l.kind=1\/l.kind=19\/l.kind=20)->l.n=0))/\c.g 0=some (.ptr b 0)/\a1 X h j E aj) (λH f=> ?_) ?_
     ·refine bl ⟨?_⟩
      exact f _ _ _ ⟨⟨λ_=>T8,λe=>absurd UD e,λe=>absurd UB e⟩,an t0,UX.more Zo⟩
     exact Us.out
    |false=>
     have UB:¬(l.kind=1\/l.kind=19\/l.kind=20):=λe=>by have:=Ut.2 e;rw[TZ]at this;cases this
     rw[TZ]at T1
     by_cases U0:l.n=0
     ·have g:decide (l.n≠0)=false:=by simp[U0]
      refine c6 @t0 @t3 (Za @T1 (Za @UQ @g)) ⟨?_⟩
      refine cU (λc E aj=>((fE l.kind->ey l.ty=true)/\(¬fE l.kind->l.ty=cm)/\(¬(l.kind=1\/l.kind=19\/l.kind=20)->l.n=0))/\c.g 0=some (.ptr b 0)/\a1 X h j E aj) (λH f=> ?_) ?_
      ·refine bl ⟨?_⟩
       exact f _ _ _ ⟨⟨λ_=>T8,λe=>absurd UD e,λ_=>U0⟩,an t0,UX.more Zo⟩
      exact Us.out
     ·have g:decide (l.n≠0)=true:=by simp[U0]
      refine de @t0 @t3 @T1 @UQ @g ⟨?_⟩
      exact bad _ _ (λe=>U0 (e.aP UB)) (UX.more Zo)
  |false=>
   have UD:¬fE l.kind:=λe=>by have:=VK.2 e;rw[TY]at this;cases this
   rw[TY]at G
   rw[Va]at U9
   have Uw:=Uj
   by_cases Ub:l.ty=cm
   ·have UT:decide (l.ty≠cm)=false:=by simp[Ub]
    have UQ:W X UN (.ptr b 7)=some (.int .u64 l.n):=by rw[Z.cZ _ _ w];exact d3
    obtain⟨_,_,_,T1⟩:=rd UN Uw
    cases TZ:s.2.2.2 with
    |true=>
     have UB:=Ut.1 TZ
     rw[TZ]at T1
     refine c6 @G @U9 (Za @pa (Za @UT (Za @t0 (Za @t3 @T1)))) ⟨?_⟩
     refine cU (λc E aj=>((fE l.kind->ey l.ty=true)/\(¬fE l.kind->l.ty=cm)/\(¬(l.kind=1\/l.kind=19\/l.kind=20)->l.n=0))/\c.g 0=some (.ptr b 0)/\a1 X h j E aj) (λH f=> ?_) ?_
     ·refine bl ⟨?_⟩
      exact f _ _ _ ⟨⟨λe=>absurd e UD,λ_=>Ub,λe=>absurd UB e⟩,an t0,Z.more Zo⟩
     exact Us.out
    |false=>
     have UB:¬(l.kind=1\/l.kind=19\/l.kind=20):=λe=>by have:=Ut.2 e;rw[TZ]at this;cases this
     rw[TZ]at T1
     by_cases U0:l.n=0
     ·have g:decide (l.n≠0)=false:=by simp[U0]
      refine c6 @G @U9 (Za @pa (Za @UT (Za @t0 (Za @t3 (Za @T1 (Za @UQ @g)))))) ⟨?_⟩
      refine cU (λc E aj=>((fE l.kind->ey l.ty=true)/\(¬fE l.kind->l.ty=cm)/\(¬(l.kind=1\/l.kind=19\/l.kind=20)->l.n=0))/\c.g 0=some (.ptr b 0)/\a1 X h j E aj) (λH f=> ?_) ?_
      ·refine bl ⟨?_⟩
       exact f _ _ _ ⟨⟨λe=>absurd e UD,λ_=>Ub,λ_=>U0⟩,an t0,Z.more Zo⟩
      exact Us.out
     ·have g:decide (l.n≠0)=true:=by simp[U0]
      refine bs @G @U9 @pa @UT @t0 @t3 (Za @T1 (Za @UQ @g)) ⟨?_⟩
      exact bad _ _ (λe=>U0 (e.aP UB)) (Z.more Zo)
   ·have UT:decide (l.ty≠cm)=true:=by simp[Ub]
    refine dw @t0 @t3 @G @U9 @pa @UT ⟨?_⟩
    exact bad _ _ (λe=>Ub (e.cm UD)) (Z.more Zo)
 clear t0 t3 Z Uj T5 z G Ue VW U9
 rintro B UO Vn ⟨⟨VI,Vk,Vg⟩,t0,n⟩
 have Vv:=n.le
 have T2:W X UO (.ptr b 0)=some (.Z l.kind):=by rw[n.cZ _ _ w];exact a0
 have V7:W X UO (.ptr b 7)=some (.int .u64 l.n):=by rw[n.cZ _ _ w];exact d3
 have UF:W X UO (.ptr b 8)=some ax:=by rw[n.cZ _ _ w];exact dE
 have V4:∀d,P d->J X UO d=J X h d:=λd Uc=>n.T d (Uk d Uc)
 have mk:(l.kind=19\/l.kind=20->l.n<=63)->(l.kind=1->l.n<2^(fK l.ty).toNat)->(l.kind=21->kZ l.args)->gT l:=λU2 i U3=>⟨Zo,Zo,V8,Un,Vh,Vi,Vj,VI,Vk,Vg,U2,i,U3⟩
 show Q _ _
 by_cases U2:l.kind=1
 ·have O:decide (l.kind=1)=true:=by simp[U2]
  refine cz @t0 @T2 @O ⟨?_⟩
  refine(HL (j:=Vn) (h:=UO) UY Zo (bT.to V4 (λ_ e=>e) _ _ VA) (λd Uc=>zu (Uk d Uc)) U2 (VI (.inl U2)) VB).Zm ?_
  rintro N Vq W3 ⟨rfl,VO⟩
  exact⟨⟨_,rfl,by rw[Zc];exact⟨λe=>mk (λe=>Zo) (λ_=>e) (λe=>Zo),λe=>e.yR U2⟩⟩,n.trans (VO.jC Zo)⟩
 have O:decide (l.kind=1)=false:=by simp[U2]
 by_cases UV:l.kind=19\/l.kind=20
 ·rcases UV with UV|rJ
  ·have Y:decide (l.kind=19)=true:=by simp[UV]
   refine de @t0 @T2 @O @Y @V7 ⟨?_⟩
   exact⟨⟨_,rfl,by rw[Zc];exact⟨λe=>mk (λ_=>e) (λe=>Zo) (λe=>Zo),λe=>e.c9 (.inl UV)⟩⟩,n.more Zo⟩
  ·have Y:decide (l.kind=19)=false:=by simp[rJ]
   have T7:decide (l.kind=20)=true:=by simp[rJ]
   refine dw @t0 @T2 @O @Y @T7 @V7 ⟨?_⟩
   exact⟨⟨_,rfl,by rw[Zc];exact⟨λe=>mk (λ_=>e) (λe=>Zo) (λe=>Zo),λe=>e.c9 (.inr rJ)⟩⟩,n.more Zo⟩
 have Y:decide (l.kind=19)=false:=zJ
 have T7:decide (l.kind=20)=false:=zJ
 by_cases UW:l.kind=21
 ·have U1:decide (l.kind=21)=true:=by simp[UW]
  have VC:=V8 2 (by rw[UW];decide)
  obtain⟨k,r,UZ⟩:∃k r,l.args=k::r:=by
   cases C:l.args with
   |nil=>rw[C]at VC;simp at VC
   |cons k r=>exact⟨k,r,rfl⟩
  have VX:k∈l.args:=by rw[UZ];exact Zl ..
  obtain⟨ac,VY,VT⟩:=has.get 0 k (by rw[UZ];rfl)
  obtain⟨Vp,UL,W5⟩:=(V2.T V4).one VY
  obtain⟨b9,Vf,Ve,W1,rfl,Vs,UG,_,_,_,_,_,_,_,Ui,VH,VG⟩:=(bT.to V4 (λ_ e=>e) _ _ VT).root (Un k VX)
  have UK:bK 1 ax (.Z 0)=some (.ptr bO 0):=Vp
  have VM:∀(Ua:kZ l.args),(∃T3:Bool,y.bool true= .bool T3/\(T3=true↔gT l)):=λUa=>⟨true,rfl,λ_=>mk (λe=>Zo) (λe=>Zo) λ_=>Ua,λ_=>rfl⟩
  have no:∀(Ua:¬kZ l.args),¬gT l:=λUa e=>Ua (e.jo UW)
  have inv:kZ l.args->k.kind=1\/k.kind=4/\∃d,k.args=[d]/\d.kind=1:=λ⟨x,W6,i,U3⟩=>by
   rw[UZ]at i
   cases i
   exact U3
  by_cases U8:k.kind=1
  ·have U7:decide (k.kind=1)=true:=by simp[U8]
   refine bs @t0 @T2 @O @Y @T7 @U1 (Za @UF (Za @UK (Za @UL (Za @UG @U7)))) ⟨?_⟩
   exact⟨VM ⟨k,r,UZ, .inl U8⟩,n.more Zo⟩
  have U7:decide (k.kind=1)=false:=by simp[U8]
  by_cases Um:k.kind=4
  ·have UI:decide (k.kind=4)=true:=by simp[Um]
   have Ud:=VH.len
   rw[Zn,VG.len]at Ud
   by_cases Uz:k.args.length=1
   ·have UU:decide ((k.args.length:Int)=1)=true:=zK
    obtain⟨x,Uo⟩:=List.length_eq_one_iff.1 Uz
    obtain⟨W9,Vc,VF⟩:=VG.get 0 x (by rw[Uo];rfl)
    obtain⟨Vo,V6,W4⟩:=VH.one Vc
    have V5:bK 1 Vf (.Z 0)=some (.ptr Ve 0):=Vo
    by_cases Uq:x.kind= -1
    ·have Vb:=VF.nil Uq
     subst Vb
     refine bs @t0 @T2 @O @Y @T7 @U1 (Za @UF (Za @UK (Za @UL (Za @UG (Za @U7 (Za @UI (Za @Ui (Za @Ud (Za @UU (Za @V5 (Za @V6 @I8))))))))))) ⟨?_⟩
     refine bad _ _ (no λe=> ?_) (n.more Zo)
     rcases inv e with e|⟨_,d,i,U3⟩
     ·exact U8 e
     ·rw[Uo]at i;cases i;rw[U3]at Uq;cases Uq
    ·obtain⟨W8,_,_,_,rfl,W0,VL,_⟩:=VF.root Uq
     by_cases Up:x.kind=1
     ·have ex:decide (x.kind=1)=true:=by simp[Up]
      refine bs @t0 @T2 @O @Y @T7 @U1 (Za @UF (Za @UK (Za @UL (Za @UG (Za @U7 (Za @UI (Za @Ui (Za @Ud (Za @UU (Za @V5 (Za @V6 (Za @Ai (Za @VL @ex))))))))))))) ⟨?_⟩
      exact⟨VM ⟨k,r,UZ, .inr ⟨Um,x,Uo,Up⟩⟩,n.more Zo⟩
     ·have ex:decide (x.kind=1)=false:=by simp[Up]
      refine bs @t0 @T2 @O @Y @T7 @U1 (Za @UF (Za @UK (Za @UL (Za @UG (Za @U7 (Za @UI (Za @Ui (Za @Ud (Za @UU (Za @V5 (Za @V6 (Za @Ai (Za @VL @ex))))))))))))) ⟨?_⟩
      refine bad _ _ (no λe=> ?_) (n.more Zo)
      rcases inv e with e|⟨_,d,i,U3⟩
      ·exact U8 e
      ·rw[Uo]at i;cases i;exact Up U3
   ·have UU:decide ((k.args.length:Int)=1)=false:=zJ
    refine bs @t0 @T2 @O @Y @T7 @U1 (Za @UF (Za @UK (Za @UL (Za @UG (Za @U7 (Za @UI (Za @Ui (Za @Ud @UU)))))))) ⟨?_⟩
    refine bad _ _ (no λe=> ?_) (n.more Zo)
    rcases inv e with e|⟨_,d,i,U3⟩
    ·exact U8 e
    ·rw[i]at Uz;exact Uz rfl
  ·have UI:decide (k.kind=4)=false:=by simp[Um]
   refine bs @t0 @T2 @O @Y @T7 @U1 (Za @UF (Za @UK (Za @UL (Za @UG (Za @U7 @UI))))) ⟨?_⟩
   refine bad _ _ (no λe=> ?_) (n.more Zo)
   rcases inv e with e|⟨e,_⟩
   ·exact U8 e
   ·exact Um e
 have U1:decide (l.kind=21)=false:=by simp[UW]
 refine dw @t0 @T2 @O @Y @T7 @U1 ⟨?_⟩
 exact⟨⟨true,rfl,λ_=>mk (λe=>absurd e UV) (λe=>absurd e U2) (λe=>absurd e UW),λ_=>rfl⟩,n.more Zo⟩
end
def hF(w:Int):Prop:=w=0\/w=1\/w=22
section
variable{X:bU}{h E cH ay aO:I ae}{j ar aL aR bz:Nat}{bp d2 P:Nat->Prop}
def I3(b:Nat):ce X h .eql 59 true (.ptr b 0) .bC=some .zF:=Zk
structure he(X:bU)(bt bI b9:Nat)(d w:Int)(h:I ae):Prop where
 pv:∃c,J X h bt=some (.cells c 1 .own)/\c.get 0=some (.Z d)
 wr:∃c,J X h bI=some (.cells c 1 .own)/\c.get 0=some (.Z w)
 look:W X h (.ptr b9 0)=some (.func (.func 74) [] [.ptr bt 0, .ptr bI 0, .ptr b9 0])
def he.T{bt bI b9:Nat}{d w:Int}(e:he X bt bI b9 d w ay)(o:∀a,a=bt\/a=bI\/a=b9->J X aO a=J X ay a):he X bt bI b9 d w aO:=by
 exact⟨by rw[o bt (.inl rfl)];exact e.pv,by rw[o bI (.inr (.inl rfl))];exact e.wr,zF (o b9 (.inr (.inr rfl))) e.look⟩
def he.xr{bt bI b9:Nat}{d b w:Int}(e:he X bt bI b9 d w ay)(a:(u X).aP<=bt)(g:bI≠bt)(au:b9≠bt){c:I y}(f:c.get 0=some (.Z b)):he X bt bI b9 b w (aS X ay bt (some (.cells c 1 .own))):=
 ⟨⟨c,bb a,f⟩,by rw[aY a g];exact e.wr,zF (aY a au) e.look⟩
def he.Ba{bt bI b9:Nat}{d w aM:Int}(e:he X bt bI b9 d w ay)(a:(u X).aP<=bI)(f:bI≠bt)(au:b9≠bI){c:I y}(b:c.get 0=some (.Z aM)):he X bt bI b9 d aM (aS X ay bI (some (.cells c 1 .own))):=
 ⟨by rw[aY a (λl=>f l.symm)];exact e.pv,⟨c,bb a,b⟩,zF (aY a au) e.look⟩
set_option maxRecDepth 100000 in
def HR(UI:dU X)(Uc:jQ X){bt bI b9 gM:Nat}(T2:(u X).aP<=bt)(T7:(u X).aP<=bI)(V9:(u X).aP<=gM)(V4:bt<gM)(VB:bI<gM)(V7:b9<gM)(T3:bI≠bt)(UK:b9≠bt)(UN:b9≠bI)(z:∀f,P f->f<gM/\f≠bt/\f≠bI):
 ∀(o:Nat),o<=200->∀(l:bk) (v:y) (h:I ae) (j:Nat) (w:Int),gM<=j->bT X h P l v->hC l->hF w->he X bt bI b9 ((200-o:Nat):Int) w h->
  aN X 74 [v, .ptr bt 0, .ptr bI 0, .ptr b9 0] h j (λN E ar=>N= .tuple []/\(∃aM,hF aM/\he X bt bI b9 ((200-o:Nat):Int) aM E/\(aM=0↔w=0/\ge o l))/\j<=ar/\∀f,f<j->f≠bt->f≠bI->J X E f=J X h f) zG:=by
 intro o
 induction o using Nat.strongRecOn with
 |_ o V=>
 intro V6 l v h j w VA U5 U6 UM UG
 refine zB UI.todX (Da X) ?_
 rw[Db]
 unfold wz
 obtain⟨c,UY,Ua⟩:=UG.pv
 have UV:ah .add (.Z ((200-o:Nat):Int)) (.Z 1)=some (.Z ((201-o:Nat):Int)):=by rw[cx Zo Zo,show((200-o:Nat):Int)+1=((201-o:Nat):Int) by omega]
 have UW:ah .sub (.Z ((201-o:Nat):Int)) (.Z 1)=some (.Z ((200-o:Nat):Int)):=by rw[g4 Zo Zo,show((201-o:Nat):Int) -1=((200-o:Nat):Int) by omega]
 refine c6 (ba UY) @Ua @UV ⟨?_⟩
 generalize U4:aS X h bt _=ay
 have U3:he X bt bI b9 ((201-o:Nat):Int) w ay:=by rw[<-U4];exact UG.xr T2 T3 UK (hA c 0 _)
 have bf:∀f,f≠bt->J X ay f=J X h f:=λf p=>by rw[<-U4,aY T2 p]
 clear U4
 have Uv:∀f,P f->J X ay f=J X h f:=λf p=>bf f (z f p).2.1
 refine cU (λUR E aj=>UR.g 1=some (.ptr bt 0)/\(∃aM,hF aM/\he X bt bI b9 ((201-o:Nat):Int) aM E/\(aM=0↔w=0/\ge o l))/\j<=aj/\∀f,f<j->f≠bt->f≠bI->J X E f=J X h f) (λH T4=> ?_) ?_
 ·have one:∀E aj (B:ca),¬ge o l->B.g 1=some (.ptr bt 0)->he X bt bI b9 ((201-o:Nat):Int) w E->j<=aj->(∀f,f<j->f≠bt->J X E f=J X h f)->∀TZ:I y,TZ.get 0=some (.Z 1)->H B (aS X E bI (some (.cells TZ 1 .own))) aj:=λE aj B ab Uq au Ul Uj TZ e1=>
   T4 _ _ _ ⟨Uq,⟨1, .inr (.inl rfl),au.Ba T7 T3 UN e1,(λe=>by cases e),λe=>absurd e.2 ab⟩,Ul,λf i g r=>by rw[aY T7 r];exact Uj f i g⟩
  by_cases U7:l.kind= -1
  ·have Ur:=U5.nil U7
   subst Ur
   have ab:¬ge o l:=λe=>by
    cases o with
    |zero=>exact e
    |succ o=>have:=e.1.bf;omega
   obtain⟨UE,Z,T0⟩:=U3.wr
   refine bG @Ad ⟨?_⟩
   exact one _ _ _ ab (aK) U3 (Zp _) (λf _ g=>bf f g) _ (hA ..)
  ·obtain⟨b,ax,bO,aE,rfl,ab,_,_,_,_,_,_,_,_,dE,U9,has⟩:=U5.root U7
   have Ug:=z b ab
   refine bG @I3 ⟨?_⟩
   refine(HW (j:=j) (h:=ay) UI Uc Zo (bT.to Uv (λ_ e=>e) _ _ U5) (λf p=>zu (z f p).1) U7 U6.root (λa C=>(U6.arg C).root)).Zm ?_
   rintro N aO aR ⟨⟨UT,rfl,UJ⟩,T1⟩
   have T5:=T1.le
   have s:he X bt bI b9 ((201-o:Nat):Int) w aO:=U3.T (λf p=>T1.T f (by rcases p with rfl|rfl|rfl<;>omega))
   have bo:∀f,f<j->f≠bt->J X aO f=J X h f:=λf i g=>by rw[T1.T f i,bf f g]
   cases UT with
   |false=>
    have Uf:¬ge o l:=λe=>by
     cases o with
     |zero=>exact e
     |succ o=>have:=UJ.2 e.1;cases this
    obtain⟨UE,Z,T0⟩:=s.wr
    refine bl ⟨?_⟩
    exact one _ _ _ Uf (aK) s T5 bo _ (hA ..)
   |true=>
    have Un:=UJ.1 rfl
    obtain⟨V3,U1,U2⟩:=s.pv
    cases o with
    |zero=>
     have Y:decide ((200:Int)<((201-0:Nat):Int))=true:=rfl
     obtain⟨UE,Z,T0⟩:=s.wr
     by_cases UA:w=0
     ·have U0:decide (w=0)=true:=by simp[UA]
      refine dw (ba U1) @U2 @Y (ba Z) @T0 @U0 ⟨?_⟩
      exact T4 _ _ _ ⟨aK,⟨22, .inr (.inr rfl),s.Ba T7 T3 UN (hA ..),(λe=>by cases e),λe=>e.2.elim⟩,T5,λf i g r=>by rw[aY T7 r];exact bo f i g⟩
     ·have U0:decide (w=0)=false:=by simp[UA]
      refine dw (ba U1) @U2 @Y (ba Z) @T0 @U0 ⟨?_⟩
      exact T4 _ _ _ ⟨aK,⟨w,UM,s,λe=>absurd e UA,λe=>e.2.elim⟩,T5,λf i g _=>bo f i g⟩
    |succ o=>
     have Y:decide ((200:Int)<((201-(o+1):Nat):Int))=false:=zJ
     have US:W X aO (.ptr b 8)=some ax:=by rw[T1.cZ _ _ Zo,b0,bf _ Ug.2.1, <-b0];exact dE
     have UL:=U9.len
     have Uh:=has.len
     have Up:=U9.many
     rw[Zn,Uh]at UL Up
     refine de (ba U1) @U2 @Y @US @UL ⟨?_⟩
     refine cQ (λm B E aj=>∃(n:Nat) (aM:Int),B.g 1=some (.ptr bt 0)/\B.g 2=some (.ptr bI 0)/\B.g 3=some (.ptr b9 0)/\B.g 12=some ax/\B.g 13=some (.Z (l.args.length:Int))/\B.g 14=some (.Z (n:Int))/\n+m=l.args.length
      /\hF aM/\he X bt bI b9 ((201-(o+1):Nat):Int) aM E/\(aM=0↔w=0/\∀a∈l.args.take n,ge o a)/\j<=aj/\∀f,f<j->f≠bt->f≠bI->J X E f=J X h f)
      l.args.length ⟨0,w,aK,aK,aK,aK,aK,cA,Zo,UM,s,Zs,T5,λf i g _=>bo f i g⟩ ?_
     rintro m B TY UP ⟨n,aM,T8,Uy,t3,UQ,UB,UC,V5,T6,t,G,U8,O⟩
     cases m with
     |zero=>
      have d:=zv n l.args.length
      rw[Zt Zo]at G
      refine cz @UC @UB @d ⟨?_⟩
      exact T4 _ _ _ ⟨an T8,⟨aM,T6,t,by rw[G];exact⟨λe=>⟨e.1,Un,e.2⟩,λe=>⟨e.1,e.2.2⟩⟩⟩,U8,O⟩
     |succ m=>
      have d:=zw n l.args.length
      have UX:=zz n
      obtain⟨a,C⟩:=zx l.args n
      obtain⟨V0,Us,Ue⟩:=has.get n a C
      have UO:∀f,P f->J X TY f=J X h f:=λf p=>O f (zu (z f p).1) (z f p).2.1 (z f p).2.2
      obtain⟨Uw,Ux,VD⟩:=(U9.T UO).one Us
      have Ud:=Zg C
      have Um:=t.look
      have UF:201-(o+1)=200-o:=Zo
      refine bs @UC @UB @UQ @t3 @d @Uw (Za @Ux @Um) ⟨?_⟩
      rw[UF]at t
      refine(V o Zo Zo a V0 TY UP aM Zo (bT.to UO (λ_ e=>e) _ _ Ue) (U6.arg Ud) T6 t).Zm ?_
      rintro N V2 VC ⟨rfl,⟨Uz,Ut,UH,Ui⟩,V8,Uk⟩
      rw[<-UF]at UH
      refine cn @UC @UX ⟨?_⟩
      refine⟨m,Zo,n+1,Uz,an T8,an Uy,an t3,an UQ,an UB,aK,Zo,Ut,UH, ?_,Zo,λf i g r=>by rw[Uk f Zo g r,O f i g r]⟩
      rw[Ui,G]
      constructor
      ·rintro⟨⟨UD,T9⟩,V1⟩
       exact⟨UD,hY C T9 V1⟩
      ·rintro⟨UD,T9⟩
       have Uo:a∈l.args.take (n+1):=by rw[ZG,C];exact ZQ _ Zs
       exact⟨⟨UD,λx Uu=>T9 x (by rw[ZG];exact Z2 _ Uu)⟩,T9 a Uo⟩
 ·rintro B TY UP ⟨T8,⟨aM,T6,t,G⟩,U8,O⟩
  obtain⟨UU,UZ,Ub⟩:=t.pv
  refine cP @T8 (ba UZ) @Ub @UW ⟨?_⟩
  exact⟨rfl,⟨aM,T6,t.xr T2 T3 UK (hA UU 0 _),G⟩,U8,λf i g r=>by rw[aY T2 g];exact O f i g r⟩
set_option maxRecDepth 100000 in
def Gg(g:dU X)(t:jQ X){l:bk}{v:y}(T0:(u X).aP<=j)(x:bT X h P l v)(i:∀a,P a->a<j)(G:hC l):
 aN X 45 [v] h j (λN E ar=>(∃w:Int,N= .Z w/\hF w/\(w=0↔ge 200 l))/\a1 X h j E ar) zG:=by
 refine zB g.todX (CE X) ?_
 rw[CF]
 unfold wh
 refine bl ⟨?_⟩
 generalize b:aS X _ (j+1+1) _=ay
 have m:J X ay j=zy [.Z 0] 1:=by rw[<-b];simp(disch:=omega) only[aY,bb];rfl
 have n:J X ay (j+1)=zy [.Z 0] 1:=by rw[<-b];simp(disch:=omega) only[aY,bb];rfl
 have d:W X ay (.ptr (j+1+1) 0)=some (.func (.func 74) [] [.ptr (j+1) 0, .ptr j 0, .ptr (j+1+1) 0]):=by rw[<-b,jv Zo];rfl
 have f:a1 X h j ay (j+1+1+1):=by rw[<-b];exact dG
 clear b
 refine bG @d ⟨?_⟩
 refine(HR (P:=P) (gM:=j+1+1+1) g t (bt:=j+1) (bI:=j) (b9:=j+1+1) Zo Zo Zo Zo Zo Zo Zo Zo Zo (λa c=>by have:=i a c;exact⟨Zo,Zo,Zo⟩) 200 Zo l v ay (j+1+1+1) 0 Zo (bT.to (λa c=>f.T a (i a c)) (λ_ e=>e) _ _ x) G (.inl rfl) ⟨⟨_,n,rfl⟩,⟨_,m,rfl⟩,d⟩).Zm ?_
 rintro N aO aR ⟨rfl,⟨aM,O,s,z⟩,Z,C⟩
 obtain⟨Y,p,r⟩:=s.wr
 refine cn (ba p) @r ⟨?_⟩
 exact⟨⟨aM,rfl,O,by rw[z];exact⟨λe=>e.2,λe=>⟨rfl,e⟩⟩⟩,Zo,λa c=>by rw[C a Zo Zo Zo];exact f.T a c⟩
def HC(c:dU X){b:Nat}{ax:y}{a:List aW}(M:ci X h P b ax 1 (dt a))(T1:∀w∈a,w∈d8):
 aN X 46 [ax, .func (.func 44) [] []] h j (λN E ar=>(∃p:Bool,N= .bool p/\(p=false↔∀w∈a,c7 w=true))/\E=h/\ar=j) zG:=by
 refine zB c.todX (CG X) ?_
 rw[CH]
 unfold wi
 refine aN.mono (R:=λN E ar=>(∃z:Int,N= .Z z/\(z<0↔∀w∈a,c7 w=true))/\E=h/\ar=j) (af:=λ_ _ _=>False) ?_ ?_ (λ_ _ _ e=>e.elim)
 ·refine zB c.todX (De X) ?_
  rw[Df]
  unfold wB
  have t:=M.len
  have T0:=M.many
  rw[show(dt a).length=a.length from by simp[dt]]at t T0
  refine bG @t ⟨?_⟩
  refine cQ (λm B E aj=>∃(H:Nat),B.g 0=some ax/\B.g 1=some (.func (.func 44) [] [])/\B.g 7=some (.Z (a.length:Int))/\B.g 8=some (.Z (H:Int))/\H+m=a.length/\E=h/\aj=j/\∀x∈a.take H,c7 x=true)
   a.length ⟨0,aK,aK,aK,cA,Zo,rfl,rfl,Zs⟩ ?_
  rintro m B aO aR ⟨H,t0,O,i,n,T2,rfl,rfl,f⟩
  cases m with
  |zero=>
   have d:=zv H a.length
   rw[Zt Zo]at f
   refine cz @n @i @d ⟨?_⟩
   exact⟨⟨-1,rfl,λ_=>f,λ_=>Zd⟩,rfl,rfl⟩
  |succ m=>
   have d:=zw H a.length
   have Y:=zz H
   obtain⟨w,g⟩:=zx a H
   have C:=Zg g
   have s:=M.cT H (by simp[dt];omega)
   have r:=M.cell H [.str w] 0 (.str w) (by unfold dt;rw[Zw,g];rfl) rfl
   rw[ZV]at s
   rw[ZV,ZH]at r
   refine bs @n @i @O @t0 @d @s @r ⟨?_⟩
   change aN X 44 [.str w] _ _ _ _
   refine zB c.todX (CC X) ?_
   rw[CD]
   unfold wg
   refine p9 c (T1 w C) ?_
   cases v:c7 w with
   |true=>
    refine cn @n @Y ⟨?_⟩
    exact⟨m,Zo,H+1,an t0,an O,an i,aK,Zo,rfl,rfl,hY g f v⟩
   |false=>
    refine bl ⟨?_⟩
    exact⟨⟨(H:Int),rfl,λe=>Zo,λe=>by have:=e w C;rw[v]at this;cases this⟩,rfl,rfl⟩
 ·rintro N ay aL ⟨⟨z,rfl,G⟩,rfl,rfl⟩
  by_cases e:0<=z
  ·have d:decide ((0:Int)<=z)=true:=by simp only[Zc];exact e
   refine bG @d ⟨?_⟩
   exact⟨⟨true,rfl,(λe=>by cases e),λZ=>zu (G.2 Z)⟩,rfl,rfl⟩
  ·have d:decide ((0:Int)<=z)=false:=by simp only[Zb];exact e
   refine bG @d ⟨?_⟩
   exact⟨⟨false,rfl,λ_=>G.1 Zo,λ_=>rfl⟩,rfl,rfl⟩
end
section
variable{X:bU}{h E cH ay aO:I ae}{j ar aL aR bz:Nat}{bp d2 P:Nat->Prop}
def uM(b:Nat):ce X h .eql 23 true (.ptr b 0) .bC=some .zF:=Zk
def A4{w:Int}(e:hF w)(a:w≠0)(b:w≠1):w=22:=by rcases e with e|e|e<;>omega
set_option maxRecDepth 100000 in
def H7(t:dU X)(Us:jQ X){g:Go.a8.Node}{row:List y}(Ux:(u X).aP<=j)(Uu:fT X h P (bT X h P) g row)(v:∀a,P a->a<j)(T6:vp g)(V7:g.cl.length<=1000/\g.out.length<=1000/\g.loc.length<=1000/\g.eqs.length<=1000):
 aN X 23 [.agg row] h j (λN E ar=>(∃w:Int,N= .Z w/\hF w/\(w=0↔hE g))/\a1 X h j E ar) zG:=by
 refine zB t.todX (Ck X) ?_
 rw[Cl]
 unfold vZ
 obtain⟨bA,bB,ax,UK,b2,be,b6,c4,rows,rfl,U6,U7,U8,T5,Ua⟩:=Uu
 have UG:=U6.len
 have G:=U7.len
 have UH:=U8.len
 have Ug:=Ua.wide
 have UI:=T5.len
 have Uw:=T5.many
 rw[Zn]at UG G UH
 rw[Ug.1]at UI Uw
 obtain⟨VN,VO,VP,VQ⟩:=V7
 have T0:ah .add (.Z (g.cl.length:Int)) (.Z (g.out.length:Int))=some (.Z ((g.cl.length+g.out.length:Nat):Int)):=by rw[cx Zo Zo];simp
 have Uo:ah .add (.Z ((g.cl.length+g.out.length:Nat):Int)) (.Z (g.loc.length:Int))=some (.Z ((g.cl.length+g.out.length+g.loc.length:Nat):Int)):=by rw[cx Zo Zo];simp
 have bad:∀E aj,¬hE g->a1 X h j E aj->(∃w:Int,y.Z 1= .Z w/\hF w/\(w=0↔hE g))/\a1 X h j E aj:=λE aj ab Ur=>⟨⟨1,rfl, .inr (.inl rfl),(λe=>by cases e),λe=>absurd e ab⟩,Ur⟩
 refine l8 ?_
 generalize U4:aS X h j _=ay
 have z:J X ay j=zy [.str g.name, .Z g.at_,bA,bB,ax,UK] 6:=by rw[<-U4,bb Ux];rfl
 have T2:a1 X h j ay (j+1):=by rw[<-U4];exact dG
 clear U4
 refine c6 (ba z) @UG (Za @G (Za @UH (Za @T0 @Uo))) ⟨?_⟩
 refine p9 t T6.nm ?_
 cases Ub:c7 g.name with
 |false=>
  refine bl ⟨?_⟩
  exact bad _ _ (λe=>by have:=e.nm;rw[Ub]at this;cases this) T2
 |true=>
  by_cases T8:g.out=[]
  ·have Z:decide ((g.out.length:Int)=0)=true:=by simp[T8]
   refine cz (ba z) @G @Z ⟨?_⟩
   exact bad _ _ (λe=>e.out T8) T2
  have VL:0<g.out.length:=Z6.2 T8
  have Z:decide ((g.out.length:Int)=0)=false:=zJ
  by_cases Ud:g.cl.length+g.out.length+g.loc.length<=256
  case neg=>
   have U1:decide ((256:Int)<((g.cl.length+g.out.length+g.loc.length:Nat):Int))=true:=zK
   refine cP (ba z) @G @Z @U1 ⟨?_⟩
   exact bad _ _ (λe=>Ud e.vars) T2
  have U1:decide ((256:Int)<((g.cl.length+g.out.length+g.loc.length:Nat):Int))=false:=zJ
  have Un:decide ((4096:Int)<(g.eqs.length:Int))=false:=zJ
  have V5:dC 3 [.az, .az, .az] [(0,1,bA),(1,1,bB),(2,1,ax)] (j+1)=some (.slice (j+1) 0 3 3, .cells (I.ofList [bA,bB,ax] 0 .nil) 3 .own):=by
   have UP:=(fg U6.len).1
   have UQ:=(fg U7.len).1
   have Um:=(fg U8.len).1
   simp[dC,gH,gI,e5,UP,UQ,Um]
  refine c6 (ba z) @UG (Za @G (Za @UH (Za @UI (Za @Z (Za @U1 @Un))))) ⟨?_⟩
  refine cD V5 ?_
  refine ho ⟨?_⟩
  generalize T4:aS X ay (j+1) _=r
  have Up:J X r (j+1)=zy [bA,bB,ax] 3:=by rw[<-T4,bb Zo]
  have US:a1 X h j r (j+1+1):=⟨Zo,λa f=>by rw[<-T4];simp(disch:=omega) only[aY];exact T2.T a f⟩
  have UR:J X r j=zy [.str g.name, .Z g.at_,bA,bB,ax,UK] 6:=by rw[<-T4];simp(disch:=omega) only[aY];exact z
  clear T4
  have UF:∀a,P a->J X r a=J X h a:=λa f=>US.T a (v a f)
  refine(EO (j:=j+1+1) (h:=r) t.todX Zo Zo Up (U6.T UF) (U7.T UF) (U8.T UF) (λa f=>zu (v a f)) Zo Zo).Zm ?_
  rintro N Uk VB ⟨UO,V2,UU⟩
  have VG:=UU.le
  refine ho ⟨?_⟩
  refine(EU (j:=VB) (h:=Uk) t Zo V2 (λa f=>f.2) T6.decl).Zm ?_
  rintro N UN Uh ⟨⟨UO,rfl,UY⟩,UV⟩
  have VH:=UV.le
  have UT:a1 X r (j+1+1) UN Uh:=UU.trans UV
  have UX:a1 X h j UN Uh:=US.trans UT
  rw[<-UT.T _ Zo]at UR
  cases UO with
  |false=>
   refine bl ⟨?_⟩
   exact bad _ _ (λe=>by have:=UY.2 e.decl;cases this) UX
  |true=>
   have Ut:=UY.1 rfl
   refine cn (ba UR) @UI ⟨?_⟩
   refine cQ (λm B E aj=>∃(H:Nat) (w:Int),B.g 4=some (.Z w)/\B.g 53=some UK/\B.g 54=some (.Z (g.eqs.length:Int))/\B.g 55=some (.Z (H:Int))/\H+m=g.eqs.length/\hF w/\(w=0↔∀L∈g.eqs.take H,jM L)/\a1 X h j E aj)
    g.eqs.length ⟨0,0,aK,aK,aK,cA,Zo, .inl rfl,Zs,UX⟩ ?_
   rintro m B Ul O ⟨H,w,t4,UL,T9,TY,VF,Uf,U9,T3⟩
   have VI:=T3.le
   cases m with
   |zero=>
    have d:=zv H g.eqs.length
    rw[Zt Zo]at U9
    refine cP @TY @T9 @t4 @d ⟨?_⟩
    exact⟨⟨w,rfl,Uf,by rw[U9];exact⟨λe=>⟨Ub,T8,Ud,Zo,Ut,e⟩,λe=>e.eqs⟩⟩,T3⟩
   |succ m=>
    have d:=zw H g.eqs.length
    have T0:=zz H
    obtain⟨L,UB⟩:=zx g.eqs H
    have UE:=Zg UB
    obtain⟨row,V3,V1⟩:=Ua.get H L UB
    have V8:∀a,P a->J X Ul a=J X h a:=λa f=>T3.T a (v a f)
    have Uv:=T5.cT H (by rw[Ug.1];omega)
    have V4:=(T5.T V8).row Zd V3
    obtain⟨VD,VC,UP,UQ,dB,rfl,Uc,VM,Uz,V0⟩:=V1
    have UD:=Uc.len
    rw[show(dt L.left).length=L.left.length from by simp[dt]]at UD
    refine dw @TY @T9 @UL @d @Uv @V4 ⟨?_⟩
    refine cD (e8 (o:=4) (b:=O) (D:=0) (n:=4) (c:=I.ofList [.az, .az, .Z 0, .bC] 0 .nil) (bb Zo) Zo rfl Zd Zd V0) ?_
    generalize U5:aS X _ O _=Y
    have T1:J X Y O=zy [VD,VC, .Z L.at_,dB] 4:=by rw[<-U5,bb Zo];rfl
    have UW:a1 X h j Y (O+1):=⟨Zo,λa f=>by rw[<-U5];simp(disch:=omega) only[aY];exact T3.T a f⟩
    clear U5
    have V9:∀a,P a->J X Y a=J X h a:=λa f=>UW.T a (v a f)
    refine bG (ba T1) ⟨?_⟩
    refine(Gg (P:=P) (j:=O+1) (h:=Y) t Us Zo (bT.to V9 (λ_ e=>e) _ _ Uz) (λa f=>zu (v a f)) (T6.ex L UE)).Zm ?_
    rintro N U0 Ui ⟨⟨p,rfl,V6,UA⟩,U3⟩
    have VJ:=U3.le
    rw[<-U3.T _ Zo]at T1
    have s:a1 X h j U0 Ui:=UW.trans U3
    have VA:∀a,P a->J X U0 a=J X h a:=λa f=>s.T a (v a f)
    have UJ:¬jM L->¬hE g:=λe Uq=>e (Uq.eqs L UE)
    by_cases T7:L.left=[]
    ·have U2:decide ((L.left.length:Int)=0)=true:=by simp[T7]
     refine cz (ba T1) @UD @U2 ⟨?_⟩
     exact bad _ _ (UJ λe=>e.ne T7) s
    have VK:0<L.left.length:=Z6.2 T7
    have U2:decide ((L.left.length:Int)=0)=false:=zJ
    refine cz (ba T1) @UD @U2 ⟨?_⟩
    refine(HC (j:=Ui) (h:=U0) t (Uc.T VA) (T6.left L UE)).Zm ?_
    rintro N VE VR ⟨⟨aJ,rfl,UZ⟩,rfl,rfl⟩
    cases aJ with
    |true=>
     refine bl ⟨?_⟩
     exact bad _ _ (UJ λe=>by have:=UZ.2 e.nm;cases this) s
    |false=>
     have Uy:=UZ.1 rfl
     by_cases Ue:p=1
     ·have TZ:decide (p=1)=true:=by simp[Ue]
      refine bG @TZ ⟨?_⟩
      exact bad _ _ (UJ λe=>zu (UA.2 e.ex)) s
     have TZ:decide (p=1)=false:=by simp[Ue]
     have Uj:g.eqs.take (H+1)=g.eqs.take H++[L]:=by rw[ZG,UB];rfl
     by_cases C:p=0
     ·have UM:decide (p≠0)=false:=by simp[C]
      have UC:jM L:=⟨T7,Uy,UA.1 C⟩
      refine cP @TZ @UM @TY @T0 ⟨?_⟩
      refine⟨m,Zo,H+1,w,an t4,an UL,an T9,aK,Zo,Uf, ?_,s⟩
      rw[U9,Uj]
      exact⟨λe x i=>by
       rcases Zr.1 i with i|i
       ·exact e x i
       ·rw[ZF.1 i];exact UC,λe x i=>e x (Z2 _ i)⟩
     ·have UM:decide (p≠0)=true:=by simp[C]
      have UC:¬jM L:=λe=>C (UA.2 e.ex)
      refine cP @TZ @UM @TY @T0 ⟨?_⟩
      refine⟨m,Zo,H+1,p,aK,an UL,an T9,aK,Zo,V6, ?_,s⟩
      rw[Uj]
      exact⟨λe=>absurd e C,λe=>absurd (e L (ZQ _ (ZF.2 rfl))) UC⟩
set_option maxRecDepth 100000 in
def Ge(U4:dU X)(UG:jQ X){U:List Go.a8.Node}{v:y}(UU:(u X).aP<=j)(UH:gf X h P U v)(C:∀a,P a->a<j)(U5:∀g∈U,hB g)(UT:U.length<=1000):
 aN X 7 [v] h j (λN E ar=>(∃w:Int,N= .Z w/\hF w/\(w=0↔hd U))/\a1 X h j E ar) zG:=by
 refine zB U4.todX (Dm X) ?_
 rw[Dn]
 unfold wx
 obtain⟨b,ax,bO,rows,rfl,ab,a0,TY,U6⟩:=id UH
 have U9:=U6.wide
 have G:=TY.len
 rw[U9.1]at G
 have UQ:=C b ab
 have bad:∀E aj,¬hd U->a1 X h j E aj->(∃w:Int,y.Z 1= .Z w/\hF w/\(w=0↔hd U))/\a1 X h j E aj:=λE aj ab UE=>⟨⟨1,rfl, .inr (.inl rfl),(λe=>by cases e),λe=>absurd e ab⟩,UE⟩
 by_cases t:U=[]
 ·have s:decide ((U.length:Int)=0)=true:=by simp[t]
  refine cP @uM @a0 @G @s ⟨?_⟩
  exact bad _ _ (λe=>e.ne t) (a1.refl _ _)
 have UV:0<U.length:=Z6.2 t
 have s:decide ((U.length:Int)=0)=false:=zJ
 by_cases U2:U.length<=64
 case neg=>
  have T1:decide ((64:Int)<(U.length:Int))=true:=zK
  refine de @uM @a0 @G @s @T1 ⟨?_⟩
  exact bad _ _ (λe=>U2 e.many) (a1.refl _ _)
 have T1:decide ((64:Int)<(U.length:Int))=false:=zJ
 refine de @uM @a0 @G @s @T1 ⟨?_⟩
 refine cQ (λm B E aj=>∃(H:Nat) (w:Int),B.g 3=some (.Z w)/\B.g 28=some ax/\B.g 29=some (.Z (U.length:Int))/\B.g 30=some (.Z (H:Int))/\H+m=U.length/\hF w/\(w=0↔∀g∈U.take H,hE g)/\a1 X h j E aj)
  U.length ⟨0,0,aK,aK,aK,cA,Zo, .inl rfl,Zs,a1.refl _ _⟩ ?_
 rintro m B ay aL ⟨H,w,t3,TZ,Y,Z,UR,U7,T6,z⟩
 have US:=z.le
 cases m with
 |zero=>
  have d:=zv H U.length
  rw[Zt Zo]at T6
  refine cP @Z @Y @t3 @d ⟨?_⟩
  exact⟨⟨w,rfl,U7,by rw[T6];exact⟨λe=>⟨t,U2,e⟩,λe=>e.node⟩⟩,z⟩
 |succ m=>
  have d:=zw H U.length
  have U1:=zz H
  obtain⟨g,T4⟩:=zx U H
  have T5:=Zg T4
  obtain⟨row,UK,T8⟩:=U6.get H g T4
  have UM:∀a,P a->J X ay a=J X h a:=λa i=>z.T a (C a i)
  have UI:=TY.cT H (by rw[U9.1];omega)
  have UL:=(TY.T UM).row Zd UK
  have e2:=T8.cR
  have UJ:=T8
  obtain⟨bA,bB,UO,UN,b2,be,b6,c4,UX,rfl,_⟩:=T8
  refine dw @Z @Y @TZ @d @UI @UL ⟨?_⟩
  refine cD (e8 (o:=6) (b:=aL) (D:=0) (n:=6) (c:=I.ofList [.str [], .Z 0, .az, .az, .az, .az] 0 .nil) (bb Zo) Zo rfl Zd Zd e2) ?_
  generalize T3:aS X _ aL _=aO
  have UC:J X aO aL=zy [.str g.name, .Z g.at_,bA,bB,UO,UN] 6:=by rw[<-T3,bb Zo];rfl
  have U3:a1 X h j aO (aL+1):=⟨Zo,λa i=>by rw[<-T3];simp(disch:=omega) only[aY];exact z.T a i⟩
  clear T3
  have UA:∀a,P a->J X aO a=J X h a:=λa i=>U3.T a (C a i)
  refine bG (ba UC) ⟨?_⟩
  refine(H7 (P:=P) (j:=aL+1) (h:=aO) U4 UG Zo (UJ.to UA (λ_ e=>e) (λL _ v e=>bT.to UA (λ_ e=>e) _ _ e)) (λa i=>zu (C a i)) (U5 g T5).g6 (U5 g T5).ap).Zm ?_
  rintro N UP UW ⟨⟨p,rfl,U8,T7⟩,UF⟩
  have T2:=U3.trans UF
  by_cases O:p=1
  ·have T0:decide (p=1)=true:=by simp[O]
   refine bG @T0 ⟨?_⟩
   subst O
   exact bad _ _ (λe=>by have:=T7.2 (e.node g T5);cases this) T2
  have T0:decide (p=1)=false:=by simp[O]
  have UB:U.take (H+1)=U.take H++[g]:=by rw[ZG,T4];rfl
  by_cases r:p=0
  ·have U0:decide (p=22)=false:=by simp[r]
   have T9:hE g:=T7.1 r
   refine cP @T0 @U0 @Z @U1 ⟨?_⟩
   refine⟨m,Zo,H+1,w,an t3,an TZ,an Y,aK,Zo,U7, ?_,T2⟩
   rw[T6,UB]
   exact⟨λe x f=>by
    rcases Zr.1 f with f|f
    ·exact e x f
    ·rw[ZF.1 f];exact T9,λe x f=>e x (Z2 _ f)⟩
  ·have UD:=A4 U8 r O
   have U0:decide (p=22)=true:=by simp[UD]
   have T9:¬hE g:=λe=>r (T7.2 e)
   refine cP @T0 @U0 @Z @U1 ⟨?_⟩
   refine⟨m,Zo,H+1,p,aK,an TZ,an Y,aK,Zo,U8, ?_,T2⟩
   rw[UB]
   exact⟨λe=>absurd e r,λe=>absurd (e g (ZQ _ (ZF.2 rfl))) T9⟩
end
end
end Go.Proofs.YtmipngjbcdamjaaGreatDoor

